import PyProof.Rows.All
import Wide.All
import OpenK.AllK
import Wide.FinOn
import HandS.ForMost
import HandS.SetFor
import HandS.Strs
import KE.DataMinMax
import KE.GoesMore
import PyProof.EnumMake
import HandS.TupMul
import HandS.TupAny
import HandS.Dict
import KE.KDictPairs
import HandS.SortOrd
import HandS.Wide
import HandS.WideBits
import HandS.IsInst
import HandS.Conv
import HandS.Walk
import HandS.Deep
import HandS.Style
import HandS.HeadHook2
import HandS.HeadEnd
import HandS.Head2
import HandS.NoneIn
import HandS.SortInts
import HandS.Replace
import HandS.Small
import HandS.HeadHook3
import PySem.Challenge.RW_ftqc_k02_products_and_strings
set_option Elab.async false
set_option linter.all false
set_option maxRecDepth 100000
set_option maxHeartbeats 4000000
namespace Z
open PySem PySem.Spec PyProof.Rows L2
/-! ### set(a list of ints) -/
abbrev eSet (w : World) : Obj := ⟨.type "set", none, .set #[] 0 (.fresh 0 0 (!w.params.followText "set-order")), #[]⟩
abbrev hpS (w : World) (g : Heap) : Heap := g.push (eSet w)
section
variable {P : Program} {w : World} {A : Around} {E : Value → Shared → Prop} {s : Shared}
/-- what the set's making leaves -/
def Made (w : World) (s : Shared) (ns : List Int) (r : Value) (t : Shared) : Prop :=
  r = .none ∧ ∃ (g : Heap) (k c : Nat), t = { s with heap := g, toks := k } ∧ c ≤ ns.length ∧
    SetR w g s.heap.objs.size (fun j => decide (j ∈ ns)) c ∧ ∀ b o, s.heap.get? b = some o → g.get? b = some o
set_option maxHeartbeats 8000000 in
theorem set_ints {l : Addr} {its : Array Value} (ns : List Int) {Q : Value → Shared → Prop} (hd : A.handled = none) (hl : s.heap.IsList l its) (hi : IntsAre its.toList ns) (hb : ns.length + 1 < scanBound)
    (k : ∀ (g : Heap) (tk c : Nat), SetR w g s.heap.objs.size (fun j => decide (j ∈ ns)) c → c ≤ ns.length → (∀ b o, s.heap.get? b = some o → g.get? b = some o) → Q (.ref s.heap.objs.size) { s with heap := g, toks := tk }) :
    wpAny (model P w) A (call (.type "set") [.ref l]) Q E s := by
  have isz : its.size = ns.length := (Array.length_toList (xs := its)).symm.trans hi.length
  have cs := F.called_set
  obtain ⟨c0, t0, m0⟩ := cs.mro
  have m1 := cs.made; have m2 := cs.sub
  have m3 := cs.notType; have m4 := cs.canCreate
  refine wpAny_call (codeAny_of_tree (show wpAny _ _ (callAny (.type "set") _) _ _ _ from ?_))
  refine wpAny_pure (And.intro (Code.quiet_builtin _ (by decide +kernel)) (codeAny_builtin F.entry_type_call ?_))
  have m5 := F.typeCall_set_1 (.ref l)
  rw [Around.under_plain (weight_type_call_type "set" ([.ref l] : List Value) []) rfl]
  repeat (any_goals (first | assumption | wp_step))
  refine codeAny_mono (code_set_led1 (.ref l) (E := E) (Q₁ := fun o t => o = .ref s.heap.objs.size ∧ t = { s with heap := hpS w s.heap }) ⟨rfl, rfl⟩) fun r1 t1 q1 => ?_
  rcases r1 with e | (_ | _ | _ | o)
  · exact q1
  · exact q1.elim
  · exact q1.elim
  · exact q1.elim
  obtain ⟨rfl, rfl⟩ := q1
  have oS : (hpS w s.heap).get? s.heap.objs.size = some (eSet w) := Heap.get?_push_size _ rfl
  have tS : Shared.TypeIs { s with heap := hpS w s.heap } (.ref s.heap.objs.size) "set" := ⟨_, oS, rfl⟩
  have m6 := cs.init.lookup; have m7 := cs.init.bind (.ref s.heap.objs.size)
  repeat (any_goals (first | assumption | wp_step))
  refine codeAny_mono (codeAny_call_builtin (R := wants (Made w s ns) E) cs.init.plain F.entry_set_init (check_set_init_1 tS ?_)) fun r2 t2 q2 => ?_
  · obtain ⟨⟨oc, od, dt, os⟩, ho, hc, n0, hdt⟩ := hl
    simp only at hc hdt
    subst hc; subst hdt
    have ho2 : (hpS w s.heap).get? l = some ⟨.type "list", od, .seq its n0, os⟩ := Heap.get?_push_of_some _ ho
    have m8 := F.sub_list_set; have m9 := F.sub_list_frozenset
    have m10 : (Value.type "list" == .type "dict") = false := by decide
    have hl2 : (hpS w s.heap).IsList l its := ⟨_, ho2, rfl, n0, rfl⟩
    unfold Builtin.«set.__init__» Builtin.Frozenset.updateFrom noKeywords
    generalize eIt : pyIter = it0
    wp_walk
    subst eIt
    refine wpAny_pyIter_list hl2 (wpAny_bind (wpAny_runValue ?_))
    have lt0 : l < s.heap.objs.size := Heap.lt_size ho
    have sz : (hpS w s.heap).objs.size = s.heap.objs.size + 1 := Heap.size_push ..
    have hd3 : A.in1.in1.in1.handled = none := by simp [hd]
    have ne1 : l ≠ (hpS w s.heap).objs.size := Nat.ne_of_lt (sz ▸ Nat.lt_succ_of_lt lt0)
    have ne2 : s.heap.objs.size ∉ [(hpS w s.heap).objs.size, l] := by
      simp only [sz, List.mem_cons, List.not_mem_nil, or_false, not_or]
      exact ⟨Nat.ne_of_lt (Nat.lt_succ_self _), Nat.ne_of_gt lt0⟩
    have val : ∀ (i : Nat) (v : Value), its[i]? = some v → ∃ k t, ns[i]? = some k ∧ v = .int k t := fun i v hv => by
      have lt1 : i < ns.length := isz ▸ (Array.getElem?_eq_some_iff.mp hv).1
      obtain ⟨t, e⟩ := hi.int_at i v (by rw [Array.getElem?_toList, hv])
      exact ⟨_, t, List.getElem?_eq_getElem lt1, by rw [e, List.getD_eq_getElem?_getD, List.getElem?_eq_getElem lt1]; rfl⟩
    refine set_update_ints (Walks.list hd3 _ l ne1 its).toS s.heap.objs.size ne2 ns isz hb val (its.size - 0) 0 _ (by omega) (Nat.zero_le _)
      ⟨⟨_, Heap.get?_push_size _ rfl, rfl, rfl⟩, hl2.push _⟩ ⟨0, Nat.le_refl 0, setR_new_at (Heap.get?_push_of_some _ oS)⟩ fun t c mv cl hS => ?_
    obtain ⟨g, gg, dr, tk, osT⟩ := t
    obtain rfl : gg = s.gens := mv.gens
    obtain rfl : dr = s.drawn := mv.drawn
    obtain rfl : osT = s.os := mv.os
    refine wpAny_pure (show wpAny _ _ (ret Value.none) _ _ _ from wpAny_pure ⟨rfl, g, tk, c, rfl, isz ▸ cl, hS, fun b o e => ?_⟩)
    have ltb : b < s.heap.objs.size := Heap.lt_size e
    refine mv.heap b o ?_ (Heap.get?_push_of_some _ (Heap.get?_push_of_some _ e))
    simp only [List.mem_cons, List.not_mem_nil, or_false, not_or, sz]
    exact ⟨Nat.ne_of_lt ltb, Nat.ne_of_lt (Nat.lt_succ_of_lt ltb)⟩
  · rcases r2 with e | (_ | _ | _ | v)
    · exact q2
    · exact q2.elim
    · exact q2.elim
    · exact q2.elim
    obtain ⟨rfl, g, tk, c, rfl, z1, z2, z3⟩ := q2
    repeat (any_goals (first | assumption | wp_step))
    exact k g tk c z2 z1 z3
end
end Z
namespace Z
open PySem PySem.Spec PyProof.Rows L2
section
variable {X : Cx}
/-- .. by values: some set of as many ints as there are unlike ones -/
def rSetI (K : PySem.W.Frag) (w : World) : List V → Hp → VK → Prop := fun vs H Q => ∃ (l : Addr) (ns : List Int), vs = [.ref l] ∧ SqL K H l (ns.map V.int) ∧ ns.length < 4000 ∧
  ∀ (a : Addr) (c : Nat) (L : List Int), H a = none → L.Nodup → (∀ k, k ∈ L ↔ k ∈ ns) → L.length = c → Q (.ref a) (upd H a (SetO w a (fun j => decide (j ∈ ns)) c))
theorem cr_setI (hc : X.calm = true) : CallR X (.type "set") (rSetI X.K X.w) := by
  intro pins s σ H vs us Q I r h
  obtain ⟨l, ns, rfl, hq, hl, q⟩ := h
  rw [Vals.ref1 r]
  obtain ⟨its, rv, pl, hz⟩ := I.list hq
  refine set_ints ns (I.ok.hd hc) pl.isList (by simpa using rv.ints) (by unfold scanBound; omega) fun g tk c R _ k => ?_
  have R2 := R
  obtain ⟨o, es, ep, t, ho, _, _, _, nd, hm, _, _, hn, _⟩ := R
  refine ⟨.ref s.heap.objs.size, upd H s.heap.objs.size (SetO X.w s.heap.objs.size (fun j => decide (j ∈ ns)) c), I.laid (t' := tk) k (Nat.le_refl _) (setO_new R2), rfl, q _ c (es.toList.map keyOf) (I.hok.fresh (Nat.le_refl _)) nd (fun k => ?_) ?_⟩
  · rw [← hm k, decide_eq_true_eq]
  · rw [List.length_map, Array.length_toList, hn]
/-- max(a tuple of ints) -/
def rMaxT (K : PySem.W.Frag) : List V → Hp → VK → Prop := fun vs H Q => ∃ (a : Addr) (n : Int) (ns : List Int), vs = [.ref a] ∧ SqT K H a ((n :: ns).map V.int) ∧ Q (.int (ns.foldl max n)) H
theorem reads_ints {h : Heap} : ∀ {us : List Value} {ns : List Int}, IntsAre us ns → ReadsAll h us (ns.map .int) []
  | _, _, .nil => .nil
  | _, _, .cons n t r => ReadsAll.cons (as := []) (bs := []) (.int n t) (reads_ints r)
theorem depth_ints : ∀ ns : List Int, PyData.depthAll (ns.map .int) = 0
  | [] => rfl
  | n :: ns => by simp only [List.map_cons, PyData.depthAll, PyData.depth, depth_ints ns]; rfl
theorem cr_maxT (hc : X.calm = true) (hu : X.A.units + 10 < cLine) : CallR X (.builtin "max") (rMaxT X.K) := by
  intro pins s σ H vs us Q I r h
  obtain ⟨a, n, ns, rfl, hq, q⟩ := h
  rw [Vals.ref1 r]
  obtain ⟨its, rv, pl, hz⟩ := I.tuple hq
  have hi : IntsAre its.toArray.toList (n :: ns) := by simpa using rv.ints
  refine PySem.W.max_tuple_data (I.ok.hd hc) pl (reads_ints hi) ⟨fun x hx y hy => ?_, fun x hx => ?_⟩ (by have := depth_ints (n :: ns); rw [List.map_cons] at this; rw [this]; omega) fun i v g tk bs _ hr hk => ?_
  · rw [← List.map_cons] at hx hy
    obtain ⟨x, _, rfl⟩ := List.mem_map.mp hx
    obtain ⟨y, _, rfl⟩ := List.mem_map.mp hy
    rfl
  · rw [← List.map_cons] at hx
    obtain ⟨x, _, rfl⟩ := List.mem_map.mp hx
    intro z; cases z
  · rw [PySem.W.maxD_ints] at hr
    cases hr
    exact ⟨.int _, H, I.kept hk, ⟨_, rfl⟩, q⟩
/-- xs.extend(a tuple) -/
def rExtT (K : PySem.W.Frag) : V → List V → Hp → VK → Prop := fun x vs H Q => ∃ (l b : Addr) (xs zs : List V), x = .ref l ∧ vs = [.ref b] ∧ H l = some (.lst xs) ∧ SqT K H b zs ∧ xs.length + zs.length ≤ sizeLine ∧ Q .non (upd H l (.lst (xs ++ zs)))
theorem ext_tup (l : Addr) (xs : Array Value) (n : Nat) (b : Addr) (ys : Array Value) (m : Nat) (od : Option Addr) (os : Array (Option Value)) (h1 : ¬(!xs.isEmpty && Builtin.List.listTooLong (xs.size + ys.size)) = true) (h2 : xs.size ≤ sizeLine) (h3 : xs.size + ys.size ≤ sizeLine + 1) :
    Meets (Builtin.«list.extend» ⟨[.ref l, .ref b], []⟩) (fun _ R s => s.heap.get? l = some ⟨.type "list", none, .seq xs n, #[]⟩ ∧ s.heap.get? b = some ⟨.type "tuple", od, .seq ys m, os⟩ ∧
      R (.ok (.ret .none)) { s with heap := s.heap.update l (Obj.mapSeq fun x => x ++ ys), toks := s.toks }) :=
  .of_wp fun prog w A R s h => by
    obtain ⟨g, gg, dr, tk, osT⟩ := s
    obtain ⟨hl, hb, h⟩ := h
    have f1 := AutoSeq1.idx_int; have f2 := AutoSeq1.sub_tuple_tuple; have f3 := AutoSeq1.sub_list_list
    have f4 := AutoSeq1.sub_tuple_list; have f5 := AutoSeq1.sub_list_tuple
    have h3' : (xs ++ ys).size ≤ sizeLine + 1 := by rw [Array.size_append]; exact h3
    wp_walk using (wpAny_updateSeq hl rfl (hz := h2) (_hz' := h3')), AutoSeq1.wpAny_loadPart' hl, AutoSeq1.wpAny_loadPart' hb
    exact ⟨_, rfl, h⟩
theorem mt_extT : MtM X "list.extend" (rExtT X.K) := by
  intro pins s σ H x vs v us Q I rx rv h
  obtain ⟨l, b, xs, zs, rfl, rfl, hH, hB, hz, q⟩ := h
  cases rx
  obtain ⟨u, rfl, ru⟩ := rv.one
  cases ru
  obtain ⟨z, its, n, r, hl, e⟩ := I.lstM hH
  obtain ⟨its2, r2, ⟨⟨oc, od, dt, os⟩, e2, hc2, m, hd2⟩, hl2⟩ := I.tuple hB
  simp only at hc2 hd2
  subst hc2; subst hd2
  have k2 := r2.length
  have sz : its.toArray.size + its2.toArray.size ≤ sizeLine := by rw [List.size_toArray, List.size_toArray]; omega
  refine call_meets F.slot_list_extend ⟨_, e, rfl⟩ F.entry_list_extend (F.args_list_extend_2 _ _)
    (ext_tup l its.toArray n b its2.toArray m od os (by rw [notLongL sz, Bool.and_false]; exact Bool.false_ne_true) (by rw [List.size_toArray]; omega) (by omega)) ⟨e, e2, ?_⟩
  refine ⟨.non, _, I.lset (its' := its ++ its2) hH e (by simp) (r.append r2) ?_, rfl, q⟩
  rw [List.length_append]
  omega
end
end Z
namespace Z
open PySem PySem.Spec PyProof.Rows L2
/-- the object of a tuple that has no dict -/
def PlT (ob : Obj) : Prop := ob.cls = .type "tuple" ∧ ob.dict = none
/-! ### enumerate(a tuple) -/
abbrev tIt (l : Addr) : Obj := { cls := .type "tuple_iterator", data := .fields #[.ref l, .int 0 0] }
abbrev eOb (a : Addr) : Obj := { cls := .type "enumerate", data := .fields #[.none, .bool false, .ref a, rawInt 0, .none, .none] }
theorem enum_newT (l : Addr) (xs : Array Value) (n : Nat) (od : Option Addr) (os : Array (Option Value)) :
    Meets (Builtin.«enumerate.__new__» ⟨[.type "enumerate", .ref l], []⟩) (fun _ R s => s.heap.get? l = some ⟨.type "tuple", od, .seq xs n, os⟩ ∧
      R (.ok (.ret (.ref (s.heap.push (tIt l)).objs.size))) { s with heap := (s.heap.push (tIt l)).push (eOb s.heap.objs.size) }) :=
  .of_wp fun prog w A R s h => by
    obtain ⟨g, gg, dr, tk, osT⟩ := s
    obtain ⟨hl, h⟩ := h
    have m0 := sub_enumerate
    have ht : Heap.IsTuple (Shared.heap ⟨g, gg, dr, tk, osT⟩) l xs := ⟨_, hl, rfl, n, rfl⟩
    wp_walk using AutoSeq1.wpAny_loadPart' hl
    refine wpAny_stack_any fun st => wpAny_pure ?_
    split
    · rename_i c _ _ _ _ _
      cases (c == Value.type "enumerate") <;> (wp_walk using AutoSeq1.wpAny_loadPart' hl, wpAny_pyIter_tuple ht) <;> exact ⟨_, rfl, h⟩
    · wp_walk using AutoSeq1.wpAny_loadPart' hl, wpAny_pyIter_tuple ht
      exact ⟨_, rfl, h⟩
section
variable {prog : Program} {w : World} {A : Around} {E : Value → Shared → Prop} {s : Shared}
theorem call_enumT {l : Addr} {xs : Array Value} {Q : Value → Shared → Prop} (ht : s.heap.IsTuple l xs)
    (k : ∀ g, IsEnum g (s.heap.objs.size + 1) s.heap.objs.size 0 .none → g.IsTupleIter s.heap.objs.size l 0 → (∀ b o, s.heap.get? b = some o → g.get? b = some o) → Q (.ref (s.heap.objs.size + 1)) { s with heap := g }) :
    wpAny (model prog w) A (call (.type "enumerate") [.ref l]) Q E s := by
  obtain ⟨⟨oc, od, dt, os⟩, hl, hc, n, hd⟩ := ht
  simp only at hc hd
  subst hc; subst hd
  refine callType_new F.called_enumerate (by decide) (F.typeCall_enumerate_1 _) (F.newCall_enumerate_1 _) (fun o => F.args_object_init_2 o _) F.entry_enumerate_new
    (enum_newT l xs n od os) (And.intro hl ?_)
  have sz : (s.heap.push (tIt l)).objs.size = s.heap.objs.size + 1 := Heap.size_push ..
  show _ ∧ _
  rw [sz]
  have e1 := Heap.get?_push_size (s.heap.push (tIt l)) (o := eOb s.heap.objs.size) rfl
  rw [sz] at e1
  refine ⟨⟨_, e1, rfl⟩, k _ e1 ⟨_, Heap.get?_push_of_some _ (Heap.get?_push_size _ rfl), rfl, rfl⟩ fun b o x => Heap.get?_push_of_some _ (Heap.get?_push_of_some _ x)⟩
end
/-- the tuple at a at each turn, each item in a new pair -/
def IteT (K : PySem.W.Frag) (a : Addr) : It where
  go i H := ∃ (xs : List V) (x : V), SqT K H a xs ∧ xs[i]? = some x
  yld i H v H' := ∃ T x ob, v = .ref T ∧ H T = none ∧ PlT ob ∧ H' = upd H T (.frz ob (.tup [.int (i : Nat), x])) ∧ ∀ xs, SqT K H a xs → xs[i]? = some x
  stop i H := ∃ xs : List V, SqT K H a xs ∧ xs.length = i
theorem turn_enumT {P : Program} {w : World} {K : PySem.W.Frag} {elts : List Expr} {kk : Nat} {tp : Pos} (a e it : Addr) :
    Turn P w K (.Tuple elts kk tp) (IteT K a) [e, it] e (fun i h => (∃ old, IsEnum h e it (i : Nat) old) ∧ h.IsTupleIter it a i ∧ e ≠ it) where
  mem := by simp
  obj := fun i h st b hb => by
    obtain ⟨⟨old, he⟩, ⟨o, ho, _, hd⟩, _⟩ := st
    rcases List.mem_cons.mp hb with rfl | hb
    · exact ⟨_, he, fun v q => nomatch q⟩
    · rw [List.mem_singleton] at hb
      subst hb
      exact ⟨o, ho, fun v q => by rw [hd] at q; cases q⟩
  keep := fun i h h' ⟨⟨old, he⟩, hi, hne⟩ k => ⟨⟨old, k e (by simp) _ he⟩, hi.at fun o q => k it (by simp) o q, hne⟩
  item := by
    intro X hP hw hK hc i pins s σ H E I hf st hg
    subst hP hw hK
    obtain ⟨⟨old, he⟩, hit, hne⟩ := st
    obtain ⟨xs, x, hq, hx⟩ := hg
    obtain ⟨its, rv, p, hz⟩ := I.tuple hq
    obtain ⟨u, hu, ru⟩ := rv.get hx
    have el : e < s.heap.objs.size := Heap.lt_size he
    have il : it < s.heap.objs.size := by obtain ⟨_, q, _⟩ := hit; exact Heap.lt_size q
    have hn : ∀ b ∈ [e, it], H b = none := fun b hb => (hf b hb).1
    have hae : a ≠ e ∧ a ≠ it := by
      obtain ⟨o, ho, hc, _⟩ := p
      obtain ⟨o2, ho2, hc2, _⟩ := hit
      refine ⟨fun z => ?_, fun z => ?_⟩
      · subst z
        rw [he] at ho
        cases ho
        exact absurd (show Value.type "enumerate" = .type "tuple" from hc) (by decide)
      · subst z
        rw [ho2] at ho
        cases ho
        rw [hc2] at hc
        exact absurd hc (by decide)
    have hlt : i < its.toArray.size := by
      obtain ⟨hl, _⟩ := List.getElem?_eq_some_iff.mp hu
      simpa using hl
    refine wpAny_pyNext_enum_itemD (PySem.Draws.tuple (by simp [I.ok.hd hc]) it a hae.2 its.toArray) he ⟨hit, p⟩ hlt hne (by simp [hne, hae.1.symm]) fun y h' tk hy ho st' hT hsz hk => ?_
    obtain rfl : y = u := by
      have e1 : its.toArray[i]? = some u := by simpa using hu
      rw [e1] at hy
      cases hy; rfl
    refine ⟨_, rfl, wpAny_letOwnedTupleGo_enum (s := { s with heap := h', toks := tk + 1 }) ho fun h2 he2 sb => ?_⟩
    have tT : h2.get? s.heap.objs.size = some { cls := .type "tuple", data := .seq #[.int i tk, y] } := (sb.2 _ (Nat.ne_of_gt el)).trans hT
    have fresh := I.hok.fresh (Nat.le_refl s.heap.objs.size)
    have nw : ObjOk X.prog X.w (upd H s.heap.objs.size (.frz { cls := .type "tuple", data := .seq #[.int i tk, y] } (.tup [.int (i : Nat), x]))) h2 s.heap.objs.size (.frz { cls := .type "tuple", data := .seq #[.int i tk, y] } (.tup [.int (i : Nat), x])) :=
      ⟨tT, by show 2 ≤ sizeLine; decide, [.int i tk, y], .cons ⟨_, rfl⟩ (.cons ru .nil), ⟨_, tT, rfl, _, rfl⟩⟩
    have I2 : Inv X pins σ (upd H s.heap.objs.size (.frz { cls := .type "tuple", data := .seq #[.int i tk, y] } (.tup [.int (i : Nat), x]))) { s with heap := h2, toks := tk + 1 } := by
      refine I.turnedNew (ch := [e, it]) (fun b o hb q => ?_) hf (Nat.le_refl _) nw
      have nb : b ≠ e ∧ b ≠ it := by simpa using hb
      exact (sb.2 b nb.1).trans (hk b o nb.1 nb.2 q)
    refine ⟨.ref s.heap.objs.size, _, I2, rfl, ⟨_, x, _, rfl, fresh, ⟨rfl, rfl⟩, rfl, fun ys hy => by rw [I.tuple_inj hy hq]; exact hx⟩, ⟨⟨y, ?_⟩, st'.1.at fun o q => (sb.2 it (Ne.symm hne)).trans q, hne⟩, fun b hb => ?_⟩
    · rw [show ((i + 1 : Nat) : Int) = (i : Int) + 1 by omega]
      exact he2
    · have lb : b < s.heap.objs.size := by
        rcases List.mem_cons.mp hb with rfl | hb
        · exact el
        · rw [List.mem_singleton.mp hb]; exact il
      rw [upd_ne (Nat.ne_of_lt lb)]
      exact hn b hb
  done := by
    intro X hP hw hK hc i pins s σ H E I hf st hg
    subst hP hw hK
    obtain ⟨⟨old, he⟩, hit, hne⟩ := st
    obtain ⟨xs, hq, hx⟩ := hg
    obtain ⟨its, rv, p, hz⟩ := I.tuple hq
    obtain ⟨f0, f1, f2, f3, f4, f5⟩ := hf it (by simp)
    have hl := rv.length
    have hi2 : i = its.toArray.size := by rw [List.size_toArray]; omega
    have hne2 : a ≠ it := by
      obtain ⟨o, ho, hc, _⟩ := p
      obtain ⟨o2, ho2, hc2, _⟩ := hit
      intro z
      subst z
      rw [ho2] at ho
      cases ho
      rw [hc2] at hc
      exact absurd hc (by decide)
    refine wpAny_pyNext_enum_endD (PySem.Draws.tuple (by simp [I.ok.hd hc]) it a hne2 its.toArray) he ⟨hi2 ▸ hit, p⟩ fun h' eb => ⟨rfl, ?_⟩
    exact I.turned (t' := s.toks) (fun b o hb q => eb b o hb q) f0 f1 f3 f4 f5
  self := fun A i s Q E ⟨⟨_, he⟩, _⟩ h => wpAny_pyIter_enum he h
/-- a text, sign by sign, each in a new pair -/
def IteS (x : Str) : It where
  go i _ := i < x.cps.size
  yld i H v H' := ∃ T c ob, v = .ref T ∧ H T = none ∧ PlT ob ∧ x.cps[i]? = some c ∧ H' = upd H T (.frz ob (.tup [.int (i : Nat), .str ⟨#[c]⟩]))
  stop i _ := x.cps.size = i
theorem turn_enumS {P : Program} {w : World} {K : PySem.W.Frag} {elts : List Expr} {kk : Nat} {tp : Pos} (z : Str) (e it : Addr) :
    Turn P w K (.Tuple elts kk tp) (IteS z) [e, it] e (fun i h => ∃ tt, (∃ old, IsEnum h e it (i : Nat) old) ∧ h.IsStrIter it (strIterType z) z tt i ∧ e ≠ it) where
  mem := by simp
  obj := fun i h st b hb => by
    obtain ⟨tt, ⟨old, he⟩, ⟨o, ho, _, hd⟩, _⟩ := st
    rcases List.mem_cons.mp hb with rfl | hb
    · exact ⟨_, he, fun v q => nomatch q⟩
    · rw [List.mem_singleton] at hb
      subst hb
      exact ⟨o, ho, fun v q => by rw [hd] at q; cases q⟩
  keep := fun i h h' ⟨tt, ⟨old, he⟩, ⟨o, ho, r⟩, hne⟩ k => ⟨tt, ⟨old, k e (by simp) _ he⟩, ⟨o, k it (by simp) _ ho, r⟩, hne⟩
  item := by
    intro X hP hw hK hc i pins s σ H E I hf st hg
    subst hP hw hK
    obtain ⟨tt, ⟨old, he⟩, hit, hne⟩ := st
    have el : e < s.heap.objs.size := Heap.lt_size he
    have il : it < s.heap.objs.size := by obtain ⟨_, q, _⟩ := hit; exact Heap.lt_size q
    have hn : ∀ b ∈ [e, it], H b = none := fun b hb => (hf b hb).1
    refine wpAny_pyNext_enum_itemD (PySem.Draws.text (by simp [I.ok.hd hc]) it z tt) he hit hg hne (by simp [hne]) fun y h' tk hy ho st' hT hsz hk => ?_
    obtain ⟨cc, u, hcc, rfl⟩ := hy
    refine ⟨_, rfl, wpAny_letOwnedTupleGo_enum (s := { s with heap := h', toks := tk + 1 }) ho fun h2 he2 sb => ?_⟩
    have tT : h2.get? s.heap.objs.size = some { cls := .type "tuple", data := .seq #[.int i tk, .str ⟨#[cc]⟩ u] } := (sb.2 _ (Nat.ne_of_gt el)).trans hT
    have fresh := I.hok.fresh (Nat.le_refl s.heap.objs.size)
    have nw : ObjOk X.prog X.w (upd H s.heap.objs.size (.frz { cls := .type "tuple", data := .seq #[.int i tk, .str ⟨#[cc]⟩ u] } (.tup [.int (i : Nat), .str ⟨#[cc]⟩]))) h2 s.heap.objs.size (.frz { cls := .type "tuple", data := .seq #[.int i tk, .str ⟨#[cc]⟩ u] } (.tup [.int (i : Nat), .str ⟨#[cc]⟩])) :=
      ⟨tT, by show 2 ≤ sizeLine; decide, [.int i tk, .str ⟨#[cc]⟩ u], .cons ⟨_, rfl⟩ (.cons ⟨_, rfl⟩ .nil), ⟨_, tT, rfl, _, rfl⟩⟩
    have I2 : Inv X pins σ (upd H s.heap.objs.size (.frz { cls := .type "tuple", data := .seq #[.int i tk, .str ⟨#[cc]⟩ u] } (.tup [.int (i : Nat), .str ⟨#[cc]⟩]))) { s with heap := h2, toks := tk + 1 } := by
      refine I.turnedNew (ch := [e, it]) (fun b o hb q => ?_) hf (Nat.le_refl _) nw
      have nb : b ≠ e ∧ b ≠ it := by simpa using hb
      exact (sb.2 b nb.1).trans (hk b o nb.1 nb.2 q)
    refine ⟨.ref s.heap.objs.size, _, I2, rfl, ⟨_, cc, _, rfl, fresh, ⟨rfl, rfl⟩, hcc, rfl⟩, ⟨tt, ⟨.str ⟨#[cc]⟩ u, ?_⟩, ?_, hne⟩, fun b hb => ?_⟩
    · rw [show ((i + 1 : Nat) : Int) = (i : Int) + 1 by omega]
      exact he2
    · obtain ⟨o, h1, r⟩ := st'
      exact ⟨o, (sb.2 it (Ne.symm hne)).trans h1, r⟩
    · have lb : b < s.heap.objs.size := by
        rcases List.mem_cons.mp hb with rfl | hb
        · exact el
        · rw [List.mem_singleton.mp hb]; exact il
      rw [upd_ne (Nat.ne_of_lt lb)]
      exact hn b hb
  done := by
    intro X hP hw hK hc i pins s σ H E I hf st hg
    subst hP hw hK
    obtain ⟨tt, ⟨old, he⟩, hit, hne⟩ := st
    obtain ⟨f0, f1, f2, f3, f4, f5⟩ := hf it (by simp)
    have hg : z.cps.size = i := hg
    refine wpAny_pyNext_enum_endD (PySem.Draws.text (by simp [I.ok.hd hc]) it z tt) he (hg ▸ hit) fun h' eb => ⟨rfl, ?_⟩
    exact I.turned (t' := s.toks) (fun b o hb q => eb b o hb q) f0 f1 f3 f4 f5
  self := fun A i s Q E ⟨_, ⟨_, he⟩, _⟩ h => wpAny_pyIter_enum he h
def iEnumT (K : PySem.W.Frag) (ta : TA) : TI := fun σ H R => ta σ H fun vs H1 => (∃ z, vs = [.str z] ∧ R (IteS z) H1) ∨ ∃ a xs, vs = [.ref a] ∧ ((SqL K H1 a xs ∧ R (Ite K a) H1) ∨ (SqT K H1 a xs ∧ R (IteT K a) H1))
theorem pi_enumT {X : Cx} {e : Expr} {ta : TA} {p pos tp : Pos} {elts : List Expr} {kk : Nat} (hg : Gl X "enumerate") (hm : X.mg "enumerate" = none) (ha : PA X [e] ta) (hs : starEach [e] X.env = [(false, eval e X.env)] := by rfl) :
    PI X (.Tuple elts kk tp) (.Call (.Name "enumerate" p) [e] [] pos) (iEnumT X.K ta) := by
  refine ⟨fun pins s σ H R I h => Call_ (ld_blt I hg hm boot_enumerate (PyProof.Rows.callWith_type1 (thn (ha.run pos pins s σ H _ I h) fun us s1 ⟨vs, H1, I1, r1, q1⟩ => ?_) hs rfl))⟩
  have ne := Nat.succ_ne_self s1.heap.objs.size
  have fresh : ∀ b ∈ [s1.heap.objs.size + 1, s1.heap.objs.size], ∀ g, Inv X pins σ H1 g → FpOk X pins H1 b := fun b hb _ _ => by
    have le : s1.heap.objs.size ≤ b := by
      rcases List.mem_cons.mp hb with rfl | hb
      · exact Nat.le_add_right _ _
      · rw [List.mem_singleton.mp hb]; exact Nat.le_refl _
    exact I1.fpOk le (I1.hok.fresh le)
  rcases q1 with ⟨z, rfl, q⟩ | ⟨a, xs, rfl, q⟩
  · obtain ⟨u, rfl, ru⟩ := r1.one
    obtain ⟨tt, rfl⟩ := ru
    refine call_enumerate_str fun g he hit _ hk => wpAny_pyIter_enum he ?_
    have I2 : Inv X pins σ H1 { s1 with heap := g } := I1.kept (t' := s1.toks) hk
    exact ⟨_, [s1.heap.objs.size + 1, s1.heap.objs.size], _, _, H1, rfl, I2, turn_enumS z (s1.heap.objs.size + 1) s1.heap.objs.size, ⟨tt, ⟨.none, he⟩, hit, ne⟩, fun b hb => fresh b hb _ I2, q⟩
  obtain ⟨u, rfl, ru⟩ := r1.one
  cases ru
  rcases q with ⟨hq, q⟩ | ⟨hq, q⟩
  · obtain ⟨its, rv, pl, hz⟩ := I1.list hq
    refine call_enumerate_list pl.isList fun g he hit _ hk => wpAny_pyIter_enum he ?_
    have I2 : Inv X pins σ H1 { s1 with heap := g } := I1.kept (t' := s1.toks) hk
    exact ⟨_, [s1.heap.objs.size + 1, s1.heap.objs.size], _, _, H1, rfl, I2, turn_enum a (s1.heap.objs.size + 1) s1.heap.objs.size, ⟨⟨.none, he⟩, hit, ne⟩, fun b hb => fresh b hb _ I2, q⟩
  · obtain ⟨its, rv, pt, hz⟩ := I1.tuple hq
    refine call_enumT pt fun g he hit hk => wpAny_pyIter_enum he ?_
    have I2 : Inv X pins σ H1 { s1 with heap := g } := I1.kept (t' := s1.toks) hk
    exact ⟨_, [s1.heap.objs.size + 1, s1.heap.objs.size], _, _, H1, rfl, I2, turn_enumT a (s1.heap.objs.size + 1) s1.heap.objs.size, ⟨⟨.none, he⟩, hit, ne⟩, fun b hb => fresh b hb _ I2, q⟩
/-! tuple * int, the ends: * 1 is the tuple itself, * 0 is a new empty one -/
theorem tuple_mul1 (l : Addr) (items : Array Value) (n : Nat) (dd : Option Addr) (sl : Array (Option Value)) (u : Tok) :
    Meets (Builtin.«tuple.__mul__» ⟨[.ref l, .int 1 u], []⟩) (fun _ R s => s.heap.get? l = some { cls := .type "tuple", dict := dd, data := .seq items n, slots := sl } ∧
      R (.ok (.ret (Value.ref l))) s) :=
  .of_wp fun prog w A R s h => by
    obtain ⟨hp, g, d, tk, os⟩ := s
    obtain ⟨hl, h⟩ := h
    have f1 := AutoSeq1.idx_int
    have c1 : (items.isEmpty || (1 : Int) == 1) = true := by simp
    wp_walk using wpAny_loadPart' hl
    repeat (first
      | (refine wpAny_ite_true (decide_eq_true (by rw [c1])) ?_; wp_walk using wpAny_loadPart' hl))
    exact ⟨_, rfl, h⟩
theorem tuple_mul0 (l : Addr) (items : Array Value) (n : Nat) (dd : Option Addr) (sl : Array (Option Value)) (x : Int) (u : Tok) (c0 : (decide (x < -(2 ^ 63)) || decide (x ≥ 2 ^ 63)) = false) (c1 : (items.isEmpty || x == 1) = false) (c2 : (decide (x ≤ 0) || items.isEmpty) = true) :
    Meets (Builtin.«tuple.__mul__» ⟨[.ref l, .int x u], []⟩) (fun _ R s => s.heap.get? l = some { cls := .type "tuple", dict := dd, data := .seq items n, slots := sl } ∧
      R (.ok (.ret (Value.ref s.heap.objs.size))) { s with heap := s.heap.push { cls := Value.type "tuple", data := Data.seq #[] }, toks := s.toks }) :=
  .of_wp fun prog w A R s h => by
    obtain ⟨hp, g, d, tk, os⟩ := s
    obtain ⟨hl, h⟩ := h
    have f1 := AutoSeq1.idx_int
    wp_walk using wpAny_loadPart' hl
    repeat (first
      | (refine wpAny_ite_false (decide_eq_false (by rw [c0]; exact Bool.false_ne_true)) ?_; wp_walk using wpAny_loadPart' hl)
      | (refine wpAny_ite_false (decide_eq_false (by rw [c1]; exact Bool.false_ne_true)) ?_; wp_walk using wpAny_loadPart' hl)
      | (refine wpAny_ite_true (decide_eq_true (by rw [c2])) ?_; wp_walk using wpAny_loadPart' hl))
    exact ⟨_, rfl, h⟩
def rRepA (K : PySem.W.Frag) : R2 := fun x y H Q => ∃ l k xs, x = .ref l ∧ y = .int k ∧ SqT K H l xs ∧ xs ≠ [] ∧ 0 ≤ k ∧ k ≤ 1000 ∧ xs.length ≤ 1000 ∧
  (k = 1 → Q (.ref l) H) ∧ (k ≠ 1 → ∀ p, H p = none → Q (.ref p) (upd H p (.tup (List.replicate k.toNat xs).flatten)))
section
variable {X : Cx}
theorem op_repA : OpR X (binaryOp .Mult) (rRepA X.K) := by
  intro pins s σ H x y v u Q I rx ry h
  obtain ⟨l, k, xs, rfl, rfl, hT, hne, k0, k1, hz, q1, q2⟩ := h
  by_cases h2 : 2 ≤ k
  · exact op_repT pins s σ H _ _ v u Q I rx ry ⟨l, k, xs, rfl, rfl, hT, hne, h2, k1, hz, q2 (by omega)⟩
  cases rx
  obtain ⟨t, rfl⟩ := ry
  obtain ⟨its, r, ⟨⟨cls, dd, data, sl⟩, ho, hc, n, hd⟩, hs⟩ := I.tuple hT
  simp only at hc hd
  subst hc hd
  have hi : its.toArray.isEmpty = false := by
    cases its with
    | nil => exact absurd (List.eq_nil_of_length_eq_zero r.length.symm.symm) hne
    | cons a b => rfl
  by_cases h1 : k = 1
  · subst h1
    refine wpAny_binaryOp_repeat_ref (T := "tuple") (U := "int") (by decide) ⟨_, ho, rfl⟩ (fun s' => typeIs_int s' 1 t) noFill_tuple_mul F.fills_int_mul F.slot_int_rmul repeat_tuple F.slot_int_index.lookup
      (call_meets F.slot_int_rmul (typeIs_int s 1 t) F.entry_int_rmul (F.args_int_rmul_2 _ _) (int_rmul_tuple 1 t l its.toArray n dd sl)
        ⟨ho, rfl, ⟨_, ho, rfl⟩, call_meets F.slot_tuple_mul ⟨_, ho, rfl⟩ F.entry_tuple_mul (F.args_tuple_mul_2 _ _) (tuple_mul1 l its.toArray n dd sl t) ⟨ho, ?_⟩⟩)
    exact ⟨.ref l, _, I, rfl, q1 rfl⟩
  · have e0 : k = 0 := by omega
    subst e0
    refine wpAny_binaryOp_repeat_ref (T := "tuple") (U := "int") (by decide) ⟨_, ho, rfl⟩ (fun s' => typeIs_int s' 0 t) noFill_tuple_mul F.fills_int_mul F.slot_int_rmul repeat_tuple F.slot_int_index.lookup
      (call_meets F.slot_int_rmul (typeIs_int s 0 t) F.entry_int_rmul (F.args_int_rmul_2 _ _) (int_rmul_tuple 0 t l its.toArray n dd sl)
        ⟨ho, rfl, ⟨_, ho, rfl⟩, call_meets F.slot_tuple_mul ⟨_, ho, rfl⟩ F.entry_tuple_mul (F.args_tuple_mul_2 _ _) (tuple_mul0 l its.toArray n dd sl 0 t rfl (by rw [hi]; rfl) rfl) ⟨ho, ?_⟩⟩)
    refine ⟨.ref s.heap.objs.size, _, I.laid (t' := s.toks) (o := .tup []) (fun b ob q => Heap.get?_push_of_some _ q) (Nat.le_refl _) ?_, rfl, q2 (by omega) _ (I.hok.fresh (Nat.le_refl _))⟩
    exact ⟨by rw [sizeLine_eq]; decide, _, .nil, IsTup.new _ _⟩
end
/-! text * int -/
def repN (x : Str) : Nat → Str
  | 0 => Str.empty
  | n + 1 => repN x n ++ x
theorem repN_fold (x : Str) : ∀ k : Nat, (⟨(List.replicate k x.cps).foldl (fun x1 x2 => x1 ++ x2) #[]⟩ : Str) = repN x k
  | 0 => rfl
  | k + 1 => by
    rw [List.replicate_succ', List.foldl_append]
    show (⟨_ ++ x.cps⟩ : Str) = repN x k ++ x
    rw [← repN_fold x k]
    rfl
theorem repN_len (x : Str) : ∀ k : Nat, (repN x k).length = k * x.length
  | 0 => by rw [Nat.zero_mul]; rfl
  | k + 1 => by
    show ((repN x k).cps ++ x.cps).size = _
    rw [Array.size_append, show (repN x k).cps.size = _ from repN_len x k, Nat.add_mul, Nat.one_mul]; rfl
def rRepS : R2 := fun x y H Q => ∃ z k, x = .str z ∧ y = .int k ∧ 0 ≤ k ∧ k ≤ 1000 ∧ z.length ≤ 1000 ∧ Q (.str (repN z k.toNat)) H
section
variable {X : Cx}
theorem op_repS : OpR X (binaryOp .Mult) rRepS := by
  intro pins s σ H x y v u Q I rx ry h
  obtain ⟨z, k, rfl, rfl, k0, k1, hz, q⟩ := h
  obtain ⟨t, rfl⟩ := rx
  obtain ⟨t2, rfl⟩ := ry
  have lz : (repN z k.toNat).length ≤ sizeLine := by
    rw [repN_len, sizeLine_eq]
    have a1 : k.toNat * z.length ≤ 1000 * 1000 := Nat.mul_le_mul (by omega) hz
    omega
  refine PySem.P.mul_str (by rw [decide_eq_false (by omega), decide_eq_false (by omega)]; rfl) (fun h1 h2 => ?_) (fun h1 h2 => ?_) ?_
  · have a1 : ((z.length : Int)) * k ≤ 1000 * k := Int.mul_le_mul_of_nonneg_right (by omega) (by omega)
    have a2 : (z.length : Int) ≤ (2 ^ 63 - 1) / k := (Int.le_ediv_iff_mul_le (by omega)).mpr (by omega)
    omega
  · unfold Builtin.Str.tooLong
    rw [sizeLine_eq]
    have a1 : z.length * k.toNat ≤ 1000 * 1000 := Nat.mul_le_mul hz (by omega)
    exact decide_eq_false (by omega)
  · by_cases h1 : k < 1
    · rw [if_pos h1]
      have e0 : k = 0 := by omega
      subst e0
      exact ⟨Nat.zero_le _, .str _, H, I.tok _, ⟨_, rfl⟩, q⟩
    · rw [if_neg h1]
      by_cases h2 : (k == 1 || z.length == 0) = true
      · rw [if_pos h2]
        have e : repN z k.toNat = z := by
          rw [Bool.or_eq_true, beq_iff_eq, beq_iff_eq] at h2
          have le : (repN z k.toNat).length = k.toNat * z.length := repN_len z _
          rcases h2 with h2 | h2
          · subst h2
            show (⟨#[] ++ z.cps⟩ : Str) = z
            rw [Array.empty_append]
          · rw [h2, Nat.mul_zero] at le
            have e1 : ∀ y : Str, y.length = 0 → y = Str.empty := fun y hy => by
              have : y.cps = #[] := Array.eq_empty_of_size_eq_zero hy
              cases y
              simp only at this
              rw [this]; rfl
            rw [e1 _ le, e1 _ h2]
        rw [e] at q
        exact ⟨.str z, H, I, ⟨t, rfl⟩, q⟩
      · rw [if_neg h2]
        rw [repN_fold]
        exact ⟨lz, .str _, H, I.tok _, ⟨_, rfl⟩, q⟩
end
end Z
/-! tuples by their objects: no instance dict -/
namespace Z
open PySem PySem.Spec L2 HT
open PyProof.Rows hiding St
/-- a new tuple -/
def nuT (H : Hp) (xs : List V) (Q : VK) : Prop := ∀ p ob, H p = none → PlT ob → Q (.ref p) (upd H p (.frz ob (.tup xs)))
section
variable {X : Cx} {pins : List (Addr × Obj)} {σ : L2.St} {H : Hp} {s : Shared}
theorem laidF {xs : List V} {its : List Value} {Q : VK} (I : Inv X pins σ H s) (r : Vals xs its) (hz : xs.length ≤ sizeLine) (q : nuT H xs Q) : EP X pins σ Q (.ref s.heap.objs.size) { s with heap := s.heap.push { cls := .type "tuple", data := .seq its.toArray } } :=
  ⟨.ref s.heap.objs.size, _, I.laid (t' := s.toks) (o := .frz { cls := .type "tuple", data := .seq its.toArray } (.tup xs)) (fun b u e => Heap.get?_push_of_some _ e) (Nat.le_refl _)
    ⟨Heap.get?_push_size _ rfl, hz, its, r, IsTup.new _ _⟩, rfl, q _ _ (I.hok.fresh (Nat.le_refl _)) ⟨rfl, rfl⟩⟩
def tTupF (t : TA) : TE := fun σ H Q => t σ H fun xs H1 => xs.length ≤ sizeLine ∧ nuT H1 xs Q
theorem pe_tupF {es : List Expr} {t : TA} {pos : Pos} {x1} (h : PA X es t) : PE X (.Tuple es x1 pos) (tTupF t) := by
  refine ⟨fun pins s σ H Q I hq => ?_⟩
  refine wpAny_Tuple_spliced (thn (h.run pos pins s σ H _ I hq) fun us s1 ⟨xs, H1, I1, r, z, q⟩ => ⟨by rw [← r.length]; exact z, ?_⟩)
  exact laidF I1 r z q
theorem call_tuple_ofF : CallR X (.type "tuple") (fun xs H Q => ∃ p ys, xs = [.ref p] ∧ ((SqL X.K H p ys ∧ nuT H ys Q) ∨ (SqT X.K H p ys ∧ Q (.ref p) H))) := by
  intro pins s σ H xs us Q I r h
  obtain ⟨p, ys, rfl, h⟩ := h
  obtain ⟨u, rfl, rx⟩ := vals1 r
  cases rx
  rcases h with ⟨hq, q⟩ | ⟨hq, q⟩
  · obtain ⟨its, r', pl, hz⟩ := I.list hq
    have hlen := r'.length
    refine call_tuple_list pl.isList (fun h' kp => ?_) (by simp only [List.size_toArray] <;> omega)
    have I1 : Inv X pins σ H { s with heap := h' } := I.kept (t' := s.toks) kp
    exact laidF I1 r' hz q
  · obtain ⟨its, r', pl, hz⟩ := I.tuple hq
    exact call_tuple_same pl ⟨.ref p, H, I, rfl, q⟩
def rSlF (K : PySem.W.Frag) : V → Option Int → Option Int → Hp → VK → Prop := fun x lo hi H Q => ∃ a xs, x = .ref a ∧ SqT K H a xs ∧
  (HT.sIx xs.length 0 lo = 0 ∧ HT.sIx xs.length xs.length hi = xs.length → Q (.ref a) H) ∧ (¬ (HT.sIx xs.length 0 lo = 0 ∧ HT.sIx xs.length xs.length hi = xs.length) → nuT H (cutV xs lo hi) Q)
theorem sl_tupF : SlR X (rSlF X.K) := by
  intro pins s σ H x v vl vu lo hi sl Q I rx hs pl pu h
  obtain ⟨a, xs, rfl, hx, q1, q2⟩ := h
  cases rx
  obtain ⟨its, r, ht, hz⟩ := I.tuple hx
  have hlen : its.toArray.size = xs.length := by rw [List.size_toArray]; exact r.length.symm
  refine ⟨"tuple", _, PyProof.Rows.slot_tuple_getitem.lookup, ht.typeIs, ?_⟩
  by_cases hw : HT.sIx xs.length 0 lo = 0 ∧ HT.sIx xs.length xs.length hi = xs.length
  · exact getItem_tuple_whole ht hs pl pu (by rw [hlen]; exact hw) ⟨.ref a, H, I, rfl, q1 hw⟩
  · refine HT.getItem_tuple_cut ht hs pl pu (by rw [hlen]; exact hw) ?_ (by rw [hlen]; exact hz)
    rw [hlen]
    exact laidF I ((r.drop (HT.sIx xs.length 0 lo)).take (HT.sIx xs.length xs.length hi - HT.sIx xs.length 0 lo)) (Nat.le_trans (cutV_length xs lo hi) hz) (q2 hw)
def rCatF (K : PySem.W.Frag) : R2 := fun x y H Q => ∃ a b xs ys, x = .ref a ∧ y = .ref b ∧ SqT K H a xs ∧ SqT K H b ys ∧ xs.length + ys.length ≤ sizeLine ∧
  (xs = [] → Q (.ref b) H) ∧ (xs ≠ [] → ys = [] → Q (.ref a) H) ∧ (xs ≠ [] → ys ≠ [] → nuT H (xs ++ ys) Q)
theorem op_catF : OpR X (binaryOp .Add) (rCatF X.K) := by
  intro pins s σ H x y v u Q I rx ry h
  obtain ⟨a, b, xs, ys, rfl, rfl, ha, hb, hz, q0, q1, q2⟩ := h
  cases rx
  cases ry
  obtain ⟨its, r1, p1, _⟩ := I.tuple ha
  obtain ⟨its2, r2, p2, _⟩ := I.tuple hb
  by_cases hx : xs = []
  · subst hx
    cases r1
    exact cat_tup0 p1 p2 ⟨.ref b, H, I, rfl, q0 rfl⟩
  · refine HT.cat_tup p1 p2 (fun z => hx (r1.nil_iff.mp z)) (fun z => ⟨.ref a, H, I, rfl, q1 hx (r2.nil_iff.mp z)⟩) (fun z => ?_) (by rw [← r1.length, ← r2.length]; exact hz)
    exact laidF I (r1.append r2) (by rw [List.length_append]; exact hz) (q2 hx fun w => z (r2.nil_iff.mpr w))
/-- a tuple without a dict: tracked by its object, or one of the module -/
def PSq (K : PySem.W.Frag) (H : Hp) (a : Addr) (vs : List V) : Prop :=
  (∃ ob, H a = some (.frz ob (.tup vs)) ∧ PlT ob) ∨
    ∃ (o : Obj) (its : Array Value) (n : Nat), K.lookup a = some o ∧ o.cls = .type "tuple" ∧ o.dict = none ∧ o.data = .seq its n ∧ its.size ≤ sizeLine ∧ Vals vs its.toList
theorem plainT {a : Addr} {vs : List V} (I : Inv X pins σ H s) (h : PSq X.K H a vs) : ∃ its : List Value, Vals vs its ∧ PlainSeq "tuple" s.heap a its.toArray ∧ vs.length ≤ sizeLine := by
  rcases h with ⟨ob, h, p1, p2⟩ | ⟨o, its, n, hk, hc, hd, hs, hz, r⟩
  · obtain ⟨e, z, its, r, o, e2, _, n, e3⟩ := (show ObjOk X.prog X.w H s.heap a (.frz ob (.tup vs)) from I.hok a _ h)
    rw [e] at e2
    cases e2
    exact ⟨its, r, ⟨ob, n, e, p1, p2, e3⟩, z⟩
  · refine ⟨its.toList, r, ⟨o, n, I.kIn a o hk, hc, hd, by simpa using hs⟩, ?_⟩
    have e := r.length
    simp only [Array.length_toList] at e
    omega
theorem pairs3 (I : Inv X pins σ H s) : ∀ {ps : List Addr} {kvs : List (Key × V)}, Paired (fun p kv => SqT X.K H p [kV kv.1, kv.2]) ps kvs →
    ∃ (qs : List (Value × Value)) (prs : List (Key × Value)), KV kvs prs ∧ qs.length = ps.length ∧ prs.length = ps.length ∧
      ∀ (j : Nat) (u v : Value), qs[j]? = some (u, v) → ∃ (b : Addr) (key : Key), ps[j]? = some b ∧ IsTup s.heap b #[u, v] ∧ prs[j]? = some (key, v) ∧ (mixKind X.prog X.w).is key u = true
  | _, _, .nil => ⟨[], [], .nil, rfl, rfl, fun j u v e => by simp at e⟩
  | _, _, .cons (a := p) (b := kv) h t => by
    obtain ⟨qs, prs, r, l1, l2, hp⟩ := pairs3 I t
    obtain ⟨its, rv, ht, _⟩ := I.tuple h
    obtain ⟨u, y, ei, ru, ry⟩ := vals2 rv
    subst ei
    refine ⟨(u, y) :: qs, (kv.1, y) :: prs, .cons ⟨rfl, ry⟩ r, by rw [List.length_cons, List.length_cons, l1], by rw [List.length_cons, List.length_cons, l2], fun j u' v' e => ?_⟩
    cases j with
    | zero =>
      have e' : (u, y) = (u', v') := Option.some.inj e
      cases e'
      exact ⟨p, kv.1, rfl, ht, rfl, kV_is (P := X.prog) (w := X.w) ru⟩
    | succ j =>
      obtain ⟨b, key, e1, e2, e3, e4⟩ := hp j u' v' (by simpa using e)
      exact ⟨b, key, by simpa using e1, e2, by simpa using e3, e4⟩
/-- dict(t) of a tuple of pairs -/
theorem call_dictF (hcalm : X.calm = true) : CallR X (.type "dict") (fun xs H Q => ∃ (a : Addr) (ps : List Addr) (kvs : List (Key × V)), xs = [.ref a] ∧ PSq X.K H a (ps.map V.ref) ∧ Paired (fun p kv => SqT X.K H p [kV kv.1, kv.2]) ps kvs ∧
    ∀ p, H p = none → Q (.ref p) (upd H p (.dK (mergeK [] kvs)))) := by
  intro pins s σ H xs us Q I r q
  obtain ⟨a, ps, kvs, ex, hq, hp, q⟩ := q
  subst ex
  obtain ⟨u, eu, rx⟩ := vals1 r
  subst eu
  cases rx
  obtain ⟨its, rv, pl, hz⟩ := plainT I hq
  have ei := refs_at rv
  subst ei
  rw [List.length_map] at hz
  obtain ⟨qs, prs, rel, l1, l2, hpr⟩ := pairs3 I hp
  have P := PairArg.tuple (prog := X.prog) (w := X.w) a (ps.map Value.ref).toArray (fun j => ps.getD j 0) qs
  refine PySem.call_dict_pairs (knd := mixKind X.prog X.w) (kvs := prs) P (I.ok.hd hcalm) ⟨pl, by simp [l1], fun j k v hj => ?_⟩ ⟨by rw [l1, l2], fun j k v hj => ?_⟩ (by rw [l1]; exact hz) fun h' tk hd' k => ?_
  · obtain ⟨b, key, e1, e2, _⟩ := hpr j k v hj
    have e4 : ps.getD j 0 = b := by simp [e1]
    show (ps.map Value.ref).toArray[j]? = some (.ref (ps.getD j 0)) ∧ PairAt s.heap (ps.getD j 0) k v
    rw [e4]
    exact ⟨by simp [e1], .inl e2⟩
  · obtain ⟨b, key, _, _, e3, e4⟩ := hpr j k v hj
    exact ⟨key, e3, e4⟩
  · have hm : (s.heap.objs.size == sysModules) = false := beq_eq_false_iff_ne.mpr (Nat.ne_of_gt I.big)
    have hlen : (mergeK [] kvs).length ≤ sizeLine := by
      refine Nat.le_trans (length_mergeK kvs []) ?_
      rw [List.length_nil, Nat.zero_add, rel.length, l2]
      exact hz
    exact ⟨.ref s.heap.objs.size, upd H s.heap.objs.size (.dK (mergeK [] kvs)), I.laid (t' := tk) (fun b o e => k b o (by simp) e) (Nat.le_refl _) (show ObjOk X.prog X.w _ _ _ (.dK (mergeK [] kvs)) from ⟨hlen, hm, merged [] prs, KV.merge rel .nil, hd'⟩), rfl, q _ (I.hok.fresh (Nat.le_refl _))⟩
end
end Z
/-! sorted of pairs of an int and a text, no int twice -/
namespace Z
open PySem PyProof.Rows Srt SrtO
section
variable {prog : Program} {w : World} {A : Around} {E : Value → Shared → Prop} {s : Shared}
def IsPS (h : Heap) (v : Value) (i : Int) (x : Str) : Prop := ∃ a o t u n, v = .ref a ∧ h.get? a = some o ∧ o.cls = .type "tuple" ∧ o.data = .seq #[.int i t, .str x u] n
theorem IsPS.keeps {h h' : Heap} {v : Value} {i : Int} {x : Str} (p : IsPS h v i x) (k : ∀ b o, h.get? b = some o → o.cls = .type "tuple" → h'.get? b = some o) : IsPS h' v i x := by
  obtain ⟨a, o, t, u, n, e, ho, hc, hd⟩ := p
  exact ⟨a, o, t, u, n, e, k _ _ ho hc, hc, hd⟩
abbrev ltK (k : Value → Int × Str) (v u : Value) : Bool := decide ((k v).1 < (k u).1)
theorem swoK (k : Value → Int × Str) : Swo (ltK k) := by
  refine ⟨fun x y h => ?_, fun x y z h1 h2 => ?_⟩
  · have a := of_decide_eq_true h
    exact decide_eq_false (by omega)
  · have a := of_decide_eq_false h1
    have b := of_decide_eq_false h2
    exact decide_eq_false (by omega)
theorem ps_cmp {vs : List Value} {k : Value → Int × Str} (hp : ∀ v ∈ vs, IsPS s.heap v (k v).1 (k v).2) (hk : ∀ v ∈ vs, ∀ u ∈ vs, (k v).1 = (k u).1 → (k v).2 = (k u).2) : SrtO.Cmp prog w A s (tuples' true) (fun p => p.1 ∈ vs) (lt2 (ltK k)) := by
  intro p q hm hm'
  have h1 := hp _ hm
  have h2 := hp _ hm'
  have h3 := hk _ hm _ hm'
  show wpAny (model prog w) A (keyLt' (tuples' true) p.1 q.1) (fun r s' => s' = s ∧ r = decide ((k p.1).1 < (k q.1).1)) (fun _ _ => False) s
  generalize (k p.1).1 = x at h1 h3 ⊢
  generalize (k p.1).2 = y at h1 h3 ⊢
  generalize (k q.1).1 = x' at h2 h3 ⊢
  generalize (k q.1).2 = y' at h2 h3 ⊢
  obtain ⟨a, o, t, u, n, e, ho, hc, hd⟩ := h1
  obtain ⟨a', o', t', u', n', e', ho', hc', hd'⟩ := h2
  rw [e, e']
  refine PySem.W.kat_lt ho hd ho' hd' ?_
  show PySem.W.KatLex prog w A true (decide (2 < 2)) _ [(.int x t, .int x' t'), (.str y u, .str y' u')] 0 s
  refine PySem.W.kat_cons (SeqAt.EqAt.int_int x t x' t' prog w _ _ ?_)
  refine PySem.W.kat_go (fun e1 => ?_) (fun e1 => ?_)
  · have ex : x = x' := by simpa using e1
    refine PySem.W.kat_yes (PySem.W.kat_cons (wpAny_eqBool_str ?_))
    rw [decide_eq_true (h3 ex)]
    have e3 : decide (x < x') = false := by
      rw [ex]
      exact decide_eq_false (Int.lt_irrefl _)
    exact PySem.W.kat_yes (PySem.W.kat_nil ⟨rfl, e3.symm⟩)
  · exact PySem.W.kat_no (oneLt_int ⟨rfl, rfl⟩)
theorem ps_firsts {h : Heap} : ∀ {vs : List Value}, (∀ v ∈ vs, ∃ i x, IsPS h v i x) → ∃ fs : List Value, PySem.W.KatTups h vs fs ∧ fs.length = vs.length ∧ ∀ f ∈ fs, ∃ x t, f = Value.int x t
  | [], _ => ⟨[], .nil, rfl, fun f hf => by cases hf⟩
  | v :: vs, hp => by
    obtain ⟨fs, h1, h2, h3⟩ := ps_firsts fun u hu => hp u (List.mem_cons_of_mem _ hu)
    obtain ⟨i, x, a, o, t, u, n, rfl, ho, hc, hd⟩ := hp v List.mem_cons_self
    refine ⟨.int i t :: fs, PySem.W.KatTups.cons ho hc hd rfl h1, by rw [List.length_cons, List.length_cons, h2], fun f hf => ?_⟩
    rcases List.mem_cons.mp hf with rfl | hf
    · exact ⟨i, t, rfl⟩
    · exact h3 f hf
theorem ps_sortable {a : Addr} {vs : List Value} {k : Value → Int × Str} (h0 : 0 < vs.length) (hp : ∀ v ∈ vs, IsPS s.heap v (k v).1 (k v).2) (hk : ∀ v ∈ vs, ∀ u ∈ vs, (k v).1 = (k u).1 → (k v).2 = (k u).2) (ha : ∀ o, s.heap.get? a = some o → o.cls ≠ .type "tuple") : SortableO prog w A s a vs (ltK k) := by
  intro h' keep
  have hp' : ∀ v ∈ vs, IsPS h' v (k v).1 (k v).2 := fun v hm => (hp v hm).keeps fun b o e c => keep b o (fun z => by subst z; exact ha o e c) e
  obtain ⟨fs, h1, h2, h3⟩ := ps_firsts fun v hm => ⟨_, _, hp' v hm⟩
  refine ⟨tuples' true, fun Q E hq => ?_, ps_cmp hp' hk⟩
  refine PySem.W.kat_kind (T := .type "int") h1 (by omega) (fun f hm => ?_) (by rfl) ?_
  · obtain ⟨x, t, rfl⟩ := h3 f hm
    exact PySem.W.Looks.now
  · have e : (Value.type "int" != Value.type "tuple") = true := by decide +kernel
    rw [e]
    exact hq
theorem sorted_ps {l : Addr} {vs : List Value} {k : Value → Int × Str} {Q : Value → Shared → Prop} (hl : s.heap.IsList l vs.toArray) (hz : vs.length ≤ sizeLine) (hp : ∀ v ∈ vs, IsPS s.heap v (k v).1 (k v).2) (hk : ∀ v ∈ vs, ∀ u ∈ vs, (k v).1 = (k u).1 → (k v).2 = (k u).2)
    (h : ∀ (h' : Heap) (d : Addr) (out : List Value), Srtd (ltK k) out → out.Perm vs → (∀ b o, s.heap.get? b = some o → h'.get? b = some o) → s.heap.objs.size ≤ d → (∃ n, h'.get? d = some (seqObj "list" out.toArray n)) → Q (.ref d) { s with heap := h' }) :
    wpAny (model prog w) A (call (.builtin "sorted") [.ref l]) Q E s := by
  refine sorted_ord (swoK k) hl hz (fun h2 h₁ a ha kk => ?_) fun out hs hb => ?_
  · refine ps_sortable (s := { s with heap := h₁ }) (by omega) (fun v hm => (hp v hm).keeps fun b o e _ => (kk b o e).2) hk fun o e => ?_
    have e' : some o = some (seqObj "list" vs.toArray 0) := e.symm.trans ha
    cases e'
    intro c
    exact absurd (Value.type.inj c) (by decide)
  · exact h _ _ out hs hb.perm (fun b o e => sortedAll_old e) (Nat.le_succ _) (sortedAll_at s.heap vs out.toArray)
def kOf (h : Heap) : Value → Int × Str
  | .ref a => match h.get? a with
    | some o => match o.data with
      | .seq its _ => match its.getD 0 Value.none, its.getD 1 Value.none with
        | .int i _, .str x _ => (i, x)
        | _, _ => (0, Str.empty)
      | _ => (0, Str.empty)
    | none => (0, Str.empty)
  | _ => (0, Str.empty)
theorem IsPS.k {h : Heap} {v : Value} {i : Int} {x : Str} (p : IsPS h v i x) : kOf h v = (i, x) := by
  obtain ⟨a, o, t, u, n, rfl, ho, hc, hd⟩ := p
  unfold kOf
  simp only [ho, hd]
  rfl
end
end Z
namespace Z
open PySem PySem.Spec L2
open PyProof.Rows hiding St
section
variable {X : Cx}
/-- sorted(xs), xs a list of pairs ps of an int and a text -/
def rSortedS (K : PySem.W.Frag) : List V → Hp → VK → Prop := fun vs H Q => ∃ (a : Addr) (xs : List V) (ps : List (Int × Str)), vs = [V.ref a] ∧ SqL K H a xs ∧ Paired (fun x p => ∃ t, x = V.ref t ∧ SqT K H t [.int p.1, .str p.2]) xs ps ∧ (ps.map (·.1)).Nodup ∧
  ∀ (zs : List (V × (Int × Str))) p, zs.Perm (xs.zip ps) → zs.Pairwise (fun a b => ¬ b.2.1 < a.2.1) → H p = none → Q (.ref p) (upd H p (.lst (zs.map (·.1))))
theorem ps_of {pins : List (Addr × Obj)} {σ : L2.St} {H : Hp} {s : Shared} (I : Inv X pins σ H s) : ∀ {xs : List V} {ps : List (Int × Str)} {its : List Value}, Paired (fun x p => ∃ t, x = V.ref t ∧ SqT X.K H t [.int p.1, .str p.2]) xs ps → Vals xs its →
    its.map (fun v => (backV v, kOf s.heap v)) = xs.zip ps ∧ ∀ v ∈ its, (∃ a, v = Value.ref a) ∧ IsPS s.heap v (kOf s.heap v).1 (kOf s.heap v).2 ∧ kOf s.heap v ∈ ps
  | _, _, _, .nil, .nil => ⟨rfl, fun v hv => by cases hv⟩
  | _, _, _, .cons (a := x) (b := p) h t, .cons r rs => by
    obtain ⟨e1, e2⟩ := ps_of I t rs
    obtain ⟨b, rfl, hq⟩ := h
    cases r
    obtain ⟨its2, rv, ⟨o, ho, hc, n, hd⟩, _⟩ := I.tuple hq
    obtain ⟨u1, u2, ei, ⟨t1, rfl⟩, ⟨t2, rfl⟩⟩ := vals2 rv
    subst ei
    have ip : IsPS s.heap (.ref b) p.1 p.2 := ⟨b, o, t1, t2, n, rfl, ho, hc, hd⟩
    have ek : kOf s.heap (.ref b) = p := ip.k
    refine ⟨by rw [List.map_cons, List.zip_cons_cons, e1, ek]; rfl, fun v hv => ?_⟩
    rcases List.mem_cons.mp hv with rfl | hv
    · exact ⟨⟨b, rfl⟩, by rw [ek]; exact ip, by rw [ek]; exact List.mem_cons_self⟩
    · obtain ⟨h1, h2, h3⟩ := e2 v hv
      exact ⟨h1, h2, List.mem_cons_of_mem _ h3⟩
theorem nodup_fst : ∀ {ps : List (Int × Str)}, (ps.map (·.1)).Nodup → ∀ p ∈ ps, ∀ q ∈ ps, p.1 = q.1 → p.2 = q.2
  | [], _, p, hp, _, _, _ => by cases hp
  | r :: rs, h, p, hp, q, hq, e => by
    rw [List.map_cons, List.nodup_cons] at h
    rcases List.mem_cons.mp hp with e1 | hp1 <;> rcases List.mem_cons.mp hq with e2 | hq1
    · rw [e1, e2]
    · exact absurd (List.mem_map.mpr ⟨q, hq1, by rw [← e, e1]⟩) h.1
    · exact absurd (List.mem_map.mpr ⟨p, hp1, by rw [e, e2]⟩) h.1
    · exact nodup_fst h.2 p hp1 q hq1 e
theorem cr_sortedS : CallR X (.builtin "sorted") (rSortedS X.K) := by
  intro pins s σ H vs us Q I r h
  obtain ⟨a, xs, ps, rfl, hs, hx, hn, q⟩ := h
  obtain ⟨its, rv, hl, hz⟩ := I.list hs
  obtain ⟨u, rfl, ru⟩ := vals1 r
  obtain rfl : u = Value.ref a := ru
  obtain ⟨e1, e2⟩ := ps_of I hx rv
  refine sorted_ps (k := kOf s.heap) hl.isList (by rw [← rv.length]; exact hz) (fun v hv => (e2 v hv).2.1) (fun v hv u hu e => nodup_fst hn _ (e2 v hv).2.2 _ (e2 u hu).2.2 e) fun h' d out h1 h2 kp hd hn2 => ?_
  have h3 : ∀ u ∈ out, ∃ a, u = Value.ref a := fun u hu => (e2 u (h2.mem_iff.mp hu)).1
  obtain ⟨n, hn2⟩ := hn2
  have em : (out.map (fun v => (backV v, kOf s.heap v))).map (·.1) = out.map backV := by rw [List.map_map]; rfl
  refine ⟨.ref d, upd H d (.lst (out.map backV)), I.laid (t' := s.toks) kp hd ⟨?_, out, n, vals_back h3, hn2⟩, rfl, ?_⟩
  · rw [List.length_map, h2.length_eq, ← rv.length]; exact hz
  · rw [← em]
    refine q _ d ?_ ?_ (I.hok.fresh hd)
    · rw [← e1]
      exact h2.map _
    · rw [List.pairwise_map]
      refine List.Pairwise.imp (fun {v u} h => ?_) h1
      exact of_decide_eq_false h
end
end Z
namespace Z
open PySem PySem.Spec L2
open PyProof.Rows hiding St
/-! ### values without a heap, and how they lie in it -/
inductive W where
  | non | bl (b : Bool) | int (i : Int) | str (x : Str)
  | tup (xs : List W) | lst (xs : List W) | dct (ks xs : List W)
  | lck (xs : List W)
  | ob (n : Nat)
  deriving Inhabited
abbrev CH := List W
abbrev Env := List (Option W)
mutual
def W.beq : W → W → Bool
  | .non, .non => true
  | .bl a, .bl b => a == b
  | .int a, .int b => decide (a = b)
  | .str a, .str b => decide (a = b)
  | .tup a, .tup b => W.beqs a b
  | .lst a, .lst b => W.beqs a b
  | .dct a b, .dct c d => W.beqs a c && W.beqs b d
  | .lck a, .lck b => W.beqs a b
  | .ob a, .ob b => decide (a = b)
  | _, _ => false
def W.beqs : List W → List W → Bool
  | [], [] => true
  | x :: xs, y :: ys => W.beq x y && W.beqs xs ys
  | _, _ => false
end
mutual
theorem W.beq_ok : ∀ {x y : W}, W.beq x y = true → x = y
  | .non, y, h => by cases y <;> simp [W.beq] at h; rfl
  | .bl a, y, h => by cases y <;> simp [W.beq] at h; rw [h]
  | .int a, y, h => by cases y <;> simp [W.beq] at h; rw [h]
  | .str a, y, h => by cases y <;> simp [W.beq] at h; rw [h]
  | .tup a, y, h => by cases y <;> simp [W.beq] at h; rw [W.beqs_ok h]
  | .lst a, y, h => by cases y <;> simp [W.beq] at h; rw [W.beqs_ok h]
  | .dct a b, y, h => by
    cases y <;> simp [W.beq] at h
    rw [W.beqs_ok h.1, W.beqs_ok h.2]
  | .lck a, y, h => by cases y <;> simp [W.beq] at h; rw [W.beqs_ok h]
  | .ob a, y, h => by cases y <;> simp [W.beq] at h; rw [h]
theorem W.beqs_ok : ∀ {x y : List W}, W.beqs x y = true → x = y
  | [], y, h => by cases y <;> simp [W.beqs] at h; rfl
  | a :: x, y, h => by
    cases y <;> simp [W.beqs] at h
    rw [W.beq_ok h.1, W.beqs_ok h.2]
end
/-- where the tracked objects lie; the addresses that no value may speak of (lists in the making) -/
structure M where
  ob : List Addr
  hd : List Addr
def M.has (m : M) (a : Addr) : Prop := a ∈ m.ob ∨ a ∈ m.hd
def M.hide (m : M) (a : Addr) : M := ⟨m.ob, a :: m.hd⟩
/-- .. becomes tracked -/
def M.track (m : M) (a : Addr) : M := ⟨m.ob ++ [a], m.hd⟩
theorem M.track_hide {m : M} {a b : Addr} (h : (m.track a).has b) : (m.hide a).has b := by
  rcases h with h | h
  · rcases List.mem_append.mp h with h | h
    · exact .inl h
    · exact .inr (by rw [List.mem_singleton.mp h]; exact List.mem_cons_self)
  · exact .inr (List.mem_cons_of_mem _ h)
/-- a text that may be met: its size, its signs -/
def StrOk (x : Str) : Prop := x.length ≤ sizeLine ∧ x.cps.all (· < 0x110000) = true
def keyW : Key → W
  | .inl i => .int i
  | .inr x => .str x
/-- a tuple that no tracked address holds, or one of the module -/
def FT (K : PySem.W.Frag) (mp : M) (H : Hp) (a : Addr) (vs : List V) : Prop :=
  vs.length ≤ sizeLine ∧ (((∃ ob, H a = some (.frz ob (.tup vs)) ∧ PlT ob) ∧ ¬ mp.has a) ∨ ∃ (o : Obj) (its : Array Value) (n : Nat), K.lookup a = some o ∧ o.cls = .type "tuple" ∧ o.dict = none ∧ o.data = .seq its n ∧ its.size ≤ sizeLine ∧ Vals vs its.toList)
/-- a list that no tracked address holds -/
def FL (mp : M) (H : Hp) (a : Addr) (vs : List V) : Prop := vs.length ≤ sizeLine ∧ H a = some (.lst vs) ∧ ¬ mp.has a
/-- a list that is only read -/
def FK (K : PySem.W.Frag) (mp : M) (H : Hp) (a : Addr) (vs : List V) : Prop :=
  vs.length ≤ sizeLine ∧ ((Rd H a (.lst vs) ∧ ¬ mp.has a) ∨ ∃ (o : Obj) (its : Array Value) (n : Nat), K.lookup a = some o ∧ o.cls = .type "list" ∧ o.dict = none ∧ o.data = .seq its n ∧ its.size ≤ sizeLine ∧ Vals vs its.toList)
theorem FT.sq {K : PySem.W.Frag} {mp : M} {H : Hp} {a : Addr} {vs : List V} (h : FT K mp H a vs) : SqT K H a vs := by
  rcases h.2 with ⟨⟨ob, h, _⟩, _⟩ | ⟨o, its, n, h1, h2, _, h3⟩
  · exact .inl (.inr ⟨ob, h⟩)
  · exact .inr ⟨o, its, n, h1, h2, h3⟩
theorem FL.sq {K : PySem.W.Frag} {mp : M} {H : Hp} {a : Addr} {vs : List V} (h : FL mp H a vs) : SqL K H a vs := .of h.2.1
theorem FK.sq {K : PySem.W.Frag} {mp : M} {H : Hp} {a : Addr} {vs : List V} (h : FK K mp H a vs) : SqL K H a vs := by
  rcases h.2 with h | h
  · exact .inl h.1
  · exact .inr h
mutual
def Rp (K : PySem.W.Frag) (mp : M) (H : Hp) : W → V → Prop
  | .non, u => u = .non
  | .bl b, u => u = .bl b
  | .int i, u => u = .int i
  | .str x, u => u = .str x ∧ StrOk x
  | .tup xs, u => ∃ a vs, u = .ref a ∧ FT K mp H a vs ∧ RpL K mp H xs vs
  | .lst xs, u => ∃ a vs, u = .ref a ∧ FL mp H a vs ∧ RpL K mp H xs vs
  | .lck xs, u => ∃ a vs, u = .ref a ∧ FK K mp H a vs ∧ RpL K mp H xs vs
  | .dct ks xs, u => ∃ a, u = .ref a ∧ ¬ mp.has a ∧ ((∃ kvs : List (Key × V), Rd H a (.dK kvs) ∧ ks = kvs.map (fun p => keyW p.1) ∧ RpL K mp H xs (kvs.map (·.2))) ∨
      (∃ kvs : List (List Key × V), (Rd H a (.dT kvs) ∧ kvs ≠ []) ∧ ks = kvs.map (fun p => W.tup (p.1.map keyW)) ∧ RpL K mp H xs (kvs.map (·.2))))
  | .ob n, u => ∃ a, u = .ref a ∧ mp.ob[n]? = some a
def RpL (K : PySem.W.Frag) (mp : M) (H : Hp) : List W → List V → Prop
  | [], us => us = []
  | x :: xs, us => ∃ u us', us = u :: us' ∧ Rp K mp H x u ∧ RpL K mp H xs us'
end
/-- a tracked object -/
def RO (K : PySem.W.Frag) (mp : M) (H : Hp) (a : Addr) : W → Prop
  | .lst xs => ∃ vs, H a = some (.lst vs) ∧ vs.length ≤ sizeLine ∧ RpL K mp H xs vs
  | .dct ks xs => (∃ kvs : List (Key × V), H a = some (.dK kvs) ∧ ks = kvs.map (fun p => keyW p.1) ∧ RpL K mp H xs (kvs.map (·.2))) ∨
      (∃ kvs : List (List Key × V), (H a = some (.dT kvs) ∧ kvs ≠ []) ∧ ks = kvs.map (fun p => W.tup (p.1.map keyW)) ∧ RpL K mp H xs (kvs.map (·.2)))
  | _ => False
structure Sim (K : PySem.W.Frag) (mp : M) (g : CH) (H : Hp) : Prop where
  nd : mp.ob.Nodup
  len : mp.ob.length = g.length
  obj : ∀ (n : Nat) (w : W), g[n]? = some w → ∃ a, mp.ob[n]? = some a ∧ RO K mp H a w
  hid : ∀ a ∈ mp.hd, (∃ o, H a = some o) ∧ a ∉ mp.ob
  ndh : mp.hd.Nodup
/-- what a value's relation leans on is kept -/
structure Ext0 (mp : M) (H : Hp) (mp' : M) (H' : Hp) : Prop where
  pre : mp.ob <+: mp'.ob
  fre : ∀ a, mp'.has a → mp.has a ∨ H a = none
  keep : ∀ a o, ¬ mp.has a → H a = some o → H' a = some o
/-- a step: all but the tracked objects is kept -/
structure Ext (mp : M) (H : Hp) (mp' : M) (H' : Hp) : Prop where
  pre : mp.ob <+: mp'.ob
  freO : ∀ a, a ∈ mp'.ob → a ∈ mp.ob ∨ H a = none
  keep : ∀ a o, a ∉ mp.ob → H a = some o → H' a = some o
  hd : mp'.hd = mp.hd
def EnvR (K : PySem.W.Frag) (mp : M) (H : Hp) (env : Env) (σ : St) : Prop :=
  env.length = σ.length ∧ ∀ (i : Nat) (w : W), env[i]? = some (some w) → ∃ u, σ[i]? = some (some u) ∧ Rp K mp H w u
section
variable {K : PySem.W.Frag} {mp mp' mp'' : M} {H H' H'' : Hp} {g g' : CH} {a : Addr} {vs us : List V} {xs ys : List W} {w : W} {u : V}
theorem RO.some_ {w : W} (h : RO K mp H a w) : ∃ o, H a = some o := by
  cases w with
  | lst xs => obtain ⟨vs, h, _⟩ := h; exact ⟨_, h⟩
  | dct ks xs => rcases h with ⟨kvs, h, _⟩ | ⟨kvs, ⟨h, _⟩, _⟩ <;> exact ⟨_, h⟩
  | _ => exact h.elim
theorem Sim.some_ (s : Sim K mp g H) (h : mp.has a) : ∃ o, H a = some o := by
  rcases h with h | h
  · obtain ⟨n, hn, e⟩ := List.mem_iff_getElem.mp h
    have hg : n < g.length := by rw [← s.len]; exact hn
    obtain ⟨b, e2, r⟩ := s.obj n g[n] (List.getElem?_eq_getElem hg)
    have : mp.ob[n]? = some a := by rw [List.getElem?_eq_getElem hn, e]
    rw [this] at e2; cases e2
    exact r.some_
  · exact (s.hid a h).1
theorem Sim.fresh (s : Sim K mp g H) (h : H a = none) : ¬ mp.has a := fun hm => by
  obtain ⟨o, e⟩ := s.some_ hm
  rw [h] at e; cases e
theorem M.nob (h : ¬ mp.has a) : a ∉ mp.ob := fun z => h (.inl z)
theorem Ext.e0 (e : Ext mp H mp' H') : Ext0 mp H mp' H' := ⟨e.pre, fun a h => by
  rcases h with h | h
  · rcases e.freO a h with h | h
    · exact .inl (.inl h)
    · exact .inr h
  · exact .inl (.inr (by rw [← e.hd]; exact h)), fun a o hn h => e.keep a o (M.nob hn) h⟩
theorem Ext.refl : Ext mp H mp H := ⟨List.prefix_refl _, fun _ h => .inl h, fun _ _ _ h => h, rfl⟩
theorem Ext0.nin (e : Ext0 mp H mp' H') {o : HO} (h : H a = some o) (hn : ¬ mp.has a) : ¬ mp'.has a := fun hm => by
  rcases e.fre a hm with h1 | h1
  · exact hn h1
  · rw [h] at h1; cases h1
theorem Ext.nob (e : Ext mp H mp' H') {o : HO} (h : H a = some o) (hn : a ∉ mp.ob) : a ∉ mp'.ob := fun hm => by
  rcases e.freO a hm with h1 | h1
  · exact hn h1
  · rw [h] at h1; cases h1
theorem Ext.back (e : Ext mp H mp' H') (hn : a ∉ mp.ob) (h : H' a = none) : H a = none := by
  cases q : H a with
  | none => rfl
  | some o => rw [e.keep a o hn q] at h; cases h
theorem Ext.sub (e : Ext mp H mp' H') (h : a ∈ mp.ob) : a ∈ mp'.ob := e.pre.subset h
theorem Ext.trans (e : Ext mp H mp' H') (f : Ext mp' H' mp'' H'') : Ext mp H mp'' H'' := by
  refine ⟨e.pre.trans f.pre, fun a h => ?_, fun a o hn h => f.keep a o (e.nob h hn) (e.keep a o hn h), f.hd.trans e.hd⟩
  rcases f.freO a h with h1 | h1
  · exact e.freO a h1
  · by_cases hm : a ∈ mp.ob
    · exact .inl hm
    · exact .inr (e.back hm h1)
/-- free behind a step: free ahead of it -/
theorem Ext.free (e : Ext mp H mp' H') (s : Sim K mp' g H') (h : H' a = none) : H a = none := e.back (fun z => s.fresh h (.inl (e.sub z))) h
theorem Ext0.rd (e : Ext0 mp H mp' H') {o : HO} (h : Rd H a o) (hn : ¬ mp.has a) : Rd H' a o ∧ ¬ mp'.has a := by
  rcases h with h | ⟨ob, h⟩
  · exact ⟨.inl (e.keep _ _ hn h), e.nin h hn⟩
  · exact ⟨.inr ⟨ob, e.keep _ _ hn h⟩, e.nin h hn⟩
theorem FT.ext0 (h : FT K mp H a vs) (e : Ext0 mp H mp' H') : FT K mp' H' a vs := by
  refine ⟨h.1, ?_⟩
  rcases h.2 with ⟨⟨ob, h, p⟩, hn⟩ | h
  · exact .inl ⟨⟨ob, e.keep _ _ hn h, p⟩, e.nin h hn⟩
  · exact .inr h
theorem FL.ext0 (h : FL mp H a vs) (e : Ext0 mp H mp' H') : FL mp' H' a vs := ⟨h.1, e.keep _ _ h.2.2 h.2.1, e.nin h.2.1 h.2.2⟩
theorem FK.ext0 (h : FK K mp H a vs) (e : Ext0 mp H mp' H') : FK K mp' H' a vs := by
  refine ⟨h.1, ?_⟩
  rcases h.2 with h | h
  · exact .inl (e.rd h.1 h.2)
  · exact .inr h
mutual
theorem Rp.ext0 (e : Ext0 mp H mp' H') : ∀ {w : W} {u : V}, Rp K mp H w u → Rp K mp' H' w u
  | .non, _, h => by simp only [Rp] at h ⊢; exact h
  | .bl _, _, h => by simp only [Rp] at h ⊢; exact h
  | .int _, _, h => by simp only [Rp] at h ⊢; exact h
  | .str _, _, h => by simp only [Rp] at h ⊢; exact h
  | .tup xs, _, h => by
    simp only [Rp] at h ⊢
    obtain ⟨a, vs, h1, h2, h3⟩ := h
    exact ⟨a, vs, h1, h2.ext0 e, RpL.ext0 e h3⟩
  | .lst xs, _, h => by
    simp only [Rp] at h ⊢
    obtain ⟨a, vs, h1, h2, h3⟩ := h
    exact ⟨a, vs, h1, h2.ext0 e, RpL.ext0 e h3⟩
  | .lck xs, _, h => by
    simp only [Rp] at h ⊢
    obtain ⟨a, vs, h1, h2, h3⟩ := h
    exact ⟨a, vs, h1, h2.ext0 e, RpL.ext0 e h3⟩
  | .dct ks xs, _, h => by
    simp only [Rp] at h ⊢
    obtain ⟨a, h1, h2, h3⟩ := h
    rcases h3 with ⟨kvs, k1, k2, k3⟩ | ⟨kvs, k1, k2, k3⟩
    · exact ⟨a, h1, (e.rd k1 h2).2, .inl ⟨kvs, (e.rd k1 h2).1, k2, RpL.ext0 e k3⟩⟩
    · exact ⟨a, h1, (e.rd k1.1 h2).2, .inr ⟨kvs, ⟨(e.rd k1.1 h2).1, k1.2⟩, k2, RpL.ext0 e k3⟩⟩
  | .ob n, _, h => by
    simp only [Rp] at h ⊢
    obtain ⟨a, h1, h2⟩ := h
    obtain ⟨l, e1⟩ := e.pre
    refine ⟨a, h1, ?_⟩
    rw [← e1, List.getElem?_append_left (by exact (List.getElem?_eq_some_iff.mp h2).1)]
    exact h2
theorem RpL.ext0 (e : Ext0 mp H mp' H') : ∀ {xs : List W} {us : List V}, RpL K mp H xs us → RpL K mp' H' xs us
  | [], _, h => by simp only [RpL] at h ⊢; exact h
  | x :: xs, _, h => by
    simp only [RpL] at h ⊢
    obtain ⟨u, us, h1, h2, h3⟩ := h
    exact ⟨u, us, h1, Rp.ext0 e h2, RpL.ext0 e h3⟩
end
theorem Rp.ext (e : Ext mp H mp' H') {w : W} {u : V} (h : Rp K mp H w u) : Rp K mp' H' w u := h.ext0 e.e0
theorem RpL.ext (e : Ext mp H mp' H') {w : List W} {u : List V} (h : RpL K mp H w u) : RpL K mp' H' w u := h.ext0 e.e0
theorem EnvR.ext {env : Env} {σ : St} (h : EnvR K mp H env σ) (e : Ext mp H mp' H') : EnvR K mp' H' env σ :=
  ⟨h.1, fun i w hw => let ⟨u, h1, h2⟩ := h.2 i w hw; ⟨u, h1, h2.ext e⟩⟩
theorem EnvR.set {env : Env} {σ : St} (h : EnvR K mp H env σ) (r : Rp K mp H w u) (i : Nat) : EnvR K mp H (env.set i (some w)) (σ.set i (some u)) := by
  refine ⟨by rw [List.length_set, List.length_set, h.1], fun j x hx => ?_⟩
  by_cases hj : i = j
  · subst hj
    by_cases hi : i < env.length
    · rw [List.getElem?_set_self hi] at hx
      cases hx
      exact ⟨u, by rw [List.getElem?_set_self (by rw [← h.1]; exact hi)], r⟩
    · rw [List.getElem?_eq_none (by rw [List.length_set]; omega)] at hx
      cases hx
  · rw [List.getElem?_set_ne hj] at hx ⊢
    exact h.2 j x hx
/-- lists -/
theorem RpL.length : ∀ {xs : List W} {us : List V}, RpL K mp H xs us → xs.length = us.length
  | [], _, h => by simp only [RpL] at h; rw [h]; rfl
  | x :: xs, _, h => by
    simp only [RpL] at h
    obtain ⟨u, us, rfl, _, h3⟩ := h
    simp only [List.length_cons, RpL.length h3]
theorem RpL.get : ∀ {xs : List W} {us : List V} {i : Nat} {x : W}, RpL K mp H xs us → xs[i]? = some x → ∃ u, us[i]? = some u ∧ Rp K mp H x u
  | [], _, _, _, _, e => by simp at e
  | y :: xs, _, 0, x, h, e => by
    simp only [RpL] at h
    obtain ⟨u, us, rfl, h2, _⟩ := h
    simp at e; subst e
    exact ⟨u, rfl, h2⟩
  | y :: xs, _, i + 1, x, h, e => by
    simp only [RpL] at h
    obtain ⟨u, us, rfl, _, h3⟩ := h
    simpa using RpL.get (i := i) h3 (by simpa using e)
theorem RpL.get' : ∀ {xs : List W} {us : List V} {i : Nat} {u : V}, RpL K mp H xs us → us[i]? = some u → ∃ x, xs[i]? = some x ∧ Rp K mp H x u
  | [], _, _, _, h, e => by simp only [RpL] at h; subst h; simp at e
  | y :: xs, _, 0, x, h, e => by
    simp only [RpL] at h
    obtain ⟨u, us, rfl, h2, _⟩ := h
    simp at e; subst e
    exact ⟨y, rfl, h2⟩
  | y :: xs, _, i + 1, x, h, e => by
    simp only [RpL] at h
    obtain ⟨u, us, rfl, _, h3⟩ := h
    simpa using RpL.get' (i := i) h3 (by simpa using e)
theorem RpL.nil : RpL K mp H [] [] := by simp only [RpL]
theorem RpL.cons (r : Rp K mp H w u) (h : RpL K mp H xs us) : RpL K mp H (w :: xs) (u :: us) := by
  simp only [RpL]
  exact ⟨u, us, rfl, r, h⟩
theorem RpL.append : ∀ {xs : List W} {us : List V}, RpL K mp H xs us → RpL K mp H ys vs → RpL K mp H (xs ++ ys) (us ++ vs)
  | [], _, h, h' => by simp only [RpL] at h; subst h; exact h'
  | x :: xs, _, h, h' => by
    simp only [RpL] at h
    obtain ⟨u, us, rfl, h2, h3⟩ := h
    exact RpL.cons h2 (RpL.append h3 h')
theorem RpL.take : ∀ {xs : List W} {us : List V} (n : Nat), RpL K mp H xs us → RpL K mp H (xs.take n) (us.take n)
  | _, _, 0, _ => by simpa using RpL.nil
  | [], _, n + 1, h => by simp only [RpL] at h; subst h; exact RpL.nil
  | x :: xs, _, n + 1, h => by
    simp only [RpL] at h
    obtain ⟨u, us, rfl, h2, h3⟩ := h
    exact RpL.cons h2 (RpL.take n h3)
theorem RpL.drop : ∀ {xs : List W} {us : List V} (n : Nat), RpL K mp H xs us → RpL K mp H (xs.drop n) (us.drop n)
  | _, _, 0, h => h
  | [], _, n + 1, h => by simp only [RpL] at h; subst h; exact RpL.nil
  | x :: xs, _, n + 1, h => by
    simp only [RpL] at h
    obtain ⟨u, us, rfl, h2, h3⟩ := h
    exact RpL.drop n h3
theorem RpL.set : ∀ {xs : List W} {us : List V} (n : Nat), Rp K mp H w u → RpL K mp H xs us → RpL K mp H (xs.set n w) (us.set n u)
  | [], _, n, r, h => by simp only [RpL] at h; subst h; exact RpL.nil
  | x :: xs, _, 0, r, h => by
    simp only [RpL] at h
    obtain ⟨u, us, rfl, h2, h3⟩ := h
    exact RpL.cons r h3
  | x :: xs, _, n + 1, r, h => by
    simp only [RpL] at h
    obtain ⟨u, us, rfl, h2, h3⟩ := h
    exact RpL.cons h2 (RpL.set n r h3)
theorem RpL.eraseIdx : ∀ {xs : List W} {us : List V} (n : Nat), RpL K mp H xs us → RpL K mp H (xs.eraseIdx n) (us.eraseIdx n)
  | [], _, n, h => by simp only [RpL] at h; subst h; exact RpL.nil
  | x :: xs, _, 0, h => by
    simp only [RpL] at h
    obtain ⟨u, us, rfl, h2, h3⟩ := h
    exact h3
  | x :: xs, _, n + 1, h => by
    simp only [RpL] at h
    obtain ⟨u, us, rfl, h2, h3⟩ := h
    exact RpL.cons h2 (RpL.eraseIdx n h3)
theorem RpL.ints : ∀ {us : List V} {ns : List Int}, RpL K mp H (ns.map W.int) us → us = ns.map V.int
  | _, [], h => by simp only [List.map_nil, RpL] at h; exact h
  | _, n :: ns, h => by
    simp only [List.map_cons, RpL, Rp] at h
    obtain ⟨u, us, rfl, rfl, h3⟩ := h
    rw [List.map_cons, RpL.ints h3]
theorem RpL.of_ints : ∀ (ns : List Int), RpL K mp H (ns.map W.int) (ns.map V.int)
  | [] => RpL.nil
  | n :: ns => RpL.cons (by simp only [Rp]) (RpL.of_ints ns)
end
/-! ### the heap of the tracked changes -/
section
variable {K : PySem.W.Frag} {mp : M} {H : Hp} {g : CH} {a : Addr} {vs : List V} {xs : List W} {w : W} {o : HO}
/-- a new object that is not tracked -/
theorem Ext.new (hn : H a = none) : Ext mp H mp (upd H a o) :=
  ⟨List.prefix_refl _, fun _ h => .inl h, fun b x _ h => by rw [upd_ne (ne_of_none h hn)]; exact h, rfl⟩
theorem RO.ext0 {mp' : M} {H' : Hp} (e : Ext0 mp H mp' H') (hk : ∀ o, H a = some o → H' a = some o) : ∀ {w : W}, RO K mp H a w → RO K mp' H' a w
  | .lst xs, ⟨vs, h, hz, r⟩ => ⟨vs, hk _ h, hz, r.ext0 e⟩
  | .dct ks xs, h => by
    rcases h with ⟨kvs, h, h2, h3⟩ | ⟨kvs, h, h2, h3⟩
    · exact .inl ⟨kvs, hk _ h, h2, h3.ext0 e⟩
    · exact .inr ⟨kvs, ⟨hk _ h.1, h.2⟩, h2, h3.ext0 e⟩
theorem Sim.new (s : Sim K mp g H) (hn : H a = none) : Sim K mp g (upd H a o) :=
  ⟨s.nd, s.len, fun n w h => let ⟨b, h1, h2⟩ := s.obj n w h; ⟨b, h1, h2.ext0 (Ext.new hn).e0 fun ob q => by rw [upd_ne (ne_of_none q hn)]; exact q⟩,
    fun b hb => let ⟨⟨ob, h1⟩, h2⟩ := s.hid b hb; ⟨⟨ob, by rw [upd_ne (ne_of_none h1 hn)]; exact h1⟩, h2⟩, s.ndh⟩
/-- a new object that no value speaks of -/
theorem Ext0.hide (hn : H a = none) : Ext0 mp H (mp.hide a) (upd H a o) :=
  ⟨List.prefix_refl _, fun b h => by
    rcases h with h | h
    · exact .inl (.inl h)
    · rcases List.mem_cons.mp h with h | h
      · right; rw [h]; exact hn
      · exact .inl (.inr h), fun b x _ h => by rw [upd_ne (ne_of_none h hn)]; exact h⟩
theorem Sim.hide (s : Sim K mp g H) (hn : H a = none) : Sim K (mp.hide a) g (upd H a o) :=
  ⟨s.nd, s.len, fun n w h => let ⟨b, h1, h2⟩ := s.obj n w h; ⟨b, h1, h2.ext0 (.hide hn) fun ob q => by rw [upd_ne (ne_of_none q hn)]; exact q⟩,
    fun b hb => by
      rcases List.mem_cons.mp hb with e | hb
      · subst e
        exact ⟨⟨o, upd_same⟩, fun z => s.fresh hn (.inl z)⟩
      · obtain ⟨⟨ob, h1⟩, h2⟩ := s.hid b hb
        exact ⟨⟨ob, by rw [upd_ne (ne_of_none h1 hn)]; exact h1⟩, h2⟩,
    List.nodup_cons.mpr ⟨fun z => s.fresh hn (.inr z), s.ndh⟩⟩
/-- a hidden object changes -/
theorem Ext0.updHid : Ext0 (mp.hide a) H (mp.hide a) (upd H a o) :=
  ⟨List.prefix_refl _, fun b h => .inl h, fun b x hb h => by rw [upd_ne (fun z => hb (.inr (by rw [z]; exact List.mem_cons_self)))]; exact h⟩
theorem Sim.updHid (s : Sim K (mp.hide a) g H) : Sim K (mp.hide a) g (upd H a o) := by
  have ha := (s.hid a List.mem_cons_self).2
  refine ⟨s.nd, s.len, fun n w h => ?_, fun b hb => ?_, s.ndh⟩
  · obtain ⟨b, h1, h2⟩ := s.obj n w h
    refine ⟨b, h1, h2.ext0 .updHid fun ob q => ?_⟩
    rw [upd_ne (fun z => ha (by rw [← z]; exact List.mem_of_getElem? h1))]; exact q
  · obtain ⟨⟨ob, h1⟩, h2⟩ := s.hid b hb
    refine ⟨?_, h2⟩
    by_cases q : b = a
    · rw [q, upd_same]; exact ⟨_, rfl⟩
    · rw [upd_ne q]; exact ⟨ob, h1⟩
mutual
/-- an address is no more hidden -/
theorem Rp.unhide : ∀ {w : W} {u : V}, Rp K (mp.hide a) H w u → Rp K mp H w u
  | .non, _, h => by simp only [Rp] at h ⊢; exact h
  | .bl _, _, h => by simp only [Rp] at h ⊢; exact h
  | .int _, _, h => by simp only [Rp] at h ⊢; exact h
  | .str _, _, h => by simp only [Rp] at h ⊢; exact h
  | .tup xs, _, h => by
    simp only [Rp] at h ⊢
    obtain ⟨b, vs, h1, h2, h3⟩ := h
    refine ⟨b, vs, h1, ⟨h2.1, ?_⟩, RpL.unhide h3⟩
    rcases h2.2 with q | q
    · exact .inl ⟨q.1, fun z => q.2 (z.elim .inl fun z => .inr (List.mem_cons_of_mem _ z))⟩
    · exact .inr q
  | .lst xs, _, h => by
    simp only [Rp] at h ⊢
    obtain ⟨b, vs, h1, h2, h3⟩ := h
    exact ⟨b, vs, h1, ⟨h2.1, h2.2.1, fun z => h2.2.2 (z.elim .inl fun z => .inr (List.mem_cons_of_mem _ z))⟩, RpL.unhide h3⟩
  | .lck xs, _, h => by
    simp only [Rp] at h ⊢
    obtain ⟨b, vs, h1, h2, h3⟩ := h
    refine ⟨b, vs, h1, ⟨h2.1, ?_⟩, RpL.unhide h3⟩
    rcases h2.2 with q | q
    · exact .inl ⟨q.1, fun z => q.2 (z.elim .inl fun z => .inr (List.mem_cons_of_mem _ z))⟩
    · exact .inr q
  | .dct ks xs, _, h => by
    simp only [Rp] at h ⊢
    obtain ⟨b, h1, h2, h3⟩ := h
    refine ⟨b, h1, fun z => h2 (z.elim .inl fun z => .inr (List.mem_cons_of_mem _ z)), ?_⟩
    rcases h3 with ⟨kvs, k1, k2, k3⟩ | ⟨kvs, k1, k2, k3⟩
    · exact .inl ⟨kvs, k1, k2, RpL.unhide k3⟩
    · exact .inr ⟨kvs, k1, k2, RpL.unhide k3⟩
  | .ob n, _, h => by simp only [Rp] at h ⊢; exact h
theorem RpL.unhide : ∀ {xs : List W} {us : List V}, RpL K (mp.hide a) H xs us → RpL K mp H xs us
  | [], _, h => by simp only [RpL] at h ⊢; exact h
  | x :: xs, _, h => by
    simp only [RpL] at h ⊢
    obtain ⟨u, us, h1, h2, h3⟩ := h
    exact ⟨u, us, h1, Rp.unhide h2, RpL.unhide h3⟩
end
theorem RO.unhide : ∀ {w : W} {b : Addr}, RO K (mp.hide a) H b w → RO K mp H b w
  | .lst xs, _, ⟨vs, h, hz, r⟩ => ⟨vs, h, hz, r.unhide⟩
  | .dct ks xs, _, h => by
    rcases h with ⟨kvs, h, h2, h3⟩ | ⟨kvs, h, h2, h3⟩
    · exact .inl ⟨kvs, h, h2, h3.unhide⟩
    · exact .inr ⟨kvs, h, h2, h3.unhide⟩
theorem Sim.unhide (s : Sim K (mp.hide a) g H) : Sim K mp g H :=
  ⟨s.nd, s.len, fun n w h => let ⟨b, h1, h2⟩ := s.obj n w h; ⟨b, h1, h2.unhide⟩, fun b hb => s.hid b (List.mem_cons_of_mem _ hb), (List.nodup_cons.mp s.ndh).2⟩
mutual
theorem Rp.track : ∀ {w : W} {u : V}, Rp K (mp.hide a) H w u → Rp K (mp.track a) H w u
  | .non, _, h => by simp only [Rp] at h ⊢; exact h
  | .bl _, _, h => by simp only [Rp] at h ⊢; exact h
  | .int _, _, h => by simp only [Rp] at h ⊢; exact h
  | .str _, _, h => by simp only [Rp] at h ⊢; exact h
  | .tup xs, _, h => by
    simp only [Rp] at h ⊢
    obtain ⟨b, vs, h1, h2, h3⟩ := h
    refine ⟨b, vs, h1, ⟨h2.1, ?_⟩, RpL.track h3⟩
    rcases h2.2 with q | q
    · exact .inl ⟨q.1, fun z => q.2 (M.track_hide z)⟩
    · exact .inr q
  | .lst xs, _, h => by
    simp only [Rp] at h ⊢
    obtain ⟨b, vs, h1, h2, h3⟩ := h
    exact ⟨b, vs, h1, ⟨h2.1, h2.2.1, fun z => h2.2.2 (M.track_hide z)⟩, RpL.track h3⟩
  | .lck xs, _, h => by
    simp only [Rp] at h ⊢
    obtain ⟨b, vs, h1, h2, h3⟩ := h
    refine ⟨b, vs, h1, ⟨h2.1, ?_⟩, RpL.track h3⟩
    rcases h2.2 with q | q
    · exact .inl ⟨q.1, fun z => q.2 (M.track_hide z)⟩
    · exact .inr q
  | .dct ks xs, _, h => by
    simp only [Rp] at h ⊢
    obtain ⟨b, h1, h2, h3⟩ := h
    refine ⟨b, h1, fun z => h2 (M.track_hide z), ?_⟩
    rcases h3 with ⟨kvs, k1, k2, k3⟩ | ⟨kvs, k1, k2, k3⟩
    · exact .inl ⟨kvs, k1, k2, RpL.track k3⟩
    · exact .inr ⟨kvs, k1, k2, RpL.track k3⟩
  | .ob n, _, h => by
    simp only [Rp] at h ⊢
    obtain ⟨b, h1, h2⟩ := h
    refine ⟨b, h1, ?_⟩
    show (mp.ob ++ [a])[n]? = some b
    rw [List.getElem?_append_left (by exact (List.getElem?_eq_some_iff.mp h2).1)]
    exact h2
theorem RpL.track : ∀ {xs : List W} {us : List V}, RpL K (mp.hide a) H xs us → RpL K (mp.track a) H xs us
  | [], _, h => by simp only [RpL] at h ⊢; exact h
  | x :: xs, _, h => by
    simp only [RpL] at h ⊢
    obtain ⟨u, us, h1, h2, h3⟩ := h
    exact ⟨u, us, h1, Rp.track h2, RpL.track h3⟩
end
theorem RO.track : ∀ {w : W} {b : Addr}, RO K (mp.hide a) H b w → RO K (mp.track a) H b w
  | .lst xs, _, ⟨vs, h, hz, r⟩ => ⟨vs, h, hz, r.track⟩
  | .dct ks xs, _, h => by
    rcases h with ⟨kvs, h, h2, h3⟩ | ⟨kvs, h, h2, h3⟩
    · exact .inl ⟨kvs, h, h2, h3.track⟩
    · exact .inr ⟨kvs, h, h2, h3.track⟩
theorem Ext.track {H0 : Hp} {mp0 : M} (e : Ext mp0 H0 mp H) (hn : H0 a = none) : Ext mp0 H0 (mp.track a) H :=
  ⟨e.pre.trans (List.prefix_append _ _), fun b h => by
    rcases List.mem_append.mp h with h | h
    · exact e.freO b h
    · right; rw [List.mem_singleton.mp h]; exact hn, e.keep, e.hd⟩
end
end Z
namespace Z
open PySem PySem.Spec L2
open PyProof.Rows hiding St
/-! ### the small language -/
inductive Bop where | add | sub | mul | fdiv | mod | pow | shl | shr | band | bor | bxor
  deriving DecidableEq, Inhabited
inductive Cop where | eq | ne | lt | le | gt | ge | isN | notN | isin | notin
  deriving DecidableEq, Inhabited
/-- a built-in of one argument that makes no list -/
inductive U1 where | len | abs | int | tuple | bool | sum | max | min | any
  deriving DecidableEq, Inhabited
inductive U2 where | max | min
  deriving DecidableEq, Inhabited
/-- a built-in that makes a list -/
inductive N1 where | list | sorted | sortedP
  deriving DecidableEq, Inhabited
inductive M1 where | join | index
  deriving DecidableEq, Inhabited
inductive Ty where | tuple | list | int | str | bool
  deriving DecidableEq, Inhabited
inductive T where
  | n (i : Nat) | tup (ts : T) | nil | cons (t ts : T)
  deriving Inhabited
inductive E where
  | v (i : Nat) | k (w : W) | gl (w : W) (n : Nat)
  | bin (op : Bop) (a b : E) | neg (a : E) | nt (a : E)
  | cmp (op : Cop) (a b : E) | and (a b : E) | or (a b : E) | ite (c a b : E) | tv (a : E)
  | tup (es : E) | nil | cons (a es : E)
  | lst (es : E) | mk (a : E) | fz (a : E) | lcat (a b : E) | lrep (a b : E)
  | ix (a i : E) | sl (a lo hi : E) | lsl (a lo hi : E) | nopart
  | call (f : Nat) (es : E)
  | u1 (op : U1) (a : E) | u2 (op : U2) (a b : E) | n1 (op : N1) (a : E) | isi (a : E) (t : Ty)
  | m1 (op : M1) (o a : E)
  | app (o a : E) | ext (o a : E) | pop (o : E) | popAt (o i : E)
  | lc (own : List Nat) (t : T) (src ifs elt : E) | lrng1 (a : E) | lrng2 (a b : E) | sset (a : E)
  | it (a : E) | enum (a : E) | rng1 (a : E) | rng2 (a b : E)
  | kdx (w : W) (n : Nat) (i : E) | dsel (ks : List Int) (es i : E) | dnew | dof (a : E) | dix (o i : E) | din (neg : Bool) (i o : E) | dget (o i z : E) | dsort (o : E)
  deriving Inhabited
inductive S where
  | nop | seq (a b : S)
  | set (t : T) (e : E) | par (i j : Nat) (a b : E) | setix (o i e : E) | setd (o i e : E) | aug (i : Nat) (op : Bop) (e : E)
  | ite (c : E) (a b : S) | loop (gc : Bool) (t : T) (src : E) (body : S) | whil (gc : Bool) (c : E) (body : S)
  | ret (e : E) | retN | ex (e : E) | brk | cont
  deriving Inhabited
/-! ### its meaning -/
def opt {α : Type} (o : Option α) (Q : α → Prop) : Prop := ∃ v, o = some v ∧ Q v
def nth {α : Type} : List α → Nat → Option α
  | [], _ => none
  | x :: _, 0 => some x
  | _ :: xs, n + 1 => nth xs n
theorem nth_eq {α : Type} : ∀ (xs : List α) (n : Nat), nth xs n = xs[n]?
  | [], _ => by simp [nth]
  | x :: _, 0 => by simp [nth]
  | _ :: xs, n + 1 => by simp [nth, nth_eq xs n]
/-- the slot i of the names -/
def slot (env : Env) (i : Nat) : Option W := match nth env i with
  | some (some w) => some w
  | _ => none
/-- a tracked object as it stands, any other value itself -/
def dr (g : CH) : W → W
  | .ob n => match nth g n with
    | some w => w
    | none => .ob n
  | w => w
def tups (xs : List W) : Option W := if xs.length ≤ sizeLine then some (.tup xs) else none
def mulOk (i j : Int) : Prop := i.natAbs.log2 + j.natAbs.log2 < 100000000
noncomputable instance (i j : Int) : Decidable (mulOk i j) := Classical.propDecidable _
def shlOk (i j : Int) : Prop := 0 ≤ j ∧ (i.natAbs.log2 : Int) + j < 100000000
noncomputable instance (i j : Int) : Decidable (shlOk i j) := Classical.propDecidable _
def strW (x : Str) : Option W := if x.length ≤ sizeLine then some (.str x) else none
noncomputable def bop : Bop → W → W → Option W
  | .add, .int i, .int j => some (.int (i + j))
  | .add, .str x, .str y => strW (x ++ y)
  | .add, .tup x, .tup y => tups (x ++ y)
  | .sub, .int i, .int j => some (.int (i - j))
  | .mul, .int i, .int j => if mulOk i j then some (.int (i * j)) else none
  | .mul, .str x, .int j => if 0 ≤ j ∧ j ≤ 1000 ∧ x.length ≤ 1000 then some (.str (repN x j.toNat)) else none
  | .fdiv, .int i, .int j => if 0 < j ∧ j.natAbs.log2 < 9000 then some (.int (i / j)) else none
  | .mod, .int i, .int j => if 0 < j then some (.int (i % j)) else none
  | .pow, .int i, .int j => if 0 ≤ j ∧ j ≤ 1000000 ∧ i.natAbs < 2 ^ 64 then some (.int (i ^ j.toNat)) else none
  | .shl, .int i, .int j => if shlOk i j then some (.int (i * 2 ^ j.toNat)) else none
  | .shr, .int i, .int j => if 0 ≤ j then some (.int (i / 2 ^ j.toNat)) else none
  | .band, .int i, .int j => some (.int (Builtin.bitAnd i j))
  | .bor, .int i, .int j => some (.int (Builtin.bitOr i j))
  | .bxor, .int i, .int j => some (.int (Builtin.bitXor i j))
  | _, _, _ => none
/-- x op= y -/
def iop : Bop → W → W → Option W
  | .add, .int i, .int j => some (.int (i + j))
  | .add, .str x, .str y => strW (x ++ y)
  | .sub, .int i, .int j => some (.int (i - j))
  | .band, .int i, .int j => some (.int (Builtin.bitAnd i j))
  | .bor, .int i, .int j => some (.int (Builtin.bitOr i j))
  | .bxor, .int i, .int j => some (.int (Builtin.bitXor i j))
  | _, _, _ => none
mutual
/-- what == sees -/
def dat : W → Option PyData
  | .non => some .none
  | .bl b => some (.bool b)
  | .int i => some (.int i)
  | .str x => some (.str x)
  | .tup xs => (dats xs).map .tuple
  | .lst xs => (dats xs).map .list
  | _ => none
def dats : List W → Option (List PyData)
  | [] => some []
  | x :: xs => match dat x, dats xs with
    | some d, some ds => some (d :: ds)
    | _, _ => none
end
/-- == of two values that hold no tracked objects within (either may be one itself) -/
def eqD (g : CH) (x y : W) : Option Bool := match dat (dr g x), dat (dr g y) with
  | some d, some e => if d.depth ≤ 64 ∧ e.depth ≤ 64 then some (PyData.eqv d e) else none
  | _, _ => none
def inD (g : CH) (x y : W) : Option Bool := match dat (dr g x), dr g y with
  | some d, .tup ys => (dats ys).bind fun es => if d.depth ≤ 64 ∧ PyData.depthAll es ≤ 63 then some (es.any fun z => PyData.eqv z d) else none
  | some d, .lst ys => (dats ys).bind fun es => if d.depth ≤ 64 ∧ PyData.depthAll es ≤ 63 then some (es.any fun z => PyData.eqv z d) else none
  | _, _ => none
def isNon : W → Bool
  | .non => true
  | _ => false
def cop (g : CH) : Cop → W → W → Option Bool
  | .eq, x, y => eqD g x y
  | .ne, x, y => (eqD g x y).map not
  | .lt, .int i, .int j => some (decide (i < j))
  | .le, .int i, .int j => some (decide (i ≤ j))
  | .gt, .int i, .int j => some (decide (j < i))
  | .ge, .int i, .int j => some (decide (j ≤ i))
  | .isN, x, .non => some (isNon x)
  | .notN, x, .non => some (!isNon x)
  | .isin, x, y => inD g x y
  | .notin, x, y => (inD g x y).map not
  | _, _, _ => none
/-- truth -/
def tru (g : CH) (x : W) : Option Bool := match dr g x with
  | .non => some false
  | .bl b => some b
  | .int i => some (i != 0)
  | .str x => some ((x.length : Int) != 0)
  | .tup xs => some (!xs.isEmpty)
  | .lst xs => some (!xs.isEmpty)
  | _ => none
def chr1 (c : Nat) : W := .str ⟨#[c]⟩
/-- o[i] -/
def ixW (g : CH) (o i : W) : Option W := match dr g o, i with
  | .tup xs, .int i => atI xs i
  | .lst xs, .int i => atI xs i
  | .str x, .int i => (atI x.cps.toList i).map chr1
  | _, _ => none
/-- a key -/
def keyOf : W → Option Key
  | .int i => some (.inl i)
  | .str x => some (.inr x)
  | _ => none
def keysOf : List W → Option (List Key)
  | [] => some []
  | w :: ws => (keyOf w).bind fun k => (keysOf ws).map (k :: ·)
/-- a dict with keys that are ints and texts -/
def dctOf (g : CH) (o : W) : Option (List Key × List W) := match dr g o with
  | .dct ks xs => (keysOf ks).map fun l => (l, xs)
  | _ => none
def dfind : List Key → List W → Key → Option W
  | a :: ks, x :: xs, k => if a = k then some x else dfind ks xs k
  | _, _, _ => none
def drepl : List Key → List W → Key → W → List W
  | a :: ks, x :: xs, k, v => (if a = k then v else x) :: drepl ks xs k v
  | _, _, _, _ => []
def hasK (ks : List Key) (k : Key) : Bool := ks.any fun a => decide (a = k)
def dputK (ks : List Key) (k : Key) : List Key := if hasK ks k = true then ks else ks ++ [k]
def dputX (ks : List Key) (xs : List W) (k : Key) (v : W) : List W := if hasK ks k = true then drepl ks xs k v else xs ++ [v]
def dixW (g : CH) (o i : W) : Option W := (dctOf g o).bind fun d => (keyOf i).bind fun k => dfind d.1 d.2 k
def dinW (g : CH) (i o : W) : Option Bool := (dctOf g o).bind fun d => (keyOf i).map fun k => (dfind d.1 d.2 k).isSome
def dgetW (g : CH) (o i z : W) : Option W := (dctOf g o).bind fun d => (keyOf i).map fun k => (dfind d.1 d.2 k).getD z
def inlsOf : List Key → Option (List Int)
  | [] => some []
  | .inl i :: ks => (inlsOf ks).map (i :: ·)
  | _ :: _ => none
def sixW (n d : Nat) : W → Option Nat
  | .non => some d
  | .int i => some (HT.sIx n d (some i))
  | _ => none
def cutW {α : Type} (xs : List α) (lo hi : W) : Option (List α) := match sixW xs.length 0 lo, sixW xs.length xs.length hi with
  | some a, some b => some ((xs.drop a).take (b - a))
  | _, _ => none
/-- o[lo:hi] of a tuple or a text -/
def slW (o lo hi : W) : Option W := match o with
  | .tup xs => (cutW xs lo hi).map .tup
  | .str x => (cutW x.cps.toList lo hi).map fun l => .str ⟨l.toArray⟩
  | _ => none
/-- .. of a list -/
def lslW (g : CH) (o lo hi : W) : Option (List W) := match dr g o with
  | .lst xs => cutW xs lo hi
  | _ => none
def intsOf : List W → Option (List Int)
  | [] => some []
  | .int i :: xs => (intsOf xs).map (i :: ·)
  | _ :: _ => none
/-- pairs of an int and a text -/
def psOf : List W → Option (List (Int × Str))
  | [] => some []
  | .tup [.int i, .str x] :: xs => (psOf xs).map ((i, x) :: ·)
  | _ :: _ => none
def psW (p : Int × Str) : W := .tup [.int p.1, .str p.2]
def sortP (ps : List (Int × Str)) : List (Int × Str) := ps.mergeSort fun a b => decide (a.1 ≤ b.1)
/-- pairs of a key and a value, no key twice -/
def dprs : List W → Option (List Key × List W)
  | [] => some ([], [])
  | .tup [k, v] :: r => (keyOf k).bind fun i => (dprs r).bind fun d => if (d.1.any fun k => decide (k = i)) = true then none else some (i :: d.1, v :: d.2)
  | _ :: _ => none
def dofW : W → Option (List Key × List W)
  | .tup xs => dprs xs
  | _ => none
def seqOf (g : CH) (o : W) : Option (List W) := match dr g o with
  | .tup xs => some xs
  | .lck xs => some xs
  | .lst xs => some xs
  | _ => none
def lseqOf (g : CH) (o : W) : Option (List W) := match dr g o with
  | .lst xs => some xs
  | _ => none
/-- the items that an enumerate gives: no tracked list's -/
def enumW : Nat → List W → List W
  | _, [] => []
  | i, x :: xs => .tup [.int (i : Nat), x] :: enumW (i + 1) xs
def eseqOf : W → Option (List W)
  | .str x => some (x.cps.toList.map chr1)
  | .tup xs => some xs
  | _ => none
/-- a list's or a tuple's items -/
def tseqOf (g : CH) (o : W) : Option (List W) := match dr g o with
  | .lst xs => some xs
  | .tup xs => some xs
  | _ => none
def strsOf : List W → Option (List Str)
  | [] => some []
  | .str s :: xs => (strsOf xs).map (s :: ·)
  | _ :: _ => none
/-- a dict of the module, at a text -/
def kfind : List W → List W → Str → Option W
  | .str k :: ks, x :: xs, s => if k = s then some x else kfind ks xs s
  | _, _, _ => none
/-- {k: x, ..}[j] -/
def selW : List Int → List W → W → Option W
  | k :: ks, x :: xs, .int j => if k = j then some x else selW ks xs (.int j)
  | _, _, _ => none
def kdxW : W → W → Option W
  | .dct ks xs, .str s => kfind ks xs s
  | _, _ => none
def strOfW : W → Option Str
  | .str s => some s
  | _ => none
/-- a text's method of one argument -/
def m1W (g : CH) : M1 → W → W → Option W
  | .join, .str a, y => (tseqOf g y).bind fun xs => (strsOf xs).bind fun ys => if (ys.map (·.length)).sum + ys.length * a.length ≤ 16777216 then some (.str (Str.join a ys)) else none
  | .index, .str a, .str b => match Builtin.Str.occurrences a b 0 a.length 1 with
    | i :: _ => some (.int (i : Nat))
    | [] => none
  | _, _, _ => none
/-- k into a rising row, if it is not there -/
def insS (k : Int) : List Int → List Int
  | [] => [k]
  | x :: xs => if k < x then k :: x :: xs else if k = x then x :: xs else x :: insS k xs
def setInts (ns : List Int) : List Int := ns.foldr insS []
def maxL : List Int → Option Int
  | [] => none
  | x :: xs => some (xs.foldl (fun a b => if a < b then b else a) x)
def minL : List Int → Option Int
  | [] => none
  | x :: xs => some (xs.foldl (fun a b => if b < a then b else a) x)
def boolsOf : List W → Option (List Bool)
  | [] => some []
  | .bl b :: xs => (boolsOf xs).map (b :: ·)
  | _ :: _ => none
def u1W (g : CH) : U1 → W → Option W
  | .len, x => match dr g x with
    | .tup xs => some (.int xs.length)
    | .lst xs => some (.int xs.length)
    | .str x => some (.int x.length)
    | _ => none
  | .abs, .int i => some (.int (if i < 0 then -i else i))
  | .int, .int i => some (.int i)
  | .int, .bl b => some (.int (if b then 1 else 0))
  | .bool, .int i => some (.bl (i != 0))
  | .bool, .bl b => some (.bl b)
  | .tuple, x => match dr g x with
    | .tup xs => some (.tup xs)
    | .lst xs => some (.tup xs)
    | _ => none
  | .sum, x => (lseqOf g x).bind fun xs => (intsOf xs).map fun ns => .int ns.sum
  | .max, x => (tseqOf g x).bind fun xs => (intsOf xs).bind fun ns => (maxL ns).map .int
  | .min, x => (lseqOf g x).bind fun xs => (intsOf xs).bind fun ns => (minL ns).map .int
  | .any, x => (lseqOf g x).bind fun xs => (boolsOf xs).map fun bs => .bl (bs.any id)
  | _, _ => none
def u2W : U2 → W → W → Option W
  | .max, .int i, .int j => some (.int (if j > i then j else i))
  | .min, .int i, .int j => some (.int (if j < i then j else i))
  | _, _, _ => none
def isiW (g : CH) (x : W) (t : Ty) : Option Bool := match dr g x, t with
  | .non, _ => some false
  | .bl _, .bool => some true
  | .bl _, .int => some true
  | .bl _, _ => some false
  | .int _, .int => some true
  | .int _, _ => some false
  | .str _, .str => some true
  | .str _, _ => some false
  | .tup _, .tuple => some true
  | .tup _, _ => some false
  | .lst _, .list => some true
  | .lst _, _ => some false
  | _, _ => none
def rangeW (lo : Int) : Nat → List W
  | 0 => []
  | n + 1 => .int lo :: rangeW (lo + 1) n
def rngOk (lo hi : Int) : Prop := -(2 ^ 62) ≤ lo ∧ lo < 2 ^ 62 ∧ -(2 ^ 62) ≤ hi ∧ hi < 2 ^ 62 ∧ (hi - lo).toNat ≤ 2 ^ 24
noncomputable instance (lo hi : Int) : Decidable (rngOk lo hi) := Classical.propDecidable _
noncomputable def rngW (lo hi : W) : Option (List W) := match lo, hi with
  | .int i, .int j => if rngOk i j then some (rangeW i (j - i).toNat) else none
  | _, _ => none
/-- what a for walks: the tracked list, if it is one; the items -/
def iterW (g : CH) (x : W) : Option (Option Nat × List W) := match x with
  | .tup xs => some (none, xs)
  | .lck xs => some (none, xs)
  | .lst xs => some (none, xs)
  | .str x => some (none, x.cps.toList.map chr1)
  | .ob n => match nth g n with
    | some (.lst xs) => some (some n, xs)
    | _ => none
  | _ => none
mutual
def asg : T → W → Env → Option Env
  | .n i, w, env => some (env.set i (some w))
  | .tup ts, w, env => match w with
    | .tup xs => asgs ts xs env
    | .lst xs => asgs ts xs env
    | _ => none
  | _, _, _ => none
def asgs : T → List W → Env → Option Env
  | .nil, [], env => some env
  | .cons t ts, x :: xs, env => (asg t x env).bind fun e => asgs ts xs e
  | _, _, _ => none
end
def wipeE (env : Env) : List Nat → Env
  | [] => env
  | v :: vs => (wipeE env vs).set v none
abbrev WK := W → CH → Prop
abbrev FSem := Nat → List W → CH → WK → Prop
/-- a tracked list that is walked still stands -/
def stays (g : CH) (o : Option Nat) (all : List W) : Prop := match o with
  | none => True
  | some n => nth g n = some (.lst all)
def lcL (t : T) (tst : Env → CH → (Bool → CH → Prop) → Prop) (elt : Env → CH → WK → Prop) (env0 : Env) (o : Option Nat) (all : List W) : List W → List W → CH → (List W → CH → Prop) → Prop
  | [], acc, g, Q => stays g o all ∧ Q acc g
  | x :: xs, acc, g, Q => stays g o all ∧ opt (asg t x env0) fun env1 => tst env1 g fun b g1 => if b = true then elt env1 g1 fun w g2 => lcL t tst elt env0 o all xs (acc ++ [w]) g2 Q else lcL t tst elt env0 o all xs acc g1 Q
def popW (xs : List W) : Option (W × List W) := match xs.getLast? with
  | some y => some (y, xs.dropLast)
  | none => none
def popAtW (xs : List W) (i : W) : Option (W × List W) := match i with
  | .int i => if -(2 ^ 63) ≤ i ∧ i < 2 ^ 63 then (ixN xs.length i).bind fun j => (xs[j]?).map fun y => (y, xs.eraseIdx j) else none
  | _ => none
def obOf (g : CH) (w : W) : Option (Nat × List W) := match w with
  | .ob n => match nth g n with
    | some (.lst xs) => some (n, xs)
    | _ => none
  | _ => none
/-- a tracked dict -/
def dobOf (g : CH) (w : W) : Option (Nat × List Key × List W) := match w with
  | .ob n => match nth g n with
    | some (.dct ks xs) => (keysOf ks).map fun l => (n, l, xs)
    | _ => none
  | _ => none
/-- the dict ks, xs, v at k -/
def putD (ks : List Key) (xs : List W) (k : Key) (v : W) : Option W := some (.dct ((dputK ks k).map keyW) (dputX ks xs k v))
theorem opt_putD {ks : List Key} {xs : List W} {k : Key} {v : W} {Q : W → Prop} (h : opt (putD ks xs k v) Q) : Q (.dct ((dputK ks k).map keyW) (dputX ks xs k v)) := by
  obtain ⟨_, h, q⟩ := h
  cases h
  exact q
/-- the list xs, w at i -/
def putL (xs : List W) (i : Nat) (w : W) : Option (List W) := some (xs.set i w)
/-- .. w behind it -/
def addL (xs : List W) (w : W) : Option (List W) := some (xs ++ [w])
theorem opt_put {xs : List W} {i : Nat} {w : W} {Q : List W → Prop} (h : opt (putL xs i w) Q) : Q (xs.set i w) := by
  obtain ⟨_, h, q⟩ := h
  cases h
  exact q
theorem opt_add {xs : List W} {w : W} {Q : List W → Prop} (h : opt (addL xs w) Q) : Q (xs ++ [w]) := by
  obtain ⟨_, h, q⟩ := h
  cases h
  exact q
def sortInts (ns : List Int) : List Int := ns.mergeSort (fun a b => decide (a ≤ b))
section
variable (F : FSem)
mutual
/-- a value -/
def wpE : E → Env → CH → WK → Prop
  | .v i, env, g, Q => opt (slot env i) fun w => Q w g
  | .k w, _, g, Q => Q w g
  | .gl w _, _, g, Q => Q w g
  | .bin op a b, env, g, Q => wpE a env g fun x g1 => wpE b env g1 fun y g2 => opt (bop op x y) fun z => Q z g2
  | .neg a, env, g, Q => wpE a env g fun x g1 => match x with
    | .int i => Q (.int (-i)) g1
    | _ => False
  | .nt a, env, g, Q => wpE a env g fun x g1 => match x with
    | .bl b => Q (.bl (!b)) g1
    | _ => False
  | .cmp op a b, env, g, Q => wpE a env g fun x g1 => wpE b env g1 fun y g2 => opt (cop g2 op x y) fun z => Q (.bl z) g2
  | .and a b, env, g, Q => wpE a env g fun x g1 => match x with
    | .bl c => if c = true then wpE b env g1 Q else Q (.bl false) g1
    | _ => False
  | .or a b, env, g, Q => wpE a env g fun x g1 => match x with
    | .bl c => if c = true then Q (.bl true) g1 else wpE b env g1 Q
    | _ => False
  | .ite c a b, env, g, Q => wpT c env g fun d g1 => if d = true then wpE a env g1 Q else wpE b env g1 Q
  | .tup es, env, g, Q => wpA es env g fun xs g1 => opt (tups xs) fun w => Q w g1
  | .mk a, env, g, Q => wpN a env g fun xs g1 => opt (addL g1 (.lst xs)) fun g2 => Q (.ob g1.length) g2
  | .fz a, env, g, Q => wpN a env g fun xs g1 => Q (.lst xs) g1
  | .ix a i, env, g, Q => wpE a env g fun x g1 => wpE i env g1 fun y g2 => opt (ixW g2 x y) fun z => Q z g2
  | .sl a lo hi, env, g, Q => wpE a env g fun x g1 => wpP lo env g1 fun y g2 => wpP hi env g2 fun z g3 => opt (slW x y z) fun u => Q u g3
  | .call f es, env, g, Q => wpA es env g fun xs g1 => F f xs g1 Q
  | .u1 op a, env, g, Q => wpE a env g fun x g1 => opt (u1W g1 op x) fun z => Q z g1
  | .u2 op a b, env, g, Q => wpE a env g fun x g1 => wpE b env g1 fun y g2 => opt (u2W op x y) fun z => Q z g2
  | .m1 op o a, env, g, Q => wpE o env g fun x g1 => opt (strOfW x) fun _ => wpE a env g1 fun y g2 => opt (m1W g2 op x y) fun z => Q z g2
  | .isi a t, env, g, Q => wpE a env g fun x g1 => opt (isiW g1 x t) fun z => Q (.bl z) g1
  | .app o a, env, g, Q => wpE o env g fun x g1 => opt (obOf g1 x) fun _ => wpE a env g1 fun y g2 => opt (obOf g2 x) fun p => p.2.length < sizeLine ∧ opt (addL p.2 y) fun ys => opt (putL g2 p.1 (.lst ys)) fun g3 => Q .non g3
  | .ext o a, env, g, Q => wpE o env g fun x g1 => opt (obOf g1 x) fun _ => wpE a env g1 fun y g2 => opt (obOf g2 x) fun p => opt (tseqOf g2 y) fun ys => p.2.length + ys.length ≤ sizeLine ∧ opt (putL g2 p.1 (.lst (p.2 ++ ys))) fun g3 => Q .non g3
  | .pop o, env, g, Q => wpE o env g fun x g1 => opt (obOf g1 x) fun p => opt (popW p.2) fun r => opt (putL g1 p.1 (.lst r.2)) fun g2 => Q r.1 g2
  | .popAt o i, env, g, Q => wpE o env g fun x g1 => opt (obOf g1 x) fun _ => wpE i env g1 fun y g2 => opt (obOf g2 x) fun p => opt (popAtW p.2 y) fun r => opt (putL g2 p.1 (.lst r.2)) fun g3 => Q r.1 g3
  | .dsel ks es i, env, g, Q => wpA es env g fun xs g1 => wpE i env g1 fun y g2 => opt (selW ks xs y) fun z => Q z g2
  | .kdx w _ i, env, g, Q => wpE i env g fun y g1 => opt (kdxW w y) fun z => Q z g1
  | .dnew, _, g, Q => opt (addL g (.dct [] [])) fun g2 => Q (.ob g.length) g2
  | .dof a, env, g, Q => wpE a env g fun x g1 => opt (dofW x) fun d => opt (addL g1 (.dct (d.1.map keyW) d.2)) fun g2 => Q (.ob g1.length) g2
  | .dix o i, env, g, Q => wpE o env g fun x g1 => wpE i env g1 fun y g2 => opt (dixW g2 x y) fun z => Q z g2
  | .din neg i o, env, g, Q => wpE i env g fun y g1 => wpE o env g1 fun x g2 => opt (dinW g2 y x) fun b => Q (.bl (if neg = true then !b else b)) g2
  | .dget o i z, env, g, Q => wpE o env g fun x g1 => opt (dctOf g1 x) fun _ => wpE i env g1 fun y g2 => wpE z env g2 fun u g3 => opt (dgetW g3 x y u) fun v => Q v g3
  | _, _, _, _ => False
/-- a list of values -/
def wpA : E → Env → CH → (List W → CH → Prop) → Prop
  | .nil, _, g, Q => Q [] g
  | .cons a es, env, g, Q => wpE a env g fun x g1 => wpA es env g1 fun xs g2 => Q (x :: xs) g2
  | _, _, _, _ => False
/-- a test -/
def wpT : E → Env → CH → (Bool → CH → Prop) → Prop
  | .and a b, env, g, Q => wpT a env g fun c g1 => if c = true then wpT b env g1 Q else Q false g1
  | .or a b, env, g, Q => wpT a env g fun c g1 => if c = true then Q true g1 else wpT b env g1 Q
  | .nt a, env, g, Q => wpT a env g fun c g1 => Q (!c) g1
  | .cmp op a b, env, g, Q => wpE a env g fun x g1 => wpE b env g1 fun y g2 => opt (cop g2 op x y) fun z => Q z g2
  | .tv a, env, g, Q => wpE a env g fun x g1 => opt (tru g1 x) fun z => Q z g1
  | .din neg i o, env, g, Q => wpE i env g fun y g1 => wpE o env g1 fun x g2 => opt (dinW g2 y x) fun b => Q (if neg = true then !b else b) g2
  | .nil, _, g, Q => Q true g
  | .cons a _, env, g, Q => wpT a env g Q
  | _, _, _, _ => False
/-- a part of a slice -/
def wpP : E → Env → CH → WK → Prop
  | .nopart, _, g, Q => Q .non g
  | .cons a _, env, g, Q => wpE a env g fun x g1 => match x with
    | .int i => Q (.int i) g1
    | _ => False
  | _, _, _, _ => False
/-- the items of a list that is made -/
def wpN : E → Env → CH → (List W → CH → Prop) → Prop
  | .lst es, env, g, Q => wpA es env g fun xs g1 => xs.length ≤ sizeLine ∧ Q xs g1
  | .lcat a b, env, g, Q => wpE a env g fun x g1 => wpE b env g1 fun y g2 => opt (lseqOf g2 x) fun xs => opt (lseqOf g2 y) fun ys => xs.length + ys.length ≤ sizeLine ∧ Q (xs ++ ys) g2
  | .lrep a b, env, g, Q => wpE a env g fun x g1 => wpE b env g1 fun y g2 => opt (lseqOf g2 x) fun xs => match y with
    | .int n => (-(2 ^ 63) ≤ n ∧ n < 2 ^ 63) ∧ xs.length * n.toNat ≤ sizeLine ∧ Q (List.replicate n.toNat xs).flatten g2
    | _ => False
  | .lsl a lo hi, env, g, Q => wpE a env g fun x g1 => wpP lo env g1 fun y g2 => wpP hi env g2 fun z g3 => opt (lslW g3 x y z) fun xs => Q xs g3
  | .n1 .list a, env, g, Q => wpE a env g fun x g1 => opt (seqOf g1 x) fun xs => Q xs g1
  | .n1 .sorted a, env, g, Q => wpE a env g fun x g1 => opt (lseqOf g1 x) fun xs => opt (intsOf xs) fun ns => Q ((sortInts ns).map .int) g1
  | .n1 .sortedP a, env, g, Q => wpE a env g fun x g1 => opt (lseqOf g1 x) fun xs => opt (psOf xs) fun ps => (ps.map (·.1)).Nodup ∧ Q ((sortP ps).map psW) g1
  | .lc own t src ifs elt, env, g, Q => wpI src env g fun o xs g1 => lcL t (wpT ifs) (wpE elt) (wipeE env own) o xs xs [] g1 Q
  | .lrng1 a, env, g, Q => wpE a env g fun x g1 => opt (rngW (.int 0) x) fun xs => Q xs g1
  | .sset a, env, g, Q => wpE a env g fun x g1 => opt (lseqOf g1 x) fun xs => opt (intsOf xs) fun ns => (ns.length < 4000 ∧ (setInts ns).length < 64) ∧ Q ((setInts ns).map .int) g1
  | .lrng2 a b, env, g, Q => wpE a env g fun x g1 => wpE b env g1 fun y g2 => opt (rngW x y) fun xs => Q xs g2
  | .dsort o, env, g, Q => wpE o env g fun x g1 => opt (dctOf g1 x) fun d => opt (inlsOf d.1) fun ns => ns.length < 64 ∧ Q ((sortInts ns).map .int) g1
  | _, _, _, _ => False
/-- what a for walks -/
def wpI : E → Env → CH → (Option Nat → List W → CH → Prop) → Prop
  | .it a, env, g, Q => wpE a env g fun x g1 => opt (iterW g1 x) fun p => Q p.1 p.2 g1
  | .enum a, env, g, Q => wpE a env g fun x g1 => opt (eseqOf x) fun xs => Q none (enumW 0 xs) g1
  | .rng1 a, env, g, Q => wpE a env g fun x g1 => opt (rngW (.int 0) x) fun xs => Q none xs g1
  | .rng2 a b, env, g, Q => wpE a env g fun x g1 => wpE b env g1 fun y g2 => opt (rngW x y) fun xs => Q none xs g2
  | _, _, _, _ => False
end
end
/-! ### letting go of what was made -/
mutual
/-- no tracked object at or behind n within -/
def wf (n : Nat) : W → Bool
  | .tup xs => wfs n xs
  | .lst xs => wfs n xs
  | .lck xs => wfs n xs
  | .dct ks xs => wfs n ks && wfs n xs
  | .ob k => decide (k < n)
  | _ => true
def wfs (n : Nat) : List W → Bool
  | [] => true
  | x :: xs => wf n x && wfs n xs
end
mutual
/-- w in the heap g is w' if the objects from n on are no more tracked -/
inductive Fz (n : Nat) (g : CH) : W → W → Prop
  | same {w : W} : wf n w = true → Fz n g w w
  | tup {xs ys : List W} : Fzs n g xs ys → Fz n g (.tup xs) (.tup ys)
  | lst {xs ys : List W} : Fzs n g xs ys → Fz n g (.lst xs) (.lst ys)
  | ob {k : Nat} {xs ys : List W} : n ≤ k → nth g k = some (.lst xs) → Fzs n g xs ys → Fz n g (.ob k) (.lst ys)
  | obd {k : Nat} {ks xs ys : List W} : n ≤ k → nth g k = some (.dct ks xs) → Fzs n g xs ys → Fz n g (.ob k) (.dct ks ys)
inductive Fzs (n : Nat) (g : CH) : List W → List W → Prop
  | nil : Fzs n g [] []
  | cons {x y : W} {xs ys : List W} : Fz n g x y → Fzs n g xs ys → Fzs n g (x :: xs) (y :: ys)
end
/-- a tracked object itself -/
inductive FzO (n : Nat) (g : CH) : W → W → Prop
  | lst {xs ys : List W} : Fzs n g xs ys → FzO n g (.lst xs) (.lst ys)
  | dct {ks xs ys : List W} : Fzs n g xs ys → FzO n g (.dct ks xs) (.dct ks ys)
/-- the heap g2, once g0, let go from n on: g3 -/
def FzG (n : Nat) (g0 g2 g3 : CH) : Prop := g3.length = n ∧ n ≤ g2.length ∧
  ∀ i, i < n → (nth g2 i = nth g3 i ∧ nth g0 i = nth g3 i) ∨ ∃ w w', nth g2 i = some w ∧ nth g3 i = some w' ∧ FzO n g2 w w'
def FzE (n : Nat) (g2 : CH) (e0 e2 e3 : Env) : Prop := e3.length = e2.length ∧
  ∀ (i : Nat) (w : W), slot e3 i = some w → (slot e2 i = some w ∧ slot e0 i = some w) ∨ ∃ w2, slot e2 i = some w2 ∧ Fz n g2 w2 w
structure Post where
  nx : Env → CH → Prop
  rt : WK
  bk : Env → CH → Prop
  ct : Env → CH → Prop
def Post.seq (P : Post) (k : Env → CH → Prop) : Post := ⟨k, P.rt, P.bk, P.ct⟩
def Post.turn (P : Post) (k : Env → CH → Prop) : Post := ⟨k, P.rt, P.nx, k⟩
/-- behind a turn: what the turn made is let go, if the loop says so -/
def turnEnd (gc : Bool) (e0 : Env) (g0 : CH) (k : Env → CH → Prop) : Env → CH → Prop := fun e2 g2 =>
  if gc = true then ∃ e3 g3, FzE g0.length g2 e0 e2 e3 ∧ FzG g0.length g0 g2 g3 ∧ k e3 g3 else k e2 g2
def forL (gc : Bool) (e0 : Env) (g0 : CH) (t : T) (body : Env → CH → Post → Prop) (o : Option Nat) (all : List W) : List W → Env → CH → Post → Prop
  | [], env, g, P => stays g o all ∧ P.nx env g
  | x :: xs, env, g, P => stays g o all ∧ opt (asg t x env) fun env1 => body env1 g
      (P.turn (turnEnd gc e0 g0 fun e g => forL gc e0 g0 t body o all xs e g P))
def whileL (gc : Bool) (e0 : Env) (g0 : CH) (c : Env → CH → (Bool → CH → Prop) → Prop) (body : Env → CH → Post → Prop) : Nat → Env → CH → Post → Prop
  | 0, _, _, _ => False
  | n + 1, env, g, P => c env g fun b g1 => if b = true then body env g1
      (P.turn (turnEnd gc e0 g0 fun e g => whileL gc e0 g0 c body n e g P)) else P.nx env g1
def wpS (F : FSem) : S → Env → CH → Post → Prop
  | .nop, env, g, P => P.nx env g
  | .seq a b, env, g, P => wpS F a env g (P.seq fun e g1 => wpS F b e g1 P)
  | .set t e, env, g, P => wpE F e env g fun w g1 => opt (asg t w env) fun env1 => P.nx env1 g1
  | .par i j a b, env, g, P => wpE F a env g fun x g1 => wpE F b env g1 fun y g2 => P.nx ((env.set i (some x)).set j (some y)) g2
  | .setix o i e, env, g, P => wpE F e env g fun w g1 => wpE F o env g1 fun x g2 => wpE F i env g2 fun y g3 => opt (obOf g3 x) fun p => match y with
    | .int k => opt (ixN p.2.length k) fun j => opt (putL p.2 j w) fun ys => opt (putL g3 p.1 (.lst ys)) fun g4 => P.nx env g4
    | _ => False
  | .setd o i e, env, g, P => wpE F e env g fun w g1 => wpE F o env g1 fun x g2 => wpE F i env g2 fun y g3 => opt (dobOf g3 x) fun p => opt (keyOf y) fun k => p.2.1.length < sizeLine ∧ opt (putD p.2.1 p.2.2 k w) fun d => opt (putL g3 p.1 d) fun g4 => P.nx env g4
  | .aug i op e, env, g, P => opt (slot env i) fun x => wpE F e env g fun y g1 => opt (iop op x y) fun z => P.nx (env.set i (some z)) g1
  | .ite c a b, env, g, P => wpT F c env g fun d g1 => if d = true then wpS F a env g1 P else wpS F b env g1 P
  | .loop gc t src body, env, g, P => wpI F src env g fun o xs g1 => forL gc env g1 t (wpS F body) o xs xs env g1 P
  | .whil gc c body, env, g, P => ∃ n, whileL gc env g (wpT F c) (wpS F body) n env g P
  | .ret e, env, g, P => wpE F e env g P.rt
  | .retN, _, g, P => P.rt .non g
  | .ex e, env, g, P => wpE F e env g fun _ g1 => P.nx env g1
  | .brk, env, g, P => P.bk env g
  | .cont, env, g, P => P.ct env g
/-- a def: its parameters, its slots, whether what it made is let go at its end -/
structure Fn where
  np : Nat
  nv : Nat
  gc : Bool
  body : S
def retEnd (gc : Bool) (g0 : CH) (Q : WK) : WK := fun v g2 =>
  if gc = true then ∃ v' g3, Fz g0.length g2 v v' ∧ FzG g0.length g0 g2 g3 ∧ Q v' g3 else Q v g2
def Post.fn (R : WK) : Post := ⟨fun _ g2 => R .non g2, R, fun _ _ => False, fun _ _ => False⟩
/-- shut: a call is not opened unasked -/
@[irreducible] def shut (F : FSem) : FSem := F
theorem shut_eq {F : FSem} : shut F = F := by unfold shut; rfl
def wpF (T : List Fn) : Nat → FSem
  | 0 => fun _ _ _ _ => False
  | d + 1 => fun f ws g Q => opt (nth T f) fun fn => ws.length = fn.np ∧
      wpS (shut (wpF T d)) fn.body (ws.map some ++ List.replicate (fn.nv - ws.length) none) g (Post.fn (retEnd fn.gc g Q))
/-- .. a call -/
abbrev wpC (T : List Fn) (d : Nat) : FSem := shut (wpF T d)
theorem wpC_succ {T : List Fn} {d f : Nat} {ws : List W} {g : CH} {Q : WK} : wpC T (d + 1) f ws g Q ↔ opt (nth T f) fun fn => ws.length = fn.np ∧
      wpS (wpC T d) fn.body (ws.map some ++ List.replicate (fn.nv - ws.length) none) g (Post.fn (retEnd fn.gc g Q)) := by
  unfold wpC
  rw [shut_eq (F := wpF T (d + 1))]
  exact Iff.rfl
end Z
namespace Z
open PySem PySem.Spec L2
open PyProof.Rows hiding St
/-! ### a term is the text of an expression -/
structure Globs where
  fns : List (Str × Nat)
  consts : List (Str × W)
  free : List Str
structure Ctx where
  N : List Str
  sc : Scope
  fn : Str → Bool
def visB (sc : Scope) (x : Str) : Bool := match sc.names.lookup x with
  | some .local => true
  | some .cell => true
  | some .free => true
  | _ => false
def locB (c : Ctx) (x : Str) : Bool := match c.sc.names.lookup x with
  | some .local => true
  | some .cell => c.fn x
  | _ => false
def glB (sc : Scope) (x : Str) : Bool := match sc.names.lookup x with
  | some .globalImplicit => true
  | _ => false
def notDbg (x : Str) : Bool := !(x == ("__debug__" : Str)) && !(x == ("__classdict__" : Str))
def isName (x : Str) (s : Str) : Bool := decide (x = s)
/-- a built-in's name x, as it is written -/
def bltB (G : Globs) (sc : Scope) (x s : Str) : Bool := decide (x = s) && glB sc x && decide (x ∈ G.free)
def constB : W → Const → Bool
  | .non, .none => true
  | .bl a, .bool b => a == b
  | .int i, .int j => decide (i = j)
  | .str x, .str y => decide (x = y) && decide (x.length ≤ sizeLine) && x.cps.all (· < 0x110000)
  | _, _ => false
def opB : Bop → Operator → Bool
  | .add, .Add => true | .sub, .Sub => true | .mul, .Mult => true | .fdiv, .FloorDiv => true | .mod, .Mod => true | .pow, .Pow => true
  | .shl, .LShift => true | .shr, .RShift => true | .band, .BitAnd => true | .bor, .BitOr => true | .bxor, .BitXor => true
  | _, _ => false
def copB : Cop → CmpOp → Bool
  | .eq, .Eq => true | .ne, .NotEq => true | .lt, .Lt => true | .le, .LtE => true | .gt, .Gt => true | .ge, .GtE => true
  | .isN, .Is => true | .notN, .IsNot => true | .isin, .In => true | .notin, .NotIn => true
  | _, _ => false
def dinB : Bool → CmpOp → Bool
  | false, .In => true
  | true, .NotIn => true
  | _, _ => false
def noSet : Expr → Bool
  | .Set .. => false
  | _ => true
def noStar : Expr → Bool
  | .Starred .. => false
  | _ => true
def noSlice : Expr → Bool
  | .Slice .. => false
  | _ => true
/-- an expression whose test is its value's truth -/
def plainTest : Expr → Bool
  | .UnaryOp .. => false | .BoolOp .. => false | .IfExp .. => false | .Compare .. => false
  | _ => true
def noCall0 : Expr → Bool
  | .Call .. => false
  | _ => true
def u1Name : U1 → Str
  | .len => "len" | .abs => "abs" | .int => "int" | .tuple => "tuple" | .bool => "bool" | .sum => "sum" | .max => "max" | .min => "min" | .any => "any"
def u2Name : U2 → Str
  | .max => "max" | .min => "min"
/-- the keys of a display: these ints -/
def keysI : List Int → List (Option Expr) → Bool
  | [], [] => true
  | i :: is, some (.Constant k _ _) :: ks => constB (.int i) k && keysI is ks
  | _, _ => false
/-- a constant that is no dict -/
def flatC : W → Bool
  | .dct _ _ => false
  | _ => true
def m1Name : M1 → Str
  | .join => "join" | .index => "index"
def n1Name : N1 → Str
  | .list => "list" | .sorted => "sorted" | .sortedP => "sorted"
def tyName : Ty → Str
  | .tuple => "tuple" | .list => "list" | .int => "int" | .str => "str" | .bool => "bool"
def ownOf (N : List Str) (own : List Nat) : List (Str × Nat) := own.map fun i => (N.getD i Str.empty, i)
mutual
def chkTg (c : Ctx) : T → Expr → Bool
  | .n i, .Name x _ => decide (c.N[i]? = some x) && locB c x
  | .tup ts, .Tuple es _ _ => chkTgs c ts es
  | _, _ => false
def chkTgs (c : Ctx) : T → List Expr → Bool
  | .nil, [] => true
  | .cons t ts, e :: es => chkTg c t e && noStar e && chkTgs c ts es
  | _, _ => false
end
/-- the block of a comprehension -/
def blkCtx (c : Ctx) (scope : Scope) : Ctx := ⟨c.N, relS scope c.sc, fun x => scope.names.lookup x == some .cell⟩
mutual
/-- the slots that a target stores lie in own -/
def tgIn (own : List Nat) : T → Bool
  | .n i => decide (i ∈ own)
  | .tup ts => tgsIn own ts
  | _ => false
def tgsIn (own : List Nat) : T → Bool
  | .nil => true
  | .cons t ts => tgIn own t && tgsIn own ts
  | _ => false
end
mutual
def chkE (G : Globs) : E → Ctx → Expr → Bool
  | .v i, c, .Name x _ => decide (c.N[i]? = some x) && visB c.sc x && notDbg x
  | .k w, _, .Constant k _ _ => constB w k
  | .gl w n, c, .Name x _ => (match G.consts[n]? with
    | some (y, w') => decide (x = y) && (W.beq w w' && flatC w)
    | none => false) && glB c.sc x && notDbg x
  | .dsel ks es i, c, .Subscript (.Dict keys vals _) s _ => keysI ks keys && (decide (ks ≠ [] ∧ ks.length ≤ 15 ∧ ks.Nodup ∧ ks.length = vals.length)) && (chkA G es c vals && (chkE G i c s && noSlice s))
  | .kdx w n i, c, .Subscript (.Name x _) s _ => (match G.consts[n]? with
    | some (y, w') => decide (x = y) && W.beq w w'
    | none => false) && glB c.sc x && notDbg x && (chkE G i c s && noSlice s)
  | .bin op a b, c, .BinOp l o r _ => opB op o && chkE G a c l && chkE G b c r
  | .neg a, c, .UnaryOp .USub x _ => chkE G a c x
  | .nt a, c, .UnaryOp .Not x _ => chkE G a c x
  | .cmp op a b, c, .Compare l [o] [r] _ => copB op o && noSet r && chkE G a c l && chkE G b c r
  | .and a b, c, .BoolOp .And (x :: y :: rest) pos => chkE G a c x && (match rest with
    | [] => chkE G b c y
    | _ => chkE G b c (.BoolOp .And (y :: rest) pos))
  | .or a b, c, .BoolOp .Or (x :: y :: rest) pos => chkE G a c x && (match rest with
    | [] => chkE G b c y
    | _ => chkE G b c (.BoolOp .Or (y :: rest) pos))
  | .ite d a b, c, .IfExp t x y _ => chkT G d c t && chkE G a c x && chkE G b c y
  | .tup es, c, .Tuple xs _ _ => chkA G es c xs
  | .mk a, c, e => chkN G a c e
  | .fz a, c, e => chkN G a c e
  | .ix a i, c, .Subscript x s _ => chkE G a c x && chkE G i c s && noSlice s
  | .sl a lo hi, c, .Subscript x (.Slice l h none _) _ => chkE G a c x && chkP G lo c l && chkP G hi c h
  | .call f es, c, .Call (.Name x _) xs [] _ => (match G.fns[f]? with
    | some (y, _) => decide (x = y)
    | none => false) && glB c.sc x && notDbg x && chkA G es c xs
  | .u1 op a, c, .Call (.Name x _) [y] [] _ => bltB G c.sc x (u1Name op) && chkE G a c y && noStar y
  | .u2 op a b, c, .Call (.Name x _) [y, z] [] _ => bltB G c.sc x (u2Name op) && chkE G a c y && noStar y && chkE G b c z && noStar z
  | .isi a t, c, .Call (.Name x _) [y, .Name z _] [] _ => bltB G c.sc x "isinstance" && bltB G c.sc z (tyName t) && chkE G a c y && noStar y
  | .app o a, c, .Call (.Attribute x m ap) [y] [] cp => isName m "append" && (ap.endLine == cp.line) && noCall0 x && chkE G o c x && chkE G a c y && noStar y
  | .ext o a, c, .Call (.Attribute x m ap) [y] [] cp => isName m "extend" && (ap.endLine == cp.line) && noCall0 x && chkE G o c x && chkE G a c y && noStar y
  | .m1 op o a, c, .Call (.Attribute x m ap) [y] [] cp => isName m (m1Name op) && (ap.endLine == cp.line) && noCall0 x && chkE G o c x && chkE G a c y && noStar y
  | .pop o, c, .Call (.Attribute x m ap) [] [] cp => isName m "pop" && (ap.endLine == cp.line) && noCall0 x && chkE G o c x
  | .popAt o i, c, .Call (.Attribute x m ap) [y] [] cp => isName m "pop" && (ap.endLine == cp.line) && noCall0 x && chkE G o c x && chkE G i c y && noStar y
  | .dnew, _, .Dict [] [] _ => true
  | .dof a, c, .Call (.Name x _) [y] [] _ => bltB G c.sc x "dict" && chkE G a c y && noStar y
  | .dix o i, c, .Subscript x s _ => chkE G o c x && chkE G i c s && noSlice s
  | .din neg i o, c, .Compare l [op] [r] _ => dinB neg op && noSet r && chkE G i c l && chkE G o c r
  | .dget o i z, c, .Call (.Attribute x m ap) [y, t] [] cp => isName m "get" && (ap.endLine == cp.line) && noCall0 x && chkE G o c x && chkE G i c y && noStar y && chkE G z c t && noStar t
  | _, _, _ => false
def chkA (G : Globs) : E → Ctx → List Expr → Bool
  | .nil, _, [] => true
  | .cons a es, c, x :: xs => chkE G a c x && noStar x && chkA G es c xs
  | _, _, _ => false
def chkT (G : Globs) : E → Ctx → Expr → Bool
  | .and a b, c, .BoolOp .And (x :: y :: rest) pos => chkT G a c x && (match rest with
    | [] => chkT G b c y
    | _ => chkT G b c (.BoolOp .And (y :: rest) pos))
  | .or a b, c, .BoolOp .Or (x :: y :: rest) pos => chkT G a c x && (match rest with
    | [] => chkT G b c y
    | _ => chkT G b c (.BoolOp .Or (y :: rest) pos))
  | .nt a, c, .UnaryOp .Not x _ => chkT G a c x
  | .cmp op a b, c, .Compare l [o] [r] _ => copB op o && noSet r && chkE G a c l && chkE G b c r
  | .tv a, c, e => plainTest e && chkE G a c e
  | .din neg i o, c, .Compare l [op] [r] _ => dinB neg op && noSet r && chkE G i c l && chkE G o c r
  | _, _, _ => false
def chkTs (G : Globs) : E → Ctx → List Expr → Bool
  | .nil, _, [] => true
  | .cons a _, c, [x] => chkT G a c x
  | _, _, _ => false
def chkP (G : Globs) : E → Ctx → Option Expr → Bool
  | .nopart, _, none => true
  | .cons a _, c, some x => chkE G a c x
  | _, _, _ => false
def chkN (G : Globs) : E → Ctx → Expr → Bool
  | .lst es, c, .List xs _ => chkA G es c xs
  | .lcat a b, c, .BinOp l .Add r _ => chkE G a c l && chkE G b c r
  | .lrep a b, c, .BinOp l .Mult r _ => chkE G a c l && chkE G b c r
  | .lsl a lo hi, c, .Subscript x (.Slice l h none _) _ => chkE G a c x && chkP G lo c l && chkP G hi c h
  | .n1 op a, c, .Call (.Name x _) [y] [] _ => bltB G c.sc x (n1Name op) && chkE G a c y && noStar y
  | .dsort o, c, .Call (.Name x _) [y] [] _ => bltB G c.sc x "sorted" && chkE G o c y && noStar y
  | .sset a, c, .Call (.Name x _) [.Call (.Name r _) [y] [] _] [] _ => bltB G c.sc x "sorted" && bltB G c.sc r "set" && chkE G a c y && noStar y
  | .lrng1 a, c, .Call (.Name x _) [.Call (.Name r _) [y] [] _] [] _ => bltB G c.sc x "list" && bltB G c.sc r "range" && chkE G a c y && noStar y
  | .lrng2 a b, c, .Call (.Name x _) [.Call (.Name r _) [y, z] [] _] [] _ => bltB G c.sc x "list" && bltB G c.sc r "range" && chkE G a c y && noStar y && chkE G b c z && noStar z
  | .lc own t src ifs elt, c, .ListComp e [⟨tg, it, is, 0⟩] scope _ => blkC c.N c.sc scope (ownOf c.N own) && noSet it && chkI G src c tg it && tgIn own t && chkTg (blkCtx c scope) t tg && chkTs G ifs (blkCtx c scope) is && chkE G elt (blkCtx c scope) e
  | _, _, _ => false
def chkI (G : Globs) : E → Ctx → Expr → Expr → Bool
  | .it a, c, _, e => chkE G a c e
  | .enum a, c, .Tuple _ _ _, .Call (.Name r _) [y] [] _ => bltB G c.sc r "enumerate" && chkE G a c y && noStar y
  | .rng1 a, c, _, .Call (.Name r _) [y] [] _ => bltB G c.sc r "range" && chkE G a c y && noStar y
  | .rng2 a b, c, _, .Call (.Name r _) [y, z] [] _ => bltB G c.sc r "range" && chkE G a c y && noStar y && chkE G b c z && noStar z
  | _, _, _, _ => false
end
end Z
namespace Z
open PySem PySem.Spec L2
open PyProof.Rows hiding St
/-! ### readings of the small language -/
abbrev Fr6 := PySem.W.Frag
/-- the state of the small language and of the layer -/
def SR (K : Fr6) (mp : M) (env : Env) (g : CH) (σ : St) (H : Hp) : Prop := EnvR K mp H env σ ∧ Sim K mp g H
def tvE (K : Fr6) (F : FSem) (m : E) : TE := fun σ H Q => ∃ mp env g Q0, SR K mp env g σ H ∧ wpE F m env g Q0 ∧
  ∀ v g', Q0 v g' → ∀ mp' H' u, Ext mp H mp' H' → Sim K mp' g' H' → Rp K mp' H' v u → Q u H'
def tvA (K : Fr6) (F : FSem) (m : E) : TA := fun σ H Q => ∃ mp env g Q0, SR K mp env g σ H ∧ wpA F m env g Q0 ∧
  ∀ v g', Q0 v g' → ∀ mp' H' u, Ext mp H mp' H' → Sim K mp' g' H' → RpL K mp' H' v u → Q u H'
def tvT (K : Fr6) (F : FSem) (m : E) : TT := fun σ H Q => ∃ mp env g Q0, SR K mp env g σ H ∧ wpT F m env g Q0 ∧
  ∀ v g', Q0 v g' → ∀ mp' H', Ext mp H mp' H' → Sim K mp' g' H' → Q v H'
def tvN (K : Fr6) (F : FSem) (m : E) : TE := fun σ H Q => ∃ mp env g Q0, SR K mp env g σ H ∧ wpN F m env g Q0 ∧
  ∀ v g', Q0 v g' → ∀ mp' H' a vs, Ext mp H mp' H' → Sim K (mp'.hide a) g' H' → H a = none → H' a = some (.lst vs) → vs.length ≤ sizeLine → RpL K (mp'.hide a) H' v vs → Q (.ref a) H'
def partO : W → Option Int → Prop
  | .non, o => o = none
  | .int i, o => o = some i
  | _, _ => False
def tvP (K : Fr6) (F : FSem) (m : E) : TO := fun σ H Q => ∃ mp env g Q0, SR K mp env g σ H ∧ wpP F m env g Q0 ∧
  ∀ v g', Q0 v g' → ∀ mp' H' o, Ext mp H mp' H' → Sim K mp' g' H' → partO v o → Q o H'
/-- J gives the items xs, as long as the untracked objects (and the tracked list o) stand -/
structure Gives (K : Fr6) (J : It) (mp : M) (H : Hp) (o : Option Nat) (xs : List W) : Prop where
  small : xs.length ≤ sizeLine
  go : ∀ mp2 g2 H2, Ext0 mp H mp2 H2 → Sim K mp2 g2 H2 → stays g2 o xs → ∀ i, i < xs.length → J.go i H2 ∧
    ∀ x H3, J.yld i H2 x H3 → Ext mp2 H2 mp2 H3 ∧ Sim K mp2 g2 H3 ∧ ∃ w, xs[i]? = some w ∧ Rp K mp2 H3 w x
  stop : ∀ mp2 g2 H2, Ext0 mp H mp2 H2 → Sim K mp2 g2 H2 → stays g2 o xs → J.stop xs.length H2
def tvI (K : Fr6) (F : FSem) (m : E) : TI := fun σ H R => ∃ mp env g Q0, SR K mp env g σ H ∧ wpI F m env g Q0 ∧
  ∀ o xs g', Q0 o xs g' → ∀ mp' H' J, Ext mp H mp' H' → Sim K mp' g' H' → Gives K J mp' H' o xs → R J H'
theorem PE.weak {X : Cx} {e : Expr} {t t' : TE} (h : PE X e t) (w : ∀ σ H Q, t' σ H Q → t σ H Q) : PE X e t' := ⟨fun pins s σ H Q I q => h.run pins s σ H Q I (w σ H Q q)⟩
theorem PT.weak {X : Cx} {e : Expr} {t t' : TT} (h : PT X e t) (w : ∀ σ H Q, t' σ H Q → t σ H Q) : PT X e t' := ⟨fun pins s σ H Q I q => h.run pins s σ H Q I (w σ H Q q)⟩
theorem PW.weak {X : Cx} {e : Expr} {t t' : TT} (h : PW X e t) (w : ∀ σ H Q, t' σ H Q → t σ H Q) : PW X e t' := ⟨fun wh pins s σ H Q I q => h.run wh pins s σ H Q I (w σ H Q q)⟩
theorem PTs.weak {X : Cx} {e : List Expr} {t t' : TT} (h : PTs X e t) (w : ∀ σ H Q, t' σ H Q → t σ H Q) : PTs X e t' := ⟨fun pins s σ H Q I q => h.run pins s σ H Q I (w σ H Q q)⟩
theorem PA.weak {X : Cx} {e : List Expr} {t t' : TA} (h : PA X e t) (w : ∀ σ H Q, t' σ H Q → t σ H Q) : PA X e t' := ⟨fun pos pins s σ H Q I q => h.run pos pins s σ H Q I (w σ H Q q)⟩
theorem PO.weak {X : Cx} {e : Option Expr} {t t' : TO} (h : PO X e t) (w : ∀ σ H Q, t' σ H Q → t σ H Q) : PO X e t' := ⟨fun pins s σ H Q I q => h.run pins s σ H Q I (w σ H Q q)⟩
theorem PI.weak {X : Cx} {tg e : Expr} {t t' : TI} (h : PI X tg e t) (w : ∀ σ H Q, t' σ H Q → t σ H Q) : PI X tg e t' := ⟨fun pins s σ H Q I q => h.run pins s σ H Q I (w σ H Q q)⟩
theorem PS.weak {X : Cx} {e : Stmt} {t t' : TS} (h : PS X e t) (w : ∀ D σ H, t' D σ H → t D σ H) : PS X e t' := ⟨fun pins s σ H D I q => h.run pins s σ H D I (w D σ H q)⟩
theorem PSs.weak {X : Cx} {e : List Stmt} {t t' : TS} (h : PSs X e t) (w : ∀ D σ H, t' D σ H → t D σ H) : PSs X e t' := ⟨fun pins s σ H D I q => h.run pins s σ H D I (w D σ H q)⟩
/-- what a def promises: the small language's meaning -/
def spOf (K : Fr6) (F : FSem) (f np : Nat) : Sp := fun vs H Q _ => vs.length = np ∧ ∃ mp g ws Q0, Sim K mp g H ∧ RpL K mp H ws vs ∧ F f ws g Q0 ∧
  ∀ v g', Q0 v g' → ∀ mp' H' u, Ext mp H mp' H' → Sim K mp' g' H' → Rp K mp' H' v u → Q u H'
/-- what a constant of the module is -/
def ConF (w : World) (K : Fr6) : W → V → Prop
  | .dct ks xs, v => ∃ p, v = .ref p ∧ ∀ s x, kfind ks xs s = some x → ∃ u, KDct K w p s u ∧ ∀ mp H, Rp K mp H x u
  | c, v => ∀ mp H, Rp K mp H c v
theorem ConF.flat {w : World} {K : Fr6} {c : W} {v : V} (h : ConF w K c v) (f : flatC c = true) : ∀ mp H, Rp K mp H c v := by
  cases c <;> first | exact h | cases f
/-- what is known of the module -/
structure Facts (P : Program) (w : World) (K : Fr6) (mg : Str → Option Value) (base : Heap) (G : Globs) (F : FSem) (d : Nat) : Prop where
  fns : ∀ (i : Nat) x n, G.fns[i]? = some (x, n) → ∃ f fd ps, mg x = some (.ref f) ∧ PySem.W.keepIn K (.ref f) = true ∧ ps.length = n ∧ Binds K fd ps [] ∧ FnOk P w K mg base CX0 d f fd ps (spOf K F i n)
  consts : ∀ (i : Nat) x c, G.consts[i]? = some (x, c) → ∃ v u, mg x = some u ∧ RelV v u ∧ ConF w K c v
  free : ∀ x ∈ G.free, mg x = none
  ar : ∀ (i : Nat) x n, G.fns[i]? = some (x, n) → ∀ ws g Q, F i ws g Q → ws.length = n
structure Good (G : Globs) (F : FSem) (d : Nat) (c : Ctx) (X : Cx) : Prop where
  facts : Facts X.prog X.w X.K X.mg X.base G F d
  N : X.N = c.N
  nd : c.N.Nodup
  sc : X.env.scope = c.sc
  calm : X.calm = true
  xe : X.xe = fun _ _ => False
  fn : ∀ x, c.fn x = true → X.fn x = true
  room : Room d X.A
/-! ### small facts -/
section
variable {K : Fr6} {F : FSem} {mp mp' : M} {env : Env} {g g' : CH} {σ : St} {H H' : Hp} {w : W} {u : V} {a : Addr}
theorem SR.ext (h : SR K mp env g σ H) (e : Ext mp H mp' H') (s : Sim K mp' g' H') : SR K mp' env g' σ H' := ⟨h.1.ext e, s⟩
theorem slot_some {i : Nat} (h : slot env i = some w) : env[i]? = some (some w) := by
  unfold slot at h
  rw [nth_eq] at h
  split at h
  · cases h; assumption
  · cases h
theorem slot_of {i : Nat} (h : env[i]? = some (some w)) : slot env i = some w := by
  unfold slot
  rw [nth_eq, h]
theorem EnvR.slot {i : Nat} (h : EnvR K mp H env σ) (e : slot env i = some w) : ∃ u, σ[i]? = some (some u) ∧ Rp K mp H w u := h.2 i w (slot_some e)
/-- a tracked list, read -/
theorem Sim.at_ {n : Nat} (s : Sim K mp g H) (e : nth g n = some w) : ∃ a, mp.ob[n]? = some a ∧ RO K mp H a w := s.obj n w (by rw [← nth_eq]; exact e)
theorem Rp.tupI {xs : List W} (h : Rp K mp H (.tup xs) u) : ∃ a vs, u = .ref a ∧ FT K mp H a vs ∧ RpL K mp H xs vs := by simpa only [Rp] using h
theorem Rp.lstI {xs : List W} (h : Rp K mp H (.lst xs) u) : ∃ a vs, u = .ref a ∧ FL mp H a vs ∧ RpL K mp H xs vs := by simpa only [Rp] using h
theorem Rp.lckI {xs : List W} (h : Rp K mp H (.lck xs) u) : ∃ a vs, u = .ref a ∧ FK K mp H a vs ∧ RpL K mp H xs vs := by simpa only [Rp] using h
theorem Rp.intI {i : Int} (h : Rp K mp H (.int i) u) : u = .int i := by simpa only [Rp] using h
theorem Rp.blI {b : Bool} (h : Rp K mp H (.bl b) u) : u = .bl b := by simpa only [Rp] using h
theorem Rp.nonI (h : Rp K mp H .non u) : u = .non := by simpa only [Rp] using h
theorem Rp.strI {x : Str} (h : Rp K mp H (.str x) u) : u = .str x ∧ StrOk x := by simpa only [Rp] using h
theorem Rp.obI {n : Nat} (h : Rp K mp H (.ob n) u) : ∃ a, u = .ref a ∧ mp.ob[n]? = some a := by simpa only [Rp] using h
theorem Rp.int (i : Int) : Rp K mp H (.int i) (.int i) := by simp only [Rp]
theorem Rp.bl (b : Bool) : Rp K mp H (.bl b) (.bl b) := by simp only [Rp]
theorem Rp.non : Rp K mp H .non .non := by simp only [Rp]
theorem Rp.str {x : Str} (h : StrOk x) : Rp K mp H (.str x) (.str x) := by simp only [Rp]; exact ⟨trivial, h⟩
theorem dr_some {n : Nat} (h : nth g n = some w) : dr g (.ob n) = w := by unfold dr; simp only [h]
theorem dr_none {n : Nat} (h : nth g n = none) : dr g (.ob n) = .ob n := by unfold dr; simp only [h]
/-- a value that reads as a list: frozen, or tracked -/
theorem dr_lst' {xs : List W} (s : Sim K mp g H) (r : Rp K mp H w u) (e : dr g w = .lst xs) : ∃ a vs, u = .ref a ∧ H a = some (.lst vs) ∧ vs.length ≤ sizeLine ∧ RpL K mp H xs vs := by
  cases w with
  | lst ys =>
    cases (show W.lst ys = .lst xs from e)
    obtain ⟨a, vs, h1, h2, h3⟩ := r.lstI
    exact ⟨a, vs, h1, h2.2.1, h2.1, h3⟩
  | ob n =>
    obtain ⟨a, h1, h2⟩ := r.obI
    cases q : nth g n with
    | none => rw [dr_none q] at e; cases e
    | some w' =>
      rw [dr_some q] at e
      subst e
      obtain ⟨b, h3, vs, h4, h5, h6⟩ := s.at_ q
      rw [h2] at h3; cases h3
      exact ⟨a, vs, h1, h4, h5, h6⟩
  | _ => cases e
theorem dr_lst {xs : List W} (s : Sim K mp g H) (r : Rp K mp H w u) (e : dr g w = .lst xs) : ∃ a vs, u = .ref a ∧ SqL K H a vs ∧ vs.length ≤ sizeLine ∧ RpL K mp H xs vs :=
  let ⟨a, vs, h1, h2, h3, h4⟩ := dr_lst' s r e
  ⟨a, vs, h1, .of h2, h3, h4⟩
theorem dr_flat (s : Sim K mp g H) {w' : W} (e : dr g w = w') (h : ∀ xs, w' ≠ .lst xs) (h2 : ∀ ks xs, w' ≠ .dct ks xs) (h3 : ∀ n, w' ≠ .ob n) : w = w' := by
  cases w with
  | ob n =>
    cases q : nth g n with
    | none => rw [dr_none q] at e; exact absurd e.symm (h3 n)
    | some w2 =>
      rw [dr_some q] at e
      subst e
      obtain ⟨b, _, h4⟩ := s.at_ q
      cases w2 with
      | lst xs => exact absurd rfl (h xs)
      | dct ks xs => exact absurd rfl (h2 ks xs)
      | _ => exact False.elim h4
  | _ => exact e
theorem dr_tup {xs : List W} (s : Sim K mp g H) (r : Rp K mp H w u) (e : dr g w = .tup xs) : ∃ a vs, u = .ref a ∧ FT K mp H a vs ∧ RpL K mp H xs vs := by
  rw [dr_flat s e (by intro _ z; cases z) (by intro _ _ z; cases z) (by intro _ z; cases z)] at r
  exact r.tupI
theorem dr_int {i : Int} (s : Sim K mp g H) (r : Rp K mp H w u) (e : dr g w = .int i) : u = .int i := by
  rw [dr_flat s e (by intro _ z; cases z) (by intro _ _ z; cases z) (by intro _ z; cases z)] at r
  exact r.intI
theorem dr_bl {i : Bool} (s : Sim K mp g H) (r : Rp K mp H w u) (e : dr g w = .bl i) : u = .bl i := by
  rw [dr_flat s e (by intro _ z; cases z) (by intro _ _ z; cases z) (by intro _ z; cases z)] at r
  exact r.blI
theorem dr_non (s : Sim K mp g H) (r : Rp K mp H w u) (e : dr g w = .non) : u = .non := by
  rw [dr_flat s e (by intro _ z; cases z) (by intro _ _ z; cases z) (by intro _ z; cases z)] at r
  exact r.nonI
theorem dr_str {x : Str} (s : Sim K mp g H) (r : Rp K mp H w u) (e : dr g w = .str x) : u = .str x ∧ StrOk x := by
  rw [dr_flat s e (by intro _ z; cases z) (by intro _ _ z; cases z) (by intro _ z; cases z)] at r
  exact r.strI
theorem keyOf_rp {k : Key} (r : Rp K mp H w u) (e : keyOf w = some k) : u = kV k := by
  cases w <;> simp only [keyOf] at e <;> first | (cases e; done) | skip
  · cases e; exact r.intI
  · cases e; exact r.strI.1
theorem keyOf_keyW (k : Key) : keyOf (keyW k) = some k := by cases k <;> rfl
theorem keysOf_keyW {β : Type} : ∀ kvs : List (Key × β), keysOf (kvs.map fun p => keyW p.1) = some (kvs.map (·.1))
  | [] => rfl
  | p :: r => by
    simp only [List.map_cons, keysOf, keyOf_keyW, keysOf_keyW r]
    rfl
/-- a dict with keys that are ints and texts -/
theorem dct_at {ks xs : List W} {l : List Key} {A : HO → Prop} (h : (∃ kvs : List (Key × V), A (.dK kvs) ∧ ks = kvs.map (fun p => keyW p.1) ∧ RpL K mp H xs (kvs.map (·.2))) ∨
      (∃ kvs : List (List Key × V), (A (.dT kvs) ∧ kvs ≠ []) ∧ ks = kvs.map (fun p => W.tup (p.1.map keyW)) ∧ RpL K mp H xs (kvs.map (·.2)))) (e : keysOf ks = some l) :
    ∃ kvs : List (Key × V), A (.dK kvs) ∧ l = kvs.map (·.1) ∧ RpL K mp H xs (kvs.map (·.2)) := by
  rcases h with ⟨kvs, h1, rfl, h3⟩ | ⟨kvs, ⟨_, h0⟩, rfl, _⟩
  · rw [keysOf_keyW] at e
    cases e
    exact ⟨kvs, h1, rfl, h3⟩
  · cases kvs with
    | nil => exact absurd rfl h0
    | cons p r => simp [keysOf, keyOf] at e
theorem dctOf_at {d : List Key × List W} (s : Sim K mp g H) (r : Rp K mp H w u) (e : dctOf g w = some d) : ∃ a kvs, u = .ref a ∧ Rd H a (.dK kvs) ∧ d.1 = kvs.map (·.1) ∧ RpL K mp H d.2 (kvs.map (·.2)) := by
  unfold dctOf at e
  split at e
  · rename_i ks xs hd
    rw [Option.map_eq_some_iff] at e
    obtain ⟨l, e, rfl⟩ := e
    cases w with
    | dct ks' xs' =>
      cases (show W.dct ks' xs' = .dct ks xs from hd)
      simp only [Rp] at r
      obtain ⟨a, rfl, _, r⟩ := r
      obtain ⟨kvs, h1, h2, h3⟩ := dct_at (A := fun o => Rd H a o) r e
      exact ⟨a, kvs, rfl, h1, h2, h3⟩
    | ob n =>
      obtain ⟨a, h1, h2⟩ := r.obI
      cases q : nth g n with
      | none => rw [dr_none q] at hd; cases hd
      | some w' =>
        rw [dr_some q] at hd
        subst hd
        obtain ⟨b, h3, r⟩ := s.at_ q
        rw [h2] at h3; cases h3
        obtain ⟨kvs, h4, h5, h6⟩ := dct_at (A := fun o => H a = some o) r e
        exact ⟨a, kvs, h1, .inl h4, h5, h6⟩
    | _ => cases hd
  · cases e
theorem dob_at {p : Nat × List Key × List W} (s : Sim K mp g H) (r : Rp K mp H w u) (e : dobOf g w = some p) : ∃ a kvs, u = .ref a ∧ mp.ob[p.1]? = some a ∧ H a = some (.dK kvs) ∧ p.2.1 = kvs.map (·.1) ∧ RpL K mp H p.2.2 (kvs.map (·.2)) := by
  unfold dobOf at e
  cases w <;> simp only at e <;> try (cases e)
  rename_i n
  split at e
  · rename_i ks xs q
    rw [Option.map_eq_some_iff] at e
    obtain ⟨l, e, rfl⟩ := e
    obtain ⟨a, h1, h2⟩ := r.obI
    obtain ⟨b, h3, r⟩ := s.at_ q
    rw [h2] at h3; cases h3
    obtain ⟨kvs, h4, h5, h6⟩ := dct_at (A := fun o => H a = some o) r e
    exact ⟨a, kvs, h1, h2, h4, h5, h6⟩
  · cases e
theorem dfind_rp {k : Key} : ∀ {kvs : List (Key × V)} {xs : List W}, RpL K mp H xs (kvs.map (·.2)) → (∀ x, dfind (kvs.map (·.1)) xs k = some x → ∃ v, valV kvs k = some v ∧ Rp K mp H x v) ∧ (dfind (kvs.map (·.1)) xs k = none → valV kvs k = none)
  | [], xs, r => ⟨fun x h => by simp [dfind] at h, fun _ => rfl⟩
  | p :: kvs, [], r => by simp [RpL] at r
  | p :: kvs, x :: xs, r => by
    simp only [List.map_cons, RpL] at r
    obtain ⟨u, us, e, r1, r2⟩ := r
    cases e
    obtain ⟨i1, i2⟩ := dfind_rp (k := k) r2
    simp only [List.map_cons, dfind]
    by_cases h : p.1 = k
    · rw [if_pos h, valV_pos h]
      exact ⟨fun y e => by cases e; exact ⟨_, rfl, r1⟩, fun e => by cases e⟩
    · rw [if_neg h, valV_neg h]
      exact ⟨i1, i2⟩
theorem dput_keys {k : Key} {v : V} {kvs : List (Key × V)} : (putK kvs k v).map (·.1) = dputK (kvs.map (·.1)) k := by
  unfold putK dputK
  have e : hasK (kvs.map (·.1)) k = kvs.any fun kv => decide (kv.1 = k) := by
    unfold hasK; rw [List.any_map]; rfl
  rw [e]
  by_cases h : (kvs.any fun kv => decide (kv.1 = k)) = true
  · rw [if_pos h, if_pos h, List.map_map]
    apply List.map_congr_left
    intro p _
    simp only [Function.comp]
    split <;> rfl
  · rw [if_neg h, if_neg h, List.map_append]; rfl
theorem drepl_rp {k : Key} {v : V} (rv : Rp K mp H w v) : ∀ {kvs : List (Key × V)} {xs : List W}, RpL K mp H xs (kvs.map (·.2)) → RpL K mp H (drepl (kvs.map (·.1)) xs k w) ((kvs.map fun kv => if kv.1 = k then (kv.1, v) else kv).map (·.2))
  | [], xs, r => by
    simp only [List.map_nil, RpL] at r ⊢
    have e : xs = [] := by
      cases xs with
      | nil => rfl
      | cons _ _ => simp [RpL] at r
    subst e
    exact .nil
  | p :: kvs, [], r => by simp [RpL] at r
  | p :: kvs, x :: xs, r => by
    simp only [List.map_cons, RpL] at r
    obtain ⟨u, us, e, r1, r2⟩ := r
    cases e
    simp only [List.map_cons, drepl]
    refine .cons ?_ (drepl_rp rv r2)
    split
    · exact rv
    · exact r1
theorem dput_rp {k : Key} {v : V} {kvs : List (Key × V)} {xs : List W} (rv : Rp K mp H w v) (r : RpL K mp H xs (kvs.map (·.2))) : RpL K mp H (dputX (kvs.map (·.1)) xs k w) ((putK kvs k v).map (·.2)) := by
  unfold putK dputX
  have e : hasK (kvs.map (·.1)) k = kvs.any fun kv => decide (kv.1 = k) := by
    unfold hasK; rw [List.any_map]; rfl
  rw [e]
  by_cases h : (kvs.any fun kv => decide (kv.1 = k)) = true
  · rw [if_pos h, if_pos h]
    exact drepl_rp rv r
  · rw [if_neg h, if_neg h, List.map_append]
    exact r.append (.cons rv .nil)
/-- a new tuple -/
theorem new_tup {xs : List W} {vs : List V} {p : Addr} {ob : Obj} (s : Sim K mp g H) (r : RpL K mp H xs vs) (hz : vs.length ≤ sizeLine) (hp : H p = none) (ho : PlT ob) :
    Ext mp H mp (upd H p (.frz ob (.tup vs))) ∧ Sim K mp g (upd H p (.frz ob (.tup vs))) ∧ Rp K mp (upd H p (.frz ob (.tup vs))) (.tup xs) (.ref p) := by
  refine ⟨.new hp, s.new hp, ?_⟩
  simp only [Rp]
  exact ⟨p, vs, rfl, ⟨hz, .inl ⟨⟨ob, upd_same, ho⟩, s.fresh hp⟩⟩, r.ext (.new hp)⟩
/-- a new list, hidden -/
theorem new_lst {xs : List W} {vs : List V} {p : Addr} (s : Sim K mp g H) (r : RpL K mp H xs vs) (hp : H p = none) :
    Ext mp H mp (upd H p (.lst vs)) ∧ Sim K (mp.hide p) g (upd H p (.lst vs)) ∧ RpL K (mp.hide p) (upd H p (.lst vs)) xs vs :=
  ⟨.new hp, s.hide hp, r.ext0 (.hide hp)⟩
theorem Sim.hidden (s : Sim K (mp.hide a) g H) : ¬ mp.has a := fun z => z.elim (s.hid a List.mem_cons_self).2 (List.nodup_cons.mp s.ndh).1
/-- .. becomes tracked -/
theorem Sim.trackW (s : Sim K (mp.hide a) g H) (r : RO K (mp.track a) H a w) : Sim K (mp.track a) (g ++ [w]) H := by
  have hn : a ∉ mp.ob := (s.hid a List.mem_cons_self).2
  have hl0 : mp.ob.length = g.length := s.len
  refine ⟨?_, ?_, fun n w' hw => ?_, fun b hb => ?_, (List.nodup_cons.mp s.ndh).2⟩
  · show (mp.ob ++ [a]).Nodup
    rw [List.nodup_append]
    refine ⟨s.nd, by simp, fun b hb c hc z => ?_⟩
    rw [List.mem_singleton] at hc
    rw [z, hc] at hb
    exact hn hb
  · show (mp.ob ++ [a]).length = _
    rw [List.length_append, List.length_append, hl0]; rfl
  · by_cases hl : n < g.length
    · rw [List.getElem?_append_left hl] at hw
      obtain ⟨b, h1, h2⟩ := s.obj n w' hw
      refine ⟨b, ?_, h2.track⟩
      show (mp.ob ++ [a])[n]? = some b
      rw [List.getElem?_append_left (by rw [hl0]; exact hl)]
      exact h1
    · rw [List.getElem?_append_right (by omega)] at hw
      have hz' : n - g.length = 0 := by
        by_cases q : n - g.length = 0
        · exact q
        · rw [List.getElem?_eq_none (by simp; omega)] at hw; cases hw
      rw [hz'] at hw
      cases hw
      refine ⟨a, ?_, r⟩
      show (mp.ob ++ [a])[n]? = some a
      rw [List.getElem?_append_right (by rw [hl0]; omega), hl0, hz']
      rfl
  · obtain ⟨h1, h2⟩ := s.hid b (List.mem_cons_of_mem _ hb)
    refine ⟨h1, fun z => ?_⟩
    rcases List.mem_append.mp z with z | z
    · exact h2 z
    · rw [List.mem_singleton.mp z] at hb
      exact (List.nodup_cons.mp s.ndh).1 hb
theorem Sim.track {xs : List W} {vs : List V} (s : Sim K (mp.hide a) g H) (h : H a = some (.lst vs)) (hz : vs.length ≤ sizeLine) (r : RpL K (mp.hide a) H xs vs) :
    Sim K (mp.track a) (g ++ [.lst xs]) H := s.trackW ⟨vs, h, hz, r.track⟩
end
end Z
namespace Z
open PySem PySem.Spec L2
open PyProof.Rows hiding St
/-! ### operators -/
/-- a rule of the layer for an operator, and what the small language says -/
def OpS (X : Cx) (f : Value → Value → Sem Value) (fn : CH → W → W → Option W) : Prop := ∃ r : R2, OpR X f r ∧ ∀ (mp : M) (g : CH) (H : Hp) (x y : W) (u v : V) (z : W) (Q : VK),
  Sim X.K mp g H → Rp X.K mp H x u → Rp X.K mp H y v → fn g x y = some z → (∀ mp' H' t, Ext mp H mp' H' → Sim X.K mp' g H' → Rp X.K mp' H' z t → Q t H') → r u v H Q
section
variable {X : Cx} {f : Value → Value → Sem Value}
theorem OpS.or {fn : CH → W → W → Option W} {r1 r2 : R2} (h1 : OpR X f r1) (h2 : OpR X f r2) (h : ∀ (mp : M) (g : CH) (H : Hp) (x y : W) (u v : V) (z : W) (Q : VK),
  Sim X.K mp g H → Rp X.K mp H x u → Rp X.K mp H y v → fn g x y = some z → (∀ mp' H' t, Ext mp H mp' H' → Sim X.K mp' g H' → Rp X.K mp' H' z t → Q t H') → r1 u v H Q ∨ r2 u v H Q) : OpS X f fn := ⟨_, h1.or h2, h⟩
theorem ite_some {α : Type} {c : Prop} [Decidable c] {a b : α} (h : (if c then some a else none) = some b) : c ∧ a = b := by
  by_cases hc : c
  · rw [if_pos hc] at h; exact ⟨hc, Option.some.inj h⟩
  · rw [if_neg hc] at h; cases h
theorem log2_bits (x : Int) : Builtin.Int.intBits x ≤ x.natAbs.log2 + 1 := by
  unfold Builtin.Int.intBits
  split <;> omega
/-- two ints -/
theorem bop_int {op : Bop} {C : Int → Int → Prop} {k : Int → Int → Int} (hr : OpR X f (rI C fun i j => .int (k i j)))
    (h : ∀ x y z, bop op x y = some z → ∃ i j, x = .int i ∧ y = .int j ∧ C i j ∧ z = .int (k i j)) : OpS X f (fun _ => bop op) := by
  refine ⟨_, hr, fun mp g H x y u v z Q s rx ry e q => ?_⟩
  obtain ⟨i, j, rfl, rfl, hc, rfl⟩ := h x y z e
  exact ⟨i, j, rx.intI, ry.intI, hc, q mp H _ .refl s (.int _)⟩
theorem bop_int0 {op : Bop} {k : Int → Int → Int} (hr : OpR X f (rI0 fun i j => .int (k i j)))
    (h : ∀ x y z, bop op x y = some z → ∃ i j, x = .int i ∧ y = .int j ∧ z = .int (k i j)) : OpS X f (fun _ => bop op) := by
  refine ⟨_, hr, fun mp g H x y u v z Q s rx ry e q => ?_⟩
  obtain ⟨i, j, rfl, rfl, rfl⟩ := h x y z e
  exact ⟨i, j, rx.intI, ry.intI, q mp H _ .refl s (.int _)⟩
theorem str_append_length (x y : Str) : (x ++ y).length = x.length + y.length := by
  show (x.cps ++ y.cps).size = _
  rw [Array.size_append]; rfl
theorem StrOk.append {x y : Str} (hx : StrOk x) (hy : StrOk y) (h : (x ++ y).length ≤ sizeLine) : StrOk (x ++ y) := by
  refine ⟨h, ?_⟩
  show (x.cps ++ y.cps).all _ = true
  rw [Array.all_append, hx.2, hy.2]; rfl
theorem add_sound : OpS X (binaryOp .Add) (fun _ => bop .add) := by
  refine ⟨_, (op_add.or op_add_str).or op_catF, fun mp g H x y u v z Q s rx ry e q => ?_⟩
  cases x <;> cases y <;> simp only [bop] at e <;> (try cases e)
  · exact .inl (.inl ⟨_, _, rx.intI, ry.intI, q mp H _ .refl s (.int _)⟩)
  · obtain ⟨hz, e⟩ := ite_some e
    subst e
    obtain ⟨rx, okx⟩ := rx.strI
    obtain ⟨ry, oky⟩ := ry.strI
    exact .inl (.inr ⟨_, _, rx, ry, by rw [← str_append_length]; exact hz, q mp H _ .refl s (.str (okx.append oky hz))⟩)
  · obtain ⟨hz, e⟩ := ite_some e
    subst e
    rename_i xs ys
    have rx' := rx
    have ry' := ry
    obtain ⟨a, vs, rfl, fa, ra⟩ := rx.tupI
    obtain ⟨b, us, rfl, fb, rb⟩ := ry.tupI
    have la := ra.length
    have lb := rb.length
    rw [List.length_append] at hz
    refine .inr ⟨a, b, vs, us, rfl, rfl, fa.sq, fb.sq, by omega, fun h0 => ?_, fun _ h0 => ?_, fun _ _ p ob hp ho => ?_⟩
    · subst h0
      obtain rfl : xs = [] := List.eq_nil_of_length_eq_zero (by rw [la]; rfl)
      exact q mp H _ .refl s ry'
    · subst h0
      obtain rfl : ys = [] := List.eq_nil_of_length_eq_zero (by rw [lb]; rfl)
      rw [List.append_nil] at q
      exact q mp H _ .refl s rx'
    · obtain ⟨e1, s1, r1⟩ := new_tup s (ra.append rb) (by rw [List.length_append]; omega) hp ho
      exact q mp _ _ e1 s1 r1
theorem RpL.repA {K : Fr6} {mp : M} {H : Hp} {xs : List W} {us : List V} (h : RpL K mp H xs us) : ∀ k : Nat, RpL K mp H (List.replicate k xs).flatten (List.replicate k us).flatten
  | 0 => .nil
  | k + 1 => by
    rw [List.replicate_succ, List.replicate_succ, List.flatten_cons, List.flatten_cons]
    exact h.append (RpL.repA h k)
theorem mul_sound : OpS X (binaryOp .Mult) (fun _ => bop .mul) := by
  refine ⟨_, op_mulX.or op_repS, fun mp g H x y u v z Q s rx ry e q => ?_⟩
  cases x <;> cases y <;> simp only [bop] at e <;> (try cases e)
  · rename_i i j
    obtain ⟨hc, e⟩ := ite_some e
    subst e
    refine .inl ⟨_, _, rx.intI, ry.intI, ?_, q mp H _ .refl s (.int _)⟩
    have h1 := log2_bits i
    have h2 := log2_bits j
    unfold mulOk at hc
    unfold CMulX
    omega
  · rename_i x j
    obtain ⟨⟨h1, h2, h3⟩, e⟩ := ite_some e
    subst e
    obtain ⟨rfl, ok⟩ := rx.strI
    refine .inr ⟨x, j, rfl, ry.intI, h1, h2, h3, q mp H _ .refl s (.str ?_)⟩
    have lz : ∀ n, n ≤ 1000 → StrOk (repN x n) := fun n => by
      induction n with
      | zero => exact fun _ => ⟨Nat.zero_le _, by simp [repN, Str.empty]⟩
      | succ n ih =>
        intro hn
        refine (ih (by omega)).append ok ?_
        rw [str_append_length, repN_len, sizeLine_eq]
        have a1 : n * x.length ≤ 1000 * 1000 := Nat.mul_le_mul (by omega) h3
        omega
    exact lz _ (by omega)
theorem bop_sound {op : Bop} {o : Operator} (h : opB op o = true) : OpS X (binaryOp o) (fun _ => bop op) := by
  cases op <;> cases o <;> (try cases h)
  · exact add_sound
  · exact bop_int0 op_sub fun x y z e => by
      cases x <;> cases y <;> simp only [bop] at e <;> cases e
      exact ⟨_, _, rfl, rfl, rfl⟩
  · exact mul_sound
  · exact bop_int (C := CDivW) op_fdivW fun x y z e => by
      cases x <;> cases y <;> simp only [bop] at e <;> (try cases e)
      obtain ⟨hc, e⟩ := ite_some e
      exact ⟨_, _, rfl, rfl, hc, e.symm⟩
  · exact bop_int op_mod fun x y z e => by
      cases x <;> cases y <;> simp only [bop] at e <;> (try cases e)
      obtain ⟨hc, e⟩ := ite_some e
      exact ⟨_, _, rfl, rfl, hc, e.symm⟩
  · exact bop_int (C := CPow) op_pow fun x y z e => by
      cases x <;> cases y <;> simp only [bop] at e <;> (try cases e)
      obtain ⟨hc, e⟩ := ite_some e
      exact ⟨_, _, rfl, rfl, hc, e.symm⟩
  · exact bop_int (C := CShl) op_shlW fun x y z e => by
      cases x <;> cases y <;> simp only [bop] at e <;> (try cases e)
      rename_i i j
      obtain ⟨hc, e⟩ := ite_some e
      have h1 := log2_bits i
      exact ⟨_, _, rfl, rfl, ⟨hc.1, by have := hc.2; omega⟩, e.symm⟩
  · exact bop_int op_shr fun x y z e => by
      cases x <;> cases y <;> simp only [bop] at e <;> (try cases e)
      obtain ⟨hc, e⟩ := ite_some e
      exact ⟨_, _, rfl, rfl, hc, e.symm⟩
  · exact bop_int0 op_and fun x y z e => by
      cases x <;> cases y <;> simp only [bop] at e <;> cases e
      exact ⟨_, _, rfl, rfl, rfl⟩
  · exact bop_int0 op_or fun x y z e => by
      cases x <;> cases y <;> simp only [bop] at e <;> cases e
      exact ⟨_, _, rfl, rfl, rfl⟩
  · exact bop_int0 op_xor fun x y z e => by
      cases x <;> cases y <;> simp only [bop] at e <;> cases e
      exact ⟨_, _, rfl, rfl, rfl⟩
/-! ### comparisons -/
section
variable {K : Fr6} {mp : M} {H : Hp} {g : CH}
mutual
theorem dat_rp : ∀ {w : W} {u : V} {d : PyData}, Rp K mp H w u → dat w = some d → Dp K H u d ∧ d.canLay0 = true
  | .non, _, _, r, e => by cases r.nonI; simp only [dat, Option.some.injEq] at e; subst e; exact ⟨.non, by simp only [PyData.canLay0]⟩
  | .bl _, _, _, r, e => by cases r.blI; simp only [dat, Option.some.injEq] at e; subst e; exact ⟨.bl _, by simp only [PyData.canLay0]⟩
  | .int _, _, _, r, e => by cases r.intI; simp only [dat, Option.some.injEq] at e; subst e; exact ⟨.int _, by simp only [PyData.canLay0]⟩
  | .str x, _, _, r, e => by
    obtain ⟨rfl, ok⟩ := r.strI
    simp only [dat, Option.some.injEq] at e; subst e
    exact ⟨.str _, by simp only [PyData.canLay0]; exact ok.2⟩
  | .tup xs, _, _, r, e => by
    obtain ⟨a, vs, rfl, f, r⟩ := r.tupI
    simp only [dat, Option.map_eq_some_iff] at e
    obtain ⟨ds, e1, rfl⟩ := e
    obtain ⟨h1, h2⟩ := dats_rp r e1
    exact ⟨.tup f.sq h1, by simp only [PyData.canLay0]; exact h2⟩
  | .lst xs, _, _, r, e => by
    obtain ⟨a, vs, rfl, f, r⟩ := r.lstI
    simp only [dat, Option.map_eq_some_iff] at e
    obtain ⟨ds, e1, rfl⟩ := e
    obtain ⟨h1, h2⟩ := dats_rp r e1
    exact ⟨.lst f.sq h1, by simp only [PyData.canLay0]; exact h2⟩
  | .dct _ _, _, _, _, e => by simp [dat] at e
  | .lck _, _, _, _, e => by simp [dat] at e
  | .ob _, _, _, _, e => by simp [dat] at e
theorem dats_rp : ∀ {xs : List W} {us : List V} {ds : List PyData}, RpL K mp H xs us → dats xs = some ds → DpAll K H us ds ∧ PyData.canLayAll0 ds = true
  | [], _, _, r, e => by
    simp only [RpL] at r; subst r
    simp only [dats, Option.some.injEq] at e; subst e
    exact ⟨.nil, by simp only [PyData.canLayAll0]⟩
  | x :: xs, _, _, r, e => by
    simp only [RpL] at r
    obtain ⟨u, us, rfl, r1, r2⟩ := r
    simp only [dats] at e
    split at e
    · rename_i d ds e1 e2
      cases e
      obtain ⟨h1, h2⟩ := dat_rp r1 e1
      obtain ⟨h3, h4⟩ := dats_rp r2 e2
      exact ⟨.cons h1 h3, by simp only [PyData.canLayAll0, h2, h4, Bool.and_self]⟩
    · cases e
end
theorem dr_dat {w : W} {u : V} {d : PyData} (s : Sim K mp g H) (r : Rp K mp H w u) (e : dat (dr g w) = some d) : Dp K H u d ∧ d.canLay0 = true := by
  cases w with
  | ob n =>
    cases q : nth g n with
    | none => rw [dr_none q] at e; simp [dat] at e
    | some w2 =>
      rw [dr_some q] at e
      cases w2 with
      | lst xs =>
        simp only [dat, Option.map_eq_some_iff] at e
        obtain ⟨ds, e1, rfl⟩ := e
        obtain ⟨a, vs, rfl, h1, _, h2⟩ := dr_lst s r (dr_some q)
        obtain ⟨h3, h4⟩ := dats_rp h2 e1
        exact ⟨.lst h1 h3, by simp only [PyData.canLay0]; exact h4⟩
      | _ => 
        obtain ⟨b, _, h4⟩ := s.at_ q
        first | exact False.elim h4 | (simp [dat] at e)
  | _ => exact dat_rp r e
theorem shaped_of {d : PyData} (h : d.canLay0 = true) (h2 : d.depth ≤ 64) : SeqAt.shaped d = true := by
  unfold SeqAt.shaped
  rw [h, decide_eq_true h2]; rfl
end
def liftB (fn : CH → W → W → Option Bool) : CH → W → W → Option W := fun g x y => (fn g x y).map .bl
theorem eqD_sound (hu : X.A.units + 64 < cLine) : OpS X (compareOp .Eq) (liftB eqD) := by
  refine ⟨_, op_eqD hu, fun mp g H x y u v z Q s rx ry e q => ?_⟩
  simp only [liftB, Option.map_eq_some_iff] at e
  obtain ⟨b, e, rfl⟩ := e
  unfold eqD at e
  split at e
  · rename_i d e' h1 h2
    obtain ⟨⟨hd, he⟩, rfl⟩ := ite_some e
    obtain ⟨a1, a2⟩ := dr_dat s rx h1
    obtain ⟨b1, b2⟩ := dr_dat s ry h2
    exact ⟨d, e', a1, b1, shaped_of a2 hd, shaped_of b2 he, q mp H _ .refl s (.bl _)⟩
  · cases e
theorem neD_sound (hu : X.A.units + 64 < cLine) : OpS X (compareOp .NotEq) (liftB fun g x y => (eqD g x y).map not) := by
  refine ⟨_, op_neD hu, fun mp g H x y u v z Q s rx ry e q => ?_⟩
  simp only [liftB, Option.map_eq_some_iff] at e
  obtain ⟨b, ⟨b', e, rfl⟩, rfl⟩ := e
  unfold eqD at e
  split at e
  · rename_i d e' h1 h2
    obtain ⟨⟨hd, he⟩, rfl⟩ := ite_some e
    obtain ⟨a1, a2⟩ := dr_dat s rx h1
    obtain ⟨b1, b2⟩ := dr_dat s ry h2
    exact ⟨d, e', a1, b1, shaped_of a2 hd, shaped_of b2 he, q mp H _ .refl s (.bl _)⟩
  · cases e
/-- in, over a list or a tuple of data -/
def rInS (K : Fr6) (neg : Bool) : R2 := fun x y H Q => ∃ d ds, Dp K H x d ∧ (Dp K H y (.list ds) ∨ Dp K H y (.tuple ds)) ∧ SeqAt.shaped d = true ∧ PyData.canLayAll0 ds = true ∧ Q (.bl (if neg then !(ds.any fun z => PyData.eqv z d) else ds.any fun z => PyData.eqv z d)) H
theorem op_inS (hu : X.A.units + 65 < cLine) : OpR X (compareOp .In) (rInS X.K false) := by
  intro pins s σ H x y v u Q I rx ry h
  obtain ⟨d, ds, hd, he, sd, se, q⟩ := h
  obtain ⟨as, r1⟩ := Dp.reads I d x v hd rx
  rcases he with he | he
  · obtain ⟨bs, r2⟩ := Dp.reads I (.list ds) y u he ry
    exact SeqAt.in_list_reads r2 r1 se (SeqAt.canLay_of_shaped sd) (room_in_shaped sd hu) ⟨.bl _, H, I, rfl, q⟩
  · obtain ⟨bs, r2⟩ := Dp.reads I (.tuple ds) y u he ry
    exact SeqAt.in_tuple_reads r2 r1 se (SeqAt.canLay_of_shaped sd) (room_in_shaped sd hu) ⟨.bl _, H, I, rfl, q⟩
theorem op_notInS (hu : X.A.units + 65 < cLine) : OpR X (compareOp .NotIn) (rInS X.K true) := by
  intro pins s σ H x y v u Q I rx ry h
  obtain ⟨d, ds, hd, he, sd, se, q⟩ := h
  obtain ⟨as, r1⟩ := Dp.reads I d x v hd rx
  rcases he with he | he
  · obtain ⟨bs, r2⟩ := Dp.reads I (.list ds) y u he ry
    exact SeqAt.notIn_list_reads r2 r1 se (SeqAt.canLay_of_shaped sd) (room_in_shaped sd hu) ⟨.bl _, H, I, rfl, q⟩
  · obtain ⟨bs, r2⟩ := Dp.reads I (.tuple ds) y u he ry
    exact SeqAt.notIn_tuple_reads r2 r1 se (SeqAt.canLay_of_shaped sd) (room_in_shaped sd hu) ⟨.bl _, H, I, rfl, q⟩
theorem inD_rule {K : Fr6} {neg : Bool} {mp : M} {g : CH} {H : Hp} {x y : W} {u v : V} {b : Bool} {Q : VK} (s : Sim K mp g H) (rx : Rp K mp H x u) (ry : Rp K mp H y v) (e : inD g x y = some b)
    (q : Q (.bl (if neg then !b else b)) H) : rInS K neg u v H Q := by
  unfold inD at e
  split at e
  · rename_i d ys h1 h2
    rw [Option.bind_eq_some_iff] at e
    obtain ⟨es, h3, e⟩ := e
    obtain ⟨⟨hd, he⟩, rfl⟩ := ite_some e
    obtain ⟨a1, a2⟩ := dr_dat s rx h1
    obtain ⟨b, vs, rfl, hb, rb⟩ := dr_tup s ry h2
    obtain ⟨b1, b2⟩ := dats_rp rb h3
    exact ⟨d, es, a1, .inr (.tup hb.sq b1), shaped_of a2 hd, b2, q⟩
  · rename_i d ys h1 h2
    rw [Option.bind_eq_some_iff] at e
    obtain ⟨es, h3, e⟩ := e
    obtain ⟨⟨hd, he⟩, rfl⟩ := ite_some e
    obtain ⟨a1, a2⟩ := dr_dat s rx h1
    obtain ⟨b, vs, rfl, hb, _, rb⟩ := dr_lst s ry h2
    obtain ⟨b1, b2⟩ := dats_rp rb h3
    exact ⟨d, es, a1, .inl (.lst hb b1), shaped_of a2 hd, b2, q⟩
  · cases e
theorem cop_int {op : Cop} {p : Int → Int → Bool} (hr : OpR X f (rI0 fun i j => .bl (p i j)))
    (h : ∀ g x y z, cop g op x y = some z → ∃ i j, x = .int i ∧ y = .int j ∧ z = p i j) : OpS X f (liftB fun g => cop g op) := by
  refine ⟨_, hr, fun mp g H x y u v z Q s rx ry e q => ?_⟩
  simp only [liftB, Option.map_eq_some_iff] at e
  obtain ⟨b, e, rfl⟩ := e
  obtain ⟨i, j, rfl, rfl, rfl⟩ := h g x y b e
  exact ⟨i, j, rx.intI, ry.intI, q mp H _ .refl s (.bl _)⟩
theorem isN_rel {K : Fr6} {mp : M} {H : Hp} {x : W} {u : V} (r : Rp K mp H x u) : decide (u = .non) = isNon x := by
  cases x with
  | non => cases r.nonI; rfl
  | bl b => cases r.blI; rfl
  | int i => cases r.intI; rfl
  | str y => cases r.strI.1; rfl
  | tup xs => obtain ⟨a, vs, rfl, _⟩ := r.tupI; rfl
  | lst xs => obtain ⟨a, vs, rfl, _⟩ := r.lstI; rfl
  | dct ks xs => simp only [Rp] at r; obtain ⟨a, rfl, _⟩ := r; rfl
  | lck xs => obtain ⟨a, vs, rfl, _⟩ := r.lckI; rfl
  | ob n => obtain ⟨a, rfl, _⟩ := r.obI; rfl
theorem cop_sound {op : Cop} {o : CmpOp} (hu : X.A.units + 65 < cLine) (h : copB op o = true) : OpS X (compareOp o) (liftB fun g => cop g op) := by
  cases op <;> cases o <;> (try cases h)
  · exact eqD_sound (by omega)
  · exact neD_sound (by omega)
  · exact cop_int op_lt fun g x y z e => by
      cases x <;> cases y <;> simp only [cop] at e <;> cases e
      exact ⟨_, _, rfl, rfl, rfl⟩
  · exact cop_int op_le fun g x y z e => by
      cases x <;> cases y <;> simp only [cop] at e <;> cases e
      exact ⟨_, _, rfl, rfl, rfl⟩
  · exact cop_int op_gt fun g x y z e => by
      cases x <;> cases y <;> simp only [cop] at e <;> cases e
      exact ⟨_, _, rfl, rfl, rfl⟩
  · exact cop_int op_ge fun g x y z e => by
      cases x <;> cases y <;> simp only [cop] at e <;> cases e
      exact ⟨_, _, rfl, rfl, rfl⟩
  · refine ⟨_, op_isN, fun mp g H x y u v z Q s rx ry e q => ?_⟩
    simp only [liftB, Option.map_eq_some_iff] at e
    obtain ⟨b, e, rfl⟩ := e
    have e2 : y = .non ∧ b = isNon x := by
      cases y <;> first
        | (cases x <;> cases e <;> exact ⟨rfl, rfl⟩)
        | (cases x <;> cases e)
    obtain ⟨rfl, rfl⟩ := e2
    refine ⟨ry.nonI, ?_⟩
    rw [isN_rel rx]
    exact q mp H _ .refl s (.bl _)
  · refine ⟨_, op_notN, fun mp g H x y u v z Q s rx ry e q => ?_⟩
    simp only [liftB, Option.map_eq_some_iff] at e
    obtain ⟨b, e, rfl⟩ := e
    have e2 : y = .non ∧ b = !isNon x := by
      cases y <;> first
        | (cases x <;> cases e <;> exact ⟨rfl, rfl⟩)
        | (cases x <;> cases e)
    obtain ⟨rfl, rfl⟩ := e2
    refine ⟨ry.nonI, ?_⟩
    rw [isN_rel rx]
    exact q mp H _ .refl s (.bl _)
  · refine ⟨_, op_inS hu, fun mp g H x y u v z Q s rx ry e q => ?_⟩
    simp only [liftB, Option.map_eq_some_iff] at e
    obtain ⟨b, e, rfl⟩ := e
    have e' : inD g x y = some b := by cases x <;> cases y <;> exact e
    exact inD_rule s rx ry e' (q mp H _ .refl s (.bl _))
  · refine ⟨_, op_notInS hu, fun mp g H x y u v z Q s rx ry e q => ?_⟩
    simp only [liftB, Option.map_eq_some_iff] at e
    obtain ⟨b, e, rfl⟩ := e
    have e' : (inD g x y).map not = some b := by cases x <;> cases y <;> exact e
    rw [Option.map_eq_some_iff] at e'
    obtain ⟨b', e', rfl⟩ := e'
    exact inD_rule (neg := true) s rx ry e' (q mp H _ .refl s (.bl _))
def rDIn (neg : Bool) : R2 := fun y x H Q => ∃ a o, x = .ref a ∧ DGet H a y o ∧ Q (.bl (if neg = true then !o.isSome else o.isSome)) H
theorem op_din {neg : Bool} {o : CmpOp} (hu : X.A.units + 1 < cLine) (h : dinB neg o = true) : OpR X (compareOp o) (rDIn neg) := by
  intro pins s σ H y x v u Q I ry rx h2
  obtain ⟨a, ov, rfl, g, q⟩ := h2
  cases (show u = Value.ref a from rx)
  cases neg <;> cases o <;> first | (cases h; done) | skip
  · exact d_in hu I g ry fun s' I' => ⟨.bl ov.isSome, H, I', rfl, q⟩
  · exact d_notIn hu I g ry fun s' I' => ⟨.bl (!ov.isSome), H, I', rfl, q⟩
theorem dinW_sound {K : Fr6} {mp : M} {H : Hp} {g : CH} {x y : W} {u v : V} {b : Bool} {neg : Bool} {Q : VK} (s : Sim K mp g H) (ry : Rp K mp H y v) (rx : Rp K mp H x u) (e : dinW g y x = some b) (q : Q (.bl (if neg = true then !b else b)) H) : rDIn neg v u H Q := by
  unfold dinW at e
  rw [Option.bind_eq_some_iff] at e
  obtain ⟨d, h1, e⟩ := e
  rw [Option.map_eq_some_iff] at e
  obtain ⟨k, h2, rfl⟩ := e
  obtain ⟨a, kvs, rfl, hr, hk, rl⟩ := dctOf_at s rx h1
  obtain ⟨f1, f2⟩ := dfind_rp (k := k) rl
  rw [hk] at q
  refine ⟨a, valV kvs k, rfl, .inl ⟨kvs, k, hr, keyOf_rp ry h2, rfl⟩, ?_⟩
  cases hf : dfind (kvs.map (·.1)) d.2 k with
  | none => rw [f2 hf]; rw [hf] at q; exact q
  | some z =>
    obtain ⟨v', hv, _⟩ := f1 z hf
    rw [hv]; rw [hf] at q; exact q
end
end Z
namespace Z
open PySem PySem.Spec L2
open PyProof.Rows hiding St
/-! ### the syntax's own facts -/
theorem star_cons {e : Expr} {es : List Expr} {env : PySem.Env} (h : noStar e = true) : starEach (e :: es) env = (false, eval e env) :: starEach es env := by
  cases e <;> first | rfl | cases h
theorem plain_star : ∀ {es : List Expr} {env : PySem.Env} {pos : Pos}, es.all noStar = true → (backTo pos (starEach es env)).any (·.1) = false
  | [], _, _, _ => rfl
  | e :: es, env, pos, h => by
    rw [List.all_cons, Bool.and_eq_true] at h
    rw [star_cons h.1]
    show (false || (backTo pos (starEach es env)).any (·.1)) = false
    rw [plain_star h.2]; rfl
theorem all_star : ∀ {es : List Expr} {env : PySem.Env} {pos : Pos}, es.all noStar = true → (backTo pos (starEach es env)).all (fun x => !x.1) = true
  | [], _, _, _ => rfl
  | e :: es, env, pos, h => by
    rw [List.all_cons, Bool.and_eq_true] at h
    rw [star_cons h.1]
    show ((!false) && (backTo pos (starEach es env)).all (fun x => !x.1)) = true
    rw [all_star h.2]; rfl
theorem plainIx_of {b : Expr} (h : noSlice b = true) : PlainIx b := by
  intro o i
  cases b <;> first | rfl | cases h
theorem noMark {op : CmpOp} {e : Expr} (h : noSet e = true) : behindInMarks op e = false := by
  cases e <;> first | rfl | cases h
theorem noFold {e : Expr} {env : PySem.Env} (h : noSet e = true) : ∀ x, foldedSetIterable e env x = pure x := by
  intro x
  cases e <;> first | rfl | cases h
theorem attr_plain {e : Expr} {m : Str} {env : PySem.Env} (h : noCall0 e = true) : attributeBase e m env (eval e env) = eval e env := by
  cases e <;> first | rfl | cases h
theorem test_plain {e : Expr} {env : PySem.Env} (h : plainTest e = true) : ∀ whole, isTrue e env whole = (do let v ← whole; standAt e.pos; holding [v] (truthy v)) := by
  intro whole
  cases e <;> first | rfl | cases h
theorem vis_of {sc : Scope} {x : Str} (h : visB sc x = true) : Vis sc x := by
  unfold visB at h
  split at h <;> first | exact .inl (by assumption) | exact .inr (.inl (by assumption)) | exact .inr (.inr (by assumption)) | cases h
theorem gl_of {sc : Scope} {x : Str} (h : glB sc x = true) : sc.names.lookup x = some .globalImplicit := by
  unfold glB at h
  split at h
  · assumption
  · cases h
theorem loc_of {c : Ctx} {x : Str} (h : locB c x = true) : (c.sc.names.lookup x = some .local) ∨ (c.sc.names.lookup x = some .cell ∧ c.fn x = true) := by
  unfold locB at h
  split at h
  · exact .inl (by assumption)
  · exact .inr ⟨by assumption, h⟩
  · cases h
theorem dbg_of {x : Str} (h : notDbg x = true) : (x == ("__debug__" : Str)) = false ∧ (x == ("__classdict__" : Str)) = false := by
  unfold notDbg at h
  rw [Bool.and_eq_true, Bool.not_eq_true', Bool.not_eq_true'] at h
  exact h
section
variable {X : Cx} {G : Globs} {F : FSem} {d : Nat} {c : Ctx}
theorem Good.gl (g : Good G F d c X) {x : Str} (h : glB c.sc x = true) : Gl X x := by
  unfold Gl Env.kindOf
  rw [g.sc]
  exact gl_of h
theorem Good.vis (g : Good G F d c X) {x : Str} (h : visB c.sc x = true) : Vis X.env.scope x := by rw [g.sc]; exact vis_of h
theorem Good.ndX (g : Good G F d c X) : X.N.Nodup := by rw [g.N]; exact g.nd
theorem Good.xN (g : Good G F d c X) {i : Nat} {x : Str} (h : c.N[i]? = some x) : X.N[i]? = some x := by rw [g.N]; exact h
theorem Good.locX (g : Good G F d c X) {x : Str} (h : locB c x = true) : Loc X.env.scope x := by
  rw [g.sc]
  rcases loc_of h with h | h
  · exact .inl h
  · exact .inr h.1
theorem Good.locF (g : Good G F d c X) {x : Str} (h : locB c x = true) : X.fn x = true ∨ X.env.scope.names.lookup x = some .local := by
  rcases loc_of h with h | h
  · right; rw [g.sc]; exact h
  · left; exact g.fn _ h.2
theorem blt_of {x s : Str} (h : bltB G c.sc x s = true) : x = s ∧ glB c.sc x = true ∧ x ∈ G.free := by
  unfold bltB at h
  rw [Bool.and_eq_true, Bool.and_eq_true] at h
  exact ⟨of_decide_eq_true h.1.1, h.1.2, of_decide_eq_true h.2⟩
/-! ### values -/
theorem s_v (g : Good G F d c X) {i : Nat} {x : Str} {pos : Pos} (h : chkE G (.v i) c (.Name x pos) = true) : PE X (.Name x pos) (tvE X.K F (.v i)) := by
  simp only [chkE, Bool.and_eq_true, decide_eq_true_eq] at h
  obtain ⟨⟨h1, h2⟩, h3⟩ := h
  refine PE.weak (pe_var (g.xN h1) (g.vis h2) (dbg_of h3).1 (dbg_of h3).2) fun σ H Q ⟨mp, env, g, Q0, sr, hw, k⟩ => ?_
  simp only [wpE, opt] at hw
  obtain ⟨w, hw, q⟩ := hw
  obtain ⟨u, hu, r⟩ := sr.1.slot hw
  exact ⟨u, hu, k w g q mp H u .refl sr.2 r⟩
theorem s_k {w : W} {k : Const} {j : Nat} {pos : Pos} (h : chkE G (.k w) c (.Constant k j pos) = true) : PE X (.Constant k j pos) (tvE X.K F (.k w)) := by
  simp only [chkE] at h
  have go : ∀ {v : V}, (∀ mp H, Rp X.K mp H w v) → ∀ σ H Q, tvE X.K F (.k w) σ H Q → tC v σ H Q := fun {v} hr σ H Q ⟨mp, env, g, Q0, sr, hw, k⟩ => by
    simp only [wpE] at hw
    exact k w g hw mp H v .refl sr.2 (hr mp H)
  cases w <;> cases k <;> (try cases h)
  · exact PE.weak pe_non (go fun _ _ => .non)
  · simp only [constB, beq_iff_eq] at h
    subst h
    exact PE.weak pe_bl (go fun _ _ => .bl _)
  · simp only [constB, decide_eq_true_eq] at h
    subst h
    exact PE.weak pe_int (go fun _ _ => .int _)
  · simp only [constB, Bool.and_eq_true, decide_eq_true_eq] at h
    obtain ⟨⟨h1, h2⟩, h3⟩ := h
    subst h1
    exact PE.weak pe_str (go fun _ _ => .str ⟨h2, h3⟩)
theorem s_gl (g : Good G F d c X) {w : W} {n : Nat} {x : Str} {pos : Pos} (h : chkE G (.gl w n) c (.Name x pos) = true) : PE X (.Name x pos) (tvE X.K F (.gl w n)) := by
  simp only [chkE, Bool.and_eq_true] at h
  obtain ⟨⟨h1, h2⟩, h3⟩ := h
  split at h1
  · rename_i y w' e
    rw [Bool.and_eq_true] at h1
    obtain rfl := of_decide_eq_true h1.1
    have h12 := Bool.and_eq_true_iff.mp h1.2
    obtain rfl := W.beq_ok h12.1
    obtain ⟨v, u, hm, r, hr⟩ := g.facts.consts _ _ _ e
    have hr := hr.flat h12.2
    refine PE.weak (pe_glob (g.gl h2) hm r (dbg_of h3).1) fun σ H Q ⟨mp, env, g, Q0, sr, hw, k⟩ => ?_
    simp only [wpE] at hw
    exact k w g hw mp H v .refl sr.2 (hr mp H)
  · cases h1
theorem s_op {a b : E} {e : Expr} {f : Value → Value → Sem Value} {fn : CH → W → W → Option W} {m : E} (R : CH → W → W → WK → Prop) (hf : OpS X f fn)
    (rule : ∀ {r : R2}, OpR X f r → PE X e (tOp r (tvE X.K F a) (tvE X.K F b)))
    (hm : ∀ env g Q, wpE F m env g Q → wpE F a env g fun x g1 => wpE F b env g1 fun y g2 => R g2 x y Q) (hR : ∀ g x y Q, R g x y Q → ∃ z, fn g x y = some z ∧ Q z g) : PE X e (tvE X.K F m) := by
  obtain ⟨r, hr, hs⟩ := hf
  refine PE.weak (rule hr) fun σ H Q ⟨mp, env, g, Q0, sr, hw, k⟩ => ?_
  refine ⟨mp, env, g, _, sr, hm _ _ _ hw, fun x g1 hq mp1 H1 u1 e1 s1 r1 => ?_⟩
  refine ⟨mp1, env, g1, _, sr.ext e1 s1, hq, fun y g2 hq2 mp2 H2 u2 e2 s2 r2 => ?_⟩
  obtain ⟨z, hz, hq3⟩ := hR _ _ _ _ hq2
  exact hs mp2 g2 H2 x y u1 u2 z Q s2 (r1.ext e2) r2 hz fun mp' H' t e3 s3 r3 => k z g2 hq3 mp' H' t ((e1.trans e2).trans e3) s3 r3
theorem opt_map {α β : Type} {o : Option α} {f : α → β} {P : β → Prop} (h : opt o fun a => P (f a)) : ∃ z, o.map f = some z ∧ P z := by
  obtain ⟨a, h1, h2⟩ := h
  exact ⟨f a, by rw [h1]; rfl, h2⟩
theorem s_bin {op : Bop} {a b : E} {o : Operator} {l r : Expr} {pos : Pos} (ha : PE X l (tvE X.K F a)) (hb : PE X r (tvE X.K F b)) (h : opB op o = true) : PE X (.BinOp l o r pos) (tvE X.K F (.bin op a b)) :=
  s_op (fun g x y Q => opt (bop op x y) fun z => Q z g) (bop_sound h) (fun hr => pe_op hr ha hb) (fun env g Q hw => by simpa only [wpE] using hw) fun g x y Q h => h
theorem s_cmp {op : Cop} {a b : E} {o : CmpOp} {l r : Expr} {pos : Pos} (hu : X.A.units + 65 < cLine) (ha : PE X l (tvE X.K F a)) (hb : PE X r (tvE X.K F b)) (h : copB op o = true) (hs : noSet r = true) : PE X (.Compare l [o] [r] pos) (tvE X.K F (.cmp op a b)) :=
  s_op (fun g x y Q => opt (cop g op x y) fun z => Q (.bl z) g) (cop_sound hu h) (fun hr => pe_cmpR hr ha hb (noMark hs)) (fun env g Q hw => by simpa only [wpE] using hw) fun g x y Q h => opt_map (f := W.bl) (P := fun z => Q z g) h
theorem s_cmpT {op : Cop} {a b : E} {o : CmpOp} {l r : Expr} {pos : Pos} (hu : X.A.units + 65 < cLine) (ha : PE X l (tvE X.K F a)) (hb : PE X r (tvE X.K F b)) (h : copB op o = true) (hs : noSet r = true) : PT X (.Compare l [o] [r] pos) (tvT X.K F (.cmp op a b)) := by
  obtain ⟨r', hr, hs'⟩ := cop_sound (X := X) hu h
  refine PT.weak (pt_cmpR hr ha hb (noMark hs)) fun σ H Q ⟨mp, env, g, Q0, sr, hw, k⟩ => ?_
  simp only [wpT] at hw
  refine ⟨mp, env, g, _, sr, hw, fun x g1 hq mp1 H1 u1 e1 s1 r1 => ?_⟩
  refine ⟨mp1, env, g1, _, sr.ext e1 s1, hq, fun y g2 hq2 mp2 H2 u2 e2 s2 r2 => ?_⟩
  obtain ⟨z, hz, hq3⟩ := hq2
  refine hs' mp2 g2 H2 x y u1 u2 (.bl z) _ s2 (r1.ext e2) r2 (by simp only [liftB, hz, Option.map_some]) fun mp' H' t e3 s3 r3 => ?_
  exact ⟨z, r3.blI, k z g2 hq3 mp' H' ((e1.trans e2).trans e3) s3⟩
theorem s_neg {a : E} {l : Expr} {pos : Pos} (ha : PE X l (tvE X.K F a)) : PE X (.UnaryOp .USub l pos) (tvE X.K F (.neg a)) := by
  refine PE.weak (pe_un un_neg ha) fun σ H Q ⟨mp, env, g, Q0, sr, hw, k⟩ => ?_
  simp only [wpE] at hw
  refine ⟨mp, env, g, _, sr, hw, fun x g1 hq mp1 H1 u1 e1 s1 r1 => ?_⟩
  cases x with
  | int i => exact ⟨i, r1.intI, k _ g1 hq mp1 H1 _ e1 s1 (.int _)⟩
  | _ => exact hq.elim
theorem s_nt {a : E} {l : Expr} {pos : Pos} (ha : PE X l (tvE X.K F a)) : PE X (.UnaryOp .Not l pos) (tvE X.K F (.nt a)) := by
  refine PE.weak (pe_not ha) fun σ H Q ⟨mp, env, g, Q0, sr, hw, k⟩ => ?_
  simp only [wpE] at hw
  refine ⟨mp, env, g, _, sr, hw, fun x g1 hq mp1 H1 u1 e1 s1 r1 => ?_⟩
  cases x with
  | bl i => exact ⟨i, r1.blI, k _ g1 hq mp1 H1 _ e1 s1 (.bl _)⟩
  | _ => exact hq.elim
theorem s_and {a b : E} {x y : Expr} {rest : List Expr} {pos : Pos} (ha : PE X x (tvE X.K F a)) (hb : PE X (.BoolOp .And (y :: rest) pos) (tvE X.K F b)) : PE X (.BoolOp .And (x :: y :: rest) pos) (tvE X.K F (.and a b)) := by
  refine PE.weak (pe_and ha hb) fun σ H Q ⟨mp, env, g, Q0, sr, hw, k⟩ => ?_
  simp only [wpE] at hw
  refine ⟨mp, env, g, _, sr, hw, fun x g1 hq mp1 H1 u1 e1 s1 r1 => ?_⟩
  cases x with
  | bl i =>
    refine ⟨i, r1.blI, ?_⟩
    simp only at hq
    cases i with
    | true => exact ⟨mp1, env, g1, _, sr.ext e1 s1, hq, fun y g2 hq2 mp2 H2 u2 e2 s2 r2 => k _ g2 hq2 mp2 H2 _ (e1.trans e2) s2 r2⟩
    | false => exact k _ g1 hq mp1 H1 _ e1 s1 (.bl _)
  | _ => exact hq.elim
theorem s_or {a b : E} {x y : Expr} {rest : List Expr} {pos : Pos} (ha : PE X x (tvE X.K F a)) (hb : PE X (.BoolOp .Or (y :: rest) pos) (tvE X.K F b)) : PE X (.BoolOp .Or (x :: y :: rest) pos) (tvE X.K F (.or a b)) := by
  refine PE.weak (pe_or ha hb) fun σ H Q ⟨mp, env, g, Q0, sr, hw, k⟩ => ?_
  simp only [wpE] at hw
  refine ⟨mp, env, g, _, sr, hw, fun x g1 hq mp1 H1 u1 e1 s1 r1 => ?_⟩
  cases x with
  | bl i =>
    refine ⟨i, r1.blI, ?_⟩
    simp only at hq
    cases i with
    | false => exact ⟨mp1, env, g1, _, sr.ext e1 s1, hq, fun y g2 hq2 mp2 H2 u2 e2 s2 r2 => k _ g2 hq2 mp2 H2 _ (e1.trans e2) s2 r2⟩
    | true => exact k _ g1 hq mp1 H1 _ e1 s1 (.bl _)
  | _ => exact hq.elim
theorem s_ite {t a b : E} {ct x y : Expr} {pos : Pos} (ht : PT X ct (tvT X.K F t)) (ha : PE X x (tvE X.K F a)) (hb : PE X y (tvE X.K F b)) : PE X (.IfExp ct x y pos) (tvE X.K F (.ite t a b)) := by
  refine PE.weak (pe_ifExp ht ha hb) fun σ H Q ⟨mp, env, g, Q0, sr, hw, k⟩ => ?_
  simp only [wpE] at hw
  refine ⟨mp, env, g, _, sr, hw, fun d g1 hq mp1 H1 e1 s1 => ?_⟩
  cases d with
  | true => exact ⟨mp1, env, g1, _, sr.ext e1 s1, hq, fun y g2 hq2 mp2 H2 u2 e2 s2 r2 => k _ g2 hq2 mp2 H2 _ (e1.trans e2) s2 r2⟩
  | false => exact ⟨mp1, env, g1, _, sr.ext e1 s1, hq, fun y g2 hq2 mp2 H2 u2 e2 s2 r2 => k _ g2 hq2 mp2 H2 _ (e1.trans e2) s2 r2⟩
theorem s_tup {a : E} {es : List Expr} {k : Nat} {pos : Pos} (ha : PA X es (tvA X.K F a)) : PE X (.Tuple es k pos) (tvE X.K F (.tup a)) := by
  refine PE.weak (pe_tupF ha) fun σ H Q ⟨mp, env, g, Q0, sr, hw, k⟩ => ?_
  simp only [wpE] at hw
  refine ⟨mp, env, g, _, sr, hw, fun xs g1 hq mp1 H1 us e1 s1 r1 => ?_⟩
  obtain ⟨w, hw, hq⟩ := hq
  obtain ⟨hz, rfl⟩ := ite_some hw
  have hl := r1.length
  refine ⟨by omega, fun p ob hp ho => ?_⟩
  obtain ⟨e2, s2, r2⟩ := new_tup s1 r1 (by omega) hp ho
  exact k _ g1 hq mp1 _ _ (e1.trans e2) s2 r2
theorem s_fz {a : E} {e : Expr} (ha : PE X e (tvN X.K F a)) : PE X e (tvE X.K F (.fz a)) := by
  refine PE.weak ha fun σ H Q ⟨mp, env, g, Q0, sr, hw, k⟩ => ?_
  simp only [wpE] at hw
  refine ⟨mp, env, g, _, sr, hw, fun xs g1 hq mp1 H1 a vs e1 s1 hn h hz r => ?_⟩
  refine k _ g1 hq mp1 H1 _ e1 s1.unhide ?_
  simp only [Rp]
  exact ⟨a, vs, rfl, ⟨hz, h, s1.hidden⟩, r.unhide⟩
theorem s_mk {a : E} {e : Expr} (ha : PE X e (tvN X.K F a)) : PE X e (tvE X.K F (.mk a)) := by
  refine PE.weak ha fun σ H Q ⟨mp, env, g, Q0, sr, hw, k⟩ => ?_
  simp only [wpE] at hw
  refine ⟨mp, env, g, _, sr, hw, fun xs g1 hq mp1 H1 a vs e1 s1 hn h hz r => ?_⟩
  refine k _ _ (opt_add hq) (mp1.track a) H1 _ (e1.track hn) (s1.track h hz r) ?_
  simp only [Rp]
  have hl : mp1.ob.length = g1.length := s1.len
  refine ⟨a, rfl, ?_⟩
  show (mp1.ob ++ [a])[g1.length]? = some a
  rw [List.getElem?_append_right (by omega), hl]
  simp
/-! ### lists of values, tests, parts -/
theorem a_nil : PA X [] (tvA X.K F .nil) := PA.weak pa_nil fun σ H Q ⟨mp, env, g, Q0, sr, hw, k⟩ => k [] g (by simpa only [wpA] using hw) mp H [] .refl sr.2 .nil
theorem a_cons {a es : E} {x : Expr} {xs : List Expr} (ha : PE X x (tvE X.K F a)) (hr : PA X xs (tvA X.K F es)) (h : noStar x = true) : PA X (x :: xs) (tvA X.K F (.cons a es)) := by
  refine PA.weak (pa_cons ha hr (star_cons h)) fun σ H Q ⟨mp, env, g, Q0, sr, hw, k⟩ => ?_
  simp only [wpA] at hw
  refine ⟨mp, env, g, _, sr, hw, fun x g1 hq mp1 H1 u1 e1 s1 r1 => ?_⟩
  exact ⟨mp1, env, g1, _, sr.ext e1 s1, hq, fun xs g2 hq2 mp2 H2 us e2 s2 r2 => k _ g2 hq2 mp2 H2 _ (e1.trans e2) s2 (.cons (r1.ext e2) r2)⟩
theorem t_and {a b : E} {x y : Expr} {rest : List Expr} {pos : Pos} (ha : PT X x (tvT X.K F a)) (hb : PW X (.BoolOp .And (y :: rest) pos) (tvT X.K F b)) : PW X (.BoolOp .And (x :: y :: rest) pos) (tvT X.K F (.and a b)) := by
  refine PW.weak (pw_and ha hb) fun σ H Q ⟨mp, env, g, Q0, sr, hw, k⟩ => ?_
  simp only [wpT] at hw
  refine ⟨mp, env, g, _, sr, hw, fun c g1 hq mp1 H1 e1 s1 => ?_⟩
  cases c with
  | true => exact ⟨mp1, env, g1, _, sr.ext e1 s1, hq, fun y g2 hq2 mp2 H2 e2 s2 => k _ g2 hq2 mp2 H2 (e1.trans e2) s2⟩
  | false => exact k _ g1 hq mp1 H1 e1 s1
theorem t_or {a b : E} {x y : Expr} {rest : List Expr} {pos : Pos} (ha : PT X x (tvT X.K F a)) (hb : PW X (.BoolOp .Or (y :: rest) pos) (tvT X.K F b)) : PW X (.BoolOp .Or (x :: y :: rest) pos) (tvT X.K F (.or a b)) := by
  refine PW.weak (pw_or ha hb) fun σ H Q ⟨mp, env, g, Q0, sr, hw, k⟩ => ?_
  simp only [wpT] at hw
  refine ⟨mp, env, g, _, sr, hw, fun c g1 hq mp1 H1 e1 s1 => ?_⟩
  cases c with
  | false => exact ⟨mp1, env, g1, _, sr.ext e1 s1, hq, fun y g2 hq2 mp2 H2 e2 s2 => k _ g2 hq2 mp2 H2 (e1.trans e2) s2⟩
  | true => exact k _ g1 hq mp1 H1 e1 s1
theorem t_nt {a : E} {x : Expr} {pos : Pos} (ha : PT X x (tvT X.K F a)) : PT X (.UnaryOp .Not x pos) (tvT X.K F (.nt a)) := by
  refine PT.weak (pt_not ha) fun σ H Q ⟨mp, env, g, Q0, sr, hw, k⟩ => ?_
  simp only [wpT] at hw
  exact ⟨mp, env, g, _, sr, hw, fun c g1 hq mp1 H1 e1 s1 => k _ g1 hq mp1 H1 e1 s1⟩
theorem tru_rel {mp : M} {g : CH} {H : Hp} {w : W} {u : V} {b : Bool} (s : Sim X.K mp g H) (r : Rp X.K mp H w u) (e : tru g w = some b) : TruV X.K u H b := by
  unfold tru at e
  split at e
  · rename_i h; cases e; cases dr_non s r h; exact rfl
  · rename_i h; cases e; cases dr_bl s r h; exact rfl
  · rename_i h; cases e; cases dr_int s r h; exact rfl
  · rename_i h
    cases e
    obtain ⟨rfl, ok⟩ := dr_str s r h
    exact ⟨ok.1, rfl⟩
  · rename_i xs h
    cases e
    obtain ⟨a, vs, rfl, f, r⟩ := dr_tup s r h
    refine .inr (.inl ⟨vs, f.sq, ?_⟩)
    have := r.length
    cases xs <;> cases vs <;> first | rfl | simp at this
  · rename_i xs h
    cases e
    obtain ⟨a, vs, rfl, f, _, r⟩ := dr_lst s r h
    refine .inl ⟨vs, f, ?_⟩
    have := r.length
    cases xs <;> cases vs <;> first | rfl | simp at this
  · cases e
theorem t_tv {a : E} {e : Expr} (ha : PE X e (tvE X.K F a)) (h : plainTest e = true) : PT X e (tvT X.K F (.tv a)) := by
  refine PT.weak (pt_truth ha (test_plain h)) fun σ H Q ⟨mp, env, g, Q0, sr, hw, k⟩ => ?_
  simp only [wpT] at hw
  refine ⟨mp, env, g, _, sr, hw, fun x g1 hq mp1 H1 u1 e1 s1 r1 => ?_⟩
  obtain ⟨b, hb, hq⟩ := hq
  exact ⟨b, tru_rel s1 r1 hb, k _ g1 hq mp1 H1 e1 s1⟩
theorem ts_nil : PTs X [] (tvT X.K F .nil) := PTs.weak pts_nil fun σ H Q ⟨mp, env, g, Q0, sr, hw, k⟩ => k true g (by simpa only [wpT] using hw) mp H .refl sr.2
theorem ts_one {a es : E} {e : Expr} (ha : PT X e (tvT X.K F a)) : PTs X [e] (tvT X.K F (.cons a es)) :=
  PTs.weak (pts_one ha) fun σ H Q ⟨mp, env, g, Q0, sr, hw, k⟩ => ⟨mp, env, g, Q0, sr, by simpa only [wpT] using hw, k⟩
theorem p_none : PO X none (tvP X.K F .nopart) := PO.weak po_none fun σ H Q ⟨mp, env, g, Q0, sr, hw, k⟩ => k .non g (by simpa only [wpP] using hw) mp H none .refl sr.2 rfl
theorem p_some {a es : E} {e : Expr} (ha : PE X e (tvE X.K F a)) : PO X (some e) (tvP X.K F (.cons a es)) := by
  refine PO.weak (po_some ha) fun σ H Q ⟨mp, env, g, Q0, sr, hw, k⟩ => ?_
  simp only [wpP] at hw
  refine ⟨mp, env, g, _, sr, hw, fun x g1 hq mp1 H1 u1 e1 s1 r1 => ?_⟩
  cases x with
  | int i => exact ⟨i, r1.intI, k _ g1 hq mp1 H1 _ e1 s1 rfl⟩
  | _ => exact hq.elim
/-! ### subscripts -/
theorem RpL.atI {K : Fr6} {mp : M} {H : Hp} {xs : List W} {us : List V} {i : Int} {w : W} (r : RpL K mp H xs us) (h : atI xs i = some w) : ∃ u, L2.atI us i = some u ∧ Rp K mp H w u := by
  unfold L2.atI at h ⊢
  rw [Option.bind_eq_some_iff] at h
  obtain ⟨j, h1, h2⟩ := h
  obtain ⟨u, h3, h4⟩ := r.get h2
  rw [r.length] at h1
  exact ⟨u, by rw [h1]; exact h3, h4⟩
theorem strOk_sub {x : Str} {l : List Nat} (h : StrOk x) (hs : ∀ c ∈ l, c ∈ x.cps.toList) (hl : l.length ≤ x.cps.toList.length) : StrOk ⟨l.toArray⟩ := by
  refine ⟨?_, ?_⟩
  · have h1 := h.1
    unfold Str.length at h1
    show l.length ≤ sizeLine
    have e : x.cps.toList.length = x.cps.size := Array.length_toList
    omega
  · have h2 := h.2
    rw [Array.all_eq_true'] at h2 ⊢
    intro c hc
    exact h2 c (by simpa using hs c (by simpa using hc))
theorem ix_sound : ∃ r : R2, IxR X r ∧ ∀ (mp : M) (g : CH) (H : Hp) (x y : W) (u v : V) (z : W) (Q : VK),
    Sim X.K mp g H → Rp X.K mp H x u → Rp X.K mp H y v → ixW g x y = some z → (∀ t, Rp X.K mp H z t → Q t H) → r u v H Q := by
  refine ⟨_, ix_seq, fun mp g H x y u v z Q s rx ry e q => ?_⟩
  unfold ixW at e
  split at e
  · rename_i xs i h
    obtain ⟨a, vs, rfl, f, r⟩ := dr_tup s rx h
    obtain ⟨t, h1, h2⟩ := r.atI e
    exact .inr (.inl ⟨a, vs, i, t, rfl, ry.intI, f.sq, h1, q t h2⟩)
  · rename_i xs i h
    obtain ⟨a, vs, rfl, f, _, r⟩ := dr_lst s rx h
    obtain ⟨t, h1, h2⟩ := r.atI e
    exact .inl ⟨a, vs, i, t, rfl, ry.intI, f, h1, q t h2⟩
  · rename_i x i h
    rw [Option.map_eq_some_iff] at e
    obtain ⟨c, h1, rfl⟩ := e
    obtain ⟨rfl, ok⟩ := dr_str s rx h
    refine .inr (.inr ⟨x, i, c, rfl, ry.intI, ok.1, h1, q _ (.str ?_)⟩)
    have hm : c ∈ x.cps.toList := by
      unfold L2.atI at h1
      rw [Option.bind_eq_some_iff] at h1
      obtain ⟨j, _, h2⟩ := h1
      exact List.mem_of_getElem? h2
    refine strOk_sub (l := [c]) ok (fun d hd => by rw [List.mem_singleton.mp hd]; exact hm) ?_
    cases hx : x.cps.toList with
    | nil => rw [hx] at hm; cases hm
    | cons a l => simp
  · cases e
theorem s_ix {a i : E} {x y : Expr} {pos : Pos} (ha : PE X x (tvE X.K F a)) (hb : PE X y (tvE X.K F i)) (h : noSlice y = true) : PE X (.Subscript x y pos) (tvE X.K F (.ix a i)) := by
  obtain ⟨r, hr, hs⟩ := ix_sound (X := X)
  refine PE.weak (pe_ix hr ha hb (plainIx_of h)) fun σ H Q ⟨mp, env, g, Q0, sr, hw, k⟩ => ?_
  simp only [wpE] at hw
  refine ⟨mp, env, g, _, sr, hw, fun x g1 hq mp1 H1 u1 e1 s1 r1 => ?_⟩
  refine ⟨mp1, env, g1, _, sr.ext e1 s1, hq, fun y g2 hq2 mp2 H2 u2 e2 s2 r2 => ?_⟩
  obtain ⟨z, hz, hq3⟩ := hq2
  exact hs mp2 g2 H2 x y u1 u2 z Q s2 (r1.ext e2) r2 hz fun t r3 => k z g2 hq3 mp2 H2 t (e1.trans e2) s2 r3
theorem s_kdx (g : Good G F d c X) {w : W} {n : Nat} {i : E} {x : Str} {y : Expr} {p pos : Pos} (h : chkE G (.kdx w n i) c (.Subscript (.Name x p) y pos) = true) (hb : PE X y (tvE X.K F i)) : PE X (.Subscript (.Name x p) y pos) (tvE X.K F (.kdx w n i)) := by
  simp only [chkE, Bool.and_eq_true] at h
  obtain ⟨⟨⟨h1, h2⟩, h3⟩, h4⟩ := h
  split at h1
  · rename_i z w' e
    rw [Bool.and_eq_true] at h1
    obtain rfl := of_decide_eq_true h1.1
    obtain rfl := W.beq_ok h1.2
    obtain ⟨v, u, hm, r, hr⟩ := g.facts.consts _ _ _ e
    refine PE.weak (pe_ix ix_kdict (pe_glob (g.gl h2) hm r (dbg_of h3).1) hb (plainIx_of h4.2)) fun σ H Q ⟨mp, env, g, Q0, sr, hw, k⟩ => ?_
    simp only [wpE] at hw
    refine ⟨mp, env, g, _, sr, hw, fun y g1 hq mp1 H1 u1 e1 s1 r1 => ?_⟩
    obtain ⟨z, hz, hq⟩ := hq
    cases w <;> try (cases hz)
    rename_i ks xs
    cases y <;> try (cases hz)
    rename_i s
    obtain ⟨pp, rfl, hk⟩ := hr
    obtain ⟨vv, kd, rr⟩ := hk s z hz
    obtain ⟨rfl, _⟩ := r1.strI
    exact ⟨pp, s, vv, rfl, rfl, kd, k z g1 hq mp1 H1 vv e1 s1 (rr _ _)⟩
  · cases h1
theorem sixW_of {n d : Nat} {w : W} {o : Option Int} {k : Nat} (p : partO w o) (h : sixW n d w = some k) : HT.sIx n d o = k := by
  cases w <;> simp only [sixW] at h <;> first | cases h | skip
  · cases (show o = none from p); rfl
  · cases (show o = some _ from p); rfl
theorem cutW_of {α : Type} {xs ys : List α} {lo hi : W} {l h : Option Int} (pl : partO lo l) (ph : partO hi h) (e : cutW xs lo hi = some ys) :
    ys = (xs.drop (HT.sIx xs.length 0 l)).take (HT.sIx xs.length xs.length h - HT.sIx xs.length 0 l) := by
  unfold cutW at e
  split at e
  · rename_i a b h1 h2
    cases e
    rw [sixW_of pl h1, sixW_of ph h2]
  · cases e
theorem s_sl {a lo hi : E} {x : Expr} {l h : Option Expr} {p2 pos : Pos} (ha : PE X x (tvE X.K F a)) (hl : PO X l (tvP X.K F lo)) (hh : PO X h (tvP X.K F hi)) :
    PE X (.Subscript x (.Slice l h none p2) pos) (tvE X.K F (.sl a lo hi)) := by
  refine PE.weak (pe_slice (sl_tupF.or sl_str) ha hl hh) fun σ H Q ⟨mp, env, g, Q0, sr, hw, k⟩ => ?_
  simp only [wpE] at hw
  refine ⟨mp, env, g, _, sr, hw, fun x g1 hq mp1 H1 u1 e1 s1 r1 => ?_⟩
  refine ⟨mp1, env, g1, _, sr.ext e1 s1, hq, fun y g2 hq2 mp2 H2 o1 e2 s2 p1 => ?_⟩
  refine ⟨mp2, env, g2, _, (sr.ext e1 s1).ext e2 s2, hq2, fun z g3 hq3 mp3 H3 o2 e3 s3 p2 => ?_⟩
  obtain ⟨t, ht, hq3⟩ := hq3
  have r3 := (r1.ext e2).ext e3
  have e13 := (e1.trans e2).trans e3
  cases x with
  | tup xs =>
    simp only [slW, Option.map_eq_some_iff] at ht
    obtain ⟨ys, h1, rfl⟩ := ht
    have hc := cutW_of p1 p2 h1
    obtain ⟨b, vs, rfl, f, r⟩ := r3.tupI
    have hlen := r.length
    rw [hlen] at hc
    refine .inl ⟨b, vs, rfl, f.sq, fun hwh => ?_, fun _ p ob hp ho => ?_⟩
    · obtain rfl : ys = xs := by rw [hc, hwh.1, hwh.2, List.drop_zero, Nat.sub_zero, ← hlen, List.take_length]
      exact k _ g3 hq3 mp3 H3 _ e13 s3 r3
    · have r4 : RpL X.K mp3 H3 ys (cutV vs o1 o2) := by rw [hc]; exact (r.drop _).take _
      obtain ⟨e4, s4, r5⟩ := new_tup s3 r4 (Nat.le_trans (cutV_length _ _ _) f.1) hp ho
      exact k _ g3 hq3 mp3 _ _ (e13.trans e4) s4 r5
  | str z =>
    simp only [slW, Option.map_eq_some_iff] at ht
    obtain ⟨ys, h1, rfl⟩ := ht
    have hc := cutW_of p1 p2 h1
    obtain ⟨rfl, ok⟩ := r3.strI
    refine .inr ⟨z, rfl, ok.1, ?_⟩
    have e5 : cutS z o1 o2 = ⟨ys.toArray⟩ := by
      unfold cutS
      rw [hc]
      simp only [Array.length_toList]
      rfl
    rw [e5]
    refine k _ g3 hq3 mp3 H3 _ e13 s3 (.str (strOk_sub ok (fun c hc' => ?_) ?_))
    · rw [hc] at hc'
      exact List.mem_of_mem_drop (List.mem_of_mem_take hc')
    · rw [hc, List.length_take, List.length_drop]
      omega
  | _ => simp [slW] at ht
/-! ### calls -/
theorem s_call (g : Good G F d c X) {f : Nat} {es : E} {x : Str} {xs : List Expr} {p pos : Pos} (h : chkE G (.call f es) c (.Call (.Name x p) xs [] pos) = true) (ha : PA X xs (tvA X.K F es)) (hx : xs.all noStar = true)
    (h0 : xs = [] → es = .nil) : PE X (.Call (.Name x p) xs [] pos) (tvE X.K F (.call f es)) := by
  simp only [chkE, Bool.and_eq_true] at h
  obtain ⟨⟨⟨h1, h2⟩, h3⟩, _⟩ := h
  split at h1
  · rename_i y n e
    obtain rfl := of_decide_eq_true h1
    obtain ⟨fa, fd, ps, hm, kp, hn, hb, hf⟩ := g.facts.fns _ _ _ e
    have fin : ∀ {mp mp1 : M} {g g1 : CH} {H H1 : Hp} {Q0 : WK} {Q : VK} {ws : List W} {us : List V}, Ext mp H mp1 H1 → Sim X.K mp1 g1 H1 → RpL X.K mp1 H1 ws us → F f ws g1 Q0 →
        (∀ v g', Q0 v g' → ∀ mp' H' u, Ext mp H mp' H' → Sim X.K mp' g' H' → Rp X.K mp' H' v u → Q u H') → spOf X.K F f n (us ++ []) H1 Q E0 := fun {mp mp1 g' g1 H H1 Q0 Q ws us} e1 s1 r1 hq k => by
      rw [List.append_nil]
      refine ⟨by rw [← r1.length]; exact g.facts.ar _ _ _ e _ _ _ hq, mp1, g1, ws, Q0, s1, r1, hq, fun v g2 q2 mp2 H2 u e2 s2 r2 => k v g2 q2 mp2 H2 u (e1.trans e2) s2 r2⟩
    cases xs with
    | nil =>
      obtain rfl := h0 rfl
      refine PE.weak (pe_call0 hf g.room (g.gl h2) hm kp hb .nil pass0 (dbg_of h3).1) fun σ H Q ⟨mp, env, g, Q0, sr, hw, k⟩ => ?_
      simp only [wpE, wpA] at hw
      exact fin (us := []) (g := g) .refl sr.2 .nil hw k
    | cons e' es' =>
      rw [List.all_cons, Bool.and_eq_true] at hx
      refine PE.weak (pe_call hf g.room (g.gl h2) hm kp hb .nil pass0 ha (dbg_of h3).1 (star_cons hx.1) (plain_star hx.2)) fun σ H Q ⟨mp, env, g, Q0, sr, hw, k⟩ => ?_
      simp only [wpE] at hw
      exact ⟨mp, env, g, _, sr, hw, fun ws g1 hq mp1 H1 us e1 s1 r1 => fin (g := g) e1 s1 r1 hq k⟩
  · cases h1
/-- a built-in of one value -/
def CallS1 (X : Cx) (f : Value) (fn : CH → W → Option W) : Prop := ∃ r : List V → Hp → VK → Prop, CallR X f r ∧ ∀ (mp : M) (g : CH) (H : Hp) (x : W) (u : V) (z : W) (Q : VK),
  Sim X.K mp g H → Rp X.K mp H x u → fn g x = some z → (∀ mp' H' t, Ext mp H mp' H' → Sim X.K mp' g H' → Rp X.K mp' H' z t → Q t H') → r [u] H Q
theorem s_b1 {a : E} {x : Str} {y : Expr} {p pos : Pos} {fn : CH → W → Option W} {m : E} {id : String} (hs : CallS1 X (.builtin id) fn) (ha : PE X y (tvE X.K F a)) (hn : noStar y = true) (hg : Gl X x) (hm : X.mg x = none)
    (hv : bootBuiltins x = some (.builtin id)) (n1 : x ≠ "__name__") (n2 : (x == ("__debug__" : Str)) = false)
    (hw : ∀ env g Q, wpE F m env g Q → wpE F a env g fun x g1 => opt (fn g1 x) fun z => Q z g1) : PE X (.Call (.Name x p) [y] [] pos) (tvE X.K F m) := by
  obtain ⟨r, hr, hs⟩ := hs
  refine PE.weak (pe_callB hr hg hm hv (pa_cons ha pa_nil (star_cons hn)) n1 n2 (star_cons hn) rfl) fun σ H Q ⟨mp, env, g, Q0, sr, hw', k⟩ => ?_
  refine ⟨mp, env, g, _, sr, hw _ _ _ hw', fun x g1 hq mp1 H1 u1 e1 s1 r1 => ?_⟩
  obtain ⟨z, hz, hq⟩ := hq
  exact hs mp1 g1 H1 x u1 z Q s1 r1 hz fun mp2 H2 t e2 s2 r2 => k z g1 hq mp2 H2 t (e1.trans e2) s2 r2
theorem s_t1 {a : E} {x : Str} {y : Expr} {p pos : Pos} {fn : CH → W → Option W} {m : E} {id : String} (hs : CallS1 X (.type id) fn) (ha : PE X y (tvE X.K F a)) (hn : noStar y = true) (hg : Gl X x) (hm : X.mg x = none)
    (hv : bootBuiltins x = some (.type id)) (n1 : x ≠ "__name__") (n2 : (x == ("__debug__" : Str)) = false)
    (hw : ∀ env g Q, wpE F m env g Q → wpE F a env g fun x g1 => opt (fn g1 x) fun z => Q z g1) : PE X (.Call (.Name x p) [y] [] pos) (tvE X.K F m) := by
  obtain ⟨r, hr, hs⟩ := hs
  refine PE.weak (pe_callTy hr hg hm hv (pa_cons ha pa_nil (star_cons hn)) n1 n2 (star_cons hn) rfl) fun σ H Q ⟨mp, env, g, Q0, sr, hw', k⟩ => ?_
  refine ⟨mp, env, g, _, sr, hw _ _ _ hw', fun x g1 hq mp1 H1 u1 e1 s1 r1 => ?_⟩
  obtain ⟨z, hz, hq⟩ := hq
  exact hs mp1 g1 H1 x u1 z Q s1 r1 hz fun mp2 H2 t e2 s2 r2 => k z g1 hq mp2 H2 t (e1.trans e2) s2 r2
theorem ints_of : ∀ {xs : List W} {ns : List Int}, intsOf xs = some ns → xs = ns.map W.int
  | [], ns, h => by simp only [intsOf, Option.some.injEq] at h; subst h; rfl
  | x :: xs, ns, h => by
    cases x <;> simp only [intsOf] at h <;> first | cases h | skip
    rw [Option.map_eq_some_iff] at h
    obtain ⟨l, h1, rfl⟩ := h
    rw [ints_of h1]; rfl
theorem len_sound : CallS1 X (.builtin "len") (fun g => u1W g .len) := by
  refine ⟨_, call_len, fun mp g H x u z Q s rx e q => ?_⟩
  simp only [u1W] at e
  split at e
  · rename_i xs h
    cases e
    obtain ⟨a, vs, rfl, f, r⟩ := dr_tup s rx h
    exact ⟨.ref a, xs.length, rfl, .inr ⟨vs, f.sq, r.length⟩, q mp H _ .refl s (.int _)⟩
  · rename_i xs h
    cases e
    obtain ⟨a, vs, rfl, f, _, r⟩ := dr_lst s rx h
    exact ⟨.ref a, xs.length, rfl, .inl ⟨vs, f, r.length⟩, q mp H _ .refl s (.int _)⟩
  · rename_i x h
    cases e
    obtain ⟨rfl, ok⟩ := dr_str s rx h
    exact ⟨.str x, x.length, rfl, ⟨ok.1, rfl⟩, q mp H _ .refl s (.int _)⟩
  · cases e
theorem abs_sound : CallS1 X (.builtin "abs") (fun g => u1W g .abs) := by
  refine ⟨_, call_abs, fun mp g H x u z Q s rx e q => ?_⟩
  cases x <;> simp only [u1W] at e <;> cases e
  exact ⟨_, by rw [rx.intI], q mp H _ .refl s (.int _)⟩
theorem int_sound : CallS1 X (.type "int") (fun g => u1W g .int) := by
  refine ⟨_, call_int1, fun mp g H x u z Q s rx e q => ?_⟩
  cases x <;> simp only [u1W] at e <;> cases e
  · exact .inr ⟨_, by rw [rx.blI], q mp H _ .refl s (.int _)⟩
  · exact .inl ⟨_, by rw [rx.intI], q mp H _ .refl s (.int _)⟩
theorem bool_sound : CallS1 X (.type "bool") (fun g => u1W g .bool) := by
  refine ⟨_, call_bool1, fun mp g H x u z Q s rx e q => ?_⟩
  cases x <;> simp only [u1W] at e <;> cases e
  · exact .inr ⟨_, by rw [rx.blI], q mp H _ .refl s (.bl _)⟩
  · exact .inl ⟨_, by rw [rx.intI], q mp H _ .refl s (.bl _)⟩
theorem tuple_sound : CallS1 X (.type "tuple") (fun g => u1W g .tuple) := by
  refine ⟨_, call_tuple_ofF, fun mp g H x u z Q s rx e q => ?_⟩
  simp only [u1W] at e
  split at e
  · rename_i xs h
    cases e
    have hx := dr_flat s h (by intro _ z; cases z) (by intro _ _ z; cases z) (by intro _ z; cases z)
    subst hx
    obtain ⟨a, vs, rfl, f, r⟩ := rx.tupI
    exact ⟨a, vs, rfl, .inr ⟨f.sq, q mp H _ .refl s rx⟩⟩
  · rename_i xs h
    cases e
    obtain ⟨a, vs, rfl, f, hz, r⟩ := dr_lst s rx h
    refine ⟨a, vs, rfl, .inl ⟨f, fun p ob hp ho => ?_⟩⟩
    obtain ⟨e2, s2, r2⟩ := new_tup s r hz hp ho
    exact q _ _ _ e2 s2 r2
  · cases e
theorem foldl_max : ∀ (xs : List Int) (x m : Int), (∀ y, y ∈ x :: xs → y ≤ m) → m ∈ x :: xs → xs.foldl (fun a b => if a < b then b else a) x = m
  | [], x, m, h, hm => by
    rw [List.mem_singleton] at hm
    rw [hm]; rfl
  | y :: xs, x, m, h, hm => by
    rw [List.foldl_cons]
    have hx := h x (by simp)
    have hy := h y (by simp)
    refine foldl_max xs _ m (fun z hz => ?_) ?_
    · rcases List.mem_cons.mp hz with e | hz
      · rw [e]; split <;> assumption
      · exact h z (by simp [hz])
    · rcases List.mem_cons.mp hm with e | hm
      · subst e
        by_cases q : m < y
        · omega
        · rw [if_neg q]; exact List.mem_cons_self
      · rcases List.mem_cons.mp hm with e | hm
        · subst e
          by_cases q : x < m
          · rw [if_pos q]; exact List.mem_cons_self
          · rw [if_neg q]
            have : x = m := by omega
            rw [this]; exact List.mem_cons_self
        · exact List.mem_cons_of_mem _ hm
theorem foldl_min : ∀ (xs : List Int) (x m : Int), (∀ y, y ∈ x :: xs → m ≤ y) → m ∈ x :: xs → xs.foldl (fun a b => if b < a then b else a) x = m
  | [], x, m, h, hm => by
    rw [List.mem_singleton] at hm
    rw [hm]; rfl
  | y :: xs, x, m, h, hm => by
    rw [List.foldl_cons]
    have hx := h x (by simp)
    have hy := h y (by simp)
    refine foldl_min xs _ m (fun z hz => ?_) ?_
    · rcases List.mem_cons.mp hz with e | hz
      · rw [e]; split <;> assumption
      · exact h z (by simp [hz])
    · rcases List.mem_cons.mp hm with e | hm
      · subst e
        by_cases q : y < m
        · omega
        · rw [if_neg q]; exact List.mem_cons_self
      · rcases List.mem_cons.mp hm with e | hm
        · subst e
          by_cases q : m < x
          · rw [if_pos q]; exact List.mem_cons_self
          · rw [if_neg q]
            have : x = m := by omega
            rw [this]; exact List.mem_cons_self
        · exact List.mem_cons_of_mem _ hm
theorem lseq_ints {mp : M} {g : CH} {H : Hp} {x : W} {u : V} {xs : List W} {ns : List Int} (s : Sim X.K mp g H) (r : Rp X.K mp H x u) (e : lseqOf g x = some xs) (hn : intsOf xs = some ns) : ∃ a, u = .ref a ∧ SqL X.K H a (ns.map V.int) := by
  unfold lseqOf at e
  split at e
  · rename_i ys h
    cases e
    obtain ⟨a, vs, rfl, f, _, r⟩ := dr_lst s r h
    rw [ints_of hn] at r
    rw [RpL.ints r] at f
    exact ⟨a, rfl, f⟩
  · cases e
theorem sum_sound (hc : X.calm = true) : CallS1 X (.builtin "sum") (fun g => u1W g .sum) := by
  refine ⟨_, cr_sum hc, fun mp g H x u z Q s rx e q => ?_⟩
  simp only [u1W, Option.bind_eq_some_iff, Option.map_eq_some_iff] at e
  obtain ⟨xs, h1, ns, h2, rfl⟩ := e
  obtain ⟨a, rfl, f⟩ := lseq_ints s rx h1 h2
  exact ⟨a, ns, rfl, f, q mp H _ .refl s (.int _)⟩
theorem foldl_max2 : ∀ (ns : List Int) (n : Int), ns.foldl (fun a b => if a < b then b else a) n = ns.foldl max n
  | [], _ => rfl
  | m :: ns, n => by
    rw [List.foldl_cons, List.foldl_cons, foldl_max2 ns]
    congr 1
    split <;> omega
theorem max_sound (hc : X.calm = true) (hu : X.A.units + 10 < cLine) : CallS1 X (.builtin "max") (fun g => u1W g .max) := by
  refine ⟨fun vs H Q => rMax X.K vs H Q ∨ rMaxT X.K vs H Q, fun pins s σ H vs us Q I r h => h.elim (cr_max hc pins s σ H vs us Q I r) (cr_maxT hc hu pins s σ H vs us Q I r), fun mp g H x u z Q s rx e q => ?_⟩
  simp only [u1W, Option.bind_eq_some_iff, Option.map_eq_some_iff] at e
  obtain ⟨xs, h1, ns, h2, m, h3, rfl⟩ := e
  unfold tseqOf at h1
  split at h1
  case h_3 => cases h1
  case h_2 xs' hd =>
    cases h1
    obtain ⟨b, us, rfl, f, rb⟩ := dr_tup s rx hd
    rw [ints_of h2] at rb
    obtain rfl := RpL.ints rb
    cases ns with
    | nil => cases h3
    | cons n ns =>
      simp only [maxL, Option.some.injEq] at h3
      rw [foldl_max2] at h3
      subst h3
      exact .inr ⟨b, n, ns, rfl, f.sq, q mp H _ .refl s (.int _)⟩
  case h_1 xs' hd =>
  cases h1
  obtain ⟨a, rfl, f⟩ := lseq_ints s rx (show lseqOf g x = some _ by unfold lseqOf; rw [hd]) h2
  cases ns with
  | nil => cases h3
  | cons n ns =>
    refine .inl ⟨a, _, rfl, f, by simp, fun m' hm hm2 => ?_⟩
    simp only [maxL, Option.some.injEq] at h3
    rw [foldl_max ns n m' hm2 hm] at h3
    subst h3
    exact q mp H _ .refl s (.int _)
theorem min_sound (hc : X.calm = true) : CallS1 X (.builtin "min") (fun g => u1W g .min) := by
  refine ⟨_, cr_min hc, fun mp g H x u z Q s rx e q => ?_⟩
  simp only [u1W, Option.bind_eq_some_iff, Option.map_eq_some_iff] at e
  obtain ⟨xs, h1, ns, h2, m, h3, rfl⟩ := e
  obtain ⟨a, rfl, f⟩ := lseq_ints s rx h1 h2
  cases ns with
  | nil => cases h3
  | cons n ns =>
    refine ⟨a, _, rfl, f, by simp, fun m' hm hm2 => ?_⟩
    simp only [minL, Option.some.injEq] at h3
    rw [foldl_min ns n m' hm2 hm] at h3
    subst h3
    exact q mp H _ .refl s (.int _)
theorem bools_rp {K : Fr6} {mp : M} {H : Hp} : ∀ {xs : List W} {bs : List Bool} {vs : List V}, boolsOf xs = some bs → RpL K mp H xs vs → vs = bs.map V.bl
  | [], bs, vs, e, r => by
    cases e
    simp only [RpL] at r
    exact r
  | x :: xs, bs, vs, e, r => by
    simp only [RpL] at r
    obtain ⟨u, us, rfl, h, tl⟩ := r
    cases x with
    | bl b =>
      simp only [boolsOf, Option.map_eq_some_iff] at e
      obtain ⟨bs', e1, rfl⟩ := e
      obtain rfl := h.blI
      rw [bools_rp e1 tl]; rfl
    | _ => cases e
theorem any_sound (hc : X.calm = true) : CallS1 X (.builtin "any") (fun g => u1W g .any) := by
  refine ⟨_, cr_any hc, fun mp g H x u z Q s rx e q => ?_⟩
  simp only [u1W, Option.bind_eq_some_iff, Option.map_eq_some_iff] at e
  obtain ⟨xs, h1, bs, h2, rfl⟩ := e
  unfold lseqOf at h1
  split at h1
  · rename_i ys h
    cases h1
    obtain ⟨a, vs, rfl, f, _, r⟩ := dr_lst s rx h
    rw [bools_rp h2 r] at f
    exact ⟨a, bs, rfl, f, q mp H _ .refl s (.bl _)⟩
  · cases h1
theorem s_u1 (g : Good G F d c X) {op : U1} {a : E} {x : Str} {y : Expr} {p pos : Pos} (h : chkE G (.u1 op a) c (.Call (.Name x p) [y] [] pos) = true) (ha : PE X y (tvE X.K F a)) : PE X (.Call (.Name x p) [y] [] pos) (tvE X.K F (.u1 op a)) := by
  simp only [chkE, Bool.and_eq_true] at h
  obtain ⟨⟨h1, _⟩, hn⟩ := h
  obtain ⟨rfl, hg, hf⟩ := blt_of h1
  have hg := g.gl hg
  have hm := g.facts.free _ hf
  have hw : ∀ env g Q, wpE F (.u1 op a) env g Q → wpE F a env g fun x g1 => opt (u1W g1 op x) fun z => Q z g1 := fun env g Q hw => by simpa only [wpE] using hw
  cases op with
  | len => exact s_b1 len_sound ha hn hg hm boot_len (by decide +kernel) (by decide +kernel) hw
  | abs => exact s_b1 abs_sound ha hn hg hm boot_abs (by decide +kernel) (by decide +kernel) hw
  | int => exact s_t1 int_sound ha hn hg hm (by decide +kernel) (by decide +kernel) (by decide +kernel) hw
  | tuple => exact s_t1 tuple_sound ha hn hg hm (by decide +kernel) (by decide +kernel) (by decide +kernel) hw
  | bool => exact s_t1 bool_sound ha hn hg hm (by decide +kernel) (by decide +kernel) (by decide +kernel) hw
  | sum => exact s_b1 (sum_sound g.calm) ha hn hg hm boot_sum (by decide +kernel) (by decide +kernel) hw
  | max => exact s_b1 (max_sound g.calm (by have := g.room.un; omega)) ha hn hg hm boot_max (by decide +kernel) (by decide +kernel) hw
  | min => exact s_b1 (min_sound g.calm) ha hn hg hm boot_min (by decide +kernel) (by decide +kernel) hw
  | any => exact s_b1 (any_sound g.calm) ha hn hg hm boot_any (by decide +kernel) (by decide +kernel) hw
end
end Z
namespace Z
open PySem PySem.Spec L2
open PyProof.Rows hiding St
section
variable {X : Cx} {G : Globs} {F : FSem} {d : Nat} {c : Ctx}
/-! ### built-ins of two values -/
theorem s_u2 (g : Good G F d c X) {op : U2} {a b : E} {x : Str} {y z : Expr} {p pos : Pos} (h : chkE G (.u2 op a b) c (.Call (.Name x p) [y, z] [] pos) = true) (ha : PE X y (tvE X.K F a)) (hb : PE X z (tvE X.K F b)) :
    PE X (.Call (.Name x p) [y, z] [] pos) (tvE X.K F (.u2 op a b)) := by
  simp only [chkE, Bool.and_eq_true] at h
  obtain ⟨⟨⟨⟨h1, _⟩, n1⟩, _⟩, n2⟩ := h
  obtain ⟨rfl, hg, hf⟩ := blt_of h1
  have hg := g.gl hg
  have hm := g.facts.free _ hf
  have pa := pa_cons ha (pa_cons hb pa_nil (star_cons n2)) (star_cons n1)
  have hp : (backTo pos (starEach [z] X.env)).any (·.1) = false := plain_star (by simp [n2])
  cases op with
  | max =>
    refine PE.weak (pe_callB (call_max2 g.calm) hg hm boot_max pa (by decide +kernel) (by decide +kernel) (star_cons n1) hp) fun σ H Q ⟨mp, env, g, Q0, sr, hw', k⟩ => ?_
    simp only [wpE] at hw'
    refine ⟨mp, env, g, _, sr, hw', fun x g1 hq mp1 H1 u1 e1 s1 r1 => ?_⟩
    refine ⟨mp1, env, g1, _, sr.ext e1 s1, hq, fun y g2 hq2 mp2 H2 u2 e2 s2 r2 => ?_⟩
    obtain ⟨z, hz, hq3⟩ := hq2
    cases x <;> cases y <;> simp only [u2W] at hz <;> cases hz
    exact ⟨_, _, by rw [(r1.ext e2).intI, r2.intI], k _ g2 hq3 mp2 H2 _ (e1.trans e2) s2 (.int _)⟩
  | min =>
    refine PE.weak (pe_callB (call_min2 g.calm) hg hm boot_min pa (by decide +kernel) (by decide +kernel) (star_cons n1) hp) fun σ H Q ⟨mp, env, g, Q0, sr, hw', k⟩ => ?_
    simp only [wpE] at hw'
    refine ⟨mp, env, g, _, sr, hw', fun x g1 hq mp1 H1 u1 e1 s1 r1 => ?_⟩
    refine ⟨mp1, env, g1, _, sr.ext e1 s1, hq, fun y g2 hq2 mp2 H2 u2 e2 s2 r2 => ?_⟩
    obtain ⟨z, hz, hq3⟩ := hq2
    cases x <;> cases y <;> simp only [u2W] at hz <;> cases hz
    exact ⟨_, _, by rw [(r1.ext e2).intI, r2.intI], k _ g2 hq3 mp2 H2 _ (e1.trans e2) s2 (.int _)⟩
/-! ### isinstance -/
def tyS : Ty → String
  | .tuple => "tuple" | .list => "list" | .int => "int" | .str => "str" | .bool => "bool"
theorem tyRel {mp : M} {g : CH} {H : Hp} {w : W} {u : V} {t : Ty} {b : Bool} (s : Sim X.K mp g H) (r : Rp X.K mp H w u) (e : isiW g w t = some b) :
    ∃ ty : String, TyX X.K H u (.type ty) ∧ kitB ty (tyS t) = some b := by
  unfold isiW at e
  have k1 : ∀ (ty : String) (t : Ty) (b : Bool), (∀ h : kitB ty (tyS t) = some b, True) := fun _ _ _ _ => trivial
  cases hd : dr g w with
  | non => 
    have := dr_non s r hd
    subst this
    rw [hd] at e
    refine ⟨"NoneType", .base .non, ?_⟩
    cases t <;> cases e <;> decide +kernel
  | bl b' =>
    have := dr_bl s r hd
    subst this
    rw [hd] at e
    refine ⟨"bool", .base (.bl _), ?_⟩
    cases t <;> cases e <;> decide +kernel
  | int i =>
    have := dr_int s r hd
    subst this
    rw [hd] at e
    refine ⟨"int", .base (.int _), ?_⟩
    cases t <;> cases e <;> decide +kernel
  | str i =>
    obtain ⟨this, _⟩ := dr_str s r hd
    subst this
    rw [hd] at e
    refine ⟨"str", .base (.str _), ?_⟩
    cases t <;> cases e <;> decide +kernel
  | tup xs =>
    obtain ⟨a, vs, rfl, f, r⟩ := dr_tup s r hd
    rw [hd] at e
    refine ⟨"tuple", ?_, ?_⟩
    · rcases f.2 with ⟨⟨ob, h, _⟩, _⟩ | ⟨o, its, n, h1, h2, _⟩
      · exact .fTuple h
      · exact .kTuple h1 h2
    · cases t <;> cases e <;> decide +kernel
  | lst xs =>
    obtain ⟨a, vs, rfl, f, _⟩ := dr_lst' s r hd
    rw [hd] at e
    refine ⟨"list", .base (.lst f), ?_⟩
    cases t <;> cases e <;> decide +kernel
  | _ => rw [hd] at e; cases t <;> cases e
theorem s_isi (g : Good G F d c X) {t : Ty} {a : E} {x z : Str} {y : Expr} {p p2 pos : Pos} (h : chkE G (.isi a t) c (.Call (.Name x p) [y, .Name z p2] [] pos) = true) (ha : PE X y (tvE X.K F a)) :
    PE X (.Call (.Name x p) [y, .Name z p2] [] pos) (tvE X.K F (.isi a t)) := by
  simp only [chkE, Bool.and_eq_true] at h
  obtain ⟨⟨⟨h1, h2⟩, _⟩, n1⟩ := h
  obtain ⟨rfl, hg, hf⟩ := blt_of h1
  obtain ⟨rfl, hg2, hf2⟩ := blt_of h2
  have hv : bootBuiltins (tyName t) = some (.type (tyS t)) := by cases t <;> decide +kernel
  have hb : PE X (.Name (tyName t) p2) (tC (.ty (tyS t))) := pe_bltn (g.gl hg2) (g.facts.free _ hf2) hv rfl (by cases t <;> decide +kernel) (by cases t <;> decide +kernel)
  have pa := pa_cons ha (pa_cons hb pa_nil rfl) (star_cons n1)
  refine PE.weak (pe_callB call_isi (g.gl hg) (g.facts.free _ hf) boot_isinstance pa (by decide +kernel) (by decide +kernel) (star_cons n1) rfl) fun σ H Q ⟨mp, env, g, Q0, sr, hw', k⟩ => ?_
  simp only [wpE] at hw'
  refine ⟨mp, env, g, _, sr, hw', fun x g1 hq mp1 H1 u1 e1 s1 r1 => ?_⟩
  obtain ⟨b, hb, hq⟩ := hq
  obtain ⟨ty, h1, h2⟩ := tyRel s1 r1 hb
  exact ⟨u1, .ty (tyS t), .type ty, .type (tyS t), b, rfl, .ty _, h1, kit_ty h2, k _ g1 hq mp1 H1 _ e1 s1 (.bl _)⟩
/-! ### tracked lists changed -/
section
variable {K : Fr6} {mp : M} {H : Hp} {g : CH} {a : Addr}
/-- a tracked list is rewritten -/
theorem Ext.wr {vs : List V} (h : a ∈ mp.ob) : Ext mp H mp (upd H a (.lst vs)) :=
  ⟨List.prefix_refl _, fun _ h => .inl h, fun b o hb q => by rw [upd_ne (fun z => hb (by rw [z]; exact h))]; exact q, rfl⟩
theorem Ext.wrO {ob : HO} (h : a ∈ mp.ob) : Ext mp H mp (upd H a ob) :=
  ⟨List.prefix_refl _, fun _ h => .inl h, fun b o hb q => by rw [upd_ne (fun z => hb (by rw [z]; exact h))]; exact q, rfl⟩
theorem Sim.wrO {ob : HO} {w0 : W} {n : Nat} (s : Sim K mp g H) (hn : mp.ob[n]? = some a) (r : RO K mp (upd H a ob) a w0) : Sim K mp (g.set n w0) (upd H a ob) := by
  have hm : a ∈ mp.ob := List.mem_of_getElem? hn
  have e : Ext mp H mp (upd H a ob) := .wrO hm
  refine ⟨s.nd, by rw [List.length_set]; exact s.len, fun m w hw => ?_, fun b hb => ?_, s.ndh⟩
  · by_cases q : n = m
    · subst q
      have hl : n < g.length := by rw [← s.len]; exact (List.getElem?_eq_some_iff.mp hn).1
      rw [List.getElem?_set_self hl] at hw
      cases hw
      exact ⟨a, hn, r⟩
    · rw [List.getElem?_set_ne q] at hw
      obtain ⟨b, h1, h2⟩ := s.obj m w hw
      refine ⟨b, h1, h2.ext0 e.e0 fun o ho => ?_⟩
      have hb : b ≠ a := fun z => by
        subst z
        obtain ⟨l1, e1⟩ := List.getElem?_eq_some_iff.mp hn
        obtain ⟨l2, e2⟩ := List.getElem?_eq_some_iff.mp h1
        exact q ((List.getElem_inj s.nd).mp (e1.trans e2.symm))
      rw [upd_ne hb]
      exact ho
  · obtain ⟨⟨o, h1⟩, h2⟩ := s.hid b hb
    exact ⟨⟨o, by rw [upd_ne (fun z => h2 (by rw [z]; exact hm))]; exact h1⟩, h2⟩
theorem Sim.wr {vs : List V} {ys : List W} {n : Nat} (s : Sim K mp g H) (hn : mp.ob[n]? = some a) (hz : vs.length ≤ sizeLine) (r : RpL K mp H ys vs) : Sim K mp (g.set n (.lst ys)) (upd H a (.lst vs)) := by
  have hm : a ∈ mp.ob := List.mem_of_getElem? hn
  have e : Ext mp H mp (upd H a (.lst vs)) := .wr hm
  refine ⟨s.nd, by rw [List.length_set]; exact s.len, fun m w hw => ?_, fun b hb => ?_, s.ndh⟩
  · by_cases q : n = m
    · subst q
      have hl : n < g.length := by rw [← s.len]; exact (List.getElem?_eq_some_iff.mp hn).1
      rw [List.getElem?_set_self hl] at hw
      cases hw
      exact ⟨a, hn, vs, upd_same, hz, r.ext e⟩
    · rw [List.getElem?_set_ne q] at hw
      obtain ⟨b, h1, h2⟩ := s.obj m w hw
      refine ⟨b, h1, h2.ext0 e.e0 fun o ho => ?_⟩
      have hb : b ≠ a := fun z => by
        subst z
        obtain ⟨l1, e1⟩ := List.getElem?_eq_some_iff.mp hn
        obtain ⟨l2, e2⟩ := List.getElem?_eq_some_iff.mp h1
        exact q ((List.getElem_inj s.nd).mp (e1.trans e2.symm))
      rw [upd_ne hb]
      exact ho
  · obtain ⟨⟨o, h1⟩, h2⟩ := s.hid b hb
    exact ⟨⟨o, by rw [upd_ne (fun z => h2 (by rw [z]; exact hm))]; exact h1⟩, h2⟩
theorem ob_of {w : W} {u : V} {p : Nat × List W} (s : Sim K mp g H) (r : Rp K mp H w u) (e : obOf g w = some p) : ∃ a vs, u = .ref a ∧ mp.ob[p.1]? = some a ∧ H a = some (.lst vs) ∧ vs.length ≤ sizeLine ∧ RpL K mp H p.2 vs := by
  unfold obOf at e
  cases w <;> simp only at e <;> try (cases e)
  rename_i n
  split at e
  · rename_i xs h
    cases e
    obtain ⟨a, rfl, h1⟩ := r.obI
    obtain ⟨b, h2, vs, h3, h4, h5⟩ := s.at_ h
    rw [h1] at h2; cases h2
    exact ⟨a, vs, rfl, h1, h3, h4, h5⟩
  · cases e
end
theorem s_app (g : Good G F d c X) {o a : E} {x y : Expr} {m : Str} {ap pos : Pos} (h : chkE G (.app o a) c (.Call (.Attribute x m ap) [y] [] pos) = true) (ho : PE X x (tvE X.K F o)) (ha : PE X y (tvE X.K F a)) :
    PE X (.Call (.Attribute x m ap) [y] [] pos) (tvE X.K F (.app o a)) := by
  simp only [chkE, Bool.and_eq_true] at h
  obtain ⟨⟨⟨⟨⟨h1, h2⟩, h3⟩, _⟩, _⟩, n1⟩ := h
  obtain rfl := of_decide_eq_true h1
  refine PE.weak (pe_bm PySem.F.plainAttrs_list PySem.F.slot_list_append PySem.F.type_list_append mt_append ho (pa_cons ha pa_nil (star_cons n1)) (attr_plain h3)
    (by rw [all_star (by simp [n1])]; rfl) h2 (star_cons n1) rfl) fun σ H Q ⟨mp, env, g, Q0, sr, hw', k⟩ => ?_
  simp only [wpE] at hw'
  refine ⟨mp, env, g, _, sr, hw', fun x g1 hq mp1 H1 u1 e1 s1 r1 => ?_⟩
  obtain ⟨p0, hp0, hq⟩ := hq
  obtain ⟨a0, vs0, rfl, ha0, hh0, _, _⟩ := ob_of s1 r1 hp0
  refine ⟨.inl ⟨rfl, vs0, .of hh0⟩, ?_⟩
  refine ⟨mp1, env, g1, _, sr.ext e1 s1, hq, fun y g2 hq2 mp2 H2 u2 e2 s2 r2 => ?_⟩
  obtain ⟨p, hp, hz, hq3⟩ := hq2
  obtain ⟨a1, vs, e, h5, h6, h7, h8⟩ := ob_of s2 (r1.ext e2) hp
  cases e
  have hl := h8.length
  refine ⟨a0, vs, u2, rfl, rfl, h6, by omega, k _ _ (opt_put (opt_add hq3)) mp2 _ .non ((e1.trans e2).trans (.wr (List.mem_of_getElem? h5))) (s2.wr h5 ?_ (h8.append (.cons r2 .nil))) .non⟩
  rw [List.length_append, List.length_singleton]
  omega
def rExtU (K : Fr6) : V → List V → Hp → VK → Prop := fun x vs H Q => rExtend x vs H Q ∨ rExtT K x vs H Q
theorem mt_extU : MtM X "list.extend" (rExtU X.K) := fun pins s σ H x vs v us Q I rx rv h => h.elim (fun h => mt_extend pins s σ H x vs v us Q I rx rv h) (fun h => mt_extT pins s σ H x vs v us Q I rx rv h)
theorem s_ext (g : Good G F d c X) {o a : E} {x y : Expr} {m : Str} {ap pos : Pos} (h : chkE G (.ext o a) c (.Call (.Attribute x m ap) [y] [] pos) = true) (ho : PE X x (tvE X.K F o)) (ha : PE X y (tvE X.K F a)) :
    PE X (.Call (.Attribute x m ap) [y] [] pos) (tvE X.K F (.ext o a)) := by
  simp only [chkE, Bool.and_eq_true] at h
  obtain ⟨⟨⟨⟨⟨h1, h2⟩, h3⟩, _⟩, _⟩, n1⟩ := h
  obtain rfl := of_decide_eq_true h1
  refine PE.weak (pe_bm PySem.F.plainAttrs_list PySem.F.slot_list_extend PySem.F.type_list_extend mt_extU ho (pa_cons ha pa_nil (star_cons n1)) (attr_plain h3)
    (by rw [all_star (by simp [n1])]; rfl) h2 (star_cons n1) rfl) fun σ H Q ⟨mp, env, g, Q0, sr, hw', k⟩ => ?_
  simp only [wpE] at hw'
  refine ⟨mp, env, g, _, sr, hw', fun x g1 hq mp1 H1 u1 e1 s1 r1 => ?_⟩
  obtain ⟨p0, hp0, hq⟩ := hq
  obtain ⟨a0, vs0, rfl, ha0, hh0, _, _⟩ := ob_of s1 r1 hp0
  refine ⟨.inl ⟨rfl, vs0, .of hh0⟩, ?_⟩
  refine ⟨mp1, env, g1, _, sr.ext e1 s1, hq, fun y g2 hq2 mp2 H2 u2 e2 s2 r2 => ?_⟩
  obtain ⟨p, hp, ys, hys, hz, hq3⟩ := hq2
  obtain ⟨a1, vs, e, h5, h6, h7, h8⟩ := ob_of s2 (r1.ext e2) hp
  cases e
  have hl := h8.length
  unfold tseqOf at hys
  split at hys
  · rename_i ys' hd
    cases hys
    obtain ⟨b, us, rfl, f, _, rb⟩ := dr_lst' s2 r2 hd
    have hl2 := rb.length
    refine .inl ⟨a0, b, vs, us, rfl, rfl, h6, f, by omega, k _ _ (opt_put hq3) mp2 _ .non ((e1.trans e2).trans (.wr (List.mem_of_getElem? h5))) (s2.wr h5 ?_ (h8.append rb)) .non⟩
    rw [List.length_append]
    omega
  · rename_i ys' hd
    cases hys
    obtain ⟨b, us, rfl, f, rb⟩ := dr_tup s2 r2 hd
    have hl2 := rb.length
    refine .inr ⟨a0, b, vs, us, rfl, rfl, h6, f.sq, by omega, k _ _ (opt_put hq3) mp2 _ .non ((e1.trans e2).trans (.wr (List.mem_of_getElem? h5))) (s2.wr h5 ?_ (h8.append rb)) .non⟩
    rw [List.length_append]
    omega
  · cases hys
theorem strsOf_rp {K : Fr6} {mp : M} {H : Hp} : ∀ {xs : List W} {ys : List Str} {vs : List V}, strsOf xs = some ys → RpL K mp H xs vs → vs = ys.map V.str ∧ ∀ y ∈ ys, StrOk y
  | [], ys, vs, e, r => by
    cases e
    simp only [RpL] at r
    exact ⟨r, by simp⟩
  | x :: xs, ys, vs, e, r => by
    simp only [RpL] at r
    obtain ⟨u, us, rfl, h, tl⟩ := r
    cases x with
    | str s =>
      simp only [strsOf, Option.map_eq_some_iff] at e
      obtain ⟨ys', e1, rfl⟩ := e
      obtain ⟨rfl, ok⟩ := h.strI
      obtain ⟨e2, ok2⟩ := strsOf_rp e1 tl
      refine ⟨by rw [e2]; rfl, fun y hy => ?_⟩
      rcases List.mem_cons.mp hy with e3 | hy
      · rw [e3]; exact ok
      · exact ok2 y hy
    | _ => cases e
theorem strOfW_eq {x : W} {s : Str} (h : strOfW x = some s) : x = .str s := by
  cases x <;> cases h
  rfl
theorem StrOk.join {a : Str} (ha : StrOk a) : ∀ {ys : List Str}, (∀ y ∈ ys, StrOk y) → (Str.join a ys).length ≤ (ys.map (·.length)).sum + ys.length * a.length ∧ (Str.join a ys).cps.all (· < 0x110000) = true
  | [], _ => ⟨Nat.zero_le _, by simp [Str.join, Str.empty]⟩
  | [x], h => by
    refine ⟨?_, (h x List.mem_cons_self).2⟩
    simp [Str.join]
  | x :: y :: r, h => by
    obtain ⟨h1, h2⟩ := StrOk.join ha (ys := y :: r) fun z hz => h z (List.mem_cons_of_mem _ hz)
    have e : Str.join a (x :: y :: r) = x ++ a ++ Str.join a (y :: r) := rfl
    rw [e]
    constructor
    · rw [str_append_length, str_append_length]
      simp only [List.map_cons, List.sum_cons, List.length_cons] at h1 ⊢
      rw [Nat.add_mul, Nat.one_mul]
      omega
    · show (x.cps ++ a.cps ++ (Str.join a (y :: r)).cps).all _ = true
      rw [Array.all_append, Array.all_append, (h x List.mem_cons_self).2, ha.2, h2]; rfl
theorem s_join (g : Good G F d c X) {o a : E} {x y : Expr} {m : Str} {ap pos : Pos} (h : chkE G (.m1 .join o a) c (.Call (.Attribute x m ap) [y] [] pos) = true) (ho : PE X x (tvE X.K F o)) (ha : PE X y (tvE X.K F a)) :
    PE X (.Call (.Attribute x m ap) [y] [] pos) (tvE X.K F (.m1 .join o a)) := by
  simp only [chkE, Bool.and_eq_true] at h
  obtain ⟨⟨⟨⟨⟨h1, h2⟩, h3⟩, _⟩, _⟩, n1⟩ := h
  obtain rfl := of_decide_eq_true h1
  refine PE.weak (pe_m1 PySem.F.slot_str_join PySem.F.type_str_join mt_join ho ha (star_cons n1) (attr_plain h3) h2) fun σ H Q ⟨mp, env, g, Q0, sr, hw', k⟩ => ?_
  simp only [wpE] at hw'
  refine ⟨mp, env, g, _, sr, hw', fun x g1 hq mp1 H1 u1 e1 s1 r1 => ?_⟩
  obtain ⟨s, hs, hq⟩ := hq
  obtain rfl := strOfW_eq hs
  obtain ⟨rfl, ok⟩ := r1.strI
  refine ⟨⟨s, rfl⟩, ?_⟩
  refine ⟨mp1, env, g1, _, sr.ext e1 s1, hq, fun y g2 hq2 mp2 H2 u2 e2 s2 r2 => ?_⟩
  obtain ⟨z, hz, hq3⟩ := hq2
  simp only [m1W, Option.bind_eq_some_iff] at hz
  obtain ⟨xs, hx, ys, hy, hz⟩ := hz
  obtain ⟨hc, hz⟩ := ite_some hz
  subst hz
  have out : ∀ {vs : List V} (p : Addr), RpL X.K mp2 H2 xs vs → (SqL X.K H2 p vs ∨ SqT X.K H2 p vs) → ∃ a' p' ys', V.str s = .str a' ∧ [V.ref p] = [.ref p'] ∧ (SqL X.K H2 p' (ys'.map V.str) ∨ SqT X.K H2 p' (ys'.map V.str)) ∧
      (ys'.map (·.length)).sum + ys'.length * a'.length ≤ 16777216 ∧ Q (.str (Txt.join a' ys')) H2 := fun {vs} p r hs => by
    obtain ⟨rfl, oks⟩ := strsOf_rp hy r
    refine ⟨s, p, ys, rfl, rfl, hs, hc, ?_⟩
    rw [TL.join_eq]
    obtain ⟨j1, j2⟩ := StrOk.join ok oks
    exact k _ g2 hq3 mp2 H2 _ (e1.trans e2) s2 (.str ⟨by rw [sizeLine_eq]; omega, j2⟩)
  unfold tseqOf at hx
  split at hx
  · rename_i ys' hd
    cases hx
    obtain ⟨b, us, rfl, f, _, rb⟩ := dr_lst' s2 r2 hd
    exact out b rb (.inl (.of f))
  · rename_i ys' hd
    cases hx
    obtain ⟨b, us, rfl, f, rb⟩ := dr_tup s2 r2 hd
    exact out b rb (.inr f.sq)
  · cases hx
theorem s_sindex (g : Good G F d c X) {o a : E} {x y : Expr} {m : Str} {ap pos : Pos} (h : chkE G (.m1 .index o a) c (.Call (.Attribute x m ap) [y] [] pos) = true) (ho : PE X x (tvE X.K F o)) (ha : PE X y (tvE X.K F a)) :
    PE X (.Call (.Attribute x m ap) [y] [] pos) (tvE X.K F (.m1 .index o a)) := by
  simp only [chkE, Bool.and_eq_true] at h
  obtain ⟨⟨⟨⟨⟨h1, h2⟩, h3⟩, _⟩, _⟩, n1⟩ := h
  obtain rfl := of_decide_eq_true h1
  refine PE.weak (pe_m1 PySem.F.slot_str_index PySem.F.type_str_index mt_sindex ho ha (star_cons n1) (attr_plain h3) h2) fun σ H Q ⟨mp, env, g, Q0, sr, hw', k⟩ => ?_
  simp only [wpE] at hw'
  refine ⟨mp, env, g, _, sr, hw', fun x g1 hq mp1 H1 u1 e1 s1 r1 => ?_⟩
  obtain ⟨s, hs, hq⟩ := hq
  obtain rfl := strOfW_eq hs
  obtain ⟨rfl, ok⟩ := r1.strI
  refine ⟨⟨s, rfl⟩, ?_⟩
  refine ⟨mp1, env, g1, _, sr.ext e1 s1, hq, fun y g2 hq2 mp2 H2 u2 e2 s2 r2 => ?_⟩
  obtain ⟨z, hz, hq3⟩ := hq2
  cases y with
  | str b =>
    obtain ⟨rfl, _⟩ := r2.strI
    simp only [m1W] at hz
    split at hz
    · rename_i i rest hi
      cases hz
      exact ⟨s, b, i, rest, rfl, rfl, hi, k _ g2 hq3 mp2 H2 _ (e1.trans e2) s2 (.int _)⟩
    · cases hz
  | _ => cases hz
theorem s_m1 (g : Good G F d c X) {op : M1} {o a : E} {x y : Expr} {m : Str} {ap pos : Pos} (h : chkE G (.m1 op o a) c (.Call (.Attribute x m ap) [y] [] pos) = true) (ho : PE X x (tvE X.K F o)) (ha : PE X y (tvE X.K F a)) :
    PE X (.Call (.Attribute x m ap) [y] [] pos) (tvE X.K F (.m1 op o a)) := by
  cases op with
  | join => exact s_join g h ho ha
  | index => exact s_sindex g h ho ha
theorem s_pop (g : Good G F d c X) {o : E} {x : Expr} {m : Str} {ap pos : Pos} (h : chkE G (.pop o) c (.Call (.Attribute x m ap) [] [] pos) = true) (ho : PE X x (tvE X.K F o)) :
    PE X (.Call (.Attribute x m ap) [] [] pos) (tvE X.K F (.pop o)) := by
  simp only [chkE, Bool.and_eq_true] at h
  obtain ⟨⟨⟨h1, h2⟩, h3⟩, _⟩ := h
  obtain rfl := of_decide_eq_true h1
  refine PE.weak (pe_bm0 PySem.F.plainAttrs_list PySem.F.slot_list_pop PySem.F.type_list_pop mt_pop ho (attr_plain h3) h2) fun σ H Q ⟨mp, env, g, Q0, sr, hw', k⟩ => ?_
  simp only [wpE] at hw'
  refine ⟨mp, env, g, _, sr, hw', fun x g1 hq mp1 H1 u1 e1 s1 r1 => ?_⟩
  obtain ⟨p, hp, r, hr, hq⟩ := hq
  obtain ⟨a0, vs, rfl, h5, h6, h7, h8⟩ := ob_of s1 r1 hp
  have hl := h8.length
  unfold popW at hr
  split at hr
  · rename_i y hy
    cases hr
    rw [List.getLast?_eq_getElem?] at hy
    obtain ⟨u, hu, ru⟩ := h8.get hy
    have r2 : RpL X.K mp1 H1 p.2.dropLast vs.dropLast := by
      rw [List.dropLast_eq_take, List.dropLast_eq_take, hl]
      exact h8.take _
    refine ⟨.inl ⟨rfl, vs, .of h6⟩, a0, vs, u, rfl, rfl, h6, by rw [← hl]; exact hu, k _ _ (opt_put hq) mp1 _ u (e1.trans (.wr (List.mem_of_getElem? h5))) (s1.wr h5 ?_ r2) (ru.ext (.wr (List.mem_of_getElem? h5)))⟩
    rw [List.length_dropLast]
    omega
  · cases hr
theorem s_popAt (g : Good G F d c X) {o i : E} {x y : Expr} {m : Str} {ap pos : Pos} (h : chkE G (.popAt o i) c (.Call (.Attribute x m ap) [y] [] pos) = true) (ho : PE X x (tvE X.K F o)) (ha : PE X y (tvE X.K F i)) :
    PE X (.Call (.Attribute x m ap) [y] [] pos) (tvE X.K F (.popAt o i)) := by
  simp only [chkE, Bool.and_eq_true] at h
  obtain ⟨⟨⟨⟨⟨h1, h2⟩, h3⟩, _⟩, _⟩, n1⟩ := h
  obtain rfl := of_decide_eq_true h1
  refine PE.weak (pe_bm PySem.F.plainAttrs_list PySem.F.slot_list_pop PySem.F.type_list_pop mt_popAt ho (pa_cons ha pa_nil (star_cons n1)) (attr_plain h3)
    (by rw [all_star (by simp [n1])]; rfl) h2 (star_cons n1) rfl) fun σ H Q ⟨mp, env, g, Q0, sr, hw', k⟩ => ?_
  simp only [wpE] at hw'
  refine ⟨mp, env, g, _, sr, hw', fun x g1 hq mp1 H1 u1 e1 s1 r1 => ?_⟩
  obtain ⟨p0, hp0, hq⟩ := hq
  obtain ⟨a0, vs0, rfl, ha0, hh0, _, _⟩ := ob_of s1 r1 hp0
  refine ⟨.inl ⟨rfl, vs0, .of hh0⟩, ?_⟩
  refine ⟨mp1, env, g1, _, sr.ext e1 s1, hq, fun y g2 hq2 mp2 H2 u2 e2 s2 r2 => ?_⟩
  obtain ⟨p, hp, r, hr, hq3⟩ := hq2
  obtain ⟨a1, vs, e, h5, h6, h7, h8⟩ := ob_of s2 (r1.ext e2) hp
  cases e
  have hl := h8.length
  unfold popAtW at hr
  split at hr
  · rename_i i
    split at hr
    · rename_i hb
      rw [Option.bind_eq_some_iff] at hr
      obtain ⟨j, hj, hr⟩ := hr
      rw [Option.map_eq_some_iff] at hr
      obtain ⟨z, hz, rfl⟩ := hr
      obtain ⟨u, hu, ru⟩ := h8.get hz
      have hj' := (ixN_seq hj).1
      refine ⟨a0, vs, i, j, u, rfl, by rw [r2.intI], h6, hb.1, hb.2, by rw [← hl]; exact hj', hu, k _ _ (opt_put hq3) mp2 _ u ((e1.trans e2).trans (.wr (List.mem_of_getElem? h5))) (s2.wr h5 ?_ (h8.eraseIdx j)) (ru.ext (.wr (List.mem_of_getElem? h5)))⟩
      have := L2.len_erase vs j
      omega
    · cases hr
  · cases hr
/-! ### dicts -/
theorem noSl_of {b : Expr} (h : noSlice b = true) : NoSl b := by
  intro o i
  cases b <;> first | rfl | cases h
theorem hu1 (g : Good G F d c X) : X.A.units + 1 < cLine := by have := g.room.un; omega
theorem s_dnew {pos : Pos} : PE X (.Dict [] [] pos) (tvE X.K F .dnew) := by
  refine PE.weak pe_dnewK fun σ H Q ⟨mp, env, g, Q0, sr, hw, k⟩ => ?_
  simp only [wpE] at hw
  intro p hp
  have s2 := (sr.2.hide (o := .dK []) hp).trackW (w := .dct [] []) (.inl ⟨[], upd_same, rfl, .nil⟩)
  refine k _ _ (opt_add hw) (mp.track p) _ _ ((Ext.new hp).track hp) s2 ?_
  simp only [Rp]
  have hl : mp.ob.length = g.length := sr.2.len
  refine ⟨p, rfl, ?_⟩
  show (mp.ob ++ [p])[g.length]? = some p
  rw [List.getElem?_append_right (by omega), hl]
  simp
theorem mergeK_dist : ∀ (kvs acc : List (Key × V)), (∀ p ∈ kvs, p.1 ∉ acc.map (·.1)) → (kvs.map (·.1)).Nodup → mergeK acc kvs = acc ++ kvs
  | [], acc, _, _ => by rw [List.append_nil]; rfl
  | kv :: kvs, acc, h, hn => by
    rw [List.map_cons, List.nodup_cons] at hn
    have e : putK acc kv.1 kv.2 = acc ++ [kv] := by
      unfold putK
      rw [if_neg]
      intro z
      obtain ⟨q, hq, e⟩ := List.any_eq_true.mp z
      exact h kv List.mem_cons_self (List.mem_map.mpr ⟨q, hq, of_decide_eq_true e⟩)
    show mergeK (putK acc kv.1 kv.2) kvs = _
    rw [e, mergeK_dist kvs (acc ++ [kv]) (fun p hp hm => ?_) hn.2, List.append_assoc]
    · rfl
    · rw [List.map_append, List.mem_append] at hm
      rcases hm with hm | hm
      · exact h p (List.mem_cons_of_mem _ hp) hm
      · rw [List.map_singleton, List.mem_singleton] at hm
        exact hn.1 (List.mem_map.mpr ⟨p, hp, hm⟩)
theorem FT.psq {K : Fr6} {mp : M} {H : Hp} {a : Addr} {vs : List V} (f : FT K mp H a vs) : PSq K H a vs := by
  rcases f.2 with ⟨h, _⟩ | h
  · exact .inl h
  · exact .inr h
theorem dprs_of {K : Fr6} {mp : M} {H : Hp} : ∀ {xs : List W} {d : List Key × List W} {vs : List V}, dprs xs = some d → RpL K mp H xs vs →
    ∃ (ps : List Addr) (kvs : List (Key × V)), vs = ps.map V.ref ∧ Paired (fun p kv => SqT K H p [kV kv.1, kv.2]) ps kvs ∧ d.1 = kvs.map (·.1) ∧ RpL K mp H d.2 (kvs.map (·.2)) ∧ (kvs.map (·.1)).Nodup
  | [], d, vs, h, r => by
    simp only [dprs, Option.some.injEq] at h
    subst h
    simp only [RpL] at r
    subst r
    exact ⟨[], [], rfl, .nil, rfl, .nil, List.nodup_nil⟩
  | x :: xs, d, vs, h, r => by
    simp only [RpL] at r
    obtain ⟨u, us, rfl, r1, r2⟩ := r
    unfold dprs at h
    split at h
    · rename_i heq; cases heq
    · rename_i k v rr heq
      cases heq
      rw [Option.bind_eq_some_iff] at h
      obtain ⟨i, hi, h⟩ := h
      rw [Option.bind_eq_some_iff] at h
      obtain ⟨d2, hd, h⟩ := h
      split at h
      · cases h
      · rename_i hni
        cases h
        obtain ⟨ps, kvs, rfl, hp, hk, hv, hn⟩ := dprs_of hd r2
        obtain ⟨a, ws, rfl, f, rw_⟩ := r1.tupI
        simp only [RpL] at rw_
        obtain ⟨u1, ws1, rfl, q1, u2, ws2, rfl, q2, rfl⟩ := rw_
        have e1 := keyOf_rp q1 hi
        subst e1
        refine ⟨a :: ps, (i, u2) :: kvs, rfl, .cons f.sq hp, by rw [List.map_cons, hk], .cons q2 hv, ?_⟩
        rw [List.map_cons, List.nodup_cons]
        exact ⟨fun hm => hni (List.any_eq_true.mpr ⟨i, by rw [hk]; exact hm, decide_eq_true rfl⟩), hn⟩
    · cases h
theorem s_dof (g : Good G F d c X) {a : E} {x : Str} {y : Expr} {p pos : Pos} (h1 : bltB G c.sc x "dict" = true) (hn : noStar y = true) (ha : PE X y (tvE X.K F a)) : PE X (.Call (.Name x p) [y] [] pos) (tvE X.K F (.dof a)) := by
  obtain ⟨rfl, hg, hf⟩ := blt_of h1
  refine PE.weak (pe_callTy (call_dictF g.calm) (g.gl hg) (g.facts.free _ hf) (by decide +kernel : bootBuiltins "dict" = some (.type "dict")) (pa_cons ha pa_nil (star_cons hn)) (by decide +kernel) (by decide +kernel) (star_cons hn) rfl) fun σ H Q ⟨mp, env, g, Q0, sr, hw, k⟩ => ?_
  simp only [wpE] at hw
  refine ⟨mp, env, g, _, sr, hw, fun x g1 hq mp1 H1 u1 e1 s1 r1 => ?_⟩
  obtain ⟨dd, hd, hq⟩ := hq
  cases x <;> simp only [dofW] at hd <;> try (cases hd)
  obtain ⟨b, vs, rfl, f, r⟩ := r1.tupI
  obtain ⟨ps, kvs, rfl, hp, hk, hv, hnd⟩ := dprs_of hd r
  refine ⟨b, ps, kvs, rfl, f.psq, hp, fun p hpn => ?_⟩
  rw [mergeK_dist kvs [] (fun _ _ z => by cases z) hnd, List.nil_append]
  have s2 := (s1.hide (o := .dK kvs) hpn).trackW (w := .dct (dd.1.map keyW) dd.2) (.inl ⟨kvs, upd_same, by rw [hk, List.map_map]; rfl, (hv.ext0 (.hide hpn)).track⟩)
  refine k _ _ (opt_add hq) (mp1.track p) _ _ (e1.trans ((Ext.new hpn).track hpn)) s2 ?_
  simp only [Rp]
  have hl : mp1.ob.length = g1.length := s1.len
  refine ⟨p, rfl, ?_⟩
  show (mp1.ob ++ [p])[g1.length]? = some p
  rw [List.getElem?_append_right (by omega), hl]
  simp
theorem s_dix (g : Good G F d c X) {o i : E} {x y : Expr} {pos : Pos} (ho : PE X x (tvE X.K F o)) (hi : PE X y (tvE X.K F i)) (h : noSlice y = true) : PE X (.Subscript x y pos) (tvE X.K F (.dix o i)) := by
  refine PE.weak (pe_dget (hu1 g) ho hi (noSl_of h)) fun σ H Q ⟨mp, env, g, Q0, sr, hw, k⟩ => ?_
  simp only [wpE] at hw
  refine ⟨mp, env, g, _, sr, hw, fun x g1 hq mp1 H1 u1 e1 s1 r1 => ?_⟩
  refine ⟨mp1, env, g1, _, sr.ext e1 s1, hq, fun y g2 hq2 mp2 H2 u2 e2 s2 r2 => ?_⟩
  obtain ⟨z, hz, hq3⟩ := hq2
  unfold dixW at hz
  rw [Option.bind_eq_some_iff] at hz
  obtain ⟨dd, h1, hz⟩ := hz
  rw [Option.bind_eq_some_iff] at hz
  obtain ⟨ky, h2, hz⟩ := hz
  obtain ⟨a, kvs, rfl, hr, hk, rl⟩ := dctOf_at s2 (r1.ext e2) h1
  rw [hk] at hz
  obtain ⟨v, hv, rv⟩ := (dfind_rp rl).1 _ hz
  exact ⟨a, v, rfl, .inl ⟨kvs, ky, hr, keyOf_rp r2 h2, hv.symm⟩, k z g2 hq3 mp2 H2 v (e1.trans e2) s2 rv⟩
theorem s_din (g : Good G F d c X) {neg : Bool} {i o : E} {op : CmpOp} {l r : Expr} {pos : Pos} (hi : PE X l (tvE X.K F i)) (ho : PE X r (tvE X.K F o)) (h : dinB neg op = true) (hs : noSet r = true) :
    PE X (.Compare l [op] [r] pos) (tvE X.K F (.din neg i o)) := by
  refine PE.weak (pe_cmpR (op_din (hu1 g) h) hi ho (noMark hs)) fun σ H Q ⟨mp, env, g, Q0, sr, hw, k⟩ => ?_
  simp only [wpE] at hw
  refine ⟨mp, env, g, _, sr, hw, fun y g1 hq mp1 H1 u1 e1 s1 r1 => ?_⟩
  refine ⟨mp1, env, g1, _, sr.ext e1 s1, hq, fun x g2 hq2 mp2 H2 u2 e2 s2 r2 => ?_⟩
  obtain ⟨b, hb, hq3⟩ := hq2
  exact dinW_sound s2 (r1.ext e2) r2 hb (k _ g2 hq3 mp2 H2 _ (e1.trans e2) s2 (.bl _))
theorem s_dinT (g : Good G F d c X) {neg : Bool} {i o : E} {op : CmpOp} {l r : Expr} {pos : Pos} (hi : PE X l (tvE X.K F i)) (ho : PE X r (tvE X.K F o)) (h : dinB neg op = true) (hs : noSet r = true) :
    PT X (.Compare l [op] [r] pos) (tvT X.K F (.din neg i o)) := by
  refine PT.weak (pt_cmpR (op_din (hu1 g) h) hi ho (noMark hs)) fun σ H Q ⟨mp, env, g, Q0, sr, hw, k⟩ => ?_
  simp only [wpT] at hw
  refine ⟨mp, env, g, _, sr, hw, fun y g1 hq mp1 H1 u1 e1 s1 r1 => ?_⟩
  refine ⟨mp1, env, g1, _, sr.ext e1 s1, hq, fun x g2 hq2 mp2 H2 u2 e2 s2 r2 => ?_⟩
  obtain ⟨b, hb, hq3⟩ := hq2
  refine dinW_sound s2 (r1.ext e2) r2 hb ?_
  exact ⟨_, rfl, k _ g2 hq3 mp2 H2 (e1.trans e2) s2⟩
theorem s_dget (g : Good G F d c X) {o i z : E} {x y t : Expr} {m : Str} {ap pos : Pos} (h : chkE G (.dget o i z) c (.Call (.Attribute x m ap) [y, t] [] pos) = true) (ho : PE X x (tvE X.K F o)) (hi : PE X y (tvE X.K F i)) (hz : PE X t (tvE X.K F z)) :
    PE X (.Call (.Attribute x m ap) [y, t] [] pos) (tvE X.K F (.dget o i z)) := by
  simp only [chkE, Bool.and_eq_true] at h
  obtain ⟨⟨⟨⟨⟨⟨⟨h1, h2⟩, h3⟩, _⟩, _⟩, n1⟩, _⟩, n2⟩ := h
  obtain rfl := of_decide_eq_true h1
  have e1 : backTo pos (starEach [y, t] X.env) = [(false, eval y X.env), (false, eval t X.env)] := by rw [star_cons n1, star_cons n2]; rfl
  refine PE.weak (pe_dget2 (hu1 g) ho hi hz ⟨attr_plain h3, by rw [all_star (by simp [n1, n2])]; rfl, h2, e1⟩) fun σ H Q ⟨mp, env, g, Q0, sr, hw, k⟩ => ?_
  simp only [wpE] at hw
  refine ⟨mp, env, g, _, sr, hw, fun x g1 hq mp1 H1 u1 e1 s1 r1 => ?_⟩
  obtain ⟨d1, hd1, hq⟩ := hq
  obtain ⟨a, kvs, rfl, hr, _, _⟩ := dctOf_at s1 r1 hd1
  refine ⟨a, rfl, .inl ⟨kvs, hr⟩, ?_⟩
  refine ⟨mp1, env, g1, _, sr.ext e1 s1, hq, fun y g2 hq2 mp2 H2 u2 e2 s2 r2 => ?_⟩
  refine ⟨mp2, env, g2, _, (sr.ext e1 s1).ext e2 s2, hq2, fun z g3 hq3 mp3 H3 u3 e3 s3 r3 => ?_⟩
  obtain ⟨v, hv, hq4⟩ := hq3
  unfold dgetW at hv
  rw [Option.bind_eq_some_iff] at hv
  obtain ⟨dd, h4, hv⟩ := hv
  rw [Option.map_eq_some_iff] at hv
  obtain ⟨ky, h5, rfl⟩ := hv
  obtain ⟨b, kvs2, eb, hr2, hk2, rl⟩ := dctOf_at s3 ((r1.ext e2).ext e3) h4
  cases eb
  obtain ⟨f1, f2⟩ := dfind_rp (k := ky) rl
  rw [hk2] at hq4
  refine ⟨valV kvs2 ky, .inl ⟨kvs2, ky, hr2, keyOf_rp (r2.ext e3) h5, rfl⟩, ?_⟩
  cases hf : dfind (kvs2.map (·.1)) dd.2 ky with
  | none =>
    rw [f2 hf]
    rw [hf] at hq4
    exact k _ g3 hq4 mp3 H3 _ ((e1.trans e2).trans e3) s3 r3
  | some w =>
    obtain ⟨v', hv', rv⟩ := f1 w hf
    rw [hv']
    rw [hf] at hq4
    exact k _ g3 hq4 mp3 H3 _ ((e1.trans e2).trans e3) s3 rv
end
end Z
namespace Z
open PySem PySem.Spec L2
open PyProof.Rows hiding St
section
variable {X : Cx} {G : Globs} {F : FSem} {d : Nat} {c : Ctx}
/-! ### lists that are made -/
theorem n_lst {a : E} {es : List Expr} {pos : Pos} (ha : PA X es (tvA X.K F a)) : PE X (.List es pos) (tvN X.K F (.lst a)) := by
  refine PE.weak (pe_lst ha) fun σ H Q ⟨mp, env, g, Q0, sr, hw, k⟩ => ?_
  simp only [wpN] at hw
  refine ⟨mp, env, g, _, sr, hw, fun xs g1 hq mp1 H1 us e1 s1 r1 => ?_⟩
  have hl := r1.length
  refine ⟨by have := hq.1; omega, fun p hp => ?_⟩
  obtain ⟨e2, s2, r2⟩ := new_lst s1 r1 hp
  exact k _ g1 hq.2 mp1 _ p us (e1.trans e2) s2 (e1.free s1 hp) upd_same (by have := hq.1; omega) r2
theorem lseq_at {mp : M} {g : CH} {H : Hp} {x : W} {u : V} {xs : List W} (s : Sim X.K mp g H) (r : Rp X.K mp H x u) (e : lseqOf g x = some xs) : ∃ a vs, u = .ref a ∧ H a = some (.lst vs) ∧ vs.length ≤ sizeLine ∧ RpL X.K mp H xs vs := by
  unfold lseqOf at e
  split at e
  · rename_i ys h
    cases e
    exact dr_lst' s r h
  · cases e
theorem n_lcat {a b : E} {l r : Expr} {pos : Pos} (ha : PE X l (tvE X.K F a)) (hb : PE X r (tvE X.K F b)) : PE X (.BinOp l .Add r pos) (tvN X.K F (.lcat a b)) := by
  refine PE.weak (pe_op op_cat ha hb) fun σ H Q ⟨mp, env, g, Q0, sr, hw, k⟩ => ?_
  simp only [wpN] at hw
  refine ⟨mp, env, g, _, sr, hw, fun x g1 hq mp1 H1 u1 e1 s1 r1 => ?_⟩
  refine ⟨mp1, env, g1, _, sr.ext e1 s1, hq, fun y g2 hq2 mp2 H2 u2 e2 s2 r2 => ?_⟩
  obtain ⟨xs, hx, ys, hy, hz, hq3⟩ := hq2
  obtain ⟨p, vs, rfl, h1, _, r3⟩ := lseq_at s2 (r1.ext e2) hx
  obtain ⟨q, us, rfl, h2, _, r4⟩ := lseq_at s2 r2 hy
  have l1 := r3.length
  have l2 := r4.length
  refine ⟨p, q, vs, us, rfl, rfl, h1, h2, by omega, fun t ht => ?_⟩
  obtain ⟨e3, s3, r5⟩ := new_lst s2 (r3.append r4) ht
  exact k _ g2 hq3 mp2 _ t _ ((e1.trans e2).trans e3) s3 ((e1.trans e2).free s2 ht) upd_same (by rw [List.length_append]; omega) r5
theorem RpL.rep {K : Fr6} {mp : M} {H : Hp} {xs : List W} {us : List V} (h : RpL K mp H xs us) : ∀ k : Nat, RpL K mp H (List.replicate k xs).flatten (List.replicate k us).flatten
  | 0 => .nil
  | k + 1 => by
    rw [List.replicate_succ, List.replicate_succ, List.flatten_cons, List.flatten_cons]
    exact h.append (RpL.rep h k)
theorem n_lrep {a b : E} {l r : Expr} {pos : Pos} (ha : PE X l (tvE X.K F a)) (hb : PE X r (tvE X.K F b)) : PE X (.BinOp l .Mult r pos) (tvN X.K F (.lrep a b)) := by
  refine PE.weak (pe_op op_rep ha hb) fun σ H Q ⟨mp, env, g, Q0, sr, hw, k⟩ => ?_
  simp only [wpN] at hw
  refine ⟨mp, env, g, _, sr, hw, fun x g1 hq mp1 H1 u1 e1 s1 r1 => ?_⟩
  refine ⟨mp1, env, g1, _, sr.ext e1 s1, hq, fun y g2 hq2 mp2 H2 u2 e2 s2 r2 => ?_⟩
  obtain ⟨xs, hx, hq2⟩ := hq2
  obtain ⟨p, vs, rfl, h1, _, r3⟩ := lseq_at s2 (r1.ext e2) hx
  have l1 := r3.length
  cases y with
  | int n =>
    obtain ⟨⟨b1, b2⟩, hz, hq3⟩ := hq2
    have r4 := r3.rep n.toNat
    refine ⟨p, n, vs, rfl, r2.intI, h1, b1, b2, by rw [← l1]; exact hz, fun t ht => ?_⟩
    obtain ⟨e3, s3, r5⟩ := new_lst s2 r4 ht
    refine k _ g2 hq3 mp2 _ t _ ((e1.trans e2).trans e3) s3 ((e1.trans e2).free s2 ht) upd_same ?_ r5
    have l2 : (List.replicate n.toNat vs).flatten.length = n.toNat * vs.length := by simp
    rw [l2, Nat.mul_comm, ← l1]; exact hz
  | _ => exact hq2.elim
theorem n_lsl {a lo hi : E} {x : Expr} {l h : Option Expr} {p2 pos : Pos} (ha : PE X x (tvE X.K F a)) (hl : PO X l (tvP X.K F lo)) (hh : PO X h (tvP X.K F hi)) :
    PE X (.Subscript x (.Slice l h none p2) pos) (tvN X.K F (.lsl a lo hi)) := by
  refine PE.weak (pe_slice sl_list ha hl hh) fun σ H Q ⟨mp, env, g, Q0, sr, hw, k⟩ => ?_
  simp only [wpN] at hw
  refine ⟨mp, env, g, _, sr, hw, fun x g1 hq mp1 H1 u1 e1 s1 r1 => ?_⟩
  refine ⟨mp1, env, g1, _, sr.ext e1 s1, hq, fun y g2 hq2 mp2 H2 o1 e2 s2 p1 => ?_⟩
  refine ⟨mp2, env, g2, _, (sr.ext e1 s1).ext e2 s2, hq2, fun z g3 hq3 mp3 H3 o2 e3 s3 p2 => ?_⟩
  obtain ⟨ys, hy, hq3⟩ := hq3
  have r3 := (r1.ext e2).ext e3
  have e13 := (e1.trans e2).trans e3
  unfold lslW at hy
  split at hy
  · rename_i xs hd
    obtain ⟨b, vs, rfl, f, hz, r⟩ := dr_lst s3 r3 hd
    have hc := cutW_of p1 p2 hy
    rw [r.length] at hc
    refine ⟨b, vs, rfl, f, fun t ht => ?_⟩
    have r4 : RpL X.K mp3 H3 ys (cutV vs o1 o2) := by rw [hc]; exact (r.drop _).take _
    obtain ⟨e4, s4, r5⟩ := new_lst s3 r4 ht
    exact k _ g3 hq3 mp3 _ t _ (e13.trans e4) s4 (e13.free s3 ht) upd_same (Nat.le_trans (cutV_length _ _ _) hz) r5
  · cases hy
theorem n_list (g : Good G F d c X) {a : E} {x : Str} {y : Expr} {p pos : Pos} (h1 : bltB G c.sc x "list" = true) (hn : noStar y = true) (ha : PE X y (tvE X.K F a)) : PE X (.Call (.Name x p) [y] [] pos) (tvN X.K F (.n1 .list a)) := by
  obtain ⟨rfl, hg, hf⟩ := blt_of h1
  refine PE.weak (pe_callTy call_list_of (g.gl hg) (g.facts.free _ hf) (by decide +kernel : bootBuiltins "list" = some (.type "list")) (pa_cons ha pa_nil (star_cons hn)) (by decide +kernel) (by decide +kernel) (star_cons hn) rfl) fun σ H Q ⟨mp, env, g, Q0, sr, hw, k⟩ => ?_
  simp only [wpN] at hw
  refine ⟨mp, env, g, _, sr, hw, fun x g1 hq mp1 H1 u1 e1 s1 r1 => ?_⟩
  obtain ⟨xs, hx, hq⟩ := hq
  have fin : ∀ {vs : List V}, vs.length ≤ sizeLine → RpL X.K mp1 H1 xs vs → ∀ l, H1 l = none → Q (.ref l) (upd H1 l (.lst vs)) := fun {vs} hz r l hl => by
    obtain ⟨e2, s2, r2⟩ := new_lst s1 r hl
    exact k _ g1 hq mp1 _ l _ (e1.trans e2) s2 (e1.free s1 hl) upd_same hz r2
  unfold seqOf at hx
  split at hx
  · rename_i xs' hd
    cases hx
    obtain ⟨b, vs, rfl, f, r⟩ := dr_tup s1 r1 hd
    exact ⟨b, vs, rfl, .inr f.sq, fin f.1 r⟩
  · rename_i xs' hd
    cases hx
    have hx := dr_flat s1 hd (by intro _ z; cases z) (by intro _ _ z; cases z) (by intro _ z; cases z)
    subst hx
    obtain ⟨b, vs, rfl, f, r⟩ := r1.lckI
    exact ⟨b, vs, rfl, .inl f.sq, fin f.1 r⟩
  · rename_i xs' hd
    cases hx
    obtain ⟨b, vs, rfl, f, hz, r⟩ := dr_lst s1 r1 hd
    exact ⟨b, vs, rfl, .inl f, fin hz r⟩
  · cases hx
theorem sortInts_of {ns ns' : List Int} (h : ns'.Perm ns) (hp : ns'.Pairwise (· ≤ ·)) : sortInts ns = ns' := by
  unfold sortInts
  have h1 : (ns.mergeSort fun a b => decide (a ≤ b)).Perm ns' := (List.mergeSort_perm ns _).trans h.symm
  refine List.Perm.eq_of_pairwise (fun a b _ _ h1 h2 => Int.le_antisymm h1 h2) ?_ hp h1
  have := List.pairwise_mergeSort (le := fun a b : Int => decide (a ≤ b)) (fun a b c h1 h2 => by simp at *; omega) (fun a b => by simp; omega) ns
  exact this.imp fun h => by simpa using h
theorem n_sorted (g : Good G F d c X) {a : E} {x : Str} {y : Expr} {p pos : Pos} (h1 : bltB G c.sc x "sorted" = true) (hn : noStar y = true) (ha : PE X y (tvE X.K F a)) : PE X (.Call (.Name x p) [y] [] pos) (tvN X.K F (.n1 .sorted a)) := by
  obtain ⟨rfl, hg, hf⟩ := blt_of h1
  refine PE.weak (pe_callB cr_sortedI (g.gl hg) (g.facts.free _ hf) boot_sorted (pa_cons ha pa_nil (star_cons hn)) (by decide +kernel) (by decide +kernel) (star_cons hn) rfl) fun σ H Q ⟨mp, env, g, Q0, sr, hw, k⟩ => ?_
  simp only [wpN] at hw
  refine ⟨mp, env, g, _, sr, hw, fun x g1 hq mp1 H1 u1 e1 s1 r1 => ?_⟩
  obtain ⟨xs, hx, ns, hns, hq⟩ := hq
  obtain ⟨b, vs, rfl, f, hz, r⟩ := lseq_at s1 r1 hx
  rw [ints_of hns] at r
  obtain rfl := RpL.ints r
  refine ⟨b, ns, rfl, .of f, fun ns' t hp hs ht => ?_⟩
  rw [sortInts_of hp hs] at hq
  have hl : (ns'.map V.int).length ≤ sizeLine := by
    rw [List.length_map, hp.length_eq]
    rwa [List.length_map] at hz
  obtain ⟨e2, s2, r2⟩ := new_lst s1 (RpL.of_ints ns') ht
  exact k _ g1 hq mp1 _ t _ (e1.trans e2) s2 (e1.free s1 ht) upd_same hl r2
theorem ps_ofW : ∀ {xs : List W} {ps : List (Int × Str)}, psOf xs = some ps → xs = ps.map psW
  | [], ps, h => by simp only [psOf, Option.some.injEq] at h; subst h; rfl
  | x :: xs, ps, h => by
    unfold psOf at h
    split at h
    · rename_i heq; cases heq
    · rename_i i y r heq
      cases heq
      rw [Option.map_eq_some_iff] at h
      obtain ⟨l, h1, rfl⟩ := h
      rw [ps_ofW h1]; rfl
    · cases h
theorem ps_rel {K : Fr6} {mp : M} {H : Hp} : ∀ {ps : List (Int × Str)} {vs : List V}, RpL K mp H (ps.map psW) vs →
    Paired (fun x p => ∃ t, x = V.ref t ∧ SqT K H t [.int p.1, .str p.2]) vs ps ∧ vs.length = ps.length ∧ ∀ z ∈ vs.zip ps, Rp K mp H (psW z.2) z.1
  | [], vs, r => by
    simp only [List.map_nil, RpL] at r
    subst r
    exact ⟨.nil, rfl, fun z hz => by cases hz⟩
  | p :: ps, vs, r => by
    simp only [List.map_cons, RpL] at r
    obtain ⟨u, us, rfl, r1, r2⟩ := r
    obtain ⟨h1, h2, h3⟩ := ps_rel r2
    have r1' := r1
    obtain ⟨a, ws, rfl, f, q⟩ := r1.tupI
    simp only [RpL] at q
    obtain ⟨u1, w1, rfl, q1, u2, w2, rfl, q2, rfl⟩ := q
    have e1 := q1.intI
    have e2 := q2.strI.1
    subst e1 e2
    refine ⟨.cons ⟨a, rfl, f.sq⟩ h1, by rw [List.length_cons, List.length_cons, h2], fun z hz => ?_⟩
    rw [List.zip_cons_cons] at hz
    rcases List.mem_cons.mp hz with rfl | hz
    · exact r1'
    · exact h3 z hz
theorem rpl_zs {K : Fr6} {mp : M} {H : Hp} : ∀ {zs : List (V × (Int × Str))}, (∀ z ∈ zs, Rp K mp H (psW z.2) z.1) → RpL K mp H ((zs.map (·.2)).map psW) (zs.map (·.1))
  | [], _ => .nil
  | z :: zs, h => .cons (h z List.mem_cons_self) (rpl_zs fun y hy => h y (List.mem_cons_of_mem _ hy))
theorem sortP_of {ps qs : List (Int × Str)} (h : qs.Perm ps) (hn : (ps.map (·.1)).Nodup) (hp : qs.Pairwise fun a b => ¬ b.1 < a.1) : sortP ps = qs := by
  unfold sortP
  have h1 : (ps.mergeSort fun a b => decide (a.1 ≤ b.1)).Perm qs := (List.mergeSort_perm ps _).trans h.symm
  have hm := List.pairwise_mergeSort (le := fun a b : Int × Str => decide (a.1 ≤ b.1)) (fun a b c h1 h2 => by simp at *; omega) (fun a b => by simp; omega) ps
  refine List.Perm.eq_of_pairwise (le := fun a b : Int × Str => a.1 ≤ b.1) (fun a b ha hb h1 h2 => ?_) (hm.imp fun h => by simpa using h) (hp.imp fun h => by omega) h1
  have e : a.1 = b.1 := Int.le_antisymm h1 h2
  have e2 := nodup_fst hn a ((List.mergeSort_perm ps _).mem_iff.mp ha) b (h.mem_iff.mp hb) e
  cases a; cases b
  simp only at e e2
  rw [e, e2]
theorem n_sortedP (g : Good G F d c X) {a : E} {x : Str} {y : Expr} {p pos : Pos} (h1 : bltB G c.sc x "sorted" = true) (hn : noStar y = true) (ha : PE X y (tvE X.K F a)) : PE X (.Call (.Name x p) [y] [] pos) (tvN X.K F (.n1 .sortedP a)) := by
  obtain ⟨rfl, hg, hf⟩ := blt_of h1
  refine PE.weak (pe_callB cr_sortedS (g.gl hg) (g.facts.free _ hf) boot_sorted (pa_cons ha pa_nil (star_cons hn)) (by decide +kernel) (by decide +kernel) (star_cons hn) rfl) fun σ H Q ⟨mp, env, g, Q0, sr, hw, k⟩ => ?_
  simp only [wpN] at hw
  refine ⟨mp, env, g, _, sr, hw, fun x g1 hq mp1 H1 u1 e1 s1 r1 => ?_⟩
  obtain ⟨xs, hx, ps, hps, hnd, hq⟩ := hq
  obtain ⟨b, vs, rfl, f, hz, r⟩ := lseq_at s1 r1 hx
  rw [ps_ofW hps] at r
  obtain ⟨h2, h3, h4⟩ := ps_rel r
  refine ⟨b, vs, ps, rfl, .of f, h2, hnd, fun zs t hp hs ht => ?_⟩
  have e : sortP ps = zs.map (·.2) := by
    refine sortP_of ?_ hnd (List.pairwise_map.mpr hs)
    have := hp.map (·.2)
    rwa [List.map_snd_zip (by omega)] at this
  rw [e] at hq
  have hl : (zs.map (·.1)).length ≤ sizeLine := by
    rw [List.length_map, hp.length_eq, List.length_zip]
    omega
  obtain ⟨e2, s2, r2⟩ := new_lst s1 (rpl_zs fun z hz => h4 z (hp.mem_iff.mp hz)) ht
  exact k _ g1 hq mp1 _ t _ (e1.trans e2) s2 (e1.free s1 ht) upd_same hl r2
theorem inls_of : ∀ {ks : List Key} {ns : List Int}, inlsOf ks = some ns → ks = ns.map Sum.inl
  | [], ns, h => by cases h; rfl
  | .inl i :: ks, ns, h => by
    simp only [inlsOf, Option.map_eq_some_iff] at h
    obtain ⟨ms, h1, rfl⟩ := h
    rw [inls_of h1]; rfl
  | .inr x :: ks, ns, h => by simp [inlsOf] at h
theorem n_dsort (g : Good G F d c X) {o : E} {x : Str} {y : Expr} {p pos : Pos} (h1 : bltB G c.sc x "sorted" = true) (hn : noStar y = true) (ha : PE X y (tvE X.K F o)) : PE X (.Call (.Name x p) [y] [] pos) (tvN X.K F (.dsort o)) := by
  obtain ⟨rfl, hg, hf⟩ := blt_of h1
  refine PE.weak (pe_callB (call_sortedDI g.calm) (g.gl hg) (g.facts.free _ hf) boot_sorted (pa_cons ha pa_nil (star_cons hn)) (by decide +kernel) (by decide +kernel) (star_cons hn) rfl) fun σ H Q ⟨mp, env, g, Q0, sr, hw, k⟩ => ?_
  simp only [wpN] at hw
  refine ⟨mp, env, g, _, sr, hw, fun x g1 hq mp1 H1 u1 e1 s1 r1 => ?_⟩
  obtain ⟨dd, hd, ns, hns, hl, hq⟩ := hq
  obtain ⟨a, kvs, rfl, hr, hk, rl⟩ := dctOf_at s1 r1 hd
  refine ⟨a, kvs, ns, rfl, hr, by rw [← hk]; exact inls_of hns, hl, fun ns' t hp hs ht => ?_⟩
  rw [sortInts_of hp hs] at hq
  have hl : (ns'.map V.int).length ≤ sizeLine := by
    rw [List.length_map, hp.length_eq, sizeLine_eq]
    omega
  obtain ⟨e2, s2, r2⟩ := new_lst s1 (RpL.of_ints ns') ht
  exact k _ g1 hq mp1 _ t _ (e1.trans e2) s2 (e1.free s1 ht) upd_same hl r2
theorem insS_mem {k j : Int} : ∀ {xs : List Int}, j ∈ insS k xs ↔ j = k ∨ j ∈ xs
  | [] => by simp [insS]
  | x :: xs => by
    unfold insS
    split
    · simp
    · split
      · rename_i h
        subst h
        simp
      · rw [List.mem_cons, insS_mem (xs := xs), List.mem_cons]
        constructor
        · rintro (h | h | h) <;> simp [h]
        · rintro (h | h | h) <;> simp [h]
theorem insS_up {k : Int} : ∀ {xs : List Int}, xs.Pairwise (· < ·) → (insS k xs).Pairwise (· < ·)
  | [], _ => by simp [insS]
  | x :: xs, h => by
    obtain ⟨h1, h2⟩ := List.pairwise_cons.mp h
    unfold insS
    split
    · rename_i q
      refine List.pairwise_cons.mpr ⟨fun y hy => ?_, h⟩
      rcases List.mem_cons.mp hy with e | hy
      · rw [e]; exact q
      · exact Int.lt_trans q (h1 y hy)
    · split
      · exact h
      · rename_i q1 q2
        refine List.pairwise_cons.mpr ⟨fun y hy => ?_, insS_up h2⟩
        rcases insS_mem.mp hy with e | hy
        · rw [e]; omega
        · exact h1 y hy
theorem setInts_up : ∀ ns : List Int, (setInts ns).Pairwise (· < ·)
  | [] => .nil
  | n :: ns => insS_up (setInts_up ns)
theorem setInts_mem {k : Int} : ∀ {ns : List Int}, k ∈ setInts ns ↔ k ∈ ns
  | [] => Iff.rfl
  | n :: ns => by
    rw [show setInts (n :: ns) = insS n (setInts ns) from rfl, insS_mem, setInts_mem, List.mem_cons]
theorem up_ext : ∀ {xs ys : List Int}, xs.Pairwise (· < ·) → ys.Pairwise (· < ·) → (∀ k, k ∈ xs ↔ k ∈ ys) → xs = ys := fun h1 h2 h => by
  refine List.Perm.eq_of_pairwise (fun a b _ _ h1 h2 => absurd (Int.lt_trans h1 h2) (Int.lt_irrefl _)) h1 h2 ?_
  refine (List.perm_ext_iff_of_nodup (h1.imp fun h e => ?_) (h2.imp fun h e => ?_)).mpr h
  · rw [e] at h; exact Int.lt_irrefl _ h
  · rw [e] at h; exact Int.lt_irrefl _ h
theorem n_sset (g : Good G F d c X) {a : E} {x r : Str} {y : Expr} {p p2 pos pos2 : Pos} (h1 : bltB G c.sc x "sorted" = true) (h2 : bltB G c.sc r "set" = true) (hn : noStar y = true) (ha : PE X y (tvE X.K F a)) :
    PE X (.Call (.Name x p) [.Call (.Name r p2) [y] [] pos2] [] pos) (tvN X.K F (.sset a)) := by
  obtain ⟨rfl, hg, hf⟩ := blt_of h1
  obtain ⟨rfl, hg2, hf2⟩ := blt_of h2
  have hs := pe_callTy (pos := pos2) (p := p2) (cr_setI g.calm) (g.gl hg2) (g.facts.free _ hf2) PyProof.Rows.boot_set (pa_cons ha pa_nil (star_cons hn)) (by decide +kernel) (by decide +kernel) (star_cons hn) rfl
  refine PE.weak (pe_callB (cr_sortedSet g.calm) (g.gl hg) (g.facts.free _ hf) boot_sorted (pa_cons hs pa_nil (star_cons rfl)) (by decide +kernel) (by decide +kernel) (star_cons rfl) rfl) fun σ H Q ⟨mp, env, g, Q0, sr, hw, k⟩ => ?_
  simp only [wpN] at hw
  refine ⟨mp, env, g, _, sr, hw, fun x g1 hq mp1 H1 u1 e1 s1 r1 => ?_⟩
  obtain ⟨xs, hx, ns, hns, ⟨hl1, hl2⟩, hq⟩ := hq
  obtain ⟨b, vs, rfl, f, hz, r⟩ := lseq_at s1 r1 hx
  rw [ints_of hns] at r
  obtain rfl := RpL.ints r
  refine ⟨b, ns, rfl, .inl (.of f), hl1, fun a0 c0 L ha0 nd hm hc => ?_⟩
  have el : c0 = (setInts ns).length := by
    rw [← hc]
    refine (List.Perm.length_eq ((List.perm_ext_iff_of_nodup nd ((setInts_up ns).imp fun h e => ?_)).mpr fun k => by rw [hm k, setInts_mem]))
    rw [e] at h; exact Int.lt_irrefl _ h
  refine ⟨a0, _, c0, rfl, upd_same, by omega, fun ns' t hu hm' _ ht => ?_⟩
  obtain rfl : ns' = setInts ns := up_ext hu (setInts_up ns) fun k => by rw [hm' k, decide_eq_true_eq, setInts_mem]
  have e2 : Ext mp1 H1 mp1 (upd H1 a0 (SetO X.w a0 (fun j => decide (j ∈ ns)) c0)) := .new ha0
  have s2 := s1.new (o := SetO X.w a0 (fun j => decide (j ∈ ns)) c0) ha0
  have hl : ((setInts ns).map V.int).length ≤ sizeLine := by
    rw [List.length_map, sizeLine_eq]; omega
  obtain ⟨e3, s3, r3⟩ := new_lst s2 (RpL.of_ints (setInts ns)) ht
  exact k _ g1 hq mp1 _ t _ ((e1.trans e2).trans e3) s3 ((e1.trans e2).free s2 ht) upd_same hl r3
/-! ### ranges -/
theorem rangeW_length : ∀ (n : Nat) (lo : Int), (rangeW lo n).length = n
  | 0, _ => rfl
  | n + 1, lo => by simp only [rangeW, List.length_cons, rangeW_length n]
theorem rangeW_get : ∀ (n : Nat) (lo : Int) (i : Nat), i < n → (rangeW lo n)[i]? = some (.int (lo + (i : Nat)))
  | 0, _, _, h => by omega
  | n + 1, lo, 0, _ => by simp [rangeW]
  | n + 1, lo, i + 1, h => by
    simp only [rangeW, List.getElem?_cons_succ]
    rw [rangeW_get n (lo + 1) i (by omega)]
    congr 2
    omega
theorem rangeW_ints : ∀ (n : Nat) (lo : Int), rangeW lo n = ((List.range n).map fun i => lo + ((i : Nat) : Int)).map W.int := by
  intro n lo
  apply List.ext_getElem?
  intro i
  by_cases h : i < n
  · rw [rangeW_get n lo i h]
    simp [h]
  · rw [List.getElem?_eq_none (by rw [rangeW_length]; omega), List.getElem?_eq_none (by simp; omega)]
theorem rgV_ints (a b : Int) : rgV a b = ((List.range (b - a).toNat).map fun i => a + ((i : Nat) : Int)).map V.int := by
  unfold rgV
  rw [List.map_map]
  rfl
theorem rng_of {x y : W} {xs : List W} (h : rngW x y = some xs) : ∃ i j, x = .int i ∧ y = .int j ∧ rngOk i j ∧ xs = rangeW i (j - i).toNat := by
  unfold rngW at h
  split at h
  · obtain ⟨h1, h2⟩ := ite_some h
    exact ⟨_, _, rfl, rfl, h1, h2.symm⟩
  · cases h
theorem n_lrng {Q : VK} {mp mp1 : M} {g1 : CH} {H H1 : Hp} {i j : Int} (e1 : Ext mp H mp1 H1) (s1 : Sim X.K mp1 g1 H1) (hr : rngOk i j)
    (k : ∀ mp' H' a vs, Ext mp H mp' H' → Sim X.K (mp'.hide a) g1 H' → H a = none → H' a = some (.lst vs) → vs.length ≤ sizeLine → RpL X.K (mp'.hide a) H' (rangeW i (j - i).toNat) vs → Q (.ref a) H') :
    RgOk i j ∧ ∀ q, H1 q = none → Q (.ref q) (upd H1 q (.lst (rgV i j))) := by
  refine ⟨hr, fun q hq => ?_⟩
  obtain ⟨e2, s2, r2⟩ := new_lst s1 (RpL.of_ints ((List.range (j - i).toNat).map fun k => i + ((k : Nat) : Int))) hq
  rw [rgV_ints]
  refine k mp1 _ q _ (e1.trans e2) s2 (e1.free s1 hq) upd_same ?_ (by rw [rangeW_ints]; exact r2)
  rw [List.length_map, List.length_map, List.length_range]
  have : (sizeLine : Nat) = 16777216 := sizeLine_eq
  have := hr.2.2.2.2
  omega
theorem n_lrng1 (g : Good G F d c X) {a : E} {x r : Str} {y : Expr} {p p2 pos pos2 : Pos} (h1 : bltB G c.sc x "list" = true) (h2 : bltB G c.sc r "range" = true) (hn : noStar y = true) (ha : PE X y (tvE X.K F a)) :
    PE X (.Call (.Name x p) [.Call (.Name r p2) [y] [] pos2] [] pos) (tvN X.K F (.lrng1 a)) := by
  obtain ⟨rfl, hg, hf⟩ := blt_of h1
  obtain ⟨rfl, hg2, hf2⟩ := blt_of h2
  refine PE.weak (pe_listRg g.calm (g.gl hg) (g.facts.free _ hf) (prg_1 (g.gl hg2) (g.facts.free _ hf2) ha (star_cons hn)) rfl) fun σ H Q ⟨mp, env, g, Q0, sr, hw, k⟩ => ?_
  simp only [wpN] at hw
  refine ⟨mp, env, g, _, sr, hw, fun x g1 hq mp1 H1 u1 e1 s1 r1 => ?_⟩
  obtain ⟨xs, hx, hq⟩ := hq
  obtain ⟨i, j, hi, rfl, hr, rfl⟩ := rng_of hx
  cases hi
  exact ⟨j, r1.intI, n_lrng e1 s1 hr fun mp' H' t vs => k _ g1 hq mp' H' t vs⟩
theorem n_lrng2 (g : Good G F d c X) {a b : E} {x r : Str} {y z : Expr} {p p2 pos pos2 : Pos} (h1 : bltB G c.sc x "list" = true) (h2 : bltB G c.sc r "range" = true) (hn : noStar y = true) (hn2 : noStar z = true) (ha : PE X y (tvE X.K F a)) (hb : PE X z (tvE X.K F b)) :
    PE X (.Call (.Name x p) [.Call (.Name r p2) [y, z] [] pos2] [] pos) (tvN X.K F (.lrng2 a b)) := by
  obtain ⟨rfl, hg, hf⟩ := blt_of h1
  obtain ⟨rfl, hg2, hf2⟩ := blt_of h2
  refine PE.weak (pe_listRg g.calm (g.gl hg) (g.facts.free _ hf) (prg_2 (g.gl hg2) (g.facts.free _ hf2) ha hb (star_cons hn) (star_cons hn2) (plain_star (by simp [hn2]))) rfl) fun σ H Q ⟨mp, env, g, Q0, sr, hw, k⟩ => ?_
  simp only [wpN] at hw
  refine ⟨mp, env, g, _, sr, hw, fun x g1 hq mp1 H1 u1 e1 s1 r1 => ?_⟩
  refine ⟨mp1, env, g1, _, sr.ext e1 s1, hq, fun y g2 hq2 mp2 H2 u2 e2 s2 r2 => ?_⟩
  obtain ⟨xs, hx, hq2⟩ := hq2
  obtain ⟨i, j, rfl, rfl, hr, rfl⟩ := rng_of hx
  exact ⟨i, j, (r1.ext e2).intI, r2.intI, n_lrng (e1.trans e2) s2 hr fun mp' H' t vs => k _ g2 hq2 mp' H' t vs⟩
/-! ### what a for walks -/
theorem gives_tup {K : Fr6} {mp : M} {H : Hp} {a : Addr} {vs : List V} {xs : List W} (f : FT K mp H a vs) (r : RpL K mp H xs vs) : Gives K (Itt K a) mp H none xs := by
  refine ⟨by rw [r.length]; exact f.1, fun mp2 g2 H2 e s _ i hi => ?_, fun mp2 g2 H2 e s _ => ?_⟩
  · have f2 := f.ext0 e
    have r2 := r.ext0 e
    have hl := r.length
    refine ⟨walk_tup.goes i H2 (by omega) f2.sq, fun x H3 y => ?_⟩
    obtain ⟨rfl, hx⟩ := walk_tup.yields i H2 x H3 (by omega) f2.sq y
    obtain ⟨w, h1, h2⟩ := r2.get' hx
    exact ⟨.refl, s, w, h1, h2⟩
  · rw [r.length]
    exact walk_tup.stops H2 (f.ext0 e).sq
theorem gives_lstF {K : Fr6} {mp : M} {H : Hp} {a : Addr} {vs : List V} {xs : List W} (hz : vs.length ≤ sizeLine) (f : ∀ mp2 H2, Ext0 mp H mp2 H2 → SqL K H2 a vs) (r : RpL K mp H xs vs) : Gives K (Itl K a) mp H none xs := by
  refine ⟨by rw [r.length]; exact hz, fun mp2 g2 H2 e s _ i hi => ?_, fun mp2 g2 H2 e s _ => ?_⟩
  · have r2 := r.ext0 e
    have hl := r.length
    refine ⟨walk_list.goes i H2 (by omega) (f _ _ e), fun x H3 y => ?_⟩
    obtain ⟨rfl, hx⟩ := walk_list.yields i H2 x H3 (by omega) (f _ _ e) y
    obtain ⟨w, h1, h2⟩ := r2.get' hx
    exact ⟨.refl, s, w, h1, h2⟩
  · rw [r.length]
    exact walk_list.stops H2 (f _ _ e)
theorem gives_ob {K : Fr6} {mp : M} {H : Hp} {a : Addr} {vs : List V} {xs : List W} {n : Nat} (hz : vs.length ≤ sizeLine) (hn : mp.ob[n]? = some a) (r : RpL K mp H xs vs) : Gives K (Itl K a) mp H (some n) xs := by
  have go : ∀ {mp2 : M} {g2 : CH} {H2 : Hp}, Ext0 mp H mp2 H2 → Sim K mp2 g2 H2 → stays g2 (some n) xs → ∃ vs2, H2 a = some (.lst vs2) ∧ RpL K mp2 H2 xs vs2 := fun {mp2 g2 H2} e s st => by
    obtain ⟨b, h1, vs2, h2, _, h3⟩ := s.at_ (show nth g2 n = some (.lst xs) from st)
    obtain ⟨l, hl⟩ := e.pre
    have h4 : mp2.ob[n]? = some a := by
      rw [← hl, List.getElem?_append_left (by exact (List.getElem?_eq_some_iff.mp hn).1)]; exact hn
    rw [h4] at h1; cases h1
    exact ⟨vs2, h2, h3⟩
  refine ⟨by rw [r.length]; exact hz, fun mp2 g2 H2 e s st i hi => ?_, fun mp2 g2 H2 e s st => ?_⟩
  · obtain ⟨vs2, h2, r2⟩ := go e s st
    have hl := r2.length
    refine ⟨(walk_list (xs := vs2)).goes i H2 (by omega) (.of h2), fun x H3 y => ?_⟩
    obtain ⟨rfl, hx⟩ := (walk_list (xs := vs2)).yields i H2 x H3 (by omega) (.of h2) y
    obtain ⟨w, h1, h2⟩ := r2.get' hx
    exact ⟨.refl, s, w, h1, h2⟩
  · obtain ⟨vs2, h2, r2⟩ := go e s st
    rw [r2.length]
    exact walk_list.stops H2 (.of h2)
theorem gives_str {K : Fr6} {mp : M} {H : Hp} {x : Str} (h : StrOk x) : Gives K (Its x) mp H none (x.cps.toList.map chr1) := by
  have hl : (x.cps.toList.map chr1).length = x.cps.size := by simp
  refine ⟨by rw [hl]; exact h.1, fun mp2 g2 H2 e s _ i hi => ?_, fun mp2 g2 H2 e s _ => ?_⟩
  · rw [hl] at hi
    refine ⟨walk_str.goes i H2 hi trivial, fun v H3 y => ?_⟩
    obtain ⟨rfl, c, hc, rfl⟩ := walk_str.yields i H2 v H3 hi trivial y
    have hc' : x.cps.toList[i]? = some c := by rw [Array.getElem?_toList]; exact hc
    refine ⟨.refl, s, chr1 c, by rw [List.getElem?_map, hc']; rfl, .str ?_⟩
    refine strOk_sub (l := [c]) h (fun d hd => by rw [List.mem_singleton.mp hd]; exact List.mem_of_getElem? hc') ?_
    have e1 : x.cps.toList.length = x.cps.size := Array.length_toList
    show 1 ≤ x.cps.toList.length
    omega
  · rw [hl]
    exact walk_str.stops H2 trivial
theorem gives_rng {K : Fr6} {mp : M} {H : Hp} {lo : Int} {n : Nat} (h : n ≤ sizeLine) : Gives K (Itr lo n) mp H none (rangeW lo n) := by
  refine ⟨by rw [rangeW_length]; exact h, fun mp2 g2 H2 e s _ i hi => ?_, fun mp2 g2 H2 e s _ => ?_⟩
  · rw [rangeW_length] at hi
    refine ⟨walk_range.goes i H2 hi trivial, fun v H3 y => ?_⟩
    obtain ⟨rfl, rfl⟩ := walk_range.yields i H2 v H3 hi trivial y
    exact ⟨.refl, s, _, rangeW_get n lo i hi, .int _⟩
  · rw [rangeW_length]
    exact walk_range.stops H2 trivial
/-- the walk of a value: by what it is -/
def iVal (K : Fr6) (te : TE) : TI := fun σ H R => te σ H fun x H1 => (∃ a, x = .ref a ∧ (∃ xs, SqL K H1 a xs) ∧ R (Itl K a) H1) ∨ (∃ a, x = .ref a ∧ (∃ xs, SqT K H1 a xs) ∧ R (Itt K a) H1) ∨ (∃ z, x = .str z ∧ R (Its z) H1)
theorem pi_val {tg e : Expr} {te : TE} (he : PE X e te) : PI X tg e (iVal X.K te) := by
  refine ⟨fun pins s σ H R I h => ?_⟩
  -- the value first; then by its kind
  have one : ∀ {x : V} {H1 : Hp} {v : Value} {s1 : Shared}, Inv X pins σ H1 s1 → RelV x v → ((∃ a, x = .ref a ∧ (∃ xs, SqL X.K H1 a xs) ∧ R (Itl X.K a) H1) ∨ (∃ a, x = .ref a ∧ (∃ xs, SqT X.K H1 a xs) ∧ R (Itt X.K a) H1) ∨ (∃ z, x = .str z ∧ R (Its z) H1)) →
      wpAny (model X.prog X.w) X.A (pyIter v) (PIE X pins σ tg R) X.xe s1 := fun {x H1 v s1} I1 r1 q => by
    rcases q with ⟨a, rfl, ⟨xs, hq⟩, q⟩ | ⟨a, rfl, ⟨xs, hq⟩, q⟩ | ⟨z, rfl, q⟩
    · cases r1
      obtain ⟨its, rv, p, hz⟩ := I1.list hq
      refine wpAny_pyIter_list p.isList ⟨_, [_], _, _, H1, rfl, I1.kept (t' := s1.toks) fun b o e => Heap.get?_push_of_some _ e, turn_list a _, ⟨_, Heap.get?_push_size _ rfl, rfl, rfl⟩, fun b hb => ?_, q⟩
      rw [List.mem_singleton.mp hb]
      exact I1.fpOk (Nat.le_refl _) (I1.hok.fresh (Nat.le_refl _))
    · cases r1
      obtain ⟨its, rv, p, hz⟩ := I1.tuple hq
      refine wpAny_pyIter_tuple (show s1.heap.IsTuple a its.toArray from p) ⟨_, [_], _, _, H1, rfl, I1.kept (t' := s1.toks) fun b o e => Heap.get?_push_of_some _ e, turn_tuple a _, ⟨_, Heap.get?_push_size _ rfl, rfl, rfl⟩, fun b hb => ?_, q⟩
      rw [List.mem_singleton.mp hb]
      exact I1.fpOk (Nat.le_refl _) (I1.hok.fresh (Nat.le_refl _))
    · obtain ⟨t, rfl⟩ := r1
      cases ha : z.cps.all (· < 128)
      · exact wpAny_pyIter_wide ha (pi_one (tk := s1.toks) I1 _ (turn_str _ z t "str_iterator" (.inr rfl)) ⟨_, Heap.get?_push_size _ rfl, rfl, rfl⟩ q)
      · exact wpAny_pyIter_ascii ha (pi_one (tk := s1.toks) I1 _ (turn_str _ z t "str_ascii_iterator" (.inl rfl)) ⟨_, Heap.get?_push_size _ rfl, rfl, rfl⟩ q)
  exact thn (he.run pins s σ H _ I h) fun v s1 ⟨x, H1, I1, r1, q1⟩ => one I1 r1 q1
theorem i_it {a : E} {tg e : Expr} (ha : PE X e (tvE X.K F a)) : PI X tg e (tvI X.K F (.it a)) := by
  refine PI.weak (pi_val ha) fun σ H R ⟨mp, env, g, Q0, sr, hw, k⟩ => ?_
  simp only [wpI] at hw
  refine ⟨mp, env, g, _, sr, hw, fun x g1 hq mp1 H1 u1 e1 s1 r1 => ?_⟩
  obtain ⟨p, hp, hq⟩ := hq
  unfold iterW at hp
  cases x <;> simp only at hp <;> try (cases hp)
  · obtain ⟨rfl, ok⟩ := r1.strI
    exact .inr (.inr ⟨_, rfl, k _ _ g1 hq mp1 H1 _ e1 s1 (gives_str ok)⟩)
  · obtain ⟨b, vs, rfl, f, r⟩ := r1.tupI
    exact .inr (.inl ⟨b, rfl, ⟨vs, f.sq⟩, k _ _ g1 hq mp1 H1 _ e1 s1 (gives_tup f r)⟩)
  · obtain ⟨b, vs, rfl, f, r⟩ := r1.lstI
    exact .inl ⟨b, rfl, ⟨vs, f.sq⟩, k _ _ g1 hq mp1 H1 _ e1 s1 (gives_lstF f.1 (fun _ _ e => (f.ext0 e).sq) r)⟩
  · obtain ⟨b, vs, rfl, f, r⟩ := r1.lckI
    exact .inl ⟨b, rfl, ⟨vs, f.sq⟩, k _ _ g1 hq mp1 H1 _ e1 s1 (gives_lstF f.1 (fun _ _ e => (f.ext0 e).sq) r)⟩
  · rename_i n
    split at hp
    · rename_i xs h
      cases hp
      obtain ⟨b, rfl, h1⟩ := r1.obI
      obtain ⟨b', h2, vs, h3, h4, h5⟩ := s1.at_ h
      rw [h1] at h2; cases h2
      exact .inl ⟨b, rfl, ⟨vs, .of h3⟩, k _ _ g1 hq mp1 H1 _ e1 s1 (gives_ob h4 h1 h5)⟩
    · cases hp
theorem enumW_len : ∀ (n : Nat) (xs : List W), (enumW n xs).length = xs.length
  | _, [] => rfl
  | n, x :: xs => by rw [enumW, List.length_cons, enumW_len, List.length_cons]
theorem enumW_at : ∀ {n : Nat} {xs : List W} {i : Nat} {w : W}, xs[i]? = some w → (enumW n xs)[i]? = some (.tup [.int ((n + i : Nat) : Int), w])
  | n, [], _, _, h => by simp at h
  | n, x :: xs, 0, w, h => by simp at h; subst h; rfl
  | n, x :: xs, i + 1, w, h => by
    rw [enumW, List.getElem?_cons_succ, enumW_at (by simpa using h), show n + 1 + i = n + (i + 1) by omega]
theorem enum_go {K : Fr6} {mp2 : M} {g2 : CH} {H2 : Hp} {i : Nat} {xs : List W} {vs : List V} {T : Addr} {y : V} {ob : Obj} (s : Sim K mp2 g2 H2) (r : RpL K mp2 H2 xs vs) (hT : H2 T = none) (ho : PlT ob) (hy : vs[i]? = some y) :
    Ext mp2 H2 mp2 (upd H2 T (.frz ob (.tup [.int (i : Nat), y]))) ∧ Sim K mp2 g2 (upd H2 T (.frz ob (.tup [.int (i : Nat), y]))) ∧ ∃ w, (enumW 0 xs)[i]? = some w ∧ Rp K mp2 (upd H2 T (.frz ob (.tup [.int (i : Nat), y]))) w (.ref T) := by
  obtain ⟨w, h1, h2⟩ := r.get' hy
  obtain ⟨e2, s2, r2⟩ := new_tup (xs := [.int (i : Nat), w]) (vs := [.int (i : Nat), y]) s (.cons (.int _) (.cons h2 .nil)) (by show 2 ≤ sizeLine; decide) hT ho
  exact ⟨e2, s2, _, by rw [enumW_at h1, Nat.zero_add], r2⟩
theorem gives_enumT {K : Fr6} {mp : M} {H : Hp} {a : Addr} {vs : List V} {xs : List W} (f : FT K mp H a vs) (r : RpL K mp H xs vs) : Gives K (IteT K a) mp H none (enumW 0 xs) := by
  refine ⟨by rw [enumW_len, r.length]; exact f.1, fun mp2 g2 H2 e s _ i hi => ?_, fun mp2 g2 H2 e s _ => ?_⟩
  · have f2 := f.ext0 e
    have r2 := r.ext0 e
    rw [enumW_len, r.length] at hi
    refine ⟨⟨vs, _, f2.sq, List.getElem?_eq_getElem hi⟩, ?_⟩
    rintro x H3 ⟨T, y, ob, rfl, hT, ho, rfl, hall⟩
    exact enum_go s r2 hT ho (hall vs f2.sq)
  · exact ⟨vs, (f.ext0 e).sq, by rw [enumW_len, r.length]⟩
theorem gives_enumS {K : Fr6} {mp : M} {H : Hp} {x : Str} (h : StrOk x) : Gives K (IteS x) mp H none (enumW 0 (x.cps.toList.map chr1)) := by
  have hl : (x.cps.toList.map chr1).length = x.cps.size := by simp
  refine ⟨by rw [enumW_len, hl]; exact h.1, fun mp2 g2 H2 e s _ i hi => ?_, fun mp2 g2 H2 e s _ => ?_⟩
  · rw [enumW_len, hl] at hi
    refine ⟨hi, ?_⟩
    rintro v H3 ⟨T, c, ob, rfl, hT, ho, hc, rfl⟩
    have hc' : x.cps.toList[i]? = some c := by rw [Array.getElem?_toList]; exact hc
    have ok : StrOk ⟨#[c]⟩ := strOk_sub (l := [c]) h (fun d hd => by rw [List.mem_singleton.mp hd]; exact List.mem_of_getElem? hc') (by
      have e1 : x.cps.toList.length = x.cps.size := Array.length_toList
      show 1 ≤ x.cps.toList.length
      omega)
    obtain ⟨e2, s2, r2⟩ := new_tup (xs := [.int (i : Nat), chr1 c]) (vs := [.int (i : Nat), .str ⟨#[c]⟩]) s (.cons (.int _) (.cons (.str ok) .nil)) (by show 2 ≤ sizeLine; decide) hT ho
    refine ⟨e2, s2, _, ?_, r2⟩
    rw [enumW_at (w := chr1 c) (by rw [List.getElem?_map, hc']; rfl), Nat.zero_add]
  · rw [enumW_len, hl]
    rfl
theorem i_enum (g : Good G F d c X) {a : E} {elts : List Expr} {kk : Nat} {tp : Pos} {r : Str} {y : Expr} {p pos : Pos} (h2 : bltB G c.sc r "enumerate" = true) (hn : noStar y = true) (ha : PE X y (tvE X.K F a)) : PI X (.Tuple elts kk tp) (.Call (.Name r p) [y] [] pos) (tvI X.K F (.enum a)) := by
  obtain ⟨rfl, hg2, hf2⟩ := blt_of h2
  refine PI.weak (pi_enumT (g.gl hg2) (g.facts.free _ hf2) (pa_cons ha pa_nil (star_cons hn)) (by rw [star_cons hn]; rfl)) fun σ H R ⟨mp, env, g, Q0, sr, hw, k⟩ => ?_
  simp only [wpI] at hw
  refine ⟨mp, env, g, _, sr, hw, fun x g1 hq mp1 H1 u1 e1 s1 r1 => ?_⟩
  obtain ⟨xs, hx, hq⟩ := hq
  unfold eseqOf at hx
  cases x <;> simp only at hx <;> try (cases hx)
  · obtain ⟨rfl, ok⟩ := r1.strI
    exact .inl ⟨_, rfl, k _ _ g1 hq mp1 H1 _ e1 s1 (gives_enumS ok)⟩
  · obtain ⟨b, vs, rfl, f, r⟩ := r1.tupI
    exact .inr ⟨b, vs, rfl, .inr ⟨f.sq, k _ _ g1 hq mp1 H1 _ e1 s1 (gives_enumT f r)⟩⟩
theorem rng_small {i j : Int} (h : rngOk i j) : (j - i).toNat ≤ sizeLine := by
  have : (sizeLine : Nat) = 16777216 := sizeLine_eq
  have := h.2.2.2.2
  omega
theorem i_rng1 (g : Good G F d c X) {a : E} {tg : Expr} {r : Str} {y : Expr} {p pos : Pos} (h2 : bltB G c.sc r "range" = true) (hn : noStar y = true) (ha : PE X y (tvE X.K F a)) : PI X tg (.Call (.Name r p) [y] [] pos) (tvI X.K F (.rng1 a)) := by
  obtain ⟨rfl, hg2, hf2⟩ := blt_of h2
  refine PI.weak (pi_range1 (g.gl hg2) (g.facts.free _ hf2) (pa_cons ha pa_nil (star_cons hn)) (by rw [star_cons hn]; rfl)) fun σ H R ⟨mp, env, g, Q0, sr, hw, k⟩ => ?_
  simp only [wpI] at hw
  refine ⟨mp, env, g, _, sr, hw, fun x g1 hq mp1 H1 u1 e1 s1 r1 => ?_⟩
  obtain ⟨xs, hx, hq⟩ := hq
  obtain ⟨i, j, hi, rfl, hr, rfl⟩ := rng_of hx
  cases hi
  rw [Int.sub_zero] at hq
  have hs := rng_small hr
  rw [Int.sub_zero] at hs
  exact ⟨j, by rw [r1.intI], hr.2.2.1, hr.2.2.2.1, k _ _ g1 hq mp1 H1 _ e1 s1 (gives_rng hs)⟩
theorem i_rng2 (g : Good G F d c X) {a b : E} {tg : Expr} {r : Str} {y z : Expr} {p pos : Pos} (h2 : bltB G c.sc r "range" = true) (hn : noStar y = true) (hn2 : noStar z = true) (ha : PE X y (tvE X.K F a)) (hb : PE X z (tvE X.K F b)) :
    PI X tg (.Call (.Name r p) [y, z] [] pos) (tvI X.K F (.rng2 a b)) := by
  obtain ⟨rfl, hg2, hf2⟩ := blt_of h2
  refine PI.weak (pi_range2 (g.gl hg2) (g.facts.free _ hf2) (pa_cons ha (pa_cons hb pa_nil (star_cons hn2)) (star_cons hn)) (by rw [star_cons hn, star_cons hn2]; rfl) (by rw [star_cons hn2]; rfl)) fun σ H R ⟨mp, env, g, Q0, sr, hw, k⟩ => ?_
  simp only [wpI] at hw
  refine ⟨mp, env, g, _, sr, hw, fun x g1 hq mp1 H1 u1 e1 s1 r1 => ?_⟩
  refine ⟨mp1, env, g1, _, sr.ext e1 s1, hq, fun y g2 hq2 mp2 H2 u2 e2 s2 r2 => ?_⟩
  obtain ⟨xs, hx, hq2⟩ := hq2
  obtain ⟨i, j, rfl, rfl, hr, rfl⟩ := rng_of hx
  exact ⟨i, j, by rw [(r1.ext e2).intI, r2.intI], ⟨hr.1, hr.2.1, hr.2.2.1, hr.2.2.2.1⟩, k _ _ g2 hq2 mp2 H2 _ (e1.trans e2) s2 (gives_rng (rng_small hr))⟩
/-! ### targets -/
def tvG (K : Fr6) (t : T) : TG := fun v σ H Q => ∃ mp env g w env1, SR K mp env g σ H ∧ Rp K mp H w v ∧ asg t w env = some env1 ∧
  ∀ σ', EnvR K mp H env1 σ' → (∀ own, tgIn own t = true → wipe σ' own = wipe σ own) → Q σ' H
def tvGs (K : Fr6) (t : T) : TGs := fun vs σ H Q => ∃ mp env g ws env1, SR K mp env g σ H ∧ RpL K mp H ws vs ∧ asgs t ws env = some env1 ∧
  ∀ σ', EnvR K mp H env1 σ' → (∀ own, tgsIn own t = true → wipe σ' own = wipe σ own) → Q σ' H
theorem PG.weak {X : Cx} {e : Expr} {t t' : TG} (h : PG X e t) (w : ∀ v σ H Q, t' v σ H Q → t v σ H Q) : PG X e t' := ⟨fun pins s σ H v u Q I r q => h.run pins s σ H v u Q I r (w v σ H Q q)⟩
theorem PGs.weak {X : Cx} {e : List Expr} {t t' : TGs} (h : PGs X e t) (w : ∀ v σ H Q, t' v σ H Q → t v σ H Q) : PGs X e t' := ⟨fun pins s σ H v u Q I r q => h.run pins s σ H v u Q I r (w v σ H Q q)⟩
theorem wipe_in {σ : St} {i : Nat} : ∀ {vs : List Nat}, i ∈ vs → i < σ.length → (wipe σ vs)[i]? = some none
  | v :: vs, h, hl => by
    unfold wipe
    by_cases q : v = i
    · subst q
      rw [List.getElem?_set_self (by rw [wipe_length]; exact hl)]
    · rw [List.getElem?_set_ne q]
      rcases List.mem_cons.mp h with e | h
      · exact absurd e.symm q
      · exact wipe_in h hl
theorem wipe_set {σ : St} {i : Nat} {x : Option V} {own : List Nat} (h : i ∈ own) : wipe (σ.set i x) own = wipe σ own := by
  apply List.ext_getElem?
  intro j
  by_cases hj : j < σ.length
  · by_cases hm : j ∈ own
    · rw [wipe_in hm (by rw [List.length_set]; exact hj), wipe_in hm hj]
    · rw [wipe_out hm, wipe_out hm, List.getElem?_set_ne (fun z => hm (by rw [← z]; exact h))]
  · rw [List.getElem?_eq_none (by rw [wipe_length, List.length_set]; omega), List.getElem?_eq_none (by rw [wipe_length]; omega)]
theorem g_n (g : Good G F d c X) {i : Nat} {x : Str} {pos : Pos} (h : chkTg c (.n i) (.Name x pos) = true) : PG X (.Name x pos) (tvG X.K (.n i)) := by
  simp only [chkTg, Bool.and_eq_true, decide_eq_true_eq] at h
  refine PG.weak (pg_name g.ndX (g.xN h.1) (g.locX h.2) (g.locF h.2)) fun v σ H Q ⟨mp, env, g, w, env1, sr, r, ha, k⟩ => ?_
  simp only [asg, Option.some.injEq] at ha
  subst ha
  exact k _ (sr.1.set r i) fun own ho => wipe_set (by simpa only [tgIn, decide_eq_true_eq] using ho)
theorem assign_starEach {e : Expr} {es : List Expr} {env : PySem.Env} (h : noStar e = true) : assignEach (e :: es) env = (false, assign e env) :: assignEach es env := by
  cases e <;> first | rfl | cases h
def tLen : T → Nat
  | .cons _ ts => tLen ts + 1
  | _ => 0
theorem asgs_len : ∀ {ts : T} {ws : List W} {env env1 : Env}, asgs ts ws env = some env1 → ws.length = tLen ts
  | .nil, [], _, _, _ => rfl
  | .nil, _ :: _, _, _, h => by simp [asgs] at h
  | .cons t ts, [], _, _, h => by simp [asgs] at h
  | .cons t ts, w :: ws, env, env1, h => by
    simp only [asgs, Option.bind_eq_some_iff] at h
    obtain ⟨e, _, h2⟩ := h
    simp only [List.length_cons, tLen, asgs_len h2]
  | .n _, _, _, _, h => by simp [asgs] at h
  | .tup _, _, _, _, h => by simp [asgs] at h
theorem chkTgs_len {c : Ctx} {env : PySem.Env} : ∀ {ts : T} {es : List Expr}, chkTgs c ts es = true → (assignEach es env).length = tLen ts ∧ (assignEach es env).findIdx? (·.1) = none
  | .nil, [], _ => ⟨rfl, rfl⟩
  | .cons t ts, e :: es, h => by
    simp only [chkTgs, Bool.and_eq_true] at h
    obtain ⟨h1, h2⟩ := chkTgs_len h.2 (env := env)
    rw [assign_starEach h.1.2]
    refine ⟨by rw [List.length_cons, h1]; rfl, ?_⟩
    rw [List.findIdx?_cons]
    simp [h2]
  | .nil, _ :: _, h => by simp [chkTgs] at h
  | .cons _ _, [], h => by simp [chkTgs] at h
  | .n _, _, h => by simp [chkTgs] at h
  | .tup _, _, h => by simp [chkTgs] at h
theorem pg_or {e : Expr} {t1 t2 : TG} (h1 : PG X e t1) (h2 : PG X e t2) : PG X e (fun v σ H Q => t1 v σ H Q ∨ t2 v σ H Q) := by
  refine ⟨fun pins s σ H v u Q I r hw => ?_⟩
  rcases hw with hw | hw
  · exact h1.run pins s σ H v u Q I r hw
  · exact h2.run pins s σ H v u Q I r hw
mutual
theorem g_ok (g : Good G F d c X) : ∀ (t : T) (e : Expr), chkTg c t e = true → PG X e (tvG X.K t)
  | .n i, e, h => by
    cases e with
    | Name x pos => exact g_n g h
    | _ => simp [chkTg] at h
  | .tup ts, e, h => by
    cases e with
    | Tuple es k pos =>
      simp only [chkTg] at h
      obtain ⟨l1, l2⟩ := chkTgs_len h (env := X.env)
      refine PG.weak (pg_or (pg_tup g.calm (gs_ok g ts es h) l1 l2) (pg_unl g.calm (gs_ok g ts es h) l1 l2)) fun v σ H Q ⟨mp, env, g, w, env1, sr, r, ha, k⟩ => ?_
      simp only [asg] at ha
      split at ha
      · rename_i xs
        obtain ⟨a, vs, rfl, f, r⟩ := r.tupI
        exact .inl ⟨a, vs, rfl, f.sq, by rw [← r.length, asgs_len ha], mp, env, g, xs, env1, sr, r, ha, fun σ' h1 h2 => k σ' h1 fun own ho => h2 own (by simpa only [tgIn] using ho)⟩
      · rename_i xs
        obtain ⟨a, vs, rfl, f, r⟩ := r.lstI
        exact .inr ⟨a, vs, rfl, f.sq, by rw [← r.length, asgs_len ha], mp, env, g, xs, env1, sr, r, ha, fun σ' h1 h2 => k σ' h1 fun own ho => h2 own (by simpa only [tgIn] using ho)⟩
      · cases ha
    | _ => simp [chkTg] at h
  | .nil, e, h => by simp [chkTg] at h
  | .cons _ _, e, h => by simp [chkTg] at h
theorem gs_ok (g : Good G F d c X) : ∀ (t : T) (es : List Expr), chkTgs c t es = true → PGs X es (tvGs X.K t)
  | .nil, es, h => by
    cases es with
    | nil =>
      refine PGs.weak pgs_nil fun v σ H Q ⟨mp, env, g, ws, env1, sr, r, ha, k⟩ => ?_
      cases ws with
      | nil =>
        simp only [asgs, Option.some.injEq] at ha
        subst ha
        simp only [RpL] at r
        exact ⟨r, k σ sr.1 fun _ _ => rfl⟩
      | cons _ _ => simp [asgs] at ha
    | cons _ _ => simp [chkTgs] at h
  | .cons t ts, es, h => by
    cases es with
    | nil => simp [chkTgs] at h
    | cons e es =>
      simp only [chkTgs, Bool.and_eq_true] at h
      refine PGs.weak (pgs_cons (g_ok g t e h.1.1) (gs_ok g ts es h.2) (by rw [assign_starEach h.1.2]; rfl)) fun v σ H Q ⟨mp, env, g, ws, env1, sr, r, ha, k⟩ => ?_
      cases ws with
      | nil => simp [asgs] at ha
      | cons w ws =>
        simp only [asgs, Option.bind_eq_some_iff] at ha
        obtain ⟨env2, h1, h2⟩ := ha
        simp only [RpL] at r
        obtain ⟨u, us, rfl, r1, r2⟩ := r
        refine ⟨u, us, rfl, mp, env, g, w, env2, sr, r1, h1, fun σ' e1 w1 => ?_⟩
        refine ⟨mp, env2, g, ws, env1, ⟨e1, sr.2⟩, r2, h2, fun σ2 e2 w2 => k σ2 e2 fun own ho => ?_⟩
        simp only [tgsIn, Bool.and_eq_true] at ho
        rw [w2 own ho.2, w1 own ho.1]
  | .n _, es, h => by simp [chkTgs] at h
  | .tup _, es, h => by simp [chkTgs] at h
end
end
end Z
namespace Z
open PySem PySem.Spec L2
open PyProof.Rows hiding St
section
variable {X : Cx} {G : Globs} {F : FSem} {d : Nat} {c : Ctx}
/-! ### comprehensions -/
theorem wipe_wipe (σ : St) : ∀ {own : List Nat}, wipe (wipe σ own) own = wipe σ own := fun {own} => by
  apply List.ext_getElem?
  intro j
  by_cases hm : j ∈ own
  · by_cases hj : j < σ.length
    · rw [wipe_in hm (by rw [wipe_length]; exact hj), wipe_in hm hj]
    · rw [List.getElem?_eq_none (by rw [wipe_length, wipe_length]; omega), List.getElem?_eq_none (by rw [wipe_length]; omega)]
  · rw [wipe_out hm]
theorem wipeE_length (env : Env) : ∀ own, (wipeE env own).length = env.length
  | [] => rfl
  | v :: vs => by unfold wipeE; rw [List.length_set, wipeE_length env vs]
theorem wipeE_some {env : Env} {i : Nat} {w : W} : ∀ {own : List Nat}, (wipeE env own)[i]? = some (some w) → env[i]? = some (some w) ∧ i ∉ own
  | [], h => ⟨h, by simp⟩
  | v :: vs, h => by
    unfold wipeE at h
    by_cases q : v = i
    · subst q
      by_cases hl : v < (wipeE env vs).length
      · rw [List.getElem?_set_self hl] at h; cases h
      · rw [List.getElem?_eq_none (by rw [List.length_set]; omega)] at h; cases h
    · rw [List.getElem?_set_ne q] at h
      obtain ⟨h1, h2⟩ := wipeE_some h
      exact ⟨h1, fun z => (List.mem_cons.mp z).elim (fun e => q e.symm) h2⟩
theorem EnvR.wipe {K : Fr6} {mp : M} {H : Hp} {env : Env} {σ : St} (h : EnvR K mp H env σ) (own : List Nat) : EnvR K mp H (wipeE env own) (L2.wipe σ own) := by
  refine ⟨by rw [wipeE_length, wipe_length, h.1], fun i w hw => ?_⟩
  obtain ⟨h1, h2⟩ := wipeE_some hw
  obtain ⟨u, h3, h4⟩ := h.2 i w h1
  exact ⟨u, by rw [wipe_out h2]; exact h3, h4⟩
/-- a step within, while D is hidden -/
theorem Ext.within {mp1 mp2 mp4 : M} {H1 H2 H5 : Hp} {D : Addr} (e : Ext mp1 H1 mp2 H2) (f : Ext (mp2.hide D) H2 mp4 H5) : Ext mp1 H1 ⟨mp4.ob, mp1.hd⟩ H5 ∧ mp4 = M.hide ⟨mp4.ob, mp1.hd⟩ D := by
  refine ⟨⟨e.pre.trans f.pre, fun a h => ?_, fun a o hn h => f.keep a o (e.nob h hn) (e.keep a o hn h), rfl⟩, ?_⟩
  · rcases f.freO a h with h1 | h1
    · exact e.freO a h1
    · by_cases hm : a ∈ mp1.ob
      · exact .inl hm
      · exact .inr (e.back hm h1)
  · have h1 : mp4.hd = D :: mp1.hd := by rw [f.hd, ← e.hd]; rfl
    obtain ⟨ob, hd⟩ := mp4
    simp only at h1
    subst h1
    rfl
theorem Ext.updN {mp1 mp2 : M} {H1 H2 : Hp} {D : Addr} {o : HO} (e : Ext mp1 H1 mp2 H2) (h : H1 D = none) : Ext mp1 H1 mp2 (upd H2 D o) :=
  ⟨e.pre, e.freO, fun a x hn q => by rw [upd_ne (ne_of_none q h)]; exact e.keep a x hn q, e.hd⟩
theorem Ext.e0hide {mp1 mp2 : M} {H1 H2 : Hp} {D : Addr} (e : Ext mp1 H1 mp2 H2) (h : H1 D = none) : Ext0 mp1 H1 (mp2.hide D) H2 :=
  ⟨e.pre, fun a q => by
    rcases q with q | q
    · exact e.e0.fre a (.inl q)
    · rcases List.mem_cons.mp q with q | q
      · right; rw [q]; exact h
      · exact e.e0.fre a (.inr q), e.e0.keep⟩
theorem drop_cons {α : Type} {xs : List α} {i : Nat} {w : α} (h : xs[i]? = some w) : xs.drop i = w :: xs.drop (i + 1) := by
  obtain ⟨hi, e⟩ := List.getElem?_eq_some_iff.mp h
  rw [List.drop_eq_getElem_cons hi, e]
theorem lc_read {own : List Nat} {t : T} {src ifs elt : E} (ht : tgIn own t = true) {σ : St} {H : Hp} {Q : VK} (h : tvN X.K F (.lc own t src ifs elt) σ H Q) :
    tLc (tvI X.K F src) (tvG X.K t) (tvT X.K F ifs) (tvE X.K F elt) own σ H Q := by
  obtain ⟨mp, env, g0, Q0, sr, hw, k⟩ := h
  simp only [wpN] at hw
  refine ⟨mp, env, g0, _, sr, hw, fun o xs g1 hq mp1 H1 J e1 s1 gv D hD => ?_⟩
  refine ⟨fun i m H2 => m = xs.length - i ∧ i ≤ xs.length ∧ ∃ mp2 g2 acc vs, Ext mp1 H1 mp2 H2 ∧ Sim X.K (mp2.hide D) g2 H2 ∧ H2 D = some (.lst vs) ∧ RpL X.K (mp2.hide D) H2 acc vs ∧ vs.length ≤ i ∧
      lcL t (wpT F ifs) (wpE F elt) (wipeE env own) o xs (xs.drop i) acc g2 Q0, ⟨xs.length, rfl, Nat.zero_le _, mp1, g1, [], [], .new hD, s1.hide hD, upd_same, .nil, Nat.le_refl _, hq⟩, ?_⟩
  rintro i m H2 ⟨rfl, hi, mp2, g2, acc, vs, e2, s2, hDv, ra, hvl, hl⟩
  have e0 := e2.e0hide hD
  by_cases hlt : i < xs.length
  · have hx : xs[i]? = some xs[i] := List.getElem?_eq_getElem hlt
    rw [drop_cons hx] at hl
    simp only [lcL] at hl
    obtain ⟨st, env1, hasg, hl⟩ := hl
    obtain ⟨go, yl⟩ := gv.go _ g2 H2 e0 s2 st i hlt
    refine .inr ⟨go, fun H' => ∃ mp2 g2 acc vs, Ext mp1 H1 mp2 H' ∧ Sim X.K (mp2.hide D) g2 H' ∧ H' D = some (.lst vs) ∧ RpL X.K (mp2.hide D) H' acc vs ∧ vs.length ≤ i + 1 ∧
      lcL t (wpT F ifs) (wpE F elt) (wipeE env own) o xs (xs.drop (i + 1)) acc g2 Q0, fun H' hN => ⟨xs.length - (i + 1), by omega, rfl, hlt, hN⟩, fun x H3 hy => ?_⟩
    obtain ⟨e3, s3, w, hw3, r3⟩ := yl x H3 hy
    rw [hx] at hw3
    cases hw3
    have erw : EnvR X.K (mp2.hide D) H3 (wipeE env own) (L2.wipe σ own) := by
      refine EnvR.wipe ?_ own
      refine ⟨sr.1.1, fun j w hj => ?_⟩
      obtain ⟨u, hu, ru⟩ := (sr.1.ext e1).2 j w hj
      exact ⟨u, hu, (ru.ext0 e0).ext e3⟩
    refine ⟨mp2.hide D, wipeE env own, g2, xs[i], env1, ⟨erw, s3⟩, r3, hasg, fun σ2 er2 wz => ⟨by rw [wz own ht, wipe_wipe], ?_⟩⟩
    refine ⟨mp2.hide D, env1, g2, _, ⟨er2, s3⟩, hl, fun b g3 hq3 mp3 H4 e4 s4 => ?_⟩
    have keepD : ∀ {mpa mpb : M} {Ha Hb : Hp} {ga : CH} {o : HO}, Ext mpa Ha mpb Hb → Sim X.K mpa ga Ha → D ∈ mpa.hd → Ha D = some o → Hb D = some o := fun e s hd h => e.keep D _ (s.hid D hd).2 h
    have hd2 : D ∈ (mp2.hide D).hd := List.mem_cons_self
    have hd3 : D ∈ mp3.hd := by rw [e4.hd]; exact hd2
    cases b with
    | true =>
      simp only [if_true] at hq3 ⊢
      refine ⟨mp3, env1, g3, _, ⟨er2.ext e4, s4⟩, hq3, fun wv g4 hq4 mp4 H5 u e5 s5 r5 => ?_⟩
      have eA := (e3.trans e4).trans e5
      obtain ⟨eB, eq4⟩ := e2.within eA
      have hD5 := keepD e5 s4 hd3 (keepD e4 s3 hd2 (keepD e3 s2 hd2 hDv))
      have hsz := gv.small
      refine ⟨vs, hD5, by omega, ⟨mp4.ob, mp1.hd⟩, g4, acc ++ [wv], vs ++ [u], eB.updN hD, ?_, upd_same, ?_, by rw [List.length_append, List.length_singleton]; omega, hq4⟩
      · rw [eq4] at s5
        exact s5.updHid
      · have r6 := (ra.ext eA).append (.cons r5 .nil)
        rw [eq4] at r6
        exact r6.ext0 .updHid
    | false =>
      simp only [Bool.false_eq_true, if_false] at hq3 ⊢
      have eA := e3.trans e4
      obtain ⟨eB, eq4⟩ := e2.within eA
      have hD4 := keepD e4 s3 hd2 (keepD e3 s2 hd2 hDv)
      refine ⟨⟨mp3.ob, mp1.hd⟩, g3, acc, vs, eB, by rw [← eq4]; exact s4, hD4, by rw [← eq4]; exact ra.ext eA, by omega, hq3⟩
  · have hi' : i = xs.length := by omega
    subst hi'
    rw [List.drop_length] at hl
    simp only [lcL] at hl
    have hsz := gv.small
    exact .inl ⟨gv.stop _ g2 H2 e0 s2 hl.1, k acc g2 hl.2 mp2 H2 D vs (e1.trans e2) s2 (e1.free s1 hD) hDv (by omega) ra⟩
theorem Good.blk (g : Good G F d c X) (s : Shared) (H : Hp) (scope : Scope) (cl : List (Str × Addr)) (C : Addr) (fp : List Addr) : Good G F d (blkCtx c scope) (X.blk s H scope (compEnvC scope cl C X.env) fp) :=
  ⟨g.facts, g.N, g.nd, by show relS scope X.env.scope = relS scope c.sc; rw [g.sc], g.calm, rfl, fun x h => h, g.room⟩
theorem ownOf_snd (N : List Str) (own : List Nat) : (ownOf N own).map (·.2) = own := by
  unfold ownOf
  rw [List.map_map]
  conv => rhs; rw [← List.map_id own]
  rfl
theorem n_lc (g : Good G F d c X) {own : List Nat} {t : T} {src ifs elt : E} {e tg it : Expr} {is : List Expr} {scope : Scope} {pos : Pos}
    (hb : blkC c.N c.sc scope (ownOf c.N own) = true) (hs : noSet it = true) (ht : tgIn own t = true) (hg : chkTg (blkCtx c scope) t tg = true)
    (hi : PI X tg it (tvI X.K F src)) (hts : ∀ X', Good G F d (blkCtx c scope) X' → X'.K = X.K → PTs X' is (tvT X.K F ifs)) (he : ∀ X', Good G F d (blkCtx c scope) X' → X'.K = X.K → PE X' e (tvE X.K F elt)) :
    PE X (.ListComp e [⟨tg, it, is, 0⟩] scope pos) (tvN X.K F (.lc own t src ifs elt)) := by
  have ok : BlkOk X.N X.env.scope scope (ownOf c.N own) := by rw [g.N, g.sc]; exact blkOk_by hb
  refine PE.weak (pe_lc (own := ownOf c.N own) (tt := tvT X.K F ifs) (te := tvE X.K F elt) (g := tvG X.K t) g.calm g.ndX hi ok (fun s H C cl fp => g_ok (g.blk s H scope cl C fp) t tg hg) (fun s H C cl fp => hts _ (g.blk s H scope cl C fp) rfl) (fun s H C cl fp => he _ (g.blk s H scope cl C fp) rfl) (noFold hs)) fun σ H Q q => ?_
  rw [ownOf_snd]
  exact lc_read ht q
theorem ps_lc (g : Good G F d c X) {own : List Nat} {t : T} {src ifs elt : E} {e tg it : Expr} {is : List Expr} {scope : Scope} {pos spos py : Pos} {i : Nat} {y : Str}
    (hy : c.N[i]? = some y) (hyl : c.sc.names.lookup y = some .local) (hk : c.sc.kind = .function) (hl : (py.line == pos.line) = true) (ha : (scope.names.any fun (n, k) => n == y && (k == .local || k == .cell)) = false)
    (hb : blkC c.N c.sc scope (ownOf c.N own) = true) (hs : noSet it = true) (ht : tgIn own t = true) (hg : chkTg (blkCtx c scope) t tg = true)
    (hi : PI X tg it (tvI X.K F src)) (hts : ∀ X', Good G F d (blkCtx c scope) X' → X'.K = X.K → PTs X' is (tvT X.K F ifs)) (he : ∀ X', Good G F d (blkCtx c scope) X' → X'.K = X.K → PE X' e (tvE X.K F elt)) :
    PS X (.Assign [.Name y py] (.ListComp e [⟨tg, it, is, 0⟩] scope pos) spos) (tAsg (tvN X.K F (.lc own t src ifs elt)) (gName i)) := by
  have ok : BlkOk X.N X.env.scope scope (ownOf c.N own) := by rw [g.N, g.sc]; exact blkOk_by hb
  refine PS.weak (ps_setLc (own := ownOf c.N own) (tt := tvT X.K F ifs) (te := tvE X.K F elt) (g := tvG X.K t) g.calm g.ndX (g.xN hy) (by rw [g.sc]; exact hyl)
    (sw_true (by rw [g.sc]; exact hk) (by rw [g.sc]; exact hyl) hl ha) hi ok (fun s H C cl fp => g_ok (g.blk s H scope cl C fp) t tg hg) (fun s H C cl fp => hts _ (g.blk s H scope cl C fp) rfl) (fun s H C cl fp => he _ (g.blk s H scope cl C fp) rfl) (noFold hs)) fun D σ H q => ?_
  show tLc _ _ _ _ _ σ H _
  rw [ownOf_snd]
  exact lc_read ht q
/-! ### {k: x, ..}[j] -/
/-- each of a row of terms, by itself -/
def PEs (X : Cx) (F : FSem) : E → List Expr → Prop
  | .nil, [] => True
  | .cons m ms, e :: es => PE X e (tvE X.K F m) ∧ PEs X F ms es
  | _, _ => False
def trsOf (K : Fr6) (F : FSem) : List Int → E → List (TE × TE)
  | k :: ks, .cons m ms => (tC (.int k), tvE K F m) :: trsOf K F ks ms
  | _, _ => []
theorem pps_of {pos : Pos} : ∀ {ks : List Int} {keys : List (Option Expr)} {es : E} {vals : List Expr}, keysI ks keys = true → PEs X F es vals → ks.length = vals.length → PPs X pos keys vals (trsOf X.K F ks es) ∧ keys.all (·.isSome) = true ∧ keys.length = vals.length
  | [], keys, es, vals, hk, hp, hl => by
    cases vals with
    | cons _ _ => cases hl
    | nil =>
      cases keys with
      | cons _ _ => cases hk
      | nil => exact ⟨by unfold trsOf; exact pps_nil, rfl, rfl⟩
  | k :: ks, keys, es, vals, hk, hp, hl => by
    cases vals with
    | nil => cases hl
    | cons v vals =>
      cases keys with
      | nil => cases hk
      | cons o keys =>
        cases o with
        | none => cases hk
        | some e =>
          cases e <;> try (cases hk)
          rename_i cc j p2
          cases es <;> try (exact False.elim hp)
          rename_i m ms
          simp only [keysI] at hk
          obtain ⟨h1, h2⟩ := Bool.and_eq_true_iff.mp hk
          obtain ⟨p1, p3⟩ := hp
          obtain ⟨q1, q2, q3⟩ := pps_of (pos := pos) h2 p3 (by simpa using hl)
          refine ⟨?_, by rw [List.all_cons, q2]; rfl, by rw [List.length_cons, List.length_cons, q3]⟩
          cases cc <;> simp only [constB] at h1 <;> try (cases h1)
          simp only [constB, decide_eq_true_eq] at h1
          subst h1
          exact pps_cons pe_int p1 q1
theorem pairs_run : ∀ {ks : List Int} {es : E} {vals : List Expr}, PEs X F es vals → ks.length = vals.length → ∀ {mp : M} {env : Env} {g : CH} {σ : St} {H : Hp} {QA : List W → CH → Prop} {R : List (V × V) → Hp → Prop}, SR X.K mp env g σ H → wpA F es env g QA →
    (∀ xs g', QA xs g' → ∀ mp' H' us, Ext mp H mp' H' → Sim X.K mp' g' H' → RpL X.K mp' H' xs us → ks.length = us.length → R ((ks.zip us).map fun q => (V.int q.1, q.2)) H') → tPairs (trsOf X.K F ks es) σ H R
  | [], es, vals, hp, hl, mp, env, g, σ, H, QA, R, sr, hw, k => by
    cases vals with
    | cons _ _ => cases hl
    | nil =>
      cases es <;> try (exact False.elim hp)
      simp only [wpA] at hw
      exact k [] g hw mp H [] .refl sr.2 .nil rfl
  | i :: ks, es, vals, hp, hl, mp, env, g, σ, H, QA, R, sr, hw, k => by
    cases vals with
    | nil => cases hl
    | cons v vals =>
      cases es <;> try (exact False.elim hp)
      rename_i m ms
      simp only [wpA] at hw
      refine ⟨mp, env, g, _, sr, hw, fun x g1 hq mp1 H1 u1 e1 s1 r1 => ?_⟩
      exact pairs_run hp.2 (by simpa using hl) (sr.ext e1 s1) hq fun xs g2 hq2 mp2 H2 us e2 s2 r2 hl2 => k (x :: xs) g2 hq2 mp2 H2 (u1 :: us) (e1.trans e2) s2 (.cons (r1.ext e2) r2) (by rw [List.length_cons, List.length_cons, hl2])
theorem mergeK_nd : ∀ {more kvs : List (Key × V)}, ((kvs ++ more).map (·.1)).Nodup → mergeK kvs more = kvs ++ more
  | [], kvs, _ => (List.append_nil kvs).symm
  | p :: r, kvs, h => by
    have e : putK kvs p.1 p.2 = kvs ++ [p] := by
      unfold putK
      rw [if_neg]
      intro z
      obtain ⟨q, hq, hq2⟩ := List.any_eq_true.mp z
      rw [List.map_append, List.nodup_append] at h
      exact h.2.2 q.1 (List.mem_map.mpr ⟨q, hq, rfl⟩) p.1 (by simp) (of_decide_eq_true hq2)
    show mergeK (putK kvs p.1 p.2) r = _
    rw [e, mergeK_nd (by rw [List.append_assoc]; exact h), List.append_assoc]; rfl
theorem sel_rp {K : Fr6} {mp : M} {H : Hp} {j : Int} {z : W} : ∀ {ks : List Int} {xs : List W} {us : List V}, selW ks xs (.int j) = some z → RpL K mp H xs us → ks.length = us.length →
    ∃ u, valV ((ks.zip us).map fun q => ((Sum.inl q.1 : Key), q.2)) (.inl j) = some u ∧ Rp K mp H z u
  | [], xs, us, e, _, _ => by cases xs <;> cases e
  | k :: ks, [], us, e, _, _ => by cases e
  | k :: ks, x :: xs, us, e, r, hl => by
    simp only [RpL] at r
    obtain ⟨u, us, rfl, h, tl⟩ := r
    simp only [selW] at e
    rw [List.zip_cons_cons, List.map_cons]
    split at e
    · rename_i e1
      cases e
      exact ⟨u, valV_pos (by rw [e1]), h⟩
    · rename_i e1
      obtain ⟨u2, h2, h3⟩ := sel_rp e tl (by simpa using hl)
      exact ⟨u2, by rw [valV_neg (fun z => e1 (Sum.inl.inj z))]; exact h2, h3⟩
theorem EnvR.ext0 {K : Fr6} {mp mp' : M} {H H' : Hp} {env : Env} {σ : St} (h : EnvR K mp H env σ) (e : Ext0 mp H mp' H') : EnvR K mp' H' env σ :=
  ⟨h.1, fun i w hi => let ⟨u, h1, h2⟩ := h.2 i w hi; ⟨u, h1, h2.ext0 e⟩⟩
theorem s_dsel (g : Good G F d c X) {ks : List Int} {es i : E} {keys : List (Option Expr)} {vals : List Expr} {y : Expr} {p1 pos : Pos} (hk : keysI ks keys = true) (h0 : ks ≠ [] ∧ ks.length ≤ 15 ∧ ks.Nodup ∧ ks.length = vals.length)
    (hp : PEs X F es vals) (hi : PE X y (tvE X.K F i)) (hn : noSlice y = true) : PE X (.Subscript (.Dict keys vals p1) y pos) (tvE X.K F (.dsel ks es i)) := by
  obtain ⟨h1, h2, h3, h4⟩ := h0
  obtain ⟨pp, q2, q3⟩ := pps_of (pos := p1) hk hp h4
  have hk0 : keys ≠ [] := fun e => by
    rw [e] at q3
    exact h1 (List.eq_nil_of_length_eq_zero (by rw [h4, ← q3]; rfl))
  refine PE.weak (pe_dget (hu1 g) (pe_disp pp q2 q3 hk0 (by omega)) hi (noSl_of hn)) fun σ H Q ⟨mp, env, g, Q0, sr, hw, k⟩ => ?_
  simp only [wpE] at hw
  intro p hpn
  have s0 := sr.2.hide (o := .dK []) hpn
  have sr0 : SR X.K (mp.hide p) env g σ (upd H p (.dK [])) := ⟨sr.1.ext0 (.hide hpn), s0⟩
  refine pairs_run hp h4 sr0 hw fun xs g2 hq mp2 H2 us e2 s2 r2 hl2 => ?_
  have np : p ∉ mp.ob := fun z => s0.hidden (.inl z)
  have hD : H2 p = some (.dK []) := e2.keep p _ np upd_same
  refine ⟨hD, (ks.zip us).map fun q => ((Sum.inl q.1 : Key), q.2), by rw [List.map_map]; rfl, by rw [List.length_map, List.length_zip]; omega, ?_⟩
  obtain ⟨eB, em⟩ := (Ext.new (o := .dK []) hpn).within e2
  have ev := sr0.1.ext e2
  rw [em] at s2 r2 ev
  have np2 : p ∉ mp2.ob := fun z => s2.hidden (.inl z)
  generalize hkv : ((ks.zip us).map fun q => ((Sum.inl q.1 : Key), q.2)) = kvs
  have s3 : Sim X.K (M.hide ⟨mp2.ob, mp.hd⟩ p) g2 (upd H2 p (.dK (mergeK [] kvs))) := s2.updHid
  have r3 : RpL X.K (M.hide ⟨mp2.ob, mp.hd⟩ p) (upd H2 p (.dK (mergeK [] kvs))) xs us := r2.ext0 .updHid
  refine ⟨M.hide ⟨mp2.ob, mp.hd⟩ p, env, g2, _, ⟨ev.ext0 .updHid, s3⟩, hq, fun y g4 hq4 mp4 H4 u4 e4 s4 r4 => ?_⟩
  obtain ⟨z, hz, hq5⟩ := hq4
  have hy : ∃ j, y = .int j := by
    cases y with
    | int j => exact ⟨j, rfl⟩
    | _ => cases ks <;> cases xs <;> cases hz
  obtain ⟨j, rfl⟩ := hy
  have rI : u4 = .int j := r4.intI
  obtain ⟨v, hv, rv⟩ := sel_rp hz (r3.ext e4) hl2
  rw [hkv] at hv
  obtain ⟨eC, em4⟩ := (eB.updN (o := .dK (mergeK [] kvs)) hpn).within e4
  have hD4 : H4 p = some (.dK (mergeK [] kvs)) := e4.keep p _ np2 upd_same
  rw [em4] at s4 rv
  refine ⟨p, v, rfl, .inl ⟨_, .inl j, .of hD4, by rw [rI]; rfl, ?_⟩, k z g4 hq5 ⟨mp4.ob, mp.hd⟩ H4 v eC s4.unhide rv.unhide⟩
  rw [mergeK_nd, List.nil_append, hv]
  rw [List.nil_append, ← hkv, List.map_map]
  have e5 : (ks.zip us).map ((fun p : Key × V => p.1) ∘ fun q => ((Sum.inl q.1 : Key), q.2)) = ks.map Sum.inl := by
    rw [show ((fun p : Key × V => p.1) ∘ fun q : Int × V => ((Sum.inl q.1 : Key), q.2)) = Sum.inl ∘ Prod.fst from rfl, ← List.map_map, List.map_fst_zip (by omega)]
  rw [e5]
  exact List.Pairwise.map _ (fun a b h e => h (Sum.inl.inj e)) h3
/-! ### every term -/
structure Snd (G : Globs) (F : FSem) (d : Nat) (m : E) : Prop where
  e : ∀ (c : Ctx) (X : Cx) (e : Expr), Good G F d c X → chkE G m c e = true → PE X e (tvE X.K F m)
  a : ∀ (c : Ctx) (X : Cx) (es : List Expr), Good G F d c X → chkA G m c es = true → PA X es (tvA X.K F m) ∧ es.all noStar = true ∧ (es = [] → m = .nil) ∧ PEs X F m es
  t : ∀ (c : Ctx) (X : Cx) (e : Expr), Good G F d c X → chkT G m c e = true → PT X e (tvT X.K F m)
  w : ∀ (c : Ctx) (X : Cx) (op : PySem.BoolOp) (es : List Expr) (pos : Pos), Good G F d c X → chkT G m c (.BoolOp op es pos) = true → PW X (.BoolOp op es pos) (tvT X.K F m)
  ts : ∀ (c : Ctx) (X : Cx) (es : List Expr), Good G F d c X → chkTs G m c es = true → PTs X es (tvT X.K F m)
  p : ∀ (c : Ctx) (X : Cx) (e : Option Expr), Good G F d c X → chkP G m c e = true → PO X e (tvP X.K F m)
  n : ∀ (c : Ctx) (X : Cx) (e : Expr), Good G F d c X → chkN G m c e = true → PE X e (tvN X.K F m)
  i : ∀ (c : Ctx) (X : Cx) (tg e : Expr), Good G F d c X → chkI G m c tg e = true → PI X tg e (tvI X.K F m)
theorem no_ {b : Bool} {P : Prop} (h : b = true) (e : b = false := by rfl) : P := by rw [e] at h; cases h
theorem Snd.mk1 {m : E} (e : ∀ (c : Ctx) (X : Cx) (e : Expr), Good G F d c X → chkE G m c e = true → PE X e (tvE X.K F m))
    (a : ∀ c es, chkA G m c es = false := by intros; rfl) (t : ∀ c e, chkT G m c e = false := by intros; rfl) (ts : ∀ c es, chkTs G m c es = false := by intros; rfl) (p : ∀ c e, chkP G m c e = false := by intros; rfl)
    (n : ∀ c e, chkN G m c e = false := by intros; rfl) (i : ∀ c t e, chkI G m c t e = false := by intros; rfl) : Snd G F d m :=
  ⟨e, fun c _ es _ h => no_ h (a c es), fun c _ e _ h => no_ h (t c e), fun c _ op es pos _ h => no_ h (t c _), fun c _ es _ h => no_ h (ts c es), fun c _ e _ h => no_ h (p c e), fun c _ e _ h => no_ h (n c e), fun c _ tg e _ h => no_ h (i c tg e)⟩
theorem Snd.mkN {m : E} (n : ∀ (c : Ctx) (X : Cx) (e : Expr), Good G F d c X → chkN G m c e = true → PE X e (tvN X.K F m))
    (e : ∀ c e, chkE G m c e = false := by intros; rfl) (a : ∀ c es, chkA G m c es = false := by intros; rfl) (t : ∀ c e, chkT G m c e = false := by intros; rfl) (ts : ∀ c es, chkTs G m c es = false := by intros; rfl) (p : ∀ c e, chkP G m c e = false := by intros; rfl)
    (i : ∀ c t e, chkI G m c t e = false := by intros; rfl) : Snd G F d m :=
  ⟨fun c _ x _ h => no_ h (e c x), fun c _ es _ h => no_ h (a c es), fun c _ e _ h => no_ h (t c e), fun c _ op es pos _ h => no_ h (t c _), fun c _ es _ h => no_ h (ts c es), fun c _ e _ h => no_ h (p c e), n, fun c _ tg e _ h => no_ h (i c tg e)⟩
theorem Snd.mkI {m : E} (i : ∀ (c : Ctx) (X : Cx) (tg e : Expr), Good G F d c X → chkI G m c tg e = true → PI X tg e (tvI X.K F m))
    (e : ∀ c e, chkE G m c e = false := by intros; rfl) (a : ∀ c es, chkA G m c es = false := by intros; rfl) (t : ∀ c e, chkT G m c e = false := by intros; rfl) (ts : ∀ c es, chkTs G m c es = false := by intros; rfl) (p : ∀ c e, chkP G m c e = false := by intros; rfl)
    (n : ∀ c e, chkN G m c e = false := by intros; rfl) : Snd G F d m :=
  ⟨fun c _ x _ h => no_ h (e c x), fun c _ es _ h => no_ h (a c es), fun c _ e _ h => no_ h (t c e), fun c _ op es pos _ h => no_ h (t c _), fun c _ es _ h => no_ h (ts c es), fun c _ e _ h => no_ h (p c e), fun c _ e _ h => no_ h (n c e), i⟩
theorem and2 {a b : Bool} (h : (a && b) = true) : a = true ∧ b = true := Bool.and_eq_true_iff.mp h
theorem and3 {a b c : Bool} (h : (a && b && c) = true) : a = true ∧ b = true ∧ c = true := let ⟨h1, h2⟩ := and2 h; let ⟨h3, h4⟩ := and2 h1; ⟨h3, h4, h2⟩
theorem and4 {a b c d : Bool} (h : (a && b && c && d) = true) : a = true ∧ b = true ∧ c = true ∧ d = true := let ⟨h1, h2⟩ := and2 h; let ⟨h3, h4, h5⟩ := and3 h1; ⟨h3, h4, h5, h2⟩
theorem hu65 (g : Good G F d c X) : X.A.units + 65 < cLine := by have := g.room.un; omega
theorem snd : ∀ m : E, Snd G F d m
  | .v i => .mk1 fun c X e g h => by
    cases e <;> try exact no_ h
    exact s_v g h
  | .k w => .mk1 fun c X e g h => by
    cases e <;> try (cases w <;> exact no_ h)
    exact s_k h
  | .gl w n => .mk1 fun c X e g h => by
    cases e <;> try exact no_ h
    exact s_gl g h
  | .bin op a b => .mk1 fun c X e g h => by
    cases e <;> try exact no_ h
    simp only [chkE] at h
    obtain ⟨h1, h2, h3⟩ := and3 h
    exact s_bin ((snd a).e c X _ g h2) ((snd b).e c X _ g h3) h1
  | .neg a => .mk1 fun c X e g h => by
    cases e <;> try exact no_ h
    rename_i op x pos
    cases op <;> try exact no_ h
    simp only [chkE] at h
    exact s_neg ((snd a).e c X _ g h)
  | .nt a => ⟨fun c X e g h => by
      cases e <;> try exact no_ h
      rename_i op x pos
      cases op <;> try exact no_ h
      simp only [chkE] at h
      exact s_nt ((snd a).e c X _ g h), fun c _ es _ h => no_ h, fun c X e g h => by
      cases e <;> try exact no_ h
      rename_i op x pos
      cases op <;> try exact no_ h
      simp only [chkT] at h
      exact t_nt ((snd a).t c X _ g h), fun c _ op es pos _ h => no_ h, fun c _ es _ h => no_ h, fun c _ e _ h => no_ h, fun c _ e _ h => no_ h, fun c _ tg e _ h => no_ h⟩
  | .cmp op a b => ⟨fun c X e g h => by
      cases e <;> try exact no_ h
      rename_i l ops rs pos
      cases ops with
      | nil => exact no_ h
      | cons o os =>
        cases os with
        | cons _ _ => exact no_ h
        | nil =>
          cases rs with
          | nil => exact no_ h
          | cons r rs =>
            cases rs with
            | cons _ _ => exact no_ h
            | nil =>
              simp only [chkE] at h
              obtain ⟨h1, h2, h3, h4⟩ := and4 h
              exact s_cmp (hu65 g) ((snd a).e c X _ g h3) ((snd b).e c X _ g h4) h1 h2, fun c _ es _ h => no_ h, fun c X e g h => by
      cases e <;> try exact no_ h
      rename_i l ops rs pos
      cases ops with
      | nil => exact no_ h
      | cons o os =>
        cases os with
        | cons _ _ => exact no_ h
        | nil =>
          cases rs with
          | nil => exact no_ h
          | cons r rs =>
            cases rs with
            | cons _ _ => exact no_ h
            | nil =>
              simp only [chkT] at h
              obtain ⟨h1, h2, h3, h4⟩ := and4 h
              exact s_cmpT (hu65 g) ((snd a).e c X _ g h3) ((snd b).e c X _ g h4) h1 h2, fun c _ op es pos _ h => no_ h, fun c _ es _ h => no_ h, fun c _ e _ h => no_ h, fun c _ e _ h => no_ h, fun c _ tg e _ h => no_ h⟩
  | .and a b => by
      have W : ∀ (c : Ctx) (X : Cx) (op : PySem.BoolOp) (es : List Expr) (pos : Pos), Good G F d c X → chkT G (.and a b) c (.BoolOp op es pos) = true → PW X (.BoolOp op es pos) (tvT X.K F (.and a b)) := fun c X op es pos g h => by
        cases op <;> try exact no_ h
        cases es with
        | nil => exact no_ h
        | cons x es =>
          cases es with
          | nil => exact no_ h
          | cons y rest =>
            simp only [chkT] at h
            obtain ⟨h1, h2⟩ := and2 h
            refine t_and ((snd a).t c X _ g h1) ?_
            cases rest with
            | nil => exact pw_and1 ((snd b).t c X _ g h2)
            | cons z zs => exact (snd b).w c X _ _ _ g h2
      exact ⟨fun c X e g h => by
        cases e <;> try exact no_ h
        rename_i op es pos
        cases op <;> try exact no_ h
        cases es with
        | nil => exact no_ h
        | cons x es =>
          cases es with
          | nil => exact no_ h
          | cons y rest =>
            simp only [chkE] at h
            obtain ⟨h1, h2⟩ := and2 h
            refine s_and ((snd a).e c X _ g h1) ?_
            cases rest with
            | nil => exact pe_one ((snd b).e c X _ g h2)
            | cons z zs => exact (snd b).e c X _ g h2, fun c _ es _ h => no_ h, fun c X e g h => by
        cases e <;> try exact no_ h
        exact (W c X _ _ _ g h).pt, W, fun c _ es _ h => no_ h, fun c _ e _ h => no_ h, fun c _ e _ h => no_ h, fun c _ tg e _ h => no_ h⟩
  | .or a b => by
      have W : ∀ (c : Ctx) (X : Cx) (op : PySem.BoolOp) (es : List Expr) (pos : Pos), Good G F d c X → chkT G (.or a b) c (.BoolOp op es pos) = true → PW X (.BoolOp op es pos) (tvT X.K F (.or a b)) := fun c X op es pos g h => by
        cases op <;> try exact no_ h
        cases es with
        | nil => exact no_ h
        | cons x es =>
          cases es with
          | nil => exact no_ h
          | cons y rest =>
            simp only [chkT] at h
            obtain ⟨h1, h2⟩ := and2 h
            refine t_or ((snd a).t c X _ g h1) ?_
            cases rest with
            | nil => exact pw_or1 ((snd b).t c X _ g h2)
            | cons z zs => exact (snd b).w c X _ _ _ g h2
      exact ⟨fun c X e g h => by
        cases e <;> try exact no_ h
        rename_i op es pos
        cases op <;> try exact no_ h
        cases es with
        | nil => exact no_ h
        | cons x es =>
          cases es with
          | nil => exact no_ h
          | cons y rest =>
            simp only [chkE] at h
            obtain ⟨h1, h2⟩ := and2 h
            refine s_or ((snd a).e c X _ g h1) ?_
            cases rest with
            | nil => exact pe_one ((snd b).e c X _ g h2)
            | cons z zs => exact (snd b).e c X _ g h2, fun c _ es _ h => no_ h, fun c X e g h => by
        cases e <;> try exact no_ h
        exact (W c X _ _ _ g h).pt, W, fun c _ es _ h => no_ h, fun c _ e _ h => no_ h, fun c _ e _ h => no_ h, fun c _ tg e _ h => no_ h⟩
  | .ite t a b => .mk1 fun c X e g h => by
    cases e <;> try exact no_ h
    simp only [chkE] at h
    obtain ⟨h1, h2, h3⟩ := and3 h
    exact s_ite ((snd t).t c X _ g h1) ((snd a).e c X _ g h2) ((snd b).e c X _ g h3)
  | .tv a => ⟨fun c _ e _ h => no_ h, fun c _ es _ h => no_ h, fun c X e g h => by
      simp only [chkT] at h
      obtain ⟨h1, h2⟩ := and2 h
      exact t_tv ((snd a).e c X _ g h2) h1, fun c X op es pos g h => by
      simp only [chkT] at h
      exact no_ (and2 h).1, fun c _ es _ h => no_ h, fun c _ e _ h => no_ h, fun c _ e _ h => no_ h, fun c _ tg e _ h => no_ h⟩
  | .tup es => .mk1 fun c X e g h => by
    cases e <;> try exact no_ h
    simp only [chkE] at h
    exact s_tup ((snd es).a c X _ g h).1
  | .nil => ⟨fun c _ e _ h => no_ h, fun c X es g h => by
      cases es with
      | nil => exact ⟨a_nil, rfl, fun _ => rfl, trivial⟩
      | cons _ _ => exact no_ h, fun c _ e _ h => no_ h, fun c _ op es pos _ h => no_ h, fun c X es g h => by
      cases es with
      | nil => exact ts_nil
      | cons _ _ => exact no_ h, fun c _ e _ h => no_ h, fun c _ e _ h => no_ h, fun c _ tg e _ h => no_ h⟩
  | .cons a r => ⟨fun c _ e _ h => no_ h, fun c X es g h => by
      cases es with
      | nil => exact no_ h
      | cons x xs =>
        simp only [chkA] at h
        obtain ⟨h1, h2, h3⟩ := and3 h
        obtain ⟨p1, p2, _, p4⟩ := (snd r).a c X _ g h3
        exact ⟨a_cons ((snd a).e c X _ g h1) p1 h2, by rw [List.all_cons, h2, p2]; rfl, (fun z => nomatch z), (snd a).e c X _ g h1, p4⟩, fun c _ e _ h => no_ h, fun c _ op es pos _ h => no_ h, fun c X es g h => by
      cases es with
      | nil => exact no_ h
      | cons x xs =>
        cases xs with
        | nil =>
          simp only [chkTs] at h
          exact ts_one ((snd a).t c X _ g h)
        | cons _ _ => exact no_ h, fun c X e g h => by
      cases e with
      | none => exact no_ h
      | some x =>
        simp only [chkP] at h
        exact p_some ((snd a).e c X _ g h), fun c _ e _ h => no_ h, fun c _ tg e _ h => no_ h⟩
  | .lst es => .mkN fun c X e g h => by
    cases e <;> try exact no_ h
    simp only [chkN] at h
    exact n_lst ((snd es).a c X _ g h).1
  | .mk a => .mk1 fun c X e g h => by
    simp only [chkE] at h
    exact s_mk ((snd a).n c X _ g h)
  | .fz a => .mk1 fun c X e g h => by
    simp only [chkE] at h
    exact s_fz ((snd a).n c X _ g h)
  | .lcat a b => .mkN fun c X e g h => by
    cases e <;> try exact no_ h
    rename_i l op r pos
    cases op <;> try exact no_ h
    simp only [chkN] at h
    obtain ⟨h1, h2⟩ := and2 h
    exact n_lcat ((snd a).e c X _ g h1) ((snd b).e c X _ g h2)
  | .lrep a b => .mkN fun c X e g h => by
    cases e <;> try exact no_ h
    rename_i l op r pos
    cases op <;> try exact no_ h
    simp only [chkN] at h
    obtain ⟨h1, h2⟩ := and2 h
    exact n_lrep ((snd a).e c X _ g h1) ((snd b).e c X _ g h2)
  | .ix a i => .mk1 fun c X e g h => by
    cases e <;> try exact no_ h
    simp only [chkE] at h
    obtain ⟨h1, h2, h3⟩ := and3 h
    exact s_ix ((snd a).e c X _ g h1) ((snd i).e c X _ g h2) h3
  | .sl a lo hi => .mk1 fun c X e g h => by
    cases e <;> try exact no_ h
    rename_i x s pos
    cases s <;> try exact no_ h
    rename_i l u st p2
    cases st <;> try exact no_ h
    simp only [chkE] at h
    obtain ⟨h1, h2, h3⟩ := and3 h
    exact s_sl ((snd a).e c X _ g h1) ((snd lo).p c X _ g h2) ((snd hi).p c X _ g h3)
  | .lsl a lo hi => .mkN fun c X e g h => by
    cases e <;> try exact no_ h
    rename_i x s pos
    cases s <;> try exact no_ h
    rename_i l u st p2
    cases st <;> try exact no_ h
    simp only [chkN] at h
    obtain ⟨h1, h2, h3⟩ := and3 h
    exact n_lsl ((snd a).e c X _ g h1) ((snd lo).p c X _ g h2) ((snd hi).p c X _ g h3)
  | .nopart => ⟨fun c _ e _ h => no_ h, fun c _ es _ h => no_ h, fun c _ e _ h => no_ h, fun c _ op es pos _ h => no_ h, fun c _ es _ h => no_ h, fun c X e g h => by
      cases e with
      | none => exact p_none
      | some _ => exact no_ h, fun c _ e _ h => no_ h, fun c _ tg e _ h => no_ h⟩
  | .call f es => .mk1 fun c X e g h => by
    cases e <;> try exact no_ h
    rename_i fn xs kw pos
    cases fn <;> try exact no_ h
    cases kw <;> try exact no_ h
    have h' := h
    simp only [chkE] at h'
    obtain ⟨p1, p2, p3, _⟩ := (snd es).a c X _ g (and2 h').2
    exact s_call g h p1 p2 p3
  | .u1 op a => .mk1 fun c X e g h => by
    cases e <;> try exact no_ h
    rename_i fn xs kw pos
    cases fn <;> try exact no_ h
    cases xs with
    | nil => exact no_ h
    | cons y ys =>
      cases ys with
      | cons _ _ => exact no_ h
      | nil =>
        cases kw <;> try exact no_ h
        have h' := h
        simp only [chkE] at h'
        exact s_u1 g h ((snd a).e c X _ g (and3 h').2.1)
  | .u2 op a b => .mk1 fun c X e g h => by
    cases e <;> try exact no_ h
    rename_i fn xs kw pos
    cases fn <;> try exact no_ h
    cases xs with
    | nil => exact no_ h
    | cons y ys =>
      cases ys with
      | nil => exact no_ h
      | cons z zs =>
        cases zs with
        | cons _ _ => exact no_ h
        | nil =>
          cases kw <;> try exact no_ h
          have h' := h
          simp only [chkE] at h'
          obtain ⟨h1, h2⟩ := and2 h'
          obtain ⟨h3, h4⟩ := and2 h1
          exact s_u2 g h ((snd a).e c X _ g (and3 h3).2.1) ((snd b).e c X _ g h4)
  | .n1 op a => .mkN fun c X e g h => by
    cases e <;> try (cases op <;> exact no_ h)
    rename_i fn xs kw pos
    cases fn <;> try (cases op <;> exact no_ h)
    cases xs with
    | nil => cases op <;> exact no_ h
    | cons y ys =>
      cases ys with
      | cons _ _ => cases op <;> exact no_ h
      | nil =>
        cases kw <;> try (cases op <;> exact no_ h)
        simp only [chkN] at h
        obtain ⟨h1, h2, h3⟩ := and3 h
        cases op with
        | list => exact n_list g h1 h3 ((snd a).e c X _ g h2)
        | sorted => exact n_sorted g h1 h3 ((snd a).e c X _ g h2)
        | sortedP => exact n_sortedP g h1 h3 ((snd a).e c X _ g h2)
  | .isi a t => .mk1 fun c X e g h => by
    cases e <;> try exact no_ h
    rename_i fn xs kw pos
    cases fn <;> try exact no_ h
    cases xs with
    | nil => exact no_ h
    | cons y ys =>
      cases ys with
      | nil => exact no_ h
      | cons z zs =>
        cases zs with
        | cons _ _ => cases z <;> exact no_ h
        | nil =>
          cases z <;> try exact no_ h
          cases kw <;> try exact no_ h
          have h' := h
          simp only [chkE] at h'
          exact s_isi g h ((snd a).e c X _ g (and4 h').2.2.1)
  | .app o a => .mk1 fun c X e g h => by
    cases e <;> try exact no_ h
    rename_i fn xs kw pos
    cases fn <;> try exact no_ h
    cases xs with
    | nil => exact no_ h
    | cons y ys =>
      cases ys with
      | cons _ _ => exact no_ h
      | nil =>
        cases kw <;> try exact no_ h
        have h' := h
        simp only [chkE] at h'
        obtain ⟨h1, h2, h3⟩ := and3 h'
        exact s_app g h ((snd o).e c X _ g (and2 h1).2) ((snd a).e c X _ g h2)
  | .ext o a => .mk1 fun c X e g h => by
    cases e <;> try exact no_ h
    rename_i fn xs kw pos
    cases fn <;> try exact no_ h
    cases xs with
    | nil => exact no_ h
    | cons y ys =>
      cases ys with
      | cons _ _ => exact no_ h
      | nil =>
        cases kw <;> try exact no_ h
        have h' := h
        simp only [chkE] at h'
        obtain ⟨h1, h2, h3⟩ := and3 h'
        exact s_ext g h ((snd o).e c X _ g (and2 h1).2) ((snd a).e c X _ g h2)
  | .dsel ks es i => .mk1 fun c X e g h => by
    cases e <;> try exact no_ h
    rename_i o y pos
    cases o <;> try exact no_ h
    have h' := h
    simp only [chkE] at h'
    obtain ⟨h1, h2⟩ := and2 h'
    obtain ⟨h3, h4⟩ := and2 h1
    obtain ⟨h5, h6⟩ := and2 h2
    obtain ⟨h7, h8⟩ := and2 h6
    exact s_dsel g h3 (of_decide_eq_true h4) ((snd es).a c X _ g h5).2.2.2 ((snd i).e c X _ g h7) h8
  | .kdx w n i => .mk1 fun c X e g h => by
    cases e <;> try exact no_ h
    rename_i o y pos
    cases o <;> try exact no_ h
    have h' := h
    simp only [chkE] at h'
    exact s_kdx g h ((snd i).e c X _ g (and2 (and2 h').2).1)
  | .m1 op o a => .mk1 fun c X e g h => by
    cases e <;> try exact no_ h
    rename_i fn xs kw pos
    cases fn <;> try exact no_ h
    cases xs with
    | nil => exact no_ h
    | cons y ys =>
      cases ys with
      | cons _ _ => exact no_ h
      | nil =>
        cases kw <;> try exact no_ h
        have h' := h
        simp only [chkE] at h'
        obtain ⟨h1, h2, h3⟩ := and3 h'
        exact s_m1 g h ((snd o).e c X _ g (and2 h1).2) ((snd a).e c X _ g h2)
  | .pop o => .mk1 fun c X e g h => by
    cases e <;> try exact no_ h
    rename_i fn xs kw pos
    cases fn <;> try exact no_ h
    cases xs with
    | cons _ _ => exact no_ h
    | nil =>
      cases kw <;> try exact no_ h
      have h' := h
      simp only [chkE] at h'
      exact s_pop g h ((snd o).e c X _ g (and4 h').2.2.2)
  | .popAt o a => .mk1 fun c X e g h => by
    cases e <;> try exact no_ h
    rename_i fn xs kw pos
    cases fn <;> try exact no_ h
    cases xs with
    | nil => exact no_ h
    | cons y ys =>
      cases ys with
      | cons _ _ => exact no_ h
      | nil =>
        cases kw <;> try exact no_ h
        have h' := h
        simp only [chkE] at h'
        obtain ⟨h1, h2, h3⟩ := and3 h'
        exact s_popAt g h ((snd o).e c X _ g (and2 h1).2) ((snd a).e c X _ g h2)
  | .lc own t src ifs elt => .mkN fun c X e g h => by
    cases e <;> try exact no_ h
    rename_i el gs scope pos
    cases gs with
    | nil => exact no_ h
    | cons g0 gs =>
      obtain ⟨tg, it, is, as⟩ := g0
      cases gs with
      | cons _ _ => exact no_ h (by cases as with | ofNat n => cases n <;> rfl | negSucc n => rfl)
      | nil =>
        cases as with
        | negSucc n => exact no_ h
        | ofNat n =>
          cases n with
          | succ n => exact no_ h
          | zero =>
            have h' : (blkC c.N c.sc scope (ownOf c.N own) && noSet it && chkI G src c tg it && tgIn own t && chkTg (blkCtx c scope) t tg && chkTs G ifs (blkCtx c scope) is && chkE G elt (blkCtx c scope) el) = true := h
            obtain ⟨h1, h7⟩ := and2 h'
            obtain ⟨h1, h6⟩ := and2 h1
            obtain ⟨h1, h5⟩ := and2 h1
            obtain ⟨h1, h2, h3, h4⟩ := and4 h1
            exact n_lc g h1 h2 h4 h5 ((snd src).i c X tg it g h3) (fun X' g' e => by rw [← e]; exact (snd ifs).ts _ X' _ g' h6) (fun X' g' e => by rw [← e]; exact (snd elt).e _ X' _ g' h7)
  | .sset a => .mkN fun c X e g h => by
    cases e <;> try exact no_ h
    rename_i fn xs kw pos
    cases fn <;> try exact no_ h
    cases xs with
    | nil => exact no_ h
    | cons z zs =>
      cases z <;> try (cases zs <;> exact no_ h)
      rename_i fn2 ys kw2 pos2
      cases fn2 <;> try (cases zs <;> exact no_ h)
      cases ys with
      | nil => cases zs <;> exact no_ h
      | cons y ys =>
        cases ys with
        | cons _ _ => cases zs <;> exact no_ h
        | nil =>
          cases kw2 <;> try (cases zs <;> exact no_ h)
          cases zs with
          | cons _ _ => exact no_ h
          | nil =>
            cases kw <;> try exact no_ h
            simp only [chkN] at h
            obtain ⟨h1, h2, h3, h4⟩ := and4 h
            exact n_sset g h1 h2 h4 ((snd a).e c X _ g h3)
  | .lrng1 a => .mkN fun c X e g h => by
    cases e <;> try exact no_ h
    rename_i fn xs kw pos
    cases fn <;> try exact no_ h
    cases xs with
    | nil => exact no_ h
    | cons z zs =>
      cases z <;> try (cases zs <;> exact no_ h)
      rename_i fn2 ys kw2 pos2
      cases fn2 <;> try (cases zs <;> exact no_ h)
      cases ys with
      | nil => cases zs <;> exact no_ h
      | cons y ys =>
        cases ys with
        | cons _ _ => cases zs <;> exact no_ h
        | nil =>
          cases kw2 <;> try (cases zs <;> exact no_ h)
          cases zs with
          | cons _ _ => exact no_ h
          | nil =>
            cases kw <;> try exact no_ h
            simp only [chkN] at h
            obtain ⟨h1, h2, h3, h4⟩ := and4 h
            exact n_lrng1 g h1 h2 h4 ((snd a).e c X _ g h3)
  | .lrng2 a b => .mkN fun c X e g h => by
    cases e <;> try exact no_ h
    rename_i fn xs kw pos
    cases fn <;> try exact no_ h
    cases xs with
    | nil => exact no_ h
    | cons z zs =>
      cases z <;> try (cases zs <;> exact no_ h)
      rename_i fn2 ys kw2 pos2
      cases fn2 <;> try (cases zs <;> exact no_ h)
      cases ys with
      | nil => cases zs <;> exact no_ h
      | cons y ys =>
        cases ys with
        | nil => cases zs <;> exact no_ h
        | cons y2 ys =>
          cases ys with
          | cons _ _ => cases zs <;> exact no_ h
          | nil =>
            cases kw2 <;> try (cases zs <;> exact no_ h)
            cases zs with
            | cons _ _ => exact no_ h
            | nil =>
              cases kw <;> try exact no_ h
              simp only [chkN] at h
              obtain ⟨h1, h6⟩ := and2 h
              obtain ⟨h1, h5⟩ := and2 h1
              obtain ⟨h1, h2, h3, h4⟩ := and4 h1
              exact n_lrng2 g h1 h2 h4 h6 ((snd a).e c X _ g h3) ((snd b).e c X _ g h5)
  | .dnew => .mk1 fun c X e g h => by
    cases e <;> try exact no_ h
    rename_i ks vs pos
    cases ks with
    | cons _ _ => exact no_ h
    | nil =>
      cases vs with
      | cons _ _ => exact no_ h
      | nil => exact s_dnew
  | .dof a => .mk1 fun c X e g h => by
    cases e <;> try exact no_ h
    rename_i fn xs kw pos
    cases fn <;> try exact no_ h
    cases xs with
    | nil => exact no_ h
    | cons y ys =>
      cases ys with
      | cons _ _ => exact no_ h
      | nil =>
        cases kw <;> try exact no_ h
        simp only [chkE] at h
        obtain ⟨h1, h2, h3⟩ := and3 h
        exact s_dof g h1 h3 ((snd a).e c X _ g h2)
  | .dix o i => .mk1 fun c X e g h => by
    cases e <;> try exact no_ h
    simp only [chkE] at h
    obtain ⟨h1, h2, h3⟩ := and3 h
    exact s_dix g ((snd o).e c X _ g h1) ((snd i).e c X _ g h2) h3
  | .din neg a b => ⟨fun c X e g h => by
      cases e <;> try exact no_ h
      rename_i l ops rs pos
      cases ops with
      | nil => exact no_ h
      | cons o os =>
        cases os with
        | cons _ _ => exact no_ h
        | nil =>
          cases rs with
          | nil => exact no_ h
          | cons r rs =>
            cases rs with
            | cons _ _ => exact no_ h
            | nil =>
              simp only [chkE] at h
              obtain ⟨h1, h2, h3, h4⟩ := and4 h
              exact s_din g ((snd a).e c X _ g h3) ((snd b).e c X _ g h4) h1 h2, fun c _ es _ h => no_ h, fun c X e g h => by
      cases e <;> try exact no_ h
      rename_i l ops rs pos
      cases ops with
      | nil => exact no_ h
      | cons o os =>
        cases os with
        | cons _ _ => exact no_ h
        | nil =>
          cases rs with
          | nil => exact no_ h
          | cons r rs =>
            cases rs with
            | cons _ _ => exact no_ h
            | nil =>
              simp only [chkT] at h
              obtain ⟨h1, h2, h3, h4⟩ := and4 h
              exact s_dinT g ((snd a).e c X _ g h3) ((snd b).e c X _ g h4) h1 h2, fun c _ op es pos _ h => no_ h, fun c _ es _ h => no_ h, fun c _ e _ h => no_ h, fun c _ e _ h => no_ h, fun c _ tg e _ h => no_ h⟩
  | .dget o a b => .mk1 fun c X e g h => by
    cases e <;> try exact no_ h
    rename_i fn xs kw pos
    cases fn <;> try exact no_ h
    cases xs with
    | nil => exact no_ h
    | cons y ys =>
      cases ys with
      | nil => exact no_ h
      | cons z zs =>
        cases zs with
        | cons _ _ => exact no_ h
        | nil =>
          cases kw <;> try exact no_ h
          have h' := h
          simp only [chkE] at h'
          obtain ⟨h1, h2, h3⟩ := and3 h'
          obtain ⟨h4, h5, h6⟩ := and3 h1
          exact s_dget g h ((snd o).e c X _ g (and2 h4).2) ((snd a).e c X _ g h5) ((snd b).e c X _ g h2)
  | .dsort o => .mkN fun c X e g h => by
    cases e <;> try exact no_ h
    rename_i fn xs kw pos
    cases fn <;> try exact no_ h
    cases xs with
    | nil => exact no_ h
    | cons y ys =>
      cases ys with
      | cons _ _ => exact no_ h
      | nil =>
        cases kw <;> try exact no_ h
        simp only [chkN] at h
        obtain ⟨h1, h2, h3⟩ := and3 h
        exact n_dsort g h1 h3 ((snd o).e c X _ g h2)
  | .it a => .mkI fun c X tg e g h => by
    simp only [chkI] at h
    exact i_it ((snd a).e c X _ g h)
  | .enum a => .mkI fun c X tg e g h => by
    cases tg <;> try exact no_ h
    cases e <;> try exact no_ h
    rename_i fn xs kw pos
    cases fn <;> try exact no_ h
    cases xs with
    | nil => exact no_ h
    | cons y ys =>
      cases ys with
      | cons _ _ => exact no_ h
      | nil =>
        cases kw <;> try exact no_ h
        simp only [chkI] at h
        obtain ⟨h1, h2, h3⟩ := and3 h
        exact i_enum g h1 h3 ((snd a).e c X _ g h2)
  | .rng1 a => .mkI fun c X tg e g h => by
    cases e <;> try exact no_ h
    rename_i fn xs kw pos
    cases fn <;> try exact no_ h
    cases xs with
    | nil => exact no_ h
    | cons y ys =>
      cases ys with
      | cons _ _ => exact no_ h
      | nil =>
        cases kw <;> try exact no_ h
        simp only [chkI] at h
        obtain ⟨h1, h2, h3⟩ := and3 h
        exact i_rng1 g h1 h3 ((snd a).e c X _ g h2)
  | .rng2 a b => .mkI fun c X tg e g h => by
    cases e <;> try exact no_ h
    rename_i fn xs kw pos
    cases fn <;> try exact no_ h
    cases xs with
    | nil => exact no_ h
    | cons y ys =>
      cases ys with
      | nil => exact no_ h
      | cons z zs =>
        cases zs with
        | cons _ _ => exact no_ h
        | nil =>
          cases kw <;> try exact no_ h
          simp only [chkI] at h
          obtain ⟨h1, h5⟩ := and2 h
          obtain ⟨h1, h2, h3, h4⟩ := and4 h1
          exact i_rng2 g h1 h3 h5 ((snd a).e c X _ g h2) ((snd b).e c X _ g h4)
end
end Z
namespace Z
open PySem PySem.Spec L2
open PyProof.Rows hiding St
/-! ### letting go: sound -/
theorem wfs_keys {n : Nat} : ∀ kvs : List (Key × V), wfs n (kvs.map fun p => keyW p.1) = true
  | [] => rfl
  | (k, _) :: r => by
    simp only [List.map_cons, wfs, Bool.and_eq_true]
    exact ⟨by cases k <;> rfl, wfs_keys r⟩
theorem wfs_keyL {n : Nat} : ∀ ks : List Key, wfs n (ks.map keyW) = true
  | [] => rfl
  | k :: r => by
    simp only [List.map_cons, wfs, Bool.and_eq_true]
    exact ⟨by cases k <;> rfl, wfs_keyL r⟩
theorem wfs_keysT {n : Nat} : ∀ kvs : List (List Key × V), wfs n (kvs.map fun p => W.tup (p.1.map keyW)) = true
  | [] => rfl
  | (k, _) :: r => by
    simp only [List.map_cons, wfs, wf, Bool.and_eq_true]
    exact ⟨wfs_keyL k, wfs_keysT r⟩
section
variable {K : Fr6} {mp mp' : M} {H H' : Hp} {n : Nat} {g g' : CH}
mutual
theorem wf_of : ∀ {w : W} {u : V}, Rp K mp H w u → wf mp.ob.length w = true
  | .non, _, _ => rfl
  | .bl _, _, _ => rfl
  | .int _, _, _ => rfl
  | .str _, _, _ => rfl
  | .tup xs, _, r => by
    obtain ⟨a, vs, rfl, f, r⟩ := r.tupI
    simp only [wf]; exact wfs_of r
  | .lst xs, _, r => by
    obtain ⟨a, vs, rfl, f, r⟩ := r.lstI
    simp only [wf]; exact wfs_of r
  | .lck xs, _, r => by
    obtain ⟨a, vs, rfl, f, r⟩ := r.lckI
    simp only [wf]; exact wfs_of r
  | .dct ks xs, _, r => by
    simp only [Rp] at r
    obtain ⟨a, rfl, _, r⟩ := r
    simp only [wf, Bool.and_eq_true]
    rcases r with ⟨kvs, _, rfl, r⟩ | ⟨kvs, _, rfl, r⟩
    · exact ⟨wfs_keys kvs, wfs_of r⟩
    · exact ⟨wfs_keysT kvs, wfs_of r⟩
  | .ob k, _, r => by
    obtain ⟨a, rfl, h⟩ := r.obI
    simp only [wf, decide_eq_true_eq]
    exact (List.getElem?_eq_some_iff.mp h).1
theorem wfs_of : ∀ {xs : List W} {us : List V}, RpL K mp H xs us → wfs mp.ob.length xs = true
  | [], _, _ => rfl
  | x :: xs, _, r => by
    simp only [RpL] at r
    obtain ⟨u, us, rfl, r1, r2⟩ := r
    simp only [wfs, Bool.and_eq_true]
    exact ⟨wf_of r1, wfs_of r2⟩
end
/-- fewer objects are tracked -/
structure Less (n : Nat) (mp mp' : M) : Prop where
  ob : mp.ob = mp'.ob.take n
  hd : mp.hd = mp'.hd
theorem Less.has (l : Less n mp mp') {a : Addr} (h : mp.has a) : mp'.has a := by
  rcases h with h | h
  · rw [l.ob] at h; exact .inl (List.mem_of_mem_take h)
  · rw [l.hd] at h; exact .inr h
theorem FT.less (l : Less n mp mp') {a : Addr} {vs : List V} (f : FT K mp' H a vs) : FT K mp H a vs := by
  refine ⟨f.1, ?_⟩
  rcases f.2 with ⟨h1, h2⟩ | h
  · exact .inl ⟨h1, fun z => h2 (l.has z)⟩
  · exact .inr h
theorem FK.less (l : Less n mp mp') {a : Addr} {vs : List V} (f : FK K mp' H a vs) : FK K mp H a vs := by
  refine ⟨f.1, ?_⟩
  rcases f.2 with ⟨h1, h2⟩ | h
  · exact .inl ⟨h1, fun z => h2 (l.has z)⟩
  · exact .inr h
theorem FL.less (l : Less n mp mp') {a : Addr} {vs : List V} (f : FL mp' H a vs) : FL mp H a vs := ⟨f.1, f.2.1, fun z => f.2.2 (l.has z)⟩
mutual
theorem Rp.less (l : Less n mp mp') : ∀ {w : W} {u : V}, wf n w = true → Rp K mp' H w u → Rp K mp H w u
  | .non, _, _, r => by simp only [Rp] at r ⊢; exact r
  | .bl _, _, _, r => by simp only [Rp] at r ⊢; exact r
  | .int _, _, _, r => by simp only [Rp] at r ⊢; exact r
  | .str _, _, _, r => by simp only [Rp] at r ⊢; exact r
  | .tup xs, _, h, r => by
    simp only [wf] at h
    simp only [Rp] at r ⊢
    obtain ⟨a, vs, h1, f, r⟩ := r
    exact ⟨a, vs, h1, f.less l, RpL.less l h r⟩
  | .lst xs, _, h, r => by
    simp only [wf] at h
    simp only [Rp] at r ⊢
    obtain ⟨a, vs, h1, f, r⟩ := r
    exact ⟨a, vs, h1, f.less l, RpL.less l h r⟩
  | .lck xs, _, h, r => by
    simp only [wf] at h
    simp only [Rp] at r ⊢
    obtain ⟨a, vs, h1, f, r⟩ := r
    exact ⟨a, vs, h1, f.less l, RpL.less l h r⟩
  | .dct ks xs, _, h, r => by
    simp only [wf, Bool.and_eq_true] at h
    simp only [Rp] at r ⊢
    obtain ⟨a, h1, h2, r⟩ := r
    refine ⟨a, h1, fun z => h2 (l.has z), ?_⟩
    rcases r with ⟨kvs, k1, k2, r⟩ | ⟨kvs, k1, k2, r⟩
    · exact .inl ⟨kvs, k1, k2, RpL.less l h.2 r⟩
    · exact .inr ⟨kvs, k1, k2, RpL.less l h.2 r⟩
  | .ob k, _, h, r => by
    simp only [wf, decide_eq_true_eq] at h
    simp only [Rp] at r ⊢
    obtain ⟨a, h1, r⟩ := r
    exact ⟨a, h1, by rw [l.ob, List.getElem?_take_of_lt h]; exact r⟩
theorem RpL.less (l : Less n mp mp') : ∀ {xs : List W} {us : List V}, wfs n xs = true → RpL K mp' H xs us → RpL K mp H xs us
  | [], _, _, r => by simp only [RpL] at r ⊢; exact r
  | x :: xs, _, h, r => by
    simp only [wfs, Bool.and_eq_true] at h
    simp only [RpL] at r ⊢
    obtain ⟨u, us, h1, r1, r2⟩ := r
    exact ⟨u, us, h1, Rp.less l h.1 r1, RpL.less l h.2 r2⟩
end
mutual
theorem Fz.rp (l : Less n mp mp') (s : Sim K mp' g H) : ∀ {w w' : W} {u : V}, Fz n g w w' → Rp K mp' H w u → Rp K mp H w' u
  | _, _, _, .same h, r => r.less l h
  | _, _, _, .tup h, r => by
    simp only [Rp] at r ⊢
    obtain ⟨a, vs, h1, f, r⟩ := r
    exact ⟨a, vs, h1, f.less l, Fzs.rp l s h r⟩
  | _, _, _, .lst h, r => by
    simp only [Rp] at r ⊢
    obtain ⟨a, vs, h1, f, r⟩ := r
    exact ⟨a, vs, h1, f.less l, Fzs.rp l s h r⟩
  | _, _, _, .ob (k := k) h1 h2 h3, r => by
    obtain ⟨a, rfl, h4⟩ := r.obI
    obtain ⟨b, h5, vs, h6, h7, h8⟩ := s.at_ h2
    rw [h4] at h5; cases h5
    simp only [Rp]
    refine ⟨a, vs, rfl, ⟨h7, h6, fun z => ?_⟩, Fzs.rp l s h3 h8⟩
    rcases z with z | z
    · rw [l.ob] at z
      obtain ⟨j, hj, e⟩ := List.mem_take_iff_getElem.mp z
      obtain ⟨hk, e2⟩ := List.getElem?_eq_some_iff.mp h4
      have := (List.getElem_inj s.nd).mp (e.trans e2.symm)
      omega
    · rw [l.hd] at z
      exact (s.hid a z).2 (List.mem_of_getElem? h4)
  | _, _, _, .obd (k := k) h1 h2 h3, r => by
    obtain ⟨a, rfl, h4⟩ := r.obI
    obtain ⟨b, h5, ro⟩ := s.at_ h2
    rw [h4] at h5; cases h5
    simp only [Rp]
    refine ⟨a, rfl, fun z => ?_, ?_⟩
    · rcases z with z | z
      · rw [l.ob] at z
        obtain ⟨j, hj, e⟩ := List.mem_take_iff_getElem.mp z
        obtain ⟨hk, e2⟩ := List.getElem?_eq_some_iff.mp h4
        have := (List.getElem_inj s.nd).mp (e.trans e2.symm)
        omega
      · rw [l.hd] at z
        exact (s.hid a z).2 (List.mem_of_getElem? h4)
    · rcases ro with ⟨kvs, k1, k2, k3⟩ | ⟨kvs, ⟨k1, k0⟩, k2, k3⟩
      · exact .inl ⟨kvs, .inl k1, k2, Fzs.rp l s h3 k3⟩
      · exact .inr ⟨kvs, ⟨.inl k1, k0⟩, k2, Fzs.rp l s h3 k3⟩
theorem Fzs.rp (l : Less n mp mp') (s : Sim K mp' g H) : ∀ {xs ys : List W} {us : List V}, Fzs n g xs ys → RpL K mp' H xs us → RpL K mp H ys us
  | _, _, _, .nil, r => by simp only [RpL] at r ⊢; exact r
  | _, _, _, .cons h1 h2, r => by
    simp only [RpL] at r ⊢
    obtain ⟨u, us, h, r1, r2⟩ := r
    exact ⟨u, us, h, Fz.rp l s h1 r1, Fzs.rp l s h2 r2⟩
end
theorem FzO.ro (l : Less n mp mp') (s : Sim K mp' g H) {w w' : W} {a : Addr} (f : FzO n g w w') (r : RO K mp' H a w) : RO K mp H a w' := by
  cases f with
  | lst h =>
    obtain ⟨vs, h1, h2, r⟩ := r
    exact ⟨vs, h1, h2, Fzs.rp l s h r⟩
  | dct h =>
    rcases r with ⟨kvs, h1, h2, r⟩ | ⟨kvs, h1, h2, r⟩
    · exact .inl ⟨kvs, h1, h2, Fzs.rp l s h r⟩
    · exact .inr ⟨kvs, h1, h2, Fzs.rp l s h r⟩
theorem RO.less (l : Less n mp mp') {w : W} {a : Addr} (h : wf n w = true) (r : RO K mp' H a w) : RO K mp H a w := by
  cases w with
  | lst xs =>
    obtain ⟨vs, h1, h2, r⟩ := r
    exact ⟨vs, h1, h2, r.less l h⟩
  | dct ks xs =>
    simp only [wf, Bool.and_eq_true] at h
    rcases r with ⟨kvs, h1, h2, r⟩ | ⟨kvs, h1, h2, r⟩
    · exact .inl ⟨kvs, h1, h2, r.less l h.2⟩
    · exact .inr ⟨kvs, h1, h2, r.less l h.2⟩
  | _ => exact False.elim r
theorem RO.wf {w : W} {a : Addr} (r : RO K mp H a w) : Z.wf mp.ob.length w = true := by
  cases w with
  | lst xs =>
    obtain ⟨vs, h1, h2, r⟩ := r
    exact wfs_of r
  | dct ks xs =>
    simp only [Z.wf, Bool.and_eq_true]
    rcases r with ⟨kvs, h1, rfl, r⟩ | ⟨kvs, h1, rfl, r⟩
    · exact ⟨wfs_keys kvs, wfs_of r⟩
    · exact ⟨wfs_keysT kvs, wfs_of r⟩
  | _ => exact False.elim r
/-- the tracked objects from n on are let go -/
theorem FzG.sim {mp0 : M} {H0 : Hp} {g0 g2 g3 : CH} (s0 : Sim K mp0 g0 H0) (e : Ext mp0 H0 mp' H) (s : Sim K mp' g2 H) (f : FzG g0.length g0 g2 g3) : Less g0.length mp0 mp' ∧ Sim K mp0 g3 H ∧ Ext mp0 H0 mp0 H := by
  have l : Less g0.length mp0 mp' := by
    refine ⟨?_, e.hd.symm⟩
    obtain ⟨t, ht⟩ := e.pre
    rw [← ht, ← s0.len]
    simp
  have e' : Ext mp0 H0 mp0 H := ⟨List.prefix_refl _, fun _ h => .inl h, e.keep, rfl⟩
  refine ⟨l, ⟨s0.nd, by rw [s0.len, f.1], fun i w hw => ?_, fun b hb => ?_, s0.ndh⟩, e'⟩
  · have hi : i < g0.length := by
      have := (List.getElem?_eq_some_iff.mp hw).1
      rw [f.1] at this; exact this
    have up : ∀ {w : W} {a : Addr}, mp'.ob[i]? = some a → mp0.ob[i]? = some a := fun {w a} h => by rw [l.ob, List.getElem?_take_of_lt hi]; exact h
    rw [← nth_eq] at hw
    rcases f.2.2 i hi with ⟨h1, h2⟩ | ⟨w1, w2, h1, h2, h3⟩
    · rw [hw] at h1 h2
      obtain ⟨a, h3, h4⟩ := s.at_ h1
      obtain ⟨b, h5, h6⟩ := s0.at_ h2
      refine ⟨a, up (w := w) h3, h4.less l ?_⟩
      have := h6.wf
      rw [s0.len] at this
      exact this
    · rw [hw] at h2
      cases h2
      obtain ⟨a, h4, h5⟩ := s.at_ h1
      exact ⟨a, up (w := w) h4, h3.ro l s h5⟩
  · rw [← e.hd] at hb
    obtain ⟨h1, h2⟩ := s.hid b hb
    exact ⟨h1, fun z => h2 (e.sub z)⟩
theorem let_go {mp0 : M} {H0 : Hp} {g0 g2 g3 : CH} {e0 e2 e3 : Env} {σ0 σ : St} (s0 : SR K mp0 e0 g0 σ0 H0) (e : Ext mp0 H0 mp' H) (s : SR K mp' e2 g2 σ H) (fe : FzE g0.length g2 e0 e2 e3) (f : FzG g0.length g0 g2 g3) :
    SR K mp0 e3 g3 σ H ∧ Ext mp0 H0 mp0 H := by
  obtain ⟨l, s3, e'⟩ := f.sim s0.2 e s.2
  refine ⟨⟨⟨by rw [fe.1]; exact s.1.1, fun i w hw => ?_⟩, s3⟩, e'⟩
  rcases fe.2 i w (slot_of hw) with ⟨h1, h2⟩ | ⟨w2, h1, h2⟩
  · obtain ⟨u, h3, h4⟩ := s.1.slot h1
    obtain ⟨u0, _, h6⟩ := s0.1.slot h2
    have h7 := wf_of h6
    rw [s0.2.len] at h7
    exact ⟨u, h3, h4.less l h7⟩
  · obtain ⟨u, h3, h4⟩ := s.1.slot h1
    exact ⟨u, h3, h2.rp l s.2 h4⟩
theorem ret_go {mp0 : M} {H0 : Hp} {g0 g2 g3 : CH} {w w' : W} {u : V} (s0 : Sim K mp0 g0 H0) (e : Ext mp0 H0 mp' H) (s : Sim K mp' g2 H) (r : Rp K mp' H w u) (fe : Fz g0.length g2 w w') (f : FzG g0.length g0 g2 g3) :
    Rp K mp0 H w' u ∧ Sim K mp0 g3 H ∧ Ext mp0 H0 mp0 H := by
  obtain ⟨l, s3, e'⟩ := f.sim s0 e s
  exact ⟨fe.rp l s r, s3, e'⟩
end
end Z
namespace Z
open PySem PySem.Spec L2
open PyProof.Rows hiding St
/-! ### statements: the check -/
/-- what stands behind = for a comprehension: is its store exchanged with the letting go of its names -/
def notComp : Expr → Bool
  | .ListComp .. => false | .SetComp .. => false | .DictComp .. => false
  | _ => true
def notTup : Expr → Bool
  | .Tuple .. => false | .List .. => false
  | _ => true
def isNm : Expr → Bool
  | .Name .. => true
  | _ => false
/-- two written tuples whose stores go from the left (no two or three of one length) -/
def far : Expr → Expr → Bool
  | .Tuple ts _ _, .Tuple vs _ _ => !(ts.length == 2 || ts.length == 3) || vs.length != ts.length
  | _, _ => false
/-- a comprehension whose store is not exchanged -/
def swapF (c : Ctx) : Expr → Expr → Bool
  | .Name y py, .ListComp _ _ scope pos => !(c.sc.names.lookup y == some .local) || !(py.line == pos.line) || (scope.names.any fun (n, k) => n == y && (k == .local || k == .cell))
  | .Tuple .., .ListComp .. => true
  | .Subscript .., .ListComp .. => true
  | _, _ => false
def swOk (c : Ctx) (t v : Expr) : Bool := notComp v || swapF c t v
def asgOk (c : Ctx) (t v : Expr) : Bool := swOk c t v && (notTup t || notTup v || far t v)
def isLoc (c : Ctx) (x : Str) : Bool := match c.sc.names.lookup x with
  | some .local => true
  | _ => false
def isFun (c : Ctx) : Bool := match c.sc.kind with
  | .function => true
  | _ => false
theorem isLoc_of {c : Ctx} {x : Str} (h : isLoc c x = true) : c.sc.names.lookup x = some .local := by
  unfold isLoc at h
  split at h
  · assumption
  · cases h
theorem isFun_of {c : Ctx} (h : isFun c = true) : c.sc.kind = .function := by
  unfold isFun at h
  split at h
  · assumption
  · cases h
/-- .. of a comprehension at a local name -/
def compOk (c : Ctx) (t v : Expr) : Option Str := match t, v with
  | .Name y py, .ListComp _ _ scope pos => if isLoc c y && isFun c && (py.line == pos.line) && !(scope.names.any fun (n, k) => n == y && (k == .local || k == .cell)) then some y else none
  | _, _ => none
def isLc : E → Bool
  | .mk (.lc ..) => true
  | .fz (.lc ..) => true
  | _ => false
def parOk (c : Ctx) : Expr → Expr → Nat → Nat → Bool
  | .Tuple [.Name x px, .Name y py] _ _, .Tuple [a, b] _ _, i, j => decide (c.N[i]? = some x) && decide (c.N[j]? = some y) && decide (i ≠ j) && isLoc c x && isLoc c y && isFun c && noStar a && noStar b && (py.line == px.line) && !(x == y) && !([a, b].all (foldedForSure 8)) && !([a, b].all (constantsAlone 8))
  | _, _, _, _ => false
def augB : Bop → Operator → Bool
  | .add, .Add => true | .sub, .Sub => true | .band, .BitAnd => true | .bor, .BitOr => true | .bxor, .BitXor => true
  | _, _ => false
mutual
def chkS (G : Globs) (c : Ctx) : S → Stmt → Bool
  | .nop, .Pass _ => true
  | .nop, .Expr (.Constant (.str _) _ _) _ => true
  | .set t e, .Assign [tg] v _ => chkTg c t tg && chkE G e c v && (asgOk c tg v || (isLc e && (compOk c tg v).isSome))
  | .par i j a b, .Assign [tg] v _ => parOk c tg v i j && (match v with
    | .Tuple [x, y] _ _ => chkE G a c x && chkE G b c y
    | _ => false)
  | .setix o i e, .Assign [.Subscript x s p] v _ => chkE G o c x && chkE G i c s && chkE G e c v && noSlice s && swOk c (.Subscript x s p) v
  | .setd o i e, .Assign [.Subscript x s p] v _ => chkE G o c x && chkE G i c s && chkE G e c v && noSlice s && swOk c (.Subscript x s p) v
  | .aug i op e, .AugAssign (.Name x _) o v _ => decide (c.N[i]? = some x) && locB c x && augB op o && chkE G e c v
  | .ite t a b, .If x y z _ => chkT G t c x && chkB G c a y && chkB G c b z
  | .loop _ t src body, .For tg it bd [] _ => chkTg c t tg && chkI G src c tg it && noSet it && chkB G c body bd
  | .whil _ t body, .While x bd [] _ => chkT G t c x && chkB G c body bd
  | .ret e, .Return (some v) _ => chkE G e c v
  | .retN, .Return none _ => true
  | .ex e, .Expr v _ => chkE G e c v && notComp v
  | .brk, .Break _ => true
  | .cont, .Continue _ => true
  | _, _ => false
def chkB (G : Globs) (c : Ctx) : S → List Stmt → Bool
  | .nop, [] => true
  | .seq a b, st :: rest => chkS G c a st && chkB G c b rest
  | _, _ => false
end
/-! ### statements: sound -/
structure PostR (K : Fr6) (mp : M) (H : Hp) (P : Post) (D : Ends) : Prop where
  nx : ∀ e g, P.nx e g → ∀ mp' H' σ', Ext mp H mp' H' → SR K mp' e g σ' H' → D.nx σ' H'
  bk : ∀ e g, P.bk e g → ∀ mp' H' σ', Ext mp H mp' H' → SR K mp' e g σ' H' → D.bk σ' H'
  ct : ∀ e g, P.ct e g → ∀ mp' H' σ', Ext mp H mp' H' → SR K mp' e g σ' H' → D.ct σ' H'
  rt : ∀ v g, P.rt v g → ∀ mp' H' u, Ext mp H mp' H' → Sim K mp' g H' → Rp K mp' H' v u → D.rt u H'
def tvS (K : Fr6) (F : FSem) (m : S) : TS := fun D σ H => ∃ mp env g P, SR K mp env g σ H ∧ wpS F m env g P ∧ PostR K mp H P D
section
variable {K : Fr6} {mp mp' : M} {H H' : Hp} {P : Post} {D : Ends}
theorem PostR.ext (p : PostR K mp H P D) (e : Ext mp H mp' H') : PostR K mp' H' P D :=
  ⟨fun a b q m h σ f => p.nx a b q m h σ (e.trans f), fun a b q m h σ f => p.bk a b q m h σ (e.trans f), fun a b q m h σ f => p.ct a b q m h σ (e.trans f), fun a b q m h σ f => p.rt a b q m h σ (e.trans f)⟩
end
section
variable {X : Cx} {G : Globs} {F : FSem} {d : Nat} {c : Ctx}
theorem swaps_plain {v : Expr} {t : Option Expr} {l : Nat} {env : PySem.Env} (h : notComp v = true) : swapsWith v t l env = pure false := by
  cases v <;> first | rfl | cases h
theorem sole_plain {v t : Expr} {l : Nat} {env : PySem.Env} (h : notComp v = true) : swapsWithSole [t] v l env = pure false := swaps_plain h
theorem sole_ok {c : Ctx} {v t : Expr} {l : Nat} {env : PySem.Env} (hs : env.scope = c.sc) (h : swOk c t v = true) : swapsWithSole [t] v l env = pure false := by
  unfold swOk at h
  rcases Bool.or_eq_true_iff.mp h with h | h
  · exact sole_plain h
  · cases t <;> cases v <;> first | (exact no_ h) | rfl | skip
    rename_i y py el gs scope pos _
    have hk : ∀ x, env.kindOf x = c.sc.names.lookup x := fun x => by rw [← hs]; rfl
    simp only [swapF] at h
    have e0 : swapsWithSole [Expr.Name y py] (.ListComp el gs scope pos) l env = swapsWith (.ListComp el gs scope pos) (some (.Name y py)) l env := rfl
    rw [e0]
    unfold swapsWith
    simp only [hk, Expr.pos]
    have e : (env.blockKind == .function && c.sc.names.lookup y == some .local && py.line == pos.line && !(scope.names.any fun (n, k) => n == y && (k == .local || k == .cell))) = false := by
      rcases Bool.or_eq_true_iff.mp h with h | h
      · rcases Bool.or_eq_true_iff.mp h with h | h
        · rw [Bool.not_eq_true'] at h
          rw [h]; simp
        · rw [Bool.not_eq_true'] at h
          rw [h]; simp
      · rw [h]; simp
    exact congrArg pure e
theorem stores_plain {t v : Expr} {env : PySem.Env} (h : (notTup t || notTup v || far t v) = true) : swappedStores [t] v env = pure none := by
  have n2 : ∀ (ts vs : List Expr), (!(ts.length == 2 || ts.length == 3) || vs.length != ts.length) = true → (!(ts.length == 2 || ts.length == 3) || vs.length != ts.length || env.blockKind != .function) = true := fun ts vs h => by rw [h]; rfl
  cases t <;> cases v <;> first
    | rfl
    | (exfalso; simp [notTup, far] at h; done)
    | (simp only [notTup, far, Bool.false_or] at h
       unfold swappedStores
       simp only [n2 _ _ h, if_true]
       try rfl)
theorem asg_one {t : Expr} {env : PySem.Env} (h : noStar t = true) : (assignEach [t] env).map (·.2) = [assign t env] := by rw [assign_starEach h]; rfl
theorem tg_noStar {c : Ctx} {t : T} {e : Expr} (h : chkTg c t e = true) : noStar e = true := by
  cases e <;> first | rfl | (cases t <;> simp [chkTg] at h)
theorem set_read {t : T} {m : E} {D : Ends} {σ : St} {H : Hp} (h : tvS X.K F (.set t m) D σ H) : tAsg (tvE X.K F m) (tvG X.K t) D σ H := by
  obtain ⟨mp, env, g, P, sr, hw, k⟩ := h
  simp only [wpS] at hw
  refine ⟨mp, env, g, _, sr, hw, fun w g1 hq mp1 H1 u e1 s1 r1 => ?_⟩
  obtain ⟨env1, ha, hq⟩ := hq
  exact ⟨mp1, env, g1, w, env1, sr.ext e1 s1, r1, ha, fun σ' er _ => k.nx _ _ hq mp1 H1 σ' e1 ⟨er, s1⟩⟩
theorem S_set (g : Good G F d c X) {t : T} {m : E} {tg v : Expr} {pos : Pos} (ht : chkTg c t tg = true) (hv : chkE G m c v = true) (h : asgOk c tg v = true) : PS X (.Assign [tg] v pos) (tvS X.K F (.set t m)) := by
  unfold asgOk at h
  obtain ⟨h1, h2⟩ := and2 h
  exact PS.weak (ps_asg ((snd m).e c X v g hv) (g_ok g t tg ht) (sole_ok g.sc h1) (stores_plain h2) (asg_one (tg_noStar ht))) fun D σ H q => set_read q
theorem S_setLc (g : Good G F d c X) {t : T} {m : E} {tg v : Expr} {pos : Pos} (ht : chkTg c t tg = true) (hv : chkE G m c v = true) (hm : isLc m = true) (h : (compOk c tg v).isSome = true) : PS X (.Assign [tg] v pos) (tvS X.K F (.set t m)) := by
  cases tg <;> try (exfalso; simp [compOk] at h; done)
  rename_i y py
  cases v <;> try (exfalso; simp [compOk] at h; done)
  rename_i el gs scope vpos
  simp only [compOk] at h
  split at h
  · rename_i hc
    obtain ⟨hc, c4⟩ := and2 hc
    obtain ⟨c1, c2, c3⟩ := and3 hc
    rw [Bool.not_eq_true'] at c4
    have hyl := isLoc_of c1
    have hk := isFun_of c2
    cases t <;> try (exfalso; simp [chkTg] at ht; done)
    rename_i i
    simp only [chkTg, Bool.and_eq_true, decide_eq_true_eq] at ht
    -- the comprehension
    have main : ∀ {own : List Nat} {t2 : T} {src ifs elt : E}, chkN G (.lc own t2 src ifs elt) c (.ListComp el gs scope vpos) = true → PS X (.Assign [.Name y py] (.ListComp el gs scope vpos) pos) (tAsg (tvN X.K F (.lc own t2 src ifs elt)) (gName i)) := fun {own t2 src ifs elt} hn => by
      cases gs with
      | nil => exact no_ hn
      | cons g0 gs =>
        obtain ⟨tg, it, is, as⟩ := g0
        cases gs with
        | cons _ _ => exact no_ hn (by cases as with | ofNat n => cases n <;> rfl | negSucc n => rfl)
        | nil =>
          cases as with
          | negSucc n => exact no_ hn
          | ofNat n =>
            cases n with
            | succ n => exact no_ hn
            | zero =>
              have h' : (blkC c.N c.sc scope (ownOf c.N own) && noSet it && chkI G src c tg it && tgIn own t2 && chkTg (blkCtx c scope) t2 tg && chkTs G ifs (blkCtx c scope) is && chkE G elt (blkCtx c scope) el) = true := hn
              obtain ⟨h1, h7⟩ := and2 h'
              obtain ⟨h1, h6⟩ := and2 h1
              obtain ⟨h1, h5⟩ := and2 h1
              obtain ⟨h1, h2, h3, h4⟩ := and4 h1
              exact ps_lc g ht.1 hyl hk c3 c4 h1 h2 h4 h5 ((snd src).i c X tg it g h3) (fun X' g' e => by rw [← e]; exact (snd ifs).ts _ X' _ g' h6) (fun X' g' e => by rw [← e]; exact (snd elt).e _ X' _ g' h7)
    cases m <;> try (exfalso; simp [isLc] at hm; done)
    · rename_i a
      cases a <;> try (exfalso; simp [isLc] at hm; done)
      simp only [chkE] at hv
      refine PS.weak (main hv) fun D σ H ⟨mp, env, g, P, sr, hw, k⟩ => ?_
      simp only [wpS, wpE] at hw
      refine ⟨mp, env, g, _, sr, hw, fun xs g1 hq mp1 H1 a vs e1 s1 hn h hz r => ?_⟩
      obtain ⟨env1, ha, hq⟩ := opt_add hq
      simp only [asg, Option.some.injEq] at ha
      subst ha
      have e2 := e1.track hn
      have hl : mp1.ob.length = g1.length := s1.len
      have ro : Rp X.K (mp1.track a) H1 (.ob g1.length) (.ref a) := by
        simp only [Rp]
        refine ⟨a, rfl, ?_⟩
        show (mp1.ob ++ [a])[g1.length]? = some a
        rw [List.getElem?_append_right (by omega), hl]
        simp
      exact k.nx _ _ hq (mp1.track a) H1 _ e2 ⟨(sr.1.ext e2).set ro i, s1.track h hz r⟩
    · rename_i a
      cases a <;> try (exfalso; simp [isLc] at hm; done)
      simp only [chkE] at hv
      refine PS.weak (main hv) fun D σ H ⟨mp, env, g, P, sr, hw, k⟩ => ?_
      simp only [wpS, wpE] at hw
      refine ⟨mp, env, g, _, sr, hw, fun xs g1 hq mp1 H1 a vs e1 s1 hn h hz r => ?_⟩
      obtain ⟨env1, ha, hq⟩ := hq
      simp only [asg, Option.some.injEq] at ha
      subst ha
      have ro : Rp X.K mp1 H1 (.lst xs) (.ref a) := by
        simp only [Rp]
        exact ⟨a, vs, rfl, ⟨hz, h, s1.hidden⟩, r.unhide⟩
      exact k.nx _ _ hq mp1 H1 _ e1 ⟨(sr.1.ext e1).set ro i, s1.unhide⟩
  · cases h
theorem S_setix (g : Good G F d c X) {o i e : E} {x s v : Expr} {p pos : Pos} (ho : PE X x (tvE X.K F o)) (hi : PE X s (tvE X.K F i)) (he : PE X v (tvE X.K F e)) (hs : noSlice s = true) (hv : swOk c (.Subscript x s p) v = true) :
    PS X (.Assign [.Subscript x s p] v pos) (tvS X.K F (.setix o i e)) := by
  refine PS.weak (ps_asg he (pg_sub ho hi set_list (by intro v; cases s <;> first | rfl | cases hs)) (sole_ok g.sc hv) (stores_plain rfl) (asg_one rfl)) fun D σ H ⟨mp, env, g, P, sr, hw, k⟩ => ?_
  simp only [wpS] at hw
  refine ⟨mp, env, g, _, sr, hw, fun w g1 hq mp1 H1 u1 e1 s1 r1 => ?_⟩
  refine ⟨mp1, env, g1, _, sr.ext e1 s1, hq, fun x g2 hq2 mp2 H2 u2 e2 s2 r2 => ?_⟩
  refine ⟨mp2, env, g2, _, (sr.ext e1 s1).ext e2 s2, hq2, fun y g3 hq3 mp3 H3 u3 e3 s3 r3 => ?_⟩
  obtain ⟨q, hq, hq3⟩ := hq3
  obtain ⟨a, vs, rfl, h5, h6, h7, h8⟩ := ob_of s3 (r2.ext e3) hq
  cases y with
  | int n =>
    obtain ⟨j, hj, hq3⟩ := hq3
    have hq3 := opt_put (opt_put hq3)
    have hl := h8.length
    have ew : Ext mp3 H3 mp3 (upd H3 a (.lst (vs.set j u1))) := .wr (List.mem_of_getElem? h5)
    have e13 := ((e1.trans e2).trans e3).trans ew
    refine ⟨a, vs, n, j, rfl, r3.intI, h6, by rw [← hl]; exact hj, k.nx _ _ hq3 mp3 _ σ e13 ⟨sr.1.ext e13, s3.wr h5 (by rw [List.length_set]; exact h7) (h8.set j ((r1.ext e2).ext e3))⟩⟩
  | _ => exact False.elim hq3
theorem S_setd (g : Good G F d c X) {o i e : E} {x s v : Expr} {p pos : Pos} (ho : PE X x (tvE X.K F o)) (hi : PE X s (tvE X.K F i)) (he : PE X v (tvE X.K F e)) (hs : noSlice s = true) (hv : swOk c (.Subscript x s p) v = true) :
    PS X (.Assign [.Subscript x s p] v pos) (tvS X.K F (.setd o i e)) := by
  refine PS.weak (ps_asg he (pg_sub ho hi (set_dict (hu1 g)) (by intro v; cases s <;> first | rfl | cases hs)) (sole_ok g.sc hv) (stores_plain rfl) (asg_one rfl)) fun D σ H ⟨mp, env, g, P, sr, hw, k⟩ => ?_
  simp only [wpS] at hw
  refine ⟨mp, env, g, _, sr, hw, fun w g1 hq mp1 H1 u1 e1 s1 r1 => ?_⟩
  refine ⟨mp1, env, g1, _, sr.ext e1 s1, hq, fun x g2 hq2 mp2 H2 u2 e2 s2 r2 => ?_⟩
  refine ⟨mp2, env, g2, _, (sr.ext e1 s1).ext e2 s2, hq2, fun y g3 hq3 mp3 H3 u3 e3 s3 r3 => ?_⟩
  obtain ⟨q, hq, ky, hk, hl, hq3⟩ := hq3
  obtain ⟨a, kvs, rfl, h5, h6, h7, h8⟩ := dob_at s3 (r2.ext e3) hq
  have hq3 := opt_put (opt_putD hq3)
  rw [h7] at hl hq3
  have ew : Ext mp3 H3 mp3 (upd H3 a (.dK (putK kvs ky u1))) := .wrO (List.mem_of_getElem? h5)
  have e13 := ((e1.trans e2).trans e3).trans ew
  refine ⟨a, _, rfl, .inl ⟨kvs, ky, h6, keyOf_rp r3 hk, by rw [List.length_map] at hl; exact hl, rfl⟩, k.nx _ _ hq3 mp3 _ σ e13 ⟨sr.1.ext e13, s3.wrO h5 (.inl ⟨_, upd_same, ?_, ?_⟩)⟩⟩
  · rw [← dput_keys (v := u1), List.map_map]; rfl
  · exact RpL.ext ew (dput_rp ((r1.ext e2).ext e3) h8)
theorem S_ret {e : E} {v : Expr} {pos : Pos} (he : PE X v (tvE X.K F e)) : PS X (.Return (some v) pos) (tvS X.K F (.ret e)) :=
  PS.weak (ps_ret he) fun D σ H ⟨mp, env, g, P, sr, hw, k⟩ => ⟨mp, env, g, P.rt, sr, by simpa only [wpS] using hw, fun w g1 hq mp1 H1 u1 e1 s1 r1 => k.rt w g1 hq mp1 H1 u1 e1 s1 r1⟩
theorem S_ite {t : E} {a b : S} {x : Expr} {y z : List Stmt} {pos : Pos} (ht : PT X x (tvT X.K F t)) (ha : PSs X y (tvS X.K F a)) (hb : PSs X z (tvS X.K F b)) : PS X (.If x y z pos) (tvS X.K F (.ite t a b)) := by
  refine PS.weak (ps_if ht ha hb) fun D σ H ⟨mp, env, g, P, sr, hw, k⟩ => ?_
  simp only [wpS] at hw
  refine ⟨mp, env, g, _, sr, hw, fun b g1 hq mp1 H1 e1 s1 => ?_⟩
  cases b with
  | true => exact ⟨mp1, env, g1, P, sr.ext e1 s1, hq, k.ext e1⟩
  | false => exact ⟨mp1, env, g1, P, sr.ext e1 s1, hq, k.ext e1⟩
theorem turn_go {K : Fr6} {gc : Bool} {mp0 mp' : M} {H0 H : Hp} {g0 g2 : CH} {e0 e2 : Env} {σ0 σ : St} {k : Env → CH → Prop} (s0 : SR K mp0 e0 g0 σ0 H0) (e : Ext mp0 H0 mp' H) (s : SR K mp' e2 g2 σ H) (h : turnEnd gc e0 g0 k e2 g2) :
    ∃ mp2 e3 g3, Ext mp0 H0 mp2 H ∧ SR K mp2 e3 g3 σ H ∧ k e3 g3 := by
  unfold turnEnd at h
  split at h
  · obtain ⟨e3, g3, fe, fg, h⟩ := h
    obtain ⟨h1, h2⟩ := let_go s0 e s fe fg
    exact ⟨mp0, e3, g3, h2, h1, h⟩
  · exact ⟨mp', e2, g2, e, s, h⟩
theorem S_loop (g : Good G F d c X) {gc : Bool} {t : T} {src : E} {body : S} {tg it : Expr} {bd : List Stmt} {pos : Pos} (ht : chkTg c t tg = true) (hs : noSet it = true) (hi : PI X tg it (tvI X.K F src)) (hb : PSs X bd (tvS X.K F body)) :
    PS X (.For tg it bd [] pos) (tvS X.K F (.loop gc t src body)) := by
  refine PS.weak (ps_for (by rw [g.xe]; exact PassesOwn.never) g.calm hi (g_ok g t tg ht) hb (noFold hs)) fun D σ H ⟨mp, env, g, P, sr, hw, k⟩ => ?_
  simp only [wpS] at hw
  refine ⟨mp, env, g, _, sr, hw, fun o xs g1 hq mp1 H1 J e1 s1 gv => ?_⟩
  have sr1 := sr.ext e1 s1
  refine ⟨fun i m σ2 H2 => m = xs.length - i ∧ i ≤ xs.length ∧ ∃ mp2 e2 g2, Ext mp1 H1 mp2 H2 ∧ SR X.K mp2 e2 g2 σ2 H2 ∧ forL gc env g1 t (wpS F body) o xs (xs.drop i) e2 g2 P, ⟨xs.length, rfl, Nat.zero_le _, mp1, env, g1, .refl, sr1, hq⟩, ?_⟩
  rintro i m σ2 H2 ⟨rfl, hi, mp2, e2, g2, x2, sr2, hl⟩
  by_cases hlt : i < xs.length
  · have hx : xs[i]? = some xs[i] := List.getElem?_eq_getElem hlt
    rw [drop_cons hx] at hl
    simp only [forL] at hl
    obtain ⟨st, env1, hasg, hl⟩ := hl
    obtain ⟨go, yl⟩ := gv.go mp2 g2 H2 x2.e0 sr2.2 st i hlt
    refine .inr ⟨go, fun σ' H' => ∃ mp2 e2 g2, Ext mp1 H1 mp2 H' ∧ SR X.K mp2 e2 g2 σ' H' ∧ forL gc env g1 t (wpS F body) o xs (xs.drop (i + 1)) e2 g2 P, fun σ' H' hN => ⟨xs.length - (i + 1), by omega, rfl, hlt, hN⟩, fun x H3 hy => ?_⟩
    obtain ⟨e3, s3, w, hw3, r3⟩ := yl x H3 hy
    rw [hx] at hw3
    cases hw3
    refine ⟨mp2, e2, g2, xs[i], env1, ⟨sr2.1.ext e3, s3⟩, r3, hasg, fun σ3 er3 _ => ?_⟩
    have e13 := x2.trans e3
    have k3 := k.ext (e1.trans e13)
    exact ⟨mp2, env1, g2, _, ⟨er3, s3⟩, hl, ⟨fun e' g' q mp' H' σ' x' s' => turn_go sr1 (e13.trans x') s' q, fun e' g' q mp' H' σ' x' s' => k3.nx e' g' q mp' H' σ' x' s', fun e' g' q mp' H' σ' x' s' => turn_go sr1 (e13.trans x') s' q, k3.rt⟩⟩
  · have hi' : i = xs.length := by omega
    subst hi'
    rw [List.drop_length] at hl
    simp only [forL] at hl
    exact .inl ⟨gv.stop mp2 g2 H2 x2.e0 sr2.2 hl.1, k.nx _ _ hl.2 mp2 H2 σ2 (e1.trans x2) sr2⟩
theorem S_whil (g : Good G F d c X) {gc : Bool} {t : E} {body : S} {x : Expr} {bd : List Stmt} {pos : Pos} (ht : PT X x (tvT X.K F t)) (hb : PSs X bd (tvS X.K F body)) :
    PS X (.While x bd [] pos) (tvS X.K F (.whil gc t body)) := by
  refine PS.weak (ps_while (by rw [g.xe]; exact PassesOwn.never) ht hb) fun D σ H ⟨mp, env, g, P, sr, hw, k⟩ => ?_
  simp only [wpS] at hw
  obtain ⟨n, hw⟩ := hw
  refine ⟨fun m σ2 H2 => ∃ mp2 e2 g2, Ext mp H mp2 H2 ∧ SR X.K mp2 e2 g2 σ2 H2 ∧ whileL gc env g (wpT F t) (wpS F body) m e2 g2 P, ⟨n, mp, env, g, .refl, sr, hw⟩, ?_⟩
  rintro m σ2 H2 ⟨mp2, e2, g2, x2, sr2, hl⟩
  cases m with
  | zero => exact hl.elim
  | succ m =>
    simp only [whileL] at hl
    refine ⟨mp2, e2, g2, _, sr2, hl, fun b g3 hq mp3 H3 e3 s3 => ?_⟩
    have e13 := x2.trans e3
    have k3 := k.ext e13
    cases b with
    | true =>
      exact ⟨fun σ' H' => ∃ mp2 e2 g2, Ext mp H mp2 H' ∧ SR X.K mp2 e2 g2 σ' H' ∧ whileL gc env g (wpT F t) (wpS F body) m e2 g2 P, fun σ' H' hN => ⟨m, Nat.lt_succ_self m, hN⟩,
        mp3, e2, g3, _, sr2.ext e3 s3, hq, ⟨fun e' g' q mp' H' σ' x' s' => turn_go sr (e13.trans x') s' q, fun e' g' q mp' H' σ' x' s' => k3.nx e' g' q mp' H' σ' x' s', fun e' g' q mp' H' σ' x' s' => turn_go sr (e13.trans x') s' q, k3.rt⟩⟩
    | false => exact k3.nx _ _ hq mp3 H3 σ2 .refl (sr2.ext e3 s3)
theorem stores_par {x y : Str} {px py pt pt2 : Pos} {kt k2 : Nat} {a b : Expr} {env : PySem.Env} (hx : env.scope.names.lookup x = some .local) (hy : env.scope.names.lookup y = some .local) (hk : env.scope.kind = .function)
    (na : noStar a = true) (nb : noStar b = true) (hl : (py.line == px.line) = true) (hxy : (x == y) = false) (h1 : ([a, b].all (foldedForSure 8)) = false) (h2 : ([a, b].all (constantsAlone 8)) = false) :
    swappedStores [.Tuple [.Name x px, .Name y py] kt pt] (.Tuple [a, b] k2 pt2) env = pure (some [x, y]) := by
  have kx : env.kindOf x = some .local := hx
  have ky : env.kindOf y = some .local := hy
  have hb : env.blockKind = .function := by unfold Env.blockKind; rw [hk]; rfl
  have hs : ([a, b].any fun | .Starred .. => true | _ => false) = false := by
    cases a <;> first | (exact no_ na) | (cases b <;> first | (exact no_ nb) | rfl)
  have he : [x, y].eraseDups.length = 2 := by
    rw [List.eraseDups_cons]
    have : (y == x) = false := by rw [beq_eq_false_iff_ne] at hxy ⊢; exact fun z => hxy z.symm
    simp [this, List.eraseDups_cons]
  unfold swappedStores
  have hl' : py.line = px.line := by simpa using hl
  simp [hb, kx, ky, hl, he, h1, h2, Expr.pos, List.filterMap_cons, hl']
  intro hh
  exfalso
  rcases hh with hh | hh
  · cases a <;> first | (exact no_ na) | (exact Bool.noConfusion hh)
  · cases b <;> first | (exact no_ nb) | (exact Bool.noConfusion hh)
theorem S_par (g : Good G F d c X) {i j : Nat} {a b : E} {x y : Str} {px py pt pt2 pos : Pos} {kt k2 : Nat} {ea eb : Expr} (h : parOk c (.Tuple [.Name x px, .Name y py] kt pt) (.Tuple [ea, eb] k2 pt2) i j = true)
    (ha : PE X ea (tvE X.K F a)) (hb : PE X eb (tvE X.K F b)) : PS X (.Assign [.Tuple [.Name x px, .Name y py] kt pt] (.Tuple [ea, eb] k2 pt2) pos) (tvS X.K F (.par i j a b)) := by
  simp only [parOk] at h
  obtain ⟨h, c11⟩ := and2 h
  obtain ⟨h, c10⟩ := and2 h
  obtain ⟨h, c9⟩ := and2 h
  obtain ⟨h, c8⟩ := and2 h
  obtain ⟨h, c7⟩ := and2 h
  obtain ⟨h, c6⟩ := and2 h
  obtain ⟨h, c5⟩ := and2 h
  obtain ⟨h, c4⟩ := and2 h
  obtain ⟨h, c3⟩ := and2 h
  obtain ⟨c0, c1, c2⟩ := and3 h
  rw [Bool.not_eq_true'] at c9 c10 c11
  have hlx := isLoc_of c3
  have hly := isLoc_of c4
  refine PS.weak (ps_par g.calm g.ndX (g.xN (of_decide_eq_true c0)) (g.xN (of_decide_eq_true c1)) (of_decide_eq_true c2) (by rw [g.sc]; exact hlx) (by rw [g.sc]; exact hly) (a_cons ha (a_cons hb a_nil c7) c6)
    (stores_par (by rw [g.sc]; exact hlx) (by rw [g.sc]; exact hly) (by rw [g.sc]; exact isFun_of c5) c6 c7 c8 c9 c10 c11)) fun D σ H ⟨mp, env, g, P, sr, hw, k⟩ => ?_
  simp only [wpS] at hw
  refine ⟨mp, env, g, fun ws g2 => match ws with
    | [x, y] => P.nx ((env.set i (some x)).set j (some y)) g2
    | _ => False, sr, by simp only [wpA]; exact hw, fun ws g1 hq mp1 H1 us e1 s1 r1 => ?_⟩
  cases ws with
  | nil => exact False.elim hq
  | cons w1 ws =>
    cases ws with
    | nil => exact False.elim hq
    | cons w2 ws =>
      cases ws with
      | cons _ _ => exact False.elim hq
      | nil =>
        simp only [RpL] at r1
        obtain ⟨u1, us1, rfl, r1, u2, us2, rfl, r2, rfl⟩ := r1
        exact ⟨u1, u2, rfl, k.nx _ _ hq mp1 H1 _ e1 ⟨((sr.1.ext e1).set r1 i).set r2 j, s1⟩⟩
theorem iopI0 {f : Value → Value → Sem Value} {k : Int → Int → Int} {op : Bop} (h0 : OpR X f (rI0 fun i j => .int (k i j)))
    (h : ∀ x y z, iop op x y = some z → ∃ i j, x = .int i ∧ y = .int j ∧ z = .int (k i j)) : OpS X f (fun _ => iop op) := by
  refine ⟨_, h0, fun mp g H x y u v z Q s rx ry e k => ?_⟩
  obtain ⟨i, j, rfl, rfl, rfl⟩ := h x y z e
  exact ⟨i, j, rx.intI, ry.intI, k mp H _ .refl s (by simp only [Rp])⟩
theorem iop_sound {op : Bop} {o : Operator} (h : augB op o = true) : OpS X (inplaceOp o) (fun _ => iop op) := by
  cases op <;> cases o <;> first | (exact no_ h) | skip
  · refine .or iop_add iop_add_str fun mp g H x y u v z Q s rx ry e k => ?_
    cases x <;> cases y <;> simp only [iop] at e <;> (try cases e)
    · exact .inl ⟨_, _, rx.intI, ry.intI, k mp H _ .refl s (.int _)⟩
    · obtain ⟨hz, e⟩ := ite_some e
      subst e
      obtain ⟨rx, okx⟩ := rx.strI
      obtain ⟨ry, oky⟩ := ry.strI
      exact .inr ⟨_, _, rx, ry, by rw [← str_append_length]; exact hz, k mp H _ .refl s (.str (okx.append oky hz))⟩
  · exact iopI0 iop_sub fun x y z e => by cases x <;> cases y <;> simp only [iop] at e <;> first | (cases e; done) | (cases e; exact ⟨_, _, rfl, rfl, rfl⟩)
  · exact iopI0 iop_and fun x y z e => by cases x <;> cases y <;> simp only [iop] at e <;> first | (cases e; done) | (cases e; exact ⟨_, _, rfl, rfl, rfl⟩)
  · exact iopI0 iop_or fun x y z e => by cases x <;> cases y <;> simp only [iop] at e <;> first | (cases e; done) | (cases e; exact ⟨_, _, rfl, rfl, rfl⟩)
  · exact iopI0 iop_xor fun x y z e => by cases x <;> cases y <;> simp only [iop] at e <;> first | (cases e; done) | (cases e; exact ⟨_, _, rfl, rfl, rfl⟩)
theorem S_aug (g : Good G F d c X) {i : Nat} {op : Bop} {o : Operator} {e : E} {x : Str} {v : Expr} {p pos : Pos} (hx : c.N[i]? = some x) (hl : locB c x = true) (ho : augB op o = true) (he : PE X v (tvE X.K F e)) :
    PS X (.AugAssign (.Name x p) o v pos) (tvS X.K F (.aug i op e)) := by
  obtain ⟨r, hr, hk⟩ := iop_sound (X := X) ho
  refine PS.weak (ps_aug g.ndX (g.xN hx) (g.locX hl) he hr (g.locF hl)) fun D σ H ⟨mp, env, g, P, sr, hw, k⟩ => ?_
  simp only [wpS] at hw
  obtain ⟨w, hw1, hw⟩ := hw
  obtain ⟨u, h1, r1⟩ := sr.1.slot hw1
  refine ⟨u, h1, mp, env, g, _, sr, hw, fun y g1 hq mp1 H1 u1 e1 s1 r2 => ?_⟩
  obtain ⟨z, hz, hq⟩ := hq
  exact hk mp1 g1 H1 w y u u1 z _ s1 (r1.ext e1) r2 hz fun mp2 H2 t e2 s2 r3 => k.nx _ _ hq mp2 H2 _ (e1.trans e2) ⟨(sr.1.ext (e1.trans e2)).set r3 i, s2⟩
theorem S_next {st : Stmt} (h : PS X st tNext) : PS X st (tvS X.K F .nop) := PS.weak h fun D σ H ⟨mp, env, g, P, sr, hw, k⟩ => k.nx env g (by simpa only [wpS] using hw) mp H σ .refl sr
theorem S_brk {pos : Pos} : PS X (.Break pos) (tvS X.K F .brk) := PS.weak ps_break fun D σ H ⟨mp, env, g, P, sr, hw, k⟩ => k.bk env g (by simpa only [wpS] using hw) mp H σ .refl sr
theorem S_cont {pos : Pos} : PS X (.Continue pos) (tvS X.K F .cont) := PS.weak ps_continue fun D σ H ⟨mp, env, g, P, sr, hw, k⟩ => k.ct env g (by simpa only [wpS] using hw) mp H σ .refl sr
theorem S_retN {pos : Pos} : PS X (.Return none pos) (tvS X.K F .retN) := PS.weak ps_retN fun D σ H ⟨mp, env, g, P, sr, hw, k⟩ => k.rt .non g (by simpa only [wpS] using hw) mp H .non .refl sr.2 (by simp only [Rp])
theorem S_ex {e : E} {v : Expr} {pos : Pos} (he : PE X v (tvE X.K F e)) (h : notComp v = true) : PS X (.Expr v pos) (tvS X.K F (.ex e)) :=
  PS.weak (ps_expr he (swaps_plain h)) fun D σ H ⟨mp, env, g, P, sr, hw, k⟩ => ⟨mp, env, g, fun _ g1 => P.nx env g1, sr, by simpa only [wpS] using hw, fun w g1 hq mp1 H1 u1 e1 s1 r1 => k.nx _ _ hq mp1 H1 _ e1 (sr.ext e1 s1)⟩
theorem B_nil : PSs X [] (tvS X.K F .nop) := PSs.weak pss_nil fun D σ H ⟨mp, env, g, P, sr, hw, k⟩ => k.nx env g (by simpa only [wpS] using hw) mp H σ .refl sr
theorem B_cons {a b : S} {st : Stmt} {rest : List Stmt} (ha : PS X st (tvS X.K F a)) (hb : PSs X rest (tvS X.K F b)) : PSs X (st :: rest) (tvS X.K F (.seq a b)) :=
  PSs.weak (pss_cons ha hb) fun D σ H ⟨mp, env, g, P, sr, hw, k⟩ => by
    simp only [wpS] at hw
    exact ⟨mp, env, g, _, sr, hw, ⟨fun e g1 q mp1 H1 σ1 e1 s1 => ⟨mp1, e, g1, P, s1, q, k.ext e1⟩, k.bk, k.ct, k.rt⟩⟩
/-- the text of a term runs as the term means -/
theorem stm : ∀ m : S, (∀ (c : Ctx) (X : Cx) (st : Stmt), Good G F d c X → chkS G c m st = true → PS X st (tvS X.K F m)) ∧ (∀ (c : Ctx) (X : Cx) (st : List Stmt), Good G F d c X → chkB G c m st = true → PSs X st (tvS X.K F m)) := by
  intro m
  induction m with
  | nop =>
    refine ⟨fun c X st g h => ?_, fun c X st g h => ?_⟩
    · cases st <;> try (exact no_ h)
      · rename_i v pos
        cases v <;> try (exact no_ h)
        rename_i k _ _
        cases k <;> try (exact no_ h)
        exact S_next ps_doc
      · exact S_next ps_pass
    · cases st with
      | nil => exact B_nil
      | cons _ _ => exact no_ h
  | seq a b iha ihb =>
    refine ⟨fun c X st g h => by cases st <;> exact no_ h, fun c X st g h => ?_⟩
    cases st with
    | nil => exact no_ h
    | cons st rest =>
      simp only [chkB] at h
      obtain ⟨h1, h2⟩ := and2 h
      exact B_cons (iha.1 c X st g h1) (ihb.2 c X rest g h2)
  | set t e =>
    refine ⟨fun c X st g h => ?_, fun c X st g h => by cases st <;> exact no_ h⟩
    cases st <;> try (exact no_ h)
    rename_i ts v pos
    cases ts with
    | nil => exact no_ h
    | cons tg ts =>
      cases ts with
      | cons _ _ => exact no_ h
      | nil =>
        simp only [chkS] at h
        obtain ⟨h1, h2, h3⟩ := and3 h
        rcases Bool.or_eq_true_iff.mp h3 with h3 | h3
        · exact S_set g h1 h2 h3
        · obtain ⟨h3, h4⟩ := and2 h3
          exact S_setLc g h1 h2 h3 h4
  | par i j a b =>
    refine ⟨fun c X st g h => ?_, fun c X st g h => by cases st <;> exact no_ h⟩
    cases st <;> try (exact no_ h)
    rename_i ts v pos
    cases ts with
    | nil => exact no_ h
    | cons tg ts =>
      cases ts with
      | cons _ _ => exact no_ h
      | nil =>
        simp only [chkS] at h
        obtain ⟨h1, h2⟩ := and2 h
        have h0 := h1
        unfold parOk at h1
        split at h1
        · simp only at h2
          obtain ⟨h2, h3⟩ := and2 h2
          exact S_par g h0 ((snd a).e c X _ g h2) ((snd b).e c X _ g h3)
        · cases h1
  | setix o i e =>
    refine ⟨fun c X st g h => ?_, fun c X st g h => by cases st <;> exact no_ h⟩
    cases st <;> try (exact no_ h)
    rename_i ts v pos
    cases ts with
    | nil => exact no_ h
    | cons tg ts =>
      cases ts with
      | cons _ _ => cases tg <;> exact no_ h
      | nil =>
        cases tg <;> try (exact no_ h)
        simp only [chkS] at h
        obtain ⟨h, h5⟩ := and2 h
        obtain ⟨h1, h2, h3, h4⟩ := and4 h
        exact S_setix g ((snd o).e c X _ g h1) ((snd i).e c X _ g h2) ((snd e).e c X _ g h3) h4 h5
  | setd o i e =>
    refine ⟨fun c X st g h => ?_, fun c X st g h => by cases st <;> exact no_ h⟩
    cases st <;> try (exact no_ h)
    rename_i ts v pos
    cases ts with
    | nil => exact no_ h
    | cons tg ts =>
      cases ts with
      | cons _ _ => cases tg <;> exact no_ h
      | nil =>
        cases tg <;> try (exact no_ h)
        simp only [chkS] at h
        obtain ⟨h, h5⟩ := and2 h
        obtain ⟨h1, h2, h3, h4⟩ := and4 h
        exact S_setd g ((snd o).e c X _ g h1) ((snd i).e c X _ g h2) ((snd e).e c X _ g h3) h4 h5
  | aug i op e =>
    refine ⟨fun c X st g h => ?_, fun c X st g h => by cases st <;> exact no_ h⟩
    cases st <;> try (exact no_ h)
    rename_i tg o v pos
    cases tg <;> try (exact no_ h)
    simp only [chkS] at h
    obtain ⟨h1, h2, h3, h4⟩ := and4 h
    exact S_aug g (of_decide_eq_true h1) h2 h3 ((snd e).e c X _ g h4)
  | ite t a b iha ihb =>
    refine ⟨fun c X st g h => ?_, fun c X st g h => by cases st <;> exact no_ h⟩
    cases st <;> try (exact no_ h)
    simp only [chkS] at h
    obtain ⟨h1, h2, h3⟩ := and3 h
    exact S_ite ((snd t).t c X _ g h1) (iha.2 c X _ g h2) (ihb.2 c X _ g h3)
  | loop gc t src body ih =>
    refine ⟨fun c X st g h => ?_, fun c X st g h => by cases st <;> exact no_ h⟩
    cases st <;> try (exact no_ h)
    rename_i tg it bd els pos
    cases els with
    | cons _ _ => exact no_ h
    | nil =>
      simp only [chkS] at h
      obtain ⟨h1, h2, h3, h4⟩ := and4 h
      exact S_loop g h1 h3 ((snd src).i c X tg it g h2) (ih.2 c X _ g h4)
  | whil gc t body ih =>
    refine ⟨fun c X st g h => ?_, fun c X st g h => by cases st <;> exact no_ h⟩
    cases st <;> try (exact no_ h)
    rename_i x bd els pos
    cases els with
    | cons _ _ => exact no_ h
    | nil =>
      simp only [chkS] at h
      obtain ⟨h1, h2⟩ := and2 h
      exact S_whil g ((snd t).t c X _ g h1) (ih.2 c X _ g h2)
  | ret e =>
    refine ⟨fun c X st g h => ?_, fun c X st g h => by cases st <;> exact no_ h⟩
    cases st <;> try (exact no_ h)
    rename_i v pos
    cases v with
    | none => exact no_ h
    | some v =>
      simp only [chkS] at h
      exact S_ret ((snd e).e c X _ g h)
  | retN =>
    refine ⟨fun c X st g h => ?_, fun c X st g h => by cases st <;> exact no_ h⟩
    cases st <;> try (exact no_ h)
    rename_i v pos
    cases v with
    | none => exact S_retN
    | some v => exact no_ h
  | ex e =>
    refine ⟨fun c X st g h => ?_, fun c X st g h => by cases st <;> exact no_ h⟩
    cases st <;> try (exact no_ h)
    simp only [chkS] at h
    obtain ⟨h1, h2⟩ := and2 h
    exact S_ex ((snd e).e c X _ g h1) h2
  | brk =>
    refine ⟨fun c X st g h => ?_, fun c X st g h => by cases st <;> exact no_ h⟩
    cases st <;> try (exact no_ h)
    exact S_brk
  | cont =>
    refine ⟨fun c X st g h => ?_, fun c X st g h => by cases st <;> exact no_ h⟩
    cases st <;> try (exact no_ h)
    exact S_cont
end
end Z
namespace Z
open PySem PySem.Spec L2
open PyProof.Rows hiding St
/-! ### binding -/
theorem lookup_zip_mem {x : Str} {u : Value} : ∀ {ps : List Str} {us : List Value} {i : Nat}, ps.Nodup → ps[i]? = some x → us[i]? = some u → (ps.zip us).lookup x = some u
  | [], _, _, _, h, _ => by simp at h
  | p :: ps, us, 0, nd, h, h2 => by
    cases us with
    | nil => simp at h2
    | cons v us =>
      simp at h h2
      subst h h2
      simp [List.lookup]
  | p :: ps, us, i + 1, nd, h, h2 => by
    cases us with
    | nil => simp at h2
    | cons v us =>
      have nd' := List.nodup_cons.mp nd
      have h' : ps[i]? = some x := by simpa using h
      have hx : x ∈ ps := List.mem_of_getElem? h'
      have hne : (x == p) = false := by
        rw [beq_eq_false_iff_ne]
        rintro rfl
        exact nd'.1 hx
      rw [List.zip_cons_cons, List.lookup_cons, hne]
      exact lookup_zip_mem nd'.2 h' (by simpa using h2)
theorem filterMap_zip {f : Str → Option Value} : ∀ {ps : List Str} {us : List Value}, us.length = ps.length → (∀ (i : Nat) (x : Str) (u : Value), ps[i]? = some x → us[i]? = some u → f x = some u) → ps.filterMap (fun n => (f n).map (n, ·)) = ps.zip us
  | [], us, hl, _ => by simp
  | p :: ps, [], hl, _ => by simp at hl
  | p :: ps, u :: us, hl, h => by
    rw [List.filterMap_cons, h 0 p u rfl rfl]
    simp only [Option.map_some, List.zip_cons_cons]
    rw [filterMap_zip (by simpa using hl) fun i x v h1 h2 => h (i + 1) x v (by simpa using h1) (by simpa using h2)]
theorem bind_plain {x qual : Str} {as : List Arg} {body : List Stmt} {scope : Scope} {kV doc pm : Value} {an : Option Addr} {cdv ct : Value} {us : List Value} (nd : (as.map (·.arg)).Nodup) (hl : us.length = (as.map (·.arg)).length) :
    bindArgs (PySem.W.fnOf x qual ⟨[], as, none, [], [], none, []⟩ body scope .none kV doc pm an cdv ct) ⟨us, []⟩ = pure ((as.map (·.arg)).zip us) := by
  have hlk : ∀ (i : Nat) (x : Str) (u : Value), (as.map (·.arg))[i]? = some x → us[i]? = some u → ((as.map (·.arg)).zip us).lookup x = some u := fun i x u h1 h2 => lookup_zip_mem nd h1 h2
  have hm : ((as.map (·.arg)).filter fun n => (((as.map (·.arg)).zip us).lookup n).isNone) = [] := by
    rw [List.filter_eq_nil_iff]
    intro n hn
    obtain ⟨i, hi, e⟩ := List.mem_iff_getElem.mp hn
    have h2 : us[i]? = some us[i] := List.getElem?_eq_getElem (by omega)
    rw [hlk i n _ (by rw [List.getElem?_eq_getElem hi, e]) h2]
    simp
  have hg : ¬ (us.length > (as.map (·.arg)).length) := by omega
  unfold bindArgs
  simp only [PySem.W.fnOf]
  simp [seqItems?, List.map_nil, hl, hm]
  rw [show notAStandIn Value.none = pure () from rfl, pure_bind, if_neg (by
    intro h
    rw [show (List.take ((List.map (fun x => x.arg) ([] : List Arg) ++ List.map (fun x => x.arg) as).length - (List.drop ((#[] : Array Value).size - (List.map (fun x => x.arg) ([] : List Arg) ++ List.map (fun x => x.arg) as).length) ([] : List Value)).length) (List.map (fun x => x.arg) ([] : List Arg) ++ List.map (fun x => x.arg) as)) = as.map (·.arg) from List.take_of_length_le (by simp), hm] at h
    simp at h)]
  rw [← List.filterMap_map, filterMap_zip hl hlk]
/-! ### defs -/
/-- the names of a def's scope -/
def scB (N P : List Str) (sc : Scope) : Bool :=
  decide (sc.kind = .function) && !sc.isCoroutine && !sc.isGenerator && decide N.Nodup && decide (N.take P.length = P) && P.all (fun x => decide (sc.names.lookup x = some .local) || decide (sc.names.lookup x = some .cell)) && sc.names.all (fun y => !decide (y.2 = .free))
theorem scB_ok {N P : List Str} {sc : Scope} (h : scB N P sc = true) : FnScope N P sc := by
  unfold scB at h
  simp only [Bool.and_eq_true, Bool.not_eq_true', decide_eq_true_eq, List.all_eq_true, Bool.or_eq_true, decide_eq_false_iff_not] at h
  obtain ⟨⟨⟨⟨⟨⟨h1, h2⟩, h3⟩, h4⟩, h5⟩, h6⟩, h7⟩ := h
  exact ⟨h1, h2, h3, h4, h5, h6, h7⟩
structure DefZ where
  name : Str
  args : Arguments
  body : List Stmt
  sc : Scope
  N : List Str
  m : Fn
def DefZ.ps (d : DefZ) : List Str := d.args.args.map (·.arg)
def DefZ.toD (d : DefZ) : He.DefD := ⟨(d.name, none), d.name, d.name, d.args, d.body, d.sc, [], []⟩
def plainArgs : Arguments → Bool
  | ⟨[], as, none, [], [], none, []⟩ => decide ((as.map (·.arg)).Nodup)
  | _ => false
def globs (Ds : List DefZ) (consts : List (Str × W)) (free : List Str) : Globs := ⟨Ds.map fun d => (d.name, d.m.np), consts, free⟩
def codeT (Ds : List DefZ) : List Fn := Ds.map (·.m)
def DefZ.ok (G : Globs) (d : DefZ) : Bool :=
  plainArgs d.args && scB d.N d.ps d.sc && chkB G ⟨d.N, d.sc, fun _ => true⟩ d.m.body d.body && decide (d.N.length = d.m.nv) && decide (d.ps.length = d.m.np)
theorem plainArgs_of {a : Arguments} (h : plainArgs a = true) : ∃ as : List Arg, a = ⟨[], as, none, [], [], none, []⟩ ∧ (as.map (·.arg)).Nodup := by
  unfold plainArgs at h
  split at h
  · exact ⟨_, rfl, of_decide_eq_true h⟩
  · cases h
theorem binds_of {K : Fr6} {d : DefZ} {f : Addr} {fd : FuncData} (ha : plainArgs d.args = true) (F : FunD K d.name d.name d.args d.body d.sc [] [] f fd) : ∀ (s : Shared) (us : List Value), us.length = d.ps.length → BindsTo s fd ⟨us, []⟩ (d.ps.zip us) := by
  intro s us hl
  refine FunD.bindsA (ps := d.ps) F (fun kV doc pm an cdv ct us hl => ?_) s us hl
  obtain ⟨as, e, nd⟩ := plainArgs_of ha
  unfold DefZ.ps at hl ⊢
  rw [e] at hl ⊢
  exact bind_plain nd hl
theorem start_env {K : Fr6} {mp : M} {H : Hp} {ws : List W} {vs : List V} {N : List Str} {nv : Nat} (hN : N.length = nv) (r : RpL K mp H ws vs) : EnvR K mp H (ws.map some ++ List.replicate (nv - ws.length) none) (L2.start N vs) := by
  have hl := r.length
  unfold L2.start
  rw [hN]
  refine ⟨by simp [hl], fun i w hw => ?_⟩
  by_cases hi : i < ws.length
  · rw [List.getElem?_append_left (by simpa using hi), List.getElem?_map] at hw
    cases h : ws[i]? with
    | none => rw [h] at hw; cases hw
    | some x =>
      rw [h] at hw
      cases hw
      obtain ⟨u, h1, h2⟩ := r.get h
      refine ⟨u, ?_, h2⟩
      rw [List.getElem?_append_left (by rw [List.length_map, ← hl]; exact hi), List.getElem?_map, h1]
      rfl
  · rw [List.getElem?_append_right (by simpa using hi), List.getElem?_replicate] at hw
    split at hw <;> cases hw
section
variable {P : Program} {w : World} {K : Fr6} {mg : Str → Option Value} {base : Heap} {Ds : List DefZ} {consts : List (Str × W)} {free : List Str}
/-- what the head says of the module -/
structure HeadZ (w : World) (K : Fr6) (mg : Str → Option Value) (Ds : List DefZ) (consts : List (Str × W)) (free : List Str) : Prop where
  def_ : ∀ d ∈ Ds, ∃ f fd, mg d.name = some (.ref f) ∧ FunD K d.name d.name d.args d.body d.sc [] [] f fd
  consts : ∀ p ∈ consts, ∃ v u, mg p.1 = some u ∧ RelV v u ∧ ConF w K p.2 v
  free : ∀ x ∈ free, mg x = none
theorem wpF_ar {T : List Fn} {n i : Nat} {fn : Fn} {ws : List W} {g : CH} {Q : WK} (h : wpF T n i ws g Q) (e : T[i]? = some fn) : ws.length = fn.np := by
  cases n with
  | zero => exact False.elim h
  | succ n =>
    obtain ⟨fn', h1, h2, _⟩ := h
    rw [nth_eq, e] at h1
    cases h1
    exact h2
theorem fn_ok {n i : Nat} {d : DefZ} {f : Addr} {fd : FuncData} (o : DefZ.ok (globs Ds consts free) d = true) (hdi : Ds[i]? = some d) (F : FunD K d.name d.name d.args d.body d.sc [] [] f fd)
    (ih : ∀ m, n = m + 1 → Facts P w K mg base (globs Ds consts free) (wpF (codeT Ds) m) m) : FnOk P w K mg base CX0 n f fd d.ps (spOf K (wpF (codeT Ds) n) i d.m.np) := by
  unfold DefZ.ok at o
  simp only [Bool.and_eq_true, decide_eq_true_eq] at o
  obtain ⟨⟨⟨⟨o1, o2⟩, o3⟩, o4⟩, o5⟩ := o
  cases n with
  | zero =>
    refine ⟨fun vs H Q E h => by rw [o5]; exact h.1, fun A outer s H args us vs Q E _ _ _ _ h => ?_⟩
    obtain ⟨_, mp, g, ws, Q0, _, _, h, _⟩ := h
    exact False.elim h
  | succ n =>
    have S := scB_ok o2
    refine F.ok S (fun vs H Q E h => by rw [o5]; exact h.1) fun cdv A outer s H vs Q E hr h => ?_
    have good : Good (globs Ds consts free) (wpF (codeT Ds) n) n ⟨d.N, d.sc, fun _ => true⟩ (cxOf CX0 P w K mg base d.N d.name d.sc f cdv A outer s H E).nox :=
      ⟨ih n rfl, rfl, S.nd, rfl, rfl, rfl, fun _ _ => rfl, hr⟩
    refine ⟨tvS K (wpF (codeT Ds) n) d.m.body, PSs.nox ((stm d.m.body).2 _ _ _ good o3), ?_⟩
    obtain ⟨hl, mp, g, ws, Q0, s0, r0, h, k⟩ := h
    obtain ⟨fn, h1, h2, h⟩ := h
    have e1 : fn = d.m := by
      rw [nth_eq] at h1
      unfold codeT at h1
      rw [List.getElem?_map, hdi] at h1
      exact (Option.some.inj h1).symm
    subst e1
    rw [shut_eq] at h
    refine ⟨mp, _, g, _, ⟨start_env o4 r0, s0⟩, h, ⟨?_, ?_, ?_, ?_⟩⟩
    · intro e g2 q mp' H' σ' x' s'
      unfold retEnd at q
      split at q
      · obtain ⟨v', g3, fz, fg, q⟩ := q
        obtain ⟨r1, s1, x1⟩ := ret_go (u := .non) s0 x' s'.2 (by simp only [Rp]) fz fg
        exact k _ _ q mp H' _ x1 s1 r1
      · exact k _ _ q mp' H' _ x' s'.2 (by simp only [Rp])
    · intro e g2 q
      exact False.elim q
    · intro e g2 q
      exact False.elim q
    · intro v g2 q mp' H' u x' s' r
      unfold retEnd at q
      split at q
      · obtain ⟨v', g3, fz, fg, q⟩ := q
        obtain ⟨r1, s1, x1⟩ := ret_go s0 x' s' r fz fg
        exact k _ _ q mp H' _ x1 s1 r1
      · exact k _ _ q mp' H' _ x' s' r
theorem facts_of (hh : HeadZ w K mg Ds consts free) (ok : Ds.all (DefZ.ok (globs Ds consts free)) = true) : ∀ n, Facts P w K mg base (globs Ds consts free) (wpF (codeT Ds) n) n := by
  have cs : ∀ (i : Nat) x c, (globs Ds consts free).consts[i]? = some (x, c) → ∃ v u, mg x = some u ∧ RelV v u ∧ ConF w K c v := fun i x c hi => hh.consts (x, c) (List.mem_of_getElem? hi)
  have oks : ∀ d ∈ Ds, DefZ.ok (globs Ds consts free) d = true := List.all_eq_true.mp ok
  have go : ∀ (i : Nat) x np, (globs Ds consts free).fns[i]? = some (x, np) → ∃ d ∈ Ds, Ds[i]? = some d ∧ d.name = x ∧ d.m.np = np := by
    intro i x np hi
    have hi' : (Ds.map fun d => (d.name, d.m.np))[i]? = some (x, np) := hi
    rw [List.getElem?_map] at hi'
    cases hd : Ds[i]? with
    | none => rw [hd] at hi'; cases hi'
    | some d =>
      rw [hd] at hi'
      cases hi'
      exact ⟨d, List.mem_of_getElem? hd, rfl, rfl, rfl⟩
  have ar : ∀ n (i : Nat) x np, (globs Ds consts free).fns[i]? = some (x, np) → ∀ ws g Q, wpF (codeT Ds) n i ws g Q → ws.length = np := by
    intro n i x np hi ws g Q h
    obtain ⟨d, hd, hdi, rfl, rfl⟩ := go i x np hi
    exact wpF_ar h (by unfold codeT; rw [List.getElem?_map, hdi]; rfl)
  have one : ∀ n, (∀ m, n = m + 1 → Facts P w K mg base (globs Ds consts free) (wpF (codeT Ds) m) m) → Facts P w K mg base (globs Ds consts free) (wpF (codeT Ds) n) n := by
    intro n ih
    refine ⟨fun i x np hi => ?_, cs, hh.free, ar n⟩
    obtain ⟨d, hd, hdi, rfl, rfl⟩ := go i x np hi
    obtain ⟨f, fd, hm, F⟩ := hh.def_ d hd
    have o := oks d hd
    have o' := o
    unfold DefZ.ok at o
    simp only [Bool.and_eq_true, decide_eq_true_eq] at o
    obtain ⟨⟨⟨⟨o1, o2⟩, o3⟩, o4⟩, o5⟩ := o
    refine ⟨f, fd, d.ps, hm, F.kp, o5, fun s us _ hl => ?_, fn_ok o' hdi F ih⟩
    rw [List.append_nil] at hl ⊢
    exact binds_of o1 F s us hl
  intro n
  induction n with
  | zero => exact one 0 fun m e => by cases e
  | succ n ih => exact one (n + 1) fun m e => by cases e; exact ih
end
end Z
namespace Z
open PySem PySem.Spec L2
open PyProof.Rows hiding St
/-! ### the module's constants -/
mutual
def conB (K : Fr6) : W → Value → Bool
  | .non, .none => true
  | .bl a, .bool b => a == b
  | .int i, .int j _ => decide (i = j)
  | .str x, .str y _ => decide (x = y) && decide (x.length ≤ sizeLine) && x.cps.all (· < 0x110000)
  | .tup xs, .ref a => (match K.lookup a with
    | some ⟨.type c, none, .seq its _, _⟩ => decide (c = "tuple") && decide (its.size ≤ sizeLine) && conBs K xs its.toList
    | _ => false)
  | .lck xs, .ref a => (match K.lookup a with
    | some ⟨.type c, none, .seq its _, _⟩ => decide (c = "list") && decide (its.size ≤ sizeLine) && conBs K xs its.toList
    | _ => false)
  | _, _ => false
def conBs (K : Fr6) : List W → List Value → Bool
  | [], [] => true
  | x :: xs, u :: us => conB K x u && conBs K xs us
  | _, _ => false
end
mutual
theorem conB_ok {K : Fr6} : ∀ {x : W} {u : Value}, conB K x u = true → ∃ v, RelV v u ∧ ∀ mp H, Rp K mp H x v
  | .non, u, h => by
    cases u <;> try (exact no_ h)
    exact ⟨.non, rfl, fun _ _ => .non⟩
  | .bl a, u, h => by
    cases u <;> try (exact no_ h)
    simp only [conB, beq_iff_eq] at h
    subst h
    exact ⟨.bl a, rfl, fun _ _ => .bl _⟩
  | .int a, u, h => by
    cases u <;> try (exact no_ h)
    simp only [conB, decide_eq_true_eq] at h
    subst h
    exact ⟨.int a, ⟨_, rfl⟩, fun _ _ => .int _⟩
  | .str a, u, h => by
    cases u <;> try (exact no_ h)
    simp only [conB] at h
    obtain ⟨h1, h2, h3⟩ := and3 h
    have h1 := of_decide_eq_true h1
    subst h1
    exact ⟨.str a, ⟨_, rfl⟩, fun _ _ => .str ⟨of_decide_eq_true h2, h3⟩⟩
  | .tup xs, u, h => by
    cases u <;> try (exact no_ h)
    rename_i a
    simp only [conB] at h
    cases q : K.lookup a with
    | none => rw [q] at h; cases h
    | some o =>
      obtain ⟨oc, od, dt, osl⟩ := o
      rw [q] at h
      cases oc <;> try (exact no_ h)
      cases od <;> try (exact no_ h)
      cases dt <;> try (exact no_ h)
      rename_i c its m
      simp only at h
      obtain ⟨h1, h2, h3⟩ := and3 h
      obtain ⟨vs, r, k⟩ := conBs_ok h3
      have hl : vs.length ≤ sizeLine := by
        rw [r.length, Array.length_toList]
        exact of_decide_eq_true h2
      refine ⟨.ref a, rfl, fun mp H => ?_⟩
      simp only [Rp]
      exact ⟨a, vs, rfl, ⟨hl, .inr ⟨_, its, m, q, congrArg Value.type (of_decide_eq_true h1), rfl, rfl, of_decide_eq_true h2, r⟩⟩, k mp H⟩
  | .lck xs, u, h => by
    cases u <;> try (exact no_ h)
    rename_i a
    simp only [conB] at h
    cases q : K.lookup a with
    | none => rw [q] at h; cases h
    | some o =>
      obtain ⟨oc, od, dt, osl⟩ := o
      rw [q] at h
      cases oc <;> try (exact no_ h)
      cases od <;> try (cases dt <;> exact no_ h)
      cases dt <;> try (exact no_ h)
      rename_i c its m
      simp only at h
      obtain ⟨h1, h2, h3⟩ := and3 h
      obtain ⟨vs, r, k⟩ := conBs_ok h3
      have hl : vs.length ≤ sizeLine := by
        rw [r.length, Array.length_toList]
        exact of_decide_eq_true h2
      refine ⟨.ref a, rfl, fun mp H => ?_⟩
      simp only [Rp]
      exact ⟨a, vs, rfl, ⟨hl, .inr ⟨_, its, m, q, congrArg Value.type (of_decide_eq_true h1), rfl, rfl, of_decide_eq_true h2, r⟩⟩, k mp H⟩
  | .lst xs, u, h => by cases u <;> exact no_ h
  | .dct _ _, u, h => by cases u <;> exact no_ h
  | .ob _, u, h => by cases u <;> exact no_ h
theorem conBs_ok {K : Fr6} : ∀ {xs : List W} {us : List Value}, conBs K xs us = true → ∃ vs, Vals vs us ∧ ∀ mp H, RpL K mp H xs vs
  | [], us, h => by
    cases us with
    | nil => exact ⟨[], .nil, fun _ _ => .nil⟩
    | cons _ _ => exact no_ h
  | x :: xs, us, h => by
    cases us with
    | nil => exact no_ h
    | cons u us =>
      simp only [conBs] at h
      obtain ⟨h1, h2⟩ := and2 h
      obtain ⟨v, r, k⟩ := conB_ok h1
      obtain ⟨vs, rs, ks⟩ := conBs_ok h2
      exact ⟨v :: vs, .cons r rs, fun mp H => .cons (k mp H) (ks mp H)⟩
end
/-! ### the Hook -/
def conDs (K : Fr6) (a : Addr) : List W → List W → Bool
  | .str k :: ks, x :: xs => (match PySem.W.nsIn K a k with
    | some (some u) => conB K x u
    | _ => false) && conDs K a ks xs
  | [], [] => true
  | _, _ => false
def conOk (K : Fr6) (p : Str × W) : Bool := match PySem.W.nsIn K mainGlobals p.1 with
  | some (some u) => (match p.2, u with
    | .dct ks xs, .ref a => conDs K a ks xs
    | .dct _ _, _ => false
    | x, u => conB K x u)
  | _ => false
/-- the texts of a dict's keys -/
def txtsOf : List W → List Str
  | .str k :: ks => k :: txtsOf ks
  | _ => []
def dctsOf : List (Str × W) → List (Str × List Str)
  | [] => []
  | (x, .dct ks _) :: r => (x, txtsOf ks) :: dctsOf r
  | _ :: r => dctsOf r
def dicAt (K : Fr6) (x : Str) : Option (List (Option (Str × Int))) := match PySem.W.nsIn K mainGlobals x with
  | some (some (.ref a)) => He.dicW K a
  | _ => none
theorem dctsOf_mem {x : Str} {ks xs : List W} : ∀ {cs : List (Str × W)}, (x, .dct ks xs) ∈ cs → (x, txtsOf ks) ∈ dctsOf cs
  | p :: r, h => by
    rcases List.mem_cons.mp h with e | h
    · subst e
      exact List.mem_cons_self
    · have ih := dctsOf_mem h
      obtain ⟨y, w⟩ := p
      cases w <;> first | exact ih | exact List.mem_cons_of_mem _ ih
theorem conDs_ok {K : Fr6} {a : Addr} : ∀ {ks xs : List W}, conDs K a ks xs = true → ∀ s x, kfind ks xs s = some x → ∃ v u, PySem.W.nsIn K a s = some (some u) ∧ RelV v u ∧ ∀ mp H, Rp K mp H x v
  | [], xs, h, s, x, e => by cases xs <;> cases e
  | k :: ks, [], h, s, x, e => by cases k <;> cases e
  | k :: ks, y :: ys, h, s, x, e => by
    cases k <;> try (cases e)
    rename_i k
    simp only [conDs] at h
    obtain ⟨h1, h2⟩ := and2 h
    simp only [kfind] at e
    split at e
    · rename_i e1
      subst e1
      cases e
      split at h1
      · rename_i u hu
        obtain ⟨v, r, k⟩ := conB_ok h1
        exact ⟨v, u, hu, r, k⟩
      · cases h1
    · exact conDs_ok h2 s x e
def fas (Ds : List DefZ) (free : List Str) : List He.Fa := (Ds.map fun d => He.Fa.glo d.name) ++ free.map He.Fa.free
abbrev AlZ : Type := Bool × He.AlD × List (Option (List (Option (Str × Int))))
def obsZ (cs : List (Str × W)) (free : List Str) (Ds : List DefZ) (K : Fr6) : AlZ := (cs.all (conOk K), He.obsD (fas Ds free) (Ds.map DefZ.toD) K, (dctsOf cs).map fun p => dicAt K p.1)
def valZ (cs : List (Str × W)) (Ds : List DefZ) (w : World) : AlZ := (true, He.valD (Ds.map DefZ.toD), (dctsOf cs).map fun p => some (He.keysIn w.params p.2))
def obsZG (n : Nat) (cs : List (Str × W)) (free : List Str) (Ds : List DefZ) (g : Addr → Option Obj) : AlZ := obsZ cs free Ds (He.frG g (He.asD g n))
def hookZ (n : Nat) (cs : List (Str × W)) (free : List Str) (Ds : List DefZ) : PySem.W.Hook where
  α := AlZ
  obs := fun s => obsZG n cs free Ds s.heap.get?
  val := fun w => valZ cs Ds w
  says := fun w h => ∃ K : PySem.W.Frag, K.In h ∧ obsZ cs free Ds K = valZ cs Ds w
  of := fun _ _ e => ⟨_, He.frG_in, e⟩
  keeps := fun _ _ _ ⟨K, hK, c⟩ k => ⟨K, PySem.W.Frag.In.keeps hK k, c⟩
theorem obsZG_eq {n : Nat} {cs : List (Str × W)} {free : List Str} {Ds : List DefZ} {g : Addr → Option Obj} {s : Shared} (h : ∀ a, g a = s.heap.get? a) : obsZG n cs free Ds g = (hookZ n cs free Ds).obs s := by
  have e : g = s.heap.get? := funext h
  rw [e] <;> rfl
theorem headZ {w : World} {K : Fr6} {h : Heap} {mg : Str → Option Value} {cs : List (Str × W)} {free : List Str} {Ds : List DefZ} (X : K.In h) (G : h.Ns mainGlobals mg) (c : obsZ cs free Ds K = valZ cs Ds w) : HeadZ w K mg Ds cs free := by
  have c1 : cs.all (conOk K) = true := congrArg (fun z : AlZ => z.1) c
  have c2 : He.SaysD (fas Ds free) (Ds.map DefZ.toD) K := congrArg (fun z : AlZ => z.2.1) c
  have c3 : ((dctsOf cs).map fun p => dicAt K p.1) = (dctsOf cs).map fun p => some (He.keysIn w.params p.2) := congrArg (fun z : AlZ => z.2.2) c
  refine ⟨fun d hd => ?_, fun p hp => ?_, fun x hx => ?_⟩
  · obtain ⟨i, hi, e⟩ := List.mem_iff_getElem.mp hd
    have e' : Ds[i]? = some d := by rw [List.getElem?_eq_getElem hi, e]
    obtain ⟨fd, F⟩ := c2.def_ i (d := d.toD) (by rw [List.getElem?_map, e']; rfl)
    exact ⟨_, fd, He.glo_ok X G (c2.fact i (f := .glo d.name) (by
      unfold fas
      rw [List.getElem?_append_left (by rw [List.length_map]; exact hi), List.getElem?_map, e']; rfl)), F⟩
  · have h1 := List.all_eq_true.mp c1 p hp
    unfold conOk at h1
    split at h1
    · rename_i u hu
      obtain ⟨x, c⟩ := p
      have flat : ∀ c : W, conB K c u = true → flatC c = true → ∃ v u, mg x = some u ∧ RelV v u ∧ ConF w K c v := fun c h f => by
        obtain ⟨v, r, k⟩ := conB_ok h
        exact ⟨v, u, PySem.W.mg_of X G hu, r, by cases c <;> first | exact k | cases f⟩
      cases c with
      | dct ks xs =>
        cases u <;> try (cases h1)
        rename_i a
        have hd := (List.map_inj_left.mp c3) _ (dctsOf_mem hp)
        unfold dicAt at hd
        dsimp only at hd hu
        rw [hu] at hd
        obtain ⟨es, n, h5, h6, _⟩ := He.dicW_ok hd
        refine ⟨.ref a, .ref a, PySem.W.mg_of X G hu, rfl, a, rfl, fun s x e => ?_⟩
        obtain ⟨v, u, h2, h3, h4⟩ := conDs_ok h1 s x e
        exact ⟨v, ⟨es, n, u, h5, h6, h2, h3⟩, h4⟩
      | _ => exact flat _ h1 rfl
    · cases h1
  · obtain ⟨i, hi, e⟩ := List.mem_iff_getElem.mp hx
    have e' : free[i]? = some x := by rw [List.getElem?_eq_getElem hi, e]
    exact He.free_ok X G (c2.fact (Ds.length + i) (f := .free x) (by
      unfold fas
      rw [List.getElem?_append_right (by rw [List.length_map]; omega), List.length_map, List.getElem?_map, Nat.add_sub_cancel_left, e']; rfl))
/-- the world, its word about one rule told (a dict with text keys at the top asks for it) -/
def setF (w : World) (b : Bool) : World := { w with params := { w.params with followText := fun s => if s = "special-get-raises" then b else w.params.followText s } }
theorem setF_eq (w : World) : setF w (w.params.followText "special-get-raises") = w := by
  unfold setF
  have e : (fun s => if s = "special-get-raises" then w.params.followText "special-get-raises" else w.params.followText s) = w.params.followText := by
    funext s
    split
    · rename_i h; rw [h]
    · rfl
  rw [e]
/-- the end of a law -/
theorem walk_Z {l : PySem.W.OpenLaw} {n k step iL : Nat} {q : Program} {loose : List Str} {XP : (Str → Option Value) → Heap → Prop} {d : DefRec} {cs : List (Str × W)} {free : List Str} {Ds : List DefZ} {dl : DefZ} {x : Str}
    (hn : l.most = some n) (hn2 : n ≤ sizeLine) (hdf : d.params.defaults = []) (hr : Room k callerA)
    (ok : Ds.all (DefZ.ok (globs Ds cs free)) = true) (hi : Ds[iL]? = some dl) (hname : d.name = dl.name) (hps : dl.ps = [x])
    (H : ∀ ns : List Int, ns.length ≤ n → wpF (codeT Ds) k iL [.lck (ns.map .int)] [] (fun v _ => v = .bl true)) :
    PySem.W.WalkO q loose XP (hookZ step cs free Ds).says l.row.toRowW d [] (fun f vs => PySem.call f vs) := by
  refine L2.walk_ofE (l := l) (n := n) (k := k) (x := x) (CX := CX0) hn hn2 hdf hr (fun w mg fa h Y G hmg => ?_) (fun _ _ _ _ z => z)
  obtain ⟨K, KX, c⟩ := Y
  have hh := headZ KX G c
  obtain ⟨f, fd, hm, F⟩ := hh.def_ dl (List.mem_of_getElem? hi)
  rw [hname, hm] at hmg
  cases hmg
  have o := List.all_eq_true.mp ok dl (List.mem_of_getElem? hi)
  unfold DefZ.ok at o
  simp only [Bool.and_eq_true, decide_eq_true_eq] at o
  obtain ⟨⟨⟨⟨o1, o2⟩, o3⟩, o4⟩, o5⟩ := o
  have hb : ∀ (s : Shared) (u : Value), BindsTo s fd ⟨[u], []⟩ [(x, u)] := fun s u => by
    have := binds_of o1 F s [u] (by rw [hps]; rfl)
    rw [hps] at this
    exact this
  refine ⟨K, fd, spOf K (wpF (codeT Ds) k) iL dl.m.np, KX, hb, fun H0 a ns hl hO hS => ?_, fun base KB GB => ?_⟩
  · refine ⟨by rw [← o5, hps]; rfl, ⟨[], []⟩, [], [.lck (ns.map .int)], _, ⟨by simp, rfl, fun i w h => by simp at h, fun b h => by simp at h, by simp⟩, .cons ?_ .nil, H ns hl, fun v g' hv mp' H' u _ _ r => ?_⟩
    · simp only [Rp]
      refine ⟨a, ns.map V.int, rfl, ⟨by rw [List.length_map]; omega, ?_⟩, RpL.of_ints ns⟩
      rcases hS with hS | hS
      · exact .inl ⟨hS, fun z => by rcases z with z | z <;> simp at z⟩
      · exact .inr hS
    · subst hv
      exact r.blI
  · have hh := headZ KB GB c
    obtain ⟨f2, fd2, hm2, F2⟩ := hh.def_ dl (List.mem_of_getElem? hi)
    rw [← hps]
    exact fn_ok (List.all_eq_true.mp ok dl (List.mem_of_getElem? hi)) hi F fun m _ => facts_of hh ok m
end Z
namespace Z
open PySem PySem.Spec L2
open PyProof.Rows hiding St
/-! ### steps -/
theorem zmap_cons {α β : Type} {f : α → β} {a : α} {l : List α} : List.map f (a :: l) = f a :: List.map f l := rfl
theorem zmap_nil {α β : Type} {f : α → β} : List.map f [] = [] := rfl
theorem zcons_app {α : Type} {a : α} {l m : List α} : a :: l ++ m = a :: (l ++ m) := rfl
theorem znil_app {α : Type} {l : List α} : [] ++ l = l := rfl
theorem zwipe0 {env : Env} : wipeE env [] = env := rfl
theorem zwipeS {env : Env} {v : Nat} {vs : List Nat} : wipeE env (v :: vs) = (wipeE env vs).set v none := rfl
theorem zset0 {α : Type} {a b : α} {l : List α} : (a :: l).set 0 b = b :: l := rfl
theorem zsetS {α : Type} {a b : α} {l : List α} {n : Nat} : (a :: l).set (n + 1) b = a :: l.set n b := rfl
section
variable {F : FSem} {env : Env} {g : CH} {Q : WK}
theorem opt_i {α : Type} {o : Option α} {Q : α → Prop} {v : α} (h : o = some v) (q : Q v) : opt o Q := ⟨v, h, q⟩
theorem opt_id {α : Type} {o : Option α} {Q : α → Prop} (h : opt o Q) : opt o Q := h
theorem nx_seq {P : Post} {k : Env → CH → Prop} (h : k env g) : (P.seq k).nx env g := h
theorem nx_turn {P : Post} {k : Env → CH → Prop} (h : k env g) : (P.turn k).nx env g := h
theorem ct_turn {P : Post} {k : Env → CH → Prop} (h : k env g) : (P.turn k).ct env g := h
theorem bk_turn {P : Post} {k : Env → CH → Prop} (h : P.nx env g) : (P.turn k).bk env g := h
theorem rt_turn {P : Post} {k : Env → CH → Prop} {v : W} (h : P.rt v g) : (P.turn k).rt v g := h
theorem rt_seq {P : Post} {k : Env → CH → Prop} {v : W} (h : P.rt v g) : (P.seq k).rt v g := h
theorem bk_seq {P : Post} {k : Env → CH → Prop} (h : P.bk env g) : (P.seq k).bk env g := h
theorem ct_seq {P : Post} {k : Env → CH → Prop} (h : P.ct env g) : (P.seq k).ct env g := h
theorem fn_rt {R : WK} {v : W} (h : R v g) : (Post.fn R).rt v g := h
theorem fn_nx {R : WK} (h : R .non g) : (Post.fn R).nx env g := h
theorem k_i {w : W} (h : Q w g) : wpE F (.k w) env g Q := h
theorem gl_i {w : W} {n : Nat} (h : Q w g) : wpE F (.gl w n) env g Q := h
theorem anil_i {R : List W → CH → Prop} (h : R [] g) : wpA F .nil env g R := h
theorem tnil_i {R : Bool → CH → Prop} (h : R true g) : wpT F .nil env g R := h
theorem seq_i {a b : S} {P : Post} (h : wpS F a env g (P.seq fun e g1 => wpS F b e g1 P)) : wpS F (.seq a b) env g P := h
theorem reti {e : E} {P : Post} (h : wpE F e env g P.rt) : wpS F (.ret e) env g P := h
theorem nop_i {P : Post} (h : P.nx env g) : wpS F .nop env g P := h
theorem call_id {T : List Fn} {d f : Nat} {ws : List W} (h : wpC T d f ws g Q) : wpC T d f ws g Q := h
theorem ret_id {gc : Bool} {g0 g2 : CH} {v : W} (h : retEnd gc g0 Q v g2) : retEnd gc g0 Q v g2 := h
theorem turn_id {gc : Bool} {e0 e2 : Env} {g0 g2 : CH} {k : Env → CH → Prop} (h : turnEnd gc e0 g0 k e2 g2) : turnEnd gc e0 g0 k e2 g2 := h
theorem forL_id {gc : Bool} {e0 : Env} {g0 : CH} {t : T} {body : Env → CH → Post → Prop} {o : Option Nat} {all xs : List W} {P : Post} (h : forL gc e0 g0 t body o all xs env g P) : forL gc e0 g0 t body o all xs env g P := h
theorem ite_id {c A B : Prop} [Decidable c] (h : if c then A else B) : if c then A else B := h
theorem put_i {xs : List W} {i : Nat} {w : W} {Q : List W → Prop} (q : Q (xs.set i w)) : opt (putL xs i w) Q := ⟨_, rfl, q⟩
theorem add_i {xs : List W} {w : W} {Q : List W → Prop} (q : Q (xs ++ [w])) : opt (addL xs w) Q := ⟨_, rfl, q⟩
theorem opt_asg {t : T} {w : W} {env e1 : Env} {Q : Env → Prop} (h : asg t w env = some e1) (q : Q e1) : opt (asg t w env) Q := ⟨e1, h, q⟩
theorem fn_i {T : List Fn} {d f np nv : Nat} {gc : Bool} {body : S} {ws : List W} {e : Env} (h : nth T f = some ⟨np, nv, gc, body⟩) (hl : ws.length = np) (he : ws.map some ++ List.replicate (nv - ws.length) none = e) (q : wpS (wpC T d) body e g (Post.fn (retEnd gc g Q))) : wpC T (d + 1) f ws g Q := by
  subst he
  exact wpC_succ.mpr ⟨_, h, hl, q⟩
theorem opt_mul {i j : Int} {Q : W → Prop} (h : mulOk i j) (q : Q (.int (i * j))) : opt (bop .mul (.int i) (.int j)) Q := ⟨_, if_pos h, q⟩
theorem opt_mod {i j : Int} {Q : W → Prop} (h : 0 < j) (q : Q (.int (i % j))) : opt (bop .mod (.int i) (.int j)) Q := ⟨_, if_pos h, q⟩
theorem opt_fdiv {i j : Int} {Q : W → Prop} (h : 0 < j ∧ j.natAbs.log2 < 9000) (q : Q (.int (i / j))) : opt (bop .fdiv (.int i) (.int j)) Q := ⟨_, if_pos h, q⟩
theorem opt_pow {i j : Int} {Q : W → Prop} (h : 0 ≤ j ∧ j ≤ 1000000 ∧ i.natAbs < 2 ^ 64) (q : Q (.int (i ^ j.toNat))) : opt (bop .pow (.int i) (.int j)) Q := ⟨_, if_pos h, q⟩
theorem opt_shl {i j : Int} {Q : W → Prop} (h : shlOk i j) (q : Q (.int (i * 2 ^ j.toNat))) : opt (bop .shl (.int i) (.int j)) Q := ⟨_, if_pos h, q⟩
theorem opt_shr {i j : Int} {Q : W → Prop} (h : 0 ≤ j) (q : Q (.int (i / 2 ^ j.toNat))) : opt (bop .shr (.int i) (.int j)) Q := ⟨_, if_pos h, q⟩
theorem opt_tup {xs ys : List W} {Q : W → Prop} (h : xs.length + ys.length ≤ sizeLine) (q : Q (.tup (xs ++ ys))) : opt (bop .add (.tup xs) (.tup ys)) Q := ⟨_, if_pos (by rw [List.length_append]; exact h), q⟩
theorem opt_tups {xs : List W} {Q : W → Prop} (h : xs.length ≤ sizeLine) (q : Q (.tup xs)) : opt (tups xs) Q := ⟨_, if_pos h, q⟩
theorem opt_rng {i j : Int} {Q : List W → Prop} (h : rngOk i j) (q : Q (rangeW i (j - i).toNat)) : opt (rngW (.int i) (.int j)) Q := ⟨_, if_pos h, q⟩
theorem eqInt {g : CH} {i j : Int} : eqD g (.int i) (.int j) = some (decide (i = j)) := by
  simp [eqD, dr, dat, PyData.depth, PyData.eqv]
  by_cases h : i = j <;> simp [h]
theorem opt_eq {g : CH} {i j : Int} {Q : Bool → Prop} (q : Q (decide (i = j))) : opt (cop g .eq (.int i) (.int j)) Q := ⟨_, eqInt (g := g), q⟩
theorem opt_ne {g : CH} {i j : Int} {Q : Bool → Prop} (q : Q (!decide (i = j))) : opt (cop g .ne (.int i) (.int j)) Q := ⟨_, by simp only [cop, eqInt (g := g)]; rfl, q⟩
theorem if_b {c : Bool} {A B : Prop} (h1 : c = true → A) (h2 : c = false → B) : if c = true then A else B := by cases c <;> simp_all
theorem if_t {c : Bool} {A B : Prop} (h : c = true) (a : A) : if c = true then A else B := by rw [if_pos h]; exact a
theorem if_f {c : Bool} {A B : Prop} (h : c = false) (b : B) : if c = true then A else B := by rw [if_neg (by rw [h]; decide)]; exact b
theorem if_d {c : Prop} [Decidable c] {A B : Prop} (h1 : c → A) (h2 : ¬ c → B) : if decide c = true then A else B := by
  by_cases h : c
  · simp [h, h1]
  · simp [h, h2]
theorem if_n {c : Prop} [Decidable c] {A B : Prop} (h1 : ¬ c → A) (h2 : c → B) : if (!decide c) = true then A else B := by
  by_cases h : c
  · simp [h, h2]
  · simp [h, h1]
theorem forL_cons {gc : Bool} {e0 : Env} {g0 : CH} {t : T} {body : Env → CH → Post → Prop} {all xs : List W} {x : W} {P : Post} (h : opt (asg t x env) fun env1 => body env1 g (P.turn (turnEnd gc e0 g0 fun e g => forL gc e0 g0 t body none all xs e g P))) : forL gc e0 g0 t body none all (x :: xs) env g P := ⟨trivial, h⟩
theorem forL_nil {gc : Bool} {e0 : Env} {g0 : CH} {t : T} {body : Env → CH → Post → Prop} {all : List W} {P : Post} (h : P.nx env g) : forL gc e0 g0 t body none all [] env g P := ⟨trivial, h⟩
/-- a for, by an invariant -/
theorem for_inv {gc : Bool} {e0 : Env} {g0 : CH} {t : T} {body : Env → CH → Post → Prop} {o : Option Nat} {all : List W} {P : Post} (I : Nat → Env → CH → Prop)
    (hs : ∀ (i : Nat) (x : W) (k : Env → CH → Prop), all[i]? = some x → (∀ e g, I (i + 1) e g → k e g) → ∀ e g, I i e g → stays g o all ∧ opt (asg t x e) fun e1 => body e1 g (P.turn (turnEnd gc e0 g0 k)))
    (he : ∀ e g, I all.length e g → stays g o all ∧ P.nx e g) (h0 : I 0 env g) : forL gc e0 g0 t body o all all env g P := by
  have go : ∀ n i, i + n = all.length → ∀ e g, I i e g → forL gc e0 g0 t body o all (all.drop i) e g P := by
    intro n
    induction n with
    | zero =>
      intro i hi e g h
      have : i = all.length := by omega
      subst this
      rw [List.drop_length]
      exact he e g h
    | succ n ih =>
      intro i hi e g h
      have hx : all[i]? = some all[i] := List.getElem?_eq_getElem (by omega)
      rw [drop_cons hx]
      exact hs i _ _ hx (fun e g h => ih (i + 1) (by omega) e g h) e g h
  have := go all.length 0 (by omega) env g h0
  simpa using this
theorem lc_inv {t : T} {tst : Env → CH → (Bool → CH → Prop) → Prop} {elt : Env → CH → WK → Prop} {env0 : Env} {o : Option Nat} {all : List W} {Q : List W → CH → Prop} (I : Nat → List W → CH → Prop)
    (hs : ∀ (i : Nat) (x : W) (acc : List W) (g : CH) (k : List W → CH → Prop), all[i]? = some x → I i acc g → (∀ acc g, I (i + 1) acc g → k acc g) →
      stays g o all ∧ opt (asg t x env0) fun env1 => tst env1 g fun b g1 => if b = true then elt env1 g1 fun w g2 => k (acc ++ [w]) g2 else k acc g1)
    (he : ∀ acc g, I all.length acc g → stays g o all ∧ Q acc g) (h0 : I 0 [] g) : lcL t tst elt env0 o all all [] g Q := by
  have go : ∀ n i, i + n = all.length → ∀ acc g, I i acc g → lcL t tst elt env0 o all (all.drop i) acc g Q := by
    intro n
    induction n with
    | zero =>
      intro i hi e g h
      have : i = all.length := by omega
      subst this
      rw [List.drop_length]
      exact he e g h
    | succ n ih =>
      intro i hi acc g h
      have hx : all[i]? = some all[i] := List.getElem?_eq_getElem (by omega)
      rw [drop_cons hx]
      exact hs i _ acc g (fun acc g => lcL t tst elt env0 o all (all.drop (i + 1)) acc g Q) hx h fun acc g h => ih (i + 1) (by omega) acc g h
  have := go all.length 0 (by omega) [] g h0
  simpa using this
theorem ret_ng {g0 g2 : CH} {v : W} (h : Q v g2) : retEnd false g0 Q v g2 := h
theorem turn_ng {e0 e2 : Env} {g0 g2 : CH} {k : Env → CH → Prop} (h : k e2 g2) : turnEnd false e0 g0 k e2 g2 := h
theorem log2_le {x : Nat} {n : Nat} (h : x < 2 ^ n) (hn : 0 < n) : x.log2 < n := by
  by_cases h0 : x = 0
  · subst h0; simpa using hn
  · exact (Nat.log2_lt h0).mpr h
/-- an int of at most n bits -/
def Bt (n : Nat) (i : Int) : Prop := i.natAbs < 2 ^ n
theorem Bt.mono {n m : Nat} {i : Int} (h : Bt n i) (l : n ≤ m) : Bt m i := Nat.lt_of_lt_of_le h (Nat.pow_le_pow_right (by decide) l)
theorem Bt.add {n m : Nat} {i j : Int} (h1 : Bt n i) (h2 : Bt m j) : Bt (n + m + 1) (i + j) := by
  unfold Bt at *
  have e1 : 2 ^ n ≤ 2 ^ (n + m) := Nat.pow_le_pow_right (by decide) (by omega)
  have e2 : 2 ^ m ≤ 2 ^ (n + m) := Nat.pow_le_pow_right (by decide) (by omega)
  rw [Nat.pow_succ]
  omega
theorem Bt.neg {n : Nat} {i : Int} (h : Bt n i) : Bt n (-i) := by unfold Bt at *; rwa [Int.natAbs_neg]
theorem Bt.sub {n m : Nat} {i j : Int} (h1 : Bt n i) (h2 : Bt m j) : Bt (n + m + 1) (i - j) := h1.add h2.neg
theorem Bt.mul {n m : Nat} {i j : Int} (h1 : Bt n i) (h2 : Bt m j) : Bt (n + m) (i * j) := by
  unfold Bt at *
  rw [Int.natAbs_mul, Nat.pow_add]
  exact Nat.mul_lt_mul'' h1 h2
theorem Bt.mulOk {n m : Nat} {i j : Int} (h1 : Bt (n + 1) i) (h2 : Bt (m + 1) j) (h : n + m < 100000000) : mulOk i j := by
  unfold Z.mulOk
  have := log2_le h1 (by omega)
  have := log2_le h2 (by omega)
  omega
theorem Bt.of {n : Nat} {i : Int} (h1 : -(2 ^ n : Nat) < i) (h2 : i < (2 ^ n : Nat)) : Bt n i := by unfold Bt; omega
/-- ints that a row of 64-bit sums bounds -/
theorem bt64 {i : Int} (h1 : -18446744073709551616 < i) (h2 : i < 18446744073709551616) : Bt 64 i := by unfold Bt; omega
theorem mulOk64 {i j : Int} (h1 : -18446744073709551616 < i ∧ i < 18446744073709551616) (h2 : -18446744073709551616 < j ∧ j < 18446744073709551616) : mulOk i j := (bt64 h1.1 h1.2).mulOk (bt64 h2.1 h2.2) (by decide)
theorem atI_nat {α : Type} {xs : List α} {i : Int} {x : α} (h0 : 0 ≤ i) (h : xs[i.toNat]? = some x) : atI xs i = some x := by
  have hl := (List.getElem?_eq_some_iff.mp h).1
  unfold atI ixN
  rw [if_pos h0, if_pos (by omega)]
  exact h
theorem opt_ixl {xs : List W} {i : Int} {x : W} {Q : W → Prop} (h0 : 0 ≤ i) (h : xs[i.toNat]? = some x) (q : Q x) : opt (ixW g (.lst xs) (.int i)) Q := ⟨x, atI_nat h0 h, q⟩
theorem opt_ixt {xs : List W} {i : Int} {x : W} {Q : W → Prop} (h0 : 0 ≤ i) (h : xs[i.toNat]? = some x) (q : Q x) : opt (ixW g (.tup xs) (.int i)) Q := ⟨x, atI_nat h0 h, q⟩
theorem small {n : Nat} (h : n < 1000000) : n < sizeLine := Nat.lt_trans h (by decide)
theorem atI_neg1 {α : Type} {xs : List α} {x : α} (h : xs[xs.length - 1]? = some x) : atI xs (-1) = some x := by
  have hl := (List.getElem?_eq_some_iff.mp h).1
  unfold atI ixN
  rw [if_neg (by omega), if_pos (by omega)]
  rw [show ((-1 : Int) + (xs.length : Int)).toNat = xs.length - 1 by omega]
  exact h
theorem cut_to {α : Type} {xs : List α} {k : Int} (h : 0 ≤ k) : cutW xs .non (.int k) = some (xs.take k.toNat) := by
  unfold cutW sixW
  simp only [HT.sIx, if_neg (show ¬ k < 0 by omega), List.drop_zero, Nat.sub_zero]
  congr 1
  rw [List.take_eq_take_iff]
  simp
theorem cut_from {α : Type} {xs : List α} {k : Int} (h : 0 ≤ k) : cutW xs (.int k) .non = some (xs.drop k.toNat) := by
  unfold cutW sixW
  simp only [HT.sIx, if_neg (show ¬ k < 0 by omega)]
  by_cases hk : k.toNat ≤ xs.length
  · rw [Nat.min_eq_left hk]
    congr 1
    exact List.take_of_length_le (by simp)
  · rw [Nat.min_eq_right (by omega), List.drop_length, List.drop_eq_nil_of_le (by omega)]
    simp
theorem sl_to {xs : List W} {k : Int} (h : 0 ≤ k) : slW (.tup xs) .non (.int k) = some (.tup (xs.take k.toNat)) := by
  show (cutW xs .non (.int k)).map W.tup = _
  rw [cut_to h]; rfl
theorem sl_from {xs : List W} {k : Int} (h : 0 ≤ k) : slW (.tup xs) (.int k) .non = some (.tup (xs.drop k.toNat)) := by
  show (cutW xs (.int k) .non).map W.tup = _
  rw [cut_from h]; rfl
theorem opt_slTo {xs : List W} {k : Int} {Q : W → Prop} (h : 0 ≤ k) (q : Q (.tup (xs.take k.toNat))) : opt (slW (.tup xs) .non (.int k)) Q := ⟨_, sl_to h, q⟩
theorem opt_lslTo {xs : List W} {k : Int} {Q : List W → Prop} (h : 0 ≤ k) (q : Q (xs.take k.toNat)) : opt (lslW g (.lst xs) .non (.int k)) Q := ⟨_, cut_to h, q⟩
theorem opt_slFrom {xs : List W} {k : Int} {Q : W → Prop} (h : 0 ≤ k) (q : Q (.tup (xs.drop k.toNat))) : opt (slW (.tup xs) (.int k) .non) Q := ⟨_, sl_from h, q⟩
theorem rangeW_map : ∀ (n : Nat) (lo : Int), rangeW lo n = ((List.range n).map fun k : Nat => lo + (k : Int)).map W.int
  | 0, _ => rfl
  | n + 1, lo => by
    rw [rangeW, rangeW_map n (lo + 1), List.range_succ_eq_map]
    simp only [List.map_cons, List.map_map]
    congr 1
    · simp
    · apply List.map_congr_left
      intro a _
      simp only [Function.comp]
      congr 1
      push_cast
      omega
theorem rangeW_len (n : Nat) (lo : Int) : (rangeW lo n).length = n := by rw [rangeW_map]; simp
theorem rangeW_at {lo : Int} {n i : Nat} {x : W} (h : (rangeW lo n)[i]? = some x) : i < n ∧ x = .int (lo + i) := by
  have hi : i < n := by
    have := (List.getElem?_eq_some_iff.mp h).1
    rwa [rangeW_len] at this
  rw [rangeW_map, List.map_map, List.getElem?_map, List.getElem?_range hi] at h
  cases h
  exact ⟨hi, rfl⟩
/-- a for over a range -/
theorem for_rng {gc : Bool} {e0 : Env} {g0 : CH} {t : T} {body : Env → CH → Post → Prop} {lo : Int} {n : Nat} {P : Post} (I : Nat → Env → CH → Prop)
    (hs : ∀ (i : Nat) (k : Env → CH → Prop), i < n → (∀ e g, I (i + 1) e g → k e g) → ∀ e g, I i e g → opt (asg t (.int (lo + i)) e) fun e1 => body e1 g (P.turn (turnEnd gc e0 g0 k)))
    (he : ∀ e g, I n e g → P.nx e g) (h0 : I 0 env g) : forL gc e0 g0 t body none (rangeW lo n) (rangeW lo n) env g P := by
  refine for_inv I (fun i x k hx hk e g h => ⟨trivial, ?_⟩) (fun e g h => ⟨trivial, he e g ?_⟩) h0
  · obtain ⟨h1, rfl⟩ := rangeW_at hx
    exact hs i k h1 hk e g h
  · rwa [rangeW_len] at h
/-- a comprehension over a range -/
theorem lc_rng {t : T} {tst : Env → CH → (Bool → CH → Prop) → Prop} {elt : Env → CH → WK → Prop} {env0 : Env} {lo : Int} {n : Nat} {Q : List W → CH → Prop} (I : Nat → List W → CH → Prop)
    (hs : ∀ (i : Nat) (acc : List W) (g : CH) (k : List W → CH → Prop), i < n → I i acc g → (∀ acc g, I (i + 1) acc g → k acc g) →
      opt (asg t (.int (lo + i)) env0) fun env1 => tst env1 g fun b g1 => if b = true then elt env1 g1 fun w g2 => k (acc ++ [w]) g2 else k acc g1)
    (he : ∀ acc g, I n acc g → Q acc g) (h0 : I 0 [] g) : lcL t tst elt env0 none (rangeW lo n) (rangeW lo n) [] g Q := by
  refine lc_inv I (fun i x acc g k hx h hk => ⟨trivial, ?_⟩) (fun acc g h => ⟨trivial, he acc g ?_⟩) h0
  · obtain ⟨h1, rfl⟩ := rangeW_at hx
    exact hs i acc g k h1 h hk
  · rwa [rangeW_len] at h
theorem zadd (i : Nat) : (0 : Int) + (i : Int) = i := Int.zero_add _
section
variable {t : T} {tst : Env → CH → (Bool → CH → Prop) → Prop} {elt : Env → CH → WK → Prop} {env0 : Env} {all xs acc : List W} {x : W} {o : Option Nat} {R : List W → CH → Prop}
theorem lcL_id (h : lcL t tst elt env0 o all xs acc g R) : lcL t tst elt env0 o all xs acc g R := h
theorem lcL_nil (h : R acc g) : lcL t tst elt env0 none all [] acc g R := ⟨trivial, h⟩
theorem lcL_cons (h : opt (asg t x env0) fun env1 => tst env1 g fun b g1 => if b = true then elt env1 g1 fun w g2 => lcL t tst elt env0 none all xs (acc ++ [w]) g2 R else lcL t tst elt env0 none all xs acc g1 R) : lcL t tst elt env0 none all (x :: xs) acc g R := ⟨trivial, h⟩
end
/-- a row of statements from its n-th on -/
def tlN : Nat → S → S
  | 0, s => s
  | n + 1, .seq _ b => tlN n b
  | _, s => s
/-- the body of a row's first loop -/
def bodyOf : S → S
  | .seq (.loop _ _ _ b) _ => b
  | _ => .nop
/-- a while: n turns at most are left -/
theorem while_i {gc : Bool} {e0 : Env} {g0 : CH} {c : Env → CH → (Bool → CH → Prop) → Prop} {body : Env → CH → Post → Prop} {P : Post} (I : Nat → Env → CH → Prop)
    (hs : ∀ (n : Nat) (k : Env → CH → Prop), (∀ m, n = m + 1 → ∀ e g, I m e g → k e g) → ∀ e g, I n e g → c e g fun b g1 => if b = true then body e g1 (P.turn (turnEnd gc e0 g0 k)) else P.nx e g1)
    (n : Nat) (h0 : I n env g) : ∃ m, whileL gc e0 g0 c body m env g P := by
  have go : ∀ n e g, I n e g → whileL gc e0 g0 c body (n + 1) e g P := by
    intro n
    induction n with
    | zero =>
      intro e g h
      exact hs 0 _ (fun m hm => by omega) e g h
    | succ n ih =>
      intro e g h
      exact hs (n + 1) _ (fun m hm e g h => by
        have e1 : m = n := by omega
        rw [e1] at h
        exact ih e g h) e g h
  exact ⟨n + 1, go n env g h0⟩
/-- a for whose turns change nothing but its name -/
theorem for_each {gc : Bool} {e0 : Env} {g0 : CH} {j : Nat} {body : Env → CH → Post → Prop} {all : List W} {P : Post} (hj : j < env.length)
    (hs : ∀ x ∈ all, ∀ (k : Env → CH → Prop), k (env.set j (some x)) g → body (env.set j (some x)) g (P.turn (turnEnd gc e0 g0 k)))
    (he : ∀ y, P.nx (env.set j y) g) : forL gc e0 g0 (.n j) body none all all env g P := by
  refine for_inv (fun _ e g' => g' = g ∧ ∃ y, e = env.set j y) (fun i x k hx hk e g' h => ?_) (fun e g' h => ?_) ⟨rfl, env[j], by simp⟩
  · obtain ⟨rfl, y, rfl⟩ := h
    refine ⟨trivial, _, rfl, ?_⟩
    rw [List.set_set]
    exact hs x (List.mem_of_getElem? hx) k (hk _ _ ⟨rfl, _, rfl⟩)
  · obtain ⟨rfl, y, rfl⟩ := h
    exact ⟨trivial, he y⟩
end
end Z
namespace Z
open PySem PySem.Spec L2
open PyProof.Rows hiding St
/-! ### the laws' own small defs -/
def m_law_tape : Fn := ⟨1, 3, false, (.seq (.set (.n 1) (.k (.int 7))) (.seq (.loop false (.n 2) (.it (.v 0)) (.seq (.set (.n 1) (.bin .mod (.u1 .int (.bin .add (.bin .mul (.v 1) (.k (.int 31))) (.u1 .abs (.u1 .int (.v 2))))) (.k (.int 2147483647)))) .nop)) (.seq (.ret (.mk (.lst (.cons (.fz (.n1 .list (.v 0))) (.cons (.k (.int 0)) (.cons (.k (.int 0)) (.cons (.v 1) .nil))))))) .nop)))⟩
def m_law_draw : Fn := ⟨2, 4, false, (.seq (.ite (.cmp .eq (.ix (.v 0) (.k (.int 2))) (.k (.int 0))) (.seq (.set (.n 2) (.ix (.v 0) (.k (.int 1)))) (.seq (.set (.n 3) (.k (.int 0))) (.seq (.ite (.cmp .lt (.v 2) (.u1 .len (.ix (.v 0) (.k (.int 0))))) (.seq (.set (.n 3) (.u1 .abs (.u1 .int (.ix (.ix (.v 0) (.k (.int 0))) (.v 2))))) .nop) (.seq (.setix (.v 0) (.k (.int 3)) (.bin .mod (.u1 .int (.bin .add (.bin .add (.bin .mul (.ix (.v 0) (.k (.int 3))) (.k (.int 48271))) (.v 2)) (.k (.int 1)))) (.k (.int 2147483647)))) (.seq (.set (.n 3) (.ix (.v 0) (.k (.int 3)))) .nop))) (.seq (.setix (.v 0) (.k (.int 1)) (.bin .add (.v 2) (.k (.int 1)))) (.seq (.ite (.cmp .lt (.v 3) (.bin .pow (.k (.int 10)) (.k (.int 18)))) (.seq (.set (.n 3) (.bin .mod (.u1 .int (.bin .add (.bin .add (.bin .mul (.v 3) (.k (.int 48271))) (.bin .mul (.v 2) (.k (.int 69621)))) (.k (.int 5)))) (.k (.int 2147483647)))) (.seq (.set (.n 3) (.bin .mod (.u1 .int (.bin .mul (.v 3) (.k (.int 69621)))) (.k (.int 2147483629)))) (.seq (.ret (.bin .mod (.u1 .int (.v 3)) (.u2 .max (.v 1) (.k (.int 1))))) .nop))) .nop) (.seq (.setix (.v 0) (.k (.int 2)) (.v 3)) .nop)))))) .nop) (.seq (.set (.n 3) (.ix (.v 0) (.k (.int 2)))) (.seq (.setix (.v 0) (.k (.int 2)) (.bin .fdiv (.v 3) (.u2 .max (.v 1) (.k (.int 2))))) (.seq (.ret (.bin .mod (.u1 .int (.v 3)) (.u2 .max (.v 1) (.k (.int 1))))) .nop))))⟩
def m_law_pick (f_law_draw : Nat) : Fn := ⟨2, 2, false, (.seq (.ret (.ix (.v 1) (.call f_law_draw (.cons (.v 0) (.cons (.u1 .len (.v 1)) .nil))))) .nop)⟩
def m_law_turns (f_law_draw : Nat) : Fn := ⟨2, 5, true, (.seq (.set (.n 2) (.mk (.lrng1 (.v 1)))) (.seq (.set (.n 3) (.mk (.lst .nil))) (.seq (.loop false (.n 4) (.rng1 (.v 1)) (.seq (.ex (.app (.v 3) (.popAt (.v 2) (.call f_law_draw (.cons (.v 0) (.cons (.u1 .len (.v 2)) .nil)))))) .nop)) (.seq (.ret (.fz (.lsl (.v 3) .nopart (.cons (.ix (.fz (.lst (.cons (.v 1) (.cons (.v 1) (.cons (.k (.int 1)) .nil))))) (.call f_law_draw (.cons (.v 0) (.cons (.k (.int 3)) .nil)))) .nil)))) .nop))))⟩
def m_law_put : Fn := ⟨3, 3, false, (.seq (.ret (.bin .add (.bin .add (.sl (.v 0) .nopart (.cons (.v 1) .nil)) (.tup (.cons (.v 2) .nil))) (.sl (.v 0) (.cons (.bin .add (.v 1) (.k (.int 1))) .nil) .nopart))) .nop)⟩
def m_law_same (f_law_same : Nat) : Fn := ⟨2, 3, false, (.seq (.ite (.tv (.isi (.v 1) .tuple)) (.seq (.ite (.or (.nt (.tv (.isi (.v 0) .tuple))) (.cmp .ne (.u1 .len (.v 0)) (.u1 .len (.v 1)))) (.seq (.ret (.k (.bl false))) .nop) .nop) (.seq (.loop false (.n 2) (.rng1 (.u1 .len (.v 1))) (.seq (.ite (.nt (.tv (.call f_law_same (.cons (.ix (.v 0) (.v 2)) (.cons (.ix (.v 1) (.v 2)) .nil))))) (.seq (.ret (.k (.bl false))) .nop) .nop) .nop)) (.seq (.ret (.k (.bl true))) .nop))) .nop) (.seq (.ite (.or (.cmp .isN (.v 1) (.k .non)) (.cmp .isN (.v 0) (.k .non))) (.seq (.ret (.and (.cmp .isN (.v 1) (.k .non)) (.cmp .isN (.v 0) (.k .non)))) .nop) .nop) (.seq (.ite (.tv (.isi (.v 1) .str)) (.seq (.ret (.and (.isi (.v 0) .str) (.cmp .eq (.v 0) (.v 1)))) .nop) .nop) (.seq (.ite (.or (.cmp .ne (.isi (.v 0) .bool) (.isi (.v 1) .bool)) (.nt (.tv (.isi (.v 0) .int)))) (.seq (.ret (.k (.bl false))) .nop) .nop) (.seq (.ret (.cmp .eq (.v 0) (.v 1))) .nop)))))⟩
def m_law_shuffled (f_law_draw : Nat) : Fn := ⟨2, 5, true, (.seq (.set (.n 2) (.mk (.n1 .list (.v 1)))) (.seq (.set (.n 3) (.mk (.lst .nil))) (.seq (.loop false (.n 4) (.rng1 (.u1 .len (.v 1))) (.seq (.ex (.app (.v 3) (.popAt (.v 2) (.call f_law_draw (.cons (.v 0) (.cons (.u1 .len (.v 2)) .nil)))))) .nop)) (.seq (.ret (.v 3)) .nop))))⟩
/-- the law's tape, at most n numbers of which were read -/
def Tape (n : Nat) (t : W) : Prop := ∃ (cells : List Int) (place big mixed : Int), t = .lst [.lst (cells.map .int), .int place, .int big, .int mixed] ∧ 0 ≤ place ∧ place ≤ n ∧ 0 ≤ big ∧ 0 ≤ mixed ∧ mixed < 2147483647
theorem Tape.mono {n m : Nat} {t : W} (h : Tape n t) (l : n ≤ m) : Tape m t := by
  obtain ⟨c, p, b, m', rfl, h1, h2, h3, h4, h5⟩ := h
  exact ⟨c, p, b, m', rfl, h1, by omega, h3, h4, h5⟩
section
variable {T : List Fn} {d : Nat} {rest : CH} {Q : WK}
local macro_rules | `(tactic| walk_at "z1") => `(tactic| first
  | refine opt_eq ?_
  | refine opt_ne ?_
  | refine opt_rng (by unfold rngOk; omega) ?_
  | refine opt_slTo (by omega) ?_
  | refine opt_slFrom (by omega) ?_
  | refine opt_i rfl ?_
  | refine opt_mul (mulOk64 ⟨by omega, by omega⟩ ⟨by omega, by omega⟩) ?_
  | refine opt_mod (by omega) ?_
  | refine And.intro (Nat.le_of_ble_eq_true rfl) ?_)
theorem w_draw {i n : Nat} {t : W} {wide : Int} (hi : nth T i = some m_law_draw) (ht : Tape n t) (hn : n < 2 ^ 40) (hw : wide.natAbs < 18446744073709551616)
    (k : ∀ (v : Int) t', 0 ≤ v → v < max wide 1 → Tape (n + 1) t' → Q (.int v) (t' :: rest)) : wpC T (d + 1) i [.ob 0, .int wide] (t :: rest) Q := by
  obtain ⟨c, p, b, m, rfl, h1, h2, h3, h4, h5⟩ := ht
  -- the end: a number is taken
  have fin : ∀ (num : Int) (t' : W), Tape (n + 1) t' → Q (.int (num % (if 1 > wide then 1 else wide))) (t' :: rest) := fun num t' ht => by
    have hm : 0 < (if 1 > wide then 1 else wide) := by split <;> omega
    refine k _ _ (Int.emod_nonneg _ (by omega)) ?_ ht
    have := Int.emod_lt_of_pos num hm
    have : (if 1 > wide then 1 else wide) = max wide 1 := by split <;> omega
    omega
  have fin2 : ∀ (num : Int) (c : List Int) (p m : Int), 0 ≤ num → 0 ≤ p → p ≤ (n + 1 : Nat) → 0 ≤ m → m < 2147483647 → (0 < (if 2 > wide then 2 else wide) ∧ (if 2 > wide then 2 else wide).natAbs.log2 < 9000) ∧ Q (.int (num % (if 1 > wide then 1 else wide))) (.lst [.lst (c.map .int), .int p, .int (num / (if 2 > wide then 2 else wide)), .int m] :: rest) := fun num c p m hn hp hp2 hm1 hm2 => by
    have hm : 0 < (if 2 > wide then 2 else wide) := by split <;> omega
    refine ⟨⟨hm, ?_⟩, fin num _ ⟨c, p, _, m, rfl, hp, hp2, Int.ediv_nonneg hn (by omega), hm1, hm2⟩⟩
    have : (if 2 > wide then 2 else wide).natAbs < 2 ^ 64 := by
      split
      · decide
      · exact hw
    have := log2_le this (by decide)
    omega
  refine wpC_succ.mpr (opt_i hi ⟨rfl, ?_⟩)
  repeat walk_at "z1"
  refine if_d (fun hb => ?_) (fun hb => ?_)
  · subst hb
    -- the number is read
    repeat walk_at "z1"
    refine if_d (fun hc => ?_) (fun hc => ?_)
    · simp only [List.length_map] at hc
      repeat walk_at "z1"
      refine opt_ixl h1 (x := .int (c[p.toNat]'(by omega))) (by rw [List.getElem?_map, List.getElem?_eq_getElem (by omega)]; rfl) ?_
      generalize c[p.toNat]'(by omega) = x
      repeat walk_at "z1"
      generalize hx : (if x < 0 then -x else x) = y
      have hy : 0 ≤ y := by split at hx <;> omega
      refine if_d (fun hd => ?_) (fun hd => ?_)
      · have hd : y < 10 ^ 18 := hd
        repeat walk_at "z1"
        exact fin _ _ ⟨c, p + 1, 0, m, rfl, by omega, by omega, by omega, h4, h5⟩
      · repeat walk_at "z1"
        have e := fin2 y c (p + 1) m hy (by omega) (by omega) h4 h5
        refine opt_fdiv e.1 ?_
        repeat walk_at "z1"
        exact e.2
    · repeat walk_at "z1"
      generalize hx : (m * 48271 + p + 1) % 2147483647 = y
      have hy : 0 ≤ y := by omega
      have hy2 : y < 2147483647 := by omega
      refine if_d (fun hd => ?_) (fun hd => ?_)
      · have hd : y < 10 ^ 18 := hd
        repeat walk_at "z1"
        exact fin _ _ ⟨c, p + 1, 0, y, rfl, by omega, by omega, by omega, hy, hy2⟩
      · repeat walk_at "z1"
        have e := fin2 y c (p + 1) y hy (by omega) (by omega) hy hy2
        refine opt_fdiv e.1 ?_
        repeat walk_at "z1"
        exact e.2
  · repeat walk_at "z1"
    have e := fin2 b c p m h3 h1 (by omega) h4 h5
    refine opt_fdiv e.1 ?_
    repeat walk_at "z1"
    exact e.2
theorem get_map_int {ns : List Int} {i : Nat} {x : W} (h : (ns.map W.int)[i]? = some x) : ∃ c, x = .int c := by
  rw [List.getElem?_map] at h
  cases q : ns[i]? with
  | none => rw [q] at h; cases h
  | some c => rw [q] at h; cases h; exact ⟨c, rfl⟩
theorem w_tape {i : Nat} {ns : List Int} (hi : nth T i = some m_law_tape) (k : ∀ t', Tape 0 t' → Q (.ob 0) [t']) : wpC T (d + 1) i [.lck (ns.map .int)] [] Q := by
  refine wpC_succ.mpr (opt_i hi ⟨rfl, ?_⟩)
  repeat walk_at "z1"
  refine for_inv (fun _ e g => g = [] ∧ ∃ m x, e = [some (.lck (ns.map .int)), some (.int m), x] ∧ 0 ≤ m ∧ m < 2147483647) ?_ ?_ ⟨rfl, 7, none, rfl, by omega, by omega⟩
  · rintro _ x k hx hk _ _ ⟨rfl, m, y, rfl, h1, h2⟩
    obtain ⟨c, rfl⟩ := get_map_int hx
    refine ⟨trivial, ?_⟩
    repeat walk_at "z1"
    exact hk _ _ ⟨rfl, _, _, rfl, by omega, by omega⟩
  · rintro _ _ ⟨rfl, m, y, rfl, h1, h2⟩
    refine ⟨trivial, ?_⟩
    repeat walk_at "z1"
    exact k _ ⟨ns, 0, 0, m, rfl, by omega, by omega, by omega, h1, h2⟩
theorem w_pick {i j n : Nat} {t : W} {xs : List W} (hi : nth T i = some (m_law_pick j)) (hj : nth T j = some m_law_draw) (ht : Tape n t) (hn : n < 2 ^ 40) (h0 : xs ≠ []) (hl : xs.length ≤ sizeLine)
    (k : ∀ x t', x ∈ xs → Tape (n + 1) t' → Q x (t' :: rest)) : wpC T (d + 2) i [.ob 0, .lst xs] (t :: rest) Q := by
  refine wpC_succ.mpr (opt_i hi ⟨rfl, ?_⟩)
  repeat walk_at "z1"
  have h1 : 0 < xs.length := List.length_pos_iff.mpr h0
  refine w_draw hj ht hn (Nat.lt_of_le_of_lt hl (by decide)) fun v t' v0 v1 ht' => ?_
  refine opt_ixl v0 (List.getElem?_eq_getElem (by omega)) ?_
  exact k _ _ (List.getElem_mem _) ht'
theorem w_pickT {i j n : Nat} {t : W} {xs : List W} (hi : nth T i = some (m_law_pick j)) (hj : nth T j = some m_law_draw) (ht : Tape n t) (hn : n < 2 ^ 40) (h0 : xs ≠ []) (hl : xs.length ≤ sizeLine)
    (k : ∀ x t', x ∈ xs → Tape (n + 1) t' → Q x (t' :: rest)) : wpC T (d + 2) i [.ob 0, .tup xs] (t :: rest) Q := by
  refine wpC_succ.mpr (opt_i hi ⟨rfl, ?_⟩)
  repeat walk_at "z1"
  have h1 : 0 < xs.length := List.length_pos_iff.mpr h0
  refine w_draw hj ht hn (Nat.lt_of_le_of_lt hl (by decide)) fun v t' v0 v1 ht' => ?_
  refine opt_ixt v0 (List.getElem?_eq_getElem (by omega)) ?_
  exact k _ _ (List.getElem_mem _) ht'
theorem w_put {i : Nat} {xs : List W} {p : Nat} {v : W} {g : CH} (hi : nth T i = some m_law_put) (hp : p < xs.length) (hl : xs.length < 2 ^ 20)
    (k : Q (.tup (xs.set p v)) g) : wpC T (d + 1) i [.tup xs, .int p, v] g Q := by
  have hz : 2 ^ 20 < sizeLine := by decide
  refine wpC_succ.mpr (opt_i hi ⟨rfl, ?_⟩)
  repeat walk_at "z1"
  refine opt_tup ?_ ?_
  · simp; omega
  repeat walk_at "z1"
  refine opt_tup ?_ ?_
  · simp; omega
  have e : xs.take (p : Int).toNat ++ [v] ++ xs.drop ((p : Int) + 1).toNat = xs.set p v := by
    rw [List.set_eq_take_append_cons_drop, if_pos hp, show ((p : Int) + 1).toNat = p + 1 by omega]
    simp
  rw [e]
  exact k
theorem wfs_ints {n : Nat} : ∀ ns : List Int, wfs n (ns.map .int) = true
  | [] => rfl
  | _ :: ns => wfs_ints ns
theorem Tape.fz {n k : Nat} {t : W} {g : CH} (h : Tape n t) : FzO k g t t := by
  obtain ⟨c, p, b, m, rfl, _⟩ := h
  exact .lst (.cons (.same (show wfs k (c.map .int) = true from wfs_ints c)) (.cons (.same rfl) (.cons (.same rfl) (.cons (.same rfl) .nil))))
/-- what was made is let go: one tape stands -/
theorem ret_gc1 {n : Nat} {t t' v : W} {rest : CH} (ht : Tape n t') (hv : wf 1 v = true) (q : Q v [t']) : retEnd true [t] Q v (t' :: rest) := by
  refine ⟨v, [t'], .same hv, ⟨rfl, by simp, fun i hi => .inr ⟨t', t', ?_, ?_, ht.fz⟩⟩, q⟩
  · have : i = 0 := by simpa using hi
    subst this; rfl
  · have : i = 0 := by simpa using hi
    subst this; rfl
theorem popAt_ok {xs : List W} {i : Int} {x : W} (h0 : 0 ≤ i) (h1 : i < 2 ^ 63) (h : xs[i.toNat]? = some x) : popAtW xs (.int i) = some (x, xs.eraseIdx i.toNat) := by
  have hl := (List.getElem?_eq_some_iff.mp h).1
  unfold popAtW ixN
  simp only
  rw [if_pos (by omega), if_pos h0, if_pos (by omega)]
  simp [h]
theorem map_eraseIdx {α β : Type} {f : α → β} : ∀ (xs : List α) (i : Nat), (xs.map f).eraseIdx i = (xs.eraseIdx i).map f
  | [], _ => by simp
  | x :: xs, 0 => rfl
  | x :: xs, i + 1 => by simp [map_eraseIdx xs i]
theorem w_turns {i j n m : Nat} {t : W} (hi : nth T i = some (m_law_turns j)) (hj : nth T j = some m_law_draw) (ht : Tape n t) (hn : n + m + 1 < 2 ^ 40) (h0 : 0 < m) (hm : m < 2 ^ 20)
    (k : ∀ (vs : List Int) t', (∀ v ∈ vs, 0 ≤ v ∧ v < m) → vs.length ≤ m → Tape (n + m + 1) t' → Q (.lst (vs.map .int)) [t']) : wpC T (d + 2) i [.ob 0, .int m] [t] Q := by
  refine wpC_succ.mpr (opt_i hi ⟨rfl, ?_⟩)
  iterate 6 walk_at "z1"
  rw [show ((m : Int) - 0).toNat = m by omega]
  repeat walk_at "z1"
  rw [show ((m : Int) - 0).toNat = m by omega]
  refine for_inv (fun i e g => ∃ t' x, ∃ left acc : List Int, e = [some (.ob 0), some (.int m), some (.ob 1), some (.ob 2), x] ∧ g = [t', .lst (left.map .int), .lst (acc.map .int)] ∧ Tape (n + i) t' ∧ left.length + i = m ∧ acc.length = i ∧
    (∀ v ∈ left, 0 ≤ v ∧ v < m) ∧ ∀ v ∈ acc, 0 ≤ v ∧ v < m) ?_ ?_ ?_
  · rintro a x k hx hk _ _ ⟨t', y, left, acc, rfl, rfl, h1, h2, h3, h4, h5⟩
    have ha : a < m := by
      have := (List.getElem?_eq_some_iff.mp hx).1
      rwa [rangeW_len] at this
    refine ⟨trivial, ?_⟩
    repeat walk_at "z1"
    refine w_draw hj h1 (by omega) (by rw [List.length_map]; omega) fun v t2 v0 v1 ht2 => ?_
    simp only [List.length_map] at v1
    have hv : v.toNat < left.length := by omega
    repeat walk_at "z1"
    refine opt_i (popAt_ok v0 (by omega) (x := .int left[v.toNat]) (by rw [List.getElem?_map, List.getElem?_eq_getElem hv]; rfl)) ?_
    repeat walk_at "z1"
    refine ⟨by simp only [List.length_map]; exact Nat.lt_trans (show acc.length < 2 ^ 20 by omega) (by decide), ?_⟩
    repeat walk_at "z1"
    refine hk _ _ ⟨t2, some x, left.eraseIdx v.toNat, acc ++ [left[v.toNat]], rfl, ?_, ht2, ?_, ?_, ?_, ?_⟩
    · show _ = [t2, W.lst ((left.eraseIdx v.toNat).map .int), W.lst ((acc ++ [left[v.toNat]]).map .int)]
      rw [← map_eraseIdx, List.map_append]; rfl
    · rw [List.length_eraseIdx, if_pos hv]; omega
    · simp; omega
    · exact fun w hw => h4 w (List.mem_of_mem_eraseIdx hw)
    · intro w hw
      rcases List.mem_append.mp hw with hw | hw
      · exact h5 w hw
      · rw [List.mem_singleton.mp hw]
        exact h4 _ (List.getElem_mem _)
  · rintro _ _ ⟨t', y, left, acc, rfl, rfl, h1, h2, h3, h4, h5⟩
    rw [rangeW_len] at h1 h2 h3
    refine ⟨trivial, ?_⟩
    repeat walk_at "z1"
    refine w_draw hj h1 (by omega) (by decide) fun v t2 v0 v1 ht2 => ?_
    have fin : ∀ x : Nat, opt (lslW [t2, .lst (left.map .int), .lst (acc.map .int)] (.ob 2) .non (.int (x : Int))) fun xs => retEnd true [t] Q (.lst xs) [t2, .lst (left.map .int), .lst (acc.map .int)] := fun x => by
      refine opt_i (show lslW _ _ _ _ = some ((acc.map W.int).take x) from ?_) ?_
      · show cutW (acc.map W.int) .non (.int (x : Int)) = _
        rw [cut_to (by omega)]; rfl
      rw [← List.map_take]
      refine ret_gc1 ht2 (wfs_ints _) (k _ _ (fun w hw => h5 w (List.mem_of_mem_take hw)) (by rw [List.length_take]; omega) (ht2.mono (by omega)))
    have hc : v = 0 ∨ v = 1 ∨ v = 2 := by omega
    rcases hc with rfl | rfl | rfl
    · refine opt_i (show _ = some (W.int (m : Int)) from rfl) ?_
      exact fin m
    · refine opt_i (show _ = some (W.int (m : Int)) from rfl) ?_
      exact fin m
    · refine opt_i (show _ = some (W.int (1 : Int)) from rfl) ?_
      exact fin 1
  · refine ⟨t, none, (List.range m).map fun k : Nat => 0 + (k : Int), [], rfl, ?_, ht, by simp, rfl, ?_, by simp⟩
    · rw [rangeW_map]; rfl
    · intro v hv
      obtain ⟨k, hk, rfl⟩ := List.mem_map.mp hv
      have := List.mem_range.mp hk
      omega
theorem w_putI {i : Nat} {xs : List W} {p : Nat} {q : Int} {v : W} {g : CH} (hi : nth T i = some m_law_put) (hq : q = (p : Int)) (hp : p < xs.length) (hl : xs.length < 2 ^ 20)
    (k : Q (.tup (xs.set p v)) g) : wpC T (d + 1) i [.tup xs, .int q, v] g Q := by
  subst hq
  exact w_put hi hp hl k
theorem fzs_same {n : Nat} {g : CH} : ∀ {xs : List W}, wfs n xs = true → Fzs n g xs xs
  | [], _ => .nil
  | x :: xs, h => by
    simp only [wfs, Bool.and_eq_true] at h
    exact .cons (.same h.1) (fzs_same h.2)
/-- .. and the list that is told is frozen -/
theorem ret_fz1 {n k : Nat} {t t' : W} {xs : List W} {rest : CH} (ht : Tape n t') (hk : nth (t' :: rest) k = some (.lst xs)) (h1 : 1 ≤ k) (hv : wfs 1 xs = true) (q : Q (.lst xs) [t']) : retEnd true [t] Q (.ob k) (t' :: rest) := by
  refine ⟨.lst xs, [t'], .ob h1 hk (fzs_same hv), ⟨rfl, by simp, fun i hi => .inr ⟨t', t', ?_, ?_, ht.fz⟩⟩, q⟩
  · have : i = 0 := by simpa using hi
    subst this; rfl
  · have : i = 0 := by simpa using hi
    subst this; rfl
theorem wfs_mem {n : Nat} : ∀ {xs : List W}, (∀ x ∈ xs, wf n x = true) → wfs n xs = true
  | [], _ => rfl
  | x :: xs, h => by
    simp only [wfs, Bool.and_eq_true]
    exact ⟨h x List.mem_cons_self, wfs_mem fun y hy => h y (List.mem_cons_of_mem _ hy)⟩
theorem mem_wfs {n : Nat} : ∀ {xs : List W}, wfs n xs = true → ∀ x ∈ xs, wf n x = true
  | [], _, x, hx => by simp at hx
  | y :: xs, h, x, hx => by
    simp only [wfs, Bool.and_eq_true] at h
    rcases List.mem_cons.mp hx with rfl | hx
    · exact h.1
    · exact mem_wfs h.2 x hx
theorem perm_erase {α : Type} : ∀ (xs : List α) (i : Nat) (h : i < xs.length), (xs[i] :: xs.eraseIdx i).Perm xs
  | [], i, h => by simp at h
  | x :: xs, 0, h => .refl _
  | x :: xs, i + 1, h => by
    have h' : i < xs.length := by simpa using h
    simp only [List.getElem_cons_succ, List.eraseIdx_cons_succ]
    exact (List.Perm.swap _ _ _).trans (.cons _ (perm_erase xs i h'))
theorem w_shuffled {i j n : Nat} {t : W} {xs : List W} (hi : nth T i = some (m_law_shuffled j)) (hj : nth T j = some m_law_draw) (ht : Tape n t) (hn : n + xs.length < 2 ^ 40) (hm : xs.length < 2 ^ 20) (hx : wfs 1 xs = true)
    (k : ∀ (ys : List W) t', ys.Perm xs → Tape (n + xs.length) t' → Q (.lst ys) [t']) : wpC T (d + 2) i [.ob 0, .lst xs] [t] Q := by
  refine wpC_succ.mpr (opt_i hi ⟨rfl, ?_⟩)
  repeat walk_at "z1"
  rw [show ((xs.length : Int) - 0).toNat = xs.length by omega]
  refine for_rng (fun i e g => ∃ t' x, ∃ left acc : List W, e = [some (.ob 0), some (.lst xs), some (.ob 1), some (.ob 2), x] ∧ g = [t', .lst left, .lst acc] ∧ Tape (n + i) t' ∧ left.length + i = xs.length ∧ acc.length = i ∧
    (left ++ acc).Perm xs) ?_ ?_ ⟨t, none, xs, [], rfl, rfl, ht, by simp, rfl, by simp⟩
  · rintro a k ha hk _ _ ⟨t', y, left, acc, rfl, rfl, h1, h2, h3, h4⟩
    repeat walk_at "z1"
    refine w_draw hj h1 (by omega) (by omega) fun v t2 v0 v1 ht2 => ?_
    have hv : v.toNat < left.length := by omega
    repeat walk_at "z1"
    refine opt_i (popAt_ok v0 (by omega) (x := left[v.toNat]) (List.getElem?_eq_getElem hv)) ?_
    repeat walk_at "z1"
    refine ⟨Nat.lt_trans (show acc.length < 2 ^ 20 by omega) (by decide), ?_⟩
    repeat walk_at "z1"
    refine hk _ _ ⟨t2, _, left.eraseIdx v.toNat, acc ++ [left[v.toNat]], rfl, rfl, ht2, ?_, ?_, ?_⟩
    · rw [List.length_eraseIdx, if_pos hv]; omega
    · simp; omega
    · refine List.Perm.trans ?_ h4
      rw [← List.append_assoc]
      refine List.Perm.trans List.perm_append_comm ?_
      rw [← List.append_assoc]
      exact List.Perm.append_right acc (perm_erase _ _ hv)
  · rintro _ _ ⟨t', y, left, acc, rfl, rfl, h1, h2, h3, h4⟩
    have hl : left = [] := List.eq_nil_of_length_eq_zero (by omega)
    subst hl
    repeat walk_at "z1"
    refine ret_fz1 h1 rfl (by decide) (wfs_mem fun x hx' => mem_wfs hx x (h4.subset (by simpa using hx'))) (k acc t' (by simpa using h4) h1)
end
end Z
namespace Z
open PySem PySem.Spec L2
open PyProof.Rows hiding St
/-! ### the laws' comparison -/
/-- told values: none, numbers, bools, texts, tuples of such, at most n within one another -/
def plain : Nat → W → Bool
  | _, .non => true
  | _, .int _ => true
  | _, .bl _ => true
  | _, .str _ => true
  | n + 1, .tup xs => decide (xs.length < 2 ^ 20) && xs.all (plain n)
  | _, _ => false
section
variable {T : List Fn} {d : Nat} {Q : WK} {g : CH}
local macro_rules | `(tactic| walk_at "z1") => `(tactic| first
  | refine opt_rng (by unfold rngOk; omega) ?_
  | refine opt_i rfl ?_
  | refine if_t rfl ?_
  | refine if_f rfl ?_)
theorem eqv_int (a : Int) : PyData.eqv (.int a) (.int a) = true := by simp [PyData.eqv]
theorem eqv_bool (a : Bool) : PyData.eqv (.bool a) (.bool a) = true := by cases a <;> rfl
theorem eqv_str (a : Str) : PyData.eqv (.str a) (.str a) = true := by simp [PyData.eqv]
def leaf : W → Bool
  | .non => true
  | .int _ => true
  | .bl _ => true
  | .str _ => true
  | _ => false
theorem w_same0 {i : Nat} (hi : nth T i = some (m_law_same i)) {x : W} {g : CH} (hp : leaf x = true) (k : Q (.bl true) g) : wpC T (d + 1) i [x, x] g Q := by
  refine wpC_succ.mpr (opt_i hi ⟨rfl, ?_⟩)
  cases x with
  | non =>
    repeat walk_at "z1"
    exact k
  | int a =>
    repeat walk_at "z1"
    rw [eqv_int]
    exact k
  | bl a =>
    repeat walk_at "z1"
    rw [eqv_bool]
    exact k
  | str a =>
    repeat walk_at "z1"
    rw [eqv_str]
    exact k
  | _ => cases hp
theorem leaf_of {n : Nat} {x : W} (h : plain n x = true) : leaf x = true ∨ ∃ m xs, n = m + 1 ∧ x = .tup xs ∧ xs.length < 2 ^ 20 ∧ ∀ y ∈ xs, plain m y = true := by
  cases x with
  | tup xs =>
    cases n with
    | zero => simp [plain] at h
    | succ m =>
      simp only [plain, Bool.and_eq_true, decide_eq_true_eq, List.all_eq_true] at h
      exact .inr ⟨m, xs, rfl, rfl, h.1, h.2⟩
  | non => exact .inl rfl
  | int _ => exact .inl rfl
  | bl _ => exact .inl rfl
  | str _ => exact .inl rfl
  | _ => cases n <;> simp [plain] at h
theorem w_same {i : Nat} (hi : nth T i = some (m_law_same i)) : ∀ (n : Nat) (x : W) (g : CH) (Q : WK), plain n x = true → Q (.bl true) g → wpC T (d + n + 1) i [x, x] g Q := by
  intro n
  induction n with
  | zero =>
    intro x g Q hp k
    rcases leaf_of hp with h | ⟨m, xs, h, _⟩
    · exact w_same0 hi h k
    · cases h
  | succ n ih =>
    intro x g Q hp k
    rcases leaf_of hp with h | ⟨m, xs, h, rfl, hl, hx⟩
    · exact w_same0 hi h k
    · cases h
      refine wpC_succ.mpr (opt_i hi ⟨rfl, ?_⟩)
      repeat walk_at "z1"
      rw [show PyData.eqv (.int xs.length) (.int xs.length) = true from eqv_int _]
      repeat walk_at "z1"
      refine for_rng (fun _ e g' => g' = g ∧ ∃ x, e = [some (.tup xs), some (.tup xs), x]) (fun a k' ha hk => ?_) ?_ ⟨rfl, none, rfl⟩
      · rintro _ _ ⟨rfl, y, rfl⟩
        have hg : xs[((0 : Int) + (a : Nat)).toNat]? = some xs[a] := by rw [zadd, Int.toNat_natCast]; exact List.getElem?_eq_getElem (by omega)
        repeat walk_at "z1"
        refine opt_ixt (by omega) hg ?_
        repeat walk_at "z1"
        refine opt_ixt (by omega) hg ?_
        refine ih _ _ _ (hx _ (List.getElem_mem _)) ?_
        repeat walk_at "z1"
        exact hk _ _ ⟨rfl, _, rfl⟩
      · rintro _ _ ⟨rfl, y, rfl⟩
        repeat walk_at "z1"
        exact k
theorem nth_app {α : Type} : ∀ (xs ys : List α) (i : Nat), i < xs.length → nth (xs ++ ys) i = nth xs i
  | [], _, i, h => by simp at h
  | x :: xs, ys, 0, _ => rfl
  | x :: xs, ys, i + 1, h => nth_app xs ys i (by simpa using h)
/-- what was made is let go, nothing else changed -/
theorem ret_gc0 {g rest : CH} {v : W} (hv : wf g.length v = true) (q : Q v g) : retEnd true g Q v (g ++ rest) :=
  ⟨v, g, .same hv, ⟨rfl, by simp, fun i hi => .inl ⟨nth_app g rest i hi, rfl⟩⟩, q⟩
theorem turn_gc0 {g rest : CH} {e0 e2 e3 : Env} {k : Env → CH → Prop} (fe : FzE g.length (g ++ rest) e0 e2 e3) (q : k e3 g) : turnEnd true e0 g k e2 (g ++ rest) :=
  ⟨e3, g, fe, ⟨rfl, by simp, fun i hi => .inl ⟨nth_app g rest i hi, rfl⟩⟩, q⟩
/-- data without bools, at most n within one another -/
def pln : Nat → W → Bool
  | _, .non => true
  | _, .int _ => true
  | _, .str _ => true
  | n + 1, .tup xs => xs.all (pln n)
  | n + 1, .lst xs => xs.all (pln n)
  | _, _ => false
theorem pln_mono : ∀ {n m : Nat} {x : W}, pln n x = true → n ≤ m → pln m x = true
  | 0, m, x, h, _ => by cases x <;> cases m <;> simp_all [pln]
  | n + 1, 0, x, h, l => by omega
  | n + 1, m + 1, x, h, l => by
    cases x with
    | tup xs =>
      simp only [pln, List.all_eq_true] at h ⊢
      exact fun y hy => pln_mono (h y hy) (by omega)
    | lst xs =>
      simp only [pln, List.all_eq_true] at h ⊢
      exact fun y hy => pln_mono (h y hy) (by omega)
    | _ => simp_all [pln]
/-- what == sees of it -/
theorem pln_dat : ∀ (n : Nat) (x : W), pln n x = true → ∃ d, dat x = some d ∧ d.depth ≤ n := by
  intro n
  induction n with
  | zero =>
    intro x h
    cases x with
    | non => exact ⟨.none, rfl, by simp [PyData.depth]⟩
    | int a => exact ⟨.int a, rfl, by simp [PyData.depth]⟩
    | str a => exact ⟨.str a, rfl, by simp [PyData.depth]⟩
    | _ => simp [pln] at h
  | succ n ih =>
    have all : ∀ xs : List W, (∀ x ∈ xs, pln n x = true) → ∃ ds, dats xs = some ds ∧ PyData.depthAll ds ≤ n := by
      intro xs
      induction xs with
      | nil => intro _; exact ⟨[], rfl, by simp [PyData.depthAll]⟩
      | cons x xs ihx =>
        intro h
        obtain ⟨d, h1, h2⟩ := ih x (h x List.mem_cons_self)
        obtain ⟨ds, h3, h4⟩ := ihx fun y hy => h y (List.mem_cons_of_mem _ hy)
        exact ⟨d :: ds, by simp only [dats, h1, h3], by simp only [PyData.depthAll]; omega⟩
    intro x h
    cases x with
    | non => exact ⟨.none, rfl, by simp [PyData.depth]⟩
    | int a => exact ⟨.int a, rfl, by simp [PyData.depth]⟩
    | str a => exact ⟨.str a, rfl, by simp [PyData.depth]⟩
    | tup xs =>
      obtain ⟨ds, h1, h2⟩ := all xs (List.all_eq_true.mp (by simpa [pln] using h))
      exact ⟨.tuple ds, by simp only [dat, h1, Option.map_some], by simp only [PyData.depth]; omega⟩
    | lst xs =>
      obtain ⟨ds, h1, h2⟩ := all xs (List.all_eq_true.mp (by simpa [pln] using h))
      exact ⟨.list ds, by simp only [dat, h1, Option.map_some], by simp only [PyData.depth]; omega⟩
    | _ => simp [pln] at h
theorem dats_len : ∀ {xs : List W} {ds : List PyData}, dats xs = some ds → ds.length = xs.length
  | [], ds, h => by simp [dats] at h; subst h; rfl
  | x :: xs, ds, h => by
    simp only [dats] at h
    split at h
    · rename_i h1 h2
      cases h
      simp [dats_len h2]
    · cases h
theorem pln_eqv : ∀ (n : Nat) (x y : W), pln n x = true → pln n y = true → ∀ dx dy, dat x = some dx → dat y = some dy → PyData.eqv dx dy = W.beq x y := by
  have leaf : ∀ (x y : W) (dx dy : PyData), (∀ xs, x ≠ .tup xs) → (∀ xs, x ≠ .lst xs) → (∀ b, x ≠ .bl b) → (∀ b, y ≠ .bl b) → dat x = some dx → dat y = some dy → PyData.eqv dx dy = W.beq x y := by
    intro x y dx dy h1 h2 h3 h4 hx hy
    cases x with
    | tup xs => exact absurd rfl (h1 xs)
    | lst xs => exact absurd rfl (h2 xs)
    | bl b => exact absurd rfl (h3 b)
    | lck _ => cases hx
    | dct _ _ => cases hx
    | ob _ => cases hx
    | _ =>
      cases hx
      cases y with
      | bl b => exact absurd rfl (h4 b)
      | lck _ => cases hy
      | dct _ _ => cases hy
      | ob _ => cases hy
      | tup ys =>
        simp only [dat, Option.map_eq_some_iff] at hy
        obtain ⟨a, _, rfl⟩ := hy
        simp [PyData.eqv, W.beq]
      | lst ys =>
        simp only [dat, Option.map_eq_some_iff] at hy
        obtain ⟨a, _, rfl⟩ := hy
        simp [PyData.eqv, W.beq]
      | _ =>
        cases hy
        first
          | simp [PyData.eqv, W.beq]; done
          | (simp only [PyData.eqv, W.beq]; rename_i a b; by_cases h : a = b <;> simp [h])
  intro n
  induction n with
  | zero =>
    intro x y h1 h2 dx dy hx hy
    refine leaf x y dx dy ?_ ?_ ?_ ?_ hx hy <;> rintro z rfl <;> simp [pln] at h1 h2
  | succ n ih =>
    have all : ∀ xs ys : List W, (∀ x ∈ xs, pln n x = true) → (∀ x ∈ ys, pln n x = true) → ∀ dx dy, dats xs = some dx → dats ys = some dy → PyData.eqvAll dx dy = W.beqs xs ys := by
      intro xs
      induction xs with
      | nil =>
        intro ys _ _ dx dy hx hy
        cases ys with
        | nil => simp [dats] at hx hy; subst hx hy; simp [PyData.eqvAll, W.beqs]
        | cons y ys =>
          have := dats_len hy
          simp [dats] at hx; subst hx
          cases dy with
          | nil => simp at this
          | cons d ds => simp [PyData.eqvAll, W.beqs]
      | cons x xs ihx =>
        intro ys p q dx dy hx hy
        cases ys with
        | nil =>
          have := dats_len hx
          simp [dats] at hy; subst hy
          cases dx with
          | nil => simp at this
          | cons d ds => simp [PyData.eqvAll, W.beqs]
        | cons y ys =>
          simp only [dats] at hx hy
          split at hx
          · rename_i d ds h1 h2
            cases hx
            split at hy
            · rename_i d' ds' h3 h4
              cases hy
              simp only [PyData.eqvAll, W.beqs]
              rw [ih x y (p x List.mem_cons_self) (q y List.mem_cons_self) d d' h1 h3, ihx ys (fun z hz => p z (List.mem_cons_of_mem _ hz)) (fun z hz => q z (List.mem_cons_of_mem _ hz)) ds ds' h2 h4]
            · cases hy
          · cases hx
    intro x y h1 h2 dx dy hx hy
    have nbx : ∀ b, x ≠ .bl b := by rintro b rfl; simp [pln] at h1
    have nby : ∀ b, y ≠ .bl b := by rintro b rfl; simp [pln] at h2
    cases x with
    | tup xs =>
      simp only [dat, Option.map_eq_some_iff] at hx
      obtain ⟨ds, hx, rfl⟩ := hx
      cases y with
      | tup ys =>
        simp only [dat, Option.map_eq_some_iff] at hy
        obtain ⟨es, hy, rfl⟩ := hy
        simp only [PyData.eqv, W.beq]
        exact all xs ys (List.all_eq_true.mp (by simpa [pln] using h1)) (List.all_eq_true.mp (by simpa [pln] using h2)) _ _ hx hy
      | lst ys =>
        simp only [dat, Option.map_eq_some_iff] at hy
        obtain ⟨es, hy, rfl⟩ := hy
        simp [PyData.eqv, W.beq]
      | bl b => exact absurd rfl (nby b)
      | lck _ => cases hy
      | dct _ _ => cases hy
      | ob _ => cases hy
      | _ => cases hy; simp [PyData.eqv, W.beq]
    | lst xs =>
      simp only [dat, Option.map_eq_some_iff] at hx
      obtain ⟨ds, hx, rfl⟩ := hx
      cases y with
      | lst ys =>
        simp only [dat, Option.map_eq_some_iff] at hy
        obtain ⟨es, hy, rfl⟩ := hy
        simp only [PyData.eqv, W.beq]
        exact all xs ys (List.all_eq_true.mp (by simpa [pln] using h1)) (List.all_eq_true.mp (by simpa [pln] using h2)) _ _ hx hy
      | tup ys =>
        simp only [dat, Option.map_eq_some_iff] at hy
        obtain ⟨es, hy, rfl⟩ := hy
        simp [PyData.eqv, W.beq]
      | bl b => exact absurd rfl (nby b)
      | lck _ => cases hy
      | dct _ _ => cases hy
      | ob _ => cases hy
      | _ => cases hy; simp [PyData.eqv, W.beq]
    | _ => exact leaf _ y dx dy (by intro _ z; cases z) (by intro _ z; cases z) nbx nby hx hy
/-- == of data -/
theorem eqD_pln {n : Nat} {g : CH} {x y : W} (hx : dr g x = x) (hy : dr g y = y) (h1 : pln n x = true) (h2 : pln n y = true) (hn : n ≤ 60) : eqD g x y = some (W.beq x y) := by
  obtain ⟨d, e1, l1⟩ := pln_dat n x h1
  obtain ⟨d', e2, l2⟩ := pln_dat n y h2
  unfold eqD
  rw [hx, hy, e1, e2]
  simp only
  rw [if_pos ⟨by omega, by omega⟩, pln_eqv n x y h1 h2 d d' e1 e2]
mutual
theorem W.beq_refl : ∀ x : W, W.beq x x = true
  | .non => rfl
  | .bl a => by simp [W.beq]
  | .int a => by simp [W.beq]
  | .str a => by simp [W.beq]
  | .tup a => by simp only [W.beq]; exact W.beqs_refl a
  | .lst a => by simp only [W.beq]; exact W.beqs_refl a
  | .dct a b => by simp only [W.beq, Bool.and_eq_true]; exact ⟨W.beqs_refl a, W.beqs_refl b⟩
  | .lck a => by simp only [W.beq]; exact W.beqs_refl a
  | .ob a => by simp [W.beq]
theorem W.beqs_refl : ∀ x : List W, W.beqs x x = true
  | [] => rfl
  | x :: xs => by simp only [W.beqs, Bool.and_eq_true]; exact ⟨W.beq_refl x, W.beqs_refl xs⟩
end
theorem W.beq_iff {x y : W} : W.beq x y = true ↔ x = y := ⟨W.beq_ok, fun h => by subst h; exact W.beq_refl x⟩
theorem pln_dats {n : Nat} : ∀ (xs : List W), (∀ x ∈ xs, pln n x = true) → ∃ ds, dats xs = some ds ∧ PyData.depthAll ds ≤ n
  | [], _ => ⟨[], rfl, by simp [PyData.depthAll]⟩
  | x :: xs, h => by
    obtain ⟨d, h1, h2⟩ := pln_dat n x (h x List.mem_cons_self)
    obtain ⟨ds, h3, h4⟩ := pln_dats xs fun y hy => h y (List.mem_cons_of_mem _ hy)
    exact ⟨d :: ds, by simp only [dats, h1, h3], by simp only [PyData.depthAll]; omega⟩
theorem any_pln {n : Nat} {x : W} {d : PyData} (hx : pln n x = true) (e : dat x = some d) : ∀ (ys : List W) (es : List PyData), (∀ y ∈ ys, pln n y = true) → dats ys = some es → (es.any fun z => PyData.eqv z d) = ys.any fun z => W.beq z x
  | [], es, _, h => by simp [dats] at h; subst h; rfl
  | y :: ys, es, p, h => by
    simp only [dats] at h
    split at h
    · rename_i d' ds' h3 h4
      cases h
      simp only [List.any_cons]
      rw [pln_eqv n y x (p y List.mem_cons_self) hx d' d h3 e, any_pln hx e ys ds' (fun z hz => p z (List.mem_cons_of_mem _ hz)) h4]
    · cases h
/-- x in a tuple | a list of data -/
theorem inD_pln {n : Nat} {g : CH} {x y : W} {ys : List W} (hx : dr g x = x) (hy : dr g y = .tup ys ∨ dr g y = .lst ys) (h1 : pln n x = true) (h2 : ∀ y ∈ ys, pln n y = true) (hn : n ≤ 60) : inD g x y = some (ys.any fun z => W.beq z x) := by
  obtain ⟨d, e1, l1⟩ := pln_dat n x h1
  obtain ⟨es, e2, l2⟩ := pln_dats ys h2
  unfold inD
  rw [hx, e1]
  rcases hy with hy | hy <;> rw [hy] <;> simp only [e2, Option.bind_some] <;> rw [if_pos ⟨by omega, by omega⟩, any_pln h1 e1 ys es h2 e2]
theorem opt_eqD {n : Nat} {x y : W} {R : Bool → Prop} (hx : dr g x = x) (hy : dr g y = y) (h1 : pln n x = true) (h2 : pln n y = true) (hn : n ≤ 60) (q : R (W.beq x y)) : opt (cop g .eq x y) R := by
  refine ⟨_, ?_, q⟩
  have := eqD_pln hx hy h1 h2 hn
  cases x <;> cases y <;> exact this
theorem opt_neD {n : Nat} {x y : W} {R : Bool → Prop} (hx : dr g x = x) (hy : dr g y = y) (h1 : pln n x = true) (h2 : pln n y = true) (hn : n ≤ 60) (q : R (!W.beq x y)) : opt (cop g .ne x y) R := by
  refine ⟨!W.beq x y, ?_, q⟩
  have e : (eqD g x y).map not = some (!W.beq x y) := by rw [eqD_pln hx hy h1 h2 hn]; rfl
  cases x <;> cases y <;> exact e
theorem opt_inD {n : Nat} {x y : W} {ys : List W} {R : Bool → Prop} (hx : dr g x = x) (hy : dr g y = .tup ys ∨ dr g y = .lst ys) (h1 : pln n x = true) (h2 : ∀ y ∈ ys, pln n y = true) (hn : n ≤ 60) (q : R (ys.any fun z => W.beq z x)) : opt (cop g .isin x y) R := by
  refine ⟨_, ?_, q⟩
  have := inD_pln hx hy h1 h2 hn
  cases x <;> cases y <;> exact this
theorem any_ints {a : Int} : ∀ c : List Int, ((c.map W.int).any fun z => W.beq z (.int a)) = decide (a ∈ c)
  | [] => by simp
  | b :: c => by
    rw [List.map_cons, List.any_cons, any_ints c]
    by_cases h : a = b
    · subst h; simp [W.beq]
    · have : (W.beq (.int b) (.int a)) = false := by
        simp only [W.beq, decide_eq_false_iff_not]
        exact fun e => h e.symm
      rw [this]
      simp [h]
theorem pln_ints0 (c : List Int) : ∀ y ∈ c.map W.int, pln 0 y = true := by
  intro y hy
  obtain ⟨z, _, rfl⟩ := List.mem_map.mp hy
  rfl
theorem in_ints {g : CH} {a : Int} {c : List Int} {R : Bool → Prop} (q : R (decide (a ∈ c))) : opt (cop g .isin (.int a) (.lst (c.map .int))) R := by
  refine opt_inD (n := 0) rfl (.inr rfl) rfl (pln_ints0 c) (by omega) ?_
  rw [any_ints]; exact q
theorem notin_ints {g : CH} {a : Int} {c : List Int} {R : Bool → Prop} (q : R (!decide (a ∈ c))) : opt (cop g .notin (.int a) (.lst (c.map .int))) R := by
  refine ⟨_, ?_, q⟩
  show (inD g (.int a) (.lst (c.map .int))).map not = _
  rw [inD_pln (n := 0) rfl (.inr rfl) rfl (pln_ints0 c) (by omega), any_ints]
  rfl
theorem intsOf_map : ∀ ns : List Int, intsOf (ns.map .int) = some ns
  | [] => rfl
  | n :: ns => by simp only [List.map_cons, intsOf, intsOf_map ns, Option.map_some]
theorem opt_sum {g : CH} {vs : List Int} {R : W → Prop} (q : R (.int vs.sum)) : opt (u1W g .sum (.lst (vs.map .int))) R := ⟨_, by
  show ((intsOf (vs.map .int)).map fun ns => W.int ns.sum) = _
  rw [intsOf_map]; rfl, q⟩
theorem maxL_of {ns : List Int} {m : Int} (h1 : m ∈ ns) (h2 : ∀ y ∈ ns, y ≤ m) : maxL ns = some m := by
  cases ns with
  | nil => cases h1
  | cons n ns =>
    show some _ = some m
    rw [foldl_max ns n m h2 h1]
theorem opt_maxL {g : CH} {vs : List Int} {m : Int} {R : W → Prop} (h1 : m ∈ vs) (h2 : ∀ y ∈ vs, y ≤ m) (q : R (.int m)) : opt (u1W g .max (.lst (vs.map .int))) R := ⟨_, by
  show ((intsOf (vs.map .int)).bind fun ns => (maxL ns).map W.int) = _
  rw [intsOf_map, Option.bind_some, maxL_of h1 h2]; rfl, q⟩
theorem opt_maxT {g : CH} {vs : List Int} {m : Int} {R : W → Prop} (h1 : m ∈ vs) (h2 : ∀ y ∈ vs, y ≤ m) (q : R (.int m)) : opt (u1W g .max (.tup (vs.map .int))) R := ⟨_, by
  show ((intsOf (vs.map .int)).bind fun ns => (maxL ns).map W.int) = _
  rw [intsOf_map, Option.bind_some, maxL_of h1 h2]; rfl, q⟩
/-- == of data, as it stands -/
theorem opt_eqR {g : CH} {n : Nat} {x y x' y' : W} {R : Bool → Prop} (hx : dr g x = x') (hy : dr g y = y') (e1 : dr g x' = x') (e2 : dr g y' = y') (h1 : pln n x' = true) (h2 : pln n y' = true) (hn : n ≤ 60) (q : R (W.beq x' y')) : opt (cop g .eq x y) R := by
  refine ⟨_, ?_, q⟩
  have := eqD_pln e1 e2 h1 h2 hn
  have e : eqD g x y = some (W.beq x' y') := by
    rw [← this]
    unfold eqD
    rw [hx, hy, e1, e2]
  cases x <;> cases y <;> exact e
end
/-! ### walks of rows that stand as a map -/
section
variable {α : Type} {t : T} {g : CH}
theorem at_map {as : List α} {wi : α → W} {i : Nat} {x : W} (h : (as.map wi)[i]? = some x) : ∃ a, as[i]? = some a ∧ x = wi a := by
  rw [List.getElem?_map, Option.map_eq_some_iff] at h
  obtain ⟨a, h1, h2⟩ := h
  exact ⟨a, h1, h2.symm⟩
/-- a comprehension: those that P lets pass, by f -/
theorem lc_fm {tst : Env → CH → (Bool → CH → Prop) → Prop} {elt : Env → CH → WK → Prop} {env0 : Env} {as : List α} {wi : α → W} {R : List W → CH → Prop} (P : α → Bool) (f : α → W)
    (hs : ∀ a ∈ as, ∀ (acc : List W) (k : List W → CH → Prop), (P a = true → k (acc ++ [f a]) g) → (P a = false → k acc g) →
      opt (asg t (wi a) env0) fun env1 => tst env1 g fun b g1 => if b = true then elt env1 g1 fun w g2 => k (acc ++ [w]) g2 else k acc g1)
    (he : R ((as.filter P).map f) g) : lcL t tst elt env0 none (as.map wi) (as.map wi) [] g R := by
  refine lc_inv (fun i acc g' => g' = g ∧ acc = ((as.take i).filter P).map f) (fun i x acc g' k hx h hk => ⟨trivial, ?_⟩) (fun acc g' h => ⟨trivial, ?_⟩) ⟨rfl, by simp⟩
  · obtain ⟨rfl, rfl⟩ := h
    obtain ⟨a, ha, rfl⟩ := at_map hx
    have e : as.take (i + 1) = as.take i ++ [a] := by rw [List.take_succ, ha]; rfl
    refine hs a (List.mem_of_getElem? ha) _ k (fun hp => hk _ _ ⟨rfl, ?_⟩) (fun hp => hk _ _ ⟨rfl, ?_⟩)
    · rw [e, List.filter_append, List.map_append, List.filter_cons_of_pos hp]; rfl
    · rw [e, List.filter_append, List.map_append, List.filter_cons_of_neg (by rw [hp]; decide)]; simp
  · obtain ⟨rfl, rfl⟩ := h
    rw [List.length_map, List.take_length]
    exact he
/-- .. all, by f -/
theorem lc_map {elt : Env → CH → WK → Prop} {F : FSem} {env0 : Env} {as : List α} {wi : α → W} {R : List W → CH → Prop} (f : α → W)
    (hs : ∀ a ∈ as, ∀ (k : WK), k (f a) g → opt (asg t (wi a) env0) fun env1 => elt env1 g k)
    (he : R (as.map f) g) : lcL t (wpT F .nil) elt env0 none (as.map wi) (as.map wi) [] g R := by
  refine lc_fm (fun _ => true) f (fun a ha acc k h1 h2 => ?_) (by rw [List.filter_eq_self.mpr (fun _ _ => rfl)]; exact he)
  exact hs a ha (fun w g2 => k (acc ++ [w]) g2) (h1 rfl)
/-- a for -/
theorem for_list {gc : Bool} {e0 env : Env} {g0 : CH} {body : Env → CH → Post → Prop} {as : List α} {wi : α → W} {P : Post} (I : Nat → Env → CH → Prop)
    (hs : ∀ (i : Nat) (a : α) (k : Env → CH → Prop), as[i]? = some a → (∀ e g, I (i + 1) e g → k e g) → ∀ e g, I i e g → opt (asg t (wi a) e) fun e1 => body e1 g (P.turn (turnEnd gc e0 g0 k)))
    (he : ∀ e g, I as.length e g → P.nx e g) (h0 : I 0 env g) : forL gc e0 g0 t body none (as.map wi) (as.map wi) env g P := by
  refine for_inv I (fun i x k hx hk e g' h => ⟨trivial, ?_⟩) (fun e g' h => ⟨trivial, he e g' ?_⟩) h0
  · obtain ⟨a, ha, rfl⟩ := at_map hx
    exact hs i a k ha hk e g' h
  · rwa [List.length_map] at h
end
/-! ### dicts whose keys are numbers -/
theorem keysOf_nat : ∀ B : List Nat, keysOf (B.map fun y : Nat => W.int y) = some (B.map fun y : Nat => Sum.inl (y : Int))
  | [] => rfl
  | b :: B => by simp only [List.map_cons, keysOf, keyOf, keysOf_nat B]; rfl
theorem inlsOf_nat : ∀ B : List Nat, inlsOf (B.map fun y : Nat => (Sum.inl (y : Int) : Key)) = some (B.map fun y : Nat => (y : Int))
  | [] => rfl
  | b :: B => by simp only [List.map_cons, inlsOf, inlsOf_nat B]; rfl
theorem dfind_nat {v : Nat → W} {b : Nat} : ∀ B : List Nat, dfind (B.map fun y : Nat => Sum.inl (y : Int)) (B.map v) (.inl (b : Int)) = if b ∈ B then some (v b) else none
  | [] => rfl
  | y :: B => by
    simp only [List.map_cons, dfind]
    by_cases h : y = b
    · subst h
      rw [if_pos rfl, if_pos List.mem_cons_self]
    · rw [if_neg (fun z => h (by have := Sum.inl.inj z; omega)), dfind_nat B]
      have e : b ∈ y :: B ↔ b ∈ B := by rw [List.mem_cons]; exact ⟨fun z => z.elim (fun z => absurd z.symm h) id, .inr⟩
      by_cases hb : b ∈ B
      · rw [if_pos hb, if_pos (e.mpr hb)]
      · rw [if_neg hb, if_neg (fun z => hb (e.mp z))]
theorem hasK_nat {b : Nat} (B : List Nat) : hasK (B.map fun y : Nat => Sum.inl (y : Int)) (.inl (b : Int)) = decide (b ∈ B) := by
  unfold hasK
  rw [Bool.eq_iff_iff]
  simp only [List.any_eq_true, List.mem_map, decide_eq_true_eq]
  constructor
  · rintro ⟨_, ⟨y, hy, rfl⟩, h⟩
    have : y = b := by have := Sum.inl.inj h; omega
    rwa [← this]
  · intro h
    exact ⟨_, ⟨b, h, rfl⟩, rfl⟩
theorem drepl_nat {v : Nat → W} {b : Nat} {w : W} : ∀ B : List Nat, drepl (B.map fun y : Nat => Sum.inl (y : Int)) (B.map v) (.inl (b : Int)) w = B.map fun y => if y = b then w else v y
  | [] => rfl
  | y :: B => by
    simp only [List.map_cons, drepl, drepl_nat B]
    congr 1
    by_cases h : y = b
    · subst h; rw [if_pos rfl, if_pos rfl]
    · rw [if_neg h, if_neg (fun z => h (by have := Sum.inl.inj z; omega))]
/-- the keys behind a store -/
def addK (B : List Nat) (b : Nat) : List Nat := if b ∈ B then B else B ++ [b]
theorem addK_mem {B : List Nat} {b y : Nat} : y ∈ addK B b ↔ y = b ∨ y ∈ B := by
  unfold addK
  split
  · rename_i h
    exact ⟨.inr, fun z => z.elim (fun e => by rw [e]; exact h) id⟩
  · rw [List.mem_append, List.mem_singleton]
    exact Or.comm
theorem addK_nodup {B : List Nat} {b : Nat} (h : B.Nodup) : (addK B b).Nodup := by
  unfold addK
  split
  · exact h
  · rename_i hb
    rw [List.nodup_append]
    refine ⟨h, by simp, fun a ha c hc e => ?_⟩
    rw [List.mem_singleton] at hc
    exact hb (by rw [← hc, ← e]; exact ha)
/-- the dict with the keys B -/
def dctN (B : List Nat) (v : Nat → W) : W := .dct (B.map fun y : Nat => W.int y) (B.map v)
theorem put_nat {B : List Nat} {v : Nat → W} {b : Nat} {w : W} {R : W → Prop} (q : R (dctN (addK B b) fun y => if y = b then w else v y)) : opt (putD (B.map fun y : Nat => Sum.inl (y : Int)) (B.map v) (.inl (b : Int)) w) R := by
  refine ⟨_, rfl, ?_⟩
  unfold dputK dputX
  rw [hasK_nat]
  unfold dctN addK at q
  by_cases h : b ∈ B
  · rw [if_pos h] at q
    rw [decide_eq_true h, if_pos rfl, if_pos rfl, drepl_nat, List.map_map]
    exact q
  · rw [if_neg h] at q
    rw [decide_eq_false h, if_neg (by decide), if_neg (by decide)]
    rw [List.map_append, List.map_append] at q
    have e : (B.map fun y => if y = b then w else v y) = B.map v := List.map_congr_left fun y hy => if_neg fun z => h (by rw [← z]; exact hy)
    rw [e] at q
    rw [List.map_append, List.map_map]
    simp only [List.map_cons, List.map_nil, if_true] at q
    exact q
theorem dctOf_nat {g : CH} {o : W} {B : List Nat} {v : Nat → W} (h : dr g o = dctN B v) : dctOf g o = some (B.map (fun y : Nat => Sum.inl (y : Int)), B.map v) := by
  unfold dctOf
  rw [h]
  show (keysOf _).map _ = _
  rw [keysOf_nat]; rfl
theorem dix_nat {g : CH} {o : W} {B : List Nat} {v : Nat → W} {b : Nat} {R : W → Prop} (h : dr g o = dctN B v) (hb : b ∈ B) (q : R (v b)) : opt (dixW g o (.int b)) R := by
  refine ⟨v b, ?_, q⟩
  unfold dixW
  rw [dctOf_nat h]
  show dfind _ _ _ = _
  rw [dfind_nat, if_pos hb]
theorem din_nat {g : CH} {o : W} {B : List Nat} {v : Nat → W} {b : Nat} {R : Bool → Prop} (h : dr g o = dctN B v) (q : R (decide (b ∈ B))) : opt (dinW g (.int b) o) R := by
  refine ⟨_, ?_, q⟩
  unfold dinW
  rw [dctOf_nat h]
  show some (dfind _ _ _).isSome = _
  rw [dfind_nat]
  by_cases hb : b ∈ B
  · rw [if_pos hb, decide_eq_true hb]; rfl
  · rw [if_neg hb, decide_eq_false hb]; rfl
theorem dob_nat {g : CH} {n : Nat} {B : List Nat} {v : Nat → W} {R : Nat × List Key × List W → Prop} (h : nth g n = some (dctN B v)) (q : R (n, B.map (fun y : Nat => Sum.inl (y : Int)), B.map v)) : opt (dobOf g (.ob n)) R := by
  refine ⟨_, ?_, q⟩
  unfold dobOf
  simp only [h, dctN]
  rw [keysOf_nat]; rfl
/-- the sorted keys -/
theorem sort_nat {n : Nat} {B : List Nat} (nd : B.Nodup) (hn : ∀ y ∈ B, y < n) : sortInts (B.map fun y : Nat => (y : Int)) = ((List.range n).filter fun y => decide (y ∈ B)).map fun y : Nat => (y : Int) := by
  refine sortInts_of (List.Perm.map _ ?_) ?_
  · refine (List.perm_ext_iff_of_nodup (List.Pairwise.filter _ List.nodup_range) nd).mpr fun y => ?_
    rw [List.mem_filter, List.mem_range, decide_eq_true_eq]
    exact ⟨fun z => z.2, fun z => ⟨hn y z, z⟩⟩
  · rw [List.pairwise_map]
    refine List.Pairwise.filter _ ?_
    exact (List.pairwise_lt_range).imp fun h => by omega
end Z
namespace Z.K02
open PySem PySem.Spec L2
open PyProof.Rows hiding St
def st (i : Nat) : PySem.Stmt := PySem.Challenge.pw_ftqc_k02_products_and_strings.main.body.getD i (.Pass ⟨0, 0, 0, 0⟩)
abbrev ftimes_products : Nat := 0
abbrev fcommute : Nat := 1
abbrev fletter_at : Nat := 2
abbrev fqubits_of : Nat := 3
abbrev fwithout : Nat := 4
abbrev fshifted : Nat := 5
abbrev fproduct_of : Nat := 6
abbrev fstring_of : Nat := 7
abbrev f_law_tape : Nat := 8
abbrev f_law_draw : Nat := 9
abbrev f_law_pick : Nat := 10
abbrev f_law_turns : Nat := 11
abbrev f_law_same : Nat := 12
abbrev f_law_prod_some : Nat := 13
abbrev f_law_prod_other : Nat := 14
abbrev f_law_flags : Nat := 15
abbrev f_law_prod_times : Nat := 16
abbrev f_law_prod_alike : Nat := 17
abbrev f_law_prod_given : Nat := 18
abbrev f_law_prod_changed : Nat := 19
abbrev f_law_prod_asked : Nat := 20
abbrev f_law_prod_of : Nat := 21
abbrev f_law_prod_length : Nat := 22
abbrev f_law_prod_due : Nat := 23
abbrev flaw : Nat := 24
def cLETTERS_TIMES : W := (.dct [(.str "XY"), (.str "YX"), (.str "YZ"), (.str "ZY"), (.str "ZX"), (.str "XZ")] [(.tup [(.int 1), (.str "Z")]), (.tup [(.int 3), (.str "Z")]), (.tup [(.int 1), (.str "X")]), (.tup [(.int 3), (.str "X")]), (.tup [(.int 1), (.str "Y")]), (.tup [(.int 3), (.str "Y")])])
def mtimes_products : Fn := ⟨2, 9, true, (.seq (.set (.n 2) (.k (.int 0))) (.seq (.set (.n 3) (.mk (.lst .nil))) (.seq (.set (.n 4) (.k (.int 0))) (.seq (.loop false (.tup (.cons (.n 5) (.cons (.n 6) .nil))) (.it (.v 1)) (.seq (.whil false (.and (.cmp .lt (.v 4) (.u1 .len (.v 0))) (.cmp .lt (.ix (.ix (.v 0) (.v 4)) (.k (.int 0))) (.v 5))) (.seq (.ex (.app (.v 3) (.ix (.v 0) (.v 4)))) (.seq (.set (.n 4) (.bin .add (.v 4) (.k (.int 1)))) .nop))) (.seq (.ite (.or (.cmp .eq (.v 4) (.u1 .len (.v 0))) (.cmp .gt (.ix (.ix (.v 0) (.v 4)) (.k (.int 0))) (.v 5))) (.seq (.ex (.app (.v 3) (.tup (.cons (.v 5) (.cons (.v 6) .nil))))) (.seq .cont .nop)) .nop) (.seq (.ite (.cmp .ne (.ix (.ix (.v 0) (.v 4)) (.k (.int 1))) (.v 6)) (.seq (.set (.tup (.cons (.n 7) (.cons (.n 8) .nil))) (.kdx cLETTERS_TIMES 0 (.bin .add (.ix (.ix (.v 0) (.v 4)) (.k (.int 1))) (.v 6)))) (.seq (.set (.n 2) (.bin .add (.v 2) (.v 7))) (.seq (.ex (.app (.v 3) (.tup (.cons (.v 5) (.cons (.v 8) .nil))))) .nop))) .nop) (.seq (.set (.n 4) (.bin .add (.v 4) (.k (.int 1)))) .nop))))) (.seq (.ex (.ext (.v 3) (.sl (.v 0) (.cons (.v 4) .nil) .nopart))) (.seq (.ret (.tup (.cons (.bin .mod (.v 2) (.k (.int 4))) (.cons (.u1 .tuple (.v 3)) .nil)))) .nop))))))⟩
def mcommute : Fn := ⟨2, 6, true, (.seq (.set (.n 2) (.dof (.v 0))) (.seq (.set (.n 3) (.fz (.lc [4, 5] (.tup (.cons (.n 4) (.cons (.n 5) .nil))) (.it (.v 1)) (.cons (.cmp .ne (.dget (.v 2) (.v 4) (.v 5)) (.v 5)) .nil) (.v 4)))) (.seq (.ret (.cmp .eq (.bin .mod (.u1 .len (.v 3)) (.k (.int 2))) (.k (.int 0)))) .nop)))⟩
def mletter_at : Fn := ⟨2, 4, false, (.seq (.loop false (.tup (.cons (.n 2) (.cons (.n 3) .nil))) (.it (.v 0)) (.seq (.ite (.cmp .eq (.v 2) (.v 1)) (.seq (.ret (.v 3)) .nop) .nop) .nop)) (.seq (.ret (.k (.str "I"))) .nop))⟩
def mqubits_of : Fn := ⟨1, 3, false, (.seq (.ret (.u1 .tuple (.fz (.lc [1, 2] (.tup (.cons (.n 1) (.cons (.n 2) .nil))) (.it (.v 0)) .nil (.v 1))))) .nop)⟩
def mwithout : Fn := ⟨2, 3, false, (.seq (.ret (.u1 .tuple (.fz (.lc [2] (.n 2) (.it (.v 0)) (.cons (.cmp .notin (.ix (.v 2) (.k (.int 0))) (.v 1)) .nil) (.v 2))))) .nop)⟩
def mshifted : Fn := ⟨2, 4, false, (.seq (.ret (.u1 .tuple (.fz (.lc [2, 3] (.tup (.cons (.n 2) (.cons (.n 3) .nil))) (.it (.v 0)) .nil (.tup (.cons (.bin .add (.v 2) (.v 1)) (.cons (.v 3) .nil))))))) .nop)⟩
def mproduct_of : Fn := ⟨1, 3, false, (.seq (.ret (.u1 .tuple (.fz (.lc [1, 2] (.tup (.cons (.n 1) (.cons (.n 2) .nil))) (.enum (.v 0)) (.cons (.cmp .ne (.v 2) (.k (.str "I"))) .nil) (.tup (.cons (.v 1) (.cons (.v 2) .nil))))))) .nop)⟩
def mstring_of : Fn := ⟨2, 5, true, (.seq (.set (.n 2) (.mk (.lc [3] (.n 3) (.rng1 (.v 1)) .nil (.k (.str "I"))))) (.seq (.loop false (.tup (.cons (.n 3) (.cons (.n 4) .nil))) (.it (.v 0)) (.seq (.setix (.v 2) (.v 3) (.v 4)) .nop)) (.seq (.ret (.m1 .join (.k (.str "")) (.v 2))) .nop)))⟩
abbrev m_law_tape : Fn := Z.m_law_tape
abbrev m_law_draw : Fn := Z.m_law_draw
abbrev m_law_pick : Fn := Z.m_law_pick f_law_draw
abbrev m_law_turns : Fn := Z.m_law_turns f_law_draw
abbrev m_law_same : Fn := Z.m_law_same f_law_same
def m_law_prod_some : Fn := ⟨1, 6, true, (.seq (.set (.n 1) (.ite (.cmp .gt (.call f_law_draw (.cons (.v 0) (.cons (.k (.int 8)) .nil))) (.k (.int 0))) (.call f_law_pick (.cons (.v 0) (.cons (.fz (.lst (.cons (.k (.int 0)) (.cons (.k (.int 1)) (.cons (.k (.int 2)) (.cons (.k (.int 2)) (.cons (.k (.int 3)) (.cons (.k (.int 4)) (.cons (.k (.int 6)) (.cons (.k (.int 9)) .nil)))))))))) .nil))) (.k (.int 48)))) (.seq (.set (.n 2) (.call f_law_draw (.cons (.v 0) (.cons (.k (.int 3)) .nil)))) (.seq (.set (.n 3) (.ite (.cmp .gt (.v 1) (.k (.int 9))) (.k (.int 2)) (.call f_law_pick (.cons (.v 0) (.cons (.fz (.lst (.cons (.k (.int 1)) (.cons (.k (.int 2)) (.cons (.k (.int 5)) (.cons (.k (.int 10)) .nil)))))) .nil))))) (.seq (.set (.n 4) (.mk (.lst .nil))) (.seq (.loop false (.n 5) (.rng1 (.v 1)) (.seq (.ex (.app (.v 4) (.tup (.cons (.v 2) (.cons (.call f_law_pick (.cons (.v 0) (.cons (.k (.str "XYZ")) .nil))) .nil))))) (.seq (.set (.n 2) (.bin .add (.bin .add (.v 2) (.k (.int 1))) (.call f_law_draw (.cons (.v 0) (.cons (.v 3) .nil))))) .nop))) (.seq (.ret (.u1 .tuple (.v 4))) .nop))))))⟩
def m_law_prod_other : Fn := ⟨2, 8, true, (.seq (.set (.n 2) (.call f_law_draw (.cons (.v 0) (.cons (.k (.int 6)) .nil)))) (.seq (.ite (.cmp .eq (.v 2) (.k (.int 0))) (.seq (.ret (.call f_law_prod_some (.cons (.v 0) .nil))) .nop) .nop) (.seq (.ite (.cmp .eq (.v 2) (.k (.int 1))) (.seq (.ret (.ite (.cmp .eq (.call f_law_draw (.cons (.v 0) (.cons (.k (.int 2)) .nil))) (.k (.int 0))) (.v 1) (.tup .nil))) .nop) .nop) (.seq (.set (.n 3) (.mk (.lst .nil))) (.seq (.loop false (.tup (.cons (.n 4) (.cons (.n 5) .nil))) (.it (.v 1)) (.seq (.set (.n 6) (.call f_law_draw (.cons (.v 0) (.cons (.k (.int 5)) .nil)))) (.seq (.ite (.cmp .lt (.v 6) (.k (.int 2))) (.seq (.ex (.app (.v 3) (.tup (.cons (.v 4) (.cons (.v 5) .nil))))) .nop) (.seq (.ite (.cmp .lt (.v 6) (.k (.int 4))) (.seq (.ex (.app (.v 3) (.tup (.cons (.v 4) (.cons (.call f_law_pick (.cons (.v 0) (.cons (.k (.str "XYZ")) .nil))) .nil))))) .nop) .nop) .nop)) .nop))) (.seq (.loop false (.n 4) (.rng1 (.k (.int 100))) (.seq (.ite (.and (.cmp .lt (.u1 .len (.v 3)) (.k (.int 12))) (.and (.cmp .eq (.call f_law_draw (.cons (.v 0) (.cons (.k (.int 9)) .nil))) (.k (.int 0))) (.cmp .notin (.v 4) (.fz (.lc [7] (.n 7) (.it (.v 1)) .nil (.ix (.v 7) (.k (.int 0)))))))) (.seq (.ex (.app (.v 3) (.tup (.cons (.v 4) (.cons (.call f_law_pick (.cons (.v 0) (.cons (.k (.str "XYZ")) .nil))) .nil))))) .nop) .nop) .nop)) (.seq (.ret (.u1 .tuple (.fz (.n1 .sortedP (.v 3))))) .nop)))))))⟩
def m_law_flags : Fn := ⟨1, 4, true, (.seq (.set (.n 1) .dnew) (.seq (.loop false (.tup (.cons (.n 2) (.cons (.n 3) .nil))) (.it (.v 0)) (.seq (.setd (.v 1) (.v 2) (.ix (.fz (.lst (.cons (.tup (.cons (.k (.int 1)) (.cons (.k (.int 0)) .nil))) (.cons (.tup (.cons (.k (.int 1)) (.cons (.k (.int 1)) .nil))) (.cons (.tup (.cons (.k (.int 0)) (.cons (.k (.int 1)) .nil))) .nil))))) (.m1 .index (.k (.str "XYZ")) (.v 3)))) .nop)) (.seq (.ret (.v 1)) .nop)))⟩
def m_law_prod_times : Fn := ⟨2, 12, true, (.seq (.set (.n 2) (.call f_law_flags (.cons (.v 0) .nil))) (.seq (.set (.n 3) (.call f_law_flags (.cons (.v 1) .nil))) (.seq (.set (.n 4) (.k (.int 0))) (.seq (.set (.n 5) (.mk (.lst .nil))) (.seq (.loop false (.n 6) (.rng1 (.k (.int 100))) (.seq (.set (.tup (.cons (.n 8) (.cons (.n 9) .nil))) (.dget (.v 2) (.v 6) (.tup (.cons (.k (.int 0)) (.cons (.k (.int 0)) .nil))))) (.seq (.set (.tup (.cons (.n 10) (.cons (.n 11) .nil))) (.dget (.v 3) (.v 6) (.tup (.cons (.k (.int 0)) (.cons (.k (.int 0)) .nil))))) (.seq (.set (.n 7) (.tup (.cons (.bin .mod (.u1 .int (.bin .add (.v 8) (.v 10))) (.k (.int 2))) (.cons (.bin .mod (.u1 .int (.bin .add (.v 9) (.v 11))) (.k (.int 2))) .nil)))) (.seq (.set (.n 4) (.bin .sub (.bin .add (.bin .add (.bin .add (.v 4) (.bin .mul (.v 8) (.v 9))) (.bin .mul (.v 10) (.v 11))) (.bin .mul (.bin .mul (.k (.int 2)) (.v 9)) (.v 10))) (.bin .mul (.ix (.v 7) (.k (.int 0))) (.ix (.v 7) (.k (.int 1)))))) (.seq (.ite (.cmp .ne (.v 7) (.tup (.cons (.k (.int 0)) (.cons (.k (.int 0)) .nil)))) (.seq (.ex (.app (.v 5) (.tup (.cons (.v 6) (.cons (.ix (.k (.str "IZXY")) (.bin .add (.bin .mul (.k (.int 2)) (.ix (.v 7) (.k (.int 0)))) (.ix (.v 7) (.k (.int 1))))) .nil))))) .nop) .nop) .nop)))))) (.seq (.ret (.tup (.cons (.bin .mod (.u1 .int (.v 4)) (.k (.int 4))) (.cons (.u1 .tuple (.v 5)) .nil)))) .nop))))))⟩
def m_law_prod_alike : Fn := ⟨2, 10, false, (.seq (.set (.n 2) (.call f_law_flags (.cons (.v 1) .nil))) (.seq (.set (.n 3) (.k (.int 0))) (.seq (.loop false (.tup (.cons (.n 4) (.cons (.n 5) .nil))) (.it (.v 0)) (.seq (.set (.tup (.cons (.n 6) (.cons (.n 7) .nil))) (.ix (.fz (.lst (.cons (.tup (.cons (.k (.int 1)) (.cons (.k (.int 0)) .nil))) (.cons (.tup (.cons (.k (.int 1)) (.cons (.k (.int 1)) .nil))) (.cons (.tup (.cons (.k (.int 0)) (.cons (.k (.int 1)) .nil))) .nil))))) (.m1 .index (.k (.str "XYZ")) (.v 5)))) (.seq (.set (.tup (.cons (.n 8) (.cons (.n 9) .nil))) (.dget (.v 2) (.v 4) (.tup (.cons (.k (.int 0)) (.cons (.k (.int 0)) .nil))))) (.seq (.set (.n 3) (.bin .add (.bin .add (.v 3) (.bin .mul (.v 6) (.v 9))) (.bin .mul (.v 7) (.v 8)))) .nop)))) (.seq (.ret (.cmp .eq (.bin .mod (.u1 .int (.v 3)) (.k (.int 2))) (.k (.int 0)))) .nop))))⟩
def m_law_prod_given : Fn := ⟨1, 10, true, (.seq (.set (.n 1) (.call f_law_prod_some (.cons (.v 0) .nil))) (.seq (.set (.n 2) (.call f_law_prod_other (.cons (.v 0) (.cons (.v 1) .nil)))) (.seq (.set (.n 3) (.fz (.lcat (.fz (.lc [4] (.n 4) (.it (.v 1)) .nil (.ix (.v 4) (.k (.int 0))))) (.fz (.lst (.cons (.call f_law_draw (.cons (.v 0) (.cons (.k (.int 100)) .nil))) (.cons (.call f_law_draw (.cons (.v 0) (.cons (.k (.int 100)) .nil))) .nil))))))) (.seq (.set (.n 5) (.mk (.lst .nil))) (.seq (.loop false (.n 6) (.rng1 (.call f_law_draw (.cons (.v 0) (.cons (.k (.int 4)) .nil)))) (.seq (.set (.n 7) (.call f_law_pick (.cons (.v 0) (.cons (.v 3) .nil)))) (.seq (.ite (.cmp .notin (.v 7) (.v 5)) (.seq (.ex (.app (.v 5) (.v 7))) .nop) .nop) .nop))) (.seq (.set (.n 8) (.m1 .join (.k (.str "")) (.fz (.lc [6] (.n 6) (.rng1 (.call f_law_pick (.cons (.v 0) (.cons (.fz (.lst (.cons (.k (.int 1)) (.cons (.k (.int 2)) (.cons (.k (.int 5)) (.cons (.k (.int 16)) (.cons (.bin .add (.k (.int 1)) (.call f_law_draw (.cons (.v 0) (.cons (.k (.int 16)) .nil)))) .nil))))))) .nil)))) .nil (.call f_law_pick (.cons (.v 0) (.cons (.k (.str "IIXYZ")) .nil))))))) (.seq (.set (.n 9) (.call f_law_pick (.cons (.v 0) (.cons (.fz (.lst (.cons (.k (.int 0)) (.cons (.k (.int 1)) (.cons (.k (.int 99)) (.cons (.call f_law_draw (.cons (.v 0) (.cons (.k (.int 100)) .nil))) .nil)))))) .nil)))) (.seq (.ret (.tup (.cons (.v 1) (.cons (.v 2) (.cons (.call f_law_pick (.cons (.v 0) (.cons (.v 3) .nil))) (.cons (.u1 .tuple (.v 5)) (.cons (.v 9) (.cons (.v 8) (.cons (.call f_law_draw (.cons (.v 0) (.cons (.k (.int 17)) .nil))) .nil))))))))) .nop))))))))⟩
def m_law_prod_changed : Fn := ⟨2, 11, false, (.seq (.set (.n 2) (.call f_law_draw (.cons (.v 0) (.cons (.k (.int 5)) .nil)))) (.seq (.set (.tup (.cons (.n 3) (.cons (.n 4) (.cons (.n 5) (.cons (.n 6) (.cons (.n 7) (.cons (.n 8) (.cons (.n 9) .nil)))))))) (.v 1)) (.seq (.ite (.cmp .eq (.v 2) (.k (.int 0))) (.seq (.ret (.tup (.cons (.sl (.call f_law_prod_other (.cons (.v 0) (.cons (.v 3) .nil))) .nopart (.cons (.k (.int 48)) .nil)) (.cons (.v 4) (.cons (.v 5) (.cons (.v 6) (.cons (.v 7) (.cons (.v 8) (.cons (.v 9) .nil))))))))) .nop) .nop) (.seq (.ite (.cmp .eq (.v 2) (.k (.int 1))) (.seq (.ret (.tup (.cons (.v 3) (.cons (.sl (.call f_law_prod_other (.cons (.v 0) (.cons (.v 4) .nil))) .nopart (.cons (.k (.int 48)) .nil)) (.cons (.v 5) (.cons (.v 6) (.cons (.v 7) (.cons (.v 8) (.cons (.v 9) .nil))))))))) .nop) .nop) (.seq (.ite (.cmp .eq (.v 2) (.k (.int 2))) (.seq (.ret (.tup (.cons (.v 4) (.cons (.v 3) (.cons (.v 5) (.cons (.v 6) (.cons (.v 7) (.cons (.v 8) (.cons (.v 9) .nil))))))))) .nop) .nop) (.seq (.ite (.cmp .eq (.v 2) (.k (.int 3))) (.seq (.set (.n 10) (.call f_law_draw (.cons (.v 0) (.cons (.u1 .len (.v 8)) .nil)))) (.seq (.ret (.tup (.cons (.v 3) (.cons (.v 4) (.cons (.v 5) (.cons (.v 6) (.cons (.v 7) (.cons (.bin .add (.bin .add (.sl (.v 8) .nopart (.cons (.v 10) .nil)) (.call f_law_pick (.cons (.v 0) (.cons (.k (.str "IXYZ")) .nil)))) (.sl (.v 8) (.cons (.bin .add (.v 10) (.k (.int 1))) .nil) .nopart)) (.cons (.v 9) .nil))))))))) .nop)) .nop) (.seq (.ret (.tup (.cons (.v 3) (.cons (.v 4) (.cons (.call f_law_draw (.cons (.v 0) (.cons (.k (.int 100)) .nil))) (.cons (.sl (.v 6) (.cons (.k (.int 1)) .nil) .nopart) (.cons (.bin .mod (.u1 .int (.bin .add (.v 7) (.k (.int 1)))) (.k (.int 100))) (.cons (.v 8) (.cons (.bin .add (.v 9) (.k (.int 1))) .nil))))))))) .nop)))))))⟩
def m_law_prod_asked : Fn := ⟨2, 9, false, (.seq (.set (.tup (.cons (.n 2) (.cons (.n 3) (.cons (.n 4) (.cons (.n 5) (.cons (.n 6) (.cons (.n 7) (.cons (.n 8) .nil)))))))) (.v 1)) (.seq (.ite (.cmp .eq (.v 0) (.k (.int 0))) (.seq (.ret (.call ftimes_products (.cons (.v 2) (.cons (.v 3) .nil)))) .nop) .nop) (.seq (.ite (.cmp .eq (.v 0) (.k (.int 1))) (.seq (.ret (.call ftimes_products (.cons (.v 3) (.cons (.v 2) .nil)))) .nop) .nop) (.seq (.ite (.cmp .eq (.v 0) (.k (.int 2))) (.seq (.ret (.call fcommute (.cons (.v 2) (.cons (.v 3) .nil)))) .nop) .nop) (.seq (.ite (.cmp .eq (.v 0) (.k (.int 3))) (.seq (.ret (.call fletter_at (.cons (.v 2) (.cons (.v 4) .nil)))) .nop) .nop) (.seq (.ite (.cmp .eq (.v 0) (.k (.int 4))) (.seq (.ret (.call fqubits_of (.cons (.v 2) .nil))) .nop) .nop) (.seq (.ite (.cmp .eq (.v 0) (.k (.int 5))) (.seq (.ret (.call fwithout (.cons (.v 2) (.cons (.v 5) .nil)))) .nop) .nop) (.seq (.ite (.cmp .eq (.v 0) (.k (.int 6))) (.seq (.ret (.call fshifted (.cons (.v 2) (.cons (.v 6) .nil)))) .nop) .nop) (.seq (.ite (.cmp .eq (.v 0) (.k (.int 7))) (.seq (.ret (.call fproduct_of (.cons (.v 7) .nil))) .nop) .nop) (.seq (.ret (.call fstring_of (.cons (.call f_law_prod_of (.cons (.v 7) .nil)) (.cons (.call f_law_prod_length (.cons (.v 7) (.cons (.v 8) .nil))) .nil)))) .nop))))))))))⟩
def m_law_prod_of : Fn := ⟨1, 2, false, (.seq (.ret (.u1 .tuple (.fz (.lc [1] (.n 1) (.rng1 (.u1 .len (.v 0))) (.cons (.cmp .ne (.ix (.v 0) (.v 1)) (.k (.str "I"))) .nil) (.tup (.cons (.v 1) (.cons (.ix (.v 0) (.v 1)) .nil))))))) .nop)⟩
def m_law_prod_length : Fn := ⟨2, 4, false, (.seq (.set (.n 2) (.u1 .max (.fz (.lcat (.fz (.lst (.cons (.k (.int 1)) .nil))) (.fz (.lc [3] (.n 3) (.rng1 (.u1 .len (.v 0))) (.cons (.cmp .ne (.ix (.v 0) (.v 3)) (.k (.str "I"))) .nil) (.bin .add (.v 3) (.k (.int 1))))))))) (.seq (.ret (.bin .add (.v 2) (.bin .mod (.u1 .int (.v 1)) (.bin .sub (.k (.int 17)) (.v 2))))) .nop))⟩
def m_law_prod_due : Fn := ⟨2, 12, false, (.seq (.set (.tup (.cons (.n 2) (.cons (.n 3) (.cons (.n 4) (.cons (.n 5) (.cons (.n 6) (.cons (.n 7) (.cons (.n 8) .nil)))))))) (.v 1)) (.seq (.ite (.cmp .eq (.v 0) (.k (.int 0))) (.seq (.ret (.call f_law_prod_times (.cons (.v 2) (.cons (.v 3) .nil)))) .nop) .nop) (.seq (.ite (.cmp .eq (.v 0) (.k (.int 1))) (.seq (.ret (.call f_law_prod_times (.cons (.v 3) (.cons (.v 2) .nil)))) .nop) .nop) (.seq (.ite (.cmp .eq (.v 0) (.k (.int 2))) (.seq (.ret (.call f_law_prod_alike (.cons (.v 2) (.cons (.v 3) .nil)))) .nop) .nop) (.seq (.ite (.cmp .eq (.v 0) (.k (.int 3))) (.seq (.ret (.ix (.fz (.lcat (.fz (.lc [9, 10] (.tup (.cons (.n 9) (.cons (.n 10) .nil))) (.it (.v 2)) (.cons (.cmp .eq (.v 9) (.v 4)) .nil) (.v 10))) (.fz (.lst (.cons (.k (.str "I")) .nil))))) (.k (.int 0)))) .nop) .nop) (.seq (.ite (.cmp .eq (.v 0) (.k (.int 4))) (.seq (.ret (.u1 .tuple (.fz (.lc [9, 10] (.tup (.cons (.n 9) (.cons (.n 10) .nil))) (.it (.v 2)) .nil (.v 9))))) .nop) .nop) (.seq (.ite (.cmp .eq (.v 0) (.k (.int 5))) (.seq (.ret (.u1 .tuple (.fz (.lc [11] (.n 11) (.it (.v 2)) (.cons (.cmp .notin (.ix (.v 11) (.k (.int 0))) (.v 5)) .nil) (.v 11))))) .nop) .nop) (.seq (.ite (.cmp .eq (.v 0) (.k (.int 6))) (.seq (.ret (.u1 .tuple (.fz (.lc [9, 10] (.tup (.cons (.n 9) (.cons (.n 10) .nil))) (.it (.v 2)) .nil (.tup (.cons (.bin .add (.v 9) (.v 6)) (.cons (.v 10) .nil))))))) .nop) .nop) (.seq (.ite (.cmp .eq (.v 0) (.k (.int 7))) (.seq (.ret (.call f_law_prod_of (.cons (.v 7) .nil))) .nop) .nop) (.seq (.ret (.sl (.bin .add (.v 7) (.bin .mul (.k (.str "I")) (.k (.int 16)))) .nopart (.cons (.call f_law_prod_length (.cons (.v 7) (.cons (.v 8) .nil))) .nil))) .nop))))))))))⟩
def mlaw : Fn := ⟨1, 6, true, (.seq (.set (.n 1) (.call f_law_tape (.cons (.v 0) .nil))) (.seq (.set (.n 2) (.call f_law_prod_given (.cons (.v 1) .nil))) (.seq (.set (.n 3) (.call f_law_prod_changed (.cons (.v 1) (.cons (.v 2) .nil)))) (.seq (.loop false (.n 4) (.it (.fz (.lst (.cons (.v 2) (.cons (.v 3) (.cons (.v 2) .nil)))))) (.seq (.loop false (.n 5) (.it (.call f_law_turns (.cons (.v 1) (.cons (.k (.int 9)) .nil)))) (.seq (.ite (.nt (.tv (.call f_law_same (.cons (.call f_law_prod_asked (.cons (.v 5) (.cons (.v 4) .nil))) (.cons (.call f_law_prod_due (.cons (.v 5) (.cons (.v 4) .nil))) .nil))))) (.seq (.ret (.k (.bl false))) .nop) .nop) .nop)) .nop)) (.seq (.ret (.k (.bl true))) .nop)))))⟩
def dtimes_products : DefZ := ⟨"times_products", defArgs (st 2), defBody (st 2), defScope (st 2), ["first", "second", "power", "factors", "at", "qubit", "letter", "turns", "made"], mtimes_products⟩
def dcommute : DefZ := ⟨"commute", defArgs (st 3), defBody (st 3), defScope (st 3), ["first", "second", "letters", "unlike", "qubit", "letter"], mcommute⟩
def dletter_at : DefZ := ⟨"letter_at", defArgs (st 4), defBody (st 4), defScope (st 4), ["product", "qubit", "other", "letter"], mletter_at⟩
def dqubits_of : DefZ := ⟨"qubits_of", defArgs (st 5), defBody (st 5), defScope (st 5), ["product", "qubit", "letter"], mqubits_of⟩
def dwithout : DefZ := ⟨"without", defArgs (st 6), defBody (st 6), defScope (st 6), ["product", "qubits", "factor"], mwithout⟩
def dshifted : DefZ := ⟨"shifted", defArgs (st 7), defBody (st 7), defScope (st 7), ["product", "by", "qubit", "letter"], mshifted⟩
def dproduct_of : DefZ := ⟨"product_of", defArgs (st 8), defBody (st 8), defScope (st 8), ["string", "qubit", "letter"], mproduct_of⟩
def dstring_of : DefZ := ⟨"string_of", defArgs (st 9), defBody (st 9), defScope (st 9), ["product", "length", "letters", "qubit", "letter"], mstring_of⟩
def d_law_tape : DefZ := ⟨"_law_tape", defArgs (st 11), defBody (st 11), defScope (st 11), ["script", "mixed", "cell"], m_law_tape⟩
def d_law_draw : DefZ := ⟨"_law_draw", defArgs (st 12), defBody (st 12), defScope (st 12), ["reel", "wide", "place", "number"], m_law_draw⟩
def d_law_pick : DefZ := ⟨"_law_pick", defArgs (st 13), defBody (st 13), defScope (st 13), ["reel", "menu"], m_law_pick⟩
def d_law_turns : DefZ := ⟨"_law_turns", defArgs (st 14), defBody (st 14), defScope (st 14), ["reel", "total", "left", "turns", "k"], m_law_turns⟩
def d_law_same : DefZ := ⟨"_law_same", defArgs (st 15), defBody (st 15), defScope (st 15), ["told", "wanted", "k"], m_law_same⟩
def d_law_prod_some : DefZ := ⟨"_law_prod_some", defArgs (st 16), defBody (st 16), defScope (st 16), ["reel", "size", "at", "gap", "told", "k"], m_law_prod_some⟩
def d_law_prod_other : DefZ := ⟨"_law_prod_other", defArgs (st 17), defBody (st 17), defScope (st 17), ["reel", "first", "kind", "told", "q", "letter", "turn", "one"], m_law_prod_other⟩
def d_law_flags : DefZ := ⟨"_law_flags", defArgs (st 18), defBody (st 18), defScope (st 18), ["product", "flags", "q", "letter"], m_law_flags⟩
def d_law_prod_times : DefZ := ⟨"_law_prod_times", defArgs (st 19), defBody (st 19), defScope (st 19), ["first", "second", "one", "other", "turn", "told", "q", "both", "x", "z", "u", "v"], m_law_prod_times⟩
def d_law_prod_alike : DefZ := ⟨"_law_prod_alike", defArgs (st 20), defBody (st 20), defScope (st 20), ["first", "second", "other", "odd", "q", "letter", "x", "z", "u", "v"], m_law_prod_alike⟩
def d_law_prod_given : DefZ := ⟨"_law_prod_given", defArgs (st 21), defBody (st 21), defScope (st 21), ["reel", "first", "second", "qubits", "one", "left", "k", "q", "string", "by"], m_law_prod_given⟩
def d_law_prod_changed : DefZ := ⟨"_law_prod_changed", defArgs (st 22), defBody (st 22), defScope (st 22), ["reel", "given", "kind", "first", "second", "q", "left", "by", "string", "wide", "k"], m_law_prod_changed⟩
def d_law_prod_asked : DefZ := ⟨"_law_prod_asked", defArgs (st 23), defBody (st 23), defScope (st 23), ["door", "given", "first", "second", "q", "left", "by", "string", "wide"], m_law_prod_asked⟩
def d_law_prod_of : DefZ := ⟨"_law_prod_of", defArgs (st 24), defBody (st 24), defScope (st 24), ["string", "k"], m_law_prod_of⟩
def d_law_prod_length : DefZ := ⟨"_law_prod_length", defArgs (st 25), defBody (st 25), defScope (st 25), ["string", "wide", "least", "k"], m_law_prod_length⟩
def d_law_prod_due : DefZ := ⟨"_law_prod_due", defArgs (st 26), defBody (st 26), defScope (st 26), ["door", "given", "first", "second", "q", "left", "by", "string", "wide", "at", "letter", "one"], m_law_prod_due⟩
def dlaw : DefZ := ⟨"law", defArgs (st 27), defBody (st 27), defScope (st 27), ["script", "reel", "first", "second", "given", "door"], mlaw⟩
def Ds : List DefZ := [dtimes_products, dcommute, dletter_at, dqubits_of, dwithout, dshifted, dproduct_of, dstring_of, d_law_tape, d_law_draw, d_law_pick, d_law_turns, d_law_same, d_law_prod_some, d_law_prod_other, d_law_flags, d_law_prod_times, d_law_prod_alike, d_law_prod_given, d_law_prod_changed, d_law_prod_asked, d_law_prod_of, d_law_prod_length, d_law_prod_due, dlaw]
def cs : List (Str × W) := [("LETTERS_TIMES", cLETTERS_TIMES)]
def free : List Str := ["tuple", "len", "dict", "enumerate", "range", "list", "int", "abs", "max", "isinstance", "bool", "str", "sorted"]
end Z.K02
namespace Z.K02
open PySem PySem.Spec L2
open PyProof.Rows hiding St
theorem dsOk : Ds.all (DefZ.ok (globs Ds cs free)) = true := by decide +kernel
abbrev R : PySem.W.OpenRow := PySem.W.OpenLaw.row PySem.Challenge.rw_ftqc_k02_products_and_strings
abbrev hk : PySem.W.Hook := hookZ 4 cs free Ds
def ob (s : PySem.W.SharedT) : Z.AlZ := obsZG 4 cs free Ds (HandSHeadRun.getT s)
theorem ob_eq (s : PySem.W.SharedT) : ob s = hk.obs s.abs := obsZG_eq (HandSHeadRun.getT_eq s)
def loose : List Str := (["times_products", "commute", "letter_at", "qubits_of", "without", "shifted", "product_of", "string_of", "_law_tape", "_law_draw", "_law_pick", "_law_turns", "_law_same", "_law_prod_some", "_law_prod_other", "_law_flags", "_law_prod_times", "_law_prod_alike", "_law_prod_given", "_law_prod_changed"] : List Str) ++ (["_law_prod_asked", "_law_prod_of", "_law_prod_length", "_law_prod_due", "LETTERS_TIMES"] : List Str)
theorem headRunF (w : World) : HandSHeadRun.RunEq R (PySem.W.view R.prog [27]) hk ob 4000 loose (setF w false) := by
  intro os
  kernel_rfl
theorem headRunT (w : World) : HandSHeadRun.RunEq R (PySem.W.view R.prog [27]) hk ob 4000 loose (setF w true) := by
  intro os
  kernel_rfl
theorem headRunB (b : Bool) (w : World) : HandSHeadRun.RunEq R (PySem.W.view R.prog [27]) hk ob 4000 loose (setF w b) := by
  cases b
  · exact headRunF w
  · exact headRunT w
theorem headRun (w : World) : HandSHeadRun.RunEq R (PySem.W.view R.prog [27]) hk ob 4000 loose w := by
  have h := headRunB (w.params.followText "special-get-raises") w
  rwa [setF_eq] at h
end Z.K02
namespace Z.K02
open PySem PySem.Spec L2
open PyProof.Rows hiding St
section
variable {d : Nat} {g : CH} {Q : WK} {t : W}
local macro_rules | `(tactic| walk_at "zn") => `(tactic| dsimp only [List.set_cons_zero, List.set_cons_succ, zwipe0, zwipeS, zmap_cons, zmap_nil, zcons_app, znil_app, List.replicate_succ, List.replicate_zero, Nat.reduceSub, Int.reduceAdd, Int.reduceSub, Int.reduceNeg, Int.reduceMul, Int.reduceToNat, Int.reducePow, List.length_cons, List.length_nil, Nat.reduceAdd])
local macro_rules | `(tactic| walk_at "z0") => `(tactic| first
  | with_reducible refine nx_seq ?_
  | with_reducible refine nop_i ?_
  | with_reducible refine k_i ?_
  | with_reducible refine seq_i ?_
  | with_reducible refine reti ?_
  | with_reducible refine gl_i ?_
  | with_reducible refine anil_i ?_
  | with_reducible refine tnil_i ?_
  | with_reducible refine rt_seq ?_
  | with_reducible refine nx_turn ?_
  | with_reducible refine rt_turn ?_
  | with_reducible refine fn_rt ?_
  | with_reducible refine bk_seq ?_
  | with_reducible refine ct_seq ?_
  | with_reducible refine bk_turn ?_
  | with_reducible refine ct_turn ?_
  | with_reducible refine fn_nx ?_
  | ((with_reducible refine turn_id ?_); refine turn_ng ?_)
  | ((with_reducible refine ret_id ?_); refine ret_ng ?_)
  | ((with_reducible refine ite_id ?_); first | refine if_t rfl ?_ | refine if_f rfl ?_)
  | (refine opt_id ?_; first
    | (refine opt_asg rfl ?_; walk_at "zn")
    | (refine put_i ?_; walk_at "zn")
    | (refine add_i ?_; walk_at "zn")
    | with_reducible refine opt_eq ?_
    | ((with_reducible refine opt_pow ⟨by omega, by omega, by omega⟩ ?_); walk_at "zn")
    | with_reducible refine opt_ne ?_
    | with_reducible refine opt_slTo (by omega) ?_
    | with_reducible refine opt_slFrom (by omega) ?_
    | with_reducible refine opt_lslTo (by omega) ?_
    | refine opt_i rfl ?_
    | refine opt_mul (mulOk64 ⟨by omega, by omega⟩ ⟨by omega, by omega⟩) ?_
    | refine opt_mod (by omega) ?_
    | refine opt_shr (by omega) ?_
    | refine opt_fdiv (by constructor <;> first | decide | omega) ?_
    | refine opt_rng (by unfold rngOk; omega) ?_)
  | refine And.intro (Nat.le_of_ble_eq_true rfl) ?_
  | refine And.intro (by decide) ?_
  | refine And.intro (small (by first | omega | (dsimp only; omega))) ?_)
local macro_rules | `(tactic| walk_at "z1") => `(tactic| first
  | walk_at "z0"
  | ((with_reducible refine forL_id ?_); first | refine forL_cons ?_ | refine forL_nil ?_)
  | ((with_reducible refine lcL_id ?_); first | refine lcL_cons ?_ | refine lcL_nil ?_))
local macro_rules | `(tactic| walk_at "zs") => `(tactic| ((repeat walk_at "z0"); try (first | with_reducible refine forL_id ?_ | with_reducible refine lcL_id ?_)))
local macro_rules | `(tactic| walk_at "zf") => `(tactic| (refine fn_i rfl rfl rfl ?_; walk_at "zn"))
local macro_rules | `(tactic| walk_at "zi") => `(tactic| ((with_reducible refine ite_id ?_); first | refine if_d ?_ ?_ | refine if_n ?_ ?_))
local macro_rules | `(tactic| walk_at "zz") => `(tactic| (repeat walk_at "z1"; try ((walk_at "zi"; (all_goals intro _); (all_goals try (exfalso; omega)); (all_goals walk_at "zz")))))
local macro_rules | `(tactic| walk_at "z") => `(tactic| ((repeat walk_at "z1"); try (first | with_reducible refine forL_id ?_ | with_reducible refine ret_id ?_ | with_reducible refine turn_id ?_ | with_reducible refine lcL_id ?_ | with_reducible refine ite_id ?_ | refine call_id ?_ | with_reducible refine opt_id ?_)))
local macro_rules | `(tactic| walk_at "zh") => `(tactic| first | rfl | assumption | omega | decide)
theorem p_tape {ns : List Int} (k : ∀ t', Tape 0 t' → Q (.ob 0) [t']) : wpC (codeT Ds) (d + 1) f_law_tape [.lck (ns.map .int)] [] Q := w_tape rfl k
theorem p_draw {n : Nat} {t : W} {wide : Int} {rest : CH} (ht : Tape n t) (hn : n < 2 ^ 40) (hw : wide.natAbs < 18446744073709551616)
    (k : ∀ (v : Int) t', 0 ≤ v → v < max wide 1 → Tape (n + 1) t' → Q (.int v) (t' :: rest)) : wpC (codeT Ds) (d + 1) f_law_draw [.ob 0, .int wide] (t :: rest) Q := w_draw rfl ht hn hw k
theorem p_pick {n : Nat} {t : W} {xs : List W} {rest : CH} (ht : Tape n t) (hn : n < 2 ^ 40) (h0 : xs ≠ []) (hl : xs.length ≤ sizeLine)
    (k : ∀ x t', x ∈ xs → Tape (n + 1) t' → Q x (t' :: rest)) : wpC (codeT Ds) (d + 2) f_law_pick [.ob 0, .lst xs] (t :: rest) Q := w_pick (j := f_law_draw) rfl rfl ht hn h0 hl k
theorem p_turns {n m : Nat} {t : W} (ht : Tape n t) (hn : n + m + 1 < 2 ^ 40) (h0 : 0 < m) (hm : m < 2 ^ 20)
    (k : ∀ (vs : List Int) t', (∀ v ∈ vs, 0 ≤ v ∧ v < m) → vs.length ≤ m → Tape (n + m + 1) t' → Q (.lst (vs.map .int)) [t']) : wpC (codeT Ds) (d + 2) f_law_turns [.ob 0, .int m] [t] Q := w_turns (j := f_law_draw) rfl rfl ht hn h0 hm k
theorem p_turnsZ {n m : Nat} {q : Int} {t : W} (hq : q = (m : Int)) (ht : Tape n t) (hn : n + m + 1 < 2 ^ 40) (h0 : 0 < m) (hm : m < 2 ^ 20)
    (k : ∀ (vs : List Int) t', (∀ v ∈ vs, 0 ≤ v ∧ v < m) → vs.length ≤ m → Tape (n + m + 1) t' → Q (.lst (vs.map .int)) [t']) : wpC (codeT Ds) (d + 2) f_law_turns [.ob 0, .int q] [t] Q := by
  subst hq
  exact w_turns (j := f_law_draw) rfl rfl ht hn h0 hm k
theorem p_same (n : Nat) {x : W} {g : CH} (h : plain n x = true) (k : Q (.bl true) g) : wpC (codeT Ds) (d + n + 1) f_law_same [x, x] g Q := w_same rfl n x g Q h k
/-! letters by number: 0 I, 1 Z, 2 X, 3 Y -/
def Lc (c : Nat) : Nat := if c = 0 then 73 else if c = 1 then 90 else if c = 2 then 88 else 89
def S (cs : List Nat) : Str := ⟨(cs.map Lc).toArray⟩
def L (c : Nat) : Str := S [c]
theorem L0 : L 0 = ("I" : Str) := by decide +kernel
theorem L1 : L 1 = ("Z" : Str) := by decide +kernel
theorem L2 : L 2 = ("X" : Str) := by decide +kernel
theorem L3 : L 3 = ("Y" : Str) := by decide +kernel
theorem S_len (cs : List Nat) : (S cs).length = cs.length := by
  show (List.map Lc cs).toArray.size = _
  simp
theorem S_list (cs : List Nat) : (S cs).cps.toList = cs.map Lc := rfl
theorem eqvL {a b : Nat} (ha : a ≤ 3) (hb : b ≤ 3) : PyData.eqv (.str (L a)) (.str (L b)) = decide (a = b) := by
  have h : ∀ a : Fin 4, ∀ b : Fin 4, PyData.eqv (.str (L a)) (.str (L b)) = decide (a.1 = b.1) := by decide +kernel
  exact h ⟨a, by omega⟩ ⟨b, by omega⟩
theorem eqvI {a : Nat} (ha : a ≤ 3) : PyData.eqv (.str (L a)) (.str "I") = decide (a = 0) := by
  have := eqvL ha (show 0 ≤ 3 by omega)
  rwa [L0] at this
abbrev Pd := List (Nat × Nat)
def pz (z : Nat × Nat) : W := .tup [.int z.1, .str (L z.2)]
def pW (p : Pd) : W := .tup (p.map pz)
/-- the letter at a qubit -/
def lk : Pd → Int → Nat
  | [], _ => 0
  | z :: zs, q => if (z.1 : Int) = q then z.2 else lk zs q
theorem at_map {α : Type} {f : α → W} {xs : List α} {i : Nat} {w : W} (h : (xs.map f)[i]? = some w) : ∃ a, xs[i]? = some a ∧ w = f a := by
  rw [List.getElem?_map] at h
  cases q : xs[i]? with
  | none => rw [q] at h; cases h
  | some c => rw [q] at h; cases h; exact ⟨c, rfl, rfl⟩
theorem lc_fmO {α : Type} {tt : T} {o : Option Nat} {tst : Env → CH → (Bool → CH → Prop) → Prop} {elt : Env → CH → WK → Prop} {env0 : Env} {as : List α} {wi : α → W} {R : List W → CH → Prop} (P : α → Bool) (f : α → W) (st : stays g o (as.map wi))
    (hs : ∀ a ∈ as, ∀ (acc : List W) (k : List W → CH → Prop), (P a = true → k (acc ++ [f a]) g) → (P a = false → k acc g) →
      opt (asg tt (wi a) env0) fun env1 => tst env1 g fun b g1 => if b = true then elt env1 g1 fun w g2 => k (acc ++ [w]) g2 else k acc g1)
    (he : R ((as.filter P).map f) g) : lcL tt tst elt env0 o (as.map wi) (as.map wi) [] g R := by
  refine lc_inv (fun i acc g' => g' = g ∧ acc = ((as.take i).filter P).map f) (fun i x acc g' k hx h hk => ?_) (fun acc g' h => ?_) ⟨rfl, by simp⟩
  · obtain ⟨rfl, rfl⟩ := h
    refine ⟨st, ?_⟩
    obtain ⟨a, ha, rfl⟩ := at_map hx
    have e : as.take (i + 1) = as.take i ++ [a] := by rw [List.take_succ, ha]; rfl
    refine hs a (List.mem_of_getElem? ha) _ k (fun hp => hk _ _ ⟨rfl, ?_⟩) (fun hp => hk _ _ ⟨rfl, ?_⟩)
    · rw [e, List.filter_append, List.map_append, List.filter_cons_of_pos hp]; rfl
    · rw [e, List.filter_append, List.map_append, List.filter_cons_of_neg (by rw [hp]; decide)]; simp
  · obtain ⟨rfl, rfl⟩ := h
    refine ⟨st, ?_⟩
    rw [List.length_map, List.take_length]
    exact he
theorem lc_mapO {α : Type} {tt : T} {o : Option Nat} {elt : Env → CH → WK → Prop} {F : FSem} {env0 : Env} {as : List α} {wi : α → W} {R : List W → CH → Prop} (f : α → W) (st : stays g o (as.map wi))
    (hs : ∀ a ∈ as, ∀ (k : WK), k (f a) g → opt (asg tt (wi a) env0) fun env1 => elt env1 g k)
    (he : R (as.map f) g) : lcL tt (wpT F .nil) elt env0 o (as.map wi) (as.map wi) [] g R := by
  refine lc_fmO (fun _ => true) f st (fun a ha acc k h1 h2 => ?_) (by rw [List.filter_eq_self.mpr (fun _ _ => rfl)]; exact he)
  exact hs a ha (fun w g2 => k (acc ++ [w]) g2) (h1 rfl)
theorem nth_g {g : CH} {w : W} : nth (g ++ [w]) g.length = some w := by rw [nth_eq]; simp
theorem dr_g {g : CH} {w : W} : dr (g ++ [w]) (.ob g.length) = w := by unfold dr; dsimp only; rw [nth_g]
theorem ob_g {g : CH} {ws : List W} : obOf (g ++ [.lst ws]) (.ob g.length) = some (g.length, ws) := by
  unfold obOf
  dsimp only
  rw [nth_g]
theorem tup_g {g : CH} {ws : List W} : u1W (g ++ [.lst ws]) .tuple (.ob g.length) = some (.tup ws) := by
  show (match dr (g ++ [W.lst ws]) (.ob g.length) with | W.tup xs => some (W.tup xs) | W.lst xs => some (.tup xs) | _ => none) = _
  rw [dr_g]
theorem set_g {g : CH} {a w : W} : (g ++ [a]).set g.length w = g ++ [w] := by simp
theorem w_letter {p : Pd} {q : Int} (k : Q (.str (L (lk p q))) g) : wpC (codeT Ds) (d + 1) fletter_at [pW p, .int q] g Q := by
  unfold pW
  walk_at "zf"
  walk_at "zs"
  refine for_inv (fun i e g' => ∃ z u, g' = g ∧ lk p q = lk (p.drop i) q ∧ e = [some (.tup (p.map pz)), some (.int q), z, u]) ?_ ?_ ⟨none, none, rfl, rfl, rfl⟩
  · rintro i w k' hw hk _ _ ⟨z, u, rfl, h1, rfl⟩
    obtain ⟨y, hy, rfl⟩ := at_map hw
    rw [drop_cons hy] at h1
    obtain ⟨a, l⟩ := y
    dsimp only [lk] at h1
    refine ⟨trivial, ?_⟩
    rw [show pz (a, l) = .tup [.int a, .str (L l)] from rfl]
    walk_at "zs"
    refine if_d (fun h => ?_) (fun h => ?_)
    · rw [if_pos h] at h1
      rw [h1] at k
      walk_at "zs"
      exact k
    · rw [if_neg h] at h1
      walk_at "zs"
      exact hk _ _ ⟨_, _, rfl, h1, rfl⟩
  · rintro _ _ ⟨z, u, rfl, h1, rfl⟩
    refine ⟨trivial, ?_⟩
    rw [List.length_map, List.drop_length] at h1
    dsimp only [lk] at h1
    rw [h1, L0] at k
    walk_at "zs"
    exact k
theorem w_qubits {p : Pd} (k : Q (.tup (p.map fun z => .int z.1)) g) : wpC (codeT Ds) (d + 1) fqubits_of [pW p] g Q := by
  unfold pW
  walk_at "zf"
  walk_at "zs"
  refine lc_mapO (as := p) (wi := pz) (fun z => W.int z.1) trivial (fun z hz kk h1 => ?_) ?_
  · rw [show pz z = .tup [.int z.1, .str (L z.2)] from rfl]
    walk_at "zs"
    exact h1
  walk_at "zs"
  exact k
theorem notin_i {i : Int} {ls : List Int} {R : Bool → Prop} {y : W} (hy : dr g y = .tup (ls.map .int) ∨ dr g y = .lst (ls.map .int)) (q : R (!decide (i ∈ ls))) : opt (cop g .notin (.int i) y) R := by
  refine ⟨!decide (i ∈ ls), ?_, q⟩
  show (inD g (.int i) y).map not = _
  rw [inD_pln (n := 0) rfl hy rfl (pln_ints0 ls) (by omega), any_ints]
  rfl
def wout (p : Pd) (ls : List Int) : Pd := p.filter fun z => !decide ((z.1 : Int) ∈ ls)
theorem w_without {p : Pd} {ls : List Int} (k : Q (pW (wout p ls)) g) : wpC (codeT Ds) (d + 1) fwithout [pW p, .tup (ls.map .int)] g Q := by
  unfold pW at *
  walk_at "zf"
  walk_at "zs"
  refine lc_fmO (as := p) (wi := pz) (fun z => !decide ((z.1 : Int) ∈ ls)) pz trivial (fun z hz acc kk h1 h2 => ?_) ?_
  · rw [show pz z = .tup [.int z.1, .str (L z.2)] from rfl] at *
    walk_at "zs"
    refine notin_i (.inl rfl) ?_
    refine if_b (fun h => ?_) (fun h => ?_)
    · walk_at "zs"
      exact h1 h
    · exact h2 h
  walk_at "zs"
  exact k
theorem w_shifted {p : Pd} {by_ : Int} (k : Q (.tup (p.map fun z => .tup [.int (z.1 + by_), .str (L z.2)])) g) : wpC (codeT Ds) (d + 1) fshifted [pW p, .int by_] g Q := by
  unfold pW at *
  walk_at "zf"
  walk_at "zs"
  refine lc_mapO (as := p) (wi := pz) (fun z => W.tup [.int (z.1 + by_), .str (L z.2)]) trivial (fun z hz kk h1 => ?_) ?_
  · rw [show pz z = .tup [.int z.1, .str (L z.2)] from rfl]
    walk_at "zs"
    exact h1
  walk_at "zs"
  exact k
/-- the product of a text's letters, from place i on -/
def pof : Nat → List Nat → Pd
  | _, [] => []
  | i, c :: cs => if c = 0 then pof (i + 1) cs else (i, c) :: pof (i + 1) cs
theorem chrs (cs : List Nat) : (S cs).cps.toList.map chr1 = cs.map fun c => W.str (L c) := by
  rw [S_list, List.map_map]; rfl
theorem enum_at {xs : List W} {i : Nat} {w : W} (h : (enumW 0 xs)[i]? = some w) : ∃ x, xs[i]? = some x ∧ w = .tup [.int (i : Nat), x] := by
  have hl := (List.getElem?_eq_some_iff.mp h).1
  rw [enumW_len] at hl
  have e := List.getElem?_eq_getElem hl
  have e2 := enumW_at (n := 0) e
  rw [Nat.zero_add] at e2
  rw [e2] at h
  cases h
  exact ⟨_, e, rfl⟩
theorem w_prodof {cs : List Nat} (hc : ∀ c ∈ cs, c ≤ 3) (k : Q (pW (pof 0 cs)) g) : wpC (codeT Ds) (d + 1) fproduct_of [.str (S cs)] g Q := by
  unfold pW at *
  walk_at "zf"
  walk_at "zs"
  rw [chrs]
  refine lc_inv (fun i acc g' => g' = g ∧ ∃ ns : Pd, acc = ns.map pz ∧ pof 0 cs = ns ++ pof i (cs.drop i)) ?_ ?_ ⟨rfl, [], rfl, rfl⟩
  · rintro i w acc _ kk hw ⟨rfl, ns, rfl, h1⟩ hk
    obtain ⟨w, hw2, rfl⟩ := enum_at hw
    obtain ⟨c, hcc, rfl⟩ := at_map hw2
    have h3 := hc c (List.mem_of_getElem? hcc)
    rw [drop_cons hcc] at h1
    dsimp only [pof] at h1
    refine ⟨trivial, ?_⟩
    walk_at "zs"
    rw [eqvI h3]
    refine if_n (fun h => ?_) (fun h => ?_)
    · rw [if_neg h] at h1
      walk_at "zs"
      exact hk _ _ ⟨rfl, ns ++ [(i, c)], by rw [List.map_append]; rfl, by rw [h1, List.append_assoc]; rfl⟩
    · rw [if_pos h] at h1
      exact hk _ _ ⟨rfl, ns, rfl, h1⟩
  · rintro _ _ ⟨rfl, ns, rfl, h1⟩
    refine ⟨trivial, ?_⟩
    rw [enumW_len, List.length_map, List.drop_length] at h1
    dsimp only [pof] at h1
    rw [List.append_nil] at h1
    rw [h1] at k
    walk_at "zs"
    exact k
theorem ix_S {cs : List Nat} {i : Nat} {c : Nat} {R : W → Prop} (h : cs[i]? = some c) (q : R (.str (L c))) : opt (ixW g (.str (S cs)) (.int i)) R := by
  refine ⟨.str (L c), ?_, q⟩
  show (atI (S cs).cps.toList (i : Int)).map chr1 = _
  rw [S_list, atI_nat (x := Lc c) (by omega) (by rw [Int.toNat_natCast, List.getElem?_map, h]; rfl)]
  rfl
theorem len_S {cs : List Nat} {R : W → Prop} (q : R (.int cs.length)) : opt (u1W g .len (.str (S cs))) R := ⟨_, rfl, by rw [S_len]; exact q⟩
theorem w_lprodof {cs : List Nat} (hc : ∀ c ∈ cs, c ≤ 3) (hl : cs.length ≤ 100) (k : Q (pW (pof 0 cs)) g) : wpC (codeT Ds) (d + 1) f_law_prod_of [.str (S cs)] g Q := by
  unfold pW at *
  walk_at "zf"
  walk_at "zs"
  rw [S_len]
  walk_at "zs"
  rw [show ((cs.length : Int) - 0).toNat = cs.length by omega]
  refine lc_rng (fun i acc g' => g' = g ∧ ∃ ns : Pd, acc = ns.map pz ∧ pof 0 cs = ns ++ pof i (cs.drop i)) ?_ ?_ ⟨rfl, [], rfl, rfl⟩
  · rintro i acc _ kk hi ⟨rfl, ns, rfl, h1⟩ hk
    have hcc := List.getElem?_eq_getElem hi
    generalize cs[i] = c at hcc
    have h3 := hc c (List.mem_of_getElem? hcc)
    rw [drop_cons hcc] at h1
    dsimp only [pof] at h1
    rw [zadd]
    walk_at "zs"
    refine ix_S hcc ?_
    walk_at "zs"
    rw [eqvI h3]
    refine if_n (fun h => ?_) (fun h => ?_)
    · rw [if_neg h] at h1
      walk_at "zs"
      refine ix_S hcc ?_
      walk_at "zs"
      exact hk _ _ ⟨rfl, ns ++ [(i, c)], by rw [List.map_append]; rfl, by rw [h1, List.append_assoc]; rfl⟩
    · rw [if_pos h] at h1
      exact hk _ _ ⟨rfl, ns, rfl, h1⟩
  · rintro _ _ ⟨rfl, ns, rfl, h1⟩
    rw [List.drop_length] at h1
    dsimp only [pof] at h1
    rw [List.append_nil] at h1
    rw [h1] at k
    walk_at "zs"
    exact k
end
end Z.K02
namespace Z.K02
open PySem PySem.Spec L2
open PyProof.Rows hiding St
section
variable {d : Nat} {g : CH} {Q : WK} {t : W}
local macro_rules | `(tactic| walk_at "zn") => `(tactic| dsimp only [List.set_cons_zero, List.set_cons_succ, zwipe0, zwipeS, zmap_cons, zmap_nil, zcons_app, znil_app, List.replicate_succ, List.replicate_zero, Nat.reduceSub, Int.reduceAdd, Int.reduceSub, Int.reduceNeg, Int.reduceMul, Int.reduceToNat, Int.reducePow, List.length_cons, List.length_nil, Nat.reduceAdd])
local macro_rules | `(tactic| walk_at "z0") => `(tactic| first
  | with_reducible refine nx_seq ?_
  | with_reducible refine nop_i ?_
  | with_reducible refine k_i ?_
  | with_reducible refine seq_i ?_
  | with_reducible refine reti ?_
  | with_reducible refine gl_i ?_
  | with_reducible refine anil_i ?_
  | with_reducible refine tnil_i ?_
  | with_reducible refine rt_seq ?_
  | with_reducible refine nx_turn ?_
  | with_reducible refine rt_turn ?_
  | with_reducible refine fn_rt ?_
  | with_reducible refine bk_seq ?_
  | with_reducible refine ct_seq ?_
  | with_reducible refine bk_turn ?_
  | with_reducible refine ct_turn ?_
  | with_reducible refine fn_nx ?_
  | ((with_reducible refine turn_id ?_); refine turn_ng ?_)
  | ((with_reducible refine ret_id ?_); refine ret_ng ?_)
  | ((with_reducible refine ite_id ?_); first | refine if_t rfl ?_ | refine if_f rfl ?_)
  | (refine opt_id ?_; first
    | (refine opt_asg rfl ?_; walk_at "zn")
    | (refine put_i ?_; walk_at "zn")
    | (refine add_i ?_; walk_at "zn")
    | with_reducible refine opt_eq ?_
    | ((with_reducible refine opt_pow ⟨by omega, by omega, by omega⟩ ?_); walk_at "zn")
    | with_reducible refine opt_ne ?_
    | with_reducible refine opt_slTo (by omega) ?_
    | with_reducible refine opt_slFrom (by omega) ?_
    | with_reducible refine opt_lslTo (by omega) ?_
    | refine opt_i rfl ?_
    | refine opt_mul (mulOk64 ⟨by omega, by omega⟩ ⟨by omega, by omega⟩) ?_
    | refine opt_mod (by omega) ?_
    | refine opt_shr (by omega) ?_
    | refine opt_fdiv (by constructor <;> first | decide | omega) ?_
    | refine opt_rng (by unfold rngOk; omega) ?_)
  | refine And.intro (Nat.le_of_ble_eq_true rfl) ?_
  | refine And.intro (by decide) ?_
  | refine And.intro (small (by first | omega | (dsimp only; omega))) ?_)
local macro_rules | `(tactic| walk_at "z1") => `(tactic| first
  | walk_at "z0"
  | ((with_reducible refine forL_id ?_); first | refine forL_cons ?_ | refine forL_nil ?_)
  | ((with_reducible refine lcL_id ?_); first | refine lcL_cons ?_ | refine lcL_nil ?_))
local macro_rules | `(tactic| walk_at "zs") => `(tactic| ((repeat walk_at "z0"); try (first | with_reducible refine forL_id ?_ | with_reducible refine lcL_id ?_)))
local macro_rules | `(tactic| walk_at "zf") => `(tactic| (refine fn_i rfl rfl rfl ?_; walk_at "zn"))
local macro_rules | `(tactic| walk_at "zi") => `(tactic| ((with_reducible refine ite_id ?_); first | refine if_d ?_ ?_ | refine if_n ?_ ?_))
local macro_rules | `(tactic| walk_at "zz") => `(tactic| (repeat walk_at "z1"; try ((walk_at "zi"; (all_goals intro _); (all_goals try (exfalso; omega)); (all_goals walk_at "zz")))))
local macro_rules | `(tactic| walk_at "z") => `(tactic| ((repeat walk_at "z1"); try (first | with_reducible refine forL_id ?_ | with_reducible refine ret_id ?_ | with_reducible refine turn_id ?_ | with_reducible refine lcL_id ?_ | with_reducible refine ite_id ?_ | refine call_id ?_ | with_reducible refine opt_id ?_)))
local macro_rules | `(tactic| walk_at "zh") => `(tactic| first | rfl | assumption | omega | decide)
def setl (cs : List Nat) (p : Pd) : List Nat := p.foldl (fun cs z => cs.set z.1 z.2) cs
theorem S_nil : ("" : Str) = S [] := by decide +kernel
theorem S_app (a b : List Nat) : S a ++ S b = S (a ++ b) := by
  show (⟨(a.map Lc).toArray ++ (b.map Lc).toArray⟩ : Str) = ⟨((a ++ b).map Lc).toArray⟩
  simp
theorem S_join : ∀ cs : List Nat, Str.join ("" : Str) (cs.map L) = S cs
  | [] => by rw [← S_nil]; decide +kernel
  | [c] => rfl
  | c :: c2 :: cs => by
    rw [List.map_cons, List.map_cons]
    show L c ++ ("" : Str) ++ Str.join ("" : Str) (L c2 :: cs.map L) = _
    rw [← List.map_cons, S_join (c2 :: cs), S_nil]
    show S [c] ++ S [] ++ S (c2 :: cs) = _
    rw [S_app, S_app]; rfl
theorem strs_L : ∀ cs : List Nat, strsOf (cs.map fun c => W.str (L c)) = some (cs.map L)
  | [] => rfl
  | c :: cs => by
    rw [List.map_cons, strsOf, strs_L cs]; rfl
theorem L_len (c : Nat) : (L c).length = 1 := S_len [c]
theorem sum_L : ∀ cs : List Nat, ((cs.map L).map (·.length)).sum = cs.length
  | [] => rfl
  | c :: cs => by
    rw [List.map_cons, List.map_cons, List.sum_cons, sum_L cs, L_len, List.length_cons]; omega
theorem join_at {g : CH} {y : W} {cs : List Nat} {R : W → Prop} (hy : dr g y = .lst (cs.map fun c => .str (L c))) (hl : cs.length ≤ 1000) (q : R (.str (S cs))) : opt (m1W g .join (.str ("" : Str)) y) R := by
  refine ⟨.str (S cs), ?_, q⟩
  show ((tseqOf g y).bind fun xs => (strsOf xs).bind fun ys => if (ys.map (·.length)).sum + ys.length * ("" : Str).length ≤ 16777216 then some (W.str (Str.join ("" : Str) ys)) else none) = _
  unfold tseqOf
  rw [hy]
  dsimp only [Option.bind_some]
  rw [strs_L, Option.bind_some, sum_L, if_pos, S_join]
  have : ("" : Str).length = 0 := by decide +kernel
  rw [this]; omega
theorem ixN_nat {n i : Nat} (h : i < n) : ixN n (i : Int) = some i := by
  unfold ixN
  rw [if_pos (by omega), if_pos (by omega)]
  simp
theorem setl_len : ∀ (p : Pd) (cs : List Nat), (setl cs p).length = cs.length
  | [], _ => rfl
  | z :: p, cs => by
    show (setl (cs.set z.1 z.2) p).length = _
    rw [setl_len p, List.length_set]
theorem w_stringof {p : Pd} {n : Nat} (hp : ∀ z ∈ p, z.1 < n) (hn : n ≤ 100) (k : Q (.str (S (setl (List.replicate n 0) p))) g) : wpC (codeT Ds) (d + 1) fstring_of [pW p, .int n] g Q := by
  unfold pW
  walk_at "zf"
  walk_at "zs"
  rw [show ((n : Int) - 0).toNat = n by omega]
  refine lc_rng (fun i acc g' => g' = g ∧ acc = (List.replicate i 0).map fun c => W.str (L c)) ?_ ?_ ⟨rfl, rfl⟩
  · rintro i acc _ kk hi ⟨rfl, rfl⟩ hk
    walk_at "zs"
    refine hk _ _ ⟨rfl, ?_⟩
    rw [List.replicate_succ', List.map_append, ← L0]; rfl
  · rintro _ g ⟨rfl, rfl⟩
    walk_at "zs"
    refine for_inv (fun i e g' => ∃ (cs : List Nat) (z u : Option W), g' = g ++ [.lst (cs.map fun c => W.str (L c))] ∧ cs.length = n ∧ setl (List.replicate n 0) p = setl cs (p.drop i) ∧ e = [some (.tup (p.map pz)), some (.int n), some (.ob g.length), z, u]) ?_ ?_ ⟨List.replicate n 0, none, none, rfl, by simp, rfl, rfl⟩
    · rintro i w k' hw hk _ _ ⟨cs, z, u, rfl, hl, h1, rfl⟩
      obtain ⟨y, hy, rfl⟩ := at_map hw
      have hyn := hp y (List.mem_of_getElem? hy)
      rw [drop_cons hy] at h1
      obtain ⟨a, l⟩ := y
      dsimp only at hyn
      refine ⟨trivial, ?_⟩
      rw [show pz (a, l) = .tup [.int a, .str (L l)] from rfl]
      walk_at "zs"
      refine opt_i ob_g ?_
      walk_at "zs"
      refine opt_i (by rw [List.length_map, hl]; exact ixN_nat hyn) ?_
      walk_at "zs"
      rw [set_g]
      exact hk _ _ ⟨cs.set a l, _, _, by rw [List.map_set], by rw [List.length_set, hl], h1, rfl⟩
    · rintro _ _ ⟨cs, z, u, rfl, hl, h1, rfl⟩
      refine ⟨trivial, ?_⟩
      rw [List.length_map, List.drop_length] at h1
      rw [h1] at k
      walk_at "zs"
      refine join_at dr_g (by omega) ?_
      walk_at "zs"
      exact ret_gc0 rfl k
/-- the least length of a text -/
def lsti (cs : List Nat) : Int := ((pof 0 cs).map fun z => (z.1 : Int) + 1).foldl (fun a b => if a < b then b else a) 1
theorem fold_ge : ∀ (ns : List Int) (b : Int), b ≤ ns.foldl (fun a b => if a < b then b else a) b ∧ ∀ n ∈ ns, n ≤ ns.foldl (fun a b => if a < b then b else a) b
  | [], b => ⟨Int.le_refl _, fun n h => by cases h⟩
  | m :: ns, b => by
    obtain ⟨h1, h2⟩ := fold_ge ns (if b < m then m else b)
    rw [List.foldl_cons]
    have h3 : b ≤ (if b < m then m else b) ∧ m ≤ (if b < m then m else b) := by split <;> omega
    refine ⟨by omega, fun n hn => ?_⟩
    rcases List.mem_cons.mp hn with rfl | hn
    · omega
    · exact h2 n hn
theorem fold_le {B : Int} : ∀ (ns : List Int) (b : Int), b ≤ B → (∀ n ∈ ns, n ≤ B) → ns.foldl (fun a b => if a < b then b else a) b ≤ B
  | [], b, h, _ => h
  | m :: ns, b, h, hn => by
    rw [List.foldl_cons]
    refine fold_le ns _ ?_ fun n h => hn n (List.mem_cons_of_mem _ h)
    have := hn m List.mem_cons_self
    split <;> assumption
theorem pof_mem : ∀ (cs : List Nat) (i : Nat) (z : Nat × Nat), z ∈ pof i cs → i ≤ z.1 ∧ z.1 < i + cs.length ∧ z.2 ≠ 0 ∧ z.2 ∈ cs
  | [], i, z, h => by cases h
  | c :: cs, i, z, h => by
    unfold pof at h
    split at h
    · obtain ⟨h1, h2, h3, h4⟩ := pof_mem cs (i + 1) z h
      exact ⟨by omega, by rw [List.length_cons]; omega, h3, List.mem_cons_of_mem _ h4⟩
    · rename_i hc
      rcases List.mem_cons.mp h with rfl | h
      · exact ⟨Nat.le_refl _, by rw [List.length_cons]; dsimp only; omega, hc, List.mem_cons_self⟩
      · obtain ⟨h1, h2, h3, h4⟩ := pof_mem cs (i + 1) z h
        exact ⟨by omega, by rw [List.length_cons]; omega, h3, List.mem_cons_of_mem _ h4⟩
theorem lsti_ge {cs : List Nat} : 1 ≤ lsti cs ∧ ∀ z ∈ pof 0 cs, (z.1 : Int) + 1 ≤ lsti cs :=
  ⟨(fold_ge _ 1).1, fun z hz => (fold_ge _ 1).2 _ (List.mem_map.mpr ⟨z, hz, rfl⟩)⟩
theorem lsti_le {cs : List Nat} (h : cs.length ≤ 16) : lsti cs ≤ 16 := by
  refine fold_le _ _ (by decide) fun n hn => ?_
  obtain ⟨z, hz, rfl⟩ := List.mem_map.mp hn
  have := pof_mem cs 0 z hz
  omega
/-- the told length -/
def lng (cs : List Nat) (w : Int) : Int := lsti cs + w % (17 - lsti cs)
theorem lng_in {cs : List Nat} {w : Int} (h : cs.length ≤ 16) : lsti cs ≤ lng cs w ∧ lng cs w ≤ 16 := by
  have h1 := lsti_le h
  unfold lng
  have h2 := Int.emod_nonneg w (show 17 - lsti cs ≠ 0 by omega)
  have h3 := Int.emod_lt_of_pos w (show 0 < 17 - lsti cs by omega)
  omega
theorem w_length {cs : List Nat} {w : Int} (hc : ∀ c ∈ cs, c ≤ 3) (hl : cs.length ≤ 16) (k : Q (.int (lng cs w)) g) : wpC (codeT Ds) (d + 1) f_law_prod_length [.str (S cs), .int w] g Q := by
  have h16 := lsti_le hl
  walk_at "zf"
  walk_at "zs"
  rw [S_len]
  walk_at "zs"
  rw [show ((cs.length : Int) - 0).toNat = cs.length by omega]
  refine lc_rng (fun i acc g' => g' = g ∧ acc.length ≤ i ∧ ∃ ns : Pd, acc = (ns.map fun z => (z.1 : Int) + 1).map .int ∧ pof 0 cs = ns ++ pof i (cs.drop i)) ?_ ?_ ⟨rfl, Nat.le_refl _, [], rfl, rfl⟩
  · rintro i acc _ kk hi ⟨rfl, hla, ns, rfl, h1⟩ hk
    have hcc := List.getElem?_eq_getElem hi
    generalize cs[i] = c at hcc
    have h3 := hc c (List.mem_of_getElem? hcc)
    rw [drop_cons hcc] at h1
    dsimp only [pof] at h1
    rw [zadd]
    walk_at "zs"
    refine ix_S hcc ?_
    walk_at "zs"
    rw [eqvI h3]
    refine if_n (fun h => ?_) (fun h => ?_)
    · rw [if_neg h] at h1
      walk_at "zs"
      exact hk _ _ ⟨rfl, by rw [List.length_append, List.length_singleton]; omega, ns ++ [(i, c)], by rw [List.map_append, List.map_append]; rfl, by rw [h1, List.append_assoc]; rfl⟩
    · rw [if_pos h] at h1
      exact hk _ _ ⟨rfl, by omega, ns, rfl, h1⟩
  · rintro acc _ ⟨rfl, hla, ns, hacc, h1⟩
    rw [List.drop_length] at h1
    dsimp only [pof] at h1
    rw [List.append_nil] at h1
    walk_at "zs"
    refine ⟨Nat.le_of_lt (small (by dsimp only [List.length_cons, List.length_nil]; omega)), ?_⟩
    refine opt_i (v := W.int (lsti cs)) ?_ ?_
    · show ((some ([W.int 1] ++ acc)).bind fun xs => (intsOf xs).bind fun ns => (maxL ns).map W.int) = _
      rw [hacc, Option.bind_some, show [W.int 1] ++ (ns.map fun z => (z.1 : Int) + 1).map W.int = (1 :: (ns.map fun z => (z.1 : Int) + 1)).map W.int from rfl, intsOf_map, Option.bind_some]
      unfold lsti
      rw [h1]; rfl
    walk_at "zs"
    unfold lng at k
    exact k
theorem lk_pof : ∀ (cs : List Nat) (i j : Nat), lk (pof i cs) (j : Int) = if i ≤ j then cs.getD (j - i) 0 else 0
  | [], i, j => by
    show 0 = _
    split <;> simp
  | c :: cs, i, j => by
    unfold pof
    have ih := lk_pof cs (i + 1) j
    by_cases hc : c = 0
    · rw [if_pos hc, ih]
      by_cases h : i ≤ j
      · rw [if_pos h]
        by_cases e : i = j
        · subst e
          rw [if_neg (by omega), Nat.sub_self, List.getD_cons_zero, hc]
        · rw [if_pos (by omega), show j - i = (j - (i + 1)) + 1 by omega, List.getD_cons_succ]
      · rw [if_neg h, if_neg (by omega)]
    · rw [if_neg hc, lk, ih]
      by_cases h : i ≤ j
      · rw [if_pos h]
        by_cases e : i = j
        · subst e
          rw [if_pos rfl, Nat.sub_self, List.getD_cons_zero]
        · rw [if_neg (by dsimp only; omega), if_pos (by omega), show j - i = (j - (i + 1)) + 1 by omega, List.getD_cons_succ]
      · rw [if_neg (by dsimp only; omega), if_neg h, if_neg (by omega)]
theorem pof_asc : ∀ (cs : List Nat) (i : Nat), (pof i cs).Pairwise fun a b => a.1 < b.1
  | [], _ => .nil
  | c :: cs, i => by
    unfold pof
    split
    · exact pof_asc cs (i + 1)
    · exact .cons (fun z hz => by have := pof_mem cs (i + 1) z hz; dsimp only; omega) (pof_asc cs (i + 1))
theorem lk_no {p : Pd} {q : Int} (h : ∀ z ∈ p, (z.1 : Int) ≠ q) : lk p q = 0 := by
  induction p with
  | nil => rfl
  | cons z p ih =>
    rw [lk, if_neg (h z List.mem_cons_self)]
    exact ih fun y hy => h y (List.mem_cons_of_mem _ hy)
theorem setl_get : ∀ (p : Pd) (cs : List Nat) (j : Nat), p.Pairwise (fun a b => a.1 < b.1) → (∀ z ∈ p, z.2 ≠ 0) → j < cs.length → (setl cs p)[j]? = if lk p (j : Int) = 0 then cs[j]? else some (lk p (j : Int))
  | [], cs, j, _, _, _ => rfl
  | z :: p, cs, j, hp, h0, hj => by
    obtain ⟨h1, h2⟩ := List.pairwise_cons.mp hp
    show (setl (cs.set z.1 z.2) p)[j]? = _
    rw [setl_get p (cs.set z.1 z.2) j h2 (fun y hy => h0 y (List.mem_cons_of_mem _ hy)) (by rw [List.length_set]; exact hj), lk]
    by_cases e : z.1 = j
    · subst e
      rw [if_pos rfl, lk_no (fun y hy => by have := h1 y hy; omega), if_pos rfl, if_neg (h0 z List.mem_cons_self), List.getElem?_set_self hj]
    · rw [if_neg (show ¬ (z.1 : Int) = (j : Int) by omega), List.getElem?_set_ne e]
theorem setl_pof {cs : List Nat} {n : Nat} (h : n ≤ cs.length + 16) : setl (List.replicate n 0) (pof 0 cs) = (cs ++ List.replicate 16 0).take n := by
  apply List.ext_getElem?
  intro j
  by_cases hj : j < n
  · rw [setl_get _ _ _ (pof_asc cs 0) (fun z hz => (pof_mem cs 0 z hz).2.2.1) (by rw [List.length_replicate]; exact hj), lk_pof, if_pos (Nat.zero_le _), Nat.sub_zero, List.getElem?_take_of_lt hj, List.getElem?_replicate_of_lt hj]
    by_cases hc : j < cs.length
    · rw [List.getElem?_append_left hc, List.getD_eq_getElem?_getD, List.getElem?_eq_getElem hc, Option.getD_some]
      split
      · rename_i e; rw [e]
      · rfl
    · rw [List.getElem?_append_right (by omega), List.getElem?_replicate_of_lt (by omega), List.getD_eq_getElem?_getD, List.getElem?_eq_none (by omega), Option.getD_none, if_pos rfl]
  · rw [List.getElem?_eq_none (by rw [setl_len, List.length_replicate]; omega), List.getElem?_eq_none (by rw [List.length_take]; omega)]
end
end Z.K02
namespace Z.K02
open PySem PySem.Spec L2
open PyProof.Rows hiding St
section
variable {d : Nat} {g : CH} {Q : WK} {t : W}
local macro_rules | `(tactic| walk_at "zn") => `(tactic| dsimp only [List.set_cons_zero, List.set_cons_succ, zwipe0, zwipeS, zmap_cons, zmap_nil, zcons_app, znil_app, List.replicate_succ, List.replicate_zero, Nat.reduceSub, Int.reduceAdd, Int.reduceSub, Int.reduceNeg, Int.reduceMul, Int.reduceToNat, Int.reducePow, List.length_cons, List.length_nil, Nat.reduceAdd])
local macro_rules | `(tactic| walk_at "z0") => `(tactic| first
  | with_reducible refine nx_seq ?_
  | with_reducible refine nop_i ?_
  | with_reducible refine k_i ?_
  | with_reducible refine seq_i ?_
  | with_reducible refine reti ?_
  | with_reducible refine gl_i ?_
  | with_reducible refine anil_i ?_
  | with_reducible refine tnil_i ?_
  | with_reducible refine rt_seq ?_
  | with_reducible refine nx_turn ?_
  | with_reducible refine rt_turn ?_
  | with_reducible refine fn_rt ?_
  | with_reducible refine bk_seq ?_
  | with_reducible refine ct_seq ?_
  | with_reducible refine bk_turn ?_
  | with_reducible refine ct_turn ?_
  | with_reducible refine fn_nx ?_
  | ((with_reducible refine turn_id ?_); refine turn_ng ?_)
  | ((with_reducible refine ret_id ?_); refine ret_ng ?_)
  | ((with_reducible refine ite_id ?_); first | refine if_t rfl ?_ | refine if_f rfl ?_)
  | (refine opt_id ?_; first
    | (refine opt_asg rfl ?_; walk_at "zn")
    | (refine put_i ?_; walk_at "zn")
    | (refine add_i ?_; walk_at "zn")
    | with_reducible refine opt_eq ?_
    | ((with_reducible refine opt_pow ⟨by omega, by omega, by omega⟩ ?_); walk_at "zn")
    | with_reducible refine opt_ne ?_
    | with_reducible refine opt_slTo (by omega) ?_
    | with_reducible refine opt_slFrom (by omega) ?_
    | with_reducible refine opt_lslTo (by omega) ?_
    | refine opt_i rfl ?_
    | refine opt_mul (mulOk64 ⟨by omega, by omega⟩ ⟨by omega, by omega⟩) ?_
    | refine opt_mod (by omega) ?_
    | refine opt_shr (by omega) ?_
    | refine opt_fdiv (by constructor <;> first | decide | omega) ?_
    | refine opt_rng (by unfold rngOk; omega) ?_)
  | refine And.intro (Nat.le_of_ble_eq_true rfl) ?_
  | refine And.intro (by decide) ?_
  | refine And.intro (small (by first | omega | (dsimp only; omega))) ?_)
local macro_rules | `(tactic| walk_at "z1") => `(tactic| first
  | walk_at "z0"
  | ((with_reducible refine forL_id ?_); first | refine forL_cons ?_ | refine forL_nil ?_)
  | ((with_reducible refine lcL_id ?_); first | refine lcL_cons ?_ | refine lcL_nil ?_))
local macro_rules | `(tactic| walk_at "zs") => `(tactic| ((repeat walk_at "z0"); try (first | with_reducible refine forL_id ?_ | with_reducible refine lcL_id ?_)))
local macro_rules | `(tactic| walk_at "zf") => `(tactic| (refine fn_i rfl rfl rfl ?_; walk_at "zn"))
local macro_rules | `(tactic| walk_at "zi") => `(tactic| ((with_reducible refine ite_id ?_); first | refine if_d ?_ ?_ | refine if_n ?_ ?_))
local macro_rules | `(tactic| walk_at "zz") => `(tactic| (repeat walk_at "z1"; try ((walk_at "zi"; (all_goals intro _); (all_goals try (exfalso; omega)); (all_goals walk_at "zz")))))
local macro_rules | `(tactic| walk_at "z") => `(tactic| ((repeat walk_at "z1"); try (first | with_reducible refine forL_id ?_ | with_reducible refine ret_id ?_ | with_reducible refine turn_id ?_ | with_reducible refine lcL_id ?_ | with_reducible refine ite_id ?_ | refine call_id ?_ | with_reducible refine opt_id ?_)))
local macro_rules | `(tactic| walk_at "zh") => `(tactic| first | rfl | assumption | omega | decide)
def xr (l m : Nat) : Nat := Nat.xor l m
def tn (l m : Nat) : Int := if (l = 2 ∧ m = 3) ∨ (l = 3 ∧ m = 1) ∨ (l = 1 ∧ m = 2) then 1 else 3
/-- the factors of a product of two -/
def mg : Pd → Pd → Pd
  | [], b => b
  | z :: a, [] => z :: a
  | z :: a, y :: b => if z.1 < y.1 then z :: mg a (y :: b) else if y.1 < z.1 then y :: mg (z :: a) b else if z.2 = y.2 then mg a b else (y.1, xr z.2 y.2) :: mg a b
termination_by a b => a.length + b.length
/-- the power of i -/
def pwr : Pd → Pd → Int
  | [], b => 0
  | z :: a, [] => 0
  | z :: a, y :: b => if z.1 < y.1 then pwr a (y :: b) else if y.1 < z.1 then pwr (z :: a) b else if z.2 = y.2 then pwr a b else tn z.2 y.2 + pwr a b
termination_by a b => a.length + b.length
theorem mg_nil (a : Pd) : mg a [] = a := by cases a <;> rw [mg]
theorem pwr_nil (a : Pd) : pwr a [] = 0 := by cases a <;> rw [pwr]
theorem mg_same {z y : Nat × Nat} {a b : Pd} (h : z.1 = y.1) : mg (z :: a) (y :: b) = (if z.2 = y.2 then mg a b else (y.1, xr z.2 y.2) :: mg a b) ∧ pwr (z :: a) (y :: b) = (if z.2 = y.2 then pwr a b else tn z.2 y.2 + pwr a b) := by
  constructor
  · rw [mg, if_neg (by omega), if_neg (by omega)]
  · rw [pwr, if_neg (by omega), if_neg (by omega)]
theorem opt_catS {a b : List Nat} {R : W → Prop} (hl : a.length + b.length ≤ 1000) (q : R (.str (S (a ++ b)))) : opt (bop .add (.str (S a)) (.str (S b))) R := by
  refine ⟨_, ?_, q⟩
  show (if (S a ++ S b).length ≤ sizeLine then some (W.str (S a ++ S b)) else none) = _
  rw [S_app, if_pos (by rw [S_len, List.length_append]; exact Nat.le_of_lt (small (by omega)))]
theorem w_kdx {l m : Nat} {R : W → Prop} (hl : 1 ≤ l ∧ l ≤ 3) (hm : 1 ≤ m ∧ m ≤ 3) (hne : l ≠ m) (q : R (.tup [.int (tn l m), .str (L (xr l m))])) : opt (kdxW cLETTERS_TIMES (.str (S ([l] ++ [m])))) R := by
  obtain rfl | rfl | rfl : l = 1 ∨ l = 2 ∨ l = 3 := by omega
  · obtain rfl | rfl | rfl : m = 1 ∨ m = 2 ∨ m = 3 := by omega
    · exact absurd rfl hne
    · rw [show S ([1] ++ [2]) = ("ZX" : Str) by decide +kernel]
      rw [show tn 1 2 = 1 from rfl, show L (xr 1 2) = ("Y" : Str) by decide +kernel] at q
      exact opt_i rfl q
    · rw [show S ([1] ++ [3]) = ("ZY" : Str) by decide +kernel]
      rw [show tn 1 3 = 3 from rfl, show L (xr 1 3) = ("X" : Str) by decide +kernel] at q
      exact opt_i rfl q
  · obtain rfl | rfl | rfl : m = 1 ∨ m = 2 ∨ m = 3 := by omega
    · rw [show S ([2] ++ [1]) = ("XZ" : Str) by decide +kernel]
      rw [show tn 2 1 = 3 from rfl, show L (xr 2 1) = ("Y" : Str) by decide +kernel] at q
      exact opt_i rfl q
    · exact absurd rfl hne
    · rw [show S ([2] ++ [3]) = ("XY" : Str) by decide +kernel]
      rw [show tn 2 3 = 1 from rfl, show L (xr 2 3) = ("Z" : Str) by decide +kernel] at q
      exact opt_i rfl q
  · obtain rfl | rfl | rfl : m = 1 ∨ m = 2 ∨ m = 3 := by omega
    · rw [show S ([3] ++ [1]) = ("YZ" : Str) by decide +kernel]
      rw [show tn 3 1 = 1 from rfl, show L (xr 3 1) = ("X" : Str) by decide +kernel] at q
      exact opt_i rfl q
    · rw [show S ([3] ++ [2]) = ("YX" : Str) by decide +kernel]
      rw [show tn 3 2 = 3 from rfl, show L (xr 3 2) = ("Z" : Str) by decide +kernel] at q
      exact opt_i rfl q
    · exact absurd rfl hne
theorem ix_P {p : Pd} {i : Nat} {z : Nat × Nat} {R : W → Prop} (h : p[i]? = some z) (q : R (.tup [.int z.1, .str (L z.2)])) : opt (ixW g (.tup (p.map pz)) (.int i)) R :=
  opt_ixt (by omega) (x := pz z) (by rw [Int.toNat_natCast, List.getElem?_map, h]; rfl) q
theorem w_times {a b : Pd} (ha : ∀ z ∈ a, 1 ≤ z.2 ∧ z.2 ≤ 3) (hb : ∀ z ∈ b, 1 ≤ z.2 ∧ z.2 ≤ 3) (hla : a.length ≤ 60) (hlb : b.length ≤ 60) (k : Q (.tup [.int (pwr a b % 4), pW (mg a b)]) g) : wpC (codeT Ds) (d + 1) ftimes_products [pW a, pW b] g Q := by
  unfold pW at *
  walk_at "zf"
  walk_at "zs"
  refine for_inv (fun i e g' => ∃ (acc : Pd) (pw : Int) (at_ : Nat) (s5 s6 s7 s8 : Option W), g' = g ++ [.lst (acc.map pz)] ∧ (mg a b = acc ++ mg (a.drop at_) (b.drop i) ∧ pwr a b = pw + pwr (a.drop at_) (b.drop i)) ∧ at_ ≤ a.length ∧ acc.length ≤ at_ + i ∧
    e = [some (.tup (a.map pz)), some (.tup (b.map pz)), some (.int pw), some (.ob g.length), some (.int at_), s5, s6, s7, s8]) ?_ ?_ ⟨[], 0, 0, none, none, none, none, rfl, ⟨rfl, by rw [Int.zero_add]; rfl⟩, Nat.zero_le _, Nat.le_refl _, rfl⟩
  · rintro i w k' hw hk _ _ ⟨acc0, pw0, at0, s5, s6, s7, s8, rfl, h1, h2, h3, rfl⟩
    obtain ⟨y, hy, rfl⟩ := at_map hw
    have hy3 := hb y (List.mem_of_getElem? hy)
    have hi := (List.getElem?_eq_some_iff.mp hy).1
    rw [drop_cons hy] at h1
    refine ⟨trivial, ?_⟩
    rw [show pz y = .tup [.int y.1, .str (L y.2)] from rfl]
    have tail : ∀ (acc : Pd) (at_ : Nat) (P : Post), (mg a b = acc ++ mg (a.drop at_) (y :: b.drop (i + 1)) ∧ pwr a b = pw0 + pwr (a.drop at_) (y :: b.drop (i + 1))) → at_ ≤ a.length → acc.length ≤ at_ + i → (∀ z, a[at_]? = some z → y.1 ≤ z.1) →
        (∀ e g', (∃ (acc : Pd) (pw : Int) (at_ : Nat) (s5 s6 s7 s8 : Option W), g' = g ++ [.lst (acc.map pz)] ∧ (mg a b = acc ++ mg (a.drop at_) (b.drop (i + 1)) ∧ pwr a b = pw + pwr (a.drop at_) (b.drop (i + 1))) ∧ at_ ≤ a.length ∧ acc.length ≤ at_ + (i + 1) ∧
          e = [some (.tup (a.map pz)), some (.tup (b.map pz)), some (.int pw), some (.ob g.length), some (.int at_), s5, s6, s7, s8]) → P.nx e g' ∧ P.ct e g') →
        wpS (wpC (codeT Ds) d) (tlN 1 (bodyOf (tlN 3 mtimes_products.body))) [some (.tup (a.map pz)), some (.tup (b.map pz)), some (.int pw0), some (.ob g.length), some (.int at_), some (.int y.1), some (.str (L y.2)), s7, s8] (g ++ [.lst (acc.map pz)]) P := fun acc at_ P e1 e2 e3 e4 hP => by
      have hlm : (acc.map pz).length = acc.length := List.length_map ..
      dsimp only [mtimes_products, tlN, bodyOf]
      have new : (a.drop at_ = [] ∨ ∃ z r, a.drop at_ = z :: r ∧ y.1 < z.1) → mg (a.drop at_) (y :: b.drop (i + 1)) = y :: mg (a.drop at_) (b.drop (i + 1)) ∧ pwr (a.drop at_) (y :: b.drop (i + 1)) = pwr (a.drop at_) (b.drop (i + 1)) := fun h => by
        rcases h with h | ⟨z, r, h, hlt⟩
        · rw [h, mg, mg, pwr, pwr]; exact ⟨rfl, rfl⟩
        · rw [h]
          constructor
          · rw [mg, if_neg (by omega), if_pos hlt]
          · rw [pwr, if_neg (by omega), if_pos hlt]
      have appN : (a.drop at_ = [] ∨ ∃ z r, a.drop at_ = z :: r ∧ y.1 < z.1) → P.ct [some (.tup (a.map pz)), some (.tup (b.map pz)), some (.int pw0), some (.ob g.length), some (.int at_), some (.int y.1), some (.str (L y.2)), s7, s8] (g ++ [.lst (acc.map pz ++ [.tup [.int y.1, .str (L y.2)]])]) := fun h => by
        obtain ⟨n1, n2⟩ := new h
        rw [n1, n2] at e1
        refine (hP _ _ ⟨acc ++ [y], pw0, at_, _, _, _, _, by rw [List.map_append]; rfl, ⟨by rw [e1.1, List.append_assoc]; rfl, e1.2⟩, e2, by rw [List.length_append, List.length_singleton]; omega, rfl⟩).2
      walk_at "zs"
      rw [List.length_map]
      refine if_d (fun h => ?_) (fun h => ?_)
      · walk_at "zs"
        refine opt_i ob_g ?_
        walk_at "zs"
        refine opt_i ob_g ?_
        walk_at "zs"
        rw [set_g]
        exact appN (.inl (List.drop_eq_nil_of_le (by omega)))
      · have hlt : at_ < a.length := by omega
        have hz := List.getElem?_eq_getElem hlt
        generalize a[at_] = z at hz
        have hz3 := ha z (List.mem_of_getElem? hz)
        have hd := drop_cons hz
        have hge := e4 z hz
        walk_at "zs"
        refine ix_P hz ?_
        walk_at "zs"
        refine if_d (fun h5 => ?_) (fun h5 => ?_)
        · walk_at "zs"
          refine opt_i ob_g ?_
          walk_at "zs"
          refine opt_i ob_g ?_
          walk_at "zs"
          rw [set_g]
          exact appN (.inr ⟨z, _, hd, by omega⟩)
        · have eq1 : z.1 = y.1 := by omega
          rw [hd, (mg_same eq1).1, (mg_same eq1).2] at e1
          walk_at "zs"
          refine ix_P hz ?_
          walk_at "zs"
          rw [eqvL hz3.2 hy3.2]
          refine if_n (fun h6 => ?_) (fun h6 => ?_)
          · rw [if_neg h6, if_neg h6] at e1
            walk_at "zs"
            refine ix_P hz ?_
            walk_at "zs"
            rw [show L z.2 ++ L y.2 = S ([z.2] ++ [y.2]) from S_app [z.2] [y.2]]
            refine w_kdx hz3 hy3 h6 ?_
            walk_at "zs"
            refine opt_i ob_g ?_
            walk_at "zs"
            refine opt_i ob_g ?_
            walk_at "zs"
            rw [set_g]
            refine (hP _ _ ⟨acc ++ [(y.1, xr z.2 y.2)], pw0 + tn z.2 y.2, at_ + 1, _, _, _, _, by rw [List.map_append]; rfl, ⟨by rw [e1.1, List.append_assoc]; rfl, by rw [e1.2]; omega⟩, by omega, by rw [List.length_append, List.length_singleton]; omega, by push_cast; rfl⟩).1
          · rw [if_pos h6, if_pos h6] at e1
            walk_at "zs"
            exact (hP _ _ ⟨acc, pw0, at_ + 1, _, _, _, _, rfl, e1, by omega, by omega, by push_cast; rfl⟩).1
    walk_at "zs"
    refine while_i (fun n e g' => ∃ (acc : Pd) (at_ : Nat), g' = g ++ [.lst (acc.map pz)] ∧ (mg a b = acc ++ mg (a.drop at_) (y :: b.drop (i + 1)) ∧ pwr a b = pw0 + pwr (a.drop at_) (y :: b.drop (i + 1))) ∧ at_ ≤ a.length ∧ acc.length ≤ at_ + i ∧ a.length - at_ ≤ n ∧
      e = [some (.tup (a.map pz)), some (.tup (b.map pz)), some (.int pw0), some (.ob g.length), some (.int at_), some (.int y.1), some (.str (L y.2)), s7, s8]) (fun n k2 hk2 e g' => ?_) 60 ⟨acc0, at0, rfl, h1, h2, h3, by omega, rfl⟩
    rintro ⟨acc, at_, rfl, e1, e2, e3, e5, rfl⟩
    have hlm : (acc.map pz).length = acc.length := List.length_map ..
    walk_at "zs"
    rw [List.length_map]
    refine if_d (fun h => ?_) (fun h => ?_)
    · have hlt : at_ < a.length := by omega
      have hz := List.getElem?_eq_getElem hlt
      generalize a[at_] = z at hz
      have hd := drop_cons hz
      walk_at "zs"
      refine ix_P hz ?_
      walk_at "zs"
      refine if_d (fun h5 => ?_) (fun h5 => ?_)
      · rw [hd, mg, if_pos (by omega), pwr, if_pos (by omega)] at e1
        obtain ⟨m, rfl⟩ : ∃ m, n = m + 1 := ⟨n - 1, by omega⟩
        walk_at "zs"
        refine opt_i ob_g ?_
        walk_at "zs"
        refine ix_P hz ?_
        walk_at "zs"
        refine opt_i ob_g ?_
        walk_at "zs"
        rw [set_g]
        exact hk2 m rfl _ _ ⟨acc ++ [z], at_ + 1, by rw [List.map_append]; rfl, ⟨by rw [e1.1, List.append_assoc]; rfl, e1.2⟩, by omega, by rw [List.length_append, List.length_singleton]; omega, by omega, by push_cast; rfl⟩
      · have := fun P => tail acc at_ P e1 e2 e3 (fun z' hz' => by rw [hz] at hz'; cases hz'; omega)
        exact this _ (fun e g h => ⟨hk _ _ h, hk _ _ h⟩)
    · have := fun P => tail acc at_ P e1 e2 e3 (fun z' hz' => by have := (List.getElem?_eq_some_iff.mp hz').1; omega)
      exact this _ (fun e g h => ⟨hk _ _ h, hk _ _ h⟩)
  · rintro _ _ ⟨acc, pw, at_, s5, s6, s7, s8, rfl, h1, h2, h3, rfl⟩
    refine ⟨trivial, ?_⟩
    rw [List.length_map, List.drop_length, mg_nil, pwr_nil, Int.add_zero] at h1
    rw [h1.1, h1.2] at k
    have hlm : (acc.map pz).length = acc.length := List.length_map ..
    rw [List.length_map] at h3
    walk_at "zs"
    refine opt_i ob_g ?_
    walk_at "zs"
    refine opt_i ob_g ?_
    walk_at "zs"
    rw [Int.toNat_natCast]
    refine ⟨Nat.le_of_lt (small (by rw [List.length_drop, List.length_map, List.length_map]; omega)), ?_⟩
    walk_at "zs"
    rw [set_g]
    refine opt_i tup_g ?_
    walk_at "zs"
    rw [← List.map_drop, ← List.map_append]
    refine ret_gc0 ?_ k
    have : ∀ p : Pd, wfs g.length (p.map pz) = true := fun p => wfs_mem fun w hw => by
      obtain ⟨z, _, rfl⟩ := List.mem_map.mp hw
      rfl
    simp only [wf, wfs, this, Bool.and_self]
end
end Z.K02
namespace Z.K02
open PySem PySem.Spec L2
open PyProof.Rows hiding St
section
variable {d : Nat} {g : CH} {Q : WK} {t : W}
local macro_rules | `(tactic| walk_at "zn") => `(tactic| dsimp only [List.set_cons_zero, List.set_cons_succ, zwipe0, zwipeS, zmap_cons, zmap_nil, zcons_app, znil_app, List.replicate_succ, List.replicate_zero, Nat.reduceSub, Int.reduceAdd, Int.reduceSub, Int.reduceNeg, Int.reduceMul, Int.reduceToNat, Int.reducePow, List.length_cons, List.length_nil, Nat.reduceAdd])
local macro_rules | `(tactic| walk_at "z0") => `(tactic| first
  | with_reducible refine nx_seq ?_
  | with_reducible refine nop_i ?_
  | with_reducible refine k_i ?_
  | with_reducible refine seq_i ?_
  | with_reducible refine reti ?_
  | with_reducible refine gl_i ?_
  | with_reducible refine anil_i ?_
  | with_reducible refine tnil_i ?_
  | with_reducible refine rt_seq ?_
  | with_reducible refine nx_turn ?_
  | with_reducible refine rt_turn ?_
  | with_reducible refine fn_rt ?_
  | with_reducible refine bk_seq ?_
  | with_reducible refine ct_seq ?_
  | with_reducible refine bk_turn ?_
  | with_reducible refine ct_turn ?_
  | with_reducible refine fn_nx ?_
  | ((with_reducible refine turn_id ?_); refine turn_ng ?_)
  | ((with_reducible refine ret_id ?_); refine ret_ng ?_)
  | ((with_reducible refine ite_id ?_); first | refine if_t rfl ?_ | refine if_f rfl ?_)
  | (refine opt_id ?_; first
    | (refine opt_asg rfl ?_; walk_at "zn")
    | (refine put_i ?_; walk_at "zn")
    | (refine add_i ?_; walk_at "zn")
    | with_reducible refine opt_eq ?_
    | ((with_reducible refine opt_pow ⟨by omega, by omega, by omega⟩ ?_); walk_at "zn")
    | with_reducible refine opt_ne ?_
    | with_reducible refine opt_slTo (by omega) ?_
    | with_reducible refine opt_slFrom (by omega) ?_
    | with_reducible refine opt_lslTo (by omega) ?_
    | refine opt_i rfl ?_
    | refine opt_mul (mulOk64 ⟨by omega, by omega⟩ ⟨by omega, by omega⟩) ?_
    | refine opt_mod (by omega) ?_
    | refine opt_shr (by omega) ?_
    | refine opt_fdiv (by constructor <;> first | decide | omega) ?_
    | refine opt_rng (by unfold rngOk; omega) ?_)
  | refine And.intro (Nat.le_of_ble_eq_true rfl) ?_
  | refine And.intro (by decide) ?_
  | refine And.intro (small (by first | omega | (dsimp only; omega))) ?_)
local macro_rules | `(tactic| walk_at "z1") => `(tactic| first
  | walk_at "z0"
  | ((with_reducible refine forL_id ?_); first | refine forL_cons ?_ | refine forL_nil ?_)
  | ((with_reducible refine lcL_id ?_); first | refine lcL_cons ?_ | refine lcL_nil ?_))
local macro_rules | `(tactic| walk_at "zs") => `(tactic| ((repeat walk_at "z0"); try (first | with_reducible refine forL_id ?_ | with_reducible refine lcL_id ?_)))
local macro_rules | `(tactic| walk_at "zf") => `(tactic| (refine fn_i rfl rfl rfl ?_; walk_at "zn"))
local macro_rules | `(tactic| walk_at "zi") => `(tactic| ((with_reducible refine ite_id ?_); first | refine if_d ?_ ?_ | refine if_n ?_ ?_))
local macro_rules | `(tactic| walk_at "zz") => `(tactic| (repeat walk_at "z1"; try ((walk_at "zi"; (all_goals intro _); (all_goals try (exfalso; omega)); (all_goals walk_at "zz")))))
local macro_rules | `(tactic| walk_at "z") => `(tactic| ((repeat walk_at "z1"); try (first | with_reducible refine forL_id ?_ | with_reducible refine ret_id ?_ | with_reducible refine turn_id ?_ | with_reducible refine lcL_id ?_ | with_reducible refine ite_id ?_ | refine call_id ?_ | with_reducible refine opt_id ?_)))
local macro_rules | `(tactic| walk_at "zh") => `(tactic| first | rfl | assumption | omega | decide)
/-- a dict by qubits -/
def DK (p : Pd) (f : Nat × Nat → W) : W := .dct ((p.map fun z => (Sum.inl (z.1 : Int) : Key)).map keyW) (p.map f)
abbrev Asc (p : Pd) : Prop := p.Pairwise fun a b => a.1 < b.1
theorem dprs_pz : ∀ {p : Pd}, Asc p → dprs (p.map pz) = some (p.map fun z => (Sum.inl (z.1 : Int) : Key), p.map fun z => W.str (L z.2))
  | [], _ => rfl
  | z :: p, h => by
    obtain ⟨h1, h2⟩ := List.pairwise_cons.mp h
    show ((dprs (p.map pz)).bind fun d => if (d.1.any fun k => decide (k = (Sum.inl (z.1 : Int) : Key))) = true then none else some ((Sum.inl (z.1 : Int) : Key) :: d.1, W.str (L z.2) :: d.2)) = _
    rw [dprs_pz h2, Option.bind_some, if_neg]
    · rfl
    · intro e
      obtain ⟨k, hk, e⟩ := List.any_eq_true.mp e
      obtain ⟨y, hy, rfl⟩ := List.mem_map.mp hk
      have e2 : (Sum.inl (y.1 : Int) : Key) = Sum.inl (z.1 : Int) := of_decide_eq_true e
      have e3 := Sum.inl.inj e2
      have := h1 y hy
      omega
theorem keysOf_map : ∀ l : List Key, keysOf (l.map keyW) = some l
  | [] => rfl
  | k :: l => by rw [List.map_cons, keysOf, keyOf_keyW, Option.bind_some, keysOf_map l]; rfl
theorem dctOf_DK {g : CH} {o : W} {p : Pd} {f : Nat × Nat → W} (h : dr g o = DK p f) : dctOf g o = some (p.map fun z => (Sum.inl (z.1 : Int) : Key), p.map f) := by
  unfold dctOf
  rw [h]
  show (keysOf _).map _ = _
  rw [keysOf_map]; rfl
theorem dfind_DK {F : Nat → W} {q : Int} {u : W} : ∀ {p : Pd}, (∀ z ∈ p, z.2 ≠ 0) → (dfind (p.map fun z => (Sum.inl (z.1 : Int) : Key)) (p.map fun z => F z.2) (Sum.inl q)).getD u = if lk p q = 0 then u else F (lk p q)
  | [], _ => rfl
  | z :: p, h => by
    rw [List.map_cons, List.map_cons, dfind, lk]
    by_cases e : (z.1 : Int) = q
    · rw [if_pos (show (Sum.inl (z.1 : Int) : Key) = Sum.inl q by rw [e]), if_pos e, if_neg (h z List.mem_cons_self)]; rfl
    · rw [if_neg (show ¬ (Sum.inl (z.1 : Int) : Key) = Sum.inl q from fun e2 => e (Sum.inl.inj e2)), if_neg e]
      exact dfind_DK fun y hy => h y (List.mem_cons_of_mem _ hy)
theorem dct_at {g : CH} {o : W} {p : Pd} {f : Nat × Nat → W} {R : List Key × List W → Prop} (h : dr g o = DK p f) (q : ∀ d, R d) : opt (dctOf g o) R := ⟨_, dctOf_DK h, q _⟩
theorem dget_at {g : CH} {o u : W} {p : Pd} {F : Nat → W} {q : Int} {R : W → Prop} (h0 : ∀ z ∈ p, z.2 ≠ 0) (h : dr g o = DK p fun z => F z.2) (r : R (if lk p q = 0 then u else F (lk p q))) : opt (dgetW g o (.int q) u) R := by
  refine ⟨_, ?_, r⟩
  unfold dgetW
  rw [dctOf_DK h, Option.bind_some]
  exact congrArg some (dfind_DK h0)
/-- unlike letters at a factor's qubit -/
def un (a : Pd) (z : Nat × Nat) : Bool := !decide ((if lk a z.1 = 0 then z.2 else lk a z.1) = z.2)
theorem lk_le {p : Pd} {q : Int} (h : ∀ z ∈ p, z.2 ≤ 3) : lk p q ≤ 3 := by
  induction p with
  | nil => exact Nat.zero_le _
  | cons z p ih =>
    rw [lk]
    split
    · exact h z List.mem_cons_self
    · exact ih fun y hy => h y (List.mem_cons_of_mem _ hy)
theorem w_commute {a b : Pd} (ha : Asc a) (ha3 : ∀ z ∈ a, 1 ≤ z.2 ∧ z.2 ≤ 3) (hb3 : ∀ z ∈ b, 1 ≤ z.2 ∧ z.2 ≤ 3) (k : Q (.bl (decide ((((b.filter (un a)).length : Nat) : Int) % 2 = 0))) g) : wpC (codeT Ds) (d + 1) fcommute [pW a, pW b] g Q := by
  unfold pW at *
  have h0 : ∀ z ∈ a, z.2 ≠ 0 := fun z hz => by have := ha3 z hz; omega
  walk_at "zf"
  walk_at "zs"
  refine opt_i (dprs_pz ha) ?_
  walk_at "zs"
  have hD : dr (g ++ [DK a fun z => W.str (L z.2)]) (.ob g.length) = DK a fun z => W.str (L z.2) := dr_g
  refine lc_fmO (g := g ++ [DK a fun z => W.str (L z.2)]) (as := b) (wi := pz) (un a) (fun z => W.int z.1) trivial (fun z hz acc kk h1 h2 => ?_) ?_
  · rw [show pz z = .tup [.int z.1, .str (L z.2)] from rfl]
    walk_at "zs"
    refine dct_at hD fun _ => ?_
    walk_at "zs"
    refine dget_at (F := fun l => W.str (L l)) h0 hD ?_
    rw [show (if lk a (z.1 : Int) = 0 then W.str (L z.2) else W.str (L (lk a (z.1 : Int)))) = W.str (L (if lk a (z.1 : Int) = 0 then z.2 else lk a (z.1 : Int))) by split <;> rfl]
    walk_at "zs"
    rw [eqvL (by split; exact (hb3 z hz).2; exact lk_le fun y hy => (ha3 y hy).2) (hb3 z hz).2]
    refine if_n (fun h => ?_) (fun h => ?_)
    · walk_at "zs"
      exact h1 (by unfold un; rw [decide_eq_false h]; rfl)
    · exact h2 (by unfold un; rw [decide_eq_true h]; rfl)
  walk_at "zs"
  rw [List.length_map]
  exact ret_gc0 rfl k
/-- a letter's flags -/
def fl (l : Nat) : W := .tup [.int (l / 2 : Nat), .int (l % 2 : Nat)]
theorem ret_fzd {g : CH} {ks xs : List W} (hv : wfs g.length xs = true) (q : Q (.dct ks xs) g) : retEnd true g Q (.ob g.length) (g ++ [.dct ks xs]) :=
  ⟨.dct ks xs, g, .obd (Nat.le_refl _) (by rw [nth_eq]; simp) (fzs_same hv), ⟨rfl, by simp, fun i hi => .inl ⟨nth_app g _ i hi, rfl⟩⟩, q⟩
theorem dob_DK {g : CH} {p : Pd} {f : Nat × Nat → W} : dobOf (g ++ [DK p f]) (.ob g.length) = some (g.length, p.map fun z => (Sum.inl (z.1 : Int) : Key), p.map f) := by
  unfold dobOf
  dsimp only
  rw [nth_g]
  show (keysOf _).map _ = _
  rw [keysOf_map]; rfl
theorem DK_put {p : Pd} {z : Nat × Nat} {f : Nat × Nat → W} (h : ∀ y ∈ p, y.1 ≠ z.1) : putD (p.map fun z => (Sum.inl (z.1 : Int) : Key)) (p.map f) (Sum.inl (z.1 : Int)) (f z) = some (DK (p ++ [z]) f) := by
  have e : hasK (p.map fun z => (Sum.inl (z.1 : Int) : Key)) (Sum.inl (z.1 : Int)) = false := by
    unfold hasK
    rw [List.any_eq_false]
    intro k hk
    obtain ⟨y, hy, rfl⟩ := List.mem_map.mp hk
    have := h y hy
    simp; omega
  unfold putD dputK dputX
  rw [e]
  simp [DK]
theorem idx_of {a b : Str} {i : Nat} (h : Builtin.Str.occurrences a b 0 a.length 1 = [i]) : m1W g .index (.str a) (.str b) = some (.int i) := by
  show (match Builtin.Str.occurrences a b 0 a.length 1 with | i :: _ => some (W.int (i : Nat)) | [] => none) = _
  rw [h]
theorem ix_flag {l : Nat} {R : W → Prop} (hl : 1 ≤ l ∧ l ≤ 3) (q : R (fl l)) : opt (m1W g .index (.str "XYZ") (.str (L l))) fun z => opt (ixW g (.lst [.tup [.int 1, .int 0], .tup [.int 1, .int 1], .tup [.int 0, .int 1]]) z) R := by
  obtain rfl | rfl | rfl : l = 1 ∨ l = 2 ∨ l = 3 := by omega
  · refine opt_i (v := .int 2) ?_ (opt_i rfl q)
    rw [L1]
    exact idx_of (i := 2) (by decide +kernel)
  · refine opt_i (v := .int 0) ?_ (opt_i rfl q)
    rw [L2]
    exact idx_of (i := 0) (by decide +kernel)
  · refine opt_i (v := .int 1) ?_ (opt_i rfl q)
    rw [L3]
    exact idx_of (i := 1) (by decide +kernel)
theorem w_flags {p : Pd} (hp : Asc p) (h3 : ∀ z ∈ p, 1 ≤ z.2 ∧ z.2 ≤ 3) (hl : p.length ≤ 100) (k : Q (DK p fun z => fl z.2) g) : wpC (codeT Ds) (d + 1) f_law_flags [pW p] g Q := by
  unfold pW
  walk_at "zf"
  walk_at "zs"
  refine for_inv (fun i e g' => ∃ (s2 s3 : Option W), g' = g ++ [DK (p.take i) fun z => fl z.2] ∧ e = [some (.tup (p.map pz)), some (.ob g.length), s2, s3]) ?_ ?_ ⟨none, none, by simp [DK], rfl⟩
  · rintro i w k' hw hk _ _ ⟨s2, s3, rfl, rfl⟩
    obtain ⟨z, hz, rfl⟩ := at_map hw
    have hi := (List.getElem?_eq_some_iff.mp hz).1
    refine ⟨trivial, ?_⟩
    rw [show pz z = .tup [.int z.1, .str (L z.2)] from rfl]
    walk_at "zs"
    refine ix_flag (h3 z (List.mem_of_getElem? hz)) ?_
    walk_at "zs"
    refine opt_i dob_DK ?_
    walk_at "zs"
    refine ⟨small (by rw [List.length_map, List.length_take]; omega), opt_i (DK_put (z := z) (f := fun z => fl z.2) fun y hy => ?_) ?_⟩
    · obtain ⟨j, hj, e⟩ := List.mem_iff_getElem.mp hy
      rw [List.getElem_take] at e
      rw [List.length_take] at hj
      have := List.pairwise_iff_getElem.mp hp j i (by omega) hi (by omega)
      rw [(List.getElem?_eq_some_iff.mp hz).2, e] at this
      omega
    walk_at "zs"
    rw [set_g]
    have e : p.take i ++ [z] = p.take (i + 1) := by rw [List.take_succ, hz]; rfl
    rw [e]
    exact hk _ _ ⟨_, _, rfl, rfl⟩
  · rintro _ _ ⟨s2, s3, rfl, rfl⟩
    refine ⟨trivial, ?_⟩
    rw [List.length_map, List.take_length]
    walk_at "zs"
    unfold DK at k ⊢
    refine ret_fzd (wfs_mem fun w hw => ?_) k
    obtain ⟨z, _, rfl⟩ := List.mem_map.mp hw
    rfl
/-- the sum of the law for commuting -/
def sy (l m : Nat) : Int := ((l / 2 : Nat) : Int) * ((m % 2 : Nat) : Int) + ((l % 2 : Nat) : Int) * ((m / 2 : Nat) : Int)
def al (b : Pd) : Pd → Int
  | [] => 0
  | z :: a => sy z.2 (lk b z.1) + al b a
theorem w_alike {a b : Pd} (hb : Asc b) (ha3 : ∀ z ∈ a, 1 ≤ z.2 ∧ z.2 ≤ 3) (hb3 : ∀ z ∈ b, 1 ≤ z.2 ∧ z.2 ≤ 3) (hl : b.length ≤ 100) (k : Q (.bl (decide (al b a % 2 = 0))) g) : wpC (codeT Ds) (d + 2) f_law_prod_alike [pW a, pW b] g Q := by
  have h0 : ∀ z ∈ b, z.2 ≠ 0 := fun z hz => by have := hb3 z hz; omega
  walk_at "zf"
  walk_at "zs"
  refine w_flags hb hb3 hl ?_
  walk_at "zs"
  refine for_inv (fun i e g' => ∃ (o : Int) (s4 s5 s6 s7 s8 s9 : Option W), g' = g ∧ al b a = o + al b (a.drop i) ∧ e = [some (pW a), some (pW b), some (DK b fun z => fl z.2), some (.int o), s4, s5, s6, s7, s8, s9]) ?_ ?_ ⟨0, none, none, none, none, none, none, rfl, by rw [Int.zero_add]; rfl, rfl⟩
  · rintro i w k' hw hk _ _ ⟨o, s4, s5, s6, s7, s8, s9, rfl, h1, rfl⟩
    obtain ⟨z, hz, rfl⟩ := at_map hw
    rw [drop_cons hz, al] at h1
    refine ⟨trivial, ?_⟩
    rw [show pz z = .tup [.int z.1, .str (L z.2)] from rfl]
    walk_at "zs"
    refine ix_flag (ha3 z (List.mem_of_getElem? hz)) ?_
    unfold fl
    walk_at "zs"
    refine dct_at (p := b) (f := fun z => fl z.2) rfl fun _ => ?_
    walk_at "zs"
    refine dget_at (p := b) (F := fl) h0 rfl ?_
    have hm : lk b (z.1 : Int) ≤ 3 := lk_le fun y hy => (hb3 y hy).2
    have hl3 := ha3 z (List.mem_of_getElem? hz)
    unfold sy at h1
    generalize lk b (z.1 : Int) = m at hm h1 ⊢
    rw [show (if m = 0 then W.tup [.int 0, .int 0] else fl m) = fl m by split; rename_i e; rw [e]; rfl; rfl]
    have b1 : z.2 / 2 ≤ 1 := by omega
    have b2 : z.2 % 2 ≤ 1 := by omega
    have b3 : m / 2 ≤ 1 := by omega
    have b4 : m % 2 ≤ 1 := by omega
    unfold fl
    generalize z.2 / 2 = c1 at *
    generalize z.2 % 2 = c2 at *
    generalize m / 2 = c3 at *
    generalize m % 2 = c4 at *
    walk_at "zs"
    exact hk _ _ ⟨_, _, _, _, _, _, _, rfl, by rw [h1]; omega, rfl⟩
  · rintro _ _ ⟨o, s4, s5, s6, s7, s8, s9, rfl, h1, rfl⟩
    refine ⟨trivial, ?_⟩
    rw [List.length_map, List.drop_length, al, Int.add_zero] at h1
    rw [h1] at k
    walk_at "zs"
    exact k
end
end Z.K02
namespace Z.K02
open PySem PySem.Spec L2
open PyProof.Rows hiding St
section
variable {d : Nat} {g : CH} {Q : WK} {t : W}
local macro_rules | `(tactic| walk_at "zn") => `(tactic| dsimp only [List.set_cons_zero, List.set_cons_succ, zwipe0, zwipeS, zmap_cons, zmap_nil, zcons_app, znil_app, List.replicate_succ, List.replicate_zero, Nat.reduceSub, Int.reduceAdd, Int.reduceSub, Int.reduceNeg, Int.reduceMul, Int.reduceToNat, Int.reducePow, List.length_cons, List.length_nil, Nat.reduceAdd])
local macro_rules | `(tactic| walk_at "z0") => `(tactic| first
  | with_reducible refine nx_seq ?_
  | with_reducible refine nop_i ?_
  | with_reducible refine k_i ?_
  | with_reducible refine seq_i ?_
  | with_reducible refine reti ?_
  | with_reducible refine gl_i ?_
  | with_reducible refine anil_i ?_
  | with_reducible refine tnil_i ?_
  | with_reducible refine rt_seq ?_
  | with_reducible refine nx_turn ?_
  | with_reducible refine rt_turn ?_
  | with_reducible refine fn_rt ?_
  | with_reducible refine bk_seq ?_
  | with_reducible refine ct_seq ?_
  | with_reducible refine bk_turn ?_
  | with_reducible refine ct_turn ?_
  | with_reducible refine fn_nx ?_
  | ((with_reducible refine turn_id ?_); refine turn_ng ?_)
  | ((with_reducible refine ret_id ?_); refine ret_ng ?_)
  | ((with_reducible refine ite_id ?_); first | refine if_t rfl ?_ | refine if_f rfl ?_)
  | (refine opt_id ?_; first
    | (refine opt_asg rfl ?_; walk_at "zn")
    | (refine put_i ?_; walk_at "zn")
    | (refine add_i ?_; walk_at "zn")
    | with_reducible refine opt_eq ?_
    | ((with_reducible refine opt_pow ⟨by omega, by omega, by omega⟩ ?_); walk_at "zn")
    | with_reducible refine opt_ne ?_
    | with_reducible refine opt_slTo (by omega) ?_
    | with_reducible refine opt_slFrom (by omega) ?_
    | with_reducible refine opt_lslTo (by omega) ?_
    | refine opt_i rfl ?_
    | refine opt_mul (mulOk64 ⟨by omega, by omega⟩ ⟨by omega, by omega⟩) ?_
    | refine opt_mod (by omega) ?_
    | refine opt_shr (by omega) ?_
    | refine opt_fdiv (by constructor <;> first | decide | omega) ?_
    | refine opt_rng (by unfold rngOk; omega) ?_)
  | refine And.intro (Nat.le_of_ble_eq_true rfl) ?_
  | refine And.intro (by decide) ?_
  | refine And.intro (small (by first | omega | (dsimp only; omega))) ?_)
local macro_rules | `(tactic| walk_at "z1") => `(tactic| first
  | walk_at "z0"
  | ((with_reducible refine forL_id ?_); first | refine forL_cons ?_ | refine forL_nil ?_)
  | ((with_reducible refine lcL_id ?_); first | refine lcL_cons ?_ | refine lcL_nil ?_))
local macro_rules | `(tactic| walk_at "zs") => `(tactic| ((repeat walk_at "z0"); try (first | with_reducible refine forL_id ?_ | with_reducible refine lcL_id ?_)))
local macro_rules | `(tactic| walk_at "zf") => `(tactic| (refine fn_i rfl rfl rfl ?_; walk_at "zn"))
local macro_rules | `(tactic| walk_at "zi") => `(tactic| ((with_reducible refine ite_id ?_); first | refine if_d ?_ ?_ | refine if_n ?_ ?_))
local macro_rules | `(tactic| walk_at "zz") => `(tactic| (repeat walk_at "z1"; try ((walk_at "zi"; (all_goals intro _); (all_goals try (exfalso; omega)); (all_goals walk_at "zz")))))
local macro_rules | `(tactic| walk_at "z") => `(tactic| ((repeat walk_at "z1"); try (first | with_reducible refine forL_id ?_ | with_reducible refine ret_id ?_ | with_reducible refine turn_id ?_ | with_reducible refine lcL_id ?_ | with_reducible refine ite_id ?_ | refine call_id ?_ | with_reducible refine opt_id ?_)))
local macro_rules | `(tactic| walk_at "zh") => `(tactic| first | rfl | assumption | omega | decide)
/-- the law's turns of one qubit -/
def tq (l m : Nat) : Int := ((l / 2 : Nat) : Int) * ((l % 2 : Nat) : Int) + ((m / 2 : Nat) : Int) * ((m % 2 : Nat) : Int) + 2 * ((l % 2 : Nat) : Int) * ((m / 2 : Nat) : Int) - ((xr l m / 2 : Nat) : Int) * ((xr l m % 2 : Nat) : Int)
def cn (a b : Pd) : Nat → Pd
  | 0 => []
  | i + 1 => cn a b i ++ (if xr (lk a i) (lk b i) = 0 then [] else [(i, xr (lk a i) (lk b i))])
def ct (a b : Pd) : Nat → Int
  | 0 => 0
  | i + 1 => ct a b i + tq (lk a i) (lk b i)
theorem xr_le {l m : Nat} (hl : l ≤ 3) (hm : m ≤ 3) : xr l m ≤ 3 ∧ (((l / 2 : Nat) : Int) + ((m / 2 : Nat) : Int)) % 2 = ((xr l m / 2 : Nat) : Int) ∧ (((l % 2 : Nat) : Int) + ((m % 2 : Nat) : Int)) % 2 = ((xr l m % 2 : Nat) : Int) := by
  have h : ∀ l : Fin 4, ∀ m : Fin 4, xr l m ≤ 3 ∧ (((l.1 / 2 : Nat) : Int) + ((m.1 / 2 : Nat) : Int)) % 2 = ((xr l.1 m.1 / 2 : Nat) : Int) ∧ (((l.1 % 2 : Nat) : Int) + ((m.1 % 2 : Nat) : Int)) % 2 = ((xr l.1 m.1 % 2 : Nat) : Int) := by decide +kernel
  exact h ⟨l, by omega⟩ ⟨m, by omega⟩
theorem eqv2 {a b c d : Int} : PyData.eqv (.tuple [.int a, .int b]) (.tuple [.int c, .int d]) = (decide (a = c) && decide (b = d)) := by
  by_cases h1 : a = c <;> by_cases h2 : b = d <;> simp [PyData.eqv, PyData.eqvAll, h1, h2]
theorem ix4 {c : Nat} {j : Int} {R : W → Prop} (hc : c ≤ 3) (hj : j = c) (q : R (.str (L c))) : opt (ixW g (.str "IZXY") (.int j)) R := by
  subst hj
  rw [show ("IZXY" : Str) = S [0, 1, 2, 3] by decide +kernel]
  refine ix_S ?_ q
  obtain rfl | rfl | rfl | rfl : c = 0 ∨ c = 1 ∨ c = 2 ∨ c = 3 := by omega
  all_goals rfl
theorem cn_len (a b : Pd) : ∀ i, (cn a b i).length ≤ i
  | 0 => Nat.le_refl _
  | i + 1 => by
    have := cn_len a b i
    rw [cn, List.length_append]
    split
    · simp; omega
    · simp; omega
theorem pzs_wf (n : Nat) (p : Pd) : wfs n (p.map pz) = true := wfs_mem fun w hw => by
  obtain ⟨z, _, rfl⟩ := List.mem_map.mp hw
  rfl
theorem w_ltimes {a b : Pd} (ha : Asc a) (hb : Asc b) (ha3 : ∀ z ∈ a, 1 ≤ z.2 ∧ z.2 ≤ 3) (hb3 : ∀ z ∈ b, 1 ≤ z.2 ∧ z.2 ≤ 3) (hla : a.length ≤ 60) (hlb : b.length ≤ 60) (k : Q (.tup [.int (ct a b 100 % 4), pW (cn a b 100)]) g) : wpC (codeT Ds) (d + 2) f_law_prod_times [pW a, pW b] g Q := by
  have h0a : ∀ z ∈ a, z.2 ≠ 0 := fun z hz => by have := ha3 z hz; omega
  have h0b : ∀ z ∈ b, z.2 ≠ 0 := fun z hz => by have := hb3 z hz; omega
  walk_at "zf"
  walk_at "zs"
  refine w_flags ha ha3 (by omega) ?_
  walk_at "zs"
  refine w_flags hb hb3 (by omega) ?_
  walk_at "zs"
  refine for_rng (fun i e g' => ∃ (s6 s7 s8 s9 s10 s11 : Option W), g' = g ++ [.lst ((cn a b i).map pz)] ∧ e = [some (pW a), some (pW b), some (DK a fun z => fl z.2), some (DK b fun z => fl z.2), some (.int (ct a b i)), some (.ob g.length), s6, s7, s8, s9, s10, s11]) ?_ ?_ ⟨none, none, none, none, none, none, rfl, rfl⟩
  · rintro i k' hi hk _ _ ⟨s6, s7, s8, s9, s10, s11, rfl, rfl⟩
    have hi : i < 100 := hi
    have hcl := cn_len a b i
    have hlm : ((cn a b i).map pz).length = (cn a b i).length := List.length_map ..
    rw [zadd]
    walk_at "zs"
    refine dct_at (p := a) (f := fun z => fl z.2) rfl fun _ => ?_
    walk_at "zs"
    refine dget_at (p := a) (F := fl) h0a rfl ?_
    have hl : lk a (i : Int) ≤ 3 := lk_le fun y hy => (ha3 y hy).2
    have hm : lk b (i : Int) ≤ 3 := lk_le fun y hy => (hb3 y hy).2
    obtain ⟨x1, x2, x3⟩ := xr_le hl hm
    have en : cn a b (i + 1) = cn a b i ++ (if xr (lk a i) (lk b i) = 0 then [] else [(i, xr (lk a i) (lk b i))]) := rfl
    have et : ct a b (i + 1) = ct a b i + tq (lk a i) (lk b i) := rfl
    have hlb' : lk b (i : Int) = lk b (i : Int) := rfl
    have F0 : ∀ l : Nat, (if l = 0 then W.tup [.int 0, .int 0] else fl l) = fl l := fun l => by split; rename_i e; rw [e]; rfl; rfl
    rw [F0]
    have dg : ∀ {g : CH} {R : W → Prop}, R (fl (lk b (i : Int))) → opt (dgetW g (DK b fun z => fl z.2) (.int i) (.tup [.int 0, .int 0])) R := fun q => dget_at (p := b) (F := fl) h0b rfl (by rw [F0]; exact q)
    unfold tq at et
    generalize lk a (i : Int) = l at *
    generalize lk b (i : Int) = m at *
    generalize xr l m = c at *
    have b1 : l / 2 ≤ 1 := by omega
    have b2 : l % 2 ≤ 1 := by omega
    have b3 : m / 2 ≤ 1 := by omega
    have b4 : m % 2 ≤ 1 := by omega
    unfold fl
    walk_at "zs"
    refine dct_at (p := b) (f := fun z => fl z.2) rfl fun _ => ?_
    walk_at "zs"
    refine dg ?_
    unfold fl
    generalize l / 2 = c1 at *
    generalize l % 2 = c2 at *
    generalize m / 2 = c3 at *
    generalize m % 2 = c4 at *
    walk_at "zs"
    rw [eqv2]
    have ev : ct a b i + (c1 : Int) * (c2 : Int) + (c3 : Int) * (c4 : Int) + 2 * (c2 : Int) * (c3 : Int) - ((c1 : Int) + (c3 : Int)) % 2 * (((c2 : Int) + (c4 : Int)) % 2) = ct a b (i + 1) := by rw [et, x2, x3]; omega
    rw [ev]
    refine if_b (fun h => ?_) (fun h => ?_)
    · have hc0 : c ≠ 0 := fun e => by
        subst e
        rw [decide_eq_true (show ((c1 : Int) + c3) % 2 = 0 by omega), decide_eq_true (show ((c2 : Int) + c4) % 2 = 0 by omega)] at h
        cases h
      rw [if_neg hc0] at en
      walk_at "zs"
      refine opt_i ob_g ?_
      walk_at "zs"
      refine ix4 (c := c) x1 (by omega) ?_
      walk_at "zs"
      refine opt_i ob_g ?_
      walk_at "zs"
      rw [set_g]
      exact hk _ _ ⟨_, _, _, _, _, _, by rw [en, List.map_append]; rfl, rfl⟩
    · have hc0 : c = 0 := by
        have h' : ((c1 : Int) + c3) % 2 = 0 ∧ ((c2 : Int) + c4) % 2 = 0 := by simpa using h
        omega
      rw [if_pos hc0] at en
      walk_at "zs"
      exact hk _ _ ⟨_, _, _, _, _, _, by rw [en, List.append_nil], rfl⟩
  · rintro _ _ ⟨s6, s7, s8, s9, s10, s11, rfl, rfl⟩
    walk_at "zs"
    refine opt_i tup_g ?_
    walk_at "zs"
    exact ret_gc0 (by simp only [wf, wfs, pzs_wf, Bool.and_self]) k
/-! the merged product is the law's -/
theorem lk_lt {p : Pd} {q : Int} (h : ∀ z ∈ p, q < (z.1 : Int)) : lk p q = 0 := lk_no fun z hz => by have := h z hz; omega
theorem mg_left {z : Nat × Nat} {a b : Pd} (h : ∀ y ∈ b, z.1 < y.1) : mg (z :: a) b = z :: mg a b ∧ pwr (z :: a) b = pwr a b := by
  cases b with
  | nil => rw [mg_nil, mg_nil, pwr_nil, pwr_nil]; exact ⟨rfl, rfl⟩
  | cons y b =>
    have := h y List.mem_cons_self
    constructor
    · rw [mg, if_pos this]
    · rw [pwr, if_pos this]
theorem mg_right {y : Nat × Nat} {a b : Pd} (h : ∀ z ∈ a, y.1 < z.1) : mg a (y :: b) = y :: mg a b ∧ pwr a (y :: b) = pwr a b := by
  cases a with
  | nil => rw [mg, mg, pwr, pwr]; exact ⟨rfl, rfl⟩
  | cons z a =>
    have := h z List.mem_cons_self
    constructor
    · rw [mg, if_neg (by omega), if_pos this]
    · rw [pwr, if_neg (by omega), if_pos this]
def cf (a b : Pd) (q : Nat) : Pd := if xr (lk a q) (lk b q) = 0 then [] else [(q, xr (lk a q) (lk b q))]
def cr (a b : Pd) : Nat → Nat → Pd
  | _, 0 => []
  | q, n + 1 => cf a b q ++ cr a b (q + 1) n
def cu (a b : Pd) : Nat → Nat → Int
  | _, 0 => 0
  | q, n + 1 => tq (lk a q) (lk b q) + cu a b (q + 1) n
theorem cr_snoc (a b : Pd) : ∀ (n q : Nat), cr a b q (n + 1) = cr a b q n ++ cf a b (q + n) ∧ cu a b q (n + 1) = cu a b q n + tq (lk a (q + n : Nat)) (lk b (q + n : Nat))
  | 0, q => by
    constructor
    · show cf a b q ++ [] = [] ++ cf a b (q + 0)
      rw [List.append_nil]; rfl
    · show tq _ _ + 0 = 0 + tq _ _
      rw [Int.add_zero, Int.zero_add]; rfl
  | n + 1, q => by
    obtain ⟨h1, h2⟩ := cr_snoc a b n (q + 1)
    constructor
    · show cf a b q ++ cr a b (q + 1) (n + 1) = (cf a b q ++ cr a b (q + 1) n) ++ _
      rw [h1, List.append_assoc, show q + 1 + n = q + (n + 1) by omega]
    · show tq _ _ + cu a b (q + 1) (n + 1) = (tq _ _ + cu a b (q + 1) n) + _
      rw [h2, show q + 1 + n = q + (n + 1) by omega]; omega
theorem cn_cr (a b : Pd) : ∀ n, cn a b n = cr a b 0 n ∧ ct a b n = cu a b 0 n
  | 0 => ⟨rfl, rfl⟩
  | n + 1 => by
    obtain ⟨h1, h2⟩ := cn_cr a b n
    obtain ⟨h3, h4⟩ := cr_snoc a b n 0
    rw [h3, h4, cn, ct, h1, h2, Nat.zero_add]
    exact ⟨rfl, rfl⟩
theorem cr_cong {a b a' b' : Pd} : ∀ (n q : Nat), (∀ j, q ≤ j → lk a (j : Nat) = lk a' (j : Nat) ∧ lk b (j : Nat) = lk b' (j : Nat)) → cr a b q n = cr a' b' q n ∧ cu a b q n = cu a' b' q n
  | 0, q, _ => ⟨rfl, rfl⟩
  | n + 1, q, h => by
    obtain ⟨h1, h2⟩ := cr_cong n (q + 1) fun j hj => h j (by omega)
    obtain ⟨h3, h4⟩ := h q (Nat.le_refl _)
    rw [cr, cu, cr, cu, h1, h2]
    unfold cf
    rw [h3, h4]
    exact ⟨rfl, rfl⟩
theorem tq_t {l m : Nat} (hl : l ≤ 3) (hm : m ≤ 3) : xr l 0 = l ∧ xr 0 m = m ∧ tq l 0 % 4 = 0 ∧ tq 0 m % 4 = 0 ∧ (l = m → xr l m = 0 ∧ tq l m % 4 = 0) ∧ (l ≠ m → l ≠ 0 → m ≠ 0 → xr l m ≠ 0 ∧ (tn l m - tq l m) % 4 = 0) := by
  have h : ∀ l : Fin 4, ∀ m : Fin 4, xr l.1 0 = l.1 ∧ xr 0 m.1 = m.1 ∧ tq l.1 0 % 4 = 0 ∧ tq 0 m.1 % 4 = 0 ∧ (l.1 = m.1 → xr l.1 m.1 = 0 ∧ tq l.1 m.1 % 4 = 0) ∧ (l.1 ≠ m.1 → l.1 ≠ 0 → m.1 ≠ 0 → xr l.1 m.1 ≠ 0 ∧ (tn l.1 m.1 - tq l.1 m.1) % 4 = 0) := by decide +kernel
  exact h ⟨l, by omega⟩ ⟨m, by omega⟩
structure In (q n : Nat) (p : Pd) : Prop where
  s : Asc p
  b : ∀ z ∈ p, q ≤ z.1 ∧ z.1 < q + n
  l : ∀ z ∈ p, 1 ≤ z.2 ∧ z.2 ≤ 3
theorem In.tail {q n : Nat} {z : Nat × Nat} {p : Pd} (h : In q (n + 1) (z :: p)) (e : z.1 = q) : In (q + 1) n p ∧ ∀ y ∈ p, q < y.1 := by
  obtain ⟨h1, h2⟩ := List.pairwise_cons.mp h.s
  refine ⟨⟨h2, fun y hy => ?_, fun y hy => h.l y (List.mem_cons_of_mem _ hy)⟩, fun y hy => by have := h1 y hy; omega⟩
  have := h1 y hy
  have := h.b y (List.mem_cons_of_mem _ hy)
  omega
theorem In.up {q n : Nat} {p : Pd} (h : In q (n + 1) p) (e : ∀ y ∈ p, q < y.1) : In (q + 1) n p := ⟨h.s, fun y hy => by have := e y hy; have := h.b y hy; omega, h.l⟩
theorem In.head {q n : Nat} {p : Pd} (h : In q (n + 1) p) : (∃ z r, p = z :: r ∧ z.1 = q) ∨ ∀ y ∈ p, q < y.1 := by
  cases p with
  | nil => exact .inr fun y hy => by cases hy
  | cons z r =>
    obtain ⟨h1, h2⟩ := List.pairwise_cons.mp h.s
    have := (h.b z List.mem_cons_self).1
    by_cases e : z.1 = q
    · exact .inl ⟨z, r, rfl, e⟩
    · refine .inr fun y hy => ?_
      rcases List.mem_cons.mp hy with rfl | hy
      · omega
      · have := h1 y hy; omega
theorem lk_tail {z : Nat × Nat} {p : Pd} {j : Nat} (h : z.1 < j) : lk (z :: p) (j : Nat) = lk p (j : Nat) := by
  rw [lk, if_neg (by omega)]
theorem mg_cr : ∀ (n q : Nat) (a b : Pd), In q n a → In q n b → mg a b = cr a b q n ∧ (pwr a b - cu a b q n) % 4 = 0
  | 0, q, a, b, ha, hb => by
    have ea : a = [] := by
      cases a with
      | nil => rfl
      | cons z r => have := ha.b z List.mem_cons_self; omega
    have eb : b = [] := by
      cases b with
      | nil => rfl
      | cons z r => have := hb.b z List.mem_cons_self; omega
    rw [ea, eb, mg, pwr]
    exact ⟨rfl, rfl⟩
  | n + 1, q, a, b, ha, hb => by
    have l3a : lk a (q : Nat) ≤ 3 := lk_le fun y hy => (ha.l y hy).2
    have l3b : lk b (q : Nat) ≤ 3 := lk_le fun y hy => (hb.l y hy).2
    obtain ⟨t1, t2, t3, t4, t5, t6⟩ := tq_t l3a l3b
    rw [cr, cu]
    unfold cf
    rcases ha.head with ⟨z, r, rfl, ez⟩ | ga <;> rcases hb.head with ⟨y, s, rfl, ey⟩ | gb
    · obtain ⟨ia, _⟩ := ha.tail ez
      obtain ⟨ib, _⟩ := hb.tail ey
      obtain ⟨h1, h2⟩ := mg_cr n (q + 1) r s ia ib
      obtain ⟨c1, c2⟩ := cr_cong (a := z :: r) (b := y :: s) (a' := r) (b' := s) n (q + 1) fun j hj => ⟨lk_tail (by omega), lk_tail (by omega)⟩
      obtain ⟨m1, m2⟩ := mg_same (z := z) (y := y) (a := r) (b := s) (by omega)
      have la : lk (z :: r) (q : Nat) = z.2 := by rw [lk, if_pos (by omega)]
      have lb : lk (y :: s) (q : Nat) = y.2 := by rw [lk, if_pos (by omega)]
      have hz := ha.l z List.mem_cons_self
      have hy := hb.l y List.mem_cons_self
      rw [la, lb] at t5 t6 ⊢
      rw [c1, c2, m1, m2]
      by_cases e : z.2 = y.2
      · obtain ⟨u1, u2⟩ := t5 e
        rw [if_pos e, if_pos e, u1, if_pos rfl, h1]
        exact ⟨rfl, by omega⟩
      · obtain ⟨u1, u2⟩ := t6 e (by omega) (by omega)
        rw [if_neg e, if_neg e, if_neg u1, h1, ey]
        exact ⟨rfl, by omega⟩
    · obtain ⟨ia, _⟩ := ha.tail ez
      obtain ⟨h1, h2⟩ := mg_cr n (q + 1) r b ia (hb.up gb)
      obtain ⟨c1, c2⟩ := cr_cong (a := z :: r) (b := b) (a' := r) (b' := b) n (q + 1) fun j hj => ⟨lk_tail (by omega), rfl⟩
      obtain ⟨m1, m2⟩ := mg_left (z := z) (a := r) (b := b) (fun y hy => by have := gb y hy; omega)
      have la : lk (z :: r) (q : Nat) = z.2 := by rw [lk, if_pos (by omega)]
      have lb : lk b (q : Nat) = 0 := lk_lt fun y hy => by have := gb y hy; omega
      have hz := ha.l z List.mem_cons_self
      rw [la] at t1 t3
      rw [la, lb, c1, c2, m1, m2, t1, if_neg (by omega), h1]
      refine ⟨?_, by omega⟩
      show z :: _ = [(q, z.2)] ++ _
      rw [← ez]; rfl
    · obtain ⟨ib, _⟩ := hb.tail ey
      obtain ⟨h1, h2⟩ := mg_cr n (q + 1) a s (ha.up ga) ib
      obtain ⟨c1, c2⟩ := cr_cong (a := a) (b := y :: s) (a' := a) (b' := s) n (q + 1) fun j hj => ⟨rfl, lk_tail (by omega)⟩
      obtain ⟨m1, m2⟩ := mg_right (y := y) (a := a) (b := s) (fun z hz => by have := ga z hz; omega)
      have la : lk a (q : Nat) = 0 := lk_lt fun y hy => by have := ga y hy; omega
      have lb : lk (y :: s) (q : Nat) = y.2 := by rw [lk, if_pos (by omega)]
      have hy := hb.l y List.mem_cons_self
      rw [lb] at t2 t4
      rw [la, lb, c1, c2, m1, m2, t2, if_neg (by omega), h1]
      refine ⟨?_, by omega⟩
      show y :: _ = [(q, y.2)] ++ _
      rw [← ey]; rfl
    · obtain ⟨h1, h2⟩ := mg_cr n (q + 1) a b (ha.up ga) (hb.up gb)
      have la : lk a (q : Nat) = 0 := lk_lt fun y hy => by have := ga y hy; omega
      have lb : lk b (q : Nat) = 0 := lk_lt fun y hy => by have := gb y hy; omega
      rw [la] at t3
      rw [la, lb, h1]
      have e0 : xr 0 0 = 0 := by decide
      have e1 : tq 0 0 = 0 := by decide
      rw [e0, if_pos rfl, e1]
      exact ⟨rfl, by omega⟩
/-- both products are told alike -/
theorem times_ok {a b : Pd} (ha : In 0 100 a) (hb : In 0 100 b) : mg a b = cn a b 100 ∧ pwr a b % 4 = ct a b 100 % 4 := by
  obtain ⟨h1, h2⟩ := mg_cr 100 0 a b ha hb
  obtain ⟨h3, h4⟩ := cn_cr a b 100
  rw [h3, h4]
  exact ⟨h1, by omega⟩
/-! commuting -/
def SF (f : Nat → Int) : Nat → Nat → Int
  | _, 0 => 0
  | q, n + 1 => f q + SF f (q + 1) n
def LS (F : Nat → Nat → Int) : Pd → Int
  | [] => 0
  | z :: p => F z.1 z.2 + LS F p
theorem SF_cong {f f' : Nat → Int} : ∀ (n q : Nat), (∀ j, q ≤ j → f j = f' j) → SF f q n = SF f' q n
  | 0, _, _ => rfl
  | n + 1, q, h => by rw [SF, SF, h q (Nat.le_refl _), SF_cong n (q + 1) fun j hj => h j (by omega)]
theorem LS_SF {F : Nat → Nat → Int} (h0 : ∀ q, F q 0 = 0) : ∀ (n q : Nat) (p : Pd), In q n p → LS F p = SF (fun j => F j (lk p (j : Nat))) q n
  | 0, q, p, h => by
    cases p with
    | nil => rfl
    | cons z r => have := h.b z List.mem_cons_self; omega
  | n + 1, q, p, h => by
    rw [SF]
    rcases h.head with ⟨z, r, rfl, ez⟩ | g
    · obtain ⟨i, _⟩ := h.tail ez
      rw [LS, LS_SF h0 n (q + 1) r i, lk, if_pos (by omega), ez]
      rw [SF_cong (f := fun j => F j (lk r (j : Nat))) (f' := fun j => F j (lk (z :: r) (j : Nat))) n (q + 1) fun j hj => by rw [lk_tail (by omega)]]
    · rw [LS_SF h0 n (q + 1) p (h.up g), lk_lt (fun y hy => by have := g y hy; omega), h0, Int.zero_add]
theorem SF_par {f f' : Nat → Int} : ∀ (n q : Nat), (∀ j, (f j - f' j) % 2 = 0) → (SF f q n - SF f' q n) % 2 = 0
  | 0, _, _ => rfl
  | n + 1, q, h => by
    have h1 := h q
    have h2 := SF_par n (q + 1) h
    rw [SF, SF]
    omega
theorem al_LS (b : Pd) : ∀ a : Pd, al b a = LS (fun q l => sy l (lk b (q : Nat))) a
  | [] => rfl
  | z :: a => by rw [al, LS, al_LS b a]
def cF (a : Pd) (q m : Nat) : Int := if m = 0 then 0 else if un a (q, m) = true then 1 else 0
theorem cnt_LS (a : Pd) : ∀ b : Pd, (∀ z ∈ b, 1 ≤ z.2) → ((b.filter (un a)).length : Int) = LS (cF a) b
  | [], _ => rfl
  | z :: b, h => by
    have ih := cnt_LS a b fun y hy => h y (List.mem_cons_of_mem _ hy)
    have hz := h z List.mem_cons_self
    rw [LS, cF, if_neg (by omega), ← ih]
    by_cases e : un a z = true
    · rw [List.filter_cons_of_pos e, if_pos e, List.length_cons]; push_cast; omega
    · rw [List.filter_cons_of_neg e, if_neg e]; omega
theorem sy_un {l m : Nat} (hl : l ≤ 3) (hm : m ≤ 3) : (sy l m - if m = 0 then 0 else if (!decide ((if l = 0 then m else l) = m)) = true then 1 else 0) % 2 = 0 := by
  have h : ∀ l : Fin 4, ∀ m : Fin 4, (sy l.1 m.1 - if m.1 = 0 then 0 else if (!decide ((if l.1 = 0 then m.1 else l.1) = m.1)) = true then 1 else 0) % 2 = 0 := by decide +kernel
  exact h ⟨l, by omega⟩ ⟨m, by omega⟩
theorem comm_ok {a b : Pd} (ha : In 0 100 a) (hb : In 0 100 b) : decide ((((b.filter (un a)).length : Nat) : Int) % 2 = 0) = decide (al b a % 2 = 0) := by
  rw [cnt_LS a b (fun z hz => (hb.l z hz).1), al_LS, LS_SF (F := cF a) (fun q => by unfold cF; rw [if_pos rfl]) 100 0 b hb, LS_SF (F := fun q l => sy l (lk b (q : Nat))) (fun q => by simp [sy]) 100 0 a ha]
  have h := SF_par (f := fun j => sy (lk a (j : Nat)) (lk b (j : Nat))) (f' := fun j => cF a j (lk b (j : Nat))) 100 0 fun j => sy_un (lk_le fun y hy => (ha.l y hy).2) (lk_le fun y hy => (hb.l y hy).2)
  refine decide_eq_decide.mpr ?_
  omega
end
end Z.K02
namespace Z.K02
open PySem PySem.Spec L2
open PyProof.Rows hiding St
section
variable {d : Nat} {g : CH} {Q : WK} {t : W}
local macro_rules | `(tactic| walk_at "zn") => `(tactic| dsimp only [List.set_cons_zero, List.set_cons_succ, zwipe0, zwipeS, zmap_cons, zmap_nil, zcons_app, znil_app, List.replicate_succ, List.replicate_zero, Nat.reduceSub, Int.reduceAdd, Int.reduceSub, Int.reduceNeg, Int.reduceMul, Int.reduceToNat, Int.reducePow, List.length_cons, List.length_nil, Nat.reduceAdd])
local macro_rules | `(tactic| walk_at "z0") => `(tactic| first
  | with_reducible refine nx_seq ?_
  | with_reducible refine nop_i ?_
  | with_reducible refine k_i ?_
  | with_reducible refine seq_i ?_
  | with_reducible refine reti ?_
  | with_reducible refine gl_i ?_
  | with_reducible refine anil_i ?_
  | with_reducible refine tnil_i ?_
  | with_reducible refine rt_seq ?_
  | with_reducible refine nx_turn ?_
  | with_reducible refine rt_turn ?_
  | with_reducible refine fn_rt ?_
  | with_reducible refine bk_seq ?_
  | with_reducible refine ct_seq ?_
  | with_reducible refine bk_turn ?_
  | with_reducible refine ct_turn ?_
  | with_reducible refine fn_nx ?_
  | ((with_reducible refine turn_id ?_); refine turn_ng ?_)
  | ((with_reducible refine ret_id ?_); refine ret_ng ?_)
  | ((with_reducible refine ite_id ?_); first | refine if_t rfl ?_ | refine if_f rfl ?_)
  | (refine opt_id ?_; first
    | (refine opt_asg rfl ?_; walk_at "zn")
    | (refine put_i ?_; walk_at "zn")
    | (refine add_i ?_; walk_at "zn")
    | with_reducible refine opt_eq ?_
    | ((with_reducible refine opt_pow ⟨by omega, by omega, by omega⟩ ?_); walk_at "zn")
    | with_reducible refine opt_ne ?_
    | with_reducible refine opt_slTo (by omega) ?_
    | with_reducible refine opt_slFrom (by omega) ?_
    | with_reducible refine opt_lslTo (by omega) ?_
    | refine opt_i rfl ?_
    | refine opt_mul (mulOk64 ⟨by omega, by omega⟩ ⟨by omega, by omega⟩) ?_
    | refine opt_mod (by omega) ?_
    | refine opt_shr (by omega) ?_
    | refine opt_fdiv (by constructor <;> first | decide | omega) ?_
    | refine opt_rng (by unfold rngOk; omega) ?_)
  | refine And.intro (Nat.le_of_ble_eq_true rfl) ?_
  | refine And.intro (by decide) ?_
  | refine And.intro (small (by first | omega | (dsimp only; omega))) ?_)
local macro_rules | `(tactic| walk_at "z1") => `(tactic| first
  | walk_at "z0"
  | ((with_reducible refine forL_id ?_); first | refine forL_cons ?_ | refine forL_nil ?_)
  | ((with_reducible refine lcL_id ?_); first | refine lcL_cons ?_ | refine lcL_nil ?_))
local macro_rules | `(tactic| walk_at "zs") => `(tactic| ((repeat walk_at "z0"); try (first | with_reducible refine forL_id ?_ | with_reducible refine lcL_id ?_)))
local macro_rules | `(tactic| walk_at "zf") => `(tactic| (refine fn_i rfl rfl rfl ?_; walk_at "zn"))
local macro_rules | `(tactic| walk_at "zi") => `(tactic| ((with_reducible refine ite_id ?_); first | refine if_d ?_ ?_ | refine if_n ?_ ?_))
local macro_rules | `(tactic| walk_at "zz") => `(tactic| (repeat walk_at "z1"; try ((walk_at "zi"; (all_goals intro _); (all_goals try (exfalso; omega)); (all_goals walk_at "zz")))))
local macro_rules | `(tactic| walk_at "z") => `(tactic| ((repeat walk_at "z1"); try (first | with_reducible refine forL_id ?_ | with_reducible refine ret_id ?_ | with_reducible refine turn_id ?_ | with_reducible refine lcL_id ?_ | with_reducible refine ite_id ?_ | refine call_id ?_ | with_reducible refine opt_id ?_)))
local macro_rules | `(tactic| walk_at "zh") => `(tactic| first | rfl | assumption | omega | decide)
theorem p_let {n : Nat} {rest : CH} {ls : List Nat} (ht : Tape n t) (hn : n < 2000000) (h0 : ls ≠ []) (hl : ls.length ≤ 100) (k : ∀ (c : Nat) t', c ∈ ls → Tape (n + 1) t' → Q (.str (L c)) (t' :: rest)) : wpC (codeT Ds) (d + 2) f_law_pick [.ob 0, .str (S ls)] (t :: rest) Q := by
  have hp := List.length_pos_iff.mpr h0
  walk_at "zf"
  walk_at "z"
  rw [S_len]
  refine p_draw ht ?_ ?_ fun v1 t1 v1l v1r ht1 => ?_
  · omega
  · omega
  obtain ⟨j, rfl⟩ : ∃ j : Nat, v1 = j := ⟨v1.toNat, by omega⟩
  have hj : j < ls.length := by omega
  have hc := List.getElem?_eq_getElem hj
  generalize ls[j] = c at hc
  walk_at "z"
  refine ix_S hc ?_
  walk_at "z"
  exact k c t1 (List.mem_of_getElem? hc) ht1
theorem p_xyz {n : Nat} {rest : CH} (ht : Tape n t) (hn : n < 2000000) (k : ∀ (c : Nat) t', (1 ≤ c ∧ c ≤ 3) → Tape (n + 1) t' → Q (.str (L c)) (t' :: rest)) : wpC (codeT Ds) (d + 2) f_law_pick [.ob 0, .str "XYZ"] (t :: rest) Q := by
  rw [show ("XYZ" : Str) = S [2, 3, 1] by decide +kernel]
  refine p_let ht hn (by simp) (by simp) fun c t' hc h => k c t' ?_ h
  simp only [List.mem_cons, List.not_mem_nil, or_false] at hc
  omega
/-- a product as it may come -/
structure PV (p : Pd) : Prop where
  i : In 0 100 p
  l : p.length ≤ 48
theorem w_some {n : Nat} (ht : Tape n t) (hn : n < 1000000) (k : ∀ (p : Pd) t', PV p → Tape (n + 200) t' → Q (pW p) [t']) : wpC (codeT Ds) (d + 3) f_law_prod_some [.ob 0] [t] Q := by
  have fin : ∀ (m w a : Nat) (t' : W) (hc : (w ≤ 10 ∧ m ≤ 9) ∨ (w ≤ 2 ∧ m ≤ 48)), a ≤ 2 → 1 ≤ w → Tape (n + 5) t' → wpS (wpC (codeT Ds) (d + 2)) (tlN 3 m_law_prod_some.body) [some (.ob 0), some (.int m), some (.int a), some (.int w), none, none] [t'] (Post.fn (retEnd true [t] Q)) := fun m w a t' hc ha hw ht' => by
    dsimp only [m_law_prod_some, tlN]
    walk_at "zs"
    rw [show ((m : Int) - 0).toNat = m by omega]
    refine for_rng (fun i e g' => ∃ (p : Pd) (t' : W) (A : Nat) (y : Option W), g' = [t', .lst (p.map pz)] ∧ Asc p ∧ (∀ z ∈ p, z.1 < A ∧ z.1 < 100 ∧ 1 ≤ z.2 ∧ z.2 ≤ 3) ∧ p.length = i ∧ ((A ≤ 2 + 10 * i ∧ w ≤ 10 ∧ m ≤ 9) ∨ (A ≤ 2 + 2 * i ∧ w ≤ 2 ∧ m ≤ 48)) ∧ Tape (n + 5 + 2 * i) t' ∧ e = [some (.ob 0), some (.int m), some (.int A), some (.int w), some (.ob 1), y]) ?_ ?_ ⟨[], t', a, none, rfl, .nil, (fun z hz => by cases hz), rfl, by omega, ht', rfl⟩
    · rintro i k' hi hk _ _ ⟨p, t', A, y, rfl, h1, h2, h3, h4, ht', rfl⟩
      have hlm : (p.map pz).length = p.length := List.length_map ..
      walk_at "zs"
      refine p_xyz ht' (by omega) fun c t1 hc1 ht1 => ?_
      walk_at "zs"
      refine p_draw ht1 ?_ ?_ fun v t2 vl vr ht2 => ?_
      · omega
      · omega
      obtain ⟨u, rfl⟩ : ∃ u : Nat, v = u := ⟨v.toNat, by omega⟩
      walk_at "zs"
      refine hk _ _ ⟨p ++ [(A, c)], t2, A + 1 + u, _, by rw [List.map_append]; rfl, ?_, fun z hz => ?_, by rw [List.length_append, h3]; rfl, by omega, ht2, by push_cast; rfl⟩
      · refine List.pairwise_append.mpr ⟨h1, List.pairwise_singleton _ _, fun x hx y hy => ?_⟩
        rw [List.mem_singleton.mp hy]
        exact (h2 x hx).1
      · rcases List.mem_append.mp hz with hz | hz
        · have := h2 z hz; omega
        · rw [List.mem_singleton.mp hz]; dsimp only; omega
    · rintro _ _ ⟨p, t', A, y, rfl, h1, h2, h3, h4, ht', rfl⟩
      walk_at "zs"
      exact ret_gc1 ht' (pzs_wf _ _) (k p t' ⟨⟨h1, fun z hz => by have := h2 z hz; omega, fun z hz => (h2 z hz).2.2⟩, by omega⟩ (ht'.mono (by omega)))
  walk_at "zf"
  walk_at "zs"
  refine p_draw ht ?_ ?_ fun v1 t1 v1l v1r ht1 => ?_
  iterate 2 walk_at "zh"
  walk_at "zs"
  refine if_d (fun h => ?_) (fun h => ?_)
  · walk_at "zs"
    refine p_pick ht1 ?_ ?_ ?_ fun x2 t2 x2m ht2 => ?_
    · omega
    · simp
    · simp [sizeLine]
    obtain ⟨m, rfl, hm⟩ : ∃ m : Nat, x2 = .int m ∧ m ≤ 9 := by
      simp only [List.mem_cons, List.not_mem_nil, or_false] at x2m
      rcases x2m with rfl | rfl | rfl | rfl | rfl | rfl | rfl | rfl
      · exact ⟨0, rfl, by omega⟩
      · exact ⟨1, rfl, by omega⟩
      · exact ⟨2, rfl, by omega⟩
      · exact ⟨2, rfl, by omega⟩
      · exact ⟨3, rfl, by omega⟩
      · exact ⟨4, rfl, by omega⟩
      · exact ⟨6, rfl, by omega⟩
      · exact ⟨9, rfl, by omega⟩
    walk_at "zs"
    refine p_draw ht2 ?_ ?_ fun v3 t3 v3l v3r ht3 => ?_
    iterate 2 walk_at "zh"
    obtain ⟨a, rfl⟩ : ∃ a : Nat, v3 = a := ⟨v3.toNat, by omega⟩
    walk_at "zs"
    refine if_f (decide_eq_false (by omega)) ?_
    walk_at "zs"
    refine p_pick ht3 ?_ ?_ ?_ fun x4 t4 x4m ht4 => ?_
    · omega
    · simp
    · simp [sizeLine]
    obtain ⟨w, rfl, hw⟩ : ∃ m : Nat, x4 = .int m ∧ 1 ≤ m ∧ m ≤ 10 := by
      simp only [List.mem_cons, List.not_mem_nil, or_false] at x4m
      rcases x4m with rfl | rfl | rfl | rfl
      · exact ⟨1, rfl, by omega⟩
      · exact ⟨2, rfl, by omega⟩
      · exact ⟨5, rfl, by omega⟩
      · exact ⟨10, rfl, by omega⟩
    have := fin m w a t4 (.inl ⟨hw.2, hm⟩) (by omega) hw.1 (ht4.mono (by omega))
    repeat first | exact this | walk_at "z0"
  · walk_at "zs"
    refine p_draw ht1 ?_ ?_ fun v3 t3 v3l v3r ht3 => ?_
    · omega
    · decide
    obtain ⟨a, rfl⟩ : ∃ a : Nat, v3 = a := ⟨v3.toNat, by omega⟩
    have := fin 48 2 a t3 (.inr ⟨by omega, by omega⟩) (by omega) (by omega) (ht3.mono (by omega))
    repeat first | exact this | walk_at "z0" | refine if_t (decide_eq_true (by omega)) ?_
def f2 (z : Nat × Nat) : Int × Str := ((z.1 : Int), L z.2)
theorem psOf_pz : ∀ p : Pd, psOf (p.map pz) = some (p.map f2)
  | [] => rfl
  | z :: p => by
    show (psOf (p.map pz)).map _ = _
    rw [psOf_pz p]; rfl
/-- a product by its qubits -/
def srtP (p : Pd) : Pd := p.mergeSort fun a b => decide (a.1 ≤ b.1)
theorem srtP_ok {p : Pd} (h : (p.map (·.1)).Nodup) : (srtP p).Perm p ∧ Asc (srtP p) ∧ (sortP (p.map f2)).map psW = (srtP p).map pz := by
  have hp : (srtP p).Perm p := List.mergeSort_perm p _
  have hm := List.pairwise_mergeSort (le := fun a b : Nat × Nat => decide (a.1 ≤ b.1)) (fun a b c h1 h2 => by simp at *; omega) (fun a b => by simp; omega) p
  have hle : (srtP p).Pairwise fun a b => a.1 ≤ b.1 := hm.imp fun h => by simpa using h
  have hnd : ((srtP p).map (·.1)).Nodup := (hp.map (·.1)).nodup_iff.mpr h
  have hne : (srtP p).Pairwise fun a b => a.1 ≠ b.1 := List.pairwise_map.mp hnd
  refine ⟨hp, (hle.and hne).imp fun h => by omega, ?_⟩
  have e := sortP_of (ps := p.map f2) (qs := (srtP p).map f2) (hp.map f2) ?_ ?_
  · rw [e, List.map_map]; rfl
  · rw [List.map_map]
    have : (fun z : Int × Str => z.1) ∘ f2 = (fun i : Nat => (i : Int)) ∘ fun z : Nat × Nat => z.1 := rfl
    rw [this, ← List.map_map]
    exact List.pairwise_map.mpr (h.imp fun h => by omega)
  · exact List.pairwise_map.mpr (hle.imp fun h => by unfold f2; dsimp only; omega)
end
end Z.K02
namespace Z.K02
open PySem PySem.Spec L2
open PyProof.Rows hiding St
section
variable {d : Nat} {g : CH} {Q : WK} {t : W}
local macro_rules | `(tactic| walk_at "zn") => `(tactic| dsimp only [List.set_cons_zero, List.set_cons_succ, zwipe0, zwipeS, zmap_cons, zmap_nil, zcons_app, znil_app, List.replicate_succ, List.replicate_zero, Nat.reduceSub, Int.reduceAdd, Int.reduceSub, Int.reduceNeg, Int.reduceMul, Int.reduceToNat, Int.reducePow, List.length_cons, List.length_nil, Nat.reduceAdd])
local macro_rules | `(tactic| walk_at "z0") => `(tactic| first
  | with_reducible refine nx_seq ?_
  | with_reducible refine nop_i ?_
  | with_reducible refine k_i ?_
  | with_reducible refine seq_i ?_
  | with_reducible refine reti ?_
  | with_reducible refine gl_i ?_
  | with_reducible refine anil_i ?_
  | with_reducible refine tnil_i ?_
  | with_reducible refine rt_seq ?_
  | with_reducible refine nx_turn ?_
  | with_reducible refine rt_turn ?_
  | with_reducible refine fn_rt ?_
  | with_reducible refine bk_seq ?_
  | with_reducible refine ct_seq ?_
  | with_reducible refine bk_turn ?_
  | with_reducible refine ct_turn ?_
  | with_reducible refine fn_nx ?_
  | ((with_reducible refine turn_id ?_); refine turn_ng ?_)
  | ((with_reducible refine ret_id ?_); refine ret_ng ?_)
  | ((with_reducible refine ite_id ?_); first | refine if_t rfl ?_ | refine if_f rfl ?_)
  | (refine opt_id ?_; first
    | (refine opt_asg rfl ?_; walk_at "zn")
    | (refine put_i ?_; walk_at "zn")
    | (refine add_i ?_; walk_at "zn")
    | with_reducible refine opt_eq ?_
    | ((with_reducible refine opt_pow ⟨by omega, by omega, by omega⟩ ?_); walk_at "zn")
    | with_reducible refine opt_ne ?_
    | with_reducible refine opt_slTo (by omega) ?_
    | with_reducible refine opt_slFrom (by omega) ?_
    | with_reducible refine opt_lslTo (by omega) ?_
    | refine opt_i rfl ?_
    | refine opt_mul (mulOk64 ⟨by omega, by omega⟩ ⟨by omega, by omega⟩) ?_
    | refine opt_mod (by omega) ?_
    | refine opt_shr (by omega) ?_
    | refine opt_fdiv (by constructor <;> first | decide | omega) ?_
    | refine opt_rng (by unfold rngOk; omega) ?_)
  | refine And.intro (Nat.le_of_ble_eq_true rfl) ?_
  | refine And.intro (by decide) ?_
  | refine And.intro (small (by first | omega | (dsimp only; omega))) ?_)
local macro_rules | `(tactic| walk_at "z1") => `(tactic| first
  | walk_at "z0"
  | ((with_reducible refine forL_id ?_); first | refine forL_cons ?_ | refine forL_nil ?_)
  | ((with_reducible refine lcL_id ?_); first | refine lcL_cons ?_ | refine lcL_nil ?_))
local macro_rules | `(tactic| walk_at "zs") => `(tactic| ((repeat walk_at "z0"); try (first | with_reducible refine forL_id ?_ | with_reducible refine lcL_id ?_)))
local macro_rules | `(tactic| walk_at "zf") => `(tactic| (refine fn_i rfl rfl rfl ?_; walk_at "zn"))
local macro_rules | `(tactic| walk_at "zi") => `(tactic| ((with_reducible refine ite_id ?_); first | refine if_d ?_ ?_ | refine if_n ?_ ?_))
local macro_rules | `(tactic| walk_at "zz") => `(tactic| (repeat walk_at "z1"; try ((walk_at "zi"; (all_goals intro _); (all_goals try (exfalso; omega)); (all_goals walk_at "zz")))))
local macro_rules | `(tactic| walk_at "z") => `(tactic| ((repeat walk_at "z1"); try (first | with_reducible refine forL_id ?_ | with_reducible refine ret_id ?_ | with_reducible refine turn_id ?_ | with_reducible refine lcL_id ?_ | with_reducible refine ite_id ?_ | refine call_id ?_ | with_reducible refine opt_id ?_)))
local macro_rules | `(tactic| walk_at "zh") => `(tactic| first | rfl | assumption | omega | decide)
theorem ret_gcR {n : Nat} {t t' v : W} {rest more : CH} (ht : Tape n t') (hv : wf (rest.length + 1) v = true) (q : Q v (t' :: rest)) : retEnd true (t :: rest) Q v (t' :: (rest ++ more)) := by
  refine ⟨v, t' :: rest, .same hv, ⟨by simp, by simp, fun i hi => ?_⟩, q⟩
  cases i with
  | zero => exact .inr ⟨t', t', rfl, rfl, ht.fz⟩
  | succ i =>
    have hi : i < rest.length := by simpa using hi
    exact .inl ⟨nth_app rest more i hi, rfl⟩
theorem ret_gcE {n : Nat} {t t' v : W} {rest : CH} (ht : Tape n t') (hv : wf (rest.length + 1) v = true) (q : Q v (t' :: rest)) : retEnd true (t :: rest) Q v (t' :: rest) := by
  have := ret_gcR (Q := Q) (t := t) (more := []) ht hv q
  rwa [List.append_nil] at this
theorem w_other {n : Nat} {a : Pd} (ha : PV a) (ht : Tape n t) (hn : n < 900000) (k : ∀ (p : Pd) t', PV p → Tape (n + 500) t' → Q (pW p) [t']) : wpC (codeT Ds) (d + 4) f_law_prod_other [.ob 0, pW a] [t] Q := by
  walk_at "zf"
  walk_at "zs"
  refine p_draw ht ?_ ?_ fun v1 t1 v1l v1r ht1 => ?_
  iterate 2 walk_at "zh"
  walk_at "zs"
  refine if_d (fun h => ?_) (fun h => ?_)
  · walk_at "zs"
    refine w_some ht1 (by omega) fun p t2 hp ht2 => ?_
    walk_at "zs"
    exact ret_gcE ht2 (by simp only [pW, wf, pzs_wf]) (k p t2 hp (ht2.mono (by omega)))
  walk_at "zs"
  refine if_d (fun h1 => ?_) (fun h1 => ?_)
  · walk_at "zs"
    refine p_draw ht1 ?_ ?_ fun v2 t2 v2l v2r ht2 => ?_
    · omega
    · decide
    walk_at "zs"
    refine if_d (fun h2 => ?_) (fun h2 => ?_)
    · walk_at "zs"
      exact ret_gcE ht2 (by simp only [pW, wf, pzs_wf]) (k a t2 ha (ht2.mono (by omega)))
    · walk_at "zs"
      exact ret_gcE ht2 rfl (k [] t2 ⟨⟨.nil, (fun z hz => by cases hz), fun z hz => by cases hz⟩, Nat.zero_le _⟩ (ht2.mono (by omega)))
  walk_at "zs"
  refine for_inv (fun i e g' => ∃ (p : Pd) (t' : W) (s4 s5 s6 : Option W), g' = [t', .lst (p.map pz)] ∧ (Asc p ∧ ∀ z ∈ p, (∃ y ∈ a.take i, y.1 = z.1) ∧ 1 ≤ z.2 ∧ z.2 ≤ 3) ∧ p.length ≤ i ∧ Tape (n + 1 + 2 * i) t' ∧ e = [some (.ob 0), some (pW a), some (.int v1), some (.ob 1), s4, s5, s6, none]) ?_ ?_ ⟨[], t1, none, none, none, rfl, ⟨.nil, fun z hz => by cases hz⟩, Nat.le_refl _, ht1, rfl⟩
  · rintro i w k' hw hk _ _ ⟨p, t', s4, s5, s6, rfl, ⟨h2, h3⟩, h4, ht', rfl⟩
    obtain ⟨z, hz, rfl⟩ := at_map hw
    have hi := (List.getElem?_eq_some_iff.mp hz).1
    have hal := ha.l
    have hz3 := ha.i.l z (List.mem_of_getElem? hz)
    have hlm : (p.map pz).length = p.length := List.length_map ..
    have e1 : a.take (i + 1) = a.take i ++ [z] := by rw [List.take_succ, hz]; rfl
    have lt : ∀ y ∈ a.take i, y.1 < z.1 := fun y hy => by
      obtain ⟨j, hj, e⟩ := List.mem_iff_getElem.mp hy
      rw [List.getElem_take] at e
      rw [List.length_take] at hj
      have := List.pairwise_iff_getElem.mp ha.i.s j i (by omega) hi (by omega)
      rw [(List.getElem?_eq_some_iff.mp hz).2, e] at this
      exact this
    have add : ∀ c : Nat, 1 ≤ c ∧ c ≤ 3 → Asc (p ++ [(z.1, c)]) ∧ ∀ x ∈ p ++ [(z.1, c)], (∃ y ∈ a.take (i + 1), y.1 = x.1) ∧ 1 ≤ x.2 ∧ x.2 ≤ 3 := fun c hc => by
      refine ⟨List.pairwise_append.mpr ⟨h2, List.pairwise_singleton _ _, fun x hx y hy => ?_⟩, fun x hx => ?_⟩
      · rw [List.mem_singleton.mp hy]
        obtain ⟨⟨y', hy', e⟩, _⟩ := h3 x hx
        have := lt y' hy'
        dsimp only; omega
      · rw [e1]
        rcases List.mem_append.mp hx with hx | hx
        · obtain ⟨⟨y', hy', e⟩, r⟩ := h3 x hx
          exact ⟨⟨y', List.mem_append_left _ hy', e⟩, r⟩
        · rw [List.mem_singleton.mp hx]
          exact ⟨⟨z, by simp, rfl⟩, hc⟩
    have old : ∀ x ∈ p, (∃ y ∈ a.take (i + 1), y.1 = x.1) ∧ 1 ≤ x.2 ∧ x.2 ≤ 3 := fun x hx => by
      obtain ⟨⟨y', hy', e⟩, r⟩ := h3 x hx
      rw [e1]
      exact ⟨⟨y', List.mem_append_left _ hy', e⟩, r⟩
    refine ⟨trivial, ?_⟩
    rw [show pz z = .tup [.int z.1, .str (L z.2)] from rfl]
    walk_at "zs"
    refine p_draw ht' ?_ ?_ fun v2 t2 v2l v2r ht2 => ?_
    · omega
    · decide
    walk_at "zs"
    refine if_d (fun h5 => ?_) (fun h5 => ?_)
    · walk_at "zs"
      exact hk _ _ ⟨p ++ [(z.1, z.2)], t2, _, _, _, by rw [List.map_append]; rfl, add z.2 hz3, by rw [List.length_append, List.length_singleton]; omega, ht2.mono (by omega), rfl⟩
    walk_at "zs"
    refine if_d (fun h6 => ?_) (fun h6 => ?_)
    · walk_at "zs"
      refine p_xyz (rest := [_]) ht2 (by omega) fun c t3 hc ht3 => ?_
      walk_at "zs"
      exact hk _ _ ⟨p ++ [(z.1, c)], t3, _, _, _, by rw [List.map_append]; rfl, add c hc, by rw [List.length_append, List.length_singleton]; omega, ht3.mono (by omega), rfl⟩
    · walk_at "zs"
      exact hk _ _ ⟨p, t2, _, _, _, rfl, ⟨h2, old⟩, by omega, ht2.mono (by omega), rfl⟩
  · rintro _ _ ⟨p, t', s4, s5, s6, rfl, ⟨h2, h3⟩, h4, ht', rfl⟩
    refine ⟨trivial, ?_⟩
    have hal := ha.l
    rw [List.length_map] at h3 h4 ht'
    rw [List.take_length] at h3
    have ein : ∀ (i : Nat), decide ((i : Int) ∈ a.map fun z => (z.1 : Int)) = false → ∀ y ∈ a, y.1 ≠ i := fun i h y hy e => of_decide_eq_false h (List.mem_map.mpr ⟨y, hy, by rw [e]⟩)
    walk_at "zs"
    refine for_rng (fun i e g' => ∃ (p : Pd) (t' : W) (s4 : Option W), g' = [t', .lst (p.map pz)] ∧ ((p.map (·.1)).Nodup ∧ ∀ z ∈ p, ((∃ y ∈ a, y.1 = z.1) ∨ z.1 < i) ∧ z.1 < 100 ∧ 1 ≤ z.2 ∧ z.2 ≤ 3) ∧ p.length ≤ 48 ∧ Tape (n + 100 + 2 * i) t' ∧ e = [some (.ob 0), some (pW a), some (.int v1), some (.ob 1), s4, s5, s6, none]) ?_ ?_ ⟨p, t', s4, rfl, ⟨List.pairwise_map.mpr (h2.imp fun h => by omega), fun z hz => ?_⟩, by omega, ht'.mono (by omega), rfl⟩
    · rintro i k' hi hk _ _ ⟨p, t', s4, rfl, ⟨h2, h3⟩, h4, ht', rfl⟩
      have hi : i < 100 := hi
      have hlm : (p.map pz).length = p.length := List.length_map ..
      have old : ∀ z ∈ p, ((∃ y ∈ a, y.1 = z.1) ∨ z.1 < i + 1) ∧ z.1 < 100 ∧ 1 ≤ z.2 ∧ z.2 ≤ 3 := fun z hz => by
        obtain ⟨h, r⟩ := h3 z hz
        exact ⟨h.imp id fun h => by omega, r⟩
      rw [zadd]
      walk_at "zs"
      rw [List.length_map]
      refine if_d (fun h5 => ?_) (fun h5 => ?_)
      · walk_at "zs"
        refine p_draw ht' ?_ ?_ fun v2 t2 v2l v2r ht2 => ?_
        · omega
        · decide
        walk_at "zs"
        refine if_d (fun h6 => ?_) (fun h6 => ?_)
        · walk_at "zs"
          unfold pW
          walk_at "zs"
          refine lc_mapO (as := a) (wi := pz) (fun z => W.int z.1) trivial (fun z hz kk h1 => ?_) ?_
          · rw [show pz z = .tup [.int z.1, .str (L z.2)] from rfl]
            walk_at "zs"
            exact h1
          walk_at "zs"
          rw [show (fun z : Nat × Nat => W.int (z.1 : Int)) = W.int ∘ fun z : Nat × Nat => (z.1 : Int) from rfl, ← List.map_map]
          refine notin_i (.inr rfl) ?_
          refine if_b (fun h7 => ?_) (fun h7 => ?_)
          · have h8 := ein i (by simpa using h7)
            walk_at "zs"
            refine p_xyz (rest := [_]) ht2 (by omega) fun c t3 hc ht3 => ?_
            walk_at "zs"
            refine hk _ _ ⟨p ++ [(i, c)], t3, _, by rw [List.map_append]; rfl, ⟨?_, fun z hz => ?_⟩, by rw [List.length_append, List.length_singleton]; omega, ht3.mono (by omega), rfl⟩
            · rw [List.map_append, List.nodup_append]
              refine ⟨h2, by simp, fun x hx y hy e => ?_⟩
              rw [List.map_singleton, List.mem_singleton] at hy
              obtain ⟨z, hz, rfl⟩ := List.mem_map.mp hx
              obtain ⟨h | h, _⟩ := h3 z hz
              · obtain ⟨y', hy', e'⟩ := h
                exact h8 y' hy' (by rw [e', e, hy])
              · dsimp only at hy; omega
            · rcases List.mem_append.mp hz with hz | hz
              · exact old z hz
              · rw [List.mem_singleton.mp hz]
                exact ⟨.inr (Nat.lt_succ_self i), hi, hc⟩
          · walk_at "zs"
            exact hk _ _ ⟨p, t2, _, rfl, ⟨h2, old⟩, h4, ht2.mono (by omega), rfl⟩
        · walk_at "zs"
          exact hk _ _ ⟨p, t2, _, rfl, ⟨h2, old⟩, h4, ht2.mono (by omega), rfl⟩
      · walk_at "zs"
        exact hk _ _ ⟨p, t', _, rfl, ⟨h2, old⟩, h4, ht'.mono (by omega), rfl⟩
    · rintro _ _ ⟨p, t', s4, rfl, ⟨h2, h3⟩, h4, ht', rfl⟩
      obtain ⟨o1, o2, o3⟩ := srtP_ok h2
      walk_at "zs"
      refine opt_i (psOf_pz p) ?_
      refine ⟨?_, ?_⟩
      · rw [List.map_map]
        have : (fun z : Int × Str => z.1) ∘ f2 = (fun i : Nat => (i : Int)) ∘ fun z : Nat × Nat => z.1 := rfl
        rw [this, ← List.map_map]
        exact List.pairwise_map.mpr (h2.imp fun h => by omega)
      rw [o3]
      walk_at "zs"
      refine ret_gc1 ht' (pzs_wf _ _) (k (srtP p) t' ⟨⟨o2, fun z hz => ?_, fun z hz => ?_⟩, by rw [o1.length_eq]; exact h4⟩ (ht'.mono (by omega)))
      · have := (h3 z (o1.mem_iff.mp hz)).2.1; omega
      · exact (h3 z (o1.mem_iff.mp hz)).2.2
    · obtain ⟨⟨y, hy, e⟩, r⟩ := h3 z hz
      have := ha.i.b y hy
      exact ⟨.inl ⟨y, hy, e⟩, by omega, r⟩
end
end Z.K02
namespace Z.K02
open PySem PySem.Spec L2
open PyProof.Rows hiding St
section
variable {d : Nat} {g : CH} {Q : WK} {t : W}
local macro_rules | `(tactic| walk_at "zn") => `(tactic| dsimp only [List.set_cons_zero, List.set_cons_succ, zwipe0, zwipeS, zmap_cons, zmap_nil, zcons_app, znil_app, List.replicate_succ, List.replicate_zero, Nat.reduceSub, Int.reduceAdd, Int.reduceSub, Int.reduceNeg, Int.reduceMul, Int.reduceToNat, Int.reducePow, List.length_cons, List.length_nil, Nat.reduceAdd])
local macro_rules | `(tactic| walk_at "z0") => `(tactic| first
  | with_reducible refine nx_seq ?_
  | with_reducible refine nop_i ?_
  | with_reducible refine k_i ?_
  | with_reducible refine seq_i ?_
  | with_reducible refine reti ?_
  | with_reducible refine gl_i ?_
  | with_reducible refine anil_i ?_
  | with_reducible refine tnil_i ?_
  | with_reducible refine rt_seq ?_
  | with_reducible refine nx_turn ?_
  | with_reducible refine rt_turn ?_
  | with_reducible refine fn_rt ?_
  | with_reducible refine bk_seq ?_
  | with_reducible refine ct_seq ?_
  | with_reducible refine bk_turn ?_
  | with_reducible refine ct_turn ?_
  | with_reducible refine fn_nx ?_
  | ((with_reducible refine turn_id ?_); refine turn_ng ?_)
  | ((with_reducible refine ret_id ?_); refine ret_ng ?_)
  | ((with_reducible refine ite_id ?_); first | refine if_t rfl ?_ | refine if_f rfl ?_)
  | (refine opt_id ?_; first
    | (refine opt_asg rfl ?_; walk_at "zn")
    | (refine put_i ?_; walk_at "zn")
    | (refine add_i ?_; walk_at "zn")
    | with_reducible refine opt_eq ?_
    | ((with_reducible refine opt_pow ⟨by omega, by omega, by omega⟩ ?_); walk_at "zn")
    | with_reducible refine opt_ne ?_
    | with_reducible refine opt_slTo (by omega) ?_
    | with_reducible refine opt_slFrom (by omega) ?_
    | with_reducible refine opt_lslTo (by omega) ?_
    | refine opt_i rfl ?_
    | refine opt_mul (mulOk64 ⟨by omega, by omega⟩ ⟨by omega, by omega⟩) ?_
    | refine opt_mod (by omega) ?_
    | refine opt_shr (by omega) ?_
    | refine opt_fdiv (by constructor <;> first | decide | omega) ?_
    | refine opt_rng (by unfold rngOk; omega) ?_)
  | refine And.intro (Nat.le_of_ble_eq_true rfl) ?_
  | refine And.intro (by decide) ?_
  | refine And.intro (small (by first | omega | (dsimp only; omega))) ?_)
local macro_rules | `(tactic| walk_at "z1") => `(tactic| first
  | walk_at "z0"
  | ((with_reducible refine forL_id ?_); first | refine forL_cons ?_ | refine forL_nil ?_)
  | ((with_reducible refine lcL_id ?_); first | refine lcL_cons ?_ | refine lcL_nil ?_))
local macro_rules | `(tactic| walk_at "zs") => `(tactic| ((repeat walk_at "z0"); try (first | with_reducible refine forL_id ?_ | with_reducible refine lcL_id ?_)))
local macro_rules | `(tactic| walk_at "zf") => `(tactic| (refine fn_i rfl rfl rfl ?_; walk_at "zn"))
local macro_rules | `(tactic| walk_at "zi") => `(tactic| ((with_reducible refine ite_id ?_); first | refine if_d ?_ ?_ | refine if_n ?_ ?_))
local macro_rules | `(tactic| walk_at "zz") => `(tactic| (repeat walk_at "z1"; try ((walk_at "zi"; (all_goals intro _); (all_goals try (exfalso; omega)); (all_goals walk_at "zz")))))
local macro_rules | `(tactic| walk_at "z") => `(tactic| ((repeat walk_at "z1"); try (first | with_reducible refine forL_id ?_ | with_reducible refine ret_id ?_ | with_reducible refine turn_id ?_ | with_reducible refine lcL_id ?_ | with_reducible refine ite_id ?_ | refine call_id ?_ | with_reducible refine opt_id ?_)))
local macro_rules | `(tactic| walk_at "zh") => `(tactic| first | rfl | assumption | omega | decide)
structure Gv where
  a : Pd
  b : Pd
  q : Int
  ls : List Int
  by_ : Int
  s : List Nat
  w : Int
def Gv.v (x : Gv) : W := .tup [pW x.a, pW x.b, .int x.q, .tup (x.ls.map .int), .int x.by_, .str (S x.s), .int x.w]
structure GOk (x : Gv) : Prop where
  a : PV x.a
  b : PV x.b
  l : x.ls.length ≤ 10
  s : ∀ c ∈ x.s, c ≤ 3
  z : 1 ≤ x.s.length ∧ x.s.length ≤ 16
theorem gv_wf {n : Nat} {x : Gv} : Z.wf n x.v = true := by
  simp only [Gv.v, pW, wf, wfs, pzs_wf, wfs_ints, Bool.and_self]
theorem w_given {n : Nat} (ht : Tape n t) (hn : n < 100000) (k : ∀ (x : Gv) t', GOk x → Tape (n + 1000) t' → Q x.v [t']) : wpC (codeT Ds) (d + 5) f_law_prod_given [.ob 0] [t] Q := by
  walk_at "zf"
  walk_at "zs"
  refine w_some ht (by omega) fun a t1 ha ht1 => ?_
  walk_at "zs"
  refine w_other ha ht1 (by omega) fun b t2 hb ht2 => ?_
  have hal := ha.l
  unfold pW
  walk_at "zs"
  refine lc_mapO (as := a) (wi := pz) (fun z => W.int z.1) trivial (fun z hz kk h1 => ?_) ?_
  · rw [show pz z = .tup [.int z.1, .str (L z.2)] from rfl]
    walk_at "zs"
    exact h1
  walk_at "zs"
  refine p_draw ht2 ?_ ?_ fun v3 t3 v3l v3r ht3 => ?_
  · omega
  · decide
  walk_at "zs"
  refine p_draw ht3 ?_ ?_ fun v4 t4 v4l v4r ht4 => ?_
  · omega
  · decide
  walk_at "zs"
  rw [List.length_map]
  refine ⟨Nat.le_of_lt (small (by dsimp only [List.length_cons, List.length_nil]; omega)), ?_⟩
  have hqs : ∃ qs : List Int, (a.map fun z => W.int z.1) ++ [W.int v3, W.int v4] = qs.map .int ∧ qs ≠ [] ∧ qs.length ≤ 60 := by
    refine ⟨(a.map fun z => (z.1 : Int)) ++ [v3, v4], ?_, by simp, by rw [List.length_append, List.length_map]; dsimp only [List.length_cons, List.length_nil]; omega⟩
    rw [List.map_append, List.map_map]; rfl
  obtain ⟨qs, eq, hq0, hql⟩ := hqs
  rw [eq]
  have pickq : ∀ {m : Nat} {t : W} {rest : CH} {R : WK}, Tape m t → m < 1000000 → (∀ (q : Int) t', Tape (m + 1) t' → R (.int q) (t' :: rest)) → wpC (codeT Ds) (d + 4) f_law_pick [.ob 0, .lst (qs.map .int)] (t :: rest) R := fun {m t rest R} h1 h2 h3 => by
    refine p_pick (d := d + 2) h1 (by omega) (by simpa using hq0) (by rw [List.length_map]; exact Nat.le_of_lt (small (by omega))) fun x t' hx h => ?_
    obtain ⟨q, _, rfl⟩ := List.mem_map.mp hx
    exact h3 q t' h
  walk_at "zs"
  refine p_draw ht4 ?_ ?_ fun v5 t5 v5l v5r ht5 => ?_
  · omega
  · decide
  obtain ⟨m, rfl⟩ : ∃ m : Nat, v5 = m := ⟨v5.toNat, by omega⟩
  walk_at "zs"
  rw [show ((m : Int) - 0).toNat = m by omega]
  refine for_rng (fun i e g' => ∃ (ls : List Int) (t' : W) (s6 s7 : Option W), g' = [t', .lst (ls.map .int)] ∧ ls.length ≤ i ∧ Tape (n + 710 + i) t' ∧ e = [some (.ob 0), some (.tup (a.map pz)), some (.tup (b.map pz)), some (.lst (qs.map .int)), none, some (.ob 1), s6, s7, none, none]) ?_ ?_ ⟨[], t5, none, none, rfl, Nat.le_refl _, ht5.mono (by omega), rfl⟩
  · rintro i k' hi hk _ _ ⟨ls, t', s6, s7, rfl, hl, ht', rfl⟩
    have hlm : (ls.map W.int).length = ls.length := List.length_map ..
    walk_at "zs"
    refine pickq ht' (by omega) fun q t6 ht6 => ?_
    walk_at "zs"
    refine notin_i (ls := ls) (.inr rfl) ?_
    refine if_b (fun h => ?_) (fun h => ?_)
    · walk_at "zs"
      exact hk _ _ ⟨ls ++ [q], t6, _, _, by rw [List.map_append]; rfl, by rw [List.length_append, List.length_singleton]; omega, ht6, rfl⟩
    · walk_at "zs"
      exact hk _ _ ⟨ls, t6, _, _, rfl, by omega, ht6, rfl⟩
  · rintro _ _ ⟨ls, t', s6, s7, rfl, hl, ht', rfl⟩
    walk_at "zs"
    refine p_draw (rest := [_]) ht' ?_ ?_ fun v6 t6 v6l v6r ht6 => ?_
    · omega
    · decide
    walk_at "zs"
    refine p_pick (rest := [_]) ht6 ?_ ?_ ?_ fun x7 t7 x7m ht7 => ?_
    · omega
    · simp
    · simp [sizeLine]
    obtain ⟨z, rfl, hz⟩ : ∃ z : Nat, x7 = .int z ∧ 1 ≤ z ∧ z ≤ 16 := by
      simp only [List.mem_cons, List.not_mem_nil, or_false] at x7m
      rcases x7m with rfl | rfl | rfl | rfl | rfl
      · exact ⟨1, rfl, by omega⟩
      · exact ⟨2, rfl, by omega⟩
      · exact ⟨5, rfl, by omega⟩
      · exact ⟨16, rfl, by omega⟩
      · exact ⟨(1 + v6).toNat, by congr 1; omega, by omega⟩
    walk_at "zs"
    rw [show ((z : Int) - 0).toNat = z by omega]
    refine lc_rng (fun i acc g' => ∃ (cs : List Nat) (t' : W), g' = [t', .lst (ls.map .int)] ∧ acc = (cs.map fun c => W.str (L c)) ∧ cs.length = i ∧ (∀ c ∈ cs, c ≤ 3) ∧ Tape (n + 720 + i) t') ?_ ?_ ⟨[], t7, rfl, rfl, rfl, (fun c hc => by cases hc), ht7.mono (by omega)⟩
    · rintro i acc _ kk hi ⟨cs, t', rfl, rfl, hcl, hc, ht'⟩ hk
      walk_at "zs"
      rw [show ("IIXYZ" : Str) = S [0, 0, 2, 3, 1] by decide +kernel]
      refine p_let (rest := [_]) ht' (by omega) (by simp) (by simp) fun c t8 hc8 ht8 => ?_
      refine hk _ _ ⟨cs ++ [c], t8, rfl, by rw [List.map_append]; rfl, by rw [List.length_append, hcl]; rfl, fun x hx => ?_, ht8⟩
      rcases List.mem_append.mp hx with hx | hx
      · exact hc x hx
      · rw [List.mem_singleton.mp hx]
        simp only [List.mem_cons, List.not_mem_nil, or_false] at hc8
        omega
    · rintro _ _ ⟨cs, t', rfl, rfl, hcl, hc, ht'⟩
      walk_at "zs"
      refine join_at rfl (by omega) ?_
      walk_at "zs"
      refine p_draw (rest := [_]) ht' ?_ ?_ fun v8 t8 v8l v8r ht8 => ?_
      · omega
      · decide
      walk_at "zs"
      refine p_pick (rest := [_]) ht8 ?_ ?_ ?_ fun x9 t9 x9m ht9 => ?_
      · omega
      · simp
      · simp [sizeLine]
      obtain ⟨by_, rfl⟩ : ∃ z : Int, x9 = .int z := by
        simp only [List.mem_cons, List.not_mem_nil, or_false] at x9m
        rcases x9m with rfl | rfl | rfl | rfl <;> exact ⟨_, rfl⟩
      walk_at "zs"
      refine pickq ht9 (by omega) fun q t10 ht10 => ?_
      walk_at "zs"
      refine p_draw (rest := [_]) ht10 ?_ ?_ fun v11 t11 v11l v11r ht11 => ?_
      · omega
      · decide
      walk_at "zs"
      exact ret_gcR (rest := []) ht11 (gv_wf (x := ⟨a, b, q, ls, by_, cs, v11⟩)) (k ⟨a, b, q, ls, by_, cs, v11⟩ t11 ⟨ha, hb, by dsimp only; omega, hc, by dsimp only; omega⟩ (ht11.mono (by omega)))
end
end Z.K02
namespace Z.K02
open PySem PySem.Spec L2
open PyProof.Rows hiding St
section
variable {d : Nat} {g : CH} {Q : WK} {t : W}
local macro_rules | `(tactic| walk_at "zn") => `(tactic| dsimp only [List.set_cons_zero, List.set_cons_succ, zwipe0, zwipeS, zmap_cons, zmap_nil, zcons_app, znil_app, List.replicate_succ, List.replicate_zero, Nat.reduceSub, Int.reduceAdd, Int.reduceSub, Int.reduceNeg, Int.reduceMul, Int.reduceToNat, Int.reducePow, List.length_cons, List.length_nil, Nat.reduceAdd])
local macro_rules | `(tactic| walk_at "z0") => `(tactic| first
  | with_reducible refine nx_seq ?_
  | with_reducible refine nop_i ?_
  | with_reducible refine k_i ?_
  | with_reducible refine seq_i ?_
  | with_reducible refine reti ?_
  | with_reducible refine gl_i ?_
  | with_reducible refine anil_i ?_
  | with_reducible refine tnil_i ?_
  | with_reducible refine rt_seq ?_
  | with_reducible refine nx_turn ?_
  | with_reducible refine rt_turn ?_
  | with_reducible refine fn_rt ?_
  | with_reducible refine bk_seq ?_
  | with_reducible refine ct_seq ?_
  | with_reducible refine bk_turn ?_
  | with_reducible refine ct_turn ?_
  | with_reducible refine fn_nx ?_
  | ((with_reducible refine turn_id ?_); refine turn_ng ?_)
  | ((with_reducible refine ret_id ?_); refine ret_ng ?_)
  | ((with_reducible refine ite_id ?_); first | refine if_t rfl ?_ | refine if_f rfl ?_)
  | (refine opt_id ?_; first
    | (refine opt_asg rfl ?_; walk_at "zn")
    | (refine put_i ?_; walk_at "zn")
    | (refine add_i ?_; walk_at "zn")
    | with_reducible refine opt_eq ?_
    | ((with_reducible refine opt_pow ⟨by omega, by omega, by omega⟩ ?_); walk_at "zn")
    | with_reducible refine opt_ne ?_
    | with_reducible refine opt_slTo (by omega) ?_
    | with_reducible refine opt_slFrom (by omega) ?_
    | with_reducible refine opt_lslTo (by omega) ?_
    | refine opt_i rfl ?_
    | refine opt_mul (mulOk64 ⟨by omega, by omega⟩ ⟨by omega, by omega⟩) ?_
    | refine opt_mod (by omega) ?_
    | refine opt_shr (by omega) ?_
    | refine opt_fdiv (by constructor <;> first | decide | omega) ?_
    | refine opt_rng (by unfold rngOk; omega) ?_)
  | refine And.intro (Nat.le_of_ble_eq_true rfl) ?_
  | refine And.intro (by decide) ?_
  | refine And.intro (small (by first | omega | (dsimp only; omega))) ?_)
local macro_rules | `(tactic| walk_at "z1") => `(tactic| first
  | walk_at "z0"
  | ((with_reducible refine forL_id ?_); first | refine forL_cons ?_ | refine forL_nil ?_)
  | ((with_reducible refine lcL_id ?_); first | refine lcL_cons ?_ | refine lcL_nil ?_))
local macro_rules | `(tactic| walk_at "zs") => `(tactic| ((repeat walk_at "z0"); try (first | with_reducible refine forL_id ?_ | with_reducible refine lcL_id ?_)))
local macro_rules | `(tactic| walk_at "zf") => `(tactic| (refine fn_i rfl rfl rfl ?_; walk_at "zn"))
local macro_rules | `(tactic| walk_at "zi") => `(tactic| ((with_reducible refine ite_id ?_); first | refine if_d ?_ ?_ | refine if_n ?_ ?_))
local macro_rules | `(tactic| walk_at "zz") => `(tactic| (repeat walk_at "z1"; try ((walk_at "zi"; (all_goals intro _); (all_goals try (exfalso; omega)); (all_goals walk_at "zz")))))
local macro_rules | `(tactic| walk_at "z") => `(tactic| ((repeat walk_at "z1"); try (first | with_reducible refine forL_id ?_ | with_reducible refine ret_id ?_ | with_reducible refine turn_id ?_ | with_reducible refine lcL_id ?_ | with_reducible refine ite_id ?_ | refine call_id ?_ | with_reducible refine opt_id ?_)))
local macro_rules | `(tactic| walk_at "zh") => `(tactic| first | rfl | assumption | omega | decide)
theorem sl_to_S {cs : List Nat} {j : Int} {R : W → Prop} (h : 0 ≤ j) (q : R (.str (S (cs.take j.toNat)))) : opt (slW (.str (S cs)) .non (.int j)) R := by
  refine ⟨_, ?_, q⟩
  show (cutW (S cs).cps.toList .non (.int j)).map (fun l => W.str ⟨l.toArray⟩) = _
  rw [cut_to h, S_list, ← List.map_take]; rfl
theorem sl_from_S {cs : List Nat} {j : Int} {R : W → Prop} (h : 0 ≤ j) (q : R (.str (S (cs.drop j.toNat)))) : opt (slW (.str (S cs)) (.int j) .non) R := by
  refine ⟨_, ?_, q⟩
  show (cutW (S cs).cps.toList (.int j) .non).map (fun l => W.str ⟨l.toArray⟩) = _
  rw [cut_from h, S_list, ← List.map_drop]; rfl
local macro_rules | `(tactic| walk_at "z0") => `(tactic| ((with_reducible refine opt_id ?_); first | with_reducible refine sl_to_S (by omega) ?_ | with_reducible refine sl_from_S (by omega) ?_))
theorem w_changed {n : Nat} {x : Gv} (hx : GOk x) (ht : Tape n t) (hn : n < 100000) (k : ∀ (x : Gv) t', GOk x → Tape (n + 1000) t' → Q x.v [t']) : wpC (codeT Ds) (d + 5) f_law_prod_changed [.ob 0, x.v] [t] Q := by
  obtain ⟨a, b, q, ls, by_, s, w⟩ := x
  obtain ⟨ha, hb, hl, hs, hz⟩ := hx
  dsimp only at *
  unfold Gv.v
  dsimp only
  walk_at "zf"
  walk_at "zs"
  refine p_draw ht ?_ ?_ fun v1 t1 v1l v1r ht1 => ?_
  iterate 2 walk_at "zh"
  walk_at "zs"
  have cut : ∀ p : Pd, PV p → (p.map pz).take (48 : Int).toNat = p.map pz := fun p hp => List.take_of_length_le (by rw [List.length_map]; exact hp.l)
  refine if_d (fun h => ?_) (fun h => ?_)
  · walk_at "zs"
    refine w_other ha ht1 (by omega) fun p t2 hp ht2 => ?_
    unfold pW
    walk_at "zs"
    rw [cut p hp]
    exact k ⟨p, b, q, ls, by_, s, w⟩ t2 ⟨hp, hb, hl, hs, hz⟩ (ht2.mono (by omega))
  walk_at "zs"
  refine if_d (fun h => ?_) (fun h => ?_)
  · walk_at "zs"
    refine w_other hb ht1 (by omega) fun p t2 hp ht2 => ?_
    unfold pW
    walk_at "zs"
    rw [cut p hp]
    exact k ⟨a, p, q, ls, by_, s, w⟩ t2 ⟨ha, hp, hl, hs, hz⟩ (ht2.mono (by omega))
  walk_at "zs"
  refine if_d (fun h => ?_) (fun h => ?_)
  · walk_at "zs"
    exact k ⟨b, a, q, ls, by_, s, w⟩ t1 ⟨hb, ha, hl, hs, hz⟩ (ht1.mono (by omega))
  walk_at "zs"
  refine if_d (fun h => ?_) (fun h => ?_)
  · walk_at "zs"
    rw [S_len]
    refine p_draw ht1 ?_ ?_ fun v2 t2 v2l v2r ht2 => ?_
    · omega
    · omega
    walk_at "zs"
    rw [show ("IXYZ" : Str) = S [0, 2, 3, 1] by decide +kernel]
    refine p_let (rest := []) ht2 (by omega) (by simp) (by simp) fun c t3 hc ht3 => ?_
    walk_at "zs"
    refine opt_catS (a := s.take v2.toNat) (b := [c]) (by rw [List.length_take]; dsimp only [List.length_cons, List.length_nil]; omega) ?_
    walk_at "zs"
    have e0 := Option.some.inj (show some (List.take ((S s).cps.toList.length - HT.sIx (S s).cps.toList.length 0 (some (v2 + 1))) (List.drop (HT.sIx (S s).cps.toList.length 0 (some (v2 + 1))) (S s).cps.toList)) = some _ from cut_from (by omega))
    dsimp only
    rw [e0, S_list, ← List.map_drop]
    refine opt_catS (a := s.take v2.toNat ++ [c]) (b := s.drop (v2 + 1).toNat) (by rw [List.length_append, List.length_take, List.length_drop, List.length_singleton]; omega) ?_
    walk_at "zs"
    refine k ⟨a, b, q, ls, by_, s.take v2.toNat ++ [c] ++ s.drop (v2 + 1).toNat, w⟩ t3 ⟨ha, hb, hl, fun y hy => ?_, ?_⟩ (ht3.mono (by omega))
    · rcases List.mem_append.mp hy with hy | hy
      · rcases List.mem_append.mp hy with hy | hy
        · exact hs y (List.mem_of_mem_take hy)
        · rw [List.mem_singleton.mp hy]
          simp only [List.mem_cons, List.not_mem_nil, or_false] at hc
          omega
      · exact hs y (List.mem_of_mem_drop hy)
    · dsimp only
      rw [List.length_append, List.length_append, List.length_take, List.length_drop, List.length_singleton]
      omega
  · walk_at "zs"
    refine p_draw ht1 ?_ ?_ fun v2 t2 v2l v2r ht2 => ?_
    · omega
    · decide
    walk_at "zs"
    rw [← List.map_drop]
    exact k ⟨a, b, v2, ls.drop 1, (by_ + 1) % 100, s, w + 1⟩ t2 ⟨ha, hb, by dsimp only; rw [List.length_drop]; omega, hs, hz⟩ (ht2.mono (by omega))
end
end Z.K02
namespace Z.K02
open PySem PySem.Spec L2
open PyProof.Rows hiding St
section
variable {d : Nat} {g : CH} {Q : WK} {t : W}
local macro_rules | `(tactic| walk_at "zn") => `(tactic| dsimp only [List.set_cons_zero, List.set_cons_succ, zwipe0, zwipeS, zmap_cons, zmap_nil, zcons_app, znil_app, List.replicate_succ, List.replicate_zero, Nat.reduceSub, Int.reduceAdd, Int.reduceSub, Int.reduceNeg, Int.reduceMul, Int.reduceToNat, Int.reducePow, List.length_cons, List.length_nil, Nat.reduceAdd])
local macro_rules | `(tactic| walk_at "z0") => `(tactic| first
  | with_reducible refine nx_seq ?_
  | with_reducible refine nop_i ?_
  | with_reducible refine k_i ?_
  | with_reducible refine seq_i ?_
  | with_reducible refine reti ?_
  | with_reducible refine gl_i ?_
  | with_reducible refine anil_i ?_
  | with_reducible refine tnil_i ?_
  | with_reducible refine rt_seq ?_
  | with_reducible refine nx_turn ?_
  | with_reducible refine rt_turn ?_
  | with_reducible refine fn_rt ?_
  | with_reducible refine bk_seq ?_
  | with_reducible refine ct_seq ?_
  | with_reducible refine bk_turn ?_
  | with_reducible refine ct_turn ?_
  | with_reducible refine fn_nx ?_
  | ((with_reducible refine turn_id ?_); refine turn_ng ?_)
  | ((with_reducible refine ret_id ?_); refine ret_ng ?_)
  | ((with_reducible refine ite_id ?_); first | refine if_t rfl ?_ | refine if_f rfl ?_)
  | (refine opt_id ?_; first
    | (refine opt_asg rfl ?_; walk_at "zn")
    | (refine put_i ?_; walk_at "zn")
    | (refine add_i ?_; walk_at "zn")
    | with_reducible refine opt_eq ?_
    | ((with_reducible refine opt_pow ⟨by omega, by omega, by omega⟩ ?_); walk_at "zn")
    | with_reducible refine opt_ne ?_
    | with_reducible refine opt_slTo (by omega) ?_
    | with_reducible refine opt_slFrom (by omega) ?_
    | with_reducible refine opt_lslTo (by omega) ?_
    | refine opt_i rfl ?_
    | refine opt_mul (mulOk64 ⟨by omega, by omega⟩ ⟨by omega, by omega⟩) ?_
    | refine opt_mod (by omega) ?_
    | refine opt_shr (by omega) ?_
    | refine opt_fdiv (by constructor <;> first | decide | omega) ?_
    | refine opt_rng (by unfold rngOk; omega) ?_)
  | refine And.intro (Nat.le_of_ble_eq_true rfl) ?_
  | refine And.intro (by decide) ?_
  | refine And.intro (small (by first | omega | (dsimp only; omega))) ?_)
local macro_rules | `(tactic| walk_at "z1") => `(tactic| first
  | walk_at "z0"
  | ((with_reducible refine forL_id ?_); first | refine forL_cons ?_ | refine forL_nil ?_)
  | ((with_reducible refine lcL_id ?_); first | refine lcL_cons ?_ | refine lcL_nil ?_))
local macro_rules | `(tactic| walk_at "zs") => `(tactic| ((repeat walk_at "z0"); try (first | with_reducible refine forL_id ?_ | with_reducible refine lcL_id ?_)))
local macro_rules | `(tactic| walk_at "zf") => `(tactic| (refine fn_i rfl rfl rfl ?_; walk_at "zn"))
local macro_rules | `(tactic| walk_at "zi") => `(tactic| ((with_reducible refine ite_id ?_); first | refine if_d ?_ ?_ | refine if_n ?_ ?_))
local macro_rules | `(tactic| walk_at "zz") => `(tactic| (repeat walk_at "z1"; try ((walk_at "zi"; (all_goals intro _); (all_goals try (exfalso; omega)); (all_goals walk_at "zz")))))
local macro_rules | `(tactic| walk_at "z") => `(tactic| ((repeat walk_at "z1"); try (first | with_reducible refine forL_id ?_ | with_reducible refine ret_id ?_ | with_reducible refine turn_id ?_ | with_reducible refine lcL_id ?_ | with_reducible refine ite_id ?_ | refine call_id ?_ | with_reducible refine opt_id ?_)))
local macro_rules | `(tactic| walk_at "zh") => `(tactic| first | rfl | assumption | omega | decide)
theorem lk_head {p : Pd} {q : Int} : (((p.filter fun z => decide ((z.1 : Int) = q)).map fun z => W.str (L z.2)) ++ [W.str "I"])[0]? = some (.str (L (lk p q))) := by
  induction p with
  | nil =>
    show some (W.str "I") = some (.str (L 0))
    rw [L0]
  | cons z p ih =>
    rw [lk]
    by_cases e : (z.1 : Int) = q
    · rw [List.filter_cons_of_pos (by simpa using e), if_pos e]; rfl
    · rw [List.filter_cons_of_neg (by simpa using e), if_neg e]
      exact ih
/-- what door and things give -/
def told (door : Int) (x : Gv) : W :=
  if door = 0 then .tup [.int (ct x.a x.b 100 % 4), pW (cn x.a x.b 100)]
  else if door = 1 then .tup [.int (ct x.b x.a 100 % 4), pW (cn x.b x.a 100)]
  else if door = 2 then .bl (decide (al x.b x.a % 2 = 0))
  else if door = 3 then .str (L (lk x.a x.q))
  else if door = 4 then .tup (x.a.map fun z => .int z.1)
  else if door = 5 then pW (wout x.a x.ls)
  else if door = 6 then .tup (x.a.map fun z => .tup [.int (z.1 + x.by_), .str (L z.2)])
  else if door = 7 then pW (pof 0 x.s)
  else .str (S ((x.s ++ List.replicate 16 0).take (lng x.s x.w).toNat))
theorem map_plain {α : Type} {n : Nat} {f : α → W} {xs : List α} (hl : xs.length < 1000000) (h : ∀ a ∈ xs, plain n (f a) = true) : plain (n + 1) (.tup (xs.map f)) = true := by
  simp only [plain, Bool.and_eq_true, List.all_eq_true, decide_eq_true_eq]
  refine ⟨by rw [List.length_map]; omega, fun y hy => ?_⟩
  obtain ⟨a, ha, rfl⟩ := List.mem_map.mp hy
  exact h a ha
theorem tup_plain {n : Nat} {xs : List W} (hl : xs.length < 1000000) (h : ∀ y ∈ xs, plain n y = true) : plain (n + 1) (.tup xs) = true := by
  simp only [plain, Bool.and_eq_true, List.all_eq_true, decide_eq_true_eq]
  exact ⟨by omega, h⟩
theorem mem2 {α : Type} {a b : α} {R : α → Prop} (h1 : R a) (h2 : R b) : ∀ p ∈ [a, b], R p := by
  intro p hp
  simp only [List.mem_cons, List.not_mem_nil, or_false] at hp
  rcases hp with rfl | rfl <;> assumption
theorem pW_plain {n : Nat} {p : Pd} (h : p.length < 1000000) : plain (n + 2) (pW p) = true := map_plain h fun z _ => by
  show plain (n + 1) (.tup [.int z.1, .str (L z.2)]) = true
  exact tup_plain (by simp) (mem2 (by cases n <;> rfl) (by cases n <;> rfl))
theorem pof_len : ∀ (cs : List Nat) (i : Nat), (pof i cs).length ≤ cs.length
  | [], _ => Nat.le_refl _
  | c :: cs, i => by
    have := pof_len cs (i + 1)
    unfold pof
    split
    · rw [List.length_cons]; omega
    · rw [List.length_cons, List.length_cons]; omega
theorem told_plain {door : Int} {x : Gv} (hx : GOk x) : plain 3 (told door x) = true := by
  have hal := hx.a.l
  have t2 : ∀ {i : Int} {p : Pd}, p.length < 1000000 → plain 3 (.tup [.int i, pW p]) = true := fun {i p} h => by
    exact tup_plain (n := 2) (by simp) (mem2 rfl (pW_plain (n := 0) h))
  unfold told
  split
  · exact t2 (by have := cn_len x.a x.b 100; omega)
  split
  · exact t2 (by have := cn_len x.b x.a 100; omega)
  split
  · rfl
  split
  · rfl
  split
  · exact map_plain (n := 2) (by omega) fun _ _ => rfl
  split
  · exact pW_plain (n := 1) (by have : (wout x.a x.ls).length ≤ x.a.length := List.length_filter_le _ _; omega)
  split
  · exact map_plain (n := 2) (by omega) fun z _ => tup_plain (n := 1) (by simp) (mem2 rfl rfl)
  split
  · exact pW_plain (n := 1) (by have := pof_len x.s 0; have := hx.z; omega)
  · rfl
theorem rep16 : repN ("I" : Str) 16 = S (List.replicate 16 0) := by decide +kernel
theorem opt_rep16 {R : W → Prop} (q : R (.str (S (List.replicate 16 0)))) : opt (bop .mul (.str "I") (.int 16)) R := by
  refine ⟨_, ?_, q⟩
  show (if 0 ≤ (16 : Int) ∧ (16 : Int) ≤ 1000 ∧ ("I" : Str).length ≤ 1000 then some (W.str (repN "I" (16 : Int).toNat)) else none) = _
  rw [if_pos ⟨by decide, by decide, by decide +kernel⟩]
  show some (W.str (repN "I" 16)) = _
  rw [rep16]
local macro_rules | `(tactic| walk_at "z0") => `(tactic| ((refine opt_id ?_); first | with_reducible refine opt_rep16 ?_ | with_reducible refine opt_catS (by rw [List.length_replicate]; omega) ?_ | with_reducible refine sl_to_S (by omega) ?_ | with_reducible refine sl_from_S (by omega) ?_))
theorem w_due {x : Gv} {door : Int} (hx : GOk x) (hd : 0 ≤ door ∧ door < 9) (k : Q (told door x) g) : wpC (codeT Ds) (d + 10) f_law_prod_due [.int door, x.v] g Q := by
  obtain ⟨a, b, q, ls, by_, s, w⟩ := x
  obtain ⟨ha, hb, hl, hs, hz⟩ := hx
  dsimp only at *
  have hl48 := ha.l
  have hb48 := hb.l
  have h16 := lng_in (w := w) hz.2
  have h1s := (lsti_ge (cs := s)).1
  unfold Gv.v
  dsimp only
  walk_at "zf"
  obtain rfl | rfl | rfl | rfl | rfl | rfl | rfl | rfl | rfl : door = 0 ∨ door = 1 ∨ door = 2 ∨ door = 3 ∨ door = 4 ∨ door = 5 ∨ door = 6 ∨ door = 7 ∨ door = 8 := by omega
  · walk_at "zs"
    refine w_ltimes ha.i.s hb.i.s ha.i.l hb.i.l (by omega) (by omega) ?_
    walk_at "zs"
    exact k
  · walk_at "zs"
    refine w_ltimes hb.i.s ha.i.s hb.i.l ha.i.l (by omega) (by omega) ?_
    walk_at "zs"
    exact k
  · walk_at "zs"
    refine w_alike hb.i.s ha.i.l hb.i.l (by omega) ?_
    walk_at "zs"
    exact k
  · walk_at "zs"
    unfold pW
    walk_at "zs"
    refine lc_fmO (as := a) (wi := pz) (fun z => decide ((z.1 : Int) = q)) (fun z => W.str (L z.2)) trivial (fun z hz acc kk h1 h2 => ?_) ?_
    · rw [show pz z = .tup [.int z.1, .str (L z.2)] from rfl]
      walk_at "zs"
      refine if_d (fun h => ?_) (fun h => ?_)
      · walk_at "zs"
        exact h1 (decide_eq_true h)
      · exact h2 (decide_eq_false h)
    walk_at "zs"
    have hf : (a.filter fun z => decide ((z.1 : Int) = q)).length ≤ a.length := List.length_filter_le _ _
    rw [List.length_map]
    refine ⟨Nat.le_of_lt (small (by dsimp only [List.length_cons, List.length_nil]; omega)), ?_⟩
    refine opt_ixl (Int.le_refl _) lk_head ?_
    walk_at "zs"
    exact k
  · walk_at "zs"
    unfold pW
    walk_at "zs"
    refine lc_mapO (as := a) (wi := pz) (fun z => W.int z.1) trivial (fun z hz kk h1 => ?_) ?_
    · rw [show pz z = .tup [.int z.1, .str (L z.2)] from rfl]
      walk_at "zs"
      exact h1
    walk_at "zs"
    exact k
  · walk_at "zs"
    unfold pW
    walk_at "zs"
    refine lc_fmO (as := a) (wi := pz) (fun z => !decide ((z.1 : Int) ∈ ls)) pz trivial (fun z hz acc kk h1 h2 => ?_) ?_
    · rw [show pz z = .tup [.int z.1, .str (L z.2)] from rfl] at *
      walk_at "zs"
      refine notin_i (.inl rfl) ?_
      refine if_b (fun h => ?_) (fun h => ?_)
      · walk_at "zs"
        exact h1 h
      · exact h2 h
    walk_at "zs"
    exact k
  · walk_at "zs"
    unfold pW
    walk_at "zs"
    refine lc_mapO (as := a) (wi := pz) (fun z => W.tup [.int (z.1 + by_), .str (L z.2)]) trivial (fun z hz kk h1 => ?_) ?_
    · rw [show pz z = .tup [.int z.1, .str (L z.2)] from rfl]
      walk_at "zs"
      exact h1
    walk_at "zs"
    exact k
  · walk_at "zs"
    refine w_lprodof hs (by omega) ?_
    walk_at "zs"
    exact k
  · walk_at "zs"
    refine w_length hs hz.2 ?_
    walk_at "zs"
    exact k
theorem w_ask {x : Gv} {door : Int} (hx : GOk x) (hd : 0 ≤ door ∧ door < 9) (k : Q (told door x) g) : wpC (codeT Ds) (d + 10) f_law_prod_asked [.int door, x.v] g Q := by
  obtain ⟨a, b, q, ls, by_, s, w⟩ := x
  obtain ⟨ha, hb, hl, hs, hz⟩ := hx
  dsimp only at *
  have hl48 := ha.l
  have hb48 := hb.l
  have h16 := lng_in (w := w) hz.2
  obtain ⟨h1s, h2s⟩ := lsti_ge (cs := s)
  unfold Gv.v
  dsimp only
  walk_at "zf"
  obtain rfl | rfl | rfl | rfl | rfl | rfl | rfl | rfl | rfl : door = 0 ∨ door = 1 ∨ door = 2 ∨ door = 3 ∨ door = 4 ∨ door = 5 ∨ door = 6 ∨ door = 7 ∨ door = 8 := by omega
  · walk_at "zs"
    refine w_times ha.i.l hb.i.l (by omega) (by omega) ?_
    obtain ⟨e1, e2⟩ := times_ok ha.i hb.i
    rw [e1, e2]
    walk_at "zs"
    exact k
  · walk_at "zs"
    refine w_times hb.i.l ha.i.l (by omega) (by omega) ?_
    obtain ⟨e1, e2⟩ := times_ok hb.i ha.i
    rw [e1, e2]
    walk_at "zs"
    exact k
  · walk_at "zs"
    refine w_commute ha.i.s ha.i.l hb.i.l ?_
    rw [comm_ok ha.i hb.i]
    walk_at "zs"
    exact k
  · walk_at "zs"
    refine w_letter ?_
    walk_at "zs"
    exact k
  · walk_at "zs"
    refine w_qubits ?_
    walk_at "zs"
    exact k
  · walk_at "zs"
    refine w_without ?_
    walk_at "zs"
    exact k
  · walk_at "zs"
    refine w_shifted ?_
    walk_at "zs"
    exact k
  · walk_at "zs"
    refine w_prodof hs ?_
    walk_at "zs"
    exact k
  · walk_at "zs"
    refine w_lprodof hs (by omega) ?_
    walk_at "zs"
    refine w_length hs hz.2 ?_
    obtain ⟨m, hm⟩ : ∃ m : Nat, lng s w = m := ⟨(lng s w).toNat, by omega⟩
    rw [hm]
    walk_at "zs"
    refine w_stringof (fun z hz => by have := h2s z hz; omega) (by omega) ?_
    rw [setl_pof (by omega)]
    walk_at "zs"
    change Q (.str (S ((s ++ List.replicate 16 0).take (lng s w).toNat))) g at k
    rw [hm, Int.toNat_natCast] at k
    exact k
def depth : Nat := 30
theorem law_true (ns : List Int) (h : ns.length ≤ 63) : wpF (codeT Ds) depth flaw [.lck (ns.map .int)] [] (fun v _ => v = .bl true) := by
  unfold depth
  rw [← shut_eq (F := wpF (codeT Ds) 30)]
  walk_at "zf"
  walk_at "zs"
  refine p_tape fun t0 h0 => ?_
  walk_at "zs"
  refine w_given h0 (by omega) fun x t1 hx h1 => ?_
  walk_at "zs"
  refine w_changed hx h1 (by omega) fun y t2 hy h2 => ?_
  walk_at "zs"
  refine for_inv (fun i e g' => ∃ (t' : W) (z u : Option W), g' = [t'] ∧ Tape (3000 + 20 * i) t' ∧ e = [some (.lck (ns.map .int)), some (.ob 0), some x.v, some y.v, z, u]) ?_ ?_ ⟨t2, none, none, rfl, h2.mono (by omega), rfl⟩
  · rintro i w k' hw hk _ _ ⟨t', z, u, rfl, ht', rfl⟩
    obtain ⟨v, rfl, hv⟩ : ∃ v : Gv, w = v.v ∧ GOk v := by
      have hm := List.mem_of_getElem? hw
      simp only [List.mem_cons, List.not_mem_nil, or_false] at hm
      rcases hm with rfl | rfl | rfl
      · exact ⟨x, rfl, hx⟩
      · exact ⟨y, rfl, hy⟩
      · exact ⟨x, rfl, hx⟩
    have hi : i < 3 := (List.getElem?_eq_some_iff.mp hw).1
    refine ⟨trivial, ?_⟩
    walk_at "zs"
    refine p_turnsZ (m := 9) rfl ht' (by omega) (by omega) (by omega) fun vs t3 hvs _ h3 => ?_
    walk_at "zs"
    refine for_each ?_ (fun w hw k2 hk2 => ?_) (fun y2 => ?_)
    · exact Nat.le_of_ble_eq_true rfl
    · obtain ⟨dr_, hdr, rfl⟩ := List.mem_map.mp hw
      have hd := hvs dr_ hdr
      walk_at "zn"
      walk_at "zs"
      refine w_ask (d := 19) hv ⟨hd.1, by omega⟩ ?_
      walk_at "zs"
      refine w_due (d := 19) hv ⟨hd.1, by omega⟩ ?_
      walk_at "zs"
      refine p_same (d := 25) 3 (told_plain hv) ?_
      walk_at "zs"
      exact hk2
    walk_at "zn"
    walk_at "zs"
    exact hk _ _ ⟨t3, _, _, rfl, h3.mono (by omega), rfl⟩
  · rintro _ _ ⟨t', z, u, rfl, ht', rfl⟩
    refine ⟨trivial, ?_⟩
    walk_at "zs"
    exact ret_gc0 (g := []) rfl rfl
end
end Z.K02
open PySem PySem.W PySem.Calls PyProof.Rows
theorem PySem.Challenge.cw_ftqc_k02_products_and_strings_holds : PySem.Challenge.rw_ftqc_k02_products_and_strings.Holds := by
  w_on; o_law
  refine HandSHeadRun.head_any (r := OpenLaw.row PySem.Challenge.rw_ftqc_k02_products_and_strings) (q := view (OpenLaw.row PySem.Challenge.rw_ftqc_k02_products_and_strings).prog [27]) (H := Z.K02.hk) (ob := Z.K02.ob) (M := 4000) (loose := Z.K02.loose) (d := HandSHeadRun.topDef (OpenLaw.row PySem.Challenge.rw_ftqc_k02_products_and_strings).prog 27) (kwd := []) Z.K02.ob_eq
    (by kernel_rfl) (fun s => by kernel_rfl) Z.K02.headRun (by kernel_rfl) (by kernel_rfl) (by kernel_rfl) (by rfl) (by first | assumption | decide +kernel) (by decide +kernel) ⟨rfl, rfl, rfl, rfl, rfl, by decide +kernel⟩ ?hw ?hc
  case hw => w_witness2
  case hc => exact Z.walk_Z (l := PySem.Challenge.rw_ftqc_k02_products_and_strings) (n := 63) (k := Z.K02.depth) (x := "script") (iL := Z.K02.flaw) (dl := Z.K02.dlaw) rfl (by decide) (by kernel_rfl) ⟨rfl, by decide, by decide⟩ Z.K02.dsOk rfl (by kernel_rfl) (by kernel_rfl) Z.K02.law_true
