import PyProof.Rows.All
import Wide.All
import OpenK.AllK
import Wide.FinOn
import HandS.SortInts
import HandS.SetFor
import HandS.Strs
import HandS.ForMost
import HandS.Conv
import KE.KeyNested
import HandS.Rev
import HandS.Exc
import HandS.ExcOwn
import HandS.ExcIs
import HandS.WordsExc
import HandS.TryMany
import KE.KTryMore
import HandS.TryOnly
import HandS.IsInst
import HandS.Style
import HandS.TupAny
import HandS.Deep
import HandS.RevRange
import HandS.Zip
import HandS.Small
import HandS.More
import KE.GoesMore
import KE.GoesEnum
import HandS.Head0
import HandS.Head1
import HandS.Head2
import HandS.HeadEnd
import HandS.HeadHook1
import HandS.HeadHook2
import HandS.HeadHook3
import HandS.HeadHook4
import HandS.Defaults
import PySem.Challenge.RW_gatekin_k18_circuits_of_trees
set_option Elab.async false
set_option linter.all false
set_option maxRecDepth 100000
set_option maxHeartbeats 0
/-! sorted of sets and dicts of any size, set(xs) of a list -/
namespace GK
open PySem PySem.Spec PyProof.Rows L2
section
variable {P : Program} {w : World} {A : Around} {E : Value → Shared → Prop} {s : Shared}
/-- sorted(x) of what is gathered into whole numbers, any number of them -/
theorem sorted_of {a : Addr} {C : List Value → Shared → Prop} {Q : Value → Shared → Prop} (hc : wpAny (model P w) A.in1 (collect (.ref a)) C E s)
    (h : ∀ vs s1, C vs s1 → ∃ ks : List Int, IntsAre vs ks ∧ vs.length ≤ sizeLine ∧ ∀ (h' : Heap) (out : List Value) (c : Nat), IntsAre out (out.map SrtO.iv) → (out.map SrtO.iv).Perm ks → (out.map SrtO.iv).Pairwise (· ≤ ·) →
      (∀ b u, s1.heap.get? b = some u → h'.get? b = some u) → h'.get? s1.heap.objs.size = some (seqObj "list" out.toArray c) → Q (.ref s1.heap.objs.size) { s1 with heap := h' }) :
    wpAny (model P w) A (call (.builtin "sorted") [.ref a]) Q E s := by
  refine Calls.call_function_entry kind_sorted plain_sorted entry_sorted (args_sorted1 _) ?_; unfold Builtin.«sorted»
  refine wpAny_bind (m := checkCount "sorted" 1 1 _) (wpAny_pure (wpAny_bind (wpAny_mono hc (fun vs s1 hC => ?_) fun _ _ e => e)))
  obtain ⟨ks, hI, hz, k⟩ := h vs s1 hC
  refine wpAny_bind (wpAny_newList ?_ hz)
  have ho : (s1.heap.push (seqObj "list" vs.toArray 0)).get? s1.heap.objs.size = some (seqObj "list" vs.toArray 0) := Heap.get?_push_size _ rfl
  refine wpAny_bind (wpAny_holding (wpAny_call_entry slot_list_sort ⟨_, ho, rfl⟩ entry_list_sort (SrtO.list_sort_ord SrtO.swo_int ho hz (fun _ => SrtO.ints_sortable hI (by assumption)) fun out g1 g2 => ⟨_, rfl, ?_⟩) (args_list_sort _)))
  obtain ⟨k1, k2, k3⟩ := SrtO.ints_out hI g1 g2
  obtain ⟨c, hcc⟩ := sortedHeap_at (vs := vs) (out := out.toArray) ho
  refine wpAny_pure ⟨_, rfl, k _ out c k1 k2 k3 (fun b u e => ?_) hcc⟩
  have lt := Heap.lt_size e
  rw [sortedHeap_old (Nat.ne_of_lt lt) (by rw [size_push']; exact Nat.lt_succ_of_lt lt)]
  exact Heap.get?_push_of_some _ e
/-- a new empty set -/
def eSet (w : World) : Obj := { cls := .type "set", dict := none, data := .set #[] 0 (.fresh 0 0 (!w.params.followText "set-order")) }
end
/-- sorted(x), x a set of whole numbers -/
def rSortS (w : World) : List V → Hp → VK → Prop := fun vs H Q => ∃ (a : Addr) (S : Int → Bool) (n : Nat), vs = [V.ref a] ∧ H a = some (SetO w a S n) ∧
  ∀ (ys : List Int) (p : Addr), ys.Pairwise (· ≤ ·) → ys.Nodup → (∀ k : Int, k ∈ ys ↔ S k = true) → H p = none → Q (.ref p) (upd H p (.lst (ys.map V.int)))
/-- sorted(d), d a dict with whole numbers as keys -/
def rSortD : List V → Hp → VK → Prop := fun xs H Q => ∃ (a : Addr) (kvs : List (Key × V)) (ks : List Int), xs = [.ref a] ∧ Rd H a (.dK kvs) ∧ kvs.map (·.1) = ks.map Sum.inl ∧
  ∀ (ys : List Int) (p : Addr), ys.Perm ks → ys.Pairwise (· ≤ ·) → H p = none → Q (.ref p) (upd H p (.lst (ys.map V.int)))
section
variable {X : Cx}
theorem cr_sortS (hc : X.calm = true) : CallR X (.builtin "sorted") (rSortS X.w) := by
  intro pins st σ H vs us Q I r h
  obtain ⟨a, S, n, rfl, ha, q⟩ := h
  obtain ⟨o, es, ep, t, ho, hex, hd, g, nd, hm, hb, hf, hn, hr, hl⟩ := setO_get I ha
  rw [Vals.ref1 r]
  refine sorted_of (collect_set (A := X.A.in1) (I.ok.hd hc) ⟨o, ho, hex.1, hd⟩ hf hb hr hl fun s1 vs k1 hz g1 o1 pm => (show _ ∧ _ ∧ _ ∧ _ ∧ _ from ⟨k1, hz, g1, o1, pm⟩)) fun vs s1 ⟨k1, hz, g1, o1, pm⟩ => ?_
  have hint : IntsAre vs (vs.map Builtin.Re.reRawOf) := ints_of vs fun v hv => by
    obtain ⟨e, he, q2⟩ := List.mem_map.mp (pm.mem_iff.mp hv)
    obtain ⟨k, tk, hk1, _⟩ := g e he
    exact ⟨k, tk, q2 ▸ hk1⟩
  have pkey : (vs.map Builtin.Re.reRawOf).Perm (es.toList.map keyOf) := by
    have z := pm.map Builtin.Re.reRawOf
    rwa [List.map_map] at z
  have hvl : vs.length ≤ sizeLine := by
    rw [pm.length_eq, List.length_map, Array.length_toList]
    exact fits_of_scanBound hb
  refine ⟨_, hint, hvl, fun h' out c e1 e2 e3 k2 hg => ?_⟩
  have pn := e2.trans pkey
  have hp : H s1.heap.objs.size = none := I.hok.fresh hz
  have keep : ∀ b u, st.heap.get? b = some u → h'.get? b = some u := fun b u e => k2 b u (k1 b u e)
  have hfit : ((out.map SrtO.iv).map V.int).length ≤ sizeLine := by
    rw [List.length_map, e2.length_eq, List.length_map]
    exact hvl
  exact ⟨.ref s1.heap.objs.size, upd H s1.heap.objs.size (.lst ((out.map SrtO.iv).map V.int)), I.call' (ch := []) (s' := { s1 with heap := h' }) o1 (Un.laid keep hz hp) (I.hok.laid keep hz ⟨hfit, out, c, vals_of_ints e1, hg⟩) (by rw [show ({ s1 with heap := h' } : Shared).gens = st.gens from g1]; exact I.bare) (fun _ z => nomatch z), rfl,
    q _ _ e3 (pn.nodup_iff.mpr nd) (fun k => by rw [pn.mem_iff, ← hm k]) hp⟩
theorem cr_sortD (hc : X.calm = true) : CallR X (.builtin "sorted") rSortD := by
  intro pins st σ H xs us Q I r h
  obtain ⟨a, kvs, ks, rfl, hd, hks, q⟩ := h
  rw [Vals.ref1 r]
  obtain ⟨hz, lo, vs, rel, dd⟩ := dk_rd I.hok hd
  obtain ⟨ep, hat⟩ := dd.dictAt
  have hkk : vs.map (·.1) = ks.map Sum.inl := rel.keys.symm.trans hks
  have hvk : vs.length = ks.length := by
    have e := congrArg List.length hkk
    rwa [List.length_map, List.length_map] at e
  have h16 : vs.length ≤ sizeLine := by rw [← rel.length]; exact hz
  refine sorted_of (PySem.W.kdu_collect (A := X.A.in1) (PySem.W.kdl_dict (knd := mixKind X.prog X.w) (kvs := vs) (ep := ep) lo) (I.ok.hd hc) hat h16 (R := fun l s1 => ∃ h1 t1, s1 = { st with heap := h1, toks := t1 } ∧ (∀ b u, st.heap.get? b = some u → h1.get? b = some u) ∧ IntsAre l ks) fun h1 tk acc k1 hacc => ⟨h1, tk, rfl, k1, ?_⟩) fun l s1 hx => ?_
  · refine ints_each (by rw [Array.length_toList, hacc.1, hvk]) fun j v e => ?_
    obtain ⟨k, y, e1, e2⟩ := hacc.2 j v (by rw [← Array.getElem?_toList]; exact e)
    have e33 : (vs.map (·.1))[j]? = some k := by rw [List.getElem?_map, e1]; rfl
    rw [hkk, List.getElem?_map] at e33
    obtain ⟨x, e4, rfl⟩ := Option.map_eq_some_iff.mp e33
    rcases keyIs_shape (show keyIs (Sum.inl x) v = true from e2) with ⟨i, t, ek, ev⟩ | ⟨z, t, ek, ev⟩
    · cases ek
      exact ⟨x, t, e4, ev⟩
    · cases ek
  · obtain ⟨h1, t1, rfl, k1, hI⟩ := hx
    have hll : l.length ≤ sizeLine := by
      rw [IntsAre.length hI, ← hvk]
      exact h16
    refine ⟨ks, hI, hll, fun h' out c e1 e2 e3 k2 hg => ?_⟩
    have I1 : Inv X pins σ H { st with heap := h1, toks := t1 } := I.kept k1
    have hfit : ((out.map SrtO.iv).map V.int).length ≤ sizeLine := by
      rw [List.length_map, e2.length_eq, ← IntsAre.length hI]
      exact hll
    exact ⟨.ref h1.objs.size, upd H h1.objs.size (.lst ((out.map SrtO.iv).map V.int)), I1.laid (t' := t1) k2 (Nat.le_refl _) ⟨hfit, out, c, vals_of_ints e1, hg⟩, rfl, q _ _ e2 e3 (I1.hok.fresh (Nat.le_refl _))⟩
end
/-! ### set(xs) -/
section
variable {P : Program} {w : World} {A : Around} {E : Value → Shared → Prop} {s : Shared}
/-- set(xs), xs a list of whole numbers -/
theorem set_ofList {l : Addr} {its : Array Value} {ns : List Int} {Q : Value → Shared → Prop} (hh : A.handled = none) (hl : s.heap.IsList l its) (hi : IntsAre its.toList ns) (hb : ns.length + 1 < scanBound)
    (h : ∀ (h' : Heap) (tk c : Nat), SetR w h' s.heap.objs.size (fun j => decide (j ∈ ns)) c → c ≤ ns.length → (∀ b o, s.heap.get? b = some o → h'.get? b = some o) → Q (.ref s.heap.objs.size) { s with heap := h', toks := tk }) :
    wpAny (model P w) A (call (.type "set") [.ref l]) Q E s := by
  have hsz : its.size = ns.length := by rw [← IntsAre.length hi, Array.length_toList]
  obtain ⟨N, hN⟩ : ∃ N, N = s.heap.push (eSet w) := ⟨_, rfl⟩
  have hS : N.get? s.heap.objs.size = some (eSet w) := by rw [hN]; exact Heap.get?_push_size _ rfl
  have kN : ∀ b o, s.heap.get? b = some o → N.get? b = some o := fun b o e => by rw [hN]; exact Heap.get?_push_of_some _ e
  obtain ⟨c, tl, hmro⟩ := F.called_set.mro; have hmade := F.called_set.made; have hsub := F.called_set.sub; have h1 := F.called_set.notType; have h2 := F.called_set.canCreate; have hct := F.typeCall_set_1 (.ref l)
  refine wpAny_call (codeAny_of_tree (show wpAny _ _ (callAny (.type "set") _) _ _ _ from wpAny_pure ⟨Code.quiet_builtin _ (by decide +kernel), codeAny_builtin F.entry_type_call ?_⟩))
  rw [Around.under_plain (weight_type_call_type "set" [.ref l] []) rfl]; repeat (any_goals (first | assumption | wp_step))
  refine codeAny_mono (code_set_led1 (.ref l) (E := E) (Q₁ := fun v s1 => v = .ref s.heap.objs.size ∧ s1 = { s with heap := N }) ⟨rfl, by rw [hN]; rfl⟩) fun r s1 hr => ?_
  match r, hr with
  | .error e, hr => exact hr
  | .ok (.ret v), hr =>
    obtain ⟨rfl, rfl⟩ := hr
    have hT : Shared.TypeIs { s with heap := N } (.ref s.heap.objs.size) "set" := ⟨_, hS, rfl⟩
    have hli := F.called_set.init.lookup; have hbi := F.called_set.init.bind (.ref s.heap.objs.size); repeat (any_goals (first | assumption | wp_step))
    refine codeAny_mono (codeAny_call_builtin (R := wants (fun v s2 => v = .none ∧ ∃ h' tk c, s2 = { s with heap := h', toks := tk } ∧ SetR w h' s.heap.objs.size (fun j => decide (j ∈ ns)) c ∧ c ≤ ns.length ∧ ∀ b o, s.heap.get? b = some o → h'.get? b = some o) E)
      F.called_set.init.plain F.entry_set_init (check_set_init_1 hT ?_)) fun r2 s2 hr2 => ?_
    · obtain ⟨ol, hol, hcl, nn, hdl⟩ := hl
      have hol1 := kN l ol hol
      have hli1 : N.IsList l its := ⟨ol, hol1, hcl, nn, hdl⟩
      have hT1 : Shared.TypeIs { s with heap := N } (.ref l) "list" := ⟨ol, hol1, hcl⟩
      have hs1 := F.sub_list_set; have hs2 := F.sub_list_frozenset
      have hnd : (Value.type "list" == Value.type "dict") = false := by decide
      unfold Builtin.«set.__init__» noKeywords Builtin.Frozenset.updateFrom; generalize hPI : pyIter = PI; wp_walk
      subst hPI
      refine wpAny_pyIter_list hli1 (wpAny_bind (wpAny_runValue ?_))
      have hlt : l < s.heap.objs.size := Heap.lt_size hol
      have hNs : N.objs.size = s.heap.objs.size + 1 := by rw [hN, Heap.size_push]
      have hval : ∀ (i : Nat) (v : Value), its[i]? = some v → ∃ k t, ns[i]? = some k ∧ v = .int k t := fun i v hv => by
        have hi2 : i < ns.length := by rw [← hsz]; exact (Array.getElem?_eq_some_iff.mp hv).1
        obtain ⟨t, e⟩ := PyProof.Rows.IntsAre.int_at hi i v (by rw [Array.getElem?_toList]; exact hv)
        exact ⟨ns[i], t, List.getElem?_eq_getElem hi2, by rw [e, List.getD_eq_getElem?_getD, List.getElem?_eq_getElem hi2]; rfl⟩
      have n1 : l ≠ N.objs.size := by rw [hNs]; exact Nat.ne_of_lt (Nat.lt_succ_of_lt hlt)
      have n2 : s.heap.objs.size ∉ [N.objs.size, l] := by
        simp only [List.mem_cons, List.not_mem_nil, or_false, not_or]
        rw [hNs]
        exact ⟨Nat.ne_of_lt (Nat.lt_succ_self _), Nat.ne_of_gt hlt⟩
      have keep : ∀ b o, s.heap.get? b = some o → b ∉ s.heap.objs.size :: [N.objs.size] := fun b o e => by
        have lt := Heap.lt_size e
        simp only [List.mem_cons, List.not_mem_nil, or_false, not_or]
        rw [hNs]
        exact ⟨Nat.ne_of_lt lt, Nat.ne_of_lt (Nat.lt_succ_of_lt lt)⟩
      refine set_update_ints ((Walks.list (by simp [hh]) N.objs.size l n1 its).toS) s.heap.objs.size n2 ns hsz hb hval (its.size - 0) 0 _ (by omega) (Nat.zero_le _) ⟨⟨_, Heap.get?_push_size _ rfl, rfl, rfl⟩, hli1.push _⟩
        ⟨0, Nat.le_refl 0, setR_new_at (Heap.get?_push_of_some _ hS)⟩ fun s' c' hm hc' hS' => ?_
      obtain ⟨h', g2, d2, tk', os2⟩ := s'
      cases hm.gens; cases hm.drawn; cases hm.os
      refine wpAny_pure (show wpAny _ _ (ret Value.none) _ _ _ from wpAny_pure ⟨rfl, h', tk', c', rfl, hS', by rw [← hsz]; exact hc', fun b o e => hm.heap b o (keep b o e) (Heap.get?_push_of_some _ (kN b o e))⟩)
    · match r2, hr2 with
      | .error e, hr2 => exact hr2
      | .ok (.ret v), hr2 =>
        obtain ⟨rfl, h', tk, c', rfl, e1, e2, e3⟩ := hr2
        repeat (any_goals (first | assumption | wp_step))
        exact h _ _ _ e1 e2 e3
      | .ok .next, hr2 => exact hr2.elim
      | .ok .brk, hr2 => exact hr2.elim
      | .ok .cont, hr2 => exact hr2.elim
  | .ok .next, hr => exact hr.elim
  | .ok .brk, hr => exact hr.elim
  | .ok .cont, hr => exact hr.elim
end
/-- set(xs), xs a list or tuple of whole numbers -/
def rSetLT (K : PySem.W.Frag) (w : World) : List V → Hp → VK → Prop := fun vs H Q => ∃ (l : Addr) (ns : List Int), vs = [V.ref l] ∧ (SqL K H l (ns.map V.int) ∨ SqT K H l (ns.map V.int)) ∧ ns.length < 4000 ∧
  ∀ (p : Addr) (c : Nat), H p = none → Q (.ref p) (upd H p (SetO w p (fun j => decide (j ∈ ns)) c))
/-- sorted(set(e)) -/
def tSst (K : PySem.W.Frag) (ta : TE) : TE := fun σ H Q => ta σ H fun x H1 => ∃ (l : Addr) (ns : List Int), x = V.ref l ∧ (SqL K H1 l (ns.map V.int) ∨ SqT K H1 l (ns.map V.int)) ∧ ns.length < 4000 ∧
  ∀ (ys : List Int) (p1 p2 : Addr) (o : HO), ys.Pairwise (· ≤ ·) → ys.Nodup → (∀ k : Int, k ∈ ys ↔ k ∈ ns) → H1 p1 = none → upd H1 p1 o p2 = none → Q (.ref p2) (upd (upd H1 p1 o) p2 (.lst (ys.map V.int)))
section
variable {X : Cx}
theorem cr_setLT (hc : X.calm = true) : CallR X (.type "set") (rSetLT X.K X.w) := by
  intro pins st σ H vs us Q I r h
  obtain ⟨l, ns, rfl, hs, hl, q⟩ := h
  rw [Vals.ref1 r]
  have hb : ns.length + 1 < scanBound := by show ns.length + 1 < 4096; omega
  have fin : ∀ (h' : Heap) (tk c : Nat), SetR X.w h' st.heap.objs.size (fun j => decide (j ∈ ns)) c → c ≤ ns.length → (∀ b o, st.heap.get? b = some o → h'.get? b = some o) → EP X pins σ Q (.ref st.heap.objs.size) { st with heap := h', toks := tk } := fun h' tk c R _ k =>
    ⟨.ref st.heap.objs.size, upd H st.heap.objs.size (SetO X.w st.heap.objs.size (fun j => decide (j ∈ ns)) c), I.laid (t' := tk) k (Nat.le_refl _) (setO_new R), rfl, q _ _ (I.hok.fresh (Nat.le_refl _))⟩
  rcases hs with hs | hs
  · obtain ⟨its, rv, pl, hz⟩ := I.list hs
    exact set_ofList (I.ok.hd hc) pl.isList (by simpa using rv.ints) hb fin
  · obtain ⟨its, rv, pl, hz⟩ := I.tuple hs
    exact call_set_tupI ns (I.ok.hd hc) pl (by simpa using rv.ints) hb fin
/-- a reading, let grow -/
def upT (t : TE) : TE := fun σ H Q => ∃ Q0 : VK, t σ H Q0 ∧ ∀ v H', Q0 v H' → Q v H'
theorem pe_up {e : Expr} {t : TE} (h : PE X e t) : PE X e (upT t) := ⟨fun pins s σ H Q I ⟨Q0, q, k⟩ => wpAny_mono (h.run pins s σ H Q0 I q) (fun u s1 ⟨v, H1, I1, r1, q1⟩ => ⟨v, H1, I1, r1, k _ _ q1⟩) fun _ _ x => x⟩
theorem pe_sst {e : Expr} {ta : TE} {p1 p2 p3 p4 : Pos} (hc : X.calm = true) (hg1 : Gl X "sorted") (hm1 : X.mg "sorted" = none) (hg2 : Gl X "set") (hm2 : X.mg "set" = none) (h : PE X e ta)
    (hs : starEach [e] X.env = (false, eval e X.env) :: starEach [] X.env) : PE X (.Call (.Name "sorted" p1) [.Call (.Name "set" p2) [e] [] p3] [] p4) (tSst X.K ta) := by
  have a : PE X (.Call (.Name "set" p2) [e] [] p3) (tCB (rSetLT X.K X.w) (tCons (upT ta) tNil)) := pe_callTy (cr_setLT hc) hg2 hm2 (by decide +kernel) (pa_cons (pe_up h) pa_nil hs) (by decide +kernel) (by decide +kernel) hs rfl
  have b := pe_callB (pos := p4) (p := p1) (cr_sortS hc) hg1 hm1 (by decide +kernel : bootBuiltins "sorted" = some (.builtin "sorted")) (pa_cons a pa_nil) (by decide +kernel) (by decide +kernel)
  refine ⟨fun pins s σ H Q I q => b.run pins s σ H Q I ⟨_, q, fun v H1 k => ?_⟩⟩
  obtain ⟨l, ns, rfl, hs, hl, k⟩ := k
  exact ⟨l, ns, rfl, hs, hl, fun p c hp => ⟨p, _, _, rfl, upd_same, fun ys p2 h1 h2 h3 h4 => k ys p p2 _ h1 h2 (fun j => (h3 j).trans decide_eq_true_iff) hp h4⟩⟩
/-- len(set(e)) -/
def tLns (K : PySem.W.Frag) (ta : TE) : TE := fun σ H Q => ta σ H fun x H1 => ∃ (l : Addr) (ns : List Int), x = V.ref l ∧ (SqL K H1 l (ns.map V.int) ∨ SqT K H1 l (ns.map V.int)) ∧ ns.length < 4000 ∧
  ∀ ks : List Int, ks.Nodup → (∀ k, k ∈ ks ↔ k ∈ ns) → Q (.int (ks.length : Nat)) H1
theorem pe_lns {a : Expr} {ta : TE} {p p2 q pos : Pos} (hc : X.calm = true) (hg : Gl X "len") (hm : X.mg "len" = none) (hg2 : Gl X "set") (hm2 : X.mg "set" = none) (ha : PE X a ta)
    (na : starEach [a] X.env = (false, eval a X.env) :: starEach [] X.env) : PE X (.Call (.Name "len" p) [.Call (.Name "set" p2) [a] [] q] [] pos) (tLns X.K ta) := by
  refine ⟨fun pins s σ H Q I h => ?_⟩
  refine Call_ (ld_blt I hg hm PySem.boot_len ?_)
  refine PyProof.Rows.callWith_builtin1 (PyProof.Rows.args_cons ?_ rfl) rfl rfl
  refine Call_ (ld_blt I hg2 hm2 PyProof.Rows.boot_set ?_)
  refine PyProof.Rows.callWith_type1 (PyProof.Rows.args_cons (thn (ha.run pins s σ H _ I h) fun v s1 ⟨x, H1, I1, r1, q1⟩ => PyProof.Rows.args_nil ?_) na) na rfl
  obtain ⟨l, ns, rfl, hs, hl, k⟩ := q1
  cases r1
  have hb : ns.length + 1 < scanBound := by show ns.length + 1 < 4096; omega
  rcases hs with hs | hs
  · obtain ⟨its, rv, pl, hz⟩ := I1.list hs
    refine set_ofList (I1.ok.hd hc) pl.isList (ns := ns) (by simpa using rv.ints) hb fun h' tk c R hc2 hk => ?_
    refine PyProof.Rows.args_nil ?_
    obtain ⟨o, es, ep, t, ho, hex, hd, _, nd, hm, hsz, hf, hn, _⟩ := R
    have I2 : Inv X pins σ H1 { s1 with heap := h', toks := tk } := I1.kept hk
    have e1 : es.size = (es.toList.map keyOf).length := by rw [List.length_map, Array.length_toList]
    refine call_len_set ho hex hd hf (by rw [hn]; omega) ⟨.int es.size, H1, I2.tok _, ⟨_, rfl⟩, ?_⟩
    rw [e1]
    exact k _ nd fun j => (hm j).symm.trans decide_eq_true_iff
  · obtain ⟨its, rv, pl, hz⟩ := I1.tuple hs
    refine call_set_tupI ns (I1.ok.hd hc) pl (by simpa using rv.ints) hb fun h' tk c R hc2 hk => ?_
    refine PyProof.Rows.args_nil ?_
    obtain ⟨o, es, ep, t, ho, hex, hd, _, nd, hm, hsz, hf, hn, _⟩ := R
    have I2 : Inv X pins σ H1 { s1 with heap := h', toks := tk } := I1.kept hk
    have e1 : es.size = (es.toList.map keyOf).length := by rw [List.length_map, Array.length_toList]
    refine call_len_set ho hex hd hf (by rw [hn]; omega) ⟨.int es.size, H1, I2.tok _, ⟨_, rfl⟩, ?_⟩
    rw [e1]
    exact k _ nd fun j => (hm j).symm.trans decide_eq_true_iff
end
end GK

/-! dicts whose keys are tuples of whole numbers and of such tuples -/
namespace GK
open PySem PySem.Spec PyProof.Rows L2
mutual
/-- the value v is the key k -/
inductive NkA (K : PySem.W.Frag) (H : Hp) : NestedKey → V → Prop
  | num (i : Int) : NkA K H (.num i) (.int i)
  | tup {a : Addr} {vs : List V} {ks : List NestedKey} : SqT K H a vs → NkAll K H ks vs → NkA K H (.tup ks) (.ref a)
inductive NkAll (K : PySem.W.Frag) (H : Hp) : List NestedKey → List V → Prop
  | nil : NkAll K H [] []
  | cons {k : NestedKey} {v : V} {ks : List NestedKey} {vs : List V} : NkA K H k v → NkAll K H ks vs → NkAll K H (k :: ks) (v :: vs)
end
section
variable {K : PySem.W.Frag} {H H' : Hp}
mutual
theorem NkA.hash : ∀ (k : NestedKey) (v : V), NkA K H k v → ∀ w w' : World, k.hash w = k.hash w'
  | .none, _, h => by cases h
  | .text _, _, h => by cases h
  | .num i, _, _ => fun w w' => by simp only [NestedKey.hash]
  | .tup ks, _, h => by
    cases h with
    | tup _ h2 =>
      intro w w'
      simp only [NestedKey.hash]
      rw [NkAll.hashes _ _ h2 w w']
theorem NkAll.hashes : ∀ (ks : List NestedKey) (vs : List V), NkAll K H ks vs → ∀ w w' : World, NestedKey.hashes w ks = NestedKey.hashes w' ks
  | [], _, _ => fun w w' => by simp only [NestedKey.hashes]
  | k :: ks, _, h => by
    cases h with
    | cons h1 h2 =>
      intro w w'
      simp only [NestedKey.hashes]
      rw [NkA.hash _ _ h1 w w', NkAll.hashes _ _ h2 w w']
end
mutual
theorem NkA.mono (sq : ∀ a xs, SqT K H a xs → SqT K H' a xs) : ∀ (k : NestedKey) (v : V), NkA K H k v → NkA K H' k v
  | .none, _, h => by cases h
  | .text _, _, h => by cases h
  | .num i, _, h => by
    cases h
    exact .num i
  | .tup ks, _, h => by
    cases h with
    | tup h1 h2 => exact .tup (sq _ _ h1) (NkAll.mono sq _ _ h2)
theorem NkAll.mono (sq : ∀ a xs, SqT K H a xs → SqT K H' a xs) : ∀ (ks : List NestedKey) (vs : List V), NkAll K H ks vs → NkAll K H' ks vs
  | [], _, h => by
    cases h
    exact .nil
  | k :: ks, _, h => by
    cases h with
    | cons h1 h2 => exact .cons (NkA.mono sq _ _ h1) (NkAll.mono sq _ _ h2)
end
end
section
variable {X : Cx} {pins : List (Addr × Obj)} {σ : L2.St} {H : Hp} {s : Shared}
mutual
theorem NkA.is (I : Inv X pins σ H s) : ∀ (k : NestedKey) (v : V) (u : Value), NkA X.K H k v → RelV v u → NestedIs s.heap k u
  | .none, _, _, h, _ => by cases h
  | .text _, _, _, h, _ => by cases h
  | .num i, _, _, h, r => by
    cases h
    obtain ⟨t, rfl⟩ := (show ∃ t, _ = Value.int i t from r)
    exact .int i t
  | .tup ks, _, _, h, r => by
    cases h with
    | tup h1 h2 =>
      cases r
      obtain ⟨its, rv, ⟨o, e1, e2, n, e3⟩, _⟩ := I.tuple h1
      exact .tup e1 e2 e3 (by simpa using NkAll.is I _ _ _ h2 rv)
theorem NkAll.is (I : Inv X pins σ H s) : ∀ (ks : List NestedKey) (vs : List V) (us : List Value), NkAll X.K H ks vs → Vals vs us → NestedAll s.heap ks us
  | [], _, _, h, r => by
    cases h
    cases r
    exact .nil
  | k :: ks, _, _, h, r => by
    cases h with
    | cons h1 h2 =>
      cases r with
      | cons r1 r2 => exact .cons (NkA.is I _ _ _ h1 r1) (NkAll.is I _ _ _ h2 r2)
end
end
/-- entries: a key, where its tuple stands, the value -/
abbrev NL := List (NestedKey × Addr × V)
abbrev NT : NL → List (NestedKey × Addr × Value) → Prop := Paired fun p q => p.1 = q.1 ∧ p.2.1 = q.2.1 ∧ RelV p.2.2 q.2.2
def ndF (a : Addr) (L : NL) (h : Heap) : Prop := ∃ (w0 : World) (xs : List (NestedKey × Addr × Value)), NT L xs ∧ L.length ≤ sizeLine ∧ (a == sysModules) = false ∧
  ∃ o es ep, h.get? a = some o ∧ o.ExactDict ∧ o.data = .dict es ep ∧ es.toList = xs.map (fun x => (⟨x.1.hash w0, .ref x.2.1, x.2.2⟩ : DictEntry)) ∧ (xs.map (·.1)).Nodup
def ndO (a : Addr) (L : NL) : HO := .ext (ndF a L)
def valN (L : NL) (k : NestedKey) : Option V := (L.find? fun p => decide (p.1 = k)).map (·.2.2)
def putNL (L : NL) (k : NestedKey) (b : Addr) (v : V) : NL := if (valN L k).isSome then L.map (fun p => if p.1 = k then (p.1, p.2.1, v) else p) else L ++ [(k, b, v)]
def KN (K : PySem.W.Frag) (H : Hp) (L : NL) : Prop := ∀ p ∈ L, NkA K H p.1 (.ref p.2.1) ∧ p.1.depth ≤ 8
theorem NT.val {L : NL} {xs : List (NestedKey × Addr × Value)} (r : NT L xs) (k : NestedKey) : RelO (valN L k) ((atKey xs k).map (·.2)) := by
  induction r with
  | nil => exact True.intro
  | @cons p q ps qs h t ih =>
    obtain ⟨h1, _, h2⟩ := h
    unfold valN atKey
    by_cases e : p.1 = k
    · have e' : q.1 = k := h1.symm.trans e
      simp only [List.find?_cons, e, e', decide_true, Option.map_some]
      exact h2
    · have e' : ¬ q.1 = k := fun z => e (h1.trans z)
      simp only [List.find?_cons, e, e', decide_false]
      exact ih
theorem NT.repl {L : NL} {xs : List (NestedKey × Addr × Value)} (r : NT L xs) (k : NestedKey) {y : V} {u : Value} (ry : RelV y u) :
    NT (L.map fun p => if p.1 = k then (p.1, p.2.1, y) else p) (xs.map (putAt k u)) := by
  induction r with
  | nil => exact .nil
  | @cons p q ps qs h t ih =>
    rw [List.map_cons, List.map_cons]
    refine .cons ?_ ih
    obtain ⟨h1, h2, h3⟩ := h
    unfold putAt
    by_cases e : p.1 = k
    · rw [if_pos e, if_pos (h1.symm.trans e)]
      exact ⟨h1, h2, ry⟩
    · rw [if_neg e, if_neg (fun z => e (h1.trans z))]
      exact ⟨h1, h2, h3⟩
theorem NT.put {L : NL} {xs : List (NestedKey × Addr × Value)} (r : NT L xs) (k : NestedKey) (b : Addr) {y : V} {u : Value} (ry : RelV y u) : NT (putNL L k b y) (storedH xs k b u) := by
  have e : (valN L k).isSome = (atKey xs k).isSome := by rw [(r.val k).isSome_eq, Option.isSome_map]
  unfold putNL storedH
  rw [e]
  by_cases q : (atKey xs k).isSome = true
  · rw [if_pos q, if_pos q]
    exact r.repl k ry
  · rw [if_neg q, if_neg q]
    exact Paired.snoc r ⟨rfl, rfl, ry⟩
theorem putNL_len (L : NL) (k : NestedKey) (b : Addr) (v : V) : (putNL L k b v).length ≤ L.length + 1 := by
  unfold putNL
  split
  · rw [List.length_map]
    exact Nat.le_succ _
  · rw [List.length_append]
    exact Nat.le_refl _
section
variable {X : Cx} {pins : List (Addr × Obj)} {σ : L2.St} {H : Hp} {s : Shared} {a : Addr} {y v : V} {u r : Value} {o : Option V} {A : Around} {E : Value → Shared → Prop}
theorem nd_of {L : NL} (I : Inv X pins σ H s) (e : H a = some (ndO a L)) (kn : KN X.K H L) : L.length ≤ sizeLine ∧ (a == sysModules) = false ∧ ∃ xs, NT L xs ∧ s.heap.DictOfH (nestedKind X.prog X.w) a xs := by
  obtain ⟨⟨w0, xs, r, hz, lo, o, es, ep, h1, h2, h3, h4, h5⟩, _, _⟩ := (show ObjOk X.prog X.w H s.heap a (ndO a L) from I.hok a _ e)
  have all : ∀ {l : NL} {m : List (NestedKey × Addr × Value)}, NT l m → KN X.K H l → (∀ x ∈ m, NestedIs s.heap x.1 (.ref x.2.1) ∧ x.1.depth ≤ 8) ∧ m.map (fun x => (⟨x.1.hash w0, .ref x.2.1, x.2.2⟩ : DictEntry)) = m.map (entryOfKey (nestedKind X.prog X.w)) := by
    intro l m q
    induction q with
    | nil => exact fun _ => ⟨fun x hx => (nomatch hx), rfl⟩
    | @cons p q ps qs hq t ih =>
      intro kn
      obtain ⟨i1, i2⟩ := ih fun p hp => kn p (List.mem_cons_of_mem _ hp)
      obtain ⟨n1, n2⟩ := kn p List.mem_cons_self
      obtain ⟨q1, q2, _⟩ := hq
      refine ⟨fun x hx => ?_, ?_⟩
      · rcases List.mem_cons.mp hx with e | hx
        · subst e
          rw [← q1, ← q2]
          exact ⟨NkA.is I _ _ _ n1 rfl, n2⟩
        · exact i1 x hx
      · rw [List.map_cons, List.map_cons, i2]
        congr 1
        unfold entryOfKey
        show (⟨q.1.hash w0, _, _⟩ : DictEntry) = ⟨q.1.hash X.w, _, _⟩
        rw [← q1, NkA.hash _ _ n1 w0 X.w]
  obtain ⟨a1, a2⟩ := all r kn
  exact ⟨hz, lo, xs, r, o, es, ep, h1, h2, h3, h4.trans a2, a1, h5⟩
theorem nd_new {H' : Hp} {h' : Heap} {L : NL} {xs : List (NestedKey × Addr × Value)} (z : L.length ≤ sizeLine) (lo : (a == sysModules) = false) (r : NT L xs) (dd : h'.DictOfH (nestedKind X.prog X.w) a xs) : ObjOk X.prog X.w H' h' a (ndO a L) := by
  obtain ⟨o, es, ep, h1, h2, h3, h4, _, h5⟩ := dd
  refine ⟨⟨X.w, xs, r, z, lo, o, es, ep, h1, h2, h3, h4, h5⟩, ⟨o, h1⟩, fun g1 g2 hf k => ?_⟩
  obtain ⟨w0, xs, r, hz, lo, o, es, ep, h1, h2⟩ := hf
  exact ⟨w0, xs, r, hz, lo, o, es, ep, k o h1, h2⟩
/-- what the dict at a holds at the key y -/
def DGetN (K : PySem.W.Frag) (H : Hp) (a : Addr) (y : V) (o : Option V) : Prop := ∃ (L : NL) (k : NestedKey) (b : Addr), H a = some (ndO a L) ∧ KN K H L ∧ y = .ref b ∧ NkA K H k (.ref b) ∧ k.depth ≤ 8 ∧ o = valN L k
/-- the heap behind a[y] = v -/
def DPutN (K : PySem.W.Frag) (H : Hp) (a : Addr) (y v : V) (H' : Hp) : Prop := ∃ (L : NL) (k : NestedKey) (b : Addr), H a = some (ndO a L) ∧ KN K H L ∧ y = .ref b ∧ NkA K H k (.ref b) ∧ k.depth ≤ 8 ∧ L.length < sizeLine ∧ H' = upd H a (ndO a (putNL L k b v))
theorem nested_room (hu : A.units + 500 < cLine) : (nestedKind X.prog X.w).room A.in1 := by
  show A.in1.units + 8 < cLine
  have : A.in1.units = A.units + 1 := rfl
  omega
theorem dn_getItem {Q : Value → Shared → Prop} (hu : A.units + 500 < cLine) (I : Inv X pins σ H s) (g : DGetN X.K H a y (some v)) (ry : RelV y u) (h : ∀ w' s', Inv X pins σ H s' → RelV v w' → Q w' s') :
    wpAny (model X.prog X.w) A (getItem (.ref a) u) Q E s := by
  obtain ⟨L, k, b, e, kn, rfl, nk, nd, l⟩ := g
  cases (show u = Value.ref b from ry)
  obtain ⟨z, lo, xs, rel, dd⟩ := nd_of I e kn
  obtain ⟨w', hw, rw'⟩ := RelO.some_of (v := v) (o := (atKey xs k).map (·.2)) (by rw [l]; exact rel.val k)
  obtain ⟨p, hp, hp2⟩ := Option.map_eq_some_iff.mp hw
  refine wpAny_getItem_heap (nested_room hu) (show (nestedKind X.prog X.w).is s.heap k b from ⟨NkA.is I _ _ _ nk rfl, nd⟩) dd hp ?_
  rw [hp2]
  exact h w' _ (I.tok _) rw'
theorem dn_in {Q : Value → Shared → Prop} (hu : A.units + 500 < cLine) (I : Inv X pins σ H s) (g : DGetN X.K H a y o) (ry : RelV y u) (h : ∀ s', Inv X pins σ H s' → Q (.bool o.isSome) s') :
    wpAny (model X.prog X.w) A (compareOp .In u (.ref a)) Q E s := by
  obtain ⟨L, k, b, e, kn, rfl, nk, nd, l⟩ := g
  cases (show u = Value.ref b from ry)
  obtain ⟨z, lo, xs, rel, dd⟩ := nd_of I e kn
  refine wpAny_in_heap (nested_room hu) (show (nestedKind X.prog X.w).is s.heap k b from ⟨NkA.is I _ _ _ nk rfl, nd⟩) lo dd ?_
  have q := (rel.val k).isSome_eq
  rw [Option.isSome_map] at q
  rw [← q, ← l]
  exact h _ (I.tok _)
theorem dn_notIn {Q : Value → Shared → Prop} (hu : A.units + 500 < cLine) (I : Inv X pins σ H s) (g : DGetN X.K H a y o) (ry : RelV y u) (h : ∀ s', Inv X pins σ H s' → Q (.bool (!o.isSome)) s') :
    wpAny (model X.prog X.w) A (compareOp .NotIn u (.ref a)) Q E s := by
  obtain ⟨L, k, b, e, kn, rfl, nk, nd, l⟩ := g
  cases (show u = Value.ref b from ry)
  obtain ⟨z, lo, xs, rel, dd⟩ := nd_of I e kn
  refine wpAny_notIn_heap (nested_room hu) (show (nestedKind X.prog X.w).is s.heap k b from ⟨NkA.is I _ _ _ nk rfl, nd⟩) lo dd ?_
  have q := (rel.val k).isSome_eq
  rw [Option.isSome_map] at q
  rw [← q, ← l]
  exact h _ (I.tok _)
theorem dn_setItem {H' : Hp} {Q : Unit → Shared → Prop} (hu : A.units + 500 < cLine) (I : Inv X pins σ H s) (g : DPutN X.K H a y v H') (ry : RelV y u) (rv : RelV v r) (h : ∀ s', Inv X pins σ H' s' → Q () s') :
    wpAny (model X.prog X.w) A (setItem (.ref a) u r) Q E s := by
  obtain ⟨L, k, b, e, kn, rfl, nk, nd, l, rfl⟩ := g
  cases (show u = Value.ref b from ry)
  obtain ⟨z, lo, xs, rel, dd⟩ := nd_of I e kn
  have hz : xs.length ≤ sizeLine := by rw [← Paired.length rel]; exact z
  have hl : (putNL L k b v).length ≤ sizeLine := by have := putNL_len L k b v; omega
  refine wpAny_setItem_heap (hsz := hz) (nested_room hu) (show (nestedKind X.prog X.w).is s.heap k b from ⟨NkA.is I _ _ _ nk rfl, nd⟩) dd fun h' dd' hs => h _ ?_
  have he : ∃ q, h'.get? a = some q := let ⟨q, _, _, hq, _⟩ := dd'; ⟨q, hq⟩
  exact d_write I (by rw [e]; exact True.intro) hs he (nd_new hl lo (rel.put k b rv) dd')
theorem dn_typeIs {L : NL} (I : Inv X pins σ H s) (e : H a = some (ndO a L)) : s.TypeIs (.ref a) "dict" := by
  obtain ⟨⟨w0, xs, r, hz, lo, o, es, ep, h1, h2, h3, h4, h5⟩, _, _⟩ := (show ObjOk X.prog X.w H s.heap a (ndO a L) from I.hok a _ e)
  exact ⟨o, h1, h2.1⟩
end
/-- d[y] -/
def tDGetN (K : PySem.W.Frag) (td ty : TE) : TE := fun σ H Q => td σ H fun x H1 => ty σ H1 fun y H2 => ∃ a v, x = .ref a ∧ DGetN K H2 a y (some v) ∧ Q v H2
def rInN (K : PySem.W.Frag) (neg : Bool) : R2 := fun y x H Q => ∃ a o, x = .ref a ∧ DGetN K H a y o ∧ Q (.bl (if neg then !o.isSome else o.isSome)) H
def rSetN (K : PySem.W.Frag) : V → V → V → Hp → (Hp → Prop) → Prop := fun o i v H Q => ∃ a H', o = .ref a ∧ DPutN K H a i v H' ∧ Q H'
def tDNewN : TE := fun _ H Q => ∀ p, H p = none → Q (.ref p) (upd H p (ndO p []))
section
variable {X : Cx} {o i : Expr} {pos : Pos} {td ty : TE}
theorem pe_dgetN (hu : X.A.units + 500 < cLine) (ho : PE X o td) (hi : PE X i ty) (hs : NoSl i) : PE X (.Subscript o i pos) (tDGetN X.K td ty) := by
  refine ⟨fun pins s σ H Q I h => ?_⟩
  refine subD_of PySem.F.slot_dict_getitem.lookup hs (thn (ho.run pins s σ H _ I h) fun u s1 ⟨x, H1, I1, rx, q1⟩ => thn (hi.run pins s1 σ H1 _ I1 q1) fun iv s2 ⟨y, H2, I2, ry, a, v, ex, g, q2⟩ => ?_)
  subst ex
  obtain rfl : u = Value.ref a := rx
  obtain ⟨L, k, b, e, _⟩ := id g
  exact ⟨dn_typeIs I2 e, dn_getItem hu I2 g ry fun w' s3 I3 rw' => ⟨v, H2, I3, rw', q2⟩⟩
theorem op_inN (hu : X.A.units + 500 < cLine) : OpR X (compareOp .In) (rInN X.K false) := by
  intro pins s σ H y x v u Q I ry rx h
  obtain ⟨a, o, rfl, g, q⟩ := h
  obtain rfl : u = Value.ref a := rx
  exact dn_in hu I g ry fun s3 I3 => ⟨.bl o.isSome, H, I3, rfl, q⟩
theorem op_notInN (hu : X.A.units + 500 < cLine) : OpR X (compareOp .NotIn) (rInN X.K true) := by
  intro pins s σ H y x v u Q I ry rx h
  obtain ⟨a, o, rfl, g, q⟩ := h
  obtain rfl : u = Value.ref a := rx
  exact dn_notIn hu I g ry fun s3 I3 => ⟨.bl (!o.isSome), H, I3, rfl, q⟩
theorem set_nested (hu : X.A.units + 500 < cLine) : PSet X (rSetN X.K) := by
  intro pins s σ H o i v ov iv u Q I ro ri rv h
  obtain ⟨a, H', eo, g, q⟩ := h
  subst eo
  cases (show ov = Value.ref a from ro)
  exact dn_setItem hu I g ri rv fun s' I' => ⟨H', I', q⟩
theorem pe_dnewN : PE X (.Dict [] [] pos) tDNewN := ⟨fun pins s σ H Q I h =>
  wpAny_Dict_empty ⟨.ref s.heap.objs.size, _, I.laid (a := s.heap.objs.size) (o := ndO s.heap.objs.size []) (t' := s.toks) (fun _ _ q => Heap.get?_push_of_some _ q) (Nat.le_refl _)
    (nd_new (xs := []) (Nat.zero_le _) (beq_eq_false_iff_ne.mpr (Ne.symm (Nat.ne_of_lt I.big))) .nil (Heap.DictOfH.new s.heap)), rfl, h _ (I.hok.fresh (Nat.le_refl _))⟩⟩
end
/-! ### tuple(d) -/
section
variable {prog : Program} {w : World} {A : Around} {E : Value → Shared → Prop} {s : Shared} {d : Addr} {o : Obj} {es : Array DictEntry} {ep : Nat}
theorem code_tuple_dict {Q₁ : Value → Shared → Prop} (hh : A.handled = none) (lo : (d == sysModules) = false) (ho : s.heap.get? d = some o) (hx : o.ExactDict) (hd : o.data = .dict es ep) (hn : es.size ≤ sizeLine)
    (h : ∀ (h' : Heap) (tk : Nat) (acc : Array Value), (∀ b o, s.heap.get? b = some o → h'.get? b = some o) → ItemsOf (fun i v => ∃ en : DictEntry, es[i]? = some en ∧ v = en.key) acc es.size →
      Q₁ (.ref h'.objs.size) { s with heap := h'.push { cls := .type "tuple", data := .seq acc }, toks := tk }) :
    codeAny (model prog w) A (.call (.builtin "tuple.__new__") ⟨[.type "tuple", .ref d], []⟩) (wants Q₁ E) s := by
  refine codeAny_of_tree ?_
  show wpAny _ A.in1 (do checkBuiltinCall "tuple.__new__" ⟨[.type "tuple", .ref d], []⟩; again (.builtin "tuple.__new__" ⟨[.type "tuple", .ref d], []⟩)) _ _ s
  refine wpAny_bind (wpAny_of_eq (F.newCall_tuple_1 _) (wpAny_pure ⟨plainId_quiet F.plain_tuple_new _, codeAny_builtin F.entry_tuple_new ?_⟩))
  rw [Around.under_plainId F.plain_tuple_new _]
  have hsub := sub_tuple_self
  have hinit := init_tuple_lookup
  have hmh := madeHere_tuple
  have hTI : s.TypeIs (.ref d) "dict" := ⟨_, ho, hx.1⟩
  have hh1 : A.in1.handled = none := hh
  have hcol : ∀ {R : List Value → Shared → Prop} {E : Value → Shared → Prop}, (∀ (h' : Heap) (tk : Nat) (acc : Array Value), (∀ b o, s.heap.get? b = some o → h'.get? b = some o) → ItemsOf (fun i v => ∃ en : DictEntry, es[i]? = some en ∧ v = en.key) acc es.size → R acc.toList { s with heap := h', toks := tk }) →
      wpAny (model prog w) A.in1 (collect (.ref d)) R E s := fun hR => PySem.W.kdu_collect (A := A.in1) (kdl_raw lo hx hd) hh1 ho hn hR
  wp_walk using wpAny_typeOf hTI, hcol
  intro h' tk acc hk hacc
  show wpAny _ _ (Builtin.Tuple.tupleExact acc.toList.toArray >>= fun v => ret v) _ _ _
  unfold Builtin.Tuple.tupleExact
  refine wpAny_bind (wpAny_newObj_type ?_ (by show acc.toList.toArray.size ≤ sizeLine; simp only [Array.toArray_toList]; rw [hacc.1]; exact hn))
  refine wpAny_pure ?_
  have e : acc.toList.toArray = acc := by simp
  rw [e]
  exact h h' tk acc hk hacc
theorem call_tuple_dict {Q : Value → Shared → Prop} (hh : A.handled = none) (lo : (d == sysModules) = false) (ho : s.heap.get? d = some o) (hx : o.ExactDict) (hd : o.data = .dict es ep) (hn : es.size ≤ sizeLine)
    (hQ : ∀ (h' : Heap) (tk : Nat) (acc : Array Value), (∀ b o, s.heap.get? b = some o → h'.get? b = some o) → ItemsOf (fun i v => ∃ en : DictEntry, es[i]? = some en ∧ v = en.key) acc es.size →
      Q (.ref h'.objs.size) { s with heap := h'.push { cls := .type "tuple", data := .seq acc }, toks := tk }) :
    wpAny (model prog w) A (call (.type "tuple") [.ref d]) Q E s := by
  refine callType_codes (Q₁ := fun obj s₁ => s₁.TypeIs obj "tuple" ∧ Q obj s₁) F.called_tuple (F.typeCall_tuple_1 _) F.entry_object_init
    (code_tuple_dict (A := A.in1) hh lo ho hx hd hn fun h' tk acc hk hacc => ⟨⟨_, Heap.get?_push_size _ rfl, rfl⟩, hQ h' tk acc hk hacc⟩) fun obj s₁ h₁ => ?_
  exact ⟨h₁.1, F.args_object_init_2 obj _, object_init_meets F.called_tuple.init.lookup F.called_tuple.made (by decide) prog w A.in1 _ s₁ ⟨h₁.1, rfl, h₁.2⟩⟩
end
/-- tuple(d) -/
def rTupN : List V → Hp → VK → Prop := fun xs H Q => ∃ (d : Addr) (L : NL), xs = [.ref d] ∧ H d = some (ndO d L) ∧ ∀ p, H p = none → Q (.ref p) (upd H p (.tup (L.map fun e => V.ref e.2.1)))
theorem cr_tupleN {X : Cx} (hc : X.calm = true) : CallR X (.type "tuple") rTupN := by
  intro pins s σ H xs us Q I r h
  obtain ⟨d, L, rfl, hd, q⟩ := h
  rw [Vals.ref1 r]
  obtain ⟨⟨w0, xs, rel, hz, lo, o, es, ep, h1, h2, h3, h4, h5⟩, _, _⟩ := (show ObjOk X.prog X.w H s.heap d (ndO d L) from I.hok d _ hd)
  have l1 : es.size = xs.length := by rw [← Array.length_toList, h4, List.length_map]
  have l2 : L.length = xs.length := Paired.length rel
  refine call_tuple_dict (I.ok.hd hc) lo h1 h2 h3 (by omega) fun h' tk acc hk it => ?_
  have ea : acc.toList = xs.map fun x => Value.ref x.2.1 := by
    have hl : acc.toList.length = xs.length := by rw [Array.length_toList, it.1]; exact l1
    apply List.ext_getElem?
    intro j
    rw [List.getElem?_map]
    cases hj : acc.toList[j]? with
    | none =>
      have h1 := List.getElem?_eq_none_iff.mp hj
      rw [List.getElem?_eq_none (by omega)]
      all_goals rfl
    | some v =>
      obtain ⟨en, hen, hv⟩ := it.2 j v (by rw [← Array.getElem?_toList]; exact hj)
      rw [← Array.getElem?_toList, h4, List.getElem?_map] at hen
      obtain ⟨b, hb, e2⟩ := Option.map_eq_some_iff.mp hen
      rw [hb, hv, ← e2]
      all_goals rfl
  have vr : ∀ {l : NL} {m : List (NestedKey × Addr × Value)}, NT l m → Vals (l.map fun e => V.ref e.2.1) (m.map fun x => Value.ref x.2.1) := by
    intro l m q
    induction q with
    | nil => exact .nil
    | cons hq t ih => exact .cons (show RelV (V.ref _) (Value.ref _) from by rw [hq.2.1]; rfl) ih
  have rv := vr rel
  rw [← ea] at rv
  have I2 : Inv X pins σ H { s with heap := h', toks := tk } := I.kept hk
  refine ⟨.ref h'.objs.size, upd H h'.objs.size (.tup (L.map fun e => V.ref e.2.1)), I2.laid (t' := tk) (fun c o e => Heap.get?_push_of_some _ e) (Nat.le_refl _) (show ObjOk X.prog X.w _ _ _ (.tup (L.map fun e => V.ref e.2.1)) from ⟨?_, acc.toList, rv, ?_⟩), rfl, q _ (I2.hok.fresh (Nat.le_refl _))⟩
  · rw [List.length_map]; omega
  · rw [Array.toArray_toList]; exact IsTup.new _ _
end GK

/-! list(reversed(x)), len(d) -/
namespace GK
open PySem PySem.Spec PyProof.Rows L2 RT
section
variable {prog : Program} {w : World} {A : Around} {E : Value → Shared → Prop} {s : Shared}
theorem list_init_rev {it l : Addr} {items : Array Value} {R : Result → Shared → Prop} {S : Addr} (hh : A.handled = none) (hit : s.heap.IsRevIter it l ((items.size : Int) - 1)) (hl : s.heap.IsList l items) (hne : l ≠ it) (hn : items.size ≤ sizeLine) (hSi : S ≠ it) (hSl : S ≠ l)
    (hS : s.heap.get? S = some { cls := .type "list", data := .seq #[] })
    (hR : ∀ h' tk acc' c', (∀ b o, b ≠ S → b ≠ it → s.heap.get? b = some o → h'.get? b = some o) → h'.get? S = some { cls := .type "list", dict := none, data := .seq acc' c', slots := #[] } → ItemsOf (fun i v => items[items.size - 1 - i]? = some v) acc' items.size → R (.ok (.ret .none)) { s with heap := h', toks := tk }) :
    wpAny (model prog w) A.in1 (Builtin.«list.__init__» ⟨[.ref S, .ref it], []⟩)
      (fun fin s' => match fin with | .done f => R (.ok f) s' | .again c' => c'.quiet = true ∧ codeAny (model prog w) A c' R s') (fun e s' => R (.error e) s') s := by
  have W := (Walks.listRev (prog := prog) (w := w) (A := A.in1) hh it l hne items).toS
  have hSf : S ∉ [it, l] := by simp only [List.mem_cons, List.not_mem_nil, or_false, not_or]; exact ⟨hSi, hSl⟩
  show wpAny _ _ (do let old ← Builtin.List.listItems (.ref S); Builtin.List.listUpdate (.ref S) (fun _ => #[]); letGo old.toList.reverse; Builtin.List.listExtendWith (.ref S) (.ref it) .none) _ _ s
  refine wpAny_bind ?_
  unfold Builtin.List.listItems
  refine wpAny_bind (wpAny_seqItems hS rfl (wpAny_pure ?_))
  show wpAny _ _ (updateSeq S (fun _ => #[]) >>= fun _ => letGo (#[] : Array Value).toList.reverse >>= fun _ => Builtin.List.listExtendWith (.ref S) (.ref it) .none) _ _ s
  refine wpAny_bind (wpAny_updateSeq hS rfl ?_)
  have hS₂ := Heap.get?_update_self (Obj.mapSeq (fun _ => (#[] : Array Value))) hS rfl
  have oth : ∀ b o, b ≠ S → s.heap.get? b = some o → (s.heap.update S (Obj.mapSeq (fun _ => (#[] : Array Value)))).get? b = some o :=
    fun b o hb e => (Heap.get?_update_other _ _ (Ne.symm hb)).trans e
  refine wpAny_bind (wpAny_letGo ?_)
  obtain ⟨N, hN⟩ : ∃ N, s.heap.update S (Obj.mapSeq (fun _ => (#[] : Array Value))) = N := ⟨_, rfl⟩
  rw [hN] at hS₂ oth ⊢
  have hit1 : N.IsRevIter it l ((items.size : Int) - 1) := hit.at fun o e => oth it o (Ne.symm hSi) e
  have hl1 : N.IsList l items := by
    obtain ⟨ol, hol, r⟩ := hl
    exact ⟨ol, oth l ol (Ne.symm hSl) hol, r⟩
  have hT : ({ s with heap := N } : Shared).TypeIs (.ref it) "list_reverseiterator" := Heap.IsRevIter.typeIs (s := { s with heap := N }) hit1
  have h1 : Builtin.List.listSameRef (.ref S) (.ref it) = false := by simp [Builtin.List.listSameRef, hSi]
  unfold Builtin.List.listExtendWith
  refine wpAny_bind (wpAny_typeOf hT ?_)
  rw [if_neg (by rw [h1]; decide)]
  refine wpAny_bind (wpAny_pyIter_revIter (s := { s with heap := N }) hit1 ?_)
  refine wpAny_bind (wpAny_holding ?_)
  unfold Builtin.List.listLengthHint
  refine wpAny_bind (wpAny_specialOf hT nolen_lri ?_)
  show wpAny _ A.in1 (specialOf (Value.ref it) (Str.ofString "__length_hint__") >>= _) _ _ _
  refine wpAny_bind (wpAny_specialOf hT hint_lri ?_)
  generalize hid : ("list_reverseiterator.__length_hint__" : String) = id0
  wp_delta
  rw [show splitId id0 = some ("list_reverseiterator", "__length_hint__") from by subst hid; decide +kernel]
  subst hid
  refine wpAny_bind (wpAny_isInstance (b := true) hT (by rw [isSubtype_type]; kernel_rfl) ?_)
  refine wpAny_pure ?_
  rw [if_neg (by decide)]
  have e0 : ((items.size : Nat) : Int) - 1 - ((0 : Nat) : Int) = (items.size : Int) - 1 := by omega
  refine wpAny_pure ⟨plainId_quiet F.plain_extend_loop _, codeAny_extend_loopS W hn _ hSf _ items.size 0 _ _ _ rfl (Nat.zero_le _) ⟨Nat.zero_le _, by rw [e0]; exact hit1, hl1⟩ hS₂ (ItemsOf.nil _) fun s' acc' c' hm hS' hacc => ?_⟩
  rw [Moved.eq_with hm]
  refine hR s'.heap s'.toks acc' c' (fun b o hb hb2 e => hm.heap b o (fun hmem => ?_) (oth b o hb e)) hS' hacc
  rcases List.mem_cons.mp hmem with e' | hmem
  · exact hb e'
  · exact hb2 (List.mem_singleton.mp hmem)
theorem call_list_rev {it l : Addr} {items : Array Value} {Q : Value → Shared → Prop} (hh : A.handled = none) (hit : s.heap.IsRevIter it l ((items.size : Int) - 1)) (hl : s.heap.IsList l items) (hne : l ≠ it) (hn : items.size ≤ sizeLine)
    (hQ : ∀ h' tk acc' c', (∀ b o, b ≠ it → s.heap.get? b = some o → h'.get? b = some o) → h'.get? s.heap.objs.size = some { cls := .type "list", dict := none, data := .seq acc' c', slots := #[] } → ItemsOf (fun i v => items[items.size - 1 - i]? = some v) acc' items.size → Q (.ref s.heap.objs.size) { s with heap := h', toks := tk }) :
    wpAny (model prog w) A (call (.type "list") [.ref it]) Q E s := by
  refine callType_codes (Q₁ := fun obj s₁ => obj = .ref s.heap.objs.size ∧ s₁ = { s with heap := s.heap.push { cls := .type "list", data := .seq #[] } }) PySem.F.called_list (PySem.F.typeCall_list_1 _) PySem.F.entry_list_init
    (code_list_new _ ⟨rfl, rfl⟩) fun obj s₁ h₁ => ?_
  obtain ⟨rfl, rfl⟩ := h₁
  have hS : (s.heap.push { cls := .type "list", data := .seq #[] }).get? s.heap.objs.size = some { cls := .type "list", data := .seq #[] } := Heap.get?_push_size _ rfl
  obtain ⟨oi, hoi, _⟩ := id hit
  obtain ⟨ol, hol, _⟩ := id hl
  have hSi : s.heap.objs.size ≠ it := Nat.ne_of_gt (Heap.lt_size hoi)
  have hSl : s.heap.objs.size ≠ l := Nat.ne_of_gt (Heap.lt_size hol)
  refine ⟨⟨_, hS, rfl⟩, PySem.F.args_list_init_2 _ _, list_init_rev (A := A.in1) hh (hit.at fun o e => Heap.get?_push_of_some _ e) (hl.push _) hne hn hSi hSl hS (fun h' tk acc' c' hk hS' hacc => ?_)⟩
  exact ⟨rfl, hQ h' tk acc' c' (fun b o hb e => hk b o (Nat.ne_of_lt (Heap.lt_size e)) hb (Heap.get?_push_of_some _ e)) hS' hacc⟩
end
/-- list(reversed(x)), x a list: a new list -/
def tLstRev (K : PySem.W.Frag) (te : TE) : TE := fun σ H Q => te σ H fun v H1 => ∃ (a : Addr) (xs : List V), v = .ref a ∧ SqL K H1 a xs ∧ ∀ q, H1 q = none → Q (.ref q) (upd H1 q (.lst xs.reverse))
section
variable {X : Cx}
theorem pe_lstRev {e : Expr} {te : TE} {p p2 pos pos2 : Pos} (hc : X.calm = true) (hg : Gl X "list") (hm : X.mg "list" = none) (hg2 : Gl X "reversed") (hm2 : X.mg "reversed" = none) (he : PE X e te)
    (hs : starEach [e] X.env = (false, eval e X.env) :: starEach [] X.env := by rfl)
    (hs2 : starEach [.Call (.Name "reversed" p2) [e] [] pos2] X.env = (false, eval (.Call (.Name "reversed" p2) [e] [] pos2) X.env) :: starEach [] X.env := by rfl) :
    PE X (.Call (.Name "list" p) [.Call (.Name "reversed" p2) [e] [] pos2] [] pos) (tLstRev X.K te) := by
  refine ⟨fun pins s σ H Q I h => ?_⟩
  refine Call_ (ld_blt I hg hm PyProof.Rows.boot_list (PyProof.Rows.callWith_type1 (args_cons (Call_ (ld_blt I hg2 hm2 PyProof.Rows.boot_reversed (PyProof.Rows.callWith_type1 (args_cons (thn (he.run pins s σ H _ I h) fun u s1 ⟨v, H1, I1, r1, q1⟩ => args_nil ?_) hs) hs rfl))) hs2) hs2 rfl))
  obtain ⟨a, xs, ev, hq, q⟩ := q1
  subst ev
  obtain rfl : u = Value.ref a := r1
  obtain ⟨its, rv, p', hz⟩ := I1.list hq
  refine call_reversed_list p'.isList (args_nil ?_)
  have hl := p'.isList
  obtain ⟨ol, hol, _⟩ := id hl
  have hne : a ≠ s1.heap.objs.size := Nat.ne_of_lt (Heap.lt_size hol)
  have hn : its.toArray.size ≤ sizeLine := by rw [List.size_toArray, ← rv.length]; exact hz
  refine call_list_rev (s := { s1 with heap := s1.heap.push (revObj a ((its.toArray.size : Int) - 1)) }) (I1.ok.hd hc) ⟨_, Heap.get?_push_size _ rfl, rfl, rfl⟩ (hl.push _) hne hn fun h' tk acc c hk hS hi => ?_
  have keep : ∀ b o, s1.heap.get? b = some o → h'.get? b = some o := fun b o e => hk b o (Nat.ne_of_lt (Heap.lt_size e)) (Heap.get?_push_of_some _ e)
  have hle : s1.heap.objs.size ≤ (s1.heap.push (revObj a ((its.toArray.size : Int) - 1))).objs.size := by rw [Heap.size_push]; exact Nat.le_succ _
  refine ⟨.ref _, upd H1 _ (.lst xs.reverse), I1.laid (t' := tk) keep hle (show ObjOk X.prog X.w _ _ _ (.lst xs.reverse) from ⟨by rw [List.length_reverse]; exact hz, acc.toList, c, vals_rev rv hi, by rw [Array.toArray_toList]; exact hS⟩), rfl, q _ (I1.hok.fresh hle)⟩
end
/-- len(d), d a dict with whole numbers or texts as keys -/
def rLenD : List V → Hp → VK → Prop := fun xs H Q => ∃ (p : Addr) (kvs : List (Key × V)), xs = [.ref p] ∧ Rd H p (.dK kvs) ∧ Q (.int ((kvs.length : Nat) : Int)) H
theorem cr_lenD {X : Cx} : CallR X (.builtin "len") rLenD := by
  intro pins s σ H xs us Q I r h
  obtain ⟨p, kvs, rfl, hd, q⟩ := h
  rw [Vals.ref1 r]
  exact d_len I hd fun t s' I' => ⟨.int _, H, I', ⟨t, rfl⟩, q⟩
end GK

/-! exceptions as values: an exception that a clause took is a tracked object; isinstance of it; try with several clauses, of a class or a tuple of classes, with a name or without -/
namespace GK
open PySem PySem.Spec PyProof.Rows L2 RT
/-! ### an exception as an object of ours -/
def xcF (a C : Addr) (h : Heap) : Prop := ∃ (oe : Obj) (vs : Array Value), h.get? a = some oe ∧ oe.cls = .ref C ∧ oe.dict = none ∧ oe.data = .fields vs
def xcO (a C : Addr) : HO := .ext (xcF a C)
section
variable {P : Program} {w : World} {H : Hp} {h : Heap} {a C : Addr}
theorem xcO_ok {oe : Obj} {vs : Array Value} (e : h.get? a = some oe) (h1 : oe.cls = .ref C) (h2 : oe.dict = none) (h3 : oe.data = .fields vs) : ObjOk P w H h a (xcO a C) :=
  ⟨⟨oe, vs, e, h1, h2, h3⟩, ⟨oe, e⟩, fun _ _ ⟨oe, vs, e, h1, h2, h3⟩ k => ⟨oe, vs, k _ e, h1, h2, h3⟩⟩
theorem xcO_at (x : HOk P w H h) (e : H a = some (xcO a C)) : xcF a C h := (x a _ e).1
end
/-- isinstance(e, c), e such a thing -/
def rIsX (K : PySem.W.Frag) : List V → Hp → VK → Prop := fun xs H Q => ∃ (a D : Addr) (c : V) (cv : Value) (b : Bool), xs = [.ref a, c] ∧ H a = some (xcO a D) ∧ ExcC K D ∧ (∀ u, RelV c u → u = cv) ∧ PySem.W.kitOne K (.ref D) cv = some b ∧ Q (.bl b) H
theorem cr_isX {X : Cx} : CallR X (.builtin "isinstance") (rIsX X.K) := by
  intro pins s σ H xs us Q I r h
  obtain ⟨a, D, c, cv, b, rfl, ha, C, hcv, e, q⟩ := h
  cases r with
  | cons rx rr =>
    cases rr with
    | cons rt rr =>
      cases rr
      cases rx
      have ec := hcv _ rt
      subst ec
      obtain ⟨oe, vs, hget, h1, h2, hv⟩ := xcO_at I.hok ha
      have J : PySem.W.InstAt s.heap a oe D none := by
        obtain ⟨oc, od, oda, osl⟩ := oe
        dsimp only at h1 h2 hv
        subst h1 h2 hv
        exact ⟨hget, rfl, rfl, trivial⟩
      exact PySem.W.kia_one (PySem.W.handS_kitx_exc C.hg C.hk C.hs C.hd C.ha C.hn C.ht C.hm) I.kIn J e (fun z => nomatch z) fun tk => ⟨.bl b, H, I.kept (t' := tk) fun _ _ z => z, rfl, q⟩
/-! ### a clause's test -/
section
variable {M : Model} {A : Around} {E : Value → Shared → Prop} {K : PySem.W.Frag}
theorem loop_all {s : Shared} {f : Value → PUnit → Sem (ForInStep PUnit)} {Q : PUnit → Shared → Prop} : ∀ (cs : List Value), (∀ c ∈ cs, ∀ P : ForInStep PUnit → Shared → Prop, P (.yield ⟨⟩) s → wpAny M A (f c ⟨⟩) P E s) → Q ⟨⟩ s → wpAny M A (forIn cs (⟨⟩ : PUnit) f) Q E s
  | [], _, q => by
    rw [List.forIn_nil]
    exact wpAny_pure q
  | c :: r, hf, q => by
    rw [List.forIn_cons]
    exact wpAny_bind (hf c List.mem_cons_self _ (loop_all r (fun c' hc' => hf c' (List.mem_cons_of_mem _ hc')) q))
theorem loop_any {β : Type} {s : Shared} {f : Value → β → Sem (ForInStep β)} {Q : β → Shared → Prop} {r0 r1 : β} (d : Value → Bool) : ∀ (cs : List Value), (∀ c ∈ cs, ∀ P : ForInStep β → Shared → Prop, P (if d c then .done r1 else .yield r0) s → wpAny M A (f c r0) P E s) →
    Q (if cs.any d then r1 else r0) s → wpAny M A (forIn cs r0 f) Q E s
  | [], _, q => by
    rw [List.forIn_nil]
    exact wpAny_pure q
  | c :: r, hf, q => by
    rw [List.forIn_cons]
    refine wpAny_bind (hf c List.mem_cons_self _ ?_)
    rw [List.any_cons] at q
    cases hd : d c with
    | true =>
      rw [hd] at q
      exact wpAny_pure q
    | false =>
      rw [hd, Bool.false_or] at q
      exact loop_any d r (fun c' hc' => hf c' (List.mem_cons_of_mem _ hc')) q
theorem exmAny_each {cls : Value} : ∀ {cs : List Value} {b : Bool}, PySem.W.exmAny K cls cs = some b → (∀ c ∈ cs, PySem.W.exmOne K cls c = some ((PySem.W.exmOne K cls c).getD false)) ∧ b = cs.any fun c => (PySem.W.exmOne K cls c).getD false
  | [], b, h => by
    cases h
    exact ⟨fun c hc => by simp at hc, rfl⟩
  | c :: r, b, h => by
    obtain ⟨b1, d1, h1, h2, rfl⟩ := PySem.W.exmAny_cons h
    obtain ⟨i1, i2⟩ := exmAny_each h2
    refine ⟨fun c' hc' => ?_, by rw [List.any_cons, h1, i2]; rfl⟩
    rcases List.mem_cons.mp hc' with rfl | q
    · rw [h1]; rfl
    · exact i1 c' q
theorem exm_tupN {cs : List Value} {cls : Value} {tp e : Addr} {b : Bool} {h : Heap} (X : K.In h) (LT : PySem.W.Looks M h (typeOf (.ref e)) cls) (hp : h.get? tp = some { cls := .type "tuple", data := .seq cs.toArray }) (hx : PySem.W.exmAny K cls cs = some b) :
    PySem.W.Looks M h (excMatches (.ref e) (.ref tp)) b := by
  intro A Q E s k₀ q
  obtain ⟨hh, g, d, tk, os⟩ := s
  have k : ∀ b o, h.get? b = some o → hh.get? b = some o := k₀
  have LT0 : PySem.W.Looks M h (isInstance (.ref tp) (.type "tuple")) true := ((PySem.W.Looks.ld hp).andThen .now).andThen (PySem.W.Looks.of_pure isSubtype_tuple_tuple)
  obtain ⟨each, hb⟩ := exmAny_each hx
  have LT := LT.keeps k
  have LT0 := LT0.keeps k
  have hp' := k _ _ hp
  unfold excMatches
  refine wpAny_bind (LT0.at ?_)
  dsimp only
  rw [if_pos rfl]
  first
    | refine wpAny_bind (wpAny_seqItems hp' rfl ?_)
    | refine wpAny_bind (wpAny_bind (wpAny_seqItems hp' rfl (wpAny_pure ?_)))
  dsimp only [Option.getD_some, Option.getD]
  refine wpAny_bind (wpAny_pure ?_)
  refine wpAny_bind (loop_all cs (fun c hc P q => ?_) ?_)
  · obtain ⟨e1, _⟩ := PySem.W.exm_cls (M := M) X (each c hc)
    have e1 := e1.keeps k
    refine wpAny_bind (e1.at ?_)
    simp only [Bool.not_true, Bool.false_eq_true, if_false]
    exact wpAny_pure q
  · refine wpAny_bind (LT.at ?_)
    refine wpAny_bind (loop_any (r0 := ((none, ()) : Option Bool × Unit)) (r1 := (some true, ())) (fun c => (PySem.W.exmOne K cls c).getD false) cs (fun c hc P q => ?_) ?_)
    · obtain ⟨_, S1⟩ := PySem.W.exm_cls (M := M) X (each c hc)
      have S1 := S1.keeps k
      refine wpAny_bind (S1.at ?_)
      cases hd : (PySem.W.exmOne K cls c).getD false with
      | true =>
        rw [hd] at q
        exact wpAny_pure q
      | false =>
        rw [hd] at q
        exact wpAny_pure q
    · rw [← hb]
      cases b <;> exact wpAny_pure q
end

section
variable {X : Cx}
/-- a clause's test: the class, or the tuple of classes -/
def PTst (X : Cx) (te : Expr) (cs : List Value) : Prop := ∀ (a : Addr) (pn pins : List (Addr × Obj)) (σ : L2.St) (H : Hp) (s : Shared) (Q : Value → Shared → Prop) (E : Value → Shared → Prop), Inv (X.suite a pn) pins σ H s →
  (∀ (v : Value) (h' : Heap), (∀ b o, s.heap.get? b = some o → h'.get? b = some o) → (∀ (M : Model) (e : Addr) (cls : Value) (b : Bool), X.K.In h' → PySem.W.Looks M h' (typeOf (.ref e)) cls → PySem.W.exmAny X.K cls cs = some b → PySem.W.Looks M h' (excMatches (.ref e) v) b) →
    Q v { s with heap := h' }) → wpAny (model X.prog X.w) (X.A.mark (some (.ref a))) (eval te X.env) Q E s
theorem ld_names {x : Str} {c : Value} {np : Pos} (hc : Names X x c) {a : Addr} {pn pins : List (Addr × Obj)} {σ : L2.St} {H : Hp} {s : Shared} {Q : Value → Shared → Prop} {E : Value → Shared → Prop} (I : Inv (X.suite a pn) pins σ H s) (q : Q c s) :
    wpAny (model X.prog X.w) (X.A.mark (some (.ref a))) (eval (.Name x np) X.env) Q E s := by
  obtain ⟨hg, hdbg, hm | ⟨hm, hv, hnn⟩⟩ := hc
  · exact ld_glob (X := X.suite a pn) I hg hm q hdbg
  · exact ld_blt (X := X.suite a pn) I hg hm hv q hnn hdbg
theorem exmAny_one {K : PySem.W.Frag} {cls c : Value} {b : Bool} (h : PySem.W.exmAny K cls [c] = some b) : PySem.W.exmOne K cls c = some b := by
  obtain ⟨b1, d1, h1, h2, rfl⟩ := PySem.W.exmAny_cons h
  cases h2
  rw [Bool.or_false]
  exact h1
theorem ptst_name {x : Str} {c : Value} {np : Pos} (hc : Names X x c) : PTst X (.Name x np) [c] := fun a pn pins σ H s Q E I q =>
  ld_names hc I (q c s.heap (fun _ _ z => z) fun M e cls b k LT h => PySem.W.exm_one k LT (exmAny_one h))
inductive NamesAll (X : Cx) : List Expr → List Value → Prop
  | nil : NamesAll X [] []
  | cons {x : Str} {c : Value} {np : Pos} {es : List Expr} {cs : List Value} : Names X x c → NamesAll X es cs → NamesAll X (.Name x np :: es) (c :: cs)
theorem ld_all {a : Addr} {pn pins : List (Addr × Obj)} {σ : L2.St} {H : Hp} {s : Shared} {E : Value → Shared → Prop} {pos : Pos} (I : Inv (X.suite a pn) pins σ H s) : ∀ {es : List Expr} {cs : List Value}, NamesAll X es cs → ∀ {Q : List Value → Shared → Prop}, Q cs s →
    wpAny (model X.prog X.w) (X.A.mark (some (.ref a))) (spliced (backTo pos (starEach es X.env))) Q E s
  | _, _, .nil, Q, q => wpAny_items_nil q
  | _, _, .cons hc r, Q, q => wpAny_items_cons (ld_names hc I (ld_all I r q))
theorem ptst_tup {es : List Expr} {cs : List Value} {k : Nat} {pos : Pos} (h : NamesAll X es cs) (hl : cs.length ≤ sizeLine) : PTst X (.Tuple es k pos) cs := fun a pn pins σ H s Q E I q => by
  refine wpAny_Tuple (ld_all I h ⟨hl, ?_⟩)
  refine q _ _ (fun b o z => Heap.get?_push_of_some _ z) fun M e cls b k LT hx => ?_
  exact exm_tupN k LT (Heap.get?_push_size s.heap rfl) hx
end
/-! ### an exception gets tracked -/
theorem Inv.track {X : Cx} {pins : List (Addr × Obj)} {σ : L2.St} {H : Hp} {s : Shared} {a : Addr} {o : HO} (I : Inv X pins σ H s) (na : H a = none) (new : ∀ H', ObjOk X.prog X.w H' s.heap a o) (n0 : X.s_0.heap.get? a = none) (nL : a ≠ X.env.locals)
    (nc : ∀ x c, X.env.cells.lookup x = some c → c ≠ a) (np : ∀ p ∈ X.pn ++ pins, p.1 ≠ a) : Inv X pins σ (upd H a o) s := by
  have ne : ∀ {b : Addr} {u : HO}, H b = some u → b ≠ a := fun e z => by rw [z, na] at e; cases e
  refine ⟨I.ok, I.os, I.bare, ⟨I.base.keep, I.base.slot, fun b ob e n hx => ?_, I.base.there, fun b xs e => ?_, fun b ob u e => ?_, fun b ps e => ?_⟩, I.loc, I.cell, ?_, fun x c e => ?_, fun p hp => ?_, fun b u e => ?_, I.len⟩
  · have hb : b ≠ a := fun z => by rw [z, n0] at e; cases e
    rw [upd_ne hb]
    exact I.base.free b ob e n hx
  · rw [upd_ne (ne (I.base.tups b xs e))]
    exact I.base.tups b xs e
  · rw [upd_ne (ne (I.base.frzs b ob u e))]
    exact I.base.frzs b ob u e
  · obtain ⟨more, q⟩ := I.base.tbls b ps e
    exact ⟨more, by rw [upd_ne (ne q)]; exact q⟩
  · rw [upd_ne (Ne.symm nL)]
    exact I.free
  · rw [upd_ne (nc x c e)]
    exact I.freeC x c e
  · obtain ⟨e, n, h1, h2, h3⟩ := I.pin p hp
    exact ⟨e, by rw [upd_ne (np p hp)]; exact n, h1, h2, h3⟩
  · by_cases hb : b = a
    · subst hb
      rw [upd_same] at e
      cases e
      exact new _
    · rw [upd_ne hb] at e
      exact (I.hok b u e).stay (fun c v _ q => q) (fun c q => by rw [upd_ne (ne q)]; exact q) fun c xs q => by rw [upd_ne (ne q)]; exact q

/-! ### try: body, except x as n: .., except (x, y): .. -/
/-- a clause: its classes, the slot of its name, its suite's reading -/
structure HdX where
  cs : List Value
  nm : Option Nat
  ts : TS
def endNm (nm : Option Nat) (D : Ends) : Ends := match nm with
  | none => D
  | some i => { nx := fun σ' H' => D.nx (σ'.set i none) H', rt := D.rt, bk := fun σ' H' => D.bk (σ'.set i none) H', ct := fun σ' H' => D.ct (σ'.set i none) H' }
def setNm (nm : Option Nat) (a : Addr) (σ : L2.St) : L2.St := match nm with
  | none => σ
  | some i => σ.set i (some (.ref a))
/-- what the clauses wish of an exception of the body, one after the other -/
def wX (K : PySem.W.Frag) (Wout : WX) (D : Ends) : List HdX → WX
  | [] => Wout
  | h :: r => fun cls d σ H => ∃ b, PySem.W.exmAny K cls h.cs = some b ∧ (b = true → ∃ C, cls = .ref C ∧ d = none ∧ ∀ a, H a = none → h.ts (endNm h.nm D) (setNm h.nm a σ) (upd H a (xcO a C))) ∧ (b = false → wX K Wout D r cls d σ H)
def NmOk (X : Cx) : Option Str → Option Nat → Prop
  | none, none => True
  | some n, some i => X.N[i]? = some n ∧ X.env.kindOf n = some .local
  | _, _ => False
inductive HdsX (X : Cx) : List ExceptHandler → List HdX → Prop
  | nil : HdsX X [] []
  | cons {te : Expr} {n : Option Str} {b₀ : Stmt} {suite : List Stmt} {pos' : Pos} {hds : List ExceptHandler} {h : HdX} {l : List HdX} (ht : PTst X te h.cs) (hn : NmOk X n h.nm)
      (hsu : ∀ (a : Addr) (pn : List (Addr × Obj)), PSs (X.suite a pn) (b₀ :: suite) h.ts) (r : HdsX X hds l) : HdsX X (.ExceptHandler (some te) n (b₀ :: suite) pos' :: hds) (h :: l)
section
variable {X : Cx} {pins : List (Addr × Obj)} {σ : L2.St} {H : Hp} {s : Shared}
theorem Inv.suite0 (I : Inv X pins σ H s) (a : Addr) : Inv (X.suite a (X.pn ++ pins)) [] σ H s :=
  ⟨I.ok.suite _ _, I.os, I.bare, I.base, I.loc, I.cell, I.free, I.freeC, fun p hp => I.pin p (by rw [List.append_nil] at hp; exact hp), I.hok, I.len⟩
theorem Inv.unsuite0 {a : Addr} {pn' : List (Addr × Obj)} (I : Inv (X.suite a (X.pn ++ pins)) pn' σ H s) (ok : X.Ok) : Inv X pins σ H s :=
  ⟨ok, I.os, I.bare, I.base, I.loc, I.cell, I.free, I.freeC, fun p hp => I.pin p (List.mem_append_left _ hp), I.hok, I.len⟩
theorem flyingZ_keeps {B h h' : Heap} {l : List Env} {a : Addr} {Z : Obj → Prop} (x : HandSPX.FlyingZ B l a Z h) (k : ∀ b o, h.get? b = some o → h'.get? b = some o) : HandSPX.FlyingZ B l a Z h' := by
  obtain ⟨f1, f2, f3, oe, vs, T, oT, ts, he, hz, hd, h1, hn, hne, hT, hdT, h3⟩ := x
  exact ⟨fun b o q => k b o (f1 b o q), f2, f3.of_keeps fun b o q _ => ⟨o, k b o q, rfl⟩, oe, vs, T, oT, ts, k _ _ he, hz, hd, h1, hn, hne, k _ _ hT, hdT, h3⟩
end
section
variable {X : Cx} {body : List Stmt} {h₀ : ExceptHandler} {hds : List ExceptHandler} {l : List HdX} {pos : Pos} {tb : WX → TS} {Wout : WX}
theorem ps_tryX (hs : X.stack = X.env :: X.outer) (hf : X.env.frame = some X.env.locals) (hex : X.ex = []) (hN : X.N.Nodup) (tk : Takes X Wout)
    (hb : ∀ (W : WX) (pn : List (Addr × Obj)) (xe : Value → Shared → Prop), Takes (X.tr pn xe) W → PassesOwn (model X.prog X.w) X.A X.env xe → PSs (X.tr pn xe) body (tb W))
    (hh : HdsX X (h₀ :: hds) l) : PS X (.Try body (h₀ :: hds) [] [] pos) (fun D σ H => tb (wX X.K Wout D l) D σ H) := by
  refine ⟨fun pins s σ H D I h => ?_⟩
  have ok := I.ok
  have hfr : X.A.frames = some (X.env :: X.outer) := by rw [ok.frames, hs]
  refine wpAny_Try_except ?_
  refine wpAny_mono ((hb (wX X.K Wout D l) (X.pn ++ pins) (fun e s₁ => wpAny (model X.prog X.w) X.A (noteFrame e X.env) (fun _ s₂ => wpAny (model X.prog X.w) X.A (setFlight e none) (fun _ s₃ =>
    wpAny (model X.prog X.w) X.A (handleBy e X.env (h₀ :: hds)) (SP X pins D) X.xe s₃) X.xe s₂) X.xe s₁) (fun u s' xx => ?_) PassesOwn.looking).run [] s σ H D (I.toTry _) h) (fun f s1 hsp => ?_) (fun e s1 he => he)
  · obtain ⟨a, B, sI, pins', σ', H', cls, d, rfl, J', nb, up, sky, na, os, ag, w⟩ := xx
    have J : Inv X pins σ' H' sI := J'.ofTry ok
    have sky' : Sky B (X.env :: X.outer) a (Zc cls d) X.env.locals s'.heap := by rw [← hs]; exact sky
    show wpAny (model X.prog X.w) X.A (noteFrame (.ref a) X.env) _ _ _
    refine Sky.land Zc.steady hfr hf sky' fun h3 fl3 up3 => ?_
    have bNone : B.get? a = none := fl3.2.1
    have nfr : a ∉ frs (X.env :: X.outer) := by
      obtain ⟨oe, vs, e, _, dd⟩ := fl3.there
      intro hm
      obtain ⟨_, o', e', hnf⟩ := fl3.2.2.1.mem hm
      rw [e] at e'; cases e'
      exact hnf _ dd
    have nL : a ≠ X.env.locals := fun z => nfr (List.mem_filterMap.mpr ⟨X.env, List.mem_cons_self, by rw [hf, z]⟩)
    have nI : sI.heap.get? a = none := by
      cases e : sI.heap.get? a with
      | none => rfl
      | some o =>
        have := nb a o e (by rw [hs]; exact nfr)
        rw [bNone] at this
        cases this
    have n0 : X.s_0.heap.get? a = none := by
      cases e : X.s_0.heap.get? a with
      | none => rfl
      | some o =>
        obtain ⟨o', e'⟩ := J.base.there a o e (by rw [hex]; intro z; cases z)
        rw [nI] at e'
        cases e'
    have nc : ∀ x c, X.env.cells.lookup x = some c → c ≠ a := fun x c e z => by
      obtain ⟨v, o, ho, _⟩ := J.cell x c e
      rw [z, nI] at ho
      cases ho
    have np : ∀ p ∈ X.pn ++ pins, p.1 ≠ a := fun p hp z => by
      obtain ⟨e, _⟩ := J.pin p hp
      rw [z, nI] at e
      cases e
    have go : ∀ {hds' : List ExceptHandler} {l' : List HdX}, HdsX X hds' l' → wX X.K Wout D l' cls d σ' H' → ∀ h3, HandSPX.FlyingZ B (X.env :: X.outer) a (Zc cls d) h3 → sI.heap.UpToSlots h3 →
        wpAny (model X.prog X.w) X.A (handleBy (.ref a) X.env hds') (SP X pins D) X.xe { s' with heap := h3 } := by
      intro hds' l' hk
      induction hk with
      | nil =>
        intro w h3 fl3 up3
        refine wpAny_handleBy_nil ?_
        obtain ⟨k1, k2, k3, oe, vs, T, oT, ts', he, hz, hd, h1, hr⟩ := id fl3
        unfold PySem.passOn
        refine wpAny_bind (wpAny_field he hd h1 ?_)
        rw [if_neg (show ¬ ((Value.ref T == Value.none) = true) from by simp)]
        have fin : wpAny (model X.prog X.w) X.A (setFlight (.ref a) X.env.frame) (fun _ s4 => wpAny (model X.prog X.w) X.A (throw (.ref a) : Sem Flow) (SP X pins D) X.xe s4) X.xe { s' with heap := h3 } := by
          rw [hf]
          refine HandSPX.setFlight_upZ fl3 fun h4 hh4 up4 => wpAny_throw (tk _ _ ?_)
          exact ⟨a, B, sI, pins, σ', H', cls, d, rfl, J, nb, up3.trans up4, .inr (.inr (by rw [hs]; exact hh4)), na, os, ag, w⟩
        first
          | exact wpAny_bind (wpAny_pure (wpAny_bind fin))
          | exact wpAny_bind fin
      | @cons te n b₀ suite pos' hds2 hd l2 ht hn hsu r ih =>
        intro w h3 fl3 up3
        obtain ⟨b, hb1, hyes, hno⟩ := w
        have J3 : Inv X pins σ' H' { s' with heap := h3 } := J.landed (s' := { s' with heap := h3 }) nb fl3.1 up3 os ag
        refine wpAny_handleBy_cons (codeAny_handlers_test ?_) (by intro q; cases q)
        refine ht a (X.pn ++ pins) [] σ' H' _ _ _ (Inv.suite0 J3 a) fun v h' k LM => ?_
        have fl' := flyingZ_keeps fl3 k
        have up' := up3.trans (Heap.UpToSlots.of_keeps k)
        obtain ⟨oe', vs', he', hz', hd'⟩ := fl'.there
        have LT : PySem.W.Looks (model X.prog X.w) h' (typeOf (.ref a)) cls := fun A Q E s k q => wpAny_typeOf_ref (k _ _ he') (by rw [hz'.1]; exact q)
        refine (LM (model X.prog X.w) a cls b (J3.kIn.keeps k) LT hb1).here ?_
        cases b with
        | false =>
          show wpAny _ X.A (handleBy (.ref a) X.env hds2) _ _ _
          exact ih (hno rfl) h' fl' up'
        | true =>
          obtain ⟨C, rfl, rfl, hts⟩ := hyes rfl
          have tr : ∀ h4, HandSPX.FlyingZ B (X.env :: X.outer) a (Zc (.ref C) none) h4 → h'.UpToSlots h4 → Inv X pins σ' (upd H' a (xcO a C)) { s' with heap := h4 } := fun h4 fl4 up4 => by
            have J4 : Inv X pins σ' H' { s' with heap := h4 } := J.landed (s' := { s' with heap := h4 }) nb fl4.1 (up'.trans up4) os ag
            obtain ⟨oe4, vs4, he4, hz4, hd4⟩ := fl4.there
            exact Inv.track J4 na (fun H' => xcO_ok he4 hz4.1 hz4.2 hd4) n0 nL nc np
          have ts := hts a na
          cases hnm : hd.nm with
          | none =>
            rw [hnm] at ts hn
            cases n with
            | some n => exact hn.elim
            | none =>
              refine codeAny_handlers_suite ?_
              refine HandSPX.lands_againZ fl' fun h4 fl4 up4 => ?_
              have S4 := Inv.suite0 (tr h4 fl4 up4) a
              refine wpAny_mono ((hsu a (X.pn ++ pins)).run [] _ _ _ _ S4 ts) (fun f s6 hsp => ?_) (fun _ _ z => False.elim z)
              cases f with
              | next =>
                obtain ⟨σ6, H6, S6, q6⟩ := hsp
                exact ⟨_, _, Inv.unsuite0 S6 ok, q6⟩
              | brk =>
                obtain ⟨σ6, H6, S6, q6⟩ := hsp
                exact ⟨_, _, Inv.unsuite0 S6 ok, q6⟩
              | cont =>
                obtain ⟨σ6, H6, S6, q6⟩ := hsp
                exact ⟨_, _, Inv.unsuite0 S6 ok, q6⟩
              | ret u =>
                obtain ⟨v6, σ6, H6, S6, r6, q6⟩ := hsp
                exact ⟨_, _, _, Inv.unsuite0 S6 ok, r6, q6⟩
          | some i =>
            rw [hnm] at ts hn
            cases n with
            | none => exact hn.elim
            | some n =>
              obtain ⟨hi, hln⟩ := hn
              have hloc : Loc X.env.scope n := .inl hln
              refine codeAny_handlers_suite_as ?_
              refine HandSPX.lands_againZ fl' fun h4 fl4 up4 => ?_
              have S4 := Inv.suite0 (tr h4 fl4 up4) a
              refine store_ok (X := X.suite a (X.pn ++ pins)) (v := .ref a) S4 hN hi hloc rfl (fun s5 S5 => ?_) (.inr hln)
              refine wpAny_mono ((hsu a (X.pn ++ pins)).run [] s5 _ _ _ S5 ts) (fun f s6 hsp => ?_) (fun _ _ z => False.elim z)
              have end_ : ∀ {σ6 : L2.St} {H6 : Hp} {Q : Shared → Prop}, Inv (X.suite a (X.pn ++ pins)) [] σ6 H6 s6 → (∀ s7, Inv X pins (σ6.set i none) H6 s7 → Q s7) →
                  wpAny (model X.prog X.w) X.A (do bindName X.env n .none; unbindBehindTheSuite X.env n pos') (fun _ s7 => Q s7) X.xe s6 := fun {σ6 H6 Q} S6 hq => gone_ok (Inv.unsuite0 S6 ok) hN hi hln hq
              cases f with
              | next =>
                obtain ⟨σ6, H6, S6, q6⟩ := hsp
                exact end_ S6 fun s7 J7 => ⟨_, _, J7, q6⟩
              | brk =>
                obtain ⟨σ6, H6, S6, q6⟩ := hsp
                exact end_ S6 fun s7 J7 => ⟨_, _, J7, q6⟩
              | cont =>
                obtain ⟨σ6, H6, S6, q6⟩ := hsp
                exact end_ S6 fun s7 J7 => ⟨_, _, J7, q6⟩
              | ret u =>
                obtain ⟨v6, σ6, H6, S6, r6, q6⟩ := hsp
                exact end_ S6 fun s7 J7 => ⟨_, _, _, J7, r6, q6⟩
    exact go hh w h3 fl3 (up.trans up3)
  · cases f with
    | next =>
      obtain ⟨σ', H', J', q⟩ := hsp
      exact wpAny_execs_nil ⟨σ', H', J'.ofTry ok, q⟩
    | brk =>
      obtain ⟨σ', H', J', q⟩ := hsp
      exact ⟨σ', H', J'.ofTry ok, q⟩
    | cont =>
      obtain ⟨σ', H', J', q⟩ := hsp
      exact ⟨σ', H', J'.ofTry ok, q⟩
    | ret u =>
      obtain ⟨v, σ', H', J', r, q⟩ := hsp
      exact ⟨v, σ', H', J'.ofTry ok, r, q⟩
end
end GK

/-! a small language of pure python over deep values, and its meaning -/
namespace GK
open PySem PySem.Spec PyProof.Rows L2

abbrev D := PyData
inductive Err where
  | stuck | raised (c : Str)
abbrev M (α : Type) := Except Err α
def stk {α : Type} : M α := .error .stuck
/-- how a value is held: frozen; owned (new, reached by one name alone); peeked at -/
inductive Md where
  | f | o | p
  deriving DecidableEq
structure Sl where
  m : Md
  d : D
abbrev Rho := List (Option Sl)

inductive B1 where
  | len | list | tuple | int | str | sum | all | any | sorted
inductive Ty where
  | int | bool | str | list | tuple | dict
inductive Tg where
  | nm (i : Nat) | tp (is : List Nat)
mutual
inductive E where
  | var (i : Nat) | int (n : Nat) | bl (b : Bool) | non | str (s : Str)
  | bin (op : Operator) (a b : E)
  | neg (a : E) | inv (a : E)
  | cmp (op : CmpOp) (a b : E)
  | chn (op op' : CmpOp) (a b c : E)
  | isN (a : E) | notN (a : E)
  | and (a b : E) | or (a b : E) | not (a : E)
  | ife (c a b : E)
  | tup (es : Es) | lst (es : Es)
  | ix (a i : E)
  | sl (a : E) (lo hi : Eo)
  | call (f : Str) (es : Es)
  | b1 (b : B1) (a : E)
  | isi (a : E) (t : Ty)
  | lc (elt : E) (tg : Tg) (it : Iu) (ifs : Eo) (vs : List Nat)
  | lrg (it : Iu)
  | glb (x : Str) (n : Nat)
  | mm (mx : Bool) (a b : E)
  | rvl (a : E)
  | nev
  | dnw
  | dsp1 (k v : E)
  | sst (a : E)
  | gk (x : Str) (d : D)
  | gdx (x : Str) (kvs : List (Str × D)) (i : E)
  | isx (a : E) (c : Str)
  | dsp (ps : Ps)
  | lns (a : E)
  | pk2 (a b c : E)
inductive Ps where
  | nil | cons (k v : E) (r : Ps)
inductive Es where
  | nil | cons (e : E) (es : Es)
inductive Eo where
  | none | some (e : E)
inductive Iu where
  | rg1 (a : E) | rg2 (a b : E) | seq (e : E) | rg3 (a b c : E) | enm (e : E) | zp (a b : E) | rev (e : E) | rvr (a : E)
end
/-- what is done with what a call hands back -/
inductive Ck where
  | asg (t : Tg) | ret | exp
/-- a part of an expression that changes something, or may raise -/
inductive Ef where
  | call (f : Str) (es : Es)
  | pop (x : Nat)
  | popA (x : Nat) (i : E)
  | popK (x : Nat) (k : E)
/-- what is done with it -/
inductive Ek where
  | asg (t : Tg) | ret | exp | app (y : Nat) | set (y : Nat) (i : E)
/-- what stands around it -/
inductive Po where
  | hd
  | ixn (p : Po) (n : Nat)
  | isN (p : Po)
  | eqS (p : Po) (s : Str)
  | lst1 (p : Po)
  | opI (op : Operator) (a : Nat) (p : Po)
  | ixv (y : Nat) (p : Po)
mutual
inductive S where
  | ef (k : Ek) (e : Ef) (p : Po)
  | eft (e : Ef) (p : Po) (a b : Ss)
  | ins (x : Nat) (i e : E)
  | fst (t x y : Nat) (c : Bool)
  | asg (t : Tg) (e : E)
  | setix (x : Nat) (i e : E)
  | aug (x : Nat) (op : Operator) (e : E)
  | app (x : Nat) (e : E)
  | ext (x : Nat) (e : E)
  | exp (e : E)
  | ret (e : E)
  | retN
  | ite (c : E) (a b : Ss)
  | for_ (t : Tg) (it : Iu) (b : Ss)
  | whl (c : E) (b : Ss)
  | brk | cont | pass | nvr
  | ndn (x : Nat)
  | rse (c : Str)
  | cst (k : Ck) (f : Str) (es : Es)
  | tr (b : Ss) (hs : Hs)
inductive Ss where
  | nil | cons (s : S) (ss : Ss) | frz (i : Nat) (ss : Ss)
inductive Hs where
  | nil | cons (cs : List Str) (nm : Option Nat) (b : Ss) (r : Hs)
end

/-! ### the meaning -/
def asF : Sl → M D
  | ⟨.p, _⟩ => stk
  | ⟨_, d⟩ => .ok d
def fI (i : Int) : Sl := ⟨.f, .int i⟩
def fB (b : Bool) : Sl := ⟨.f, .bool b⟩
def ckI (c : Bool) (i : Int) : M Sl := if c then .ok (fI i) else stk
def ckO (c : Bool) (xs : List D) : M Sl := if c then .ok ⟨.o, .list xs⟩ else stk
def mulOk (i j : Int) : Bool := (decide (-(2 ^ 64) < i) && decide (i < 2 ^ 64)) || (decide (-(2 ^ 64) < j) && decide (j < 2 ^ 64))
def powOk (i j : Int) : Bool := decide (0 ≤ j) && decide (j ≤ 1000000) && decide (i.natAbs < 2 ^ 64)
def lenOk (n : Nat) : Bool := decide (n ≤ 16777216)
def binI (op : Operator) (i j : Int) : M Sl := match op with
  | .Add => .ok (fI (i + j))
  | .Sub => .ok (fI (i - j))
  | .Mult => ckI (mulOk i j) (i * j)
  | .FloorDiv => ckI (decide (0 < j) && decide (j < 1073741824)) (i / j)
  | .Mod => ckI (decide (0 < j)) (i % j)
  | .Pow => ckI (powOk i j) (i ^ j.toNat)
  | .LShift => ckI (powOk i j) (i * 2 ^ j.toNat)
  | .RShift => ckI (decide (0 ≤ j)) (i / 2 ^ j.toNat)
  | .BitAnd => .ok (fI (Builtin.bitAnd i j))
  | .BitOr => .ok (fI (Builtin.bitOr i j))
  | .BitXor => .ok (fI (Builtin.bitXor i j))
  | _ => stk
def repOk (n : Nat) (k : Int) : Bool := decide (-(2 ^ 63) ≤ k) && decide (k < 2 ^ 63) && decide (n * k.toNat ≤ 16777216)
def isF : Md → Bool
  | .f => true
  | _ => false
def binop (op : Operator) (m : Md) : D → D → M Sl
  | .int i, .int j => binI op i j
  | .list xs, .list ys => match op with
    | .Add => ckO (lenOk (xs.length + ys.length)) (xs ++ ys)
    | _ => stk
  | .list xs, .int k => match op with
    | .Mult => ckO (repOk xs.length k && !isF m) (List.replicate k.toNat xs).flatten
    | _ => stk
  | .tuple xs, .tuple ys => match op with
    | .Add => if lenOk (xs.length + ys.length) then .ok ⟨.f, .tuple (xs ++ ys)⟩ else stk
    | _ => stk
  | _, _ => stk
def unop (inv : Bool) : D → M Sl
  | .int i => .ok (fI (if inv then Builtin.bitNot i else -i))
  | _ => stk
/-- .. deeper data, without dicts -/
def deepD (d : D) : Bool := d.canLay0 && decide (d.depth ≤ 400)
def deq (x y : D) : M Bool := if SeqAt.shaped x && SeqAt.shaped y then .ok (PyData.eqv x y) else if deepD x && deepD y then .ok (PyData.eqv x y) else stk
def keyOk : D → Bool
  | .int _ => true
  | .str _ => true
  | _ => false
def keq : D → D → Bool
  | .int i, .int j => decide (i = j)
  | .str x, .str y => decide (x = y)
  | _, _ => false
def lookD (ds : List (D × D)) (k : D) : Option D := (ds.find? fun p => keq p.1 k).map (·.2)
def putD (ds : List (D × D)) (k v : D) : List (D × D) := if (ds.any fun p => keq p.1 k) = true then ds.map (fun p => if keq p.1 k = true then (p.1, v) else p) else ds ++ [(k, v)]
/-- a dict with nested tuples as keys is marked by a first pair of Nones -/
def nmk : List (D × D) → Bool
  | (.none, _) :: _ => false
  | (.bool _, _) :: _ => false
  | _ => true
def nmkD : D → Bool
  | .dict ds => nmk ds
  | _ => true
mutual
def nkD : D → Option NestedKey
  | .int i => some (.num i)
  | .tuple ds => (nkDs ds).map .tup
  | .none => none
  | .bool _ => none
  | .str _ => none
  | .list _ => none
  | .dict _ => none
def nkDs : List D → Option (List NestedKey)
  | [] => some []
  | d :: ds => match nkD d, nkDs ds with
    | some k, some ks => some (k :: ks)
    | _, _ => none
end
def isT : D → Bool
  | .tuple _ => true
  | _ => false
def nkOk (d : D) : Bool := isT d && match nkD d with
  | some k => decide (k.depth ≤ 8)
  | none => false
def lookN (ps : List (D × D)) (j : D) : Option D := (ps.find? fun p => decide (nkD p.1 = nkD j)).map (·.2)
def putN (ps : List (D × D)) (j v : D) : List (D × D) := if (lookN ps j).isSome then ps.map (fun p => if nkD p.1 = nkD j then (p.1, v) else p) else ps ++ [(j, v)]
def inN (x : D) : List (D × D) → M Bool
  | (.none, .none) :: ps => .ok (lookN ps x).isSome
  | _ => stk
def getN (x : D) : List (D × D) → M D
  | (.none, .none) :: ps => match lookN ps x with
    | some d => .ok d
    | none => stk
  | _ => stk
def setN (x v : D) : List (D × D) → M D
  | (.none, .none) :: ps => if lenOk (ps.length + 1) then .ok (.dict ((.none, .none) :: putN ps x v)) else stk
  | _ => stk
def inK (x : D) (ds : List (D × D)) : M Bool := if keyOk x && nmk ds then .ok (lookD ds x).isSome else if nkOk x then inN x ds else stk
def flatD : D → Bool
  | .none => true
  | .bool _ => true
  | .int _ => true
  | .str _ => true
  | _ => false
def inD (x : D) (ds : List D) : M Bool := if SeqAt.shaped x && SeqAt.shaped (.list ds) then .ok (ds.any fun z => PyData.eqv z x) else stk
def inF (x : D) (ds : List D) : M Bool := if flatD x && ds.all flatD then .ok (ds.any fun z => PyData.eqv z x) else if SeqAt.shaped x && SeqAt.shaped (.tuple ds) then .ok (ds.any fun z => PyData.eqv z x) else stk
def negM : M Bool → M Bool
  | .ok b => .ok (!b)
  | .error e => .error e
def cmpop (op : CmpOp) (x y : D) : M Bool := match op, x, y with
  | .Eq, _, _ => deq x y
  | .NotEq, _, _ => match deq x y with
    | .ok b => .ok (!b)
    | .error e => .error e
  | .Lt, .int i, .int j => .ok (decide (i < j))
  | .LtE, .int i, .int j => .ok (decide (i ≤ j))
  | .Gt, .int i, .int j => .ok (decide (j < i))
  | .GtE, .int i, .int j => .ok (decide (j ≤ i))
  | .Is, .bool a, .bool b => .ok (decide (a = b))
  | .IsNot, .bool a, .bool b => .ok (!decide (a = b))
  | .In, x, .list ds => inD x ds
  | .NotIn, x, .list ds => negM (inD x ds)
  | .In, x, .tuple ds => inF x ds
  | .In, x, .dict ds => inK x ds
  | .NotIn, x, .dict ds => negM (inK x ds)
  | .NotIn, x, .tuple ds => negM (inF x ds)
  | _, _, _ => stk
def isNone : D → Bool
  | .none => true
  | _ => false
def asB : D → M Bool
  | .bool b => .ok b
  | _ => stk
def ixD : D → D → M Sl
  | .list xs, .int i => match atI xs i with
    | some d => .ok ⟨.f, d⟩
    | none => stk
  | .tuple xs, .int i => match atI xs i with
    | some d => .ok ⟨.f, d⟩
    | none => stk
  | .dict ds, k => if keyOk k then match lookD ds k with
    | some d => .ok ⟨.f, d⟩
    | none => stk
    else if nkOk k then do
      let d ← getN k ds
      pure ⟨.f, d⟩
    else stk
  | _, _ => stk
def cutD (xs : List D) (lo hi : Option Int) : List D := (xs.drop (HT.sIx xs.length 0 lo)).take (HT.sIx xs.length xs.length hi - HT.sIx xs.length 0 lo)
def slD : D → Option Int → Option Int → M Sl
  | .list xs, lo, hi => .ok ⟨.o, .list (cutD xs lo hi)⟩
  | .tuple xs, lo, hi => .ok ⟨.f, .tuple (cutD xs lo hi)⟩
  | _, _, _ => stk
def intsD : List D → Option (List Int)
  | [] => some []
  | .int i :: r => (intsD r).map (i :: ·)
  | _ => none
def boolsD : List D → Option (List Bool)
  | [] => some []
  | .bool i :: r => (boolsD r).map (i :: ·)
  | _ => none
def insI (i : Int) : List Int → List Int
  | [] => [i]
  | j :: r => if i ≤ j then i :: j :: r else j :: insI i r
def sortI : List Int → List Int
  | [] => []
  | i :: r => insI i (sortI r)
def b1D (b : B1) (d : D) : M Sl := match b, d with
  | .len, .list xs => .ok (fI xs.length)
  | .len, .tuple xs => .ok (fI xs.length)
  | .len, .dict ds => if nmk ds then .ok (fI ds.length) else stk
  | .list, .list xs => .ok ⟨.o, .list xs⟩
  | .list, .tuple xs => .ok ⟨.o, .list xs⟩
  | .tuple, .list xs => .ok ⟨.f, .tuple xs⟩
  | .tuple, .tuple xs => .ok ⟨.f, .tuple xs⟩
  | .tuple, .dict ((.none, .none) :: ps) => .ok ⟨.f, .tuple (ps.map (·.1))⟩
  | .int, .int i => .ok (fI i)
  | .int, .bool b => .ok (fI (if b then 1 else 0))
  | .str, .int i => if decide (i.natAbs.log2 < 1920) then .ok ⟨.f, .str (toString i)⟩ else stk
  | .sum, .list xs => match intsD xs with
    | some ns => .ok (fI ns.sum)
    | none => stk
  | .all, .list xs => match boolsD xs with
    | some bs => .ok (fB (bs.all id))
    | none => stk
  | .any, .list xs => match boolsD xs with
    | some bs => .ok (fB (bs.any id))
    | none => stk
  | .sorted, .list xs => match intsD xs with
    | some ns => .ok ⟨.o, .list ((sortI ns).map .int)⟩
    | none => stk
  | .sorted, .dict ds => match intsD (ds.map (·.1)) with
    | some ns => .ok ⟨.o, .list ((sortI ns).map .int)⟩
    | none => stk
  | _, _ => stk
def tyD : D → String
  | .none => "NoneType"
  | .bool _ => "bool"
  | .int _ => "int"
  | .str _ => "str"
  | .list _ => "list"
  | .tuple _ => "tuple"
  | .dict _ => "dict"
def tyN : Ty → String
  | .int => "int"
  | .bool => "bool"
  | .str => "str"
  | .list => "list"
  | .tuple => "tuple"
  | .dict => "dict"
def isiD : D → Ty → Bool
  | .int _, .int => true
  | .bool _, .int => true
  | .bool _, .bool => true
  | .str _, .str => true
  | .list _, .list => true
  | .tuple _, .tuple => true
  | .dict _, .dict => true
  | _, _ => false
def itemsD : D → M (List D)
  | .list xs => .ok xs
  | .tuple xs => .ok xs
  | _ => stk
def rngD (i j : Int) : M (List D) := if decide (-(2 ^ 62) ≤ i) && decide (i < 2 ^ 62) && decide (-(2 ^ 62) ≤ j) && decide (j < 2 ^ 62) then .ok ((List.range (j - i).toNat).map fun k => .int (i + (k : Nat))) else stk
def enumD (xs : List D) : List D := (List.range xs.length).map fun i => .tuple [.int (i : Nat), xs.getD i .none]
def zipD (xs ys : List D) : List D := (List.range (min xs.length ys.length)).map fun i => .tuple [xs.getD i .none, ys.getD i .none]
def rng3D (i j c : Int) : M (List D) := if decide (c ≠ 0) && decide (c.natAbs < 1073741824) && Builtin.Range.small i j c && decide (0 ≤ Builtin.Range.rangeSize i j c) then .ok ((List.range (Builtin.Range.rangeSize i j c).toNat).map fun k => .int (i + (k : Nat) * c)) else stk
def pairD : D → D → M (List D)
  | .list xs, .list ys => .ok (zipD xs ys)
  | .tuple xs, .tuple ys => .ok (zipD xs ys)
  | _, _ => stk
def setAll : List Nat → List D → Rho → Option Rho
  | [], [], ρ => some ρ
  | i :: is, d :: ds, ρ => setAll is ds (ρ.set i (some ⟨.f, d⟩))
  | _, _, _ => none
/-- a value is stored to a target -/
def bindT (t : Tg) (s : Sl) (ρ : Rho) : M Rho := match t with
  | .nm i => match s.m with
    | .p => stk
    | _ => .ok (ρ.set i (some s))
  | .tp is => match s.d with
    | .tuple ds => match setAll is ds ρ with
      | some ρ' => .ok ρ'
      | none => stk
    | .list ds => match setAll is ds ρ with
      | some ρ' => .ok ρ'
      | none => stk
    | _ => stk
def wipeR (ρ : Rho) : List Nat → Rho
  | [] => ρ
  | v :: vs => (wipeR ρ vs).set v none
/-- a comprehension's turns -/
def lcGo (f : D → M (Option D)) : List D → M (List D)
  | [] => .ok []
  | x :: xs => do
    let y ← f x
    let r ← lcGo f xs
    pure (match y with
      | some d => d :: r
      | none => r)
def tgIn (vs : List Nat) : Tg → Bool
  | .nm i => vs.contains i
  | .tp is => is.all vs.contains
def isRg : Iu → Bool
  | .rg1 _ => true
  | .rg2 _ _ => true
  | _ => false
def esLen : Es → Nat
  | .nil => 0
  | .cons _ es => esLen es + 1
def argS : Sl → Sl
  | ⟨.o, d⟩ => ⟨.f, d⟩
  | s => s

def mmD (mx : Bool) : D → D → M Sl
  | .int i, .int j => .ok (fI (if mx then (if j > i then j else i) else (if j < i then j else i)))
  | _, _ => stk
def rvD : D → M Sl
  | .list xs => .ok ⟨.o, .list xs.reverse⟩
  | _ => stk
def dedI : List Int → List Int
  | [] => []
  | i :: r => if i ∈ r then dedI r else i :: dedI r
/-- sorted(set(x)) -/
def sstD (d : D) : M Sl := match itemsD d with
  | .ok xs => match intsD xs with
    | some ns => if ns.length < 4000 then .ok ⟨.o, .list ((sortI (dedI ns)).map .int)⟩ else stk
    | none => stk
  | .error _ => stk
/-- len(set(x)) -/
def lnsD (d : D) : M Sl := match itemsD d with
  | .ok xs => match intsD xs with
    | some ns => if ns.length < 4000 then .ok (fI ((dedI ns).length : Nat)) else stk
    | none => stk
  | .error _ => stk
/-- a table of the module, looked up -/
def gdxD (kvs : List (Str × D)) (y : D) : M Sl := match y with
  | .str z => match kvs.lookup z with
    | some d => .ok ⟨.f, d⟩
    | none => stk
  | _ => stk
/-- a dict of pairs -/
def dspD (kvs : List (D × D)) : D := .dict (kvs.foldl (fun acc p => putD acc p.1 p.2) [])
/-! exceptions: the classes' names, what is below what; an exception as a value -/
def xall : List Str := ["GateError", "NoRelation", "TooMany", "TooBig", "NotAll", "NotMade", "NoText", "NoName", "NoRow", "ValueError"]
def xsub (c d : Str) : Bool := decide (c = d) || (decide (d = "GateError") || decide (d = "ValueError"))
def xcD (c : Str) : D := .dict [(.bool true, .str c)]
def isxS (s : Sl) (d : Str) : M Sl := match s with
  | ⟨.f, .dict [(.bool true, .str c)]⟩ => if xall.contains d then .ok (fB (xsub c d)) else stk
  | _ => stk
mutual
def evE (cl : Str → List Sl → M Sl) : E → Rho → M Sl
  | .var i, ρ => match ρ[i]? with
    | some (some ⟨.f, d⟩) => .ok ⟨.f, d⟩
    | some (some ⟨_, d⟩) => .ok ⟨.p, d⟩
    | _ => stk
  | .int n, _ => .ok (fI (n : Int))
  | .bl b, _ => .ok (fB b)
  | .non, _ => .ok ⟨.f, .none⟩
  | .str s, _ => .ok ⟨.f, .str s⟩
  | .bin op a b, ρ => do
    let x ← evE cl a ρ
    let y ← evE cl b ρ
    binop op x.m x.d y.d
  | .neg a, ρ => do
    let x ← evE cl a ρ
    unop false x.d
  | .inv a, ρ => do
    let x ← evE cl a ρ
    unop true x.d
  | .cmp op a b, ρ => do
    let x ← evE cl a ρ
    let y ← evE cl b ρ
    let r ← cmpop op x.d y.d
    pure (fB r)
  | .chn op op' a b c, ρ => do
    let x ← evE cl a ρ
    let y ← evE cl b ρ
    let r ← cmpop op x.d y.d
    if r then do
      let z ← evE cl c ρ
      let r' ← cmpop op' y.d z.d
      pure (fB r')
    else pure (fB false)
  | .isN a, ρ => do
    let x ← evE cl a ρ
    pure (fB (isNone x.d))
  | .notN a, ρ => do
    let x ← evE cl a ρ
    pure (fB (!isNone x.d))
  | .and a b, ρ => do
    let x ← evE cl a ρ
    let c ← asB x.d
    if c then evE cl b ρ else pure (fB false)
  | .or a b, ρ => do
    let x ← evE cl a ρ
    let c ← asB x.d
    if c then pure (fB true) else evE cl b ρ
  | .not a, ρ => do
    let x ← evE cl a ρ
    let c ← asB x.d
    pure (fB (!c))
  | .ife c a b, ρ => do
    let x ← evE cl c ρ
    let k ← asB x.d
    if k then evE cl a ρ else evE cl b ρ
  | .tup es, ρ => if esLen es ≤ 1000 then do
      let ds ← evF cl es ρ
      pure ⟨.f, .tuple ds⟩
    else stk
  | .lst es, ρ => if esLen es ≤ 1000 then do
      let ds ← evF cl es ρ
      pure ⟨.o, .list ds⟩
    else stk
  | .ix a i, ρ => do
    let x ← evE cl a ρ
    let y ← evE cl i ρ
    ixD x.d y.d
  | .sl a lo hi, ρ => do
    let x ← evE cl a ρ
    let l ← evO cl lo ρ
    let u ← evO cl hi ρ
    slD x.d l u
  | .call f es, ρ => do
    let ss ← evA cl es ρ
    cl f ss
  | .b1 b a, ρ => do
    let x ← evE cl a ρ
    b1D b x.d
  | .isi a t, ρ => do
    let x ← evE cl a ρ
    if nmkD x.d then pure (fB (isiD x.d t)) else stk
  | .isx a c, ρ => do
    let x ← evE cl a ρ
    isxS x c
  | .lc elt tg it ifs vs, ρ => do
    let xs ← evI cl it ρ
    let ys ← lcGo (fun d => do
      let ρ' ← bindT tg ⟨.f, d⟩ (wipeR ρ vs)
      let c ← evC cl ifs ρ'
      if c then do
        let y ← evE cl elt ρ'
        let d ← asF y
        pure (some d)
      else pure none) xs
    if lenOk xs.length && tgIn vs tg then pure ⟨.o, .list ys⟩ else stk
  | .lrg it, ρ => do
    let xs ← evI cl it ρ
    if lenOk xs.length && isRg it then pure ⟨.o, .list xs⟩ else stk
  | .glb _ n, _ => .ok (fI (n : Int))
  | .mm mx a b, ρ => do
    let x ← evE cl a ρ
    let y ← evE cl b ρ
    mmD mx x.d y.d
  | .rvl a, ρ => do
    let x ← evE cl a ρ
    rvD x.d
  | .nev, _ => stk
  | .dnw, _ => .ok ⟨.o, .dict []⟩
  | .dsp1 k v, ρ => do
    let x ← evE cl k ρ
    let y ← evE cl v ρ
    let d ← asF y
    if keyOk x.d then pure ⟨.o, .dict [(x.d, d)]⟩ else stk
  | .sst a, ρ => do
    let x ← evE cl a ρ
    sstD x.d
  | .gk _ d, _ => .ok ⟨.f, d⟩
  | .gdx _ kvs i, ρ => do
    let x ← evE cl i ρ
    gdxD kvs x.d
  | .dsp ps, ρ => do
    let kvs ← evP cl ps ρ
    if decide (kvs.length ≤ 15) then pure ⟨.o, dspD kvs⟩ else stk
  | .lns a, ρ => do
    let x ← evE cl a ρ
    lnsD x.d
  | .pk2 a b c, ρ => do
    let x ← evE cl a ρ
    let dx ← asF x
    let y ← evE cl b ρ
    let dy ← asF y
    let z ← evE cl c ρ
    let k ← asB z.d
    pure ⟨.f, if k then dy else dx⟩
/-- the pairs of a dict display -/
def evP (cl : Str → List Sl → M Sl) : Ps → Rho → M (List (D × D))
  | .nil, _ => .ok []
  | .cons k v r, ρ => do
    let x ← evE cl k ρ
    let y ← evE cl v ρ
    let d ← asF y
    let ds ← evP cl r ρ
    if keyOk x.d then pure ((x.d, d) :: ds) else stk
/-- items of a display: frozen -/
def evF (cl : Str → List Sl → M Sl) : Es → Rho → M (List D)
  | .nil, _ => .ok []
  | .cons e es, ρ => do
    let x ← evE cl e ρ
    let d ← asF x
    let ds ← evF cl es ρ
    pure (d :: ds)
/-- arguments of a call: frozen or peeked at -/
def evA (cl : Str → List Sl → M Sl) : Es → Rho → M (List Sl)
  | .nil, _ => .ok []
  | .cons e es, ρ => do
    let x ← evE cl e ρ
    let ds ← evA cl es ρ
    pure (argS x :: ds)
def evO (cl : Str → List Sl → M Sl) : Eo → Rho → M (Option Int)
  | .none, _ => .ok none
  | .some e, ρ => do
    let x ← evE cl e ρ
    match x.d with
    | .int i => pure (some i)
    | _ => stk
def evC (cl : Str → List Sl → M Sl) : Eo → Rho → M Bool
  | .none, _ => .ok true
  | .some e, ρ => do
    let x ← evE cl e ρ
    asB x.d
def evI (cl : Str → List Sl → M Sl) : Iu → Rho → M (List D)
  | .rg1 a, ρ => do
    let x ← evE cl a ρ
    match x.d with
    | .int j => rngD 0 j
    | _ => stk
  | .rg2 a b, ρ => do
    let x ← evE cl a ρ
    let y ← evE cl b ρ
    match x.d, y.d with
    | .int i, .int j => rngD i j
    | _, _ => stk
  | .seq e, ρ => do
    let x ← evE cl e ρ
    itemsD x.d
  | .rg3 a b c, ρ => do
    let x ← evE cl a ρ
    let y ← evE cl b ρ
    let z ← evE cl c ρ
    match x.d, y.d, z.d with
    | .int i, .int j, .int k => rng3D i j k
    | _, _, _ => stk
  | .enm e, ρ => do
    let x ← evE cl e ρ
    let xs ← itemsD x.d
    pure (enumD xs)
  | .zp a b, ρ => do
    let x ← evE cl a ρ
    let y ← evE cl b ρ
    pairD x.d y.d
  | .rev e, ρ => do
    let x ← evE cl e ρ
    let xs ← itemsD x.d
    pure xs.reverse
  | .rvr a, ρ => do
    let x ← evE cl a ρ
    match x.d with
    | .int j => do
      let xs ← rngD 0 j
      pure xs.reverse
    | _ => stk
end

inductive Fl where
  | nx (ρ : Rho) | bk (ρ : Rho) | ct (ρ : Rho) | rt (s : Sl) | rz (c : Str) (ρ : Rho)
/-- a loop's turns -/
def forGo (bind : D → Rho → M Rho) (body : Rho → M Fl) : List D → Rho → M Fl
  | [], ρ => .ok (.nx ρ)
  | x :: xs, ρ => do
    let ρ1 ← bind x ρ
    let r ← body ρ1
    match r with
    | .nx ρ' => forGo bind body xs ρ'
    | .ct ρ' => forGo bind body xs ρ'
    | .bk ρ' => .ok (.nx ρ')
    | .rt s => .ok (.rt s)
    | .rz c ρ' => .ok (.rz c ρ')
def whlGo (test : Rho → M Bool) (body : Rho → M Fl) : Nat → Rho → M Fl
  | 0, _ => stk
  | n + 1, ρ => do
    let c ← test ρ
    if c then do
      let r ← body ρ
      match r with
      | .nx ρ' => whlGo test body n ρ'
      | .ct ρ' => whlGo test body n ρ'
      | .bk ρ' => .ok (.nx ρ')
      | .rt s => .ok (.rt s)
      | .rz c ρ' => .ok (.rz c ρ')
    else .ok (.nx ρ)
/-- what is handed back: an owned thing stays owned; a thing that is only peeked at is not handed back -/
def retS (e : E) (ρ : Rho) (s : Sl) : M Sl := match s with
  | ⟨.p, d⟩ => match e with
    | .var i => match ρ[i]? with
      | some (some ⟨.o, _⟩) => if nmkD d then .ok ⟨.o, d⟩ else stk
      | _ => stk
    | _ => stk
  | s => .ok s
/-- a slot's thing is frozen from here on (no step of the program) -/
def frzR (i : Nat) (ρ : Rho) : Rho := match ρ[i]? with
  | some (some ⟨.o, d⟩) => if nmkD d then ρ.set i (some ⟨.f, d⟩) else ρ
  | _ => ρ
/-- a slot that holds what is only lent: nobody changes it while the def runs -/
def lentE (e : E) (ρ : Rho) : Bool := match e with
  | .var i => match ρ[i]? with
    | some (some ⟨.p, _⟩) => true
    | _ => false
  | _ => false
def npE (cl : Str → List Sl → M Sl) (e : E) (ρ : Rho) : Bool := lentE e ρ || match evE cl e ρ with
  | .ok ⟨.p, _⟩ => false
  | _ => true
def nqE (cl : Str → List Sl → M Sl) (e : E) (ρ : Rho) : Bool := match evE cl e ρ with
  | .ok ⟨.p, _⟩ => false
  | _ => true
def notP (cl : Str → List Sl → M Sl) (it : Iu) (ρ : Rho) : Bool := match it with
  | .seq e => npE cl e ρ
  | .enm e => npE cl e ρ
  | .rev e => npE cl e ρ
  | .zp a b => nqE cl a ρ && nqE cl b ρ
  | _ => true
/-- an owned list at a slot -/
def ownL (x : Nat) (ρ : Rho) : M (List D) := match ρ[x]? with
  | some (some ⟨.o, .list ds⟩) => .ok ds
  | _ => stk
/-- x[j] = v of an owned list or dict -/
def setO (x : Nat) (ρ : Rho) (v j : D) : M Fl := match ρ[x]? with
  | some (some ⟨.o, .list ds⟩) => match j with
    | .int k => match ixN ds.length k with
      | some n => .ok (.nx (ρ.set x (some ⟨.o, .list (ds.set n v)⟩)))
      | none => stk
    | _ => stk
  | some (some ⟨.o, .dict ds⟩) => if keyOk j && nmk ds && lenOk (ds.length + 1) then .ok (.nx (ρ.set x (some ⟨.o, .dict (putD ds j v)⟩))) else if nkOk j then do
      let d ← setN j v ds
      pure (.nx (ρ.set x (some ⟨.o, d⟩)))
    else stk
  | _ => stk
/-- behind a call that may raise -/
def ckG (k : Ck) (ρ : Rho) : M Sl → M Fl
  | .ok s => match k with
    | .asg t => do
      let ρ' ← bindT t s ρ
      pure (.nx ρ')
    | .ret => do
      let r ← retS .non ρ s
      pure (.rt r)
    | .exp => .ok (.nx ρ)
  | .error (.raised c) => .ok (.rz c ρ)
  | .error e => .error e
/-- what a part that changes something comes to: a value and the slots, or what is raised -/
inductive Er where
  | v (s : Sl) (ρ : Rho)
  | rz (c : Str)
def efG (ρ : Rho) : M Sl → M Er
  | .ok s => .ok (.v s ρ)
  | .error (.raised c) => .ok (.rz c)
  | .error e => .error e
def dropD (ds : List (D × D)) (k : D) : List (D × D) := ds.filter fun p => !keq p.1 k
def popG (x : Nat) (ρ : Rho) : M Er := match ρ[x]? with
  | some (some ⟨.o, .list ds⟩) => match ds[ds.length - 1]? with
    | some d => .ok (.v ⟨.f, d⟩ (ρ.set x (some ⟨.o, .list ds.dropLast⟩)))
    | none => stk
  | _ => stk
def popGA (x : Nat) (ρ : Rho) (i : D) : M Er := match ρ[x]? with
  | some (some ⟨.o, .list ds⟩) => match i with
    | .int k => if decide (0 ≤ k) && decide (k < 2 ^ 62) then match ds[k.toNat]? with
      | some d => .ok (.v ⟨.f, d⟩ (ρ.set x (some ⟨.o, .list (ds.eraseIdx k.toNat)⟩)))
      | none => stk
      else stk
    | _ => stk
  | _ => stk
def popGK (x : Nat) (ρ : Rho) (k : D) : M Er := match ρ[x]? with
  | some (some ⟨.o, .dict ds⟩) => if keyOk k && nmk ds then match lookD ds k with
      | some d => .ok (.v ⟨.f, d⟩ (ρ.set x (some ⟨.o, .dict (dropD ds k)⟩)))
      | none => stk
      else stk
  | _ => stk
def efX (cl : Str → List Sl → M Sl) : Ef → Rho → M Er
  | .call f es, ρ => do
    let ss ← evA cl es ρ
    efG ρ (cl f ss)
  | .pop x, ρ => popG x ρ
  | .popA x i, ρ => do
    let y ← evE cl i ρ
    popGA x ρ y.d
  | .popK x k, ρ => do
    let y ← evE cl k ρ
    popGK x ρ y.d
/-- the value around: ρ the slots before, ρ' behind -/
def poE (ρ ρ' : Rho) : Po → Sl → M Sl
  | .hd, s => .ok s
  | .ixn p n, s => do
    let x ← poE ρ ρ' p s
    match x.d with
    | .dict _ => stk
    | d => ixD d (.int (n : Int))
  | .isN p, s => do
    let x ← poE ρ ρ' p s
    pure (fB (isNone x.d))
  | .eqS p z, s => do
    let x ← poE ρ ρ' p s
    let b ← cmpop .Eq x.d (.str z)
    pure (fB b)
  | .lst1 p, s => do
    let x ← poE ρ ρ' p s
    let d ← asF x
    pure ⟨.o, .list [d]⟩
  | .opI op a p, s => do
    let x ← poE ρ ρ' p s
    binop op .f (.int (a : Int)) x.d
  | .ixv y p, s => do
    let x ← poE ρ ρ' p s
    match ρ[y]?, ρ'[y]? with
    | some (some _), some (some ⟨_, .dict ds⟩) => if keyOk x.d then ixD (.dict ds) x.d else stk
    | _, _ => stk
def poX : Po → Bool
  | .hd => true
  | .ixn p _ => poX p
  | .isN p => poX p
  | .eqS p _ => poX p
  | .lst1 p => poX p
  | .opI _ _ p => poX p
  | .ixv _ _ => false
def ekX : Ek → Bool
  | .app _ => false
  | _ => true
def nmS (nm : Option Nat) (c : Str) (ρ : Rho) : Rho := match nm with
  | none => ρ
  | some i => ρ.set i (some ⟨.f, xcD c⟩)
def nmD (nm : Option Nat) (ρ : Rho) : Rho := match nm with
  | none => ρ
  | some i => ρ.set i none
def nmF (nm : Option Nat) : Fl → M Fl
  | .nx ρ => .ok (.nx (nmD nm ρ))
  | .rt s => .ok (.rt s)
  | _ => stk
/-- for t in x: y[t] = c, x an owned list -/
def fstB (t : Nat) (ds : List D) (ρ : Rho) : Nat → Rho
  | 0 => ρ
  | j + 1 => match ds[j]? with
    | some d => ρ.set t (some ⟨.f, d⟩)
    | none => ρ
def fstR (t y : Nat) (c : Bool) (ps : List (D × D)) (ds : List D) (ρ : Rho) (i : Nat) : Rho :=
  (fstB t ds ρ i).set y (some ⟨.o, .dict ((ds.take i).foldl (fun acc d => putD acc d (.bool c)) ps)⟩)
def fstG (t x y : Nat) (c : Bool) (ρ : Rho) : M Fl := match ρ[x]?, ρ[y]? with
  | some (some ⟨.o, .list ds⟩), some (some ⟨.o, .dict ps⟩) => if decide (t < ρ.length) && decide (x ≠ y) && decide (t ≠ x) && decide (t ≠ y) && ds.all keyOk && nmk ps && lenOk (ps.length + ds.length) then .ok (.nx (fstR t y c ps ds ρ ds.length)) else stk
  | _, _ => stk
mutual
def exS (cl : Str → List Sl → M Sl) (fu : Nat) : S → Rho → M Fl
  | .fst t x y c, ρ => fstG t x y c ρ
  | .ef k e p, ρ => do
    let r ← efX cl e ρ
    match r with
    | .rz c => if poX p && ekX k then .ok (.rz c ρ) else stk
    | .v s ρ' => do
      let v ← poE ρ ρ' p s
      match k with
      | .asg t => do
        let ρ2 ← bindT t v ρ'
        pure (.nx ρ2)
      | .ret => do
        let w ← retS .non ρ' v
        pure (.rt w)
      | .exp => .ok (.nx ρ')
      | .app y => do
        let d ← asF v
        let ds ← ownL y ρ
        let ds ← ownL y ρ'
        if lenOk (ds.length + 1) then pure (.nx (ρ'.set y (some ⟨.o, .list (ds ++ [d])⟩))) else stk
      | .set y i => do
        let d ← asF v
        let j ← evE cl i ρ'
        setO y ρ' d j.d
  | .eft e p a b, ρ => do
    let r ← efX cl e ρ
    match r with
    | .rz c => if poX p then .ok (.rz c ρ) else stk
    | .v s ρ' => do
      let v ← poE ρ ρ' p s
      let c ← asB v.d
      if c then exSs cl fu a ρ' else exSs cl fu b ρ'
  | .ins x i e, ρ => do
    let y ← evE cl i ρ
    let s ← evE cl e ρ
    let v ← asF s
    let ds ← ownL x ρ
    match y.d with
    | .int k => if lenOk (ds.length + 1) && decide (0 ≤ k) && decide (k < 2 ^ 62) then pure (.nx (ρ.set x (some ⟨.o, .list (ds.take k.toNat ++ v :: ds.drop k.toNat)⟩))) else stk
    | _ => stk
  | .asg t e, ρ => do
    let s ← evE cl e ρ
    let ρ' ← bindT t s ρ
    pure (.nx ρ')
  | .setix x i e, ρ => do
    let s ← evE cl e ρ
    let v ← asF s
    let j ← evE cl i ρ
    setO x ρ v j.d
  | .aug x op e, ρ => do
    let s ← evE cl e ρ
    match ρ[x]?, s.d with
    | some (some ⟨.f, .int i⟩), .int j => match op with
      | .Add => pure (.nx (ρ.set x (some (fI (i + j)))))
      | .Sub => pure (.nx (ρ.set x (some (fI (i - j)))))
      | _ => stk
    | _, _ => stk
  | .app x e, ρ => do
    let s ← evE cl e ρ
    let v ← asF s
    let ds ← ownL x ρ
    if lenOk (ds.length + 1) then pure (.nx (ρ.set x (some ⟨.o, .list (ds ++ [v])⟩))) else stk
  | .ext x e, ρ => do
    let s ← evE cl e ρ
    let ds ← ownL x ρ
    match s.d with
    | .list vs => if lenOk (ds.length + vs.length) && !isF s.m then pure (.nx (ρ.set x (some ⟨.o, .list (ds ++ vs)⟩))) else stk
    | _ => stk
  | .exp e, ρ => do
    let _ ← evE cl e ρ
    pure (.nx ρ)
  | .ret e, ρ => do
    let s ← evE cl e ρ
    let r ← retS e ρ s
    pure (.rt r)
  | .retN, _ => .ok (.rt ⟨.f, .none⟩)
  | .ite c a b, ρ => do
    let x ← evE cl c ρ
    let k ← asB x.d
    if k then exSs cl fu a ρ else exSs cl fu b ρ
  | .for_ t it b, ρ => do
    let xs ← evI cl it ρ
    if notP cl it ρ then
      forGo (fun d ρ => bindT t ⟨.f, d⟩ ρ) (fun ρ => exSs cl fu b ρ) xs ρ
    else stk
  | .whl c b, ρ => whlGo (fun ρ => do
      let x ← evE cl c ρ
      asB x.d) (fun ρ => exSs cl fu b ρ) fu ρ
  | .brk, ρ => .ok (.bk ρ)
  | .cont, ρ => .ok (.ct ρ)
  | .pass, ρ => .ok (.nx ρ)
  | .nvr, _ => stk
  | .ndn x, ρ => .ok (.nx (ρ.set x (some ⟨.o, .dict [(.none, .none)]⟩)))
  | .rse c, ρ => .ok (.rz c ρ)
  | .cst k f es, ρ => do
    let ss ← evA cl es ρ
    ckG k ρ (cl f ss)
  | .tr b hs, ρ => do
    let r ← exSs cl fu b ρ
    match r with
    | .rz c ρ' => exHs cl fu c hs ρ'
    | r => .ok r
def exHs (cl : Str → List Sl → M Sl) (fu : Nat) (c : Str) : Hs → Rho → M Fl
  | .nil, ρ => .ok (.rz c ρ)
  | .cons cs nm b r, ρ => if cs.all xall.contains then
      if cs.any (xsub c) then do
        let f ← exSs cl fu b (nmS nm c ρ)
        nmF nm f
      else exHs cl fu c r ρ
    else stk
def exSs (cl : Str → List Sl → M Sl) (fu : Nat) : Ss → Rho → M Fl
  | .nil, ρ => .ok (.nx ρ)
  | .cons s ss, ρ => do
    let r ← exS cl fu s ρ
    match r with
    | .nx ρ' => exSs cl fu ss ρ'
    | r => .ok r
  | .frz i ss, ρ => exSs cl fu ss (frzR i ρ)
end

/-! ### a program -/
structure FD where
  N : List Str
  ps : List Str
  body : Ss
def startR (n : Nat) (ss : List Sl) : Rho := ss.map some ++ List.replicate (n - ss.length) none
def runB (cl : Str → List Sl → M Sl) (fu : Nat) (fd : FD) (ss : List Sl) : M Sl :=
  if ss.length = fd.ps.length then
    match exSs cl fu fd.body (startR fd.N.length ss) with
    | .ok (.rt s) => .ok s
    | .ok (.nx _) => .ok ⟨.f, .none⟩
    | .ok (.rz c _) => .error (.raised c)
    | .ok _ => stk
    | .error _ => stk
  else stk
def call (T : Str → Option FD) (fu : Nat) : Nat → Str → List Sl → M Sl
  | 0, _, _ => stk
  | k + 1, f, ss => match T f with
    | some fd => runB (call T fu k) fu fd ss
    | none => stk
end GK

namespace GK
open PySem PySem.Spec PyProof.Rows L2

/-! ### deep values on the abstract heap -/
def keyD : Key → D
  | .inl i => .int i
  | .inr x => .str x
/-! exceptions -/
def xga (K : PySem.W.Frag) (c : Str) : Addr := match PySem.W.nsIn K mainGlobals c with
  | some (some (.ref a)) => a
  | _ => 0
def XKn (K : PySem.W.Frag) (d : Str) : Prop := d = "ValueError" ∨ ∃ a, PySem.W.nsIn K mainGlobals d = some (some (.ref a))
def clsV (K : PySem.W.Frag) (d : Str) : Value := if d = "ValueError" then .type "ValueError" else .ref (xga K d)
def clsW (K : PySem.W.Frag) (d : Str) : V := if d = "ValueError" then .ty "ValueError" else .ref (xga K d)
theorem clsW_rel {K : PySem.W.Frag} {d : Str} : RelV (clsW K d) (clsV K d) := by
  unfold clsW clsV
  split <;> rfl
theorem clsW_one {K : PySem.W.Frag} {d : Str} : ∀ u, RelV (clsW K d) u → u = clsV K d := by
  unfold clsW clsV
  split
  · exact fun u h => h
  · exact fun u h => h
/-- a class whose instances may be caught and asked -/
structure XcOk (K : PySem.W.Frag) (c : Str) : Prop where
  ex : ExcC K (xga K c)
  is : ∀ d, xall.contains d = true → XKn K d → PySem.W.kitOne K (.ref (xga K c)) (clsV K d) = some (xsub c d)
  mt : ∀ d, xall.contains d = true → XKn K d → PySem.W.exmOne K (.ref (xga K c)) (clsV K d) = some (xsub c d)
mutual
inductive Rp (K : PySem.W.Frag) (G : Hp) : V → D → Prop
  | non : Rp K G .non .none
  | bl (b : Bool) : Rp K G (.bl b) (.bool b)
  | int (i : Int) : Rp K G (.int i) (.int i)
  | str (x : Str) : Rp K G (.str x) (.str x)
  | lst {a : Addr} {vs : List V} {ds : List D} : SqL K G a vs → RpA K G vs ds → Rp K G (.ref a) (.list ds)
  | tup {a : Addr} {vs : List V} {ds : List D} : SqT K G a vs → RpA K G vs ds → Rp K G (.ref a) (.tuple ds)
  | dct {a : Addr} {vs : List (Key × V)} {ds : List (D × D)} : G a = some (.dK vs) → RpK K G vs ds → Rp K G (.ref a) (.dict ds)
  | xc {a : Addr} {c : Str} : XcOk K c → G a = some (xcO a (xga K c)) → Rp K G (.ref a) (.dict [(.bool true, .str c)])
inductive RpA (K : PySem.W.Frag) (G : Hp) : List V → List D → Prop
  | nil : RpA K G [] []
  | cons {v : V} {vs : List V} {d : D} {ds : List D} : Rp K G v d → RpA K G vs ds → RpA K G (v :: vs) (d :: ds)
inductive RpK (K : PySem.W.Frag) (G : Hp) : List (Key × V) → List (D × D) → Prop
  | nil : RpK K G [] []
  | cons {k : Key} {v : V} {vs : List (Key × V)} {d : D} {ds : List (D × D)} : Rp K G v d → RpK K G vs ds → RpK K G ((k, v) :: vs) ((keyD k, d) :: ds)
end
section
variable {K : PySem.W.Frag} {G G' G1 H H' H1 H2 G2 : Hp}
theorem Rd.mono {a : Addr} {u : HO} (S : Same G G') (h : Rd G a u) : Rd G' a u := by
  rcases h with h | ⟨o, h⟩
  · exact .inl (S _ _ h)
  · exact .inr ⟨o, S _ _ h⟩
theorem SqT.mono {a : Addr} {xs : List V} (S : Same G G') (h : SqT K G a xs) : SqT K G' a xs := by
  rcases h with h | h
  · exact .inl (Rd.mono S h)
  · exact .inr h
mutual
theorem Rp.mono (S : Same G G') : ∀ (d : D) (v : V), Rp K G v d → Rp K G' v d
  | .none, _, h => by cases h; exact .non
  | .bool b, _, h => by cases h; exact .bl b
  | .int i, _, h => by cases h; exact .int i
  | .str x, _, h => by cases h; exact .str x
  | .list ds, _, h => by
    cases h with
    | lst hs ha => exact .lst (S.seq hs) (RpA.mono S ds _ ha)
  | .tuple ds, _, h => by
    cases h with
    | tup hs ha => exact .tup (SqT.mono S hs) (RpA.mono S ds _ ha)
  | .dict ds, _, h => by
    cases h with
    | dct hs ha => exact .dct (S _ _ hs) (RpK.mono S ds _ ha)
    | xc ho hs => exact .xc ho (S _ _ hs)
theorem RpA.mono (S : Same G G') : ∀ (ds : List D) (vs : List V), RpA K G vs ds → RpA K G' vs ds
  | [], _, h => by cases h; exact .nil
  | d :: ds, _, h => by
    cases h with
    | cons h1 h2 => exact .cons (Rp.mono S d _ h1) (RpA.mono S ds _ h2)
theorem RpK.mono (S : Same G G') : ∀ (ds : List (D × D)) (vs : List (Key × V)), RpK K G vs ds → RpK K G' vs ds
  | [], _, h => by cases h; exact .nil
  | (_, d) :: ds, _, h => by
    cases h with
    | cons h1 h2 => exact .cons (Rp.mono S d _ h1) (RpK.mono S ds _ h2)
end
mutual
theorem Rp.dp (S : Same G H) : ∀ (d : D) (v : V), d.canLay0 = true → Rp K G v d → Dp K H v d
  | .none, _, _, h => by cases h; exact .non
  | .bool b, _, _, h => by cases h; exact .bl b
  | .int i, _, _, h => by cases h; exact .int i
  | .str x, _, _, h => by cases h; exact .str x
  | .list ds, _, c, h => by
    cases h with
    | lst hs ha => exact .lst (S.seq hs) (RpA.dp S ds _ c ha)
  | .tuple ds, _, c, h => by
    cases h with
    | tup hs ha => exact .tup (SqT.mono S hs) (RpA.dp S ds _ c ha)
  | .dict _, _, c, h => by simp [PyData.canLay0] at c
theorem RpA.dp (S : Same G H) : ∀ (ds : List D) (vs : List V), PyData.canLayAll0 ds = true → RpA K G vs ds → DpAll K H vs ds
  | [], _, _, h => by cases h; exact .nil
  | d :: ds, _, c, h => by
    simp only [PyData.canLayAll0, Bool.and_eq_true] at c
    cases h with
    | cons h1 h2 => exact .cons (Rp.dp S d _ c.1 h1) (RpA.dp S ds _ c.2 h2)
end
theorem keyD_ok : ∀ k : Key, keyOk (keyD k) = true
  | .inl _ => rfl
  | .inr _ => rfl
theorem key_of {d : D} (h : keyOk d = true) : ∃ k : Key, d = keyD k := by
  cases d <;> first | (cases h; done) | exact ⟨.inl _, rfl⟩ | exact ⟨.inr _, rfl⟩ | (exact absurd h Bool.false_ne_true)
theorem keq_key : ∀ k j : Key, keq (keyD k) (keyD j) = decide (k = j)
  | .inl i, .inl j => by
    show decide (i = j) = _
    rw [Bool.eq_iff_iff, decide_eq_true_eq, decide_eq_true_eq]
    exact ⟨fun h => by rw [h], fun h => by cases h; rfl⟩
  | .inr i, .inr j => by
    show decide (i = j) = _
    rw [Bool.eq_iff_iff, decide_eq_true_eq, decide_eq_true_eq]
    exact ⟨fun h => by rw [h], fun h => by cases h; rfl⟩
  | .inl i, .inr j => (decide_eq_false (fun z => nomatch z)).symm
  | .inr i, .inl j => (decide_eq_false (fun z => nomatch z)).symm
theorem RpK.length : ∀ {vs : List (Key × V)} {ds : List (D × D)}, RpK K G vs ds → vs.length = ds.length
  | _, _, .nil => rfl
  | _, _, .cons _ t => by rw [List.length_cons, List.length_cons, RpK.length t]
theorem RpK.look {k : Key} : ∀ {vs : List (Key × V)} {ds : List (D × D)}, RpK K G vs ds → (valV vs k = none ∧ lookD ds (keyD k) = none) ∨ ∃ v d, valV vs k = some v ∧ lookD ds (keyD k) = some d ∧ Rp K G v d
  | _, _, .nil => .inl ⟨rfl, rfl⟩
  | _, _, .cons (k := j) (v := v) (d := d) (vs := vs) (ds := ds) r t => by
    unfold valV lookD
    rw [List.find?_cons, List.find?_cons]
    show ((match decide (j = k) with
      | true => some (j, v)
      | false => List.find? (fun kv => decide (kv.1 = k)) vs).map _ = none ∧ (match keq (keyD j) (keyD k) with
      | true => some (keyD j, d)
      | false => List.find? (fun p => keq p.1 (keyD k)) ds).map _ = none) ∨ _
    rw [keq_key]
    cases decide (j = k) with
    | true => exact .inr ⟨v, d, rfl, rfl, r⟩
    | false => exact RpK.look t
theorem RpK.anyK {k : Key} : ∀ {vs : List (Key × V)} {ds : List (D × D)}, RpK K G vs ds → (vs.any fun kv => decide (kv.1 = k)) = ds.any fun p => keq p.1 (keyD k)
  | _, _, .nil => rfl
  | _, _, .cons (k := j) r t => by
    rw [List.any_cons, List.any_cons, RpK.anyK t]
    show (decide (j = k) || _) = (keq (keyD j) (keyD k) || _)
    rw [keq_key]
theorem RpK.append : ∀ {vs ws : List (Key × V)} {ds es : List (D × D)}, RpK K G vs ds → RpK K G ws es → RpK K G (vs ++ ws) (ds ++ es)
  | _, _, _, _, .nil, s => s
  | _, _, _, _, .cons r t, s => .cons r (RpK.append t s)
theorem RpK.mapK {k : Key} {v : V} {d : D} (q : Rp K G v d) : ∀ {vs : List (Key × V)} {ds : List (D × D)}, RpK K G vs ds → RpK K G (vs.map fun kv => if kv.1 = k then (kv.1, v) else kv) (ds.map fun p => if keq p.1 (keyD k) = true then (p.1, d) else p)
  | _, _, .nil => .nil
  | _, _, .cons (k := j) (v := v0) (d := d0) r t => by
    have ih := RpK.mapK (k := k) q t
    rw [List.map_cons, List.map_cons]
    by_cases e : j = k
    · have e1 : (if (j, v0).1 = k then ((j, v0).1, v) else (j, v0)) = (j, v) := if_pos e
      have e2 : (if keq (keyD j, d0).1 (keyD k) = true then ((keyD j, d0).1, d) else (keyD j, d0)) = (keyD j, d) := if_pos (by show keq (keyD j) (keyD k) = true; rw [keq_key]; exact decide_eq_true e)
      rw [e1, e2]
      exact .cons q ih
    · have e1 : (if (j, v0).1 = k then ((j, v0).1, v) else (j, v0)) = (j, v0) := if_neg e
      have e2 : (if keq (keyD j, d0).1 (keyD k) = true then ((keyD j, d0).1, d) else (keyD j, d0)) = (keyD j, d0) := if_neg (by show ¬ keq (keyD j) (keyD k) = true; rw [keq_key]; exact fun z => e (of_decide_eq_true z))
      rw [e1, e2]
      exact .cons r ih
theorem RpK.put {k : Key} {v : V} {d : D} {vs : List (Key × V)} {ds : List (D × D)} (q : Rp K G v d) (r : RpK K G vs ds) : RpK K G (putK vs k v) (putD ds (keyD k) d) := by
  unfold putK putD
  rw [r.anyK]
  split
  · exact r.mapK q
  · exact r.append (.cons q .nil)
theorem RpK.drop {k : Key} : ∀ {vs : List (Key × V)} {ds : List (D × D)}, RpK K G vs ds → RpK K G (dropK vs k) (dropD ds (keyD k))
  | _, _, .nil => .nil
  | _, _, .cons (k := j) (v := v) (d := d) (vs := vs) (ds := ds) r t => by
    have ih := RpK.drop (k := k) t
    unfold dropK dropD at ih ⊢
    rw [List.filter_cons, List.filter_cons]
    by_cases e : j = k
    · have e1 : ¬ (decide ((j, v).1 ≠ k)) = true := by simp [e]
      have e2 : ¬ (!keq (keyD j, d).1 (keyD k)) = true := by
        show ¬ (!keq (keyD j) (keyD k)) = true
        rw [keq_key, decide_eq_true e]
        decide
      rw [if_neg e1, if_neg e2]
      exact ih
    · have e1 : (decide ((j, v).1 ≠ k)) = true := decide_eq_true e
      have e2 : (!keq (keyD j, d).1 (keyD k)) = true := by
        show (!keq (keyD j) (keyD k)) = true
        rw [keq_key, decide_eq_false e]
        rfl
      rw [if_pos e1, if_pos e2]
      exact .cons r ih
theorem RpK.merge : ∀ {ms : List (Key × V)} {es : List (D × D)} {vs : List (Key × V)} {ds : List (D × D)}, RpK K G ms es → RpK K G vs ds → RpK K G (mergeK vs ms) (es.foldl (fun acc p => putD acc p.1 p.2) ds)
  | _, _, _, _, .nil, r => r
  | _, _, _, _, .cons (k := k) q t, r => by
    have z := RpK.merge t (RpK.put (k := k) q r)
    exact z
theorem RpA.length : ∀ {vs : List V} {ds : List D}, RpA K G vs ds → vs.length = ds.length
  | _, _, .nil => rfl
  | _, _, .cons _ t => by rw [List.length_cons, List.length_cons, RpA.length t]
theorem RpA.get : ∀ {vs : List V} {ds : List D} {i : Nat} {d : D}, RpA K G vs ds → ds[i]? = some d → ∃ v, vs[i]? = some v ∧ Rp K G v d
  | _, _, _, _, .nil, h => by simp at h
  | _, _, 0, _, .cons r _, h => by
    simp at h
    subst h
    exact ⟨_, rfl, r⟩
  | _, _, i + 1, _, .cons _ t, h => by
    obtain ⟨v, h1, h2⟩ := RpA.get (i := i) t (by simpa using h)
    exact ⟨v, by simpa using h1, h2⟩
theorem RpA.getV : ∀ {vs : List V} {ds : List D} {i : Nat} {v : V}, RpA K G vs ds → vs[i]? = some v → ∃ d, ds[i]? = some d ∧ Rp K G v d
  | _, _, _, _, .nil, h => by simp at h
  | _, _, 0, _, .cons r _, h => by
    simp at h
    subst h
    exact ⟨_, rfl, r⟩
  | _, _, i + 1, _, .cons _ t, h => by
    obtain ⟨v, h1, h2⟩ := RpA.getV (i := i) t (by simpa using h)
    exact ⟨v, by simpa using h1, h2⟩
theorem RpA.append : ∀ {vs ws : List V} {ds es : List D}, RpA K G vs ds → RpA K G ws es → RpA K G (vs ++ ws) (ds ++ es)
  | _, _, _, _, .nil, s => s
  | _, _, _, _, .cons r t, s => .cons r (RpA.append t s)
theorem RpA.take : ∀ {vs : List V} {ds : List D} (n : Nat), RpA K G vs ds → RpA K G (vs.take n) (ds.take n)
  | _, _, 0, _ => .nil
  | _, _, _ + 1, .nil => .nil
  | _, _, n + 1, .cons r t => .cons r (RpA.take n t)
theorem RpA.drop : ∀ {vs : List V} {ds : List D} (n : Nat), RpA K G vs ds → RpA K G (vs.drop n) (ds.drop n)
  | _, _, 0, r => r
  | _, _, _ + 1, .nil => .nil
  | _, _, n + 1, .cons _ t => RpA.drop n t
theorem RpA.set {v : V} {d : D} (r : Rp K G v d) : ∀ {vs : List V} {ds : List D} (i : Nat), RpA K G vs ds → RpA K G (vs.set i v) (ds.set i d)
  | _, _, _, .nil => .nil
  | _, _, 0, .cons _ t => .cons r t
  | _, _, i + 1, .cons q t => .cons q (RpA.set r i t)
theorem RpA.erase : ∀ {vs : List V} {ds : List D} (i : Nat), RpA K G vs ds → RpA K G (vs.eraseIdx i) (ds.eraseIdx i)
  | _, _, _, .nil => .nil
  | _, _, 0, .cons _ t => t
  | _, _, i + 1, .cons q t => .cons q (RpA.erase i t)
theorem RpA.dropL : ∀ {vs : List V} {ds : List D}, RpA K G vs ds → RpA K G vs.dropLast ds.dropLast
  | _, _, .nil => .nil
  | _, _, .cons _ .nil => .nil
  | _, _, .cons q (.cons r t) => .cons q (RpA.dropL (.cons r t))
theorem RpA.rep {vs : List V} {ds : List D} (h : RpA K G vs ds) : ∀ k : Nat, RpA K G (List.replicate k vs).flatten (List.replicate k ds).flatten
  | 0 => .nil
  | k + 1 => by
    rw [List.replicate_succ, List.replicate_succ, List.flatten_cons, List.flatten_cons]
    exact h.append (RpA.rep h k)
theorem RpA.ints : ∀ {ds : List D} {vs : List V} {ns : List Int}, RpA K G vs ds → intsD ds = some ns → vs = ns.map V.int
  | [], _, ns, h, e => by
    cases h
    simp only [intsD, Option.some.injEq] at e
    subst e
    rfl
  | d :: ds, _, ns, h, e => by
    cases h with
    | cons h1 h2 =>
      cases d with
      | int i =>
        simp only [intsD, Option.map_eq_some_iff] at e
        obtain ⟨ms, e1, e2⟩ := e
        subst e2
        cases h1
        rw [RpA.ints h2 e1]
        rfl
      | _ => simp [intsD] at e
theorem RpA.bools : ∀ {ds : List D} {vs : List V} {ns : List Bool}, RpA K G vs ds → boolsD ds = some ns → vs = ns.map V.bl
  | [], _, ns, h, e => by
    cases h
    simp only [boolsD, Option.some.injEq] at e
    subst e
    rfl
  | d :: ds, _, ns, h, e => by
    cases h with
    | cons h1 h2 =>
      cases d with
      | bool i =>
        simp only [boolsD, Option.map_eq_some_iff] at e
        obtain ⟨ms, e1, e2⟩ := e
        subst e2
        cases h1
        rw [RpA.bools h2 e1]
        rfl
      | _ => simp [boolsD] at e
theorem RpA.rng (a : Int) : ∀ n : Nat, RpA K G ((List.range n).map fun i => V.int (a + (i : Nat))) ((List.range n).map fun i => PyData.int (a + (i : Nat))) := fun n => by
  induction n with
  | zero => exact .nil
  | succ n ih =>
    rw [List.range_succ, List.map_append, List.map_append]
    exact ih.append (.cons (.int _) .nil)

/-- the frozen part G of the tracked H; a step: all stays; what was tracked and not frozen isn't frozen later -/
structure Step (G H G' H' : Hp) : Prop where
  gg : Same G G'
  hh : Same H H'
  gh : Same G' H'
  fr : ∀ a o, H a = some o → G a = none → G' a = none
theorem Step.refl (S : Same G H) : Step G H G H := ⟨Same.refl _, Same.refl _, S, fun _ _ _ h => h⟩
theorem Step.trans (a : Step G H G1 H1) (b : Step G1 H1 G2 H2) : Step G H G2 H2 :=
  ⟨a.gg.trans b.gg, a.hh.trans b.hh, b.gh, fun x o h n => b.fr x o (a.hh _ _ h) (a.fr x o h n)⟩
/-- a tracked object and the data that it holds -/
inductive Shp (K : PySem.W.Frag) (G : Hp) : HO → D → Prop
  | lst {vs : List V} {ds : List D} : RpA K G vs ds → Shp K G (.lst vs) (.list ds)
  | dct {vs : List (Key × V)} {ds : List (D × D)} : RpK K G vs ds → Shp K G (.dK vs) (.dict ds)
theorem Shp.mono {o : HO} {d : D} (S : Same G G') (h : Shp K G o d) : Shp K G' o d := by
  cases h with
  | lst r => exact .lst (r.mono S)
  | dct r => exact .dct (r.mono S)
theorem Shp.frozen {a : Addr} {o : HO} {d : D} (h : Shp K G o d) (e : G a = some o) : Rp K G (.ref a) d := by
  cases h with
  | lst r => exact .lst (.inl (.inl e)) r
  | dct r => exact .dct e r
/-- entries of a dict with nested tuples as keys -/
abbrev RpN (K : PySem.W.Frag) (G : Hp) : NL → List (D × D) → Prop := Paired fun q p => nkD p.1 = some q.1 ∧ q.1.depth ≤ 8 ∧ Rp K G (.ref q.2.1) p.1 ∧ Rp K G q.2.2 p.2
inductive ShpX (K : PySem.W.Frag) (G : Hp) (a : Addr) : HO → D → Prop
  | base {o : HO} {d : D} : Shp K G o d → ShpX K G a o d
  | nst {L : NL} {ps : List (D × D)} : RpN K G L ps → ShpX K G a (ndO a L) (.dict ((.none, .none) :: ps))
theorem RpN.mono {L : NL} {ps : List (D × D)} (S : Same G G') (h : RpN K G L ps) : RpN K G' L ps := Paired.mapP h fun _ _ z => ⟨z.1, z.2.1, Rp.mono S _ _ z.2.2.1, Rp.mono S _ _ z.2.2.2⟩
theorem ShpX.mono {a : Addr} {o : HO} {d : D} (S : Same G G') (h : ShpX K G a o d) : ShpX K G' a o d := by
  cases h with
  | base r => exact .base (r.mono S)
  | nst r => exact .nst (RpN.mono S r)
theorem Shp.plain {o : HO} {d : D} (h : Shp K G o d) : nmkD d = true := by
  cases h with
  | lst r => rfl
  | dct r =>
    cases r with
    | nil => rfl
    | @cons k _ _ _ _ _ _ => cases k <;> rfl
theorem ShpX.plain {a : Addr} {o : HO} {d : D} (h : ShpX K G a o d) (n : nmkD d = true) : Shp K G o d := by
  cases h with
  | base r => exact r
  | nst r => cases n
/-- an owned thing: tracked, not frozen, its items frozen -/
def Top (K : PySem.W.Frag) (G H : Hp) (v : V) (d : D) : Prop := ∃ a o, v = .ref a ∧ G a = none ∧ H a = some o ∧ Shp K G o d
def TopX (K : PySem.W.Frag) (G H : Hp) (v : V) (d : D) : Prop := ∃ a o, v = .ref a ∧ G a = none ∧ H a = some o ∧ ShpX K G a o d
theorem Top.x {v : V} {d : D} (h : Top K G H v d) : TopX K G H v d := by
  obtain ⟨a, o, e, n, t, r⟩ := h
  exact ⟨a, o, e, n, t, .base r⟩
theorem TopX.plain {v : V} {d : D} (h : TopX K G H v d) (p : nmkD d = true) : Top K G H v d := by
  obtain ⟨a, o, e, n, t, r⟩ := h
  exact ⟨a, o, e, n, t, r.plain p⟩
def SlR (K : PySem.W.Frag) (G H : Hp) (v : V) (s : Sl) : Prop := match s.m with
  | .f => Rp K G v s.d
  | .o => Top K G H v s.d
  | .p => TopX K G H v s.d
/-- what stands at a slot -/
def SlE (K : PySem.W.Frag) (G H : Hp) (v : V) (s : Sl) : Prop := match s.m with
  | .f => Rp K G v s.d
  | _ => TopX K G H v s.d
theorem SlR.e {v : V} {s : Sl} (h : SlR K G H v s) : SlE K G H v s := by
  obtain ⟨m, d⟩ := s
  cases m with
  | f => exact h
  | o => exact Top.x h
  | p => exact h
def Rdb (K : PySem.W.Frag) (G H : Hp) (v : V) (d : D) : Prop := Rp K G v d ∨ TopX K G H v d
theorem SlR.rdb {v : V} {s : Sl} (h : SlR K G H v s) : Rdb K G H v s.d := by
  obtain ⟨m, d⟩ := s
  cases m with
  | f => exact .inl h
  | o => exact .inr (Top.x h)
  | p => exact .inr h
theorem Top.mono {v : V} {d : D} (S : Step G H G' H') (h : Top K G H v d) : Top K G' H' v d := by
  obtain ⟨a, o, e1, n, t, r⟩ := h
  exact ⟨a, o, e1, S.fr _ _ t n, S.hh _ _ t, r.mono S.gg⟩
theorem TopX.mono {v : V} {d : D} (S : Step G H G' H') (h : TopX K G H v d) : TopX K G' H' v d := by
  obtain ⟨a, o, e1, n, t, r⟩ := h
  exact ⟨a, o, e1, S.fr _ _ t n, S.hh _ _ t, r.mono S.gg⟩
theorem SlE.mono {v : V} {s : Sl} (S : Step G H G' H') (h : SlE K G H v s) : SlE K G' H' v s := by
  obtain ⟨m, d⟩ := s
  cases m with
  | f => exact Rp.mono S.gg _ _ h
  | o => exact TopX.mono S h
  | p => exact TopX.mono S h
theorem SlR.mono {v : V} {s : Sl} (S : Step G H G' H') (h : SlR K G H v s) : SlR K G' H' v s := by
  obtain ⟨m, d⟩ := s
  cases m with
  | f => exact Rp.mono S.gg _ _ h
  | o => exact Top.mono S h
  | p => exact TopX.mono S h
theorem Rdb.mono {v : V} {d : D} (S : Step G H G' H') (h : Rdb K G H v d) : Rdb K G' H' v d := by
  rcases h with h | h
  · exact .inl (Rp.mono S.gg _ _ h)
  · exact .inr (h.mono S)
theorem TopX.cases {v : V} {d : D} (h : TopX K G H v d) : Top K G H v d ∨ ∃ (a : Addr) (L : NL) (ps : List (D × D)), v = .ref a ∧ d = .dict ((.none, .none) :: ps) ∧ G a = none ∧ H a = some (ndO a L) ∧ RpN K G L ps := by
  obtain ⟨a, o, e, n, t, r⟩ := h
  cases r with
  | base r => exact .inl ⟨a, o, e, n, t, r⟩
  | nst r => exact .inr ⟨a, _, _, e, rfl, n, t, r⟩
theorem Rdb.plain {v : V} {d : D} (h : Rdb K G H v d) (p : nmkD d = true) : Rp K G v d ∨ Top K G H v d := h.imp id fun h => h.plain p
theorem Rdb.list {v : V} {ds : List D} (S : Same G H) (h : Rdb K G H v (.list ds)) : ∃ a vs, v = .ref a ∧ SqL K H a vs ∧ RpA K G vs ds := by
  rcases h.plain rfl with h | ⟨a, o, rfl, _, t, r⟩
  · cases h with
    | lst h1 h2 => exact ⟨_, _, rfl, S.seq h1, h2⟩
  · cases r with
    | lst r => exact ⟨a, _, rfl, .inl (.inl t), r⟩
theorem Rdb.dict {v : V} {ds : List (D × D)} (S : Same G H) (p : nmk ds = true) (h : Rdb K G H v (.dict ds)) : ∃ a vs, v = .ref a ∧ H a = some (.dK vs) ∧ RpK K G vs ds := by
  rcases h.plain p with h | ⟨a, o, rfl, _, t, r⟩
  · cases h with
    | dct h1 h2 => exact ⟨_, _, rfl, S _ _ h1, h2⟩
    | xc => cases p
  · cases r with
    | dct r => exact ⟨a, _, rfl, t, r⟩
theorem RpK.plain {vs : List (Key × V)} {ds : List (D × D)} (h : RpK K G vs ds) : nmk ds = true := by
  cases h with
  | nil => rfl
  | @cons k _ _ _ _ _ _ => cases k <;> rfl
theorem Rdb.nst {v : V} {ps : List (D × D)} (h : Rdb K G H v (.dict ((.none, .none) :: ps))) : ∃ (a : Addr) (L : NL), v = .ref a ∧ H a = some (ndO a L) ∧ RpN K G L ps := by
  rcases h with h | h
  · cases h with
    | dct h1 h2 =>
      have := h2.plain
      cases this
  · rcases h.cases with h | ⟨a, L, ps', e1, e2, _, t, r⟩
    · obtain ⟨a, o, _, _, _, r⟩ := h
      have := r.plain
      cases this
    · cases e2
      exact ⟨a, L, e1, t, r⟩
theorem Rdb.tuple {v : V} {ds : List D} (S : Same G H) (h : Rdb K G H v (.tuple ds)) : ∃ a vs, v = .ref a ∧ SqT K H a vs ∧ RpA K G vs ds := by
  rcases h.plain rfl with h | ⟨a, o, rfl, _, t, r⟩
  · cases h with
    | tup h1 h2 => exact ⟨_, _, rfl, SqT.mono S h1, h2⟩
  · cases r
theorem Rdb.str {v : V} {x : Str} (h : Rdb K G H v (.str x)) : v = .str x := by
  rcases h.plain rfl with h | ⟨a, o, rfl, _, t, r⟩
  · cases h
    rfl
  · cases r
theorem Rdb.int {v : V} {i : Int} (h : Rdb K G H v (.int i)) : v = .int i := by
  rcases h.plain rfl with h | ⟨a, o, rfl, _, t, r⟩
  · cases h
    rfl
  · cases r
theorem Rdb.bool {v : V} {i : Bool} (h : Rdb K G H v (.bool i)) : v = .bl i := by
  rcases h.plain rfl with h | ⟨a, o, rfl, _, t, r⟩
  · cases h
    rfl
  · cases r
theorem Rdb.key {v : V} {k : Key} (h : Rdb K G H v (keyD k)) : v = kV k := by
  cases k with
  | inl i => exact h.int
  | inr x => exact h.str
theorem Rdb.dp {v : V} {d : D} (S : Same G H) (c : d.canLay0 = true) (h : Rdb K G H v d) : Dp K H v d := by
  have p : nmkD d = true := by
    cases d with
    | dict ds => simp [PyData.canLay0] at c
    | _ => rfl
  rcases h.plain p with h | ⟨a, o, rfl, _, t, r⟩
  · exact Rp.dp S _ _ c h
  · cases r with
    | lst r => exact .lst (.inl (.inl t)) (RpA.dp S _ _ c r)
    | dct r => simp [PyData.canLay0] at c
theorem Rdb.none_iff {v : V} {d : D} (h : Rdb K G H v d) : decide (v = .non) = isNone d := by
  rcases h with h | h
  · cases h <;> rfl
  · rcases h.cases with ⟨a, o, rfl, _, t, r⟩ | ⟨a, L, ps', rfl, rfl, _⟩
    · cases r <;> rfl
    · rfl
mutual
theorem Rp.nk (S : Same G H) : ∀ (d : D) (v : V) (k : NestedKey), Rp K G v d → nkD d = some k → NkA K H k v
  | .int i, _, _, r, h => by
    cases r
    cases h
    exact .num i
  | .tuple ds, _, _, r, h => by
    cases r with
    | tup h1 h2 =>
      simp only [nkD] at h
      obtain ⟨ks, e, rfl⟩ := Option.map_eq_some_iff.mp h
      exact .tup (SqT.mono S h1) (RpA.nk S ds _ ks h2 e)
  | .none, _, _, _, h => by simp [nkD] at h
  | .bool _, _, _, _, h => by simp [nkD] at h
  | .str _, _, _, _, h => by simp [nkD] at h
  | .list _, _, _, _, h => by simp [nkD] at h
  | .dict _, _, _, _, h => by simp [nkD] at h
theorem RpA.nk (S : Same G H) : ∀ (ds : List D) (vs : List V) (ks : List NestedKey), RpA K G vs ds → nkDs ds = some ks → NkAll K H ks vs
  | [], _, _, r, h => by
    cases r
    simp only [nkDs] at h
    cases h
    exact .nil
  | d :: ds, _, _, r, h => by
    cases r with
    | cons r1 r2 =>
      simp only [nkDs] at h
      split at h
      · rename_i k ks e1 e2
        cases h
        exact .cons (Rp.nk S d _ k r1 e1) (RpA.nk S ds _ ks r2 e2)
      · cases h
end
theorem RpN.kn {L : NL} {ps : List (D × D)} (S : Same G H) (h : RpN K G L ps) : KN K H L := by
  induction h with
  | nil => exact fun p hp => (nomatch hp)
  | cons hq t ih =>
    intro p hp
    rcases List.mem_cons.mp hp with e | hp
    · subst e
      exact ⟨Rp.nk S _ _ _ hq.2.2.1 hq.1, hq.2.1⟩
    · exact ih p hp
theorem RpN.look {L : NL} {ps : List (D × D)} (h : RpN K G L ps) {j : D} {k : NestedKey} (hj : nkD j = some k) : (valN L k = none ∧ lookN ps j = none) ∨ ∃ w d, valN L k = some w ∧ lookN ps j = some d ∧ Rp K G w d := by
  induction h with
  | nil => exact .inl ⟨rfl, rfl⟩
  | @cons q p qs ps hq t ih =>
    obtain ⟨h1, _, _, h4⟩ := hq
    unfold valN lookN
    by_cases e : q.1 = k
    · have e2 : nkD p.1 = nkD j := by rw [h1, hj, e]
      simp only [List.find?_cons, e, e2, decide_true, Option.map_some]
      exact .inr ⟨_, _, rfl, rfl, h4⟩
    · have e2 : ¬ nkD p.1 = nkD j := by
        rw [h1, hj]
        exact fun z => e (Option.some.inj z)
      simp only [List.find?_cons, e, e2, decide_false]
      exact ih
theorem RpN.repl {L : NL} {ps : List (D × D)} (h : RpN K G L ps) {j d : D} {k : NestedKey} {v : V} (hj : nkD j = some k) (rv : Rp K G v d) :
    RpN K G (L.map fun p => if p.1 = k then (p.1, p.2.1, v) else p) (ps.map fun p => if nkD p.1 = nkD j then (p.1, d) else p) := by
  induction h with
  | nil => exact .nil
  | @cons q p qs ps hq t ih =>
    rw [List.map_cons, List.map_cons]
    refine .cons ?_ ih
    obtain ⟨h1, h2, h3, h4⟩ := hq
    by_cases e : q.1 = k
    · have e2 : nkD p.1 = nkD j := by rw [h1, hj, e]
      rw [if_pos e, if_pos e2]
      exact ⟨h1, h2, h3, rv⟩
    · have e2 : ¬ nkD p.1 = nkD j := by
        rw [h1, hj]
        exact fun z => e (Option.some.inj z)
      rw [if_neg e, if_neg e2]
      exact ⟨h1, h2, h3, h4⟩
theorem RpN.put {L : NL} {ps : List (D × D)} (h : RpN K G L ps) {j d : D} {k : NestedKey} {b : Addr} {v : V} (hj : nkD j = some k) (hd : k.depth ≤ 8) (rj : Rp K G (.ref b) j) (rv : Rp K G v d) : RpN K G (putNL L k b v) (putN ps j d) := by
  unfold putNL putN
  rcases h.look hj with ⟨e1, e2⟩ | ⟨w, d', e1, e2, _⟩
  · rw [e1, e2]
    exact Paired.snoc h ⟨hj, hd, rj, rv⟩
  · rw [e1, e2]
    exact h.repl hj rv
theorem RpN.keys {L : NL} {ps : List (D × D)} (h : RpN K G L ps) : RpA K G (L.map fun e => V.ref e.2.1) (ps.map (·.1)) := by
  induction h with
  | nil => exact .nil
  | cons hq t ih => exact .cons hq.2.2.1 ih
theorem nkOk_ok {d : D} (h : nkOk d = true) : (∃ ds, d = .tuple ds) ∧ ∃ k, nkD d = some k ∧ k.depth ≤ 8 := by
  unfold nkOk at h
  rw [Bool.and_eq_true] at h
  obtain ⟨h1, h2⟩ := h
  refine ⟨?_, ?_⟩
  · cases d with
    | tuple ds => exact ⟨ds, rfl⟩
    | _ => cases h1
  · split at h2
    · rename_i k e
      exact ⟨k, e, of_decide_eq_true h2⟩
    · cases h2
/-- a tuple that is read is frozen -/
theorem Rdb.rpTup {v : V} {ds : List D} (h : Rdb K G H v (.tuple ds)) : Rp K G v (.tuple ds) := by
  rcases h.plain rfl with h | ⟨a, o, _, _, _, r⟩
  · exact h
  · cases r
theorem RpN.no_key {L : NL} {ps : List (D × D)} (h : RpN K G L ps) {x : D} (hx : keyOk x = true) : lookD ((.none, .none) :: ps) x = none := by
  have z : ∀ p ∈ ps, keq p.1 x = false := by
    induction h with
    | nil => exact fun p hp => (nomatch hp)
    | @cons q p qs ps hq t ih =>
      intro p' hp
      rcases List.mem_cons.mp hp with e | hp
      · subst e
        obtain ⟨_, _, r, _⟩ := hq
        cases h' : p'.1 with
        | int i =>
          rw [h'] at r
          cases r
        | str i =>
          rw [h'] at r
          cases r
        | none => cases x <;> rfl
        | bool _ => cases x <;> rfl
        | list _ => cases x <;> rfl
        | tuple _ => cases x <;> rfl
        | dict _ => cases x <;> rfl
      · exact ih p' hp
  unfold lookD
  rw [List.find?_eq_none.mpr]
  · rfl
  · intro p hp
    rcases List.mem_cons.mp hp with e | hp
    · subst e
      cases x <;> simp [keq]
    · rw [z p hp]
      decide
/-- what an expression hands on, from the heap H on -/
def ResR (K : PySem.W.Frag) (H G' H' : Hp) (v : V) (s : Sl) : Prop := SlR K G' H' v s ∧ (s.m = .o → ∃ a, v = .ref a ∧ H a = none)
theorem ResR.f {v : V} {d : D} (h : Rp K G' v d) : ResR K H G' H' v ⟨.f, d⟩ := ⟨h, fun z => nomatch z⟩
theorem ResR.back {v : V} {s : Sl} (S : Same H H1) (h : ResR K H1 G' H' v s) : ResR K H G' H' v s :=
  ⟨h.1, fun z => by
    obtain ⟨a, e, n⟩ := h.2 z
    exact ⟨a, e, S.free n⟩⟩
theorem same_upd {p : Addr} {o : HO} (h : H p = none) : Same H (upd H p o) := fun b x e => by
  rw [upd_ne (ne_of_none e h)]
  exact e
/-- a new object, not frozen -/
theorem Step.new {p : Addr} {o : HO} (S : Same G H) (h : H p = none) : Step G H G (upd H p o) :=
  ⟨Same.refl _, same_upd h, S.trans (same_upd h), fun _ _ _ n => n⟩
/-- a new object, frozen at once -/
theorem Step.newF {p : Addr} {o : HO} (S : Same G H) (h : H p = none) : Step G H (upd G p o) (upd H p o) :=
  ⟨same_upd (S.free h), same_upd h, fun b x e => by
    by_cases hb : b = p
    · subst hb
      rw [upd_same] at e ⊢
      exact e
    · rw [upd_ne hb] at e ⊢
      exact S _ _ e, fun a x e n => by
    rw [upd_ne (ne_of_none e h)]
    exact n⟩
/-- a new object is changed -/
theorem Step.chg {p : Addr} {o : HO} (S : Step G H G' H') (h : H p = none) (g : G' p = none) : Step G H G' (upd H' p o) :=
  ⟨S.gg, fun b x e => by
    rw [upd_ne (ne_of_none e h)]
    exact S.hh _ _ e, fun b x e => by
    rw [upd_ne (ne_of_none e g)]
    exact S.gh _ _ e, S.fr⟩
theorem ResR.new {p : Addr} {vs : List V} {ds : List D} (S : Same G H) (h : H p = none) (r : RpA K G vs ds) : ResR K H G (upd H p (.lst vs)) (.ref p) ⟨.o, .list ds⟩ :=
  ⟨⟨p, .lst vs, rfl, S.free h, upd_same, .lst r⟩, fun _ => ⟨p, rfl, h⟩⟩
theorem ResR.newD {p : Addr} {vs : List (Key × V)} {ds : List (D × D)} (S : Same G H) (h : H p = none) (r : RpK K G vs ds) : ResR K H G (upd H p (.dK vs)) (.ref p) ⟨.o, .dict ds⟩ :=
  ⟨⟨p, .dK vs, rfl, S.free h, upd_same, .dct r⟩, fun _ => ⟨p, rfl, h⟩⟩
theorem ResR.newT {p : Addr} {vs : List V} {ds : List D} (S : Same G H) (h : H p = none) (r : RpA K G vs ds) : ResR K H (upd G p (.tup vs)) (upd H p (.tup vs)) (.ref p) ⟨.f, .tuple ds⟩ :=
  .f (.tup (.inl (.inl upd_same)) (r.mono (same_upd (S.free h))))
/-- what is handed on is frozen -/
theorem freeze {v : V} {s : Sl} {d : D} (S : Step G H G' H') (h : ResR K H G' H' v s) (e : asF s = .ok d) : ∃ G2, Step G H G2 H' ∧ Step G' H G2 H' ∧ Rp K G2 v d ∧ Same G' G2 := by
  obtain ⟨m, d'⟩ := s
  cases m with
  | p => cases e
  | f =>
    cases e
    exact ⟨G', S, ⟨Same.refl _, S.hh, S.gh, fun a o _ n => n⟩, h.1, Same.refl _⟩
  | o =>
    cases e
    obtain ⟨⟨a, o, rfl, n, t, r⟩, h2⟩ := h
    obtain ⟨b, e, nb⟩ := h2 rfl
    cases e
    have s1 : Same G' (upd G' a o) := same_upd n
    have s2 : Same (upd G' a o) H' := fun b x e => by
      by_cases hb : b = a
      · subst hb
        rw [upd_same] at e
        cases e
        exact t
      · rw [upd_ne hb] at e
        exact S.gh _ _ e
    have s3 : ∀ c x, H c = some x → G' c = none → upd G' a o c = none := fun c x e n' => by
      rw [upd_ne (ne_of_none e nb)]
      exact n'
    exact ⟨upd G' a o, ⟨S.gg.trans s1, S.hh, s2, fun c x e n' => s3 c x e (S.fr c x e n')⟩, ⟨s1, S.hh, s2, s3⟩, (r.mono s1).frozen upd_same, s1⟩

/-- the slots -/
structure EnvR (K : PySem.W.Frag) (G H : Hp) (σ : L2.St) (ρ : Rho) : Prop where
  len : σ.length = ρ.length
  at_ : ∀ (i : Nat) (s : Sl), ρ[i]? = some (some s) → ∃ v, σ[i]? = some (some v) ∧ SlE K G H v s
theorem EnvR.mono {σ : L2.St} {ρ : Rho} (S : Step G H G' H') (h : EnvR K G H σ ρ) : EnvR K G' H' σ ρ := ⟨h.len, fun i s e => by
  obtain ⟨v, e1, r⟩ := h.at_ i s e
  exact ⟨v, e1, r.mono S⟩⟩
/-- arguments -/
inductive ArgsR (K : PySem.W.Frag) (G H : Hp) : List V → List Sl → Prop
  | nil : ArgsR K G H [] []
  | cons {v : V} {vs : List V} {s : Sl} {ss : List Sl} : SlR K G H v s → s.m ≠ .o → ArgsR K G H vs ss → ArgsR K G H (v :: vs) (s :: ss)
theorem ArgsR.mono (S : Step G H G' H') : ∀ {vs : List V} {ss : List Sl}, ArgsR K G H vs ss → ArgsR K G' H' vs ss
  | _, _, .nil => .nil
  | _, _, .cons h n t => .cons (h.mono S) n (ArgsR.mono S t)
theorem ArgsR.length : ∀ {vs : List V} {ss : List Sl}, ArgsR K G H vs ss → vs.length = ss.length
  | _, _, .nil => rfl
  | _, _, .cons _ _ t => by rw [List.length_cons, List.length_cons, ArgsR.length t]
end
/-- the promise of a def that does what F does -/
def dspR (K : PySem.W.Frag) (G H : Hp) (Q : VK) (E : XK) : M Sl → Prop
  | .ok r => ∀ G' H' v, Step G H G' H' → ResR K H G' H' v r → Q v H'
  | .error (.raised c) => ∀ G' H', Step G H G' H' → XcOk K c → E (.ref (xga K c)) none H'
  | .error .stuck => False
def dsp (K : PySem.W.Frag) (F : List Sl → M Sl) : Sp := fun vs H Q E => ∃ G ss, Same G H ∧ ArgsR K G H vs ss ∧ dspR K G H Q E (F ss)
end GK

namespace GK
open PySem PySem.Spec PyProof.Rows L2

/-! ### readings of operators -/
def rNo : R2 := fun _ _ _ _ => False
def rCat2 (K : PySem.W.Frag) : R2 := fun x y H Q => ∃ l b xs zs, x = .ref l ∧ y = .ref b ∧ SqL K H l xs ∧ SqL K H b zs ∧ xs.length + zs.length ≤ sizeLine ∧ ∀ p, H p = none → Q (.ref p) (upd H p (.lst (xs ++ zs)))
def rOr (r r' : R2) : R2 := fun x y H Q => r x y H Q ∨ r' x y H Q
def rInKD (neg : Bool) : R2 := fun y x H Q => ∃ a o, x = .ref a ∧ DGet H a y o ∧ Q (.bl (if neg then !o.isSome else o.isSome)) H
def rSet2 (K : PySem.W.Frag) : TSet := fun o i v H Q => rSetL o i v H Q ∨ rSetD o i v H Q ∨ rSetN K o i v H Q
def rOp (K : PySem.W.Frag) (op : Operator) : R2 := match op with
  | .Add => rOr (rI0 fun i j => .int (i + j)) (rOr (rCat2 K) (rCatA K))
  | .Sub => rI0 fun i j => .int (i - j)
  | .Mult => rOr (rI CMul fun i j => .int (i * j)) rRep
  | .FloorDiv => rI CDiv fun i j => .int (i / j)
  | .Mod => rI (fun _ j => 0 < j) fun i j => .int (i % j)
  | .Pow => rI CPow fun i j => .int (i ^ j.toNat)
  | .LShift => rI CPow fun i j => .int (i * 2 ^ j.toNat)
  | .RShift => rI (fun _ j => 0 ≤ j) fun i j => .int (i / 2 ^ j.toNat)
  | .BitAnd => rI0 fun i j => .int (Builtin.bitAnd i j)
  | .BitOr => rI0 fun i j => .int (Builtin.bitOr i j)
  | .BitXor => rI0 fun i j => .int (Builtin.bitXor i j)
  | _ => rNo
def rEqT (K : PySem.W.Frag) (neg : Bool) : R2 := fun x y H Q => ∃ d e, Dp K H x d ∧ Dp K H y e ∧ deepD d = true ∧ deepD e = true ∧ Q (.bl (if neg then !PyData.eqv d e else PyData.eqv d e)) H
def rInTD (K : PySem.W.Frag) (neg : Bool) : R2 := fun x y H Q => ∃ d ds, Dp K H x d ∧ Dp K H y (.tuple ds) ∧ SeqAt.shaped d = true ∧ SeqAt.shaped (.tuple ds) = true ∧ Q (.bl (if neg then !(ds.any fun z => PyData.eqv z d) else ds.any fun z => PyData.eqv z d)) H
def rCmp (K : PySem.W.Frag) (op : CmpOp) : R2 := match op with
  | .Eq => rOr (rEqD K) (rEqT K false)
  | .NotEq => rOr (rNeD K) (rEqT K true)
  | .Lt => rI0 fun i j => .bl (decide (i < j))
  | .LtE => rI0 fun i j => .bl (decide (i ≤ j))
  | .Gt => rI0 fun i j => .bl (decide (j < i))
  | .GtE => rI0 fun i j => .bl (decide (j ≤ i))
  | .Is => rIsB
  | .IsNot => rNotB
  | .In => rOr (rInD K) (rOr (rIn K false) (rOr (rInKD false) (rOr (rInN K false) (rInTD K false))))
  | .NotIn => rOr (rNotInD K) (rOr (rIn K true) (rOr (rInKD true) (rOr (rInN K true) (rInTD K true))))
abbrev RL := List V → Hp → VK → Prop
def rLor (r r' : RL) : RL := fun xs H Q => r xs H Q ∨ r' xs H Q
def rLen (K : PySem.W.Frag) : RL := fun xs H Q => ∃ p ys, xs = [.ref p] ∧ (SqL K H p ys ∨ SqT K H p ys) ∧ Q (.int ys.length) H
def rListOf (K : PySem.W.Frag) : RL := fun xs H Q => ∃ p ys, xs = [.ref p] ∧ (SqL K H p ys ∨ SqT K H p ys) ∧ ∀ l, H l = none → Q (.ref l) (upd H l (.lst ys))
def rTupOf (K : PySem.W.Frag) : RL := fun xs H Q => ∃ p ys, xs = [.ref p] ∧ ((SqL K H p ys ∧ ∀ l, H l = none → Q (.ref l) (upd H l (.tup ys))) ∨ (SqT K H p ys ∧ Q (.ref p) H))
def rInt1 : RL := fun xs H Q => (∃ i, xs = [.int i] ∧ Q (.int i) H) ∨ ∃ k, xs = [.bl k] ∧ Q (.int (if k then 1 else 0)) H
def rStr1 : RL := fun xs H Q => ∃ i, xs = [.int i] ∧ i.natAbs.log2 < 1920 ∧ Q (.str (toString i)) H
def rSortedDK : RL := fun xs H Q => ∃ (a : Addr) (kvs : List (Key × V)) (ks : List Int), xs = [.ref a] ∧ Rd H a (.dK kvs) ∧ kvs.map (·.1) = ks.map Sum.inl ∧ ∀ (ys : List Int) (p : Addr), ys.Perm ks → ys.Pairwise (· ≤ ·) → H p = none → Q (.ref p) (upd H p (.lst (ys.map V.int)))
def rB1 (K : PySem.W.Frag) (b : B1) : RL := match b with
  | .len => rLor (rLen K) rLenD
  | .list => rListOf K
  | .tuple => rLor (rTupOf K) rTupN
  | .int => rInt1
  | .str => rStr1
  | .sum => rSum K
  | .all => rAll K
  | .any => rAny K
  | .sorted => rLor (rSortedI K) rSortedDK
def rIx2 (K : PySem.W.Frag) : R2 := rOr (rIxL K) (rIxT K)
def rSl2 (K : PySem.W.Frag) : V → Option Int → Option Int → Hp → VK → Prop := fun x lo hi H Q => rSlL K x lo hi H Q ∨ rSlA K x lo hi H Q
def rMM (mx : Bool) : RL := fun xs H Q => ∃ i j : Int, xs = [.int i, .int j] ∧ Q (.int (if mx then (if j > i then j else i) else (if j < i then j else i))) H
def IteT (K : PySem.W.Frag) (a : Addr) : It :=
  ⟨fun i H => ∃ (xs : List V) (x : V), SqT K H a xs ∧ xs[i]? = some x, fun i H v H' => ∃ T x, v = .ref T ∧ H T = none ∧ H' = upd H T (.tup [.int (i : Nat), x]) ∧ ∀ xs, SqT K H a xs → xs[i]? = some x, fun i H => ∃ xs : List V, SqT K H a xs ∧ xs.length ≤ i⟩
def iEnumT (K : PySem.W.Frag) (ta : TA) : TI := fun σ H R => ta σ H fun vs H1 => ∃ a xs, vs = [.ref a] ∧ SqT K H1 a xs ∧ R (IteT K a) H1
def iOr (w w' : TI) : TI := fun σ H R => w σ H R ∨ w' σ H R
def gTg (K : PySem.W.Frag) : Tg → TG
  | .nm i => gName i
  | .tp is => fun v σ H Q => gTup K is.length (is.foldr (fun i t => gCons (gName i) t) gNil) v σ H Q ∨ gLst K is.length (is.foldr (fun i t => gCons (gName i) t) gNil) v σ H Q

/-! ### readings of expressions -/
section
variable (K : PySem.W.Frag) (sp : Str → Sp)
mutual
def rdE : E → TE
  | .var i => tVar i
  | .int n => tC (.int (n : Int))
  | .bl b => tC (.bl b)
  | .non => tC .non
  | .str s => tC (.str s)
  | .bin op a b => tOp (rOp K op) (rdE a) (rdE b)
  | .neg a => tUn (rU fun i => .int (-i)) (rdE a)
  | .inv a => tUn (rU fun i => .int (Builtin.bitNot i)) (rdE a)
  | .cmp op a b => tOp (rCmp K op) (rdE a) (rdE b)
  | .chn op op' a b c => tChain (rCmp K op) (rCmp K op') (rdE a) (rdE b) (rdE c)
  | .isN a => tOp (fun x y H Q => y = .non ∧ Q (.bl (decide (x = .non))) H) (rdE a) (tC .non)
  | .notN a => tOp (fun x y H Q => y = .non ∧ Q (.bl (!decide (x = .non))) H) (rdE a) (tC .non)
  | .and a b => tAndV (rdE a) (rdE b)
  | .or a b => tOrV (rdE a) (rdE b)
  | .not a => tNotV (rdE a)
  | .ife c a b => tIf (tB (rdE c)) (rdE a) (rdE b)
  | .tup es => tTup (rdA es)
  | .lst es => tLst (rdA es)
  | .ix a i => fun σ H Q => tOp (rIx2 K) (rdE a) (rdE i) σ H Q ∨ tDGet (rdE a) (rdE i) σ H Q ∨ tDGetN K (rdE a) (rdE i) σ H Q
  | .sl a lo hi => tSl (rSl2 K) (rdE a) (rdO lo) (rdO hi)
  | .call f es => tCall (sp f) [] E0 (rdA es)
  | .b1 b a => tCB (rB1 K b) (tCons (rdE a) tNil)
  | .isx a c => fun σ H Q => XKn K c → tCB (rIsX K) (tCons (rdE a) (tCons (tC (clsW K c)) tNil)) σ H Q
  | .isi a t => tCB (rIsi K) (tCons (rdE a) (tCons (tC (.ty (tyN t))) tNil))
  | .lc elt tg it ifs vs => tLc (rdI it) (gTg K tg) (rdC ifs) (rdE elt) vs
  | .lrg it => tLstRg (rdR it)
  | .glb _ n => tC (.int (n : Int))
  | .mm mx a b => tCB (rMM mx) (tCons (rdE a) (tCons (rdE b) tNil))
  | .rvl a => tRevL K (rdE a)
  | .nev => fun _ _ _ => False
  | .dnw => tDNewK
  | .dsp1 k v => tDisp [(rdE k, rdE v)]
  | .sst a => tSst K (rdE a)
  | .gk _ d => fun _ H Q => ∀ v, (∀ G, Rp K G v d) → Q v H
  | .gdx _ kvs i => fun σ H Q => rdE i σ H fun y H1 => ∃ z d, y = .str z ∧ kvs.lookup z = some d ∧ ∀ v, (∀ G, Rp K G v d) → Q v H1
  | .dsp ps => tDisp (rdP ps)
  | .lns a => tLns K (rdE a)
  | .pk2 a b c => tOp (rIx2 K) (tLst (tCons (rdE a) (tCons (rdE b) tNil))) (tCB (rB1 K .int) (tCons (rdE c) tNil))
def rdP : Ps → List (TE × TE)
  | .nil => []
  | .cons k v r => (rdE k, rdE v) :: rdP r
def rdA : Es → TA
  | .nil => tNil
  | .cons e es => tCons (rdE e) (rdA es)
def rdO : Eo → TO
  | .none => tNoPart
  | .some e => tPart (rdE e)
def rdC : Eo → TT
  | .none => tYes
  | .some e => tB (rdE e)
def rdI : Iu → TI
  | .rg1 a => iRng1 (tCons (rdE a) tNil)
  | .rg2 a b => iRng2 (tCons (rdE a) (tCons (rdE b) tNil))
  | .seq e => iOr (iList K (rdE e)) (iTup K (rdE e))
  | .rg3 a b c => iRng3 (tCons (rdE a) (tCons (rdE b) (tCons (rdE c) tNil)))
  | .enm e => iOr (iEnum K (tCons (rdE e) tNil)) (iEnumT K (tCons (rdE e) tNil))
  | .zp a b => RZ.iZipA K (tCons (rdE a) (tCons (rdE b) tNil))
  | .rev e => RT.iRevA K (rdE e)
  | .rvr a => iRevR (tRg1 (rdE a))
def rdR : Iu → L2.St → Hp → (Int → Int → Hp → Prop) → Prop
  | .rg1 a => tRg1 (rdE a)
  | .rg2 a b => tRg2 (rdE a) (rdE b)
  | _ => fun _ _ _ => False
end
end

/-! ### rules that the layer lacks -/
section
variable {X : Cx} {a b c : Expr} {ta tb : TE} {pos : Pos} {rest : List Expr}
theorem opr_no {f : Value → Value → Sem Value} : OpR X f rNo := fun _ _ _ _ _ _ _ _ _ _ _ _ h => h.elim
theorem op_cat2 : OpR X (binaryOp .Add) (rCat2 X.K) := by
  intro pins s σ H x y v u Q I rx ry h
  obtain ⟨l, b, xs, zs, rfl, rfl, hH, hB, hz, q⟩ := h
  cases rx
  cases ry
  obtain ⟨its, r, pl, z⟩ := I.list hH
  obtain ⟨its2, r2, pl2, z2⟩ := I.list hB
  have hl := r.length
  have hl2 := r2.length
  obtain ⟨⟨cls, dd, data, sl⟩, ho, hc, n, hd⟩ := pl.isList
  obtain ⟨⟨cls2, dd2, data2, sl2⟩, ho2, hc2, n2, hd2⟩ := pl2.isList
  simp only at hc hd hc2 hd2
  subst hc hd hc2 hd2
  refine concat_meets ⟨_, ho, rfl⟩ ⟨_, ho2, rfl⟩ noFill_list_add seq_list_add PySem.F.slot_list_add PySem.F.entry_list_add (PySem.F.args_list_add_2 _ _) (list_addW l b its.toArray its2.toArray n n2 dd dd2 sl sl2 (by rw [List.size_toArray, List.size_toArray]; omega)) ⟨ho, ho2, ?_⟩
  have ea : its.toArray ++ its2.toArray = (its ++ its2).toArray := by simp
  rw [ea]
  exact ⟨.ref _, _, I.lnew (t' := s.toks) (r.append r2) (by rw [List.length_append]; omega), rfl, q _ I.fresh⟩
theorem op_all : ∀ op, OpR X (binaryOp op) (rOp X.K op)
  | .Add => op_add.or (op_cat2.or op_catA)
  | .Sub => op_sub
  | .Mult => op_mul.or op_rep
  | .FloorDiv => op_fdiv
  | .Mod => op_mod
  | .Pow => op_pow
  | .LShift => op_shl
  | .RShift => op_shr
  | .BitAnd => op_and
  | .BitOr => op_or
  | .BitXor => op_xor
  | .MatMult => opr_no
  | .Div => opr_no
theorem op_inKD (hu : X.A.units + 1 < cLine) : OpR X (compareOp .In) (rInKD false) := by
  intro pins s σ H y x v u Q I ry rx h
  obtain ⟨a, o, rfl, g, q⟩ := h
  obtain rfl : u = Value.ref a := rx
  exact d_in hu I g ry fun s3 I3 => ⟨.bl o.isSome, H, I3, rfl, q⟩
theorem op_notInKD (hu : X.A.units + 1 < cLine) : OpR X (compareOp .NotIn) (rInKD true) := by
  intro pins s σ H y x v u Q I ry rx h
  obtain ⟨a, o, rfl, g, q⟩ := h
  obtain rfl : u = Value.ref a := rx
  exact d_notIn hu I g ry fun s3 I3 => ⟨.bl (!o.isSome), H, I3, rfl, q⟩
theorem set_two (hu : X.A.units + 500 < cLine) : PSet X (rSet2 X.K) := by
  intro pins s σ H o i v ov iv u Q I ro ri rv h
  have hu1 : X.A.units + 1 < cLine := by omega
  rcases h with h | h | h
  · exact set_list pins s σ H o i v ov iv u Q I ro ri rv h
  · exact set_dict hu1 pins s σ H o i v ov iv u Q I ro ri rv h
  · exact set_nested hu pins s σ H o i v ov iv u Q I ro ri rv h
theorem deep_lay {d : D} (h : deepD d = true) : d.canLay0 = true ∧ d.depth ≤ 400 := by
  unfold deepD at h
  rw [Bool.and_eq_true, decide_eq_true_eq] at h
  exact h
theorem op_eqT (hu : X.A.units + 400 < cLine) : OpR X (compareOp .Eq) (rEqT X.K false) := by
  intro pins s σ H x y v u Q I rx ry h
  obtain ⟨d, e, hd, he, sd, se, q⟩ := h
  obtain ⟨as, r1⟩ := Dp.reads I d x v hd rx
  obtain ⟨bs, r2⟩ := Dp.reads I e y u he ry
  have h1 := deep_lay sd
  have h2 := deep_lay se
  exact SeqAt.compareEq_reads r1 r2 h1.1 h2.1 (by omega) ⟨.bl _, H, I, rfl, q⟩
theorem op_neT (hu : X.A.units + 400 < cLine) : OpR X (compareOp .NotEq) (rEqT X.K true) := by
  intro pins s σ H x y v u Q I rx ry h
  obtain ⟨d, e, hd, he, sd, se, q⟩ := h
  obtain ⟨as, r1⟩ := Dp.reads I d x v hd rx
  obtain ⟨bs, r2⟩ := Dp.reads I e y u he ry
  have h1 := deep_lay sd
  have h2 := deep_lay se
  exact SeqAt.compareNe_reads r1 r2 h1.1 h2.1 (by omega) ⟨.bl _, H, I, rfl, q⟩
theorem op_inTD (hu : X.A.units + 65 < cLine) : OpR X (compareOp .In) (rInTD X.K false) := by
  intro pins s σ H x y v u Q I rx ry h
  obtain ⟨d, ds, hd, he, sd, se, q⟩ := h
  obtain ⟨as, r1⟩ := Dp.reads I d x v hd rx
  obtain ⟨bs, r2⟩ := Dp.reads I (.tuple ds) y u he ry
  exact SeqAt.in_tuple_reads r2 r1 (SeqAt.canLay_of_shaped se) (SeqAt.canLay_of_shaped sd) (room_in_shaped sd hu) ⟨.bl _, H, I, rfl, q⟩
theorem op_notInTD (hu : X.A.units + 65 < cLine) : OpR X (compareOp .NotIn) (rInTD X.K true) := by
  intro pins s σ H x y v u Q I rx ry h
  obtain ⟨d, ds, hd, he, sd, se, q⟩ := h
  obtain ⟨as, r1⟩ := Dp.reads I d x v hd rx
  obtain ⟨bs, r2⟩ := Dp.reads I (.tuple ds) y u he ry
  exact SeqAt.notIn_tuple_reads r2 r1 (SeqAt.canLay_of_shaped se) (SeqAt.canLay_of_shaped sd) (room_in_shaped sd hu) ⟨.bl _, H, I, rfl, q⟩
theorem cmp_all (hu : X.A.units + 500 < cLine) : ∀ op, OpR X (compareOp op) (rCmp X.K op)
  | .Eq => (op_eqD (by omega)).or (op_eqT (by omega))
  | .NotEq => (op_neD (by omega)).or (op_neT (by omega))
  | .Lt => op_lt
  | .LtE => op_le
  | .Gt => op_gt
  | .GtE => op_ge
  | .Is => op_isBl
  | .IsNot => op_notBl
  | .In => (op_inD (by omega)).or (op_in_seq.or ((op_inKD (by omega)).or ((op_inN hu).or (op_inTD (by omega)))))
  | .NotIn => (op_notInD (by omega)).or (op_notIn_seq.or ((op_notInKD (by omega)).or ((op_notInN hu).or (op_notInTD (by omega)))))
theorem pe_or2 {e : Expr} {t u : TE} (h : PE X e t) (h' : PE X e u) : PE X e (fun σ H Q => t σ H Q ∨ u σ H Q) :=
  ⟨fun pins s σ H Q I q => q.elim (h.run pins s σ H Q I) (h'.run pins s σ H Q I)⟩
theorem pi_or {tg e : Expr} {t u : TI} (h : PI X tg e t) (h' : PI X tg e u) : PI X tg e (iOr t u) :=
  ⟨fun pins s σ H Q I q => q.elim (h.run pins s σ H Q I) (h'.run pins s σ H Q I)⟩
theorem pw_one {op : BoolOp} {t : TT} (ha : PT X a t) : PW X (.BoolOp op [a] pos) t := by
  cases op with
  | And => exact pw_and1 ha
  | Or => exact pw_or1 ha
theorem pw_andV (ha : PT X a (tB ta)) (hb : PW X (.BoolOp .And (b :: rest) pos) (tB tb)) : PW X (.BoolOp .And (a :: b :: rest) pos) (tB (tAndV ta tb)) := by
  refine ⟨fun wh pins s σ H Q I h => ?_⟩
  refine isTrue_and (thn (ha.run pins s σ H (fun c H1 => if c = true then tb σ H1 (fun x H1 => ∃ c, x = .bl c ∧ Q c H1) else (fun x H1 => ∃ c, x = V.bl c ∧ Q c H1) (.bl false) H1) I h) fun c s1 ⟨H1, I1, q1⟩ => ?_)
  cases c with
  | true => exact hb.run wh pins s1 σ H1 Q I1 q1
  | false =>
    obtain ⟨k, e, q⟩ := q1
    cases e
    exact ⟨H1, I1, q⟩
theorem pw_orV (ha : PT X a (tB ta)) (hb : PW X (.BoolOp .Or (b :: rest) pos) (tB tb)) : PW X (.BoolOp .Or (a :: b :: rest) pos) (tB (tOrV ta tb)) := by
  refine ⟨fun wh pins s σ H Q I h => ?_⟩
  refine isTrue_or (thn (ha.run pins s σ H (fun c H1 => if c = true then (fun x H1 => ∃ c, x = V.bl c ∧ Q c H1) (.bl true) H1 else tb σ H1 (fun x H1 => ∃ c, x = .bl c ∧ Q c H1)) I h) fun c s1 ⟨H1, I1, q1⟩ => ?_)
  cases c with
  | true =>
    obtain ⟨k, e, q⟩ := q1
    cases e
    exact ⟨H1, I1, q⟩
  | false => exact hb.run wh pins s1 σ H1 Q I1 q1
theorem pt_notV (ha : PT X a (tB ta)) : PT X (.UnaryOp .Not a pos) (tB (tNotV ta)) := by
  refine ⟨fun pins s σ H Q I h => ?_⟩
  refine isTrue_not (thn (ha.run pins s σ H (fun c H1 => ∃ k, V.bl (!c) = .bl k ∧ Q k H1) I h) fun c s1 ⟨H1, I1, k, e, q⟩ => ?_)
  cases e
  exact ⟨H1, I1, q⟩
theorem pt_ifE {c : Expr} {tc : TT} (hc : PT X c tc) (ha : PT X a (tB ta)) (hb : PT X b (tB tb)) : PT X (.IfExp c a b pos) (tB (tIf tc ta tb)) := by
  refine ⟨fun pins s σ H Q I h => ?_⟩
  show wpAny _ _ (do if ← isTrue c X.env (eval c X.env) then isTrue a X.env (eval a X.env) else isTrue b X.env (eval b X.env)) _ _ _
  refine wpAny_bind (thn (hc.run pins s σ H _ I h) fun d s1 ⟨H1, I1, q1⟩ => ?_)
  cases d with
  | true => exact ha.run pins s1 σ H1 Q I1 q1
  | false => exact hb.run pins s1 σ H1 Q I1 q1
theorem cr_mm (hc : X.calm = true) : ∀ mx : Bool, CallR X (.builtin (if mx then "max" else "min")) (rMM mx)
  | true => call_max2 hc
  | false => call_min2 hc
theorem callR_or {f : Value} {r r' : RL} (h : CallR X f r) (h' : CallR X f r') : CallR X f (rLor r r') := by
  intro pins s σ H xs us Q I rv q
  rcases q with q | q
  · exact h pins s σ H xs us Q I rv q
  · exact h' pins s σ H xs us Q I rv q
theorem callR_no {f : Value} : CallR X f (fun _ _ _ => False) := fun _ _ _ _ _ _ _ _ _ h => h.elim
end
/-! ### enumerate of a tuple -/
theorem Draws.over {prog : Program} {w : World} {A : Around} (hh : A.handled = none) (it t : Addr) (items : Array Value) (i : Nat) (hx : items[i]? = none) :
    Draws prog w A it [it, t] i (fun _ _ => False) (fun j h => j = i ∧ h.IsTupleIter it t i ∧ h.IsTuple t items) where
  live := fun _ _ st => let ⟨o, ho, _⟩ := st.2.1; ⟨o, ho⟩
  frame := fun _ _ _ st hk => ⟨st.1, st.2.1.at fun o e => hk it (by simp) o e, st.2.2.at fun o e => hk t (by simp) o e⟩
  item := fun j s Q E hj st _ => absurd st.1 (Nat.ne_of_lt hj)
  done := fun s Q E st hE => wpAny_nextOf_tuple_end hh st.2.1 st.2.2 hx hE
theorem turn_enumT {P : Program} {w : World} {K : PySem.W.Frag} {elts : List Expr} {kk : Nat} {tpos : Pos} (a e it : Addr) :
    Turn P w K (.Tuple elts kk tpos) (IteT K a) [e, it] e (fun i h => (∃ old, IsEnum h e it ((i : Nat) : Int) old) ∧ h.IsTupleIter it a i ∧ e ≠ it ∧ a ≠ it ∧ e ≠ a) where
  mem := by simp
  obj := fun i h st b hb => by
    obtain ⟨⟨old, he⟩, ⟨o, ho, hc, hd⟩, _⟩ := st
    have e' : b = e ∨ b = it := by simpa using hb
    rcases e' with z | z
    · rw [z]; exact ⟨_, he, fun v q => nomatch q⟩
    · rw [z]; exact ⟨o, ho, fun v q => by rw [hd] at q; cases q⟩
  keep := fun i h h' st k => let ⟨⟨old, he⟩, hi, hne⟩ := st; ⟨⟨old, k e (by simp) _ he⟩, hi.at fun o q => k it (by simp) o q, hne⟩
  item := by
    intro X hP hw hK hc i pins s σ H E I hf st hg
    subst hP hw hK
    obtain ⟨⟨old, he⟩, hit, hne, hai, hea⟩ := st
    obtain ⟨xs, x, hq, hx⟩ := hg
    obtain ⟨its, rv, p, hz⟩ := I.tuple hq
    obtain ⟨u, hu, ru⟩ := rv.get hx
    have hel : e < s.heap.objs.size := Heap.lt_size he
    have hil : it < s.heap.objs.size := by obtain ⟨_, q, _⟩ := hit; exact Heap.lt_size q
    have hil2 : i < its.toArray.size := by
      have : i < its.length := by
        rcases Nat.lt_or_ge i its.length with q | q
        · exact q
        · rw [List.getElem?_eq_none q] at hu; cases hu
      simpa using this
    have hh : X.A.in1.handled = none := I.ok.hd hc
    refine wpAny_pyNext_enum_itemD (Draws.tuple hh it a hai its.toArray) he ⟨hit, p⟩ hil2 hne (by simp [hne, hea]) fun x' h' tk hP ho hs' hT hsz hk => ?_
    have ex : x' = u := by
      have : its[i]? = some x' := by simpa using hP
      rw [hu] at this
      exact (Option.some.inj this).symm
    subst ex
    refine ⟨_, rfl, wpAny_letOwnedTupleGo_enum (s := { s with heap := h', toks := tk + 1 }) ho fun h'' he' sb => ?_⟩
    have hT2 : h''.get? s.heap.objs.size = some { cls := .type "tuple", data := .seq #[.int i tk, x'] } := (sb.2 _ (Nat.ne_of_gt hel)).trans hT
    have new : ObjOk X.prog X.w (upd H s.heap.objs.size (.tup [.int (i : Nat), x])) h'' s.heap.objs.size (.tup [.int (i : Nat), x]) :=
      ⟨by show 2 ≤ sizeLine; decide, [.int i tk, x'], .cons ⟨_, rfl⟩ (.cons ru .nil), ⟨_, hT2, rfl, _, rfl⟩⟩
    have I1 : Inv X pins σ (upd H s.heap.objs.size (.tup [.int (i : Nat), x])) { s with heap := h'', toks := tk + 1 } :=
      I.turnedNew (ch := [e, it]) (fun b ob hb q => (sb.2 b (fun z => hb (by simp [z]))).trans (hk b ob (fun z => hb (by simp [z])) (fun z => hb (by simp [z])) q)) hf (Nat.le_refl _) new
    refine ⟨.ref s.heap.objs.size, _, I1, rfl, ⟨_, x, rfl, I.hok.fresh (Nat.le_refl _), rfl, fun ys hy => by rw [I.tuple_inj hy hq]; exact hx⟩, ⟨⟨x', ?_⟩, hs'.1.at fun o q => (sb.2 it (Ne.symm hne)).trans q, hne, hai, hea⟩, fun b hb => ?_⟩
    · have e1 : ((i + 1 : Nat) : Int) = (i : Int) + 1 := by omega
      rw [e1]; exact he'
    · have hb' : b < s.heap.objs.size := by
        have e' : b = e ∨ b = it := by simpa using hb
        rcases e' with z | z
        · rw [z]; exact hel
        · rw [z]; exact hil
      rw [upd_ne (Nat.ne_of_lt hb')]
      exact (hf b hb).1
  done := by
    intro X hP hw hK hc i pins s σ H E I hf st hg
    subst hP hw hK
    obtain ⟨⟨old, he⟩, hit, hne, hai, hea⟩ := st
    obtain ⟨xs, hq, hx⟩ := hg
    obtain ⟨its, rv, p, hz⟩ := I.tuple hq
    obtain ⟨f0, f1, f2, f3, f4, f5⟩ := hf it (by simp)
    have hl := rv.length
    have hh : X.A.in1.handled = none := I.ok.hd hc
    have hx' : its.toArray[i]? = none := by simp; omega
    exact wpAny_pyNext_enum_endD (Draws.over hh it a its.toArray i hx') he ⟨rfl, hit, p⟩ fun h' eb => ⟨rfl, I.turned (t' := s.toks) (fun b o hb q => eb b o hb q) f0 f1 f3 f4 f5⟩
  self := fun A i s Q E st h => let ⟨⟨_, he⟩, _⟩ := st; wpAny_pyIter_enum he h
theorem meets_enumerate_newB1 {v : Value} {o : Obj} {H : Heap → Prop} (B : Begins v o H) :
    Meets (Builtin.«enumerate.__new__» ⟨[.type "enumerate", v], []⟩) (fun _ R s => H s.heap ∧
      R (.ok (.ret (.ref (s.heap.push o).objs.size))) { s with heap := (s.heap.push o).push { cls := .type "enumerate", data := .fields #[.none, .bool false, .ref s.heap.objs.size, rawInt 0, .none, .none] } }) :=
  .of_wp fun prog w A R s h => by
    obtain ⟨hp, g, d, tk, os⟩ := s; obtain ⟨h1, h⟩ := h
    have hsub := sub_enumerate
    have q1 : ∀ {A' : Around} {E : Value → Shared → Prop} {Q : Value → Shared → Prop}, Q (.ref hp.objs.size) ⟨hp.push o, g, d, tk, os⟩ → wpAny (model prog w) A' (pyIter v) Q E ⟨hp, g, d, tk, os⟩ :=
      fun q => B.iter prog w _ _ ⟨hp, g, d, tk, os⟩ _ h1 q
    wp_walk using q1
    refine wpAny_stack_any fun st => wpAny_pure ?_
    split
    · rename_i c _ _ _ _ _
      cases (c == Value.type "enumerate")
      · wp_walk using q1
        exact ⟨_, rfl, h⟩
      · wp_walk using q1
        exact ⟨_, rfl, h⟩
    · wp_walk using q1
      exact ⟨_, rfl, h⟩
theorem call_enum1 {prog : Program} {w : World} {A : Around} {E : Value → Shared → Prop} {s : Shared} {v : Value} {o : Obj} {H : Heap → Prop} {Q : Value → Shared → Prop} (B : Begins v o H) (h1 : H s.heap)
    (h : ∀ h', IsEnum h' (s.heap.objs.size + 1) s.heap.objs.size 0 .none → h'.get? s.heap.objs.size = some o → h'.objs.size = s.heap.objs.size + 2 →
      (∀ b o, s.heap.get? b = some o → h'.get? b = some o) → Q (.ref (s.heap.objs.size + 1)) { s with heap := h' }) :
    wpAny (model prog w) A (PySem.call (.type "enumerate") [v]) Q E s := by
  refine callType_new F.called_enumerate (by decide) (F.typeCall_enumerate_1 _) (F.newCall_enumerate_1 _) (fun obj => F.args_object_init_2 obj _) F.entry_enumerate_new
    (meets_enumerate_newB1 B) ⟨h1, ?_⟩
  have hz : (s.heap.push o).objs.size = s.heap.objs.size + 1 := Heap.size_push ..
  show _ ∧ _
  rw [hz]
  have he : IsEnum ((s.heap.push o).push { cls := .type "enumerate", data := .fields #[.none, .bool false, .ref s.heap.objs.size, rawInt 0, .none, .none] }) (s.heap.objs.size + 1) s.heap.objs.size 0 .none := by
    have := Heap.get?_push_size (s.heap.push o) (o := { cls := .type "enumerate", data := .fields #[.none, .bool false, .ref s.heap.objs.size, rawInt 0, .none, .none] }) rfl
    rw [hz] at this; exact this
  refine ⟨⟨_, he, rfl⟩, h _ he (Heap.get?_push_of_some _ (Heap.get?_push_size _ B.free)) (by rw [Heap.size_push, hz]) fun b o x => Heap.get?_push_of_some _ (Heap.get?_push_of_some _ x)⟩
theorem pi_enumT {X : Cx} {e : Expr} {ta : TA} {p pos tpos : Pos} {elts : List Expr} {kk : Nat} (hg : Gl X "enumerate") (hm : X.mg "enumerate" = none) (ha : PA X [e] ta) (hs : starEach [e] X.env = [(false, eval e X.env)] := by rfl) :
    PI X (.Tuple elts kk tpos) (.Call (.Name "enumerate" p) [e] [] pos) (iEnumT X.K ta) := by
  refine ⟨fun pins s σ H R I h => ?_⟩
  refine Call_ (ld_blt I hg hm boot_enumerate (PyProof.Rows.callWith_type1 (thn (ha.run pos pins s σ H _ I h) fun us s1 ⟨vs, H1, I1, r1, q1⟩ => ?_) hs rfl))
  obtain ⟨a, xs, ex, hq, q⟩ := q1
  subst ex
  cases r1 with
  | cons r rr =>
    cases rr
    cases r
    obtain ⟨its, rv, p', hz⟩ := I1.tuple hq
    refine call_enum1 (begins_tuple a its.toArray) p' fun h' he hit hsz hk => wpAny_pyIter_enum he ?_
    have I2 : Inv X pins σ H1 { s1 with heap := h' } := I1.kept (t' := s1.toks) hk
    have hal : a < s1.heap.objs.size := by obtain ⟨_, q, _⟩ := p'; exact Heap.lt_size q
    refine ⟨s1.heap.objs.size + 1, [s1.heap.objs.size + 1, s1.heap.objs.size], _, _, H1, rfl, I2, turn_enumT a (s1.heap.objs.size + 1) s1.heap.objs.size, ⟨⟨.none, he⟩, ⟨_, hit, rfl, rfl⟩, Nat.succ_ne_self _, Nat.ne_of_lt hal, Ne.symm (Nat.ne_of_lt (Nat.lt_succ_of_lt hal))⟩, fun b hb => ?_, q⟩
    have e' : b = s1.heap.objs.size + 1 ∨ b = s1.heap.objs.size := by simpa using hb
    have hle : s1.heap.objs.size ≤ b := by
      rcases e' with z | z
      · rw [z]; exact Nat.le_add_right _ _
      · rw [z]; exact Nat.le_refl _
    exact I1.fpOk hle (I1.hok.fresh hle)
end GK

namespace GK
open PySem PySem.Spec PyProof.Rows L2

/-! ### views of the text -/
def vName : Expr → Option Str
  | .Name x _ => some x
  | _ => none
theorem vName_eq {e : Expr} {x : Str} (h : vName e = some x) : ∃ p, e = .Name x p := by
  unfold vName at h
  split at h <;> simp_all
def vInt : Expr → Option Int
  | .Constant (.int n) _ _ => some n
  | _ => none
theorem vInt_eq {e : Expr} {x : Int} (h : vInt e = some x) : ∃ k p, e = .Constant (.int x) k p := by
  unfold vInt at h
  split at h <;> simp_all
def vBl : Expr → Option Bool
  | .Constant (.bool n) _ _ => some n
  | _ => none
theorem vBl_eq {e : Expr} {x : Bool} (h : vBl e = some x) : ∃ k p, e = .Constant (.bool x) k p := by
  unfold vBl at h
  split at h <;> simp_all
def vStr : Expr → Option Str
  | .Constant (.str n) _ _ => some n
  | _ => none
theorem vStr_eq {e : Expr} {x : Str} (h : vStr e = some x) : ∃ k p, e = .Constant (.str x) k p := by
  unfold vStr at h
  split at h <;> simp_all
def vNon : Expr → Bool
  | .Constant .none _ _ => true
  | _ => false
theorem vNon_eq {e : Expr} (h : vNon e = true) : ∃ k p, e = .Constant .none k p := by
  unfold vNon at h
  split at h <;> simp_all
def vBin : Expr → Option (Expr × Operator × Expr)
  | .BinOp a op b _ => some (a, op, b)
  | _ => none
theorem vBin_eq {e a b : Expr} {op : Operator} (h : vBin e = some (a, op, b)) : ∃ p, e = .BinOp a op b p := by
  unfold vBin at h
  split at h <;> simp_all
def vUn : Expr → Option (UnaryOp × Expr)
  | .UnaryOp op b _ => some (op, b)
  | _ => none
theorem vUn_eq {e b : Expr} {op : UnaryOp} (h : vUn e = some (op, b)) : ∃ p, e = .UnaryOp op b p := by
  unfold vUn at h
  split at h <;> simp_all
def vC1 : Expr → Option (Expr × CmpOp × Expr)
  | .Compare a [op] [b] _ => some (a, op, b)
  | _ => none
theorem vC1_eq {e a b : Expr} {op : CmpOp} (h : vC1 e = some (a, op, b)) : ∃ p, e = .Compare a [op] [b] p := by
  unfold vC1 at h
  split at h <;> simp_all
def vC2 : Expr → Option (Expr × CmpOp × Expr × CmpOp × Expr)
  | .Compare a [op, op'] [b, c] _ => some (a, op, b, op', c)
  | _ => none
theorem vC2_eq {e a b c : Expr} {op op' : CmpOp} (h : vC2 e = some (a, op, b, op', c)) : ∃ p, e = .Compare a [op, op'] [b, c] p := by
  unfold vC2 at h
  split at h <;> simp_all
def vBool : Expr → Option (BoolOp × Expr × Expr × List Expr × Pos)
  | .BoolOp op (a :: b :: r) p => some (op, a, b, r, p)
  | _ => none
theorem vBool_eq {e a b : Expr} {r : List Expr} {op : BoolOp} {p : Pos} (h : vBool e = some (op, a, b, r, p)) : e = .BoolOp op (a :: b :: r) p := by
  unfold vBool at h
  split at h <;> simp_all
def vIf : Expr → Option (Expr × Expr × Expr)
  | .IfExp c a b _ => some (c, a, b)
  | _ => none
theorem vIf_eq {e a b c : Expr} (h : vIf e = some (c, a, b)) : ∃ p, e = .IfExp c a b p := by
  unfold vIf at h
  split at h <;> simp_all
def vTup : Expr → Option (List Expr)
  | .Tuple es _ _ => some es
  | _ => none
theorem vTup_eq {e : Expr} {es : List Expr} (h : vTup e = some es) : ∃ k p, e = .Tuple es k p := by
  unfold vTup at h
  split at h <;> simp_all
def vLst : Expr → Option (List Expr)
  | .List es _ => some es
  | _ => none
theorem vLst_eq {e : Expr} {es : List Expr} (h : vLst e = some es) : ∃ p, e = .List es p := by
  unfold vLst at h
  split at h <;> simp_all
def isSl : Expr → Bool
  | .Slice .. => true
  | _ => false
def isStar : Expr → Bool
  | .Starred .. => true
  | _ => false
def vSub : Expr → Option (Expr × Expr)
  | .Subscript a i _ => if isSl i then none else some (a, i)
  | _ => none
theorem vSub_eq {e a i : Expr} (h : vSub e = some (a, i)) : ∃ p, e = .Subscript a i p ∧ isSl i = false := by
  unfold vSub at h
  split at h
  · split at h
    · cases h
    · cases h
      rename_i hn
      exact ⟨_, rfl, by cases hq : isSl i with | false => rfl | true => exact absurd hq hn⟩
  · cases h
theorem plainIx {i : Expr} (h : isSl i = false) : PlainIx i := fun o j => by
  cases i <;> first | rfl | simp [isSl] at h
def vSlc : Expr → Option (Expr × Option Expr × Option Expr)
  | .Subscript a (.Slice lo hi none _) _ => some (a, lo, hi)
  | _ => none
theorem vSlc_eq {e a : Expr} {lo hi : Option Expr} (h : vSlc e = some (a, lo, hi)) : ∃ p q, e = .Subscript a (.Slice lo hi none p) q := by
  unfold vSlc at h
  split at h <;> simp_all
def vCall : Expr → Option (Str × List Expr)
  | .Call (.Name f _) es [] _ => some (f, es)
  | _ => none
theorem vCall_eq {e : Expr} {f : Str} {es : List Expr} (h : vCall e = some (f, es)) : ∃ p q, e = .Call (.Name f p) es [] q := by
  unfold vCall at h
  split at h <;> simp_all
/-- list(reversed(x)) -/
def vLRev : Expr → Option Expr
  | .Call (.Name f _) [.Call (.Name g _) [e] [] _] [] _ => if f = "list" ∧ g = "reversed" then some e else none
  | _ => none
theorem vLRev_eq {e a : Expr} (h : vLRev e = some a) : ∃ p p2 q2 q, e = .Call (.Name "list" p) [.Call (.Name "reversed" p2) [a] [] q2] [] q := by
  unfold vLRev at h
  split at h
  · split at h
    · rename_i c
      obtain ⟨c1, c2⟩ := c
      subst c1 c2
      cases h
      exact ⟨_, _, _, _, rfl⟩
    · cases h
  · cases h
def vComp : Expr → Option (Expr × Expr × Expr × List Expr × Scope × Pos)
  | .ListComp elt [⟨tg, iter, ifs, a⟩] sc p => if a = 0 then some (elt, tg, iter, ifs, sc, p) else none
  | _ => none
theorem vComp_eq {e elt tg iter : Expr} {ifs : List Expr} {sc : Scope} {p : Pos} (h : vComp e = some (elt, tg, iter, ifs, sc, p)) : e = .ListComp elt [⟨tg, iter, ifs, 0⟩] sc p := by
  unfold vComp at h
  split at h
  · split at h
    · simp_all
    · cases h
  · cases h
def isSet : Expr → Bool
  | .Set .. => true
  | _ => false
theorem folded_plain {e : Expr} {env : Env} (h : isSet e = false) : ∀ x, foldedSetIterable e env x = pure x := fun x => by
  cases e <;> first | rfl | simp [isSet] at h
theorem star_cons {e : Expr} {es : List Expr} {env : Env} (h : isStar e = false) : starEach (e :: es) env = (false, eval e env) :: starEach es env := by
  cases e <;> first | rfl | simp [isStar] at h
theorem back_any {pos : Pos} {env : Env} : ∀ {es : List Expr}, es.all (fun e => !isStar e) = true → (backTo pos (starEach es env)).any (·.1) = false
  | [], _ => rfl
  | e :: es, h => by
    simp only [List.all_cons, Bool.and_eq_true, Bool.not_eq_true'] at h
    rw [star_cons h.1]
    show (false || (backTo pos (starEach es env)).any (·.1)) = false
    rw [back_any h.2]
    rfl

def vRev : Expr → Option Expr
  | .Subscript e (.Slice none none (some (.UnaryOp .USub (.Constant (.int 1) _ _) _)) _) _ => some e
  | _ => none
theorem vRev_eq {e a : Expr} (h : vRev e = some a) : ∃ k p1 p2 p3 p, e = .Subscript a (.Slice none none (some (.UnaryOp .USub (.Constant (.int 1) k p1) p2)) p3) p := by
  unfold vRev at h
  split at h <;> simp_all
def vDict0 : Expr → Bool
  | .Dict [] [] _ => true
  | _ => false
theorem vDict0_eq {e : Expr} (h : vDict0 e = true) : ∃ p, e = .Dict [] [] p := by
  unfold vDict0 at h
  split at h <;> simp_all
def vDict1 : Expr → Option (Expr × Expr)
  | .Dict [some k] [v] _ => some (k, v)
  | _ => none
theorem vDict1_eq {e k v : Expr} (h : vDict1 e = some (k, v)) : ∃ p, e = .Dict [some k] [v] p := by
  unfold vDict1 at h
  split at h <;> simp_all
def vDictN : Expr → Option (List (Option Expr) × List Expr)
  | .Dict ks vs _ => some (ks, vs)
  | _ => none
theorem vDictN_eq {e : Expr} {ks : List (Option Expr)} {vs : List Expr} (h : vDictN e = some (ks, vs)) : ∃ p, e = .Dict ks vs p := by
  unfold vDictN at h
  split at h <;> simp_all
/-- alike, told by a Bool -/
def sameD : D → D → Bool
  | .none, .none => true
  | .bool b, .bool c => b == c
  | .int i, .int j => decide (i = j)
  | .str x, .str y => decide (x = y)
  | .tuple ds, .tuple es => go ds es
  | _, _ => false
where go : List D → List D → Bool
  | [], [] => true
  | d :: ds, e :: es => sameD d e && go ds es
  | _, _ => false
mutual
theorem sameD_eq : ∀ (d e : D), sameD d e = true → d = e
  | .none, e, h => by cases e <;> first | rfl | cases h
  | .bool b, e, h => by
    cases e <;> first | (cases h; done) | skip
    rename_i c
    have h : (b == c) = true := h
    rw [eq_of_beq h]
  | .int i, e, h => by
    cases e <;> first | (cases h; done) | skip
    exact congrArg _ (of_decide_eq_true h)
  | .str x, e, h => by
    cases e <;> first | (cases h; done) | skip
    exact congrArg _ (of_decide_eq_true h)
  | .tuple ds, e, h => by
    cases e <;> first | (cases h; done) | skip
    exact congrArg _ (sameDs_eq ds _ h)
  | .list ds, e, h => by cases e <;> cases h
  | .dict ds, e, h => by cases e <;> cases h
theorem sameDs_eq : ∀ (ds es : List D), sameD.go ds es = true → ds = es
  | [], es, h => by cases es <;> first | rfl | cases h
  | d :: ds, es, h => by
    cases es <;> first | (cases h; done) | skip
    obtain ⟨h1, h2⟩ := Bool.and_eq_true_iff.mp (show (sameD d _ && sameD.go ds _) = true from h)
    rw [sameD_eq d _ h1, sameDs_eq ds _ h2]
end
def samePs : List (Str × D) → List (Str × D) → Bool
  | [], [] => true
  | p :: ps, q :: qs => decide (p.1 = q.1) && (sameD p.2 q.2 && samePs ps qs)
  | _, _ => false
theorem samePs_eq : ∀ (ps qs : List (Str × D)), samePs ps qs = true → ps = qs
  | [], qs, h => by cases qs <;> first | rfl | cases h
  | p :: ps, qs, h => by
    cases qs <;> first | (cases h; done) | skip
    rename_i q qs
    obtain ⟨h1, h2⟩ := Bool.and_eq_true_iff.mp (show (decide (p.1 = q.1) && (sameD p.2 q.2 && samePs ps qs)) = true from h)
    obtain ⟨h3, h4⟩ := Bool.and_eq_true_iff.mp h2
    rw [samePs_eq ps qs h4]
    obtain ⟨p1, p2⟩ := p
    obtain ⟨q1, q2⟩ := q
    have e1 : p1 = q1 := of_decide_eq_true h1
    have e2 : p2 = q2 := sameD_eq _ _ h3
    rw [e1, e2]
def isTupE (e : Expr) : Bool := (vTup e).isSome
def isPr : Iu → Bool
  | .enm _ => true
  | .zp _ _ => true
  | _ => false
/-- what is known of the module's names -/
structure Fs where
  fs : List Str
  cst : List (Str × Nat)
  ck : List (Str × D) := []
  cd : List (Str × List (Str × D)) := []
  xr : List Str := []
  xd : List Str := []
/-- a class's name that may be asked for -/
def xnB (fs : Fs) (c : Str) : Bool := xall.contains c && (decide (c = "ValueError") || fs.xd.contains c)
/-! ### the text is what the term says -/
def visB (sc : Scope) (x : Str) : Bool := match sc.names.lookup x with
  | some .local => true
  | some .cell => true
  | some .free => true
  | _ => false
def locB (sc : Scope) (x : Str) : Bool := match sc.names.lookup x with
  | some .local => true
  | some .cell => true
  | _ => false
def glB (sc : Scope) (x : Str) : Bool := match sc.names.lookup x with
  | some .globalImplicit => true
  | _ => false
theorem visB_ok {sc : Scope} {x : Str} (h : visB sc x = true) : Vis sc x := by
  unfold visB at h
  split at h
  · exact .inl (by assumption)
  · exact .inr (.inl (by assumption))
  · exact .inr (.inr (by assumption))
  · cases h
theorem locB_ok {sc : Scope} {x : Str} (h : locB sc x = true) : Loc sc x := by
  unfold locB at h
  split at h
  · exact .inl (by assumption)
  · exact .inr (by assumption)
  · cases h
theorem glB_ok {sc : Scope} {x : Str} (h : glB sc x = true) : sc.names.lookup x = some .globalImplicit := by
  unfold glB at h
  split at h
  · assumption
  · cases h
def bnames : List Str := ["len", "list", "tuple", "int", "str", "sum", "all", "any", "sorted", "range", "isinstance", "bool", "dict", "set", "min", "max", "enumerate", "zip", "reversed", "abs", "repr", "ValueError"]
def nDbg (x : Str) : Bool := (!(x == ("__debug__" : Str))) && !(x == ("__classdict__" : Str))
def b1N : B1 → Str
  | .len => "len"
  | .list => "list"
  | .tuple => "tuple"
  | .int => "int"
  | .str => "str"
  | .sum => "sum"
  | .all => "all"
  | .any => "any"
  | .sorted => "sorted"
def ownOf (N : List Str) (vs : List Nat) : List (Str × Nat) := vs.map fun i => (N.getD i "", i)
/-- a target; tsc: the scope whose own names may be stored to -/
def okTg (N : List Str) (tsc : Scope) : Tg → Expr → Bool
  | .nm i, e => match vName e with
    | some x => decide (N[i]? = some x) && locB tsc x
    | none => false
  | .tp is, e => match vTup e with
    | some es => decide (es.map vName = is.map fun i => N[i]?) && is.all (fun i => match N[i]? with
      | some x => locB tsc x
      | none => false) && decide (es.length = is.length)
    | none => false
def mmN (mx : Bool) : Str := if mx then "max" else "min"
section
variable (N : List Str) (fs : Fs)
mutual
def okE (sc tsc : Scope) : E → Expr → Bool
  | .var i, e => match vName e with
    | some x => decide (N[i]? = some x) && (visB sc x && nDbg x)
    | none => false
  | .int n, e => decide (vInt e = some (n : Int))
  | .bl n, e => decide (vBl e = some n)
  | .non, e => vNon e
  | .str n, e => decide (vStr e = some n)
  | .bin op a b, e => match vBin e with
    | some (x, o, y) => decide (o = op) && (okE sc tsc a x && okE sc tsc b y)
    | none => false
  | .neg a, e => match vUn e with
    | some (o, x) => decide (o = .USub) && okE sc tsc a x
    | none => false
  | .inv a, e => match vUn e with
    | some (o, x) => decide (o = .Invert) && okE sc tsc a x
    | none => false
  | .not a, e => match vUn e with
    | some (o, x) => decide (o = .Not) && okE sc tsc a x
    | none => false
  | .cmp op a b, e => match vC1 e with
    | some (x, o, y) => decide (o = op) && (!behindInMarks op y && (okE sc tsc a x && okE sc tsc b y))
    | none => false
  | .chn op op' a b c, e => match vC2 e with
    | some (x, o, y, o', z) => decide (o = op) && (decide (o' = op') && (decide (op' ≠ .In ∧ op' ≠ .NotIn) && (okE sc tsc a x && (okE sc tsc b y && okE sc tsc c z))))
    | none => false
  | .isN a, e => match vC1 e with
    | some (x, o, y) => decide (o = .Is) && (vNon y && okE sc tsc a x)
    | none => false
  | .notN a, e => match vC1 e with
    | some (x, o, y) => decide (o = .IsNot) && (vNon y && okE sc tsc a x)
    | none => false
  | .and a b, e => match vBool e with
    | some (o, x, y, r, p) => decide (o = .And) && (okE sc tsc a x && (match r with
      | [] => okE sc tsc b y
      | _ => okE sc tsc b (.BoolOp .And (y :: r) p)))
    | none => false
  | .or a b, e => match vBool e with
    | some (o, x, y, r, p) => decide (o = .Or) && (okE sc tsc a x && (match r with
      | [] => okE sc tsc b y
      | _ => okE sc tsc b (.BoolOp .Or (y :: r) p)))
    | none => false
  | .ife c a b, e => match vIf e with
    | some (z, x, y) => okE sc tsc c z && (okE sc tsc a x && okE sc tsc b y)
    | none => false
  | .tup es, e => match vTup e with
    | some xs => okA sc tsc es xs
    | none => false
  | .lst es, e => match vLst e with
    | some xs => okA sc tsc es xs
    | none => false
  | .ix a i, e => match vSub e with
    | some (x, y) => okE sc tsc a x && okE sc tsc i y
    | none => false
  | .sl a lo hi, e => match vSlc e with
    | some (x, l, h) => okE sc tsc a x && (okO sc tsc lo l && okO sc tsc hi h)
    | none => false
  | .call f es, e => match vCall e with
    | some (g, xs) => decide (g = f) && (fs.fs.contains f && (glB sc f && (nDbg f && okA sc tsc es xs)))
    | none => false
  | .b1 b a, e => match vCall e with
    | some (g, [x]) => decide (g = b1N b) && (glB sc (b1N b) && (okE sc tsc a x && !isStar x))
    | _ => false
  | .isx a c, e => match vCall e with
    | some (g, [x, y]) => decide (g = "isinstance") && (glB sc "isinstance" && (okE sc tsc a x && (!isStar x && (decide (vName y = some c) && (glB sc c && xnB fs c)))))
    | _ => false
  | .isi a t, e => match vCall e with
    | some (g, [x, y]) => decide (g = "isinstance") && (glB sc "isinstance" && (okE sc tsc a x && (!isStar x && (decide (vName y = some (tyN t : Str)) && glB sc (tyN t)))))
    | _ => false
  | .lc elt tg it ifs vs, e => match vComp e with
    | some (x, t, i, c, scope, _) => blkC N sc scope (ownOf N vs) && (okI sc tsc it i && (okTg N scope tg t && ((!isPr it || isTupE t) && (okC (relS scope sc) scope ifs c && okE (relS scope sc) scope elt x))))
    | none => false
  | .lrg it, e => match vCall e with
    | some (g, [x]) => decide (g = "list") && (glB sc "list" && (okR sc tsc it x && !isStar x))
    | _ => false
  | .glb x n, e => match vName e with
    | some y => decide (y = x) && (glB sc x && (nDbg x && decide ((x, n) ∈ fs.cst)))
    | none => false
  | .mm mx a b, e => match vCall e with
    | some (g, [x, y]) => decide (g = mmN mx) && (glB sc (mmN mx) && (okE sc tsc a x && (!isStar x && (okE sc tsc b y && !isStar y))))
    | _ => false
  | .rvl a, e => match vRev e with
    | some x => okE sc tsc a x
    | none => match vLRev e with
      | some x => glB sc "list" && (glB sc "reversed" && (okE sc tsc a x && !isStar x))
      | none => false
  | .nev, e => !isStar e
  | .dnw, e => vDict0 e
  | .dsp1 k v, e => match vDict1 e with
    | some (x, y) => okE sc tsc k x && okE sc tsc v y
    | none => false
  | .sst a, e => match vCall e with
    | some (g, [x]) => (match vCall x with
      | some (f, [y]) => decide (g = "sorted") && (decide (f = "set") && (glB sc "sorted" && (glB sc "set" && (okE sc tsc a y && !isStar y))))
      | _ => false)
    | _ => false
  | .gk x d, e => match vName e with
    | some y => decide (y = x) && (glB sc x && (nDbg x && fs.ck.any fun p => decide (p.1 = x) && sameD p.2 d))
    | none => false
  | .gdx x kvs i, e => match vSub e with
    | some (o, j) => (match vName o with
      | some y => decide (y = x) && (glB sc x && (nDbg x && ((fs.cd.any fun p => decide (p.1 = x) && samePs p.2 kvs) && okE sc tsc i j)))
      | none => false)
    | none => false
  | .dsp ps, e => match vDictN e with
    | some (ks, vs) => decide (ks ≠ [] ∧ ks.length ≤ 15) && okP sc tsc ps ks vs
    | none => false
  | .pk2 a b c, e => match vSub e with
    | some (l, i) => (match vLst l, vCall i with
      | some [x, y], some (g, [z]) => decide (g = "int") && (glB sc "int" && (okE sc tsc a x && (!isStar x && (okE sc tsc b y && (!isStar y && (okE sc tsc c z && !isStar z))))))
      | _, _ => false)
    | none => false
  | .lns a, e => match vCall e with
    | some (g, [x]) => (match vCall x with
      | some (f, [y]) => decide (g = "len") && (decide (f = "set") && (glB sc "len" && (glB sc "set" && (okE sc tsc a y && !isStar y))))
      | _ => false)
    | _ => false
def okP (sc tsc : Scope) : Ps → List (Option Expr) → List Expr → Bool
  | .nil, ks, vs => ks.isEmpty && vs.isEmpty
  | .cons k v r, ks, vs => match ks, vs with
    | some x :: ks, y :: vs => okE sc tsc k x && (okE sc tsc v y && okP sc tsc r ks vs)
    | _, _ => false
def okA (sc tsc : Scope) : Es → List Expr → Bool
  | .nil, xs => xs.isEmpty
  | .cons e es, xs => match xs with
    | x :: r => okE sc tsc e x && (!isStar x && okA sc tsc es r)
    | [] => false
def okO (sc tsc : Scope) : Eo → Option Expr → Bool
  | .none, o => o.isNone
  | .some e, o => match o with
    | some x => okE sc tsc e x
    | none => false
def okC (sc tsc : Scope) : Eo → List Expr → Bool
  | .none, o => o.isEmpty
  | .some e, o => match o with
    | [x] => okE sc tsc e x
    | _ => false
def okI (sc tsc : Scope) : Iu → Expr → Bool
  | .rg1 a, e => match vCall e with
    | some (g, [x]) => decide (g = "range") && (glB sc "range" && (okE sc tsc a x && !isStar x))
    | _ => false
  | .rg2 a b, e => match vCall e with
    | some (g, [x, y]) => decide (g = "range") && (glB sc "range" && (okE sc tsc a x && (!isStar x && (okE sc tsc b y && !isStar y))))
    | _ => false
  | .seq a, e => okE sc tsc a e && !isSet e
  | .rg3 a b c, e => match vCall e with
    | some (g, [x, y, z]) => decide (g = "range") && (glB sc "range" && (okE sc tsc a x && (!isStar x && (okE sc tsc b y && (!isStar y && (okE sc tsc c z && !isStar z))))))
    | _ => false
  | .enm a, e => match vCall e with
    | some (g, [x]) => decide (g = "enumerate") && (glB sc "enumerate" && (okE sc tsc a x && !isStar x))
    | _ => false
  | .zp a b, e => match vCall e with
    | some (g, [x, y]) => decide (g = "zip") && (glB sc "zip" && (okE sc tsc a x && (!isStar x && (okE sc tsc b y && !isStar y))))
    | _ => false
  | .rev a, e => match vCall e with
    | some (g, [x]) => decide (g = "reversed") && (glB sc "reversed" && (okE sc tsc a x && !isStar x))
    | _ => false
  | .rvr a, e => match vCall e with
    | some (g, [r]) => decide (g = "reversed") && (glB sc "reversed" && (!isStar r && (match vCall r with
      | some (g2, [x]) => decide (g2 = "range") && (glB sc "range" && (okE sc tsc a x && !isStar x))
      | _ => false)))
    | _ => false
def okR (sc tsc : Scope) : Iu → Expr → Bool
  | .rg1 a, e => match vCall e with
    | some (g, [x]) => decide (g = "range") && (glB sc "range" && (okE sc tsc a x && !isStar x))
    | _ => false
  | .rg2 a b, e => match vCall e with
    | some (g, [x, y]) => decide (g = "range") && (glB sc "range" && (okE sc tsc a x && (!isStar x && (okE sc tsc b y && !isStar y))))
    | _ => false
  | _, _ => false
end
end

/-! ### the context -/
abbrev veMro : List Value := [.type "ValueError", .type "Exception", .type "BaseException", .type "object"]
/-- a class that can be raised -/
structure XrOk (X : Cx) (c : Str) : Prop where
  q : PySem.W.excIn X.K (xga X.K c) veMro "ValueError.__new__" = true
  g : X.mg c = some (.ref (xga X.K c))
  kp : PySem.W.keepIn X.K (.ref (xga X.K c)) = true
  r : Raises X (.ref (xga X.K c))
structure Cxt (X : Cx) (K : PySem.W.Frag) (sp : Str → Sp) (N : List Str) (fs : Fs) (sc tsc : Scope) : Prop where
  k : X.K = K
  calm : X.calm = true
  n : X.N = N
  nd : N.Nodup
  sc : X.env.scope = sc
  blt : ∀ b, b ∈ bnames → X.mg b = none
  hu : X.A.units + 500 < cLine
  gc : ∀ x n, (x, n) ∈ fs.cst → ∃ t, X.mg x = some (.int ((n : Nat) : Int) t)
  gk : ∀ x d, (x, d) ∈ fs.ck → ∃ v u, X.mg x = some u ∧ RelV v u ∧ ∀ G, Rp K G v d
  gd : ∀ x kvs, (x, kvs) ∈ fs.cd → ∃ a, X.mg x = some (.ref a) ∧ ∀ z d, kvs.lookup z = some d → ∃ v, KDct K X.w a z v ∧ ∀ G, Rp K G v d
  fn : ∀ f, f ∈ fs.fs → ∃ a fd ps k, FnOk X.prog X.w X.K X.mg X.base (L2.CX X.prog X.w) k a fd ps (sp f) ∧ Room k X.A ∧ X.mg f = some (.ref a) ∧ PySem.W.keepIn X.K (.ref a) = true ∧ Binds X.K fd ps []
  xd : ∀ d, d ∈ fs.xd → X.mg d = some (.ref (xga K d)) ∧ ∃ a, PySem.W.nsIn K mainGlobals d = some (some (.ref a))
  xr : ∀ c, c ∈ fs.xr → XcOk K c ∧ XrOk X c
  tg : ∀ x, locB tsc x = true → Loc X.env.scope x ∧ (X.fn x = true ∨ X.env.scope.names.lookup x = some .local)
theorem Cxt.blk {X : Cx} {K : PySem.W.Frag} {sp : Str → Sp} {N : List Str} {fs : Fs} {sc tsc scope : Scope} (C : Cxt X K sp N fs sc tsc) (hu : ∀ y ∈ scope.names, scope.names.lookup y.1 = some y.2) (s : Shared) (H : Hp) (A : Addr) (cl : List (Str × Addr)) (fp : List Addr) :
    Cxt (X.blk s H scope (compEnvC scope cl A X.env) fp) K sp N fs (relS scope sc) scope where
  k := C.k
  calm := C.calm
  n := C.n
  nd := C.nd
  sc := by
    show relS scope X.env.scope = _
    rw [C.sc]
  blt := C.blt
  hu := C.hu
  gc := C.gc
  gk := C.gk
  gd := C.gd
  fn := C.fn
  xd := C.xd
  xr := fun c hc => ⟨(C.xr c hc).1, ⟨(C.xr c hc).2.q, (C.xr c hc).2.g, (C.xr c hc).2.kp, (C.xr c hc).2.r⟩⟩
  tg := fun x h => by
    have hs : (X.blk s H scope (compEnvC scope cl A X.env) fp).env.scope = relS scope X.env.scope := rfl
    rw [hs]
    rcases locB_ok h with e | e
    · have q : (relS scope X.env.scope).names.lookup x = some .local := lookup_relS_keep (by decide) e
      exact ⟨.inl q, .inr q⟩
    · have q : (relS scope X.env.scope).names.lookup x = some .cell := lookup_relS_keep (by decide) e
      refine ⟨.inr q, .inl ?_⟩
      show (scope.names.lookup x == some .cell) = true
      rw [e]
      rfl
end GK

namespace GK
open PySem PySem.Spec PyProof.Rows L2

theorem and2 {a b : Bool} (h : (a && b) = true) : a = true ∧ b = true := Bool.and_eq_true_iff.mp h
theorem nDbg_ok {x : Str} (h : nDbg x = true) : (x == ("__debug__" : Str)) = false ∧ (x == ("__classdict__" : Str)) = false := by
  obtain ⟨h1, h2⟩ := and2 h
  exact ⟨by simpa using h1, by simpa using h2⟩
theorem not_t {b : Bool} (h : (!b) = true) : b = false := by simpa using h
theorem boot_b1 : ∀ b : B1, (b1N b == ("__debug__" : Str)) = false ∧ b1N b ≠ ("__name__" : Str) ∧ b1N b ∈ bnames := by
  intro b
  cases b <;> decide +kernel
theorem pe_true {X : Cx} {e : Expr} {t : TE} (h : PE X e t) (he : ∀ whole, isTrue e X.env whole = (do let v ← whole; standAt e.pos; holding [v] (truthy v))) : PT X e (tB t) := pt_val h he

/-- what is shown of an expression -/
structure Der (X : Cx) (e : Expr) (t : TE) : Prop where
  pe : PE X e t
  pt : PT X e (tB t)
  pw : ∀ op vs p, e = .BoolOp op vs p → PW X e (tB t)
  ns : isStar e = false
theorem Der.mk' {X : Cx} {e : Expr} {t : TE} (h : PE X e t) (he : ∀ whole, isTrue e X.env whole = (do let v ← whole; standAt e.pos; holding [v] (truthy v))) (nb : ∀ op vs p, e ≠ .BoolOp op vs p) (ns : isStar e = false) : Der X e t :=
  ⟨h, pt_val h he, fun op vs p z => absurd z (nb op vs p), ns⟩
/-- one argument of a built-in -/
theorem pa1 {X : Cx} {e : Expr} {t : TE} (h : PE X e t) (ns : isStar e = false) : PA X [e] (tCons t tNil) := pa_cons h pa_nil (star_cons ns)
theorem pe_b1 {X : Cx} {K : PySem.W.Frag} {sp : Str → Sp} {N : List Str} {fs : Fs} {sc tsc : Scope} (C : Cxt X K sp N fs sc tsc) (b : B1) {x : Expr} {t : TE} {p q : Pos} (h : PE X x t) (ns : isStar x = false) (hg : glB sc (b1N b) = true) :
    PE X (.Call (.Name (b1N b) p) [x] [] q) (tCB (rB1 K b) (tCons t tNil)) := by
  obtain ⟨d1, d2, d3⟩ := boot_b1 b
  have hg' : Gl X (b1N b) := by
    show X.env.scope.names.lookup _ = _
    rw [C.sc]
    exact glB_ok hg
  have hm := C.blt _ d3
  have hk := C.k
  cases b with
  | len => subst hk; exact pe_callB (callR_or call_len_seq cr_lenD) hg' hm PySem.boot_len (pa1 h ns) d2 d1 (star_cons ns) rfl
  | list => subst hk; exact pe_callTy call_list_of hg' hm PyProof.Rows.boot_list (pa1 h ns) d2 d1 (star_cons ns) rfl
  | tuple => subst hk; exact pe_callTy (callR_or call_tuple_of (cr_tupleN C.calm)) hg' hm PyProof.Rows.boot_tuple (pa1 h ns) d2 d1 (star_cons ns) rfl
  | int => subst hk; exact pe_callTy call_int1 hg' hm PyProof.Rows.boot_int (pa1 h ns) d2 d1 (star_cons ns) rfl
  | str => subst hk; exact pe_callTy call_str_int hg' hm PyProof.Rows.boot_str (pa1 h ns) d2 d1 (star_cons ns) rfl
  | sum => subst hk; exact pe_callB (cr_sum C.calm) hg' hm (by decide +kernel) (pa1 h ns) d2 d1 (star_cons ns) rfl
  | all => subst hk; exact pe_callB (cr_all C.calm) hg' hm (by decide +kernel) (pa1 h ns) d2 d1 (star_cons ns) rfl
  | any => subst hk; exact pe_callB (cr_any C.calm) hg' hm (by decide +kernel) (pa1 h ns) d2 d1 (star_cons ns) rfl
  | sorted => subst hk; exact pe_callB (callR_or cr_sortedI (cr_sortD C.calm)) hg' hm (by decide +kernel : bootBuiltins "sorted" = some (.builtin "sorted")) (pa1 h ns) d2 d1 (star_cons ns) rfl
/-- a constant of the module -/
theorem pe_gk {X : Cx} {K : PySem.W.Frag} {x : Str} {d : D} {v : V} {u : Value} {p : Pos} (hg : Gl X x) (hm : X.mg x = some u) (r : RelV v u) (hr : ∀ G, Rp K G v d) (hd : (x == ("__debug__" : Str)) = false) : PE X (.Name x p) (fun _ H Q => ∀ v, (∀ G, Rp K G v d) → Q v H) :=
  ⟨fun pins s σ H Q I q => (pe_glob hg hm r hd).run pins s σ H Q I (q v hr)⟩
/-- a table of the module -/
theorem pe_gdx {X : Cx} {x : Str} {a : Addr} {kvs : List (Str × D)} {i : Expr} {ti : TE} {p q : Pos} (hg : Gl X x) (hm : X.mg x = some (.ref a)) (hk : ∀ z d, kvs.lookup z = some d → ∃ v, KDct X.K X.w a z v ∧ ∀ G, Rp X.K G v d) (hd : (x == ("__debug__" : Str)) = false) (hi : PE X i ti) (hs : PlainIx i) :
    PE X (.Subscript (.Name x p) i q) (fun σ H Q => ti σ H fun y H1 => ∃ z d, y = .str z ∧ kvs.lookup z = some d ∧ ∀ v, (∀ G, Rp X.K G v d) → Q v H1) := by
  have b := pe_ix (pos := q) ix_kdict (pe_glob (pos := p) (v := .ref a) hg hm rfl hd) (pe_up hi) hs
  refine ⟨fun pins s σ H Q I h => b.run pins s σ H Q I ⟨_, h, fun y H1 k => ?_⟩⟩
  obtain ⟨z, d, rfl, hl, k⟩ := k
  obtain ⟨v, h1, h2⟩ := hk z d hl
  exact ⟨a, z, v, rfl, rfl, h1, k v h2⟩
end GK

namespace GK
open PySem PySem.Spec PyProof.Rows L2

theorem assignEach_name {x : Str} {p : Pos} {es : List Expr} {env : Env} : assignEach (.Name x p :: es) env = (false, assign (.Name x p) env) :: assignEach es env := rfl
section
variable {X : Cx} {K : PySem.W.Frag} {sp : Str → Sp} {N : List Str} {fs : Fs} {sc tsc : Scope}
theorem dTgs (C : Cxt X K sp N fs sc tsc) : ∀ (is : List Nat) (es : List Expr), es.map vName = is.map (fun i => N[i]?) → (is.all fun i => match N[i]? with
      | some x => locB tsc x
      | none => false) = true → PGs X es (is.foldr (fun i t => gCons (gName i) t) gNil) ∧ (assignEach es X.env).length = es.length ∧ (assignEach es X.env).findIdx? (·.1) = none
  | [], [], _, _ => ⟨pgs_nil, rfl, rfl⟩
  | [], _ :: _, h, _ => by simp at h
  | _ :: _, [], h, _ => by simp at h
  | i :: is, e :: es, h, h2 => by
    simp only [List.map_cons, List.cons.injEq] at h
    simp only [List.all_cons, Bool.and_eq_true] at h2
    obtain ⟨a, b, c⟩ := dTgs C is es h.2 h2.2
    have h3 := h2.1
    split at h3
    · rename_i x hx
      obtain ⟨p, rfl⟩ := vName_eq (h.1.trans hx)
      obtain ⟨t1, t2⟩ := C.tg x h3
      refine ⟨pgs_cons (pg_name (i := i) (C.n ▸ C.nd) (C.n ▸ hx) t1 t2) a rfl, ?_, ?_⟩
      · rw [assignEach_name, List.length_cons, b, List.length_cons]
      · rw [assignEach_name, List.findIdx?_cons, c]
        rfl
    · cases h3
theorem pg_or {X : Cx} {e : Expr} {t t' : TG} (h : PG X e t) (h' : PG X e t') : PG X e (fun v σ H Q => t v σ H Q ∨ t' v σ H Q) :=
  ⟨fun pins s σ H v u Q I r hw => by
    rcases hw with hw | hw
    · exact h.run pins s σ H v u Q I r hw
    · exact h'.run pins s σ H v u Q I r hw⟩
theorem dTg (C : Cxt X K sp N fs sc tsc) (t : Tg) (e : Expr) (h : okTg N tsc t e = true) : PG X e (gTg K t) := by
  cases t with
  | nm i =>
    simp only [okTg] at h
    split at h
    · rename_i x hx
      obtain ⟨p, rfl⟩ := vName_eq hx
      obtain ⟨h1, h2⟩ := and2 h
      obtain ⟨t1, t2⟩ := C.tg x h2
      exact pg_name (C.n ▸ C.nd) (C.n ▸ of_decide_eq_true h1) t1 t2
    · cases h
  | tp is =>
    simp only [okTg] at h
    split at h
    · rename_i es hx
      obtain ⟨k, p, rfl⟩ := vTup_eq hx
      obtain ⟨h12, h3⟩ := and2 h
      obtain ⟨h1, h2⟩ := and2 h12
      obtain ⟨a, b, c⟩ := dTgs C is es (of_decide_eq_true h1) h2
      have hk := C.k
      subst hk
      exact pg_or (pg_tup C.calm a (b.trans (of_decide_eq_true h3)) c) (pg_lst C.calm a (b.trans (of_decide_eq_true h3)) c)
    · cases h
end
theorem glOf {X : Cx} {K : PySem.W.Frag} {sp : Str → Sp} {N : List Str} {fs : Fs} {sc tsc : Scope} (C : Cxt X K sp N fs sc tsc) {x : Str} (h : glB sc x = true) : Gl X x := by
  show X.env.scope.names.lookup _ = _
  rw [C.sc]
  exact glB_ok h
theorem prTup {it : Iu} {t : Expr} (h : (!isPr it || isTupE t) = true) (hp : isPr it = true) : isTupE t = true := by
  rw [hp] at h
  simpa using h
theorem isTupE_eq {t : Expr} (h : isTupE t = true) : ∃ es k p, t = .Tuple es k p := by
  unfold isTupE at h
  obtain ⟨es, e⟩ := Option.isSome_iff_exists.mp h
  obtain ⟨k, p, r⟩ := vTup_eq e
  exact ⟨es, k, p, r⟩
theorem isi_name (t : Ty) : bootBuiltins (tyN t : Str) = some (.type (tyN t)) ∧ ((tyN t : Str) == ("__debug__" : Str)) = false ∧ (tyN t : Str) ≠ ("__name__" : Str) ∧ (tyN t : Str) ∈ bnames := by
  cases t <;> decide +kernel
theorem xall_dbg : ∀ d, xall.contains d = true → (d == ("__debug__" : Str)) = false := by
  intro d h
  have h : d ∈ xall := by simpa using h
  have : ∀ d ∈ xall, (d == ("__debug__" : Str)) = false := by decide +kernel
  exact this d h
/-- a class's name -/
theorem pe_cls {X : Cx} {K : PySem.W.Frag} {sp : Str → Sp} {N : List Str} {fs : Fs} {sc tsc : Scope} (C : Cxt X K sp N fs sc tsc) {c : Str} {p : Pos} (hg : glB sc c = true) (hx : xnB fs c = true) : XKn K c ∧ PE X (.Name c p) (tC (clsW K c)) := by
  have hg' : Gl X c := by
    show X.env.scope.names.lookup _ = _
    rw [C.sc]
    exact glB_ok hg
  obtain ⟨h1, h2⟩ := and2 hx
  by_cases e : c = "ValueError"
  · subst e
    refine ⟨.inl rfl, ?_⟩
    have : clsW K "ValueError" = .ty "ValueError" := if_pos rfl
    rw [this]
    exact pe_bltn hg' (C.blt _ (by simp [bnames])) (by decide +kernel : bootBuiltins "ValueError" = some (.type "ValueError")) rfl (by decide +kernel) (by decide +kernel)
  · have hm : c ∈ fs.xd := by
      rcases Bool.or_eq_true_iff.mp h2 with z | z
      · exact absurd (of_decide_eq_true z) e
      · simpa using z
    obtain ⟨m, a, n⟩ := C.xd c hm
    refine ⟨.inr ⟨a, n⟩, ?_⟩
    have : clsW K c = .ref (xga K c) := if_neg e
    rw [this]
    exact pe_glob hg' m rfl (xall_dbg c h1)
theorem pe_imp {X : Cx} {e : Expr} {t t' : TE} (h : PE X e t) (i : ∀ σ H Q, t' σ H Q → t σ H Q) : PE X e t' := ⟨fun pins s σ H Q I q => h.run pins s σ H Q I (i σ H Q q)⟩
theorem dbg_isi : (("isinstance" : Str) == ("__debug__" : Str)) = false := by decide +kernel
theorem bn (x : Str) (h : bnames.contains x = true) : x ∈ bnames := by simpa using h

section
variable (K : PySem.W.Frag) (sp : Str → Sp) (N : List Str) (fs : Fs)
mutual
theorem dE : ∀ (e : E) {X : Cx} {sc tsc : Scope} (C : Cxt X K sp N fs sc tsc) (x : Expr), okE N fs sc tsc e x = true → Der X x (rdE K sp e)
  | .var i, X, sc, tsc, C, x, h => by
    unfold okE at h
    split at h
    · rename_i y hy
      obtain ⟨p, rfl⟩ := vName_eq hy
      obtain ⟨h1, h2⟩ := and2 h
      obtain ⟨h2, h3⟩ := and2 h2
      obtain ⟨d1, d2⟩ := nDbg_ok h3
      refine .mk' (pe_var (C.n ▸ of_decide_eq_true h1) ?_ d1 d2) (fun _ => rfl) (fun _ _ _ z => nomatch z) rfl
      rw [C.sc]
      exact visB_ok h2
    · cases h
  | .int n, X, sc, tsc, C, x, h => by
    unfold okE at h
    obtain ⟨k, p, rfl⟩ := vInt_eq (of_decide_eq_true h)
    exact .mk' pe_int (fun _ => rfl) (fun _ _ _ z => nomatch z) rfl
  | .bl n, X, sc, tsc, C, x, h => by
    unfold okE at h
    obtain ⟨k, p, rfl⟩ := vBl_eq (of_decide_eq_true h)
    exact .mk' pe_bl (fun _ => rfl) (fun _ _ _ z => nomatch z) rfl
  | .non, X, sc, tsc, C, x, h => by
    unfold okE at h
    obtain ⟨k, p, rfl⟩ := vNon_eq h
    exact .mk' pe_non (fun _ => rfl) (fun _ _ _ z => nomatch z) rfl
  | .str n, X, sc, tsc, C, x, h => by
    unfold okE at h
    obtain ⟨k, p, rfl⟩ := vStr_eq (of_decide_eq_true h)
    exact .mk' pe_str (fun _ => rfl) (fun _ _ _ z => nomatch z) rfl
  | .bin op a b, X, sc, tsc, C, x, h => by
    unfold okE at h
    split at h
    · rename_i l o r hv
      obtain ⟨p, rfl⟩ := vBin_eq hv
      obtain ⟨h1, h2⟩ := and2 h
      obtain ⟨h2, h3⟩ := and2 h2
      cases of_decide_eq_true h1
      have A := dE a C _ h2
      have B := dE b C _ h3
      have hk := C.k
      subst hk
      exact .mk' (pe_op (op_all op) A.pe B.pe) (fun _ => rfl) (fun _ _ _ z => nomatch z) rfl
    · cases h
  | .neg a, X, sc, tsc, C, x, h => by
    unfold okE at h
    split at h
    · rename_i o r hv
      obtain ⟨p, rfl⟩ := vUn_eq hv
      obtain ⟨h1, h2⟩ := and2 h
      cases of_decide_eq_true h1
      exact .mk' (pe_un un_neg (dE a C _ h2).pe) (fun _ => rfl) (fun _ _ _ z => nomatch z) rfl
    · cases h
  | .inv a, X, sc, tsc, C, x, h => by
    unfold okE at h
    split at h
    · rename_i o r hv
      obtain ⟨p, rfl⟩ := vUn_eq hv
      obtain ⟨h1, h2⟩ := and2 h
      cases of_decide_eq_true h1
      exact .mk' (pe_un un_inv (dE a C _ h2).pe) (fun _ => rfl) (fun _ _ _ z => nomatch z) rfl
    · cases h
  | .not a, X, sc, tsc, C, x, h => by
    unfold okE at h
    split at h
    · rename_i o r hv
      obtain ⟨p, rfl⟩ := vUn_eq hv
      obtain ⟨h1, h2⟩ := and2 h
      cases of_decide_eq_true h1
      have A := dE a C _ h2
      exact ⟨pe_not A.pe, pt_notV A.pt, (fun _ _ _ z => nomatch z), rfl⟩
    · cases h
  | .cmp op a b, X, sc, tsc, C, x, h => by
    unfold okE at h
    split at h
    · rename_i l o r hv
      obtain ⟨p, rfl⟩ := vC1_eq hv
      obtain ⟨h1, h2⟩ := and2 h
      obtain ⟨h2, h3⟩ := and2 h2
      obtain ⟨h3, h4⟩ := and2 h3
      cases of_decide_eq_true h1
      have A := dE a C _ h3
      have B := dE b C _ h4
      have hk := C.k
      subst hk
      exact ⟨pe_cmpR (cmp_all C.hu op) A.pe B.pe (not_t h2), pt_cmpR (cmp_all C.hu op) A.pe B.pe (not_t h2), (fun _ _ _ z => nomatch z), rfl⟩
    · cases h
  | .chn op op' a b c, X, sc, tsc, C, x, h => by
    unfold okE at h
    split at h
    · rename_i l o r o' r' hv
      obtain ⟨p, rfl⟩ := vC2_eq hv
      obtain ⟨h1, h2⟩ := and2 h
      obtain ⟨h2, h3⟩ := and2 h2
      obtain ⟨h3, h4⟩ := and2 h3
      obtain ⟨h4, h5⟩ := and2 h4
      obtain ⟨h5, h6⟩ := and2 h5
      cases of_decide_eq_true h1
      cases of_decide_eq_true h2
      obtain ⟨n1, n2⟩ := of_decide_eq_true h3
      have A := dE a C _ h4
      have B := dE b C _ h5
      have E := dE c C _ h6
      have hk := C.k
      subst hk
      have hm : lastMarks [op, op'] [r, r'] = false := nomark _ n1 n2
      exact ⟨pe_chain (cmp_all C.hu op) (cmp_all C.hu op') A.pe B.pe E.pe hm, pt_chain (cmp_all C.hu op) (cmp_all C.hu op') A.pe B.pe E.pe hm, (fun _ _ _ z => nomatch z), rfl⟩
    · cases h
  | .isN a, X, sc, tsc, C, x, h => by
    unfold okE at h
    split at h
    · rename_i l o r hv
      obtain ⟨p, rfl⟩ := vC1_eq hv
      obtain ⟨h1, h2⟩ := and2 h
      obtain ⟨h2, h3⟩ := and2 h2
      cases of_decide_eq_true h1
      obtain ⟨k, q, rfl⟩ := vNon_eq h2
      have A := dE a C _ h3
      exact ⟨pe_cmpR op_isN A.pe pe_non (nomark _), pt_cmpR op_isN A.pe pe_non (nomark _), (fun _ _ _ z => nomatch z), rfl⟩
    · cases h
  | .notN a, X, sc, tsc, C, x, h => by
    unfold okE at h
    split at h
    · rename_i l o r hv
      obtain ⟨p, rfl⟩ := vC1_eq hv
      obtain ⟨h1, h2⟩ := and2 h
      obtain ⟨h2, h3⟩ := and2 h2
      cases of_decide_eq_true h1
      obtain ⟨k, q, rfl⟩ := vNon_eq h2
      have A := dE a C _ h3
      exact ⟨pe_cmpR op_notN A.pe pe_non (nomark _), pt_cmpR op_notN A.pe pe_non (nomark _), (fun _ _ _ z => nomatch z), rfl⟩
    · cases h
  | .and a b, X, sc, tsc, C, x, h => by
    unfold okE at h
    split at h
    · rename_i o l r rs p hv
      have e := vBool_eq hv
      subst e
      obtain ⟨h1, h2⟩ := and2 h
      obtain ⟨h2, h3⟩ := and2 h2
      cases of_decide_eq_true h1
      have A := dE a C _ h2
      have B : PE X (.BoolOp .And (r :: rs) p) (rdE K sp b) ∧ PW X (.BoolOp .And (r :: rs) p) (tB (rdE K sp b)) := by
        cases rs with
        | nil =>
          have q := dE b C _ h3
          exact ⟨pe_one q.pe, pw_one q.pt⟩
        | cons z zs =>
          have q := dE b C _ h3
          exact ⟨q.pe, q.pw _ _ _ rfl⟩
      have W := pw_andV A.pt B.2
      exact ⟨pe_and A.pe B.1, W.pt, fun _ _ _ _ => W, rfl⟩
    · cases h
  | .or a b, X, sc, tsc, C, x, h => by
    unfold okE at h
    split at h
    · rename_i o l r rs p hv
      have e := vBool_eq hv
      subst e
      obtain ⟨h1, h2⟩ := and2 h
      obtain ⟨h2, h3⟩ := and2 h2
      cases of_decide_eq_true h1
      have A := dE a C _ h2
      have B : PE X (.BoolOp .Or (r :: rs) p) (rdE K sp b) ∧ PW X (.BoolOp .Or (r :: rs) p) (tB (rdE K sp b)) := by
        cases rs with
        | nil =>
          have q := dE b C _ h3
          exact ⟨pe_one q.pe, pw_one q.pt⟩
        | cons z zs =>
          have q := dE b C _ h3
          exact ⟨q.pe, q.pw _ _ _ rfl⟩
      have W := pw_orV A.pt B.2
      exact ⟨pe_or A.pe B.1, W.pt, fun _ _ _ _ => W, rfl⟩
    · cases h
  | .ife c a b, X, sc, tsc, C, x, h => by
    unfold okE at h
    split at h
    · rename_i z l r hv
      obtain ⟨p, rfl⟩ := vIf_eq hv
      obtain ⟨h1, h2⟩ := and2 h
      obtain ⟨h2, h3⟩ := and2 h2
      have Z := dE c C _ h1
      have A := dE a C _ h2
      have B := dE b C _ h3
      exact ⟨pe_ifExp Z.pt A.pe B.pe, pt_ifE Z.pt A.pt B.pt, (fun _ _ _ z => nomatch z), rfl⟩
    · cases h
  | .tup es, X, sc, tsc, C, x, h => by
    unfold okE at h
    split at h
    · rename_i xs hv
      obtain ⟨k, p, rfl⟩ := vTup_eq hv
      exact .mk' (pe_tup (dA es C _ h).1) (fun _ => rfl) (fun _ _ _ z => nomatch z) rfl
    · cases h
  | .lst es, X, sc, tsc, C, x, h => by
    unfold okE at h
    split at h
    · rename_i xs hv
      obtain ⟨p, rfl⟩ := vLst_eq hv
      exact .mk' (pe_lst (dA es C _ h).1) (fun _ => rfl) (fun _ _ _ z => nomatch z) rfl
    · cases h
  | .ix a i, X, sc, tsc, C, x, h => by
    unfold okE at h
    split at h
    · rename_i l r hv
      obtain ⟨p, rfl, hs⟩ := vSub_eq hv
      obtain ⟨h1, h2⟩ := and2 h
      have A := dE a C _ h1
      have B := dE i C _ h2
      have hk := C.k
      subst hk
      exact .mk' (pe_or2 (pe_ix (ix_list.or ix_tup) A.pe B.pe (plainIx hs)) (pe_or2 (pe_dget (by have := C.hu; omega) A.pe B.pe (plainIx hs)) (pe_dgetN C.hu A.pe B.pe (plainIx hs)))) (fun _ => rfl) (fun _ _ _ z => nomatch z) rfl
    · cases h
  | .sl a lo hi, X, sc, tsc, C, x, h => by
    unfold okE at h
    split at h
    · rename_i y l r hv
      obtain ⟨p, q, rfl⟩ := vSlc_eq hv
      obtain ⟨h1, h2⟩ := and2 h
      obtain ⟨h2, h3⟩ := and2 h2
      have A := dE a C _ h1
      have hl := dO lo C _ h2
      have hh := dO hi C _ h3
      have hk := C.k
      subst hk
      exact .mk' (pe_slice (sl_list.or sl_tupA) A.pe hl hh) (fun _ => rfl) (fun _ _ _ z => nomatch z) rfl
    · cases h
  | .call f es, X, sc, tsc, C, x, h => by
    unfold okE at h
    split at h
    · rename_i g xs hv
      obtain ⟨p, q, rfl⟩ := vCall_eq hv
      obtain ⟨h1, h2⟩ := and2 h
      obtain ⟨h2, h3⟩ := and2 h2
      obtain ⟨h3, h4⟩ := and2 h3
      obtain ⟨h4, h5⟩ := and2 h4
      cases of_decide_eq_true h1
      obtain ⟨d1, d2⟩ := nDbg_ok h4
      obtain ⟨a, fd, ps, k, F, R, m, kp, b⟩ := C.fn _ (by simpa using h2)
      obtain ⟨A1, A2⟩ := dA es C _ h5
      have hg := glOf C h3
      refine .mk' ?_ (fun _ => rfl) (fun _ _ _ z => nomatch z) rfl
      cases xs with
      | nil =>
        cases es with
        | nil => exact pe_call0 F R hg m kp b .nil passL d1
        | cons _ _ => simp [okA] at h5
      | cons y ys =>
        simp only [List.all_cons, Bool.and_eq_true] at A2
        exact pe_call F R hg m kp b .nil passL A1 d1 (star_cons (not_t A2.1)) (back_any A2.2)
    · cases h
  | .b1 b a, X, sc, tsc, C, x, h => by
    unfold okE at h
    split at h
    · rename_i g y hv
      obtain ⟨p, q, rfl⟩ := vCall_eq hv
      obtain ⟨h1, h2⟩ := and2 h
      obtain ⟨h2, h3⟩ := and2 h2
      obtain ⟨h3, h4⟩ := and2 h3
      cases of_decide_eq_true h1
      exact .mk' (pe_b1 C b (dE a C _ h3).pe (not_t h4) h2) (fun _ => rfl) (fun _ _ _ z => nomatch z) rfl
    · cases h
  | .isx a c, X, sc, tsc, C, x, h => by
    unfold okE at h
    split at h
    · rename_i g y z hv
      obtain ⟨p, q, rfl⟩ := vCall_eq hv
      have hh := and2 h
      have h1 := hh.1
      have h2 := (and2 hh.2).1
      have h3 := (and2 (and2 hh.2).2).1
      have h4 := (and2 (and2 (and2 hh.2).2).2).1
      have h5 := (and2 (and2 (and2 (and2 hh.2).2).2).2).1
      have h6 := (and2 (and2 (and2 (and2 (and2 hh.2).2).2).2).2).1
      have h7 := (and2 (and2 (and2 (and2 (and2 hh.2).2).2).2).2).2
      cases of_decide_eq_true h1
      obtain ⟨p', rfl⟩ := vName_eq (of_decide_eq_true h5)
      have A := dE a C _ h3
      have hk := C.k
      subst hk
      obtain ⟨kn, T⟩ := pe_cls (p := p') C h6 h7
      exact .mk' (pe_imp (pe_callB cr_isX (glOf C h2) (C.blt _ (bn _ (by decide +kernel))) PyProof.Rows.boot_isinstance (pa_cons A.pe (pa1 T rfl) (star_cons (not_t h4))) (by decide +kernel) dbg_isi (star_cons (not_t h4)) rfl) fun _ _ _ h => h kn) (fun _ => rfl) (fun _ _ _ z => nomatch z) rfl
    · cases h
  | .isi a t, X, sc, tsc, C, x, h => by
    unfold okE at h
    split at h
    · rename_i g y z hv
      obtain ⟨p, q, rfl⟩ := vCall_eq hv
      have hh := and2 h
      have h1 := hh.1
      have h2 := (and2 hh.2).1
      have h3 := (and2 (and2 hh.2).2).1
      have h4 := (and2 (and2 (and2 hh.2).2).2).1
      have h5 := (and2 (and2 (and2 (and2 hh.2).2).2).2).1
      have h6 := (and2 (and2 (and2 (and2 hh.2).2).2).2).2
      cases of_decide_eq_true h1
      obtain ⟨p', rfl⟩ := vName_eq (of_decide_eq_true h5)
      obtain ⟨b1, b2, b3, b4⟩ := isi_name t
      have A := dE a C _ h3
      have hk := C.k
      subst hk
      have T : PE X (.Name (tyN t : Str) p') (tC (.ty (tyN t))) := pe_bltn (glOf C h6) (C.blt _ b4) b1 rfl b3 b2
      exact .mk' (pe_callB call_isi (glOf C h2) (C.blt _ (bn _ (by decide +kernel))) PyProof.Rows.boot_isinstance (pa_cons A.pe (pa1 T rfl) (star_cons (not_t h4))) (by decide +kernel) dbg_isi (star_cons (not_t h4)) rfl) (fun _ => rfl) (fun _ _ _ z => nomatch z) rfl
    · cases h
  | .lc elt tg it ifs vs, X, sc, tsc, C, x, h => by
    unfold okE at h
    split at h
    · rename_i y t i c scope p hv
      have e := vComp_eq hv
      subst e
      obtain ⟨h1, h2⟩ := and2 h
      obtain ⟨h2, h3⟩ := and2 h2
      obtain ⟨h3, h4⟩ := and2 h3
      obtain ⟨hp, h4⟩ := and2 h4
      obtain ⟨h5, h6⟩ := and2 h4
      have B : BlkOk X.N X.env.scope scope (ownOf N vs) := by
        rw [C.n, C.sc]
        exact blkOk_by h1
      have I := dI it C i h2
      have ev : (ownOf N vs).map (·.2) = vs := by
        unfold ownOf
        rw [List.map_map]
        exact List.map_id'' (fun _ => rfl) vs
      have R := pe_lc (X := X) (own := ownOf N vs) (pos := p) C.calm (C.n ▸ C.nd) (I.1 t (prTup hp)) B (fun s H A cl fp => dTg (C.blk B.uniq s H A cl fp) tg t h3) (fun s H A cl fp => dC ifs (C.blk B.uniq s H A cl fp) c h5) (fun s H A cl fp => (dE elt (C.blk B.uniq s H A cl fp) y h6).pe) I.2
      rw [ev] at R
      exact .mk' R (fun _ => rfl) (fun _ _ _ z => nomatch z) rfl
    · cases h
  | .lrg it, X, sc, tsc, C, x, h => by
    unfold okE at h
    split at h
    · rename_i g y hv
      obtain ⟨p, q, rfl⟩ := vCall_eq hv
      obtain ⟨h1, h2⟩ := and2 h
      obtain ⟨h2, h3⟩ := and2 h2
      obtain ⟨h3, h4⟩ := and2 h3
      cases of_decide_eq_true h1
      exact .mk' (pe_listRg C.calm (glOf C h2) (C.blt _ (bn _ (by decide +kernel))) (dR it C _ h3) (star_cons (not_t h4))) (fun _ => rfl) (fun _ _ _ z => nomatch z) rfl
    · cases h
  | .glb y n, X, sc, tsc, C, x, h => by
    unfold okE at h
    split at h
    · rename_i y' hy
      obtain ⟨p, rfl⟩ := vName_eq hy
      obtain ⟨h1, h2⟩ := and2 h
      obtain ⟨h2, h3⟩ := and2 h2
      obtain ⟨h3, h4⟩ := and2 h3
      cases of_decide_eq_true h1
      obtain ⟨d1, d2⟩ := nDbg_ok h3
      obtain ⟨t, m⟩ := C.gc _ _ (of_decide_eq_true h4)
      exact .mk' (pe_glob (glOf C h2) m ⟨t, rfl⟩ d1) (fun _ => rfl) (fun _ _ _ z => nomatch z) rfl
    · cases h
  | .mm mx a b, X, sc, tsc, C, x, h => by
    unfold okE at h
    split at h
    · rename_i g y z hv
      obtain ⟨p, q, rfl⟩ := vCall_eq hv
      have hh := and2 h
      have h1 := hh.1
      have h2 := (and2 hh.2).1
      have h3 := (and2 (and2 hh.2).2).1
      have h4 := (and2 (and2 (and2 hh.2).2).2).1
      have h5 := (and2 (and2 (and2 (and2 hh.2).2).2).2).1
      have h6 := (and2 (and2 (and2 (and2 hh.2).2).2).2).2
      cases of_decide_eq_true h1
      have A := dE a C _ h3
      have B := dE b C _ h5
      have pa := pa_cons A.pe (pa1 B.pe (not_t h6)) (star_cons (not_t h4))
      refine .mk' ?_ (fun _ => rfl) (fun _ _ _ z => nomatch z) rfl
      cases mx with
      | true => exact pe_callB (cr_mm C.calm true) (glOf C h2) (C.blt _ (bn _ (by decide +kernel))) (by decide +kernel) pa (by decide +kernel) (by decide +kernel) (star_cons (not_t h4)) (back_any (by rw [List.all_cons, h6]; rfl))
      | false => exact pe_callB (cr_mm C.calm false) (glOf C h2) (C.blt _ (bn _ (by decide +kernel))) (by decide +kernel) pa (by decide +kernel) (by decide +kernel) (star_cons (not_t h4)) (back_any (by rw [List.all_cons, h6]; rfl))
    · cases h
  | .rvl a, X, sc, tsc, C, x, h => by
    unfold okE at h
    split at h
    · rename_i y hv
      obtain ⟨k, p1, p2, p3, p, rfl⟩ := vRev_eq hv
      have A := dE a C _ h
      have hk := C.k
      subst hk
      exact .mk' (pe_revL A.pe) (fun _ => rfl) (fun _ _ _ z => nomatch z) rfl
    · split at h
      · rename_i y hv
        obtain ⟨p, p2, q2, q, rfl⟩ := vLRev_eq hv
        obtain ⟨h1, h2⟩ := and2 h
        obtain ⟨h2, h3⟩ := and2 h2
        obtain ⟨h3, h4⟩ := and2 h3
        have A := dE a C _ h3
        have hk := C.k
        subst hk
        exact .mk' (pe_lstRev C.calm (glOf C h1) (C.blt _ (bn _ (by decide +kernel))) (glOf C h2) (C.blt _ (bn _ (by decide +kernel))) A.pe (star_cons (not_t h4)) rfl) (fun _ => rfl) (fun _ _ _ z => nomatch z) rfl
      · cases h
  | .nev, X, sc, tsc, C, x, h => by
    unfold okE at h
    exact ⟨⟨fun _ _ _ _ _ _ q => q.elim⟩, ⟨fun _ _ _ _ _ _ q => q.elim⟩, fun _ _ _ _ => ⟨fun _ _ _ _ _ _ _ q => q.elim⟩, not_t h⟩
  | .dnw, X, sc, tsc, C, x, h => by
    unfold okE at h
    obtain ⟨p, rfl⟩ := vDict0_eq h
    exact .mk' pe_dnewK (fun _ => rfl) (fun _ _ _ z => nomatch z) rfl
  | .dsp1 k v, X, sc, tsc, C, x, h => by
    unfold okE at h
    split at h
    · rename_i l r hv
      obtain ⟨p, rfl⟩ := vDict1_eq hv
      obtain ⟨h1, h2⟩ := and2 h
      exact .mk' (pe_disp (pps_cons (dE k C _ h1).pe (dE v C _ h2).pe pps_nil) rfl rfl (by simp) (by simp)) (fun _ => rfl) (fun _ _ _ z => nomatch z) rfl
    · cases h
  | .sst a, X, sc, tsc, C, x, h => by
    unfold okE at h
    split at h
    · rename_i g y hv
      obtain ⟨p, q, rfl⟩ := vCall_eq hv
      split at h
      · rename_i f z hv2
        obtain ⟨p2, q2, rfl⟩ := vCall_eq hv2
        have hh := and2 h
        have h1 := hh.1
        have h2 := (and2 hh.2).1
        have h3 := (and2 (and2 hh.2).2).1
        have h4 := (and2 (and2 (and2 hh.2).2).2).1
        have h5 := (and2 (and2 (and2 (and2 hh.2).2).2).2).1
        have h6 := (and2 (and2 (and2 (and2 hh.2).2).2).2).2
        cases of_decide_eq_true h1
        cases of_decide_eq_true h2
        have A := dE a C _ h5
        have hk := C.k
        subst hk
        exact .mk' (pe_sst C.calm (glOf C h3) (C.blt _ (bn _ (by decide +kernel))) (glOf C h4) (C.blt _ (bn _ (by decide +kernel))) A.pe (star_cons (not_t h6))) (fun _ => rfl) (fun _ _ _ z => nomatch z) rfl
      · cases h
    · cases h
  | .pk2 a b c, X, sc, tsc, C, x, h => by
    unfold okE at h
    split at h
    · rename_i l i hv
      obtain ⟨p, rfl, hs⟩ := vSub_eq hv
      split at h
      · rename_i x y g z hl hi
        obtain ⟨p2, rfl⟩ := vLst_eq hl
        obtain ⟨p3, q3, rfl⟩ := vCall_eq hi
        have hh := and2 h
        have h1 := hh.1
        have h2 := (and2 hh.2).1
        have h3 := (and2 (and2 hh.2).2).1
        have h4 := (and2 (and2 (and2 hh.2).2).2).1
        have h5 := (and2 (and2 (and2 (and2 hh.2).2).2).2).1
        have h6 := (and2 (and2 (and2 (and2 (and2 hh.2).2).2).2).2).1
        have h7 := (and2 (and2 (and2 (and2 (and2 (and2 hh.2).2).2).2).2).2).1
        have h8 := (and2 (and2 (and2 (and2 (and2 (and2 hh.2).2).2).2).2).2).2
        cases of_decide_eq_true h1
        have A := dE a C _ h3
        have B := dE b C _ h5
        have I := dE c C _ h7
        have P := pe_b1 C .int (p := p3) (q := q3) I.pe (not_t h8) h2
        have hk := C.k
        subst hk
        exact .mk' (pe_ix (ix_list.or ix_tup) (pe_lst (pa_cons A.pe (pa1 B.pe (not_t h6)) (star_cons (not_t h4)))) P (plainIx hs)) (fun _ => rfl) (fun _ _ _ z => nomatch z) rfl
      · cases h
    · cases h
  | .lns a, X, sc, tsc, C, x, h => by
    unfold okE at h
    split at h
    · rename_i g y hv
      obtain ⟨p, q, rfl⟩ := vCall_eq hv
      split at h
      · rename_i f z hv2
        obtain ⟨p2, q2, rfl⟩ := vCall_eq hv2
        have hh := and2 h
        have h1 := hh.1
        have h2 := (and2 hh.2).1
        have h3 := (and2 (and2 hh.2).2).1
        have h4 := (and2 (and2 (and2 hh.2).2).2).1
        have h5 := (and2 (and2 (and2 (and2 hh.2).2).2).2).1
        have h6 := (and2 (and2 (and2 (and2 hh.2).2).2).2).2
        cases of_decide_eq_true h1
        cases of_decide_eq_true h2
        have A := dE a C _ h5
        have hk := C.k
        subst hk
        exact .mk' (pe_lns C.calm (glOf C h3) (C.blt _ (bn _ (by decide +kernel))) (glOf C h4) (C.blt _ (bn _ (by decide +kernel))) A.pe (star_cons (not_t h6))) (fun _ => rfl) (fun _ _ _ z => nomatch z) rfl
      · cases h
    · cases h
  | .gk x d, X, sc, tsc, C, y, h => by
    unfold okE at h
    split at h
    · rename_i y hv
      obtain ⟨p, rfl⟩ := vName_eq hv
      have hh := and2 h
      have h1 := hh.1
      have h2 := (and2 hh.2).1
      have h3 := (and2 (and2 hh.2).2).1
      have h4 := (and2 (and2 hh.2).2).2
      cases of_decide_eq_true h1
      obtain ⟨d1, d2⟩ := nDbg_ok h3
      obtain ⟨⟨x', d'⟩, m1, m2⟩ := List.any_eq_true.mp h4
      obtain ⟨m2, m3⟩ := and2 m2
      cases of_decide_eq_true m2
      cases sameD_eq _ _ m3
      obtain ⟨v, u, e1, e2, e3⟩ := C.gk _ _ m1
      exact .mk' (pe_gk (glOf C h2) e1 e2 e3 d1) (fun _ => rfl) (fun _ _ _ z => nomatch z) rfl
    · cases h
  | .gdx x kvs i, X, sc, tsc, C, y, h => by
    unfold okE at h
    split at h
    · rename_i o j hv
      obtain ⟨p, rfl, hs⟩ := vSub_eq hv
      split at h
      · rename_i y hv2
        obtain ⟨p2, rfl⟩ := vName_eq hv2
        have hh := and2 h
        have h1 := hh.1
        have h2 := (and2 hh.2).1
        have h3 := (and2 (and2 hh.2).2).1
        have h4 := (and2 (and2 (and2 hh.2).2).2).1
        have h5 := (and2 (and2 (and2 hh.2).2).2).2
        cases of_decide_eq_true h1
        obtain ⟨d1, d2⟩ := nDbg_ok h3
        obtain ⟨⟨x', d'⟩, m1, m2⟩ := List.any_eq_true.mp h4
        obtain ⟨m2, m3⟩ := and2 m2
        cases of_decide_eq_true m2
        cases samePs_eq _ _ m3
        obtain ⟨a, e1, e2⟩ := C.gd _ _ m1
        have B := dE i C _ h5
        have hk := C.k
        subst hk
        exact .mk' (pe_gdx (glOf C h2) e1 e2 d1 B.pe (plainIx hs)) (fun _ => rfl) (fun _ _ _ z => nomatch z) rfl
      · cases h
    · cases h
  | .dsp ps, X, sc, tsc, C, x, h => by
    unfold okE at h
    split at h
    · rename_i ks vs hv
      obtain ⟨p, rfl⟩ := vDictN_eq hv
      obtain ⟨h1, h2⟩ := and2 h
      obtain ⟨c1, c2⟩ := of_decide_eq_true h1
      obtain ⟨q1, q2, q3⟩ := dP ps C ks vs h2 (pos := p)
      exact .mk' (pe_disp q1 q2 q3 c1 c2) (fun _ => rfl) (fun _ _ _ z => nomatch z) rfl
    · cases h
theorem dP : ∀ (ps : Ps) {X : Cx} {sc tsc : Scope} (C : Cxt X K sp N fs sc tsc) (ks : List (Option Expr)) (vs : List Expr), okP N fs sc tsc ps ks vs = true → ∀ {pos : Pos}, PPs X pos ks vs (rdP K sp ps) ∧ ks.all (·.isSome) = true ∧ ks.length = vs.length
  | .nil, X, sc, tsc, C, ks, vs, h, pos => by
    unfold okP at h
    obtain ⟨h1, h2⟩ := and2 h
    cases List.isEmpty_iff.mp h1
    cases List.isEmpty_iff.mp h2
    exact ⟨pps_nil, rfl, rfl⟩
  | .cons k v r, X, sc, tsc, C, ks, vs, h, pos => by
    unfold okP at h
    split at h
    · rename_i x ks y vs
      obtain ⟨h1, h2⟩ := and2 h
      obtain ⟨h2, h3⟩ := and2 h2
      obtain ⟨q1, q2, q3⟩ := dP r C ks vs h3 (pos := pos)
      exact ⟨pps_cons (dE k C _ h1).pe (dE v C _ h2).pe q1, by rw [List.all_cons, q2]; rfl, by rw [List.length_cons, List.length_cons, q3]⟩
    · cases h
theorem dA : ∀ (es : Es) {X : Cx} {sc tsc : Scope} (C : Cxt X K sp N fs sc tsc) (xs : List Expr), okA N fs sc tsc es xs = true → PA X xs (rdA K sp es) ∧ xs.all (fun e => !isStar e) = true
  | .nil, X, sc, tsc, C, xs, h => by
    unfold okA at h
    cases xs with
    | nil => exact ⟨pa_nil, rfl⟩
    | cons _ _ => cases h
  | .cons e es, X, sc, tsc, C, xs, h => by
    unfold okA at h
    cases xs with
    | nil => cases h
    | cons x r =>
      obtain ⟨h1, h2⟩ := and2 h
      obtain ⟨h2, h3⟩ := and2 h2
      obtain ⟨A1, A2⟩ := dA es C r h3
      exact ⟨pa_cons (dE e C x h1).pe A1 (star_cons (not_t h2)), by rw [List.all_cons, h2, A2]; rfl⟩
theorem dO : ∀ (e : Eo) {X : Cx} {sc tsc : Scope} (C : Cxt X K sp N fs sc tsc) (o : Option Expr), okO N fs sc tsc e o = true → PO X o (rdO K sp e)
  | .none, X, sc, tsc, C, o, h => by
    unfold okO at h
    cases o with
    | none => exact po_none
    | some _ => cases h
  | .some e, X, sc, tsc, C, o, h => by
    unfold okO at h
    cases o with
    | none => cases h
    | some x => exact po_some (dE e C x h).pe
theorem dC : ∀ (e : Eo) {X : Cx} {sc tsc : Scope} (C : Cxt X K sp N fs sc tsc) (o : List Expr), okC N fs sc tsc e o = true → PTs X o (rdC K sp e)
  | .none, X, sc, tsc, C, o, h => by
    unfold okC at h
    cases o with
    | nil => exact pts_nil
    | cons _ _ => cases h
  | .some e, X, sc, tsc, C, o, h => by
    unfold okC at h
    split at h
    · exact pts_one (dE e C _ h).pt
    · cases h
theorem dI : ∀ (i : Iu) {X : Cx} {sc tsc : Scope} (C : Cxt X K sp N fs sc tsc) (x : Expr), okI N fs sc tsc i x = true → (∀ tg, (isPr i = true → isTupE tg = true) → PI X tg x (rdI K sp i)) ∧ ∀ v, foldedSetIterable x X.env v = pure v
  | .rg1 a, X, sc, tsc, C, x, h => by
    unfold okI at h
    split at h
    · rename_i g y hv
      obtain ⟨p, q, rfl⟩ := vCall_eq hv
      obtain ⟨h1, h2⟩ := and2 h
      obtain ⟨h2, h3⟩ := and2 h2
      obtain ⟨h3, h4⟩ := and2 h3
      cases of_decide_eq_true h1
      refine ⟨fun tg _ => pi_range1 (glOf C h2) (C.blt _ (bn _ (by decide +kernel))) (pa1 (dE a C _ h3).pe (not_t h4)) (star_cons (not_t h4)), folded_plain rfl⟩
    · cases h
  | .rg2 a b, X, sc, tsc, C, x, h => by
    unfold okI at h
    split at h
    · rename_i g y z hv
      obtain ⟨p, q, rfl⟩ := vCall_eq hv
      obtain ⟨h1, h2⟩ := and2 h
      obtain ⟨h2, h3⟩ := and2 h2
      obtain ⟨h3, h4⟩ := and2 h3
      obtain ⟨h4, h5⟩ := and2 h4
      obtain ⟨h5, h6⟩ := and2 h5
      cases of_decide_eq_true h1
      have e2 : starEach [z] X.env = [(false, eval z X.env)] := star_cons (not_t h6)
      have e1 : starEach [y, z] X.env = [(false, eval y X.env), (false, eval z X.env)] := (star_cons (not_t h4)).trans (by rw [e2])
      refine ⟨fun tg _ => pi_range2 (glOf C h2) (C.blt _ (bn _ (by decide +kernel))) (pa_cons (dE a C _ h3).pe (pa1 (dE b C _ h5).pe (not_t h6)) (star_cons (not_t h4))) e1 e2, folded_plain rfl⟩
    · cases h
  | .seq a, X, sc, tsc, C, x, h => by
    unfold okI at h
    obtain ⟨h1, h2⟩ := and2 h
    have A := dE a C x h1
    have hk := C.k
    subst hk
    exact ⟨fun tg _ => pi_or (pi_list A.pe) (pi_tup A.pe), folded_plain (not_t h2)⟩
  | .rg3 a b c, X, sc, tsc, C, x, h => by
    unfold okI at h
    split at h
    · rename_i g y z w hv
      obtain ⟨p, q, rfl⟩ := vCall_eq hv
      have hh := and2 h
      have h1 := hh.1
      have h2 := (and2 hh.2).1
      have h3 := (and2 (and2 hh.2).2).1
      have h4 := (and2 (and2 (and2 hh.2).2).2).1
      have h5 := (and2 (and2 (and2 (and2 hh.2).2).2).2).1
      have h6 := (and2 (and2 (and2 (and2 (and2 hh.2).2).2).2).2).1
      have h7 := (and2 (and2 (and2 (and2 (and2 (and2 hh.2).2).2).2).2).2).1
      have h8 := (and2 (and2 (and2 (and2 (and2 (and2 hh.2).2).2).2).2).2).2
      cases of_decide_eq_true h1
      refine ⟨fun tg _ => pi_range3 (glOf C h2) (C.blt _ (bn _ (by decide +kernel))) (pa_cons (dE a C _ h3).pe (pa_cons (dE b C _ h5).pe (pa1 (dE c C _ h7).pe (not_t h8)) (star_cons (not_t h6))) (star_cons (not_t h4))) (star_cons (not_t h4)) (back_any (by rw [List.all_cons, List.all_cons, h6, h8]; rfl)), folded_plain rfl⟩
    · cases h
  | .enm a, X, sc, tsc, C, x, h => by
    unfold okI at h
    split at h
    · rename_i g y hv
      obtain ⟨p, q, rfl⟩ := vCall_eq hv
      obtain ⟨h1, h2⟩ := and2 h
      obtain ⟨h2, h3⟩ := and2 h2
      obtain ⟨h3, h4⟩ := and2 h3
      cases of_decide_eq_true h1
      have A := dE a C _ h3
      have hg := glOf C h2
      have hm := C.blt "enumerate" (bn _ (by decide +kernel))
      have hk := C.k
      subst hk
      refine ⟨fun tg ht => ?_, folded_plain rfl⟩
      obtain ⟨es, k, p', rfl⟩ := isTupE_eq (ht rfl)
      exact pi_or (pi_enum hg hm (pa1 A.pe (not_t h4)) (star_cons (not_t h4))) (pi_enumT hg hm (pa1 A.pe (not_t h4)) (star_cons (not_t h4)))
    · cases h
  | .zp a b, X, sc, tsc, C, x, h => by
    unfold okI at h
    split at h
    · rename_i g y z hv
      obtain ⟨p, q, rfl⟩ := vCall_eq hv
      have hh := and2 h
      have h1 := hh.1
      have h2 := (and2 hh.2).1
      have h3 := (and2 (and2 hh.2).2).1
      have h4 := (and2 (and2 (and2 hh.2).2).2).1
      have h5 := (and2 (and2 (and2 (and2 hh.2).2).2).2).1
      have h6 := (and2 (and2 (and2 (and2 hh.2).2).2).2).2
      cases of_decide_eq_true h1
      have A := dE a C _ h3
      have B := dE b C _ h5
      have hg := glOf C h2
      have hm := C.blt "zip" (bn _ (by decide +kernel))
      have hk := C.k
      subst hk
      refine ⟨fun tg ht => ?_, folded_plain rfl⟩
      obtain ⟨es, k, p', rfl⟩ := isTupE_eq (ht rfl)
      exact RZ.pi_zipA hg hm (pa_cons A.pe (pa1 B.pe (not_t h6)) (star_cons (not_t h4))) (star_cons (not_t h4)) (back_any (by rw [List.all_cons, h6]; rfl))
    · cases h
  | .rev a, X, sc, tsc, C, x, h => by
    unfold okI at h
    split at h
    · rename_i g y hv
      obtain ⟨p, q, rfl⟩ := vCall_eq hv
      obtain ⟨h1, h2⟩ := and2 h
      obtain ⟨h2, h3⟩ := and2 h2
      obtain ⟨h3, h4⟩ := and2 h3
      cases of_decide_eq_true h1
      have A := dE a C _ h3
      have hg := glOf C h2
      have hm := C.blt "reversed" (bn _ (by decide +kernel))
      have hk := C.k
      subst hk
      exact ⟨fun tg _ => RT.pi_revA hg hm A.pe (star_cons (not_t h4)), folded_plain rfl⟩
    · cases h
  | .rvr a, X, sc, tsc, C, x, h => by
    unfold okI at h
    split at h
    · rename_i g r hv
      obtain ⟨p, q, rfl⟩ := vCall_eq hv
      have h1 := (and2 h).1
      have g2 := (and2 (and2 h).2).1
      have g3 := (and2 (and2 (and2 h).2).2).1
      have h4 := (and2 (and2 (and2 h).2).2).2
      clear h
      cases of_decide_eq_true h1
      split at h4
      · rename_i gg y hv2
        obtain ⟨p2, q2, rfl⟩ := vCall_eq hv2
        obtain ⟨h5, h6⟩ := and2 h4
        obtain ⟨h6, h7⟩ := and2 h6
        obtain ⟨h7, h8⟩ := and2 h7
        cases of_decide_eq_true h5
        exact ⟨fun tg _ => pi_revR (glOf C g2) (C.blt _ (bn _ (by decide +kernel))) (prg_1 (glOf C h6) (C.blt _ (bn _ (by decide +kernel))) (dE a C _ h7).pe (star_cons (not_t h8))) (star_cons (not_t g3)), folded_plain rfl⟩
      · cases h4
    · cases h
theorem dR : ∀ (i : Iu) {X : Cx} {sc tsc : Scope} (C : Cxt X K sp N fs sc tsc) (x : Expr), okR N fs sc tsc i x = true → PRg X x (rdR K sp i)
  | .rg1 a, X, sc, tsc, C, x, h => by
    unfold okR at h
    split at h
    · rename_i g y hv
      obtain ⟨p, q, rfl⟩ := vCall_eq hv
      obtain ⟨h1, h2⟩ := and2 h
      obtain ⟨h2, h3⟩ := and2 h2
      obtain ⟨h3, h4⟩ := and2 h3
      cases of_decide_eq_true h1
      exact prg_1 (glOf C h2) (C.blt _ (bn _ (by decide +kernel))) (dE a C _ h3).pe (star_cons (not_t h4))
    · cases h
  | .rg2 a b, X, sc, tsc, C, x, h => by
    unfold okR at h
    split at h
    · rename_i g y z hv
      obtain ⟨p, q, rfl⟩ := vCall_eq hv
      obtain ⟨h1, h2⟩ := and2 h
      obtain ⟨h2, h3⟩ := and2 h2
      obtain ⟨h3, h4⟩ := and2 h3
      obtain ⟨h4, h5⟩ := and2 h4
      obtain ⟨h5, h6⟩ := and2 h5
      cases of_decide_eq_true h1
      exact prg_2 (glOf C h2) (C.blt _ (bn _ (by decide +kernel))) (dE a C _ h3).pe (dE b C _ h5).pe (star_cons (not_t h4)) (star_cons (not_t h6)) (back_any (by rw [List.all_cons, h6]; rfl))
    · cases h
  | .seq _, X, sc, tsc, C, x, h => by simp [okR] at h
  | .rg3 _ _ _, X, sc, tsc, C, x, h => by simp [okR] at h
  | .enm _, X, sc, tsc, C, x, h => by simp [okR] at h
  | .zp _ _, X, sc, tsc, C, x, h => by simp [okR] at h
  | .rev _, X, sc, tsc, C, x, h => by simp [okR] at h
  | .rvr _, X, sc, tsc, C, x, h => by simp [okR] at h
end
end
end GK

namespace GK
open PySem PySem.Spec PyProof.Rows L2

theorem bind_ok {α β : Type} {x : M α} {f : α → M β} {r : β} (h : (x >>= f) = .ok r) : ∃ a, x = .ok a ∧ f a = .ok r := by
  cases x with
  | error e => cases h
  | ok a => exact ⟨a, rfl, h⟩
theorem pure_ok {α : Type} {x r : α} (h : (pure x : M α) = .ok r) : x = r := by cases h; rfl
theorem ok_inj {α : Type} {x r : α} (h : (.ok x : M α) = .ok r) : x = r := by cases h; rfl
section
variable {K : PySem.W.Frag} {G H G' H' : Hp}
/-- what follows an expression -/
abbrev Nxt (K : PySem.W.Frag) (G H : Hp) (s : Sl) (Q : VK) : Prop := ∀ G' H' v, Step G H G' H' → ResR K H G' H' v s → Q v H'
theorem Nxt.int {i : Int} {Q : VK} (S : Same G H) (q : Nxt K G H (fI i) Q) : Q (.int i) H := q G H _ (.refl S) (.f (.int i))
theorem Nxt.bool {b : Bool} {Q : VK} (S : Same G H) (q : Nxt K G H (fB b) Q) : Q (.bl b) H := q G H _ (.refl S) (.f (.bl b))
theorem Nxt.list {ds : List D} {vs : List V} {Q : VK} (S : Same G H) (q : Nxt K G H ⟨.o, .list ds⟩ Q) (r : RpA K G vs ds) {p : Addr} (h : H p = none) : Q (.ref p) (upd H p (.lst vs)) :=
  q G _ _ (.new S h) (.new S h r)
theorem Nxt.tup {ds : List D} {vs : List V} {Q : VK} (S : Same G H) (q : Nxt K G H ⟨.f, .tuple ds⟩ Q) (r : RpA K G vs ds) {p : Addr} (h : H p = none) : Q (.ref p) (upd H p (.tup vs)) :=
  q _ _ _ (.newF S h) (.newT S h r)
theorem Nxt.back {s : Sl} {Q : VK} (S : Step G H G' H') (q : Nxt K G H s Q) : Nxt K G' H' s Q := fun G2 H2 v S2 r => q G2 H2 v (S.trans S2) (r.back S.hh)
theorem and_t {p q : Prop} [Decidable p] [Decidable q] (h : (decide p && decide q) = true) : p ∧ q := by
  obtain ⟨a, b⟩ := and2 h
  exact ⟨of_decide_eq_true a, of_decide_eq_true b⟩
theorem ckI_ok {c : Bool} {i : Int} {s : Sl} (h : ckI c i = .ok s) : c = true ∧ s = fI i := by
  unfold ckI at h
  split at h
  · exact ⟨by assumption, (ok_inj h).symm⟩
  · cases h
theorem ckO_ok {c : Bool} {i : List D} {s : Sl} (h : ckO c i = .ok s) : c = true ∧ s = ⟨.o, .list i⟩ := by
  unfold ckO at h
  split at h
  · exact ⟨by assumption, (ok_inj h).symm⟩
  · cases h
theorem powOk_ok {i j : Int} (h : powOk i j = true) : CPow i j := by
  obtain ⟨h1, h2⟩ := and2 h
  obtain ⟨h3, h4⟩ := and_t h1
  exact ⟨h3, h4, of_decide_eq_true h2⟩
theorem mulOk_ok {i j : Int} (h : mulOk i j = true) : CMul i j := by
  unfold mulOk at h
  rcases Bool.or_eq_true_iff.mp h with h | h
  · exact .inl (and_t h)
  · exact .inr (and_t h)
theorem lenOk_ok {n : Nat} (h : lenOk n = true) : n ≤ sizeLine := by
  rw [sizeLine_eq]
  exact of_decide_eq_true h
theorem binI_sem {op : Operator} {i j : Int} {s : Sl} {Q : VK} (S : Same G H) (h : binI op i j = .ok s) (q : Nxt K G H s Q) : rOp K op (.int i) (.int j) H Q := by
  cases op with
  | Add => cases h; exact .inl ⟨i, j, rfl, rfl, q.int S⟩
  | Sub => cases h; exact ⟨i, j, rfl, rfl, q.int S⟩
  | Mult =>
    obtain ⟨c, rfl⟩ := ckI_ok h
    exact .inl ⟨i, j, rfl, rfl, mulOk_ok c, q.int S⟩
  | FloorDiv =>
    obtain ⟨c, rfl⟩ := ckI_ok h
    exact ⟨i, j, rfl, rfl, and_t c, q.int S⟩
  | Mod =>
    obtain ⟨c, rfl⟩ := ckI_ok h
    exact ⟨i, j, rfl, rfl, of_decide_eq_true c, q.int S⟩
  | Pow =>
    obtain ⟨c, rfl⟩ := ckI_ok h
    exact ⟨i, j, rfl, rfl, powOk_ok c, q.int S⟩
  | LShift =>
    obtain ⟨c, rfl⟩ := ckI_ok h
    exact ⟨i, j, rfl, rfl, powOk_ok c, q.int S⟩
  | RShift =>
    obtain ⟨c, rfl⟩ := ckI_ok h
    exact ⟨i, j, rfl, rfl, of_decide_eq_true c, q.int S⟩
  | BitAnd => cases h; exact ⟨i, j, rfl, rfl, q.int S⟩
  | BitOr => cases h; exact ⟨i, j, rfl, rfl, q.int S⟩
  | BitXor => cases h; exact ⟨i, j, rfl, rfl, q.int S⟩
  | MatMult => cases h
  | Div => cases h
theorem Rdb.rpT {v : V} {ds : List D} (h : Rdb K G H v (.tuple ds)) : Rp K G v (.tuple ds) := by
  exact h.rpTup
def flV : D → V
  | .none => .non
  | .bool b => .bl b
  | .int i => .int i
  | .str x => .str x
  | _ => .non
theorem flatRdb {v : V} {d : D} (r : Rdb K G H v d) (h : flatD d = true) : v = flV d ∧ flatV v = true := by
  have p : nmkD d = true := by
    cases d with
    | dict ds => cases h
    | _ => rfl
  rcases r.plain p with r | ⟨a, o, rfl, _, t, r⟩
  · cases r <;> first | exact ⟨rfl, rfl⟩ | cases h
  · cases r <;> cases h
theorem flatAll {vs : List V} {ds : List D} (r : RpA K G vs ds) (h : ds.all flatD = true) : vs = ds.map flV ∧ vs.all flatV = true := by
  induction ds generalizing vs with
  | nil => cases r; exact ⟨rfl, rfl⟩
  | cons d ds ih =>
    cases r with
    | cons r1 r2 =>
      simp only [List.all_cons, Bool.and_eq_true] at h
      obtain ⟨e, f⟩ := flatRdb (H := G) (.inl r1) h.1
      obtain ⟨e2, f2⟩ := ih r2 h.2
      exact ⟨by rw [List.map_cons, e, e2], by rw [List.all_cons, f, f2]; rfl⟩
theorem eqV_flV {x y : D} (hx : flatD x = true) (hy : flatD y = true) : eqV (flV x) (flV y) = PyData.eqv x y := by
  cases x <;> first | (exact absurd hx Bool.false_ne_true) | (cases y <;> first | rfl | exact absurd hy Bool.false_ne_true)
theorem inV_flV {x : D} {ds : List D} (hx : flatD x = true) (h : ds.all flatD = true) : inV (flV x) (ds.map flV) = ds.any fun z => PyData.eqv z x := by
  induction ds with
  | nil => rfl
  | cons d ds ih =>
    simp only [List.all_cons, Bool.and_eq_true] at h
    have := ih h.2
    unfold inV at this ⊢
    rw [List.map_cons, List.any_cons, List.any_cons, this, eqV_flV h.1 hx]
theorem inF_ok {x : D} {ds : List D} {b : Bool} (h : inF x ds = .ok b) : b = (ds.any fun z => PyData.eqv z x) ∧ ((flatD x = true ∧ ds.all flatD = true) ∨ (SeqAt.shaped x = true ∧ SeqAt.shaped (.tuple ds) = true)) := by
  unfold inF at h
  split at h
  · rename_i c
    exact ⟨(ok_inj h).symm, .inl (and2 c)⟩
  · split at h
    · rename_i c
      exact ⟨(ok_inj h).symm, .inr (and2 c)⟩
    · cases h
theorem inD_ok {x : D} {ds : List D} {b : Bool} (h : inD x ds = .ok b) : SeqAt.shaped x = true ∧ SeqAt.shaped (.list ds) = true ∧ b = ds.any fun z => PyData.eqv z x := by
  unfold inD at h
  split at h
  · rename_i c
    obtain ⟨c1, c2⟩ := and2 c
    exact ⟨c1, c2, (ok_inj h).symm⟩
  · cases h
theorem negM_ok {m : M Bool} {b : Bool} (h : negM m = .ok b) : ∃ c, m = .ok c ∧ b = !c := by
  unfold negM at h
  split at h
  · exact ⟨_, rfl, (ok_inj h).symm⟩
  · cases h
theorem inF_sem {x : D} {ds : List D} {v w : V} {b : Bool} {Q : VK} (neg : Bool) (S : Same G H) (rx : Rdb K G H v x) (ry : Rdb K G H w (.tuple ds)) (h : inF x ds = .ok b) (q : Q (.bl (if neg then !b else b)) H) : rIn K neg v w H Q ∨ rInTD K neg v w H Q := by
  obtain ⟨rfl, c⟩ := inF_ok h
  rcases c with ⟨c1, c2⟩ | ⟨c1, c2⟩
  · obtain ⟨a, vs, rfl, ra, qa⟩ := ry.tuple S
    obtain ⟨e1, f1⟩ := flatRdb rx c1
    obtain ⟨e2, f2⟩ := flatAll qa c2
    refine .inl ⟨a, vs, rfl, .inr ra, f1, f2, ?_⟩
    rw [e1, e2, inV_flV c1 c2]
    exact q
  · exact .inr ⟨x, ds, rx.dp S (SeqAt.canLay_of_shaped c1), ry.dp S (SeqAt.canLay_of_shaped c2), c1, c2, q⟩
theorem look_get {a : Addr} {vs : List (Key × V)} {ds : List (D × D)} {x : D} {v : V} (hx : keyOk x = true) (rx : Rdb K G H v x) (ra : H a = some (.dK vs)) (qa : RpK K G vs ds) :
    (DGet H a v none ∧ lookD ds x = none) ∨ ∃ w d, DGet H a v (some w) ∧ lookD ds x = some d ∧ Rp K G w d := by
  obtain ⟨k, rfl⟩ := key_of hx
  have ev := rx.key
  subst ev
  have g := DGet.k (k := k) ra
  rcases qa.look (k := k) with ⟨e1, e2⟩ | ⟨w, d, e1, e2, r⟩
  · rw [e1] at g
    exact .inl ⟨g, e2⟩
  · rw [e1] at g
    exact .inr ⟨w, d, g, e2, r⟩
theorem nst_get {ps : List (D × D)} {x : D} {v w : V} (S : Same G H) (hx : nkOk x = true) (rx : Rdb K G H v x) (ry : Rdb K G H w (.dict ((.none, .none) :: ps))) :
    ∃ a, w = .ref a ∧ ((DGetN K H a v none ∧ lookN ps x = none) ∨ ∃ z d, DGetN K H a v (some z) ∧ lookN ps x = some d ∧ Rp K G z d) := by
  obtain ⟨⟨ds, rfl⟩, k, e, hd⟩ := nkOk_ok hx
  obtain ⟨a, L, rfl, t, r⟩ := ry.nst
  have rt := rx.rpTup
  cases rt with
  | @tup b vs _ h1 h2 =>
    have nk := Rp.nk S _ _ k (Rp.tup h1 h2) e
    refine ⟨a, rfl, ?_⟩
    rcases r.look e with ⟨e1, e2⟩ | ⟨z, d, e1, e2, rz⟩
    · exact .inl ⟨⟨L, k, b, t, RpN.kn S r, rfl, nk, hd, e1.symm⟩, e2⟩
    · exact .inr ⟨z, d, ⟨L, k, b, t, RpN.kn S r, rfl, nk, hd, e1.symm⟩, e2, rz⟩
theorem inN_ok {x : D} {ds : List (D × D)} {b : Bool} (h : inN x ds = .ok b) : ∃ ps, ds = (.none, .none) :: ps ∧ b = (lookN ps x).isSome := by
  unfold inN at h
  split at h
  · cases h
    exact ⟨_, rfl, rfl⟩
  · cases h
theorem getN_ok {x d : D} {ds : List (D × D)} (h : getN x ds = .ok d) : ∃ ps, ds = (.none, .none) :: ps ∧ lookN ps x = some d := by
  unfold getN at h
  split at h
  · split at h
    · rename_i e
      cases h
      exact ⟨_, rfl, e⟩
    · cases h
  · cases h
theorem inK_sem {x : D} {ds : List (D × D)} {v w : V} {b : Bool} {Q : VK} (neg : Bool) (S : Same G H) (rx : Rdb K G H v x) (ry : Rdb K G H w (.dict ds)) (h : inK x ds = .ok b) (q : Q (.bl (if neg then !b else b)) H) : rOr (rInKD neg) (rInN K neg) v w H Q := by
  unfold inK at h
  split at h
  · rename_i hx
    obtain ⟨hx, hm⟩ := and2 hx
    cases h
    obtain ⟨a, vs, rfl, ra, qa⟩ := ry.dict S hm
    rcases look_get hx rx ra qa with ⟨g, e⟩ | ⟨z, d, g, e, r⟩
    · rw [e] at q
      exact .inl ⟨a, none, rfl, g, q⟩
    · rw [e] at q
      exact .inl ⟨a, some z, rfl, g, q⟩
  · split at h
    · rename_i hx
      obtain ⟨ps, rfl, rfl⟩ := inN_ok h
      obtain ⟨a, rfl, g⟩ := nst_get S hx rx ry
      rcases g with ⟨g, e⟩ | ⟨z, d, g, e, _⟩
      · rw [e] at q
        exact .inr ⟨a, none, rfl, g, q⟩
      · rw [e] at q
        exact .inr ⟨a, some z, rfl, g, q⟩
    · cases h
theorem binop_sem {op : Operator} {m : Md} {x y : D} {v w : V} {s : Sl} {Q : VK} (S : Same G H) (sx : SlR K G H v ⟨m, x⟩) (ry : Rdb K G H w y) (h : binop op m x y = .ok s) (q : Nxt K G H s Q) : rOp K op v w H Q := by
  have rx : Rdb K G H v x := sx.rdb
  unfold binop at h
  split at h
  · rw [rx.int, ry.int]
    exact binI_sem S h q
  · obtain ⟨a, vs, rfl, ra, qa⟩ := rx.list S
    obtain ⟨b, ws, rfl, rb, qb⟩ := ry.list S
    split at h
    · obtain ⟨c, rfl⟩ := ckO_ok h
      exact .inr (.inl ⟨a, b, vs, ws, rfl, rfl, ra, rb, by rw [qa.length, qb.length]; exact lenOk_ok c, fun p np => q.list S (qa.append qb) np⟩)
    · cases h
  · rw [ry.int]
    split at h
    · obtain ⟨c, rfl⟩ := ckO_ok h
      obtain ⟨c, cm⟩ := and2 c
      have tx : ∀ d, nmkD d = true → SlR K G H v ⟨m, d⟩ → Top K G H v d := fun d pl sx => by
        cases m with
        | f => cases cm
        | o => exact sx
        | p => exact TopX.plain sx pl
      obtain ⟨a, o, rfl, _, ra, qa⟩ := tx _ rfl sx
      cases qa
      rename_i vs qa
      obtain ⟨c1, c2⟩ := and2 c
      obtain ⟨c3, c4⟩ := and_t c1
      exact .inr ⟨a, _, vs, rfl, rfl, ra, c3, c4, by rw [qa.length, sizeLine_eq]; exact of_decide_eq_true c2, fun p np => q.list S (qa.rep _) np⟩
    · cases h
  · obtain ⟨a, vs, rfl, ra, qa⟩ := rx.tuple S
    obtain ⟨b, ws, rfl, rb, qb⟩ := ry.tuple S
    split at h
    · split at h
      · rename_i c
        cases h
        refine .inr (.inr ⟨a, b, vs, ws, rfl, rfl, ra, rb, by rw [qa.length, qb.length]; exact lenOk_ok c, fun e => ?_, fun _ e => ?_, fun _ _ p np => q.tup S (qa.append qb) np⟩)
        · subst e
          cases qa
          exact q G H _ (.refl S) (.f ry.rpT)
        · subst e
          cases qb
          have q' := q
          rw [List.append_nil] at q'
          exact q' G H _ (.refl S) (.f rx.rpT)
      · cases h
    · cases h
  · cases h
theorem deq_ok {x y : D} {b : Bool} (h : deq x y = .ok b) : b = PyData.eqv x y ∧ ((SeqAt.shaped x = true ∧ SeqAt.shaped y = true) ∨ (deepD x = true ∧ deepD y = true)) := by
  unfold deq at h
  split at h
  · rename_i c
    exact ⟨(ok_inj h).symm, .inl (and2 c)⟩
  · split at h
    · rename_i c
      exact ⟨(ok_inj h).symm, .inr (and2 c)⟩
    · cases h
theorem cmpop_sem {op : CmpOp} {x y : D} {v w : V} {b : Bool} {Q : VK} (S : Same G H) (rx : Rdb K G H v x) (ry : Rdb K G H w y) (h : cmpop op x y = .ok b) (q : Q (.bl b) H) : rCmp K op v w H Q := by
  unfold cmpop at h
  split at h
  · obtain ⟨rfl, c⟩ := deq_ok h
    rcases c with ⟨c1, c2⟩ | ⟨c1, c2⟩
    · exact .inl ⟨x, y, rx.dp S (SeqAt.canLay_of_shaped c1), ry.dp S (SeqAt.canLay_of_shaped c2), c1, c2, q⟩
    · exact .inr ⟨x, y, rx.dp S (deep_lay c1).1, ry.dp S (deep_lay c2).1, c1, c2, q⟩
  · split at h
    · rename_i b' hb
      obtain ⟨rfl, c⟩ := deq_ok hb
      cases h
      rcases c with ⟨c1, c2⟩ | ⟨c1, c2⟩
      · exact .inl ⟨x, y, rx.dp S (SeqAt.canLay_of_shaped c1), ry.dp S (SeqAt.canLay_of_shaped c2), c1, c2, q⟩
      · exact .inr ⟨x, y, rx.dp S (deep_lay c1).1, ry.dp S (deep_lay c2).1, c1, c2, q⟩
    · cases h
  · cases h
    rw [rx.int, ry.int]
    exact ⟨_, _, rfl, rfl, q⟩
  · cases h
    rw [rx.int, ry.int]
    exact ⟨_, _, rfl, rfl, q⟩
  · cases h
    rw [rx.int, ry.int]
    exact ⟨_, _, rfl, rfl, q⟩
  · cases h
    rw [rx.int, ry.int]
    exact ⟨_, _, rfl, rfl, q⟩
  · cases h
    rw [rx.bool, ry.bool]
    exact ⟨_, _, rfl, rfl, q⟩
  · cases h
    rw [rx.bool, ry.bool]
    exact ⟨_, _, rfl, rfl, q⟩
  · obtain ⟨c1, c2, rfl⟩ := inD_ok h
    exact .inl ⟨x, _, rx.dp S (SeqAt.canLay_of_shaped c1), ry.dp S (SeqAt.canLay_of_shaped c2), c1, c2, q⟩
  · obtain ⟨c, hn, rfl⟩ := negM_ok h
    obtain ⟨c1, c2, rfl⟩ := inD_ok hn
    exact .inl ⟨x, _, rx.dp S (SeqAt.canLay_of_shaped c1), ry.dp S (SeqAt.canLay_of_shaped c2), c1, c2, q⟩
  · rcases inF_sem false S rx ry h q with z | z
    · exact .inr (.inl z)
    · exact .inr (.inr (.inr (.inr z)))
  · rcases inK_sem false S rx ry h q with z | z
    · exact .inr (.inr (.inl z))
    · exact .inr (.inr (.inr (.inl z)))
  · obtain ⟨c, hn, rfl⟩ := negM_ok h
    rcases inK_sem true S rx ry hn q with z | z
    · exact .inr (.inr (.inl z))
    · exact .inr (.inr (.inr (.inl z)))
  · obtain ⟨c, hn, rfl⟩ := negM_ok h
    rcases inF_sem true S rx ry hn q with z | z
    · exact .inr (.inl z)
    · exact .inr (.inr (.inr (.inr z)))
  · cases h
theorem atI_rp {vs : List V} {ds : List D} {i : Int} {d : D} (r : RpA K G vs ds) (h : atI ds i = some d) : ∃ v, atI vs i = some v ∧ Rp K G v d := by
  unfold atI at h ⊢
  rw [r.length]
  cases e : ixN ds.length i with
  | none => rw [e] at h; cases h
  | some j =>
    rw [e] at h
    obtain ⟨v, e1, q⟩ := r.get (i := j) h
    exact ⟨v, e1, q⟩
theorem ixD_sem {x y : D} {v w : V} {s : Sl} {Q : VK} (hnd : ¬ ∃ ds, x = .dict ds) (S : Same G H) (rx : Rdb K G H v x) (ry : Rdb K G H w y) (h : ixD x y = .ok s) (q : Nxt K G H s Q) : rIx2 K v w H Q := by
  unfold ixD at h
  split at h
  · obtain ⟨a, vs, rfl, ra, qa⟩ := rx.list S
    rw [ry.int]
    split at h
    · rename_i d hd
      cases h
      obtain ⟨z, e, r⟩ := atI_rp qa hd
      exact .inl ⟨a, vs, _, z, rfl, rfl, ra, e, q G H z (.refl S) (.f r)⟩
    · cases h
  · obtain ⟨a, vs, rfl, ra, qa⟩ := rx.tuple S
    rw [ry.int]
    split at h
    · rename_i d hd
      cases h
      obtain ⟨z, e, r⟩ := atI_rp qa hd
      exact .inr ⟨a, vs, _, z, rfl, rfl, ra, e, q G H z (.refl S) (.f r)⟩
    · cases h
  · exact absurd ⟨_, rfl⟩ hnd
  · cases h
theorem ixD_dict {ds : List (D × D)} {y : D} {v w : V} {s : Sl} {Q : VK} (S : Same G H) (rx : Rdb K G H v (.dict ds)) (ry : Rdb K G H w y) (h : ixD (.dict ds) y = .ok s) (q : Nxt K G H s Q) : (∃ a z, v = .ref a ∧ DGet H a w (some z) ∧ Q z H) ∨ ∃ a z, v = .ref a ∧ DGetN K H a w (some z) ∧ Q z H := by
  simp only [ixD] at h
  split at h
  · rename_i hy
    split at h
    · rename_i d hd
      cases h
      cases hm : nmk ds with
      | false =>
        exfalso
        cases ds with
        | nil => cases hm
        | cons p ps =>
          obtain ⟨k, e⟩ := p
          rcases rx with rx | rx
          · cases rx with
            | dct h1 h2 => rw [h2.plain] at hm; cases hm
            | xc => cases y <;> first | (simp [keyOk] at hy; done) | (simp [lookD, keq] at hd)
          · rcases rx.cases with ⟨a, o, _, _, _, r⟩ | ⟨a, L, ps', _, e2, _, _, r⟩
            · have := r.plain
              rw [show nmkD (.dict ((k, e) :: ps)) = nmk ((k, e) :: ps) from rfl, hm] at this
              cases this
            · cases e2
              rw [r.no_key hy] at hd
              cases hd
      | true =>
        obtain ⟨a, vs, rfl, ra, qa⟩ := rx.dict S hm
        rcases look_get hy ry ra qa with ⟨g, e⟩ | ⟨z, d', g, e, r⟩
        · rw [hd] at e
          cases e
        · rw [hd] at e
          cases e
          exact .inl ⟨a, z, rfl, g, q G H z (.refl S) (.f r)⟩
    · cases h
  · split at h
    · rename_i hy
      obtain ⟨d, e1, h⟩ := bind_ok h
      cases pure_ok h
      obtain ⟨ps, rfl, hl⟩ := getN_ok e1
      obtain ⟨a, rfl, g⟩ := nst_get S hy ry rx
      rcases g with ⟨_, e⟩ | ⟨z, d', g, e, r⟩
      · rw [hl] at e
        cases e
      · rw [hl] at e
        cases e
        exact .inr ⟨a, z, rfl, g, q G H z (.refl S) (.f r)⟩
    · cases h
theorem ixD_dictK {ds : List (D × D)} {y : D} {v w : V} {s : Sl} {Q : VK} (hy : keyOk y = true) (S : Same G H) (rx : Rdb K G H v (.dict ds)) (ry : Rdb K G H w y) (h : ixD (.dict ds) y = .ok s) (q : Nxt K G H s Q) : ∃ a z, v = .ref a ∧ DGet H a w (some z) ∧ Q z H := by
  rcases ixD_dict S rx ry h q with z | ⟨a, z, _, ⟨L, k, b, _, _, e, nk, _⟩, _⟩
  · exact z
  · exfalso
    subst e
    rcases ry.plain (by cases y <;> first | rfl | cases hy) with r | ⟨_, _, _, _, _, r⟩
    · cases r <;> cases hy
    · cases r <;> cases hy
theorem ixD_dictN {ds : List (D × D)} {y : D} {v w : V} {s : Sl} {Q : VK} (hy : keyOk y = false) (S : Same G H) (rx : Rdb K G H v (.dict ds)) (ry : Rdb K G H w y) (h : ixD (.dict ds) y = .ok s) (q : Nxt K G H s Q) : ∃ a z, v = .ref a ∧ DGetN K H a w (some z) ∧ Q z H := by
  simp only [ixD, hy] at h
  rw [if_neg (by decide)] at h
  split at h
  · rename_i hy
    obtain ⟨d, e1, h⟩ := bind_ok h
    cases pure_ok h
    obtain ⟨ps, rfl, hl⟩ := getN_ok e1
    obtain ⟨a, rfl, g⟩ := nst_get S hy ry rx
    rcases g with ⟨_, e⟩ | ⟨z, d', g, e, r⟩
    · rw [hl] at e
      cases e
    · rw [hl] at e
      cases e
      exact ⟨a, z, rfl, g, q G H z (.refl S) (.f r)⟩
  · cases h
theorem cut_rp {vs : List V} {ds : List D} {lo hi : Option Int} (r : RpA K G vs ds) : RpA K G (cutV vs lo hi) (cutD ds lo hi) := by
  unfold cutV cutD
  rw [r.length]
  exact (r.drop _).take _
theorem cut_whole {ds : List D} {lo hi : Option Int} (h : HT.sIx ds.length 0 lo = 0 ∧ HT.sIx ds.length ds.length hi = ds.length) : cutD ds lo hi = ds := by
  unfold cutD
  rw [h.1, h.2, List.drop_zero, Nat.sub_zero, List.take_length]
theorem slD_sem {x : D} {v : V} {lo hi : Option Int} {s : Sl} {Q : VK} (S : Same G H) (rx : Rdb K G H v x) (h : slD x lo hi = .ok s) (q : Nxt K G H s Q) : rSl2 K v lo hi H Q := by
  unfold slD at h
  split at h
  · obtain ⟨a, vs, rfl, ra, qa⟩ := rx.list S
    cases h
    exact .inl ⟨a, vs, rfl, ra, fun p np => q.list S (cut_rp qa) np⟩
  · obtain ⟨a, vs, rfl, ra, qa⟩ := rx.tuple S
    cases h
    refine .inr ⟨a, vs, rfl, ra, fun hw => ?_, fun _ p np => q.tup S (cut_rp qa) np⟩
    rw [qa.length] at hw
    have e : cutD _ lo hi = _ := cut_whole hw
    have q' := q
    rw [e] at q'
    exact q' G H _ (.refl S) (.f rx.rpT)
  · cases h
theorem insI_perm (i : Int) : ∀ l : List Int, (insI i l).Perm (i :: l)
  | [] => .refl _
  | j :: r => by
    unfold insI
    split
    · exact .refl _
    · exact (List.Perm.cons j (insI_perm i r)).trans (.swap i j r)
theorem insI_sorted (i : Int) : ∀ l : List Int, l.Pairwise (· ≤ ·) → (insI i l).Pairwise (· ≤ ·)
  | [], _ => by simp [insI]
  | j :: r, h => by
    unfold insI
    obtain ⟨h1, h2⟩ := List.pairwise_cons.mp h
    split
    · rename_i c
      refine List.pairwise_cons.mpr ⟨fun k hk => ?_, h⟩
      rcases List.mem_cons.mp hk with e | hk
      · rw [e]; exact c
      · exact Int.le_trans c (h1 k hk)
    · rename_i c
      refine List.pairwise_cons.mpr ⟨fun k hk => ?_, insI_sorted i r h2⟩
      rcases List.mem_cons.mp ((insI_perm i r).mem_iff.mp hk) with e | hk
      · rw [e]; omega
      · exact h1 k hk
theorem sortI_perm : ∀ l : List Int, (sortI l).Perm l
  | [] => .refl _
  | i :: r => (insI_perm i (sortI r)).trans (.cons i (sortI_perm r))
theorem sortI_sorted : ∀ l : List Int, (sortI l).Pairwise (· ≤ ·)
  | [] => .nil
  | i :: r => insI_sorted i _ (sortI_sorted r)
theorem sorted_uniq : ∀ {l m : List Int}, l.Perm m → l.Pairwise (· ≤ ·) → m.Pairwise (· ≤ ·) → l = m
  | [], m, p, _, _ => (List.Perm.nil_eq p)
  | a :: l, [], p, _, _ => absurd p.length_eq (by simp)
  | a :: l, b :: m, p, h1, h2 => by
    obtain ⟨a1, a2⟩ := List.pairwise_cons.mp h1
    obtain ⟨b1, b2⟩ := List.pairwise_cons.mp h2
    have e : a = b := by
      have m1 : a ∈ b :: m := p.mem_iff.mp List.mem_cons_self
      have m2 : b ∈ a :: l := p.mem_iff.mpr List.mem_cons_self
      rcases List.mem_cons.mp m1 with e | m1
      · exact e
      · rcases List.mem_cons.mp m2 with e | m2
        · exact e.symm
        · have := a1 b m2
          have := b1 a m1
          omega
    subst e
    rw [sorted_uniq (List.Perm.cons_inv p) a2 b2]
theorem sortI_uniq {l m : List Int} (p : l.Perm m) (h : l.Pairwise (· ≤ ·)) : l = sortI m := sorted_uniq (p.trans (sortI_perm m).symm) h (sortI_sorted m)
theorem RpA.intsM : ∀ ns : List Int, RpA K G (ns.map V.int) (ns.map PyData.int)
  | [] => .nil
  | _ :: ns => .cons (.int _) (RpA.intsM ns)
theorem RpA.reverse {vs : List V} {ds : List D} (h : RpA K G vs ds) : RpA K G vs.reverse ds.reverse := by
  induction ds generalizing vs with
  | nil => cases h; exact .nil
  | cons d ds ih =>
    cases h with
    | cons h1 h2 =>
      rw [List.reverse_cons, List.reverse_cons]
      exact (ih h2).append (.cons h1 .nil)
theorem RpK.intKeys : ∀ {ds : List (D × D)} {vs : List (Key × V)} {ns : List Int}, RpK K G vs ds → intsD (ds.map (·.1)) = some ns → vs.map (·.1) = ns.map Sum.inl
  | [], _, ns, h, e => by
    cases h
    simp only [List.map_nil, intsD, Option.some.injEq] at e
    subst e
    rfl
  | (k, d) :: ds, _, ns, h, e => by
    cases h with
    | @cons k v vs _ _ h1 h2 =>
      cases k with
      | inl i =>
        simp only [List.map_cons, keyD, intsD, Option.map_eq_some_iff] at e
        obtain ⟨ms, e1, e2⟩ := e
        subst e2
        rw [List.map_cons, List.map_cons, RpK.intKeys h2 e1]
      | inr x => simp [keyD, intsD] at e
theorem b1D_sem {b : B1} {x : D} {v : V} {s : Sl} {Q : VK} (S : Same G H) (rx : Rdb K G H v x) (h : b1D b x = .ok s) (q : Nxt K G H s Q) : rB1 K b [v] H Q := by
  unfold b1D at h
  split at h
  · obtain ⟨a, vs, rfl, ra, qa⟩ := rx.list S
    cases h
    exact .inl ⟨a, vs, rfl, .inl ra, by rw [qa.length]; exact q.int S⟩
  · obtain ⟨a, vs, rfl, ra, qa⟩ := rx.tuple S
    cases h
    exact .inl ⟨a, vs, rfl, .inr ra, by rw [qa.length]; exact q.int S⟩
  · split at h
    · rename_i hm
      cases h
      obtain ⟨a, vs, rfl, ra, qa⟩ := rx.dict S hm
      exact .inr ⟨a, vs, rfl, .inl ra, by rw [qa.length]; exact q.int S⟩
    · cases h
  · obtain ⟨a, vs, rfl, ra, qa⟩ := rx.list S
    cases h
    exact ⟨a, vs, rfl, .inl ra, fun p np => q.list S qa np⟩
  · obtain ⟨a, vs, rfl, ra, qa⟩ := rx.tuple S
    cases h
    exact ⟨a, vs, rfl, .inr ra, fun p np => q.list S qa np⟩
  · obtain ⟨a, vs, rfl, ra, qa⟩ := rx.list S
    cases h
    exact .inl ⟨a, vs, rfl, .inl ⟨ra, fun p np => q.tup S qa np⟩⟩
  · cases h
    have rx := rx.rpTup
    cases rx with
    | tup ra qa => exact .inl ⟨_, _, rfl, .inr ⟨SqT.mono S ra, q G H _ (.refl S) (.f (.tup ra qa))⟩⟩
  · cases h
    obtain ⟨a, L, rfl, t, r⟩ := rx.nst
    exact .inr ⟨a, L, rfl, t, fun p np => q.tup S r.keys np⟩
  · cases h
    rw [rx.int]
    exact .inl ⟨_, rfl, q.int S⟩
  · cases h
    rw [rx.bool]
    exact .inr ⟨_, rfl, q.int S⟩
  · split at h
    · rename_i c
      cases h
      rw [rx.int]
      exact ⟨_, rfl, of_decide_eq_true c, q G H _ (.refl S) (.f (.str _))⟩
    · cases h
  · split at h
    · rename_i ns hn
      cases h
      obtain ⟨a, vs, rfl, ra, qa⟩ := rx.list S
      have e := qa.ints hn
      subst e
      exact ⟨a, ns, rfl, ra, q.int S⟩
    · cases h
  · split at h
    · rename_i ns hn
      cases h
      obtain ⟨a, vs, rfl, ra, qa⟩ := rx.list S
      have e := qa.bools hn
      subst e
      exact ⟨a, ns, rfl, ra, q.bool S⟩
    · cases h
  · split at h
    · rename_i ns hn
      cases h
      obtain ⟨a, vs, rfl, ra, qa⟩ := rx.list S
      have e := qa.bools hn
      subst e
      exact ⟨a, ns, rfl, ra, q.bool S⟩
    · cases h
  · split at h
    · rename_i ns hn
      cases h
      obtain ⟨a, vs, rfl, ra, qa⟩ := rx.list S
      have e := qa.ints hn
      subst e
      refine .inl ⟨a, ns, rfl, ra, fun ns' p pm so np => ?_⟩
      have e2 : ns' = sortI ns := sortI_uniq pm so
      subst e2
      exact q.list S (RpA.intsM _) np
    · cases h
  · split at h
    · rename_i ns hn
      cases h
      rename_i ds0 _
      have hm : nmk ds0 = true := by
        cases hm : nmk ds0 with
        | true => rfl
        | false =>
          exfalso
          cases ds0 with
          | nil => cases hm
          | cons p ps =>
            obtain ⟨k, e⟩ := p
            cases k <;> first | (simp [nmk] at hm; done) | (simp [intsD] at hn)
      obtain ⟨a, vs, rfl, ra, qa⟩ := rx.dict S hm
      refine .inr ⟨a, vs, ns, rfl, .inl ra, RpK.intKeys qa hn, fun ns' p pm so np => ?_⟩
      have e2 : ns' = sortI ns := sortI_uniq pm so
      subst e2
      exact q.list S (RpA.intsM _) np
    · cases h
  · cases h
theorem dedI_mem {k : Int} : ∀ {l : List Int}, k ∈ dedI l ↔ k ∈ l
  | [] => Iff.rfl
  | i :: r => by
    unfold dedI
    split
    · rename_i h
      rw [dedI_mem, List.mem_cons]
      exact ⟨.inr, fun z => z.elim (fun e => e ▸ h) id⟩
    · rw [List.mem_cons, List.mem_cons, dedI_mem]
theorem dedI_nodup : ∀ l : List Int, (dedI l).Nodup
  | [] => List.nodup_nil
  | i :: r => by
    unfold dedI
    split
    · exact dedI_nodup r
    · rename_i h
      exact List.nodup_cons.mpr ⟨fun z => h (dedI_mem.mp z), dedI_nodup r⟩
theorem nodupI_perm : ∀ {l m : List Int}, l.Nodup → m.Nodup → (∀ x, x ∈ l ↔ x ∈ m) → l.Perm m
  | [], m, _, _, h => by
    cases m with
    | nil => exact .refl _
    | cons x m => exact absurd ((h x).mpr List.mem_cons_self) List.not_mem_nil
  | x :: l, m, h1, h2, h => by
    obtain ⟨s, t, rfl⟩ := List.append_of_mem ((h x).mp List.mem_cons_self)
    obtain ⟨n1, n2⟩ := List.nodup_cons.mp h1
    have p := List.perm_middle (a := x) (l₁ := s) (l₂ := t)
    have h3 := p.nodup_iff.mp h2
    obtain ⟨n3, n4⟩ := List.nodup_cons.mp h3
    refine .trans (.cons x (nodupI_perm n2 n4 fun y => ?_)) p.symm
    have hy := h y
    rw [p.mem_iff, List.mem_cons, List.mem_cons] at hy
    constructor
    · intro z
      exact (hy.mp (.inr z)).resolve_left fun e => n1 (e ▸ z)
    · intro z
      exact (hy.mpr (.inr z)).resolve_left fun e => n3 (e ▸ z)
theorem sst_sem {x : D} {v : V} {s : Sl} {Q : VK} (S : Same G H) (rx : Rdb K G H v x) (h : sstD x = .ok s) (q : Nxt K G H s Q) : ∃ (l : Addr) (ns : List Int), v = V.ref l ∧ (SqL K H l (ns.map V.int) ∨ SqT K H l (ns.map V.int)) ∧ ns.length < 4000 ∧
    ∀ (ys : List Int) (p1 p2 : Addr) (o : HO), ys.Pairwise (· ≤ ·) → ys.Nodup → (∀ k : Int, k ∈ ys ↔ k ∈ ns) → H p1 = none → upd H p1 o p2 = none → Q (.ref p2) (upd (upd H p1 o) p2 (.lst (ys.map V.int))) := by
  have fin : ∀ {ns : List Int}, Nxt K G H ⟨.o, .list ((sortI (dedI ns)).map .int)⟩ Q → ∀ (ys : List Int) (p1 p2 : Addr) (o : HO), ys.Pairwise (· ≤ ·) → ys.Nodup → (∀ k : Int, k ∈ ys ↔ k ∈ ns) → H p1 = none → upd H p1 o p2 = none → Q (.ref p2) (upd (upd H p1 o) p2 (.lst (ys.map V.int))) := fun {ns} q ys p1 p2 o h1 h2 h3 n1 n2 => by
    have e : ys = sortI (dedI ns) := sortI_uniq (nodupI_perm h2 (dedI_nodup ns) fun x => (h3 x).trans dedI_mem.symm) h1
    subst e
    have S1 : Step G H G (upd H p1 o) := .new S n1
    exact (q.back S1).list S1.gh (RpA.intsM _) n2
  unfold sstD at h
  split at h
  · rename_i xs hx
    split at h
    · rename_i ns hn
      split at h
      · rename_i hl
        cases h
        unfold itemsD at hx
        split at hx
        · cases hx
          obtain ⟨a, vs, rfl, ra, qa⟩ := rx.list S
          have e := qa.ints hn
          subst e
          exact ⟨a, ns, rfl, .inl ra, hl, fin q⟩
        · cases hx
          obtain ⟨a, vs, rfl, ra, qa⟩ := rx.tuple S
          have e := qa.ints hn
          subst e
          exact ⟨a, ns, rfl, .inr ra, hl, fin q⟩
        · cases hx
      · cases h
    · cases h
  · cases h
theorem lns_sem {x : D} {v : V} {s : Sl} {Q : VK} (S : Same G H) (rx : Rdb K G H v x) (h : lnsD x = .ok s) (q : Nxt K G H s Q) : ∃ (l : Addr) (ns : List Int), v = V.ref l ∧ (SqL K H l (ns.map V.int) ∨ SqT K H l (ns.map V.int)) ∧ ns.length < 4000 ∧
    ∀ ks : List Int, ks.Nodup → (∀ k, k ∈ ks ↔ k ∈ ns) → Q (.int (ks.length : Nat)) H := by
  have fin : ∀ {ns : List Int}, Nxt K G H (fI ((dedI ns).length : Nat)) Q → ∀ ks : List Int, ks.Nodup → (∀ k, k ∈ ks ↔ k ∈ ns) → Q (.int (ks.length : Nat)) H := fun {ns} q ks h1 h2 => by
    have e : ks.length = (dedI ns).length := (nodupI_perm h1 (dedI_nodup ns) fun x => (h2 x).trans dedI_mem.symm).length_eq
    rw [e]
    exact q.int S
  unfold lnsD at h
  split at h
  · rename_i xs hx
    split at h
    · rename_i ns hn
      split at h
      · rename_i hl
        cases h
        unfold itemsD at hx
        split at hx
        · cases hx
          obtain ⟨a, vs, rfl, ra, qa⟩ := rx.list S
          have e := qa.ints hn
          subst e
          exact ⟨a, ns, rfl, .inl ra, hl, fin q⟩
        · cases hx
          obtain ⟨a, vs, rfl, ra, qa⟩ := rx.tuple S
          have e := qa.ints hn
          subst e
          exact ⟨a, ns, rfl, .inr ra, hl, fin q⟩
        · cases hx
      · cases h
    · cases h
  · cases h
theorem gdx_sem {kvs : List (Str × D)} {x : D} {v : V} {s : Sl} {Q : VK} (S : Same G H) (rx : Rdb K G H v x) (h : gdxD kvs x = .ok s) (q : Nxt K G H s Q) : ∃ z d, v = V.str z ∧ kvs.lookup z = some d ∧ ∀ w, (∀ G, Rp K G w d) → Q w H := by
  unfold gdxD at h
  split at h
  · split at h
    · rename_i z d hd
      cases h
      refine ⟨_, d, rx.str, hd, fun w hw => q G H w (.refl S) (.f (hw G))⟩
    · cases h
  · cases h
theorem mmD_sem {mx : Bool} {x y : D} {v w : V} {s : Sl} {Q : VK} (S : Same G H) (rx : Rdb K G H v x) (ry : Rdb K G H w y) (h : mmD mx x y = .ok s) (q : Nxt K G H s Q) : rMM mx [v, w] H Q := by
  unfold mmD at h
  split at h
  · cases h
    rw [rx.int, ry.int]
    exact ⟨_, _, rfl, q.int S⟩
  · cases h
theorem rvD_sem {x : D} {v : V} {s : Sl} {Q : VK} (S : Same G H) (rx : Rdb K G H v x) (h : rvD x = .ok s) (q : Nxt K G H s Q) : ∃ a xs, v = .ref a ∧ SqL K H a xs ∧ ∀ p, H p = none → Q (.ref p) (upd H p (.lst xs.reverse)) := by
  unfold rvD at h
  split at h
  · cases h
    obtain ⟨a, vs, rfl, ra, qa⟩ := rx.list S
    exact ⟨a, vs, rfl, ra, fun p np => q.list S qa.reverse np⟩
  · cases h
theorem tyX_of {v : V} {d : D} (S : Same G H) (pl : nmkD d = true) (r : Rdb K G H v d) : TyX K H v (.type (tyD d)) := by
  rcases r.plain pl with r | ⟨a, o, rfl, _, t, r⟩
  · cases r with
    | non => exact .base .non
    | bl b => exact .base (.bl b)
    | int i => exact .base (.int i)
    | str x => exact .base (.str x)
    | lst h _ =>
      rcases S.seq h with h | ⟨o, its, n, h1, h2, _⟩
      · rcases h with h | ⟨o, h⟩
        · exact .base (.lst h)
        · exact .base (.frz h)
      · exact .kList h1 h2
    | tup h _ =>
      rcases SqT.mono S h with h | ⟨o, its, n, h1, h2, _⟩
      · rcases h with h | ⟨o, h⟩
        · exact .base (.tup h)
        · exact .fTuple h
      · exact .kTuple h1 h2
    | dct h _ => exact .base (.dK (S _ _ h))
    | xc => cases pl
  · cases r with
    | lst _ => exact .base (.lst t)
    | dct _ => exact .base (.dK t)
def isiS (y : String) (t : Ty) : Bool := y == tyN t || (tyN t == "int" && y == "bool")
theorem isi_kit0 (t : Ty) : ∀ y ∈ ["NoneType", "bool", "int", "str", "list", "tuple", "dict"], kitB y (tyN t) = some (isiS y t) := by
  cases t <;> decide +kernel
theorem isi_kit (t : Ty) (d : D) : kitB (tyD d) (tyN t) = some (isiD d t) := by
  have e : isiS (tyD d) t = isiD d t := by cases t <;> cases d <;> rfl
  rw [← e]
  exact isi_kit0 t _ (by cases d <;> simp [tyD])
theorem isi_sem {x : D} {v : V} {t : Ty} {Q : VK} (S : Same G H) (pl : nmkD x = true) (rx : Rdb K G H v x) (q : Q (.bl (isiD x t)) H) : rIsi K [v, .ty (tyN t)] H Q :=
  ⟨v, .ty (tyN t), .type (tyD x), .type (tyN t), isiD x t, rfl, .ty _, tyX_of S pl rx, kit_ty (isi_kit t x), q⟩
end
end GK

namespace GK
open PySem PySem.Spec PyProof.Rows L2

theorem wipe_get (σ : L2.St) : ∀ (vs : List Nat) (j : Nat), (wipe σ vs)[j]? = if j ∈ vs ∧ j < σ.length then some none else σ[j]?
  | [], j => by simp [wipe]
  | v :: vs, j => by
    unfold wipe
    have hl := wipe_length σ vs
    by_cases e : v = j
    · subst e
      by_cases h : v < σ.length
      · rw [List.getElem?_set_self (by omega), if_pos ⟨List.mem_cons_self, h⟩]
      · rw [List.getElem?_eq_none (by rw [List.length_set]; omega), if_neg (fun z => h z.2), List.getElem?_eq_none (by omega)]
    · rw [List.getElem?_set_ne e, wipe_get σ vs j]
      by_cases h : j ∈ vs ∧ j < σ.length
      · rw [if_pos h, if_pos ⟨List.mem_cons_of_mem _ h.1, h.2⟩]
      · rw [if_neg h, if_neg (fun z => h ⟨(List.mem_cons.mp z.1).resolve_left (fun q => e q.symm), z.2⟩)]
theorem wipeR_length (ρ : Rho) : ∀ vs : List Nat, (wipeR ρ vs).length = ρ.length
  | [] => rfl
  | v :: vs => by unfold wipeR; rw [List.length_set, wipeR_length ρ vs]
theorem wipeR_get (ρ : Rho) : ∀ (vs : List Nat) (j : Nat), (wipeR ρ vs)[j]? = if j ∈ vs ∧ j < ρ.length then some none else ρ[j]?
  | [], j => by simp [wipeR]
  | v :: vs, j => by
    unfold wipeR
    have hl := wipeR_length ρ vs
    by_cases e : v = j
    · subst e
      by_cases h : v < ρ.length
      · rw [List.getElem?_set_self (by omega), if_pos ⟨List.mem_cons_self, h⟩]
      · rw [List.getElem?_eq_none (by rw [List.length_set]; omega), if_neg (fun z => h z.2), List.getElem?_eq_none (by omega)]
    · rw [List.getElem?_set_ne e, wipeR_get ρ vs j]
      by_cases h : j ∈ vs ∧ j < ρ.length
      · rw [if_pos h, if_pos ⟨List.mem_cons_of_mem _ h.1, h.2⟩]
      · rw [if_neg h, if_neg (fun z => h ⟨(List.mem_cons.mp z.1).resolve_left (fun q => e q.symm), z.2⟩)]
/-- only slots of vs may differ -/
def SameBut (vs : List Nat) (σ σ' : L2.St) : Prop := σ'.length = σ.length ∧ ∀ j, j ∉ vs → σ'[j]? = σ[j]?
theorem wipe_sameBut {vs : List Nat} {σ σ' : L2.St} (h : SameBut vs (wipe σ vs) σ') : wipe σ' vs = wipe σ vs := by
  apply List.ext_getElem?
  intro j
  have hl : σ'.length = σ.length := h.1.trans (wipe_length σ vs)
  rw [wipe_get, wipe_get, hl]
  by_cases hj : j ∈ vs
  · by_cases h2 : j < σ.length
    · rw [if_pos ⟨hj, h2⟩, if_pos ⟨hj, h2⟩]
    · rw [if_neg (fun z => h2 z.2), if_neg (fun z => h2 z.2), List.getElem?_eq_none (by omega), List.getElem?_eq_none (by omega)]
  · rw [if_neg (fun z => hj z.1), if_neg (fun z => hj z.1), h.2 j hj, wipe_get, if_neg (fun z => hj z.1)]
section
variable {K : PySem.W.Frag} {G H G' H' : Hp}
theorem EnvR.wipe {σ : L2.St} {ρ : Rho} (h : EnvR K G H σ ρ) (vs : List Nat) : EnvR K G H (L2.wipe σ vs) (wipeR ρ vs) := by
  refine ⟨by rw [wipe_length, wipeR_length, h.len], fun i s e => ?_⟩
  rw [wipeR_get] at e
  split at e
  · cases e
  · rename_i hn
    obtain ⟨v, e1, r⟩ := h.at_ i s e
    rw [wipe_get, h.len, if_neg hn]
    exact ⟨v, e1, r⟩
theorem EnvR.set {σ : L2.St} {ρ : Rho} (h : EnvR K G H σ ρ) (i : Nat) {v : V} {s : Sl} (r : SlE K G H v s) : EnvR K G H (σ.set i (some v)) (ρ.set i (some s)) := by
  refine ⟨by rw [List.length_set, List.length_set, h.len], fun j t e => ?_⟩
  by_cases hj : i = j
  · subst hj
    by_cases hl : i < ρ.length
    · rw [List.getElem?_set_self hl] at e
      cases e
      exact ⟨v, by rw [List.getElem?_set_self (h.len ▸ hl)], r⟩
    · rw [List.getElem?_eq_none (by rw [List.length_set]; omega)] at e
      cases e
  · rw [List.getElem?_set_ne hj] at e ⊢
    exact h.at_ j t e
theorem setAll_sem {tvs : List Nat} : ∀ (is : List Nat) (ds : List D) (vs : List V) (ρ ρ' : Rho) (σ : L2.St) (Q : L2.St → Hp → Prop), EnvR K G H σ ρ → RpA K G vs ds → setAll is ds ρ = some ρ' →
    (∀ σ', EnvR K G H σ' ρ' → (is.all tvs.contains = true → SameBut tvs σ σ') → Q σ' H) → (is.foldr (fun i t => gCons (gName i) t) gNil) vs σ H Q
  | [], [], _, ρ, ρ', σ, Q, E, r, e, q => by
    cases r
    cases e
    exact ⟨rfl, q σ E fun _ => ⟨rfl, fun _ _ => rfl⟩⟩
  | [], _ :: _, _, _, _, _, _, _, _, e, _ => by simp [setAll] at e
  | _ :: _, [], _, _, _, _, _, _, _, e, _ => by simp [setAll] at e
  | i :: is, d :: ds, _, ρ, ρ', σ, Q, E, r, e, q => by
    cases r with
    | cons r1 r2 =>
      simp only [setAll] at e
      refine ⟨_, _, rfl, setAll_sem (tvs := tvs) is ds _ _ ρ' _ Q (E.set i (s := ⟨.f, d⟩) r1) r2 e fun σ' E' sb => q σ' E' fun hi => ?_⟩
      simp only [List.all_cons, Bool.and_eq_true] at hi
      obtain ⟨l, g⟩ := sb hi.2
      refine ⟨by rw [l, List.length_set], fun j hj => ?_⟩
      rw [g j hj, List.getElem?_set_ne]
      intro z
      subst z
      exact hj (by simpa using hi.1)
theorem bindF_sem {tvs : List Nat} {tg : Tg} {d : D} {v : V} {ρ ρ' : Rho} {σ : L2.St} {Q : L2.St → Hp → Prop} (S : Same G H) (E : EnvR K G H σ ρ) (r : Rp K G v d) (e : bindT tg ⟨.f, d⟩ ρ = .ok ρ')
    (q : ∀ σ', EnvR K G H σ' ρ' → (tgIn tvs tg = true → SameBut tvs σ σ') → Q σ' H) : gTg K tg v σ H Q := by
  cases tg with
  | nm i =>
    cases e
    refine q _ (E.set i (s := ⟨.f, d⟩) r) fun hi => ⟨by rw [List.length_set], fun j hj => ?_⟩
    rw [List.getElem?_set_ne]
    intro z
    subst z
    exact hj (by simpa [tgIn] using hi)
  | tp is =>
    have hl : ∀ (is : List Nat) (ds : List D) (ρ ρ' : Rho), setAll is ds ρ = some ρ' → ds.length = is.length := by
      intro is
      induction is with
      | nil => intro ds ρ ρ' e; cases ds <;> simp [setAll] at e ⊢
      | cons i is ih =>
        intro ds ρ ρ' e
        cases ds with
        | nil => simp [setAll] at e
        | cons d ds => simp only [setAll] at e; rw [List.length_cons, List.length_cons, ih ds _ _ e]
    simp only [bindT] at e
    split at e
    · rename_i ds
      split at e
      · rename_i ρ2 e2
        cases e
        cases r with
        | @tup a vs _ h1 h2 =>
          exact .inl ⟨a, vs, rfl, SqT.mono S h1, by rw [h2.length, hl is ds ρ _ e2], setAll_sem (tvs := tvs) is ds vs ρ _ σ Q E h2 e2 fun σ' E' sb => q σ' E' fun hi => sb hi⟩
      · cases e
    · rename_i ds
      split at e
      · rename_i ρ2 e2
        cases e
        cases r with
        | @lst a vs _ h1 h2 =>
          exact .inr ⟨a, vs, rfl, S.seq h1, by rw [h2.length, hl is ds ρ _ e2], setAll_sem (tvs := tvs) is ds vs ρ _ σ Q E h2 e2 fun σ' E' sb => q σ' E' fun hi => sb hi⟩
      · cases e
    · cases e

/-- an iterator over deep values, from the heap B on -/
def IterR (K : PySem.W.Frag) (G B : Hp) (J : It) (xs : List D) : Prop := ∀ i H Gc, Same G Gc → Same Gc H → Same B H → (∀ d, xs[i]? = some d → J.go i H ∧ ∀ x H', J.yld i H x H' → ∃ G', Step Gc H G' H' ∧ Rp K G' x d) ∧ (xs.length ≤ i → J.stop i H)
theorem SqL.same {a : Addr} {xs : List V} (S : Same G H) (h : SqL K G a xs) : SqL K H a xs := S.seq h
theorem iter_list {B : Hp} {a : Addr} {vs : List V} {xs : List D} (h : SqL K B a vs) (r : RpA K G vs xs) : IterR K G B (Itl K a) xs := fun i H Gc SG SH S => by
  have hs : SqL K H a vs := S.seq h
  refine ⟨fun d hd => ?_, fun hl => ⟨vs, hs, by rw [r.length]; exact hl⟩⟩
  obtain ⟨v, e, q⟩ := r.get hd
  refine ⟨⟨vs, v, hs, e⟩, fun x H' y => ?_⟩
  cases Option.some.inj ((y.2 vs hs).symm.trans e)
  obtain ⟨rfl, _⟩ := y
  exact ⟨Gc, .refl SH, Rp.mono SG _ _ q⟩
theorem iter_tup {B : Hp} {a : Addr} {vs : List V} {xs : List D} (h : SqT K B a vs) (r : RpA K G vs xs) : IterR K G B (Itt K a) xs := fun i H Gc SG SH S => by
  have hs : SqT K H a vs := SqT.mono S h
  refine ⟨fun d hd => ?_, fun hl => ⟨vs, hs, by rw [r.length]; exact hl⟩⟩
  obtain ⟨v, e, q⟩ := r.get hd
  refine ⟨⟨vs, v, hs, e⟩, fun x H' y => ?_⟩
  cases Option.some.inj ((y.2 vs hs).symm.trans e)
  obtain ⟨rfl, _⟩ := y
  exact ⟨Gc, .refl SH, Rp.mono SG _ _ q⟩
theorem iter_rng {B : Hp} {lo : Int} {n : Nat} : IterR K G B (Itr lo n) ((List.range n).map fun k => .int (lo + (k : Nat))) := fun i H Gc SG SH S => by
  refine ⟨fun d hd => ?_, fun hl => ?_⟩
  · rw [List.getElem?_map] at hd
    by_cases h : i < n
    · rw [List.getElem?_range h] at hd
      cases hd
      refine ⟨h, fun x H' y => ?_⟩
      obtain ⟨rfl, rfl⟩ := y
      exact ⟨Gc, .refl SH, .int _⟩
    · rw [List.getElem?_eq_none (by rw [List.length_range]; omega)] at hd
      cases hd
  · rw [List.length_map, List.length_range] at hl
    exact hl
theorem iter_rngC {B : Hp} {lo c : Int} {n : Nat} : IterR K G B (Itc lo c n) ((List.range n).map fun k => .int (lo + (k : Nat) * c)) := fun i H Gc SG SH S => by
  refine ⟨fun d hd => ?_, fun hl => ?_⟩
  · rw [List.getElem?_map] at hd
    by_cases h : i < n
    · rw [List.getElem?_range h] at hd
      cases hd
      refine ⟨h, fun x H' y => ?_⟩
      obtain ⟨rfl, rfl⟩ := y
      exact ⟨Gc, .refl SH, .int _⟩
    · rw [List.getElem?_eq_none (by rw [List.length_range]; omega)] at hd
      cases hd
  · rw [List.length_map, List.length_range] at hl
    exact hl
theorem rev_at {α : Type} {xs : List α} {i : Nat} {d : α} (h : xs.reverse[i]? = some d) : i < xs.length ∧ xs[xs.length - 1 - i]? = some d := by
  have hi : i < xs.length := by
    rcases Nat.lt_or_ge i xs.length with q | q
    · exact q
    · rw [List.getElem?_eq_none (by rw [List.length_reverse]; exact q)] at h
      cases h
  rw [List.getElem?_reverse hi] at h
  exact ⟨hi, h⟩
theorem iter_rvr {B : Hp} {n : Nat} : IterR K G B (Itc (0 + (n : Int) - 1) (-1) n) ((List.range n).map fun k => .int (0 + (k : Nat))).reverse := fun i H Gc SG SH S => by
  refine ⟨fun d hd => ?_, fun hl => ?_⟩
  · obtain ⟨h1, h2⟩ := rev_at hd
    rw [List.length_map, List.length_range] at h1 h2
    rw [List.getElem?_map, List.getElem?_range (by omega)] at h2
    cases h2
    refine ⟨h1, fun x H' y => ?_⟩
    obtain ⟨rfl, rfl⟩ := y
    refine ⟨Gc, .refl SH, ?_⟩
    have e : 0 + (n : Int) - 1 + (i : Nat) * (-1) = 0 + ((n - 1 - i : Nat) : Int) := by omega
    rw [e]
    exact .int _
  · rw [List.length_reverse, List.length_map, List.length_range] at hl
    exact hl
theorem iter_rev {B : Hp} {a : Addr} {vs : List V} {xs : List D} (h : SqL K B a vs) (r : RpA K G vs xs) : IterR K G B (Itv K a vs.length) xs.reverse := fun i H Gc SG SH S => by
  have hs : SqL K H a vs := S.seq h
  refine ⟨fun d hd => ?_, fun hl => by rw [List.length_reverse, ← r.length] at hl; exact hl⟩
  obtain ⟨h1, h2⟩ := rev_at hd
  obtain ⟨v, e, q⟩ := r.get h2
  rw [← r.length] at e h1
  refine ⟨⟨h1, vs, v, hs, e⟩, fun x H' y => ?_⟩
  cases Option.some.inj ((y.2 vs hs).symm.trans e)
  obtain ⟨rfl, _⟩ := y
  exact ⟨Gc, .refl SH, Rp.mono SG _ _ q⟩
theorem iter_revT {B : Hp} {a : Addr} {vs : List V} {xs : List D} (h : SqT K B a vs) (r : RpA K G vs xs) : IterR K G B (RT.ItvT K a vs.length) xs.reverse := fun i H Gc SG SH S => by
  have hs : SqT K H a vs := SqT.mono S h
  refine ⟨fun d hd => ?_, fun hl => by rw [List.length_reverse, ← r.length] at hl; exact hl⟩
  obtain ⟨h1, h2⟩ := rev_at hd
  obtain ⟨v, e, q⟩ := r.get h2
  rw [← r.length] at e h1
  refine ⟨⟨h1, vs, v, hs, e⟩, fun x H' y => ?_⟩
  cases Option.some.inj ((y.2 vs hs).symm.trans e)
  obtain ⟨rfl, _⟩ := y
  exact ⟨Gc, .refl SH, Rp.mono SG _ _ q⟩
theorem enum_at {xs : List D} {i : Nat} {d : D} (h : (enumD xs)[i]? = some d) : ∃ x, xs[i]? = some x ∧ d = .tuple [.int (i : Nat), x] := by
  unfold enumD at h
  rw [List.getElem?_map] at h
  by_cases hi : i < xs.length
  · rw [List.getElem?_range hi] at h
    cases h
    exact ⟨xs[i], List.getElem?_eq_getElem hi, by show PyData.tuple [_, xs.getD i .none] = _; rw [List.getD_eq_getElem?_getD, List.getElem?_eq_getElem hi]; rfl⟩
  · rw [List.getElem?_eq_none (by rw [List.length_range]; omega)] at h
    cases h
theorem enum_len (xs : List D) : (enumD xs).length = xs.length := by rw [enumD, List.length_map, List.length_range]
theorem zip_at {xs ys : List D} {i : Nat} {d : D} (h : (zipD xs ys)[i]? = some d) : ∃ x y, xs[i]? = some x ∧ ys[i]? = some y ∧ d = .tuple [x, y] := by
  unfold zipD at h
  rw [List.getElem?_map] at h
  by_cases hi : i < min xs.length ys.length
  · rw [List.getElem?_range hi] at h
    cases h
    have h1 : i < xs.length := by omega
    have h2 : i < ys.length := by omega
    exact ⟨xs[i], ys[i], List.getElem?_eq_getElem h1, List.getElem?_eq_getElem h2, by show PyData.tuple [xs.getD i .none, ys.getD i .none] = _; rw [List.getD_eq_getElem?_getD, List.getElem?_eq_getElem h1, List.getD_eq_getElem?_getD, List.getElem?_eq_getElem h2]; rfl⟩
  · rw [List.getElem?_eq_none (by rw [List.length_range]; omega)] at h
    cases h
theorem zip_len (xs ys : List D) : (zipD xs ys).length = min xs.length ys.length := by rw [zipD, List.length_map, List.length_range]
theorem pair_step {Gc : Hp} {T : Addr} {x y : V} {d e : D} (SH : Same Gc H) (hT : H T = none) (r1 : Rp K Gc x d) (r2 : Rp K Gc y e) : ∃ G', Step Gc H G' (upd H T (.tup [x, y])) ∧ Rp K G' (.ref T) (.tuple [d, e]) :=
  ⟨upd Gc T (.tup [x, y]), .newF SH hT, .tup (.inl (.inl upd_same)) (.cons (Rp.mono (same_upd (SH.free hT)) _ _ r1) (.cons (Rp.mono (same_upd (SH.free hT)) _ _ r2) .nil))⟩
theorem iter_enum {B : Hp} {a : Addr} {vs : List V} {xs : List D} (h : SqL K B a vs) (r : RpA K G vs xs) : IterR K G B (Ite K a) (enumD xs) := fun i H Gc SG SH S => by
  have hs : SqL K H a vs := S.seq h
  refine ⟨fun d hd => ?_, fun hl => ⟨vs, hs, by rw [r.length]; rwa [enum_len] at hl⟩⟩
  obtain ⟨z, h1, rfl⟩ := enum_at hd
  obtain ⟨v, e, q⟩ := r.get h1
  refine ⟨⟨vs, v, hs, e⟩, fun x H' y => ?_⟩
  obtain ⟨T, u, rfl, hT, rfl, hu⟩ := y
  cases Option.some.inj ((hu vs hs).symm.trans e)
  exact pair_step SH hT (.int _) (Rp.mono SG _ _ q)
theorem iter_enumT {B : Hp} {a : Addr} {vs : List V} {xs : List D} (h : SqT K B a vs) (r : RpA K G vs xs) : IterR K G B (IteT K a) (enumD xs) := fun i H Gc SG SH S => by
  have hs : SqT K H a vs := SqT.mono S h
  refine ⟨fun d hd => ?_, fun hl => ⟨vs, hs, by rw [r.length]; rwa [enum_len] at hl⟩⟩
  obtain ⟨z, h1, rfl⟩ := enum_at hd
  obtain ⟨v, e, q⟩ := r.get h1
  refine ⟨⟨vs, v, hs, e⟩, fun x H' y => ?_⟩
  obtain ⟨T, u, rfl, hT, rfl, hu⟩ := y
  cases Option.some.inj ((hu vs hs).symm.trans e)
  exact pair_step SH hT (.int _) (Rp.mono SG _ _ q)
theorem iter_zip {B : Hp} {a b : Addr} {vs ws : List V} {xs ys : List D} (h : SqL K B a vs) (h' : SqL K B b ws) (r : RpA K G vs xs) (r' : RpA K G ws ys) : IterR K G B (Itz K a b) (zipD xs ys) := fun i H Gc SG SH S => by
  have hs : SqL K H a vs := S.seq h
  have hs' : SqL K H b ws := S.seq h'
  refine ⟨fun d hd => ?_, fun hl => ⟨vs, ws, hs, hs', by rw [r.length, r'.length]; rw [zip_len] at hl; omega⟩⟩
  obtain ⟨z, z', h1, h2, rfl⟩ := zip_at hd
  obtain ⟨v, e, q⟩ := r.get h1
  obtain ⟨v', e', q'⟩ := r'.get h2
  refine ⟨⟨vs, ws, v, v', hs, hs', e, e'⟩, fun x H' y => ?_⟩
  obtain ⟨T, u, u', rfl, hT, rfl, hu, hu'⟩ := y
  cases Option.some.inj ((hu vs hs).symm.trans e)
  cases Option.some.inj ((hu' ws hs').symm.trans e')
  exact pair_step SH hT (Rp.mono SG _ _ q) (Rp.mono SG _ _ q')
theorem iter_zipT {B : Hp} {a b : Addr} {vs ws : List V} {xs ys : List D} (h : SqT K B a vs) (h' : SqT K B b ws) (r : RpA K G vs xs) (r' : RpA K G ws ys) : IterR K G B (RZ.ItzT K a b) (zipD xs ys) := fun i H Gc SG SH S => by
  have hs : SqT K H a vs := SqT.mono S h
  have hs' : SqT K H b ws := SqT.mono S h'
  refine ⟨fun d hd => ?_, fun hl => ⟨vs, ws, hs, hs', by rw [r.length, r'.length]; rw [zip_len] at hl; omega⟩⟩
  obtain ⟨z, z', h1, h2, rfl⟩ := zip_at hd
  obtain ⟨v, e, q⟩ := r.get h1
  obtain ⟨v', e', q'⟩ := r'.get h2
  refine ⟨⟨vs, ws, v, v', hs, hs', e, e'⟩, fun x H' y => ?_⟩
  obtain ⟨T, u, u', rfl, hT, rfl, hu, hu'⟩ := y
  cases Option.some.inj ((hu vs hs).symm.trans e)
  cases Option.some.inj ((hu' ws hs').symm.trans e')
  exact pair_step SH hT (Rp.mono SG _ _ q) (Rp.mono SG _ _ q')
theorem rng3_ok {i j c : Int} {xs : List D} (h : rng3D i j c = .ok xs) : RgC i j c (Builtin.Range.rangeSize i j c).toNat ∧ xs = (List.range (Builtin.Range.rangeSize i j c).toNat).map fun k => .int (i + (k : Nat) * c) := by
  unfold rng3D at h
  split at h
  · rename_i q
    obtain ⟨q1, q4⟩ := and2 q
    obtain ⟨q1, q3⟩ := and2 q1
    obtain ⟨q1, q2⟩ := and_t q1
    exact ⟨⟨q1, q2, q3, (Int.toNat_of_nonneg (of_decide_eq_true q4)).symm⟩, (ok_inj h).symm⟩
  · cases h
/-- a heap without one object -/
def del (H : Hp) (D : Addr) : Hp := fun b => if b = D then none else H b
theorem del_same {D : Addr} : del H D D = none := if_pos rfl
theorem del_ne {D b : Addr} (h : b ≠ D) : del H D b = H b := if_neg h
theorem upd_del {D : Addr} {o : HO} : upd (del H D) D o = upd H D o := by
  funext b
  unfold upd del
  split <;> rfl
theorem rng_ok {i j : Int} {xs : List D} (h : rngD i j = .ok xs) : -(2 ^ 62) ≤ i ∧ i < 2 ^ 62 ∧ -(2 ^ 62) ≤ j ∧ j < 2 ^ 62 ∧ xs = (List.range (j - i).toNat).map fun k => .int (i + (k : Nat)) := by
  unfold rngD at h
  split at h
  · rename_i c
    obtain ⟨c1, c2⟩ := and2 c
    obtain ⟨c1, c3⟩ := and2 c1
    obtain ⟨c4, c5⟩ := and_t c1
    exact ⟨c4, c5, of_decide_eq_true c3, of_decide_eq_true c2, (ok_inj h).symm⟩
  · cases h
end

section
variable {K : PySem.W.Frag} {sp : Str → Sp} {cl : Str → List Sl → M Sl}
  (hsp : ∀ (f : Str) (vs : List V) (H G : Hp) (ss : List Sl) (r : Sl) (Q : VK), Same G H → ArgsR K G H vs ss → cl f ss = .ok r → Nxt K G H r Q → sp f vs H Q E0)
/-- a comprehension's turns -/
theorem lc_sem {G H : Hp} {J : It} {xs ys : List D} {f : D → M (Option D)} {g : TG} {tt : TT} {te : TE} {vs : List Nat} {σ : L2.St} {Q : VK} (S : Same G H) (hJ : IterR K G H J xs) (hx : xs.length ≤ sizeLine)
    (he : lcGo f xs = .ok ys)
    (turn : ∀ (d : D) (v : V) (y : Option D) (G1 H1 : Hp) (Nx : Hp → Prop) (D : Addr), Step G H G1 H1 → Rp K G1 v d → f d = .ok y → (y = none → ∀ G2 H2, Step G1 H1 G2 H2 → Nx H2) →
      (∀ e, y = some e → ∀ G2 H2 w, Step G1 H1 G2 H2 → Rp K G2 w e → ∃ acc, H2 D = some (.lst acc) ∧ acc.length < sizeLine ∧ Nx (upd H2 D (.lst (acc ++ [w])))) →
      g v (wipe σ vs) H1 fun σ2 H2 => wipe σ2 vs = wipe σ vs ∧ tt σ2 H2 fun b H3 => if b = true then te σ2 H3 fun y H4 => ∃ acc, H4 D = some (.lst acc) ∧ acc.length < sizeLine ∧ Nx (upd H4 D (.lst (acc ++ [y]))) else Nx H3)
    (q : Nxt K G H ⟨.o, .list ys⟩ Q) : ∀ D, H D = none → ∃ W : Nat → Nat → Hp → Prop, (∃ m, W 0 m (upd H D (.lst []))) ∧ ∀ i m H, W i m H →
  (J.stop i H ∧ Q (.ref D) H) ∨ (J.go i H ∧ ∃ Nx : Hp → Prop, (∀ H', Nx H' → ∃ m', m' < m ∧ W (i + 1) m' H') ∧ ∀ x H', J.yld i H x H' → g x (wipe σ vs) H' fun σ2 H2 => wipe σ2 vs = wipe σ vs ∧ tt σ2 H2 fun b H3 =>
    if b = true then te σ2 H3 fun y H4 => ∃ acc, H4 D = some (.lst acc) ∧ acc.length < sizeLine ∧ Nx (upd H4 D (.lst (acc ++ [y]))) else Nx H3) := by
  intro D hD
  refine ⟨fun i m Hc => ∃ Gc acc ds zs, m = xs.length - i ∧ i ≤ xs.length ∧ Step G H Gc Hc ∧ Gc D = none ∧ Hc D = some (.lst acc) ∧ acc.length ≤ i ∧ RpA K Gc acc ds ∧ lcGo f (xs.drop i) = .ok zs ∧ ds ++ zs = ys,
    ⟨xs.length, G, [], [], ys, rfl, Nat.zero_le _, .new S hD, S.free hD, upd_same, Nat.zero_le _, .nil, he, rfl⟩, ?_⟩
  rintro i m Hc ⟨Gc, acc, ds, zs, rfl, hi, Sc, hGD, hHD, ha, ra, hz, ey⟩
  obtain ⟨j1, j2⟩ := hJ i Hc Gc Sc.gg Sc.gh Sc.hh
  by_cases hl : i < xs.length
  · obtain ⟨g1, g2⟩ := j1 xs[i] (List.getElem?_eq_getElem hl)
    refine .inr ⟨g1, fun H' => ∃ Gc acc ds zs, i + 1 ≤ xs.length ∧ Step G H Gc H' ∧ Gc D = none ∧ H' D = some (.lst acc) ∧ acc.length ≤ i + 1 ∧ RpA K Gc acc ds ∧ lcGo f (xs.drop (i + 1)) = .ok zs ∧ ds ++ zs = ys,
      fun H' ⟨Gc, acc, ds, zs, a1, a2, a3, a4, a5, a6, a7, a8⟩ => ⟨xs.length - (i + 1), by omega, Gc, acc, ds, zs, rfl, a1, a2, a3, a4, a5, a6, a7, a8⟩, fun x H' hy => ?_⟩
    obtain ⟨G3, St, rx⟩ := g2 x H' hy
    have Sc := Sc.trans St
    have hGD := St.fr _ _ hHD hGD
    have hHD := St.hh _ _ hHD
    have ra := ra.mono St.gg
    rw [List.drop_eq_getElem_cons hl] at hz
    obtain ⟨y, e1, hz⟩ := bind_ok hz
    obtain ⟨r, e2, hz⟩ := bind_ok hz
    cases pure_ok hz
    refine turn xs[i] x y G3 H' _ D Sc rx e1 (fun ey' G2 H2 S2 => ?_) (fun e ey' G2 H2 w S2 rw_ => ?_)
    · subst ey'
      exact ⟨G2, acc, ds, r, hl, Sc.trans S2, S2.fr _ _ hHD hGD, S2.hh _ _ hHD, by omega, ra.mono S2.gg, e2, ey⟩
    · subst ey'
      refine ⟨acc, S2.hh _ _ hHD, by omega, G2, acc ++ [w], ds ++ [e], r, hl, ?_, S2.fr _ _ hHD hGD, upd_same, by rw [List.length_append]; exact Nat.succ_le_succ ha, (ra.mono S2.gg).append (.cons rw_ .nil), e2, by rw [List.append_assoc]; exact ey⟩
      have S3 := Sc.trans S2
      have hg2 : G2 D = none := S2.fr _ _ hHD hGD
      refine ⟨S3.gg, fun b o e => ?_, fun b o e => ?_, S3.fr⟩
      · rw [upd_ne (ne_of_none e hD)]
        exact S3.hh _ _ e
      · rw [upd_ne (ne_of_none e hg2)]
        exact S3.gh _ _ e
  · have ei : i = xs.length := by omega
    subst ei
    rw [List.drop_length] at hz
    cases hz
    rw [List.append_nil] at ey
    subst ey
    exact .inl ⟨j2 (Nat.le_refl _), q Gc Hc (.ref D) Sc ⟨⟨D, _, rfl, hGD, hHD, .lst ra⟩, fun _ => ⟨D, rfl, hD⟩⟩⟩
end
end GK

namespace GK
open PySem PySem.Spec PyProof.Rows L2
section
variable (K : PySem.W.Frag) (sp : Str → Sp) (cl : Str → List Sl → M Sl)
/-- the promises of all defs are what they do -/
abbrev Hsp : Prop := ∀ (f : Str) (vs : List V) (H G : Hp) (ss : List Sl) (r : Sl) (Q : VK), Same G H → ArgsR K G H vs ss → cl f ss = .ok r → Nxt K G H r Q → sp f vs H Q E0
theorem asB_ok {d : D} {b : Bool} (h : asB d = .ok b) : d = .bool b := by
  cases d <;> first | (cases h; rfl) | cases h
theorem argS_sl {G H : Hp} {H0 : Hp} {v : V} {s : Sl} (S : Step G H0 G H) (r : ResR K H0 G H v s) : ∃ G2, Step G H0 G2 H ∧ SlR K G2 H v (argS s) ∧ (argS s).m ≠ .o ∧ Same G G2 := by
  obtain ⟨m, d⟩ := s
  cases m with
  | f => exact ⟨G, S, r.1, (fun z => nomatch z), Same.refl _⟩
  | p => exact ⟨G, S, r.1, (fun z => nomatch z), Same.refl _⟩
  | o =>
    obtain ⟨G2, S1, S2, r2, sg⟩ := freeze (d := d) S r rfl
    exact ⟨G2, S1, r2, (fun z => nomatch z), sg⟩
theorem evF_len : ∀ (es : Es) {ρ : Rho} (ds : List D), evF cl es ρ = .ok ds → ds.length = esLen es
  | .nil, ρ, ds, h => by
    cases h
    rfl
  | .cons e es, ρ, ds, h => by
    simp only [evF] at h
    obtain ⟨x, e1, h⟩ := bind_ok h
    obtain ⟨d, e2, h⟩ := bind_ok h
    obtain ⟨r, e3, h⟩ := bind_ok h
    cases pure_ok h
    rw [List.length_cons, evF_len es r e3]
    rfl
mutual
theorem semE (hsp : Hsp K sp cl) : ∀ (e : E) {σ : L2.St} {H G : Hp} {ρ : Rho} {s : Sl} (Q : VK), Same G H → EnvR K G H σ ρ → evE cl e ρ = .ok s → Nxt K G H s Q → rdE K sp e σ H Q
  | .var i, σ, H, G, ρ, s, Q, S, E, h, q => by
    simp only [evE] at h
    split at h
    · rename_i d hd
      cases h
      obtain ⟨v, e1, r⟩ := E.at_ _ _ hd
      exact ⟨v, e1, q G H v (.refl S) (.f r)⟩
    · rename_i m d hn hd
      cases h
      obtain ⟨v, e1, r⟩ := E.at_ _ _ hd
      have r' : TopX K G H v d := by
        cases m with
        | f => exact (hn rfl).elim
        | o => exact r
        | p => exact r
      exact ⟨v, e1, q G H v (.refl S) ⟨r', fun z => nomatch z⟩⟩
    · cases h
  | .int n, σ, H, G, ρ, s, Q, S, E, h, q => by
    cases h
    exact q.int S
  | .bl n, σ, H, G, ρ, s, Q, S, E, h, q => by
    cases h
    exact q.bool S
  | .non, σ, H, G, ρ, s, Q, S, E, h, q => by
    cases h
    exact q G H _ (.refl S) (.f .non)
  | .str n, σ, H, G, ρ, s, Q, S, E, h, q => by
    cases h
    exact q G H _ (.refl S) (.f (.str _))
  | .bin op a b, σ, H, G, ρ, s, Q, S, E, h, q => by
    simp only [evE] at h
    obtain ⟨x, e1, h⟩ := bind_ok h
    obtain ⟨y, e2, h⟩ := bind_ok h
    exact semE hsp a _ S E e1 fun G1 H1 v1 S1 r1 => semE hsp b _ S1.gh (E.mono S1) e2 fun G2 H2 v2 S2 r2 =>
      binop_sem S2.gh (r1.1.mono S2) r2.1.rdb h (q.back (S1.trans S2))
  | .neg a, σ, H, G, ρ, s, Q, S, E, h, q => by
    simp only [evE] at h
    obtain ⟨x, e1, h⟩ := bind_ok h
    refine semE hsp a _ S E e1 fun G1 H1 v1 S1 r1 => ?_
    unfold unop at h
    split at h
    · rename_i i hi
      cases h
      have r := r1.1.rdb
      rw [hi] at r
      rw [r.int]
      exact ⟨i, rfl, (q.back S1).int S1.gh⟩
    · cases h
  | .inv a, σ, H, G, ρ, s, Q, S, E, h, q => by
    simp only [evE] at h
    obtain ⟨x, e1, h⟩ := bind_ok h
    refine semE hsp a _ S E e1 fun G1 H1 v1 S1 r1 => ?_
    unfold unop at h
    split at h
    · rename_i i hi
      cases h
      have r := r1.1.rdb
      rw [hi] at r
      rw [r.int]
      exact ⟨i, rfl, (q.back S1).int S1.gh⟩
    · cases h
  | .cmp op a b, σ, H, G, ρ, s, Q, S, E, h, q => by
    simp only [evE] at h
    obtain ⟨x, e1, h⟩ := bind_ok h
    obtain ⟨y, e2, h⟩ := bind_ok h
    obtain ⟨r, e3, h⟩ := bind_ok h
    cases pure_ok h
    exact semE hsp a _ S E e1 fun G1 H1 v1 S1 r1 => semE hsp b _ S1.gh (E.mono S1) e2 fun G2 H2 v2 S2 r2 =>
      cmpop_sem S2.gh (r1.1.rdb.mono S2) r2.1.rdb e3 ((q.back (S1.trans S2)).bool S2.gh)
  | .chn op op' a b c, σ, H, G, ρ, s, Q, S, E, h, q => by
    simp only [evE] at h
    obtain ⟨x, e1, h⟩ := bind_ok h
    obtain ⟨y, e2, h⟩ := bind_ok h
    obtain ⟨r, e3, h⟩ := bind_ok h
    refine semE hsp a _ S E e1 fun G1 H1 v1 S1 r1 => semE hsp b _ S1.gh (E.mono S1) e2 fun G2 H2 v2 S2 r2 =>
      cmpop_sem S2.gh (r1.1.rdb.mono S2) r2.1.rdb e3 ⟨r, rfl, ?_⟩
    cases r with
    | true =>
      rw [if_pos rfl] at h ⊢
      obtain ⟨z, e4, h⟩ := bind_ok h
      obtain ⟨r', e5, h⟩ := bind_ok h
      cases pure_ok h
      exact semE hsp c _ S2.gh ((E.mono S1).mono S2) e4 fun G3 H3 v3 S3 r3 => cmpop_sem S3.gh (r2.1.rdb.mono S3) r3.1.rdb e5 ((q.back ((S1.trans S2).trans S3)).bool S3.gh)
    | false =>
      rw [if_neg Bool.false_ne_true] at h ⊢
      cases pure_ok h
      exact (q.back (S1.trans S2)).bool S2.gh
  | .isN a, σ, H, G, ρ, s, Q, S, E, h, q => by
    simp only [evE] at h
    obtain ⟨x, e1, h⟩ := bind_ok h
    cases pure_ok h
    refine semE hsp a _ S E e1 fun G1 H1 v1 S1 r1 => ⟨rfl, ?_⟩
    rw [r1.1.rdb.none_iff]
    exact (q.back S1).bool S1.gh
  | .notN a, σ, H, G, ρ, s, Q, S, E, h, q => by
    simp only [evE] at h
    obtain ⟨x, e1, h⟩ := bind_ok h
    cases pure_ok h
    refine semE hsp a _ S E e1 fun G1 H1 v1 S1 r1 => ⟨rfl, ?_⟩
    rw [r1.1.rdb.none_iff]
    exact (q.back S1).bool S1.gh
  | .and a b, σ, H, G, ρ, s, Q, S, E, h, q => by
    simp only [evE] at h
    obtain ⟨x, e1, h⟩ := bind_ok h
    obtain ⟨c, e2, h⟩ := bind_ok h
    refine semE hsp a _ S E e1 fun G1 H1 v1 S1 r1 => ?_
    have r := r1.1.rdb
    rw [asB_ok e2] at r
    refine ⟨c, r.bool, ?_⟩
    cases c with
    | true =>
      rw [if_pos rfl] at h ⊢
      exact semE hsp b _ S1.gh (E.mono S1) h (q.back S1)
    | false =>
      rw [if_neg Bool.false_ne_true] at h ⊢
      cases pure_ok h
      exact (q.back S1).bool S1.gh
  | .or a b, σ, H, G, ρ, s, Q, S, E, h, q => by
    simp only [evE] at h
    obtain ⟨x, e1, h⟩ := bind_ok h
    obtain ⟨c, e2, h⟩ := bind_ok h
    refine semE hsp a _ S E e1 fun G1 H1 v1 S1 r1 => ?_
    have r := r1.1.rdb
    rw [asB_ok e2] at r
    refine ⟨c, r.bool, ?_⟩
    cases c with
    | true =>
      rw [if_pos rfl] at h ⊢
      cases pure_ok h
      exact (q.back S1).bool S1.gh
    | false =>
      rw [if_neg Bool.false_ne_true] at h ⊢
      exact semE hsp b _ S1.gh (E.mono S1) h (q.back S1)
  | .not a, σ, H, G, ρ, s, Q, S, E, h, q => by
    simp only [evE] at h
    obtain ⟨x, e1, h⟩ := bind_ok h
    obtain ⟨c, e2, h⟩ := bind_ok h
    cases pure_ok h
    refine semE hsp a _ S E e1 fun G1 H1 v1 S1 r1 => ?_
    have r := r1.1.rdb
    rw [asB_ok e2] at r
    exact ⟨c, r.bool, (q.back S1).bool S1.gh⟩
  | .ife c a b, σ, H, G, ρ, s, Q, S, E, h, q => by
    simp only [evE] at h
    obtain ⟨x, e1, h⟩ := bind_ok h
    obtain ⟨k, e2, h⟩ := bind_ok h
    refine semE hsp c _ S E e1 fun G1 H1 v1 S1 r1 => ?_
    have r := r1.1.rdb
    rw [asB_ok e2] at r
    refine ⟨k, r.bool, ?_⟩
    cases k with
    | true =>
      rw [if_pos rfl] at h ⊢
      exact semE hsp a _ S1.gh (E.mono S1) h (q.back S1)
    | false =>
      rw [if_neg Bool.false_ne_true] at h ⊢
      exact semE hsp b _ S1.gh (E.mono S1) h (q.back S1)
  | .tup es, σ, H, G, ρ, s, Q, S, E, h, q => by
    simp only [evE] at h
    split at h
    · obtain ⟨ds, e1, h⟩ := bind_ok h
      cases pure_ok h
      refine semF hsp es _ S E e1 fun G1 H1 vs S1 r1 => ⟨?_, fun p np => (q.back S1).tup S1.gh r1 np⟩
      rw [r1.length, evF_len cl es ds e1, sizeLine_eq]
      omega
    · cases h
  | .lst es, σ, H, G, ρ, s, Q, S, E, h, q => by
    simp only [evE] at h
    split at h
    · obtain ⟨ds, e1, h⟩ := bind_ok h
      cases pure_ok h
      refine semF hsp es _ S E e1 fun G1 H1 vs S1 r1 => ⟨?_, fun p np => (q.back S1).list S1.gh r1 np⟩
      rw [r1.length, evF_len cl es ds e1, sizeLine_eq]
      omega
    · cases h
  | .ix a i, σ, H, G, ρ, s, Q, S, E, h, q => by
    simp only [evE] at h
    obtain ⟨x, e1, h⟩ := bind_ok h
    obtain ⟨y, e2, h⟩ := bind_ok h
    by_cases hd : ∃ ds, x.d = .dict ds
    · obtain ⟨ds, hd⟩ := hd
      rw [hd] at h
      cases hy : keyOk y.d with
      | true => exact .inr (.inl (semE hsp a _ S E e1 fun G1 H1 v1 S1 r1 => semE hsp i _ S1.gh (E.mono S1) e2 fun G2 H2 v2 S2 r2 =>
          ixD_dictK hy S2.gh (hd ▸ r1.1.rdb.mono S2) r2.1.rdb h (q.back (S1.trans S2))))
      | false => exact .inr (.inr (semE hsp a _ S E e1 fun G1 H1 v1 S1 r1 => semE hsp i _ S1.gh (E.mono S1) e2 fun G2 H2 v2 S2 r2 =>
          ixD_dictN hy S2.gh (hd ▸ r1.1.rdb.mono S2) r2.1.rdb h (q.back (S1.trans S2))))
    · exact .inl (semE hsp a _ S E e1 fun G1 H1 v1 S1 r1 => semE hsp i _ S1.gh (E.mono S1) e2 fun G2 H2 v2 S2 r2 =>
        ixD_sem hd S2.gh (r1.1.rdb.mono S2) r2.1.rdb h (q.back (S1.trans S2)))
  | .sl a lo hi, σ, H, G, ρ, s, Q, S, E, h, q => by
    simp only [evE] at h
    obtain ⟨x, e1, h⟩ := bind_ok h
    obtain ⟨l, e2, h⟩ := bind_ok h
    obtain ⟨u, e3, h⟩ := bind_ok h
    exact semE hsp a _ S E e1 fun G1 H1 v1 S1 r1 => semO hsp lo _ S1.gh (E.mono S1) e2 fun G2 H2 S2 => semO hsp hi _ S2.gh ((E.mono S1).mono S2) e3 fun G3 H3 S3 =>
      slD_sem S3.gh ((r1.1.rdb.mono S2).mono S3) h (q.back ((S1.trans S2).trans S3))
  | .call f es, σ, H, G, ρ, s, Q, S, E, h, q => by
    simp only [evE] at h
    obtain ⟨ss, e1, h⟩ := bind_ok h
    refine semA hsp es _ S E e1 fun G1 H1 vs S1 r1 => ?_
    rw [List.append_nil]
    exact hsp f vs H1 G1 ss s Q S1.gh r1 h (q.back S1)
  | .b1 b a, σ, H, G, ρ, s, Q, S, E, h, q => by
    simp only [evE] at h
    obtain ⟨x, e1, h⟩ := bind_ok h
    exact semE hsp a _ S E e1 fun G1 H1 v1 S1 r1 => b1D_sem S1.gh r1.1.rdb h (q.back S1)
  | .isx a c, σ, H, G, ρ, s, Q, S, E, h, q => by
    simp only [evE] at h
    obtain ⟨x, e1, h⟩ := bind_ok h
    intro kn
    refine semE hsp a _ S E e1 fun G1 H1 v1 S1 r1 => ?_
    unfold isxS at h
    split at h
    · rename_i z
      split at h
      · rename_i hc
        cases h
        have rr : Rp K G1 v1 (.dict [(.bool true, .str z)]) := r1.1
        cases rr with
        | dct _ h2 =>
          have := h2.plain
          cases this
        | xc ho hs => exact ⟨_, _, clsW K c, clsV K c, xsub z c, rfl, S1.gh _ _ hs, ho.ex, clsW_one, ho.is c hc kn, (q.back S1).bool S1.gh⟩
      · cases h
    · cases h
  | .isi a t, σ, H, G, ρ, s, Q, S, E, h, q => by
    simp only [evE] at h
    obtain ⟨x, e1, h⟩ := bind_ok h
    split at h
    · rename_i hc
      cases pure_ok h
      refine semE hsp a _ S E e1 fun G1 H1 v1 S1 r1 => ?_
      have pl : nmkD x.d = true := hc
      exact isi_sem S1.gh pl r1.1.rdb ((q.back S1).bool S1.gh)
    · cases h
  | .lc elt tg it ifs vs, σ, H, G, ρ, s, Q, S, E, h, q => by
    simp only [evE] at h
    obtain ⟨xs, e1, h⟩ := bind_ok h
    obtain ⟨ys, e2, h⟩ := bind_ok h
    split at h
    · rename_i hl
      obtain ⟨hl, htg⟩ := and2 hl
      cases pure_ok h
      refine semI hsp it _ S E e1 fun J G1 H1 S1 hJ => ?_
      refine lc_sem S1.gh hJ (lenOk_ok hl) e2 (fun d v y G2 H2 Nx D S2 rv hf hn hs => ?_) (q.back S1)
      obtain ⟨ρ', f1, hf⟩ := bind_ok hf
      obtain ⟨c, f2, hf⟩ := bind_ok hf
      refine bindF_sem (tvs := vs) S2.gh (((E.mono S1).mono S2).wipe vs) rv f1 fun σ2 E2 sb => ⟨wipe_sameBut (sb htg), ?_⟩
      refine semC hsp ifs _ S2.gh E2 f2 fun G3 H3 S3 => ?_
      cases c with
      | true =>
        rw [if_pos rfl] at hf ⊢
        obtain ⟨z, f3, hf⟩ := bind_ok hf
        obtain ⟨d', f4, hf⟩ := bind_ok hf
        cases pure_ok hf
        refine semE hsp elt _ S3.gh (E2.mono S3) f3 fun G4 H4 w S4 r4 => ?_
        obtain ⟨G5, S5, S6, r5, sg⟩ := freeze S4 r4 f4
        exact hs d' rfl G5 H4 w (S3.trans S5) r5
      | false =>
        rw [if_neg Bool.false_ne_true] at hf ⊢
        cases pure_ok hf
        exact hn rfl G3 H3 S3
    · cases h
  | .lrg it, σ, H, G, ρ, s, Q, S, E, h, q => by
    simp only [evE] at h
    obtain ⟨xs, e1, h⟩ := bind_ok h
    split at h
    · rename_i hl
      obtain ⟨hl, hr⟩ := and2 hl
      cases pure_ok h
      have hl' := lenOk_ok hl
      rw [sizeLine_eq] at hl'
      cases it with
      | rg1 a =>
        simp only [evI] at e1
        obtain ⟨x, f1, e1⟩ := bind_ok e1
        refine semE hsp a _ S E f1 fun G1 H1 v1 S1 r1 => ?_
        split at e1
        · rename_i j hj
          have r := r1.1.rdb
          rw [hj] at r
          obtain ⟨a1, a2, a3, a4, rfl⟩ := rng_ok e1
          rw [List.length_map, List.length_range] at hl'
          exact ⟨j, r.int, ⟨a1, a2, a3, a4, by omega⟩, fun p np => (q.back S1).list S1.gh (RpA.rng 0 _) np⟩
        · cases e1
      | rg2 a b =>
        simp only [evI] at e1
        obtain ⟨x, f1, e1⟩ := bind_ok e1
        obtain ⟨y, f2, e1⟩ := bind_ok e1
        refine semE hsp a _ S E f1 fun G1 H1 v1 S1 r1 => semE hsp b _ S1.gh (E.mono S1) f2 fun G2 H2 v2 S2 r2 => ?_
        split at e1
        · rename_i i j hi hj
          have ra := r1.1.rdb
          rw [hi] at ra
          have rb := r2.1.rdb
          rw [hj] at rb
          obtain ⟨a1, a2, a3, a4, rfl⟩ := rng_ok e1
          rw [List.length_map, List.length_range] at hl'
          exact ⟨i, j, ra.int, rb.int, ⟨a1, a2, a3, a4, by omega⟩, fun p np => (q.back (S1.trans S2)).list S2.gh (RpA.rng i _) np⟩
        · cases e1
      | _ => cases hr
    · cases h
  | .glb y n, σ, H, G, ρ, s, Q, S, E, h, q => by
    cases h
    exact q.int S
  | .mm mx a b, σ, H, G, ρ, s, Q, S, E, h, q => by
    simp only [evE] at h
    obtain ⟨x, e1, h⟩ := bind_ok h
    obtain ⟨y, e2, h⟩ := bind_ok h
    exact semE hsp a _ S E e1 fun G1 H1 v1 S1 r1 => semE hsp b _ S1.gh (E.mono S1) e2 fun G2 H2 v2 S2 r2 =>
      mmD_sem S2.gh (r1.1.rdb.mono S2) r2.1.rdb h (q.back (S1.trans S2))
  | .rvl a, σ, H, G, ρ, s, Q, S, E, h, q => by
    simp only [evE] at h
    obtain ⟨x, e1, h⟩ := bind_ok h
    exact semE hsp a _ S E e1 fun G1 H1 v1 S1 r1 => rvD_sem S1.gh r1.1.rdb h (q.back S1)
  | .nev, σ, H, G, ρ, s, Q, S, E, h, q => by
    cases h
  | .dnw, σ, H, G, ρ, s, Q, S, E, h, q => by
    cases h
    exact fun p np => q G _ _ (.new S np) (.newD S np .nil)
  | .dsp1 k v, σ, H, G, ρ, s, Q, S, E, h, q => by
    simp only [evE] at h
    obtain ⟨x, e1, h⟩ := bind_ok h
    obtain ⟨y, e2, h⟩ := bind_ok h
    obtain ⟨d, e3, h⟩ := bind_ok h
    split at h
    · rename_i hk
      cases pure_ok h
      intro p np
      have S0 : Step G H G (upd H p (.dK [])) := .new S np
      have gp : G p = none := S.free np
      refine semE hsp k _ S0.gh (E.mono S0) e1 fun G1 H1 v1 S1 r1 => semE hsp v _ S1.gh ((E.mono S0).mono S1) e2 fun G2 H2 v2 S2 r2 => ?_
      obtain ⟨G3, S3, S4, r3, sg⟩ := freeze S2 r2 e3
      have hp1 := S1.hh _ _ (upd_same (H := H) (a := p) (o := .dK []))
      have hp2 := S3.hh _ _ hp1
      have g1 := S1.fr _ _ (upd_same (H := H) (a := p) (o := .dK [])) gp
      have g3 := S3.fr _ _ hp1 g1
      obtain ⟨k', ek⟩ := key_of hk
      have rk := r1.1.rdb
      rw [ek] at rk
      have ev := rk.key
      subst ev
      refine ⟨hp2, [(k', v2)], rfl, by simp, ?_⟩
      have SS := (S0.trans S1).trans S3
      refine q G3 _ _ (SS.chg np g3) ⟨⟨p, _, rfl, g3, upd_same, ?_⟩, fun _ => ⟨p, rfl, np⟩⟩
      rw [ek]
      exact .dct (.cons r3 .nil)
    · cases h
  | .sst a, σ, H, G, ρ, s, Q, S, E, h, q => by
    simp only [evE] at h
    obtain ⟨x, e1, h⟩ := bind_ok h
    exact semE hsp a _ S E e1 fun G1 H1 v1 S1 r1 => sst_sem S1.gh r1.1.rdb h (q.back S1)
  | .pk2 a b c, σ, H, G, ρ, s, Q, S, E, h, q => by
    simp only [evE] at h
    obtain ⟨x, e1, h⟩ := bind_ok h
    obtain ⟨dx, e2, h⟩ := bind_ok h
    obtain ⟨y, e3, h⟩ := bind_ok h
    obtain ⟨dy, e4, h⟩ := bind_ok h
    obtain ⟨z, e5, h⟩ := bind_ok h
    obtain ⟨k, e6, h⟩ := bind_ok h
    cases pure_ok h
    refine semE hsp a _ S E e1 fun G1 H1 v1 S1 r1 => ?_
    obtain ⟨G2, S2, _, r2, _⟩ := freeze S1 r1 e2
    refine semE hsp b _ S2.gh (E.mono S2) e3 fun G3 H3 v3 S3 r3 => ?_
    obtain ⟨G4, S4, _, r4, _⟩ := freeze S3 r3 e4
    refine ⟨by show 2 ≤ sizeLine; decide, fun p hp => ?_⟩
    have S5 := Step.new (o := .lst [v1, v3]) S4.gh hp
    have SS := (S2.trans S4).trans S5
    refine semE hsp c _ S5.gh (E.mono SS) e5 fun G6 H6 v6 S6 r6 => ?_
    have rb := r6.1.rdb
    rw [asB_ok e6] at rb
    have eb := rb.bool
    subst eb
    refine .inr ⟨k, rfl, ?_⟩
    have S7 := SS.trans S6
    have t6 : H6 p = some (.lst [v1, v3]) := S6.hh _ _ upd_same
    have n6 : G6 p = none := S6.fr _ _ upd_same (S4.gh.free hp)
    have rr : RpA K G6 [v1, v3] [dx, dy] := .cons (Rp.mono ((S4.trans S5).trans S6).gg _ _ r2) (.cons (Rp.mono (S5.trans S6).gg _ _ r4) .nil)
    have rx : Rdb K G6 H6 (.ref p) (.list [dx, dy]) := .inr ⟨p, _, rfl, n6, t6, .base (.lst rr)⟩
    have ry : Rdb K G6 H6 (.int (if k then 1 else 0)) (.int (if k then 1 else 0)) := .inl (.int _)
    have hx : ixD (.list [dx, dy]) (.int (if k then 1 else 0)) = .ok ⟨.f, if k then dy else dx⟩ := by cases k <;> rfl
    exact ixD_sem (fun ⟨_, e⟩ => nomatch e) S6.gh rx ry hx (Nxt.back S7 q)
  | .lns a, σ, H, G, ρ, s, Q, S, E, h, q => by
    simp only [evE] at h
    obtain ⟨x, e1, h⟩ := bind_ok h
    exact semE hsp a _ S E e1 fun G1 H1 v1 S1 r1 => lns_sem S1.gh r1.1.rdb h (q.back S1)
  | .gk y d, σ, H, G, ρ, s, Q, S, E, h, q => by
    cases h
    exact fun v hv => q G H v (.refl S) (.f (hv G))
  | .gdx y kvs i, σ, H, G, ρ, s, Q, S, E, h, q => by
    simp only [evE] at h
    obtain ⟨x, e1, h⟩ := bind_ok h
    exact semE hsp i _ S E e1 fun G1 H1 v1 S1 r1 => gdx_sem S1.gh r1.1.rdb h (q.back S1)
  | .dsp ps, σ, H, G, ρ, s, Q, S, E, h, q => by
    simp only [evE] at h
    obtain ⟨kvs, e1, h⟩ := bind_ok h
    split at h
    · rename_i hl
      cases pure_ok h
      intro p np
      have S0 : Step G H G (upd H p (.dK [])) := .new S np
      have gp : G p = none := S.free np
      refine semP hsp ps _ S0.gh (E.mono S0) e1 fun G1 H1 ks S1 r1 => ?_
      have hp1 := S1.hh _ _ (upd_same (H := H) (a := p) (o := .dK []))
      have g1 := S1.fr _ _ (upd_same (H := H) (a := p) (o := .dK [])) gp
      refine ⟨hp1, ks, rfl, by rw [r1.length]; exact of_decide_eq_true hl, ?_⟩
      refine q G1 _ _ ((S0.trans S1).chg np g1) ⟨⟨p, _, rfl, g1, upd_same, ?_⟩, fun _ => ⟨p, rfl, np⟩⟩
      exact .dct (RpK.merge r1 .nil)
    · cases h
theorem semP (hsp : Hsp K sp cl) : ∀ (ps : Ps) {σ : L2.St} {H G : Hp} {ρ : Rho} {kvs : List (D × D)} (Q : List (V × V) → Hp → Prop), Same G H → EnvR K G H σ ρ → evP cl ps ρ = .ok kvs →
    (∀ G' H' (ks : List (Key × V)), Step G H G' H' → RpK K G' ks kvs → Q (ks.map fun kv => (kV kv.1, kv.2)) H') → tPairs (rdP K sp ps) σ H Q
  | .nil, σ, H, G, ρ, kvs, Q, S, E, h, q => by
    cases h
    exact q G H [] (.refl S) .nil
  | .cons k v r, σ, H, G, ρ, kvs, Q, S, E, h, q => by
    simp only [evP] at h
    obtain ⟨x, e1, h⟩ := bind_ok h
    obtain ⟨y, e2, h⟩ := bind_ok h
    obtain ⟨d, e3, h⟩ := bind_ok h
    obtain ⟨ds, e4, h⟩ := bind_ok h
    split at h
    · rename_i hk
      cases pure_ok h
      refine semE hsp k _ S E e1 fun G1 H1 v1 S1 r1 => semE hsp v _ S1.gh (E.mono S1) e2 fun G2 H2 v2 S2 r2 => ?_
      obtain ⟨G3, S3, S4, r3, sg⟩ := freeze S2 r2 e3
      obtain ⟨k', ek⟩ := key_of hk
      have rk := r1.1.rdb
      rw [ek] at rk
      have ev := rk.key
      subst ev
      refine semP hsp r _ S3.gh ((E.mono S1).mono S3) e4 fun G4 H4 ks S5 r5 => ?_
      refine q G4 H4 ((k', v2) :: ks) ((S1.trans S3).trans S5) ?_
      rw [ek]
      exact .cons (Rp.mono S5.gg _ _ r3) r5
    · cases h
theorem semF (hsp : Hsp K sp cl) : ∀ (es : Es) {σ : L2.St} {H G : Hp} {ρ : Rho} {ds : List D} (Q : List V → Hp → Prop), Same G H → EnvR K G H σ ρ → evF cl es ρ = .ok ds →
    (∀ G' H' vs, Step G H G' H' → RpA K G' vs ds → Q vs H') → rdA K sp es σ H Q
  | .nil, σ, H, G, ρ, ds, Q, S, E, h, q => by
    cases h
    exact q G H [] (.refl S) .nil
  | .cons e es, σ, H, G, ρ, ds, Q, S, E, h, q => by
    simp only [evF] at h
    obtain ⟨x, e1, h⟩ := bind_ok h
    obtain ⟨d, e2, h⟩ := bind_ok h
    obtain ⟨r, e3, h⟩ := bind_ok h
    cases pure_ok h
    refine semE hsp e _ S E e1 fun G1 H1 v S1 r1 => ?_
    obtain ⟨G2, S2, S3, r2, sg⟩ := freeze S1 r1 e2
    exact semF hsp es _ S2.gh (E.mono S2) e3 fun G4 H4 vs S4 r4 => q G4 H4 (v :: vs) (S2.trans S4) (.cons (Rp.mono S4.gg _ _ r2) r4)
theorem semA (hsp : Hsp K sp cl) : ∀ (es : Es) {σ : L2.St} {H G : Hp} {ρ : Rho} {ss : List Sl} (Q : List V → Hp → Prop), Same G H → EnvR K G H σ ρ → evA cl es ρ = .ok ss →
    (∀ G' H' vs, Step G H G' H' → ArgsR K G' H' vs ss → Q vs H') → rdA K sp es σ H Q
  | .nil, σ, H, G, ρ, ss, Q, S, E, h, q => by
    cases h
    exact q G H [] (.refl S) .nil
  | .cons e es, σ, H, G, ρ, ss, Q, S, E, h, q => by
    simp only [evA] at h
    obtain ⟨x, e1, h⟩ := bind_ok h
    obtain ⟨r, e3, h⟩ := bind_ok h
    cases pure_ok h
    refine semE hsp e _ S E e1 fun G1 H1 v S1 r1 => ?_
    have key : ∃ G2, Step G H G2 H1 ∧ SlR K G2 H1 v (argS x) ∧ (argS x).m ≠ .o := by
      obtain ⟨m, d⟩ := x
      cases m with
      | f => exact ⟨G1, S1, r1.1, fun z => nomatch z⟩
      | p => exact ⟨G1, S1, r1.1, fun z => nomatch z⟩
      | o =>
        obtain ⟨G2, S2, _, r2, _⟩ := freeze (d := d) S1 r1 rfl
        exact ⟨G2, S2, r2, fun z => nomatch z⟩
    obtain ⟨G2, S2, r2, hm⟩ := key
    exact semA hsp es _ S2.gh (E.mono S2) e3 fun G4 H4 vs S4 r4 => q G4 H4 (v :: vs) (S2.trans S4) (.cons (r2.mono S4) hm r4)
theorem semO (hsp : Hsp K sp cl) : ∀ (e : Eo) {σ : L2.St} {H G : Hp} {ρ : Rho} {o : Option Int} (Q : Option Int → Hp → Prop), Same G H → EnvR K G H σ ρ → evO cl e ρ = .ok o →
    (∀ G' H', Step G H G' H' → Q o H') → rdO K sp e σ H Q
  | .none, σ, H, G, ρ, o, Q, S, E, h, q => by
    cases h
    exact q G H (.refl S)
  | .some e, σ, H, G, ρ, o, Q, S, E, h, q => by
    simp only [evO] at h
    obtain ⟨x, e1, h⟩ := bind_ok h
    refine semE hsp e _ S E e1 fun G1 H1 v S1 r1 => ?_
    split at h
    · rename_i i hi
      cases pure_ok h
      have r := r1.1.rdb
      rw [hi] at r
      exact ⟨i, r.int, q G1 H1 S1⟩
    · cases h
theorem semC (hsp : Hsp K sp cl) : ∀ (e : Eo) {σ : L2.St} {H G : Hp} {ρ : Rho} {b : Bool} (Q : Bool → Hp → Prop), Same G H → EnvR K G H σ ρ → evC cl e ρ = .ok b →
    (∀ G' H', Step G H G' H' → Q b H') → rdC K sp e σ H Q
  | .none, σ, H, G, ρ, b, Q, S, E, h, q => by
    cases h
    exact q G H (.refl S)
  | .some e, σ, H, G, ρ, b, Q, S, E, h, q => by
    simp only [evC] at h
    obtain ⟨x, e1, h⟩ := bind_ok h
    refine semE hsp e _ S E e1 fun G1 H1 v S1 r1 => ?_
    have r := r1.1.rdb
    rw [asB_ok h] at r
    exact ⟨b, r.bool, q G1 H1 S1⟩
theorem semI (hsp : Hsp K sp cl) : ∀ (i : Iu) {σ : L2.St} {H G : Hp} {ρ : Rho} {xs : List D} (R : It → Hp → Prop), Same G H → EnvR K G H σ ρ → evI cl i ρ = .ok xs →
    (∀ J G' H', Step G H G' H' → IterR K G' H' J xs → R J H') → rdI K sp i σ H R
  | .rg1 a, σ, H, G, ρ, xs, R, S, E, h, q => by
    simp only [evI] at h
    obtain ⟨x, e1, h⟩ := bind_ok h
    refine semE hsp a _ S E e1 fun G1 H1 v S1 r1 => ?_
    split at h
    · rename_i j hj
      have r := r1.1.rdb
      rw [hj] at r
      obtain ⟨a1, a2, a3, a4, rfl⟩ := rng_ok h
      refine ⟨j, by rw [r.int], a3, a4, q _ G1 H1 S1 ?_⟩
      rw [Int.sub_zero]
      exact iter_rng
    · cases h
  | .rg2 a b, σ, H, G, ρ, xs, R, S, E, h, q => by
    simp only [evI] at h
    obtain ⟨x, e1, h⟩ := bind_ok h
    obtain ⟨y, e2, h⟩ := bind_ok h
    refine semE hsp a _ S E e1 fun G1 H1 v1 S1 r1 => semE hsp b _ S1.gh (E.mono S1) e2 fun G2 H2 v2 S2 r2 => ?_
    split at h
    · rename_i i j hi hj
      have ra := r1.1.rdb
      rw [hi] at ra
      have rb := r2.1.rdb
      rw [hj] at rb
      obtain ⟨a1, a2, a3, a4, rfl⟩ := rng_ok h
      exact ⟨i, j, by rw [ra.int, rb.int], ⟨a1, a2, a3, a4⟩, q _ G2 H2 (S1.trans S2) iter_rng⟩
    · cases h
  | .seq e, σ, H, G, ρ, xs, R, S, E, h, q => by
    simp only [evI] at h
    obtain ⟨x, e1, h⟩ := bind_ok h
    unfold itemsD at h
    split at h
    · rename_i ds hd
      cases h
      refine .inl (semE hsp e _ S E e1 fun G1 H1 v1 S1 r1 => ?_)
      have r := r1.1.rdb
      rw [hd] at r
      obtain ⟨a, vs, rfl, ra, qa⟩ := r.list S1.gh
      exact ⟨a, rfl, ⟨vs, ra⟩, q _ G1 H1 S1 (iter_list ra qa)⟩
    · rename_i ds hd
      cases h
      refine .inr (semE hsp e _ S E e1 fun G1 H1 v1 S1 r1 => ?_)
      have r := r1.1.rdb
      rw [hd] at r
      obtain ⟨a, vs, rfl, ra, qa⟩ := r.tuple S1.gh
      exact ⟨a, rfl, ⟨vs, ra⟩, q _ G1 H1 S1 (iter_tup ra qa)⟩
    · cases h
  | .rg3 a b c, σ, H, G, ρ, xs, R, S, E, h, q => by
    simp only [evI] at h
    obtain ⟨x, e1, h⟩ := bind_ok h
    obtain ⟨y, e2, h⟩ := bind_ok h
    obtain ⟨z, e3, h⟩ := bind_ok h
    refine semE hsp a _ S E e1 fun G1 H1 v1 S1 r1 => semE hsp b _ S1.gh (E.mono S1) e2 fun G2 H2 v2 S2 r2 => semE hsp c _ S2.gh ((E.mono S1).mono S2) e3 fun G3 H3 v3 S3 r3 => ?_
    split at h
    · rename_i i j k hi hj hk
      have ra := r1.1.rdb
      rw [hi] at ra
      have rb := r2.1.rdb
      rw [hj] at rb
      have rc := r3.1.rdb
      rw [hk] at rc
      obtain ⟨g, rfl⟩ := rng3_ok h
      exact ⟨i, j, k, _, by rw [ra.int, rb.int, rc.int], g, q _ G3 H3 ((S1.trans S2).trans S3) iter_rngC⟩
    · cases h
  | .enm e, σ, H, G, ρ, xs, R, S, E, h, q => by
    simp only [evI] at h
    obtain ⟨x, e1, h⟩ := bind_ok h
    obtain ⟨ds, e2, h⟩ := bind_ok h
    cases pure_ok h
    unfold itemsD at e2
    split at e2
    · rename_i ds hd
      cases e2
      refine .inl (semE hsp e _ S E e1 fun G1 H1 v1 S1 r1 => ?_)
      have r := r1.1.rdb
      rw [hd] at r
      obtain ⟨a, vs, rfl, ra, qa⟩ := r.list S1.gh
      exact ⟨a, vs, rfl, ra, q _ G1 H1 S1 (iter_enum ra qa)⟩
    · rename_i ds hd
      cases e2
      refine .inr (semE hsp e _ S E e1 fun G1 H1 v1 S1 r1 => ?_)
      have r := r1.1.rdb
      rw [hd] at r
      obtain ⟨a, vs, rfl, ra, qa⟩ := r.tuple S1.gh
      exact ⟨a, vs, rfl, ra, q _ G1 H1 S1 (iter_enumT ra qa)⟩
    · cases e2
  | .zp a b, σ, H, G, ρ, xs, R, S, E, h, q => by
    simp only [evI] at h
    obtain ⟨x, e1, h⟩ := bind_ok h
    obtain ⟨y, e2, h⟩ := bind_ok h
    refine semE hsp a _ S E e1 fun G1 H1 v1 S1 r1 => semE hsp b _ S1.gh (E.mono S1) e2 fun G2 H2 v2 S2 r2 => ?_
    unfold pairD at h
    split at h
    · rename_i xs' ys' hx hy
      cases h
      have ra := r1.1.rdb.mono S2
      rw [hx] at ra
      have rb := r2.1.rdb
      rw [hy] at rb
      obtain ⟨a1, vs, rfl, ra, qa⟩ := ra.list S2.gh
      obtain ⟨b1, ws, rfl, rb, qb⟩ := rb.list S2.gh
      exact ⟨a1, b1, vs, ws, rfl, .inl ⟨ra, rb, q _ G2 H2 (S1.trans S2) (iter_zip ra rb qa qb)⟩⟩
    · rename_i xs' ys' hx hy
      cases h
      have ra := r1.1.rdb.mono S2
      rw [hx] at ra
      have rb := r2.1.rdb
      rw [hy] at rb
      obtain ⟨a1, vs, rfl, ra, qa⟩ := ra.tuple S2.gh
      obtain ⟨b1, ws, rfl, rb, qb⟩ := rb.tuple S2.gh
      exact ⟨a1, b1, vs, ws, rfl, .inr ⟨ra, rb, q _ G2 H2 (S1.trans S2) (iter_zipT ra rb qa qb)⟩⟩
    · cases h
  | .rev e, σ, H, G, ρ, xs, R, S, E, h, q => by
    simp only [evI] at h
    obtain ⟨x, e1, h⟩ := bind_ok h
    obtain ⟨ds, e2, h⟩ := bind_ok h
    cases pure_ok h
    refine semE hsp e _ S E e1 fun G1 H1 v1 S1 r1 => ?_
    have r := r1.1.rdb
    unfold itemsD at e2
    split at e2
    · rename_i ds hd
      cases e2
      rw [hd] at r
      obtain ⟨a, vs, rfl, ra, qa⟩ := r.list S1.gh
      exact ⟨a, vs, rfl, .inl ⟨ra, q _ G1 H1 S1 (iter_rev ra qa)⟩⟩
    · rename_i ds hd
      cases e2
      rw [hd] at r
      obtain ⟨a, vs, rfl, ra, qa⟩ := r.tuple S1.gh
      exact ⟨a, vs, rfl, .inr ⟨ra, q _ G1 H1 S1 (iter_revT ra qa)⟩⟩
    · cases e2
  | .rvr a, σ, H, G, ρ, xs, R, S, E, h, q => by
    simp only [evI] at h
    obtain ⟨x, e1, h⟩ := bind_ok h
    refine semE hsp a _ S E e1 fun G1 H1 v S1 r1 => ?_
    split at h
    · rename_i j hj
      obtain ⟨ys, e2, h⟩ := bind_ok h
      cases pure_ok h
      have r := r1.1.rdb
      rw [hj] at r
      obtain ⟨a1, a2, a3, a4, rfl⟩ := rng_ok e2
      refine ⟨j, r.int, by decide, by decide, a3, a4, q _ G1 H1 S1 ?_⟩
      exact iter_rvr
    · cases h
end
end
end GK

namespace GK
open PySem PySem.Spec PyProof.Rows L2

/-! ### readings of statements -/
def rInsert : V → List V → Hp → VK → Prop := fun x vs H Q => ∃ (l : Addr) (xs : List V) (i : Int) (y : V), x = .ref l ∧ vs = [.int i, y] ∧ H l = some (.lst xs) ∧ xs.length < sizeLine ∧ 0 ≤ i ∧ i < 2 ^ 63 ∧
    Q .non (upd H l (.lst (xs.take i.toNat ++ [y] ++ xs.drop i.toNat)))
def ipOp (op : Operator) : TIp := match op with
  | .Add => ipI fun i j => i + j
  | .Sub => ipI fun i j => i - j
  | _ => fun _ _ _ _ => False
section
variable (K : PySem.W.Frag) (sp : Str → Sp)
/-- what is done with what a call hands back -/
def ckT (k : Ck) (te : TE) : TS := match k with
  | .asg t => tAsg te (gTg K t)
  | .ret => tRet te
  | .exp => tDrop te
/-- readings of parts that change something -/
def rdEf (W : WX) : Ef → TE
  | .call f es => tCallS (sp f) (WE W) (rdA K sp es)
  | .pop x => tBM0 K "list" rPop (tVar x)
  | .popA x i => tBM K "list" rPopAt (tVar x) (tCons (rdE K sp i) tNil)
  | .popK x k => tDPop1 (tVar x) (rdE K sp k)
def rdPo (t : TE) : Po → TE
  | .hd => t
  | .ixn p n => tOp (rIx2 K) (rdPo t p) (tC (.int (n : Int)))
  | .isN p => tOp (fun x y H Q => y = .non ∧ Q (.bl (decide (x = .non))) H) (rdPo t p) (tC .non)
  | .eqS p z => tOp (rCmp K .Eq) (rdPo t p) (tC (.str z))
  | .lst1 p => tLst (tCons (rdPo t p) tNil)
  | .opI op a p => tOp (rOp K op) (tC (.int (a : Int))) (rdPo t p)
  | .ixv y p => tDGet (tVar y) (rdPo t p)
/-- the classes that clauses name -/
def hsNames : Hs → List Str
  | .nil => []
  | .cons cs _ _ r => cs ++ hsNames r
mutual
def rdS : S → WX → TS
  | .ef k e p, W => match k with
    | .asg t => tAsg (rdPo K (rdEf K sp W e) p) (gTg K t)
    | .ret => tRet (rdPo K (rdEf K sp W e) p)
    | .exp => tDrop (rdPo K (rdEf K sp W e) p)
    | .app y => tDrop (tBM K "list" rAppend (tVar y) (tCons (rdPo K (rdEf K sp W e) p) tNil))
    | .set y i => tAsg (rdPo K (rdEf K sp W e) p) (gSub (tVar y) (rdE K sp i) (rSet2 K))
  | .eft e p a b, W => tIfS (tB (rdPo K (rdEf K sp W e) p)) (rdSs a W) (rdSs b W)
  | .fst t x y c, W => tFor (rdI K sp (.seq (.var x))) (gName t) (tSeq (tAsg (rdE K sp (.bl c)) (gSub (tVar y) (rdE K sp (.var t)) (rSet2 K))) tNext)
  | .ins x i e, _ => tDrop (tBM K "list" rInsert (tVar x) (tCons (rdE K sp i) (tCons (rdE K sp e) tNil)))
  | .asg t e, _ => tAsg (rdE K sp e) (gTg K t)
  | .setix x i e, _ => tAsg (rdE K sp e) (gSub (tVar x) (rdE K sp i) (rSet2 K))
  | .aug x op e, _ => tAug x (rdE K sp e) (ipOp op)
  | .app x e, _ => tDrop (tBM K "list" rAppend (tVar x) (tCons (rdE K sp e) tNil))
  | .ext x e, _ => tDrop (tBM K "list" rExtend (tVar x) (tCons (rdE K sp e) tNil))
  | .exp e, _ => tDrop (rdE K sp e)
  | .ret e, _ => tRet (rdE K sp e)
  | .retN, _ => tRetN
  | .ite c a b, W => tIfS (tB (rdE K sp c)) (rdSs a W) (rdSs b W)
  | .for_ t it b, W => tFor (rdI K sp it) (gTg K t) (rdSs b W)
  | .whl c b, W => tWhile (tB (rdE K sp c)) (rdSs b W)
  | .brk, _ => tBreak
  | .cont, _ => tCont
  | .pass, _ => tNext
  | .nvr, _ => tNever
  | .ndn x, _ => tAsg tDNewN (gName x)
  | .rse c, W => fun _ σ H => XcOk K c → W (.ref (xga K c)) none σ H
  | .cst k f es, W => ckT K k (tCallS (sp f) (WE W) (rdA K sp es))
  | .tr b hs, W => fun D σ H => (∀ d, d ∈ hsNames hs → XKn K d) → rdSs b (wX K W D (rdHs hs)) D σ H
def rdSs : Ss → WX → TS
  | .nil, _ => tNext
  | .cons s ss, W => tSeq (rdS s W) (rdSs ss W)
  | .frz _ ss, W => rdSs ss W
def rdHs : Hs → List HdX
  | .nil => []
  | .cons cs nm b r => ⟨cs.map (clsV K), nm, rdSs b (fun _ _ _ _ => False)⟩ :: rdHs r
end
end
theorem ip_all {X : Cx} : ∀ op, PIp X op (ipOp op)
  | .Add => ip_add
  | .Sub => ip_sub
  | .Mult | .FloorDiv | .Mod | .Pow | .LShift | .RShift | .BitAnd | .BitOr | .BitXor | .MatMult | .Div => fun _ _ _ _ _ _ _ _ _ _ _ _ h => h.elim

/-! ### views of statements -/
def vAsg : Stmt → Option (Expr × Expr × Pos)
  | .Assign [t] e p => some (t, e, p)
  | _ => none
theorem vAsg_eq {s : Stmt} {t e : Expr} {p : Pos} (h : vAsg s = some (t, e, p)) : s = .Assign [t] e p := by
  unfold vAsg at h
  split at h <;> simp_all
def vAug : Stmt → Option (Str × Operator × Expr)
  | .AugAssign (.Name x _) op e _ => some (x, op, e)
  | _ => none
theorem vAug_eq {s : Stmt} {x : Str} {op : Operator} {e : Expr} (h : vAug s = some (x, op, e)) : ∃ p q, s = .AugAssign (.Name x p) op e q := by
  unfold vAug at h
  split at h <;> simp_all
def vExp : Stmt → Option Expr
  | .Expr e _ => some e
  | _ => none
theorem vExp_eq {s : Stmt} {e : Expr} (h : vExp s = some e) : ∃ p, s = .Expr e p := by
  unfold vExp at h
  split at h <;> simp_all
def vRet : Stmt → Option (Option Expr)
  | .Return e _ => some e
  | _ => none
theorem vRet_eq {s : Stmt} {e : Option Expr} (h : vRet s = some e) : ∃ p, s = .Return e p := by
  unfold vRet at h
  split at h <;> simp_all
def vIfS : Stmt → Option (Expr × List Stmt × List Stmt)
  | .If c a b _ => some (c, a, b)
  | _ => none
theorem vIfS_eq {s : Stmt} {c : Expr} {a b : List Stmt} (h : vIfS s = some (c, a, b)) : ∃ p, s = .If c a b p := by
  unfold vIfS at h
  split at h <;> simp_all
def vFor : Stmt → Option (Expr × Expr × List Stmt)
  | .For t i b [] _ => some (t, i, b)
  | _ => none
theorem vFor_eq {s : Stmt} {t i : Expr} {b : List Stmt} (h : vFor s = some (t, i, b)) : ∃ p, s = .For t i b [] p := by
  unfold vFor at h
  split at h <;> simp_all
def vWhl : Stmt → Option (Expr × List Stmt)
  | .While c b [] _ => some (c, b)
  | _ => none
theorem vWhl_eq {s : Stmt} {c : Expr} {b : List Stmt} (h : vWhl s = some (c, b)) : ∃ p, s = .While c b [] p := by
  unfold vWhl at h
  split at h <;> simp_all
def vRse : Stmt → Option Str
  | .Raise (some (.Call (.Name x _) [.Constant (.str _) _ _] [] _)) none _ => some x
  | _ => none
theorem vRse_eq {s : Stmt} {x : Str} (h : vRse s = some x) : ∃ p m j q r t, s = .Raise (some (.Call (.Name x p) [.Constant (.str m) j q] [] r)) none t := by
  unfold vRse at h
  split at h
  · cases h
    exact ⟨_, _, _, _, _, _, rfl⟩
  · cases h
def vTry : Stmt → Option (List Stmt × List ExceptHandler)
  | .Try b (h :: hs) [] [] _ => some (b, h :: hs)
  | _ => none
theorem vTry_eq {s : Stmt} {b : List Stmt} {hs : List ExceptHandler} (h : vTry s = some (b, hs)) : ∃ h₀ r p, hs = h₀ :: r ∧ s = .Try b (h₀ :: r) [] [] p := by
  unfold vTry at h
  split at h
  · cases h
    exact ⟨_, _, _, rfl, rfl⟩
  · cases h
/-- a clause: its test, its name, its suite -/
def vHd : ExceptHandler → Option (Expr × Option Str × Stmt × List Stmt)
  | .ExceptHandler (some te) n (b :: bs) _ => some (te, n, b, bs)
  | _ => none
theorem vHd_eq {h : ExceptHandler} {te : Expr} {n : Option Str} {b : Stmt} {bs : List Stmt} (e : vHd h = some (te, n, b, bs)) : ∃ p, h = .ExceptHandler (some te) n (b :: bs) p := by
  unfold vHd at e
  split at e
  · cases e
    exact ⟨_, rfl⟩
  · cases e
def isBrk : Stmt → Bool
  | .Break _ => true
  | _ => false
def isCont : Stmt → Bool
  | .Continue _ => true
  | _ => false
def isPass : Stmt → Bool
  | .Pass _ => true
  | _ => false
def isComp : Expr → Bool
  | .ListComp .. => true
  | .SetComp .. => true
  | .DictComp .. => true
  | _ => false
def isTupD : Expr → Bool
  | .Tuple .. => true
  | .List .. => true
  | _ => false
theorem no_swap {e : Expr} {t : Option Expr} {l : Nat} {env : Env} (h : isComp e = false) : swapsWith e t l env = pure false := by
  cases e <;> first | rfl | simp [isComp] at h
theorem no_sole {e t : Expr} {l : Nat} {env : Env} (h : isComp e = false) : swapsWithSole [t] e l env = pure false := (show swapsWithSole [t] e l env = swapsWith e (some t) l env from rfl).trans (no_swap h)
theorem no_stores {t e : Expr} {env : Env} (h : isTupD e = false) : swappedStores [t] e env = pure none := by
  cases e <;> first | (cases t <;> rfl) | simp [isTupD] at h
/-- x.m(e) -/
def vMeth : Expr → Option (Str × Str × Expr)
  | .Call (.Attribute (.Name x _) m ap) [e] [] cp => if ap.endLine == cp.line then some (x, m, e) else none
  | _ => none
theorem vMeth_eq {s e : Expr} {x m : Str} (h : vMeth s = some (x, m, e)) : ∃ p ap cp, s = .Call (.Attribute (.Name x p) m ap) [e] [] cp ∧ (ap.endLine == cp.line) = true := by
  unfold vMeth at h
  split at h
  · split at h
    · rename_i hl
      cases h
      exact ⟨_, _, _, rfl, hl⟩
    · cases h
  · cases h

/-- x.m() -/
def vM0 : Expr → Option (Str × Str)
  | .Call (.Attribute (.Name x _) m ap) [] [] cp => if ap.endLine == cp.line then some (x, m) else none
  | _ => none
theorem vM0_eq {s : Expr} {x m : Str} (h : vM0 s = some (x, m)) : ∃ p ap cp, s = .Call (.Attribute (.Name x p) m ap) [] [] cp ∧ (ap.endLine == cp.line) = true := by
  unfold vM0 at h
  split at h
  · split at h
    · rename_i hl
      cases h
      exact ⟨_, _, _, rfl, hl⟩
    · cases h
  · cases h
/-- x.m(e, f) -/
def vM2 : Expr → Option (Str × Str × Expr × Expr)
  | .Call (.Attribute (.Name x _) m ap) [e, f] [] cp => if ap.endLine == cp.line then some (x, m, e, f) else none
  | _ => none
theorem vM2_eq {s e f : Expr} {x m : Str} (h : vM2 s = some (x, m, e, f)) : ∃ p ap cp, s = .Call (.Attribute (.Name x p) m ap) [e, f] [] cp ∧ (ap.endLine == cp.line) = true := by
  unfold vM2 at h
  split at h
  · split at h
    · rename_i hl
      cases h
      exact ⟨_, _, _, rfl, hl⟩
    · cases h
  · cases h

section
variable (N : List Str) (fs : Fs)
def okV (sc : Scope) (i : Nat) (x : Str) : Bool := decide (N[i]? = some x) && (visB sc x && nDbg x)
/-! what a clause's suite may say -/
mutual
def qE : E → Bool
  | .var _ => true
  | .bl _ => true
  | .non => true
  | .str _ => true
  | .int _ => true
  | .isx a _ => qE a
  | .and a b => qE a && qE b
  | .not a => qE a
  | .tup es => qEs es
  | .pk2 a b c => qE a && (qE b && qE c)
  | _ => false
def qEs : Es → Bool
  | .nil => true
  | .cons e es => qE e && qEs es
end
def okQs (sc : Scope) : Ss → List Stmt → Bool
  | .nil, xs => xs.isEmpty
  | .cons (.asg (.nm i) e) ss, xs => match xs with
    | x :: r => (match vAsg x with
      | some (tg, v, _) => okTg N sc (.nm i) tg && (okE N fs sc sc e v && (qE e && (!isComp v && okQs sc ss r)))
      | none => false)
    | [] => false
  | .cons (.ret e) ss, xs => match xs with
    | x :: r => (match vRet x with
      | some (some v) => okE N fs sc sc e v && (qE e && okQs sc ss r)
      | _ => false)
    | [] => false
  | _, _ => false
def okNs (sc : Scope) : List Str → List Expr → Bool
  | [], [] => true
  | c :: cs, x :: xs => decide (vName x = some c) && (glB sc c && (xnB fs c && okNs sc cs xs))
  | _, _ => false
/-- a clause's test -/
def okTe (sc : Scope) (cs : List Str) (te : Expr) : Bool := match vTup te with
  | some es => okNs fs sc cs es && decide (cs.length ≤ 100)
  | none => match cs with
    | [c] => decide (vName te = some c) && (glB sc c && xnB fs c)
    | _ => false
def okNm (sc : Scope) : Option Nat → Option Str → Bool
  | none, none => true
  | some i, some n => decide (N[i]? = some n) && decide (sc.names.lookup n = some .local)
  | _, _ => false
def okHs (sc : Scope) : Hs → List ExceptHandler → Bool
  | .nil, hs => hs.isEmpty
  | .cons cs nm b r, hs => match hs with
    | h :: hs => (match vHd h with
      | some (te, n, x, xs) => okTe fs sc cs te && (okNm N sc nm n && (okQs N fs sc b (x :: xs) && okHs sc r hs))
      | none => false)
    | [] => false
/-- a call of a def that may raise -/
def okCl (sc : Scope) (f : Str) (es : Es) (v : Expr) : Bool := match vCall v with
  | some (g, xs) => decide (g = f) && (fs.fs.contains f && (glB sc f && (nDbg f && (!xs.isEmpty && okA N fs sc sc es xs))))
  | none => false
def okEf (sc : Scope) : Ef → Expr → Bool
  | .call f es, v => okCl N fs sc f es v
  | .pop x, v => match vM0 v with
    | some (y, m) => decide (m = "pop") && okV N sc x y
    | none => false
  | .popA x i, v => match vMeth v with
    | some (y, m, e) => decide (m = "pop") && (okV N sc x y && (okE N fs sc sc i e && !isStar e))
    | none => false
  | .popK x i, v => match vMeth v with
    | some (y, m, e) => decide (m = "pop") && (okV N sc x y && (okE N fs sc sc i e && !isStar e))
    | none => false
def okPo (sc : Scope) (ef : Ef) : Po → Expr → Bool
  | .hd, v => okEf N fs sc ef v
  | .ixn p n, v => match vSub v with
    | some (o, j) => decide (vInt j = some (n : Int)) && okPo sc ef p o
    | none => false
  | .isN p, v => match vC1 v with
    | some (x, o, y) => decide (o = .Is) && (vNon y && okPo sc ef p x)
    | none => false
  | .eqS p z, v => match vC1 v with
    | some (x, o, y) => decide (o = .Eq) && (!behindInMarks .Eq y && (decide (vStr y = some z) && okPo sc ef p x))
    | none => false
  | .lst1 p, v => match vLst v with
    | some [x] => okPo sc ef p x
    | _ => false
  | .opI op a p, v => match vBin v with
    | some (x, o, y) => decide (o = op) && (decide (vInt x = some (a : Int)) && okPo sc ef p y)
    | none => false
  | .ixv i p, v => match vSub v with
    | some (o, j) => (match vName o with
      | some y => okV N sc i y && okPo sc ef p j
      | none => false)
    | none => false
mutual
def okS (sc : Scope) : S → Stmt → Bool
  | .ef k e p, s => match k with
    | .asg t => (match vAsg s with
      | some (tg, v, _) => okTg N sc t tg && (okPo N fs sc e p v && (!isComp v && (match t with
        | .nm _ => true
        | .tp _ => !isTupD v)))
      | none => false)
    | .ret => (match vRet s with
      | some (some v) => okPo N fs sc e p v
      | _ => false)
    | .exp => (match vExp s with
      | some v => okPo N fs sc e p v && !isComp v
      | none => false)
    | .app x => (match vExp s with
      | some c => (match vMeth c with
        | some (y, m, v) => decide (m = "append") && (okV N sc x y && okPo N fs sc e p v)
        | none => false)
      | none => false)
    | .set x i => (match vAsg s with
      | some (tg, v, _) => (match vSub tg with
        | some (o, j) => (match vName o with
          | some y => okV N sc x y && (okE N fs sc sc i j && (okPo N fs sc e p v && (!isComp v && !isTupD v)))
          | none => false)
        | none => false)
      | none => false)
  | .eft e p a b, s => match vIfS s with
    | some (z, x, y) => okPo N fs sc e p z && (okSs sc a x && okSs sc b y)
    | none => false
  | .fst t x y c, s => match vFor s with
    | some (tg, i, b) => (match vName tg, vName i, b with
      | some n, some m, [u] => (match vAsg u with
        | some (g, v, _) => (match vSub g with
          | some (o, j) => (match vName o, vName j, vBl v with
            | some p, some q, some k => decide (k = c) && (decide (N[t]? = some n) && (locB sc n && (okV N sc x m && (okV N sc y p && okV N sc t q))))
            | _, _, _ => false)
          | none => false)
        | none => false)
      | _, _, _ => false)
    | none => false
  | .ins x i e, s => match vExp s with
    | some c => (match vM2 c with
      | some (y, m, u, v) => decide (m = "insert") && (okV N sc x y && (okE N fs sc sc i u && (!isStar u && (okE N fs sc sc e v && !isStar v))))
      | none => false)
    | none => false
  | .asg t e, s => match vAsg s with
    | some (tg, v, _) => okTg N sc t tg && (okE N fs sc sc e v && (match t, e with
      | .nm _, .lc .. => true
      | .nm _, _ => !isComp v
      | .tp _, _ => !isComp v && !isTupD v))
    | none => false
  | .setix x i e, s => match vAsg s with
    | some (tg, v, _) => (match vSub tg with
      | some (o, j) => (match vName o with
        | some y => okV N sc x y && (okE N fs sc sc i j && (okE N fs sc sc e v && !isComp v))
        | none => false)
      | none => false)
    | none => false
  | .aug x op e, s => match vAug s with
    | some (y, o, v) => decide (o = op) && (decide (N[x]? = some y) && (locB sc y && okE N fs sc sc e v))
    | none => false
  | .app x e, s => match vExp s with
    | some c => (match vMeth c with
      | some (y, m, v) => decide (m = "append") && (okV N sc x y && (okE N fs sc sc e v && !isStar v))
      | none => false)
    | none => false
  | .ext x e, s => match vExp s with
    | some c => (match vMeth c with
      | some (y, m, v) => decide (m = "extend") && (okV N sc x y && (okE N fs sc sc e v && !isStar v))
      | none => false)
    | none => false
  | .exp e, s => match vExp s with
    | some v => okE N fs sc sc e v && !isComp v
    | none => false
  | .ret e, s => match vRet s with
    | some (some v) => okE N fs sc sc e v
    | _ => false
  | .retN, s => match vRet s with
    | some none => true
    | _ => false
  | .ite c a b, s => match vIfS s with
    | some (z, x, y) => okE N fs sc sc c z && (okSs sc a x && okSs sc b y)
    | none => false
  | .for_ t it b, s => match vFor s with
    | some (tg, i, y) => okTg N sc t tg && (okI N fs sc sc it i && ((!isPr it || isTupE tg) && okSs sc b y))
    | none => false
  | .whl c b, s => match vWhl s with
    | some (z, y) => okE N fs sc sc c z && okSs sc b y
    | none => false
  | .brk, s => isBrk s
  | .cont, s => isCont s
  | .pass, s => isPass s
  | .nvr, _ => true
  | .ndn x, s => match vAsg s with
    | some (tg, v, _) => okTg N sc (.nm x) tg && vDict0 v
    | none => false
  | .rse c, s => match vRse s with
    | some x => decide (x = c) && (glB sc c && (fs.xr.contains c && xall.contains c))
    | none => false
  | .cst k f es, s => match k with
    | .asg t => (match vAsg s with
      | some (tg, v, _) => okTg N sc t tg && okCl N fs sc f es v
      | none => false)
    | .ret => (match vRet s with
      | some (some v) => okCl N fs sc f es v
      | _ => false)
    | .exp => (match vExp s with
      | some v => okCl N fs sc f es v
      | none => false)
  | .tr b hs, s => match vTry s with
    | some (x, y) => okSs sc b x && okHs N fs sc hs y
    | none => false
def okSs (sc : Scope) : Ss → List Stmt → Bool
  | .nil, xs => xs.isEmpty
  | .cons s ss, xs => match xs with
    | x :: r => okS sc s x && okSs sc ss r
    | [] => false
  | .frz _ ss, xs => okSs sc ss xs
end
end

section
variable {X : Cx} {K : PySem.W.Frag} {sp : Str → Sp} {N : List Str} {fs : Fs} {sc : Scope}
theorem dV (C : Cxt X K sp N fs sc sc) {i : Nat} {x : Str} {p : Pos} (h : okV N sc i x = true) : PE X (.Name x p) (tVar i) := by
  obtain ⟨h1, h2⟩ := and2 h
  obtain ⟨h2, h3⟩ := and2 h2
  obtain ⟨d1, d2⟩ := nDbg_ok h3
  refine pe_var (C.n ▸ of_decide_eq_true h1) ?_ d1 d2
  rw [C.sc]
  exact visB_ok h2
end
theorem sw_val {elt : Expr} {gs : List Comprehension} {scope : Scope} {pos py : Pos} {y : Str} {l : Nat} {env : Env} : swapsWith (.ListComp elt gs scope pos) (some (.Name y py)) l env =
    pure (env.blockKind == .function && env.kindOf y == some .local && py.line == (Expr.ListComp elt gs scope pos).pos.line && !(scope.names.any fun (n, k) => n == y && (k == .local || k == .cell))) := rfl
/-! ### clauses -/
/-- what a suite's context says -/
structure Cq (X : Cx) (K : PySem.W.Frag) (N : List Str) (fs : Fs) (sc : Scope) : Prop where
  k : X.K = K
  n : X.N = N
  nd : N.Nodup
  se : X.env.scope = sc
  blt : ∀ b, b ∈ bnames → X.mg b = none
  xd : ∀ d, d ∈ fs.xd → X.mg d = some (.ref (xga K d)) ∧ ∃ a, PySem.W.nsIn K mainGlobals d = some (some (.ref a))
  tg : ∀ x, locB sc x = true → Loc X.env.scope x ∧ (X.fn x = true ∨ X.env.scope.names.lookup x = some .local)
theorem Cxt.cq {X : Cx} {K : PySem.W.Frag} {sp : Str → Sp} {N : List Str} {fs : Fs} {sc : Scope} (C : Cxt X K sp N fs sc sc) : Cq X K N fs sc := ⟨C.k, C.n, C.nd, C.sc, C.blt, C.xd, C.tg⟩
theorem Cq.suite {X : Cx} {K : PySem.W.Frag} {N : List Str} {fs : Fs} {sc : Scope} (C : Cq X K N fs sc) (a : Addr) (pn : List (Addr × Obj)) : Cq (X.suite a pn) K N fs sc := ⟨C.k, C.n, C.nd, C.se, C.blt, C.xd, C.tg⟩
theorem Cxt.tr {X : Cx} {K : PySem.W.Frag} {sp : Str → Sp} {N : List Str} {fs : Fs} {sc tsc : Scope} (C : Cxt X K sp N fs sc tsc) (pn : List (Addr × Obj)) (xe : Value → Shared → Prop) : Cxt (X.tr pn xe) K sp N fs sc tsc :=
  ⟨C.k, C.calm, C.n, C.nd, C.sc, C.blt, C.hu, C.gc, C.gk, C.gd, C.fn, C.xd, fun c hc => ⟨(C.xr c hc).1, ⟨(C.xr c hc).2.q, (C.xr c hc).2.g, (C.xr c hc).2.kp, (C.xr c hc).2.r⟩⟩, C.tg⟩
/-- the context of a def's own statements -/
structure TpX (X : Cx) : Prop where
  stk : X.stack = X.env :: X.outer
  fr : X.env.frame = some X.env.locals
  ex : X.ex = []
theorem TpX.tr {X : Cx} (t : TpX X) (pn : List (Addr × Obj)) (xe : Value → Shared → Prop) : TpX (X.tr pn xe) := ⟨t.stk, t.fr, t.ex⟩
theorem ps_imp {X : Cx} {s : Stmt} {t t' : TS} (h : PS X s t) (i : ∀ D σ H, t' D σ H → t D σ H) : PS X s t' := ⟨fun pins s σ H D I q => h.run pins s σ H D I (i D σ H q)⟩
section
variable {X : Cx} {K : PySem.W.Frag} {N : List Str} {fs : Fs} {sc : Scope}
theorem Cq.gl (C : Cq X K N fs sc) {x : Str} (h : glB sc x = true) : Gl X x := by
  show X.env.scope.names.lookup _ = _
  rw [C.se]
  exact glB_ok h
theorem Cq.kn (C : Cq X K N fs sc) {c : Str} (h : xnB fs c = true) : XKn K c := by
  obtain ⟨h1, h2⟩ := and2 h
  by_cases e : c = "ValueError"
  · exact .inl e
  · have hm : c ∈ fs.xd := by
      rcases Bool.or_eq_true_iff.mp h2 with z | z
      · exact absurd (of_decide_eq_true z) e
      · simpa using z
    exact .inr (C.xd c hm).2
theorem Cq.names (C : Cq X K N fs sc) {c : Str} (hg : glB sc c = true) (h : xnB fs c = true) : Names X c (clsV K c) := by
  obtain ⟨h1, h2⟩ := and2 h
  refine ⟨C.gl hg, xall_dbg c h1, ?_⟩
  by_cases e : c = "ValueError"
  · subst e
    have : clsV K "ValueError" = .type "ValueError" := if_pos rfl
    rw [this]
    exact .inr ⟨C.blt _ (by simp [bnames]), by decide +kernel, by decide +kernel⟩
  · have hm : c ∈ fs.xd := by
      rcases Bool.or_eq_true_iff.mp h2 with z | z
      · exact absurd (of_decide_eq_true z) e
      · simpa using z
    have : clsV K c = .ref (xga K c) := if_neg e
    rw [this]
    exact .inl (C.xd c hm).1
theorem Cq.cls (C : Cq X K N fs sc) {c : Str} {p : Pos} (hg : glB sc c = true) (hx : xnB fs c = true) : PE X (.Name c p) (tC (clsW K c)) := by
  obtain ⟨h1, h2⟩ := and2 hx
  by_cases e : c = "ValueError"
  · subst e
    have : clsW K "ValueError" = .ty "ValueError" := if_pos rfl
    rw [this]
    exact pe_bltn (C.gl hg) (C.blt _ (by simp [bnames])) (by decide +kernel : bootBuiltins "ValueError" = some (.type "ValueError")) rfl (by decide +kernel) (by decide +kernel)
  · have hm : c ∈ fs.xd := by
      rcases Bool.or_eq_true_iff.mp h2 with z | z
      · exact absurd (of_decide_eq_true z) e
      · simpa using z
    have : clsW K c = .ref (xga K c) := if_neg e
    rw [this]
    exact pe_glob (C.gl hg) (C.xd c hm).1 rfl (xall_dbg c h1)
theorem Cq.all (C : Cq X K N fs sc) : ∀ {cs : List Str} {xs : List Expr}, okNs fs sc cs xs = true → NamesAll X xs (cs.map (clsV K)) ∧ ∀ d ∈ cs, XKn K d
  | [], xs, h => by
    cases xs with
    | nil => exact ⟨.nil, fun d hd => by simp at hd⟩
    | cons _ _ => simp [okNs] at h
  | c :: cs, xs, h => by
    cases xs with
    | nil => simp [okNs] at h
    | cons x xs =>
      simp only [okNs] at h
      have hh := and2 h
      have h1 := hh.1
      have h2 := (and2 hh.2).1
      have h3 := (and2 (and2 hh.2).2).1
      have h4 := (and2 (and2 hh.2).2).2
      obtain ⟨p, rfl⟩ := vName_eq (of_decide_eq_true h1)
      obtain ⟨i1, i2⟩ := C.all h4
      refine ⟨.cons (C.names h2 h3) i1, fun d hd => ?_⟩
      rcases List.mem_cons.mp hd with rfl | q
      · exact C.kn h3
      · exact i2 d q
theorem Cq.te (C : Cq X K N fs sc) {cs : List Str} {te : Expr} (h : okTe fs sc cs te = true) : PTst X te (cs.map (clsV K)) ∧ ∀ d ∈ cs, XKn K d := by
  unfold okTe at h
  split at h
  · rename_i es hv
    obtain ⟨k, p, rfl⟩ := vTup_eq hv
    obtain ⟨h1, h2⟩ := and2 h
    obtain ⟨i1, i2⟩ := C.all h1
    have hl := of_decide_eq_true h2
    refine ⟨ptst_tup i1 ?_, i2⟩
    rw [List.length_map, sizeLine_eq]
    omega
  · split at h
    · rename_i c
      have hh := and2 h
      have h1 := hh.1
      have h2 := (and2 hh.2).1
      have h3 := (and2 hh.2).2
      obtain ⟨p, rfl⟩ := vName_eq (of_decide_eq_true h1)
      refine ⟨ptst_name (C.names h2 h3), fun d hd => ?_⟩
      rw [List.mem_singleton] at hd
      rw [hd]
      exact C.kn h3
    · cases h
theorem Cq.nm (C : Cq X K N fs sc) {nm : Option Nat} {n : Option Str} (h : okNm N sc nm n = true) : NmOk X n nm := by
  unfold okNm at h
  split at h
  · exact True.intro
  · obtain ⟨h1, h2⟩ := and2 h
    refine ⟨C.n ▸ of_decide_eq_true h1, ?_⟩
    show X.env.scope.names.lookup _ = _
    rw [C.se]
    exact of_decide_eq_true h2
  · cases h
end
section
variable (K : PySem.W.Frag) (sp : Str → Sp) (N : List Str) (fs : Fs)
mutual
theorem dQ : ∀ (e : E) {X : Cx} {sc : Scope} (C : Cq X K N fs sc) (x : Expr), okE N fs sc sc e x = true → qE e = true → Der X x (rdE K sp e)
  | .var i, X, sc, C, x, h, _ => by
    unfold okE at h
    split at h
    · rename_i y hy
      obtain ⟨p, rfl⟩ := vName_eq hy
      obtain ⟨h1, h2⟩ := and2 h
      obtain ⟨h2, h3⟩ := and2 h2
      obtain ⟨d1, d2⟩ := nDbg_ok h3
      refine .mk' (pe_var (C.n ▸ of_decide_eq_true h1) ?_ d1 d2) (fun _ => rfl) (fun _ _ _ z => nomatch z) rfl
      rw [C.se]
      exact visB_ok h2
    · cases h
  | .int n, X, sc, C, x, h, _ => by
    unfold okE at h
    obtain ⟨k, p, rfl⟩ := vInt_eq (of_decide_eq_true h)
    exact .mk' pe_int (fun _ => rfl) (fun _ _ _ z => nomatch z) rfl
  | .bl n, X, sc, C, x, h, _ => by
    unfold okE at h
    obtain ⟨k, p, rfl⟩ := vBl_eq (of_decide_eq_true h)
    exact .mk' pe_bl (fun _ => rfl) (fun _ _ _ z => nomatch z) rfl
  | .non, X, sc, C, x, h, _ => by
    unfold okE at h
    obtain ⟨k, p, rfl⟩ := vNon_eq h
    exact .mk' pe_non (fun _ => rfl) (fun _ _ _ z => nomatch z) rfl
  | .str n, X, sc, C, x, h, _ => by
    unfold okE at h
    obtain ⟨k, p, rfl⟩ := vStr_eq (of_decide_eq_true h)
    exact .mk' pe_str (fun _ => rfl) (fun _ _ _ z => nomatch z) rfl
  | .isx a c, X, sc, C, x, h, hq => by
    unfold okE at h
    split at h
    · rename_i g y z hv
      obtain ⟨p, q, rfl⟩ := vCall_eq hv
      have hh := and2 h
      have h1 := hh.1
      have h2 := (and2 hh.2).1
      have h3 := (and2 (and2 hh.2).2).1
      have h4 := (and2 (and2 (and2 hh.2).2).2).1
      have h5 := (and2 (and2 (and2 (and2 hh.2).2).2).2).1
      have h6 := (and2 (and2 (and2 (and2 (and2 hh.2).2).2).2).2).1
      have h7 := (and2 (and2 (and2 (and2 (and2 hh.2).2).2).2).2).2
      cases of_decide_eq_true h1
      obtain ⟨p', rfl⟩ := vName_eq (of_decide_eq_true h5)
      have A := dQ a C _ h3 hq
      have kn := C.kn h7
      have T := C.cls (p := p') h6 h7
      have hk := C.k
      subst hk
      exact .mk' (pe_imp (pe_callB cr_isX (C.gl h2) (C.blt _ (bn _ (by decide +kernel))) PyProof.Rows.boot_isinstance (pa_cons A.pe (pa1 T rfl) (star_cons (not_t h4))) (by decide +kernel) dbg_isi (star_cons (not_t h4)) rfl) fun _ _ _ h => h kn) (fun _ => rfl) (fun _ _ _ z => nomatch z) rfl
    · cases h
  | .and a b, X, sc, C, x, h, hq => by
    obtain ⟨q1, q2⟩ := and2 hq
    unfold okE at h
    split at h
    · rename_i o l r rs p hv
      have e := vBool_eq hv
      subst e
      obtain ⟨h1, h2⟩ := and2 h
      obtain ⟨h2, h3⟩ := and2 h2
      cases of_decide_eq_true h1
      have A := dQ a C _ h2 q1
      have B : PE X (.BoolOp .And (r :: rs) p) (rdE K sp b) ∧ PW X (.BoolOp .And (r :: rs) p) (tB (rdE K sp b)) := by
        cases rs with
        | nil =>
          have q := dQ b C _ h3 q2
          exact ⟨pe_one q.pe, pw_one q.pt⟩
        | cons z zs =>
          have q := dQ b C _ h3 q2
          exact ⟨q.pe, q.pw _ _ _ rfl⟩
      have W := pw_andV A.pt B.2
      exact ⟨pe_and A.pe B.1, W.pt, fun _ _ _ _ => W, rfl⟩
    · cases h
  | .not a, X, sc, C, x, h, hq => by
    unfold okE at h
    split at h
    · rename_i o r hv
      obtain ⟨p, rfl⟩ := vUn_eq hv
      obtain ⟨h1, h2⟩ := and2 h
      cases of_decide_eq_true h1
      have A := dQ a C _ h2 hq
      exact ⟨pe_not A.pe, pt_notV A.pt, (fun _ _ _ z => nomatch z), rfl⟩
    · cases h
  | .pk2 a b c, X, sc, C, x, h, hq => by
    obtain ⟨q1, hq⟩ := and2 hq
    obtain ⟨q2, q3⟩ := and2 hq
    unfold okE at h
    split at h
    · rename_i l i hv
      obtain ⟨p, rfl, hs⟩ := vSub_eq hv
      split at h
      · rename_i x y g z hl hi
        obtain ⟨p2, rfl⟩ := vLst_eq hl
        obtain ⟨p3, q4, rfl⟩ := vCall_eq hi
        have hh := and2 h
        have h1 := hh.1
        have h2 := (and2 hh.2).1
        have h3 := (and2 (and2 hh.2).2).1
        have h4 := (and2 (and2 (and2 hh.2).2).2).1
        have h5 := (and2 (and2 (and2 (and2 hh.2).2).2).2).1
        have h6 := (and2 (and2 (and2 (and2 (and2 hh.2).2).2).2).2).1
        have h7 := (and2 (and2 (and2 (and2 (and2 (and2 hh.2).2).2).2).2).2).1
        have h8 := (and2 (and2 (and2 (and2 (and2 (and2 hh.2).2).2).2).2).2).2
        cases of_decide_eq_true h1
        have A := dQ a C _ h3 q1
        have B := dQ b C _ h5 q2
        have I := dQ c C _ h7 q3
        obtain ⟨d1, d2, d3⟩ := boot_b1 .int
        have hk := C.k
        subst hk
        have P := pe_callTy (p := p3) (pos := q4) call_int1 (C.gl h2) (C.blt _ d3) PyProof.Rows.boot_int (pa1 I.pe (not_t h8)) d2 d1 (star_cons (not_t h8)) rfl
        exact .mk' (pe_ix (ix_list.or ix_tup) (pe_lst (pa_cons A.pe (pa1 B.pe (not_t h6)) (star_cons (not_t h4)))) P (plainIx hs)) (fun _ => rfl) (fun _ _ _ z => nomatch z) rfl
      · cases h
    · cases h
  | .tup es, X, sc, C, x, h, hq => by
    unfold okE at h
    split at h
    · rename_i xs hv
      obtain ⟨k, p, rfl⟩ := vTup_eq hv
      exact .mk' (pe_tup (dQA es C _ h hq)) (fun _ => rfl) (fun _ _ _ z => nomatch z) rfl
    · cases h
  | .bin _ _ _, _, _, _, _, _, hq => by simp [qE] at hq
  | .neg _, _, _, _, _, _, hq => by simp [qE] at hq
  | .inv _, _, _, _, _, _, hq => by simp [qE] at hq
  | .cmp _ _ _, _, _, _, _, _, hq => by simp [qE] at hq
  | .chn _ _ _ _ _, _, _, _, _, _, hq => by simp [qE] at hq
  | .isN _, _, _, _, _, _, hq => by simp [qE] at hq
  | .notN _, _, _, _, _, _, hq => by simp [qE] at hq
  | .or _ _, _, _, _, _, _, hq => by simp [qE] at hq
  | .ife _ _ _, _, _, _, _, _, hq => by simp [qE] at hq
  | .lst _, _, _, _, _, _, hq => by simp [qE] at hq
  | .ix _ _, _, _, _, _, _, hq => by simp [qE] at hq
  | .sl _ _ _, _, _, _, _, _, hq => by simp [qE] at hq
  | .call _ _, _, _, _, _, _, hq => by simp [qE] at hq
  | .b1 _ _, _, _, _, _, _, hq => by simp [qE] at hq
  | .isi _ _, _, _, _, _, _, hq => by simp [qE] at hq
  | .lc _ _ _ _ _, _, _, _, _, _, hq => by simp [qE] at hq
  | .lrg _, _, _, _, _, _, hq => by simp [qE] at hq
  | .glb _ _, _, _, _, _, _, hq => by simp [qE] at hq
  | .mm _ _ _, _, _, _, _, _, hq => by simp [qE] at hq
  | .rvl _, _, _, _, _, _, hq => by simp [qE] at hq
  | .nev, _, _, _, _, _, hq => by simp [qE] at hq
  | .dnw, _, _, _, _, _, hq => by simp [qE] at hq
  | .dsp1 _ _, _, _, _, _, _, hq => by simp [qE] at hq
  | .sst _, _, _, _, _, _, hq => by simp [qE] at hq
  | .lns _, _, _, _, _, _, hq => by simp [qE] at hq
  | .gk _ _, _, _, _, _, _, hq => by simp [qE] at hq
  | .gdx _ _ _, _, _, _, _, _, hq => by simp [qE] at hq
  | .dsp _, _, _, _, _, _, hq => by simp [qE] at hq
theorem dQA : ∀ (es : Es) {X : Cx} {sc : Scope} (C : Cq X K N fs sc) (xs : List Expr), okA N fs sc sc es xs = true → qEs es = true → PA X xs (rdA K sp es)
  | .nil, X, sc, C, xs, h, _ => by
    unfold okA at h
    cases xs with
    | nil => exact pa_nil
    | cons _ _ => cases h
  | .cons e es, X, sc, C, xs, h, hq => by
    obtain ⟨q1, q2⟩ := and2 hq
    unfold okA at h
    cases xs with
    | nil => cases h
    | cons x r =>
      obtain ⟨h1, h2⟩ := and2 h
      obtain ⟨h2, h3⟩ := and2 h2
      exact pa_cons (dQ e C x h1 q1).pe (dQA es C r h3 q2) (star_cons (not_t h2))
end
theorem dQs : ∀ (b : Ss) {X : Cx} {sc : Scope} (C : Cq X K N fs sc) (W : WX) (xs : List Stmt), okQs N fs sc b xs = true → PSs X xs (rdSs K sp b W)
  | .nil, X, sc, C, W, xs, h => by
    unfold okQs at h
    cases xs with
    | nil => exact pss_nil
    | cons _ _ => cases h
  | .cons s ss, X, sc, C, W, [], h => by
    cases s with
    | asg t e => cases t <;> simp [okQs] at h
    | _ => simp [okQs] at h
  | .cons s ss, X, sc, C, W, x :: r, h => by
    cases s with
    | asg t e =>
      cases t with
      | tp is => simp [okQs] at h
      | nm i =>
        simp only [okQs] at h
        split at h
        · rename_i tg v p hv
          have ex := vAsg_eq hv
          subst ex
          have hh := and2 h
          have h1 := hh.1
          have h2 := (and2 hh.2).1
          have h3 := (and2 (and2 hh.2).2).1
          have h4 := (and2 (and2 (and2 hh.2).2).2).1
          have h5 := (and2 (and2 (and2 hh.2).2).2).2
          refine pss_cons ?_ (dQs _ C W r h5)
          simp only [okTg] at h1
          split at h1
          · rename_i y hy
            obtain ⟨q, rfl⟩ := vName_eq hy
            obtain ⟨a1, a2⟩ := and2 h1
            obtain ⟨t1, t2⟩ := C.tg y a2
            exact ps_set (i := i) (C.n ▸ C.nd) (C.n ▸ of_decide_eq_true a1) t1 (dQ K sp N fs e C v h2 h3).pe (no_swap (not_t h4)) t2
          · cases h1
        · cases h
    | ret e =>
      simp only [okQs] at h
      split at h
      · rename_i v hv
        obtain ⟨p, rfl⟩ := vRet_eq hv
        have hh := and2 h
        exact pss_cons (ps_ret (dQ K sp N fs e C v hh.1 (and2 hh.2).1).pe) (dQs _ C W r (and2 hh.2).2)
      · cases h
    | _ => simp [okQs] at h
  | .frz _ _, X, sc, C, W, xs, h => by simp [okQs] at h
theorem dHs {X : Cx} {sc : Scope} (C : Cq X K N fs sc) : ∀ (hs : Hs) (ys : List ExceptHandler), okHs N fs sc hs ys = true → HdsX X ys (rdHs K sp hs) ∧ ∀ d, d ∈ hsNames hs → XKn K d
  | .nil, ys, h => by
    unfold okHs at h
    cases ys with
    | nil => exact ⟨.nil, fun d hd => by simp [hsNames] at hd⟩
    | cons _ _ => cases h
  | .cons cs nm b r, ys, h => by
    unfold okHs at h
    cases ys with
    | nil => cases h
    | cons y ys =>
      simp only at h
      split at h
      · rename_i te n x xs hv
        obtain ⟨p, rfl⟩ := vHd_eq hv
        have hh := and2 h
        have h1 := hh.1
        have h2 := (and2 hh.2).1
        have h3 := (and2 (and2 hh.2).2).1
        have h4 := (and2 (and2 hh.2).2).2
        obtain ⟨t1, t2⟩ := C.te h1
        obtain ⟨i1, i2⟩ := dHs C r ys h4
        refine ⟨.cons (h := ⟨cs.map (clsV K), nm, rdSs K sp b (fun _ _ _ _ => False)⟩) t1 (C.nm h2) (fun a pn => dQs K sp N fs b (C.suite a pn) _ _ h3) i1, fun d hd => ?_⟩
        unfold hsNames at hd
        rcases List.mem_append.mp hd with q | q
        · exact t2 d q
        · exact i2 d q
      · cases h
end
section
variable (K : PySem.W.Frag) (sp : Str → Sp) (N : List Str) (fs : Fs)
theorem dCl {X : Cx} {sc : Scope} {W : WX} (C : Cxt X K sp N fs sc sc) (tk : Takes X W) {f : Str} {es : Es} (v : Expr) (h : okCl N fs sc f es v = true) : Der X v (tCallS (sp f) (WE W) (rdA K sp es)) := by
  unfold okCl at h
  split at h
  · rename_i g xs hv
    obtain ⟨p, q, rfl⟩ := vCall_eq hv
    have hh := and2 h
    have h1 := hh.1
    have h2 := (and2 hh.2).1
    have h3 := (and2 (and2 hh.2).2).1
    have h4 := (and2 (and2 (and2 hh.2).2).2).1
    have h5 := (and2 (and2 (and2 (and2 hh.2).2).2).2).1
    have h6 := (and2 (and2 (and2 (and2 hh.2).2).2).2).2
    cases of_decide_eq_true h1
    obtain ⟨d1, d2⟩ := nDbg_ok h4
    obtain ⟨a, fd, ps, k, F, R, m, kp, b⟩ := C.fn _ (by simpa using h2)
    obtain ⟨A1, A2⟩ := dA K sp N fs es C _ h6
    refine .mk' ?_ (fun _ => rfl) (fun _ _ _ z => nomatch z) rfl
    cases xs with
    | nil => cases h5
    | cons y ys =>
      simp only [List.all_cons, Bool.and_eq_true] at A2
      exact pe_callS F R (glOf C h3) m kp b (fun σ => passAt tk σ) A1 d1 (star_cons (not_t A2.1)) (back_any A2.2)
  · cases h
theorem dEf {X : Cx} {sc : Scope} {W : WX} (C : Cxt X K sp N fs sc sc) (tk : Takes X W) : ∀ (e : Ef) (v : Expr), okEf N fs sc e v = true → Der X v (rdEf K sp W e)
  | .call f es, v, h => dCl K sp N fs C tk v h
  | .pop x, v, h => by
    simp only [okEf] at h
    split at h
    · rename_i y m hm
      obtain ⟨q, ap, cp, rfl, hl⟩ := vM0_eq hm
      obtain ⟨h1, h2⟩ := and2 h
      cases of_decide_eq_true h1
      have hk := C.k
      subst hk
      exact .mk' (pe_bm0 PySem.F.plainAttrs_list PySem.F.slot_list_pop PySem.F.type_list_pop mt_pop (dV C h2) rfl hl) (fun _ => rfl) (fun _ _ _ z => nomatch z) rfl
    · cases h
  | .popA x i, v, h => by
    simp only [okEf] at h
    split at h
    · rename_i y m e hm
      obtain ⟨q, ap, cp, rfl, hl⟩ := vMeth_eq hm
      have hh := and2 h
      have h1 := hh.1
      have h2 := (and2 hh.2).1
      have h3 := (and2 (and2 hh.2).2).1
      have h4 := (and2 (and2 hh.2).2).2
      cases of_decide_eq_true h1
      have E := (dE K sp N fs i C e h3).pe
      have ns := star_cons (es := []) (env := X.env) (not_t h4)
      have hk := C.k
      subst hk
      exact .mk' (pe_bm PySem.F.plainAttrs_list PySem.F.slot_list_pop PySem.F.type_list_pop mt_popAt (dV C h2) (pa1 E (not_t h4)) rfl (by rw [ns]; rfl) hl ns rfl) (fun _ => rfl) (fun _ _ _ z => nomatch z) rfl
    · cases h
  | .popK x i, v, h => by
    simp only [okEf] at h
    split at h
    · rename_i y m e hm
      obtain ⟨q, ap, cp, rfl, hl⟩ := vMeth_eq hm
      have hh := and2 h
      have h1 := hh.1
      have h2 := (and2 hh.2).1
      have h3 := (and2 (and2 hh.2).2).1
      have h4 := (and2 (and2 hh.2).2).2
      cases of_decide_eq_true h1
      have E := (dE K sp N fs i C e h3).pe
      have ns := star_cons (es := []) (env := X.env) (not_t h4)
      exact .mk' (pe_dpop1 (dV C h2) E ⟨rfl, by rw [ns]; rfl, hl, by rw [ns]; rfl⟩) (fun _ => rfl) (fun _ _ _ z => nomatch z) rfl
    · cases h
theorem dPo {X : Cx} {sc : Scope} {t : TE} (C : Cxt X K sp N fs sc sc) (ef : Ef) (A : ∀ v, okEf N fs sc ef v = true → Der X v t) : ∀ (p : Po) (v : Expr), okPo N fs sc ef p v = true → Der X v (rdPo K t p)
  | .hd, v, h => A v h
  | .ixn p n, v, h => by
    unfold okPo at h
    split at h
    · rename_i o j hv
      obtain ⟨q, rfl, hs⟩ := vSub_eq hv
      obtain ⟨h1, h2⟩ := and2 h
      obtain ⟨k, r, rfl⟩ := vInt_eq (of_decide_eq_true h1)
      have B := dPo C ef A p o h2
      have hk := C.k
      subst hk
      exact .mk' (pe_ix (ix_list.or ix_tup) B.pe pe_int (plainIx hs)) (fun _ => rfl) (fun _ _ _ z => nomatch z) rfl
    · cases h
  | .isN p, v, h => by
    unfold okPo at h
    split at h
    · rename_i x o y hv
      obtain ⟨q, rfl⟩ := vC1_eq hv
      obtain ⟨h1, h2⟩ := and2 h
      obtain ⟨h2, h3⟩ := and2 h2
      cases of_decide_eq_true h1
      obtain ⟨k, r, rfl⟩ := vNon_eq h2
      have B := dPo C ef A p _ h3
      exact ⟨pe_cmpR op_isN B.pe pe_non (nomark _), pt_cmpR op_isN B.pe pe_non (nomark _), (fun _ _ _ z => nomatch z), rfl⟩
    · cases h
  | .eqS p z, v, h => by
    unfold okPo at h
    split at h
    · rename_i x o y hv
      obtain ⟨q, rfl⟩ := vC1_eq hv
      have hh := and2 h
      have h1 := hh.1
      have h2 := (and2 hh.2).1
      have h3 := (and2 (and2 hh.2).2).1
      have h4 := (and2 (and2 hh.2).2).2
      cases of_decide_eq_true h1
      obtain ⟨k, r, rfl⟩ := vStr_eq (of_decide_eq_true h3)
      have B := dPo C ef A p _ h4
      have hk := C.k
      subst hk
      exact ⟨pe_cmpR (cmp_all C.hu .Eq) B.pe pe_str (not_t h2), pt_cmpR (cmp_all C.hu .Eq) B.pe pe_str (not_t h2), (fun _ _ _ z => nomatch z), rfl⟩
    · cases h
  | .lst1 p, v, h => by
    unfold okPo at h
    split at h
    · rename_i x hv
      obtain ⟨q, rfl⟩ := vLst_eq hv
      have B := dPo C ef A p x h
      exact .mk' (pe_lst (pa1 B.pe B.ns)) (fun _ => rfl) (fun _ _ _ z => nomatch z) rfl
    · cases h
  | .opI op a p, v, h => by
    unfold okPo at h
    split at h
    · rename_i x o y hv
      obtain ⟨q, rfl⟩ := vBin_eq hv
      obtain ⟨h1, h2⟩ := and2 h
      obtain ⟨h2, h3⟩ := and2 h2
      cases of_decide_eq_true h1
      obtain ⟨k, r, rfl⟩ := vInt_eq (of_decide_eq_true h2)
      have B := dPo C ef A p _ h3
      have hk := C.k
      subst hk
      exact .mk' (pe_op (op_all op) pe_int B.pe) (fun _ => rfl) (fun _ _ _ z => nomatch z) rfl
    · cases h
  | .ixv i p, v, h => by
    unfold okPo at h
    split at h
    · rename_i o j hv
      obtain ⟨q, rfl, hs⟩ := vSub_eq hv
      split at h
      · rename_i y hy
        obtain ⟨r, rfl⟩ := vName_eq hy
        obtain ⟨h1, h2⟩ := and2 h
        have B := dPo C ef A p _ h2
        have hk := C.k
        subst hk
        exact .mk' (pe_dget (by have := C.hu; omega) (dV C h1) B.pe (plainIx hs)) (fun _ => rfl) (fun _ _ _ z => nomatch z) rfl
      · cases h
    · cases h
mutual
theorem dS : ∀ (e : S) {X : Cx} {sc : Scope} {W : WX} (C : Cxt X K sp N fs sc sc) (tp : TpX X) (tk : Takes X W) (po : PassesOwn (model X.prog X.w) X.A X.env X.xe) (x : Stmt), okS N fs sc e x = true → PS X x (rdS K sp e W)
  | .asg t e, X, sc, W, C, tp, tk, po, x, h => by
    unfold okS at h
    split at h
    · rename_i tg v p hv
      have ex := vAsg_eq hv
      subst ex
      have hh := and2 h
      have h1 := hh.1
      have h2 := (and2 hh.2).1
      have h3 := (and2 hh.2).2
      have E := dE K sp N fs e C v h2
      cases t with
      | tp is =>
        obtain ⟨h4, h5⟩ := and2 h3
        have G := dTg C (.tp is) tg h1
        simp only [okTg] at h1
        split at h1
        · rename_i es hx
          obtain ⟨k, q, rfl⟩ := vTup_eq hx
          exact ps_asg E.pe G (no_sole (not_t h4)) (no_stores (not_t h5)) rfl
        · cases h1
      | nm i =>
        simp only [okTg] at h1
        split at h1
        · rename_i y hy
          obtain ⟨q, rfl⟩ := vName_eq hy
          obtain ⟨a1, a2⟩ := and2 h1
          obtain ⟨t1, t2⟩ := C.tg y a2
          have plain : (swapsWith v (some (.Name y q)) p.line X.env = pure false) → PS X (.Assign [.Name y q] v p) (rdS K sp (.asg (.nm i) e) W) := fun hs =>
            ps_set (i := i) (C.n ▸ C.nd) (C.n ▸ of_decide_eq_true a1) t1 E.pe hs t2
          cases e with
          | lc elt tg it ifs vs =>
            unfold okE at h2
            split at h2
            · rename_i y' t i' c scope p' hv'
              have e' := vComp_eq hv'
              subst e'
              have sw := sw_val (elt := y') (gs := [⟨t, i', c, 0⟩]) (scope := scope) (pos := p') (py := q) (y := y) (l := p.line) (env := X.env)
              cases hb : (X.env.blockKind == .function && X.env.kindOf y == some .local && q.line == (Expr.ListComp y' [⟨t, i', c, 0⟩] scope p').pos.line && !(scope.names.any fun (n, k) => n == y && (k == .local || k == .cell))) with
              | false =>
                rw [hb] at sw
                exact plain sw
              | true =>
                rw [hb] at sw
                have hl : X.env.scope.names.lookup y = some .local := by
                  have b1 := (and2 (and2 (and2 hb).1).1).2
                  have b2 : X.env.kindOf y = some .local := by simpa using b1
                  exact b2
                have hh := and2 h2
                have h1 := hh.1
                have h2 := (and2 hh.2).1
                have h3 := (and2 (and2 hh.2).2).1
                have hp := (and2 (and2 (and2 hh.2).2).2).1
                have h5 := (and2 (and2 (and2 (and2 hh.2).2).2).2).1
                have h6 := (and2 (and2 (and2 (and2 hh.2).2).2).2).2
                have B : BlkOk X.N X.env.scope scope (ownOf N vs) := by
                  rw [C.n, C.sc]
                  exact blkOk_by h1
                have I := dI K sp N fs it C i' h2
                have ev : (ownOf N vs).map (·.2) = vs := by
                  unfold ownOf
                  rw [List.map_map]
                  exact List.map_id'' (fun _ => rfl) vs
                have R := ps_setLc (X := X) (i := i) (own := ownOf N vs) (pos := p') (py := q) (spos := p) C.calm (C.n ▸ C.nd) (C.n ▸ of_decide_eq_true a1) hl sw (I.1 t (prTup hp)) B (fun s H A cl fp => dTg (C.blk B.uniq s H A cl fp) tg t h3) (fun s H A cl fp => dC K sp N fs ifs (C.blk B.uniq s H A cl fp) c h5) (fun s H A cl fp => (dE K sp N fs elt (C.blk B.uniq s H A cl fp) y' h6).pe) I.2
                rw [ev] at R
                exact R
            · cases h2
          | _ => exact plain (no_swap (not_t h3))
        · cases h1
    · cases h
  | .ef k e p, X, sc, W, C, tp, tk, po, st, h => by
    have A := dPo K sp N fs C e (dEf K sp N fs C tk e) p
    cases k with
    | asg t =>
      simp only [okS] at h
      split at h
      · rename_i tg v ps hv
        have ex := vAsg_eq hv
        subst ex
        have hh := and2 h
        have h1 := hh.1
        have E := A v (and2 hh.2).1
        have c1 := (and2 (and2 hh.2).2).1
        have c2 := (and2 (and2 hh.2).2).2
        have G := dTg C t tg h1
        cases t with
        | tp is =>
          simp only [okTg] at h1
          split at h1
          · rename_i es' hx
            obtain ⟨k, q, rfl⟩ := vTup_eq hx
            exact ps_asg E.pe G (no_sole (not_t c1)) (no_stores (not_t c2)) rfl
          · cases h1
        | nm i =>
          simp only [okTg] at h1
          split at h1
          · rename_i y hy
            obtain ⟨q, rfl⟩ := vName_eq hy
            obtain ⟨a1, a2⟩ := and2 h1
            obtain ⟨t1, t2⟩ := C.tg y a2
            exact ps_set (i := i) (C.n ▸ C.nd) (C.n ▸ of_decide_eq_true a1) t1 E.pe (no_swap (not_t c1)) t2
          · cases h1
      · cases h
    | ret =>
      simp only [okS] at h
      split at h
      · rename_i v hv
        obtain ⟨q, rfl⟩ := vRet_eq hv
        exact ps_ret (A v h).pe
      · cases h
    | exp =>
      simp only [okS] at h
      split at h
      · rename_i v hv
        obtain ⟨q, rfl⟩ := vExp_eq hv
        obtain ⟨h1, h2⟩ := and2 h
        exact ps_expr (A v h1).pe (no_swap (not_t h2))
      · cases h
    | app x =>
      simp only [okS] at h
      split at h
      · rename_i c hv
        obtain ⟨p', rfl⟩ := vExp_eq hv
        split at h
        · rename_i y m v hm
          obtain ⟨q, ap, cp, rfl, hl⟩ := vMeth_eq hm
          have hh := and2 h
          have h1 := hh.1
          have h2 := (and2 hh.2).1
          have E := A v (and2 hh.2).2
          cases of_decide_eq_true h1
          have ns := star_cons (es := []) (env := X.env) E.ns
          have hk := C.k
          subst hk
          exact ps_expr (pe_bm PySem.F.plainAttrs_list PySem.F.slot_list_append PySem.F.type_list_append mt_append (dV C h2) (pa1 E.pe E.ns) rfl (by rw [ns]; rfl) hl ns rfl) rfl
        · cases h
      · cases h
    | set x i =>
      simp only [okS] at h
      split at h
      · rename_i tg v p' hv
        have ex := vAsg_eq hv
        subst ex
        split at h
        · rename_i o j hs
          obtain ⟨q, rfl, hsl⟩ := vSub_eq hs
          split at h
          · rename_i y hy
            obtain ⟨r, rfl⟩ := vName_eq hy
            have hh := and2 h
            have h1 := hh.1
            have h2 := (and2 hh.2).1
            have E := A v (and2 (and2 hh.2).2).1
            have c1 := (and2 (and2 (and2 hh.2).2).2).1
            have c2 := (and2 (and2 (and2 hh.2).2).2).2
            exact ps_asg E.pe (pg_sub (dV C h1) (dE K sp N fs i C j h2).pe (C.k ▸ set_two C.hu) (fun v => by cases j <;> first | rfl | simp [isSl] at hsl)) (no_sole (not_t c1)) (no_stores (not_t c2)) rfl
          · cases h
        · cases h
      · cases h
  | .eft e p a b, X, sc, W, C, tp, tk, po, st, h => by
    have A := dPo K sp N fs C e (dEf K sp N fs C tk e) p
    unfold okS at h
    split at h
    · rename_i z x y hv
      obtain ⟨q, rfl⟩ := vIfS_eq hv
      have hh := and2 h
      exact ps_if (A z hh.1).pt (dSs a C tp tk po x (and2 hh.2).1) (dSs b C tp tk po y (and2 hh.2).2)
    · cases h
  | .fst t x y c, X, sc, W, C, tp, tk, po, st, h => by
    unfold okS at h
    split at h
    · rename_i tg i b hv
      obtain ⟨pp, rfl⟩ := vFor_eq hv
      split at h
      · rename_i n m u htg hi
        obtain ⟨q1, rfl⟩ := vName_eq htg
        obtain ⟨q2, rfl⟩ := vName_eq hi
        split at h
        · rename_i g v p' hu
          have ex := vAsg_eq hu
          subst ex
          split at h
          · rename_i o j hs
            obtain ⟨q3, rfl, hsl⟩ := vSub_eq hs
            split at h
            · rename_i p q k ho hj hk
              obtain ⟨q4, rfl⟩ := vName_eq ho
              obtain ⟨q5, rfl⟩ := vName_eq hj
              obtain ⟨k2, q6, rfl⟩ := vBl_eq hk
              have hh := and2 h
              have h1 := hh.1
              have h2 := (and2 hh.2).1
              have h3 := (and2 (and2 hh.2).2).1
              have h4 := (and2 (and2 (and2 hh.2).2).2).1
              have h5 := (and2 (and2 (and2 (and2 hh.2).2).2).2).1
              have h6 := (and2 (and2 (and2 (and2 hh.2).2).2).2).2
              cases of_decide_eq_true h1
              obtain ⟨t1, t2⟩ := C.tg n h3
              have I := dI K sp N fs (.seq (.var x)) C (.Name m q2) (by
                show (okE N fs sc sc (.var x) (.Name m q2) && !isSet (.Name m q2)) = true
                simp only [okE, vName, Bool.and_eq_true]
                obtain ⟨w1, w2⟩ := and2 h4
                obtain ⟨w2, w3⟩ := and2 w2
                exact ⟨⟨w1, w2, w3⟩, rfl⟩)
              exact ps_for po C.calm (I.1 _ (fun z => by cases z)) (pg_name (C.n ▸ C.nd) (C.n ▸ of_decide_eq_true h2) t1 t2) (pss_cons (ps_asg pe_bl (pg_sub (dV C h5) (dV C h6) (C.k ▸ set_two C.hu) (fun v => rfl)) rfl rfl rfl) pss_nil) I.2
            · cases h
          · cases h
        · cases h
      · cases h
    · cases h
  | .ins x i e, X, sc, W, C, tp, tk, po, st, h => by
    unfold okS at h
    split at h
    · rename_i c hv
      obtain ⟨p, rfl⟩ := vExp_eq hv
      split at h
      · rename_i y m u v hm
        obtain ⟨q, ap, cp, rfl, hl⟩ := vM2_eq hm
        have hh := and2 h
        have h1 := hh.1
        have h2 := (and2 hh.2).1
        have h3 := (and2 (and2 hh.2).2).1
        have h4 := (and2 (and2 (and2 hh.2).2).2).1
        have h5 := (and2 (and2 (and2 (and2 hh.2).2).2).2).1
        have h6 := (and2 (and2 (and2 (and2 hh.2).2).2).2).2
        cases of_decide_eq_true h1
        have E1 := (dE K sp N fs i C u h3).pe
        have E2 := (dE K sp N fs e C v h5).pe
        have ns2 := star_cons (es := []) (env := X.env) (not_t h6)
        have ns := star_cons (es := [v]) (env := X.env) (not_t h4)
        have hk := C.k
        subst hk
        exact ps_expr (pe_bm PySem.F.plainAttrs_list PySem.F.slot_list_insert PySem.F.type_list_insert mt_insert (dV C h2) (pa_cons E1 (pa1 E2 (not_t h6)) ns) rfl (by rw [ns, ns2]; rfl) hl ns (by rw [ns2]; rfl)) rfl
      · cases h
    · cases h
  | .setix x i e, X, sc, W, C, tp, tk, po, st, h => by
    unfold okS at h
    split at h
    · rename_i tg v p hv
      have ex := vAsg_eq hv
      subst ex
      split at h
      · rename_i o j hs
        obtain ⟨q, rfl, hsl⟩ := vSub_eq hs
        split at h
        · rename_i y hy
          obtain ⟨r, rfl⟩ := vName_eq hy
          have hh := and2 h
          have h1 := hh.1
          have h2 := (and2 hh.2).1
          have h3 := (and2 (and2 hh.2).2).1
          have h4 := (and2 (and2 hh.2).2).2
          exact ps_asg (dE K sp N fs e C v h3).pe (pg_sub (dV C h1) (dE K sp N fs i C j h2).pe (C.k ▸ set_two C.hu) (fun v => by cases j <;> first | rfl | simp [isSl] at hsl)) (no_sole (not_t h4)) (by cases v <;> rfl) rfl
        · cases h
      · cases h
    · cases h
  | .aug x op e, X, sc, W, C, tp, tk, po, st, h => by
    unfold okS at h
    split at h
    · rename_i y o v hv
      obtain ⟨p, q, rfl⟩ := vAug_eq hv
      have hh := and2 h
      have h1 := hh.1
      have h2 := (and2 hh.2).1
      have h3 := (and2 (and2 hh.2).2).1
      have h4 := (and2 (and2 hh.2).2).2
      cases of_decide_eq_true h1
      obtain ⟨t1, t2⟩ := C.tg y h3
      exact ps_aug (C.n ▸ C.nd) (C.n ▸ of_decide_eq_true h2) t1 (dE K sp N fs e C v h4).pe (ip_all op) t2
    · cases h
  | .app x e, X, sc, W, C, tp, tk, po, st, h => by
    unfold okS at h
    split at h
    · rename_i c hv
      obtain ⟨p, rfl⟩ := vExp_eq hv
      split at h
      · rename_i y m v hm
        obtain ⟨q, ap, cp, rfl, hl⟩ := vMeth_eq hm
        have hh := and2 h
        have h1 := hh.1
        have h2 := (and2 hh.2).1
        have h3 := (and2 (and2 hh.2).2).1
        have h4 := (and2 (and2 hh.2).2).2
        cases of_decide_eq_true h1
        have E := (dE K sp N fs e C v h3).pe
        have ns := star_cons (es := []) (env := X.env) (not_t h4)
        have hk := C.k
        subst hk
        exact ps_expr (pe_bm PySem.F.plainAttrs_list PySem.F.slot_list_append PySem.F.type_list_append mt_append (dV C h2) (pa1 E (not_t h4)) rfl (by rw [ns]; rfl) hl ns rfl) rfl
      · cases h
    · cases h
  | .ext x e, X, sc, W, C, tp, tk, po, st, h => by
    unfold okS at h
    split at h
    · rename_i c hv
      obtain ⟨p, rfl⟩ := vExp_eq hv
      split at h
      · rename_i y m v hm
        obtain ⟨q, ap, cp, rfl, hl⟩ := vMeth_eq hm
        have hh := and2 h
        have h1 := hh.1
        have h2 := (and2 hh.2).1
        have h3 := (and2 (and2 hh.2).2).1
        have h4 := (and2 (and2 hh.2).2).2
        cases of_decide_eq_true h1
        have E := (dE K sp N fs e C v h3).pe
        have ns := star_cons (es := []) (env := X.env) (not_t h4)
        have hk := C.k
        subst hk
        exact ps_expr (pe_bm PySem.F.plainAttrs_list PySem.F.slot_list_extend PySem.F.type_list_extend mt_extend (dV C h2) (pa1 E (not_t h4)) rfl (by rw [ns]; rfl) hl ns rfl) rfl
      · cases h
    · cases h
  | .exp e, X, sc, W, C, tp, tk, po, st, h => by
    unfold okS at h
    split at h
    · rename_i v hv
      obtain ⟨p, rfl⟩ := vExp_eq hv
      obtain ⟨h1, h2⟩ := and2 h
      exact ps_expr (dE K sp N fs e C v h1).pe (no_swap (not_t h2))
    · cases h
  | .ret e, X, sc, W, C, tp, tk, po, st, h => by
    unfold okS at h
    split at h
    · rename_i v hv
      obtain ⟨p, rfl⟩ := vRet_eq hv
      exact ps_ret (dE K sp N fs e C v h).pe
    · cases h
  | .retN, X, sc, W, C, tp, tk, po, st, h => by
    unfold okS at h
    split at h
    · rename_i hv
      obtain ⟨p, rfl⟩ := vRet_eq hv
      exact ps_retN
    · cases h
  | .ite c a b, X, sc, W, C, tp, tk, po, st, h => by
    unfold okS at h
    split at h
    · rename_i z x y hv
      obtain ⟨p, rfl⟩ := vIfS_eq hv
      have hh := and2 h
      exact ps_if (dE K sp N fs c C z hh.1).pt (dSs a C tp tk po x (and2 hh.2).1) (dSs b C tp tk po y (and2 hh.2).2)
    · cases h
  | .for_ t it b, X, sc, W, C, tp, tk, po, st, h => by
    unfold okS at h
    split at h
    · rename_i tg i y hv
      obtain ⟨p, rfl⟩ := vFor_eq hv
      have hh := and2 h
      have I := dI K sp N fs it C i (and2 hh.2).1
      exact ps_for po C.calm (I.1 tg (prTup (and2 (and2 hh.2).2).1)) (dTg C t tg hh.1) (dSs b C tp tk po y (and2 (and2 hh.2).2).2) I.2
    · cases h
  | .whl c b, X, sc, W, C, tp, tk, po, st, h => by
    unfold okS at h
    split at h
    · rename_i z y hv
      obtain ⟨p, rfl⟩ := vWhl_eq hv
      have hh := and2 h
      exact ps_while po (dE K sp N fs c C z hh.1).pt (dSs b C tp tk po y hh.2)
    · cases h
  | .brk, X, sc, W, C, tp, tk, po, st, h => by
    unfold okS isBrk at h
    split at h
    · exact ps_break
    · cases h
  | .cont, X, sc, W, C, tp, tk, po, st, h => by
    unfold okS isCont at h
    split at h
    · exact ps_continue
    · cases h
  | .pass, X, sc, W, C, tp, tk, po, st, h => by
    unfold okS isPass at h
    split at h
    · exact ps_pass
    · cases h
  | .nvr, X, sc, W, C, tp, tk, po, st, h => ps_never
  | .ndn i, X, sc, W, C, tp, tk, po, st, h => by
    unfold okS at h
    split at h
    · rename_i tg v p hv
      have ex := vAsg_eq hv
      subst ex
      obtain ⟨h1, h2⟩ := and2 h
      obtain ⟨q, rfl⟩ := vDict0_eq h2
      simp only [okTg] at h1
      split at h1
      · rename_i y hy
        obtain ⟨q2, rfl⟩ := vName_eq hy
        obtain ⟨h3, h4⟩ := and2 h1
        obtain ⟨t1, t2⟩ := C.tg y h4
        exact ps_asg pe_dnewN (pg_name (C.n ▸ C.nd) (C.n ▸ of_decide_eq_true h3) t1 t2) (by rfl) rfl rfl
      · cases h1
    · cases h
  | .rse c, X, sc, W, C, tp, tk, po, st, h => by
    unfold okS at h
    split at h
    · rename_i x hv
      obtain ⟨p, m, j, q, r, t, rfl⟩ := vRse_eq hv
      have hh := and2 h
      have h1 := hh.1
      have h2 := (and2 hh.2).1
      have h3 := (and2 (and2 hh.2).2).1
      have h4 := (and2 (and2 hh.2).2).2
      cases of_decide_eq_true h1
      obtain ⟨ok, xr⟩ := C.xr _ (by simpa using h3)
      have hk := C.k
      subst hk
      exact ps_imp (ps_raise C.calm tk (pmk_own PySem.F.excBase_ValueError xr.q xr.g xr.kp xr.r (glOf C h2) (xall_dbg _ h4))) fun D σ H z => z ok
    · cases h
  | .cst k f es, X, sc, W, C, tp, tk, po, st, h => by
    have call_ : ∀ v, okCl N fs sc f es v = true → PE X v (tCallS (sp f) (WE W) (rdA K sp es)) ∧ isComp v = false ∧ isTupD v = false ∧ (∀ l env, swapsWithSole [] v l env = swapsWithSole [] v l env) := fun v h => by
      unfold okCl at h
      split at h
      · rename_i g xs hv
        obtain ⟨p, q, rfl⟩ := vCall_eq hv
        have hh := and2 h
        have h1 := hh.1
        have h2 := (and2 hh.2).1
        have h3 := (and2 (and2 hh.2).2).1
        have h4 := (and2 (and2 (and2 hh.2).2).2).1
        have h5 := (and2 (and2 (and2 (and2 hh.2).2).2).2).1
        have h6 := (and2 (and2 (and2 (and2 hh.2).2).2).2).2
        cases of_decide_eq_true h1
        obtain ⟨d1, d2⟩ := nDbg_ok h4
        obtain ⟨a, fd, ps, k, F, R, m, kp, b⟩ := C.fn _ (by simpa using h2)
        obtain ⟨A1, A2⟩ := dA K sp N fs es C _ h6
        refine ⟨?_, rfl, rfl, fun _ _ => rfl⟩
        cases xs with
        | nil => cases h5
        | cons y ys =>
          simp only [List.all_cons, Bool.and_eq_true] at A2
          exact pe_callS F R (glOf C h3) m kp b (fun σ => passAt tk σ) A1 d1 (star_cons (not_t A2.1)) (back_any A2.2)
      · cases h
    unfold okS at h
    cases k with
    | asg t =>
      simp only at h
      split at h
      · rename_i tg v p hv
        have ex := vAsg_eq hv
        subst ex
        obtain ⟨h1, h2⟩ := and2 h
        obtain ⟨E, c1, c2, _⟩ := call_ v h2
        have G := dTg C t tg h1
        cases t with
        | tp is =>
          simp only [okTg] at h1
          split at h1
          · rename_i es' hx
            obtain ⟨k, q, rfl⟩ := vTup_eq hx
            exact ps_asg E G (no_sole c1) (no_stores c2) rfl
          · cases h1
        | nm i =>
          simp only [okTg] at h1
          split at h1
          · rename_i y hy
            obtain ⟨q, rfl⟩ := vName_eq hy
            obtain ⟨a1, a2⟩ := and2 h1
            obtain ⟨t1, t2⟩ := C.tg y a2
            exact ps_set (i := i) (C.n ▸ C.nd) (C.n ▸ of_decide_eq_true a1) t1 E (no_swap c1) t2
          · cases h1
      · cases h
    | ret =>
      simp only at h
      split at h
      · rename_i v hv
        obtain ⟨p, rfl⟩ := vRet_eq hv
        exact ps_ret (call_ v h).1
      · cases h
    | exp =>
      simp only at h
      split at h
      · rename_i v hv
        obtain ⟨p, rfl⟩ := vExp_eq hv
        obtain ⟨E, c1, c2, _⟩ := call_ v h
        exact ps_expr E (no_swap c1)
      · cases h
  | .tr b hs, X, sc, W, C, tp, tk, po, st, h => by
    unfold okS at h
    split at h
    · rename_i x y hv
      obtain ⟨h₀, r, p, rfl, rfl⟩ := vTry_eq hv
      obtain ⟨h1, h2⟩ := and2 h
      obtain ⟨H1, H2⟩ := dHs K sp N fs C.cq hs _ h2
      have B : ∀ (W' : WX) (pn : List (Addr × Obj)) (xe : Value → Shared → Prop), Takes (X.tr pn xe) W' → PassesOwn (model X.prog X.w) X.A X.env xe → PSs (X.tr pn xe) x (rdSs K sp b W') :=
        fun W' pn xe tk' po' => dSs b (C.tr pn xe) (tp.tr pn xe) tk' po' x h1
      have T := ps_tryX (X := X) (tb := fun W' => rdSs K sp b W') (pos := p) tp.stk tp.fr tp.ex (C.n ▸ C.nd) tk B H1
      rw [C.k] at T
      exact ps_imp T fun D σ H z => z H2
    · cases h
theorem dSs : ∀ (e : Ss) {X : Cx} {sc : Scope} {W : WX} (C : Cxt X K sp N fs sc sc) (tp : TpX X) (tk : Takes X W) (po : PassesOwn (model X.prog X.w) X.A X.env X.xe) (x : List Stmt), okSs N fs sc e x = true → PSs X x (rdSs K sp e W)
  | .nil, X, sc, W, C, tp, tk, po, xs, h => by
    unfold okSs at h
    cases xs with
    | nil => exact pss_nil
    | cons _ _ => cases h
  | .cons s ss, X, sc, W, C, tp, tk, po, xs, h => by
    unfold okSs at h
    cases xs with
    | nil => cases h
    | cons x r =>
      obtain ⟨h1, h2⟩ := and2 h
      exact pss_cons (dS s C tp tk po x h1) (dSs ss C tp tk po r h2)
  | .frz _ ss, X, sc, W, C, tp, tk, po, xs, h => by
    unfold okSs at h
    exact dSs ss C tp tk po xs h
end
end
end GK

namespace GK
open PySem PySem.Spec PyProof.Rows L2

/-- a def's state in its midst: GL the frozen part that stays at least, (G0, H0) its entry -/
structure StOk (K : PySem.W.Frag) (GL G0 H0 G H : Hp) (σ : L2.St) (ρ : Rho) : Prop where
  st : Step G0 H0 G H
  env : EnvR K G H σ ρ
  own : ∀ (i : Nat) (d : D), ρ[i]? = some (some ⟨.o, d⟩) → ∃ a : Addr, σ[i]? = some (some (.ref a)) ∧ H0 a = none ∧ ∀ (j : Nat) (s : Sl), j ≠ i → ρ[j]? = some (some s) → s.m ≠ .f → σ[j]? ≠ some (some (.ref a))
  lo : Same GL G
  per : ∀ (i : Nat) (d : D), ρ[i]? = some (some ⟨.p, d⟩) → ∃ (a : Addr) (o : HO), σ[i]? = some (some (.ref a)) ∧ H0 a = some o
section
variable {K : PySem.W.Frag} {GL G0 H0 G H G' H' : Hp} {σ : L2.St} {ρ : Rho}
theorem StOk.step (s : StOk K GL G0 H0 G H σ ρ) (S : Step G H G' H') : StOk K GL G0 H0 G' H' σ ρ := ⟨s.st.trans S, s.env.mono S, s.own, s.lo.trans S.gg, s.per⟩
theorem StOk.weak {GM : Hp} (s : StOk K GM G0 H0 G H σ ρ) (S : Same GL GM) : StOk K GL G0 H0 G H σ ρ := ⟨s.st, s.env, s.own, S.trans s.lo, s.per⟩
theorem get_set {α : Type} {l : List α} {i j : Nat} {a b : α} (h : (l.set i a)[j]? = some b) : (i = j ∧ a = b ∧ j < l.length) ∨ (i ≠ j ∧ l[j]? = some b) := by
  by_cases e : i = j
  · subst e
    by_cases hl : i < l.length
    · rw [List.getElem?_set_self hl] at h
      cases h
      exact .inl ⟨rfl, rfl, hl⟩
    · rw [List.getElem?_eq_none (by rw [List.length_set]; omega)] at h
      cases h
  · rw [List.getElem?_set_ne e] at h
    exact .inr ⟨e, h⟩
/-- a frozen thing comes to a slot -/
theorem per_set {σ : L2.St} {ρ : Rho} (h : ∀ (i : Nat) (d : D), ρ[i]? = some (some ⟨.p, d⟩) → ∃ (a : Addr) (o : HO), σ[i]? = some (some (.ref a)) ∧ H0 a = some o) (i : Nat) {t : Sl} (v : V) (hm : t.m ≠ .p) :
    ∀ (j : Nat) (d : D), (ρ.set i (some t))[j]? = some (some ⟨.p, d⟩) → ∃ (a : Addr) (o : HO), (σ.set i (some v))[j]? = some (some (.ref a)) ∧ H0 a = some o := fun j d hj => by
  rcases get_set hj with ⟨_, e, _⟩ | ⟨hne, hj⟩
  · cases e
    exact absurd rfl hm
  · rw [List.getElem?_set_ne hne]
    exact h j d hj
theorem per_setR {σ : L2.St} {ρ : Rho} (h : ∀ (i : Nat) (d : D), ρ[i]? = some (some ⟨.p, d⟩) → ∃ (a : Addr) (o : HO), σ[i]? = some (some (.ref a)) ∧ H0 a = some o) (i : Nat) {t : Sl} (hm : t.m ≠ .p) :
    ∀ (j : Nat) (d : D), (ρ.set i (some t))[j]? = some (some ⟨.p, d⟩) → ∃ (a : Addr) (o : HO), σ[j]? = some (some (.ref a)) ∧ H0 a = some o := fun j d hj => by
  rcases get_set hj with ⟨_, e, _⟩ | ⟨hne, hj⟩
  · cases e
    exact absurd rfl hm
  · exact h j d hj
theorem StOk.setF (s : StOk K GL G0 H0 G H σ ρ) (i : Nat) {v : V} {d : D} (r : Rp K G v d) : StOk K GL G0 H0 G H (σ.set i (some v)) (ρ.set i (some ⟨.f, d⟩)) := by
  refine ⟨s.st, s.env.set i (s := ⟨.f, d⟩) r, fun j d' hj => ?_, s.lo, per_set s.per i v (fun z => nomatch z)⟩
  rcases get_set hj with ⟨rfl, e, _⟩ | ⟨hne, hj⟩
  · cases e
  · obtain ⟨a, h1, h2, h3⟩ := s.own j d' hj
    refine ⟨a, by rw [List.getElem?_set_ne hne]; exact h1, h2, fun k t hk ht hm => ?_⟩
    rcases get_set ht with ⟨rfl, e, _⟩ | ⟨hne2, ht⟩
    · cases e
      exact absurd rfl hm
    · rw [List.getElem?_set_ne hne2]
      exact h3 k t hk ht hm
/-- a new owned thing comes to a slot -/
theorem StOk.setX (s : StOk K GL G0 H0 G H σ ρ) (S : Step G H G' H') (i : Nat) {v : V} {d : D} (r1 : TopX K G' H' v d) (r2 : ∃ a, v = .ref a ∧ H a = none) : StOk K GL G0 H0 G' H' (σ.set i (some v)) (ρ.set i (some ⟨.o, d⟩)) := by
  have s' := s.step S
  obtain ⟨a, rfl, na⟩ := r2
  refine ⟨s'.st, s'.env.set i (s := ⟨.o, d⟩) r1, fun j d' hj => ?_, s'.lo, per_set s'.per i _ (fun z => nomatch z)⟩
  have fresh : ∀ (k : Nat) (t : Sl), ρ[k]? = some (some t) → t.m ≠ .f → σ[k]? ≠ some (some (.ref a)) := fun k t ht hm z => by
    obtain ⟨w, e, q⟩ := s.env.at_ k t ht
    rw [z] at e
    cases e
    obtain ⟨m, dt⟩ := t
    cases m with
    | f => exact hm rfl
    | o =>
      obtain ⟨b, o, e1, _, t1, _⟩ := q
      cases e1
      rw [na] at t1
      cases t1
    | p =>
      obtain ⟨b, o, e1, _, t1, _⟩ := q
      cases e1
      rw [na] at t1
      cases t1
  rcases get_set hj with ⟨rfl, e, hl⟩ | ⟨hne, hj⟩
  · refine ⟨a, by rw [List.getElem?_set_self (by rw [s.env.len]; exact hl)], s.st.hh.free na, fun k t hk ht hm => ?_⟩
    rcases get_set ht with ⟨e2, _⟩ | ⟨hne2, ht⟩
    · exact absurd e2.symm hk
    · rw [List.getElem?_set_ne hne2]
      exact fresh k t ht hm
  · obtain ⟨b, h1, h2, h3⟩ := s.own j d' hj
    refine ⟨b, by rw [List.getElem?_set_ne hne]; exact h1, h2, fun k t hk ht hm => ?_⟩
    rcases get_set ht with ⟨rfl, e, hl⟩ | ⟨hne2, ht⟩
    · rw [List.getElem?_set_self (by rw [s.env.len]; exact hl)]
      intro z
      cases z
      exact fresh j _ hj (fun z => nomatch z) h1
    · rw [List.getElem?_set_ne hne2]
      exact h3 k t hk ht hm
/-- a slot is emptied -/
theorem StOk.gone (s : StOk K GL G0 H0 G H σ ρ) (i : Nat) : StOk K GL G0 H0 G H (σ.set i none) (ρ.set i none) := by
  refine ⟨s.st, ⟨by rw [List.length_set, List.length_set]; exact s.env.len, fun j t ht => ?_⟩, fun j d hj => ?_, s.lo, fun j d hj => ?_⟩
  · rcases get_set ht with ⟨_, e, _⟩ | ⟨hne, ht⟩
    · cases e
    · obtain ⟨v, e, q⟩ := s.env.at_ j t ht
      exact ⟨v, by rw [List.getElem?_set_ne hne]; exact e, q⟩
  · rcases get_set hj with ⟨_, e, _⟩ | ⟨hne, hj⟩
    · cases e
    · obtain ⟨a, h1, h2, h3⟩ := s.own j d hj
      refine ⟨a, by rw [List.getElem?_set_ne hne]; exact h1, h2, fun k t hk ht hm => ?_⟩
      rcases get_set ht with ⟨_, e, _⟩ | ⟨hne2, ht⟩
      · cases e
      · rw [List.getElem?_set_ne hne2]
        exact h3 k t hk ht hm
  · rcases get_set hj with ⟨_, e, _⟩ | ⟨hne, hj⟩
    · cases e
    · obtain ⟨a, o, h1, h2⟩ := s.per j d hj
      exact ⟨a, o, by rw [List.getElem?_set_ne hne]; exact h1, h2⟩
theorem StOk.setO (s : StOk K GL G0 H0 G H σ ρ) (S : Step G H G' H') (i : Nat) {v : V} {d : D} (r : ResR K H G' H' v ⟨.o, d⟩) : StOk K GL G0 H0 G' H' (σ.set i (some v)) (ρ.set i (some ⟨.o, d⟩)) := s.setX S i (Top.x r.1) (r.2 rfl)
/-- what stands at an owned slot -/
theorem StOk.ownedG (s : StOk K GL G0 H0 G H σ ρ) {x : Nat} {d : D} (hd : ρ[x]? = some (some ⟨.o, d⟩)) : ∃ (a : Addr) (o : HO), σ[x]? = some (some (.ref a)) ∧ H0 a = none ∧ G a = none ∧ H a = some o ∧ ShpX K G a o d ∧
    ∀ (j : Nat) (t : Sl), j ≠ x → ρ[j]? = some (some t) → t.m ≠ .f → σ[j]? ≠ some (some (.ref a)) := by
  obtain ⟨a, h1, h2, h3⟩ := s.own x _ hd
  obtain ⟨v, e, q⟩ := s.env.at_ x _ hd
  rw [h1] at e
  cases e
  obtain ⟨b, o, e1, n, t, r⟩ := q
  cases e1
  exact ⟨a, o, h1, h2, n, t, r, h3⟩
theorem ownL_ok {x : Nat} {ρ : Rho} {ds : List D} (h : ownL x ρ = .ok ds) : ρ[x]? = some (some ⟨.o, .list ds⟩) := by
  unfold ownL at h
  split at h
  · rename_i ds' hd
    cases h
    exact hd
  · cases h
theorem StOk.owned (s : StOk K GL G0 H0 G H σ ρ) {x : Nat} {ds : List D} (h : ownL x ρ = .ok ds) : ∃ (a : Addr) (vs : List V), σ[x]? = some (some (.ref a)) ∧ H0 a = none ∧ G a = none ∧ H a = some (.lst vs) ∧ RpA K G vs ds ∧ ρ[x]? = some (some ⟨.o, .list ds⟩) ∧
    ∀ (j : Nat) (t : Sl), j ≠ x → ρ[j]? = some (some t) → t.m ≠ .f → σ[j]? ≠ some (some (.ref a)) := by
  have hd := ownL_ok h
  obtain ⟨a, o, h1, h2, n, t, r, h3⟩ := s.ownedG hd
  have r := r.plain rfl
  cases r with
  | lst r => exact ⟨a, _, h1, h2, n, t, r, hd, h3⟩
/-- an owned thing is changed -/
theorem StOk.mut (s : StOk K GL G0 H0 G H σ ρ) {x : Nat} {d d' : D} {o o' : HO} {a : Addr} (h1 : σ[x]? = some (some (.ref a))) (h2 : H0 a = none) (h3 : G a = none) (h4 : H a = some o) (h5 : ρ[x]? = some (some ⟨.o, d⟩))
    (h6 : ∀ (j : Nat) (t : Sl), j ≠ x → ρ[j]? = some (some t) → t.m ≠ .f → σ[j]? ≠ some (some (.ref a))) (r : ShpX K G a o' d') : StOk K GL G0 H0 G (upd H a o') σ (ρ.set x (some ⟨.o, d'⟩)) := by
  have hx : x < ρ.length := by
    rcases Nat.lt_or_ge x ρ.length with q | q
    · exact q
    · rw [List.getElem?_eq_none q] at h5
      cases h5
  refine ⟨⟨s.st.gg, fun b o e => ?_, fun b o e => ?_, s.st.fr⟩, ⟨by rw [List.length_set]; exact s.env.len, fun j t ht => ?_⟩, fun j d hj => ?_, s.lo, per_setR s.per x (fun z => nomatch z)⟩
  · rw [upd_ne (ne_of_none e h2)]
    exact s.st.hh _ _ e
  · rw [upd_ne (ne_of_none e h3)]
    exact s.st.gh _ _ e
  · rcases get_set ht with ⟨rfl, e, _⟩ | ⟨hne, ht⟩
    · cases e
      exact ⟨_, h1, a, o', rfl, h3, upd_same, r⟩
    · obtain ⟨w, e, q⟩ := s.env.at_ j t ht
      refine ⟨w, e, ?_⟩
      obtain ⟨m, dt⟩ := t
      have top : m ≠ .f → TopX K G H w dt → TopX K G (upd H a o') w dt := fun hm ⟨b, ob, e1, n, t1, r1⟩ => by
        subst e1
        refine ⟨b, ob, rfl, n, ?_, r1⟩
        rw [upd_ne]
        · exact t1
        · intro z
          subst z
          exact h6 j _ (fun z => hne z.symm) ht hm e
      cases m with
      | f => exact q
      | o => exact top (fun z => nomatch z) q
      | p => exact top (fun z => nomatch z) q
  · rcases get_set hj with ⟨rfl, e, _⟩ | ⟨hne, hj⟩
    · refine ⟨a, h1, h2, fun k t hk ht hm => ?_⟩
      rcases get_set ht with ⟨e2, _⟩ | ⟨_, ht⟩
      · exact absurd e2.symm hk
      · exact h6 k t hk ht hm
    · obtain ⟨b, g1, g2, g3⟩ := s.own j d hj
      refine ⟨b, g1, g2, fun k t hk ht hm => ?_⟩
      rcases get_set ht with ⟨rfl, e, _⟩ | ⟨hne2, ht⟩
      · exact g3 x _ hk h5 (fun z => nomatch z)
      · exact g3 k t hk ht hm
/-- an owned thing is frozen -/
theorem StOk.frz (s : StOk K GL G0 H0 G H σ ρ) (i : Nat) : ∃ G', Same G G' ∧ StOk K GL G0 H0 G' H σ (frzR i ρ) := by
  unfold frzR
  split
  · rename_i d hd
    cases hm : nmkD d with
    | false => exact ⟨G, Same.refl _, s⟩
    | true =>
    rw [if_pos rfl]
    obtain ⟨a, h1, h2, h3⟩ := s.own i d hd
    obtain ⟨v, e, q⟩ := s.env.at_ i _ hd
    rw [h1] at e
    cases e
    obtain ⟨b, o, e1, n, t, r⟩ := q
    cases e1
    have sg : Same G (upd G a o) := same_upd n
    have sh : Same (upd G a o) H := fun b x e => by
      by_cases hb : b = a
      · subst hb
        rw [upd_same] at e
        cases e
        exact t
      · rw [upd_ne hb] at e
        exact s.st.gh _ _ e
    refine ⟨upd G a o, sg, ⟨s.st.gg.trans sg, s.st.hh, sh, fun b x e n' => ?_⟩, ⟨by rw [List.length_set]; exact s.env.len, fun j t' ht => ?_⟩, fun j d hj => ?_, s.lo.trans sg, per_setR s.per i (fun z => nomatch z)⟩
    · rw [upd_ne (ne_of_none e h2)]
      exact s.st.fr _ _ e n'
    · rcases get_set ht with ⟨rfl, e, _⟩ | ⟨hne, ht⟩
      · cases e
        exact ⟨_, h1, ((r.plain hm).mono sg).frozen upd_same⟩
      · obtain ⟨w, e, q⟩ := s.env.at_ j t' ht
        refine ⟨w, e, ?_⟩
        obtain ⟨m, dt⟩ := t'
        have top : m ≠ .f → TopX K G H w dt → TopX K (upd G a o) H w dt := fun hm ⟨b, ob, e1, n, t1, r1⟩ => by
          subst e1
          refine ⟨b, ob, rfl, ?_, t1, r1.mono sg⟩
          rw [upd_ne]
          · exact n
          · intro z
            subst z
            exact h3 j _ (fun z => hne z.symm) ht hm e
        cases m with
        | f => exact Rp.mono sg _ _ q
        | o => exact top (fun z => nomatch z) q
        | p => exact top (fun z => nomatch z) q
    · rcases get_set hj with ⟨_, e, _⟩ | ⟨hne, hj⟩
      · cases e
      · obtain ⟨b, g1, g2, g3⟩ := s.own j d hj
        refine ⟨b, g1, g2, fun k t hk ht hm => ?_⟩
        rcases get_set ht with ⟨rfl, e, _⟩ | ⟨hne2, ht⟩
        · cases e
          exact absurd rfl hm
        · exact g3 k t hk ht hm
  · exact ⟨G, Same.refl _, s⟩
theorem setAll_st : ∀ (is : List Nat) (ds : List D) (vs : List V) (ρ ρ' : Rho) (σ : L2.St) (Q : L2.St → Hp → Prop), StOk K GL G0 H0 G H σ ρ → RpA K G vs ds → setAll is ds ρ = some ρ' →
    (∀ σ', StOk K GL G0 H0 G H σ' ρ' → Q σ' H) → (is.foldr (fun i t => gCons (gName i) t) gNil) vs σ H Q
  | [], [], _, ρ, ρ', σ, Q, E, r, e, q => by
    cases r
    cases e
    exact ⟨rfl, q σ E⟩
  | [], _ :: _, _, _, _, _, _, _, _, e, _ => by simp [setAll] at e
  | _ :: _, [], _, _, _, _, _, _, _, e, _ => by simp [setAll] at e
  | i :: is, d :: ds, _, ρ, ρ', σ, Q, E, r, e, q => by
    cases r with
    | cons r1 r2 =>
      simp only [setAll] at e
      exact ⟨_, _, rfl, setAll_st is ds _ _ ρ' _ Q (E.setF i r1) r2 e q⟩
theorem setAll_len : ∀ (is : List Nat) (ds : List D) (ρ ρ' : Rho), setAll is ds ρ = some ρ' → ds.length = is.length := by
  intro is
  induction is with
  | nil => intro ds ρ ρ' e; cases ds <;> simp [setAll] at e ⊢
  | cons i is ih =>
    intro ds ρ ρ' e
    cases ds with
    | nil => simp [setAll] at e
    | cons d ds => simp only [setAll] at e; rw [List.length_cons, List.length_cons, ih ds _ _ e]
/-- a target takes what an expression handed on -/
theorem bind_st {t : Tg} {s : Sl} {v : V} {ρ' : Rho} {Q : L2.St → Hp → Prop} (so : StOk K GL G0 H0 G H σ ρ) (S : Step G H G' H') (r : ResR K H G' H' v s) (e : bindT t s ρ = .ok ρ')
    (q : ∀ σ', StOk K GL G0 H0 G' H' σ' ρ' → Q σ' H') : gTg K t v σ H' Q := by
  cases t with
  | nm i =>
    obtain ⟨m, d⟩ := s
    cases m with
    | f =>
      cases e
      exact q _ ((so.step S).setF i r.1)
    | o =>
      cases e
      exact q _ (so.setO S i r)
    | p => cases e
  | tp is =>
    simp only [bindT] at e
    split at e
    · rename_i ds hd
      split at e
      · rename_i ρ2 e2
        cases e
        have rr := r.1.rdb
        rw [hd] at rr
        obtain ⟨a, vs, rfl, h1, h2⟩ := rr.tuple S.gh
        exact .inl ⟨a, vs, rfl, h1, by rw [h2.length, setAll_len is ds ρ _ e2], setAll_st is ds vs ρ _ σ Q (so.step S) h2 e2 q⟩
      · cases e
    · rename_i ds hd
      split at e
      · rename_i ρ2 e2
        cases e
        have rr := r.1.rdb
        rw [hd] at rr
        obtain ⟨a, vs, rfl, h1, h2⟩ := rr.list S.gh
        exact .inr ⟨a, vs, rfl, h1, by rw [h2.length, setAll_len is ds ρ _ e2], setAll_st is ds vs ρ _ σ Q (so.step S) h2 e2 q⟩
      · cases e
    · cases e
end
/-- what is wanted behind a statement -/
def FlR (K : PySem.W.Frag) (GL G0 H0 : Hp) (W : WX) (fl : Fl) (D : Ends) : Prop := match fl with
  | .nx ρ' => ∀ σ' G' H', StOk K GL G0 H0 G' H' σ' ρ' → D.nx σ' H'
  | .bk ρ' => ∀ σ' G' H', StOk K GL G0 H0 G' H' σ' ρ' → D.bk σ' H'
  | .ct ρ' => ∀ σ' G' H', StOk K GL G0 H0 G' H' σ' ρ' → D.ct σ' H'
  | .rt r => ∀ G' H' v, Step G0 H0 G' H' → ResR K H0 G' H' v r → D.rt v H'
  | .rz c ρ' => ∀ σ' G' H', StOk K GL G0 H0 G' H' σ' ρ' → XcOk K c → W (.ref (xga K c)) none σ' H'
/-- the promises of all defs, exceptions too -/
abbrev HspX (K : PySem.W.Frag) (sp : Str → Sp) (cl : Str → List Sl → M Sl) : Prop := ∀ (f : Str) (vs : List V) (H G : Hp) (ss : List Sl) (Q : VK) (E : XK), Same G H → ArgsR K G H vs ss → dspR K G H Q E (cl f ss) → sp f vs H Q E
theorem exm_map {K : PySem.W.Frag} {c : Str} (x : XcOk K c) : ∀ {cs : List Str}, (cs.all xall.contains) = true → (∀ d ∈ cs, XKn K d) → PySem.W.exmAny K (.ref (xga K c)) (cs.map (clsV K)) = some (cs.any (xsub c))
  | [], _, _ => rfl
  | d :: cs, h, k => by
    rw [List.all_cons] at h
    obtain ⟨h1, h2⟩ := and2 h
    have e1 := x.mt d h1 (k d List.mem_cons_self)
    have e2 := exm_map x h2 fun d' hd => k d' (List.mem_cons_of_mem _ hd)
    rw [List.map_cons, List.any_cons]
    unfold PySem.W.exmAny
    simp only [e1, e2]
section
variable (K : PySem.W.Frag) (sp : Str → Sp) (cl : Str → List Sl → M Sl) (fu : Nat) {GL G0 H0 : Hp}
/-- what a loop may walk: a frozen thing, or one that was lent -/
theorem srcL {G H : Hp} {σ : L2.St} {ρ : Rho} {e : E} {x : Sl} (so : StOk K GL G0 H0 G H σ ρ) (e1 : evE cl e ρ = .ok x) (hp : npE cl e ρ = true) {G1 H1 : Hp} {v : V} (S1 : Step G H G1 H1) (r1 : ResR K H G1 H1 v x) (hv : ∀ i, e = .var i → σ[i]? = some (some v)) :
    ∃ G2 B, Step G H G2 H1 ∧ (B = G2 ∨ B = H0) ∧
      (∀ ds, x.d = .list ds → ∃ a vs, v = .ref a ∧ SqL K B a vs ∧ RpA K G2 vs ds) ∧ (∀ ds, x.d = .tuple ds → ∃ a vs, v = .ref a ∧ SqT K B a vs ∧ RpA K G2 vs ds) := by
  obtain ⟨m, d⟩ := x
  have fr : m ≠ .p → ∃ G2 B, Step G H G2 H1 ∧ (B = G2 ∨ B = H0) ∧
      (∀ ds, d = .list ds → ∃ a vs, v = .ref a ∧ SqL K B a vs ∧ RpA K G2 vs ds) ∧ (∀ ds, d = .tuple ds → ∃ a vs, v = .ref a ∧ SqT K B a vs ∧ RpA K G2 vs ds) := fun hm => by
    obtain ⟨G2, S2, r2⟩ : ∃ G2, Step G H G2 H1 ∧ Rp K G2 v d := by
      cases m with
      | f =>
        obtain ⟨G2, S2, _, r2, _⟩ := freeze (d := d) S1 r1 rfl
        exact ⟨G2, S2, r2⟩
      | o =>
        obtain ⟨G2, S2, _, r2, _⟩ := freeze (d := d) S1 r1 rfl
        exact ⟨G2, S2, r2⟩
      | p => exact absurd rfl hm
    refine ⟨G2, G2, S2, .inl rfl, fun ds e => ?_, fun ds e => ?_⟩
    · subst e
      cases r2 with
      | lst ra qa => exact ⟨_, _, rfl, ra, qa⟩
    · subst e
      cases r2 with
      | tup ra qa => exact ⟨_, _, rfl, ra, qa⟩
  by_cases hm : m = .p
  · subst hm
    have hl : lentE e ρ = true := by
      unfold npE at hp
      rw [e1] at hp
      simpa using hp
    unfold lentE at hl
    split at hl
    · rename_i i
      split at hl
      · rename_i d' hd
        simp only [evE, hd] at e1
        cases e1
        obtain ⟨a, o, h1, h2⟩ := so.per i _ hd
        have hvi := hv i rfl
        rw [h1] at hvi
        cases hvi
        refine ⟨G1, H0, S1, .inr rfl, fun ds e => ?_, fun ds e => ?_⟩
        · have e : d = .list ds := e
          subst e
          obtain ⟨b, ob, e2, n, t, sh⟩ := r1.1
          cases e2
          have sh : Shp K G1 ob (.list ds) := sh.plain rfl
          cases sh with
          | @lst vs _ q =>
            have := S1.hh _ _ (so.st.hh _ _ h2)
            rw [this] at t
            cases t
            exact ⟨a, vs, rfl, .inl (.inl h2), q⟩
        · have e : d = .tuple ds := e
          subst e
          obtain ⟨b, ob, e2, n, t, sh⟩ := r1.1
          have sh : Shp K G1 ob (.tuple ds) := sh.plain rfl
          cases sh
      · cases hl
    · cases hl
  · exact fr hm
theorem itemsD_ok {d : D} {xs : List D} (h : itemsD d = .ok xs) : d = .list xs ∨ d = .tuple xs := by
  unfold itemsD at h
  split at h
  · cases h; exact .inl rfl
  · cases h; exact .inr rfl
  · cases h
/-- an expression, and that a name's value is the slot's -/
theorem semV (hsp : Hsp K sp cl) (e : E) {σ : L2.St} {H G : Hp} {ρ : Rho} {s : Sl} (Q : VK) (so : StOk K GL G0 H0 G H σ ρ) (h : evE cl e ρ = .ok s) (q : ∀ G' H' v, Step G H G' H' → ResR K H G' H' v s → (∀ i, e = .var i → σ[i]? = some (some v)) → Q v H') : rdE K sp e σ H Q := by
  by_cases hv : ∃ i, e = .var i
  · obtain ⟨i, rfl⟩ := hv
    simp only [evE] at h
    split at h
    · rename_i d hd
      cases h
      obtain ⟨v, e1, r⟩ := so.env.at_ _ _ hd
      exact ⟨v, e1, q G H v (.refl so.st.gh) (.f r) fun j ej => by cases ej; exact e1⟩
    · rename_i m d hn hd
      cases h
      obtain ⟨v, e1, r⟩ := so.env.at_ _ _ hd
      have r' : TopX K G H v d := by
        cases m with
        | f => exact (hn rfl).elim
        | o => exact r
        | p => exact r
      exact ⟨v, e1, q G H v (.refl so.st.gh) ⟨r', fun z => nomatch z⟩ fun j ej => by cases ej; exact e1⟩
    · cases h
  · exact semE K sp cl hsp e _ so.st.gh so.env h fun G' H' v S r => q G' H' v S r fun i ei => absurd ⟨i, ei⟩ hv
theorem seqB {G H G2 H1 B : Hp} {σ : L2.St} {ρ : Rho} {a : Addr} {vs : List V} (so : StOk K GL G0 H0 G H σ ρ) (S2 : Step G H G2 H1) (hB : B = G2 ∨ B = H0) (h : SqL K B a vs) : SqL K H1 a vs := by
  rcases hB with rfl | rfl
  · exact S2.gh.seq h
  · exact (so.st.hh.trans S2.hh).seq h
theorem seqBT {G H G2 H1 B : Hp} {σ : L2.St} {ρ : Rho} {a : Addr} {vs : List V} (so : StOk K GL G0 H0 G H σ ρ) (S2 : Step G H G2 H1) (hB : B = G2 ∨ B = H0) (h : SqT K B a vs) : SqT K H1 a vs := by
  rcases hB with rfl | rfl
  · exact SqT.mono S2.gh h
  · exact SqT.mono (so.st.hh.trans S2.hh) h
theorem frz_np {G H G1 H1 : Hp} {v : V} {x : Sl} (S1 : Step G H G1 H1) (r1 : ResR K H G1 H1 v x) (h : x.m ≠ .p) : ∃ G2, Step G H G2 H1 ∧ Rp K G2 v x.d := by
  obtain ⟨m, d⟩ := x
  cases m with
  | f =>
    obtain ⟨G2, S2, _, r2, _⟩ := freeze (d := d) S1 r1 rfl
    exact ⟨G2, S2, r2⟩
  | o =>
    obtain ⟨G2, S2, _, r2, _⟩ := freeze (d := d) S1 r1 rfl
    exact ⟨G2, S2, r2⟩
  | p => exact absurd rfl h
theorem npZ {e : E} {ρ : Rho} {x : Sl} (e1 : evE cl e ρ = .ok x) (h : nqE cl e ρ = true) : x.m ≠ .p := by
  unfold nqE at h
  rw [e1] at h
  obtain ⟨m, d⟩ := x
  cases m with
  | p => cases h
  | f => exact fun z => nomatch z
  | o => exact fun z => nomatch z
/-- a loop's source -/
theorem semL (hsp : Hsp K sp cl) : ∀ (i : Iu) {σ : L2.St} {H G : Hp} {ρ : Rho} {xs : List D} (R : It → Hp → Prop), StOk K GL G0 H0 G H σ ρ → evI cl i ρ = .ok xs → notP cl i ρ = true →
    (∀ J G' H' B, Step G H G' H' → (B = G' ∨ B = H0) → IterR K G' B J xs → R J H') → rdI K sp i σ H R
  | .rg1 a, σ, H, G, ρ, xs, R, so, h, _, q => by
    simp only [evI] at h
    obtain ⟨x, e1, h⟩ := bind_ok h
    refine semE K sp cl hsp a _ so.st.gh so.env e1 fun G1 H1 v S1 r1 => ?_
    split at h
    · rename_i j hj
      have r := r1.1.rdb
      rw [hj] at r
      obtain ⟨a1, a2, a3, a4, rfl⟩ := rng_ok h
      refine ⟨j, by rw [r.int], a3, a4, q _ G1 H1 G1 S1 (.inl rfl) ?_⟩
      rw [Int.sub_zero]
      exact iter_rng
    · cases h
  | .rg2 a b, σ, H, G, ρ, xs, R, so, h, _, q => by
    simp only [evI] at h
    obtain ⟨x, e1, h⟩ := bind_ok h
    obtain ⟨y, e2, h⟩ := bind_ok h
    refine semE K sp cl hsp a _ so.st.gh so.env e1 fun G1 H1 v1 S1 r1 => semE K sp cl hsp b _ S1.gh (so.env.mono S1) e2 fun G2 H2 v2 S2 r2 => ?_
    split at h
    · rename_i i j hi hj
      have ra := r1.1.rdb
      rw [hi] at ra
      have rb := r2.1.rdb
      rw [hj] at rb
      obtain ⟨a1, a2, a3, a4, rfl⟩ := rng_ok h
      exact ⟨i, j, by rw [ra.int, rb.int], ⟨a1, a2, a3, a4⟩, q _ G2 H2 G2 (S1.trans S2) (.inl rfl) iter_rng⟩
    · cases h
  | .seq e, σ, H, G, ρ, xs, R, so, h, hp, q => by
    simp only [evI] at h
    obtain ⟨x, e1, h⟩ := bind_ok h
    simp only [notP] at hp
    rcases itemsD_ok h with hd | hd
    · refine .inl (semV K sp cl hsp e _ so e1 fun G1 H1 v1 S1 r1 hv => ?_)
      obtain ⟨G2, B, S2, hB, hl, _⟩ := srcL K cl so e1 hp S1 r1 hv
      obtain ⟨a, vs, rfl, ra, qa⟩ := hl _ hd
      exact ⟨a, rfl, ⟨vs, seqB K so S2 hB ra⟩, q _ G2 H1 B S2 hB (iter_list ra qa)⟩
    · refine .inr (semV K sp cl hsp e _ so e1 fun G1 H1 v1 S1 r1 hv => ?_)
      obtain ⟨G2, B, S2, hB, _, hl⟩ := srcL K cl so e1 hp S1 r1 hv
      obtain ⟨a, vs, rfl, ra, qa⟩ := hl _ hd
      exact ⟨a, rfl, ⟨vs, seqBT K so S2 hB ra⟩, q _ G2 H1 B S2 hB (iter_tup ra qa)⟩
  | .rg3 a b c, σ, H, G, ρ, xs, R, so, h, _, q => by
    simp only [evI] at h
    obtain ⟨x, e1, h⟩ := bind_ok h
    obtain ⟨y, e2, h⟩ := bind_ok h
    obtain ⟨z, e3, h⟩ := bind_ok h
    refine semE K sp cl hsp a _ so.st.gh so.env e1 fun G1 H1 v1 S1 r1 => semE K sp cl hsp b _ S1.gh (so.env.mono S1) e2 fun G2 H2 v2 S2 r2 => semE K sp cl hsp c _ S2.gh ((so.env.mono S1).mono S2) e3 fun G3 H3 v3 S3 r3 => ?_
    split at h
    · rename_i i j k hi hj hk
      have ra := r1.1.rdb
      rw [hi] at ra
      have rb := r2.1.rdb
      rw [hj] at rb
      have rc := r3.1.rdb
      rw [hk] at rc
      obtain ⟨g, rfl⟩ := rng3_ok h
      exact ⟨i, j, k, _, by rw [ra.int, rb.int, rc.int], g, q _ G3 H3 G3 ((S1.trans S2).trans S3) (.inl rfl) iter_rngC⟩
    · cases h
  | .enm e, σ, H, G, ρ, xs, R, so, h, hp, q => by
    simp only [evI] at h
    obtain ⟨x, e1, h⟩ := bind_ok h
    obtain ⟨ds, e2, h⟩ := bind_ok h
    cases pure_ok h
    simp only [notP] at hp
    rcases itemsD_ok e2 with hd | hd
    · refine .inl (semV K sp cl hsp e _ so e1 fun G1 H1 v1 S1 r1 hv => ?_)
      obtain ⟨G2, B, S2, hB, hl, _⟩ := srcL K cl so e1 hp S1 r1 hv
      obtain ⟨a, vs, rfl, ra, qa⟩ := hl _ hd
      exact ⟨a, vs, rfl, seqB K so S2 hB ra, q _ G2 H1 B S2 hB (iter_enum ra qa)⟩
    · refine .inr (semV K sp cl hsp e _ so e1 fun G1 H1 v1 S1 r1 hv => ?_)
      obtain ⟨G2, B, S2, hB, _, hl⟩ := srcL K cl so e1 hp S1 r1 hv
      obtain ⟨a, vs, rfl, ra, qa⟩ := hl _ hd
      exact ⟨a, vs, rfl, seqBT K so S2 hB ra, q _ G2 H1 B S2 hB (iter_enumT ra qa)⟩
  | .zp a b, σ, H, G, ρ, xs, R, so, h, hp, q => by
    simp only [evI] at h
    obtain ⟨x, e1, h⟩ := bind_ok h
    obtain ⟨y, e2, h⟩ := bind_ok h
    simp only [notP] at hp
    obtain ⟨hp1, hp2⟩ := and2 hp
    have f1 := npZ cl e1 hp1
    have f2 := npZ cl e2 hp2
    refine semE K sp cl hsp a _ so.st.gh so.env e1 fun G1 H1 v1 S1 r1 => ?_
    obtain ⟨G2, S2, r2⟩ := frz_np K S1 r1 f1
    refine semE K sp cl hsp b _ S2.gh (so.env.mono S2) e2 fun G3 H3 v3 S3 r3 => ?_
    obtain ⟨G4, S4, r4⟩ := frz_np K S3 r3 f2
    have r2 := Rp.mono S4.gg _ _ r2
    unfold pairD at h
    split at h
    · rename_i xs' ys' hx hy
      cases h
      rw [hx] at r2
      rw [hy] at r4
      cases r2 with
      | lst ra qa =>
        cases r4 with
        | lst rb qb => exact ⟨_, _, _, _, rfl, .inl ⟨S4.gh.seq ra, S4.gh.seq rb, q _ G4 H3 G4 (S2.trans S4) (.inl rfl) (iter_zip ra rb qa qb)⟩⟩
    · rename_i xs' ys' hx hy
      cases h
      rw [hx] at r2
      rw [hy] at r4
      cases r2 with
      | tup ra qa =>
        cases r4 with
        | tup rb qb => exact ⟨_, _, _, _, rfl, .inr ⟨SqT.mono S4.gh ra, SqT.mono S4.gh rb, q _ G4 H3 G4 (S2.trans S4) (.inl rfl) (iter_zipT ra rb qa qb)⟩⟩
    · cases h
  | .rev e, σ, H, G, ρ, xs, R, so, h, hp, q => by
    simp only [evI] at h
    obtain ⟨x, e1, h⟩ := bind_ok h
    obtain ⟨ds, e2, h⟩ := bind_ok h
    cases pure_ok h
    simp only [notP] at hp
    refine semV K sp cl hsp e _ so e1 fun G1 H1 v1 S1 r1 hv => ?_
    obtain ⟨G2, B, S2, hB, hl, hl'⟩ := srcL K cl so e1 hp S1 r1 hv
    rcases itemsD_ok e2 with hd | hd
    · obtain ⟨a, vs, rfl, ra, qa⟩ := hl _ hd
      exact ⟨a, vs, rfl, .inl ⟨seqB K so S2 hB ra, q _ G2 H1 B S2 hB (iter_rev ra qa)⟩⟩
    · obtain ⟨a, vs, rfl, ra, qa⟩ := hl' _ hd
      exact ⟨a, vs, rfl, .inr ⟨seqBT K so S2 hB ra, q _ G2 H1 B S2 hB (iter_revT ra qa)⟩⟩
  | .rvr a, σ, H, G, ρ, xs, R, so, h, _, q => by
    simp only [evI] at h
    obtain ⟨x, e1, h⟩ := bind_ok h
    refine semE K sp cl hsp a _ so.st.gh so.env e1 fun G1 H1 v S1 r1 => ?_
    split at h
    · rename_i j hj
      obtain ⟨ys, e2, h⟩ := bind_ok h
      cases pure_ok h
      have r := r1.1.rdb
      rw [hj] at r
      obtain ⟨a1, a2, a3, a4, rfl⟩ := rng_ok e2
      exact ⟨j, r.int, by decide, by decide, a3, a4, q _ G1 H1 G1 S1 (.inl rfl) iter_rvr⟩
    · cases h
theorem seqIx_nat {k : Int} {n : Nat} (h0 : 0 ≤ k) (h : k.toNat < n) : seqIndex? k n = some k.toNat := by
  unfold seqIndex?
  have h1 : ¬ k < 0 := by omega
  have h2 : (decide (0 ≤ k) && decide (k < (n : Int))) = true := by
    rw [decide_eq_true h0, decide_eq_true (show k < (n : Int) by omega)]
    rfl
  simp only [h1, if_false, h2, if_true]
/-- what a part that changes something comes to -/
def ErR (K : PySem.W.Frag) (GL G0 H0 : Hp) (W : WX) (σ : L2.St) (ρ : Rho) (Q : VK) : Er → Prop
  | .v s ρ' => ∀ Gb Hb G' H' v, StOk K GL G0 H0 Gb Hb σ ρ' → Step Gb Hb G' H' → ResR K Hb G' H' v s → Q v H'
  | .rz c => ∀ G' H', StOk K GL G0 H0 G' H' σ ρ → XcOk K c → W (.ref (xga K c)) none σ H'
theorem semEf (hsp : Hsp K sp cl) (hx : HspX K sp cl) : ∀ (e : Ef) {GL : Hp} {W : WX} {σ : L2.St} {H G : Hp} {ρ : Rho} {r : Er} (Q : VK), StOk K GL G0 H0 G H σ ρ → efX cl e ρ = .ok r → ErR K GL G0 H0 W σ ρ Q r → rdEf K sp W e σ H Q
  | .call f es, GL, W, σ, H, G, ρ, r, Q, so, h, q => by
    simp only [efX] at h
    obtain ⟨ss, e1, h⟩ := bind_ok h
    refine semA K sp cl hsp es _ so.st.gh so.env e1 fun G1 H1 vs S1 r1 => hx f vs H1 G1 ss Q _ S1.gh r1 ?_
    cases e : cl f ss with
    | error er =>
      rw [e] at h
      cases er with
      | stuck => cases h
      | raised c =>
        cases h
        exact fun G' H' S' xo => q G' H' (so.step (S1.trans S')) xo
    | ok s =>
      rw [e] at h
      cases h
      exact fun G' H' v S' r' => q G1 H1 G' H' v (so.step S1) S' r'
  | .pop x, GL, W, σ, H, G, ρ, r, Q, so, h, q => by
    simp only [efX, popG] at h
    split at h
    · rename_i ds hd
      split at h
      · rename_i d hi
        cases h
        obtain ⟨a, o, o1, o2, o3, o4, sh, o7⟩ := so.ownedG hd
        have sh := sh.plain rfl
        cases sh with
        | @lst vs _ o5 =>
          obtain ⟨w, w1, w2⟩ := o5.get hi
          have so' := so.mut o1 o2 o3 o4 hd o7 (.base (.lst o5.dropL))
          exact ⟨.ref a, o1, .inl ⟨rfl, _, .inl (.inl o4)⟩, a, vs, w, rfl, rfl, o4, by rw [o5.length]; exact w1, q G _ G _ w so' (.refl so'.st.gh) (.f w2)⟩
      · cases h
    · cases h
  | .popA x i, GL, W, σ, H, G, ρ, r, Q, so, h, q => by
    simp only [efX] at h
    obtain ⟨y, e1, h⟩ := bind_ok h
    unfold popGA at h
    split at h
    · rename_i ds hd
      obtain ⟨a, o, o1, o2, o3, o4, sh, o7⟩ := so.ownedG hd
      have sh := sh.plain rfl
      cases sh with
      | @lst vs _ o5 =>
        refine ⟨.ref a, o1, .inl ⟨rfl, _, .inl (.inl o4)⟩, semE K sp cl hsp i _ so.st.gh so.env e1 fun G1 H1 u S1 r1 => ?_⟩
        split at h
        · rename_i k hk
          split at h
          · rename_i hb
            obtain ⟨b1, b2⟩ := and2 hb
            have b1 := of_decide_eq_true b1
            have b2 := of_decide_eq_true b2
            split at h
            · rename_i d hi
              cases h
              have rk := r1.1.rdb
              rw [hk] at rk
              have eu := rk.int
              subst eu
              obtain ⟨w, w1, w2⟩ := o5.get hi
              have hlt : k.toNat < vs.length := by
                rcases Nat.lt_or_ge k.toNat vs.length with z | z
                · exact z
                · rw [List.getElem?_eq_none z] at w1
                  cases w1
              have so' := (so.step S1).mut o1 o2 (S1.fr _ _ o4 o3) (S1.hh _ _ o4) hd o7 (.base (.lst ((o5.mono S1.gg).erase k.toNat)))
              exact ⟨a, vs, k, k.toNat, w, rfl, rfl, S1.hh _ _ o4, by omega, by omega, seqIx_nat b1 hlt, w1, q G1 _ G1 _ w so' (.refl so'.st.gh) (.f (Rp.mono S1.gg _ _ w2))⟩
            · cases h
          · cases h
        · cases h
    · cases h
  | .popK x i, GL, W, σ, H, G, ρ, r, Q, so, h, q => by
    simp only [efX] at h
    obtain ⟨y, e1, h⟩ := bind_ok h
    unfold popGK at h
    split at h
    · rename_i ds hd
      split at h
      · rename_i hb
        obtain ⟨b1, b2⟩ := and2 hb
        split at h
        · rename_i d hl
          cases h
          obtain ⟨a, o, o1, o2, o3, o4, sh, o7⟩ := so.ownedG hd
          have sh := sh.plain b2
          cases sh with
          | @dct vs _ o5 =>
            refine ⟨.ref a, o1, a, rfl, .inl ⟨vs, .inl o4⟩, semE K sp cl hsp i _ so.st.gh so.env e1 fun G1 H1 u S1 r1 => ?_⟩
            obtain ⟨k', ek⟩ := key_of b1
            have rk := r1.1.rdb
            rw [ek] at rk hl q
            have eu := rk.key
            subst eu
            rcases RpK.look (k := k') o5 with ⟨_, z⟩ | ⟨w, d', w1, w2, w3⟩
            · rw [z] at hl
              cases hl
            · rw [w2] at hl
              cases hl
              have so' := (so.step S1).mut o1 o2 (S1.fr _ _ o4 o3) (S1.hh _ _ o4) hd o7 (.base (.dct (RpK.drop (k := k') (o5.mono S1.gg))))
              exact ⟨vs, k', w, S1.hh _ _ o4, rfl, w1, q G1 _ G1 _ w so' (.refl so'.st.gh) (.f (Rp.mono S1.gg _ _ w3))⟩
        · cases h
      · cases h
    · cases h
theorem nmk_put {qs : List (PyData × PyData)} {k v : PyData} (hk : keyOk k = true) (h : nmk qs = true) : nmk (putD qs k v) = true := by
  unfold putD
  by_cases e : (qs.any fun p => keq p.1 k) = true
  · rw [if_pos e]
    cases qs with
    | nil => rfl
    | cons q qs =>
      obtain ⟨q1, q2⟩ := q
      rw [List.map_cons]
      by_cases e2 : keq (q1, q2).1 k = true
      · rw [if_pos e2]
        cases q1 <;> first | rfl | exact h
      · rw [if_neg e2]
        cases q1 <;> first | rfl | exact h
  · rw [if_neg e]
    cases qs with
    | nil => cases k <;> first | rfl | cases hk
    | cons q qs =>
      obtain ⟨q1, q2⟩ := q
      cases q1 <;> first | rfl | exact h
theorem fstB_len (t : Nat) (ds : List PyData) (ρ : Rho) (i : Nat) : (fstB t ds ρ i).length = ρ.length := by
  cases i with
  | zero => rfl
  | succ j =>
    simp only [fstB]
    split
    · exact List.length_set
    · rfl
theorem fstB_succ {t : Nat} {ds : List PyData} {ρ : Rho} {i : Nat} {d : PyData} (h : ds[i]? = some d) : (fstB t ds ρ i).set t (some ⟨.f, d⟩) = fstB t ds ρ (i + 1) := by
  have e : fstB t ds ρ (i + 1) = ρ.set t (some ⟨.f, d⟩) := by
    simp only [fstB, h]
  rw [e]
  cases i with
  | zero => rfl
  | succ j =>
    simp only [fstB]
    split
    · exact List.set_set ..
    · rfl
/-- a reading that hands on just s, the slots being ρ' -/
def TV (K : PySem.W.Frag) (GL G0 H0 : Hp) (σ : L2.St) (H : Hp) (ρ' : Rho) (t : TE) (s : Sl) : Prop := ∀ Q : VK, (∀ Gb Hb G' H' v, StOk K GL G0 H0 Gb Hb σ ρ' → Step Gb Hb G' H' → ResR K Hb G' H' v s → Q v H') → t σ H Q
theorem semPo {σ : L2.St} {H G : Hp} {ρ ρ' : Rho} {t : TE} {s : Sl} (so : StOk K GL G0 H0 G H σ ρ) (T : TV K GL G0 H0 σ H ρ' t s) : ∀ (p : Po) (s' : Sl), poE ρ ρ' p s = .ok s' → TV K GL G0 H0 σ H ρ' (rdPo K t p) s'
  | .hd, s', h => by
    cases h
    exact T
  | .ixn p n, s', h => by
    simp only [poE] at h
    obtain ⟨x, e1, h⟩ := bind_ok h
    intro Q q
    refine semPo so T p x e1 _ fun Gb Hb G' H' v so' S r => ?_
    have nd : ¬ ∃ ds, x.d = .dict ds := by
      rintro ⟨ds, e⟩
      rw [e] at h
      cases h
    have h' : ixD x.d (.int (n : Int)) = .ok s' := by
      split at h
      · rename_i ds e
        exact (nd ⟨ds, e⟩).elim
      · exact h
    exact ixD_sem nd S.gh r.1.rdb (.inl (.int _)) h' fun G2 H2 w S2 r2 => q Gb Hb G2 H2 w so' (S.trans S2) (r2.back S.hh)
  | .isN p, s', h => by
    simp only [poE] at h
    obtain ⟨x, e1, h⟩ := bind_ok h
    cases pure_ok h
    intro Q q
    refine semPo so T p x e1 _ fun Gb Hb G' H' v so' S r => ⟨rfl, ?_⟩
    rw [r.1.rdb.none_iff]
    exact q Gb Hb G' H' _ so' S (.f (.bl _))
  | .eqS p z, s', h => by
    simp only [poE] at h
    obtain ⟨x, e1, h⟩ := bind_ok h
    obtain ⟨b, e2, h⟩ := bind_ok h
    cases pure_ok h
    intro Q q
    refine semPo so T p x e1 _ fun Gb Hb G' H' v so' S r => ?_
    exact cmpop_sem S.gh r.1.rdb (.inl (.str _)) e2 (q Gb Hb G' H' _ so' S (.f (.bl _)))
  | .lst1 p, s', h => by
    simp only [poE] at h
    obtain ⟨x, e1, h⟩ := bind_ok h
    obtain ⟨d, e2, h⟩ := bind_ok h
    cases pure_ok h
    intro Q q
    refine semPo so T p x e1 _ fun Gb Hb G' H' v so' S r => ?_
    obtain ⟨G2, S2, _, r2, _⟩ := freeze S r e2
    refine ⟨by show 1 ≤ sizeLine; decide, fun p hp => ?_⟩
    have rn : ResR K H' G2 (upd H' p (.lst [v])) (.ref p) ⟨.o, .list [d]⟩ := .new S2.gh hp (.cons r2 .nil)
    exact q Gb Hb G2 _ _ so' (S2.trans (.new S2.gh hp)) (rn.back S2.hh)
  | .opI op a p, s', h => by
    simp only [poE] at h
    obtain ⟨x, e1, h⟩ := bind_ok h
    intro Q q
    refine semPo so T p x e1 _ fun Gb Hb G' H' v so' S r => ?_
    have sx : SlR K G' H' (.int (a : Int)) ⟨.f, .int (a : Int)⟩ := Rp.int _
    exact binop_sem S.gh sx r.1.rdb h fun G2 H2 w S2 r2 => q Gb Hb G2 H2 w so' (S.trans S2) (r2.back S.hh)
  | .ixv y p, s', h => by
    simp only [poE] at h
    obtain ⟨x, e1, h⟩ := bind_ok h
    split at h
    · rename_i s0 m ds hy hy'
      split at h
      · rename_i hk
        obtain ⟨v0, ev, _⟩ := so.env.at_ _ _ hy
        intro Q q
        refine ⟨v0, ev, semPo so T p x e1 _ fun Gb Hb G' H' v so' S r => ?_⟩
        obtain ⟨v1, ev1, r1⟩ := so'.env.at_ _ _ hy'
        rw [ev] at ev1
        cases ev1
        have rd : Rdb K G' H' v0 (.dict ds) := by
          cases m with
          | f => exact Rdb.mono S (.inl r1)
          | o => exact Rdb.mono S (.inr r1)
          | p => exact Rdb.mono S (.inr r1)
        exact ixD_dictK hk S.gh rd r.1.rdb h fun G2 H2 w S2 r2 => q Gb Hb G2 H2 w so' (S.trans S2) (r2.back S.hh)
      · cases h
    · cases h
theorem semPoX {σ : L2.St} {H : Hp} {t : TE} (T : ∀ Q : VK, t σ H Q) : ∀ (p : Po), poX p = true → ∀ Q : VK, rdPo K t p σ H Q
  | .hd, _, Q => T Q
  | .ixn p n, h, Q => semPoX T p h _
  | .isN p, h, Q => semPoX T p h _
  | .eqS p z, h, Q => semPoX T p h _
  | .lst1 p, h, Q => semPoX T p h _
  | .opI op a p, h, Q => semPoX T p h _
  | .ixv y p, h, Q => by cases h
theorem semSet (hsp : Hsp K sp cl) (x : Nat) (i : E) {GL : Hp} {W : WX} {σ : L2.St} {H1 G2 : Hp} {ρ : Rho} {v : D} {w : V} {j : Sl} {fl : Fl} (D : Ends) (so2 : StOk K GL G0 H0 G2 H1 σ ρ) (e3 : evE cl i ρ = .ok j) (r2 : Rp K G2 w v) (h : setO x ρ v j.d = .ok fl)
    (q : FlR K GL G0 H0 W fl D) : gSub (tVar x) (rdE K sp i) (rSet2 K) w σ H1 D.nx := by
    unfold setO at h
    split at h
    · rename_i ds hx
      obtain ⟨a, o, o1, o2, o3, o4, sh, o7⟩ := so2.ownedG hx
      have sh := sh.plain rfl
      cases sh with
      | @lst vs _ o5 =>
        refine ⟨.ref a, o1, semE K sp cl hsp i _ so2.st.gh so2.env e3 fun G3 H3 k S3 r3 => .inl ?_⟩
        split at h
        · rename_i n hn
          split at h
          · rename_i m hm
            cases h
            have rk := r3.1.rdb
            rw [hn] at rk
            have so3 := so2.step S3
            refine ⟨a, vs, n, m, rfl, rk.int, S3.hh _ _ o4, by rw [o5.length]; exact hm, ?_⟩
            exact q σ G3 _ (so3.mut o1 o2 (S3.fr _ _ o4 o3) (S3.hh _ _ o4) hx o7 (.base (.lst ((o5.mono S3.gg).set (Rp.mono S3.gg _ _ r2) m))))
          · cases h
        · cases h
    · rename_i ds hx
      obtain ⟨a, o, o1, o2, o3, o4, sh, o7⟩ := so2.ownedG hx
      split at h
      · rename_i hk
        obtain ⟨hk, hl⟩ := and2 hk
        obtain ⟨hk, hm⟩ := and2 hk
        have sh := sh.plain hm
        cases sh with
        | @dct vs _ o5 =>
          refine ⟨.ref a, o1, semE K sp cl hsp i _ so2.st.gh so2.env e3 fun G3 H3 k S3 r3 => .inr (.inl ?_)⟩
          cases h
          obtain ⟨k', ek⟩ := key_of hk
          have rk := r3.1.rdb
          rw [ek] at rk
          have ev := rk.key
          subst ev
          have so3 := so2.step S3
          have hl' := lenOk_ok hl
          refine ⟨a, _, rfl, DPut.k (S3.hh _ _ o4) (by rw [o5.length]; omega), ?_⟩
          rw [ek] at q
          exact q σ G3 _ (so3.mut o1 o2 (S3.fr _ _ o4 o3) (S3.hh _ _ o4) hx o7 (.base (.dct ((o5.mono S3.gg).put (Rp.mono S3.gg _ _ r2)))))
      · split at h
        · rename_i hk
          obtain ⟨d, e5, h⟩ := bind_ok h
          cases pure_ok h
          unfold setN at e5
          split at e5
          · rename_i ps _
            split at e5
            · rename_i hl
              cases e5
              cases sh with
              | base r =>
                have := r.plain
                cases this
              | @nst L _ r =>
                refine ⟨.ref a, o1, semE K sp cl hsp i _ so2.st.gh so2.env e3 fun G3 H3 k S3 r3 => .inr (.inr ?_)⟩
                obtain ⟨⟨ds', et⟩, nk, ek, hd⟩ := nkOk_ok hk
                have rk := r3.1.rdb
                have rk' := rk
                rw [et] at rk'
                have rt := rk'.rpTup
                have hv : ∃ b, k = .ref b := by
                  cases rt with
                  | tup _ _ => exact ⟨_, rfl⟩
                obtain ⟨b, rfl⟩ := hv
                have rt2 : Rp K G3 (.ref b) j.d := by rw [et]; exact rt
                have so3 := so2.step S3
                have hl' := lenOk_ok hl
                have r' := RpN.mono S3.gg r
                have hll : L.length = ps.length := Paired.length r
                refine ⟨a, _, rfl, ⟨L, nk, b, S3.hh _ _ o4, RpN.kn S3.gh r', rfl, Rp.nk S3.gh _ _ nk rt2 ek, hd, by rw [hll]; omega, rfl⟩, ?_⟩
                exact q σ G3 _ (so3.mut o1 o2 (S3.fr _ _ o4 o3) (S3.hh _ _ o4) hx o7 (.nst (r'.put ek hd rt2 (Rp.mono S3.gg _ _ r2))))
            · cases e5
          · cases e5
        · cases h
    · cases h
mutual
theorem semS (hsp : Hsp K sp cl) (hx : HspX K sp cl) : ∀ (e : S) {GL : Hp} {W : WX} {σ : L2.St} {H G : Hp} {ρ : Rho} {fl : Fl} (D : Ends), StOk K GL G0 H0 G H σ ρ → exS cl fu e ρ = .ok fl → FlR K GL G0 H0 W fl D → rdS K sp e W D σ H
  | .asg t e, GL, W, σ, H, G, ρ, fl, D, so, h, q => by
    simp only [exS] at h
    obtain ⟨s, e1, h⟩ := bind_ok h
    obtain ⟨ρ', e2, h⟩ := bind_ok h
    cases pure_ok h
    exact semE K sp cl hsp e _ so.st.gh so.env e1 fun G1 H1 v S1 r1 => bind_st so S1 r1 e2 fun σ' so' => q σ' G1 H1 so'
  | .ef k e p, GL, W, σ, H, G, ρ, fl, D, so, h, q => by
    simp only [exS] at h
    obtain ⟨r, e1, h⟩ := bind_ok h
    cases r with
    | rz c =>
      have T : (poX p && ekX k) = true ∧ fl = .rz c ρ := by
        have h : (if (poX p && ekX k) = true then (Except.ok (Fl.rz c ρ) : M Fl) else stk) = .ok fl := h
        split at h
        · rename_i hp
          cases h
          exact ⟨hp, rfl⟩
        · cases h
      obtain ⟨hp, rfl⟩ := T
      obtain ⟨hp, hk⟩ := and2 hp
      have T : ∀ Q : VK, rdPo K (rdEf K sp W e) p σ H Q := semPoX K (fun Q => semEf K sp cl hsp hx e Q so e1 fun G' H' so' xo => q σ G' H' so' xo) p hp
      cases k with
      | asg t => exact T _
      | ret => exact T _
      | exp => exact T _
      | app y => cases hk
      | set y i => exact T _
    | v s ρ' =>
      obtain ⟨v, e2, h⟩ := bind_ok h
      have T : TV K GL G0 H0 σ H ρ' (rdPo K (rdEf K sp W e) p) v := semPo K so (fun Q qq => semEf K sp cl hsp hx e (W := W) Q so e1 qq) p v e2
      cases k with
      | asg t =>
        obtain ⟨ρ2, e3, h⟩ := bind_ok h
        cases pure_ok h
        exact T _ fun Gb Hb G' H' w so' S r => bind_st so' S r e3 fun σ' so2 => q σ' G' H' so2
      | ret =>
        obtain ⟨w, e3, h⟩ := bind_ok h
        cases pure_ok h
        have es : w = v := by
          obtain ⟨m, d⟩ := v
          cases m with
          | p => simp [retS, stk] at e3
          | f => cases e3; rfl
          | o => cases e3; rfl
        subst es
        exact T _ fun Gb Hb G' H' w so' S r => q G' H' w (so'.st.trans S) (r.back so'.st.hh)
      | exp =>
        cases h
        exact T _ fun Gb Hb G' H' w so' S r => q σ G' H' (so'.step S)
      | app y =>
        obtain ⟨d, e3, h⟩ := bind_ok h
        obtain ⟨ds0, e4, h⟩ := bind_ok h
        obtain ⟨ds, e5, h⟩ := bind_ok h
        split at h
        · rename_i hl
          cases pure_ok h
          have hl' := lenOk_ok hl
          obtain ⟨a, vs, o1, o2, o3, o4, o5, o6, o7⟩ := so.owned e4
          refine ⟨.ref a, o1, Or.inl ⟨rfl, _, Or.inl (Or.inl o4)⟩, T _ fun Gb Hb G' H' w so' S r => ?_⟩
          obtain ⟨G2, S2, _, r2, _⟩ := freeze S r e3
          obtain ⟨a', vs', p1, p2, p3, p4, p5, p6, p7⟩ := so'.owned e5
          rw [o1] at p1
          cases p1
          refine ⟨a, vs', w, rfl, rfl, S2.hh _ _ p4, by rw [p5.length]; omega, ?_⟩
          exact q σ G2 _ ((so'.step S2).mut o1 p2 (S2.fr _ _ p4 p3) (S2.hh _ _ p4) p6 p7 (.base (.lst ((p5.mono S2.gg).append (.cons r2 .nil)))))
        · cases h
      | set y i =>
        obtain ⟨d, e3, h⟩ := bind_ok h
        obtain ⟨j, e4, h⟩ := bind_ok h
        refine T _ fun Gb Hb G' H' w so' S r => ?_
        obtain ⟨G2, S2, _, r2, _⟩ := freeze S r e3
        exact semSet K sp cl hsp y i D (so'.step S2) e4 r2 h q
  | .eft e p a b, GL, W, σ, H, G, ρ, fl, D, so, h, q => by
    simp only [exS] at h
    obtain ⟨r, e1, h⟩ := bind_ok h
    cases r with
    | rz c =>
      have T : poX p = true ∧ fl = .rz c ρ := by
        have h : (if poX p = true then (Except.ok (Fl.rz c ρ) : M Fl) else stk) = .ok fl := h
        split at h
        · rename_i hp
          cases h
          exact ⟨hp, rfl⟩
        · cases h
      obtain ⟨hp, rfl⟩ := T
      exact semPoX K (fun Q => semEf K sp cl hsp hx e Q so e1 fun G' H' so' xo => q σ G' H' so' xo) p hp _
    | v s ρ' =>
      obtain ⟨v, e2, h⟩ := bind_ok h
      have T : TV K GL G0 H0 σ H ρ' (rdPo K (rdEf K sp W e) p) v := semPo K so (fun Q qq => semEf K sp cl hsp hx e (W := W) Q so e1 qq) p v e2
      obtain ⟨c, e3, h⟩ := bind_ok h
      refine T _ fun Gb Hb G' H' w so' S r => ?_
      have rr := r.1.rdb
      rw [asB_ok e3] at rr
      refine ⟨c, rr.bool, ?_⟩
      cases c with
      | true =>
        rw [if_pos rfl] at h ⊢
        exact semSs hsp hx a D (so'.step S) h q
      | false =>
        rw [if_neg Bool.false_ne_true] at h ⊢
        exact semSs hsp hx b D (so'.step S) h q
  | .fst t x y c, GL, W, σ, H, G, ρ, fl, D, so, h, q => by
    simp only [exS, fstG] at h
    split at h
    · rename_i ds ps hx2 hy2
      split at h
      · rename_i hc
        cases h
        obtain ⟨hc, c6⟩ := and2 hc
        obtain ⟨hc, c5⟩ := and2 hc
        obtain ⟨hc, c4⟩ := and2 hc
        obtain ⟨hc, c3⟩ := and2 hc
        obtain ⟨hc, c2⟩ := and2 hc
        obtain ⟨c0, c1⟩ := and2 hc
        have c0 := of_decide_eq_true c0
        have c1 := of_decide_eq_true c1
        have c2 := of_decide_eq_true c2
        have c3 := of_decide_eq_true c3
        have c6 := lenOk_ok c6
        obtain ⟨a, o, o1, o2, o3, o4, sh, o7⟩ := so.ownedG hx2
        have sh := sh.plain rfl
        cases sh with
        | @lst vs _ r =>
          have hyl : y < ρ.length := by
            rcases Nat.lt_or_ge y ρ.length with z | z
            · exact z
            · rw [List.getElem?_eq_none z] at hy2
              cases hy2
          have e0 : fstR t y c ps ds ρ 0 = ρ := by
            show ρ.set y (some ⟨.o, .dict ((ds.take 0).foldl (fun acc d => putD acc d (.bool c)) ps)⟩) = ρ
            rw [List.take_zero, List.foldl_nil]
            refine List.ext_getElem? fun j => ?_
            by_cases ej : y = j
            · subst ej
              rw [List.getElem?_set_self hyl, hy2]
            · rw [List.getElem?_set_ne ej]
          refine .inl ⟨.ref a, o1, a, rfl, ⟨vs, .inl (.inl o4)⟩, fun i m σ' H' => ∃ G', m = ds.length - i ∧ i ≤ ds.length ∧ StOk K GL G0 H0 G' H' σ' (fstR t y c ps ds ρ i) ∧ σ'[x]? = some (some (.ref a)) ∧ H' a = some (.lst vs) ∧ RpA K G' vs ds,
            ⟨ds.length, G, rfl, Nat.zero_le _, by rw [e0]; exact so, o1, o4, r⟩, ?_⟩
          rintro i m σ' H' ⟨G', rfl, hi, so', s1, s2, r'⟩
          have it := iter_list (K := K) (B := fun b => if b = a then some (.lst vs) else none) (.inl (.inl (if_pos rfl))) r' i H' G' (Same.refl _) so'.st.gh (fun b ob e => by
            have e : (if b = a then some (HO.lst vs) else none) = some ob := e
            split at e
            · rename_i eb
              cases e
              rw [eb]
              exact s2
            · cases e)
          obtain ⟨j1, j2⟩ := it
          by_cases hl : i < ds.length
          · have hd : ds[i]? = some ds[i] := List.getElem?_eq_getElem hl
            obtain ⟨g1, g2⟩ := j1 ds[i] hd
            have hko : keyOk ds[i] = true := by
              rw [List.all_eq_true] at c4
              exact c4 _ (List.getElem_mem _)
            refine .inr ⟨g1, fun σ2 H2 => ∃ G2, StOk K GL G0 H0 G2 H2 σ2 (fstR t y c ps ds ρ (i + 1)) ∧ σ2[x]? = some (some (.ref a)) ∧ H2 a = some (.lst vs) ∧ RpA K G2 vs ds,
              fun σ2 H2 ⟨G2, a1, a2, a3, a4⟩ => ⟨ds.length - (i + 1), by omega, G2, rfl, hl, a1, a2, a3, a4⟩, fun w H2 hy => ?_⟩
            obtain ⟨G3, St, rx⟩ := g2 w H2 hy
            have so3 := (so'.step St).setF t rx
            have ln : (fstR t y c ps ds ρ i).length = ρ.length := by
              unfold fstR
              rw [List.length_set, fstB_len]
            have hyy : ((fstR t y c ps ds ρ i).set t (some ⟨.f, ds[i]⟩))[y]? = some (some ⟨.o, .dict ((ds.take i).foldl (fun acc d => putD acc d (.bool c)) ps)⟩) := by
              rw [List.getElem?_set_ne c3]
              unfold fstR
              rw [List.getElem?_set_self (by rw [fstB_len]; exact hyl)]
            obtain ⟨b, ob, p1, p2, p3, p4, sh2, p7⟩ := so3.ownedG hyy
            have nmp : nmk ((ds.take i).foldl (fun acc d => putD acc d (.bool c)) ps) = true := by
              have aux : ∀ (l : List PyData) (qs : List (PyData × PyData)), l.all keyOk = true → nmk qs = true → nmk (l.foldl (fun acc d => putD acc d (.bool c)) qs) = true := by
                intro l
                induction l with
                | nil => intro qs _ h; exact h
                | cons d l ih =>
                  intro qs h1 h2
                  rw [List.all_cons] at h1
                  obtain ⟨k1, k2⟩ := and2 h1
                  exact ih _ k2 (nmk_put k1 h2)
              exact aux _ _ (List.all_eq_true.mpr fun d hd => by
                rw [List.all_eq_true] at c4
                exact c4 d (List.mem_of_mem_take hd)) c5
            have sh2 := sh2.plain nmp
            cases sh2 with
            | @dct us _ r2 =>
              have hlen : us.length + 1 ≤ sizeLine := by
                have e1 := r2.length
                have aux : ∀ (l : List PyData) (qs : List (PyData × PyData)), (l.foldl (fun acc d => putD acc d (.bool c)) qs).length ≤ qs.length + l.length := by
                  intro l
                  induction l with
                  | nil => intro qs; exact Nat.le_refl _
                  | cons d l ih =>
                    intro qs
                    have h1 := ih (putD qs d (.bool c))
                    have h2 : (putD qs d (.bool c)).length ≤ qs.length + 1 := by
                      unfold putD
                      split
                      · rw [List.length_map]; omega
                      · rw [List.length_append]; exact Nat.le_refl _
                    rw [List.foldl_cons, List.length_cons]
                    omega
                have h1 := aux (ds.take i) ps
                refine Nat.le_trans (Nat.succ_le_succ (Nat.le_trans (Nat.le_of_eq e1) h1)) ?_
                rw [List.length_take]
                omega
              obtain ⟨k', ek⟩ := key_of hko
              have tl : t < σ'.length := by rw [so'.env.len, ln]; exact c0
              have hwk : w = kV k' := by
                have rr : Rdb K G3 H2 w (keyD k') := by
                  rw [← ek]
                  exact .inl rx
                exact rr.key
              have e3 : (((fstR t y c ps ds ρ i).set t (some ⟨.f, ds[i]⟩)).set y (some ⟨.o, .dict (putD ((ds.take i).foldl (fun acc d => putD acc d (.bool c)) ps) ds[i] (.bool c))⟩)) = fstR t y c ps ds ρ (i + 1) := by
                have e4 : (ds.take (i + 1)).foldl (fun acc d => putD acc d (.bool c)) ps = putD ((ds.take i).foldl (fun acc d => putD acc d (.bool c)) ps) ds[i] (.bool c) := by
                  rw [List.take_succ, hd, List.foldl_append]
                  rfl
                unfold fstR
                rw [e4, List.set_comm _ _ (Ne.symm c3), List.set_set, fstB_succ hd]
              have na : a ≠ b := fun e => by
                have z := St.hh _ _ s2
                rw [e, p4] at z
                cases z
              refine ⟨.ref b, p1, w, List.getElem?_set_self tl, .inr (.inl ?_)⟩
              rw [hwk]
              refine ⟨b, _, rfl, DPut.k p4 (by omega), ?_⟩
              refine ⟨G3, ?_, ?_, ?_, r'.mono St.gg⟩
              · rw [← e3]
                have so5 := so3.mut p1 p2 p3 p4 hyy p7 (.base (.dct (RpK.put (k := k') (.bl c) r2)))
                rw [← ek, hwk] at so5
                exact so5
              · rw [List.getElem?_set_ne c2]
                exact s1
              · rw [upd_ne na]
                exact St.hh _ _ s2
          · have ei : i = ds.length := by omega
            subst ei
            exact .inl ⟨j2 (Nat.le_refl _), q σ' G' H' so'⟩
      · cases h
    · cases h
  | .ins x i e, GL, W, σ, H, G, ρ, fl, D, so, h, q => by
    simp only [exS] at h
    obtain ⟨y, e0, h⟩ := bind_ok h
    obtain ⟨s, e1, h⟩ := bind_ok h
    obtain ⟨v, e2, h⟩ := bind_ok h
    obtain ⟨ds, e4, h⟩ := bind_ok h
    split at h
    · rename_i k hk
      split at h
      · rename_i hl
        cases pure_ok h
        obtain ⟨hl, b2⟩ := and2 hl
        obtain ⟨hl, b1⟩ := and2 hl
        have b1 := of_decide_eq_true b1
        have b2 := of_decide_eq_true b2
        have hl' := lenOk_ok hl
        obtain ⟨a, vs, o1, o2, o3, o4, o5, o6, o7⟩ := so.owned e4
        refine ⟨.ref a, o1, Or.inl ⟨rfl, _, Or.inl (Or.inl o4)⟩, semE K sp cl hsp i _ so.st.gh so.env e0 fun G1 H1 u S1 r1 => semE K sp cl hsp e _ S1.gh (so.env.mono S1) e1 fun G2 H2 w S2 r2 => ?_⟩
        have rk := r1.1.rdb
        rw [hk] at rk
        have eu := rk.int
        subst eu
        obtain ⟨G3, S3, _, r3, _⟩ := freeze S2 r2 e2
        have S4 := S1.trans S3
        refine ⟨a, vs, k, w, rfl, rfl, S4.hh _ _ o4, by rw [o5.length]; omega, b1, by omega, ?_⟩
        have r5 := o5.mono S4.gg
        have e6 : ds.take k.toNat ++ v :: ds.drop k.toNat = ds.take k.toNat ++ [v] ++ ds.drop k.toNat := by simp
        rw [e6] at q
        exact q σ G3 _ ((so.step S4).mut o1 o2 (S4.fr _ _ o4 o3) (S4.hh _ _ o4) o6 o7 (.base (.lst (((r5.take _).append (.cons r3 .nil)).append (r5.drop _)))))
      · cases h
    · cases h
  | .setix x i e, GL, W, σ, H, G, ρ, fl, D, so, h, q => by
    simp only [exS] at h
    obtain ⟨s, e1, h⟩ := bind_ok h
    obtain ⟨v, e2, h⟩ := bind_ok h
    obtain ⟨j, e3, h⟩ := bind_ok h
    refine semE K sp cl hsp e _ so.st.gh so.env e1 fun G1 H1 w S1 r1 => ?_
    obtain ⟨G2, S2, _, r2, _⟩ := freeze S1 r1 e2
    have so2 := so.step S2
    exact semSet K sp cl hsp x i D so2 e3 r2 h q
  | .aug x op e, GL, W, σ, H, G, ρ, fl, D, so, h, q => by
    simp only [exS] at h
    obtain ⟨s, e1, h⟩ := bind_ok h
    split at h
    · rename_i i j hx hj
      obtain ⟨v, e2, r⟩ := so.env.at_ _ _ hx
      have ev : v = .int i := Rdb.int (K := K) (G := G) (H := H) (.inl r)
      subst ev
      refine ⟨_, e2, semE K sp cl hsp e _ so.st.gh so.env e1 fun G1 H1 w S1 r1 => ?_⟩
      have rk := r1.1.rdb
      rw [hj] at rk
      have ew := rk.int
      subst ew
      split at h
      · cases pure_ok h
        exact ⟨i, j, rfl, rfl, q _ G1 H1 ((so.step S1).setF x (.int _))⟩
      · cases pure_ok h
        exact ⟨i, j, rfl, rfl, q _ G1 H1 ((so.step S1).setF x (.int _))⟩
      · cases h
    · cases h
  | .app x e, GL, W, σ, H, G, ρ, fl, D, so, h, q => by
    simp only [exS] at h
    obtain ⟨s, e1, h⟩ := bind_ok h
    obtain ⟨v, e2, h⟩ := bind_ok h
    obtain ⟨ds, e4, h⟩ := bind_ok h
    split at h
    · rename_i hl
      cases pure_ok h
      have hl' := lenOk_ok hl
      obtain ⟨a, vs, o1, o2, o3, o4, o5, o6, o7⟩ := so.owned e4
      refine ⟨.ref a, o1, Or.inl ⟨rfl, _, Or.inl (Or.inl o4)⟩, semE K sp cl hsp e _ so.st.gh so.env e1 fun G1 H1 w S1 r1 => ?_⟩
      obtain ⟨G2, S2, _, r2, _⟩ := freeze S1 r1 e2
      refine ⟨a, vs, w, rfl, rfl, S2.hh _ _ o4, by rw [o5.length]; omega, ?_⟩
      exact q σ G2 _ ((so.step S2).mut o1 o2 (S2.fr _ _ o4 o3) (S2.hh _ _ o4) o6 o7 (.base (.lst ((o5.mono S2.gg).append (.cons r2 .nil)))))
    · cases h
  | .ext x e, GL, W, σ, H, G, ρ, fl, D, so, h, q => by
    simp only [exS] at h
    obtain ⟨s, e1, h⟩ := bind_ok h
    obtain ⟨ds, e4, h⟩ := bind_ok h
    split at h
    · rename_i es hes
      split at h
      · rename_i hl
        cases pure_ok h
        obtain ⟨hl, hm⟩ := and2 hl
        have hl' := lenOk_ok hl
        obtain ⟨a, vs, o1, o2, o3, o4, o5, o6, o7⟩ := so.owned e4
        refine ⟨.ref a, o1, Or.inl ⟨rfl, _, Or.inl (Or.inl o4)⟩, semE K sp cl hsp e _ so.st.gh so.env e1 fun G1 H1 w S1 r1 => ?_⟩
        have tx : Top K G1 H1 w (.list es) := by
          obtain ⟨m, d⟩ := s
          cases hes
          cases m with
          | f => cases hm
          | o => exact r1.1
          | p => exact TopX.plain r1.1 rfl
        obtain ⟨b, ob, rfl, _, rb, qb⟩ := tx
        cases qb
        rename_i ws qb
        refine ⟨a, b, vs, ws, rfl, rfl, S1.hh _ _ o4, rb, by rw [o5.length, qb.length]; exact hl', ?_⟩
        exact q σ G1 _ ((so.step S1).mut o1 o2 (S1.fr _ _ o4 o3) (S1.hh _ _ o4) o6 o7 (.base (.lst ((o5.mono S1.gg).append qb))))
      · cases h
    · cases h
  | .exp e, GL, W, σ, H, G, ρ, fl, D, so, h, q => by
    simp only [exS] at h
    obtain ⟨s, e1, h⟩ := bind_ok h
    cases pure_ok h
    exact semE K sp cl hsp e _ so.st.gh so.env e1 fun G1 H1 v S1 r1 => q σ G1 H1 (so.step S1)
  | .ret e, GL, W, σ, H, G, ρ, fl, D, so, h, q => by
    simp only [exS] at h
    obtain ⟨s, e1, h⟩ := bind_ok h
    obtain ⟨r, e2, h⟩ := bind_ok h
    cases pure_ok h
    obtain ⟨m, d⟩ := s
    cases m with
    | f =>
      cases e2
      exact semE K sp cl hsp e _ so.st.gh so.env e1 fun G1 H1 v S1 r1 => q G1 H1 v (so.st.trans S1) (r1.back so.st.hh)
    | o =>
      cases e2
      exact semE K sp cl hsp e _ so.st.gh so.env e1 fun G1 H1 v S1 r1 => q G1 H1 v (so.st.trans S1) (r1.back so.st.hh)
    | p =>
      cases e with
      | var i =>
        simp only [retS] at e2
        split at e2
        · rename_i d' hd
          split at e2
          · rename_i hm
            cases e2
            simp only [evE, hd] at e1
            cases e1
            obtain ⟨a, h1, h2, _⟩ := so.own i _ hd
            obtain ⟨w, e, qq⟩ := so.env.at_ i _ hd
            rw [h1] at e
            cases e
            exact ⟨_, h1, q G H _ so.st ⟨TopX.plain qq hm, fun _ => ⟨a, rfl, h2⟩⟩⟩
          · cases e2
        · cases e2
      | _ => simp [retS, stk] at e2
  | .retN, GL, W, σ, H, G, ρ, fl, D, so, h, q => by
    cases h
    exact q G H .non so.st (.f .non)
  | .ite c a b, GL, W, σ, H, G, ρ, fl, D, so, h, q => by
    simp only [exS] at h
    obtain ⟨x, e1, h⟩ := bind_ok h
    obtain ⟨k, e2, h⟩ := bind_ok h
    refine semE K sp cl hsp c _ so.st.gh so.env e1 fun G1 H1 v S1 r1 => ?_
    have r := r1.1.rdb
    rw [asB_ok e2] at r
    refine ⟨k, r.bool, ?_⟩
    cases k with
    | true =>
      rw [if_pos rfl] at h ⊢
      exact semSs hsp hx a D (so.step S1) h q
    | false =>
      rw [if_neg Bool.false_ne_true] at h ⊢
      exact semSs hsp hx b D (so.step S1) h q
  | .for_ t it b, GL, W, σ, H, G, ρ, fl, D, so, h, q => by
    simp only [exS] at h
    obtain ⟨xs, e1, h⟩ := bind_ok h
    split at h
    · rename_i hp
      refine semL K sp cl hsp it _ so e1 hp fun J GB H1 B S1 hB hJ => ?_
      have hGL : Same GL GB := so.lo.trans S1.gg
      refine ⟨fun i m σ H => ∃ G ρ, m = xs.length - i ∧ i ≤ xs.length ∧ StOk K GB G0 H0 G H σ ρ ∧ forGo (fun d ρ => bindT t ⟨.f, d⟩ ρ) (fun ρ => exSs cl fu b ρ) (xs.drop i) ρ = .ok fl,
        ⟨xs.length, GB, ρ, rfl, Nat.zero_le _, ⟨so.st.trans S1, so.env.mono S1, so.own, Same.refl _, so.per⟩, h⟩, ?_⟩
      rintro i m σ H ⟨G, ρ, rfl, hi, so, h⟩
      obtain ⟨j1, j2⟩ := hJ i H G so.lo so.st.gh (by
        rcases hB with rfl | rfl
        · exact so.lo.trans so.st.gh
        · exact so.st.hh)
      by_cases hl : i < xs.length
      · obtain ⟨g1, g2⟩ := j1 xs[i] (List.getElem?_eq_getElem hl)
        rw [List.drop_eq_getElem_cons hl] at h
        simp only [forGo] at h
        obtain ⟨ρ1, f1, h⟩ := bind_ok h
        obtain ⟨r, f2, h⟩ := bind_ok h
        refine .inr ⟨g1, fun σ' H' => ∃ G ρ, StOk K GB G0 H0 G H' σ' ρ ∧ forGo (fun d ρ => bindT t ⟨.f, d⟩ ρ) (fun ρ => exSs cl fu b ρ) (xs.drop (i + 1)) ρ = .ok fl,
          fun σ' H' ⟨G, ρ, a1, a2⟩ => ⟨xs.length - (i + 1), by omega, G, ρ, rfl, hl, a1, a2⟩, fun x H' hy => ?_⟩
        obtain ⟨G3, St, rx⟩ := g2 x H' hy
        refine bind_st so St (.f rx) f1 fun σ2 so2 => semSs hsp hx b _ so2 f2 ?_
        cases r with
        | nx ρ' => exact fun σ' G' H' so' => ⟨G', ρ', so', h⟩
        | ct ρ' => exact fun σ' G' H' so' => ⟨G', ρ', so', h⟩
        | bk ρ' =>
          cases h
          exact fun σ' G' H' so' => q σ' G' H' (so'.weak hGL)
        | rt s =>
          cases h
          exact q
        | rz c ρ' =>
          cases h
          exact fun σ' G' H' so' => q σ' G' H' (so'.weak hGL)
      · have ei : i = xs.length := by omega
        subst ei
        rw [List.drop_length] at h
        cases h
        exact .inl ⟨j2 (Nat.le_refl _), q σ G H (so.weak hGL)⟩
    · cases h
  | .whl c b, GL, W, σ, H, G, ρ, fl, D, so, h, q => by
    simp only [exS] at h
    refine ⟨fun m σ H => ∃ G ρ, StOk K GL G0 H0 G H σ ρ ∧ whlGo (fun ρ => do
      let x ← evE cl c ρ
      asB x.d) (fun ρ => exSs cl fu b ρ) m ρ = .ok fl, ⟨fu, G, ρ, so, h⟩, ?_⟩
    rintro m σ H ⟨G, ρ, so, h⟩
    cases m with
    | zero => cases h
    | succ m =>
      simp only [whlGo] at h
      obtain ⟨k, e1, h⟩ := bind_ok h
      obtain ⟨x, e1, e2⟩ := bind_ok e1
      refine semE K sp cl hsp c _ so.st.gh so.env e1 fun G1 H1 v S1 r1 => ?_
      have r := r1.1.rdb
      rw [asB_ok e2] at r
      refine ⟨k, r.bool, ?_⟩
      cases k with
      | true =>
        rw [if_pos rfl] at h ⊢
        obtain ⟨fl2, f2, h⟩ := bind_ok h
        refine ⟨fun σ' H' => ∃ G ρ, StOk K GL G0 H0 G H' σ' ρ ∧ whlGo (fun ρ => do
          let x ← evE cl c ρ
          asB x.d) (fun ρ => exSs cl fu b ρ) m ρ = .ok fl, fun σ' H' ⟨G, ρ, a1, a2⟩ => ⟨m, Nat.lt_succ_self m, G, ρ, a1, a2⟩, semSs hsp hx b _ (so.step S1) f2 ?_⟩
        cases fl2 with
        | nx ρ' => exact fun σ' G' H' so' => ⟨G', ρ', so', h⟩
        | ct ρ' => exact fun σ' G' H' so' => ⟨G', ρ', so', h⟩
        | bk ρ' =>
          cases h
          exact q
        | rt s =>
          cases h
          exact q
        | rz c ρ' =>
          cases h
          exact q
      | false =>
        rw [if_neg Bool.false_ne_true] at h ⊢
        cases h
        exact q σ G1 H1 (so.step S1)
  | .brk, GL, W, σ, H, G, ρ, fl, D, so, h, q => by
    cases h
    exact q σ G H so
  | .cont, GL, W, σ, H, G, ρ, fl, D, so, h, q => by
    cases h
    exact q σ G H so
  | .pass, GL, W, σ, H, G, ρ, fl, D, so, h, q => by
    cases h
    exact q σ G H so
  | .nvr, GL, W, σ, H, G, ρ, fl, D, so, h, q => by
    cases h
  | .ndn x, GL, W, σ, H, G, ρ, fl, D, so, h, q => by
    cases h
    intro p hp
    have S1 : Step G H G (upd H p (ndO p [])) := Step.new so.st.gh hp
    exact q _ G _ (so.setX S1 x ⟨p, ndO p [], rfl, so.st.gh.free hp, upd_same, .nst .nil⟩ ⟨p, rfl, hp⟩)
  | .rse c, GL, W, σ, H, G, ρ, fl, D, so, h, q => by
    cases h
    exact fun xo => q σ G H so xo
  | .cst k f es, GL, W, σ, H, G, ρ, fl, D, so, h, q => by
    simp only [exS] at h
    obtain ⟨ss, e1, h⟩ := bind_ok h
    have go : ∀ Q : VK, (∀ G1 H1, Step G H G1 H1 → dspR K G1 H1 Q (WE W σ) (cl f ss)) → tCallS (sp f) (WE W) (rdA K sp es) σ H Q := fun Q hq =>
      semA K sp cl hsp es _ so.st.gh so.env e1 fun G1 H1 vs S1 r1 => hx f vs H1 G1 ss Q _ S1.gh r1 (hq G1 H1 S1)
    have exc : ∀ {c : Str} {G1 H1 : Hp} {Q : VK}, Step G H G1 H1 → cl f ss = .error (.raised c) → ckG k ρ (cl f ss) = .ok fl → dspR K G1 H1 Q (WE W σ) (cl f ss) := fun {c G1 H1 Q} S1 e h => by
      rw [e] at h ⊢
      cases h
      exact fun G' H' S' xo => q σ G' H' (so.step (S1.trans S')) xo
    cases k with
    | asg t =>
      refine go _ fun G1 H1 S1 => ?_
      cases e : cl f ss with
      | error er =>
        cases er with
        | stuck =>
          rw [e] at h
          cases h
        | raised c => exact e ▸ exc S1 e h
      | ok s =>
        rw [e] at h
        obtain ⟨ρ', e2, h⟩ := bind_ok h
        cases pure_ok h
        exact fun G' H' v S' r' => bind_st so (S1.trans S') (r'.back S1.hh) e2 fun σ' so' => q σ' G' H' so'
    | ret =>
      refine go _ fun G1 H1 S1 => ?_
      cases e : cl f ss with
      | error er =>
        cases er with
        | stuck =>
          rw [e] at h
          cases h
        | raised c => exact e ▸ exc S1 e h
      | ok s =>
        rw [e] at h
        obtain ⟨r, e2, h⟩ := bind_ok h
        cases pure_ok h
        have es : r = s := by
          obtain ⟨m, d⟩ := s
          cases m with
          | p => simp [retS, stk] at e2
          | f => cases e2; rfl
          | o => cases e2; rfl
        subst es
        exact fun G' H' v S' r' => q G' H' v (so.st.trans (S1.trans S')) ((r'.back S1.hh).back so.st.hh)
    | exp =>
      refine go _ fun G1 H1 S1 => ?_
      cases e : cl f ss with
      | error er =>
        cases er with
        | stuck =>
          rw [e] at h
          cases h
        | raised c => exact e ▸ exc S1 e h
      | ok s =>
        rw [e] at h
        cases h
        exact fun G' H' v S' r' => q σ G' H' (so.step (S1.trans S'))
  | .tr b hs, GL, W, σ, H, G, ρ, fl, D, so, h, q => by
    simp only [exS] at h
    obtain ⟨r, e1, h⟩ := bind_ok h
    intro kn
    refine semSs hsp hx b _ so e1 ?_
    cases r with
    | nx ρ' =>
      cases h
      exact q
    | bk ρ' =>
      cases h
      exact q
    | ct ρ' =>
      cases h
      exact q
    | rt s =>
      cases h
      exact q
    | rz c ρ' => exact fun σ' G' H' so' xo => semHs hsp hx xo hs D kn so' h q
theorem semHs (hsp : Hsp K sp cl) (hx : HspX K sp cl) {c : Str} (xo : XcOk K c) : ∀ (hs : Hs) {GL : Hp} {W : WX} {σ : L2.St} {H G : Hp} {ρ : Rho} {fl : Fl} (D : Ends), (∀ d, d ∈ hsNames hs → XKn K d) → StOk K GL G0 H0 G H σ ρ → exHs cl fu c hs ρ = .ok fl → FlR K GL G0 H0 W fl D →
    wX K W D (rdHs K sp hs) (.ref (xga K c)) none σ H
  | .nil, GL, W, σ, H, G, ρ, fl, D, kn, so, h, q => by
    cases h
    exact q σ G H so xo
  | .cons cs nm b r, GL, W, σ, H, G, ρ, fl, D, kn, so, h, q => by
    simp only [exHs] at h
    split at h
    · rename_i hc
      refine ⟨_, exm_map xo hc fun d hd => kn d (List.mem_append_left _ hd), fun hb => ⟨_, rfl, rfl, fun a na => ?_⟩, fun hb => ?_⟩
      · rw [hb, if_pos rfl] at h
        obtain ⟨f, e1, h⟩ := bind_ok h
        have S1 := Step.newF (o := xcO a (xga K c)) so.st.gh na
        have so1 := so.step S1
        have so2 : StOk K GL G0 H0 (upd G a (xcO a (xga K c))) (upd H a (xcO a (xga K c))) (setNm nm a σ) (nmS nm c ρ) := by
          cases nm with
          | none => exact so1
          | some i => exact so1.setF i (.xc xo upd_same)
        refine semSs hsp hx b _ so2 e1 ?_
        cases f with
        | nx ρ' =>
          cases nm with
          | none =>
            cases h
            exact q
          | some i =>
            cases h
            exact fun σ' G' H' so' => q _ G' H' (so'.gone i)
        | rt s =>
          cases nm with
          | none =>
            cases h
            exact q
          | some i =>
            cases h
            exact q
        | bk ρ' => cases nm <;> cases h
        | ct ρ' => cases nm <;> cases h
        | rz c ρ' => cases nm <;> cases h
      · rw [hb, if_neg Bool.false_ne_true] at h
        exact semHs hsp hx xo r D (fun d hd => kn d (List.mem_append_right _ hd)) so h q
    · cases h
theorem semSs (hsp : Hsp K sp cl) (hx : HspX K sp cl) : ∀ (e : Ss) {GL : Hp} {W : WX} {σ : L2.St} {H G : Hp} {ρ : Rho} {fl : Fl} (D : Ends), StOk K GL G0 H0 G H σ ρ → exSs cl fu e ρ = .ok fl → FlR K GL G0 H0 W fl D → rdSs K sp e W D σ H
  | .nil, GL, W, σ, H, G, ρ, fl, D, so, h, q => by
    cases h
    exact q σ G H so
  | .cons s ss, GL, W, σ, H, G, ρ, fl, D, so, h, q => by
    simp only [exSs] at h
    obtain ⟨r, e1, h⟩ := bind_ok h
    refine semS hsp hx s _ so e1 ?_
    cases r with
    | nx ρ' => exact fun σ' G' H' so' => semSs hsp hx ss D so' h q
    | bk ρ' =>
      cases h
      exact q
    | ct ρ' =>
      cases h
      exact q
    | rt s =>
      cases h
      exact q
    | rz c ρ' =>
      cases h
      exact q
  | .frz i ss, GL, W, σ, H, G, ρ, fl, D, so, h, q => by
    simp only [exSs] at h
    obtain ⟨G', sg, so'⟩ := so.frz i
    exact semSs hsp hx ss D so' h q
end
end
end GK

namespace GK
open PySem PySem.Spec PyProof.Rows L2

theorem args_start {K : PySem.W.Frag} {G H : Hp} : ∀ {vs : List V} {ss : List Sl}, ArgsR K G H vs ss → ∀ (i : Nat) (s : Sl), (ss.map some)[i]? = some (some s) → s.m ≠ .o ∧ ∃ v, (vs.map some)[i]? = some (some v) ∧ SlR K G H v s
  | _, _, .nil, i, s, h => by simp at h
  | _, _, .cons r n t, 0, s, h => by
    simp at h
    subst h
    exact ⟨n, _, rfl, r⟩
  | _, _, .cons r n t, i + 1, s, h => by
    obtain ⟨n', v, e, q⟩ := args_start t i s (by simpa using h)
    exact ⟨n', v, by simpa using e, q⟩
theorem start_ok {K : PySem.W.Frag} {G H : Hp} {N : List Str} {vs : List V} {ss : List Sl} (S : Same G H) (r : ArgsR K G H vs ss) : StOk K G G H G H (start N vs) (startR N.length ss) := by
  have hl := r.length
  have key : ∀ (i : Nat) (s : Sl), (startR N.length ss)[i]? = some (some s) → s.m ≠ .o ∧ ∃ v, (start N vs)[i]? = some (some v) ∧ SlR K G H v s := fun i s h => by
    unfold startR at h
    unfold L2.start
    rcases Nat.lt_or_ge i ss.length with hi | hi
    · rw [List.getElem?_append_left (by rw [List.length_map]; exact hi)] at h
      rw [List.getElem?_append_left (by rw [List.length_map, hl]; exact hi)]
      exact args_start r i s h
    · rw [List.getElem?_append_right (by rw [List.length_map]; exact hi), List.getElem?_replicate] at h
      split at h <;> cases h
  refine ⟨.refl S, ⟨?_, fun i s h => by
    obtain ⟨v, e, r⟩ := (key i s h).2
    exact ⟨v, e, r.e⟩⟩, fun i d h => absurd rfl (key i _ h).1, Same.refl _, fun i d h => ?_⟩
  rotate_left
  · obtain ⟨_, v, e, q⟩ := key i _ h
    obtain ⟨a, o, rfl, _, t, _⟩ := q
    exact ⟨a, o, e, t⟩
  unfold L2.start startR
  rw [List.length_append, List.length_append, List.length_map, List.length_map, List.length_replicate, List.length_replicate, hl]
section
variable {P : Program} {w : World} {K : PySem.W.Frag} {mg : Str → Option Value} {base : Heap} {T : Str → Option FD} {fu : Nat} {fs : Fs}
/-- the module's constants -/
structure CkOk (K : PySem.W.Frag) (w : World) (mg : Str → Option Value) (fs : Fs) : Prop where
  gk : ∀ x d, (x, d) ∈ fs.ck → ∃ v u, mg x = some u ∧ RelV v u ∧ ∀ G, Rp K G v d
  gd : ∀ x kvs, (x, kvs) ∈ fs.cd → ∃ a, mg x = some (.ref a) ∧ ∀ z d, kvs.lookup z = some d → ∃ v, KDct K w a z v ∧ ∀ G, Rp K G v d
  xd : ∀ d, d ∈ fs.xd → mg d = some (.ref (xga K d)) ∧ ∃ a, PySem.W.nsIn K mainGlobals d = some (some (.ref a))
  xr : ∀ c, c ∈ fs.xr → XcOk K c ∧ PySem.W.excIn K (xga K c) veMro "ValueError.__new__" = true ∧ mg c = some (.ref (xga K c)) ∧ PySem.W.keepIn K (.ref (xga K c)) = true ∧ PySem.W.subIn K (.ref (xga K c)) (.type "BaseException") = some true ∧ PySem.W.typeIn K (.ref (xga K c)) = some (.type "type")
theorem CkOk.none {ns : List Str} {cst : List (Str × Nat)} : CkOk K w mg ⟨ns, cst, [], [], [], []⟩ := ⟨fun _ _ h => (nomatch h), fun _ _ h => (nomatch h), fun _ h => (nomatch h), fun _ h => (nomatch h)⟩
/-- a def at the level k -/
def FnAt (P : Program) (w : World) (K : PySem.W.Frag) (mg : Str → Option Value) (base : Heap) (T : Str → Option FD) (fu : Nat) (k : Nat) (f : Str) : Prop :=
  ∃ a fd ps, FnOk P w K mg base (L2.CX P w) (k + 20) a fd ps (dsp K (call T fu k f)) ∧ mg f = some (.ref a) ∧ PySem.W.keepIn K (.ref a) = true ∧ Binds K fd ps []
theorem hsp_of (cl : Str → List Sl → M Sl) : Hsp K (fun f => dsp K (cl f)) cl := fun _ _ _ G ss r _ S A e q => ⟨G, ss, S, A, by rw [e]; exact q⟩
theorem hspx_of (cl : Str → List Sl → M Sl) : HspX K (fun f => dsp K (cl f)) cl := fun _ _ _ G ss _ _ S A d => ⟨G, ss, S, A, d⟩
/-- nothing comes out but what is handed back -/
theorem FnOk.quiet {k : Nat} {f : Addr} {fd : FuncData} {ps : List Str} {sp : Sp} (F : FnOk P w K mg base (L2.CX P w) k f fd ps sp) : FnOk P w K mg base CX0 k f fd ps (fun vs H Q _ => sp vs H Q E0) :=
  ⟨fun vs H Q E h => F.len vs H Q E0 h, fun A outer s H args us vs Q E hr he hb hv hs => codeAny_mono (F.run A outer s H args us vs Q E0 hr he hb hv hs) fun r s' hq => by
    cases r with
    | error e =>
      obtain ⟨_, _, _, _, _, _, _, _, _, _, _, _, z⟩ := hq
      exact z
    | ok fl =>
      cases fl with
      | ret u => exact hq
      | next => exact hq
      | brk => exact hq
      | cont => exact hq⟩
theorem room100 {k : Nat} {A : Around} (r : Room (k + 20) A) : A.units + 500 < cLine := by
  have := r.un
  omega
theorem fn_step {f : Str} {args : Arguments} {body : List Stmt} {scope : Scope} {a : Addr} {fd : FuncData} {N ps : List Str} {b : Ss} {k : Nat} (F : FunD K f f args body scope [] [] a fd) (S : FnScope N ps scope) (ok : okSs N fs scope b body = true)
    (blt : ∀ b, b ∈ bnames → mg b = none) (gc : ∀ x n, (x, n) ∈ fs.cst → ∃ t, mg x = some (.int ((n : Nat) : Int) t)) (ko : CkOk K w mg fs) (ih : ∀ g, g ∈ fs.fs → FnAt P w K mg base T fu k g) (hT : T f = some ⟨N, ps, b⟩) : FnOk P w K mg base (L2.CX P w) (k + 20 + 1) a fd ps (dsp K (call T fu (k + 1) f)) := by
  refine F.ok S (fun vs H Q E h => ?_) (fun cdv A outer s H vs Q E hr h => ?_)
  · obtain ⟨G, ss, _, ar, q⟩ := h
    simp only [call, hT, runB] at q
    split at q
    · rw [ar.length]
      assumption
    · exact False.elim q
  · obtain ⟨G, ss, SG, ar, q⟩ := h
    simp only [call, hT, runB] at q
    split at q
    · have C : Cxt (cxOf (L2.CX P w) P w K mg base N f scope a cdv A outer s H E) K (fun g => dsp K (call T fu k g)) N fs scope scope := by
        refine ⟨rfl, rfl, rfl, S.nd, rfl, blt, room100 hr, gc, ko.gk, ko.gd, fun g hg => ?_, ko.xd, fun c hc => ?_, fun x hx => ⟨locB_ok hx, .inl rfl⟩⟩
        · obtain ⟨a', fd', ps', F', m, kp, bd⟩ := ih g hg
          exact ⟨a', fd', ps', k + 20, F', hr, m, kp, bd⟩
        · obtain ⟨h1, h2, h3, h4, h5, h6⟩ := ko.xr c hc
          exact ⟨h1, ⟨h2, h3, h4, raises_own h5 h6⟩⟩
      have tk : Takes (cxOf (L2.CX P w) P w K mg base N f scope a cdv A outer s H E) (fun cls d _ H => E cls d H) := takes_of rfl rfl rfl rfl
      have R := fun {σ : L2.St} {ρ : Rho} {fl : Fl} (D : Ends) so he q => semSs (GL := G) (σ := σ) (ρ := ρ) (fl := fl) (W := fun cls d _ H => E cls d H) (G0 := G) (H0 := H) (G := G) (H := H) K (fun g => dsp K (call T fu k g)) (call T fu k) fu (hsp_of _) (hspx_of _) b D so he q
      refine ⟨_, dSs K (fun g => dsp K (call T fu k g)) N fs b C ⟨rfl, rfl, rfl⟩ tk (passes_of rfl) body ok, ?_⟩
      cases he : exSs (call T fu k) fu b (startR N.length ss) with
      | error e =>
        rw [he] at q
        exact False.elim q
      | ok fl =>
        rw [he] at q
        cases fl with
        | nx ρ' => exact R _ (start_ok SG ar) he fun σ' G' H' so => q G' H' .non so.st (.f .non)
        | rt s' => exact R _ (start_ok SG ar) he fun G' H' v S' r' => q G' H' v S' r'
        | rz c ρ' => exact R _ (start_ok SG ar) he fun σ' G' H' so xo => q G' H' so.st xo
        | bk ρ' => exact False.elim q
        | ct ρ' => exact False.elim q
    · exact False.elim q
theorem fn_zero {j : Nat} {f : Str} {a : Addr} {fd : FuncData} {ps : List Str} : FnOk P w K mg base (L2.CX P w) j a fd ps (dsp K (call T fu 0 f)) :=
  ⟨fun _ _ _ _ ⟨_, _, _, _, q⟩ => False.elim q, fun _ _ _ _ _ _ _ _ _ _ _ _ _ ⟨_, _, _, _, q⟩ => False.elim q⟩
end

/-! ### a program's defs -/
structure PD where
  name : Str
  N : List Str
  ps : List Str
  body : Ss
  st : Stmt
def tab (ds : List PD) (f : Str) : Option FD := match ds with
  | [] => none
  | d :: r => if d.name = f then some ⟨d.N, d.ps, d.body⟩ else tab r f
theorem tab_of {ds : List PD} {f : Str} (h : f ∈ ds.map (·.name)) : ∃ d, d ∈ ds ∧ d.name = f ∧ tab ds f = some ⟨d.N, d.ps, d.body⟩ := by
  induction ds with
  | nil => simp at h
  | cons d r ih =>
    by_cases e : d.name = f
    · exact ⟨d, List.mem_cons_self, e, by unfold tab; rw [if_pos e]⟩
    · rw [List.map_cons, List.mem_cons] at h
      obtain ⟨d', h1, h2, h3⟩ := ih (h.resolve_left fun z => e z.symm)
      exact ⟨d', List.mem_cons_of_mem _ h1, h2, by unfold tab; rw [if_neg e]; exact h3⟩
/-- a def as the head finds it -/
def PD.dd (d : PD) : He.DefD := ⟨(d.name, none), d.name, d.name, defArgs d.st, defBody d.st, defScope d.st, [], []⟩
/-- all that can be looked at in the text -/
def PD.okB (fs : Fs) (d : PD) : Bool := okSs d.N fs (defScope d.st) d.body (defBody d.st)
structure PD.Ok (fs : Fs) (d : PD) : Prop where
  sc : FnScope d.N d.ps (defScope d.st)
  ok : d.okB fs = true
  bd : ∀ (kV doc pm : Value) (an : Option Addr) (cdv ct : Value) (us : List Value), us.length = d.ps.length → bindArgs (PySem.W.fnOf d.name d.name (defArgs d.st) (defBody d.st) (defScope d.st) .none kV doc pm an cdv ct) ⟨us, []⟩ = pure (d.ps.zip us)
def facts (ds : List PD) (cst : List (Str × Nat)) : List He.Fa := ds.map (fun d => He.Fa.glo d.name) ++ (bnames.map He.Fa.free ++ cst.map fun p => He.Fa.int p.1 (p.2 : Int))
theorem FunD.kpD {K : PySem.W.Frag} {x q : Str} {a : Arguments} {b : List Stmt} {s : Scope} {f : Addr} {fd : FuncData} (F : FunD K x q a b s [] [] f fd) : PySem.W.keepIn K (.ref f) = true := F.kp
theorem all_at {P : Program} {w : World} {K : PySem.W.Frag} {mg : Str → Option Value} {base h : Heap} {fu : Nat} {ds : List PD} {cst : List (Str × Nat)} {ck : List (Str × D)} {cd : List (Str × List (Str × D))} {xr xd : List Str} (X : K.In h) (G : h.Ns mainGlobals mg) (c : He.SaysD (facts ds cst) (ds.map PD.dd) K) (ko : CkOk K w mg ⟨ds.map (·.name), cst, ck, cd, xr, xd⟩) (hd : ∀ d ∈ ds, d.Ok ⟨ds.map (·.name), cst, ck, cd, xr, xd⟩) :
    ∀ k f, f ∈ ds.map (·.name) → FnAt P w K mg base (tab ds) fu k f := by
  have blt : ∀ b, b ∈ bnames → mg b = none := fun b hb => He.free_ok X G (He.SaysD.facts c (List.mem_append_right _ (List.mem_append_left _ (List.mem_map_of_mem hb))))
  have gc : ∀ x n, (x, n) ∈ cst → ∃ t, mg x = some (.int ((n : Nat) : Int) t) := fun x n hb => He.int_ok X G (He.SaysD.facts c (List.mem_append_right _ (List.mem_append_right _ (List.mem_map_of_mem (f := fun p : Str × Nat => He.Fa.int p.1 (p.2 : Int)) hb))))
  have glo : ∀ d ∈ ds, mg d.name = some (.ref (He.ga K d.name)) := fun d hd => He.glo_ok X G (He.SaysD.facts c (List.mem_append_left _ (List.mem_map_of_mem hd)))
  have fun_ : ∀ d ∈ ds, ∃ fd, FunD K d.name d.name (defArgs d.st) (defBody d.st) (defScope d.st) [] [] (He.ga K d.name) fd := fun d hd => He.SaysD.defs c (d := d.dd) (List.mem_map_of_mem hd)
  intro k
  induction k with
  | zero =>
    intro f hf
    obtain ⟨d, h1, rfl, h3⟩ := tab_of hf
    obtain ⟨fd, F⟩ := fun_ d h1
    exact ⟨_, fd, d.ps, fn_zero, glo d h1, F.kp, F.bindsN (hd d h1).bd⟩
  | succ k ih =>
    intro f hf
    obtain ⟨d, h1, rfl, h3⟩ := tab_of hf
    obtain ⟨fd, F⟩ := fun_ d h1
    exact ⟨_, fd, d.ps, fn_step F (hd d h1).sc (hd d h1).ok blt gc ko ih h3, glo d h1, F.kp, F.bindsN (hd d h1).bd⟩
/-- the law's def, from what its run gives -/
theorem law_sp {K : PySem.W.Frag} {F : List Sl → M Sl} {H : Hp} {a : Addr} {ns : List Int} (hS : SqL K H a (ns.map V.int)) (h : F [⟨.f, .list (ns.map .int)⟩] = .ok ⟨.f, .bool true⟩) : dsp K F [.ref a] H (fun v _ => v = .bl true) E0 := by
  have r : RpA K H (ns.map V.int) (ns.map PyData.int) := by
    induction ns with
    | nil => exact .nil
    | cons n r ih =>
      have aux : ∀ l : List Int, RpA K H (l.map V.int) (l.map PyData.int) := fun l => by
        induction l with
        | nil => exact .nil
        | cons m l ih => exact .cons (.int m) ih
      exact aux _
  refine ⟨H, _, Same.refl _, .cons (s := ⟨.f, .list (ns.map .int)⟩) (.lst hS r) (fun z => nomatch z) .nil, ?_⟩
  rw [h]
  intro G' H' v _ q
  exact Rdb.bool (K := K) (G := G') (H := H') (.inl q.1)
theorem law_end {P : Program} {w : World} {K : PySem.W.Frag} {mg : Str → Option Value} {h : Heap} {fu n k : Nat} {ds : List PD} {cst : List (Str × Nat)} {ck : List (Str × D)} {cd : List (Str × List (Str × D))} {xr xd : List Str} {d : PD} {fa : Addr} {x : Str} (X : K.In h) (G : h.Ns mainGlobals mg) (c : He.SaysD (facts ds cst) (ds.map PD.dd) K) (ko : CkOk K w mg ⟨ds.map (·.name), cst, ck, cd, xr, xd⟩) (hd : ∀ d ∈ ds, d.Ok ⟨ds.map (·.name), cst, ck, cd, xr, xd⟩)
    (hm : d ∈ ds) (hT : tab ds d.name = some ⟨d.N, d.ps, d.body⟩) (hx : d.ps = [x]) (hmg : mg d.name = some (.ref fa))
    (ht : ∀ ns : List Int, ns.length ≤ n → call (tab ds) fu (k + 1) d.name [⟨.f, .list (ns.map .int)⟩] = .ok ⟨.f, .bool true⟩) :
    ∃ (K : PySem.W.Frag) (fd : FuncData) (sp : Sp), K.In h ∧ (∀ (s : Shared) (u : Value), BindsTo s fd ⟨[u], []⟩ [(x, u)]) ∧
        (∀ (H : Hp) (a : Addr) (ns : List Int), ns.length ≤ n → Only H → SqL K H a (ns.map V.int) → sp [.ref a] H (fun v _ => v = .bl true) fun _ _ _ => False) ∧
        ∀ base : Heap, K.In base → base.Ns mainGlobals mg → FnOk P w K mg base CX0 (k + 20 + 1) fa fd [x] sp := by
  obtain ⟨fd, F⟩ := He.SaysD.defs c (d := d.dd) (List.mem_map_of_mem hm)
  have F' : FunD K d.name d.name (defArgs d.st) (defBody d.st) (defScope d.st) [] [] (He.ga K d.name) fd := F
  have e := hmg.symm.trans (He.glo_ok X G (He.SaysD.facts c (List.mem_append_left _ (List.mem_map_of_mem (f := fun d => He.Fa.glo d.name) hm))))
  cases e
  have bd := (hd d hm).bd
  rw [hx] at bd
  refine ⟨K, fd, fun vs H Q _ => dsp K (call (tab ds) fu (k + 1) d.name) vs H Q E0, X, fun s u => F'.bindsA (ps := [x]) bd s [u] rfl, fun H a ns hl _ hS => law_sp hS (ht ns hl), fun base _ _ => ?_⟩
  have blt : ∀ b, b ∈ bnames → mg b = none := fun b hb => He.free_ok X G (He.SaysD.facts c (List.mem_append_right _ (List.mem_append_left _ (List.mem_map_of_mem hb))))
  have gc : ∀ x n, (x, n) ∈ cst → ∃ t, mg x = some (.int ((n : Nat) : Int) t) := fun x n hb => He.int_ok X G (He.SaysD.facts c (List.mem_append_right _ (List.mem_append_right _ (List.mem_map_of_mem (f := fun p : Str × Nat => He.Fa.int p.1 (p.2 : Int)) hb))))
  have q := fn_step (P := P) (w := w) (base := base) (fu := fu) (k := k) F' (hd d hm).sc (hd d hm).ok blt gc ko (all_at X G c ko hd k) hT
  rw [hx] at q
  exact GK.FnOk.quiet q
/-! ### the module's constants, read in the heap -/
mutual
def rpB (K : PySem.W.Frag) : D → Value → Bool
  | .none, .none => true
  | .bool b, .bool c => b == c
  | .int i, .int j _ => decide (i = j)
  | .str x, .str y _ => decide (x = y)
  | .tuple ds, .ref a => match K.lookup a with
    | some ⟨.type c, _, .seq its _, _⟩ => decide (c = "tuple") && (decide (its.size ≤ sizeLine) && rpBs K ds its.toList)
    | _ => false
  | _, _ => false
def rpBs (K : PySem.W.Frag) : List D → List Value → Bool
  | [], [] => true
  | d :: ds, u :: us => rpB K d u && rpBs K ds us
  | _, _ => false
end
mutual
theorem rpB_ok {K : PySem.W.Frag} : ∀ (d : D) (u : Value), rpB K d u = true → ∃ v, RelV v u ∧ ∀ G, Rp K G v d
  | .none, u, h => by
    cases u <;> first | (simp [rpB] at h; done) | skip
    exact ⟨.non, rfl, fun _ => .non⟩
  | .bool b, u, h => by
    cases u <;> first | (simp [rpB] at h; done) | skip
    rename_i c
    have h : (b == c) = true := by simpa [rpB] using h
    rw [eq_of_beq h]
    exact ⟨.bl c, rfl, fun _ => .bl c⟩
  | .int i, u, h => by
    cases u <;> first | (simp [rpB] at h; done) | skip
    rename_i j t
    have h : i = j := by simpa [rpB] using h
    rw [h]
    exact ⟨.int j, ⟨t, rfl⟩, fun _ => .int j⟩
  | .str x, u, h => by
    cases u <;> first | (simp [rpB] at h; done) | skip
    rename_i y t
    have h : x = y := by simpa [rpB] using h
    rw [h]
    exact ⟨.str y, ⟨t, rfl⟩, fun _ => .str y⟩
  | .tuple ds, u, h => by
    cases u <;> first | (simp [rpB] at h; done) | skip
    rename_i a
    unfold rpB at h
    split at h
    · rename_i c od its n osl hq
      obtain ⟨h1, h2⟩ := and2 h
      obtain ⟨h2, h3⟩ := and2 h2
      obtain ⟨vs, h4, h5⟩ := rpBs_ok ds _ h3
      exact ⟨.ref a, rfl, fun G => .tup (.inr ⟨_, its, n, hq, congrArg Value.type (of_decide_eq_true h1), rfl, of_decide_eq_true h2, h4⟩) (h5 G)⟩
    · cases h
  | .list ds, u, h => by cases u <;> simp [rpB] at h
  | .dict ds, u, h => by cases u <;> simp [rpB] at h
theorem rpBs_ok {K : PySem.W.Frag} : ∀ (ds : List D) (us : List Value), rpBs K ds us = true → ∃ vs, Vals vs us ∧ ∀ G, RpA K G vs ds
  | [], us, h => by
    cases us <;> first | (simp [rpBs] at h; done) | skip
    exact ⟨[], .nil, fun _ => .nil⟩
  | d :: ds, us, h => by
    cases us <;> first | (simp [rpBs] at h; done) | skip
    rename_i u us
    unfold rpBs at h
    obtain ⟨h1, h2⟩ := and2 h
    obtain ⟨v, e1, e2⟩ := rpB_ok d u h1
    obtain ⟨vs, e3, e4⟩ := rpBs_ok ds us h2
    exact ⟨v :: vs, .cons e1 e3, fun G => .cons (e2 G) (e4 G)⟩
end
def ckB (K : PySem.W.Frag) (ck : List (Str × D)) : Bool := ck.all fun p => match PySem.W.nsIn K mainGlobals p.1 with
  | some (some u) => rpB K p.2 u
  | _ => false
def cdB (K : PySem.W.Frag) (cd : List (Str × List (Str × D))) : Bool := cd.all fun p => match PySem.W.nsIn K mainGlobals p.1 with
  | some (some (.ref a)) => p.2.all fun q => match PySem.W.nsIn K a q.1 with
    | some (some u) => rpB K q.2 u
    | _ => false
  | _ => false
def tabsOf (cd : List (Str × List (Str × D))) : List He.Tab := cd.map fun p => (fun K => He.ga K p.1, p.2.map (·.1))
/-! the classes of exceptions -/
def knB (K : PySem.W.Frag) (d : Str) : Bool := decide (d = "ValueError") || (match PySem.W.nsIn K mainGlobals d with
  | some (some (.ref _)) => true
  | _ => false)
def bltB (n : String) : Option (Option Value) → Bool
  | some (some (.builtin m)) => decide (m = n)
  | _ => false
theorem bltB_ok {n : String} {v : Option (Option Value)} (h : bltB n v = true) : v = some (some (.builtin n)) := by
  unfold bltB at h
  split at h
  · rw [of_decide_eq_true h]
  · cases h
def nonB : Option (Option Value) → Bool
  | some none => true
  | _ => false
theorem nonB_ok {v : Option (Option Value)} (h : nonB v = true) : v = some none := by
  unfold nonB at h
  split at h
  · rfl
  · cases h
def xdB (K : PySem.W.Frag) (xd : List Str) : Bool := xd.all fun d => match PySem.W.nsIn K mainGlobals d with
  | some (some (.ref _)) => true
  | _ => false
def xrB1 (K : PySem.W.Frag) (c : Str) : Bool :=
  (match PySem.W.nsIn K mainGlobals c with
  | some (some (.ref _)) => true
  | _ => false) && (bltB "BaseException.__getattribute__" (PySem.W.findIn K (.ref (xga K c)) "__getattribute__") && (nonB (PySem.W.findIn K (.ref (xga K c)) "__getattr__") && (decide (PySem.W.subIn K (.ref (xga K c)) (.type "BaseException") = some true) &&
    (PySem.W.hasDictIn K (xga K c) && (bltB "object.__class__" (PySem.W.findIn K (.ref (xga K c)) "__class__") && (bltB "getset_descriptor.__get__" (PySem.W.specialIn K (.builtin "object.__class__") "__get__") && (decide (PySem.W.takesIn K (.builtin "object.__class__") = some true) &&
    (decide (PySem.W.mroIn K (xga K c) (.type "object") = some true) && ((xall.all fun d => !knB K d || decide (PySem.W.kitOne K (.ref (xga K c)) (clsV K d) = some (xsub c d)) && decide (PySem.W.exmOne K (.ref (xga K c)) (clsV K d) = some (xsub c d))) &&
    (PySem.W.excIn K (xga K c) veMro "ValueError.__new__" && (PySem.W.keepIn K (.ref (xga K c)) && (match PySem.W.typeIn K (.ref (xga K c)) with
      | some (.type n) => decide (n = "type")
      | _ => false))))))))))))
def exOf (ck : List (Str × D)) (cd : List (Str × List (Str × D))) (xr xd : List Str) (K : PySem.W.Frag) : Bool := (ckB K ck && cdB K cd) && (xr.all (xrB1 K) && xdB K xd)
theorem nsRef {K : PySem.W.Frag} {d : Str} (h : (match PySem.W.nsIn K mainGlobals d with
  | some (some (.ref _)) => true
  | _ => false) = true) : PySem.W.nsIn K mainGlobals d = some (some (.ref (xga K d))) := by
  unfold xga
  split at h
  · rename_i a e
    rw [e]
  · cases h
theorem kn_ok {K : PySem.W.Frag} {d : Str} (h : XKn K d) : knB K d = true := by
  unfold knB
  rcases h with e | ⟨a, e⟩
  · rw [decide_eq_true e, Bool.true_or]
  · rw [e, Bool.or_true]
theorem xr_ok {K : PySem.W.Frag} {c : Str} {mg : Str → Option Value} {h : Heap} (X : K.In h) (G : h.Ns mainGlobals mg) (q : xrB1 K c = true) : XcOk K c ∧ PySem.W.excIn K (xga K c) veMro "ValueError.__new__" = true ∧ mg c = some (.ref (xga K c)) ∧ PySem.W.keepIn K (.ref (xga K c)) = true ∧
    PySem.W.subIn K (.ref (xga K c)) (.type "BaseException") = some true ∧ PySem.W.typeIn K (.ref (xga K c)) = some (.type "type") := by
  unfold xrB1 at q
  obtain ⟨h0, q⟩ := and2 q
  obtain ⟨h1, q⟩ := and2 q
  obtain ⟨h2, q⟩ := and2 q
  obtain ⟨h3, q⟩ := and2 q
  obtain ⟨h4, q⟩ := and2 q
  obtain ⟨h5, q⟩ := and2 q
  obtain ⟨h6, q⟩ := and2 q
  obtain ⟨h7, q⟩ := and2 q
  obtain ⟨h8, q⟩ := and2 q
  obtain ⟨h9, q⟩ := and2 q
  obtain ⟨h10, q⟩ := and2 q
  obtain ⟨h11, h12⟩ := and2 q
  have each : ∀ d, xall.contains d = true → XKn K d → PySem.W.kitOne K (.ref (xga K c)) (clsV K d) = some (xsub c d) ∧ PySem.W.exmOne K (.ref (xga K c)) (clsV K d) = some (xsub c d) := fun d hd kn => by
    have z := List.all_eq_true.mp h9 d (by simpa using hd)
    rw [kn_ok kn, Bool.not_true, Bool.false_or] at z
    obtain ⟨z1, z2⟩ := and2 z
    exact ⟨of_decide_eq_true z1, of_decide_eq_true z2⟩
  refine ⟨⟨⟨bltB_ok h1, nonB_ok h2, of_decide_eq_true h3, h4, bltB_ok h5, bltB_ok h6, of_decide_eq_true h7, of_decide_eq_true h8⟩, fun d hd kn => (each d hd kn).1, fun d hd kn => (each d hd kn).2⟩, h10, PySem.W.mg_of X G (nsRef h0), h11, of_decide_eq_true h3, ?_⟩
  split at h12
  · rename_i n e
    rw [e, of_decide_eq_true h12]
  · cases h12
theorem lookup_in {z : Str} {d : D} : ∀ {l : List (Str × D)}, l.lookup z = some d → (z, d) ∈ l
  | [], h => by cases h
  | (y, e) :: r, h => by
    rw [List.lookup_cons] at h
    split at h
    · rename_i q
      cases h
      rw [eq_of_beq q]
      exact List.mem_cons_self
    · exact List.mem_cons_of_mem _ (lookup_in h)
theorem ck_of {fa : List He.Fa} {fn : List He.DefD} {tf : List He.Defn} {w : World} {K : PySem.W.Frag} {h : Heap} {mg : Str → Option Value} {ns : List Str} {cst : List (Str × Nat)} {ck : List (Str × D)} {cd : List (Str × List (Str × D))} {xr xd : List Str} (X : K.In h) (G : h.Ns mainGlobals mg)
    (c : He.SaysX fa fn (tabsOf cd) tf (exOf ck cd xr xd) w h K) : CkOk K w mg ⟨ns, cst, ck, cd, xr, xd⟩ := by
  obtain ⟨mm, mx⟩ := and2 c.more
  obtain ⟨m1, m2⟩ := and2 mm
  obtain ⟨m3, m4⟩ := and2 mx
  refine ⟨fun x d hx => ?_, fun x kvs hx => ?_, fun d hd => ?_, fun c hc => xr_ok X G (List.all_eq_true.mp m3 c hc)⟩
  rotate_left 2
  · have z := nsRef (List.all_eq_true.mp m4 d hd)
    exact ⟨PySem.W.mg_of X G z, _, z⟩
  · have h1 := List.all_eq_true.mp m1 _ hx
    split at h1
    · rename_i u e
      obtain ⟨v, e1, e2⟩ := rpB_ok _ _ h1
      exact ⟨v, u, PySem.W.mg_of X G e, e1, e2⟩
    · cases h1
  · have h1 := List.all_eq_true.mp m2 _ hx
    obtain ⟨i, hi, ei⟩ := List.mem_iff_getElem.mp hx
    have ht : (tabsOf cd)[i]? = some ((fun K => He.ga K x, kvs.map (·.1)) : He.Tab) := by
      unfold tabsOf
      rw [List.getElem?_map, List.getElem?_eq_getElem hi, ei]
      rfl
    obtain ⟨es, n, kd⟩ := c.t.tab i ht
    split at h1
    · rename_i a e
      have ea : He.ga K x = a := by
        unfold He.ga
        rw [e]
      refine ⟨a, PySem.W.mg_of X G e, fun z d hz => ?_⟩
      have h2 := List.all_eq_true.mp h1 _ (lookup_in hz)
      split at h2
      · rename_i u eu
        obtain ⟨v, e1, e2⟩ := rpB_ok _ _ h2
        have kd : KDict K w (He.ga K x) es n := kd
        rw [ea] at kd
        exact ⟨v, ⟨es, n, u, kd.1, kd.2, eu, e1⟩, e2⟩
      · cases h2
    · cases h1
end GK

/-! running the small language by rewriting -/
namespace GK
open PySem PySem.Spec PyProof.Rows L2

theorem ok_bind {α β : Type} (a : α) (f : α → M β) : ((Except.ok a : M α) >>= f) = f a := (rfl)
theorem pure_bind' {α β : Type} (a : α) (f : α → M β) : ((pure a : M α) >>= f) = f a := (rfl)
theorem pure_M {α : Type} (a : α) : (pure a : M α) = .ok a := (rfl)
theorem bind_assoc' {α β γ : Type} (x : M α) (f : α → M β) (g : β → M γ) : ((x >>= f) >>= g) = (x >>= fun a => f a >>= g) := by
  cases x <;> rfl
def vm : Md → Md
  | .f => .f
  | _ => .p
theorem vm_f : vm .f = .f := (rfl)
theorem vm_o : vm .o = .p := (rfl)
theorem vm_p : vm .p = .p := (rfl)
theorem vm_vm (m : Md) : vm (vm m) = vm m := by cases m <;> rfl
def rdV : Option (Option Sl) → M Sl
  | some (some ⟨m, d⟩) => .ok ⟨vm m, d⟩
  | _ => stk
theorem rdV_mk (m : Md) (d : D) : rdV (some (some ⟨m, d⟩)) = .ok ⟨vm m, d⟩ := (rfl)
theorem rdV_fI (i : Int) : rdV (some (some (fI i))) = .ok (fI i) := (rfl)
theorem rdV_fB (i : Bool) : rdV (some (some (fB i))) = .ok (fB i) := (rfl)
section
variable (cl : Str → List Sl → M Sl) (fu : Nat) (ρ : Rho)
theorem evE_var (i : Nat) : evE cl (.var i) ρ = rdV ρ[i]? := by
  simp only [evE]
  cases ρ[i]? with
  | none => rfl
  | some o =>
    cases o with
    | none => rfl
    | some s => obtain ⟨m, d⟩ := s; cases m <;> rfl
theorem evE_int (n : Nat) : evE cl (.int n) ρ = .ok (fI (n : Int)) := (rfl)
theorem evE_bl (n : Bool) : evE cl (.bl n) ρ = .ok (fB n) := (rfl)
theorem evE_non : evE cl .non ρ = .ok ⟨.f, .none⟩ := (rfl)
theorem evE_str (n : Str) : evE cl (.str n) ρ = .ok ⟨.f, .str n⟩ := (rfl)
theorem evE_bin (op : Operator) (a b : E) : evE cl (.bin op a b) ρ = evE cl a ρ >>= fun x => evE cl b ρ >>= fun y => binop op x.m x.d y.d := (rfl)
theorem evE_neg (a : E) : evE cl (.neg a) ρ = evE cl a ρ >>= fun x => unop false x.d := (rfl)
theorem evE_inv (a : E) : evE cl (.inv a) ρ = evE cl a ρ >>= fun x => unop true x.d := (rfl)
theorem evE_cmp (op : CmpOp) (a b : E) : evE cl (.cmp op a b) ρ = evE cl a ρ >>= fun x => evE cl b ρ >>= fun y => cmpop op x.d y.d >>= fun r => .ok (fB r) := (rfl)
def ifM {α : Type} (b : Bool) (x y : M α) : M α := if b then x else y
theorem ifM_t {α : Type} (x y : M α) : ifM true x y = x := (rfl)
theorem ifM_f {α : Type} (x y : M α) : ifM false x y = y := (rfl)
theorem evE_chn (op op' : CmpOp) (a b c : E) : evE cl (.chn op op' a b c) ρ = evE cl a ρ >>= fun x => evE cl b ρ >>= fun y => cmpop op x.d y.d >>= fun r => ifM r (evE cl c ρ >>= fun z => cmpop op' y.d z.d >>= fun r' => .ok (fB r')) (.ok (fB false)) := (rfl)
theorem evE_isN (a : E) : evE cl (.isN a) ρ = evE cl a ρ >>= fun x => .ok (fB (isNone x.d)) := (rfl)
theorem evE_notN (a : E) : evE cl (.notN a) ρ = evE cl a ρ >>= fun x => .ok (fB (!isNone x.d)) := (rfl)
theorem evE_and (a b : E) : evE cl (.and a b) ρ = evE cl a ρ >>= fun x => asB x.d >>= fun c => ifM c (evE cl b ρ) (.ok (fB false)) := (rfl)
theorem evE_or (a b : E) : evE cl (.or a b) ρ = evE cl a ρ >>= fun x => asB x.d >>= fun c => ifM c (.ok (fB true)) (evE cl b ρ) := (rfl)
theorem evE_not (a : E) : evE cl (.not a) ρ = evE cl a ρ >>= fun x => asB x.d >>= fun c => .ok (fB (!c)) := (rfl)
theorem evE_ife (c a b : E) : evE cl (.ife c a b) ρ = evE cl c ρ >>= fun x => asB x.d >>= fun k => ifM k (evE cl a ρ) (evE cl b ρ) := (rfl)
theorem evE_tup (es : Es) : evE cl (.tup es) ρ = ifM (decide (esLen es ≤ 1000)) (evF cl es ρ >>= fun ds => .ok ⟨.f, .tuple ds⟩) stk := by
  first | (simp only [evE, ifM, decide_eq_true_eq]; done) | (simp only [evE, ifM, decide_eq_true_eq]; rfl)
theorem evE_lst (es : Es) : evE cl (.lst es) ρ = ifM (decide (esLen es ≤ 1000)) (evF cl es ρ >>= fun ds => .ok ⟨.o, .list ds⟩) stk := by
  first | (simp only [evE, ifM, decide_eq_true_eq]; done) | (simp only [evE, ifM, decide_eq_true_eq]; rfl)
theorem evE_ix (a i : E) : evE cl (.ix a i) ρ = evE cl a ρ >>= fun x => evE cl i ρ >>= fun y => ixD x.d y.d := (rfl)
theorem evE_sl (a : E) (lo hi : Eo) : evE cl (.sl a lo hi) ρ = evE cl a ρ >>= fun x => evO cl lo ρ >>= fun l => evO cl hi ρ >>= fun u => slD x.d l u := (rfl)
theorem evE_call (f : Str) (es : Es) : evE cl (.call f es) ρ = evA cl es ρ >>= fun ss => cl f ss := (rfl)
theorem evE_b1 (b : B1) (a : E) : evE cl (.b1 b a) ρ = evE cl a ρ >>= fun x => b1D b x.d := (rfl)
theorem evE_isi (a : E) (t : Ty) : evE cl (.isi a t) ρ = evE cl a ρ >>= fun x => ifM (nmkD x.d) (.ok (fB (isiD x.d t))) stk := (rfl)
theorem evE_isx (a : E) (c : Str) : evE cl (.isx a c) ρ = evE cl a ρ >>= fun x => isxS x c := (rfl)
def lcTurn (tg : Tg) (ifs : Eo) (elt : E) (vs : List Nat) (d : D) : M (Option D) :=
  bindT tg ⟨.f, d⟩ (wipeR ρ vs) >>= fun ρ' => evC cl ifs ρ' >>= fun c => ifM c (evE cl elt ρ' >>= fun y => asF y >>= fun d => .ok (some d)) (.ok none)
theorem evE_lc (elt : E) (tg : Tg) (it : Iu) (ifs : Eo) (vs : List Nat) : evE cl (.lc elt tg it ifs vs) ρ = evI cl it ρ >>= fun xs => lcGo (lcTurn cl ρ tg ifs elt vs) xs >>= fun ys => ifM (lenOk xs.length && tgIn vs tg) (.ok ⟨.o, .list ys⟩) stk := (rfl)
theorem evE_lrg (it : Iu) : evE cl (.lrg it) ρ = evI cl it ρ >>= fun xs => ifM (lenOk xs.length && isRg it) (.ok ⟨.o, .list xs⟩) stk := (rfl)
theorem evF_nil : evF cl .nil ρ = .ok [] := (rfl)
theorem evF_cons (e : E) (es : Es) : evF cl (.cons e es) ρ = evE cl e ρ >>= fun x => asF x >>= fun d => evF cl es ρ >>= fun ds => .ok (d :: ds) := (rfl)
theorem evA_nil : evA cl .nil ρ = .ok [] := (rfl)
theorem evA_cons (e : E) (es : Es) : evA cl (.cons e es) ρ = evE cl e ρ >>= fun x => evA cl es ρ >>= fun ds => .ok (argS x :: ds) := (rfl)
def getI : D → M Int
  | .int i => .ok i
  | _ => stk
theorem getI_int (i : Int) : getI (.int i) = .ok i := (rfl)
theorem evO_none : evO cl .none ρ = .ok none := (rfl)
theorem evO_some (e : E) : evO cl (.some e) ρ = evE cl e ρ >>= fun x => getI x.d >>= fun i => .ok (some i) := by
  simp only [evO]
  cases evE cl e ρ with
  | error e => rfl
  | ok x => obtain ⟨m, d⟩ := x; cases d <;> rfl
theorem evC_none : evC cl .none ρ = .ok true := (rfl)
theorem evC_some (e : E) : evC cl (.some e) ρ = evE cl e ρ >>= fun x => asB x.d := (rfl)
theorem evI_rg1 (e : E) : evI cl (.rg1 e) ρ = evE cl e ρ >>= fun x => getI x.d >>= fun j => rngD 0 j := by
  simp only [evI]
  cases evE cl e ρ with
  | error e => rfl
  | ok x => obtain ⟨m, d⟩ := x; cases d <;> rfl
theorem evI_rg2 (a b : E) : evI cl (.rg2 a b) ρ = evE cl a ρ >>= fun x => evE cl b ρ >>= fun y => getI x.d >>= fun i => getI y.d >>= fun j => rngD i j := by
  simp only [evI]
  cases evE cl a ρ with
  | error e => rfl
  | ok x =>
    cases evE cl b ρ with
    | error e => rfl
    | ok y => obtain ⟨m, d⟩ := x; obtain ⟨m', d'⟩ := y; cases d <;> cases d' <;> rfl
theorem evI_rg3 (a b c : E) : evI cl (.rg3 a b c) ρ = evE cl a ρ >>= fun x => evE cl b ρ >>= fun y => evE cl c ρ >>= fun z => getI x.d >>= fun i => getI y.d >>= fun j => getI z.d >>= fun k => rng3D i j k := by
  simp only [evI]
  cases evE cl a ρ with
  | error e => rfl
  | ok x =>
    cases evE cl b ρ with
    | error e => rfl
    | ok y =>
      cases evE cl c ρ with
      | error e => rfl
      | ok z => obtain ⟨m, d⟩ := x; obtain ⟨m', d'⟩ := y; obtain ⟨m2, d2⟩ := z; cases d <;> cases d' <;> cases d2 <;> rfl
theorem evI_enm (e : E) : evI cl (.enm e) ρ = evE cl e ρ >>= fun x => itemsD x.d >>= fun xs => .ok (enumD xs) := (rfl)
theorem evI_rev (e : E) : evI cl (.rev e) ρ = evE cl e ρ >>= fun x => itemsD x.d >>= fun xs => .ok xs.reverse := (rfl)
theorem evI_zp (a b : E) : evI cl (.zp a b) ρ = evE cl a ρ >>= fun x => evE cl b ρ >>= fun y => pairD x.d y.d := (rfl)
theorem evI_rvr (e : E) : evI cl (.rvr e) ρ = evE cl e ρ >>= fun x => getI x.d >>= fun j => rngD 0 j >>= fun xs => .ok xs.reverse := by
  simp only [evI]
  cases evE cl e ρ with
  | error e => rfl
  | ok x => obtain ⟨m, d⟩ := x; cases d <;> rfl
theorem evE_dnw : evE cl .dnw ρ = .ok ⟨.o, .dict []⟩ := (rfl)
theorem evE_dsp1 (k v : E) : evE cl (.dsp1 k v) ρ = evE cl k ρ >>= fun x => evE cl v ρ >>= fun y => asF y >>= fun d => ifM (keyOk x.d) (.ok ⟨.o, .dict [(x.d, d)]⟩) stk := (rfl)
theorem evE_pk2 (a b c : E) : evE cl (.pk2 a b c) ρ = evE cl a ρ >>= fun x => asF x >>= fun dx => evE cl b ρ >>= fun y => asF y >>= fun dy => evE cl c ρ >>= fun z => asB z.d >>= fun k => .ok ⟨.f, if k then dy else dx⟩ := (rfl)
theorem evE_lns (a : E) : evE cl (.lns a) ρ = evE cl a ρ >>= fun x => lnsD x.d := (rfl)
theorem evE_sst (a : E) : evE cl (.sst a) ρ = evE cl a ρ >>= fun x => sstD x.d := (rfl)
theorem evE_gk (x : Str) (d : D) : evE cl (.gk x d) ρ = .ok ⟨.f, d⟩ := (rfl)
theorem evE_gdx (x : Str) (kvs : List (Str × D)) (i : E) : evE cl (.gdx x kvs i) ρ = evE cl i ρ >>= fun x => gdxD kvs x.d := (rfl)
theorem evE_dsp (ps : Ps) : evE cl (.dsp ps) ρ = evP cl ps ρ >>= fun kvs => ifM (decide (kvs.length ≤ 15)) (.ok ⟨.o, dspD kvs⟩) stk := (rfl)
theorem evP_nil : evP cl .nil ρ = .ok [] := (rfl)
theorem evP_cons (k v : E) (r : Ps) : evP cl (.cons k v r) ρ = evE cl k ρ >>= fun x => evE cl v ρ >>= fun y => asF y >>= fun d => evP cl r ρ >>= fun ds => ifM (keyOk x.d) (.ok ((x.d, d) :: ds)) stk := by
  rfl
theorem evE_glb (x : Str) (n : Nat) : evE cl (.glb x n) ρ = .ok (fI (n : Int)) := (rfl)
theorem evE_mm (mx : Bool) (a b : E) : evE cl (.mm mx a b) ρ = evE cl a ρ >>= fun x => evE cl b ρ >>= fun y => mmD mx x.d y.d := (rfl)
theorem evE_rvl (a : E) : evE cl (.rvl a) ρ = evE cl a ρ >>= fun x => rvD x.d := (rfl)
theorem evI_seq (e : E) : evI cl (.seq e) ρ = evE cl e ρ >>= fun x => itemsD x.d := (rfl)

def seqF (k : Rho → M Fl) : Fl → M Fl
  | .nx ρ' => k ρ'
  | r => .ok r
theorem seqF_nx (k : Rho → M Fl) (ρ : Rho) : seqF k (.nx ρ) = k ρ := (rfl)
theorem seqF_rt (k : Rho → M Fl) (s : Sl) : seqF k (.rt s) = .ok (.rt s) := (rfl)
theorem seqF_bk (k : Rho → M Fl) (s : Rho) : seqF k (.bk s) = .ok (.bk s) := (rfl)
theorem seqF_ct (k : Rho → M Fl) (s : Rho) : seqF k (.ct s) = .ok (.ct s) := (rfl)
theorem seqF_rz (k : Rho → M Fl) (c : Str) (s : Rho) : seqF k (.rz c s) = .ok (.rz c s) := (rfl)
theorem exSs_nil : exSs cl fu .nil ρ = .ok (.nx ρ) := (rfl)
theorem exSs_cons (s : S) (ss : Ss) : exSs cl fu (.cons s ss) ρ = exS cl fu s ρ >>= seqF (exSs cl fu ss) := by
  simp only [exSs]
  congr
theorem exSs_frz (i : Nat) (ss : Ss) : exSs cl fu (.frz i ss) ρ = exSs cl fu ss (frzR i ρ) := (rfl)
theorem exS_asg (t : Tg) (e : E) : exS cl fu (.asg t e) ρ = evE cl e ρ >>= fun s => bindT t s ρ >>= fun ρ' => .ok (.nx ρ') := (rfl)
def setG (x : Nat) (ds : List D) (v : D) (j : D) : M Fl := match j with
  | .int k => match ixN ds.length k with
    | some n => .ok (.nx (ρ.set x (some ⟨.o, .list (ds.set n v)⟩)))
    | none => stk
  | _ => stk
theorem exS_setix (x : Nat) (i e : E) : exS cl fu (.setix x i e) ρ = evE cl e ρ >>= fun s => asF s >>= fun v => evE cl i ρ >>= fun j => setO x ρ v j.d := (rfl)
theorem exS_app (x : Nat) (e : E) : exS cl fu (.app x e) ρ = evE cl e ρ >>= fun s => asF s >>= fun v => ownL x ρ >>= fun ds => ifM (lenOk (ds.length + 1)) (.ok (.nx (ρ.set x (some ⟨.o, .list (ds ++ [v])⟩)))) stk := (rfl)
def extG (x : Nat) (ds : List D) (m : Md) (d : D) : M Fl := match d with
  | .list vs => ifM (lenOk (ds.length + vs.length) && !isF m) (.ok (.nx (ρ.set x (some ⟨.o, .list (ds ++ vs)⟩)))) stk
  | _ => stk
theorem exS_ext (x : Nat) (e : E) : exS cl fu (.ext x e) ρ = evE cl e ρ >>= fun s => ownL x ρ >>= fun ds => extG ρ x ds s.m s.d := by
  first | rfl | (simp only [exS]; done) | (simp only [exS]; rfl)
theorem exS_exp (e : E) : exS cl fu (.exp e) ρ = evE cl e ρ >>= fun _ => .ok (.nx ρ) := (rfl)
theorem exS_ret (e : E) : exS cl fu (.ret e) ρ = evE cl e ρ >>= fun s => retS e ρ s >>= fun r => .ok (.rt r) := (rfl)
theorem exS_retN : exS cl fu .retN ρ = .ok (.rt ⟨.f, .none⟩) := (rfl)
theorem exS_ite (c : E) (a b : Ss) : exS cl fu (.ite c a b) ρ = evE cl c ρ >>= fun x => asB x.d >>= fun k => ifM k (exSs cl fu a ρ) (exSs cl fu b ρ) := (rfl)
theorem exS_for (t : Tg) (it : Iu) (b : Ss) : exS cl fu (.for_ t it b) ρ = evI cl it ρ >>= fun xs => ifM (notP cl it ρ) (forGo (fun d ρ => bindT t ⟨.f, d⟩ ρ) (exSs cl fu b) xs ρ) stk := (rfl)
theorem exS_whl (c : E) (b : Ss) : exS cl fu (.whl c b) ρ = whlGo (fun ρ => evE cl c ρ >>= fun x => asB x.d) (exSs cl fu b) fu ρ := (rfl)
theorem exS_rse (c : Str) : exS cl fu (.rse c) ρ = .ok (.rz c ρ) := (rfl)
theorem exS_cst (k : Ck) (f : Str) (es : Es) : exS cl fu (.cst k f es) ρ = evA cl es ρ >>= fun ss => ckG k ρ (cl f ss) := (rfl)
def tryG (hs : Hs) : Fl → M Fl
  | .rz c ρ' => exHs cl fu c hs ρ'
  | r => .ok r
theorem exS_tr (b : Ss) (hs : Hs) : exS cl fu (.tr b hs) ρ = exSs cl fu b ρ >>= tryG cl fu hs := by
  simp only [exS]
  congr
theorem tryG_nx (hs : Hs) (ρ : Rho) : tryG cl fu hs (.nx ρ) = .ok (.nx ρ) := (rfl)
theorem tryG_rt (hs : Hs) (s : Sl) : tryG cl fu hs (.rt s) = .ok (.rt s) := (rfl)
theorem tryG_rz (hs : Hs) (c : Str) (ρ : Rho) : tryG cl fu hs (.rz c ρ) = exHs cl fu c hs ρ := (rfl)
theorem exHs_nil (c : Str) : exHs cl fu c .nil ρ = .ok (.rz c ρ) := (rfl)
theorem exHs_cons (c : Str) (cs : List Str) (nm : Option Nat) (b : Ss) (r : Hs) : exHs cl fu c (.cons cs nm b r) ρ = ifM (cs.all xall.contains) (ifM (cs.any (xsub c)) (exSs cl fu b (nmS nm c ρ) >>= nmF nm) (exHs cl fu c r ρ)) stk := (rfl)
theorem nmS_none (c : Str) : nmS none c ρ = ρ := (rfl)
theorem nmS_some (i : Nat) (c : Str) : nmS (some i) c ρ = ρ.set i (some ⟨.f, xcD c⟩) := (rfl)
theorem nmF_nxN : nmF none (.nx ρ) = .ok (.nx ρ) := (rfl)
theorem nmF_nxS (i : Nat) : nmF (some i) (.nx ρ) = .ok (.nx (ρ.set i none)) := (rfl)
theorem nmF_rt (nm : Option Nat) (s : Sl) : nmF nm (.rt s) = .ok (.rt s) := (rfl)
theorem ckG_asg (t : Tg) (s : Sl) : ckG (.asg t) ρ (.ok s) = bindT t s ρ >>= fun ρ' => .ok (.nx ρ') := (rfl)
theorem ckG_ret (s : Sl) : ckG .ret ρ (.ok s) = retS .non ρ s >>= fun r => .ok (.rt r) := (rfl)
theorem ckG_exp (s : Sl) : ckG .exp ρ (.ok s) = .ok (.nx ρ) := (rfl)
theorem ckG_rz (k : Ck) (c : Str) : ckG k ρ (.error (.raised c)) = .ok (.rz c ρ) := by
  cases k <;> rfl
theorem exS_brk : exS cl fu .brk ρ = .ok (.bk ρ) := (rfl)
theorem exS_cont : exS cl fu .cont ρ = .ok (.ct ρ) := (rfl)
theorem exS_pass : exS cl fu .pass ρ = .ok (.nx ρ) := (rfl)
end
def fin : M Fl → M Sl
  | .ok (.rt s) => .ok s
  | .ok (.nx _) => .ok ⟨.f, .none⟩
  | .ok (.rz c _) => .error (.raised c)
  | .ok _ => stk
  | .error _ => stk
theorem fin_rz (c : Str) (s : Rho) : fin (.ok (.rz c s)) = .error (.raised c) := (rfl)
theorem fin_rt (s : Sl) : fin (.ok (.rt s)) = .ok s := (rfl)
theorem fin_nx (s : Rho) : fin (.ok (.nx s)) = .ok ⟨.f, .none⟩ := (rfl)
theorem runB_eq (cl : Str → List Sl → M Sl) (fu : Nat) (N ps : List Str) (b : Ss) (ss : List Sl) : runB cl fu ⟨N, ps, b⟩ ss = ifM (decide (ss.length = ps.length)) (fin (exSs cl fu b (startR N.length ss))) stk := by
  simp only [runB, ifM, decide_eq_true_eq]
  split
  · split <;> simp_all [fin]
  · rfl
/-! small steps -/
theorem bindT_nm (i : Nat) (d : D) (ρ : Rho) : bindT (.nm i) ⟨.f, d⟩ ρ = .ok (ρ.set i (some ⟨.f, d⟩)) := (rfl)
theorem bindT_nmo (i : Nat) (d : D) (ρ : Rho) : bindT (.nm i) ⟨.o, d⟩ ρ = .ok (ρ.set i (some ⟨.o, d⟩)) := (rfl)
theorem bindT_nI (i : Nat) (d : Int) (ρ : Rho) : bindT (.nm i) (fI d) ρ = .ok (ρ.set i (some (fI d))) := (rfl)
theorem bindT_nB (i : Nat) (d : Bool) (ρ : Rho) : bindT (.nm i) (fB d) ρ = .ok (ρ.set i (some (fB d))) := (rfl)
theorem bindT_tp2 (i j : Nat) (m : Md) (a b : D) (ρ : Rho) : bindT (.tp [i, j]) ⟨m, .tuple [a, b]⟩ ρ = .ok ((ρ.set i (some ⟨.f, a⟩)).set j (some ⟨.f, b⟩)) := (rfl)
theorem bindT_tl5 (i j k l n : Nat) (m : Md) (a b c d f : D) (ρ : Rho) : bindT (.tp [i, j, k, l, n]) ⟨m, .list [a, b, c, d, f]⟩ ρ = .ok (((((ρ.set i (some ⟨.f, a⟩)).set j (some ⟨.f, b⟩)).set k (some ⟨.f, c⟩)).set l (some ⟨.f, d⟩)).set n (some ⟨.f, f⟩)) := (rfl)
theorem bindT_tp3 (i j k : Nat) (m : Md) (a b c : D) (ρ : Rho) : bindT (.tp [i, j, k]) ⟨m, .tuple [a, b, c]⟩ ρ = .ok (((ρ.set i (some ⟨.f, a⟩)).set j (some ⟨.f, b⟩)).set k (some ⟨.f, c⟩)) := (rfl)
theorem fI_d (i : Int) : (fI i).d = .int i := (rfl)
theorem fB_d (i : Bool) : (fB i).d = .bool i := (rfl)
theorem fI_m (i : Int) : (fI i).m = .f := (rfl)
theorem fB_m (i : Bool) : (fB i).m = .f := (rfl)
theorem fI_eq (i : Int) : (⟨.f, .int i⟩ : Sl) = fI i := (rfl)
theorem asF_f (d : D) : asF ⟨.f, d⟩ = .ok d := (rfl)
theorem asF_o (d : D) : asF ⟨.o, d⟩ = .ok d := (rfl)
theorem asF_fI (d : Int) : asF (fI d) = .ok (.int d) := (rfl)
theorem asF_fB (d : Bool) : asF (fB d) = .ok (.bool d) := (rfl)
theorem asB_b (b : Bool) : asB (.bool b) = .ok b := (rfl)
theorem argS_f (d : D) : argS ⟨.f, d⟩ = ⟨.f, d⟩ := (rfl)
theorem argS_o (d : D) : argS ⟨.o, d⟩ = ⟨.f, d⟩ := (rfl)
theorem argS_p (d : D) : argS ⟨.p, d⟩ = ⟨.p, d⟩ := (rfl)
theorem argS_v (m : Md) (d : D) : argS ⟨vm m, d⟩ = ⟨vm m, d⟩ := by cases m <;> rfl
theorem argS_fI (d : Int) : argS (fI d) = fI d := (rfl)
theorem argS_fB (d : Bool) : argS (fB d) = fB d := (rfl)
theorem retS_f (e : E) (ρ : Rho) (d : D) : retS e ρ ⟨.f, d⟩ = .ok ⟨.f, d⟩ := (rfl)
theorem retS_o (e : E) (ρ : Rho) (d : D) : retS e ρ ⟨.o, d⟩ = .ok ⟨.o, d⟩ := (rfl)
theorem retS_fI (e : E) (ρ : Rho) (d : Int) : retS e ρ (fI d) = .ok (fI d) := (rfl)
theorem retS_fB (e : E) (ρ : Rho) (d : Bool) : retS e ρ (fB d) = .ok (fB d) := (rfl)
def retP (d : D) : Option (Option Sl) → M Sl
  | some (some ⟨.o, _⟩) => ifM (nmkD d) (.ok ⟨.o, d⟩) stk
  | _ => stk
theorem retP_o (d d' : D) : retP d (some (some ⟨.o, d'⟩)) = ifM (nmkD d) (.ok ⟨.o, d⟩) stk := (rfl)
theorem retS_p (i : Nat) (ρ : Rho) (d : D) : retS (.var i) ρ ⟨.p, d⟩ = retP d ρ[i]? := by
  simp only [retS]
  cases ρ[i]? with
  | none => rfl
  | some o =>
    cases o with
    | none => rfl
    | some s => obtain ⟨m, d⟩ := s; cases m <;> rfl
def ownG : Option (Option Sl) → M (List D)
  | some (some ⟨.o, .list ds⟩) => .ok ds
  | _ => stk
theorem ownG_o (ds : List D) : ownG (some (some ⟨.o, .list ds⟩)) = .ok ds := (rfl)
theorem ownL_eq (x : Nat) (ρ : Rho) : ownL x ρ = ownG ρ[x]? := by
  simp only [ownL]
  cases ρ[x]? with
  | none => rfl
  | some o =>
    cases o with
    | none => rfl
    | some s => obtain ⟨m, d⟩ := s; cases m <;> cases d <;> rfl
def frzB (b : Bool) (ρ' ρ : Rho) : Rho := if b then ρ' else ρ
theorem frzB_t (ρ' ρ : Rho) : frzB true ρ' ρ = ρ' := (rfl)
theorem nmkD_list (xs : List D) : nmkD (.list xs) = true := (rfl)
theorem nmkD_tuple (xs : List D) : nmkD (.tuple xs) = true := (rfl)
theorem nmkD_int (i : Int) : nmkD (.int i) = true := (rfl)
theorem nmkD_bool (i : Bool) : nmkD (.bool i) = true := (rfl)
theorem nmkD_dict (ds : List (D × D)) : nmkD (.dict ds) = nmk ds := (rfl)
theorem nmk_nil : nmk [] = true := (rfl)
theorem nmk_int (i : Int) (v : D) (ds : List (D × D)) : nmk ((.int i, v) :: ds) = true := (rfl)
theorem nmk_str (i : Str) (v : D) (ds : List (D × D)) : nmk ((.str i, v) :: ds) = true := (rfl)
def frzG (i : Nat) (ρ : Rho) : Option (Option Sl) → Rho
  | some (some ⟨.o, d⟩) => frzB (nmkD d) (ρ.set i (some ⟨.f, d⟩)) ρ
  | _ => ρ
theorem frzG_o (i : Nat) (ρ : Rho) (d : D) : frzG i ρ (some (some ⟨.o, d⟩)) = frzB (nmkD d) (ρ.set i (some ⟨.f, d⟩)) ρ := (rfl)
theorem frzG_f (i : Nat) (ρ : Rho) (d : D) : frzG i ρ (some (some ⟨.f, d⟩)) = ρ := (rfl)
theorem frzG_fI (i : Nat) (ρ : Rho) (d : Int) : frzG i ρ (some (some (fI d))) = ρ := (rfl)
theorem frzG_fB (i : Nat) (ρ : Rho) (d : Bool) : frzG i ρ (some (some (fB d))) = ρ := (rfl)
theorem frzR_eq (i : Nat) (ρ : Rho) : frzR i ρ = frzG i ρ ρ[i]? := by
  simp only [frzR]
  cases ρ[i]? with
  | none => rfl
  | some o =>
    cases o with
    | none => rfl
    | some s => obtain ⟨m, d⟩ := s; cases m <;> rfl
theorem extG_list (ρ : Rho) (x : Nat) (ds vs : List D) (m : Md) : extG ρ x ds m (.list vs) = ifM (lenOk (ds.length + vs.length) && !isF m) (.ok (.nx (ρ.set x (some ⟨.o, .list (ds ++ vs)⟩)))) stk := (rfl)
theorem isF_f : isF .f = true := (rfl)
theorem isF_o : isF .o = false := (rfl)
theorem isF_p : isF .p = false := (rfl)
theorem binop_int (op : Operator) (m : Md) (i j : Int) : binop op m (.int i) (.int j) = binI op i j := (rfl)
theorem binI_add (i j : Int) : binI .Add i j = .ok (fI (i + j)) := (rfl)
theorem binI_sub (i j : Int) : binI .Sub i j = .ok (fI (i - j)) := (rfl)
theorem binI_mul (i j : Int) : binI .Mult i j = ckI (mulOk i j) (i * j) := (rfl)
theorem binI_div (i j : Int) : binI .FloorDiv i j = ckI (decide (0 < j) && decide (j < 1073741824)) (i / j) := (rfl)
theorem binI_mod (i j : Int) : binI .Mod i j = ckI (decide (0 < j)) (i % j) := (rfl)
theorem binI_pow (i j : Int) : binI .Pow i j = ckI (powOk i j) (i ^ j.toNat) := (rfl)
theorem binI_shl (i j : Int) : binI .LShift i j = ckI (powOk i j) (i * 2 ^ j.toNat) := (rfl)
theorem binI_shr (i j : Int) : binI .RShift i j = ckI (decide (0 ≤ j)) (i / 2 ^ j.toNat) := (rfl)
theorem binI_and (i j : Int) : binI .BitAnd i j = .ok (fI (Builtin.bitAnd i j)) := (rfl)
theorem binI_or (i j : Int) : binI .BitOr i j = .ok (fI (Builtin.bitOr i j)) := (rfl)
theorem binI_xor (i j : Int) : binI .BitXor i j = .ok (fI (Builtin.bitXor i j)) := (rfl)
theorem binop_cat (m : Md) (xs ys : List D) : binop .Add m (.list xs) (.list ys) = ckO (lenOk (xs.length + ys.length)) (xs ++ ys) := (rfl)
theorem binop_rep (m : Md) (xs : List D) (k : Int) : binop .Mult m (.list xs) (.int k) = ckO (repOk xs.length k && !isF m) (List.replicate k.toNat xs).flatten := (rfl)
theorem ckI_t (i : Int) : ckI true i = .ok (fI i) := (rfl)
theorem ckO_t (i : List D) : ckO true i = .ok ⟨.o, .list i⟩ := (rfl)
theorem unop_neg (i : Int) : unop false (.int i) = .ok (fI (-i)) := (rfl)
theorem unop_inv (i : Int) : unop true (.int i) = .ok (fI (Builtin.bitNot i)) := (rfl)
theorem deq_int (i j : Int) : deq (.int i) (.int j) = .ok (i == j) := by
  have h : ∀ k : Int, SeqAt.shaped (.int k) = true := fun k => rfl
  simp only [deq, h, PyData.eqv, Bool.and_self, if_true]
theorem cmpop_eq (x y : D) : cmpop .Eq x y = deq x y := (rfl)
theorem cmpop_ne (x y : D) : cmpop .NotEq x y = deq x y >>= fun b => .ok (!b) := by
  simp only [cmpop]
  cases deq x y <;> rfl
theorem cmpop_lt (i j : Int) : cmpop .Lt (.int i) (.int j) = .ok (decide (i < j)) := (rfl)
theorem cmpop_le (i j : Int) : cmpop .LtE (.int i) (.int j) = .ok (decide (i ≤ j)) := (rfl)
theorem cmpop_gt (i j : Int) : cmpop .Gt (.int i) (.int j) = .ok (decide (j < i)) := (rfl)
theorem cmpop_ge (i j : Int) : cmpop .GtE (.int i) (.int j) = .ok (decide (j ≤ i)) := (rfl)
def optS : Option D → M Sl
  | some d => .ok ⟨.f, d⟩
  | none => stk
theorem optS_some (d : D) : optS (some d) = .ok ⟨.f, d⟩ := (rfl)
theorem ixD_list (xs : List D) (i : Int) : ixD (.list xs) (.int i) = optS (atI xs i) := by
  simp only [ixD]
  cases atI xs i <;> rfl
theorem ixD_tup (xs : List D) (i : Int) : ixD (.tuple xs) (.int i) = optS (atI xs i) := by
  simp only [ixD]
  cases atI xs i <;> rfl
theorem slD_list (xs : List D) (lo hi : Option Int) : slD (.list xs) lo hi = .ok ⟨.o, .list (cutD xs lo hi)⟩ := (rfl)
theorem b1D_len (xs : List D) : b1D .len (.list xs) = .ok (fI xs.length) := (rfl)
theorem b1D_lenT (xs : List D) : b1D .len (.tuple xs) = .ok (fI xs.length) := (rfl)
theorem b1D_lenD (ds : List (D × D)) (h : nmk ds = true) : b1D .len (.dict ds) = .ok (fI ds.length) := by
  show (if nmk ds then _ else _) = _
  rw [h]; rfl
theorem b1D_list (xs : List D) : b1D .list (.list xs) = .ok ⟨.o, .list xs⟩ := (rfl)
theorem b1D_listT (xs : List D) : b1D .list (.tuple xs) = .ok ⟨.o, .list xs⟩ := (rfl)
theorem b1D_tup (xs : List D) : b1D .tuple (.list xs) = .ok ⟨.f, .tuple xs⟩ := (rfl)
theorem b1D_tupT (xs : List D) : b1D .tuple (.tuple xs) = .ok ⟨.f, .tuple xs⟩ := (rfl)
theorem b1D_int (i : Int) : b1D .int (.int i) = .ok (fI i) := (rfl)
theorem b1D_intB (i : Bool) : b1D .int (.bool i) = .ok (fI (if i then 1 else 0)) := (rfl)
def sumS : Option (List Int) → M Sl
  | some ns => .ok (fI ns.sum)
  | none => stk
theorem b1D_sum (xs : List D) : b1D .sum (.list xs) = sumS (intsD xs) := by
  simp only [b1D]
  cases intsD xs <;> rfl
theorem sumS_some (ns : List Int) : sumS (some ns) = .ok (fI ns.sum) := (rfl)
def allS (f : List Bool → Bool) : Option (List Bool) → M Sl
  | some ns => .ok (fB (f ns))
  | none => stk
theorem allS_some (f : List Bool → Bool) (ns : List Bool) : allS f (some ns) = .ok (fB (f ns)) := (rfl)
theorem b1D_all (xs : List D) : b1D .all (.list xs) = allS (fun bs => bs.all id) (boolsD xs) := by
  simp only [b1D]
  cases boolsD xs <;> rfl
theorem b1D_any (xs : List D) : b1D .any (.list xs) = allS (fun bs => bs.any id) (boolsD xs) := by
  simp only [b1D]
  cases boolsD xs <;> rfl
theorem intsD_map {α : Type} (f : α → Int) : ∀ xs : List α, intsD (xs.map fun x => PyData.int (f x)) = some (xs.map f)
  | [] => rfl
  | x :: xs => by simp only [List.map_cons, intsD, intsD_map f xs, Option.map_some]
theorem boolsD_map {α : Type} (f : α → Bool) : ∀ xs : List α, boolsD (xs.map fun x => PyData.bool (f x)) = some (xs.map f)
  | [] => rfl
  | x :: xs => by simp only [List.map_cons, boolsD, boolsD_map f xs, Option.map_some]
theorem itemsD_list (xs : List D) : itemsD (.list xs) = .ok xs := (rfl)
theorem itemsD_tup (xs : List D) : itemsD (.tuple xs) = .ok xs := (rfl)
theorem rngD_nat {n : Nat} (h : n < 2 ^ 62) : rngD 0 (n : Int) = .ok ((List.range n).map fun k => .int (k : Nat)) := by
  have e : ((n : Int) - 0).toNat = n := by omega
  unfold rngD
  rw [if_pos]
  · rw [e]
    congr
    funext k
    rw [Int.zero_add]
  · simp only [Bool.and_eq_true, decide_eq_true_eq]
    omega
theorem rngD_nat2 {a b : Nat} (h : a < 2 ^ 62) (h2 : b < 2 ^ 62) : rngD (a : Int) (b : Int) = .ok ((List.range (b - a)).map fun k => .int ((a + k : Nat) : Int)) := by
  have e : ((b : Int) - a).toNat = b - a := by omega
  unfold rngD
  rw [if_pos]
  · rw [e]
    rfl
  · simp only [Bool.and_eq_true, decide_eq_true_eq]
    omega
def notPm : Md → Bool
  | .p => false
  | _ => true
theorem notP_rg1 (cl : Str → List Sl → M Sl) (a : E) (ρ : Rho) : notP cl (.rg1 a) ρ = true := (rfl)
theorem notP_rg2 (cl : Str → List Sl → M Sl) (a b : E) (ρ : Rho) : notP cl (.rg2 a b) ρ = true := (rfl)
def notPs : M Sl → Bool
  | .ok ⟨.p, _⟩ => false
  | _ => true
theorem notPs_f (d : D) : notPs (.ok ⟨.f, d⟩) = true := (rfl)
theorem notPs_o (d : D) : notPs (.ok ⟨.o, d⟩) = true := (rfl)
def lentS : E → Rho → Option (Option Sl) → Bool
  | .var _, _, some (some ⟨.p, _⟩) => true
  | _, _, _ => false
theorem npE_old (cl : Str → List Sl → M Sl) (a : E) (ρ : Rho) : npE cl a ρ = (lentE a ρ || notPs (evE cl a ρ)) := by
  unfold npE
  congr 1
theorem lentE_call (f : Str) (es : Es) (ρ : Rho) : lentE (.call f es) ρ = false := (rfl)
theorem lentE_lst (es : Es) (ρ : Rho) : lentE (.lst es) ρ = false := (rfl)
theorem lentE_tup (es : Es) (ρ : Rho) : lentE (.tup es) ρ = false := (rfl)
theorem lentE_ix (a b : E) (ρ : Rho) : lentE (.ix a b) ρ = false := (rfl)
theorem lentE_sl (a : E) (b c : Eo) (ρ : Rho) : lentE (.sl a b c) ρ = false := (rfl)
theorem lentE_bin (o : Operator) (a b : E) (ρ : Rho) : lentE (.bin o a b) ρ = false := (rfl)
theorem lentE_b1 (o : B1) (a : E) (ρ : Rho) : lentE (.b1 o a) ρ = false := (rfl)
theorem lentE_lc (a : E) (t : Tg) (i : Iu) (o : Eo) (vs : List Nat) (ρ : Rho) : lentE (.lc a t i o vs) ρ = false := (rfl)
theorem lentE_lrg (i : Iu) (ρ : Rho) : lentE (.lrg i) ρ = false := (rfl)
theorem lentE_sst (a : E) (ρ : Rho) : lentE (.sst a) ρ = false := (rfl)
theorem lentE_gk (x : Str) (d : D) (ρ : Rho) : lentE (.gk x d) ρ = false := (rfl)
theorem lentE_gdx (x : Str) (kvs : List (Str × D)) (a : E) (ρ : Rho) : lentE (.gdx x kvs a) ρ = false := (rfl)
theorem lentE_dsp (p : Ps) (ρ : Rho) : lentE (.dsp p) ρ = false := (rfl)
theorem lentE_rvl (i : E) (ρ : Rho) : lentE (.rvl i) ρ = false := (rfl)
def lentO : Option (Option Sl) → Bool
  | some (some ⟨.p, _⟩) => true
  | _ => false
theorem lentE_var (i : Nat) (ρ : Rho) : lentE (.var i) ρ = lentO ρ[i]? := by
  simp only [lentE]
  cases ρ[i]? with
  | none => rfl
  | some o =>
    cases o with
    | none => rfl
    | some s => obtain ⟨m, d⟩ := s; cases m <;> rfl
theorem lentO_p (d : D) : lentO (some (some ⟨.p, d⟩)) = true := (rfl)
theorem lentO_f (d : D) : lentO (some (some ⟨.f, d⟩)) = false := (rfl)
theorem lentO_o (d : D) : lentO (some (some ⟨.o, d⟩)) = false := (rfl)
theorem notPs_vm (m : Md) (d : D) : (lentO (some (some ⟨m, d⟩)) || notPs (.ok ⟨vm m, d⟩)) = !(decide (m = .o)) := by cases m <;> rfl
theorem notP_seq (cl : Str → List Sl → M Sl) (a : E) (ρ : Rho) : notP cl (.seq a) ρ = (lentE a ρ || notPs (evE cl a ρ)) := npE_old cl a ρ
/-- a comprehension, item by item -/
theorem lcGo_map {α : Type} (g : α → D) (h : α → D) {f : D → M (Option D)} : ∀ (xs : List α), (∀ x ∈ xs, f (g x) = .ok (some (h x))) → lcGo f (xs.map g) = .ok (xs.map h)
  | [], _ => rfl
  | x :: xs, H => by
    simp only [List.map_cons, lcGo, H x List.mem_cons_self, lcGo_map g h xs fun y hy => H y (List.mem_cons_of_mem _ hy)]
    rfl
theorem lcGo_filter {α : Type} (g : α → D) (h : α → D) (p : α → Bool) {f : D → M (Option D)} : ∀ (xs : List α), (∀ x ∈ xs, f (g x) = .ok (if p x then some (h x) else none)) → lcGo f (xs.map g) = .ok ((xs.filter p).map h)
  | [], _ => rfl
  | x :: xs, H => by
    simp only [List.map_cons, lcGo, H x List.mem_cons_self, lcGo_filter g h p xs fun y hy => H y (List.mem_cons_of_mem _ hy)]
    cases hp : p x <;> simp [hp, ok_bind, pure_M]
/-- loops by an invariant -/
theorem forGo_inv {B : D → Rho → M Rho} {C : Rho → M Fl} (P : Nat → Rho → Prop) : ∀ (xs : List D) (ρ : Rho), P 0 ρ → (∀ i x ρ, xs[i]? = some x → P i ρ → ∃ ρ1 ρ2, B x ρ = .ok ρ1 ∧ C ρ1 = .ok (.nx ρ2) ∧ P (i + 1) ρ2) → ∃ ρ', forGo B C xs ρ = .ok (.nx ρ') ∧ P xs.length ρ' := by
  intro xs
  have aux : ∀ (l : List D) (n : Nat) (ρ : Rho), P n ρ → (∀ i x ρ, l[i]? = some x → P (n + i) ρ → ∃ ρ1 ρ2, B x ρ = .ok ρ1 ∧ C ρ1 = .ok (.nx ρ2) ∧ P (n + i + 1) ρ2) → ∃ ρ', forGo B C l ρ = .ok (.nx ρ') ∧ P (n + l.length) ρ' := by
    intro l
    induction l with
    | nil => intro n ρ h _; exact ⟨ρ, rfl, h⟩
    | cons x l ih =>
      intro n ρ h hs
      obtain ⟨ρ1, ρ2, e1, e2, h2⟩ := hs 0 x ρ rfl h
      obtain ⟨ρ', e3, h3⟩ := ih (n + 1) ρ2 h2 fun i y ρ hy hp => by
        have := hs (i + 1) y ρ (by simpa using hy)
        rw [show n + (i + 1) = n + 1 + i from by omega] at this
        exact this hp
      refine ⟨ρ', ?_, ?_⟩
      · simp only [forGo, e1, e2, ok_bind, e3]
      · rw [List.length_cons, show n + (l.length + 1) = n + 1 + l.length from by omega]
        exact h3
  intro ρ h0 hs
  have := aux xs 0 ρ h0 fun i x ρ hx hp => by
    have := hs i x ρ hx
    rw [Nat.zero_add] at hp ⊢
    exact this hp
  rw [Nat.zero_add] at this
  exact this
/-- a block runs through to a state -/
def NX (m : M Fl) (Q : Rho → Prop) : Prop := ∃ ρ, m = .ok (.nx ρ) ∧ Q ρ
theorem nx_ok {ρ : Rho} {Q : Rho → Prop} (h : Q ρ) : NX (.ok (.nx ρ)) Q := ⟨ρ, rfl, h⟩
theorem forGo_nx {B : D → Rho → M Rho} {C : Rho → M Fl} (P : Nat → Rho → Prop) {xs : List D} {ρ : Rho} (h0 : P 0 ρ) (hs : ∀ i x ρ, xs[i]? = some x → P i ρ → NX (B x ρ >>= C) (P (i + 1))) : NX (forGo B C xs ρ) (P xs.length) := by
  refine forGo_inv P xs ρ h0 fun i x ρ hx hp => ?_
  obtain ⟨ρ2, e, q⟩ := hs i x ρ hx hp
  obtain ⟨ρ1, e1, e2⟩ := bind_ok e
  exact ⟨ρ1, ρ2, e1, e2, q⟩
/-- .. where the goal is the end of a def -/
theorem for_fin {B : D → Rho → M Rho} {C : Rho → M Fl} {xs : List D} {ρ : Rho} {k : Fl → M Fl} {r : M Sl} (P : Nat → Rho → Prop) (h0 : P 0 ρ)
    (hs : ∀ i x ρ, xs[i]? = some x → P i ρ → NX (B x ρ >>= C) (P (i + 1))) (hk : ∀ ρ', P xs.length ρ' → fin (k (.nx ρ')) = r) : fin (forGo B C xs ρ >>= k) = r := by
  obtain ⟨ρ', e, h⟩ := forGo_nx P h0 hs
  rw [e]
  exact hk ρ' h
/-- .. within a block -/
theorem for_nx {B : D → Rho → M Rho} {C : Rho → M Fl} {xs : List D} {ρ : Rho} {k : Fl → M Fl} {Q : Rho → Prop} (P : Nat → Rho → Prop) (h0 : P 0 ρ)
    (hs : ∀ i x ρ, xs[i]? = some x → P i ρ → NX (B x ρ >>= C) (P (i + 1))) (hk : ∀ ρ', P xs.length ρ' → NX (k (.nx ρ')) Q) : NX (forGo B C xs ρ >>= k) Q := by
  obtain ⟨ρ', e, h⟩ := forGo_nx P h0 hs
  rw [e]
  exact hk ρ' h
/-- whiles: a measure falls -/
theorem whlGo_nx {T : Rho → M Bool} {C : Rho → M Fl} (P : Rho → Prop) (μ : Rho → Nat) (Q : Rho → Prop) (ht : ∀ ρ, P ρ → (T ρ = .ok false ∧ Q ρ) ∨ (T ρ = .ok true ∧ NX (C ρ) fun ρ' => P ρ' ∧ μ ρ' < μ ρ)) : ∀ (n : Nat) (ρ : Rho), P ρ → μ ρ < n → NX (whlGo T C n ρ) Q
  | 0, _, _, h => absurd h (Nat.not_lt_zero _)
  | n + 1, ρ, h, hn => by
    rcases ht ρ h with ⟨e, q⟩ | ⟨e, ρ', e2, h2, hm⟩
    · exact ⟨ρ, by simp only [whlGo, e, ok_bind]; rfl, q⟩
    · obtain ⟨ρ2, e3, q⟩ := whlGo_nx P μ Q ht n ρ' h2 (by omega)
      exact ⟨ρ2, by simp only [whlGo, e, ok_bind, e2, if_pos, e3], q⟩
theorem whl_fin {T : Rho → M Bool} {C : Rho → M Fl} {n : Nat} {ρ : Rho} {k : Fl → M Fl} {r : M Sl} (P : Rho → Prop) (μ : Rho → Nat) (Q : Rho → Prop) (h0 : P ρ) (hn : μ ρ < n)
    (ht : ∀ ρ, P ρ → (T ρ = .ok false ∧ Q ρ) ∨ (T ρ = .ok true ∧ NX (C ρ) fun ρ' => P ρ' ∧ μ ρ' < μ ρ)) (hk : ∀ ρ', Q ρ' → fin (k (.nx ρ')) = r) : fin (whlGo T C n ρ >>= k) = r := by
  obtain ⟨ρ', e, h⟩ := whlGo_nx P μ Q ht n ρ h0 hn
  rw [e]
  exact hk ρ' h
theorem whl_nx {T : Rho → M Bool} {C : Rho → M Fl} {n : Nat} {ρ : Rho} {k : Fl → M Fl} {R : Rho → Prop} (P : Rho → Prop) (μ : Rho → Nat) (Q : Rho → Prop) (h0 : P ρ) (hn : μ ρ < n)
    (ht : ∀ ρ, P ρ → (T ρ = .ok false ∧ Q ρ) ∨ (T ρ = .ok true ∧ NX (C ρ) fun ρ' => P ρ' ∧ μ ρ' < μ ρ)) (hk : ∀ ρ', Q ρ' → NX (k (.nx ρ')) R) : NX (whlGo T C n ρ >>= k) R := by
  obtain ⟨ρ', e, h⟩ := whlGo_nx P μ Q ht n ρ h0 hn
  rw [e]
  exact hk ρ' h
theorem lenOk_of {n : Nat} (h : n ≤ 16777216) : lenOk n = true := decide_eq_true h
theorem powOk_of {i j : Int} (h1 : 0 ≤ j) (h2 : j ≤ 1000000) (h3 : i.natAbs < 2 ^ 64) : powOk i j = true := by
  unfold powOk
  simp only [Bool.and_eq_true, decide_eq_true_eq]
  exact ⟨⟨h1, h2⟩, h3⟩
theorem mulOk_of {i j : Int} (h1 : -(2 ^ 64) < i) (h2 : i < 2 ^ 64) : mulOk i j = true := by
  unfold mulOk
  simp only [Bool.or_eq_true, Bool.and_eq_true, decide_eq_true_eq]
  exact .inl ⟨h1, h2⟩
theorem atI_ofNat {xs : List D} {i : Nat} {d : D} (h : xs[i]? = some d) : atI xs (i : Int) = some d := atI_nat h
/-- ints as they are -/
def nI (n : Nat) : Sl := fI (n : Int)
theorem bitAnd_one (n : Nat) : Builtin.bitAnd (n : Int) 1 = ((n % 2 : Nat) : Int) := by
  have : Builtin.bitAnd (n : Int) ((1 : Nat) : Int) = ((n &&& 1 : Nat) : Int) := (rfl)
  rw [show (1 : Int) = ((1 : Nat) : Int) from rfl, this, Nat.and_one_is_mod]
end GK
namespace GK
open PySem PySem.Spec PyProof.Rows L2
/-! whole numbers from 0 on -/
def nD (n : Nat) : D := .int (n : Int)
theorem nD_eq (n : Nat) : PyData.int (n : Int) = nD n := (rfl)
theorem rdV_nD (m : Md) (n : Nat) : rdV (some (some ⟨m, nD n⟩)) = .ok ⟨vm m, nD n⟩ := (rfl)
theorem binI_add_nat (a b : Nat) : binI .Add (a : Int) (b : Int) = .ok (fI ((a + b : Nat) : Int)) := (rfl)
theorem binI_sub_nat {a b : Nat} (h : b ≤ a) : binI .Sub (a : Int) (b : Int) = .ok (fI ((a - b : Nat) : Int)) := by
  rw [binI_sub, Int.ofNat_sub h]
theorem binI_shr_nat (a b : Nat) : binI .RShift (a : Int) (b : Int) = .ok (fI ((a / 2 ^ b : Nat) : Int)) := by
  rw [binI_shr, decide_eq_true (Int.natCast_nonneg b), ckI_t]
  rfl
theorem binI_shl_nat {a b : Nat} (h : a < 2 ^ 64) (h2 : b ≤ 1000000) : binI .LShift (a : Int) (b : Int) = .ok (fI ((a * 2 ^ b : Nat) : Int)) := by
  rw [binI_shl, powOk_of (Int.natCast_nonneg b) (by omega) (by omega), ckI_t]
  congr 2
theorem binI_and1_nat (a : Nat) : binI .BitAnd (a : Int) ((1 : Nat) : Int) = .ok (fI ((a % 2 : Nat) : Int)) := by
  rw [binI_and, show ((1 : Nat) : Int) = 1 from rfl, bitAnd_one]
theorem binI_mod_nat {a b : Nat} (h : 0 < b) : binI .Mod (a : Int) (b : Int) = .ok (fI ((a % b : Nat) : Int)) := by
  rw [binI_mod, decide_eq_true (by omega), ckI_t]
  rfl
theorem binI_div_nat {a b : Nat} (h : 0 < b) (h2 : b < 1073741824) : binI .FloorDiv (a : Int) (b : Int) = .ok (fI ((a / b : Nat) : Int)) := by
  rw [binI_div, decide_eq_true (show (0 : Int) < b by omega), decide_eq_true (show (b : Int) < 1073741824 by omega)]
  rfl
theorem binI_mul_nat {a b : Nat} (h : a < 2 ^ 64) : binI .Mult (a : Int) (b : Int) = .ok (fI ((a * b : Nat) : Int)) := by
  rw [binI_mul, mulOk_of (by omega) (by omega), ckI_t]
  rfl
theorem ix_map {α : Type} (f : α → D) (xs : List α) (i : Nat) (a : α) (h : xs[i]? = some a) : ixD (.list (xs.map f)) (.int (i : Int)) = .ok ⟨.f, f a⟩ := by
  rw [ixD_list, atI_nat (v := f a) (by rw [List.getElem?_map, h]; rfl)]
  rfl
theorem deq_nat (i j : Nat) : deq (.int (i : Int)) (.int (j : Int)) = .ok (i == j) := by
  rw [deq_int]
  congr 1
  rw [Bool.eq_iff_iff, beq_iff_eq, beq_iff_eq]
  exact Int.ofNat_inj
theorem cmpop_lt_nat (i j : Nat) : cmpop .Lt (.int (i : Int)) (.int (j : Int)) = .ok (decide (i < j)) := by
  rw [cmpop_lt]
  congr 1
  exact decide_eq_decide.mpr Int.ofNat_lt
theorem cmpop_le_nat (i j : Nat) : cmpop .LtE (.int (i : Int)) (.int (j : Int)) = .ok (decide (i ≤ j)) := by
  rw [cmpop_le]
  congr 1
  exact decide_eq_decide.mpr Int.ofNat_le
theorem cmpop_gt_nat (i j : Nat) : cmpop .Gt (.int (i : Int)) (.int (j : Int)) = .ok (decide (j < i)) := by
  rw [cmpop_gt]
  congr 1
  exact decide_eq_decide.mpr Int.ofNat_lt
theorem cmpop_ge_nat (i j : Nat) : cmpop .GtE (.int (i : Int)) (.int (j : Int)) = .ok (decide (j ≤ i)) := by
  rw [cmpop_ge]
  congr 1
  exact decide_eq_decide.mpr Int.ofNat_le
theorem binI_pow_nat {a b : Nat} (h : a < 2 ^ 64) (h2 : b ≤ 1000000) : binI .Pow (a : Int) (b : Int) = .ok (fI ((a ^ b : Nat) : Int)) := by
  rw [binI_pow, powOk_of (Int.natCast_nonneg b) (by omega) (by omega), ckI_t]
  congr 2
theorem range_at {n i : Nat} {f : Nat → D} {x : D} (h : ((List.range n).map f)[i]? = some x) : i < n ∧ x = f i := by
  rw [List.getElem?_map] at h
  rcases Nat.lt_or_ge i n with q | q
  · rw [List.getElem?_range q] at h
    cases h
    exact ⟨q, rfl⟩
  · rw [List.getElem?_eq_none (by rw [List.length_range]; exact q)] at h
    cases h
theorem map_at {α : Type} {xs : List α} {i : Nat} {f : α → D} {x : D} (h : (xs.map f)[i]? = some x) : ∃ a, xs[i]? = some a ∧ x = f a := by
  rw [List.getElem?_map] at h
  obtain ⟨a, e, r⟩ := Option.map_eq_some_iff.mp h
  exact ⟨a, e, r.symm⟩
theorem at_lt {α : Type} {xs : List α} {i : Nat} {a : α} (h : xs[i]? = some a) : i < xs.length := by
  rcases Nat.lt_or_ge i xs.length with q | q
  · exact q
  · rw [List.getElem?_eq_none q] at h
    cases h
theorem at_mem {α : Type} {xs : List α} {i : Nat} {a : α} (h : xs[i]? = some a) : a ∈ xs := List.mem_of_getElem? h
end GK
namespace GK
open PySem PySem.Spec PyProof.Rows L2
def modN (x : Int) (n : Nat) : Nat := (x % (n : Int)).toNat
theorem modN_cast {x : Int} {n : Nat} (h : 0 < n) : ((modN x n : Nat) : Int) = x % (n : Int) := Int.toNat_of_nonneg (Int.emod_nonneg x (by omega))
theorem modN_lt {x : Int} {n : Nat} (h : 0 < n) : modN x n < n := by
  have := Int.emod_lt_of_pos x (show (0 : Int) < n by omega)
  have := modN_cast (x := x) h
  omega
theorem binI_modN {x : Int} {n : Nat} (h : 0 < n) : binI .Mod x (n : Int) = .ok (fI ((modN x n : Nat) : Int)) := by
  rw [binI_mod, decide_eq_true (by omega), ckI_t, modN_cast h]
/-- a script's cell -/
def cellI (ns : List Int) (k : Nat) : Int := ns.getD k 0
theorem shaped_ints : ∀ xs : List Int, SeqAt.shaped (.list (xs.map PyData.int)) = true := fun xs => by
  have h1 : ∀ xs : List Int, PyData.canLayAll0 (xs.map PyData.int) = true := by
    intro xs
    induction xs with
    | nil => rfl
    | cons x xs ih => simp only [List.map_cons, PyData.canLayAll0, PyData.canLay0, ih, Bool.and_self]
  have h2 : ∀ xs : List Int, PyData.depthAll (xs.map PyData.int) = 0 := by
    intro xs
    induction xs with
    | nil => rfl
    | cons x xs ih => simp only [List.map_cons, PyData.depthAll, PyData.depth, ih, Nat.max_self]
  simp only [SeqAt.shaped, PyData.canLay0, h1, PyData.depth, h2, Bool.true_and]
  rfl
theorem eqvAll_ints : ∀ xs ys : List Int, PyData.eqvAll (xs.map PyData.int) (ys.map PyData.int) = decide (xs = ys)
  | [], [] => rfl
  | [], _ :: _ => by simp [PyData.eqvAll]
  | _ :: _, [] => by simp [PyData.eqvAll]
  | x :: xs, y :: ys => by
    simp only [List.map_cons, PyData.eqvAll, PyData.eqv, eqvAll_ints xs ys]
    rw [Bool.eq_iff_iff]
    simp
theorem deq_ints (xs ys : List Int) : deq (.list (xs.map PyData.int)) (.list (ys.map PyData.int)) = .ok (decide (xs = ys)) := by
  unfold deq
  rw [shaped_ints, shaped_ints]
  simp only [Bool.and_self, if_true, PyData.eqv, eqvAll_ints]
theorem map_nD (xs : List Nat) : xs.map nD = (xs.map fun n : Nat => (n : Int)).map PyData.int := by
  rw [List.map_map]
  rfl
theorem deq_nats (xs ys : List Nat) : deq (.list (xs.map nD)) (.list (ys.map nD)) = .ok (decide (xs = ys)) := by
  rw [map_nD, map_nD, deq_ints]
  congr 1
  rw [Bool.eq_iff_iff, decide_eq_true_eq, decide_eq_true_eq]
  constructor
  · intro h
    exact List.map_inj_right (fun a b h => by omega) |>.mp h
  · intro h
    rw [h]
end GK
namespace GK
open PySem PySem.Spec PyProof.Rows L2
theorem ix_t0 (a : D) (r : List D) : atI (a :: r) ((0 : Nat) : Int) = some a := GK.atI_ofNat rfl
theorem ix_t1 (a b : D) (r : List D) : atI (a :: b :: r) ((1 : Nat) : Int) = some b := GK.atI_ofNat rfl
theorem ix_t2 (a b c : D) (r : List D) : atI (a :: b :: c :: r) ((2 : Nat) : Int) = some c := GK.atI_ofNat rfl
theorem nD_def (n : Nat) : nD n = .int (n : Int) := (rfl)
theorem fI_eq' (i : Int) : (⟨.f, .int i⟩ : Sl) = fI i := (rfl)
theorem fB_eq' (i : Bool) : (⟨.f, .bool i⟩ : Sl) = fB i := (rfl)
end GK
namespace GK
open PySem PySem.Spec PyProof.Rows L2
theorem at_map {α : Type} (f : α → D) (xs : List α) (i : Nat) (a : α) (h : xs[i]? = some a) : atI (xs.map f) (i : Int) = some (f a) := atI_nat (by rw [List.getElem?_map, h]; rfl)
end GK
namespace GK
open PySem PySem.Spec PyProof.Rows L2
theorem binI_divI {x : Int} {n : Nat} (h : 0 < n) (h2 : n < 1073741824) : binI .FloorDiv x (n : Int) = .ok (fI (x / (n : Int))) := by
  rw [binI_div, decide_eq_true (show (0 : Int) < n by omega), decide_eq_true (show (n : Int) < 1073741824 by omega)]
  rfl
theorem lenOk_map {α : Type} (f : α → D) (xs : List α) : lenOk (xs.map f).length = lenOk xs.length := by rw [List.length_map]
theorem lenOk_range {n : Nat} (h : n ≤ 16777216) : lenOk (List.range n).length = true := by rw [List.length_range]; exact lenOk_of h
end GK
namespace GK
open PySem PySem.Spec PyProof.Rows L2
theorem deq_pair (a b c d : Int) : deq (.tuple [.int a, .int b]) (.tuple [.int c, .int d]) = .ok (decide (a = c) && decide (b = d)) := by
  have h : ∀ a b : Int, SeqAt.shaped (.tuple [.int a, .int b]) = true := fun a b => rfl
  unfold deq
  rw [h, h]
  simp only [Bool.and_self, if_true, PyData.eqv, PyData.eqvAll, Bool.and_true]
  congr 1
theorem natDec (a b : Nat) : decide ((a : Int) = (b : Int)) = decide (a = b) := decide_eq_decide.mpr Int.ofNat_inj
theorem decide_self {α : Type} [DecidableEq α] (a : α) : decide (a = a) = true := decide_eq_true rfl
end GK
namespace GK
open PySem PySem.Spec PyProof.Rows L2
theorem setG_nat {ρ : Rho} {x : Nat} {ds : List D} {v : D} {k : Nat} (h : k < ds.length) : setG ρ x ds v (.int (k : Int)) = .ok (.nx (ρ.set x (some ⟨.o, .list (ds.set k v)⟩))) := by
  have e : ixN ds.length (k : Int) = some k := by
    unfold ixN
    rw [if_pos (Int.natCast_nonneg k), if_pos (by omega), Int.toNat_natCast]
  simp only [setG, e]
theorem cutD_hi {xs : List D} {k : Nat} (h : k ≤ xs.length) : cutD xs none (some (k : Int)) = xs.take k := by
  unfold cutD
  rw [HT.sIx_none, HT.sIx_nat, Nat.min_eq_left h]
  simp
theorem cutD_lo {xs : List D} {k : Nat} (h : k ≤ xs.length) : cutD xs (some (k : Int)) none = xs.drop k := by
  unfold cutD
  rw [HT.sIx_none, HT.sIx_nat, Nat.min_eq_left h, List.take_of_length_le]
  rw [List.length_drop]
  omega
theorem cutD_both {xs : List D} {i k : Nat} (hi : i ≤ xs.length) (h : k ≤ xs.length) : cutD xs (some (i : Int)) (some (k : Int)) = (xs.drop i).take (k - i) := by
  unfold cutD
  rw [HT.sIx_nat, HT.sIx_nat, Nat.min_eq_left h, Nat.min_eq_left hi]
end GK
namespace GK
open PySem PySem.Spec PyProof.Rows L2
/-- a loop that looks for one and hands back -/
theorem forGo_find {α : Type} {B : D → Rho → M Rho} {C : Rho → M Fl} (g : α → D) (p : α → Bool) (P : Rho → Prop) (s : Sl) : ∀ (l : List α) (ρ : Rho), P ρ →
    (∀ a ∈ l, ∀ ρ, P ρ → (p a = true → (B (g a) ρ >>= C) = .ok (.rt s)) ∧ (p a = false → NX (B (g a) ρ >>= C) P)) →
    (l.any p = true → forGo B C (l.map g) ρ = .ok (.rt s)) ∧ (l.any p = false → NX (forGo B C (l.map g) ρ) P)
  | [], ρ, h, _ => ⟨fun z => by simp at z, fun _ => ⟨ρ, rfl, h⟩⟩
  | a :: l, ρ, h, hs => by
    obtain ⟨h1, h2⟩ := hs a List.mem_cons_self ρ h
    have ih := forGo_find (B := B) (C := C) g p P s l
    cases hp : p a with
    | true =>
      refine ⟨fun _ => ?_, fun z => by simp [hp] at z⟩
      obtain ⟨ρ1, e1, e2⟩ := bind_ok (h1 hp)
      simp only [List.map_cons, forGo, e1, e2, ok_bind]
    | false =>
      obtain ⟨ρ2, e, q⟩ := h2 hp
      obtain ⟨ρ1, e1, e2⟩ := bind_ok e
      obtain ⟨i1, i2⟩ := ih ρ2 q fun b hb => hs b (List.mem_cons_of_mem _ hb)
      simp only [List.any_cons, hp, Bool.false_or, List.map_cons, forGo, e1, e2, ok_bind]
      exact ⟨i1, i2⟩
theorem find_fin {α : Type} {B : D → Rho → M Rho} {C : Rho → M Fl} {l : List α} {ρ : Rho} {k : Fl → M Fl} {r : M Sl} (g : α → D) (p : α → Bool) (P : Rho → Prop) (s : Sl) (h0 : P ρ)
    (hs : ∀ a ∈ l, ∀ ρ, P ρ → (p a = true → (B (g a) ρ >>= C) = .ok (.rt s)) ∧ (p a = false → NX (B (g a) ρ >>= C) P))
    (h1 : l.any p = true → fin (k (.rt s)) = r) (h2 : l.any p = false → ∀ ρ', P ρ' → fin (k (.nx ρ')) = r) : fin (forGo B C (l.map g) ρ >>= k) = r := by
  obtain ⟨a, b⟩ := forGo_find g p P s l ρ h0 hs
  cases h : l.any p with
  | true => rw [a h]; exact h1 h
  | false =>
    obtain ⟨ρ', e, q⟩ := b h
    rw [e]
    exact h2 h ρ' q
/-- a loop that raises at the first that .. -/
theorem forGo_rz {α : Type} {B : D → Rho → M Rho} {C : Rho → M Fl} (g : α → D) (p : α → Bool) (P : Rho → Prop) (c : Str) : ∀ (l : List α) (ρ : Rho), P ρ →
    (∀ a ∈ l, ∀ ρ, P ρ → (p a = true → ∃ ρ', (B (g a) ρ >>= C) = .ok (.rz c ρ')) ∧ (p a = false → NX (B (g a) ρ >>= C) P)) →
    (l.any p = true → ∃ ρ', forGo B C (l.map g) ρ = .ok (.rz c ρ')) ∧ (l.any p = false → NX (forGo B C (l.map g) ρ) P)
  | [], ρ, h, _ => ⟨fun z => by simp at z, fun _ => ⟨ρ, rfl, h⟩⟩
  | a :: l, ρ, h, hs => by
    obtain ⟨h1, h2⟩ := hs a List.mem_cons_self ρ h
    have ih := forGo_rz (B := B) (C := C) g p P c l
    cases hp : p a with
    | true =>
      refine ⟨fun _ => ?_, fun z => by simp [hp] at z⟩
      obtain ⟨ρ', h1⟩ := h1 hp
      obtain ⟨ρ1, e1, e2⟩ := bind_ok h1
      exact ⟨ρ', by simp only [List.map_cons, forGo, e1, e2, ok_bind]⟩
    | false =>
      obtain ⟨ρ2, e, q⟩ := h2 hp
      obtain ⟨ρ1, e1, e2⟩ := bind_ok e
      obtain ⟨i1, i2⟩ := ih ρ2 q fun b hb => hs b (List.mem_cons_of_mem _ hb)
      simp only [List.any_cons, hp, Bool.false_or, List.map_cons, forGo, e1, e2, ok_bind]
      exact ⟨i1, i2⟩
theorem raise_fin {α : Type} {B : D → Rho → M Rho} {C : Rho → M Fl} {l : List α} {ρ : Rho} {k : Fl → M Fl} {r : M Sl} (g : α → D) (p : α → Bool) (P : Rho → Prop) (c : Str) (h0 : P ρ)
    (hs : ∀ a ∈ l, ∀ ρ, P ρ → (p a = true → ∃ ρ', (B (g a) ρ >>= C) = .ok (.rz c ρ')) ∧ (p a = false → NX (B (g a) ρ >>= C) P))
    (h1 : l.any p = true → ∀ ρ', fin (k (.rz c ρ')) = r) (h2 : l.any p = false → ∀ ρ', P ρ' → fin (k (.nx ρ')) = r) : fin (forGo B C (l.map g) ρ >>= k) = r := by
  obtain ⟨a, b⟩ := forGo_rz g p P c l ρ h0 hs
  cases h : l.any p with
  | true =>
    obtain ⟨ρ', e⟩ := a h
    rw [e]
    exact h1 h ρ'
  | false =>
    obtain ⟨ρ', e, q⟩ := b h
    rw [e]
    exact h2 h ρ' q
/-! classes of exceptions -/
theorem isxS_xc (c d : Str) (h : xall.contains d = true) : isxS ⟨.f, xcD c⟩ d = .ok (fB (xsub c d)) := by
  unfold isxS xcD
  simp only [h, if_true]
/-- the end of a def, with an end that is only told by a property -/
def FE (m : M Sl) (Q : Sl → Prop) : Prop := ∃ s, m = .ok s ∧ Q s
theorem fe_ok {s : Sl} {Q : Sl → Prop} (h : Q s) : FE (.ok s) Q := ⟨s, rfl, h⟩
theorem for_fe {B : D → Rho → M Rho} {C : Rho → M Fl} {xs : List D} {ρ : Rho} {k : Fl → M Fl} {Q : Sl → Prop} (P : Nat → Rho → Prop) (h0 : P 0 ρ)
    (hs : ∀ i x ρ, xs[i]? = some x → P i ρ → NX (B x ρ >>= C) (P (i + 1))) (hk : ∀ ρ', P xs.length ρ' → FE (fin (k (.nx ρ'))) Q) : FE (fin (forGo B C xs ρ >>= k)) Q := by
  obtain ⟨ρ', e, h⟩ := forGo_nx P h0 hs
  rw [e]
  exact hk ρ' h
theorem binI_and_nat (a b : Nat) : binI .BitAnd (a : Int) (b : Int) = .ok (fI ((a &&& b : Nat) : Int)) := by
  have e : Builtin.bitAnd (a : Int) (b : Int) = ((a &&& b : Nat) : Int) := (rfl)
  rw [binI_and, e]
theorem binI_or_nat (a b : Nat) : binI .BitOr (a : Int) (b : Int) = .ok (fI ((a ||| b : Nat) : Int)) := by
  have e : Builtin.bitOr (a : Int) (b : Int) = ((a ||| b : Nat) : Int) := by
    have h1 : ∀ n : Nat, decide (0 ≤ Builtin.bitNot (n : Int)) = false := fun n => decide_eq_false (by unfold Builtin.bitNot; omega)
    have h2 : ∀ n : Nat, (Builtin.bitNot (Builtin.bitNot (n : Int))).toNat = n := fun n => by unfold Builtin.bitNot; omega
    have h3 : ∀ i : Int, Builtin.bitNot (Builtin.bitNot i) = i := fun n => by unfold Builtin.bitNot; omega
    unfold Builtin.bitOr Builtin.bitAnd
    simp only [h1, h2, h3, Int.toNat_natCast]
  rw [binI_or, e]
theorem or_xor_and : ∀ (n a b : Nat), a ≤ n → a ||| b = (a ^^^ b) + (a &&& b)
  | 0, a, b, h => by
    have : a = 0 := by omega
    subst this
    simp
  | n + 1, a, b, h => by
    by_cases ha : a = 0
    · subst ha
      simp
    · have ih := or_xor_and n (a / 2) (b / 2) (by omega)
      have d1 : (a ||| b) / 2 = a / 2 ||| b / 2 := Nat.or_div_two
      have d2 : (a &&& b) / 2 = a / 2 &&& b / 2 := Nat.and_div_two
      have d3 : (a ^^^ b) / 2 = a / 2 ^^^ b / 2 := Nat.xor_div_two
      have m1 : (a ||| b) % 2 = 1 ↔ a % 2 = 1 ∨ b % 2 = 1 := Nat.or_mod_two_eq_one
      have m2 : (a &&& b) % 2 = 1 ↔ a % 2 = 1 ∧ b % 2 = 1 := Nat.and_mod_two_eq_one
      have m3 : (a ^^^ b) % 2 = 1 ↔ ¬ (a % 2 = 1 ↔ b % 2 = 1) := Nat.xor_mod_two_eq_one
      rw [← d1, ← d2, ← d3] at ih
      omega
theorem binI_xor_nat (a b : Nat) : binI .BitXor (a : Int) (b : Int) = .ok (fI ((a ^^^ b : Nat) : Int)) := by
  have e : Builtin.bitXor (a : Int) (b : Int) = ((a ^^^ b : Nat) : Int) := by
    have e1 : Builtin.bitOr (a : Int) (b : Int) = ((a ||| b : Nat) : Int) := by
      have := binI_or_nat a b
      rw [binI_or] at this
      exact congrArg (fun r : M Sl => match r with
        | .ok ⟨_, .int i⟩ => i
        | _ => 0) this
    have e2 : Builtin.bitAnd (a : Int) (b : Int) = ((a &&& b : Nat) : Int) := (rfl)
    unfold Builtin.bitXor
    rw [e1, e2, or_xor_and a a b (Nat.le_refl a)]
    omega
  rw [binI_xor, e]
theorem deq_nil : deq (.list []) (.list []) = .ok true := deq_nats [] []
end GK
namespace GK
open PySem PySem.Spec PyProof.Rows L2
theorem notP_rg3 (cl : Str → List Sl → M Sl) (a b c : E) (ρ : Rho) : notP cl (.rg3 a b c) ρ = true := (rfl)
theorem notP_rvr (cl : Str → List Sl → M Sl) (a : E) (ρ : Rho) : notP cl (.rvr a) ρ = true := (rfl)
theorem notP_enm (cl : Str → List Sl → M Sl) (a : E) (ρ : Rho) : notP cl (.enm a) ρ = (lentE a ρ || notPs (evE cl a ρ)) := npE_old cl a ρ
theorem notP_rev (cl : Str → List Sl → M Sl) (a : E) (ρ : Rho) : notP cl (.rev a) ρ = (lentE a ρ || notPs (evE cl a ρ)) := npE_old cl a ρ
theorem nqE_eq (cl : Str → List Sl → M Sl) (a : E) (ρ : Rho) : nqE cl a ρ = notPs (evE cl a ρ) := by
  simp only [nqE]
  cases evE cl a ρ with
  | error e => rfl
  | ok s => obtain ⟨m, d⟩ := s; cases m <;> rfl
theorem notP_zp (cl : Str → List Sl → M Sl) (a b : E) (ρ : Rho) : notP cl (.zp a b) ρ = (notPs (evE cl a ρ) && notPs (evE cl b ρ)) := by
  rw [← nqE_eq, ← nqE_eq]
  rfl
def ckTu (c : Bool) (xs : List D) : M Sl := if c then .ok ⟨.f, .tuple xs⟩ else stk
theorem ckTu_t (xs : List D) : ckTu true xs = .ok ⟨.f, .tuple xs⟩ := (rfl)
theorem binop_catT (m : Md) (xs ys : List D) : binop .Add m (.tuple xs) (.tuple ys) = ckTu (lenOk (xs.length + ys.length)) (xs ++ ys) := (rfl)
theorem slD_tup (xs : List D) (lo hi : Option Int) : slD (.tuple xs) lo hi = .ok ⟨.f, .tuple (cutD xs lo hi)⟩ := (rfl)
theorem mmD_max (i j : Int) : mmD true (.int i) (.int j) = .ok (fI (if j > i then j else i)) := (rfl)
theorem mmD_min (i j : Int) : mmD false (.int i) (.int j) = .ok (fI (if j < i then j else i)) := (rfl)
theorem mmD_maxN (i j : Nat) : mmD true (.int (i : Int)) (.int (j : Int)) = .ok (fI (max i j : Nat)) := by
  rw [mmD_max]
  congr 2
  split <;> omega
theorem mmD_minN (i j : Nat) : mmD false (.int (i : Int)) (.int (j : Int)) = .ok (fI (min i j : Nat)) := by
  rw [mmD_min]
  congr 2
  split <;> omega
theorem rvD_list (xs : List D) : rvD (.list xs) = .ok ⟨.o, .list xs.reverse⟩ := (rfl)
theorem cmpop_is (a b : Bool) : cmpop .Is (.bool a) (.bool b) = .ok (a == b) := by
  cases a <;> cases b <;> rfl
theorem cmpop_isnot (a b : Bool) : cmpop .IsNot (.bool a) (.bool b) = .ok (!(a == b)) := by
  cases a <;> cases b <;> rfl
theorem negM_ok' (b : Bool) : negM (.ok b) = .ok (!b) := (rfl)
theorem cmpop_in (x : D) (ds : List D) : cmpop .In x (.list ds) = inD x ds := (rfl)
theorem cmpop_notin (x : D) (ds : List D) : cmpop .NotIn x (.list ds) = negM (inD x ds) := (rfl)
theorem cmpop_inT (x : D) (ds : List D) : cmpop .In x (.tuple ds) = inF x ds := (rfl)
theorem cmpop_notinT (x : D) (ds : List D) : cmpop .NotIn x (.tuple ds) = negM (inF x ds) := (rfl)
theorem any_nD (x : Nat) (xs : List Nat) : ((xs.map nD).any fun z => PyData.eqv z (nD x)) = decide (x ∈ xs) := by
  induction xs with
  | nil => simp
  | cons y ys ih =>
    rw [List.map_cons, List.any_cons, ih]
    have e : PyData.eqv (nD y) (nD x) = decide (y = x) := by
      simp only [nD, PyData.eqv]
      rw [Bool.eq_iff_iff, beq_iff_eq, decide_eq_true_eq]
      exact Int.ofNat_inj
    rw [e, Bool.eq_iff_iff]
    simp only [Bool.or_eq_true, decide_eq_true_eq, List.mem_cons]
    constructor
    · rintro (h | h)
      · exact .inl h.symm
      · exact .inr h
    · rintro (h | h)
      · exact .inl h.symm
      · exact .inr h
theorem inD_nats (x : Nat) (xs : List Nat) : inD (.int (x : Int)) (xs.map nD) = .ok (decide (x ∈ xs)) := by
  have h1 : SeqAt.shaped (.int (x : Int)) = true := rfl
  have h2 : SeqAt.shaped (.list (xs.map nD)) = true := by rw [map_nD]; exact shaped_ints _
  unfold inD
  rw [h1, h2]
  have := any_nD x xs
  simp only [nD] at this
  simp only [Bool.and_self, if_true]
  exact congrArg _ this
theorem inF_nats (x : Nat) (xs : List Nat) : inF (.int (x : Int)) (xs.map nD) = .ok (decide (x ∈ xs)) := by
  have h2 : (xs.map nD).all flatD = true := by
    rw [List.all_map, List.all_eq_true]
    intro y _
    rfl
  unfold inF
  rw [h2, show flatD (.int (x : Int)) = true from rfl]
  have := any_nD x xs
  simp only [nD] at this
  simp only [Bool.and_self, if_true]
  exact congrArg _ this
theorem enumD_map {α : Type} (f : α → D) (z : α) (xs : List α) : enumD (xs.map f) = (List.range xs.length).map fun i => .tuple [.int (i : Nat), f (xs.getD i z)] := by
  unfold enumD
  rw [List.length_map]
  apply List.map_congr_left
  intro i hi
  have hi' := List.mem_range.mp hi
  rw [List.getD_eq_getElem?_getD, List.getElem?_map, List.getElem?_eq_getElem hi', List.getD_eq_getElem?_getD, List.getElem?_eq_getElem hi']
  rfl
theorem b1D_sorted (xs : List D) (ns : List Int) (h : intsD xs = some ns) : b1D .sorted (.list xs) = .ok ⟨.o, .list ((sortI ns).map .int)⟩ := by
  simp only [b1D, h]
theorem beq_t (b : Bool) : (b == true) = b := by cases b <;> rfl
theorem beq_f (b : Bool) : (b == false) = !b := by cases b <;> rfl
theorem nDmap {α : Type} (g : α → Nat) (xs : List α) : xs.map (fun a => nD (g a)) = (xs.map g).map nD := by
  rw [List.map_map]
  rfl
theorem intsD_nats (xs : List Nat) : intsD (xs.map nD) = some (xs.map fun n : Nat => (n : Int)) := intsD_map (fun n : Nat => (n : Int)) xs
theorem sum_cast : ∀ xs : List Nat, (xs.map fun n : Nat => (n : Int)).sum = ((xs.sum : Nat) : Int)
  | [] => rfl
  | x :: xs => by rw [List.map_cons, List.sum_cons, List.sum_cons, sum_cast xs]; rfl
/-- one statement, told by what holds behind it -/
theorem bind_nx {X : M Fl} {k : Fl → M Fl} {Q : Rho → Prop} (P : Rho → Prop) (h : NX X P) (hk : ∀ ρ', P ρ' → NX (k (.nx ρ')) Q) : NX (X >>= k) Q := by
  obtain ⟨ρ', e, p⟩ := h
  rw [e]
  exact hk ρ' p
theorem bind_fin {X : M Fl} {k : Fl → M Fl} {r : M Sl} (P : Rho → Prop) (h : NX X P) (hk : ∀ ρ', P ρ' → fin (k (.nx ρ')) = r) : fin (X >>= k) = r := by
  obtain ⟨ρ', e, p⟩ := h
  rw [e]
  exact hk ρ' p
theorem bind_fe {X : M Fl} {k : Fl → M Fl} {Q : Sl → Prop} (P : Rho → Prop) (h : NX X P) (hk : ∀ ρ', P ρ' → FE (fin (k (.nx ρ'))) Q) : FE (fin (X >>= k)) Q := by
  obtain ⟨ρ', e, p⟩ := h
  rw [e]
  exact hk ρ' p
/-! deep data -/
mutual
theorem eqv_self : ∀ d : D, d.canLay0 = true → PyData.eqv d d = true
  | .none, _ => rfl
  | .bool b, _ => by simp [PyData.eqv]
  | .int i, _ => by simp [PyData.eqv]
  | .str x, _ => by simp [PyData.eqv]
  | .list xs, h => by
    simp only [PyData.eqv]
    exact eqvAll_self xs h
  | .tuple xs, h => by
    simp only [PyData.eqv]
    exact eqvAll_self xs h
  | .dict _, h => by simp [PyData.canLay0] at h
theorem eqvAll_self : ∀ ds : List D, PyData.canLayAll0 ds = true → PyData.eqvAll ds ds = true
  | [], _ => rfl
  | d :: ds, h => by
    simp only [PyData.canLayAll0, Bool.and_eq_true] at h
    simp only [PyData.eqvAll, eqv_self d h.1, eqvAll_self ds h.2, Bool.and_self]
end
theorem deq_refl {d : D} (h : SeqAt.shaped d = true) : deq d d = .ok true := by
  unfold deq
  rw [h, eqv_self d (SeqAt.canLay_of_shaped h)]
  rfl
/-- data without dicts and texts, of a depth -/
def Lay (k : Nat) (d : D) : Prop := d.canLay0 = true ∧ d.depth ≤ k
theorem lay_all {k : Nat} : ∀ ds : List D, (∀ d ∈ ds, Lay k d) → PyData.canLayAll0 ds = true ∧ PyData.depthAll ds ≤ k
  | [], _ => ⟨rfl, Nat.zero_le _⟩
  | d :: ds, h => by
    obtain ⟨a1, a2⟩ := h d List.mem_cons_self
    obtain ⟨b1, b2⟩ := lay_all ds fun x hx => h x (List.mem_cons_of_mem _ hx)
    exact ⟨by simp only [PyData.canLayAll0, a1, b1, Bool.and_self], by simp only [PyData.depthAll]; omega⟩
theorem lay_int (k : Nat) (i : Int) : Lay k (.int i) := ⟨rfl, Nat.zero_le _⟩
theorem lay_nD (k n : Nat) : Lay k (nD n) := ⟨rfl, Nat.zero_le _⟩
theorem lay_bool (k : Nat) (b : Bool) : Lay k (.bool b) := ⟨rfl, Nat.zero_le _⟩
theorem lay_none (k : Nat) : Lay k .none := ⟨rfl, Nat.zero_le _⟩
theorem lay_tup {k : Nat} {ds : List D} (h : ∀ d ∈ ds, Lay k d) : Lay (k + 1) (.tuple ds) := by
  obtain ⟨a, b⟩ := lay_all ds h
  exact ⟨a, by simp only [PyData.depth]; omega⟩
theorem lay_lst {k : Nat} {ds : List D} (h : ∀ d ∈ ds, Lay k d) : Lay (k + 1) (.list ds) := by
  obtain ⟨a, b⟩ := lay_all ds h
  exact ⟨a, by simp only [PyData.depth]; omega⟩
theorem lay_map {α : Type} {k : Nat} {f : α → D} {xs : List α} (h : ∀ x ∈ xs, Lay k (f x)) : ∀ d ∈ xs.map f, Lay k d := by
  intro d hd
  obtain ⟨x, hx, rfl⟩ := List.mem_map.mp hd
  exact h x hx
theorem lay_nats (k : Nat) (xs : List Nat) : ∀ d ∈ xs.map nD, Lay k d := lay_map fun x _ => lay_nD k x
theorem lay_mono {k l : Nat} {d : D} (h : Lay k d) (hk : k ≤ l) : Lay l d := ⟨h.1, Nat.le_trans h.2 hk⟩
theorem lay_cons {k : Nat} {d : D} {ds : List D} (h : Lay k d) (h2 : ∀ d ∈ ds, Lay k d) : ∀ x ∈ d :: ds, Lay k x := by
  intro x hx
  rcases List.mem_cons.mp hx with e | hx
  · rw [e]; exact h
  · exact h2 x hx
theorem lay_nil (k : Nat) : ∀ x ∈ ([] : List D), Lay k x := fun x hx => by simp at hx
theorem Lay.shaped {k : Nat} {d : D} (h : Lay k d) (hk : k ≤ 64) : SeqAt.shaped d = true := by
  unfold SeqAt.shaped
  rw [h.1, decide_eq_true (Nat.le_trans h.2 hk)]
  rfl
theorem Lay.deq {k : Nat} {d : D} (h : Lay k d) (hk : k ≤ 64) : GK.deq d d = .ok true := deq_refl (h.shaped hk)
def b2n : Bool → Nat
  | true => 1
  | false => 0
theorem b2n_t : b2n true = 1 := (rfl)
theorem b2n_f : b2n false = 0 := (rfl)
theorem b2n_lt (b : Bool) : b2n b < 2 := by cases b <;> decide
theorem b1D_intN (b : Bool) : b1D .int (.bool b) = .ok (fI ((b2n b : Nat) : Int)) := by cases b <;> rfl
def optD : Option D → M D
  | some d => .ok d
  | none => stk
theorem optD_some (d : D) : optD (some d) = .ok d := (rfl)
def setSN (ρ : Rho) (x : Nat) (v j : D) (ds : List (D × D)) : M Fl := ifM (nkOk j) (setN j v ds >>= fun d => .ok (.nx (ρ.set x (some ⟨.o, d⟩)))) stk
def setS (ρ : Rho) (x : Nat) (v j : D) : Option (Option Sl) → M Fl
  | some (some ⟨.o, .list ds⟩) => setG ρ x ds v j
  | some (some ⟨.o, .dict ds⟩) => ifM (keyOk j && nmk ds && lenOk (ds.length + 1)) (.ok (.nx (ρ.set x (some ⟨.o, .dict (putD ds j v)⟩)))) (setSN ρ x v j ds)
  | _ => stk
theorem setO_eq (x : Nat) (ρ : Rho) (v j : D) : setO x ρ v j = setS ρ x v j ρ[x]? := by
  simp only [setO]
  cases ρ[x]? with
  | none => rfl
  | some o =>
    cases o with
    | none => rfl
    | some s => obtain ⟨m, d⟩ := s; cases m <;> cases d <;> rfl
theorem setS_list (ρ : Rho) (x : Nat) (v j : D) (ds : List D) : setS ρ x v j (some (some ⟨.o, .list ds⟩)) = setG ρ x ds v j := (rfl)
theorem setS_dict (ρ : Rho) (x : Nat) (v j : D) (ds : List (D × D)) : setS ρ x v j (some (some ⟨.o, .dict ds⟩)) = ifM (keyOk j && nmk ds && lenOk (ds.length + 1)) (.ok (.nx (ρ.set x (some ⟨.o, .dict (putD ds j v)⟩)))) (setSN ρ x v j ds) := (rfl)
theorem keyOk_tup (xs : List D) : keyOk (.tuple xs) = false := (rfl)
theorem keyOk_int (i : Int) : keyOk (.int i) = true := (rfl)
theorem keyOk_str (i : Str) : keyOk (.str i) = true := (rfl)
theorem ixD_dict' (ds : List (D × D)) (k : D) (h : keyOk k = true) : ixD (.dict ds) k = optS (lookD ds k) := by
  simp only [ixD, h, if_true]
  cases lookD ds k <;> rfl
theorem ixD_dictI (ds : List (D × D)) (i : Int) : ixD (.dict ds) (.int i) = optS (lookD ds (.int i)) := ixD_dict' ds _ rfl
theorem ixD_dictS (ds : List (D × D)) (i : Str) : ixD (.dict ds) (.str i) = optS (lookD ds (.str i)) := ixD_dict' ds _ rfl
theorem cmpop_inK (x : D) (ds : List (D × D)) : cmpop .In x (.dict ds) = inK x ds := (rfl)
theorem cmpop_notinK (x : D) (ds : List (D × D)) : cmpop .NotIn x (.dict ds) = negM (inK x ds) := (rfl)
theorem inK_int (i : Int) (ds : List (D × D)) (h : nmk ds = true) : inK (.int i) ds = .ok (lookD ds (.int i)).isSome := by
  simp only [inK, keyOk, h, Bool.and_self, if_true]
theorem inK_str (i : Str) (ds : List (D × D)) (h : nmk ds = true) : inK (.str i) ds = .ok (lookD ds (.str i)).isSome := by
  simp only [inK, keyOk, h, Bool.and_self, if_true]
/-! dicts with whole numbers for keys -/
def kv {α : Type} (f : α → Nat) (g : α → D) (a : α) : D × D := (nD (f a), g a)
theorem keq_nD (i j : Nat) : keq (nD i) (nD j) = decide (i = j) := decide_eq_decide.mpr Int.ofNat_inj
theorem lookD_kv {α : Type} (f : α → Nat) (g : α → D) (x : Nat) : ∀ xs : List α, lookD (xs.map (kv f g)) (nD x) = (xs.find? fun a => decide (f a = x)).map g
  | [] => rfl
  | a :: xs => by
    have ih := lookD_kv f g x xs
    unfold lookD at ih ⊢
    rw [List.map_cons, List.find?_cons, List.find?_cons]
    have e : keq (kv f g a).1 (nD x) = decide (f a = x) := keq_nD _ _
    rw [e]
    cases decide (f a = x) with
    | true => rfl
    | false => exact ih
theorem anyD_kv {α : Type} (f : α → Nat) (g : α → D) (x : Nat) : ∀ xs : List α, ((xs.map (kv f g)).any fun p => keq p.1 (nD x)) = xs.any fun a => decide (f a = x)
  | [] => rfl
  | a :: xs => by
    rw [List.map_cons, List.any_cons, List.any_cons, anyD_kv f g x xs]
    congr 1
    exact keq_nD _ _
/-- a dict whose values are all true: a set of whole numbers -/
def kT : Nat → D × D := kv id fun _ => .bool true
def addN (xs : List Nat) (x : Nat) : List Nat := if x ∈ xs then xs else xs ++ [x]
theorem look_kT (xs : List Nat) (x : Nat) : (lookD (xs.map kT) (.int (x : Int))).isSome = decide (x ∈ xs) := by
  have e := lookD_kv id (fun _ => PyData.bool true) x xs
  rw [show (PyData.int (x : Int)) = nD x from rfl, show xs.map kT = xs.map (kv id fun _ => .bool true) from rfl, e, Option.isSome_map, Bool.eq_iff_iff, List.find?_isSome, decide_eq_true_eq]
  constructor
  · rintro ⟨a, ha, h⟩
    rw [← of_decide_eq_true h]
    exact ha
  · intro h
    exact ⟨x, h, decide_eq_true rfl⟩
theorem put_kT (xs : List Nat) (x : Nat) : putD (xs.map kT) (.int (x : Int)) (.bool true) = (addN xs x).map kT := by
  have e := anyD_kv id (fun _ => PyData.bool true) x xs
  have e2 : (xs.any fun a => decide (id a = x)) = decide (x ∈ xs) := by
    rw [Bool.eq_iff_iff, List.any_eq_true, decide_eq_true_eq]
    constructor
    · rintro ⟨a, ha, h⟩
      rw [← of_decide_eq_true h]
      exact ha
    · intro h
      exact ⟨x, h, decide_eq_true rfl⟩
  rw [e2] at e
  unfold putD addN
  rw [show ((xs.map kT).any fun p => keq p.1 (.int (x : Int))) = decide (x ∈ xs) from e]
  by_cases h : x ∈ xs
  · rw [if_pos (decide_eq_true h), if_pos h, List.map_map]
    apply List.map_congr_left
    intro a _
    show (if keq (kT a).1 _ = true then ((kT a).1, PyData.bool true) else kT a) = kT a
    split <;> rfl
  · rw [if_neg (fun z => h (of_decide_eq_true z)), if_neg h, List.map_append]
    rfl
theorem nmk_kv {α : Type} (f : α → Nat) (g : α → D) (xs : List α) : nmk (xs.map (kv f g)) = true := by cases xs <;> rfl
theorem nmk_kT (xs : List Nat) : nmk (xs.map kT) = true := by cases xs <;> rfl
theorem nmk_none (v : D) (ds : List (D × D)) : nmk ((.none, v) :: ds) = false := (rfl)
theorem frzB_f (ρ' ρ : Rho) : frzB false ρ' ρ = ρ := (rfl)
/-! dicts with nested tuples for keys -/
theorem exS_ndn (x : Nat) : exS cl fu (.ndn x) ρ = .ok (.nx (ρ.set x (some ⟨.o, .dict [(.none, .none)]⟩))) := (rfl)
theorem inK_tup (ks : List D) (ds : List (D × D)) : inK (.tuple ks) ds = ifM (nkOk (.tuple ks)) (inN (.tuple ks) ds) stk := (rfl)
theorem inN_mk (x : D) (ps : List (D × D)) : inN x ((.none, .none) :: ps) = .ok (lookN ps x).isSome := (rfl)
theorem ixD_dictT (ds : List (D × D)) (ks : List D) : ixD (.dict ds) (.tuple ks) = ifM (nkOk (.tuple ks)) (getN (.tuple ks) ds >>= fun d => .ok ⟨.f, d⟩) stk := (rfl)
theorem getN_mk (x : D) (ps : List (D × D)) : getN x ((.none, .none) :: ps) = optD (lookN ps x) := by
  show (match lookN ps x with
    | some d => .ok d
    | none => stk) = optD (lookN ps x)
  cases lookN ps x <;> rfl
theorem setSN_eq (ρ : Rho) (x : Nat) (v j : D) (ds : List (D × D)) : setSN ρ x v j ds = ifM (nkOk j) (setN j v ds >>= fun d => .ok (.nx (ρ.set x (some ⟨.o, d⟩)))) stk := (rfl)
theorem setN_mk (x v : D) (ps : List (D × D)) : setN x v ((.none, .none) :: ps) = ifM (lenOk (ps.length + 1)) (.ok (.dict ((.none, .none) :: putN ps x v))) stk := (rfl)
theorem nmk_kTs (xs : List Nat) : nmk (xs.map kT) = true := by cases xs <;> rfl
theorem b1D_lenK (xs : List Nat) : b1D .len (.dict (xs.map kT)) = .ok (fI xs.length) := by
  rw [b1D_lenD _ (nmk_kTs xs), List.length_map]
theorem b1D_tupN (ps : List (D × D)) : b1D .tuple (.dict ((.none, .none) :: ps)) = .ok ⟨.f, .tuple (ps.map (·.1))⟩ := (rfl)
theorem nkD_nat (n : Nat) : nkD (nD n) = some (.num n) := (rfl)
theorem nkD_tup {ds : List D} {ks : List NestedKey} (h : nkDs ds = some ks) : nkD (.tuple ds) = some (.tup ks) := by
  simp only [nkD, h, Option.map_some]
theorem nkDs_nil : nkDs [] = some [] := (rfl)
theorem nkDs_cons {d : D} {ds : List D} {k : NestedKey} {ks : List NestedKey} (h : nkD d = some k) (h2 : nkDs ds = some ks) : nkDs (d :: ds) = some (k :: ks) := by
  simp only [nkDs, h, h2]
theorem nkDs_map {α : Type} {enc : α → D} {kf : α → NestedKey} : ∀ {xs : List α}, (∀ x ∈ xs, nkD (enc x) = some (kf x)) → nkDs (xs.map enc) = some (xs.map kf)
  | [], _ => rfl
  | x :: xs, h => nkDs_cons (h x List.mem_cons_self) (nkDs_map fun y hy => h y (List.mem_cons_of_mem _ hy))
theorem nkDs_nats (xs : List Nat) : nkDs (xs.map nD) = some (xs.map fun n : Nat => NestedKey.num (n : Int)) := nkDs_map fun x _ => nkD_nat x
theorem depthAll_le {d : Nat} : ∀ {ks : List NestedKey}, (∀ k ∈ ks, k.depth ≤ d) → NestedKey.depthAll ks ≤ d
  | [], _ => Nat.zero_le _
  | k :: ks, h => by
    simp only [NestedKey.depthAll]
    exact Nat.max_le.mpr ⟨h k List.mem_cons_self, depthAll_le fun y hy => h y (List.mem_cons_of_mem _ hy)⟩
theorem nums_inj {xs ys : List Nat} (h : (xs.map fun n : Nat => NestedKey.num (n : Int)) = ys.map fun n : Nat => NestedKey.num (n : Int)) : xs = ys := by
  induction xs generalizing ys with
  | nil =>
    cases ys with
    | nil => rfl
    | cons _ _ => cases h
  | cons x xs ih =>
    cases ys with
    | nil => cases h
    | cons y ys =>
      simp only [List.map_cons, List.cons.injEq, NestedKey.num.injEq, Int.ofNat_inj] at h
      rw [h.1, ih h.2]
/-- a way to write things as keys -/
structure NKey {α : Type} (enc : α → D) : Prop where
  tup : ∀ x, ∃ ds, enc x = .tuple ds
  key : ∀ x, ∃ k : NestedKey, nkD (enc x) = some k ∧ k.depth ≤ 8
  inj : ∀ x y, nkD (enc x) = nkD (enc y) → x = y
theorem NKey.ok {α : Type} {enc : α → D} (h : NKey enc) (x : α) : nkOk (enc x) = true := by
  obtain ⟨ds, e⟩ := h.tup x
  obtain ⟨k, e2, hd⟩ := h.key x
  unfold nkOk
  rw [e2, e]
  simp only [isT, Bool.true_and]
  exact decide_eq_true hd
theorem NKey.look {α : Type} [DecidableEq α] {enc : α → D} (h : NKey enc) (y : α) : ∀ L : List (α × D), lookN (L.map fun p => (enc p.1, p.2)) (enc y) = (L.find? fun p => decide (p.1 = y)).map (·.2)
  | [] => rfl
  | p :: L => by
    have ih := h.look y L
    unfold lookN at ih ⊢
    rw [List.map_cons, List.find?_cons, List.find?_cons]
    have e : decide (nkD (enc p.1) = nkD (enc y)) = decide (p.1 = y) := decide_eq_decide.mpr ⟨h.inj _ _, fun z => by rw [z]⟩
    simp only [e]
    cases decide (p.1 = y) with
    | true => rfl
    | false => exact ih
theorem NKey.put_new {α : Type} [DecidableEq α] {enc : α → D} (h : NKey enc) {y : α} {v : D} {L : List (α × D)} (hn : ∀ p ∈ L, p.1 ≠ y) : putN (L.map fun p => (enc p.1, p.2)) (enc y) v = (L ++ [(y, v)]).map fun p => (enc p.1, p.2) := by
  have e : (L.find? fun p => decide (p.1 = y)) = none := List.find?_eq_none.mpr fun p hp => by
    rw [decide_eq_true_eq]
    exact hn p hp
  unfold putN
  rw [h.look y L, e, List.map_append]
  rfl
/-- a set of keys: each value True -/
def kTN {α : Type} (enc : α → D) (xs : List α) : List (D × D) := xs.map fun x => (enc x, .bool true)
def addK {α : Type} [DecidableEq α] (xs : List α) (x : α) : List α := if x ∈ xs then xs else xs ++ [x]
theorem addK_mem {α : Type} [DecidableEq α] {xs : List α} {x y : α} : y ∈ addK xs x ↔ y ∈ xs ∨ y = x := by
  unfold addK
  split
  · rename_i h
    exact ⟨.inl, fun z => z.elim id fun e => e ▸ h⟩
  · rw [List.mem_append, List.mem_singleton]
theorem addK_nodup {α : Type} [DecidableEq α] {xs : List α} (h : xs.Nodup) (x : α) : (addK xs x).Nodup := by
  unfold addK
  split
  · exact h
  · rename_i hx
    rw [List.nodup_append]
    refine ⟨h, by simp, fun a ha b hb => ?_⟩
    rw [List.mem_singleton] at hb
    rw [hb]
    exact fun e => hx (e ▸ ha)
theorem addK_len {α : Type} [DecidableEq α] (xs : List α) (x : α) : (addK xs x).length ≤ xs.length + 1 := by
  unfold addK
  split
  · exact Nat.le_succ _
  · rw [List.length_append]
    exact Nat.le_refl _
theorem NKey.putT {α : Type} [DecidableEq α] {enc : α → D} (h : NKey enc) (xs : List α) (x : α) : putN (kTN enc xs) (enc x) (.bool true) = kTN enc (addK xs x) := by
  have ek : ∀ xs : List α, kTN enc xs = (xs.map fun x => (x, PyData.bool true)).map fun p => (enc p.1, p.2) := fun xs => by
    unfold kTN
    rw [List.map_map]
    rfl
  unfold addK
  split
  · rename_i hx
    unfold putN
    have e : (lookN (kTN enc xs) (enc x)).isSome = true := by
      rw [ek, h.look x, Option.isSome_map, List.find?_isSome]
      exact ⟨(x, .bool true), List.mem_map.mpr ⟨x, hx, rfl⟩, decide_eq_true rfl⟩
    rw [if_pos e]
    unfold kTN
    rw [List.map_map]
    apply List.map_congr_left
    intro a _
    show (if nkD (enc a) = nkD (enc x) then (enc a, PyData.bool true) else (enc a, PyData.bool true)) = _
    split <;> rfl
  · rename_i hx
    rw [ek, h.put_new]
    · unfold kTN
      rw [List.map_append, List.map_append, List.map_map]
      rfl
    · intro p hp
      obtain ⟨a, ha, rfl⟩ := List.mem_map.mp hp
      exact fun e => hx (e ▸ ha)
theorem kTN_keys {α : Type} (enc : α → D) (xs : List α) : (kTN enc xs).map (·.1) = xs.map enc := by
  unfold kTN
  rw [List.map_map]
  rfl
theorem kTN_len {α : Type} (enc : α → D) (xs : List α) : (kTN enc xs).length = xs.length := by
  unfold kTN
  rw [List.length_map]
theorem deq_bool (a b : Bool) : deq (.bool a) (.bool b) = .ok (a == b) := by
  have h : ∀ k : Bool, SeqAt.shaped (.bool k) = true := fun k => rfl
  simp only [deq, h, PyData.eqv, Bool.and_self, if_true]
theorem b1D_sortedD (ds : List (D × D)) (ns : List Int) (h : intsD (ds.map (·.1)) = some ns) : b1D .sorted (.dict ds) = .ok ⟨.o, .list ((sortI ns).map .int)⟩ := by
  simp only [b1D, h]
/-- a loop that looks for the first one and hands back what belongs to it -/
theorem forGo_first {α : Type} {B : D → Rho → M Rho} {C : Rho → M Fl} (g : α → D) (p : α → Bool) (P : Rho → Prop) (s : α → Sl) : ∀ (l : List α) (ρ : Rho), P ρ →
    (∀ a ∈ l, ∀ ρ, P ρ → (p a = true → (B (g a) ρ >>= C) = .ok (.rt (s a))) ∧ (p a = false → NX (B (g a) ρ >>= C) P)) →
    (∀ a, l.find? p = some a → forGo B C (l.map g) ρ = .ok (.rt (s a))) ∧ (l.find? p = none → NX (forGo B C (l.map g) ρ) P)
  | [], ρ, h, _ => ⟨fun a z => by simp at z, fun _ => ⟨ρ, rfl, h⟩⟩
  | a :: l, ρ, h, hs => by
    obtain ⟨h1, h2⟩ := hs a List.mem_cons_self ρ h
    have ih := forGo_first (B := B) (C := C) g p P s l
    rw [List.find?_cons]
    cases hp : p a with
    | true =>
      refine ⟨fun b z => ?_, fun z => by cases z⟩
      cases z
      obtain ⟨ρ1, e1, e2⟩ := bind_ok (h1 hp)
      simp only [List.map_cons, forGo, e1, e2, ok_bind]
    | false =>
      obtain ⟨ρ2, e, q⟩ := h2 hp
      obtain ⟨ρ1, e1, e2⟩ := bind_ok e
      obtain ⟨i1, i2⟩ := ih ρ2 q fun b hb => hs b (List.mem_cons_of_mem _ hb)
      simp only [List.map_cons, forGo, e1, e2, ok_bind]
      exact ⟨i1, i2⟩
theorem first_fin {α : Type} {B : D → Rho → M Rho} {C : Rho → M Fl} {l : List α} {ρ : Rho} {k : Fl → M Fl} {r : M Sl} (g : α → D) (p : α → Bool) (P : Rho → Prop) (s : α → Sl) (h0 : P ρ)
    (hs : ∀ a ∈ l, ∀ ρ, P ρ → (p a = true → (B (g a) ρ >>= C) = .ok (.rt (s a))) ∧ (p a = false → NX (B (g a) ρ >>= C) P))
    (h1 : ∀ a, l.find? p = some a → fin (k (.rt (s a))) = r) (h2 : l.find? p = none → ∀ ρ', P ρ' → fin (k (.nx ρ')) = r) : fin (forGo B C (l.map g) ρ >>= k) = r := by
  obtain ⟨a, b⟩ := forGo_first g p P s l ρ h0 hs
  cases h : l.find? p with
  | some x => rw [a x h]; exact h1 x h
  | none =>
    obtain ⟨ρ', e, q⟩ := b h
    rw [e]
    exact h2 h ρ' q
theorem cutD_hi' (xs : List D) (k : Nat) : cutD xs none (some (k : Int)) = xs.take k := by
  unfold cutD
  rw [HT.sIx_none, HT.sIx_nat, List.drop_zero, Nat.sub_zero]
  rcases Nat.le_total k xs.length with h | h
  · rw [Nat.min_eq_left h]
  · rw [Nat.min_eq_right h, List.take_of_length_le (Nat.le_refl _), List.take_of_length_le h]
theorem cutD_lo' (xs : List D) (k : Nat) : cutD xs (some (k : Int)) none = xs.drop k := by
  unfold cutD
  rw [HT.sIx_none, HT.sIx_nat, List.take_of_length_le (by rw [List.length_drop]; omega)]
  rcases Nat.le_total k xs.length with h | h
  · rw [Nat.min_eq_left h]
  · rw [Nat.min_eq_right h, List.drop_of_length_le (Nat.le_refl _), List.drop_of_length_le h]
/-! sorting whole numbers -/
def insN' (i : Nat) : List Nat → List Nat
  | [] => [i]
  | j :: r => if i ≤ j then i :: j :: r else j :: insN' i r
def sortN : List Nat → List Nat
  | [] => []
  | i :: r => insN' i (sortN r)
theorem insI_nat (i : Nat) : ∀ l : List Nat, insI (i : Int) (l.map fun n : Nat => (n : Int)) = (insN' i l).map fun n : Nat => (n : Int)
  | [] => rfl
  | j :: r => by
    rw [List.map_cons]
    unfold insI insN'
    by_cases h : i ≤ j
    · rw [if_pos h, if_pos (by omega)]
      rfl
    · rw [if_neg h, if_neg (by omega), insI_nat i r]
      rfl
theorem sortI_nat : ∀ l : List Nat, sortI (l.map fun n : Nat => (n : Int)) = (sortN l).map fun n : Nat => (n : Int)
  | [] => rfl
  | i :: r => by
    rw [List.map_cons]
    unfold sortI sortN
    rw [sortI_nat r, insI_nat]
theorem insN'_perm (i : Nat) : ∀ l : List Nat, (insN' i l).Perm (i :: l)
  | [] => .refl _
  | j :: r => by
    unfold insN'
    split
    · exact .refl _
    · exact (List.Perm.cons j (insN'_perm i r)).trans (.swap i j r)
theorem sortN_perm : ∀ l : List Nat, (sortN l).Perm l
  | [] => .refl _
  | i :: r => (insN'_perm i (sortN r)).trans (.cons i (sortN_perm r))
theorem b1D_sortN (xs : List Nat) : b1D .sorted (.list (xs.map nD)) = .ok ⟨.o, .list ((sortN xs).map nD)⟩ := by
  rw [b1D_sorted _ _ (intsD_nats xs), sortI_nat, map_nD]
theorem b1D_sortM (xs : List Nat) : b1D .sorted (.dict (xs.map kT)) = .ok ⟨.o, .list ((sortN xs).map nD)⟩ := by
  have e : (xs.map kT).map (·.1) = xs.map nD := by
    rw [List.map_map]
    rfl
  rw [b1D_sortedD _ (xs.map fun n : Nat => (n : Int)) (by rw [e]; exact intsD_nats xs), sortI_nat, map_nD]
theorem b1D_sortK (xs : List Nat) (_ : xs.length < 64) : b1D .sorted (.dict (xs.map kT)) = .ok ⟨.o, .list ((sortN xs).map nD)⟩ := b1D_sortM xs
theorem addN_mem {x y : Nat} {xs : List Nat} : y ∈ addN xs x ↔ y ∈ xs ∨ y = x := by
  unfold addN
  split
  · rename_i h
    exact ⟨.inl, fun z => z.elim id fun e => e ▸ h⟩
  · rw [List.mem_append, List.mem_singleton]
theorem addN_len (xs : List Nat) (x : Nat) : (addN xs x).length ≤ xs.length + 1 := by
  unfold addN
  split
  · omega
  · rw [List.length_append]
    exact Nat.le_refl _
theorem foldN_mem {y : Nat} : ∀ (l xs : List Nat), y ∈ l.foldl addN xs ↔ y ∈ xs ∨ y ∈ l
  | [], xs => by simp
  | x :: l, xs => by
    rw [List.foldl_cons, foldN_mem l, addN_mem, List.mem_cons]
    constructor
    · rintro ((h | h) | h)
      · exact .inl h
      · exact .inr (.inl h)
      · exact .inr (.inr h)
    · rintro (h | h | h)
      · exact .inl (.inl h)
      · exact .inl (.inr h)
      · exact .inr h
theorem foldN_len : ∀ (l xs : List Nat), (l.foldl addN xs).length ≤ xs.length + l.length
  | [], xs => by simp
  | x :: l, xs => by
    rw [List.foldl_cons, List.length_cons]
    have := foldN_len l (addN xs x)
    have := addN_len xs x
    omega
/-- whiles: a count falls -/
theorem whlGo_cnt {T : Rho → M Bool} {C : Rho → M Fl} (P : Nat → Rho → Prop) (Q : Rho → Prop) (ht : ∀ n ρ, P n ρ → (T ρ = .ok false ∧ Q ρ) ∨ (T ρ = .ok true ∧ NX (C ρ) fun ρ' => ∃ m, m < n ∧ P m ρ')) : ∀ (k n : Nat) (ρ : Rho), P n ρ → n < k → NX (whlGo T C k ρ) Q
  | 0, _, _, _, h => absurd h (Nat.not_lt_zero _)
  | k + 1, n, ρ, h, hn => by
    rcases ht n ρ h with ⟨e, q⟩ | ⟨e, ρ', e2, m, hm, h2⟩
    · exact ⟨ρ, by simp only [whlGo, e, ok_bind]; rfl, q⟩
    · obtain ⟨ρ2, e3, q⟩ := whlGo_cnt P Q ht k m ρ' h2 (by omega)
      exact ⟨ρ2, by simp only [whlGo, e, ok_bind, e2, if_pos, e3], q⟩
theorem whl_feN {T : Rho → M Bool} {C : Rho → M Fl} {k : Nat} {ρ : Rho} {c : Fl → M Fl} {R : Sl → Prop} (P : Nat → Rho → Prop) (Q : Rho → Prop) (n : Nat) (h0 : P n ρ) (hn : n < k)
    (ht : ∀ n ρ, P n ρ → (T ρ = .ok false ∧ Q ρ) ∨ (T ρ = .ok true ∧ NX (C ρ) fun ρ' => ∃ m, m < n ∧ P m ρ')) (hk : ∀ ρ', Q ρ' → FE (fin (c (.nx ρ'))) R) : FE (fin (whlGo T C k ρ >>= c)) R := by
  obtain ⟨ρ', e, h⟩ := whlGo_cnt P Q ht k n ρ h0 hn
  rw [e]
  exact hk ρ' h
/-- numbers below n, each once: at most n -/
theorem nodup_len : ∀ (n : Nat) (l : List Nat), l.Nodup → (∀ x ∈ l, x < n) → l.length ≤ n
  | 0, l, _, h => by
    cases l with
    | nil => exact Nat.le_refl _
    | cons x l => exact absurd (h x List.mem_cons_self) (Nat.not_lt_zero _)
  | n + 1, l, nd, h => by
    have ih := nodup_len n (l.filter (· != n)) (nd.filter _) fun x hx => by
      rw [List.mem_filter] at hx
      have := h x hx.1
      have := hx.2
      simp at this
      omega
    have : ∀ l : List Nat, l.Nodup → l.length ≤ (l.filter (· != n)).length + 1 := by
      intro l
      induction l with
      | nil => intro _; simp
      | cons x l ih =>
        intro nd
        obtain ⟨n1, n2⟩ := List.nodup_cons.mp nd
        rw [List.filter_cons]
        split
        · rw [List.length_cons, List.length_cons]
          have := ih n2
          omega
        · rename_i hx
          have hx' : x = n := by simpa using hx
          subst hx'
          have e : l.filter (· != x) = l := by
            rw [List.filter_eq_self]
            intro y hy
            have : y ≠ x := fun z => n1 (z ▸ hy)
            simpa using this
          rw [e, List.length_cons]
          exact Nat.le_refl _
    have := this l nd
    omega
theorem cutD_both' (xs : List D) (i k : Nat) (h : k ≤ xs.length) (hi : i ≤ xs.length) : cutD xs (some (i : Int)) (some (k : Int)) = (xs.drop i).take (k - i) := cutD_both hi h
theorem addN_nodup {xs : List Nat} (h : xs.Nodup) (x : Nat) : (addN xs x).Nodup := by
  unfold addN
  split
  · exact h
  · rename_i hx
    rw [List.nodup_append]
    refine ⟨h, by simp, fun a ha b hb => ?_⟩
    rw [List.mem_singleton] at hb
    subst hb
    exact fun z => hx (z ▸ ha)
theorem insN'_sorted (i : Nat) : ∀ l : List Nat, l.Pairwise (· ≤ ·) → (insN' i l).Pairwise (· ≤ ·)
  | [], _ => by simp [insN']
  | j :: r, h => by
    unfold insN'
    obtain ⟨h1, h2⟩ := List.pairwise_cons.mp h
    split
    · rename_i c
      refine List.pairwise_cons.mpr ⟨fun k hk => ?_, h⟩
      rcases List.mem_cons.mp hk with e | hk
      · rw [e]; exact c
      · exact Nat.le_trans c (h1 k hk)
    · rename_i c
      refine List.pairwise_cons.mpr ⟨fun k hk => ?_, insN'_sorted i r h2⟩
      rcases List.mem_cons.mp ((insN'_perm i r).mem_iff.mp hk) with e | hk
      · rw [e]; omega
      · exact h1 k hk
theorem sortN_sorted : ∀ l : List Nat, (sortN l).Pairwise (· ≤ ·)
  | [] => .nil
  | i :: r => insN'_sorted i _ (sortN_sorted r)
theorem sortedN_uniq : ∀ {l m : List Nat}, l.Perm m → l.Pairwise (· ≤ ·) → m.Pairwise (· ≤ ·) → l = m
  | [], m, p, _, _ => (List.Perm.nil_eq p)
  | a :: l, [], p, _, _ => absurd p.length_eq (by simp)
  | a :: l, b :: m, p, h1, h2 => by
    obtain ⟨a1, a2⟩ := List.pairwise_cons.mp h1
    obtain ⟨b1, b2⟩ := List.pairwise_cons.mp h2
    have e : a = b := by
      have m1 : a ∈ b :: m := p.mem_iff.mp List.mem_cons_self
      have m2 : b ∈ a :: l := p.mem_iff.mpr List.mem_cons_self
      rcases List.mem_cons.mp m1 with e | m1
      · exact e
      · rcases List.mem_cons.mp m2 with e | m2
        · exact e.symm
        · have := a1 b m2
          have := b1 a m1
          omega
    subst e
    rw [sortedN_uniq (List.Perm.cons_inv p) a2 b2]
theorem nodup_perm : ∀ {l m : List Nat}, l.Nodup → m.Nodup → (∀ x, x ∈ l ↔ x ∈ m) → l.Perm m
  | [], m, _, _, h => by
    cases m with
    | nil => exact .refl _
    | cons x m => exact absurd ((h x).mpr List.mem_cons_self) (by simp)
  | a :: l, m, h1, h2, h => by
    obtain ⟨n1, n2⟩ := List.nodup_cons.mp h1
    have ha : a ∈ m := (h a).mp List.mem_cons_self
    have p := List.perm_cons_erase ha
    refine (List.Perm.cons a (nodup_perm n2 (h2.erase a) fun x => ?_)).trans p.symm
    rw [h2.mem_erase_iff]
    constructor
    · intro hx
      exact ⟨fun z => n1 (z ▸ hx), (h x).mp (List.mem_cons_of_mem _ hx)⟩
    · rintro ⟨hne, hx⟩
      exact (List.mem_cons.mp ((h x).mpr hx)).resolve_left hne
theorem sortN_eq {l m : List Nat} (h1 : l.Nodup) (h2 : m.Nodup) (h : ∀ x, x ∈ l ↔ x ∈ m) : sortN l = sortN m :=
  sortedN_uniq ((sortN_perm l).trans ((nodup_perm h1 h2 h).trans (sortN_perm m).symm)) (sortN_sorted l) (sortN_sorted m)
theorem sortN_mem {x : Nat} {l : List Nat} : x ∈ sortN l ↔ x ∈ l := (sortN_perm l).mem_iff
/-! ### sorted(set(xs)), tables -/
theorem gdxD_str {kvs : List (Str × D)} {z : Str} {d : D} (h : kvs.lookup z = some d) : gdxD kvs (.str z) = .ok ⟨.f, d⟩ := by
  unfold gdxD
  simp only [h]
def dedN : List Nat → List Nat
  | [] => []
  | i :: r => if i ∈ r then dedN r else i :: dedN r
theorem dedN_mem {k : Nat} : ∀ {l : List Nat}, k ∈ dedN l ↔ k ∈ l
  | [] => Iff.rfl
  | i :: r => by
    unfold dedN
    split
    · rename_i h
      rw [dedN_mem, List.mem_cons]
      exact ⟨.inr, fun z => z.elim (fun e => e ▸ h) id⟩
    · rw [List.mem_cons, List.mem_cons, dedN_mem]
theorem dedN_nodup : ∀ l : List Nat, (dedN l).Nodup
  | [] => List.nodup_nil
  | i :: r => by
    unfold dedN
    split
    · exact dedN_nodup r
    · rename_i h
      exact List.nodup_cons.mpr ⟨fun z => h (dedN_mem.mp z), dedN_nodup r⟩
theorem dedN_len : ∀ l : List Nat, (dedN l).length ≤ l.length
  | [] => Nat.le_refl _
  | i :: r => by
    unfold dedN
    split
    · exact Nat.le_succ_of_le (dedN_len r)
    · exact Nat.succ_le_succ (dedN_len r)
theorem dedI_nat : ∀ l : List Nat, dedI (l.map fun n : Nat => (n : Int)) = (dedN l).map fun n : Nat => (n : Int)
  | [] => rfl
  | i :: r => by
    have e : ((i : Int) ∈ r.map fun n : Nat => (n : Int)) ↔ i ∈ r := by
      constructor
      · intro h
        obtain ⟨j, hj, ej⟩ := List.mem_map.mp h
        exact (Int.ofNat_inj.mp ej) ▸ hj
      · exact fun h => List.mem_map.mpr ⟨i, h, rfl⟩
    rw [List.map_cons, dedI, dedN, dedI_nat r]
    by_cases h : i ∈ r
    · rw [if_pos h, if_pos (e.mpr h)]
    · rw [if_neg h, if_neg fun z => h (e.mp z)]
      rfl
/-- sorted(set(xs)) -/
def sstN (xs : List Nat) : List Nat := sortN (dedN xs)
theorem sstN_mem {x : Nat} {xs : List Nat} : x ∈ sstN xs ↔ x ∈ xs := sortN_mem.trans dedN_mem
theorem sstN_nodup (xs : List Nat) : (sstN xs).Nodup := (sortN_perm _).nodup_iff.mpr (dedN_nodup xs)
theorem sstN_sorted (xs : List Nat) : (sstN xs).Pairwise (· ≤ ·) := sortN_sorted _
theorem sstN_len (xs : List Nat) : (sstN xs).length ≤ xs.length := by
  unfold sstN
  rw [(sortN_perm _).length_eq]
  exact dedN_len xs
theorem sstN_eq {xs ys : List Nat} (h : ∀ x, x ∈ xs ↔ x ∈ ys) : sstN xs = sstN ys := sortN_eq (dedN_nodup xs) (dedN_nodup ys) fun x => dedN_mem.trans ((h x).trans dedN_mem.symm)
theorem sstN_sort {xs ys : List Nat} (hn : ys.Nodup) (h : ∀ x, x ∈ xs ↔ x ∈ ys) : sstN xs = sortN ys := sortN_eq (dedN_nodup xs) hn fun x => dedN_mem.trans (h x)
theorem sstD_list (xs : List Nat) (h : xs.length < 4000) : sstD (.list (xs.map nD)) = .ok ⟨.o, .list ((sstN xs).map nD)⟩ := by
  have e := intsD_nats xs
  unfold sstD
  simp only [itemsD, e, List.length_map, h, if_true, dedI_nat, sortI_nat]
  rw [map_nD]
  rfl
theorem sstD_tup (xs : List Nat) (h : xs.length < 4000) : sstD (.tuple (xs.map nD)) = .ok ⟨.o, .list ((sstN xs).map nD)⟩ := by
  have e := intsD_nats xs
  unfold sstD
  simp only [itemsD, e, List.length_map, h, if_true, dedI_nat, sortI_nat]
  rw [map_nD]
  rfl
end GK

namespace GK
open PySem
theorem isx_GateError (c : Str) : isxS ⟨.f, xcD c⟩ "GateError" = .ok (fB (xsub c "GateError")) := isxS_xc c _ (by decide +kernel)
theorem xin_GateError : xall.contains "GateError" = true := by decide +kernel
theorem isx_NoRelation (c : Str) : isxS ⟨.f, xcD c⟩ "NoRelation" = .ok (fB (xsub c "NoRelation")) := isxS_xc c _ (by decide +kernel)
theorem xin_NoRelation : xall.contains "NoRelation" = true := by decide +kernel
theorem isx_TooMany (c : Str) : isxS ⟨.f, xcD c⟩ "TooMany" = .ok (fB (xsub c "TooMany")) := isxS_xc c _ (by decide +kernel)
theorem xin_TooMany : xall.contains "TooMany" = true := by decide +kernel
theorem isx_TooBig (c : Str) : isxS ⟨.f, xcD c⟩ "TooBig" = .ok (fB (xsub c "TooBig")) := isxS_xc c _ (by decide +kernel)
theorem xin_TooBig : xall.contains "TooBig" = true := by decide +kernel
theorem isx_NotAll (c : Str) : isxS ⟨.f, xcD c⟩ "NotAll" = .ok (fB (xsub c "NotAll")) := isxS_xc c _ (by decide +kernel)
theorem xin_NotAll : xall.contains "NotAll" = true := by decide +kernel
theorem isx_NotMade (c : Str) : isxS ⟨.f, xcD c⟩ "NotMade" = .ok (fB (xsub c "NotMade")) := isxS_xc c _ (by decide +kernel)
theorem xin_NotMade : xall.contains "NotMade" = true := by decide +kernel
theorem isx_NoText (c : Str) : isxS ⟨.f, xcD c⟩ "NoText" = .ok (fB (xsub c "NoText")) := isxS_xc c _ (by decide +kernel)
theorem xin_NoText : xall.contains "NoText" = true := by decide +kernel
theorem isx_NoName (c : Str) : isxS ⟨.f, xcD c⟩ "NoName" = .ok (fB (xsub c "NoName")) := isxS_xc c _ (by decide +kernel)
theorem xin_NoName : xall.contains "NoName" = true := by decide +kernel
theorem isx_NoRow (c : Str) : isxS ⟨.f, xcD c⟩ "NoRow" = .ok (fB (xsub c "NoRow")) := isxS_xc c _ (by decide +kernel)
theorem xin_NoRow : xall.contains "NoRow" = true := by decide +kernel
theorem isx_ValueError (c : Str) : isxS ⟨.f, xcD c⟩ "ValueError" = .ok (fB (xsub c "ValueError")) := isxS_xc c _ (by decide +kernel)
theorem xin_ValueError : xall.contains "ValueError" = true := by decide +kernel
theorem xs_NoRelation_GateError : xsub "NoRelation" "GateError" = true := by decide +kernel
theorem xs_NoRelation_NoRelation : xsub "NoRelation" "NoRelation" = true := by decide +kernel
theorem xs_NoRelation_TooMany : xsub "NoRelation" "TooMany" = false := by decide +kernel
theorem xs_NoRelation_TooBig : xsub "NoRelation" "TooBig" = false := by decide +kernel
theorem xs_NoRelation_NotAll : xsub "NoRelation" "NotAll" = false := by decide +kernel
theorem xs_NoRelation_NotMade : xsub "NoRelation" "NotMade" = false := by decide +kernel
theorem xs_NoRelation_NoText : xsub "NoRelation" "NoText" = false := by decide +kernel
theorem xs_NoRelation_NoName : xsub "NoRelation" "NoName" = false := by decide +kernel
theorem xs_NoRelation_NoRow : xsub "NoRelation" "NoRow" = false := by decide +kernel
theorem xs_NoRelation_ValueError : xsub "NoRelation" "ValueError" = true := by decide +kernel
theorem xs_TooMany_GateError : xsub "TooMany" "GateError" = true := by decide +kernel
theorem xs_TooMany_NoRelation : xsub "TooMany" "NoRelation" = false := by decide +kernel
theorem xs_TooMany_TooMany : xsub "TooMany" "TooMany" = true := by decide +kernel
theorem xs_TooMany_TooBig : xsub "TooMany" "TooBig" = false := by decide +kernel
theorem xs_TooMany_NotAll : xsub "TooMany" "NotAll" = false := by decide +kernel
theorem xs_TooMany_NotMade : xsub "TooMany" "NotMade" = false := by decide +kernel
theorem xs_TooMany_NoText : xsub "TooMany" "NoText" = false := by decide +kernel
theorem xs_TooMany_NoName : xsub "TooMany" "NoName" = false := by decide +kernel
theorem xs_TooMany_NoRow : xsub "TooMany" "NoRow" = false := by decide +kernel
theorem xs_TooMany_ValueError : xsub "TooMany" "ValueError" = true := by decide +kernel
theorem xs_TooBig_GateError : xsub "TooBig" "GateError" = true := by decide +kernel
theorem xs_TooBig_NoRelation : xsub "TooBig" "NoRelation" = false := by decide +kernel
theorem xs_TooBig_TooMany : xsub "TooBig" "TooMany" = false := by decide +kernel
theorem xs_TooBig_TooBig : xsub "TooBig" "TooBig" = true := by decide +kernel
theorem xs_TooBig_NotAll : xsub "TooBig" "NotAll" = false := by decide +kernel
theorem xs_TooBig_NotMade : xsub "TooBig" "NotMade" = false := by decide +kernel
theorem xs_TooBig_NoText : xsub "TooBig" "NoText" = false := by decide +kernel
theorem xs_TooBig_NoName : xsub "TooBig" "NoName" = false := by decide +kernel
theorem xs_TooBig_NoRow : xsub "TooBig" "NoRow" = false := by decide +kernel
theorem xs_TooBig_ValueError : xsub "TooBig" "ValueError" = true := by decide +kernel
end GK
namespace GK
open PySem PySem.Spec PyProof.Rows L2
section
variable {cl : Str → List Sl → M Sl} {fu : Nat} {ρ ρ' : Rho}
/-! parts that change something -/
def efD (cl : Str → List Sl → M Sl) (ρ ρ' : Rho) : Ek → Sl → M Fl
  | .asg t, v => bindT t v ρ' >>= fun ρ2 => .ok (.nx ρ2)
  | .ret, v => retS .non ρ' v >>= fun w => .ok (.rt w)
  | .exp, _ => .ok (.nx ρ')
  | .app y, v => asF v >>= fun d => ownL y ρ >>= fun _ => ownL y ρ' >>= fun ds => ifM (lenOk (ds.length + 1)) (.ok (.nx (ρ'.set y (some ⟨.o, .list (ds ++ [d])⟩)))) stk
  | .set y i, v => asF v >>= fun d => evE cl i ρ' >>= fun j => setO y ρ' d j.d
def efC (cl : Str → List Sl → M Sl) (ρ : Rho) (k : Ek) (p : Po) : Er → M Fl
  | .rz c => ifM (poX p && ekX k) (.ok (.rz c ρ)) stk
  | .v s ρ' => poE ρ ρ' p s >>= efD cl ρ ρ' k
theorem exS_ef (k : Ek) (e : Ef) (p : Po) : exS cl fu (.ef k e p) ρ = efX cl e ρ >>= efC cl ρ k p := by
  simp only [exS]
  congr
  funext r
  cases r with
  | rz c => rfl
  | v s ρ' => cases k <;> rfl
def efT (cl : Str → List Sl → M Sl) (fu : Nat) (ρ : Rho) (p : Po) (a b : Ss) : Er → M Fl
  | .rz c => ifM (poX p) (.ok (.rz c ρ)) stk
  | .v s ρ' => poE ρ ρ' p s >>= fun v => asB v.d >>= fun c => ifM c (exSs cl fu a ρ') (exSs cl fu b ρ')
theorem exS_eft (e : Ef) (p : Po) (a b : Ss) : exS cl fu (.eft e p a b) ρ = efX cl e ρ >>= efT cl fu ρ p a b := by
  simp only [exS]
  congr
theorem efC_rz (k : Ek) (p : Po) (c : Str) : efC cl ρ k p (.rz c) = ifM (poX p && ekX k) (.ok (.rz c ρ)) stk := (rfl)
theorem efC_v (k : Ek) (p : Po) (s : Sl) : efC cl ρ k p (.v s ρ') = poE ρ ρ' p s >>= efD cl ρ ρ' k := (rfl)
theorem efT_rz (p : Po) (a b : Ss) (c : Str) : efT cl fu ρ p a b (.rz c) = ifM (poX p) (.ok (.rz c ρ)) stk := (rfl)
theorem efT_v (p : Po) (a b : Ss) (s : Sl) : efT cl fu ρ p a b (.v s ρ') = poE ρ ρ' p s >>= fun v => asB v.d >>= fun c => ifM c (exSs cl fu a ρ') (exSs cl fu b ρ') := (rfl)
theorem efD_asg (t : Tg) (v : Sl) : efD cl ρ ρ' (.asg t) v = bindT t v ρ' >>= fun ρ2 => .ok (.nx ρ2) := (rfl)
theorem efD_ret (v : Sl) : efD cl ρ ρ' .ret v = retS .non ρ' v >>= fun w => .ok (.rt w) := (rfl)
theorem efD_exp (v : Sl) : efD cl ρ ρ' .exp v = .ok (.nx ρ') := (rfl)
theorem efD_app (y : Nat) (v : Sl) : efD cl ρ ρ' (.app y) v = asF v >>= fun d => ownL y ρ >>= fun _ => ownL y ρ' >>= fun ds => ifM (lenOk (ds.length + 1)) (.ok (.nx (ρ'.set y (some ⟨.o, .list (ds ++ [d])⟩)))) stk := (rfl)
theorem efD_set (y : Nat) (i : E) (v : Sl) : efD cl ρ ρ' (.set y i) v = asF v >>= fun d => evE cl i ρ' >>= fun j => setO y ρ' d j.d := (rfl)
theorem efX_call (f : Str) (es : Es) : efX cl (.call f es) ρ = evA cl es ρ >>= fun ss => efG ρ (cl f ss) := (rfl)
theorem efX_pop (x : Nat) : efX cl (.pop x) ρ = popG x ρ := (rfl)
theorem efX_popA (x : Nat) (i : E) : efX cl (.popA x i) ρ = evE cl i ρ >>= fun y => popGA x ρ y.d := (rfl)
theorem efX_popK (x : Nat) (i : E) : efX cl (.popK x i) ρ = evE cl i ρ >>= fun y => popGK x ρ y.d := (rfl)
theorem efG_ok (s : Sl) : efG ρ (.ok s) = .ok (.v s ρ) := (rfl)
theorem efG_rz (c : Str) : efG ρ (.error (.raised c)) = .ok (.rz c) := (rfl)
def popL (x : Nat) (ρ : Rho) : Option (Option Sl) → M Er
  | some (some ⟨.o, .list ds⟩) => match ds[ds.length - 1]? with
    | some d => .ok (.v ⟨.f, d⟩ (ρ.set x (some ⟨.o, .list ds.dropLast⟩)))
    | none => stk
  | _ => stk
theorem popG_eq (x : Nat) : popG x ρ = popL x ρ ρ[x]? := by
  unfold popG
  cases ρ[x]? with
  | none => rfl
  | some o =>
    cases o with
    | none => rfl
    | some s => obtain ⟨m, d⟩ := s; cases m <;> cases d <;> rfl
theorem popL_snoc (x : Nat) (ds : List D) (d : D) : popL x ρ (some (some ⟨.o, .list (ds ++ [d])⟩)) = .ok (.v ⟨.f, d⟩ (ρ.set x (some ⟨.o, .list ds⟩))) := by
  have e : (ds ++ [d])[(ds ++ [d]).length - 1]? = some d := by
    rw [List.length_append]
    simp
  simp only [popL, e, List.dropLast_concat]
def popLA (x : Nat) (ρ : Rho) (i : D) : Option (Option Sl) → M Er
  | some (some ⟨.o, .list ds⟩) => match i with
    | .int k => if decide (0 ≤ k) && decide (k < 2 ^ 62) then match ds[k.toNat]? with
      | some d => .ok (.v ⟨.f, d⟩ (ρ.set x (some ⟨.o, .list (ds.eraseIdx k.toNat)⟩)))
      | none => stk
      else stk
    | _ => stk
  | _ => stk
theorem popGA_eq (x : Nat) (i : D) : popGA x ρ i = popLA x ρ i ρ[x]? := by
  unfold popGA
  cases ρ[x]? with
  | none => rfl
  | some o =>
    cases o with
    | none => rfl
    | some s => obtain ⟨m, d⟩ := s; cases m <;> cases d <;> rfl
theorem popLA_at (x : Nat) (ds : List D) (d : D) (k : Nat) (h : ds[k]? = some d) (hk : k < 2 ^ 62) : popLA x ρ (.int (k : Int)) (some (some ⟨.o, .list ds⟩)) = .ok (.v ⟨.f, d⟩ (ρ.set x (some ⟨.o, .list (ds.eraseIdx k)⟩))) := by
  have e : (decide ((0 : Int) ≤ (k : Int)) && decide ((k : Int) < 2 ^ 62)) = true := by
    rw [decide_eq_true (Int.natCast_nonneg k), decide_eq_true (show (k : Int) < 2 ^ 62 by omega)]
    rfl
  simp only [popLA, e, if_true, Int.toNat_natCast, h]
def popLK (x : Nat) (ρ : Rho) (k : D) : Option (Option Sl) → M Er
  | some (some ⟨.o, .dict ds⟩) => if keyOk k && nmk ds then match lookD ds k with
      | some d => .ok (.v ⟨.f, d⟩ (ρ.set x (some ⟨.o, .dict (dropD ds k)⟩)))
      | none => stk
      else stk
  | _ => stk
theorem popGK_eq (x : Nat) (i : D) : popGK x ρ i = popLK x ρ i ρ[x]? := by
  unfold popGK
  cases ρ[x]? with
  | none => rfl
  | some o =>
    cases o with
    | none => rfl
    | some s => obtain ⟨m, d⟩ := s; cases m <;> cases d <;> rfl
theorem popLK_at (x : Nat) (ds : List (D × D)) (k d : D) (hk : keyOk k = true) (hn : nmk ds = true) (h : lookD ds k = some d) : popLK x ρ k (some (some ⟨.o, .dict ds⟩)) = .ok (.v ⟨.f, d⟩ (ρ.set x (some ⟨.o, .dict (dropD ds k)⟩))) := by
  simp only [popLK, hk, hn, Bool.and_self, if_true, h]
theorem poE_hd (s : Sl) : poE ρ ρ' .hd s = .ok s := (rfl)
def ixL (n : Nat) : D → M Sl
  | .dict _ => stk
  | d => ixD d (.int (n : Int))
theorem poE_ixn (p : Po) (n : Nat) (s : Sl) : poE ρ ρ' (.ixn p n) s = poE ρ ρ' p s >>= fun x => ixL n x.d := by
  simp only [poE]
  congr
theorem ixL_tup (n : Nat) (ds : List D) : ixL n (.tuple ds) = ixD (.tuple ds) (.int (n : Int)) := (rfl)
theorem ixL_list (n : Nat) (ds : List D) : ixL n (.list ds) = ixD (.list ds) (.int (n : Int)) := (rfl)
theorem poE_isN (p : Po) (s : Sl) : poE ρ ρ' (.isN p) s = poE ρ ρ' p s >>= fun x => .ok (fB (isNone x.d)) := (rfl)
theorem poE_eqS (p : Po) (z : Str) (s : Sl) : poE ρ ρ' (.eqS p z) s = poE ρ ρ' p s >>= fun x => cmpop .Eq x.d (.str z) >>= fun b => .ok (fB b) := (rfl)
theorem poE_lst1 (p : Po) (s : Sl) : poE ρ ρ' (.lst1 p) s = poE ρ ρ' p s >>= fun x => asF x >>= fun d => .ok ⟨.o, .list [d]⟩ := (rfl)
theorem poE_opI (op : Operator) (a : Nat) (p : Po) (s : Sl) : poE ρ ρ' (.opI op a p) s = poE ρ ρ' p s >>= fun x => binop op .f (.int (a : Int)) x.d := (rfl)
def ixV (k : D) : Option (Option Sl) → Option (Option Sl) → M Sl
  | some (some _), some (some ⟨_, .dict ds⟩) => if keyOk k then ixD (.dict ds) k else stk
  | _, _ => stk
theorem poE_ixv (y : Nat) (p : Po) (s : Sl) : poE ρ ρ' (.ixv y p) s = poE ρ ρ' p s >>= fun x => ixV x.d ρ[y]? ρ'[y]? := by
  simp only [poE]
  congr
theorem ixV_int (i : Int) (s : Sl) (m : Md) (ds : List (D × D)) : ixV (.int i) (some (some s)) (some (some ⟨m, .dict ds⟩)) = ixD (.dict ds) (.int i) := (rfl)
theorem poX_hd : poX .hd = true := (rfl)
theorem poX_ixn (p : Po) (n : Nat) : poX (.ixn p n) = poX p := (rfl)
theorem poX_isN (p : Po) : poX (.isN p) = poX p := (rfl)
theorem poX_eqS (p : Po) (z : Str) : poX (.eqS p z) = poX p := (rfl)
theorem poX_lst1 (p : Po) : poX (.lst1 p) = poX p := (rfl)
theorem ekX_asg (t : Tg) : ekX (.asg t) = true := (rfl)
theorem ekX_ret : ekX .ret = true := (rfl)
theorem ekX_exp : ekX .exp = true := (rfl)
theorem ekX_set (y : Nat) (i : E) : ekX (.set y i) = true := (rfl)
/-! x.insert(i, e) -/
def insG (x : Nat) (ρ : Rho) (i v : D) (ds : List D) : M Fl := match i with
  | .int k => ifM (lenOk (ds.length + 1) && decide (0 ≤ k) && decide (k < 2 ^ 62)) (.ok (.nx (ρ.set x (some ⟨.o, .list (ds.take k.toNat ++ v :: ds.drop k.toNat)⟩)))) stk
  | _ => stk
theorem exS_ins (x : Nat) (i e : E) : exS cl fu (.ins x i e) ρ = evE cl i ρ >>= fun y => evE cl e ρ >>= fun s => asF s >>= fun v => ownL x ρ >>= fun ds => insG x ρ y.d v ds := by
  simp only [exS]
  congr
theorem insG_nat (x : Nat) (k : Nat) (v : D) (ds : List D) (h : ds.length + 1 ≤ 16777216) (hk : k < 2 ^ 62) : insG x ρ (.int (k : Int)) v ds = .ok (.nx (ρ.set x (some ⟨.o, .list (ds.take k ++ v :: ds.drop k)⟩))) := by
  have e : (lenOk (ds.length + 1) && decide ((0 : Int) ≤ (k : Int)) && decide ((k : Int) < 2 ^ 62)) = true := by
    rw [lenOk_of h, decide_eq_true (Int.natCast_nonneg k), decide_eq_true (show (k : Int) < 2 ^ 62 by omega)]
    rfl
  simp only [insG, e, ifM_t, Int.toNat_natCast]
theorem lnsD_list (xs : List Nat) (h : xs.length < 4000) : lnsD (.list (xs.map nD)) = .ok (fI ((sstN xs).length : Nat)) := by
  have e : (intsD (xs.map nD)) = some (xs.map fun n : Nat => (n : Int)) := intsD_nats xs
  have e2 : itemsD (.list (xs.map nD)) = .ok (xs.map nD) := rfl
  unfold lnsD
  simp only [e2, e, List.length_map, h, if_true]
  rw [dedI_nat, List.length_map]
  unfold sstN
  rw [(sortN_perm _).length_eq]
end
/-! loops and ends that may raise -/
def NR (c : Str) (m : M Fl) (P : Rho → Prop) (R : Prop) : Prop := (∃ ρ', m = .ok (.nx ρ') ∧ P ρ') ∨ ((∃ ρ', m = .ok (.rz c ρ')) ∧ R)
theorem nr_ok {c : Str} {ρ : Rho} {P : Rho → Prop} {R : Prop} (h : P ρ) : NR c (.ok (.nx ρ)) P R := .inl ⟨ρ, rfl, h⟩
theorem nr_rz {c : Str} {ρ : Rho} {P : Rho → Prop} {R : Prop} (h : R) : NR c (.ok (.rz c ρ)) P R := .inr ⟨⟨ρ, rfl⟩, h⟩
theorem NX.nr {c : Str} {m : M Fl} {P : Rho → Prop} {R : Prop} (h : NX m P) : NR c m P R := .inl h
theorem forGo_nr {B : D → Rho → M Rho} {C : Rho → M Fl} {c : Str} {R : Prop} : ∀ (xs : List D) (ρ : Rho) (P : Nat → Rho → Prop), P 0 ρ → (∀ i x ρ, xs[i]? = some x → P i ρ → NR c (B x ρ >>= C) (P (i + 1)) R) → NR c (forGo B C xs ρ) (P xs.length) R
  | [], ρ, P, h, _ => .inl ⟨ρ, rfl, h⟩
  | x :: xs, ρ, P, h, hs => by
    rcases hs 0 x ρ rfl h with ⟨ρ', e, p⟩ | ⟨⟨ρ', e⟩, r⟩
    · obtain ⟨ρ1, e1, e2⟩ := bind_ok e
      rcases forGo_nr xs ρ' (fun i => P (i + 1)) p (fun i y ρ hy hp => hs (i + 1) y ρ (by simpa using hy) hp) with ⟨ρ2, e3, p2⟩ | ⟨⟨ρ2, e3⟩, r⟩
      · exact .inl ⟨ρ2, by simp only [forGo, e1, e2, e3, ok_bind], p2⟩
      · exact .inr ⟨⟨ρ2, by simp only [forGo, e1, e2, e3, ok_bind]⟩, r⟩
    · obtain ⟨ρ1, e1, e2⟩ := bind_ok e
      exact .inr ⟨⟨ρ', by simp only [forGo, e1, e2, ok_bind]⟩, r⟩
theorem whlGo_nr {T : Rho → M Bool} {C : Rho → M Fl} {c : Str} {R : Prop} (P : Nat → Rho → Prop) (Q : Rho → Prop) (ht : ∀ n ρ, P n ρ → (T ρ = .ok false ∧ Q ρ) ∨ (T ρ = .ok true ∧ NR c (C ρ) (fun ρ' => ∃ m, m < n ∧ P m ρ') R)) : ∀ (k n : Nat) (ρ : Rho), P n ρ → n < k → NR c (whlGo T C k ρ) Q R
  | 0, _, _, _, h => absurd h (Nat.not_lt_zero _)
  | k + 1, n, ρ, h, hn => by
    rcases ht n ρ h with ⟨e, q⟩ | ⟨e, ⟨ρ', e2, m, hm, h2⟩ | ⟨⟨ρ', e2⟩, r⟩⟩
    · exact .inl ⟨ρ, by simp only [whlGo, e, ok_bind]; rfl, q⟩
    · rcases whlGo_nr P Q ht k m ρ' h2 (by omega) with ⟨ρ2, e3, q⟩ | ⟨⟨ρ2, e3⟩, r⟩
      · exact .inl ⟨ρ2, by simp only [whlGo, e, ok_bind, e2, if_pos, e3], q⟩
      · exact .inr ⟨⟨ρ2, by simp only [whlGo, e, ok_bind, e2, if_pos, e3]⟩, r⟩
    · exact .inr ⟨⟨ρ', by simp only [whlGo, e, ok_bind, e2, if_pos]⟩, r⟩
/-- the end of a def: handed back, or raised -/
def RE (c : Str) (m : M Sl) (Q : Sl → Prop) (R : Prop) : Prop := (∃ s, m = .ok s ∧ Q s) ∨ (m = .error (.raised c) ∧ R)
theorem re_ok {c : Str} {s : Sl} {Q : Sl → Prop} {R : Prop} (h : Q s) : RE c (.ok s) Q R := .inl ⟨s, rfl, h⟩
theorem re_rz {c : Str} {Q : Sl → Prop} {R : Prop} (h : R) : RE c (.error (.raised c)) Q R := .inr ⟨rfl, h⟩
theorem bind_re {c : Str} {X : M Fl} {k : Fl → M Fl} {Q : Sl → Prop} {R : Prop} (P : Rho → Prop) (h : NR c X P R) (hk : ∀ ρ', P ρ' → RE c (fin (k (.nx ρ'))) Q R) (hz : ∀ ρ', fin (k (.rz c ρ')) = .error (.raised c) := by exact fun _ => rfl) : RE c (fin (X >>= k)) Q R := by
  rcases h with ⟨ρ', e, p⟩ | ⟨⟨ρ', e⟩, r⟩
  · rw [e]
    exact hk ρ' p
  · rw [e]
    exact .inr ⟨hz ρ', r⟩
theorem bind_nr {c : Str} {X : M Fl} {k : Fl → M Fl} {Q : Rho → Prop} {R : Prop} (P : Rho → Prop) (h : NR c X P R) (hk : ∀ ρ', P ρ' → NR c (k (.nx ρ')) Q R) (hz : ∀ ρ', k (.rz c ρ') = .ok (.rz c ρ') := by exact fun _ => rfl) : NR c (X >>= k) Q R := by
  rcases h with ⟨ρ', e, p⟩ | ⟨⟨ρ', e⟩, r⟩
  · rw [e]
    exact hk ρ' p
  · rw [e]
    exact .inr ⟨⟨ρ', hz ρ'⟩, r⟩
theorem for_re {c : Str} {B : D → Rho → M Rho} {C : Rho → M Fl} {xs : List D} {ρ : Rho} {k : Fl → M Fl} {Q : Sl → Prop} {R : Prop} (P : Nat → Rho → Prop) (h0 : P 0 ρ)
    (hs : ∀ i x ρ, xs[i]? = some x → P i ρ → NR c (B x ρ >>= C) (P (i + 1)) R) (hk : ∀ ρ', P xs.length ρ' → RE c (fin (k (.nx ρ'))) Q R) (hz : ∀ ρ', fin (k (.rz c ρ')) = .error (.raised c) := by exact fun _ => rfl) : RE c (fin (forGo B C xs ρ >>= k)) Q R :=
  bind_re _ (forGo_nr xs ρ P h0 hs) hk hz
theorem for_nr {c : Str} {B : D → Rho → M Rho} {C : Rho → M Fl} {xs : List D} {ρ : Rho} {k : Fl → M Fl} {Q : Rho → Prop} {R : Prop} (P : Nat → Rho → Prop) (h0 : P 0 ρ)
    (hs : ∀ i x ρ, xs[i]? = some x → P i ρ → NR c (B x ρ >>= C) (P (i + 1)) R) (hk : ∀ ρ', P xs.length ρ' → NR c (k (.nx ρ')) Q R) (hz : ∀ ρ', k (.rz c ρ') = .ok (.rz c ρ') := by exact fun _ => rfl) : NR c (forGo B C xs ρ >>= k) Q R :=
  bind_nr _ (forGo_nr xs ρ P h0 hs) hk hz
theorem whl_re {c : Str} {T : Rho → M Bool} {C : Rho → M Fl} {k : Nat} {ρ : Rho} {kk : Fl → M Fl} {QQ : Sl → Prop} {R : Prop} (P : Nat → Rho → Prop) (Q : Rho → Prop) (n : Nat) (h0 : P n ρ) (hn : n < k)
    (ht : ∀ n ρ, P n ρ → (T ρ = .ok false ∧ Q ρ) ∨ (T ρ = .ok true ∧ NR c (C ρ) (fun ρ' => ∃ m, m < n ∧ P m ρ') R)) (hk : ∀ ρ', Q ρ' → RE c (fin (kk (.nx ρ'))) QQ R) (hz : ∀ ρ', fin (kk (.rz c ρ')) = .error (.raised c) := by exact fun _ => rfl) : RE c (fin (whlGo T C k ρ >>= kk)) QQ R :=
  bind_re _ (whlGo_nr P Q ht k n ρ h0 hn) hk hz
end GK
namespace GK
open PySem PySem.Spec PyProof.Rows L2
/-- for t in x: y[t] = c -/
def fstH (t x y : Nat) (c : Bool) (ρ : Rho) : Option (Option Sl) → Option (Option Sl) → M Fl
  | some (some ⟨.o, .list ds⟩), some (some ⟨.o, .dict ps⟩) => ifM (decide (t < ρ.length) && decide (x ≠ y) && decide (t ≠ x) && decide (t ≠ y) && ds.all keyOk && nmk ps && lenOk (ps.length + ds.length)) (.ok (.nx (fstR t y c ps ds ρ ds.length))) stk
  | _, _ => stk
theorem exS_fst {cl : Str → List Sl → M Sl} {fu : Nat} {ρ : Rho} (t x y : Nat) (c : Bool) : exS cl fu (.fst t x y c) ρ = fstH t x y c ρ ρ[x]? ρ[y]? := by
  simp only [exS, fstG]
  split
  · rename_i ds ps h1 h2
    rw [h1, h2]
    rfl
  · rename_i h
    unfold fstH
    split
    · rename_i ds ps h1 h2
      exact (h ds ps h1 h2).elim
    · rfl
theorem fstH_nats {ρ : Rho} (t x y : Nat) (xs : List Nat) (ht : t < ρ.length) (h1 : x ≠ y) (h2 : t ≠ x) (h3 : t ≠ y) (hn : xs.Nodup) (hl : xs.length ≤ 16777216) :
    ∃ s, fstH t x y true ρ (some (some ⟨.o, .list (xs.map nD)⟩)) (some (some ⟨.o, .dict []⟩)) = .ok (.nx ((ρ.set t s).set y (some ⟨.o, .dict (xs.map kT)⟩))) ∨ fstH t x y true ρ (some (some ⟨.o, .list (xs.map nD)⟩)) (some (some ⟨.o, .dict []⟩)) = .ok (.nx (ρ.set y (some ⟨.o, .dict (xs.map kT)⟩))) := by
  have hk : (xs.map nD).all keyOk = true := by
    rw [List.all_eq_true]
    intro d hd
    obtain ⟨n, _, rfl⟩ := List.mem_map.mp hd
    rfl
  have hf : (xs.map nD).foldl (fun acc d => putD acc d (.bool true)) [] = xs.map kT := by
    have aux : ∀ (l a : List Nat), (a ++ l).Nodup → (l.map nD).foldl (fun acc d => putD acc d (.bool true)) (a.map kT) = (a ++ l).map kT := by
      intro l
      induction l with
      | nil => intro a _; rw [List.append_nil]; rfl
      | cons x l ih =>
        intro a h
        have hx : x ∉ a := fun z => by
          rw [List.nodup_append] at h
          exact h.2.2 x z x List.mem_cons_self rfl
        have e1 : putD (a.map kT) (nD x) (.bool true) = (a ++ [x]).map kT := by
          have e2 := put_kT a x
          have e3 : addN a x = a ++ [x] := if_neg hx
          rw [e3] at e2
          exact e2
        rw [List.map_cons, List.foldl_cons, e1, ih (a ++ [x]) (by rw [List.append_assoc]; exact h), List.append_assoc]
        rfl
    exact aux xs [] hn
  have hc : (decide (t < ρ.length) && decide (x ≠ y) && decide (t ≠ x) && decide (t ≠ y) && (xs.map nD).all keyOk && nmk [] && lenOk (([] : List (D × D)).length + (xs.map nD).length)) = true := by
    rw [decide_eq_true ht, decide_eq_true h1, decide_eq_true h2, decide_eq_true h3, hk]
    simp only [Bool.true_and, nmk, List.length_nil, Nat.zero_add, List.length_map]
    exact lenOk_of hl
  simp only [fstH, hc, ifM_t, fstR, List.take_length, hf]
  cases h : (xs.map nD).length with
  | zero => exact ⟨none, .inr rfl⟩
  | succ j =>
    simp only [fstB]
    split
    · exact ⟨_, .inl rfl⟩
    · exact ⟨none, .inr rfl⟩
end GK

/-! a list that a callee changes -/
namespace GK
open PySem PySem.Spec PyProof.Rows L2
/-- io-calls: the data that comes back, and what the list holds then -/
abbrev CX2 := Str → List Sl → M (D × List D)
def onlyF (p : Nat) : Nat → Rho → Bool
  | _, [] => true
  | j, (some ⟨.f, _⟩) :: r => onlyF p (j + 1) r
  | j, none :: r => onlyF p (j + 1) r
  | j, _ :: r => decide (j = p) && onlyF p (j + 1) r
theorem onlyF_at {p : Nat} : ∀ {ρ : Rho} {k : Nat}, onlyF p k ρ = true → ∀ (j : Nat) (s : Sl), ρ[j]? = some (some s) → k + j ≠ p → s.m = .f
  | [], _, _, j, s, h, _ => by simp at h
  | x :: r, k, h, 0, s, e, hne => by
    cases e
    obtain ⟨m, d⟩ := s
    cases m with
    | f => rfl
    | o =>
      unfold onlyF at h
      rw [Bool.and_eq_true, decide_eq_true_eq] at h
      exact absurd h.1 hne
    | p =>
      unfold onlyF at h
      rw [Bool.and_eq_true, decide_eq_true_eq] at h
      exact absurd h.1 hne
  | x :: r, k, h, j + 1, s, e, hne => by
    have h' : onlyF p (k + 1) r = true := by
      cases x with
      | none => exact h
      | some t =>
        obtain ⟨m, d⟩ := t
        cases m with
        | f => exact h
        | o =>
          unfold onlyF at h
          rw [Bool.and_eq_true] at h
          exact h.2
        | p =>
          unfold onlyF at h
          rw [Bool.and_eq_true] at h
          exact h.2
    exact onlyF_at h' j s e (by omega)
section
variable {K : PySem.W.Frag} {G0 H0 G H G' H' : Hp} {σ : L2.St} {ρ : Rho}
/-- a def's state: slot p holds the list at a, all else is frozen -/
structure IoOk (K : PySem.W.Frag) (G0 H0 : Hp) (p : Nat) (a : Addr) (G H : Hp) (σ : L2.St) (ρ : Rho) (ds : List D) : Prop where
  st : Step G0 H0 G H
  h0 : H0 a = none
  len : σ.length = ρ.length
  at_ : σ[p]? = some (some (.ref a))
  io : ∃ vs, H a = some (.lst vs) ∧ RpA K G vs ds
  ga : G a = none
  slot : ρ[p]? = some (some ⟨.o, .list ds⟩)
  fz : ∀ (j : Nat) (s : Sl), j ≠ p → ρ[j]? = some (some s) → s.m = .f ∧ ∃ v, σ[j]? = some (some v) ∧ Rp K G v s.d
theorem IoOk.env {p : Nat} {a : Addr} {ds : List D} (h : IoOk K G0 H0 p a G H σ ρ ds) : EnvR K G H σ ρ := by
  refine ⟨h.len, fun j s hs => ?_⟩
  by_cases e : j = p
  · subst e
    rw [h.slot] at hs
    cases hs
    obtain ⟨vs, h1, h2⟩ := h.io
    exact ⟨_, h.at_, ⟨a, .lst vs, rfl, h.ga, h1, .base (.lst h2)⟩⟩
  · obtain ⟨h1, v, h2, h3⟩ := h.fz j s e hs
    obtain ⟨m, d⟩ := s
    cases h1
    exact ⟨v, h2, h3⟩
theorem IoOk.step {p : Nat} {a : Addr} {ds : List D} (h : IoOk K G0 H0 p a G H σ ρ ds) (S : Step G H G' H') : IoOk K G0 H0 p a G' H' σ ρ ds := by
  obtain ⟨vs, h1, h2⟩ := h.io
  exact ⟨h.st.trans S, h.h0, h.len, h.at_, ⟨vs, S.hh _ _ h1, h2.mono S.gg⟩, S.fr _ _ h1 h.ga, h.slot, fun j s hj hs => by
    obtain ⟨e, v, h1, h2⟩ := h.fz j s hj hs
    exact ⟨e, v, h1, Rp.mono S.gg _ _ h2⟩⟩
/-- the list is changed by another hand -/
theorem IoOk.chg {p : Nat} {a : Addr} {ds ds' : List D} {vs' : List V} (h : IoOk K G0 H0 p a G H σ ρ ds) (S : Step G (del H a) G' H') (e : H' a = some (.lst vs')) (r : RpA K G' vs' ds') (g : G' a = none) : IoOk K G0 H0 p a G' H' σ (ρ.set p (some ⟨.o, .list ds'⟩)) ds' := by
  have hp : p < ρ.length := by
    rcases Nat.lt_or_ge p ρ.length with q | q
    · exact q
    · have := h.slot
      rw [List.getElem?_eq_none q] at this
      cases this
  have kd : ∀ b o, b ≠ a → H b = some o → del H a b = some o := fun b o hb e => by rw [del_ne hb]; exact e
  refine ⟨⟨h.st.gg.trans S.gg, fun b o eb => ?_, S.gh, fun b o eb n => ?_⟩, h.h0, by rw [List.length_set]; exact h.len, h.at_, ⟨vs', e, r⟩, g, by rw [List.getElem?_set_self hp], fun j s hj hs => ?_⟩
  · exact S.hh _ _ (kd b o (ne_of_none eb h.h0) (h.st.hh _ _ eb))
  · exact S.fr _ _ (kd b o (ne_of_none eb h.h0) (h.st.hh _ _ eb)) (h.st.fr _ _ eb n)
  · rw [List.getElem?_set_ne (Ne.symm hj)] at hs
    obtain ⟨e, v, h1, h2⟩ := h.fz j s hj hs
    exact ⟨e, v, h1, Rp.mono S.gg _ _ h2⟩
/-- the list is changed by the def itself -/
theorem IoOk.mut {p : Nat} {a : Addr} {ds ds' : List D} {vs' : List V} (h : IoOk K G0 H0 p a G H σ ρ ds) (r : RpA K G vs' ds') : IoOk K G0 H0 p a G (upd H a (.lst vs')) σ (ρ.set p (some ⟨.o, .list ds'⟩)) ds' := by
  refine h.chg (H' := upd H a (.lst vs')) ⟨Same.refl _, fun b o eb => ?_, fun b o eb => ?_, fun b o _ n => n⟩ upd_same r h.ga
  · by_cases hb : b = a
    · subst hb
      rw [del_same] at eb
      cases eb
    · rw [del_ne hb] at eb
      rw [upd_ne hb]
      exact eb
  · have hb := ne_of_none eb h.ga
    rw [upd_ne hb]
    exact h.st.gh _ _ eb
/-- frozen data comes to another slot -/
theorem IoOk.setF {p j : Nat} {a : Addr} {ds : List D} {v : V} {d : D} (h : IoOk K G0 H0 p a G H σ ρ ds) (hj : j ≠ p) (r : Rp K G v d) : IoOk K G0 H0 p a G H (σ.set j (some v)) (ρ.set j (some ⟨.f, d⟩)) ds := by
  refine ⟨h.st, h.h0, by rw [List.length_set, List.length_set]; exact h.len, by rw [List.getElem?_set_ne hj]; exact h.at_, h.io, h.ga, by rw [List.getElem?_set_ne hj]; exact h.slot, fun k s hk hs => ?_⟩
  rcases get_set hs with ⟨rfl, e, hl⟩ | ⟨hne, hs⟩
  · cases e
    exact ⟨rfl, v, List.getElem?_set_self (by rw [h.len]; exact hl), r⟩
  · obtain ⟨e, w, h1, h2⟩ := h.fz k s hk hs
    exact ⟨e, w, by rw [List.getElem?_set_ne hne]; exact h1, h2⟩
end
/-- arguments of an io-call: the list at place p, all else frozen -/
structure AxR (K : PySem.W.Frag) (G H : Hp) (p : Nat) (a : Addr) (ds : List D) (vs : List V) (ss : List Sl) : Prop where
  len : vs.length = ss.length
  pl : vs[p]? = some (.ref a)
  sl : ∃ m, ss[p]? = some ⟨m, .list ds⟩
  fz : ∀ (j : Nat) (s : Sl), j ≠ p → ss[j]? = some s → s.m = .f ∧ ∃ v, vs[j]? = some v ∧ Rp K G v s.d
  io : ∃ ws, H a = some (.lst ws) ∧ RpA K G ws ds
  ga : G a = none
  gh : Same G H
def dspXR (K : PySem.W.Frag) (G H : Hp) (a : Addr) (Q : VK) : M (D × List D) → Prop
  | .ok (r, ds') => ∀ G' H' v vs', Step G (del H a) G' H' → Rp K G' v r → H' a = some (.lst vs') → RpA K G' vs' ds' → G' a = none → Q v H'
  | .error _ => False
/-- the promise of an io-def -/
def dspX (K : PySem.W.Frag) (p : Nat) (F : List Sl → M (D × List D)) : Sp := fun vs H Q _ => ∃ G ss a ds, AxR K G H p a ds vs ss ∧ dspXR K G H a Q (F ss)
def vAt : Es → Nat → Option Nat
  | .cons (.var q) _, 0 => some q
  | .cons _ es, p + 1 => vAt es p
  | _, _ => none
def fOk : Nat → List Sl → Bool
  | _, [] => true
  | 0, _ :: ss => ss.all fun s => isF s.m
  | p + 1, s :: ss => isF s.m && fOk p ss
theorem isF_ok {m : Md} (h : isF m = true) : m = .f := by cases m <;> first | rfl | cases h
theorem args_f {K : PySem.W.Frag} {G H : Hp} : ∀ {vs : List V} {ss : List Sl}, ArgsR K G H vs ss → (ss.all fun s => isF s.m) = true → ∀ (j : Nat) (s : Sl), ss[j]? = some s → s.m = .f ∧ ∃ v, vs[j]? = some v ∧ Rp K G v s.d
  | _, _, .nil, _, j, s, h => by simp at h
  | _, _, .cons (v := v) (s := s0) h1 _ t, h, 0, s, e => by
    cases e
    rw [List.all_cons, Bool.and_eq_true] at h
    have := isF_ok h.1
    obtain ⟨m, d⟩ := s0
    cases this
    exact ⟨rfl, v, rfl, h1⟩
  | _, _, .cons _ _ t, h, j + 1, s, e => by
    rw [List.all_cons, Bool.and_eq_true] at h
    exact args_f t h.2 j s e
section
variable {K : PySem.W.Frag} {G0 H0 : Hp} {sp : Str → Sp} {cl : Str → List Sl → M Sl}
theorem semAX (hsp : Hsp K sp cl) {q : Nat} {a : Addr} : ∀ (es : Es) (p : Nat) {G H : Hp} {σ : L2.St} {ρ : Rho} {ds : List D} {ss : List Sl} (Q : List V → Hp → Prop), IoOk K G0 H0 q a G H σ ρ ds → vAt es p = some q → fOk p ss = true → evA cl es ρ = .ok ss →
    (∀ G' H' vs, Step G H G' H' → AxR K G' H' p a ds vs ss → Q vs H') → rdA K sp es σ H Q
  | .nil, p, G, H, σ, ρ, ds, ss, Q, IO, hv, hf, h, k => by
    cases p <;> cases hv
  | .cons e es, 0, G, H, σ, ρ, ds, ss, Q, IO, hv, hf, h, k => by
    cases e with
    | var q' =>
      cases hv
      simp only [evA] at h
      obtain ⟨x, e1, h⟩ := bind_ok h
      obtain ⟨r, e3, h⟩ := bind_ok h
      cases pure_ok h
      simp only [evE, IO.slot] at e1
      cases e1
      refine ⟨.ref a, IO.at_, semA K sp cl hsp es _ IO.st.gh IO.env e3 fun G4 H4 vs S4 r4 => k G4 H4 (.ref a :: vs) S4 ?_⟩
      have IO4 := IO.step S4
      refine ⟨by rw [List.length_cons, List.length_cons, r4.length], rfl, ⟨_, rfl⟩, fun j s hj e => ?_, IO4.io, IO4.ga, IO4.st.gh⟩
      cases j with
      | zero => exact absurd rfl hj
      | succ j => exact args_f r4 hf j s e
    | _ => cases hv
  | .cons e es, p + 1, G, H, σ, ρ, ds, ss, Q, IO, hv, hf, h, k => by
    have hv' : vAt es p = some q := by
      cases e <;> exact hv
    simp only [evA] at h
    obtain ⟨x, e1, h⟩ := bind_ok h
    obtain ⟨r, e3, h⟩ := bind_ok h
    cases pure_ok h
    have hf' : isF (argS x).m = true ∧ fOk p r = true := by
      have : (isF (argS x).m && fOk p r) = true := hf
      rwa [Bool.and_eq_true] at this
    refine semE K sp cl hsp e _ IO.st.gh IO.env e1 fun G1 H1 v S1 r1 => ?_
    have key : ∃ G2, Step G H G2 H1 ∧ Rp K G2 v (argS x).d := by
      obtain ⟨m, d⟩ := x
      cases m with
      | f => exact ⟨G1, S1, r1.1⟩
      | p => cases hf'.1
      | o =>
        obtain ⟨G2, S2, _, r2, _⟩ := freeze (d := d) S1 r1 rfl
        exact ⟨G2, S2, r2⟩
    obtain ⟨G2, S2, r2⟩ := key
    refine semAX hsp es p _ (IO.step S2) hv' hf'.2 e3 fun G4 H4 vs S4 r4 => k G4 H4 (v :: vs) (S2.trans S4) ?_
    obtain ⟨m, hm⟩ := r4.sl
    refine ⟨by rw [List.length_cons, List.length_cons, r4.len], r4.pl, ⟨m, hm⟩, fun j s hj e => ?_, r4.io, r4.ga, r4.gh⟩
    cases j with
    | zero =>
      cases e
      exact ⟨isF_ok hf'.1, v, rfl, Rp.mono S4.gg _ _ r2⟩
    | succ j => exact r4.fz j s (fun z => hj (by rw [z])) e
/-- the promises of io-defs -/
abbrev HspIo (K : PySem.W.Frag) (sp : Str → Sp) (pp : Str → Nat) (cx : CX2) : Prop := ∀ (f : Str) (r : D) (ds' : List D) (ss : List Sl) (G H : Hp) (a : Addr) (ds : List D) (vs : List V) (Q : VK), cx f ss = .ok (r, ds') → AxR K G H (pp f) a ds vs ss → dspXR K G H a Q (cx f ss) → sp f vs H Q E0
variable {pp : Str → Nat} {cx : CX2}
theorem semCX (hsp : Hsp K sp cl) (hio : HspIo K sp pp cx) {q : Nat} {a : Addr} {G H : Hp} {σ : L2.St} {ρ : Rho} {ds : List D} {f : Str} {es : Es} {ss : List Sl} {r : D} {ds' : List D} (Q : VK) (IO : IoOk K G0 H0 q a G H σ ρ ds) (hv : vAt es (pp f) = some q) (hf : fOk (pp f) ss = true) (h : evA cl es ρ = .ok ss) (hc : cx f ss = .ok (r, ds'))
    (k : ∀ G1 H1 G' H' v vs', Step G H G1 H1 → Step G1 (del H1 a) G' H' → Rp K G' v r → H' a = some (.lst vs') → RpA K G' vs' ds' → G' a = none → Q v H') : rdE K sp (.call f es) σ H Q := by
  refine semAX hsp es (pp f) _ IO hv hf h fun G1 H1 vs S1 A => ?_
  rw [List.append_nil]
  refine hio f r ds' ss G1 H1 a ds vs Q hc A ?_
  rw [hc]
  exact fun G' H' v vs' S r1 e r2 g => k G1 H1 G' H' v vs' S1 S r1 e r2 g
end
theorem Step.delT {G H G1 H1 G2 H2 : Hp} {a : Addr} (s : Step G (del H a) G1 H1) (t : Step G1 (del H1 a) G2 H2) : Step G (del H a) G2 H2 := by
  have kd : ∀ b o, del H a b = some o → del H1 a b = some o := fun b o e => by
    have hb : b ≠ a := fun z => by rw [z, del_same] at e; cases e
    rw [del_ne hb]
    exact s.hh _ _ e
  exact ⟨s.gg.trans t.gg, fun b o e => t.hh _ _ (kd b o e), t.gh, fun b o e n => t.fr _ _ (kd b o e) (s.fr _ _ e n)⟩
theorem IoOk.wipe {K : PySem.W.Frag} {G0 H0 G H : Hp} {σ : L2.St} {ρ : Rho} {p y : Nat} {a : Addr} {ds : List D} (h : IoOk K G0 H0 p a G H σ ρ ds) (hy : y ≠ p) : IoOk K G0 H0 p a G H (L2.wipe σ [y]) (wipeR ρ [y]) ds := by
  have hp : ¬ (p ∈ [y] ∧ p < ρ.length) := fun z => hy (List.mem_singleton.mp z.1).symm
  refine ⟨h.st, h.h0, by rw [wipe_length, wipeR_length, h.len], ?_, h.io, h.ga, ?_, fun j s hj hs => ?_⟩
  · rw [wipe_get, h.len, if_neg hp]
    exact h.at_
  · rw [wipeR_get, if_neg hp]
    exact h.slot
  · rw [wipeR_get] at hs
    split at hs
    · cases hs
    · rename_i hn
      obtain ⟨e, v, h1, h2⟩ := h.fz j s hj hs
      exact ⟨e, v, by rw [wipe_get, h.len, if_neg hn]; exact h1, h2⟩
/-- items that lie frozen -/
def itX (cl : Str → List Sl → M Sl) : Iu → Rho → Bool
  | .rg1 _, _ => true
  | .seq e, ρ => match evE cl e ρ with
    | .ok ⟨.f, _⟩ => true
    | _ => false
  | _, _ => false
def ioGo (f : D → List D → M (D × List D)) : List D → List D → M (List D × List D)
  | [], io => .ok ([], io)
  | x :: xs, io => f x io >>= fun r => ioGo f xs r.2 >>= fun t => .ok (r.1 :: t.1, t.2)
section
variable {K : PySem.W.Frag} {G0 H0 : Hp} {sp : Str → Sp} {cl : Str → List Sl → M Sl} {pp : Str → Nat} {cx : CX2}
theorem semIX (hsp : Hsp K sp cl) : ∀ (i : Iu) {σ : L2.St} {H G : Hp} {ρ : Rho} {xs : List D} (R : It → Hp → Prop), Same G H → EnvR K G H σ ρ → evI cl i ρ = .ok xs → itX cl i ρ = true →
    (∀ J G' H', Step G H G' H' → IterR K G' G' J xs → R J H') → rdI K sp i σ H R
  | .rg1 a, σ, H, G, ρ, xs, R, S, E, h, hx, q => by
    simp only [evI] at h
    obtain ⟨x, e1, h⟩ := bind_ok h
    refine semE K sp cl hsp a _ S E e1 fun G1 H1 v S1 r1 => ?_
    split at h
    · rename_i j hj
      have r := r1.1.rdb
      rw [hj] at r
      obtain ⟨a1, a2, a3, a4, rfl⟩ := rng_ok h
      refine ⟨j, by rw [r.int], a3, a4, q _ G1 H1 S1 ?_⟩
      rw [Int.sub_zero]
      exact iter_rng
    · cases h
  | .seq e, σ, H, G, ρ, xs, R, S, E, h, hx, q => by
    simp only [evI] at h
    obtain ⟨x, e1, h⟩ := bind_ok h
    obtain ⟨m, d⟩ := x
    have hm : m = .f := by
      simp only [itX, e1] at hx
      cases m <;> first | rfl | cases hx
    subst hm
    unfold itemsD at h
    split at h
    · rename_i ds hd
      cases h
      refine .inl (semE K sp cl hsp e _ S E e1 fun G1 H1 v1 S1 r1 => ?_)
      have r : Rp K G1 v1 d := r1.1
      have hd : d = .list xs := hd
      rw [hd] at r
      have rr : Rdb K G1 G1 v1 (.list xs) := .inl r
      obtain ⟨a, vs, rfl, ra, qa⟩ := rr.list (Same.refl _)
      exact ⟨a, rfl, ⟨vs, S1.gh.seq ra⟩, q _ G1 H1 S1 (iter_list ra qa)⟩
    · rename_i ds hd
      cases h
      refine .inr (semE K sp cl hsp e _ S E e1 fun G1 H1 v1 S1 r1 => ?_)
      have r : Rp K G1 v1 d := r1.1
      have hd : d = .tuple xs := hd
      rw [hd] at r
      have rr : Rdb K G1 G1 v1 (.tuple xs) := .inl r
      obtain ⟨a, vs, rfl, ra, qa⟩ := rr.tuple (Same.refl _)
      exact ⟨a, rfl, ⟨vs, SqT.mono S1.gh ra⟩, q _ G1 H1 S1 (iter_tup ra qa)⟩
    · cases h
  | .rg2 _ _, σ, H, G, ρ, xs, R, S, E, h, hx, q => by cases hx
  | .rg3 _ _ _, σ, H, G, ρ, xs, R, S, E, h, hx, q => by cases hx
  | .enm _, σ, H, G, ρ, xs, R, S, E, h, hx, q => by cases hx
  | .zp _ _, σ, H, G, ρ, xs, R, S, E, h, hx, q => by cases hx
  | .rev _, σ, H, G, ρ, xs, R, S, E, h, hx, q => by cases hx
  | .rvr _, σ, H, G, ρ, xs, R, S, E, h, hx, q => by cases hx
/-- one turn's call -/
def ioT (cl : Str → List Sl → M Sl) (cx : CX2) (pp : Str → Nat) (f : Str) (es : Es) (p y : Nat) (ρ : Rho) (d : D) (io : List D) : M (D × List D) :=
  evA cl es ((wipeR (ρ.set p (some ⟨.o, .list io⟩)) [y]).set y (some ⟨.f, d⟩)) >>= fun ss => if vAt es (pp f) = some p ∧ fOk (pp f) ss = true then cx f ss else stk
theorem semLX (hsp : Hsp K sp cl) (hio : HspIo K sp pp cx) {p y : Nat} (hy : y ≠ p) {a : Addr} {G H : Hp} {σ : L2.St} {ρ : Rho} {ds dfin : List D} {f : Str} {es : Es} {it : Iu} {xs ys : List D} (Q : VK) (IO : IoOk K G0 H0 p a G H σ ρ ds) (h1 : evI cl it ρ = .ok xs) (h2 : itX cl it ρ = true) (h3 : lenOk xs.length = true)
    (h4 : ioGo (ioT cl cx pp f es p y ρ) xs ds = .ok (ys, dfin))
    (k : ∀ G1 H1 G' H' b vs' ws, Step G H G1 H1 → Step G1 (del H1 a) G' H' → H1 b = none → H' b = some (.lst ws) → G' b = none → RpA K G' ws ys → H' a = some (.lst vs') → RpA K G' vs' dfin → G' a = none → Q (.ref b) H') :
    rdE K sp (.lc (.call f es) (.nm y) it .none [y]) σ H Q := by
  refine semIX hsp it _ IO.st.gh IO.env h1 h2 fun J G1 H1 S1 hJ => ?_
  intro D hD
  have IO1 := IO.step S1
  obtain ⟨vs1, ha1, ra1⟩ := IO1.io
  have hDa : D ≠ a := fun z => by rw [z, ha1] at hD; cases hD
  have hxl := lenOk_ok h3
  refine ⟨fun i m Hc => ∃ Gc acc dacc zs dio, m = xs.length - i ∧ i ≤ xs.length ∧ Step G1 (del H1 a) Gc Hc ∧ Gc D = none ∧ Hc D = some (.lst acc) ∧ acc.length ≤ i ∧ RpA K Gc acc dacc ∧ (∃ vsio, Hc a = some (.lst vsio) ∧ RpA K Gc vsio dio) ∧ Gc a = none ∧ ioGo (ioT cl cx pp f es p y ρ) (xs.drop i) dio = .ok (zs, dfin) ∧ dacc ++ zs = ys,
    ⟨xs.length, G1, [], [], ys, ds, rfl, Nat.zero_le _, ⟨Same.refl _, fun b o e => ?_, fun b o e => ?_, fun b o _ n => n⟩, IO1.st.gh.free hD, upd_same, Nat.zero_le _, .nil, ⟨vs1, by rw [upd_ne (Ne.symm hDa)]; exact ha1, ra1⟩, IO1.ga, h4, rfl⟩, ?_⟩
  · have hb : b ≠ a := fun z => by rw [z, del_same] at e; cases e
    rw [del_ne hb] at e
    rw [upd_ne (ne_of_none e hD)]
    exact e
  · have := IO1.st.gh _ _ e
    rw [upd_ne (ne_of_none this hD)]
    exact this
  rintro i m Hc ⟨Gc, acc, dacc, zs, dio, rfl, hi, Sc, hGD, hHD, hal, ra, ⟨vsio, hva, rva⟩, hGa, hz, ey⟩
  obtain ⟨j1, j2⟩ := hJ i Hc Gc Sc.gg Sc.gh (Sc.gg.trans Sc.gh)
  by_cases hl : i < xs.length
  · obtain ⟨g1, g2⟩ := j1 xs[i] (List.getElem?_eq_getElem hl)
    refine .inr ⟨g1, fun Hn => ∃ Gc acc dacc zs dio, i + 1 ≤ xs.length ∧ Step G1 (del H1 a) Gc Hn ∧ Gc D = none ∧ Hn D = some (.lst acc) ∧ acc.length ≤ i + 1 ∧ RpA K Gc acc dacc ∧ (∃ vsio, Hn a = some (.lst vsio) ∧ RpA K Gc vsio dio) ∧ Gc a = none ∧ ioGo (ioT cl cx pp f es p y ρ) (xs.drop (i + 1)) dio = .ok (zs, dfin) ∧ dacc ++ zs = ys,
      fun Hn ⟨Gc, acc, dacc, zs, dio, b1, b2, b3, b4, b5, b6, b7, b8, b9, b10⟩ => ⟨xs.length - (i + 1), by omega, Gc, acc, dacc, zs, dio, rfl, b1, b2, b3, b4, b5, b6, b7, b8, b9, b10⟩, fun x H' hy' => ?_⟩
    obtain ⟨G3, St, rx⟩ := g2 x H' hy'
    have Sc3 := Sc.trans St
    rw [List.drop_eq_getElem_cons hl] at hz
    obtain ⟨⟨r, dio'⟩, e1, hz⟩ := bind_ok hz
    obtain ⟨⟨zs', df'⟩, e2, hz⟩ := bind_ok hz
    cases hz
    unfold ioT at e1
    obtain ⟨ss, e3, e1⟩ := bind_ok e1
    split at e1
    rotate_left
    · cases e1
    rename_i hc
    have IO3 : IoOk K G0 H0 p a G3 H' σ (ρ.set p (some ⟨.o, .list dio⟩)) dio := IO1.chg Sc3 (St.hh _ _ hva) (rva.mono St.gg) (St.fr _ _ hva hGa)
    have IO4 := (IO3.wipe hy).setF hy rx
    show wipe _ [y] = wipe σ [y] ∧ _
    refine ⟨wipe_sameBut ⟨by rw [List.length_set], fun j hj => ?_⟩, ?_⟩
    · rw [List.getElem?_set_ne]
      intro z
      exact hj (List.mem_singleton.mpr z.symm)
    refine semC K sp cl hsp .none (b := true) _ IO4.st.gh IO4.env rfl fun G4 H4 S4 => ?_
    rw [if_pos rfl]
    have IO4 := IO4.step S4
    have Sc3 := Sc3.trans S4
    have St := St.trans S4
    refine semCX hsp hio _ IO4 hc.1 hc.2 e3 e1 fun G5 H5 G6 H6 v vs6 S5 S6 rv hv6 rv6 g6 => ?_
    have hD5 := S5.hh _ _ (St.hh _ _ hHD)
    have gD5 := S5.fr _ _ (St.hh _ _ hHD) (St.fr _ _ hHD hGD)
    have hDd : del H5 a D = some (.lst acc) := by rw [del_ne hDa]; exact hD5
    have hD6 := S6.hh _ _ hDd
    have gD6 := S6.fr _ _ hDd gD5
    have S7 := (Sc3.trans S5).delT S6
    have ra6 := ((ra.mono St.gg).mono S5.gg).mono S6.gg
    refine ⟨acc, hD6, by omega, G6, acc ++ [v], dacc ++ [r], zs', dio', hl, ⟨S7.gg, fun b o e => ?_, fun b o e => ?_, S7.fr⟩, gD6, upd_same, by rw [List.length_append]; exact Nat.succ_le_succ hal, ra6.append (.cons rv .nil), ⟨vs6, by rw [upd_ne (Ne.symm hDa)]; exact hv6, rv6⟩, g6, e2, by rw [List.append_assoc]; exact ey⟩
    · have hb : b ≠ D := fun z => by
        rw [z, del_ne hDa, hD] at e
        cases e
      rw [upd_ne hb]
      exact S7.hh _ _ e
    · rw [upd_ne (ne_of_none e gD6)]
      exact S7.gh _ _ e
  · have ei : i = xs.length := by omega
    subst ei
    rw [List.drop_length] at hz
    cases hz
    rw [List.append_nil] at ey
    subst ey
    exact .inl ⟨j2 (Nat.le_refl _), k G1 H1 Gc Hc D vsio acc S1 Sc hD hHD hGD ra hva rva hGa⟩
end
/-- the body of a def that changes the list at slot p -/
inductive Xs where
  | ret (e : E)
  | asg (j : Nat) (e : E) (x : Xs)
  | set (i e : E) (x : Xs)
  | app (e : E) (x : Xs)
  | ifr (c : E) (t x : Xs)
  | ioL (z : Nat) (f : Str) (es : Es) (y : Nat) (it : Iu) (x : Xs)
  | ioR (g : Nat) (f : Str) (es : Es) (y : Nat) (it : Iu)
def lcOf (f : Str) (es : Es) (y : Nat) (it : Iu) : E := .b1 .tuple (.lc (.call f es) (.nm y) it .none [y])
def toSs (p : Nat) : Xs → Ss
  | .ret e => .cons (.ret e) .nil
  | .asg j e x => .cons (.asg (.nm j) e) (toSs p x)
  | .set i e x => .cons (.setix p i e) (toSs p x)
  | .app e x => .cons (.app p e) (toSs p x)
  | .ifr c t x => .cons (.ite c (toSs p t) .nil) (toSs p x)
  | .ioL z f es y it x => .cons (.asg (.nm z) (lcOf f es y it)) (toSs p x)
  | .ioR g f es y it => .cons (.ret (.tup (.cons (.var g) (.cons (lcOf f es y it) .nil)))) .nil
def lcXv (cl : Str → List Sl → M Sl) (cx : CX2) (pp : Str → Nat) (f : Str) (es : Es) (p y : Nat) (it : Iu) (ρ : Rho) (ds : List D) : M (List D × List D) :=
  evI cl it ρ >>= fun xs => if y ≠ p ∧ itX cl it ρ = true ∧ lenOk xs.length = true then ioGo (ioT cl cx pp f es p y ρ) xs ds else stk
def frzV (s : M Sl) : M D := s >>= fun s => asF s
def exX (cl : Str → List Sl → M Sl) (cx : CX2) (pp : Str → Nat) (p : Nat) : Xs → Rho → List D → M (D × List D)
  | .ret e, ρ, ds => frzV (evE cl e ρ) >>= fun d => .ok (d, ds)
  | .asg j e x, ρ, ds => frzV (evE cl e ρ) >>= fun d => if j ≠ p then exX cl cx pp p x (ρ.set j (some ⟨.f, d⟩)) ds else stk
  | .set i e x, ρ, ds => frzV (evE cl e ρ) >>= fun v => evE cl i ρ >>= fun j => getI j.d >>= fun n => match ixN ds.length n with
    | some m => exX cl cx pp p x (ρ.set p (some ⟨.o, .list (ds.set m v)⟩)) (ds.set m v)
    | none => stk
  | .app e x, ρ, ds => frzV (evE cl e ρ) >>= fun v => if lenOk (ds.length + 1) = true then exX cl cx pp p x (ρ.set p (some ⟨.o, .list (ds ++ [v])⟩)) (ds ++ [v]) else stk
  | .ifr c t x, ρ, ds => evE cl c ρ >>= fun k => asB k.d >>= fun b => if b = true then exX cl cx pp p t ρ ds else exX cl cx pp p x ρ ds
  | .ioL z f es y it x, ρ, ds => lcXv cl cx pp f es p y it ρ ds >>= fun r => if z ≠ p then exX cl cx pp p x ((ρ.set p (some ⟨.o, .list r.2⟩)).set z (some ⟨.f, .tuple r.1⟩)) r.2 else stk
  | .ioR g f es y it, ρ, ds => match ρ[g]? with
    | some (some ⟨.f, d⟩) => lcXv cl cx pp f es p y it ρ ds >>= fun r => .ok (.tuple [d, .tuple r.1], r.2)
    | _ => stk
section
variable {K : PySem.W.Frag} {G0 H0 : Hp} {sp : Str → Sp} {cl : Str → List Sl → M Sl} {pp : Str → Nat} {cx : CX2}
theorem frz_sem (hsp : Hsp K sp cl) {G H : Hp} {σ : L2.St} {ρ : Rho} {e : E} {d : D} (Q : VK) (S : Same G H) (E : EnvR K G H σ ρ) (h : frzV (evE cl e ρ) = .ok d) (k : ∀ G1 H1 v, Step G H G1 H1 → Rp K G1 v d → Q v H1) : rdE K sp e σ H Q := by
  unfold frzV at h
  obtain ⟨x, e1, h⟩ := bind_ok h
  refine semE K sp cl hsp e _ S E e1 fun G1 H1 v S1 r1 => ?_
  obtain ⟨G2, S2, _, r2, _⟩ := freeze S1 r1 h
  exact k G2 H1 v S2 r2
theorem semTL (hsp : Hsp K sp cl) (hio : HspIo K sp pp cx) {p y : Nat} {a : Addr} {G H : Hp} {σ : L2.St} {ρ : Rho} {ds dfin : List D} {f : Str} {es : Es} {it : Iu} {ys : List D} (Q : VK) (IO : IoOk K G0 H0 p a G H σ ρ ds) (h : lcXv cl cx pp f es p y it ρ ds = .ok (ys, dfin))
    (k : ∀ G1 H1 v, IoOk K G0 H0 p a G1 H1 σ (ρ.set p (some ⟨.o, .list dfin⟩)) dfin → Same G G1 → Rp K G1 v (.tuple ys) → Q v H1) : rdE K sp (lcOf f es y it) σ H Q := by
  unfold lcXv at h
  obtain ⟨xs, e1, h⟩ := bind_ok h
  split at h
  rotate_left
  · cases h
  rename_i hc
  refine semLX hsp hio hc.1 (fun x H1 => rB1 K .tuple [x] H1 Q) IO e1 hc.2.1 hc.2.2 h fun G1 H1 G' H' b vs' ws S1 S2 hb hb' gb rw_ ha ra ga => ?_
  have IO2 := (IO.step S1).chg S2 ha ra ga
  refine .inl ⟨b, ws, rfl, .inl ⟨.inl (.inl hb'), fun l np => ?_⟩⟩
  have S3 : Step G' H' (upd G' l (.tup ws)) (upd H' l (.tup ws)) := .newF S2.gh np
  exact k _ _ _ (IO2.step S3) ((S1.gg.trans S2.gg).trans S3.gg) (.tup (.inl (.inl upd_same)) (rw_.mono S3.gg))
theorem semX (hsp : Hsp K sp cl) (hio : HspIo K sp pp cx) {p : Nat} {a : Addr} {W : WX} : ∀ (x : Xs) {G H : Hp} {σ : L2.St} {ρ : Rho} {ds ds' : List D} {r : D} (D : Ends), IoOk K G0 H0 p a G H σ ρ ds → exX cl cx pp p x ρ ds = .ok (r, ds') →
    (∀ G' H' v vs', Step G0 H0 G' H' → Rp K G' v r → H' a = some (.lst vs') → RpA K G' vs' ds' → G' a = none → D.rt v H') → rdSs K sp (toSs p x) W D σ H
  | .ret e, G, H, σ, ρ, ds, ds', r, D, IO, h, k => by
    simp only [exX] at h
    obtain ⟨d, e1, h⟩ := bind_ok h
    cases h
    refine frz_sem hsp _ IO.st.gh IO.env e1 fun G1 H1 v S1 r1 => ?_
    have IO1 := IO.step S1
    obtain ⟨vs, h1, h2⟩ := IO1.io
    exact k G1 H1 v vs IO1.st r1 h1 h2 IO1.ga
  | .asg j e x, G, H, σ, ρ, ds, ds', r, D, IO, h, k => by
    simp only [exX] at h
    obtain ⟨d, e1, h⟩ := bind_ok h
    split at h
    · rename_i hj
      refine frz_sem hsp _ IO.st.gh IO.env e1 fun G1 H1 v S1 r1 => ?_
      exact semX hsp hio x D ((IO.step S1).setF hj r1) h k
    · cases h
  | .set i e x, G, H, σ, ρ, ds, ds', r, D, IO, h, k => by
    simp only [exX] at h
    obtain ⟨v, e1, h⟩ := bind_ok h
    obtain ⟨j, e2, h⟩ := bind_ok h
    obtain ⟨n, e3, h⟩ := bind_ok h
    split at h
    · rename_i m hm
      refine frz_sem hsp _ IO.st.gh IO.env e1 fun G1 H1 w S1 r1 => ?_
      have IO1 := IO.step S1
      refine ⟨.ref a, IO1.at_, semE K sp cl hsp i _ IO1.st.gh IO1.env e2 fun G3 H3 z S3 r3 => .inl ?_⟩
      have IO3 := IO1.step S3
      obtain ⟨vs, h1, h2⟩ := IO3.io
      have hn : j.d = .int n := by
        unfold getI at e3
        split at e3
        · rename_i n' hn
          cases e3
          exact hn
        · cases e3
      have rk := r3.1.rdb
      rw [hn] at rk
      exact ⟨a, vs, n, m, rfl, rk.int, h1, by rw [h2.length]; exact hm, semX hsp hio x D (IO3.mut (h2.set (Rp.mono S3.gg _ _ r1) m)) h k⟩
    · cases h
  | .app e x, G, H, σ, ρ, ds, ds', r, D, IO, h, k => by
    simp only [exX] at h
    obtain ⟨v, e1, h⟩ := bind_ok h
    split at h
    · rename_i hl
      have hl' := lenOk_ok hl
      obtain ⟨vs0, h0, _⟩ := IO.io
      refine ⟨.ref a, IO.at_, Or.inl ⟨rfl, _, Or.inl (Or.inl h0)⟩, frz_sem hsp _ IO.st.gh IO.env e1 fun G1 H1 w S1 r1 => ?_⟩
      have IO1 := IO.step S1
      obtain ⟨vs, h1, h2⟩ := IO1.io
      exact ⟨a, vs, w, rfl, rfl, h1, by rw [h2.length]; omega, semX hsp hio x D (IO1.mut (h2.append (.cons r1 .nil))) h k⟩
    · cases h
  | .ifr c t x, G, H, σ, ρ, ds, ds', r, D, IO, h, k => by
    simp only [exX] at h
    obtain ⟨z, e1, h⟩ := bind_ok h
    obtain ⟨b, e2, h⟩ := bind_ok h
    refine semE K sp cl hsp c _ IO.st.gh IO.env e1 fun G1 H1 v S1 r1 => ?_
    have rb := r1.1.rdb
    rw [asB_ok e2] at rb
    have IO1 := IO.step S1
    refine ⟨b, rb.bool, (?_ : if b = true then rdSs K sp (toSs p t) W { D with nx := rdSs K sp (toSs p x) W D } σ H1 else rdSs K sp .nil W { D with nx := rdSs K sp (toSs p x) W D } σ H1)⟩
    cases b with
    | true =>
      rw [if_pos rfl] at h
      rw [if_pos rfl]
      exact semX hsp hio t _ IO1 h k
    | false =>
      rw [if_neg Bool.false_ne_true] at h
      rw [if_neg Bool.false_ne_true]
      exact semX hsp hio x D IO1 h k
  | .ioL z f es y it x, G, H, σ, ρ, ds, ds', r, D, IO, h, k => by
    simp only [exX] at h
    obtain ⟨⟨ys, dfin⟩, e1, h⟩ := bind_ok h
    split at h
    · rename_i hz
      refine semTL hsp hio _ IO e1 fun G1 H1 v IO1 _ r1 => ?_
      exact semX hsp hio x D (IO1.setF hz r1) h k
    · cases h
  | .ioR g f es y it, G, H, σ, ρ, ds, ds', r, D, IO, h, k => by
    simp only [exX] at h
    split at h
    · rename_i d hg
      obtain ⟨⟨ys, dfin⟩, e1, h⟩ := bind_ok h
      cases h
      have hgp : g ≠ p := fun z => by rw [z, IO.slot] at hg; cases hg
      obtain ⟨_, w, hw, rw_⟩ := IO.fz g _ hgp hg
      refine ⟨w, hw, semTL hsp hio _ IO e1 fun G1 H1 v IO1 S1 r1 => ?_⟩
      refine ⟨by rw [sizeLine_eq]; simp, fun l np => ?_⟩
      have S3 : Step G1 H1 (upd G1 l (.tup [w, v])) (upd H1 l (.tup [w, v])) := .newF IO1.st.gh np
      have IO2 := IO1.step S3
      obtain ⟨vs, h1, h2⟩ := IO2.io
      exact k _ _ _ vs IO2.st (.tup (.inl (.inl upd_same)) (.cons (Rp.mono (S1.trans S3.gg) _ _ rw_) (.cons (Rp.mono S3.gg _ _ r1) .nil))) h1 h2 IO2.ga
    · cases h
end
/-! defs -/
structure XD where
  N : List Str
  ps : List Str
  p : Nat
  body : Xs
def ppOf (TX : Str → Option XD) (f : Str) : Nat := match TX f with
  | some d => d.p
  | none => 0
def runX (cl : Str → List Sl → M Sl) (cx : CX2) (pp : Str → Nat) (d : XD) (ss : List Sl) : M (D × List D) :=
  if ss.length = d.ps.length ∧ d.p < ss.length then match ss[d.p]? with
    | some ⟨_, .list ds⟩ => exX cl cx pp d.p d.body ((startR d.N.length ss).set d.p (some ⟨.o, .list ds⟩)) ds
    | _ => stk
  else stk
def callX (T : Str → Option FD) (TX : Str → Option XD) (fu : Nat) : Nat → CX2
  | 0, _, _ => stk
  | k + 1, f, ss => match TX f with
    | some d => runX (call T fu k) (callX T TX fu k) (ppOf TX) d ss
    | none => stk
/-- all promises at a level -/
def spM (K : PySem.W.Frag) (T : Str → Option FD) (TX : Str → Option XD) (fu k : Nat) (f : Str) : Sp := match TX f with
  | some d => dspX K d.p (callX T TX fu k f)
  | none => dsp K (call T fu k f)
section
variable {K : PySem.W.Frag} {T : Str → Option FD} {TX : Str → Option XD} {fu : Nat}
theorem call_none {f : Str} {ss : List Sl} (h : T f = none) : ∀ k, call T fu k f ss = stk
  | 0 => rfl
  | k + 1 => by simp only [call, h]
theorem hsp_M (dj : ∀ f, (TX f).isSome = true → T f = none) (k : Nat) : Hsp K (spM K T TX fu k) (call T fu k) := fun f vs H G ss r Q S A e q => by
  unfold spM
  cases h : TX f with
  | some d =>
    rw [call_none (dj f (by rw [h]; rfl))] at e
    cases e
  | none => exact hsp_of _ f vs H G ss r Q S A e q
theorem hspx_M (dj : ∀ f, (TX f).isSome = true → T f = none) (k : Nat) : HspX K (spM K T TX fu k) (call T fu k) := fun f vs H G ss Q E S A q => by
  unfold spM
  cases h : TX f with
  | some d =>
    rw [call_none (dj f (by rw [h]; rfl))] at q
    exact False.elim q
  | none => exact hspx_of _ f vs H G ss Q E S A q
theorem callX_some {f : Str} {ss : List Sl} {x : D × List D} {k : Nat} (h : callX T TX fu k f ss = .ok x) : ∃ d, TX f = some d := by
  cases k with
  | zero => cases h
  | succ k =>
    simp only [callX] at h
    split at h
    · rename_i d e
      exact ⟨d, e⟩
    · cases h
theorem hio_M (k : Nat) : HspIo K (spM K T TX fu k) (ppOf TX) (callX T TX fu k) := fun f r ds' ss G H a ds vs Q e A q => by
  obtain ⟨d, h⟩ := callX_some e
  unfold spM
  unfold ppOf at A
  rw [h] at A ⊢
  exact ⟨G, ss, a, ds, A, q⟩
end
section
variable {P : Program} {w : World} {K : PySem.W.Frag} {mg : Str → Option Value} {base : Heap} {T : Str → Option FD} {TX : Str → Option XD} {fu : Nat} {fs : Fs}
def FnM (P : Program) (w : World) (K : PySem.W.Frag) (mg : Str → Option Value) (base : Heap) (T : Str → Option FD) (TX : Str → Option XD) (fu : Nat) (k : Nat) (f : Str) : Prop :=
  ∃ a fd ps, FnOk P w K mg base (L2.CX P w) (k + 20) a fd ps (spM K T TX fu k f) ∧ mg f = some (.ref a) ∧ PySem.W.keepIn K (.ref a) = true ∧ Binds K fd ps []
theorem cxt_M {f : Str} {N : List Str} {ps : List Str} {scope : Scope} {a : Addr} {cdv : Value} {A : Around} {outer : List Env} {s : Shared} {H : Hp} {E : XK} {k : Nat} (S : FnScope N ps scope) (hr : Room (k + 20) (A.deeper (envOfC f scope s.heap.objs.size a cdv)))
    (blt : ∀ b, b ∈ bnames → mg b = none) (gc : ∀ x n, (x, n) ∈ fs.cst → ∃ t, mg x = some (.int ((n : Nat) : Int) t)) (ko : CkOk K w mg fs) (ih : ∀ g, g ∈ fs.fs → FnM P w K mg base T TX fu k g) :
    Cxt (cxOf (L2.CX P w) P w K mg base N f scope a cdv A outer s H E) K (spM K T TX fu k) N fs scope scope := by
  refine ⟨rfl, rfl, rfl, S.nd, rfl, blt, room100 hr, gc, ko.gk, ko.gd, fun g hg => ?_, ko.xd, fun c hc => ?_, fun x hx => ⟨locB_ok hx, .inl rfl⟩⟩
  · obtain ⟨a', fd', ps', F', m, kp, bd⟩ := ih g hg
    exact ⟨a', fd', ps', k + 20, F', hr, m, kp, bd⟩
  · obtain ⟨h1, h2, h3, h4, h5, h6⟩ := ko.xr c hc
    exact ⟨h1, ⟨h2, h3, h4, raises_own h5 h6⟩⟩
/-- a plain def -/
theorem fn_stepM (dj : ∀ f, (TX f).isSome = true → T f = none) {f : Str} {args : Arguments} {body : List Stmt} {scope : Scope} {a : Addr} {fd : FuncData} {N ps : List Str} {b : Ss} {k : Nat} (F : FunD K f f args body scope [] [] a fd) (S : FnScope N ps scope) (ok : okSs N fs scope b body = true)
    (blt : ∀ b, b ∈ bnames → mg b = none) (gc : ∀ x n, (x, n) ∈ fs.cst → ∃ t, mg x = some (.int ((n : Nat) : Int) t)) (ko : CkOk K w mg fs) (ih : ∀ g, g ∈ fs.fs → FnM P w K mg base T TX fu k g) (hT : T f = some ⟨N, ps, b⟩) : FnOk P w K mg base (L2.CX P w) (k + 20 + 1) a fd ps (dsp K (call T fu (k + 1) f)) := by
  refine F.ok S (fun vs H Q E h => ?_) (fun cdv A outer s H vs Q E hr h => ?_)
  · obtain ⟨G, ss, _, ar, q⟩ := h
    simp only [call, hT, runB] at q
    split at q
    · rw [ar.length]
      assumption
    · exact False.elim q
  · obtain ⟨G, ss, SG, ar, q⟩ := h
    simp only [call, hT, runB] at q
    split at q
    · have C := cxt_M (A := A) (f := f) (a := a) (cdv := cdv) (outer := outer) (s := s) (H := H) (E := E) S hr blt gc ko ih
      have tk : Takes (cxOf (L2.CX P w) P w K mg base N f scope a cdv A outer s H E) (fun cls d _ H => E cls d H) := takes_of rfl rfl rfl rfl
      have R := fun {σ : L2.St} {ρ : Rho} {fl : Fl} (D : Ends) so he q => semSs (GL := G) (σ := σ) (ρ := ρ) (fl := fl) (W := fun cls d _ H => E cls d H) (G0 := G) (H0 := H) (G := G) (H := H) K (spM K T TX fu k) (call T fu k) fu (hsp_M dj k) (hspx_M dj k) b D so he q
      refine ⟨_, dSs K (spM K T TX fu k) N fs b C ⟨rfl, rfl, rfl⟩ tk (passes_of rfl) body ok, ?_⟩
      cases he : exSs (call T fu k) fu b (startR N.length ss) with
      | error e =>
        rw [he] at q
        exact False.elim q
      | ok fl =>
        rw [he] at q
        cases fl with
        | nx ρ' => exact R _ (start_ok SG ar) he fun σ' G' H' so => q G' H' .non so.st (.f .non)
        | rt s' => exact R _ (start_ok SG ar) he fun G' H' v S' r' => q G' H' v S' r'
        | rz c ρ' => exact R _ (start_ok SG ar) he fun σ' G' H' so xo => q G' H' so.st xo
        | bk ρ' => exact False.elim q
        | ct ρ' => exact False.elim q
    · exact False.elim q
/-- a def that changes a list -/
theorem fn_stepX (dj : ∀ f, (TX f).isSome = true → T f = none) {f : Str} {args : Arguments} {body : List Stmt} {scope : Scope} {a : Addr} {fd : FuncData} {d : XD} {k : Nat} (F : FunD K f f args body scope [] [] a fd) (S : FnScope d.N d.ps scope) (ok : okSs d.N fs scope (toSs d.p d.body) body = true)
    (blt : ∀ b, b ∈ bnames → mg b = none) (gc : ∀ x n, (x, n) ∈ fs.cst → ∃ t, mg x = some (.int ((n : Nat) : Int) t)) (ko : CkOk K w mg fs) (ih : ∀ g, g ∈ fs.fs → FnM P w K mg base T TX fu k g) (hT : TX f = some d) : FnOk P w K mg base (L2.CX P w) (k + 20 + 1) a fd d.ps (dspX K d.p (callX T TX fu (k + 1) f)) := by
  refine F.ok S (fun vs H Q E h => ?_) (fun cdv A outer s H vs Q E hr h => ?_)
  · obtain ⟨G, ss, b, ds, ar, q⟩ := h
    simp only [callX, hT, runX] at q
    split at q
    · rename_i hc
      rw [ar.len]
      exact hc.1
    · exact False.elim q
  · obtain ⟨G, ss, b, ds, ar, q⟩ := h
    simp only [callX, hT, runX] at q
    split at q
    · rename_i hc
      obtain ⟨m, hm⟩ := ar.sl
      simp only [hm] at q
      have C := cxt_M (A := A) (f := f) (a := a) (cdv := cdv) (outer := outer) (s := s) (H := H) (E := E) S hr blt gc ko ih
      have tk : Takes (cxOf (L2.CX P w) P w K mg base d.N f scope a cdv A outer s H E) (fun cls d _ H => E cls d H) := takes_of rfl rfl rfl rfl
      refine ⟨_, dSs K (spM K T TX fu k) d.N fs (toSs d.p d.body) C ⟨rfl, rfl, rfl⟩ tk (passes_of rfl) body ok, ?_⟩
      cases he : exX (call T fu k) (callX T TX fu k) (ppOf TX) d.p d.body ((startR d.N.length ss).set d.p (some ⟨.o, .list ds⟩)) ds with
      | error e =>
        rw [he] at q
        exact False.elim q
      | ok x =>
        obtain ⟨r, ds'⟩ := x
        rw [he] at q
        obtain ⟨ws, hw, rw_⟩ := ar.io
        have sd : Same (del H b) H := fun c o e => by
          have hb : c ≠ b := fun z => by rw [z, del_same] at e; cases e
          rw [del_ne hb] at e
          exact e
        have gd : Same G (del H b) := fun c o e => by
          rw [del_ne (ne_of_none e ar.ga)]
          exact ar.gh _ _ e
        have hp1 : d.p < (start d.N vs).length := by
          unfold L2.start
          rw [List.length_append, List.length_map, ar.len]
          omega
        have hlen : (start d.N vs).length = (startR d.N.length ss).length := by
          unfold L2.start startR
          rw [List.length_append, List.length_append, List.length_map, List.length_map, List.length_replicate, List.length_replicate, ar.len]
        have IO : IoOk K G (del H b) d.p b G H (start d.N vs) ((startR d.N.length ss).set d.p (some ⟨.o, .list ds⟩)) ds := by
          refine ⟨⟨Same.refl _, sd, ar.gh, fun c o _ n => n⟩, del_same, by rw [List.length_set]; exact hlen, ?_, ⟨ws, hw, rw_⟩, ar.ga, List.getElem?_set_self (by rw [← hlen]; exact hp1), fun j s hj hs => ?_⟩
          · unfold L2.start
            rw [List.getElem?_append_left (by rw [List.length_map, ar.len]; exact hc.2), List.getElem?_map, ar.pl]
            rfl
          · rw [List.getElem?_set_ne (Ne.symm hj)] at hs
            unfold startR at hs
            rcases Nat.lt_or_ge j ss.length with hi | hi
            · rw [List.getElem?_append_left (by rw [List.length_map]; exact hi), List.getElem?_map] at hs
              cases hss : ss[j]? with
              | none =>
                rw [hss] at hs
                cases hs
              | some s' =>
                rw [hss] at hs
                cases hs
                obtain ⟨e1, v, e2, e3⟩ := ar.fz j s hj hss
                refine ⟨e1, v, ?_, e3⟩
                unfold L2.start
                rw [List.getElem?_append_left (by rw [List.length_map, ar.len]; exact hi), List.getElem?_map, e2]
                rfl
            · rw [List.getElem?_append_right (by rw [List.length_map]; exact hi), List.getElem?_replicate] at hs
              split at hs <;> cases hs
        exact semX (hsp_M dj k) (hio_M k) d.body _ IO he fun G' H' v vs' S1 r1 h1 r2 g => q G' H' v vs' S1 r1 h1 r2 g
    · exact False.elim q
end
/-! a def that hands a new list to an io-def, once -/
structure YD where
  pre : Ss
  z : Nat
  f : Str
  es : Es
  post : Ss
def appS : Ss → Ss → Ss
  | .nil, t => t
  | .cons s r, t => .cons s (appS r t)
  | .frz i r, t => .frz i (appS r t)
def YD.body (y : YD) : Ss := appS y.pre (.cons (.asg (.nm y.z) (.call y.f y.es)) y.post)
def evLX (cl : Str → List Sl → M Sl) : Nat → Es → Rho → M (List Sl)
  | 0, .cons e es, ρ => evE cl e ρ >>= fun x => evA cl es ρ >>= fun ss => match x with
    | ⟨.o, .list ds⟩ => .ok (⟨.o, .list ds⟩ :: ss)
    | _ => stk
  | p + 1, .cons e es, ρ => evE cl e ρ >>= fun x => evLX cl p es ρ >>= fun ss => .ok (argS x :: ss)
  | _, .nil, _ => stk
def exY (cl : Str → List Sl → M Sl) (cx : CX2) (pp : Str → Nat) (fu : Nat) (y : YD) (ρ : Rho) : M Fl := exSs cl fu y.pre ρ >>= fun r => match r with
  | .nx ρ1 => evLX cl (pp y.f) y.es ρ1 >>= fun ss => if fOk (pp y.f) ss = true then cx y.f ss >>= fun r => exSs cl fu y.post (ρ1.set y.z (some ⟨.f, r.1⟩)) else stk
  | _ => stk
def runY (cl : Str → List Sl → M Sl) (cx : CX2) (pp : Str → Nat) (fu : Nat) (n : Nat) (y : YD) (ss : List Sl) : M Sl :=
  if ss.length = 1 then match exY cl cx pp fu y (startR n ss) with
    | .ok (.rt s) => .ok s
    | _ => stk
  else stk
section
variable {K : PySem.W.Frag} {G0 H0 : Hp} {sp : Str → Sp} {cl : Str → List Sl → M Sl} {pp : Str → Nat} {cx : CX2} {fu : Nat}
theorem semPre (hsp : Hsp K sp cl) (hx : HspX K sp cl) {rest : Ss} {W : WX} (D : Ends) : ∀ (e : Ss) {GL : Hp} {σ : L2.St} {H G : Hp} {ρ ρ' : Rho}, StOk K GL G0 H0 G H σ ρ → exSs cl fu e ρ = .ok (.nx ρ') → (∀ σ' G' H', StOk K GL G0 H0 G' H' σ' ρ' → rdSs K sp rest W D σ' H') → rdSs K sp (appS e rest) W D σ H
  | .nil, GL, σ, H, G, ρ, ρ', so, h, q => by
    cases h
    exact q σ G H so
  | .cons s ss, GL, σ, H, G, ρ, ρ', so, h, q => by
    simp only [exSs] at h
    obtain ⟨r, e1, h⟩ := bind_ok h
    cases r with
    | nx ρ1 => exact semS K sp cl fu hsp hx s _ so e1 fun σ' G' H' so' => semPre hsp hx D ss so' h q
    | bk _ => cases h
    | ct _ => cases h
    | rt _ => cases h
    | rz _ _ => cases h
  | .frz i ss, GL, σ, H, G, ρ, ρ', so, h, q => by
    simp only [exSs] at h
    obtain ⟨G', sg, so'⟩ := so.frz i
    exact semPre hsp hx D ss so' h q
theorem semAY (hsp : Hsp K sp cl) : ∀ (es : Es) (p : Nat) {G H : Hp} {σ : L2.St} {ρ : Rho} {ss : List Sl} (Q : List V → Hp → Prop), Same G H → EnvR K G H σ ρ → fOk p ss = true → evLX cl p es ρ = .ok ss →
    (∀ G' H' vs a ds, Step G H G' H' → H a = none → AxR K G' H' p a ds vs ss → Q vs H') → rdA K sp es σ H Q
  | .nil, p, G, H, σ, ρ, ss, Q, S, E, hf, h, k => by
    cases p <;> cases h
  | .cons e es, 0, G, H, σ, ρ, ss, Q, S, E, hf, h, k => by
    simp only [evLX] at h
    obtain ⟨x, e1, h⟩ := bind_ok h
    obtain ⟨r, e3, h⟩ := bind_ok h
    split at h
    · rename_i ds _
      cases h
      refine semE K sp cl hsp e _ S E e1 fun G1 H1 v S1 r1 => ?_
      obtain ⟨⟨a, o, rfl, n, t, sh⟩, h2⟩ := r1
      obtain ⟨b, e, nb⟩ := h2 rfl
      cases e
      cases sh with
      | @lst ws _ rw_ =>
        refine semA K sp cl hsp es _ S1.gh (E.mono S1) e3 fun G4 H4 vs S4 r4 => k G4 H4 (.ref a :: vs) a ds (S1.trans S4) nb ?_
        refine ⟨by rw [List.length_cons, List.length_cons, r4.length], rfl, ⟨_, rfl⟩, fun j s hj e => ?_, ⟨ws, S4.hh _ _ t, rw_.mono S4.gg⟩, S4.fr _ _ t n, S4.gh⟩
        cases j with
        | zero => exact absurd rfl hj
        | succ j => exact args_f r4 hf j s e
    · cases h
  | .cons e es, p + 1, G, H, σ, ρ, ss, Q, S, E, hf, h, k => by
    simp only [evLX] at h
    obtain ⟨x, e1, h⟩ := bind_ok h
    obtain ⟨r, e3, h⟩ := bind_ok h
    cases h
    have hf' : isF (argS x).m = true ∧ fOk p r = true := by
      have : (isF (argS x).m && fOk p r) = true := hf
      rwa [Bool.and_eq_true] at this
    refine semE K sp cl hsp e _ S E e1 fun G1 H1 v S1 r1 => ?_
    have key : ∃ G2, Step G H G2 H1 ∧ Rp K G2 v (argS x).d := by
      obtain ⟨m, d⟩ := x
      cases m with
      | f => exact ⟨G1, S1, r1.1⟩
      | p => cases hf'.1
      | o =>
        obtain ⟨G2, S2, _, r2, _⟩ := freeze (d := d) S1 r1 rfl
        exact ⟨G2, S2, r2⟩
    obtain ⟨G2, S2, r2⟩ := key
    refine semAY hsp es p _ S2.gh (E.mono S2) hf'.2 e3 fun G4 H4 vs a ds S4 na r4 => k G4 H4 (v :: vs) a ds (S2.trans S4) (S2.hh.free na) ?_
    obtain ⟨m, hm⟩ := r4.sl
    refine ⟨by rw [List.length_cons, List.length_cons, r4.len], r4.pl, ⟨m, hm⟩, fun j s hj e => ?_, r4.io, r4.ga, r4.gh⟩
    cases j with
    | zero =>
      cases e
      exact ⟨isF_ok hf'.1, v, rfl, Rp.mono S4.gg _ _ r2⟩
    | succ j => exact r4.fz j s (fun z => hj (by rw [z])) e
theorem semY (hsp : Hsp K sp cl) (hx : HspX K sp cl) (hio : HspIo K sp pp cx) {W : WX} (y : YD) {GL : Hp} {σ : L2.St} {H G : Hp} {ρ : Rho} {fl : Fl} (D : Ends) (so : StOk K GL G0 H0 G H σ ρ) (h : exY cl cx pp fu y ρ = .ok fl) (q : FlR K GL G0 H0 W fl D) : rdSs K sp y.body W D σ H := by
  unfold exY at h
  obtain ⟨r, e1, h⟩ := bind_ok h
  split at h
  · rename_i ρ1
    obtain ⟨ss, e2, h⟩ := bind_ok h
    split at h
    · rename_i hf
      obtain ⟨⟨r, ds'⟩, e3, h⟩ := bind_ok h
      refine semPre hsp hx D y.pre so e1 fun σ1 G1 H1 so1 => ?_
      refine semAY hsp y.es (pp y.f) _ so1.st.gh so1.env hf e2 fun G2 H2 vs a ds S2 na A => ?_
      rw [List.append_nil]
      refine hio y.f r ds' ss G2 H2 a ds vs _ e3 A ?_
      rw [e3]
      intro G3 H3 v vs' S3 rv _ _ _
      have kd : ∀ b o, H1 b = some o → del H2 a b = some o := fun b o e => by
        rw [del_ne (ne_of_none e na)]
        exact S2.hh _ _ e
      have S4 : Step G1 H1 G3 H3 := ⟨S2.gg.trans S3.gg, fun b o e => S3.hh _ _ (kd b o e), S3.gh, fun b o e n => S3.fr _ _ (kd b o e) (S2.fr _ _ e n)⟩
      exact semSs K sp cl fu hsp hx y.post D ((so1.step S4).setF y.z rv) h q
    · cases h
  · cases h
end
section
variable {P : Program} {w : World} {K : PySem.W.Frag} {mg : Str → Option Value} {base : Heap} {T : Str → Option FD} {TX : Str → Option XD} {fu : Nat} {fs : Fs}
theorem fn_stepY (dj : ∀ f, (TX f).isSome = true → T f = none) {f : Str} {args : Arguments} {body : List Stmt} {scope : Scope} {a : Addr} {fd : FuncData} {N ps : List Str} {y : YD} {k : Nat} (F : FunD K f f args body scope [] [] a fd) (S : FnScope N ps scope) (h1 : ps.length = 1) (ok : okSs N fs scope y.body body = true)
    (blt : ∀ b, b ∈ bnames → mg b = none) (gc : ∀ x n, (x, n) ∈ fs.cst → ∃ t, mg x = some (.int ((n : Nat) : Int) t)) (ko : CkOk K w mg fs) (ih : ∀ g, g ∈ fs.fs → FnM P w K mg base T TX fu k g) : FnOk P w K mg base (L2.CX P w) (k + 20 + 1) a fd ps (dsp K (runY (call T fu k) (callX T TX fu k) (ppOf TX) fu N.length y)) := by
  refine F.ok S (fun vs H Q E h => ?_) (fun cdv A outer s H vs Q E hr h => ?_)
  · obtain ⟨G, ss, _, ar, q⟩ := h
    simp only [runY] at q
    split at q
    · rename_i hc
      rw [ar.length, hc, h1]
    · exact False.elim q
  · obtain ⟨G, ss, SG, ar, q⟩ := h
    simp only [runY] at q
    split at q
    · have C := cxt_M (A := A) (f := f) (a := a) (cdv := cdv) (outer := outer) (s := s) (H := H) (E := E) S hr blt gc ko ih
      have tk : Takes (cxOf (L2.CX P w) P w K mg base N f scope a cdv A outer s H E) (fun cls d _ H => E cls d H) := takes_of rfl rfl rfl rfl
      refine ⟨_, dSs K (spM K T TX fu k) N fs y.body C ⟨rfl, rfl, rfl⟩ tk (passes_of rfl) body ok, ?_⟩
      cases he : exY (call T fu k) (callX T TX fu k) (ppOf TX) fu y (startR N.length ss) with
      | error e =>
        rw [he] at q
        exact False.elim q
      | ok fl =>
        rw [he] at q
        cases fl with
        | rt s' => exact semY (GL := G) (G0 := G) (H0 := H) (hsp_M dj k) (hspx_M dj k) (hio_M k) y _ (start_ok SG ar) he fun G' H' v S' r' => q G' H' v S' r'
        | nx ρ' => exact False.elim q
        | rz c ρ' => exact False.elim q
        | bk ρ' => exact False.elim q
        | ct ρ' => exact False.elim q
    · exact False.elim q
end
/-- the plain defs of a program -/
def tabM (TX : Str → Option XD) (ds : List PD) (f : Str) : Option FD := match TX f with
  | some _ => none
  | none => tab ds f
theorem tabM_dj {TX : Str → Option XD} {ds : List PD} : ∀ f, (TX f).isSome = true → tabM TX ds f = none := fun f h => by
  unfold tabM
  cases e : TX f with
  | none => rw [e] at h; cases h
  | some d => rfl
theorem all_atM {P : Program} {w : World} {K : PySem.W.Frag} {mg : Str → Option Value} {base h : Heap} {fu : Nat} {ds : List PD} {TX : Str → Option XD} {cst : List (Str × Nat)} {ck : List (Str × D)} {cd : List (Str × List (Str × D))} {xr xd : List Str} (X : K.In h) (G : h.Ns mainGlobals mg) (c : He.SaysD (facts ds cst) (ds.map PD.dd) K) (ko : CkOk K w mg ⟨ds.map (·.name), cst, ck, cd, xr, xd⟩) (hd : ∀ d ∈ ds, d.Ok ⟨ds.map (·.name), cst, ck, cd, xr, xd⟩)
    (hX : ∀ d ∈ ds, ∀ e, TX d.name = some e → d.N = e.N ∧ d.ps = e.ps ∧ d.body = toSs e.p e.body) :
    ∀ k f, f ∈ ds.map (·.name) → FnM P w K mg base (tabM TX ds) TX fu k f := by
  have blt : ∀ b, b ∈ bnames → mg b = none := fun b hb => He.free_ok X G (He.SaysD.facts c (List.mem_append_right _ (List.mem_append_left _ (List.mem_map_of_mem hb))))
  have gc : ∀ x n, (x, n) ∈ cst → ∃ t, mg x = some (.int ((n : Nat) : Int) t) := fun x n hb => He.int_ok X G (He.SaysD.facts c (List.mem_append_right _ (List.mem_append_right _ (List.mem_map_of_mem (f := fun p : Str × Nat => He.Fa.int p.1 (p.2 : Int)) hb))))
  have glo : ∀ d ∈ ds, mg d.name = some (.ref (He.ga K d.name)) := fun d hd => He.glo_ok X G (He.SaysD.facts c (List.mem_append_left _ (List.mem_map_of_mem hd)))
  have fun_ : ∀ d ∈ ds, ∃ fd, FunD K d.name d.name (defArgs d.st) (defBody d.st) (defScope d.st) [] [] (He.ga K d.name) fd := fun d hd => He.SaysD.defs c (d := d.dd) (List.mem_map_of_mem hd)
  intro k
  induction k with
  | zero =>
    intro f hf
    obtain ⟨d, h1, rfl, h3⟩ := tab_of hf
    obtain ⟨fd, F⟩ := fun_ d h1
    refine ⟨_, fd, d.ps, ?_, glo d h1, F.kp, F.bindsN (hd d h1).bd⟩
    unfold spM
    cases e : TX d.name with
    | none => exact fn_zero
    | some x => exact ⟨fun _ _ _ _ ⟨_, _, _, _, _, q⟩ => False.elim q, fun _ _ _ _ _ _ _ _ _ _ _ _ _ ⟨_, _, _, _, _, q⟩ => False.elim q⟩
  | succ k ih =>
    intro f hf
    obtain ⟨d, h1, rfl, h3⟩ := tab_of hf
    obtain ⟨fd, F⟩ := fun_ d h1
    refine ⟨_, fd, d.ps, ?_, glo d h1, F.kp, F.bindsN (hd d h1).bd⟩
    unfold spM
    cases e : TX d.name with
    | none => exact fn_stepM tabM_dj F (hd d h1).sc (hd d h1).ok blt gc ko ih (by unfold tabM; rw [e]; exact h3)
    | some x =>
      obtain ⟨e1, e2, e3⟩ := hX d h1 x e
      have sc := (hd d h1).sc
      have ok : okSs d.N _ (defScope d.st) d.body (defBody d.st) = true := (hd d h1).ok
      rw [e1, e2] at sc
      rw [e1, e3] at ok
      rw [e2]
      exact fn_stepX tabM_dj F sc ok blt gc ko ih e
theorem law_endM {P : Program} {w : World} {K : PySem.W.Frag} {mg : Str → Option Value} {h : Heap} {fu n k : Nat} {ds : List PD} {TX : Str → Option XD} {cst : List (Str × Nat)} {ck : List (Str × D)} {cd : List (Str × List (Str × D))} {xr xd : List Str} {d : PD} {y : YD} {fa : Addr} {x : Str} (X : K.In h) (G : h.Ns mainGlobals mg) (c : He.SaysD (facts ds cst) (ds.map PD.dd) K) (ko : CkOk K w mg ⟨ds.map (·.name), cst, ck, cd, xr, xd⟩) (hd : ∀ d ∈ ds, d.Ok ⟨ds.map (·.name), cst, ck, cd, xr, xd⟩)
    (hX : ∀ d ∈ ds, ∀ e, TX d.name = some e → d.N = e.N ∧ d.ps = e.ps ∧ d.body = toSs e.p e.body)
    (hm : d ∈ ds) (hy : d.body = y.body) (hx : d.ps = [x]) (hmg : mg d.name = some (.ref fa))
    (ht : ∀ ns : List Int, ns.length ≤ n → runY (call (tabM TX ds) fu k) (callX (tabM TX ds) TX fu k) (ppOf TX) fu d.N.length y [⟨.f, .list (ns.map .int)⟩] = .ok ⟨.f, .bool true⟩) :
    ∃ (K : PySem.W.Frag) (fd : FuncData) (sp : Sp), K.In h ∧ (∀ (s : Shared) (u : Value), BindsTo s fd ⟨[u], []⟩ [(x, u)]) ∧
        (∀ (H : Hp) (a : Addr) (ns : List Int), ns.length ≤ n → Only H → SqL K H a (ns.map V.int) → sp [.ref a] H (fun v _ => v = .bl true) fun _ _ _ => False) ∧
        ∀ base : Heap, K.In base → base.Ns mainGlobals mg → FnOk P w K mg base CX0 (k + 20 + 1) fa fd [x] sp := by
  obtain ⟨fd, F⟩ := He.SaysD.defs c (d := d.dd) (List.mem_map_of_mem hm)
  have F' : FunD K d.name d.name (defArgs d.st) (defBody d.st) (defScope d.st) [] [] (He.ga K d.name) fd := F
  have e := hmg.symm.trans (He.glo_ok X G (He.SaysD.facts c (List.mem_append_left _ (List.mem_map_of_mem (f := fun d => He.Fa.glo d.name) hm))))
  cases e
  have bd := (hd d hm).bd
  rw [hx] at bd
  refine ⟨K, fd, fun vs H Q _ => dsp K (runY (call (tabM TX ds) fu k) (callX (tabM TX ds) TX fu k) (ppOf TX) fu d.N.length y) vs H Q E0, X, fun s u => F'.bindsA (ps := [x]) bd s [u] rfl, fun H a ns hl _ hS => law_sp hS (ht ns hl), fun base _ _ => ?_⟩
  have blt : ∀ b, b ∈ bnames → mg b = none := fun b hb => He.free_ok X G (He.SaysD.facts c (List.mem_append_right _ (List.mem_append_left _ (List.mem_map_of_mem hb))))
  have gc : ∀ x n, (x, n) ∈ cst → ∃ t, mg x = some (.int ((n : Nat) : Int) t) := fun x n hb => He.int_ok X G (He.SaysD.facts c (List.mem_append_right _ (List.mem_append_right _ (List.mem_map_of_mem (f := fun p : Str × Nat => He.Fa.int p.1 (p.2 : Int)) hb))))
  have ok : okSs d.N _ (defScope d.st) d.body (defBody d.st) = true := (hd d hm).ok
  rw [hy] at ok
  have q := fn_stepY (P := P) (w := w) (base := base) (fu := fu) (k := k) tabM_dj F' (hd d hm).sc (by rw [hx]; rfl) ok blt gc ko (all_atM X G c ko hd hX k)
  rw [hx] at q
  have Z : ∀ {k : Nat} {f : Addr} {fd : FuncData} {ps : List Str} {F : List Sl → M Sl}, FnOk P w K mg base (L2.CX P w) k f fd ps (dsp K F) → FnOk P w K mg base CX0 k f fd ps (fun vs H Q _ => dsp K F vs H Q E0) := fun F => ⟨fun vs H Q E h => F.len vs H Q E0 h, fun A outer s H args us vs Q E hr he hb hv hs => codeAny_mono (F.run A outer s H args us vs Q E0 hr he hb hv hs) fun r s' hq => by
    cases r with
    | error e =>
      obtain ⟨_, _, _, _, _, _, _, _, _, _, _, _, z⟩ := hq
      exact z
    | ok fl =>
      cases fl with
      | ret u => exact hq
      | next => exact hq
      | brk => exact hq
      | cont => exact hq⟩
  exact Z q
end GK

/-! an io-call whose list lies in a slot of a plain def -/
namespace GK
open PySem PySem.Spec PyProof.Rows L2
section
variable {K : PySem.W.Frag} {GL G0 H0 G H : Hp} {σ : L2.St} {ρ : Rho}
theorem StOk.toIo (s : StOk K GL G0 H0 G H σ ρ) {q : Nat} {ds : List D} (hq : ρ[q]? = some (some ⟨.o, .list ds⟩)) (hf : onlyF q 0 ρ = true) : ∃ a, IoOk K G0 H0 q a G H σ ρ ds := by
  obtain ⟨a, o, o1, o2, o3, o4, sh, _⟩ := s.ownedG hq
  have sh := sh.plain rfl
  cases sh with
  | @lst vs _ r =>
    refine ⟨a, s.st, o2, s.env.len, o1, ⟨vs, o4, r⟩, o3, hq, fun j t hj ht => ?_⟩
    have hm := onlyF_at hf j t ht (by omega)
    obtain ⟨v, h1, h2⟩ := s.env.at_ j t ht
    obtain ⟨m, d⟩ := t
    cases hm
    exact ⟨rfl, v, h1, h2⟩
theorem IoOk.toSt {q : Nat} {a : Addr} {ds : List D} (h : IoOk K G0 H0 q a G H σ ρ ds) (lo : Same GL G) : StOk K GL G0 H0 G H σ ρ := by
  refine ⟨h.st, h.env, fun i d hi => ?_, lo, fun i d hi => ?_⟩
  · by_cases e : i = q
    · subst e
      refine ⟨a, h.at_, h.h0, fun j s hj hs hm => ?_⟩
      exact absurd (h.fz j s hj hs).1 hm
    · have := (h.fz i _ e hi).1
      cases this
  · by_cases e : i = q
    · subst e
      rw [h.slot] at hi
      cases hi
    · have := (h.fz i _ e hi).1
      cases this
end
/-- z = f(es), the io list in slot q -/
structure YV where
  pre : Ss
  z : Nat
  f : Str
  es : Es
  q : Nat
  post : Ss
def YV.body (y : YV) : Ss := appS y.pre (.cons (.asg (.nm y.z) (.call y.f y.es)) y.post)
def exYV (cl : Str → List Sl → M Sl) (cx : CX2) (pp : Str → Nat) (fu : Nat) (y : YV) (ρ : Rho) : M Fl := exSs cl fu y.pre ρ >>= fun r => match r with
  | .nx ρ1 => evA cl y.es ρ1 >>= fun ss => if onlyF y.q 0 ρ1 = true ∧ vAt y.es (pp y.f) = some y.q ∧ fOk (pp y.f) ss = true ∧ y.z ≠ y.q then ownL y.q ρ1 >>= fun _ => cx y.f ss >>= fun r => exSs cl fu y.post ((ρ1.set y.q (some ⟨.o, .list r.2⟩)).set y.z (some ⟨.f, r.1⟩)) else stk
  | _ => stk
section
variable {K : PySem.W.Frag} {G0 H0 : Hp} {sp : Str → Sp} {cl : Str → List Sl → M Sl} {pp : Str → Nat} {cx : CX2} {fu : Nat}
theorem semYV (hsp : Hsp K sp cl) (hx : HspX K sp cl) (hio : HspIo K sp pp cx) {W : WX} (y : YV) {GL : Hp} {σ : L2.St} {H G : Hp} {ρ : Rho} {fl : Fl} (D : Ends) (so : StOk K GL G0 H0 G H σ ρ) (h : exYV cl cx pp fu y ρ = .ok fl) (q : FlR K GL G0 H0 W fl D) : rdSs K sp y.body W D σ H := by
  unfold exYV at h
  obtain ⟨r, e1, h⟩ := bind_ok h
  split at h
  · rename_i ρ1
    obtain ⟨ss, e2, h⟩ := bind_ok h
    split at h
    · rename_i hc
      obtain ⟨ds, e0, h⟩ := bind_ok h
      obtain ⟨⟨r, ds'⟩, e3, h⟩ := bind_ok h
      refine semPre hsp hx D y.pre so e1 fun σ1 G1 H1 so1 => ?_
      obtain ⟨a, IO⟩ := so1.toIo (ownL_ok e0) hc.1
      refine semCX hsp hio _ IO hc.2.1 hc.2.2.1 e2 e3 fun G2 H2 G3 H3 v vs' S2 S3 rv ha ra ga => ?_
      have IO3 := ((IO.step S2).chg S3 ha ra ga).setF hc.2.2.2 rv
      exact semSs K sp cl fu hsp hx y.post D (IO3.toSt ((so1.lo.trans S2.gg).trans S3.gg)) h q
    · cases h
  · cases h
end
/-! all kinds of defs in one table -/
inductive YK where
  | lit (y : YD) | var (y : YV)
def YK.body : YK → Ss
  | .lit y => y.body
  | .var y => y.body
structure FY where
  N : List Str
  ps : List Str
  y : YK
def exK (cl : Str → List Sl → M Sl) (cx : CX2) (pp : Str → Nat) (fu : Nat) : YK → Rho → M Fl
  | .lit y, ρ => exY cl cx pp fu y ρ
  | .var y, ρ => exYV cl cx pp fu y ρ
def runK (cl : Str → List Sl → M Sl) (cx : CX2) (pp : Str → Nat) (fu : Nat) (d : FY) (ss : List Sl) : M Sl :=
  if ss.length = d.ps.length then
    match exK cl cx pp fu d.y (startR d.N.length ss) with
    | .ok (.rt s) => .ok s
    | .ok (.nx _) => .ok ⟨.f, .none⟩
    | .ok (.rz c _) => .error (.raised c)
    | .ok _ => stk
    | .error _ => stk
  else stk
def callZ (T : Str → Option FD) (TY : Str → Option FY) (TX : Str → Option XD) (fu : Nat) : Nat → Str → List Sl → M Sl × M (D × List D)
  | 0, _, _ => (stk, stk)
  | k + 1, f, ss => (match TX f with
      | some _ => stk
      | none => match TY f with
        | some y => runK (fun g s => (callZ T TY TX fu k g s).1) (fun g s => (callZ T TY TX fu k g s).2) (ppOf TX) fu y ss
        | none => match T f with
          | some fd => runB (fun g s => (callZ T TY TX fu k g s).1) fu fd ss
          | none => stk,
    match TX f with
      | some d => runX (fun g s => (callZ T TY TX fu k g s).1) (fun g s => (callZ T TY TX fu k g s).2) (ppOf TX) d ss
      | none => stk)
section
variable (T : Str → Option FD) (TY : Str → Option FY) (TX : Str → Option XD) (fu : Nat)
def cP (k : Nat) (f : Str) (ss : List Sl) : M Sl := (callZ T TY TX fu k f ss).1
def cI (k : Nat) (f : Str) (ss : List Sl) : M (D × List D) := (callZ T TY TX fu k f ss).2
def spZ (K : PySem.W.Frag) (k : Nat) (f : Str) : Sp := match TX f with
  | some d => dspX K d.p (cI T TY TX fu k f)
  | none => dsp K (cP T TY TX fu k f)
end
section
variable {K : PySem.W.Frag} {T : Str → Option FD} {TY : Str → Option FY} {TX : Str → Option XD} {fu : Nat}
theorem cP_io {f : Str} {ss : List Sl} {d : XD} (h : TX f = some d) : ∀ k, cP T TY TX fu k f ss = stk
  | 0 => rfl
  | k + 1 => by simp only [cP, callZ, h]
theorem hsp_Z (k : Nat) : Hsp K (spZ T TY TX fu K k) (cP T TY TX fu k) := fun f vs H G ss r Q S A e q => by
  unfold spZ
  cases h : TX f with
  | some d =>
    rw [cP_io h] at e
    cases e
  | none => exact hsp_of _ f vs H G ss r Q S A e q
theorem hspx_Z (k : Nat) : HspX K (spZ T TY TX fu K k) (cP T TY TX fu k) := fun f vs H G ss Q E S A q => by
  unfold spZ
  cases h : TX f with
  | some d =>
    rw [cP_io h] at q
    exact False.elim q
  | none => exact hspx_of _ f vs H G ss Q E S A q
theorem hio_Z (k : Nat) : HspIo K (spZ T TY TX fu K k) (ppOf TX) (cI T TY TX fu k) := fun f r ds' ss G H a ds vs Q e A q => by
  obtain ⟨d, h⟩ : ∃ d, TX f = some d := by
    cases k with
    | zero => cases e
    | succ k =>
      simp only [cI, callZ] at e
      split at e
      · rename_i d h
        exact ⟨d, h⟩
      · cases e
  unfold spZ
  unfold ppOf at A
  rw [h] at A ⊢
  exact ⟨G, ss, a, ds, A, q⟩
theorem semK {G0 H0 : Hp} {sp : Str → Sp} {cl : Str → List Sl → M Sl} {pp : Str → Nat} {cx : CX2} (hsp : Hsp K sp cl) (hx : HspX K sp cl) (hio : HspIo K sp pp cx) {W : WX} (y : YK) {GL : Hp} {σ : L2.St} {H G : Hp} {ρ : Rho} {fl : Fl} (D : Ends) (so : StOk K GL G0 H0 G H σ ρ) (h : exK cl cx pp fu y ρ = .ok fl) (q : FlR K GL G0 H0 W fl D) : rdSs K sp y.body W D σ H := by
  cases y with
  | lit y => exact semY hsp hx hio y D so h q
  | var y => exact semYV hsp hx hio y D so h q
end
section
variable {P : Program} {w : World} {K : PySem.W.Frag} {mg : Str → Option Value} {base : Heap} {T : Str → Option FD} {TY : Str → Option FY} {TX : Str → Option XD} {fu : Nat} {fs : Fs}
theorem cP_plain {f : Str} {ss : List Sl} {fd : FD} {k : Nat} (hX : TX f = none) (hY : TY f = none) (hT : T f = some fd) : cP T TY TX fu (k + 1) f ss = runB (cP T TY TX fu k) fu fd ss := by
  show (callZ T TY TX fu (k + 1) f ss).1 = _
  simp only [callZ, hX, hY, hT]
  rfl
theorem cP_y {f : Str} {ss : List Sl} {d : FY} {k : Nat} (hX : TX f = none) (hY : TY f = some d) : cP T TY TX fu (k + 1) f ss = runK (cP T TY TX fu k) (cI T TY TX fu k) (ppOf TX) fu d ss := by
  show (callZ T TY TX fu (k + 1) f ss).1 = _
  simp only [callZ, hX, hY]
  rfl
theorem cI_some {f : Str} {ss : List Sl} {d : XD} {k : Nat} (hX : TX f = some d) : cI T TY TX fu (k + 1) f ss = runX (cP T TY TX fu k) (cI T TY TX fu k) (ppOf TX) d ss := by
  show (callZ T TY TX fu (k + 1) f ss).2 = _
  simp only [callZ, hX]
  rfl
def FnZ (P : Program) (w : World) (K : PySem.W.Frag) (mg : Str → Option Value) (base : Heap) (T : Str → Option FD) (TY : Str → Option FY) (TX : Str → Option XD) (fu : Nat) (k : Nat) (f : Str) : Prop :=
  ∃ a fd ps, FnOk P w K mg base (L2.CX P w) (k + 20) a fd ps (spZ T TY TX fu K k f) ∧ mg f = some (.ref a) ∧ PySem.W.keepIn K (.ref a) = true ∧ Binds K fd ps []
theorem cxt_Z {f : Str} {N : List Str} {ps : List Str} {scope : Scope} {a : Addr} {cdv : Value} {A : Around} {outer : List Env} {s : Shared} {H : Hp} {E : XK} {k : Nat} (S : FnScope N ps scope) (hr : Room (k + 20) (A.deeper (envOfC f scope s.heap.objs.size a cdv)))
    (blt : ∀ b, b ∈ bnames → mg b = none) (gc : ∀ x n, (x, n) ∈ fs.cst → ∃ t, mg x = some (.int ((n : Nat) : Int) t)) (ko : CkOk K w mg fs) (ih : ∀ g, g ∈ fs.fs → FnZ P w K mg base T TY TX fu k g) :
    Cxt (cxOf (L2.CX P w) P w K mg base N f scope a cdv A outer s H E) K (spZ T TY TX fu K k) N fs scope scope := by
  refine ⟨rfl, rfl, rfl, S.nd, rfl, blt, room100 hr, gc, ko.gk, ko.gd, fun g hg => ?_, ko.xd, fun c hc => ?_, fun x hx => ⟨locB_ok hx, .inl rfl⟩⟩
  · obtain ⟨a', fd', ps', F', m, kp, bd⟩ := ih g hg
    exact ⟨a', fd', ps', k + 20, F', hr, m, kp, bd⟩
  · obtain ⟨h1, h2, h3, h4, h5, h6⟩ := ko.xr c hc
    exact ⟨h1, ⟨h2, h3, h4, raises_own h5 h6⟩⟩
/-- a plain def -/
theorem fn_stepZ {f : Str} {args : Arguments} {body : List Stmt} {scope : Scope} {a : Addr} {fd : FuncData} {N ps : List Str} {b : Ss} {k : Nat} (F : FunD K f f args body scope [] [] a fd) (S : FnScope N ps scope) (ok : okSs N fs scope b body = true)
    (blt : ∀ b, b ∈ bnames → mg b = none) (gc : ∀ x n, (x, n) ∈ fs.cst → ∃ t, mg x = some (.int ((n : Nat) : Int) t)) (ko : CkOk K w mg fs) (ih : ∀ g, g ∈ fs.fs → FnZ P w K mg base T TY TX fu k g) (hX : TX f = none) (hY : TY f = none) (hT : T f = some ⟨N, ps, b⟩) : FnOk P w K mg base (L2.CX P w) (k + 20 + 1) a fd ps (dsp K (cP T TY TX fu (k + 1) f)) := by
  refine F.ok S (fun vs H Q E h => ?_) (fun cdv A outer s H vs Q E hr h => ?_)
  · obtain ⟨G, ss, _, ar, q⟩ := h
    rw [cP_plain hX hY hT] at q
    simp only [runB] at q
    split at q
    · rw [ar.length]
      assumption
    · exact False.elim q
  · obtain ⟨G, ss, SG, ar, q⟩ := h
    rw [cP_plain hX hY hT] at q
    simp only [runB] at q
    split at q
    · have C := cxt_Z (A := A) (f := f) (a := a) (cdv := cdv) (outer := outer) (s := s) (H := H) (E := E) S hr blt gc ko ih
      have tk : Takes (cxOf (L2.CX P w) P w K mg base N f scope a cdv A outer s H E) (fun cls d _ H => E cls d H) := takes_of rfl rfl rfl rfl
      have R := fun {σ : L2.St} {ρ : Rho} {fl : Fl} (D : Ends) so he q => semSs (GL := G) (σ := σ) (ρ := ρ) (fl := fl) (W := fun cls d _ H => E cls d H) (G0 := G) (H0 := H) (G := G) (H := H) K (spZ T TY TX fu K k) (cP T TY TX fu k) fu (hsp_Z k) (hspx_Z k) b D so he q
      refine ⟨_, dSs K (spZ T TY TX fu K k) N fs b C ⟨rfl, rfl, rfl⟩ tk (passes_of rfl) body ok, ?_⟩
      cases he : exSs (cP T TY TX fu k) fu b (startR N.length ss) with
      | error e =>
        rw [he] at q
        exact False.elim q
      | ok fl =>
        rw [he] at q
        cases fl with
        | nx ρ' => exact R _ (start_ok SG ar) he fun σ' G' H' so => q G' H' .non so.st (.f .non)
        | rt s' => exact R _ (start_ok SG ar) he fun G' H' v S' r' => q G' H' v S' r'
        | rz c ρ' => exact R _ (start_ok SG ar) he fun σ' G' H' so xo => q G' H' so.st xo
        | bk ρ' => exact False.elim q
        | ct ρ' => exact False.elim q
    · exact False.elim q
/-- a def that changes a list -/
theorem fn_stepZX {f : Str} {args : Arguments} {body : List Stmt} {scope : Scope} {a : Addr} {fd : FuncData} {d : XD} {k : Nat} (F : FunD K f f args body scope [] [] a fd) (S : FnScope d.N d.ps scope) (ok : okSs d.N fs scope (toSs d.p d.body) body = true)
    (blt : ∀ b, b ∈ bnames → mg b = none) (gc : ∀ x n, (x, n) ∈ fs.cst → ∃ t, mg x = some (.int ((n : Nat) : Int) t)) (ko : CkOk K w mg fs) (ih : ∀ g, g ∈ fs.fs → FnZ P w K mg base T TY TX fu k g) (hT : TX f = some d) : FnOk P w K mg base (L2.CX P w) (k + 20 + 1) a fd d.ps (dspX K d.p (cI T TY TX fu (k + 1) f)) := by
  refine F.ok S (fun vs H Q E h => ?_) (fun cdv A outer s H vs Q E hr h => ?_)
  · obtain ⟨G, ss, b, ds, ar, q⟩ := h
    rw [cI_some hT] at q
    simp only [runX] at q
    split at q
    · rename_i hc
      rw [ar.len]
      exact hc.1
    · exact False.elim q
  · obtain ⟨G, ss, b, ds, ar, q⟩ := h
    rw [cI_some hT] at q
    simp only [runX] at q
    split at q
    · rename_i hc
      obtain ⟨m, hm⟩ := ar.sl
      simp only [hm] at q
      have C := cxt_Z (A := A) (f := f) (a := a) (cdv := cdv) (outer := outer) (s := s) (H := H) (E := E) S hr blt gc ko ih
      have tk : Takes (cxOf (L2.CX P w) P w K mg base d.N f scope a cdv A outer s H E) (fun cls d _ H => E cls d H) := takes_of rfl rfl rfl rfl
      refine ⟨_, dSs K (spZ T TY TX fu K k) d.N fs (toSs d.p d.body) C ⟨rfl, rfl, rfl⟩ tk (passes_of rfl) body ok, ?_⟩
      cases he : exX (cP T TY TX fu k) (cI T TY TX fu k) (ppOf TX) d.p d.body ((startR d.N.length ss).set d.p (some ⟨.o, .list ds⟩)) ds with
      | error e =>
        rw [he] at q
        exact False.elim q
      | ok x =>
        obtain ⟨r, ds'⟩ := x
        rw [he] at q
        obtain ⟨ws, hw, rw_⟩ := ar.io
        have sd : Same (del H b) H := fun c o e => by
          have hb : c ≠ b := fun z => by rw [z, del_same] at e; cases e
          rw [del_ne hb] at e
          exact e
        have gd : Same G (del H b) := fun c o e => by
          rw [del_ne (ne_of_none e ar.ga)]
          exact ar.gh _ _ e
        have hp1 : d.p < (start d.N vs).length := by
          unfold L2.start
          rw [List.length_append, List.length_map, ar.len]
          omega
        have hlen : (start d.N vs).length = (startR d.N.length ss).length := by
          unfold L2.start startR
          rw [List.length_append, List.length_append, List.length_map, List.length_map, List.length_replicate, List.length_replicate, ar.len]
        have IO : IoOk K G (del H b) d.p b G H (start d.N vs) ((startR d.N.length ss).set d.p (some ⟨.o, .list ds⟩)) ds := by
          refine ⟨⟨Same.refl _, sd, ar.gh, fun c o _ n => n⟩, del_same, by rw [List.length_set]; exact hlen, ?_, ⟨ws, hw, rw_⟩, ar.ga, List.getElem?_set_self (by rw [← hlen]; exact hp1), fun j s hj hs => ?_⟩
          · unfold L2.start
            rw [List.getElem?_append_left (by rw [List.length_map, ar.len]; exact hc.2), List.getElem?_map, ar.pl]
            rfl
          · rw [List.getElem?_set_ne (Ne.symm hj)] at hs
            unfold startR at hs
            rcases Nat.lt_or_ge j ss.length with hi | hi
            · rw [List.getElem?_append_left (by rw [List.length_map]; exact hi), List.getElem?_map] at hs
              cases hss : ss[j]? with
              | none =>
                rw [hss] at hs
                cases hs
              | some s' =>
                rw [hss] at hs
                cases hs
                obtain ⟨e1, v, e2, e3⟩ := ar.fz j s hj hss
                refine ⟨e1, v, ?_, e3⟩
                unfold L2.start
                rw [List.getElem?_append_left (by rw [List.length_map, ar.len]; exact hi), List.getElem?_map, e2]
                rfl
            · rw [List.getElem?_append_right (by rw [List.length_map]; exact hi), List.getElem?_replicate] at hs
              split at hs <;> cases hs
        exact semX (hsp_Z k) (hio_Z k) d.body _ IO he fun G' H' v vs' S1 r1 h1 r2 g => q G' H' v vs' S1 r1 h1 r2 g
    · exact False.elim q
/-- a def with one io-call -/
theorem fn_stepZY {f : Str} {args : Arguments} {body : List Stmt} {scope : Scope} {a : Addr} {fd : FuncData} {d : FY} {k : Nat} (F : FunD K f f args body scope [] [] a fd) (S : FnScope d.N d.ps scope) (ok : okSs d.N fs scope d.y.body body = true)
    (blt : ∀ b, b ∈ bnames → mg b = none) (gc : ∀ x n, (x, n) ∈ fs.cst → ∃ t, mg x = some (.int ((n : Nat) : Int) t)) (ko : CkOk K w mg fs) (ih : ∀ g, g ∈ fs.fs → FnZ P w K mg base T TY TX fu k g) (hX : TX f = none) (hY : TY f = some d) : FnOk P w K mg base (L2.CX P w) (k + 20 + 1) a fd d.ps (dsp K (cP T TY TX fu (k + 1) f)) := by
  refine F.ok S (fun vs H Q E h => ?_) (fun cdv A outer s H vs Q E hr h => ?_)
  · obtain ⟨G, ss, _, ar, q⟩ := h
    rw [cP_y hX hY] at q
    simp only [runK] at q
    split at q
    · rw [ar.length]
      assumption
    · exact False.elim q
  · obtain ⟨G, ss, SG, ar, q⟩ := h
    rw [cP_y hX hY] at q
    simp only [runK] at q
    split at q
    · have C := cxt_Z (A := A) (f := f) (a := a) (cdv := cdv) (outer := outer) (s := s) (H := H) (E := E) S hr blt gc ko ih
      have tk : Takes (cxOf (L2.CX P w) P w K mg base d.N f scope a cdv A outer s H E) (fun cls d _ H => E cls d H) := takes_of rfl rfl rfl rfl
      have R := fun {σ : L2.St} {ρ : Rho} {fl : Fl} (D : Ends) so he q => semK (K := K) (fu := fu) (sp := spZ T TY TX fu K k) (cl := cP T TY TX fu k) (cx := cI T TY TX fu k) (pp := ppOf TX) (GL := G) (σ := σ) (ρ := ρ) (fl := fl) (W := fun cls d _ H => E cls d H) (G0 := G) (H0 := H) (G := G) (H := H) (hsp_Z k) (hspx_Z k) (hio_Z k) d.y D so he q
      refine ⟨_, dSs K (spZ T TY TX fu K k) d.N fs d.y.body C ⟨rfl, rfl, rfl⟩ tk (passes_of rfl) body ok, ?_⟩
      cases he : exK (cP T TY TX fu k) (cI T TY TX fu k) (ppOf TX) fu d.y (startR d.N.length ss) with
      | error e =>
        rw [he] at q
        exact False.elim q
      | ok fl =>
        rw [he] at q
        cases fl with
        | nx ρ' => exact R _ (start_ok SG ar) he fun σ' G' H' so => q G' H' .non so.st (.f .non)
        | rt s' => exact R _ (start_ok SG ar) he fun G' H' v S' r' => q G' H' v S' r'
        | rz c ρ' => exact R _ (start_ok SG ar) he fun σ' G' H' so xo => q G' H' so.st xo
        | bk ρ' => exact False.elim q
        | ct ρ' => exact False.elim q
    · exact False.elim q
end
/-- the plain defs of a program -/
def tabZ (TY : Str → Option FY) (TX : Str → Option XD) (ds : List PD) (f : Str) : Option FD := match TX f with
  | some _ => none
  | none => match TY f with
    | some _ => none
    | none => tab ds f
/-- what the tables say of the defs -/
structure TabOk (ds : List PD) (TY : Str → Option FY) (TX : Str → Option XD) : Prop where
  x : ∀ d ∈ ds, ∀ e, TX d.name = some e → d.N = e.N ∧ d.ps = e.ps ∧ d.body = toSs e.p e.body
  y : ∀ d ∈ ds, ∀ e, TY d.name = some e → d.N = e.N ∧ d.ps = e.ps ∧ d.body = e.y.body
section
variable {P : Program} {w : World} {K : PySem.W.Frag} {mg : Str → Option Value} {base h : Heap} {fu : Nat} {ds : List PD} {TY : Str → Option FY} {TX : Str → Option XD} {cst : List (Str × Nat)} {ck : List (Str × D)} {cd : List (Str × List (Str × D))} {xr xd : List Str}
theorem one_Z (t : TabOk ds TY TX) (ko : CkOk K w mg ⟨ds.map (·.name), cst, ck, cd, xr, xd⟩) (hd : ∀ d ∈ ds, d.Ok ⟨ds.map (·.name), cst, ck, cd, xr, xd⟩)
    (blt : ∀ b, b ∈ bnames → mg b = none) (gc : ∀ x n, (x, n) ∈ cst → ∃ t, mg x = some (.int ((n : Nat) : Int) t)) {k : Nat} (ih : ∀ g, g ∈ ds.map (·.name) → FnZ P w K mg base (tabZ TY TX ds) TY TX fu k g) {d : PD} (h1 : d ∈ ds) (h3 : tab ds d.name = some ⟨d.N, d.ps, d.body⟩) {fd : FuncData} {a : Addr} (F : FunD K d.name d.name (defArgs d.st) (defBody d.st) (defScope d.st) [] [] a fd) :
    FnOk P w K mg base (L2.CX P w) (k + 20 + 1) a fd d.ps (spZ (tabZ TY TX ds) TY TX fu K (k + 1) d.name) := by
  unfold spZ
  cases e : TX d.name with
  | some x =>
    obtain ⟨e1, e2, e3⟩ := t.x d h1 x e
    have sc := (hd d h1).sc
    have ok : okSs d.N _ (defScope d.st) d.body (defBody d.st) = true := (hd d h1).ok
    rw [e1, e2] at sc
    rw [e1, e3] at ok
    rw [e2]
    exact fn_stepZX F sc ok blt gc ko ih e
  | none =>
    cases e' : TY d.name with
    | some y =>
      obtain ⟨e1, e2, e3⟩ := t.y d h1 y e'
      have sc := (hd d h1).sc
      have ok : okSs d.N _ (defScope d.st) d.body (defBody d.st) = true := (hd d h1).ok
      rw [e1, e2] at sc
      rw [e1, e3] at ok
      rw [e2]
      exact fn_stepZY F sc ok blt gc ko ih e e'
    | none => exact fn_stepZ F (hd d h1).sc (hd d h1).ok blt gc ko ih e e' (by unfold tabZ; rw [e, e']; exact h3)
theorem all_atZ (t : TabOk ds TY TX) (X : K.In h) (G : h.Ns mainGlobals mg) (c : He.SaysD (facts ds cst) (ds.map PD.dd) K) (ko : CkOk K w mg ⟨ds.map (·.name), cst, ck, cd, xr, xd⟩) (hd : ∀ d ∈ ds, d.Ok ⟨ds.map (·.name), cst, ck, cd, xr, xd⟩) :
    ∀ k f, f ∈ ds.map (·.name) → FnZ P w K mg base (tabZ TY TX ds) TY TX fu k f := by
  have blt : ∀ b, b ∈ bnames → mg b = none := fun b hb => He.free_ok X G (He.SaysD.facts c (List.mem_append_right _ (List.mem_append_left _ (List.mem_map_of_mem hb))))
  have gc : ∀ x n, (x, n) ∈ cst → ∃ t, mg x = some (.int ((n : Nat) : Int) t) := fun x n hb => He.int_ok X G (He.SaysD.facts c (List.mem_append_right _ (List.mem_append_right _ (List.mem_map_of_mem (f := fun p : Str × Nat => He.Fa.int p.1 (p.2 : Int)) hb))))
  have glo : ∀ d ∈ ds, mg d.name = some (.ref (He.ga K d.name)) := fun d hd => He.glo_ok X G (He.SaysD.facts c (List.mem_append_left _ (List.mem_map_of_mem hd)))
  have fun_ : ∀ d ∈ ds, ∃ fd, FunD K d.name d.name (defArgs d.st) (defBody d.st) (defScope d.st) [] [] (He.ga K d.name) fd := fun d hd => He.SaysD.defs c (d := d.dd) (List.mem_map_of_mem hd)
  intro k
  induction k with
  | zero =>
    intro f hf
    obtain ⟨d, h1, rfl, h3⟩ := tab_of hf
    obtain ⟨fd, F⟩ := fun_ d h1
    refine ⟨_, fd, d.ps, ?_, glo d h1, F.kp, F.bindsN (hd d h1).bd⟩
    unfold spZ
    cases e : TX d.name with
    | none => exact ⟨fun _ _ _ _ ⟨_, _, _, _, q⟩ => False.elim q, fun _ _ _ _ _ _ _ _ _ _ _ _ _ ⟨_, _, _, _, q⟩ => False.elim q⟩
    | some x => exact ⟨fun _ _ _ _ ⟨_, _, _, _, _, q⟩ => False.elim q, fun _ _ _ _ _ _ _ _ _ _ _ _ _ ⟨_, _, _, _, _, q⟩ => False.elim q⟩
  | succ k ih =>
    intro f hf
    obtain ⟨d, h1, rfl, h3⟩ := tab_of hf
    obtain ⟨fd, F⟩ := fun_ d h1
    exact ⟨_, fd, d.ps, one_Z t ko hd blt gc ih h1 h3 F, glo d h1, F.kp, F.bindsN (hd d h1).bd⟩
theorem law_endZ {n k : Nat} {d : PD} {fa : Addr} {x : Str} (X : K.In h) (G : h.Ns mainGlobals mg) (c : He.SaysD (facts ds cst) (ds.map PD.dd) K) (ko : CkOk K w mg ⟨ds.map (·.name), cst, ck, cd, xr, xd⟩) (hd : ∀ d ∈ ds, d.Ok ⟨ds.map (·.name), cst, ck, cd, xr, xd⟩) (t : TabOk ds TY TX)
    (hm : d ∈ ds) (hT : tab ds d.name = some ⟨d.N, d.ps, d.body⟩) (hn : TX d.name = none) (hx : d.ps = [x]) (hmg : mg d.name = some (.ref fa))
    (ht : ∀ ns : List Int, ns.length ≤ n → cP (tabZ TY TX ds) TY TX fu (k + 1) d.name [⟨.f, .list (ns.map .int)⟩] = .ok ⟨.f, .bool true⟩) :
    ∃ (K : PySem.W.Frag) (fd : FuncData) (sp : Sp), K.In h ∧ (∀ (s : Shared) (u : Value), BindsTo s fd ⟨[u], []⟩ [(x, u)]) ∧
        (∀ (H : Hp) (a : Addr) (ns : List Int), ns.length ≤ n → Only H → SqL K H a (ns.map V.int) → sp [.ref a] H (fun v _ => v = .bl true) fun _ _ _ => False) ∧
        ∀ base : Heap, K.In base → base.Ns mainGlobals mg → FnOk P w K mg base CX0 (k + 20 + 1) fa fd [x] sp := by
  obtain ⟨fd, F⟩ := He.SaysD.defs c (d := d.dd) (List.mem_map_of_mem hm)
  have F' : FunD K d.name d.name (defArgs d.st) (defBody d.st) (defScope d.st) [] [] (He.ga K d.name) fd := F
  have e := hmg.symm.trans (He.glo_ok X G (He.SaysD.facts c (List.mem_append_left _ (List.mem_map_of_mem (f := fun d => He.Fa.glo d.name) hm))))
  cases e
  have bd := (hd d hm).bd
  rw [hx] at bd
  refine ⟨K, fd, fun vs H Q _ => dsp K (cP (tabZ TY TX ds) TY TX fu (k + 1) d.name) vs H Q E0, X, fun s u => F'.bindsA (ps := [x]) bd s [u] rfl, fun H a ns hl _ hS => law_sp hS (ht ns hl), fun base _ _ => ?_⟩
  have blt : ∀ b, b ∈ bnames → mg b = none := fun b hb => He.free_ok X G (He.SaysD.facts c (List.mem_append_right _ (List.mem_append_left _ (List.mem_map_of_mem hb))))
  have gc : ∀ x n, (x, n) ∈ cst → ∃ t, mg x = some (.int ((n : Nat) : Int) t) := fun x n hb => He.int_ok X G (He.SaysD.facts c (List.mem_append_right _ (List.mem_append_right _ (List.mem_map_of_mem (f := fun p : Str × Nat => He.Fa.int p.1 (p.2 : Int)) hb))))
  have q := one_Z (P := P) (base := base) (fu := fu) t ko hd blt gc (all_atZ t X G c ko hd k) hm hT F'
  unfold spZ at q
  rw [hn, hx] at q
  have Z : ∀ {k : Nat} {f : Addr} {fd : FuncData} {ps : List Str} {F : List Sl → M Sl}, FnOk P w K mg base (L2.CX P w) k f fd ps (dsp K F) → FnOk P w K mg base CX0 k f fd ps (fun vs H Q _ => dsp K F vs H Q E0) := fun F => ⟨fun vs H Q E h => F.len vs H Q E0 h, fun A outer s H args us vs Q E hr he hb hv hs => codeAny_mono (F.run A outer s H args us vs Q E0 hr he hb hv hs) fun r s' hq => by
    cases r with
    | error e =>
      obtain ⟨_, _, _, _, _, _, _, _, _, _, _, _, z⟩ := hq
      exact z
    | ok fl =>
      cases fl with
      | ret u => exact hq
      | next => exact hq
      | brk => exact hq
      | cont => exact hq⟩
  exact Z q
end
end GK

namespace K18
open PySem PySem.Spec PyProof.Rows L2 GK
def topS (i : Nat) : Stmt := PySem.Challenge.pw_gatekin_k18_circuits_of_trees.main.body.getD i (.Pass ⟨0, 0, 0, 0⟩)
def i_spread_0 : S := (.ite (.cmp .Gt (.ix (.var 1) (.var 5)) (.glb "MOST_SIZE" 300)) (.cons .nvr .nil) .nil)
def b_spread : Ss := (.cons (.asg (.tp [3, 4, 5]) (.var 0)) (.cons (.asg (.nm 1) (.lc (.int 0) (.nm 8) (.rg1 (.var 3)) .none [8])) (.cons (.for_ (.tp [6, 7]) (.seq (.var 4)) (.cons (.app 1 (.bin .Add (.int 1) (.b1 .sum (.lc (.ix (.var 1) (.var 9)) (.nm 9) (.seq (.var 7)) .none [9])))) .nil)) (.cons i_spread_0 (.cons (.asg (.nm 2) (.lrg (.rg1 (.var 3)))) (.cons (.for_ (.tp [6, 7]) (.seq (.var 4)) (.cons (.app 2 (.tup (.cons (.var 6) (.cons (.b1 .tuple (.lc (.ix (.var 2) (.var 9)) (.nm 9) (.seq (.var 7)) .none [9])) .nil)))) .nil)) (.cons (.ret (.ix (.var 2) (.var 5))) .nil)))))))
def d_spread : PD := ⟨"spread", ["circuit", "sizes", "trees", "inputs", "steps", "out", "gate", "some", "j", "wire"], ["circuit"], b_spread, topS 5⟩
def x_laid : Xs := (.ifr (.not (.isi (.var 0) .tuple)) (.ret (.var 0)) (.ioL 3 "laid" (.cons (.var 4) (.cons (.var 1) (.cons (.var 2) .nil))) 4 (.seq (.ix (.var 0) (.int 1))) (.app (.tup (.cons (.ix (.var 0) (.int 0)) (.cons (.var 3) .nil))) (.ret (.bin .Sub (.bin .Add (.var 1) (.b1 .len (.var 2))) (.int 1))))))
def b_laid : Ss := toSs 2 x_laid
def d_laid : PD := ⟨"laid", ["tree", "inputs", "steps", "some", "part"], ["tree", "inputs", "steps"], b_laid, topS 6⟩
def y_tree_circuit : YV := ⟨(.cons (.asg (.nm 2) (.lst .nil)) .nil), 3, "laid", (.cons (.var 0) (.cons (.var 1) (.cons (.var 2) .nil))), 2, (.cons (.ret (.tup (.cons (.var 1) (.cons (.b1 .tuple (.var 2)) (.cons (.var 3) .nil))))) .nil)⟩
def b_tree_circuit : Ss := y_tree_circuit.body
def d_tree_circuit : PD := ⟨"tree_circuit", ["tree", "inputs", "steps", "out"], ["tree", "inputs"], b_tree_circuit, topS 7⟩
def b_law_cell_at : Ss := (.cons (.ite (.cmp .Lt (.var 1) (.b1 .len (.var 0))) (.cons (.ret (.ix (.var 0) (.var 1))) .nil) .nil) (.cons (.ite (.cmp .Eq (.b1 .len (.var 0)) (.int 0)) (.cons (.ret (.bin .Add (.bin .Mult (.bin .Mult (.var 1) (.var 1)) (.int 48271)) (.bin .Mult (.int 7) (.var 1)))) .nil) .nil) (.cons (.ret (.bin .Add (.bin .FloorDiv (.ix (.var 0) (.bin .Mod (.var 1) (.b1 .len (.var 0)))) (.bin .Add (.int 1) (.bin .FloorDiv (.var 1) (.b1 .len (.var 0))))) (.bin .Mult (.bin .Mult (.var 1) (.var 1)) (.int 7919)))) .nil)))
def d_law_cell_at : PD := ⟨"_law_cell_at", ["_law_script", "_law_k"], ["_law_script", "_law_k"], b_law_cell_at, topS 9⟩
def b_law_gate : Ss := (.cons (.asg (.nm 1) (.ix (.lst (.cons (.int 2) (.cons (.int 2) (.cons (.int 1) (.cons (.int 3) (.cons (.int 2) (.cons (.int 2) (.cons (.int 3) (.cons (.int 1) (.cons (.int 0) (.cons (.int 4) .nil))))))))))) (.bin .Mod (.var 0) (.int 10)))) (.cons (.asg (.nm 0) (.bin .FloorDiv (.var 0) (.int 10))) (.cons (.asg (.nm 2) (.lst (.cons (.int 8) (.cons (.int 14) (.cons (.int 6) (.cons (.int 7) (.cons (.int 9) (.cons (.int 1) (.cons (.int 11) (.cons (.int 2) .nil)))))))))) (.cons (.ite (.and (.cmp .Eq (.var 1) (.int 2)) (.cmp .Eq (.bin .Mod (.var 0) (.int 3)) (.int 0))) (.cons (.ret (.tup (.cons (.int 2) (.cons (.ix (.var 2) (.bin .Mod (.bin .FloorDiv (.var 0) (.int 3)) (.int 8))) .nil)))) .nil) .nil) (.cons (.ret (.tup (.cons (.var 1) (.cons (.bin .Mod (.bin .Add (.bin .Mult (.bin .FloorDiv (.var 0) (.int 3)) (.int 40503)) (.var 0)) (.ix (.lst (.cons (.int 2) (.cons (.int 4) (.cons (.int 16) (.cons (.int 256) (.cons (.int 65536) .nil)))))) (.var 1))) .nil)))) .nil)))))
def d_law_gate : PD := ⟨"_law_gate", ["_law_cell", "_law_inputs", "_law_some"], ["_law_cell"], b_law_gate, topS 10⟩
def c_tree_0 : E := (.and (.cmp .Gt (.var 2) (.int 0)) (.or (.cmp .Eq (.bin .Mod (.var 4) (.int 3)) (.int 0)) (.or (.cmp .Eq (.var 3) (.int 0)) (.cmp .Lt (.ix (.var 1) (.int 1)) (.int 1)))))
def c_tree_1 : E := (.or (.cmp .Eq (.var 3) (.int 0)) (.cmp .Lt (.ix (.var 1) (.int 1)) (.int 1)))
def x_law_tree : Xs := (.set (.int 0) (.bin .Add (.ix (.var 1) (.int 0)) (.int 1)) (.asg 4 (.call "_law_cell_at" (.cons (.var 0) (.cons (.ix (.var 1) (.int 0)) .nil))) (.asg 5 (.call "_law_gate" (.cons (.bin .FloorDiv (.var 4) (.int 3)) .nil)) (.ifr c_tree_0 (.ret (.bin .Mod (.bin .FloorDiv (.var 4) (.int 3)) (.var 2))) (.ifr c_tree_1 (.ret (.tup (.cons (.tup (.cons (.int 0) (.cons (.bin .Mod (.bin .FloorDiv (.var 4) (.int 3)) (.int 2)) .nil))) (.cons (.tup .nil) .nil)))) (.set (.int 1) (.bin .Sub (.ix (.var 1) (.int 1)) (.int 1)) (.ioR 5 "_law_tree" (.cons (.var 0) (.cons (.var 1) (.cons (.var 2) (.cons (.bin .Sub (.var 3) (.int 1)) .nil)))) 6 (.rg1 (.ix (.var 5) (.int 0))))))))))
def b_law_tree : Ss := toSs 1 x_law_tree
def d_law_tree : PD := ⟨"_law_tree", ["_law_script", "_law_state", "_law_inputs", "_law_room", "_law_cell", "_law_gate_here", "_law_k"], ["_law_script", "_law_state", "_law_inputs", "_law_room"], b_law_tree, topS 11⟩
def b_law_out : Ss := (.cons (.asg (.nm 2) (.lc (.bin .BitAnd (.bin .RShift (.var 1) (.var 6)) (.int 1)) (.nm 6) (.rg1 (.ix (.var 0) (.int 0))) .none [6])) (.cons (.for_ (.tp [3, 4]) (.seq (.ix (.var 0) (.int 1))) (.cons (.asg (.nm 5) (.b1 .sum (.lc (.bin .LShift (.ix (.var 2) (.var 8)) (.var 7)) (.tp [7, 8]) (.enm (.var 4)) .none [7, 8]))) (.cons (.app 2 (.bin .BitAnd (.bin .RShift (.ix (.var 3) (.int 1)) (.var 5)) (.int 1))) .nil))) (.cons (.ret (.ix (.var 2) (.ix (.var 0) (.int 2)))) .nil)))
def d_law_out : PD := ⟨"_law_out", ["_law_circuit", "_law_row", "_law_found", "_law_gate_here", "_law_some", "_law_at", "_law_j", "_law_k", "_law_wire"], ["_law_circuit", "_law_row"], b_law_out, topS 12⟩
def b_law_value : Ss := (.cons (.ite (.not (.isi (.var 0) .tuple)) (.cons (.ret (.bin .BitAnd (.bin .RShift (.var 1) (.var 0)) (.int 1))) .nil) .nil) (.cons (.asg (.nm 2) (.int 0)) (.cons (.for_ (.tp [3, 4]) (.enm (.ix (.var 0) (.int 1))) (.cons (.asg (.nm 2) (.bin .Add (.var 2) (.bin .LShift (.call "_law_value" (.cons (.var 4) (.cons (.var 1) .nil))) (.var 3)))) .nil)) (.cons (.ret (.bin .BitAnd (.bin .RShift (.ix (.ix (.var 0) (.int 0)) (.int 1)) (.var 2)) (.int 1))) .nil))))
def d_law_value : PD := ⟨"_law_value", ["_law_tree_here", "_law_row", "_law_at", "_law_k", "_law_part"], ["_law_tree_here", "_law_row"], b_law_value, topS 13⟩
def i_law_laid_1 : S := (.ite (.var 6) (.cons (.asg (.nm 7) (.b1 .len (.ix (.var 5) (.int 1)))) (.cons (.asg (.nm 8) (.b1 .tuple (.sl (.var 3) (.some (.bin .Sub (.b1 .len (.var 3)) (.var 7))) .none))) (.frz 8 (.cons (.asg (.nm 3) (.sl (.var 3) .none (.some (.bin .Sub (.b1 .len (.var 3)) (.var 7))))) (.cons (.app 2 (.tup (.cons (.ix (.var 5) (.int 0)) (.cons (.var 8) .nil)))) (.cons (.app 3 (.bin .Sub (.bin .Add (.var 1) (.b1 .len (.var 2))) (.int 1))) .nil)))))) (.cons (.app 4 (.tup (.cons (.var 5) (.cons (.bl true) .nil)))) (.cons (.ext 4 (.lc (.tup (.cons (.var 9) (.cons (.bl false) .nil))) (.nm 9) (.rev (.ix (.var 5) (.int 1))) .none [9])) .nil)))
def i_law_laid_0 : S := (.ite (.not (.isi (.var 5) .tuple)) (.cons (.app 3 (.var 5)) .nil) (.cons i_law_laid_1 .nil))
def b_law_laid : Ss := (.cons (.asg (.nm 2) (.lst .nil)) (.cons (.asg (.nm 3) (.lst .nil)) (.cons (.asg (.nm 4) (.lst (.cons (.tup (.cons (.var 0) (.cons (.bl false) .nil))) .nil))) (.cons (.whl (.cmp .Gt (.b1 .len (.var 4)) (.int 0)) (.cons (.ef (.asg (.tp [5, 6])) (.pop 4) .hd) (.cons i_law_laid_0 .nil))) (.cons (.ret (.tup (.cons (.var 1) (.cons (.b1 .tuple (.var 2)) (.cons (.ix (.var 3) (.int 0)) .nil))))) .nil)))))
def d_law_laid : PD := ⟨"_law_laid", ["_law_tree_here", "_law_inputs", "_law_steps", "_law_heads", "_law_pile", "_law_part", "_law_done", "_law_size", "_law_some", "_law_inner"], ["_law_tree_here", "_law_inputs"], b_law_laid, topS 14⟩
def i_law_1 : S := (.ite (.cmp .NotEq (.call "_law_out" (.cons (.var 4) (.cons (.var 5) .nil))) (.call "_law_value" (.cons (.var 3) (.cons (.var 5) .nil)))) (.cons (.ret (.bl false)) .nil) .nil)
def i_law_0 : S := (.ite (.or (.not (.isi (.var 4) .tuple)) (.cmp .NotEq (.var 4) (.call "_law_laid" (.cons (.var 3) (.cons (.var 1) .nil))))) (.cons (.ret (.bl false)) .nil) .nil)
def y_law : YD := ⟨(.cons (.asg (.nm 1) (.bin .Mod (.call "_law_cell_at" (.cons (.var 0) (.cons (.int 0) .nil))) (.int 5))) (.frz 1 (.cons (.asg (.nm 2) (.ix (.lst (.cons (.int 20) (.cons (.int 120) .nil))) (.b1 .int (.and (.cmp .Gt (.var 1) (.int 0)) (.cmp .Eq (.bin .Mod (.bin .FloorDiv (.call "_law_cell_at" (.cons (.var 0) (.cons (.int 0) .nil))) (.int 5)) (.int 8)) (.int 5)))))) .nil))), 3, "_law_tree", (.cons (.var 0) (.cons (.lst (.cons (.int 0) (.cons (.var 2) .nil))) (.cons (.var 1) (.cons (.bin .Add (.int 6) (.bin .FloorDiv (.var 2) (.int 40))) .nil)))), (.frz 3 (.cons (.asg (.nm 4) (.call "tree_circuit" (.cons (.var 3) (.cons (.var 1) .nil)))) (.frz 4 (.cons i_law_0 (.cons (.for_ (.nm 5) (.rg1 (.bin .LShift (.int 1) (.var 1))) (.cons i_law_1 .nil)) (.cons (.ret (.cmp .Eq (.call "spread" (.cons (.var 4) .nil)) (.var 3))) .nil))))))⟩
def b_law : Ss := y_law.body
def d_law : PD := ⟨"law", ["_law_script", "_law_inputs", "_law_most", "_law_tree_here", "_law_found", "_law_row"], ["_law_script"], b_law, topS 15⟩
def defs : List PD := [d_spread, d_laid, d_tree_circuit, d_law_cell_at, d_law_gate, d_law_tree, d_law_out, d_law_value, d_law_laid, d_law]
def xd_tree : XD := ⟨["_law_script", "_law_state", "_law_inputs", "_law_room", "_law_cell", "_law_gate_here", "_law_k"], ["_law_script", "_law_state", "_law_inputs", "_law_room"], 1, x_law_tree⟩
def xd_laid : XD := ⟨["tree", "inputs", "steps", "some", "part"], ["tree", "inputs", "steps"], 2, x_laid⟩
def TX (f : Str) : Option XD := if f = ("_law_tree" : Str) then some xd_tree else if f = ("laid" : Str) then some xd_laid else none
def fy_circuit : FY := ⟨["tree", "inputs", "steps", "out"], ["tree", "inputs"], .var y_tree_circuit⟩
def fy_law : FY := ⟨["_law_script", "_law_inputs", "_law_most", "_law_tree_here", "_law_found", "_law_row"], ["_law_script"], .lit y_law⟩
def TY (f : Str) : Option FY := if f = ("tree_circuit" : Str) then some fy_circuit else if f = ("law" : Str) then some fy_law else none
def cst : List (Str × Nat) := [("MOST_SIZE", 300)]
def ck : List (Str × D) := []
def cd : List (Str × List (Str × D)) := []
def xr : List Str := []
def xd : List Str := []
def fs : Fs := ⟨defs.map (·.name), cst, ck, cd, xr, xd⟩
def fu : Nat := 1000000000
abbrev run (k : Nat) (f : Str) (ss : List Sl) : M Sl := GK.cP (tabZ TY TX defs) TY TX fu k f ss
theorem run_spread (k : Nat) (ss : List Sl) : run (k + 1) "spread" ss = runB (run k) fu ⟨["circuit", "sizes", "trees", "inputs", "steps", "out", "gate", "some", "j", "wire"], ["circuit"], b_spread⟩ ss := by
  have e : tabZ TY TX defs "spread" = some ⟨["circuit", "sizes", "trees", "inputs", "steps", "out", "gate", "some", "j", "wire"], ["circuit"], b_spread⟩ := by kernel_rfl
  exact GK.cP_plain (by kernel_rfl) (by kernel_rfl) e
theorem run_law_cell_at (k : Nat) (ss : List Sl) : run (k + 1) "_law_cell_at" ss = runB (run k) fu ⟨["_law_script", "_law_k"], ["_law_script", "_law_k"], b_law_cell_at⟩ ss := by
  have e : tabZ TY TX defs "_law_cell_at" = some ⟨["_law_script", "_law_k"], ["_law_script", "_law_k"], b_law_cell_at⟩ := by kernel_rfl
  exact GK.cP_plain (by kernel_rfl) (by kernel_rfl) e
theorem run_law_gate (k : Nat) (ss : List Sl) : run (k + 1) "_law_gate" ss = runB (run k) fu ⟨["_law_cell", "_law_inputs", "_law_some"], ["_law_cell"], b_law_gate⟩ ss := by
  have e : tabZ TY TX defs "_law_gate" = some ⟨["_law_cell", "_law_inputs", "_law_some"], ["_law_cell"], b_law_gate⟩ := by kernel_rfl
  exact GK.cP_plain (by kernel_rfl) (by kernel_rfl) e
theorem run_law_out (k : Nat) (ss : List Sl) : run (k + 1) "_law_out" ss = runB (run k) fu ⟨["_law_circuit", "_law_row", "_law_found", "_law_gate_here", "_law_some", "_law_at", "_law_j", "_law_k", "_law_wire"], ["_law_circuit", "_law_row"], b_law_out⟩ ss := by
  have e : tabZ TY TX defs "_law_out" = some ⟨["_law_circuit", "_law_row", "_law_found", "_law_gate_here", "_law_some", "_law_at", "_law_j", "_law_k", "_law_wire"], ["_law_circuit", "_law_row"], b_law_out⟩ := by kernel_rfl
  exact GK.cP_plain (by kernel_rfl) (by kernel_rfl) e
theorem run_law_value (k : Nat) (ss : List Sl) : run (k + 1) "_law_value" ss = runB (run k) fu ⟨["_law_tree_here", "_law_row", "_law_at", "_law_k", "_law_part"], ["_law_tree_here", "_law_row"], b_law_value⟩ ss := by
  have e : tabZ TY TX defs "_law_value" = some ⟨["_law_tree_here", "_law_row", "_law_at", "_law_k", "_law_part"], ["_law_tree_here", "_law_row"], b_law_value⟩ := by kernel_rfl
  exact GK.cP_plain (by kernel_rfl) (by kernel_rfl) e
theorem run_law_laid (k : Nat) (ss : List Sl) : run (k + 1) "_law_laid" ss = runB (run k) fu ⟨["_law_tree_here", "_law_inputs", "_law_steps", "_law_heads", "_law_pile", "_law_part", "_law_done", "_law_size", "_law_some", "_law_inner"], ["_law_tree_here", "_law_inputs"], b_law_laid⟩ ss := by
  have e : tabZ TY TX defs "_law_laid" = some ⟨["_law_tree_here", "_law_inputs", "_law_steps", "_law_heads", "_law_pile", "_law_part", "_law_done", "_law_size", "_law_some", "_law_inner"], ["_law_tree_here", "_law_inputs"], b_law_laid⟩ := by kernel_rfl
  exact GK.cP_plain (by kernel_rfl) (by kernel_rfl) e
abbrev runI (k : Nat) (f : Str) (ss : List Sl) : M (D × List D) := GK.cI (tabZ TY TX defs) TY TX fu k f ss
theorem runI_tree (k : Nat) (ss : List Sl) : runI (k + 1) "_law_tree" ss = runX (run k) (runI k) (ppOf TX) xd_tree ss := GK.cI_some (by kernel_rfl)
theorem runI_laid (k : Nat) (ss : List Sl) : runI (k + 1) "laid" ss = runX (run k) (runI k) (ppOf TX) xd_laid ss := GK.cI_some (by kernel_rfl)
theorem run_tree_circuit (k : Nat) (ss : List Sl) : run (k + 1) "tree_circuit" ss = runK (run k) (runI k) (ppOf TX) fu fy_circuit ss := GK.cP_y (by kernel_rfl) (by kernel_rfl)
theorem run_law (k : Nat) (ss : List Sl) : run (k + 1) "law" ss = runK (run k) (runI k) (ppOf TX) fu fy_law ss := GK.cP_y (by kernel_rfl) (by kernel_rfl)
end K18

namespace K18
open GK PySem
/-! ### gates.py: bits and values -/
def bitN (n k : Nat) : Nat := n / 2 ^ k % 2
def numN : List Nat → Nat
  | [] => 0
  | b :: bs => b + 2 * numN bs
theorem numN_append (xs ys : List Nat) : numN (xs ++ ys) = numN xs + 2 ^ xs.length * numN ys := by
  induction xs with
  | nil => simp [numN]
  | cons x xs ih => simp only [List.cons_append, numN, ih, List.length_cons, Nat.pow_succ, Nat.mul_add]; rw [Nat.mul_assoc, Nat.mul_left_comm, Nat.add_assoc]
theorem numN_take {bs : List Nat} {i b : Nat} (h : bs[i]? = some b) : numN (bs.take (i + 1)) = numN (bs.take i) + b * 2 ^ i := by
  have hl : i < bs.length := GK.at_lt h
  rw [List.take_succ, h, numN_append, List.length_take, Nat.min_eq_left (Nat.le_of_lt hl)]
  show _ + 2 ^ i * (b + 2 * 0) = _
  rw [Nat.mul_zero, Nat.add_zero, Nat.mul_comm]
theorem bitN_lt (n k : Nat) : bitN n k < 2 := Nat.mod_lt _ (by decide)
theorem bitN_half (a r : Nat) : bitN a (r + 1) = bitN (a / 2) r := by
  simp only [bitN]
  rw [Nat.pow_succ, Nat.mul_comm (2 ^ r) 2, ← Nat.div_div_eq_div_mul]
/-- the bits of a number make it again -/
theorem numN_bits (b : Nat) : ∀ m : Nat, numN ((List.range m).map (bitN b)) = b % 2 ^ m := by
  intro m
  induction m with
  | zero => simp [numN, Nat.mod_one]
  | succ m ih =>
    rw [List.range_succ, List.map_append, numN_append, ih, List.length_map, List.length_range]
    show b % 2 ^ m + 2 ^ m * (bitN b m + 2 * 0) = _
    rw [Nat.mul_zero, Nat.add_zero, Nat.pow_succ, Nat.mod_mul, bitN]
theorem numN_lt : ∀ (bs : List Nat), (∀ b ∈ bs, b < 2) → numN bs < 2 ^ bs.length
  | [], _ => by simp [numN]
  | b :: bs, h => by
    have h1 := h b List.mem_cons_self
    have h2 := numN_lt bs fun x hx => h x (List.mem_cons_of_mem _ hx)
    simp only [numN, List.length_cons, Nat.pow_succ]
    omega
/-- bit k of a number made of bits -/
theorem bitN_numN : ∀ (bs : List Nat) (k : Nat), (∀ b ∈ bs, b < 2) → bitN (numN bs) k = bs.getD k 0
  | [], k, _ => by simp [bitN, numN]
  | b :: bs, 0, h => by
    have h1 := h b List.mem_cons_self
    simp only [bitN, numN, Nat.pow_zero, Nat.div_one, List.getD_cons_zero]
    omega
  | b :: bs, k + 1, h => by
    have h1 := h b List.mem_cons_self
    have ih := bitN_numN bs k fun x hx => h x (List.mem_cons_of_mem _ hx)
    rw [List.getD_cons_succ, ← ih]
    simp only [bitN, numN]
    rw [Nat.pow_succ, Nat.mul_comm (2 ^ k) 2, ← Nat.div_div_eq_div_mul]
    congr 2
    omega
/-- a gate -/
def gD (n b : Nat) : D := .tuple [nD n, nD b]
def valN (b : Nat) (vs : List Nat) : Nat := bitN b (numN vs)

/-! ### small helpers of laws -/
def bndN (n : Nat) : Nat := 2 ^ 2 ^ n
theorem bnd_at {n : Nat} (h : n < 5) : L2.atI [PyData.int ((2 : Nat) : Int), .int ((4 : Nat) : Int), .int ((16 : Nat) : Int), .int ((256 : Nat) : Int), .int ((65536 : Nat) : Int)] (n : Int) = some (.int (bndN n : Nat)) := by
  refine GK.atI_ofNat ?_
  rcases n with _ | _ | _ | _ | _ | n
  all_goals first | rfl | omega
theorem bnd_pos (n : Nat) : 0 < bndN n := Nat.two_pow_pos _
theorem bnd_le {n : Nat} (h : n < 5) : bndN n ≤ 65536 := by
  unfold bndN
  have : 2 ^ n ≤ 2 ^ 4 := Nat.pow_le_pow_right (by decide) (by omega)
  calc 2 ^ 2 ^ n ≤ 2 ^ 2 ^ 4 := Nat.pow_le_pow_right (by decide) this
    _ = 65536 := by decide

/-! ### lists and literals -/
theorem getD_at {o : List Nat} {i : Nat} (h : i < o.length) : o[i]? = some (o.getD i 0) := by
  rw [List.getD_eq_getElem?_getD, List.getElem?_eq_getElem h]
  rfl
theorem getD_map {α β : Type} (f : α → β) (l : List α) (i : Nat) (d : β) (z : α) (h : i < l.length) : (l.map f).getD i d = f (l.getD i z) := by
  rw [List.getD_eq_getElem?_getD, List.getElem?_map, List.getElem?_eq_getElem h, List.getD_eq_getElem?_getD, List.getElem?_eq_getElem h]
  rfl
/-! literal lists -/
theorem at_lit {P : Nat → Prop} {ds : List D} {i : Nat} (h : ∀ d ∈ ds, ∃ v : Nat, d = PyData.int (v : Int) ∧ P v) (hi : i < ds.length) : ∃ v : Nat, L2.atI ds (i : Int) = some (.int (v : Int)) ∧ P v := by
  obtain ⟨v, e, p⟩ := h ds[i] (List.getElem_mem hi)
  refine ⟨v, GK.atI_ofNat ?_, p⟩
  rw [List.getElem?_eq_getElem hi, e]
theorem mulOkR {x : Int} {n : Nat} (h : n < 2 ^ 64) : GK.mulOk x (n : Int) = true := by
  unfold GK.mulOk
  rw [Bool.or_eq_true, Bool.and_eq_true, decide_eq_true_eq, Bool.and_eq_true, decide_eq_true_eq, decide_eq_true_eq, decide_eq_true_eq]
  exact .inr ⟨by omega, by omega⟩
theorem binI_mulR {x : Int} {n : Nat} (h : n < 2 ^ 64) : GK.binI .Mult x (n : Int) = .ok (fI (x * (n : Int))) := by
  rw [GK.binI_mul, mulOkR h, GK.ckI_t]
theorem take_snoc {α : Type} {xs : List α} {i : Nat} {x : α} (h : xs[i]? = some x) : xs.take (i + 1) = xs.take i ++ [x] := by
  rw [List.take_succ, h]
  rfl

def wsum (f : Nat → Nat) (w : List Nat) : Nat := ((List.range w.length).map fun i => w.getD i 0 * f i).sum
theorem sum_append (xs ys : List Nat) : (xs ++ ys).sum = xs.sum + ys.sum := by
  induction xs with
  | nil => simp
  | cons x xs ih => simp only [List.cons_append, List.sum_cons, ih]; omega
theorem wsum_snoc (f : Nat → Nat) (w : List Nat) (x : Nat) : wsum f (w ++ [x]) = wsum f w + x * f w.length := by
  unfold wsum
  rw [List.length_append, List.length_singleton, List.range_succ, List.map_append, sum_append]
  congr 1
  · congr 1
    apply List.map_congr_left
    intro i hi
    have := List.mem_range.mp hi
    rw [List.getD_eq_getElem?_getD, List.getD_eq_getElem?_getD, List.getElem?_append_left this]
  · simp [List.getD_eq_getElem?_getD]
theorem wsum_pow : ∀ w : List Nat, wsum (2 ^ ·) w = numN w := by
  intro w
  have aux : ∀ n (w : List Nat), w.length = n → wsum (2 ^ ·) w = numN w := by
    intro n
    induction n with
    | zero =>
      intro w h
      cases w with
      | nil => rfl
      | cons _ _ => cases h
    | succ n ih =>
      intro w h
      rcases List.eq_nil_or_concat w with e | ⟨l, x, e⟩
      · subst e
        cases h
      · subst e
        rw [List.concat_eq_append, List.length_append] at h
        rw [List.concat_eq_append, wsum_snoc, ih l (by simpa using h), numN_append]
        simp [numN, Nat.mul_comm]
  exact aux _ w rfl

/-! ### cells and gates drawn by the numbers -/
def cell2 (ns : List Int) (k : Nat) : Int :=
  if k < ns.length then cellI ns k else if ns.length = 0 then ((k * k * 48271 + 7 * k : Nat) : Int) else cellI ns (k % ns.length) / ((1 + k / ns.length : Nat) : Int) + ((k * k * 7919 : Nat) : Int)
theorem law_cell2_run (l : Nat) (ns : List Int) (hns : ns.length ≤ 63) (k : Nat) (hk : k ≤ 100000) : run (l + 1) "_law_cell_at" [⟨.f, .list (ns.map .int)⟩, fI (k : Nat)] = .ok (fI (cell2 ns k)) := by
  rw [run_law_cell_at, runB_eq]
  have hkk : k * k ≤ 100000 * 100000 := Nat.mul_le_mul hk hk
  simp only [b_law_cell_at, GK.ok_bind, GK.pure_M, GK.bind_assoc', GK.vm_f, GK.vm_o, GK.vm_p, GK.vm_vm, GK.rdV_mk, GK.rdV_fI, GK.rdV_fB, GK.evE_var, GK.evE_int, GK.evE_bl, GK.evE_non, GK.evE_str, GK.evE_bin, GK.evE_neg, GK.evE_inv, GK.evE_cmp, GK.ifM_t, GK.ifM_f, GK.evE_chn, GK.evE_isN, GK.evE_notN, GK.evE_and, GK.evE_or, GK.evE_not, GK.evE_ife, GK.evE_tup, GK.evE_lst, GK.evE_ix, GK.evE_sl, GK.evE_call, GK.evE_b1, GK.evE_isi, GK.evE_lc, GK.evE_lrg, GK.evF_nil, GK.evF_cons, GK.evA_nil, GK.evA_cons, GK.getI_int, GK.evO_none, GK.evO_some, GK.evC_none, GK.evC_some, GK.evI_rg1, GK.evI_rg2, GK.evI_seq, GK.seqF_nx, GK.seqF_rt, GK.seqF_bk, GK.seqF_ct, GK.exSs_nil, GK.exSs_cons, GK.exSs_frz, GK.exS_asg, GK.exS_setix, GK.exS_app, GK.exS_ext, GK.exS_exp, GK.exS_ret, GK.exS_retN, GK.exS_ite, GK.exS_for, GK.exS_whl, GK.exS_brk, GK.exS_cont, GK.exS_pass, GK.fin_rt, GK.fin_nx, GK.bindT_nm, GK.bindT_nmo, GK.bindT_nI, GK.bindT_nB, GK.bindT_tp2, GK.bindT_tp3, GK.bindT_tl5, GK.fI_d, GK.fB_d, GK.fI_m, GK.fB_m, GK.asF_f, GK.asF_o, GK.asF_fI, GK.asF_fB, GK.asB_b, GK.argS_f, GK.argS_o, GK.argS_p, GK.argS_v, GK.argS_fI, GK.argS_fB, GK.retS_f, GK.retS_o, GK.retS_fI, GK.retS_fB, GK.retP_o, GK.retS_p, GK.ownG_o, GK.ownL_eq, GK.frzG_o, GK.frzG_f, GK.frzG_fI, GK.frzG_fB, GK.frzR_eq, GK.extG_list, GK.isF_f, GK.isF_o, GK.isF_p, GK.binop_int, GK.binop_cat, GK.binop_rep, GK.ckI_t, GK.ckO_t, GK.unop_neg, GK.unop_inv, GK.cmpop_eq, GK.cmpop_ne, GK.optS_some, GK.ixD_list, GK.ixD_tup, GK.slD_list, GK.b1D_len, GK.b1D_lenT, GK.b1D_list, GK.b1D_listT, GK.b1D_tup, GK.b1D_tupT, GK.b1D_int, GK.b1D_intN, GK.b1D_sum, GK.sumS_some, GK.allS_some, GK.b1D_all, GK.b1D_any, GK.itemsD_list, GK.itemsD_tup, GK.ix_t0, GK.ix_t1, GK.ix_t2, GK.nD_def, GK.fI_eq', GK.fB_eq', GK.deq_pair, GK.natDec, GK.decide_self, GK.notP_rg1, GK.notP_rg2, GK.notPs_f, GK.notPs_o, GK.notP_seq, GK.esLen, Nat.reduceLeDiff, decide_true, decide_false, List.getElem?_cons_zero, List.getElem?_cons_succ, List.set_cons_zero, List.set_cons_succ, List.length_cons, List.length_nil, List.map_cons, List.map_nil, List.replicate_succ, List.replicate_zero, List.append_nil, List.nil_append, List.cons_append, Nat.reduceAdd, Nat.reduceSub, GK.startR, GK.tgIn, GK.isRg, List.contains_cons, List.all_cons, List.all_nil, Bool.and_true, Bool.true_and, Bool.not_true, Bool.not_false, beq_self_eq_true, Bool.or_true, Bool.true_or, Bool.or_false, Bool.false_or, Nat.not_lt_zero, GK.wipeR, GK.isNone, GK.isiD, GK.evE_glb, GK.evE_sst, GK.evE_gk, GK.evE_gdx, GK.evE_dsp, GK.evP_nil, GK.evP_cons, GK.evE_mm, GK.evE_rvl, GK.evI_rg3, GK.evI_enm, GK.evI_rev, GK.evI_zp, GK.evI_rvr, GK.notP_rg3, GK.notP_rvr, GK.notP_enm, GK.notP_rev, GK.notP_zp, GK.ckTu_t, GK.binop_catT, GK.slD_tup, GK.rvD_list, GK.cmpop_is, GK.cmpop_isnot, GK.negM_ok', GK.cmpop_in, GK.cmpop_notin, GK.cmpop_inT, GK.cmpop_notinT, GK.beq_t, GK.beq_f, GK.evE_dnw, GK.evE_dsp1, GK.setO_eq, GK.setS_list, GK.setS_dict, GK.keyOk_int, GK.keyOk_str, GK.ixD_dictI, GK.ixD_dictS, GK.cmpop_inK, GK.cmpop_notinK, GK.inK_int, GK.inK_str, GK.look_kT, GK.put_kT, GK.deq_bool, GK.lentE_var, GK.lentE_call, GK.lentE_lst, GK.lentE_tup, GK.lentE_ix, GK.lentE_sl, GK.lentE_bin, GK.lentE_b1, GK.lentE_lc, GK.lentE_lrg, GK.lentE_rvl, GK.lentE_sst, GK.lentE_gk, GK.lentE_gdx, GK.lentE_dsp, GK.lentO_p, GK.lentO_f, GK.lentO_o, GK.frzB_t, GK.frzB_f, GK.nmkD_list, GK.nmkD_tuple, GK.nmkD_int, GK.nmkD_bool, GK.nmkD_dict, GK.nmk_nil, GK.nmk_int, GK.nmk_str, GK.nmk_kT, GK.nmk_kv, GK.nmk_none, GK.keyOk_tup, GK.exS_ndn, GK.inK_tup, GK.inN_mk, GK.ixD_dictT, GK.getN_mk, GK.optD_some, GK.setSN_eq, GK.setN_mk, GK.b1D_tupN, GK.b1D_lenK, GK.b1D_lenD, GK.evE_lns, GK.evE_pk2, GK.exS_fst, Bool.false_and, Bool.and_false, GK.binI_add_nat, GK.binI_shr_nat, GK.binI_and1_nat, GK.deq_nat, GK.cmpop_lt_nat, GK.cmpop_le_nat, GK.cmpop_gt_nat, GK.cmpop_ge_nat, GK.binI_or_nat, GK.binI_xor_nat, GK.mmD_maxN, GK.mmD_minN, GK.inD_nats, GK.inF_nats, GK.intsD_nats, GK.sum_cast, List.length_map]
  by_cases h : k < ns.length
  · have e : cell2 ns k = cellI ns k := if_pos h
    have hc : cellI ns k = ns[k] := by unfold cellI; rw [List.getD_eq_getElem?_getD, List.getElem?_eq_getElem h]; rfl
    simp only [h, GK.ok_bind, GK.pure_M, GK.bind_assoc', GK.vm_f, GK.vm_o, GK.vm_p, GK.vm_vm, GK.rdV_mk, GK.rdV_fI, GK.rdV_fB, GK.evE_var, GK.evE_int, GK.evE_bl, GK.evE_non, GK.evE_str, GK.evE_bin, GK.evE_neg, GK.evE_inv, GK.evE_cmp, GK.ifM_t, GK.ifM_f, GK.evE_chn, GK.evE_isN, GK.evE_notN, GK.evE_and, GK.evE_or, GK.evE_not, GK.evE_ife, GK.evE_tup, GK.evE_lst, GK.evE_ix, GK.evE_sl, GK.evE_call, GK.evE_b1, GK.evE_isi, GK.evE_lc, GK.evE_lrg, GK.evF_nil, GK.evF_cons, GK.evA_nil, GK.evA_cons, GK.getI_int, GK.evO_none, GK.evO_some, GK.evC_none, GK.evC_some, GK.evI_rg1, GK.evI_rg2, GK.evI_seq, GK.seqF_nx, GK.seqF_rt, GK.seqF_bk, GK.seqF_ct, GK.exSs_nil, GK.exSs_cons, GK.exSs_frz, GK.exS_asg, GK.exS_setix, GK.exS_app, GK.exS_ext, GK.exS_exp, GK.exS_ret, GK.exS_retN, GK.exS_ite, GK.exS_for, GK.exS_whl, GK.exS_brk, GK.exS_cont, GK.exS_pass, GK.fin_rt, GK.fin_nx, GK.bindT_nm, GK.bindT_nmo, GK.bindT_nI, GK.bindT_nB, GK.bindT_tp2, GK.bindT_tp3, GK.bindT_tl5, GK.fI_d, GK.fB_d, GK.fI_m, GK.fB_m, GK.asF_f, GK.asF_o, GK.asF_fI, GK.asF_fB, GK.asB_b, GK.argS_f, GK.argS_o, GK.argS_p, GK.argS_v, GK.argS_fI, GK.argS_fB, GK.retS_f, GK.retS_o, GK.retS_fI, GK.retS_fB, GK.retP_o, GK.retS_p, GK.ownG_o, GK.ownL_eq, GK.frzG_o, GK.frzG_f, GK.frzG_fI, GK.frzG_fB, GK.frzR_eq, GK.extG_list, GK.isF_f, GK.isF_o, GK.isF_p, GK.binop_int, GK.binop_cat, GK.binop_rep, GK.ckI_t, GK.ckO_t, GK.unop_neg, GK.unop_inv, GK.cmpop_eq, GK.cmpop_ne, GK.optS_some, GK.ixD_list, GK.ixD_tup, GK.slD_list, GK.b1D_len, GK.b1D_lenT, GK.b1D_list, GK.b1D_listT, GK.b1D_tup, GK.b1D_tupT, GK.b1D_int, GK.b1D_intN, GK.b1D_sum, GK.sumS_some, GK.allS_some, GK.b1D_all, GK.b1D_any, GK.itemsD_list, GK.itemsD_tup, GK.ix_t0, GK.ix_t1, GK.ix_t2, GK.nD_def, GK.fI_eq', GK.fB_eq', GK.deq_pair, GK.natDec, GK.decide_self, GK.notP_rg1, GK.notP_rg2, GK.notPs_f, GK.notPs_o, GK.notP_seq, GK.esLen, Nat.reduceLeDiff, decide_true, decide_false, List.getElem?_cons_zero, List.getElem?_cons_succ, List.set_cons_zero, List.set_cons_succ, List.length_cons, List.length_nil, List.map_cons, List.map_nil, List.replicate_succ, List.replicate_zero, List.append_nil, List.nil_append, List.cons_append, Nat.reduceAdd, Nat.reduceSub, GK.startR, GK.tgIn, GK.isRg, List.contains_cons, List.all_cons, List.all_nil, Bool.and_true, Bool.true_and, Bool.not_true, Bool.not_false, beq_self_eq_true, Bool.or_true, Bool.true_or, Bool.or_false, Bool.false_or, Nat.not_lt_zero, GK.wipeR, GK.isNone, GK.isiD, GK.evE_glb, GK.evE_sst, GK.evE_gk, GK.evE_gdx, GK.evE_dsp, GK.evP_nil, GK.evP_cons, GK.evE_mm, GK.evE_rvl, GK.evI_rg3, GK.evI_enm, GK.evI_rev, GK.evI_zp, GK.evI_rvr, GK.notP_rg3, GK.notP_rvr, GK.notP_enm, GK.notP_rev, GK.notP_zp, GK.ckTu_t, GK.binop_catT, GK.slD_tup, GK.rvD_list, GK.cmpop_is, GK.cmpop_isnot, GK.negM_ok', GK.cmpop_in, GK.cmpop_notin, GK.cmpop_inT, GK.cmpop_notinT, GK.beq_t, GK.beq_f, GK.evE_dnw, GK.evE_dsp1, GK.setO_eq, GK.setS_list, GK.setS_dict, GK.keyOk_int, GK.keyOk_str, GK.ixD_dictI, GK.ixD_dictS, GK.cmpop_inK, GK.cmpop_notinK, GK.inK_int, GK.inK_str, GK.look_kT, GK.put_kT, GK.deq_bool, GK.lentE_var, GK.lentE_call, GK.lentE_lst, GK.lentE_tup, GK.lentE_ix, GK.lentE_sl, GK.lentE_bin, GK.lentE_b1, GK.lentE_lc, GK.lentE_lrg, GK.lentE_rvl, GK.lentE_sst, GK.lentE_gk, GK.lentE_gdx, GK.lentE_dsp, GK.lentO_p, GK.lentO_f, GK.lentO_o, GK.frzB_t, GK.frzB_f, GK.nmkD_list, GK.nmkD_tuple, GK.nmkD_int, GK.nmkD_bool, GK.nmkD_dict, GK.nmk_nil, GK.nmk_int, GK.nmk_str, GK.nmk_kT, GK.nmk_kv, GK.nmk_none, GK.keyOk_tup, GK.exS_ndn, GK.inK_tup, GK.inN_mk, GK.ixD_dictT, GK.getN_mk, GK.optD_some, GK.setSN_eq, GK.setN_mk, GK.b1D_tupN, GK.b1D_lenK, GK.b1D_lenD, GK.evE_lns, GK.evE_pk2, GK.exS_fst, Bool.false_and, Bool.and_false, GK.binI_add_nat, GK.binI_shr_nat, GK.binI_and1_nat, GK.deq_nat, GK.cmpop_lt_nat, GK.cmpop_le_nat, GK.cmpop_gt_nat, GK.cmpop_ge_nat, GK.binI_or_nat, GK.binI_xor_nat, GK.mmD_maxN, GK.mmD_minN, GK.inD_nats, GK.inF_nats, GK.intsD_nats, GK.sum_cast, GK.at_map PyData.int ns k _ (List.getElem?_eq_getElem h), e, hc]
  · by_cases h0 : ns.length = 0
    · have e : cell2 ns k = ((k * k * 48271 + 7 * k : Nat) : Int) := by unfold cell2; rw [if_neg h, if_pos h0]
      have hb : (ns.length == 0) = true := beq_iff_eq.mpr h0
      simp only [h, GK.ok_bind, GK.pure_M, GK.bind_assoc', GK.vm_f, GK.vm_o, GK.vm_p, GK.vm_vm, GK.rdV_mk, GK.rdV_fI, GK.rdV_fB, GK.evE_var, GK.evE_int, GK.evE_bl, GK.evE_non, GK.evE_str, GK.evE_bin, GK.evE_neg, GK.evE_inv, GK.evE_cmp, GK.ifM_t, GK.ifM_f, GK.evE_chn, GK.evE_isN, GK.evE_notN, GK.evE_and, GK.evE_or, GK.evE_not, GK.evE_ife, GK.evE_tup, GK.evE_lst, GK.evE_ix, GK.evE_sl, GK.evE_call, GK.evE_b1, GK.evE_isi, GK.evE_lc, GK.evE_lrg, GK.evF_nil, GK.evF_cons, GK.evA_nil, GK.evA_cons, GK.getI_int, GK.evO_none, GK.evO_some, GK.evC_none, GK.evC_some, GK.evI_rg1, GK.evI_rg2, GK.evI_seq, GK.seqF_nx, GK.seqF_rt, GK.seqF_bk, GK.seqF_ct, GK.exSs_nil, GK.exSs_cons, GK.exSs_frz, GK.exS_asg, GK.exS_setix, GK.exS_app, GK.exS_ext, GK.exS_exp, GK.exS_ret, GK.exS_retN, GK.exS_ite, GK.exS_for, GK.exS_whl, GK.exS_brk, GK.exS_cont, GK.exS_pass, GK.fin_rt, GK.fin_nx, GK.bindT_nm, GK.bindT_nmo, GK.bindT_nI, GK.bindT_nB, GK.bindT_tp2, GK.bindT_tp3, GK.bindT_tl5, GK.fI_d, GK.fB_d, GK.fI_m, GK.fB_m, GK.asF_f, GK.asF_o, GK.asF_fI, GK.asF_fB, GK.asB_b, GK.argS_f, GK.argS_o, GK.argS_p, GK.argS_v, GK.argS_fI, GK.argS_fB, GK.retS_f, GK.retS_o, GK.retS_fI, GK.retS_fB, GK.retP_o, GK.retS_p, GK.ownG_o, GK.ownL_eq, GK.frzG_o, GK.frzG_f, GK.frzG_fI, GK.frzG_fB, GK.frzR_eq, GK.extG_list, GK.isF_f, GK.isF_o, GK.isF_p, GK.binop_int, GK.binop_cat, GK.binop_rep, GK.ckI_t, GK.ckO_t, GK.unop_neg, GK.unop_inv, GK.cmpop_eq, GK.cmpop_ne, GK.optS_some, GK.ixD_list, GK.ixD_tup, GK.slD_list, GK.b1D_len, GK.b1D_lenT, GK.b1D_list, GK.b1D_listT, GK.b1D_tup, GK.b1D_tupT, GK.b1D_int, GK.b1D_intN, GK.b1D_sum, GK.sumS_some, GK.allS_some, GK.b1D_all, GK.b1D_any, GK.itemsD_list, GK.itemsD_tup, GK.ix_t0, GK.ix_t1, GK.ix_t2, GK.nD_def, GK.fI_eq', GK.fB_eq', GK.deq_pair, GK.natDec, GK.decide_self, GK.notP_rg1, GK.notP_rg2, GK.notPs_f, GK.notPs_o, GK.notP_seq, GK.esLen, Nat.reduceLeDiff, decide_true, decide_false, List.getElem?_cons_zero, List.getElem?_cons_succ, List.set_cons_zero, List.set_cons_succ, List.length_cons, List.length_nil, List.map_cons, List.map_nil, List.replicate_succ, List.replicate_zero, List.append_nil, List.nil_append, List.cons_append, Nat.reduceAdd, Nat.reduceSub, GK.startR, GK.tgIn, GK.isRg, List.contains_cons, List.all_cons, List.all_nil, Bool.and_true, Bool.true_and, Bool.not_true, Bool.not_false, beq_self_eq_true, Bool.or_true, Bool.true_or, Bool.or_false, Bool.false_or, Nat.not_lt_zero, GK.wipeR, GK.isNone, GK.isiD, GK.evE_glb, GK.evE_sst, GK.evE_gk, GK.evE_gdx, GK.evE_dsp, GK.evP_nil, GK.evP_cons, GK.evE_mm, GK.evE_rvl, GK.evI_rg3, GK.evI_enm, GK.evI_rev, GK.evI_zp, GK.evI_rvr, GK.notP_rg3, GK.notP_rvr, GK.notP_enm, GK.notP_rev, GK.notP_zp, GK.ckTu_t, GK.binop_catT, GK.slD_tup, GK.rvD_list, GK.cmpop_is, GK.cmpop_isnot, GK.negM_ok', GK.cmpop_in, GK.cmpop_notin, GK.cmpop_inT, GK.cmpop_notinT, GK.beq_t, GK.beq_f, GK.evE_dnw, GK.evE_dsp1, GK.setO_eq, GK.setS_list, GK.setS_dict, GK.keyOk_int, GK.keyOk_str, GK.ixD_dictI, GK.ixD_dictS, GK.cmpop_inK, GK.cmpop_notinK, GK.inK_int, GK.inK_str, GK.look_kT, GK.put_kT, GK.deq_bool, GK.lentE_var, GK.lentE_call, GK.lentE_lst, GK.lentE_tup, GK.lentE_ix, GK.lentE_sl, GK.lentE_bin, GK.lentE_b1, GK.lentE_lc, GK.lentE_lrg, GK.lentE_rvl, GK.lentE_sst, GK.lentE_gk, GK.lentE_gdx, GK.lentE_dsp, GK.lentO_p, GK.lentO_f, GK.lentO_o, GK.frzB_t, GK.frzB_f, GK.nmkD_list, GK.nmkD_tuple, GK.nmkD_int, GK.nmkD_bool, GK.nmkD_dict, GK.nmk_nil, GK.nmk_int, GK.nmk_str, GK.nmk_kT, GK.nmk_kv, GK.nmk_none, GK.keyOk_tup, GK.exS_ndn, GK.inK_tup, GK.inN_mk, GK.ixD_dictT, GK.getN_mk, GK.optD_some, GK.setSN_eq, GK.setN_mk, GK.b1D_tupN, GK.b1D_lenK, GK.b1D_lenD, GK.evE_lns, GK.evE_pk2, GK.exS_fst, Bool.false_and, Bool.and_false, GK.binI_add_nat, GK.binI_shr_nat, GK.binI_and1_nat, GK.deq_nat, GK.cmpop_lt_nat, GK.cmpop_le_nat, GK.cmpop_gt_nat, GK.cmpop_ge_nat, GK.binI_or_nat, GK.binI_xor_nat, GK.mmD_maxN, GK.mmD_minN, GK.inD_nats, GK.inF_nats, GK.intsD_nats, GK.sum_cast, List.length_map, hb, GK.binI_mul_nat (show k < 2 ^ 64 by omega), GK.binI_mul_nat (show k * k < 2 ^ 64 by omega), GK.binI_mul_nat (show 7 < 2 ^ 64 by decide), e]
    · have e : cell2 ns k = cellI ns (k % ns.length) / ((1 + k / ns.length : Nat) : Int) + ((k * k * 7919 : Nat) : Int) := by unfold cell2; rw [if_neg h, if_neg h0]
      have hb : (ns.length == 0) = false := beq_eq_false_iff_ne.mpr h0
      have hm : k % ns.length < ns.length := Nat.mod_lt _ (by omega)
      have hd : k / ns.length ≤ k := Nat.div_le_self _ _
      have hd2 : 1 + k / ns.length < 1073741824 := by
        generalize k / ns.length = q at *
        omega
      have hd3 : 0 < 1 + k / ns.length := Nat.succ_le_of_lt (by generalize k / ns.length = q at *; omega)
      have hc : cellI ns (k % ns.length) = ns[k % ns.length] := by unfold cellI; rw [List.getD_eq_getElem?_getD, List.getElem?_eq_getElem hm]; rfl
      simp only [h, GK.ok_bind, GK.pure_M, GK.bind_assoc', GK.vm_f, GK.vm_o, GK.vm_p, GK.vm_vm, GK.rdV_mk, GK.rdV_fI, GK.rdV_fB, GK.evE_var, GK.evE_int, GK.evE_bl, GK.evE_non, GK.evE_str, GK.evE_bin, GK.evE_neg, GK.evE_inv, GK.evE_cmp, GK.ifM_t, GK.ifM_f, GK.evE_chn, GK.evE_isN, GK.evE_notN, GK.evE_and, GK.evE_or, GK.evE_not, GK.evE_ife, GK.evE_tup, GK.evE_lst, GK.evE_ix, GK.evE_sl, GK.evE_call, GK.evE_b1, GK.evE_isi, GK.evE_lc, GK.evE_lrg, GK.evF_nil, GK.evF_cons, GK.evA_nil, GK.evA_cons, GK.getI_int, GK.evO_none, GK.evO_some, GK.evC_none, GK.evC_some, GK.evI_rg1, GK.evI_rg2, GK.evI_seq, GK.seqF_nx, GK.seqF_rt, GK.seqF_bk, GK.seqF_ct, GK.exSs_nil, GK.exSs_cons, GK.exSs_frz, GK.exS_asg, GK.exS_setix, GK.exS_app, GK.exS_ext, GK.exS_exp, GK.exS_ret, GK.exS_retN, GK.exS_ite, GK.exS_for, GK.exS_whl, GK.exS_brk, GK.exS_cont, GK.exS_pass, GK.fin_rt, GK.fin_nx, GK.bindT_nm, GK.bindT_nmo, GK.bindT_nI, GK.bindT_nB, GK.bindT_tp2, GK.bindT_tp3, GK.bindT_tl5, GK.fI_d, GK.fB_d, GK.fI_m, GK.fB_m, GK.asF_f, GK.asF_o, GK.asF_fI, GK.asF_fB, GK.asB_b, GK.argS_f, GK.argS_o, GK.argS_p, GK.argS_v, GK.argS_fI, GK.argS_fB, GK.retS_f, GK.retS_o, GK.retS_fI, GK.retS_fB, GK.retP_o, GK.retS_p, GK.ownG_o, GK.ownL_eq, GK.frzG_o, GK.frzG_f, GK.frzG_fI, GK.frzG_fB, GK.frzR_eq, GK.extG_list, GK.isF_f, GK.isF_o, GK.isF_p, GK.binop_int, GK.binop_cat, GK.binop_rep, GK.ckI_t, GK.ckO_t, GK.unop_neg, GK.unop_inv, GK.cmpop_eq, GK.cmpop_ne, GK.optS_some, GK.ixD_list, GK.ixD_tup, GK.slD_list, GK.b1D_len, GK.b1D_lenT, GK.b1D_list, GK.b1D_listT, GK.b1D_tup, GK.b1D_tupT, GK.b1D_int, GK.b1D_intN, GK.b1D_sum, GK.sumS_some, GK.allS_some, GK.b1D_all, GK.b1D_any, GK.itemsD_list, GK.itemsD_tup, GK.ix_t0, GK.ix_t1, GK.ix_t2, GK.nD_def, GK.fI_eq', GK.fB_eq', GK.deq_pair, GK.natDec, GK.decide_self, GK.notP_rg1, GK.notP_rg2, GK.notPs_f, GK.notPs_o, GK.notP_seq, GK.esLen, Nat.reduceLeDiff, decide_true, decide_false, List.getElem?_cons_zero, List.getElem?_cons_succ, List.set_cons_zero, List.set_cons_succ, List.length_cons, List.length_nil, List.map_cons, List.map_nil, List.replicate_succ, List.replicate_zero, List.append_nil, List.nil_append, List.cons_append, Nat.reduceAdd, Nat.reduceSub, GK.startR, GK.tgIn, GK.isRg, List.contains_cons, List.all_cons, List.all_nil, Bool.and_true, Bool.true_and, Bool.not_true, Bool.not_false, beq_self_eq_true, Bool.or_true, Bool.true_or, Bool.or_false, Bool.false_or, Nat.not_lt_zero, GK.wipeR, GK.isNone, GK.isiD, GK.evE_glb, GK.evE_sst, GK.evE_gk, GK.evE_gdx, GK.evE_dsp, GK.evP_nil, GK.evP_cons, GK.evE_mm, GK.evE_rvl, GK.evI_rg3, GK.evI_enm, GK.evI_rev, GK.evI_zp, GK.evI_rvr, GK.notP_rg3, GK.notP_rvr, GK.notP_enm, GK.notP_rev, GK.notP_zp, GK.ckTu_t, GK.binop_catT, GK.slD_tup, GK.rvD_list, GK.cmpop_is, GK.cmpop_isnot, GK.negM_ok', GK.cmpop_in, GK.cmpop_notin, GK.cmpop_inT, GK.cmpop_notinT, GK.beq_t, GK.beq_f, GK.evE_dnw, GK.evE_dsp1, GK.setO_eq, GK.setS_list, GK.setS_dict, GK.keyOk_int, GK.keyOk_str, GK.ixD_dictI, GK.ixD_dictS, GK.cmpop_inK, GK.cmpop_notinK, GK.inK_int, GK.inK_str, GK.look_kT, GK.put_kT, GK.deq_bool, GK.lentE_var, GK.lentE_call, GK.lentE_lst, GK.lentE_tup, GK.lentE_ix, GK.lentE_sl, GK.lentE_bin, GK.lentE_b1, GK.lentE_lc, GK.lentE_lrg, GK.lentE_rvl, GK.lentE_sst, GK.lentE_gk, GK.lentE_gdx, GK.lentE_dsp, GK.lentO_p, GK.lentO_f, GK.lentO_o, GK.frzB_t, GK.frzB_f, GK.nmkD_list, GK.nmkD_tuple, GK.nmkD_int, GK.nmkD_bool, GK.nmkD_dict, GK.nmk_nil, GK.nmk_int, GK.nmk_str, GK.nmk_kT, GK.nmk_kv, GK.nmk_none, GK.keyOk_tup, GK.exS_ndn, GK.inK_tup, GK.inN_mk, GK.ixD_dictT, GK.getN_mk, GK.optD_some, GK.setSN_eq, GK.setN_mk, GK.b1D_tupN, GK.b1D_lenK, GK.b1D_lenD, GK.evE_lns, GK.evE_pk2, GK.exS_fst, Bool.false_and, Bool.and_false, GK.binI_add_nat, GK.binI_shr_nat, GK.binI_and1_nat, GK.deq_nat, GK.cmpop_lt_nat, GK.cmpop_le_nat, GK.cmpop_gt_nat, GK.cmpop_ge_nat, GK.binI_or_nat, GK.binI_xor_nat, GK.mmD_maxN, GK.mmD_minN, GK.inD_nats, GK.inF_nats, GK.intsD_nats, GK.sum_cast, List.length_map, hb, GK.binI_mod_nat (show 0 < ns.length by omega), GK.binI_div_nat (show 0 < ns.length by omega) (show ns.length < 1073741824 by omega), GK.at_map PyData.int ns _ _ (List.getElem?_eq_getElem hm), GK.binI_divI hd3 hd2, GK.binI_mul_nat (show k < 2 ^ 64 by omega), GK.binI_mul_nat (show k * k < 2 ^ 64 by omega), GK.binI_add (ns[k % ns.length] / ((1 + k / ns.length : Nat) : Int)), e, hc]
theorem pos16 (n : Nat) : 0 < 2 ^ 2 ^ n := Nat.two_pow_pos _
theorem law_gate2_run (l : Nat) (c : Int) : ∃ n b : Nat, n ≤ 4 ∧ b < 2 ^ 2 ^ n ∧ run (l + 1) "_law_gate" [fI c] = .ok ⟨.f, gD n b⟩ := by
  have h10 : modN c 10 < 10 := modN_lt (by decide)
  obtain ⟨n, hn, hn4⟩ : ∃ v : Nat, L2.atI [PyData.int ((2 : Nat) : Int), .int ((2 : Nat) : Int), .int ((1 : Nat) : Int), .int ((3 : Nat) : Int), .int ((2 : Nat) : Int), .int ((2 : Nat) : Int), .int ((3 : Nat) : Int), .int ((1 : Nat) : Int), .int ((0 : Nat) : Int), .int ((4 : Nat) : Int)] ((modN c 10 : Nat) : Int) = some (.int (v : Int)) ∧ v ≤ 4 := by
    refine at_lit (P := fun v => v ≤ 4) (fun d hd => ?_) h10
    simp only [List.mem_cons, List.not_mem_nil, or_false] at hd
    rcases hd with rfl | rfl | rfl | rfl | rfl | rfl | rfl | rfl | rfl | rfl
    all_goals exact ⟨_, rfl, by decide⟩
  have h8 : modN (c / ((10 : Nat) : Int) / ((3 : Nat) : Int)) 8 < 8 := modN_lt (by decide)
  obtain ⟨v, hv, hv2⟩ : ∃ v : Nat, L2.atI [PyData.int ((8 : Nat) : Int), .int ((14 : Nat) : Int), .int ((6 : Nat) : Int), .int ((7 : Nat) : Int), .int ((9 : Nat) : Int), .int ((1 : Nat) : Int), .int ((11 : Nat) : Int), .int ((2 : Nat) : Int)] ((modN (c / ((10 : Nat) : Int) / ((3 : Nat) : Int)) 8 : Nat) : Int) = some (.int (v : Int)) ∧ v < 16 := by
    refine at_lit (P := fun v => v < 16) (fun d hd => ?_) h8
    simp only [List.mem_cons, List.not_mem_nil, or_false] at hd
    rcases hd with rfl | rfl | rfl | rfl | rfl | rfl | rfl | rfl
    all_goals exact ⟨_, rfl, by decide⟩
  rw [run_law_gate, runB_eq]
  simp only [b_law_gate, gD, GK.ok_bind, GK.pure_M, GK.bind_assoc', GK.vm_f, GK.vm_o, GK.vm_p, GK.vm_vm, GK.rdV_mk, GK.rdV_fI, GK.rdV_fB, GK.evE_var, GK.evE_int, GK.evE_bl, GK.evE_non, GK.evE_str, GK.evE_bin, GK.evE_neg, GK.evE_inv, GK.evE_cmp, GK.ifM_t, GK.ifM_f, GK.evE_chn, GK.evE_isN, GK.evE_notN, GK.evE_and, GK.evE_or, GK.evE_not, GK.evE_ife, GK.evE_tup, GK.evE_lst, GK.evE_ix, GK.evE_sl, GK.evE_call, GK.evE_b1, GK.evE_isi, GK.evE_lc, GK.evE_lrg, GK.evF_nil, GK.evF_cons, GK.evA_nil, GK.evA_cons, GK.getI_int, GK.evO_none, GK.evO_some, GK.evC_none, GK.evC_some, GK.evI_rg1, GK.evI_rg2, GK.evI_seq, GK.seqF_nx, GK.seqF_rt, GK.seqF_bk, GK.seqF_ct, GK.exSs_nil, GK.exSs_cons, GK.exSs_frz, GK.exS_asg, GK.exS_setix, GK.exS_app, GK.exS_ext, GK.exS_exp, GK.exS_ret, GK.exS_retN, GK.exS_ite, GK.exS_for, GK.exS_whl, GK.exS_brk, GK.exS_cont, GK.exS_pass, GK.fin_rt, GK.fin_nx, GK.bindT_nm, GK.bindT_nmo, GK.bindT_nI, GK.bindT_nB, GK.bindT_tp2, GK.bindT_tp3, GK.bindT_tl5, GK.fI_d, GK.fB_d, GK.fI_m, GK.fB_m, GK.asF_f, GK.asF_o, GK.asF_fI, GK.asF_fB, GK.asB_b, GK.argS_f, GK.argS_o, GK.argS_p, GK.argS_v, GK.argS_fI, GK.argS_fB, GK.retS_f, GK.retS_o, GK.retS_fI, GK.retS_fB, GK.retP_o, GK.retS_p, GK.ownG_o, GK.ownL_eq, GK.frzG_o, GK.frzG_f, GK.frzG_fI, GK.frzG_fB, GK.frzR_eq, GK.extG_list, GK.isF_f, GK.isF_o, GK.isF_p, GK.binop_int, GK.binop_cat, GK.binop_rep, GK.ckI_t, GK.ckO_t, GK.unop_neg, GK.unop_inv, GK.cmpop_eq, GK.cmpop_ne, GK.optS_some, GK.ixD_list, GK.ixD_tup, GK.slD_list, GK.b1D_len, GK.b1D_lenT, GK.b1D_list, GK.b1D_listT, GK.b1D_tup, GK.b1D_tupT, GK.b1D_int, GK.b1D_intN, GK.b1D_sum, GK.sumS_some, GK.allS_some, GK.b1D_all, GK.b1D_any, GK.itemsD_list, GK.itemsD_tup, GK.ix_t0, GK.ix_t1, GK.ix_t2, GK.nD_def, GK.fI_eq', GK.fB_eq', GK.deq_pair, GK.natDec, GK.decide_self, GK.notP_rg1, GK.notP_rg2, GK.notPs_f, GK.notPs_o, GK.notP_seq, GK.esLen, Nat.reduceLeDiff, decide_true, decide_false, List.getElem?_cons_zero, List.getElem?_cons_succ, List.set_cons_zero, List.set_cons_succ, List.length_cons, List.length_nil, List.map_cons, List.map_nil, List.replicate_succ, List.replicate_zero, List.append_nil, List.nil_append, List.cons_append, Nat.reduceAdd, Nat.reduceSub, GK.startR, GK.tgIn, GK.isRg, List.contains_cons, List.all_cons, List.all_nil, Bool.and_true, Bool.true_and, Bool.not_true, Bool.not_false, beq_self_eq_true, Bool.or_true, Bool.true_or, Bool.or_false, Bool.false_or, Nat.not_lt_zero, GK.wipeR, GK.isNone, GK.isiD, GK.evE_glb, GK.evE_sst, GK.evE_gk, GK.evE_gdx, GK.evE_dsp, GK.evP_nil, GK.evP_cons, GK.evE_mm, GK.evE_rvl, GK.evI_rg3, GK.evI_enm, GK.evI_rev, GK.evI_zp, GK.evI_rvr, GK.notP_rg3, GK.notP_rvr, GK.notP_enm, GK.notP_rev, GK.notP_zp, GK.ckTu_t, GK.binop_catT, GK.slD_tup, GK.rvD_list, GK.cmpop_is, GK.cmpop_isnot, GK.negM_ok', GK.cmpop_in, GK.cmpop_notin, GK.cmpop_inT, GK.cmpop_notinT, GK.beq_t, GK.beq_f, GK.evE_dnw, GK.evE_dsp1, GK.setO_eq, GK.setS_list, GK.setS_dict, GK.keyOk_int, GK.keyOk_str, GK.ixD_dictI, GK.ixD_dictS, GK.cmpop_inK, GK.cmpop_notinK, GK.inK_int, GK.inK_str, GK.look_kT, GK.put_kT, GK.deq_bool, GK.lentE_var, GK.lentE_call, GK.lentE_lst, GK.lentE_tup, GK.lentE_ix, GK.lentE_sl, GK.lentE_bin, GK.lentE_b1, GK.lentE_lc, GK.lentE_lrg, GK.lentE_rvl, GK.lentE_sst, GK.lentE_gk, GK.lentE_gdx, GK.lentE_dsp, GK.lentO_p, GK.lentO_f, GK.lentO_o, GK.frzB_t, GK.frzB_f, GK.nmkD_list, GK.nmkD_tuple, GK.nmkD_int, GK.nmkD_bool, GK.nmkD_dict, GK.nmk_nil, GK.nmk_int, GK.nmk_str, GK.nmk_kT, GK.nmk_kv, GK.nmk_none, GK.keyOk_tup, GK.exS_ndn, GK.inK_tup, GK.inN_mk, GK.ixD_dictT, GK.getN_mk, GK.optD_some, GK.setSN_eq, GK.setN_mk, GK.b1D_tupN, GK.b1D_lenK, GK.b1D_lenD, GK.evE_lns, GK.evE_pk2, GK.exS_fst, Bool.false_and, Bool.and_false, GK.binI_add_nat, GK.binI_shr_nat, GK.binI_and1_nat, GK.deq_nat, GK.cmpop_lt_nat, GK.cmpop_le_nat, GK.cmpop_gt_nat, GK.cmpop_ge_nat, GK.binI_or_nat, GK.binI_xor_nat, GK.mmD_maxN, GK.mmD_minN, GK.inD_nats, GK.inF_nats, GK.intsD_nats, GK.sum_cast, GK.binI_modN (show 0 < 10 by decide), GK.binI_divI (show 0 < 10 by decide) (show 10 < 1073741824 by decide), GK.binI_divI (show 0 < 3 by decide) (show 3 < 1073741824 by decide), GK.binI_modN (show 0 < 3 by decide), hn]
  have rest : ∀ b : Nat, b < 2 ^ 2 ^ n → ∃ n' b' : Nat, n' ≤ 4 ∧ b' < 2 ^ 2 ^ n' ∧ (Except.ok ⟨.f, .tuple [.int (n : Int), .int (b : Int)]⟩ : M Sl) = .ok ⟨.f, .tuple [.int (n' : Int), .int (b' : Int)]⟩ := fun b hb => ⟨n, b, hn4, hb, rfl⟩
  have last : modN (c / ((10 : Nat) : Int) / ((3 : Nat) : Int) * ((40503 : Nat) : Int) + c / ((10 : Nat) : Int)) (bndN n) < 2 ^ 2 ^ n := modN_lt (bnd_pos n)
  cases h2 : (n == 2)
  · simp only [GK.ok_bind, GK.pure_M, GK.bind_assoc', GK.vm_f, GK.vm_o, GK.vm_p, GK.vm_vm, GK.rdV_mk, GK.rdV_fI, GK.rdV_fB, GK.evE_var, GK.evE_int, GK.evE_bl, GK.evE_non, GK.evE_str, GK.evE_bin, GK.evE_neg, GK.evE_inv, GK.evE_cmp, GK.ifM_t, GK.ifM_f, GK.evE_chn, GK.evE_isN, GK.evE_notN, GK.evE_and, GK.evE_or, GK.evE_not, GK.evE_ife, GK.evE_tup, GK.evE_lst, GK.evE_ix, GK.evE_sl, GK.evE_call, GK.evE_b1, GK.evE_isi, GK.evE_lc, GK.evE_lrg, GK.evF_nil, GK.evF_cons, GK.evA_nil, GK.evA_cons, GK.getI_int, GK.evO_none, GK.evO_some, GK.evC_none, GK.evC_some, GK.evI_rg1, GK.evI_rg2, GK.evI_seq, GK.seqF_nx, GK.seqF_rt, GK.seqF_bk, GK.seqF_ct, GK.exSs_nil, GK.exSs_cons, GK.exSs_frz, GK.exS_asg, GK.exS_setix, GK.exS_app, GK.exS_ext, GK.exS_exp, GK.exS_ret, GK.exS_retN, GK.exS_ite, GK.exS_for, GK.exS_whl, GK.exS_brk, GK.exS_cont, GK.exS_pass, GK.fin_rt, GK.fin_nx, GK.bindT_nm, GK.bindT_nmo, GK.bindT_nI, GK.bindT_nB, GK.bindT_tp2, GK.bindT_tp3, GK.bindT_tl5, GK.fI_d, GK.fB_d, GK.fI_m, GK.fB_m, GK.asF_f, GK.asF_o, GK.asF_fI, GK.asF_fB, GK.asB_b, GK.argS_f, GK.argS_o, GK.argS_p, GK.argS_v, GK.argS_fI, GK.argS_fB, GK.retS_f, GK.retS_o, GK.retS_fI, GK.retS_fB, GK.retP_o, GK.retS_p, GK.ownG_o, GK.ownL_eq, GK.frzG_o, GK.frzG_f, GK.frzG_fI, GK.frzG_fB, GK.frzR_eq, GK.extG_list, GK.isF_f, GK.isF_o, GK.isF_p, GK.binop_int, GK.binop_cat, GK.binop_rep, GK.ckI_t, GK.ckO_t, GK.unop_neg, GK.unop_inv, GK.cmpop_eq, GK.cmpop_ne, GK.optS_some, GK.ixD_list, GK.ixD_tup, GK.slD_list, GK.b1D_len, GK.b1D_lenT, GK.b1D_list, GK.b1D_listT, GK.b1D_tup, GK.b1D_tupT, GK.b1D_int, GK.b1D_intN, GK.b1D_sum, GK.sumS_some, GK.allS_some, GK.b1D_all, GK.b1D_any, GK.itemsD_list, GK.itemsD_tup, GK.ix_t0, GK.ix_t1, GK.ix_t2, GK.nD_def, GK.fI_eq', GK.fB_eq', GK.deq_pair, GK.natDec, GK.decide_self, GK.notP_rg1, GK.notP_rg2, GK.notPs_f, GK.notPs_o, GK.notP_seq, GK.esLen, Nat.reduceLeDiff, decide_true, decide_false, List.getElem?_cons_zero, List.getElem?_cons_succ, List.set_cons_zero, List.set_cons_succ, List.length_cons, List.length_nil, List.map_cons, List.map_nil, List.replicate_succ, List.replicate_zero, List.append_nil, List.nil_append, List.cons_append, Nat.reduceAdd, Nat.reduceSub, GK.startR, GK.tgIn, GK.isRg, List.contains_cons, List.all_cons, List.all_nil, Bool.and_true, Bool.true_and, Bool.not_true, Bool.not_false, beq_self_eq_true, Bool.or_true, Bool.true_or, Bool.or_false, Bool.false_or, Nat.not_lt_zero, GK.wipeR, GK.isNone, GK.isiD, GK.evE_glb, GK.evE_sst, GK.evE_gk, GK.evE_gdx, GK.evE_dsp, GK.evP_nil, GK.evP_cons, GK.evE_mm, GK.evE_rvl, GK.evI_rg3, GK.evI_enm, GK.evI_rev, GK.evI_zp, GK.evI_rvr, GK.notP_rg3, GK.notP_rvr, GK.notP_enm, GK.notP_rev, GK.notP_zp, GK.ckTu_t, GK.binop_catT, GK.slD_tup, GK.rvD_list, GK.cmpop_is, GK.cmpop_isnot, GK.negM_ok', GK.cmpop_in, GK.cmpop_notin, GK.cmpop_inT, GK.cmpop_notinT, GK.beq_t, GK.beq_f, GK.evE_dnw, GK.evE_dsp1, GK.setO_eq, GK.setS_list, GK.setS_dict, GK.keyOk_int, GK.keyOk_str, GK.ixD_dictI, GK.ixD_dictS, GK.cmpop_inK, GK.cmpop_notinK, GK.inK_int, GK.inK_str, GK.look_kT, GK.put_kT, GK.deq_bool, GK.lentE_var, GK.lentE_call, GK.lentE_lst, GK.lentE_tup, GK.lentE_ix, GK.lentE_sl, GK.lentE_bin, GK.lentE_b1, GK.lentE_lc, GK.lentE_lrg, GK.lentE_rvl, GK.lentE_sst, GK.lentE_gk, GK.lentE_gdx, GK.lentE_dsp, GK.lentO_p, GK.lentO_f, GK.lentO_o, GK.frzB_t, GK.frzB_f, GK.nmkD_list, GK.nmkD_tuple, GK.nmkD_int, GK.nmkD_bool, GK.nmkD_dict, GK.nmk_nil, GK.nmk_int, GK.nmk_str, GK.nmk_kT, GK.nmk_kv, GK.nmk_none, GK.keyOk_tup, GK.exS_ndn, GK.inK_tup, GK.inN_mk, GK.ixD_dictT, GK.getN_mk, GK.optD_some, GK.setSN_eq, GK.setN_mk, GK.b1D_tupN, GK.b1D_lenK, GK.b1D_lenD, GK.evE_lns, GK.evE_pk2, GK.exS_fst, Bool.false_and, Bool.and_false, GK.binI_add_nat, GK.binI_shr_nat, GK.binI_and1_nat, GK.deq_nat, GK.cmpop_lt_nat, GK.cmpop_le_nat, GK.cmpop_gt_nat, GK.cmpop_ge_nat, GK.binI_or_nat, GK.binI_xor_nat, GK.mmD_maxN, GK.mmD_minN, GK.inD_nats, GK.inF_nats, GK.intsD_nats, GK.sum_cast, GK.binI_divI (show 0 < 3 by decide) (show 3 < 1073741824 by decide), binI_mulR (show 40503 < 2 ^ 64 by decide), GK.binI_add, bnd_at (show n < 5 by omega), GK.binI_modN (bnd_pos n)]
    exact rest _ last
  · have en : n = 2 := beq_iff_eq.mp h2
    cases h3 : (modN (c / ((10 : Nat) : Int)) 3 == 0)
    · simp only [GK.ok_bind, GK.pure_M, GK.bind_assoc', GK.vm_f, GK.vm_o, GK.vm_p, GK.vm_vm, GK.rdV_mk, GK.rdV_fI, GK.rdV_fB, GK.evE_var, GK.evE_int, GK.evE_bl, GK.evE_non, GK.evE_str, GK.evE_bin, GK.evE_neg, GK.evE_inv, GK.evE_cmp, GK.ifM_t, GK.ifM_f, GK.evE_chn, GK.evE_isN, GK.evE_notN, GK.evE_and, GK.evE_or, GK.evE_not, GK.evE_ife, GK.evE_tup, GK.evE_lst, GK.evE_ix, GK.evE_sl, GK.evE_call, GK.evE_b1, GK.evE_isi, GK.evE_lc, GK.evE_lrg, GK.evF_nil, GK.evF_cons, GK.evA_nil, GK.evA_cons, GK.getI_int, GK.evO_none, GK.evO_some, GK.evC_none, GK.evC_some, GK.evI_rg1, GK.evI_rg2, GK.evI_seq, GK.seqF_nx, GK.seqF_rt, GK.seqF_bk, GK.seqF_ct, GK.exSs_nil, GK.exSs_cons, GK.exSs_frz, GK.exS_asg, GK.exS_setix, GK.exS_app, GK.exS_ext, GK.exS_exp, GK.exS_ret, GK.exS_retN, GK.exS_ite, GK.exS_for, GK.exS_whl, GK.exS_brk, GK.exS_cont, GK.exS_pass, GK.fin_rt, GK.fin_nx, GK.bindT_nm, GK.bindT_nmo, GK.bindT_nI, GK.bindT_nB, GK.bindT_tp2, GK.bindT_tp3, GK.bindT_tl5, GK.fI_d, GK.fB_d, GK.fI_m, GK.fB_m, GK.asF_f, GK.asF_o, GK.asF_fI, GK.asF_fB, GK.asB_b, GK.argS_f, GK.argS_o, GK.argS_p, GK.argS_v, GK.argS_fI, GK.argS_fB, GK.retS_f, GK.retS_o, GK.retS_fI, GK.retS_fB, GK.retP_o, GK.retS_p, GK.ownG_o, GK.ownL_eq, GK.frzG_o, GK.frzG_f, GK.frzG_fI, GK.frzG_fB, GK.frzR_eq, GK.extG_list, GK.isF_f, GK.isF_o, GK.isF_p, GK.binop_int, GK.binop_cat, GK.binop_rep, GK.ckI_t, GK.ckO_t, GK.unop_neg, GK.unop_inv, GK.cmpop_eq, GK.cmpop_ne, GK.optS_some, GK.ixD_list, GK.ixD_tup, GK.slD_list, GK.b1D_len, GK.b1D_lenT, GK.b1D_list, GK.b1D_listT, GK.b1D_tup, GK.b1D_tupT, GK.b1D_int, GK.b1D_intN, GK.b1D_sum, GK.sumS_some, GK.allS_some, GK.b1D_all, GK.b1D_any, GK.itemsD_list, GK.itemsD_tup, GK.ix_t0, GK.ix_t1, GK.ix_t2, GK.nD_def, GK.fI_eq', GK.fB_eq', GK.deq_pair, GK.natDec, GK.decide_self, GK.notP_rg1, GK.notP_rg2, GK.notPs_f, GK.notPs_o, GK.notP_seq, GK.esLen, Nat.reduceLeDiff, decide_true, decide_false, List.getElem?_cons_zero, List.getElem?_cons_succ, List.set_cons_zero, List.set_cons_succ, List.length_cons, List.length_nil, List.map_cons, List.map_nil, List.replicate_succ, List.replicate_zero, List.append_nil, List.nil_append, List.cons_append, Nat.reduceAdd, Nat.reduceSub, GK.startR, GK.tgIn, GK.isRg, List.contains_cons, List.all_cons, List.all_nil, Bool.and_true, Bool.true_and, Bool.not_true, Bool.not_false, beq_self_eq_true, Bool.or_true, Bool.true_or, Bool.or_false, Bool.false_or, Nat.not_lt_zero, GK.wipeR, GK.isNone, GK.isiD, GK.evE_glb, GK.evE_sst, GK.evE_gk, GK.evE_gdx, GK.evE_dsp, GK.evP_nil, GK.evP_cons, GK.evE_mm, GK.evE_rvl, GK.evI_rg3, GK.evI_enm, GK.evI_rev, GK.evI_zp, GK.evI_rvr, GK.notP_rg3, GK.notP_rvr, GK.notP_enm, GK.notP_rev, GK.notP_zp, GK.ckTu_t, GK.binop_catT, GK.slD_tup, GK.rvD_list, GK.cmpop_is, GK.cmpop_isnot, GK.negM_ok', GK.cmpop_in, GK.cmpop_notin, GK.cmpop_inT, GK.cmpop_notinT, GK.beq_t, GK.beq_f, GK.evE_dnw, GK.evE_dsp1, GK.setO_eq, GK.setS_list, GK.setS_dict, GK.keyOk_int, GK.keyOk_str, GK.ixD_dictI, GK.ixD_dictS, GK.cmpop_inK, GK.cmpop_notinK, GK.inK_int, GK.inK_str, GK.look_kT, GK.put_kT, GK.deq_bool, GK.lentE_var, GK.lentE_call, GK.lentE_lst, GK.lentE_tup, GK.lentE_ix, GK.lentE_sl, GK.lentE_bin, GK.lentE_b1, GK.lentE_lc, GK.lentE_lrg, GK.lentE_rvl, GK.lentE_sst, GK.lentE_gk, GK.lentE_gdx, GK.lentE_dsp, GK.lentO_p, GK.lentO_f, GK.lentO_o, GK.frzB_t, GK.frzB_f, GK.nmkD_list, GK.nmkD_tuple, GK.nmkD_int, GK.nmkD_bool, GK.nmkD_dict, GK.nmk_nil, GK.nmk_int, GK.nmk_str, GK.nmk_kT, GK.nmk_kv, GK.nmk_none, GK.keyOk_tup, GK.exS_ndn, GK.inK_tup, GK.inN_mk, GK.ixD_dictT, GK.getN_mk, GK.optD_some, GK.setSN_eq, GK.setN_mk, GK.b1D_tupN, GK.b1D_lenK, GK.b1D_lenD, GK.evE_lns, GK.evE_pk2, GK.exS_fst, Bool.false_and, Bool.and_false, GK.binI_add_nat, GK.binI_shr_nat, GK.binI_and1_nat, GK.deq_nat, GK.cmpop_lt_nat, GK.cmpop_le_nat, GK.cmpop_gt_nat, GK.cmpop_ge_nat, GK.binI_or_nat, GK.binI_xor_nat, GK.mmD_maxN, GK.mmD_minN, GK.inD_nats, GK.inF_nats, GK.intsD_nats, GK.sum_cast, GK.binI_divI (show 0 < 3 by decide) (show 3 < 1073741824 by decide), binI_mulR (show 40503 < 2 ^ 64 by decide), GK.binI_add, bnd_at (show n < 5 by omega), GK.binI_modN (bnd_pos n)]
      exact rest _ last
    · simp only [GK.ok_bind, GK.pure_M, GK.bind_assoc', GK.vm_f, GK.vm_o, GK.vm_p, GK.vm_vm, GK.rdV_mk, GK.rdV_fI, GK.rdV_fB, GK.evE_var, GK.evE_int, GK.evE_bl, GK.evE_non, GK.evE_str, GK.evE_bin, GK.evE_neg, GK.evE_inv, GK.evE_cmp, GK.ifM_t, GK.ifM_f, GK.evE_chn, GK.evE_isN, GK.evE_notN, GK.evE_and, GK.evE_or, GK.evE_not, GK.evE_ife, GK.evE_tup, GK.evE_lst, GK.evE_ix, GK.evE_sl, GK.evE_call, GK.evE_b1, GK.evE_isi, GK.evE_lc, GK.evE_lrg, GK.evF_nil, GK.evF_cons, GK.evA_nil, GK.evA_cons, GK.getI_int, GK.evO_none, GK.evO_some, GK.evC_none, GK.evC_some, GK.evI_rg1, GK.evI_rg2, GK.evI_seq, GK.seqF_nx, GK.seqF_rt, GK.seqF_bk, GK.seqF_ct, GK.exSs_nil, GK.exSs_cons, GK.exSs_frz, GK.exS_asg, GK.exS_setix, GK.exS_app, GK.exS_ext, GK.exS_exp, GK.exS_ret, GK.exS_retN, GK.exS_ite, GK.exS_for, GK.exS_whl, GK.exS_brk, GK.exS_cont, GK.exS_pass, GK.fin_rt, GK.fin_nx, GK.bindT_nm, GK.bindT_nmo, GK.bindT_nI, GK.bindT_nB, GK.bindT_tp2, GK.bindT_tp3, GK.bindT_tl5, GK.fI_d, GK.fB_d, GK.fI_m, GK.fB_m, GK.asF_f, GK.asF_o, GK.asF_fI, GK.asF_fB, GK.asB_b, GK.argS_f, GK.argS_o, GK.argS_p, GK.argS_v, GK.argS_fI, GK.argS_fB, GK.retS_f, GK.retS_o, GK.retS_fI, GK.retS_fB, GK.retP_o, GK.retS_p, GK.ownG_o, GK.ownL_eq, GK.frzG_o, GK.frzG_f, GK.frzG_fI, GK.frzG_fB, GK.frzR_eq, GK.extG_list, GK.isF_f, GK.isF_o, GK.isF_p, GK.binop_int, GK.binop_cat, GK.binop_rep, GK.ckI_t, GK.ckO_t, GK.unop_neg, GK.unop_inv, GK.cmpop_eq, GK.cmpop_ne, GK.optS_some, GK.ixD_list, GK.ixD_tup, GK.slD_list, GK.b1D_len, GK.b1D_lenT, GK.b1D_list, GK.b1D_listT, GK.b1D_tup, GK.b1D_tupT, GK.b1D_int, GK.b1D_intN, GK.b1D_sum, GK.sumS_some, GK.allS_some, GK.b1D_all, GK.b1D_any, GK.itemsD_list, GK.itemsD_tup, GK.ix_t0, GK.ix_t1, GK.ix_t2, GK.nD_def, GK.fI_eq', GK.fB_eq', GK.deq_pair, GK.natDec, GK.decide_self, GK.notP_rg1, GK.notP_rg2, GK.notPs_f, GK.notPs_o, GK.notP_seq, GK.esLen, Nat.reduceLeDiff, decide_true, decide_false, List.getElem?_cons_zero, List.getElem?_cons_succ, List.set_cons_zero, List.set_cons_succ, List.length_cons, List.length_nil, List.map_cons, List.map_nil, List.replicate_succ, List.replicate_zero, List.append_nil, List.nil_append, List.cons_append, Nat.reduceAdd, Nat.reduceSub, GK.startR, GK.tgIn, GK.isRg, List.contains_cons, List.all_cons, List.all_nil, Bool.and_true, Bool.true_and, Bool.not_true, Bool.not_false, beq_self_eq_true, Bool.or_true, Bool.true_or, Bool.or_false, Bool.false_or, Nat.not_lt_zero, GK.wipeR, GK.isNone, GK.isiD, GK.evE_glb, GK.evE_sst, GK.evE_gk, GK.evE_gdx, GK.evE_dsp, GK.evP_nil, GK.evP_cons, GK.evE_mm, GK.evE_rvl, GK.evI_rg3, GK.evI_enm, GK.evI_rev, GK.evI_zp, GK.evI_rvr, GK.notP_rg3, GK.notP_rvr, GK.notP_enm, GK.notP_rev, GK.notP_zp, GK.ckTu_t, GK.binop_catT, GK.slD_tup, GK.rvD_list, GK.cmpop_is, GK.cmpop_isnot, GK.negM_ok', GK.cmpop_in, GK.cmpop_notin, GK.cmpop_inT, GK.cmpop_notinT, GK.beq_t, GK.beq_f, GK.evE_dnw, GK.evE_dsp1, GK.setO_eq, GK.setS_list, GK.setS_dict, GK.keyOk_int, GK.keyOk_str, GK.ixD_dictI, GK.ixD_dictS, GK.cmpop_inK, GK.cmpop_notinK, GK.inK_int, GK.inK_str, GK.look_kT, GK.put_kT, GK.deq_bool, GK.lentE_var, GK.lentE_call, GK.lentE_lst, GK.lentE_tup, GK.lentE_ix, GK.lentE_sl, GK.lentE_bin, GK.lentE_b1, GK.lentE_lc, GK.lentE_lrg, GK.lentE_rvl, GK.lentE_sst, GK.lentE_gk, GK.lentE_gdx, GK.lentE_dsp, GK.lentO_p, GK.lentO_f, GK.lentO_o, GK.frzB_t, GK.frzB_f, GK.nmkD_list, GK.nmkD_tuple, GK.nmkD_int, GK.nmkD_bool, GK.nmkD_dict, GK.nmk_nil, GK.nmk_int, GK.nmk_str, GK.nmk_kT, GK.nmk_kv, GK.nmk_none, GK.keyOk_tup, GK.exS_ndn, GK.inK_tup, GK.inN_mk, GK.ixD_dictT, GK.getN_mk, GK.optD_some, GK.setSN_eq, GK.setN_mk, GK.b1D_tupN, GK.b1D_lenK, GK.b1D_lenD, GK.evE_lns, GK.evE_pk2, GK.exS_fst, Bool.false_and, Bool.and_false, GK.binI_add_nat, GK.binI_shr_nat, GK.binI_and1_nat, GK.deq_nat, GK.cmpop_lt_nat, GK.cmpop_le_nat, GK.cmpop_gt_nat, GK.cmpop_ge_nat, GK.binI_or_nat, GK.binI_xor_nat, GK.mmD_maxN, GK.mmD_minN, GK.inD_nats, GK.inF_nats, GK.intsD_nats, GK.sum_cast, GK.binI_divI (show 0 < 3 by decide) (show 3 < 1073741824 by decide), GK.binI_modN (show 0 < 8 by decide), hv]
      subst en
      exact rest v (by have : 2 ^ 2 ^ 2 = 16 := rfl; omega)

/-! ### circuits -/
structure Stp where
  n : Nat
  b : Nat
  ws : List Nat
def stD (s : Stp) : D := .tuple [gD s.n s.b, .tuple (s.ws.map nD)]
def circD (i : Nat) (ss : List Stp) (o : Nat) : D := .tuple [nD i, .tuple (ss.map stD), nD o]
structure StepOk (i k : Nat) (s : Stp) : Prop where
  n4 : s.n ≤ 4
  b16 : s.b < 2 ^ 2 ^ s.n
  len : s.ws.length = s.n
  lt : ∀ w ∈ s.ws, w < i + k
structure CircOk (i : Nat) (ss : List Stp) (o : Nat) : Prop where
  st : ∀ k s, ss[k]? = some s → StepOk i k s
  out : o < i + ss.length
theorem StepOk.mono {i k k' : Nat} {s : Stp} (h : StepOk i k s) (hk : k ≤ k') : StepOk i k' s := ⟨h.n4, h.b16, h.len, fun w hw => by have := h.lt w hw; omega⟩
theorem snoc_at {α : Type} {xs : List α} {x y : α} {k : Nat} (h : (xs ++ [x])[k]? = some y) : (k < xs.length ∧ xs[k]? = some y) ∨ (k = xs.length ∧ y = x) := by
  rcases Nat.lt_or_ge k xs.length with q | q
  · rw [List.getElem?_append_left q] at h
    exact .inl ⟨q, h⟩
  · rw [List.getElem?_append_right q] at h
    rcases Nat.eq_zero_or_pos (k - xs.length) with z | z
    · rw [z] at h
      cases h
      exact .inr ⟨by omega, rfl⟩
    · rw [List.getElem?_eq_none (by simp; omega)] at h
      cases h

/-! ### what circuits come to -/
def stepV (f : List Nat) (s : Stp) : List Nat := f ++ [valN s.b (s.ws.map fun w => f.getD w 0)]
def cvals (init : List Nat) (ss : List Stp) : List Nat := ss.foldl stepV init
theorem cvals_snoc (init : List Nat) (ss : List Stp) (s : Stp) : cvals init (ss ++ [s]) = stepV (cvals init ss) s := by
  unfold cvals
  rw [List.foldl_append]
  rfl
theorem cvals_take {init : List Nat} {ss : List Stp} {k : Nat} {s : Stp} (h : ss[k]? = some s) : cvals init (ss.take (k + 1)) = stepV (cvals init (ss.take k)) s := by
  rw [take_snoc h, cvals_snoc]
theorem cvals_len (init : List Nat) : ∀ ss : List Stp, (cvals init ss).length = init.length + ss.length := by
  intro ss
  unfold cvals
  induction ss generalizing init with
  | nil => rfl
  | cons s ss ih =>
    rw [List.foldl_cons, ih]
    simp only [stepV, List.length_append, List.length_cons, List.length_nil]
    omega
theorem cvals_bits : ∀ (ss : List Stp) (init : List Nat), (∀ b ∈ init, b < 2) → ∀ b ∈ cvals init ss, b < 2
  | [], init, h => h
  | s :: ss, init, h => cvals_bits ss (stepV init s) fun b hb => by
    rcases List.mem_append.mp hb with q | q
    · exact h b q
    · rw [List.mem_singleton] at q
      rw [q]
      exact bitN_lt _ _
theorem take_len {α : Type} {xs : List α} {i : Nat} {x : α} (h : xs[i]? = some x) : (xs.take i).length = i := by
  have := GK.at_lt h
  rw [List.length_take]
  omega
theorem getD_lt {f : List Nat} {m : Nat} (h : ∀ b ∈ f, b < m) (hm : 0 < m) (w : Nat) : f.getD w 0 < m := by
  rw [List.getD_eq_getElem?_getD]
  cases e : f[w]? with
  | none => exact hm
  | some x => exact h x (List.mem_of_getElem? e)
/-- the sum of shifted values is their number -/
theorem sum_num (vs : List Nat) (n : Nat) (h : vs.length = n) : ((List.range n).map fun k => vs.getD k 0 * 2 ^ k).sum = numN vs := by
  subst h
  exact wsum_pow vs

/-! ### a circuit gone through (law_out) -/
theorem circ_lay (i : Nat) (ss : List Stp) (o : Nat) : GK.Lay 4 (circD i ss o) := by
  refine GK.lay_tup (GK.lay_cons (GK.lay_nD _ _) (GK.lay_cons (GK.lay_tup (GK.lay_map fun s _ => ?_)) (GK.lay_cons (GK.lay_nD _ _) (GK.lay_nil _))))
  exact GK.lay_tup (GK.lay_cons (GK.lay_tup (GK.lay_cons (GK.lay_nD _ _) (GK.lay_cons (GK.lay_nD _ _) (GK.lay_nil _)))) (GK.lay_cons (GK.lay_tup (GK.lay_nats _ _)) (GK.lay_nil _)))
theorem law_out_run (k i o r : Nat) (ss : List Stp) (hi : i ≤ 1000) (hc : CircOk i ss o) (hl : ss.length ≤ 1000) : run (k + 1) "_law_out" [⟨.f, circD i ss o⟩, fI (r : Nat)] = .ok (fI ((cvals ((List.range i).map (bitN r)) ss).getD o 0 : Nat)) := by
  rw [run_law_out, runB_eq]
  simp only [b_law_out, circD, GK.ok_bind, GK.pure_M, GK.bind_assoc', GK.vm_f, GK.vm_o, GK.vm_p, GK.vm_vm, GK.rdV_mk, GK.rdV_fI, GK.rdV_fB, GK.evE_var, GK.evE_int, GK.evE_bl, GK.evE_non, GK.evE_str, GK.evE_bin, GK.evE_neg, GK.evE_inv, GK.evE_cmp, GK.ifM_t, GK.ifM_f, GK.evE_chn, GK.evE_isN, GK.evE_notN, GK.evE_and, GK.evE_or, GK.evE_not, GK.evE_ife, GK.evE_tup, GK.evE_lst, GK.evE_ix, GK.evE_sl, GK.evE_call, GK.evE_b1, GK.evE_isi, GK.evE_lc, GK.evE_lrg, GK.evF_nil, GK.evF_cons, GK.evA_nil, GK.evA_cons, GK.getI_int, GK.evO_none, GK.evO_some, GK.evC_none, GK.evC_some, GK.evI_rg1, GK.evI_rg2, GK.evI_seq, GK.seqF_nx, GK.seqF_rt, GK.seqF_bk, GK.seqF_ct, GK.exSs_nil, GK.exSs_cons, GK.exSs_frz, GK.exS_asg, GK.exS_setix, GK.exS_app, GK.exS_ext, GK.exS_exp, GK.exS_ret, GK.exS_retN, GK.exS_ite, GK.exS_for, GK.exS_whl, GK.exS_brk, GK.exS_cont, GK.exS_pass, GK.fin_rt, GK.fin_nx, GK.bindT_nm, GK.bindT_nmo, GK.bindT_nI, GK.bindT_nB, GK.bindT_tp2, GK.bindT_tp3, GK.bindT_tl5, GK.fI_d, GK.fB_d, GK.fI_m, GK.fB_m, GK.asF_f, GK.asF_o, GK.asF_fI, GK.asF_fB, GK.asB_b, GK.argS_f, GK.argS_o, GK.argS_p, GK.argS_v, GK.argS_fI, GK.argS_fB, GK.retS_f, GK.retS_o, GK.retS_fI, GK.retS_fB, GK.retP_o, GK.retS_p, GK.ownG_o, GK.ownL_eq, GK.frzG_o, GK.frzG_f, GK.frzG_fI, GK.frzG_fB, GK.frzR_eq, GK.extG_list, GK.isF_f, GK.isF_o, GK.isF_p, GK.binop_int, GK.binop_cat, GK.binop_rep, GK.ckI_t, GK.ckO_t, GK.unop_neg, GK.unop_inv, GK.cmpop_eq, GK.cmpop_ne, GK.optS_some, GK.ixD_list, GK.ixD_tup, GK.slD_list, GK.b1D_len, GK.b1D_lenT, GK.b1D_list, GK.b1D_listT, GK.b1D_tup, GK.b1D_tupT, GK.b1D_int, GK.b1D_intN, GK.b1D_sum, GK.sumS_some, GK.allS_some, GK.b1D_all, GK.b1D_any, GK.itemsD_list, GK.itemsD_tup, GK.ix_t0, GK.ix_t1, GK.ix_t2, GK.nD_def, GK.fI_eq', GK.fB_eq', GK.deq_pair, GK.natDec, GK.decide_self, GK.notP_rg1, GK.notP_rg2, GK.notPs_f, GK.notPs_o, GK.notP_seq, GK.esLen, Nat.reduceLeDiff, decide_true, decide_false, List.getElem?_cons_zero, List.getElem?_cons_succ, List.set_cons_zero, List.set_cons_succ, List.length_cons, List.length_nil, List.map_cons, List.map_nil, List.replicate_succ, List.replicate_zero, List.append_nil, List.nil_append, List.cons_append, Nat.reduceAdd, Nat.reduceSub, GK.startR, GK.tgIn, GK.isRg, List.contains_cons, List.all_cons, List.all_nil, Bool.and_true, Bool.true_and, Bool.not_true, Bool.not_false, beq_self_eq_true, Bool.or_true, Bool.true_or, Bool.or_false, Bool.false_or, Nat.not_lt_zero, GK.wipeR, GK.isNone, GK.isiD, GK.evE_glb, GK.evE_sst, GK.evE_gk, GK.evE_gdx, GK.evE_dsp, GK.evP_nil, GK.evP_cons, GK.evE_mm, GK.evE_rvl, GK.evI_rg3, GK.evI_enm, GK.evI_rev, GK.evI_zp, GK.evI_rvr, GK.notP_rg3, GK.notP_rvr, GK.notP_enm, GK.notP_rev, GK.notP_zp, GK.ckTu_t, GK.binop_catT, GK.slD_tup, GK.rvD_list, GK.cmpop_is, GK.cmpop_isnot, GK.negM_ok', GK.cmpop_in, GK.cmpop_notin, GK.cmpop_inT, GK.cmpop_notinT, GK.beq_t, GK.beq_f, GK.evE_dnw, GK.evE_dsp1, GK.setO_eq, GK.setS_list, GK.setS_dict, GK.keyOk_int, GK.keyOk_str, GK.ixD_dictI, GK.ixD_dictS, GK.cmpop_inK, GK.cmpop_notinK, GK.inK_int, GK.inK_str, GK.look_kT, GK.put_kT, GK.deq_bool, GK.lentE_var, GK.lentE_call, GK.lentE_lst, GK.lentE_tup, GK.lentE_ix, GK.lentE_sl, GK.lentE_bin, GK.lentE_b1, GK.lentE_lc, GK.lentE_lrg, GK.lentE_rvl, GK.lentE_sst, GK.lentE_gk, GK.lentE_gdx, GK.lentE_dsp, GK.lentO_p, GK.lentO_f, GK.lentO_o, GK.frzB_t, GK.frzB_f, GK.nmkD_list, GK.nmkD_tuple, GK.nmkD_int, GK.nmkD_bool, GK.nmkD_dict, GK.nmk_nil, GK.nmk_int, GK.nmk_str, GK.nmk_kT, GK.nmk_kv, GK.nmk_none, GK.keyOk_tup, GK.exS_ndn, GK.inK_tup, GK.inN_mk, GK.ixD_dictT, GK.getN_mk, GK.optD_some, GK.setSN_eq, GK.setN_mk, GK.b1D_tupN, GK.b1D_lenK, GK.b1D_lenD, GK.evE_lns, GK.evE_pk2, GK.exS_fst, Bool.false_and, Bool.and_false, GK.binI_add_nat, GK.binI_shr_nat, GK.binI_and1_nat, GK.deq_nat, GK.cmpop_lt_nat, GK.cmpop_le_nat, GK.cmpop_gt_nat, GK.cmpop_ge_nat, GK.binI_or_nat, GK.binI_xor_nat, GK.mmD_maxN, GK.mmD_minN, GK.inD_nats, GK.inF_nats, GK.intsD_nats, GK.sum_cast, GK.rngD_nat (show i < 2 ^ 62 by omega)]
  rw [GK.lcGo_map (fun r : Nat => PyData.int (r : Nat)) (fun j => nD (bitN r j)), GK.nDmap (bitN r)]
  · simp only [GK.ok_bind, GK.pure_M, GK.bind_assoc', GK.vm_f, GK.vm_o, GK.vm_p, GK.vm_vm, GK.rdV_mk, GK.rdV_fI, GK.rdV_fB, GK.evE_var, GK.evE_int, GK.evE_bl, GK.evE_non, GK.evE_str, GK.evE_bin, GK.evE_neg, GK.evE_inv, GK.evE_cmp, GK.ifM_t, GK.ifM_f, GK.evE_chn, GK.evE_isN, GK.evE_notN, GK.evE_and, GK.evE_or, GK.evE_not, GK.evE_ife, GK.evE_tup, GK.evE_lst, GK.evE_ix, GK.evE_sl, GK.evE_call, GK.evE_b1, GK.evE_isi, GK.evE_lc, GK.evE_lrg, GK.evF_nil, GK.evF_cons, GK.evA_nil, GK.evA_cons, GK.getI_int, GK.evO_none, GK.evO_some, GK.evC_none, GK.evC_some, GK.evI_rg1, GK.evI_rg2, GK.evI_seq, GK.seqF_nx, GK.seqF_rt, GK.seqF_bk, GK.seqF_ct, GK.exSs_nil, GK.exSs_cons, GK.exSs_frz, GK.exS_asg, GK.exS_setix, GK.exS_app, GK.exS_ext, GK.exS_exp, GK.exS_ret, GK.exS_retN, GK.exS_ite, GK.exS_for, GK.exS_whl, GK.exS_brk, GK.exS_cont, GK.exS_pass, GK.fin_rt, GK.fin_nx, GK.bindT_nm, GK.bindT_nmo, GK.bindT_nI, GK.bindT_nB, GK.bindT_tp2, GK.bindT_tp3, GK.bindT_tl5, GK.fI_d, GK.fB_d, GK.fI_m, GK.fB_m, GK.asF_f, GK.asF_o, GK.asF_fI, GK.asF_fB, GK.asB_b, GK.argS_f, GK.argS_o, GK.argS_p, GK.argS_v, GK.argS_fI, GK.argS_fB, GK.retS_f, GK.retS_o, GK.retS_fI, GK.retS_fB, GK.retP_o, GK.retS_p, GK.ownG_o, GK.ownL_eq, GK.frzG_o, GK.frzG_f, GK.frzG_fI, GK.frzG_fB, GK.frzR_eq, GK.extG_list, GK.isF_f, GK.isF_o, GK.isF_p, GK.binop_int, GK.binop_cat, GK.binop_rep, GK.ckI_t, GK.ckO_t, GK.unop_neg, GK.unop_inv, GK.cmpop_eq, GK.cmpop_ne, GK.optS_some, GK.ixD_list, GK.ixD_tup, GK.slD_list, GK.b1D_len, GK.b1D_lenT, GK.b1D_list, GK.b1D_listT, GK.b1D_tup, GK.b1D_tupT, GK.b1D_int, GK.b1D_intN, GK.b1D_sum, GK.sumS_some, GK.allS_some, GK.b1D_all, GK.b1D_any, GK.itemsD_list, GK.itemsD_tup, GK.ix_t0, GK.ix_t1, GK.ix_t2, GK.nD_def, GK.fI_eq', GK.fB_eq', GK.deq_pair, GK.natDec, GK.decide_self, GK.notP_rg1, GK.notP_rg2, GK.notPs_f, GK.notPs_o, GK.notP_seq, GK.esLen, Nat.reduceLeDiff, decide_true, decide_false, List.getElem?_cons_zero, List.getElem?_cons_succ, List.set_cons_zero, List.set_cons_succ, List.length_cons, List.length_nil, List.map_cons, List.map_nil, List.replicate_succ, List.replicate_zero, List.append_nil, List.nil_append, List.cons_append, Nat.reduceAdd, Nat.reduceSub, GK.startR, GK.tgIn, GK.isRg, List.contains_cons, List.all_cons, List.all_nil, Bool.and_true, Bool.true_and, Bool.not_true, Bool.not_false, beq_self_eq_true, Bool.or_true, Bool.true_or, Bool.or_false, Bool.false_or, Nat.not_lt_zero, GK.wipeR, GK.isNone, GK.isiD, GK.evE_glb, GK.evE_sst, GK.evE_gk, GK.evE_gdx, GK.evE_dsp, GK.evP_nil, GK.evP_cons, GK.evE_mm, GK.evE_rvl, GK.evI_rg3, GK.evI_enm, GK.evI_rev, GK.evI_zp, GK.evI_rvr, GK.notP_rg3, GK.notP_rvr, GK.notP_enm, GK.notP_rev, GK.notP_zp, GK.ckTu_t, GK.binop_catT, GK.slD_tup, GK.rvD_list, GK.cmpop_is, GK.cmpop_isnot, GK.negM_ok', GK.cmpop_in, GK.cmpop_notin, GK.cmpop_inT, GK.cmpop_notinT, GK.beq_t, GK.beq_f, GK.evE_dnw, GK.evE_dsp1, GK.setO_eq, GK.setS_list, GK.setS_dict, GK.keyOk_int, GK.keyOk_str, GK.ixD_dictI, GK.ixD_dictS, GK.cmpop_inK, GK.cmpop_notinK, GK.inK_int, GK.inK_str, GK.look_kT, GK.put_kT, GK.deq_bool, GK.lentE_var, GK.lentE_call, GK.lentE_lst, GK.lentE_tup, GK.lentE_ix, GK.lentE_sl, GK.lentE_bin, GK.lentE_b1, GK.lentE_lc, GK.lentE_lrg, GK.lentE_rvl, GK.lentE_sst, GK.lentE_gk, GK.lentE_gdx, GK.lentE_dsp, GK.lentO_p, GK.lentO_f, GK.lentO_o, GK.frzB_t, GK.frzB_f, GK.nmkD_list, GK.nmkD_tuple, GK.nmkD_int, GK.nmkD_bool, GK.nmkD_dict, GK.nmk_nil, GK.nmk_int, GK.nmk_str, GK.nmk_kT, GK.nmk_kv, GK.nmk_none, GK.keyOk_tup, GK.exS_ndn, GK.inK_tup, GK.inN_mk, GK.ixD_dictT, GK.getN_mk, GK.optD_some, GK.setSN_eq, GK.setN_mk, GK.b1D_tupN, GK.b1D_lenK, GK.b1D_lenD, GK.evE_lns, GK.evE_pk2, GK.exS_fst, Bool.false_and, Bool.and_false, GK.binI_add_nat, GK.binI_shr_nat, GK.binI_and1_nat, GK.deq_nat, GK.cmpop_lt_nat, GK.cmpop_le_nat, GK.cmpop_gt_nat, GK.cmpop_ge_nat, GK.binI_or_nat, GK.binI_xor_nat, GK.mmD_maxN, GK.mmD_minN, GK.inD_nats, GK.inF_nats, GK.intsD_nats, GK.sum_cast, List.length_map, List.length_range, GK.lenOk_of (show i ≤ 16777216 by omega)]
    refine for_fin (fun j ρ => ∃ a b c d e g, ρ = [some ⟨.f, .tuple [nD i, .tuple (ss.map stD), nD o]⟩, some (fI (r : Nat)), some ⟨.o, .list ((cvals ((List.range i).map (bitN r)) (ss.take j)).map nD)⟩, a, b, c, d, e, g]) ⟨none, none, none, none, none, none, rfl⟩ (fun j x ρ hx hp => ?_) (fun ρ' hp => ?_)
    · obtain ⟨a, b, c, d, e, g, rfl⟩ := hp
      obtain ⟨s, hs, rfl⟩ := map_at hx
      have hso := hc.st j s hs
      have hn4 := hso.n4
      have hlen := hso.len
      have hj := at_lt hs
      have fl : (cvals ((List.range i).map (bitN r)) (ss.take j)).length = i + j := by rw [cvals_len, List.length_map, List.length_range, take_len hs]
      have fb := cvals_bits (ss.take j) ((List.range i).map (bitN r)) (fun b hb => by
        obtain ⟨x, _, rfl⟩ := List.mem_map.mp hb
        exact bitN_lt _ _)
      rw [cvals_take hs]
      generalize cvals ((List.range i).map (bitN r)) (ss.take j) = f at *
      simp only [stD, gD, GK.ok_bind, GK.pure_M, GK.bind_assoc', GK.vm_f, GK.vm_o, GK.vm_p, GK.vm_vm, GK.rdV_mk, GK.rdV_fI, GK.rdV_fB, GK.evE_var, GK.evE_int, GK.evE_bl, GK.evE_non, GK.evE_str, GK.evE_bin, GK.evE_neg, GK.evE_inv, GK.evE_cmp, GK.ifM_t, GK.ifM_f, GK.evE_chn, GK.evE_isN, GK.evE_notN, GK.evE_and, GK.evE_or, GK.evE_not, GK.evE_ife, GK.evE_tup, GK.evE_lst, GK.evE_ix, GK.evE_sl, GK.evE_call, GK.evE_b1, GK.evE_isi, GK.evE_lc, GK.evE_lrg, GK.evF_nil, GK.evF_cons, GK.evA_nil, GK.evA_cons, GK.getI_int, GK.evO_none, GK.evO_some, GK.evC_none, GK.evC_some, GK.evI_rg1, GK.evI_rg2, GK.evI_seq, GK.seqF_nx, GK.seqF_rt, GK.seqF_bk, GK.seqF_ct, GK.exSs_nil, GK.exSs_cons, GK.exSs_frz, GK.exS_asg, GK.exS_setix, GK.exS_app, GK.exS_ext, GK.exS_exp, GK.exS_ret, GK.exS_retN, GK.exS_ite, GK.exS_for, GK.exS_whl, GK.exS_brk, GK.exS_cont, GK.exS_pass, GK.fin_rt, GK.fin_nx, GK.bindT_nm, GK.bindT_nmo, GK.bindT_nI, GK.bindT_nB, GK.bindT_tp2, GK.bindT_tp3, GK.bindT_tl5, GK.fI_d, GK.fB_d, GK.fI_m, GK.fB_m, GK.asF_f, GK.asF_o, GK.asF_fI, GK.asF_fB, GK.asB_b, GK.argS_f, GK.argS_o, GK.argS_p, GK.argS_v, GK.argS_fI, GK.argS_fB, GK.retS_f, GK.retS_o, GK.retS_fI, GK.retS_fB, GK.retP_o, GK.retS_p, GK.ownG_o, GK.ownL_eq, GK.frzG_o, GK.frzG_f, GK.frzG_fI, GK.frzG_fB, GK.frzR_eq, GK.extG_list, GK.isF_f, GK.isF_o, GK.isF_p, GK.binop_int, GK.binop_cat, GK.binop_rep, GK.ckI_t, GK.ckO_t, GK.unop_neg, GK.unop_inv, GK.cmpop_eq, GK.cmpop_ne, GK.optS_some, GK.ixD_list, GK.ixD_tup, GK.slD_list, GK.b1D_len, GK.b1D_lenT, GK.b1D_list, GK.b1D_listT, GK.b1D_tup, GK.b1D_tupT, GK.b1D_int, GK.b1D_intN, GK.b1D_sum, GK.sumS_some, GK.allS_some, GK.b1D_all, GK.b1D_any, GK.itemsD_list, GK.itemsD_tup, GK.ix_t0, GK.ix_t1, GK.ix_t2, GK.nD_def, GK.fI_eq', GK.fB_eq', GK.deq_pair, GK.natDec, GK.decide_self, GK.notP_rg1, GK.notP_rg2, GK.notPs_f, GK.notPs_o, GK.notP_seq, GK.esLen, Nat.reduceLeDiff, decide_true, decide_false, List.getElem?_cons_zero, List.getElem?_cons_succ, List.set_cons_zero, List.set_cons_succ, List.length_cons, List.length_nil, List.map_cons, List.map_nil, List.replicate_succ, List.replicate_zero, List.append_nil, List.nil_append, List.cons_append, Nat.reduceAdd, Nat.reduceSub, GK.startR, GK.tgIn, GK.isRg, List.contains_cons, List.all_cons, List.all_nil, Bool.and_true, Bool.true_and, Bool.not_true, Bool.not_false, beq_self_eq_true, Bool.or_true, Bool.true_or, Bool.or_false, Bool.false_or, Nat.not_lt_zero, GK.wipeR, GK.isNone, GK.isiD, GK.evE_glb, GK.evE_sst, GK.evE_gk, GK.evE_gdx, GK.evE_dsp, GK.evP_nil, GK.evP_cons, GK.evE_mm, GK.evE_rvl, GK.evI_rg3, GK.evI_enm, GK.evI_rev, GK.evI_zp, GK.evI_rvr, GK.notP_rg3, GK.notP_rvr, GK.notP_enm, GK.notP_rev, GK.notP_zp, GK.ckTu_t, GK.binop_catT, GK.slD_tup, GK.rvD_list, GK.cmpop_is, GK.cmpop_isnot, GK.negM_ok', GK.cmpop_in, GK.cmpop_notin, GK.cmpop_inT, GK.cmpop_notinT, GK.beq_t, GK.beq_f, GK.evE_dnw, GK.evE_dsp1, GK.setO_eq, GK.setS_list, GK.setS_dict, GK.keyOk_int, GK.keyOk_str, GK.ixD_dictI, GK.ixD_dictS, GK.cmpop_inK, GK.cmpop_notinK, GK.inK_int, GK.inK_str, GK.look_kT, GK.put_kT, GK.deq_bool, GK.lentE_var, GK.lentE_call, GK.lentE_lst, GK.lentE_tup, GK.lentE_ix, GK.lentE_sl, GK.lentE_bin, GK.lentE_b1, GK.lentE_lc, GK.lentE_lrg, GK.lentE_rvl, GK.lentE_sst, GK.lentE_gk, GK.lentE_gdx, GK.lentE_dsp, GK.lentO_p, GK.lentO_f, GK.lentO_o, GK.frzB_t, GK.frzB_f, GK.nmkD_list, GK.nmkD_tuple, GK.nmkD_int, GK.nmkD_bool, GK.nmkD_dict, GK.nmk_nil, GK.nmk_int, GK.nmk_str, GK.nmk_kT, GK.nmk_kv, GK.nmk_none, GK.keyOk_tup, GK.exS_ndn, GK.inK_tup, GK.inN_mk, GK.ixD_dictT, GK.getN_mk, GK.optD_some, GK.setSN_eq, GK.setN_mk, GK.b1D_tupN, GK.b1D_lenK, GK.b1D_lenD, GK.evE_lns, GK.evE_pk2, GK.exS_fst, Bool.false_and, Bool.and_false, GK.binI_add_nat, GK.binI_shr_nat, GK.binI_and1_nat, GK.deq_nat, GK.cmpop_lt_nat, GK.cmpop_le_nat, GK.cmpop_gt_nat, GK.cmpop_ge_nat, GK.binI_or_nat, GK.binI_xor_nat, GK.mmD_maxN, GK.mmD_minN, GK.inD_nats, GK.inF_nats, GK.intsD_nats, GK.sum_cast]
      rw [GK.enumD_map nD 0, GK.lcGo_map (fun k : Nat => PyData.tuple [.int (k : Nat), nD (s.ws.getD k 0)]) (fun k => nD (f.getD (s.ws.getD k 0) 0 * 2 ^ k)), GK.nDmap (fun k => f.getD (s.ws.getD k 0) 0 * 2 ^ k)]
      · have e2 : ((List.range s.ws.length).map fun k => f.getD (s.ws.getD k 0) 0 * 2 ^ k).sum = numN (s.ws.map fun w => f.getD w 0) := by
          rw [← sum_num (s.ws.map fun w => f.getD w 0) s.ws.length (by rw [List.length_map])]
          congr 1
          apply List.map_congr_left
          intro k hk
          rw [getD_map _ _ _ _ 0 (List.mem_range.mp hk)]
        have e3 : s.b / 2 ^ numN (s.ws.map fun w => f.getD w 0) % 2 = valN s.b (s.ws.map fun w => f.getD w 0) := rfl
        have e4 : f.map nD ++ [PyData.int (valN s.b (s.ws.map fun w => f.getD w 0) : Nat)] = (stepV f s).map nD := by
          simp only [stepV, List.map_append]
          rfl
        simp only [GK.ok_bind, GK.pure_M, GK.bind_assoc', GK.vm_f, GK.vm_o, GK.vm_p, GK.vm_vm, GK.rdV_mk, GK.rdV_fI, GK.rdV_fB, GK.evE_var, GK.evE_int, GK.evE_bl, GK.evE_non, GK.evE_str, GK.evE_bin, GK.evE_neg, GK.evE_inv, GK.evE_cmp, GK.ifM_t, GK.ifM_f, GK.evE_chn, GK.evE_isN, GK.evE_notN, GK.evE_and, GK.evE_or, GK.evE_not, GK.evE_ife, GK.evE_tup, GK.evE_lst, GK.evE_ix, GK.evE_sl, GK.evE_call, GK.evE_b1, GK.evE_isi, GK.evE_lc, GK.evE_lrg, GK.evF_nil, GK.evF_cons, GK.evA_nil, GK.evA_cons, GK.getI_int, GK.evO_none, GK.evO_some, GK.evC_none, GK.evC_some, GK.evI_rg1, GK.evI_rg2, GK.evI_seq, GK.seqF_nx, GK.seqF_rt, GK.seqF_bk, GK.seqF_ct, GK.exSs_nil, GK.exSs_cons, GK.exSs_frz, GK.exS_asg, GK.exS_setix, GK.exS_app, GK.exS_ext, GK.exS_exp, GK.exS_ret, GK.exS_retN, GK.exS_ite, GK.exS_for, GK.exS_whl, GK.exS_brk, GK.exS_cont, GK.exS_pass, GK.fin_rt, GK.fin_nx, GK.bindT_nm, GK.bindT_nmo, GK.bindT_nI, GK.bindT_nB, GK.bindT_tp2, GK.bindT_tp3, GK.bindT_tl5, GK.fI_d, GK.fB_d, GK.fI_m, GK.fB_m, GK.asF_f, GK.asF_o, GK.asF_fI, GK.asF_fB, GK.asB_b, GK.argS_f, GK.argS_o, GK.argS_p, GK.argS_v, GK.argS_fI, GK.argS_fB, GK.retS_f, GK.retS_o, GK.retS_fI, GK.retS_fB, GK.retP_o, GK.retS_p, GK.ownG_o, GK.ownL_eq, GK.frzG_o, GK.frzG_f, GK.frzG_fI, GK.frzG_fB, GK.frzR_eq, GK.extG_list, GK.isF_f, GK.isF_o, GK.isF_p, GK.binop_int, GK.binop_cat, GK.binop_rep, GK.ckI_t, GK.ckO_t, GK.unop_neg, GK.unop_inv, GK.cmpop_eq, GK.cmpop_ne, GK.optS_some, GK.ixD_list, GK.ixD_tup, GK.slD_list, GK.b1D_len, GK.b1D_lenT, GK.b1D_list, GK.b1D_listT, GK.b1D_tup, GK.b1D_tupT, GK.b1D_int, GK.b1D_intN, GK.b1D_sum, GK.sumS_some, GK.allS_some, GK.b1D_all, GK.b1D_any, GK.itemsD_list, GK.itemsD_tup, GK.ix_t0, GK.ix_t1, GK.ix_t2, GK.nD_def, GK.fI_eq', GK.fB_eq', GK.deq_pair, GK.natDec, GK.decide_self, GK.notP_rg1, GK.notP_rg2, GK.notPs_f, GK.notPs_o, GK.notP_seq, GK.esLen, Nat.reduceLeDiff, decide_true, decide_false, List.getElem?_cons_zero, List.getElem?_cons_succ, List.set_cons_zero, List.set_cons_succ, List.length_cons, List.length_nil, List.map_cons, List.map_nil, List.replicate_succ, List.replicate_zero, List.append_nil, List.nil_append, List.cons_append, Nat.reduceAdd, Nat.reduceSub, GK.startR, GK.tgIn, GK.isRg, List.contains_cons, List.all_cons, List.all_nil, Bool.and_true, Bool.true_and, Bool.not_true, Bool.not_false, beq_self_eq_true, Bool.or_true, Bool.true_or, Bool.or_false, Bool.false_or, Nat.not_lt_zero, GK.wipeR, GK.isNone, GK.isiD, GK.evE_glb, GK.evE_sst, GK.evE_gk, GK.evE_gdx, GK.evE_dsp, GK.evP_nil, GK.evP_cons, GK.evE_mm, GK.evE_rvl, GK.evI_rg3, GK.evI_enm, GK.evI_rev, GK.evI_zp, GK.evI_rvr, GK.notP_rg3, GK.notP_rvr, GK.notP_enm, GK.notP_rev, GK.notP_zp, GK.ckTu_t, GK.binop_catT, GK.slD_tup, GK.rvD_list, GK.cmpop_is, GK.cmpop_isnot, GK.negM_ok', GK.cmpop_in, GK.cmpop_notin, GK.cmpop_inT, GK.cmpop_notinT, GK.beq_t, GK.beq_f, GK.evE_dnw, GK.evE_dsp1, GK.setO_eq, GK.setS_list, GK.setS_dict, GK.keyOk_int, GK.keyOk_str, GK.ixD_dictI, GK.ixD_dictS, GK.cmpop_inK, GK.cmpop_notinK, GK.inK_int, GK.inK_str, GK.look_kT, GK.put_kT, GK.deq_bool, GK.lentE_var, GK.lentE_call, GK.lentE_lst, GK.lentE_tup, GK.lentE_ix, GK.lentE_sl, GK.lentE_bin, GK.lentE_b1, GK.lentE_lc, GK.lentE_lrg, GK.lentE_rvl, GK.lentE_sst, GK.lentE_gk, GK.lentE_gdx, GK.lentE_dsp, GK.lentO_p, GK.lentO_f, GK.lentO_o, GK.frzB_t, GK.frzB_f, GK.nmkD_list, GK.nmkD_tuple, GK.nmkD_int, GK.nmkD_bool, GK.nmkD_dict, GK.nmk_nil, GK.nmk_int, GK.nmk_str, GK.nmk_kT, GK.nmk_kv, GK.nmk_none, GK.keyOk_tup, GK.exS_ndn, GK.inK_tup, GK.inN_mk, GK.ixD_dictT, GK.getN_mk, GK.optD_some, GK.setSN_eq, GK.setN_mk, GK.b1D_tupN, GK.b1D_lenK, GK.b1D_lenD, GK.evE_lns, GK.evE_pk2, GK.exS_fst, Bool.false_and, Bool.and_false, GK.binI_add_nat, GK.binI_shr_nat, GK.binI_and1_nat, GK.deq_nat, GK.cmpop_lt_nat, GK.cmpop_le_nat, GK.cmpop_gt_nat, GK.cmpop_ge_nat, GK.binI_or_nat, GK.binI_xor_nat, GK.mmD_maxN, GK.mmD_minN, GK.inD_nats, GK.inF_nats, GK.intsD_nats, GK.sum_cast, List.length_map, List.length_range, GK.lenOk_of (show s.ws.length ≤ 16777216 by omega), e2, e3, GK.lenOk_of (show f.length + 1 ≤ 16777216 by omega), e4]
        exact nx_ok ⟨_, _, _, _, _, _, rfl⟩
      · intro k hk
        have hk' := List.mem_range.mp hk
        have hw : s.ws.getD k 0 < i + j := hso.lt _ (by rw [List.getD_eq_getElem?_getD, List.getElem?_eq_getElem hk']; exact List.getElem_mem hk')
        have hb := getD_lt fb (by decide) (s.ws.getD k 0)
        simp only [GK.lcTurn, GK.ok_bind, GK.pure_M, GK.bind_assoc', GK.vm_f, GK.vm_o, GK.vm_p, GK.vm_vm, GK.rdV_mk, GK.rdV_fI, GK.rdV_fB, GK.evE_var, GK.evE_int, GK.evE_bl, GK.evE_non, GK.evE_str, GK.evE_bin, GK.evE_neg, GK.evE_inv, GK.evE_cmp, GK.ifM_t, GK.ifM_f, GK.evE_chn, GK.evE_isN, GK.evE_notN, GK.evE_and, GK.evE_or, GK.evE_not, GK.evE_ife, GK.evE_tup, GK.evE_lst, GK.evE_ix, GK.evE_sl, GK.evE_call, GK.evE_b1, GK.evE_isi, GK.evE_lc, GK.evE_lrg, GK.evF_nil, GK.evF_cons, GK.evA_nil, GK.evA_cons, GK.getI_int, GK.evO_none, GK.evO_some, GK.evC_none, GK.evC_some, GK.evI_rg1, GK.evI_rg2, GK.evI_seq, GK.seqF_nx, GK.seqF_rt, GK.seqF_bk, GK.seqF_ct, GK.exSs_nil, GK.exSs_cons, GK.exSs_frz, GK.exS_asg, GK.exS_setix, GK.exS_app, GK.exS_ext, GK.exS_exp, GK.exS_ret, GK.exS_retN, GK.exS_ite, GK.exS_for, GK.exS_whl, GK.exS_brk, GK.exS_cont, GK.exS_pass, GK.fin_rt, GK.fin_nx, GK.bindT_nm, GK.bindT_nmo, GK.bindT_nI, GK.bindT_nB, GK.bindT_tp2, GK.bindT_tp3, GK.bindT_tl5, GK.fI_d, GK.fB_d, GK.fI_m, GK.fB_m, GK.asF_f, GK.asF_o, GK.asF_fI, GK.asF_fB, GK.asB_b, GK.argS_f, GK.argS_o, GK.argS_p, GK.argS_v, GK.argS_fI, GK.argS_fB, GK.retS_f, GK.retS_o, GK.retS_fI, GK.retS_fB, GK.retP_o, GK.retS_p, GK.ownG_o, GK.ownL_eq, GK.frzG_o, GK.frzG_f, GK.frzG_fI, GK.frzG_fB, GK.frzR_eq, GK.extG_list, GK.isF_f, GK.isF_o, GK.isF_p, GK.binop_int, GK.binop_cat, GK.binop_rep, GK.ckI_t, GK.ckO_t, GK.unop_neg, GK.unop_inv, GK.cmpop_eq, GK.cmpop_ne, GK.optS_some, GK.ixD_list, GK.ixD_tup, GK.slD_list, GK.b1D_len, GK.b1D_lenT, GK.b1D_list, GK.b1D_listT, GK.b1D_tup, GK.b1D_tupT, GK.b1D_int, GK.b1D_intN, GK.b1D_sum, GK.sumS_some, GK.allS_some, GK.b1D_all, GK.b1D_any, GK.itemsD_list, GK.itemsD_tup, GK.ix_t0, GK.ix_t1, GK.ix_t2, GK.nD_def, GK.fI_eq', GK.fB_eq', GK.deq_pair, GK.natDec, GK.decide_self, GK.notP_rg1, GK.notP_rg2, GK.notPs_f, GK.notPs_o, GK.notP_seq, GK.esLen, Nat.reduceLeDiff, decide_true, decide_false, List.getElem?_cons_zero, List.getElem?_cons_succ, List.set_cons_zero, List.set_cons_succ, List.length_cons, List.length_nil, List.map_cons, List.map_nil, List.replicate_succ, List.replicate_zero, List.append_nil, List.nil_append, List.cons_append, Nat.reduceAdd, Nat.reduceSub, GK.startR, GK.tgIn, GK.isRg, List.contains_cons, List.all_cons, List.all_nil, Bool.and_true, Bool.true_and, Bool.not_true, Bool.not_false, beq_self_eq_true, Bool.or_true, Bool.true_or, Bool.or_false, Bool.false_or, Nat.not_lt_zero, GK.wipeR, GK.isNone, GK.isiD, GK.evE_glb, GK.evE_sst, GK.evE_gk, GK.evE_gdx, GK.evE_dsp, GK.evP_nil, GK.evP_cons, GK.evE_mm, GK.evE_rvl, GK.evI_rg3, GK.evI_enm, GK.evI_rev, GK.evI_zp, GK.evI_rvr, GK.notP_rg3, GK.notP_rvr, GK.notP_enm, GK.notP_rev, GK.notP_zp, GK.ckTu_t, GK.binop_catT, GK.slD_tup, GK.rvD_list, GK.cmpop_is, GK.cmpop_isnot, GK.negM_ok', GK.cmpop_in, GK.cmpop_notin, GK.cmpop_inT, GK.cmpop_notinT, GK.beq_t, GK.beq_f, GK.evE_dnw, GK.evE_dsp1, GK.setO_eq, GK.setS_list, GK.setS_dict, GK.keyOk_int, GK.keyOk_str, GK.ixD_dictI, GK.ixD_dictS, GK.cmpop_inK, GK.cmpop_notinK, GK.inK_int, GK.inK_str, GK.look_kT, GK.put_kT, GK.deq_bool, GK.lentE_var, GK.lentE_call, GK.lentE_lst, GK.lentE_tup, GK.lentE_ix, GK.lentE_sl, GK.lentE_bin, GK.lentE_b1, GK.lentE_lc, GK.lentE_lrg, GK.lentE_rvl, GK.lentE_sst, GK.lentE_gk, GK.lentE_gdx, GK.lentE_dsp, GK.lentO_p, GK.lentO_f, GK.lentO_o, GK.frzB_t, GK.frzB_f, GK.nmkD_list, GK.nmkD_tuple, GK.nmkD_int, GK.nmkD_bool, GK.nmkD_dict, GK.nmk_nil, GK.nmk_int, GK.nmk_str, GK.nmk_kT, GK.nmk_kv, GK.nmk_none, GK.keyOk_tup, GK.exS_ndn, GK.inK_tup, GK.inN_mk, GK.ixD_dictT, GK.getN_mk, GK.optD_some, GK.setSN_eq, GK.setN_mk, GK.b1D_tupN, GK.b1D_lenK, GK.b1D_lenD, GK.evE_lns, GK.evE_pk2, GK.exS_fst, Bool.false_and, Bool.and_false, GK.binI_add_nat, GK.binI_shr_nat, GK.binI_and1_nat, GK.deq_nat, GK.cmpop_lt_nat, GK.cmpop_le_nat, GK.cmpop_gt_nat, GK.cmpop_ge_nat, GK.binI_or_nat, GK.binI_xor_nat, GK.mmD_maxN, GK.mmD_minN, GK.inD_nats, GK.inF_nats, GK.intsD_nats, GK.sum_cast, GK.at_map nD f _ _ (getD_at (show s.ws.getD k 0 < f.length by omega)), GK.binI_shl_nat (show f.getD (s.ws.getD k 0) 0 < 2 ^ 64 by omega) (show k ≤ 1000000 by omega)]
    · obtain ⟨a, b, c, d, e, g, rfl⟩ := hp
      have fl : (cvals ((List.range i).map (bitN r)) ss).length = i + ss.length := by rw [cvals_len, List.length_map, List.length_range]
      have ho := hc.out
      simp only [GK.ok_bind, GK.pure_M, GK.bind_assoc', GK.vm_f, GK.vm_o, GK.vm_p, GK.vm_vm, GK.rdV_mk, GK.rdV_fI, GK.rdV_fB, GK.evE_var, GK.evE_int, GK.evE_bl, GK.evE_non, GK.evE_str, GK.evE_bin, GK.evE_neg, GK.evE_inv, GK.evE_cmp, GK.ifM_t, GK.ifM_f, GK.evE_chn, GK.evE_isN, GK.evE_notN, GK.evE_and, GK.evE_or, GK.evE_not, GK.evE_ife, GK.evE_tup, GK.evE_lst, GK.evE_ix, GK.evE_sl, GK.evE_call, GK.evE_b1, GK.evE_isi, GK.evE_lc, GK.evE_lrg, GK.evF_nil, GK.evF_cons, GK.evA_nil, GK.evA_cons, GK.getI_int, GK.evO_none, GK.evO_some, GK.evC_none, GK.evC_some, GK.evI_rg1, GK.evI_rg2, GK.evI_seq, GK.seqF_nx, GK.seqF_rt, GK.seqF_bk, GK.seqF_ct, GK.exSs_nil, GK.exSs_cons, GK.exSs_frz, GK.exS_asg, GK.exS_setix, GK.exS_app, GK.exS_ext, GK.exS_exp, GK.exS_ret, GK.exS_retN, GK.exS_ite, GK.exS_for, GK.exS_whl, GK.exS_brk, GK.exS_cont, GK.exS_pass, GK.fin_rt, GK.fin_nx, GK.bindT_nm, GK.bindT_nmo, GK.bindT_nI, GK.bindT_nB, GK.bindT_tp2, GK.bindT_tp3, GK.bindT_tl5, GK.fI_d, GK.fB_d, GK.fI_m, GK.fB_m, GK.asF_f, GK.asF_o, GK.asF_fI, GK.asF_fB, GK.asB_b, GK.argS_f, GK.argS_o, GK.argS_p, GK.argS_v, GK.argS_fI, GK.argS_fB, GK.retS_f, GK.retS_o, GK.retS_fI, GK.retS_fB, GK.retP_o, GK.retS_p, GK.ownG_o, GK.ownL_eq, GK.frzG_o, GK.frzG_f, GK.frzG_fI, GK.frzG_fB, GK.frzR_eq, GK.extG_list, GK.isF_f, GK.isF_o, GK.isF_p, GK.binop_int, GK.binop_cat, GK.binop_rep, GK.ckI_t, GK.ckO_t, GK.unop_neg, GK.unop_inv, GK.cmpop_eq, GK.cmpop_ne, GK.optS_some, GK.ixD_list, GK.ixD_tup, GK.slD_list, GK.b1D_len, GK.b1D_lenT, GK.b1D_list, GK.b1D_listT, GK.b1D_tup, GK.b1D_tupT, GK.b1D_int, GK.b1D_intN, GK.b1D_sum, GK.sumS_some, GK.allS_some, GK.b1D_all, GK.b1D_any, GK.itemsD_list, GK.itemsD_tup, GK.ix_t0, GK.ix_t1, GK.ix_t2, GK.nD_def, GK.fI_eq', GK.fB_eq', GK.deq_pair, GK.natDec, GK.decide_self, GK.notP_rg1, GK.notP_rg2, GK.notPs_f, GK.notPs_o, GK.notP_seq, GK.esLen, Nat.reduceLeDiff, decide_true, decide_false, List.getElem?_cons_zero, List.getElem?_cons_succ, List.set_cons_zero, List.set_cons_succ, List.length_cons, List.length_nil, List.map_cons, List.map_nil, List.replicate_succ, List.replicate_zero, List.append_nil, List.nil_append, List.cons_append, Nat.reduceAdd, Nat.reduceSub, GK.startR, GK.tgIn, GK.isRg, List.contains_cons, List.all_cons, List.all_nil, Bool.and_true, Bool.true_and, Bool.not_true, Bool.not_false, beq_self_eq_true, Bool.or_true, Bool.true_or, Bool.or_false, Bool.false_or, Nat.not_lt_zero, GK.wipeR, GK.isNone, GK.isiD, GK.evE_glb, GK.evE_sst, GK.evE_gk, GK.evE_gdx, GK.evE_dsp, GK.evP_nil, GK.evP_cons, GK.evE_mm, GK.evE_rvl, GK.evI_rg3, GK.evI_enm, GK.evI_rev, GK.evI_zp, GK.evI_rvr, GK.notP_rg3, GK.notP_rvr, GK.notP_enm, GK.notP_rev, GK.notP_zp, GK.ckTu_t, GK.binop_catT, GK.slD_tup, GK.rvD_list, GK.cmpop_is, GK.cmpop_isnot, GK.negM_ok', GK.cmpop_in, GK.cmpop_notin, GK.cmpop_inT, GK.cmpop_notinT, GK.beq_t, GK.beq_f, GK.evE_dnw, GK.evE_dsp1, GK.setO_eq, GK.setS_list, GK.setS_dict, GK.keyOk_int, GK.keyOk_str, GK.ixD_dictI, GK.ixD_dictS, GK.cmpop_inK, GK.cmpop_notinK, GK.inK_int, GK.inK_str, GK.look_kT, GK.put_kT, GK.deq_bool, GK.lentE_var, GK.lentE_call, GK.lentE_lst, GK.lentE_tup, GK.lentE_ix, GK.lentE_sl, GK.lentE_bin, GK.lentE_b1, GK.lentE_lc, GK.lentE_lrg, GK.lentE_rvl, GK.lentE_sst, GK.lentE_gk, GK.lentE_gdx, GK.lentE_dsp, GK.lentO_p, GK.lentO_f, GK.lentO_o, GK.frzB_t, GK.frzB_f, GK.nmkD_list, GK.nmkD_tuple, GK.nmkD_int, GK.nmkD_bool, GK.nmkD_dict, GK.nmk_nil, GK.nmk_int, GK.nmk_str, GK.nmk_kT, GK.nmk_kv, GK.nmk_none, GK.keyOk_tup, GK.exS_ndn, GK.inK_tup, GK.inN_mk, GK.ixD_dictT, GK.getN_mk, GK.optD_some, GK.setSN_eq, GK.setN_mk, GK.b1D_tupN, GK.b1D_lenK, GK.b1D_lenD, GK.evE_lns, GK.evE_pk2, GK.exS_fst, Bool.false_and, Bool.and_false, GK.binI_add_nat, GK.binI_shr_nat, GK.binI_and1_nat, GK.deq_nat, GK.cmpop_lt_nat, GK.cmpop_le_nat, GK.cmpop_gt_nat, GK.cmpop_ge_nat, GK.binI_or_nat, GK.binI_xor_nat, GK.mmD_maxN, GK.mmD_minN, GK.inD_nats, GK.inF_nats, GK.intsD_nats, GK.sum_cast, List.length_map, List.take_length, GK.at_map nD _ _ _ (getD_at (show o < (cvals ((List.range i).map (bitN r)) ss).length by omega))]
  · intro j hj
    simp only [GK.lcTurn, GK.ok_bind, GK.pure_M, GK.bind_assoc', GK.vm_f, GK.vm_o, GK.vm_p, GK.vm_vm, GK.rdV_mk, GK.rdV_fI, GK.rdV_fB, GK.evE_var, GK.evE_int, GK.evE_bl, GK.evE_non, GK.evE_str, GK.evE_bin, GK.evE_neg, GK.evE_inv, GK.evE_cmp, GK.ifM_t, GK.ifM_f, GK.evE_chn, GK.evE_isN, GK.evE_notN, GK.evE_and, GK.evE_or, GK.evE_not, GK.evE_ife, GK.evE_tup, GK.evE_lst, GK.evE_ix, GK.evE_sl, GK.evE_call, GK.evE_b1, GK.evE_isi, GK.evE_lc, GK.evE_lrg, GK.evF_nil, GK.evF_cons, GK.evA_nil, GK.evA_cons, GK.getI_int, GK.evO_none, GK.evO_some, GK.evC_none, GK.evC_some, GK.evI_rg1, GK.evI_rg2, GK.evI_seq, GK.seqF_nx, GK.seqF_rt, GK.seqF_bk, GK.seqF_ct, GK.exSs_nil, GK.exSs_cons, GK.exSs_frz, GK.exS_asg, GK.exS_setix, GK.exS_app, GK.exS_ext, GK.exS_exp, GK.exS_ret, GK.exS_retN, GK.exS_ite, GK.exS_for, GK.exS_whl, GK.exS_brk, GK.exS_cont, GK.exS_pass, GK.fin_rt, GK.fin_nx, GK.bindT_nm, GK.bindT_nmo, GK.bindT_nI, GK.bindT_nB, GK.bindT_tp2, GK.bindT_tp3, GK.bindT_tl5, GK.fI_d, GK.fB_d, GK.fI_m, GK.fB_m, GK.asF_f, GK.asF_o, GK.asF_fI, GK.asF_fB, GK.asB_b, GK.argS_f, GK.argS_o, GK.argS_p, GK.argS_v, GK.argS_fI, GK.argS_fB, GK.retS_f, GK.retS_o, GK.retS_fI, GK.retS_fB, GK.retP_o, GK.retS_p, GK.ownG_o, GK.ownL_eq, GK.frzG_o, GK.frzG_f, GK.frzG_fI, GK.frzG_fB, GK.frzR_eq, GK.extG_list, GK.isF_f, GK.isF_o, GK.isF_p, GK.binop_int, GK.binop_cat, GK.binop_rep, GK.ckI_t, GK.ckO_t, GK.unop_neg, GK.unop_inv, GK.cmpop_eq, GK.cmpop_ne, GK.optS_some, GK.ixD_list, GK.ixD_tup, GK.slD_list, GK.b1D_len, GK.b1D_lenT, GK.b1D_list, GK.b1D_listT, GK.b1D_tup, GK.b1D_tupT, GK.b1D_int, GK.b1D_intN, GK.b1D_sum, GK.sumS_some, GK.allS_some, GK.b1D_all, GK.b1D_any, GK.itemsD_list, GK.itemsD_tup, GK.ix_t0, GK.ix_t1, GK.ix_t2, GK.nD_def, GK.fI_eq', GK.fB_eq', GK.deq_pair, GK.natDec, GK.decide_self, GK.notP_rg1, GK.notP_rg2, GK.notPs_f, GK.notPs_o, GK.notP_seq, GK.esLen, Nat.reduceLeDiff, decide_true, decide_false, List.getElem?_cons_zero, List.getElem?_cons_succ, List.set_cons_zero, List.set_cons_succ, List.length_cons, List.length_nil, List.map_cons, List.map_nil, List.replicate_succ, List.replicate_zero, List.append_nil, List.nil_append, List.cons_append, Nat.reduceAdd, Nat.reduceSub, GK.startR, GK.tgIn, GK.isRg, List.contains_cons, List.all_cons, List.all_nil, Bool.and_true, Bool.true_and, Bool.not_true, Bool.not_false, beq_self_eq_true, Bool.or_true, Bool.true_or, Bool.or_false, Bool.false_or, Nat.not_lt_zero, GK.wipeR, GK.isNone, GK.isiD, GK.evE_glb, GK.evE_sst, GK.evE_gk, GK.evE_gdx, GK.evE_dsp, GK.evP_nil, GK.evP_cons, GK.evE_mm, GK.evE_rvl, GK.evI_rg3, GK.evI_enm, GK.evI_rev, GK.evI_zp, GK.evI_rvr, GK.notP_rg3, GK.notP_rvr, GK.notP_enm, GK.notP_rev, GK.notP_zp, GK.ckTu_t, GK.binop_catT, GK.slD_tup, GK.rvD_list, GK.cmpop_is, GK.cmpop_isnot, GK.negM_ok', GK.cmpop_in, GK.cmpop_notin, GK.cmpop_inT, GK.cmpop_notinT, GK.beq_t, GK.beq_f, GK.evE_dnw, GK.evE_dsp1, GK.setO_eq, GK.setS_list, GK.setS_dict, GK.keyOk_int, GK.keyOk_str, GK.ixD_dictI, GK.ixD_dictS, GK.cmpop_inK, GK.cmpop_notinK, GK.inK_int, GK.inK_str, GK.look_kT, GK.put_kT, GK.deq_bool, GK.lentE_var, GK.lentE_call, GK.lentE_lst, GK.lentE_tup, GK.lentE_ix, GK.lentE_sl, GK.lentE_bin, GK.lentE_b1, GK.lentE_lc, GK.lentE_lrg, GK.lentE_rvl, GK.lentE_sst, GK.lentE_gk, GK.lentE_gdx, GK.lentE_dsp, GK.lentO_p, GK.lentO_f, GK.lentO_o, GK.frzB_t, GK.frzB_f, GK.nmkD_list, GK.nmkD_tuple, GK.nmkD_int, GK.nmkD_bool, GK.nmkD_dict, GK.nmk_nil, GK.nmk_int, GK.nmk_str, GK.nmk_kT, GK.nmk_kv, GK.nmk_none, GK.keyOk_tup, GK.exS_ndn, GK.inK_tup, GK.inN_mk, GK.ixD_dictT, GK.getN_mk, GK.optD_some, GK.setSN_eq, GK.setN_mk, GK.b1D_tupN, GK.b1D_lenK, GK.b1D_lenD, GK.evE_lns, GK.evE_pk2, GK.exS_fst, Bool.false_and, Bool.and_false, GK.binI_add_nat, GK.binI_shr_nat, GK.binI_and1_nat, GK.deq_nat, GK.cmpop_lt_nat, GK.cmpop_le_nat, GK.cmpop_gt_nat, GK.cmpop_ge_nat, GK.binI_or_nat, GK.binI_xor_nat, GK.mmD_maxN, GK.mmD_minN, GK.inD_nats, GK.inF_nats, GK.intsD_nats, GK.sum_cast]
    rfl

/-! ### trees drawn by the numbers (k17, k18) -/
def TrOk (i : Nat) : Nat → D → Prop
  | 0, d => ∃ w, w < i ∧ d = nD w
  | k + 1, d => (∃ w, w < i ∧ d = nD w) ∨ ∃ (n b : Nat) (ts : List D), n ≤ 4 ∧ b < 2 ^ 2 ^ n ∧ ts.length = n ∧ (∀ t ∈ ts, TrOk i k t) ∧ d = .tuple [gD n b, .tuple ts]
theorem TrOk.mono {i : Nat} : ∀ {k l : Nat} {d : D}, TrOk i k d → k ≤ l → TrOk i l d
  | 0, 0, _, h, _ => h
  | 0, l + 1, _, h, _ => .inl h
  | k + 1, l + 1, _, h, hk => by
    rcases h with h | ⟨n, b, ts, h1, h1', h2, h3, h4⟩
    · exact .inl h
    · exact .inr ⟨n, b, ts, h1, h1', h2, fun t ht => (h3 t ht).mono (by omega), h4⟩
def szF : Nat → D → Nat
  | k + 1, .tuple [.tuple [.int _, .int _], .tuple ts] => 1 + (ts.map (szF k)).sum
  | _, _ => 0
theorem szF_leaf (k w : Nat) : szF k (nD w) = 0 := by cases k <;> rfl
theorem szF_node (k n b : Nat) (ts : List D) : szF (k + 1) (.tuple [gD n b, .tuple ts]) = 1 + (ts.map (szF k)).sum := rfl
/-! the law's tree -/
structure Bud (i s m s' m' z : Nat) : Prop where
  a : s' + 4 * m' ≤ s + 4 * m + 1
  b : s + z ≤ s'
  c : 0 < i → z + m' ≤ m
theorem kids {i room B : Nat} {f : D → List D → M (D × List D)} : ∀ (xs : List D) (s m : Nat), s + 4 * m + xs.length ≤ B + 1 → (∀ x ∈ xs, ∀ s m, s + 4 * m ≤ B → ∃ d s' m', TrOk i room d ∧ Bud i s m s' m' (szF room d) ∧ f x [nD s, nD m] = .ok (d, [nD s', nD m'])) →
    ∃ ts s' m', ts.length = xs.length ∧ (∀ t ∈ ts, TrOk i room t) ∧ s' + 4 * m' ≤ s + 4 * m + xs.length ∧ s + (ts.map (szF room)).sum ≤ s' ∧ (0 < i → (ts.map (szF room)).sum + m' ≤ m) ∧ GK.ioGo f xs [nD s, nD m] = .ok (ts, [nD s', nD m'])
  | [], s, m, _, _ => ⟨[], s, m, rfl, fun t ht => by simp at ht, Nat.le_refl _, by simp, fun _ => by simp, rfl⟩
  | x :: xs, s, m, hB, hf => by
    rw [List.length_cons] at hB
    obtain ⟨d, s1, m1, h1, ⟨h2, h2b, h2c⟩, h3⟩ := hf x List.mem_cons_self s m (by omega)
    obtain ⟨ts, s2, m2, h4, h5, h6, h6b, h6c, h7⟩ := kids xs s1 m1 (by omega) fun y hy => hf y (List.mem_cons_of_mem _ hy)
    refine ⟨d :: ts, s2, m2, by rw [List.length_cons, List.length_cons, h4], fun t ht => ?_, by rw [List.length_cons]; omega, ?_, fun hi => ?_, ?_⟩
    · rcases List.mem_cons.mp ht with rfl | ht
      · exact h1
      · exact h5 t ht
    · rw [List.map_cons, List.sum_cons]
      omega
    · have := h2c hi
      have := h6c hi
      rw [List.map_cons, List.sum_cons]
      omega
    · show (f x [nD s, nD m] >>= fun r => GK.ioGo f xs r.2 >>= fun t => .ok (r.1 :: t.1, t.2)) = _
      rw [h3, GK.ok_bind, h7, GK.ok_bind]
theorem pp_tree : GK.ppOf TX "_law_tree" = 1 := by kernel_rfl
theorem runX_tree (K : Nat) (a b c : Sl) (md : Md) (ds : List D) : GK.runX (run K) (runI K) (GK.ppOf TX) xd_tree [a, ⟨md, .list ds⟩, b, c] = GK.exX (run K) (runI K) (GK.ppOf TX) 1 x_law_tree [some a, some ⟨.o, .list ds⟩, some b, some c, none, none, none] ds := by
  unfold GK.runX
  rw [if_pos ⟨rfl, (show 1 < 4 by decide)⟩]
  rfl
theorem ixa (a b : D) : L2.ixN (0 + 1 + 1) ((0 : Nat) : Int) = some 0 := rfl
theorem ixb (a b : D) : L2.ixN (0 + 1 + 1) ((1 : Nat) : Int) = some 1 := rfl
theorem ix2 : L2.ixN 2 ((0 : Nat) : Int) = some 0 := rfl
theorem ix3 : L2.ixN 2 ((1 : Nat) : Int) = some 1 := rfl
theorem tree_run (ns : List Int) (hns : ns.length ≤ 63) (i : Nat) (hi : i ≤ 16) : ∀ (room s m k : Nat) (md : Md), s + 4 * m ≤ 2000 → ∃ d s' m', TrOk i (room + 1) d ∧ Bud i s m s' m' (szF (room + 1) d) ∧
    runI (k + room + 3) "_law_tree" [⟨.f, .list (ns.map .int)⟩, ⟨md, .list [nD s, nD m]⟩, fI (i : Nat), fI (room : Nat)] = .ok (d, [nD s', nD m'])
  | room, s, m, k, md, hb => by
    rw [show k + room + 3 = (k + room + 2) + 1 by omega, runI_tree, runX_tree]
    have lc := law_cell2_run (k + room + 1) ns hns (s + 1) (by omega)
    generalize cell2 ns (s + 1) = cc at lc
    obtain ⟨n, b, hn, hbb, lg⟩ := law_gate2_run (k + room + 1) (cc / ((3 : Nat) : Int))
    simp only [gD, GK.nD_def] at lg
    simp only [x_law_tree, GK.exX, GK.frzV, GK.ok_bind, GK.pure_M, GK.bind_assoc', GK.vm_f, GK.vm_o, GK.vm_p, GK.vm_vm, GK.rdV_mk, GK.rdV_fI, GK.rdV_fB, GK.evE_var, GK.evE_int, GK.evE_bl, GK.evE_non, GK.evE_str, GK.evE_bin, GK.evE_neg, GK.evE_inv, GK.evE_cmp, GK.ifM_t, GK.ifM_f, GK.evE_chn, GK.evE_isN, GK.evE_notN, GK.evE_and, GK.evE_or, GK.evE_not, GK.evE_ife, GK.evE_tup, GK.evE_lst, GK.evE_ix, GK.evE_sl, GK.evE_call, GK.evE_b1, GK.evE_isi, GK.evE_lc, GK.evE_lrg, GK.evF_nil, GK.evF_cons, GK.evA_nil, GK.evA_cons, GK.getI_int, GK.evO_none, GK.evO_some, GK.evC_none, GK.evC_some, GK.evI_rg1, GK.evI_rg2, GK.evI_seq, GK.seqF_nx, GK.seqF_rt, GK.seqF_bk, GK.seqF_ct, GK.exSs_nil, GK.exSs_cons, GK.exSs_frz, GK.exS_asg, GK.exS_setix, GK.exS_app, GK.exS_ext, GK.exS_exp, GK.exS_ret, GK.exS_retN, GK.exS_ite, GK.exS_for, GK.exS_whl, GK.exS_brk, GK.exS_cont, GK.exS_pass, GK.fin_rt, GK.fin_nx, GK.bindT_nm, GK.bindT_nmo, GK.bindT_nI, GK.bindT_nB, GK.bindT_tp2, GK.bindT_tp3, GK.bindT_tl5, GK.fI_d, GK.fB_d, GK.fI_m, GK.fB_m, GK.asF_f, GK.asF_o, GK.asF_fI, GK.asF_fB, GK.asB_b, GK.argS_f, GK.argS_o, GK.argS_p, GK.argS_v, GK.argS_fI, GK.argS_fB, GK.retS_f, GK.retS_o, GK.retS_fI, GK.retS_fB, GK.retP_o, GK.retS_p, GK.ownG_o, GK.ownL_eq, GK.frzG_o, GK.frzG_f, GK.frzG_fI, GK.frzG_fB, GK.frzR_eq, GK.extG_list, GK.isF_f, GK.isF_o, GK.isF_p, GK.binop_int, GK.binop_cat, GK.binop_rep, GK.ckI_t, GK.ckO_t, GK.unop_neg, GK.unop_inv, GK.cmpop_eq, GK.cmpop_ne, GK.optS_some, GK.ixD_list, GK.ixD_tup, GK.slD_list, GK.b1D_len, GK.b1D_lenT, GK.b1D_list, GK.b1D_listT, GK.b1D_tup, GK.b1D_tupT, GK.b1D_int, GK.b1D_intN, GK.b1D_sum, GK.sumS_some, GK.allS_some, GK.b1D_all, GK.b1D_any, GK.itemsD_list, GK.itemsD_tup, GK.ix_t0, GK.ix_t1, GK.ix_t2, GK.nD_def, GK.fI_eq', GK.fB_eq', GK.deq_pair, GK.natDec, GK.decide_self, GK.notP_rg1, GK.notP_rg2, GK.notPs_f, GK.notPs_o, GK.notP_seq, GK.esLen, Nat.reduceLeDiff, decide_true, decide_false, List.getElem?_cons_zero, List.getElem?_cons_succ, List.set_cons_zero, List.set_cons_succ, List.length_cons, List.length_nil, List.map_cons, List.map_nil, List.replicate_succ, List.replicate_zero, List.append_nil, List.nil_append, List.cons_append, Nat.reduceAdd, Nat.reduceSub, GK.startR, GK.tgIn, GK.isRg, List.contains_cons, List.all_cons, List.all_nil, Bool.and_true, Bool.true_and, Bool.not_true, Bool.not_false, beq_self_eq_true, Bool.or_true, Bool.true_or, Bool.or_false, Bool.false_or, Nat.not_lt_zero, GK.wipeR, GK.isNone, GK.isiD, GK.evE_glb, GK.evE_sst, GK.evE_gk, GK.evE_gdx, GK.evE_dsp, GK.evP_nil, GK.evP_cons, GK.evE_mm, GK.evE_rvl, GK.evI_rg3, GK.evI_enm, GK.evI_rev, GK.evI_zp, GK.evI_rvr, GK.notP_rg3, GK.notP_rvr, GK.notP_enm, GK.notP_rev, GK.notP_zp, GK.ckTu_t, GK.binop_catT, GK.slD_tup, GK.rvD_list, GK.cmpop_is, GK.cmpop_isnot, GK.negM_ok', GK.cmpop_in, GK.cmpop_notin, GK.cmpop_inT, GK.cmpop_notinT, GK.beq_t, GK.beq_f, GK.evE_dnw, GK.evE_dsp1, GK.setO_eq, GK.setS_list, GK.setS_dict, GK.keyOk_int, GK.keyOk_str, GK.ixD_dictI, GK.ixD_dictS, GK.cmpop_inK, GK.cmpop_notinK, GK.inK_int, GK.inK_str, GK.look_kT, GK.put_kT, GK.deq_bool, GK.lentE_var, GK.lentE_call, GK.lentE_lst, GK.lentE_tup, GK.lentE_ix, GK.lentE_sl, GK.lentE_bin, GK.lentE_b1, GK.lentE_lc, GK.lentE_lrg, GK.lentE_rvl, GK.lentE_sst, GK.lentE_gk, GK.lentE_gdx, GK.lentE_dsp, GK.lentO_p, GK.lentO_f, GK.lentO_o, GK.frzB_t, GK.frzB_f, GK.nmkD_list, GK.nmkD_tuple, GK.nmkD_int, GK.nmkD_bool, GK.nmkD_dict, GK.nmk_nil, GK.nmk_int, GK.nmk_str, GK.nmk_kT, GK.nmk_kv, GK.nmk_none, GK.keyOk_tup, GK.exS_ndn, GK.inK_tup, GK.inN_mk, GK.ixD_dictT, GK.getN_mk, GK.optD_some, GK.setSN_eq, GK.setN_mk, GK.b1D_tupN, GK.b1D_lenK, GK.b1D_lenD, GK.evE_lns, GK.evE_pk2, GK.exS_fst, Bool.false_and, Bool.and_false, GK.binI_add_nat, GK.binI_shr_nat, GK.binI_and1_nat, GK.deq_nat, GK.cmpop_lt_nat, GK.cmpop_le_nat, GK.cmpop_gt_nat, GK.cmpop_ge_nat, GK.binI_or_nat, GK.binI_xor_nat, GK.mmD_maxN, GK.mmD_minN, GK.inD_nats, GK.inF_nats, GK.intsD_nats, GK.sum_cast, ix2, ix3, lc, lg, GK.binI_divI (show 0 < 3 by decide) (show 3 < 1073741824 by decide), if_pos (show (4 : Nat) ≠ 1 by decide), if_pos (show (5 : Nat) ≠ 1 by decide)]
    have leafA : 0 < i → ∃ d s' m', TrOk i (room + 1) d ∧ Bud i s m s' m' (szF (room + 1) d) ∧ (Except.ok (PyData.int ((modN (cc / ((3 : Nat) : Int)) i : Nat) : Int), [PyData.int ((s + 1 : Nat) : Int), PyData.int (m : Int)]) : M (D × List D)) = .ok (d, [nD s', nD m']) := fun h => ⟨_, s + 1, m, .inl ⟨_, modN_lt h, rfl⟩, ⟨by omega, by show s + szF (room + 1) (nD _) ≤ s + 1; rw [szF_leaf]; omega, fun _ => by show szF (room + 1) (nD _) + m ≤ m; rw [szF_leaf]; omega⟩, rfl⟩
    have leafB : ¬ 0 < i → ∃ d s' m', TrOk i (room + 1) d ∧ Bud i s m s' m' (szF (room + 1) d) ∧ (Except.ok (PyData.tuple [.tuple [.int ((0 : Nat) : Int), .int ((modN (cc / ((3 : Nat) : Int)) 2 : Nat) : Int)], .tuple []], [PyData.int ((s + 1 : Nat) : Int), PyData.int (m : Int)]) : M (D × List D)) = .ok (d, [nD s', nD m']) := fun i0 => ⟨_, s + 1, m, .inr ⟨0, modN (cc / ((3 : Nat) : Int)) 2, [], by decide, modN_lt (by decide), rfl, fun t ht => by simp at ht, rfl⟩, ⟨by omega, Nat.le_refl _, fun z => absurd z i0⟩, rfl⟩
    have nodeC : 0 < room → 1 ≤ m → ∃ d s' m', TrOk i (room + 1) d ∧ Bud i s m s' m' (szF (room + 1) d) ∧ (GK.lcXv (run (k + room + 2)) (runI (k + room + 2)) (GK.ppOf TX) "_law_tree" (.cons (.var 0) (.cons (.var 1) (.cons (.var 2) (.cons (.bin .Sub (.var 3) (.int 1)) .nil)))) 1 6 (.rg1 (.ix (.var 5) (.int 0))) [some ⟨.f, .list (ns.map .int)⟩, some ⟨.o, .list [.int ((s + 1 : Nat) : Int), .int ((m - 1 : Nat) : Int)]⟩, some (fI (i : Nat)), some (fI (room : Nat)), some (fI cc), some ⟨.f, .tuple [.int (n : Int), .int (b : Int)]⟩, none] [.int ((s + 1 : Nat) : Int), .int ((m - 1 : Nat) : Int)] >>= fun r => (Except.ok (PyData.tuple [.tuple [.int (n : Int), .int (b : Int)], .tuple r.1], r.2) : M (D × List D))) = .ok (d, [nD s', nD m']) := fun h0 h1 => by
      obtain ⟨r, rfl⟩ : ∃ r, room = r + 1 := ⟨room - 1, by omega⟩
      obtain ⟨ts, s', m', g1, g2, g3, g3b, g3c, g4⟩ := kids (i := i) (room := r + 1) (B := 2000) (f := GK.ioT (run (k + (r + 1) + 2)) (runI (k + (r + 1) + 2)) (GK.ppOf TX) "_law_tree" (.cons (.var 0) (.cons (.var 1) (.cons (.var 2) (.cons (.bin .Sub (.var 3) (.int 1)) .nil)))) 1 6 [some ⟨.f, .list (ns.map .int)⟩, some ⟨.o, .list [.int ((s + 1 : Nat) : Int), .int ((m - 1 : Nat) : Int)]⟩, some (fI (i : Nat)), some (fI (r + 1 : Nat)), some (fI cc), some ⟨.f, .tuple [.int (n : Int), .int (b : Int)]⟩, none]) ((List.range n).map fun j => PyData.int (j : Nat)) (s + 1) (m - 1) (by rw [List.length_map, List.length_range]; omega) (fun x hx s1 m1 hb1 => by
        obtain ⟨d, s2, m2, e1, e2, e3⟩ := tree_run ns hns i hi r s1 m1 k .p hb1
        refine ⟨d, s2, m2, e1, e2, ?_⟩
        rw [← e3, show k + r + 3 = k + (r + 1) + 2 by omega]
        have e4 : GK.vAt (.cons (.var 0) (.cons (.var 1) (.cons (.var 2) (.cons (.bin .Sub (.var 3) (.int 1)) .nil)))) 1 = some 1 := rfl
        have e5 : r + 1 - 1 = r := by omega
        simp only [GK.ioT, GK.wipeR, pp_tree, e4, GK.ok_bind, GK.pure_M, GK.bind_assoc', GK.vm_f, GK.vm_o, GK.vm_p, GK.vm_vm, GK.rdV_mk, GK.rdV_fI, GK.rdV_fB, GK.evE_var, GK.evE_int, GK.evE_bl, GK.evE_non, GK.evE_str, GK.evE_bin, GK.evE_neg, GK.evE_inv, GK.evE_cmp, GK.ifM_t, GK.ifM_f, GK.evE_chn, GK.evE_isN, GK.evE_notN, GK.evE_and, GK.evE_or, GK.evE_not, GK.evE_ife, GK.evE_tup, GK.evE_lst, GK.evE_ix, GK.evE_sl, GK.evE_call, GK.evE_b1, GK.evE_isi, GK.evE_lc, GK.evE_lrg, GK.evF_nil, GK.evF_cons, GK.evA_nil, GK.evA_cons, GK.getI_int, GK.evO_none, GK.evO_some, GK.evC_none, GK.evC_some, GK.evI_rg1, GK.evI_rg2, GK.evI_seq, GK.seqF_nx, GK.seqF_rt, GK.seqF_bk, GK.seqF_ct, GK.exSs_nil, GK.exSs_cons, GK.exSs_frz, GK.exS_asg, GK.exS_setix, GK.exS_app, GK.exS_ext, GK.exS_exp, GK.exS_ret, GK.exS_retN, GK.exS_ite, GK.exS_for, GK.exS_whl, GK.exS_brk, GK.exS_cont, GK.exS_pass, GK.fin_rt, GK.fin_nx, GK.bindT_nm, GK.bindT_nmo, GK.bindT_nI, GK.bindT_nB, GK.bindT_tp2, GK.bindT_tp3, GK.bindT_tl5, GK.fI_d, GK.fB_d, GK.fI_m, GK.fB_m, GK.asF_f, GK.asF_o, GK.asF_fI, GK.asF_fB, GK.asB_b, GK.argS_f, GK.argS_o, GK.argS_p, GK.argS_v, GK.argS_fI, GK.argS_fB, GK.retS_f, GK.retS_o, GK.retS_fI, GK.retS_fB, GK.retP_o, GK.retS_p, GK.ownG_o, GK.ownL_eq, GK.frzG_o, GK.frzG_f, GK.frzG_fI, GK.frzG_fB, GK.frzR_eq, GK.extG_list, GK.isF_f, GK.isF_o, GK.isF_p, GK.binop_int, GK.binop_cat, GK.binop_rep, GK.ckI_t, GK.ckO_t, GK.unop_neg, GK.unop_inv, GK.cmpop_eq, GK.cmpop_ne, GK.optS_some, GK.ixD_list, GK.ixD_tup, GK.slD_list, GK.b1D_len, GK.b1D_lenT, GK.b1D_list, GK.b1D_listT, GK.b1D_tup, GK.b1D_tupT, GK.b1D_int, GK.b1D_intN, GK.b1D_sum, GK.sumS_some, GK.allS_some, GK.b1D_all, GK.b1D_any, GK.itemsD_list, GK.itemsD_tup, GK.ix_t0, GK.ix_t1, GK.ix_t2, GK.nD_def, GK.fI_eq', GK.fB_eq', GK.deq_pair, GK.natDec, GK.decide_self, GK.notP_rg1, GK.notP_rg2, GK.notPs_f, GK.notPs_o, GK.notP_seq, GK.esLen, Nat.reduceLeDiff, decide_true, decide_false, List.getElem?_cons_zero, List.getElem?_cons_succ, List.set_cons_zero, List.set_cons_succ, List.length_cons, List.length_nil, List.map_cons, List.map_nil, List.replicate_succ, List.replicate_zero, List.append_nil, List.nil_append, List.cons_append, Nat.reduceAdd, Nat.reduceSub, GK.startR, GK.tgIn, GK.isRg, List.contains_cons, List.all_cons, List.all_nil, Bool.and_true, Bool.true_and, Bool.not_true, Bool.not_false, beq_self_eq_true, Bool.or_true, Bool.true_or, Bool.or_false, Bool.false_or, Nat.not_lt_zero, GK.wipeR, GK.isNone, GK.isiD, GK.evE_glb, GK.evE_sst, GK.evE_gk, GK.evE_gdx, GK.evE_dsp, GK.evP_nil, GK.evP_cons, GK.evE_mm, GK.evE_rvl, GK.evI_rg3, GK.evI_enm, GK.evI_rev, GK.evI_zp, GK.evI_rvr, GK.notP_rg3, GK.notP_rvr, GK.notP_enm, GK.notP_rev, GK.notP_zp, GK.ckTu_t, GK.binop_catT, GK.slD_tup, GK.rvD_list, GK.cmpop_is, GK.cmpop_isnot, GK.negM_ok', GK.cmpop_in, GK.cmpop_notin, GK.cmpop_inT, GK.cmpop_notinT, GK.beq_t, GK.beq_f, GK.evE_dnw, GK.evE_dsp1, GK.setO_eq, GK.setS_list, GK.setS_dict, GK.keyOk_int, GK.keyOk_str, GK.ixD_dictI, GK.ixD_dictS, GK.cmpop_inK, GK.cmpop_notinK, GK.inK_int, GK.inK_str, GK.look_kT, GK.put_kT, GK.deq_bool, GK.lentE_var, GK.lentE_call, GK.lentE_lst, GK.lentE_tup, GK.lentE_ix, GK.lentE_sl, GK.lentE_bin, GK.lentE_b1, GK.lentE_lc, GK.lentE_lrg, GK.lentE_rvl, GK.lentE_sst, GK.lentE_gk, GK.lentE_gdx, GK.lentE_dsp, GK.lentO_p, GK.lentO_f, GK.lentO_o, GK.frzB_t, GK.frzB_f, GK.nmkD_list, GK.nmkD_tuple, GK.nmkD_int, GK.nmkD_bool, GK.nmkD_dict, GK.nmk_nil, GK.nmk_int, GK.nmk_str, GK.nmk_kT, GK.nmk_kv, GK.nmk_none, GK.keyOk_tup, GK.exS_ndn, GK.inK_tup, GK.inN_mk, GK.ixD_dictT, GK.getN_mk, GK.optD_some, GK.setSN_eq, GK.setN_mk, GK.b1D_tupN, GK.b1D_lenK, GK.b1D_lenD, GK.evE_lns, GK.evE_pk2, GK.exS_fst, Bool.false_and, Bool.and_false, GK.binI_add_nat, GK.binI_shr_nat, GK.binI_and1_nat, GK.deq_nat, GK.cmpop_lt_nat, GK.cmpop_le_nat, GK.cmpop_gt_nat, GK.cmpop_ge_nat, GK.binI_or_nat, GK.binI_xor_nat, GK.mmD_maxN, GK.mmD_minN, GK.inD_nats, GK.inF_nats, GK.intsD_nats, GK.sum_cast, GK.binI_sub_nat (show 1 ≤ r + 1 by omega), e5]
        rfl)
      rw [List.length_map, List.length_range] at g1 g3
      refine ⟨_, s', m', .inr ⟨n, b, ts, hn, hbb, g1, g2, rfl⟩, ⟨by omega, ?_, fun hi => ?_⟩, ?_⟩
      · show s + szF (r + 1 + 1) (.tuple [gD n b, .tuple ts]) ≤ s'
        rw [szF_node]
        omega
      · have := g3c hi
        show szF (r + 1 + 1) (.tuple [gD n b, .tuple ts]) + m' ≤ m
        rw [szF_node]
        omega
      unfold GK.lcXv
      simp only [GK.ok_bind, GK.pure_M, GK.bind_assoc', GK.vm_f, GK.vm_o, GK.vm_p, GK.vm_vm, GK.rdV_mk, GK.rdV_fI, GK.rdV_fB, GK.evE_var, GK.evE_int, GK.evE_bl, GK.evE_non, GK.evE_str, GK.evE_bin, GK.evE_neg, GK.evE_inv, GK.evE_cmp, GK.ifM_t, GK.ifM_f, GK.evE_chn, GK.evE_isN, GK.evE_notN, GK.evE_and, GK.evE_or, GK.evE_not, GK.evE_ife, GK.evE_tup, GK.evE_lst, GK.evE_ix, GK.evE_sl, GK.evE_call, GK.evE_b1, GK.evE_isi, GK.evE_lc, GK.evE_lrg, GK.evF_nil, GK.evF_cons, GK.evA_nil, GK.evA_cons, GK.getI_int, GK.evO_none, GK.evO_some, GK.evC_none, GK.evC_some, GK.evI_rg1, GK.evI_rg2, GK.evI_seq, GK.seqF_nx, GK.seqF_rt, GK.seqF_bk, GK.seqF_ct, GK.exSs_nil, GK.exSs_cons, GK.exSs_frz, GK.exS_asg, GK.exS_setix, GK.exS_app, GK.exS_ext, GK.exS_exp, GK.exS_ret, GK.exS_retN, GK.exS_ite, GK.exS_for, GK.exS_whl, GK.exS_brk, GK.exS_cont, GK.exS_pass, GK.fin_rt, GK.fin_nx, GK.bindT_nm, GK.bindT_nmo, GK.bindT_nI, GK.bindT_nB, GK.bindT_tp2, GK.bindT_tp3, GK.bindT_tl5, GK.fI_d, GK.fB_d, GK.fI_m, GK.fB_m, GK.asF_f, GK.asF_o, GK.asF_fI, GK.asF_fB, GK.asB_b, GK.argS_f, GK.argS_o, GK.argS_p, GK.argS_v, GK.argS_fI, GK.argS_fB, GK.retS_f, GK.retS_o, GK.retS_fI, GK.retS_fB, GK.retP_o, GK.retS_p, GK.ownG_o, GK.ownL_eq, GK.frzG_o, GK.frzG_f, GK.frzG_fI, GK.frzG_fB, GK.frzR_eq, GK.extG_list, GK.isF_f, GK.isF_o, GK.isF_p, GK.binop_int, GK.binop_cat, GK.binop_rep, GK.ckI_t, GK.ckO_t, GK.unop_neg, GK.unop_inv, GK.cmpop_eq, GK.cmpop_ne, GK.optS_some, GK.ixD_list, GK.ixD_tup, GK.slD_list, GK.b1D_len, GK.b1D_lenT, GK.b1D_list, GK.b1D_listT, GK.b1D_tup, GK.b1D_tupT, GK.b1D_int, GK.b1D_intN, GK.b1D_sum, GK.sumS_some, GK.allS_some, GK.b1D_all, GK.b1D_any, GK.itemsD_list, GK.itemsD_tup, GK.ix_t0, GK.ix_t1, GK.ix_t2, GK.nD_def, GK.fI_eq', GK.fB_eq', GK.deq_pair, GK.natDec, GK.decide_self, GK.notP_rg1, GK.notP_rg2, GK.notPs_f, GK.notPs_o, GK.notP_seq, GK.esLen, Nat.reduceLeDiff, decide_true, decide_false, List.getElem?_cons_zero, List.getElem?_cons_succ, List.set_cons_zero, List.set_cons_succ, List.length_cons, List.length_nil, List.map_cons, List.map_nil, List.replicate_succ, List.replicate_zero, List.append_nil, List.nil_append, List.cons_append, Nat.reduceAdd, Nat.reduceSub, GK.startR, GK.tgIn, GK.isRg, List.contains_cons, List.all_cons, List.all_nil, Bool.and_true, Bool.true_and, Bool.not_true, Bool.not_false, beq_self_eq_true, Bool.or_true, Bool.true_or, Bool.or_false, Bool.false_or, Nat.not_lt_zero, GK.wipeR, GK.isNone, GK.isiD, GK.evE_glb, GK.evE_sst, GK.evE_gk, GK.evE_gdx, GK.evE_dsp, GK.evP_nil, GK.evP_cons, GK.evE_mm, GK.evE_rvl, GK.evI_rg3, GK.evI_enm, GK.evI_rev, GK.evI_zp, GK.evI_rvr, GK.notP_rg3, GK.notP_rvr, GK.notP_enm, GK.notP_rev, GK.notP_zp, GK.ckTu_t, GK.binop_catT, GK.slD_tup, GK.rvD_list, GK.cmpop_is, GK.cmpop_isnot, GK.negM_ok', GK.cmpop_in, GK.cmpop_notin, GK.cmpop_inT, GK.cmpop_notinT, GK.beq_t, GK.beq_f, GK.evE_dnw, GK.evE_dsp1, GK.setO_eq, GK.setS_list, GK.setS_dict, GK.keyOk_int, GK.keyOk_str, GK.ixD_dictI, GK.ixD_dictS, GK.cmpop_inK, GK.cmpop_notinK, GK.inK_int, GK.inK_str, GK.look_kT, GK.put_kT, GK.deq_bool, GK.lentE_var, GK.lentE_call, GK.lentE_lst, GK.lentE_tup, GK.lentE_ix, GK.lentE_sl, GK.lentE_bin, GK.lentE_b1, GK.lentE_lc, GK.lentE_lrg, GK.lentE_rvl, GK.lentE_sst, GK.lentE_gk, GK.lentE_gdx, GK.lentE_dsp, GK.lentO_p, GK.lentO_f, GK.lentO_o, GK.frzB_t, GK.frzB_f, GK.nmkD_list, GK.nmkD_tuple, GK.nmkD_int, GK.nmkD_bool, GK.nmkD_dict, GK.nmk_nil, GK.nmk_int, GK.nmk_str, GK.nmk_kT, GK.nmk_kv, GK.nmk_none, GK.keyOk_tup, GK.exS_ndn, GK.inK_tup, GK.inN_mk, GK.ixD_dictT, GK.getN_mk, GK.optD_some, GK.setSN_eq, GK.setN_mk, GK.b1D_tupN, GK.b1D_lenK, GK.b1D_lenD, GK.evE_lns, GK.evE_pk2, GK.exS_fst, Bool.false_and, Bool.and_false, GK.binI_add_nat, GK.binI_shr_nat, GK.binI_and1_nat, GK.deq_nat, GK.cmpop_lt_nat, GK.cmpop_le_nat, GK.cmpop_gt_nat, GK.cmpop_ge_nat, GK.binI_or_nat, GK.binI_xor_nat, GK.mmD_maxN, GK.mmD_minN, GK.inD_nats, GK.inF_nats, GK.intsD_nats, GK.sum_cast, GK.rngD_nat (show n < 2 ^ 62 by omega)]
      rw [if_pos ⟨by decide, rfl, GK.lenOk_of (by rw [List.length_map, List.length_range]; omega)⟩]
      have g4 : GK.ioGo _ _ [PyData.int ((s + 1 : Nat) : Int), .int ((m - 1 : Nat) : Int)] = _ := g4
      rw [g4]
      rfl
    by_cases r0 : room = 0
    · subst r0
      by_cases i0 : 0 < i
      · cases h3 : (modN cc 3 == 0)
        · simp only [c_tree_0, GK.ok_bind, GK.pure_M, GK.bind_assoc', GK.vm_f, GK.vm_o, GK.vm_p, GK.vm_vm, GK.rdV_mk, GK.rdV_fI, GK.rdV_fB, GK.evE_var, GK.evE_int, GK.evE_bl, GK.evE_non, GK.evE_str, GK.evE_bin, GK.evE_neg, GK.evE_inv, GK.evE_cmp, GK.ifM_t, GK.ifM_f, GK.evE_chn, GK.evE_isN, GK.evE_notN, GK.evE_and, GK.evE_or, GK.evE_not, GK.evE_ife, GK.evE_tup, GK.evE_lst, GK.evE_ix, GK.evE_sl, GK.evE_call, GK.evE_b1, GK.evE_isi, GK.evE_lc, GK.evE_lrg, GK.evF_nil, GK.evF_cons, GK.evA_nil, GK.evA_cons, GK.getI_int, GK.evO_none, GK.evO_some, GK.evC_none, GK.evC_some, GK.evI_rg1, GK.evI_rg2, GK.evI_seq, GK.seqF_nx, GK.seqF_rt, GK.seqF_bk, GK.seqF_ct, GK.exSs_nil, GK.exSs_cons, GK.exSs_frz, GK.exS_asg, GK.exS_setix, GK.exS_app, GK.exS_ext, GK.exS_exp, GK.exS_ret, GK.exS_retN, GK.exS_ite, GK.exS_for, GK.exS_whl, GK.exS_brk, GK.exS_cont, GK.exS_pass, GK.fin_rt, GK.fin_nx, GK.bindT_nm, GK.bindT_nmo, GK.bindT_nI, GK.bindT_nB, GK.bindT_tp2, GK.bindT_tp3, GK.bindT_tl5, GK.fI_d, GK.fB_d, GK.fI_m, GK.fB_m, GK.asF_f, GK.asF_o, GK.asF_fI, GK.asF_fB, GK.asB_b, GK.argS_f, GK.argS_o, GK.argS_p, GK.argS_v, GK.argS_fI, GK.argS_fB, GK.retS_f, GK.retS_o, GK.retS_fI, GK.retS_fB, GK.retP_o, GK.retS_p, GK.ownG_o, GK.ownL_eq, GK.frzG_o, GK.frzG_f, GK.frzG_fI, GK.frzG_fB, GK.frzR_eq, GK.extG_list, GK.isF_f, GK.isF_o, GK.isF_p, GK.binop_int, GK.binop_cat, GK.binop_rep, GK.ckI_t, GK.ckO_t, GK.unop_neg, GK.unop_inv, GK.cmpop_eq, GK.cmpop_ne, GK.optS_some, GK.ixD_list, GK.ixD_tup, GK.slD_list, GK.b1D_len, GK.b1D_lenT, GK.b1D_list, GK.b1D_listT, GK.b1D_tup, GK.b1D_tupT, GK.b1D_int, GK.b1D_intN, GK.b1D_sum, GK.sumS_some, GK.allS_some, GK.b1D_all, GK.b1D_any, GK.itemsD_list, GK.itemsD_tup, GK.ix_t0, GK.ix_t1, GK.ix_t2, GK.nD_def, GK.fI_eq', GK.fB_eq', GK.deq_pair, GK.natDec, GK.decide_self, GK.notP_rg1, GK.notP_rg2, GK.notPs_f, GK.notPs_o, GK.notP_seq, GK.esLen, Nat.reduceLeDiff, decide_true, decide_false, List.getElem?_cons_zero, List.getElem?_cons_succ, List.set_cons_zero, List.set_cons_succ, List.length_cons, List.length_nil, List.map_cons, List.map_nil, List.replicate_succ, List.replicate_zero, List.append_nil, List.nil_append, List.cons_append, Nat.reduceAdd, Nat.reduceSub, GK.startR, GK.tgIn, GK.isRg, List.contains_cons, List.all_cons, List.all_nil, Bool.and_true, Bool.true_and, Bool.not_true, Bool.not_false, beq_self_eq_true, Bool.or_true, Bool.true_or, Bool.or_false, Bool.false_or, Nat.not_lt_zero, GK.wipeR, GK.isNone, GK.isiD, GK.evE_glb, GK.evE_sst, GK.evE_gk, GK.evE_gdx, GK.evE_dsp, GK.evP_nil, GK.evP_cons, GK.evE_mm, GK.evE_rvl, GK.evI_rg3, GK.evI_enm, GK.evI_rev, GK.evI_zp, GK.evI_rvr, GK.notP_rg3, GK.notP_rvr, GK.notP_enm, GK.notP_rev, GK.notP_zp, GK.ckTu_t, GK.binop_catT, GK.slD_tup, GK.rvD_list, GK.cmpop_is, GK.cmpop_isnot, GK.negM_ok', GK.cmpop_in, GK.cmpop_notin, GK.cmpop_inT, GK.cmpop_notinT, GK.beq_t, GK.beq_f, GK.evE_dnw, GK.evE_dsp1, GK.setO_eq, GK.setS_list, GK.setS_dict, GK.keyOk_int, GK.keyOk_str, GK.ixD_dictI, GK.ixD_dictS, GK.cmpop_inK, GK.cmpop_notinK, GK.inK_int, GK.inK_str, GK.look_kT, GK.put_kT, GK.deq_bool, GK.lentE_var, GK.lentE_call, GK.lentE_lst, GK.lentE_tup, GK.lentE_ix, GK.lentE_sl, GK.lentE_bin, GK.lentE_b1, GK.lentE_lc, GK.lentE_lrg, GK.lentE_rvl, GK.lentE_sst, GK.lentE_gk, GK.lentE_gdx, GK.lentE_dsp, GK.lentO_p, GK.lentO_f, GK.lentO_o, GK.frzB_t, GK.frzB_f, GK.nmkD_list, GK.nmkD_tuple, GK.nmkD_int, GK.nmkD_bool, GK.nmkD_dict, GK.nmk_nil, GK.nmk_int, GK.nmk_str, GK.nmk_kT, GK.nmk_kv, GK.nmk_none, GK.keyOk_tup, GK.exS_ndn, GK.inK_tup, GK.inN_mk, GK.ixD_dictT, GK.getN_mk, GK.optD_some, GK.setSN_eq, GK.setN_mk, GK.b1D_tupN, GK.b1D_lenK, GK.b1D_lenD, GK.evE_lns, GK.evE_pk2, GK.exS_fst, Bool.false_and, Bool.and_false, GK.binI_add_nat, GK.binI_shr_nat, GK.binI_and1_nat, GK.deq_nat, GK.cmpop_lt_nat, GK.cmpop_le_nat, GK.cmpop_gt_nat, GK.cmpop_ge_nat, GK.binI_or_nat, GK.binI_xor_nat, GK.mmD_maxN, GK.mmD_minN, GK.inD_nats, GK.inF_nats, GK.intsD_nats, GK.sum_cast, i0, GK.binI_modN (show 0 < 3 by decide), GK.binI_modN i0, h3, if_true, beq_self_eq_true]
          exact leafA i0
        · simp only [c_tree_0, GK.ok_bind, GK.pure_M, GK.bind_assoc', GK.vm_f, GK.vm_o, GK.vm_p, GK.vm_vm, GK.rdV_mk, GK.rdV_fI, GK.rdV_fB, GK.evE_var, GK.evE_int, GK.evE_bl, GK.evE_non, GK.evE_str, GK.evE_bin, GK.evE_neg, GK.evE_inv, GK.evE_cmp, GK.ifM_t, GK.ifM_f, GK.evE_chn, GK.evE_isN, GK.evE_notN, GK.evE_and, GK.evE_or, GK.evE_not, GK.evE_ife, GK.evE_tup, GK.evE_lst, GK.evE_ix, GK.evE_sl, GK.evE_call, GK.evE_b1, GK.evE_isi, GK.evE_lc, GK.evE_lrg, GK.evF_nil, GK.evF_cons, GK.evA_nil, GK.evA_cons, GK.getI_int, GK.evO_none, GK.evO_some, GK.evC_none, GK.evC_some, GK.evI_rg1, GK.evI_rg2, GK.evI_seq, GK.seqF_nx, GK.seqF_rt, GK.seqF_bk, GK.seqF_ct, GK.exSs_nil, GK.exSs_cons, GK.exSs_frz, GK.exS_asg, GK.exS_setix, GK.exS_app, GK.exS_ext, GK.exS_exp, GK.exS_ret, GK.exS_retN, GK.exS_ite, GK.exS_for, GK.exS_whl, GK.exS_brk, GK.exS_cont, GK.exS_pass, GK.fin_rt, GK.fin_nx, GK.bindT_nm, GK.bindT_nmo, GK.bindT_nI, GK.bindT_nB, GK.bindT_tp2, GK.bindT_tp3, GK.bindT_tl5, GK.fI_d, GK.fB_d, GK.fI_m, GK.fB_m, GK.asF_f, GK.asF_o, GK.asF_fI, GK.asF_fB, GK.asB_b, GK.argS_f, GK.argS_o, GK.argS_p, GK.argS_v, GK.argS_fI, GK.argS_fB, GK.retS_f, GK.retS_o, GK.retS_fI, GK.retS_fB, GK.retP_o, GK.retS_p, GK.ownG_o, GK.ownL_eq, GK.frzG_o, GK.frzG_f, GK.frzG_fI, GK.frzG_fB, GK.frzR_eq, GK.extG_list, GK.isF_f, GK.isF_o, GK.isF_p, GK.binop_int, GK.binop_cat, GK.binop_rep, GK.ckI_t, GK.ckO_t, GK.unop_neg, GK.unop_inv, GK.cmpop_eq, GK.cmpop_ne, GK.optS_some, GK.ixD_list, GK.ixD_tup, GK.slD_list, GK.b1D_len, GK.b1D_lenT, GK.b1D_list, GK.b1D_listT, GK.b1D_tup, GK.b1D_tupT, GK.b1D_int, GK.b1D_intN, GK.b1D_sum, GK.sumS_some, GK.allS_some, GK.b1D_all, GK.b1D_any, GK.itemsD_list, GK.itemsD_tup, GK.ix_t0, GK.ix_t1, GK.ix_t2, GK.nD_def, GK.fI_eq', GK.fB_eq', GK.deq_pair, GK.natDec, GK.decide_self, GK.notP_rg1, GK.notP_rg2, GK.notPs_f, GK.notPs_o, GK.notP_seq, GK.esLen, Nat.reduceLeDiff, decide_true, decide_false, List.getElem?_cons_zero, List.getElem?_cons_succ, List.set_cons_zero, List.set_cons_succ, List.length_cons, List.length_nil, List.map_cons, List.map_nil, List.replicate_succ, List.replicate_zero, List.append_nil, List.nil_append, List.cons_append, Nat.reduceAdd, Nat.reduceSub, GK.startR, GK.tgIn, GK.isRg, List.contains_cons, List.all_cons, List.all_nil, Bool.and_true, Bool.true_and, Bool.not_true, Bool.not_false, beq_self_eq_true, Bool.or_true, Bool.true_or, Bool.or_false, Bool.false_or, Nat.not_lt_zero, GK.wipeR, GK.isNone, GK.isiD, GK.evE_glb, GK.evE_sst, GK.evE_gk, GK.evE_gdx, GK.evE_dsp, GK.evP_nil, GK.evP_cons, GK.evE_mm, GK.evE_rvl, GK.evI_rg3, GK.evI_enm, GK.evI_rev, GK.evI_zp, GK.evI_rvr, GK.notP_rg3, GK.notP_rvr, GK.notP_enm, GK.notP_rev, GK.notP_zp, GK.ckTu_t, GK.binop_catT, GK.slD_tup, GK.rvD_list, GK.cmpop_is, GK.cmpop_isnot, GK.negM_ok', GK.cmpop_in, GK.cmpop_notin, GK.cmpop_inT, GK.cmpop_notinT, GK.beq_t, GK.beq_f, GK.evE_dnw, GK.evE_dsp1, GK.setO_eq, GK.setS_list, GK.setS_dict, GK.keyOk_int, GK.keyOk_str, GK.ixD_dictI, GK.ixD_dictS, GK.cmpop_inK, GK.cmpop_notinK, GK.inK_int, GK.inK_str, GK.look_kT, GK.put_kT, GK.deq_bool, GK.lentE_var, GK.lentE_call, GK.lentE_lst, GK.lentE_tup, GK.lentE_ix, GK.lentE_sl, GK.lentE_bin, GK.lentE_b1, GK.lentE_lc, GK.lentE_lrg, GK.lentE_rvl, GK.lentE_sst, GK.lentE_gk, GK.lentE_gdx, GK.lentE_dsp, GK.lentO_p, GK.lentO_f, GK.lentO_o, GK.frzB_t, GK.frzB_f, GK.nmkD_list, GK.nmkD_tuple, GK.nmkD_int, GK.nmkD_bool, GK.nmkD_dict, GK.nmk_nil, GK.nmk_int, GK.nmk_str, GK.nmk_kT, GK.nmk_kv, GK.nmk_none, GK.keyOk_tup, GK.exS_ndn, GK.inK_tup, GK.inN_mk, GK.ixD_dictT, GK.getN_mk, GK.optD_some, GK.setSN_eq, GK.setN_mk, GK.b1D_tupN, GK.b1D_lenK, GK.b1D_lenD, GK.evE_lns, GK.evE_pk2, GK.exS_fst, Bool.false_and, Bool.and_false, GK.binI_add_nat, GK.binI_shr_nat, GK.binI_and1_nat, GK.deq_nat, GK.cmpop_lt_nat, GK.cmpop_le_nat, GK.cmpop_gt_nat, GK.cmpop_ge_nat, GK.binI_or_nat, GK.binI_xor_nat, GK.mmD_maxN, GK.mmD_minN, GK.inD_nats, GK.inF_nats, GK.intsD_nats, GK.sum_cast, i0, GK.binI_modN (show 0 < 3 by decide), GK.binI_modN i0, h3, if_true, beq_self_eq_true]
          exact leafA i0
      · simp only [c_tree_0, c_tree_1, GK.ok_bind, GK.pure_M, GK.bind_assoc', GK.vm_f, GK.vm_o, GK.vm_p, GK.vm_vm, GK.rdV_mk, GK.rdV_fI, GK.rdV_fB, GK.evE_var, GK.evE_int, GK.evE_bl, GK.evE_non, GK.evE_str, GK.evE_bin, GK.evE_neg, GK.evE_inv, GK.evE_cmp, GK.ifM_t, GK.ifM_f, GK.evE_chn, GK.evE_isN, GK.evE_notN, GK.evE_and, GK.evE_or, GK.evE_not, GK.evE_ife, GK.evE_tup, GK.evE_lst, GK.evE_ix, GK.evE_sl, GK.evE_call, GK.evE_b1, GK.evE_isi, GK.evE_lc, GK.evE_lrg, GK.evF_nil, GK.evF_cons, GK.evA_nil, GK.evA_cons, GK.getI_int, GK.evO_none, GK.evO_some, GK.evC_none, GK.evC_some, GK.evI_rg1, GK.evI_rg2, GK.evI_seq, GK.seqF_nx, GK.seqF_rt, GK.seqF_bk, GK.seqF_ct, GK.exSs_nil, GK.exSs_cons, GK.exSs_frz, GK.exS_asg, GK.exS_setix, GK.exS_app, GK.exS_ext, GK.exS_exp, GK.exS_ret, GK.exS_retN, GK.exS_ite, GK.exS_for, GK.exS_whl, GK.exS_brk, GK.exS_cont, GK.exS_pass, GK.fin_rt, GK.fin_nx, GK.bindT_nm, GK.bindT_nmo, GK.bindT_nI, GK.bindT_nB, GK.bindT_tp2, GK.bindT_tp3, GK.bindT_tl5, GK.fI_d, GK.fB_d, GK.fI_m, GK.fB_m, GK.asF_f, GK.asF_o, GK.asF_fI, GK.asF_fB, GK.asB_b, GK.argS_f, GK.argS_o, GK.argS_p, GK.argS_v, GK.argS_fI, GK.argS_fB, GK.retS_f, GK.retS_o, GK.retS_fI, GK.retS_fB, GK.retP_o, GK.retS_p, GK.ownG_o, GK.ownL_eq, GK.frzG_o, GK.frzG_f, GK.frzG_fI, GK.frzG_fB, GK.frzR_eq, GK.extG_list, GK.isF_f, GK.isF_o, GK.isF_p, GK.binop_int, GK.binop_cat, GK.binop_rep, GK.ckI_t, GK.ckO_t, GK.unop_neg, GK.unop_inv, GK.cmpop_eq, GK.cmpop_ne, GK.optS_some, GK.ixD_list, GK.ixD_tup, GK.slD_list, GK.b1D_len, GK.b1D_lenT, GK.b1D_list, GK.b1D_listT, GK.b1D_tup, GK.b1D_tupT, GK.b1D_int, GK.b1D_intN, GK.b1D_sum, GK.sumS_some, GK.allS_some, GK.b1D_all, GK.b1D_any, GK.itemsD_list, GK.itemsD_tup, GK.ix_t0, GK.ix_t1, GK.ix_t2, GK.nD_def, GK.fI_eq', GK.fB_eq', GK.deq_pair, GK.natDec, GK.decide_self, GK.notP_rg1, GK.notP_rg2, GK.notPs_f, GK.notPs_o, GK.notP_seq, GK.esLen, Nat.reduceLeDiff, decide_true, decide_false, List.getElem?_cons_zero, List.getElem?_cons_succ, List.set_cons_zero, List.set_cons_succ, List.length_cons, List.length_nil, List.map_cons, List.map_nil, List.replicate_succ, List.replicate_zero, List.append_nil, List.nil_append, List.cons_append, Nat.reduceAdd, Nat.reduceSub, GK.startR, GK.tgIn, GK.isRg, List.contains_cons, List.all_cons, List.all_nil, Bool.and_true, Bool.true_and, Bool.not_true, Bool.not_false, beq_self_eq_true, Bool.or_true, Bool.true_or, Bool.or_false, Bool.false_or, Nat.not_lt_zero, GK.wipeR, GK.isNone, GK.isiD, GK.evE_glb, GK.evE_sst, GK.evE_gk, GK.evE_gdx, GK.evE_dsp, GK.evP_nil, GK.evP_cons, GK.evE_mm, GK.evE_rvl, GK.evI_rg3, GK.evI_enm, GK.evI_rev, GK.evI_zp, GK.evI_rvr, GK.notP_rg3, GK.notP_rvr, GK.notP_enm, GK.notP_rev, GK.notP_zp, GK.ckTu_t, GK.binop_catT, GK.slD_tup, GK.rvD_list, GK.cmpop_is, GK.cmpop_isnot, GK.negM_ok', GK.cmpop_in, GK.cmpop_notin, GK.cmpop_inT, GK.cmpop_notinT, GK.beq_t, GK.beq_f, GK.evE_dnw, GK.evE_dsp1, GK.setO_eq, GK.setS_list, GK.setS_dict, GK.keyOk_int, GK.keyOk_str, GK.ixD_dictI, GK.ixD_dictS, GK.cmpop_inK, GK.cmpop_notinK, GK.inK_int, GK.inK_str, GK.look_kT, GK.put_kT, GK.deq_bool, GK.lentE_var, GK.lentE_call, GK.lentE_lst, GK.lentE_tup, GK.lentE_ix, GK.lentE_sl, GK.lentE_bin, GK.lentE_b1, GK.lentE_lc, GK.lentE_lrg, GK.lentE_rvl, GK.lentE_sst, GK.lentE_gk, GK.lentE_gdx, GK.lentE_dsp, GK.lentO_p, GK.lentO_f, GK.lentO_o, GK.frzB_t, GK.frzB_f, GK.nmkD_list, GK.nmkD_tuple, GK.nmkD_int, GK.nmkD_bool, GK.nmkD_dict, GK.nmk_nil, GK.nmk_int, GK.nmk_str, GK.nmk_kT, GK.nmk_kv, GK.nmk_none, GK.keyOk_tup, GK.exS_ndn, GK.inK_tup, GK.inN_mk, GK.ixD_dictT, GK.getN_mk, GK.optD_some, GK.setSN_eq, GK.setN_mk, GK.b1D_tupN, GK.b1D_lenK, GK.b1D_lenD, GK.evE_lns, GK.evE_pk2, GK.exS_fst, Bool.false_and, Bool.and_false, GK.binI_add_nat, GK.binI_shr_nat, GK.binI_and1_nat, GK.deq_nat, GK.cmpop_lt_nat, GK.cmpop_le_nat, GK.cmpop_gt_nat, GK.cmpop_ge_nat, GK.binI_or_nat, GK.binI_xor_nat, GK.mmD_maxN, GK.mmD_minN, GK.inD_nats, GK.inF_nats, GK.intsD_nats, GK.sum_cast, i0, GK.binI_modN (show 0 < 2 by decide), if_true, beq_self_eq_true, Bool.false_eq_true, if_false]
        exact leafB i0
    · have r0' : (room == 0) = false := beq_eq_false_iff_ne.mpr r0
      by_cases m0 : m < 1
      · by_cases i0 : 0 < i
        · cases h3 : (modN cc 3 == 0)
          · simp only [c_tree_0, GK.ok_bind, GK.pure_M, GK.bind_assoc', GK.vm_f, GK.vm_o, GK.vm_p, GK.vm_vm, GK.rdV_mk, GK.rdV_fI, GK.rdV_fB, GK.evE_var, GK.evE_int, GK.evE_bl, GK.evE_non, GK.evE_str, GK.evE_bin, GK.evE_neg, GK.evE_inv, GK.evE_cmp, GK.ifM_t, GK.ifM_f, GK.evE_chn, GK.evE_isN, GK.evE_notN, GK.evE_and, GK.evE_or, GK.evE_not, GK.evE_ife, GK.evE_tup, GK.evE_lst, GK.evE_ix, GK.evE_sl, GK.evE_call, GK.evE_b1, GK.evE_isi, GK.evE_lc, GK.evE_lrg, GK.evF_nil, GK.evF_cons, GK.evA_nil, GK.evA_cons, GK.getI_int, GK.evO_none, GK.evO_some, GK.evC_none, GK.evC_some, GK.evI_rg1, GK.evI_rg2, GK.evI_seq, GK.seqF_nx, GK.seqF_rt, GK.seqF_bk, GK.seqF_ct, GK.exSs_nil, GK.exSs_cons, GK.exSs_frz, GK.exS_asg, GK.exS_setix, GK.exS_app, GK.exS_ext, GK.exS_exp, GK.exS_ret, GK.exS_retN, GK.exS_ite, GK.exS_for, GK.exS_whl, GK.exS_brk, GK.exS_cont, GK.exS_pass, GK.fin_rt, GK.fin_nx, GK.bindT_nm, GK.bindT_nmo, GK.bindT_nI, GK.bindT_nB, GK.bindT_tp2, GK.bindT_tp3, GK.bindT_tl5, GK.fI_d, GK.fB_d, GK.fI_m, GK.fB_m, GK.asF_f, GK.asF_o, GK.asF_fI, GK.asF_fB, GK.asB_b, GK.argS_f, GK.argS_o, GK.argS_p, GK.argS_v, GK.argS_fI, GK.argS_fB, GK.retS_f, GK.retS_o, GK.retS_fI, GK.retS_fB, GK.retP_o, GK.retS_p, GK.ownG_o, GK.ownL_eq, GK.frzG_o, GK.frzG_f, GK.frzG_fI, GK.frzG_fB, GK.frzR_eq, GK.extG_list, GK.isF_f, GK.isF_o, GK.isF_p, GK.binop_int, GK.binop_cat, GK.binop_rep, GK.ckI_t, GK.ckO_t, GK.unop_neg, GK.unop_inv, GK.cmpop_eq, GK.cmpop_ne, GK.optS_some, GK.ixD_list, GK.ixD_tup, GK.slD_list, GK.b1D_len, GK.b1D_lenT, GK.b1D_list, GK.b1D_listT, GK.b1D_tup, GK.b1D_tupT, GK.b1D_int, GK.b1D_intN, GK.b1D_sum, GK.sumS_some, GK.allS_some, GK.b1D_all, GK.b1D_any, GK.itemsD_list, GK.itemsD_tup, GK.ix_t0, GK.ix_t1, GK.ix_t2, GK.nD_def, GK.fI_eq', GK.fB_eq', GK.deq_pair, GK.natDec, GK.decide_self, GK.notP_rg1, GK.notP_rg2, GK.notPs_f, GK.notPs_o, GK.notP_seq, GK.esLen, Nat.reduceLeDiff, decide_true, decide_false, List.getElem?_cons_zero, List.getElem?_cons_succ, List.set_cons_zero, List.set_cons_succ, List.length_cons, List.length_nil, List.map_cons, List.map_nil, List.replicate_succ, List.replicate_zero, List.append_nil, List.nil_append, List.cons_append, Nat.reduceAdd, Nat.reduceSub, GK.startR, GK.tgIn, GK.isRg, List.contains_cons, List.all_cons, List.all_nil, Bool.and_true, Bool.true_and, Bool.not_true, Bool.not_false, beq_self_eq_true, Bool.or_true, Bool.true_or, Bool.or_false, Bool.false_or, Nat.not_lt_zero, GK.wipeR, GK.isNone, GK.isiD, GK.evE_glb, GK.evE_sst, GK.evE_gk, GK.evE_gdx, GK.evE_dsp, GK.evP_nil, GK.evP_cons, GK.evE_mm, GK.evE_rvl, GK.evI_rg3, GK.evI_enm, GK.evI_rev, GK.evI_zp, GK.evI_rvr, GK.notP_rg3, GK.notP_rvr, GK.notP_enm, GK.notP_rev, GK.notP_zp, GK.ckTu_t, GK.binop_catT, GK.slD_tup, GK.rvD_list, GK.cmpop_is, GK.cmpop_isnot, GK.negM_ok', GK.cmpop_in, GK.cmpop_notin, GK.cmpop_inT, GK.cmpop_notinT, GK.beq_t, GK.beq_f, GK.evE_dnw, GK.evE_dsp1, GK.setO_eq, GK.setS_list, GK.setS_dict, GK.keyOk_int, GK.keyOk_str, GK.ixD_dictI, GK.ixD_dictS, GK.cmpop_inK, GK.cmpop_notinK, GK.inK_int, GK.inK_str, GK.look_kT, GK.put_kT, GK.deq_bool, GK.lentE_var, GK.lentE_call, GK.lentE_lst, GK.lentE_tup, GK.lentE_ix, GK.lentE_sl, GK.lentE_bin, GK.lentE_b1, GK.lentE_lc, GK.lentE_lrg, GK.lentE_rvl, GK.lentE_sst, GK.lentE_gk, GK.lentE_gdx, GK.lentE_dsp, GK.lentO_p, GK.lentO_f, GK.lentO_o, GK.frzB_t, GK.frzB_f, GK.nmkD_list, GK.nmkD_tuple, GK.nmkD_int, GK.nmkD_bool, GK.nmkD_dict, GK.nmk_nil, GK.nmk_int, GK.nmk_str, GK.nmk_kT, GK.nmk_kv, GK.nmk_none, GK.keyOk_tup, GK.exS_ndn, GK.inK_tup, GK.inN_mk, GK.ixD_dictT, GK.getN_mk, GK.optD_some, GK.setSN_eq, GK.setN_mk, GK.b1D_tupN, GK.b1D_lenK, GK.b1D_lenD, GK.evE_lns, GK.evE_pk2, GK.exS_fst, Bool.false_and, Bool.and_false, GK.binI_add_nat, GK.binI_shr_nat, GK.binI_and1_nat, GK.deq_nat, GK.cmpop_lt_nat, GK.cmpop_le_nat, GK.cmpop_gt_nat, GK.cmpop_ge_nat, GK.binI_or_nat, GK.binI_xor_nat, GK.mmD_maxN, GK.mmD_minN, GK.inD_nats, GK.inF_nats, GK.intsD_nats, GK.sum_cast, i0, GK.binI_modN (show 0 < 3 by decide), GK.binI_modN i0, h3, r0', m0, if_true]
            exact leafA i0
          · simp only [c_tree_0, GK.ok_bind, GK.pure_M, GK.bind_assoc', GK.vm_f, GK.vm_o, GK.vm_p, GK.vm_vm, GK.rdV_mk, GK.rdV_fI, GK.rdV_fB, GK.evE_var, GK.evE_int, GK.evE_bl, GK.evE_non, GK.evE_str, GK.evE_bin, GK.evE_neg, GK.evE_inv, GK.evE_cmp, GK.ifM_t, GK.ifM_f, GK.evE_chn, GK.evE_isN, GK.evE_notN, GK.evE_and, GK.evE_or, GK.evE_not, GK.evE_ife, GK.evE_tup, GK.evE_lst, GK.evE_ix, GK.evE_sl, GK.evE_call, GK.evE_b1, GK.evE_isi, GK.evE_lc, GK.evE_lrg, GK.evF_nil, GK.evF_cons, GK.evA_nil, GK.evA_cons, GK.getI_int, GK.evO_none, GK.evO_some, GK.evC_none, GK.evC_some, GK.evI_rg1, GK.evI_rg2, GK.evI_seq, GK.seqF_nx, GK.seqF_rt, GK.seqF_bk, GK.seqF_ct, GK.exSs_nil, GK.exSs_cons, GK.exSs_frz, GK.exS_asg, GK.exS_setix, GK.exS_app, GK.exS_ext, GK.exS_exp, GK.exS_ret, GK.exS_retN, GK.exS_ite, GK.exS_for, GK.exS_whl, GK.exS_brk, GK.exS_cont, GK.exS_pass, GK.fin_rt, GK.fin_nx, GK.bindT_nm, GK.bindT_nmo, GK.bindT_nI, GK.bindT_nB, GK.bindT_tp2, GK.bindT_tp3, GK.bindT_tl5, GK.fI_d, GK.fB_d, GK.fI_m, GK.fB_m, GK.asF_f, GK.asF_o, GK.asF_fI, GK.asF_fB, GK.asB_b, GK.argS_f, GK.argS_o, GK.argS_p, GK.argS_v, GK.argS_fI, GK.argS_fB, GK.retS_f, GK.retS_o, GK.retS_fI, GK.retS_fB, GK.retP_o, GK.retS_p, GK.ownG_o, GK.ownL_eq, GK.frzG_o, GK.frzG_f, GK.frzG_fI, GK.frzG_fB, GK.frzR_eq, GK.extG_list, GK.isF_f, GK.isF_o, GK.isF_p, GK.binop_int, GK.binop_cat, GK.binop_rep, GK.ckI_t, GK.ckO_t, GK.unop_neg, GK.unop_inv, GK.cmpop_eq, GK.cmpop_ne, GK.optS_some, GK.ixD_list, GK.ixD_tup, GK.slD_list, GK.b1D_len, GK.b1D_lenT, GK.b1D_list, GK.b1D_listT, GK.b1D_tup, GK.b1D_tupT, GK.b1D_int, GK.b1D_intN, GK.b1D_sum, GK.sumS_some, GK.allS_some, GK.b1D_all, GK.b1D_any, GK.itemsD_list, GK.itemsD_tup, GK.ix_t0, GK.ix_t1, GK.ix_t2, GK.nD_def, GK.fI_eq', GK.fB_eq', GK.deq_pair, GK.natDec, GK.decide_self, GK.notP_rg1, GK.notP_rg2, GK.notPs_f, GK.notPs_o, GK.notP_seq, GK.esLen, Nat.reduceLeDiff, decide_true, decide_false, List.getElem?_cons_zero, List.getElem?_cons_succ, List.set_cons_zero, List.set_cons_succ, List.length_cons, List.length_nil, List.map_cons, List.map_nil, List.replicate_succ, List.replicate_zero, List.append_nil, List.nil_append, List.cons_append, Nat.reduceAdd, Nat.reduceSub, GK.startR, GK.tgIn, GK.isRg, List.contains_cons, List.all_cons, List.all_nil, Bool.and_true, Bool.true_and, Bool.not_true, Bool.not_false, beq_self_eq_true, Bool.or_true, Bool.true_or, Bool.or_false, Bool.false_or, Nat.not_lt_zero, GK.wipeR, GK.isNone, GK.isiD, GK.evE_glb, GK.evE_sst, GK.evE_gk, GK.evE_gdx, GK.evE_dsp, GK.evP_nil, GK.evP_cons, GK.evE_mm, GK.evE_rvl, GK.evI_rg3, GK.evI_enm, GK.evI_rev, GK.evI_zp, GK.evI_rvr, GK.notP_rg3, GK.notP_rvr, GK.notP_enm, GK.notP_rev, GK.notP_zp, GK.ckTu_t, GK.binop_catT, GK.slD_tup, GK.rvD_list, GK.cmpop_is, GK.cmpop_isnot, GK.negM_ok', GK.cmpop_in, GK.cmpop_notin, GK.cmpop_inT, GK.cmpop_notinT, GK.beq_t, GK.beq_f, GK.evE_dnw, GK.evE_dsp1, GK.setO_eq, GK.setS_list, GK.setS_dict, GK.keyOk_int, GK.keyOk_str, GK.ixD_dictI, GK.ixD_dictS, GK.cmpop_inK, GK.cmpop_notinK, GK.inK_int, GK.inK_str, GK.look_kT, GK.put_kT, GK.deq_bool, GK.lentE_var, GK.lentE_call, GK.lentE_lst, GK.lentE_tup, GK.lentE_ix, GK.lentE_sl, GK.lentE_bin, GK.lentE_b1, GK.lentE_lc, GK.lentE_lrg, GK.lentE_rvl, GK.lentE_sst, GK.lentE_gk, GK.lentE_gdx, GK.lentE_dsp, GK.lentO_p, GK.lentO_f, GK.lentO_o, GK.frzB_t, GK.frzB_f, GK.nmkD_list, GK.nmkD_tuple, GK.nmkD_int, GK.nmkD_bool, GK.nmkD_dict, GK.nmk_nil, GK.nmk_int, GK.nmk_str, GK.nmk_kT, GK.nmk_kv, GK.nmk_none, GK.keyOk_tup, GK.exS_ndn, GK.inK_tup, GK.inN_mk, GK.ixD_dictT, GK.getN_mk, GK.optD_some, GK.setSN_eq, GK.setN_mk, GK.b1D_tupN, GK.b1D_lenK, GK.b1D_lenD, GK.evE_lns, GK.evE_pk2, GK.exS_fst, Bool.false_and, Bool.and_false, GK.binI_add_nat, GK.binI_shr_nat, GK.binI_and1_nat, GK.deq_nat, GK.cmpop_lt_nat, GK.cmpop_le_nat, GK.cmpop_gt_nat, GK.cmpop_ge_nat, GK.binI_or_nat, GK.binI_xor_nat, GK.mmD_maxN, GK.mmD_minN, GK.inD_nats, GK.inF_nats, GK.intsD_nats, GK.sum_cast, i0, GK.binI_modN (show 0 < 3 by decide), GK.binI_modN i0, h3, if_true]
            exact leafA i0
        · simp only [c_tree_0, c_tree_1, GK.ok_bind, GK.pure_M, GK.bind_assoc', GK.vm_f, GK.vm_o, GK.vm_p, GK.vm_vm, GK.rdV_mk, GK.rdV_fI, GK.rdV_fB, GK.evE_var, GK.evE_int, GK.evE_bl, GK.evE_non, GK.evE_str, GK.evE_bin, GK.evE_neg, GK.evE_inv, GK.evE_cmp, GK.ifM_t, GK.ifM_f, GK.evE_chn, GK.evE_isN, GK.evE_notN, GK.evE_and, GK.evE_or, GK.evE_not, GK.evE_ife, GK.evE_tup, GK.evE_lst, GK.evE_ix, GK.evE_sl, GK.evE_call, GK.evE_b1, GK.evE_isi, GK.evE_lc, GK.evE_lrg, GK.evF_nil, GK.evF_cons, GK.evA_nil, GK.evA_cons, GK.getI_int, GK.evO_none, GK.evO_some, GK.evC_none, GK.evC_some, GK.evI_rg1, GK.evI_rg2, GK.evI_seq, GK.seqF_nx, GK.seqF_rt, GK.seqF_bk, GK.seqF_ct, GK.exSs_nil, GK.exSs_cons, GK.exSs_frz, GK.exS_asg, GK.exS_setix, GK.exS_app, GK.exS_ext, GK.exS_exp, GK.exS_ret, GK.exS_retN, GK.exS_ite, GK.exS_for, GK.exS_whl, GK.exS_brk, GK.exS_cont, GK.exS_pass, GK.fin_rt, GK.fin_nx, GK.bindT_nm, GK.bindT_nmo, GK.bindT_nI, GK.bindT_nB, GK.bindT_tp2, GK.bindT_tp3, GK.bindT_tl5, GK.fI_d, GK.fB_d, GK.fI_m, GK.fB_m, GK.asF_f, GK.asF_o, GK.asF_fI, GK.asF_fB, GK.asB_b, GK.argS_f, GK.argS_o, GK.argS_p, GK.argS_v, GK.argS_fI, GK.argS_fB, GK.retS_f, GK.retS_o, GK.retS_fI, GK.retS_fB, GK.retP_o, GK.retS_p, GK.ownG_o, GK.ownL_eq, GK.frzG_o, GK.frzG_f, GK.frzG_fI, GK.frzG_fB, GK.frzR_eq, GK.extG_list, GK.isF_f, GK.isF_o, GK.isF_p, GK.binop_int, GK.binop_cat, GK.binop_rep, GK.ckI_t, GK.ckO_t, GK.unop_neg, GK.unop_inv, GK.cmpop_eq, GK.cmpop_ne, GK.optS_some, GK.ixD_list, GK.ixD_tup, GK.slD_list, GK.b1D_len, GK.b1D_lenT, GK.b1D_list, GK.b1D_listT, GK.b1D_tup, GK.b1D_tupT, GK.b1D_int, GK.b1D_intN, GK.b1D_sum, GK.sumS_some, GK.allS_some, GK.b1D_all, GK.b1D_any, GK.itemsD_list, GK.itemsD_tup, GK.ix_t0, GK.ix_t1, GK.ix_t2, GK.nD_def, GK.fI_eq', GK.fB_eq', GK.deq_pair, GK.natDec, GK.decide_self, GK.notP_rg1, GK.notP_rg2, GK.notPs_f, GK.notPs_o, GK.notP_seq, GK.esLen, Nat.reduceLeDiff, decide_true, decide_false, List.getElem?_cons_zero, List.getElem?_cons_succ, List.set_cons_zero, List.set_cons_succ, List.length_cons, List.length_nil, List.map_cons, List.map_nil, List.replicate_succ, List.replicate_zero, List.append_nil, List.nil_append, List.cons_append, Nat.reduceAdd, Nat.reduceSub, GK.startR, GK.tgIn, GK.isRg, List.contains_cons, List.all_cons, List.all_nil, Bool.and_true, Bool.true_and, Bool.not_true, Bool.not_false, beq_self_eq_true, Bool.or_true, Bool.true_or, Bool.or_false, Bool.false_or, Nat.not_lt_zero, GK.wipeR, GK.isNone, GK.isiD, GK.evE_glb, GK.evE_sst, GK.evE_gk, GK.evE_gdx, GK.evE_dsp, GK.evP_nil, GK.evP_cons, GK.evE_mm, GK.evE_rvl, GK.evI_rg3, GK.evI_enm, GK.evI_rev, GK.evI_zp, GK.evI_rvr, GK.notP_rg3, GK.notP_rvr, GK.notP_enm, GK.notP_rev, GK.notP_zp, GK.ckTu_t, GK.binop_catT, GK.slD_tup, GK.rvD_list, GK.cmpop_is, GK.cmpop_isnot, GK.negM_ok', GK.cmpop_in, GK.cmpop_notin, GK.cmpop_inT, GK.cmpop_notinT, GK.beq_t, GK.beq_f, GK.evE_dnw, GK.evE_dsp1, GK.setO_eq, GK.setS_list, GK.setS_dict, GK.keyOk_int, GK.keyOk_str, GK.ixD_dictI, GK.ixD_dictS, GK.cmpop_inK, GK.cmpop_notinK, GK.inK_int, GK.inK_str, GK.look_kT, GK.put_kT, GK.deq_bool, GK.lentE_var, GK.lentE_call, GK.lentE_lst, GK.lentE_tup, GK.lentE_ix, GK.lentE_sl, GK.lentE_bin, GK.lentE_b1, GK.lentE_lc, GK.lentE_lrg, GK.lentE_rvl, GK.lentE_sst, GK.lentE_gk, GK.lentE_gdx, GK.lentE_dsp, GK.lentO_p, GK.lentO_f, GK.lentO_o, GK.frzB_t, GK.frzB_f, GK.nmkD_list, GK.nmkD_tuple, GK.nmkD_int, GK.nmkD_bool, GK.nmkD_dict, GK.nmk_nil, GK.nmk_int, GK.nmk_str, GK.nmk_kT, GK.nmk_kv, GK.nmk_none, GK.keyOk_tup, GK.exS_ndn, GK.inK_tup, GK.inN_mk, GK.ixD_dictT, GK.getN_mk, GK.optD_some, GK.setSN_eq, GK.setN_mk, GK.b1D_tupN, GK.b1D_lenK, GK.b1D_lenD, GK.evE_lns, GK.evE_pk2, GK.exS_fst, Bool.false_and, Bool.and_false, GK.binI_add_nat, GK.binI_shr_nat, GK.binI_and1_nat, GK.deq_nat, GK.cmpop_lt_nat, GK.cmpop_le_nat, GK.cmpop_gt_nat, GK.cmpop_ge_nat, GK.binI_or_nat, GK.binI_xor_nat, GK.mmD_maxN, GK.mmD_minN, GK.inD_nats, GK.inF_nats, GK.intsD_nats, GK.sum_cast, i0, GK.binI_modN (show 0 < 2 by decide), r0', m0, if_true, Bool.false_eq_true, if_false]
          exact leafB i0
      · have nc := nodeC (by omega) (by omega)
        by_cases i0 : 0 < i
        · cases h3 : (modN cc 3 == 0)
          · simp only [c_tree_0, c_tree_1, GK.ok_bind, GK.pure_M, GK.bind_assoc', GK.vm_f, GK.vm_o, GK.vm_p, GK.vm_vm, GK.rdV_mk, GK.rdV_fI, GK.rdV_fB, GK.evE_var, GK.evE_int, GK.evE_bl, GK.evE_non, GK.evE_str, GK.evE_bin, GK.evE_neg, GK.evE_inv, GK.evE_cmp, GK.ifM_t, GK.ifM_f, GK.evE_chn, GK.evE_isN, GK.evE_notN, GK.evE_and, GK.evE_or, GK.evE_not, GK.evE_ife, GK.evE_tup, GK.evE_lst, GK.evE_ix, GK.evE_sl, GK.evE_call, GK.evE_b1, GK.evE_isi, GK.evE_lc, GK.evE_lrg, GK.evF_nil, GK.evF_cons, GK.evA_nil, GK.evA_cons, GK.getI_int, GK.evO_none, GK.evO_some, GK.evC_none, GK.evC_some, GK.evI_rg1, GK.evI_rg2, GK.evI_seq, GK.seqF_nx, GK.seqF_rt, GK.seqF_bk, GK.seqF_ct, GK.exSs_nil, GK.exSs_cons, GK.exSs_frz, GK.exS_asg, GK.exS_setix, GK.exS_app, GK.exS_ext, GK.exS_exp, GK.exS_ret, GK.exS_retN, GK.exS_ite, GK.exS_for, GK.exS_whl, GK.exS_brk, GK.exS_cont, GK.exS_pass, GK.fin_rt, GK.fin_nx, GK.bindT_nm, GK.bindT_nmo, GK.bindT_nI, GK.bindT_nB, GK.bindT_tp2, GK.bindT_tp3, GK.bindT_tl5, GK.fI_d, GK.fB_d, GK.fI_m, GK.fB_m, GK.asF_f, GK.asF_o, GK.asF_fI, GK.asF_fB, GK.asB_b, GK.argS_f, GK.argS_o, GK.argS_p, GK.argS_v, GK.argS_fI, GK.argS_fB, GK.retS_f, GK.retS_o, GK.retS_fI, GK.retS_fB, GK.retP_o, GK.retS_p, GK.ownG_o, GK.ownL_eq, GK.frzG_o, GK.frzG_f, GK.frzG_fI, GK.frzG_fB, GK.frzR_eq, GK.extG_list, GK.isF_f, GK.isF_o, GK.isF_p, GK.binop_int, GK.binop_cat, GK.binop_rep, GK.ckI_t, GK.ckO_t, GK.unop_neg, GK.unop_inv, GK.cmpop_eq, GK.cmpop_ne, GK.optS_some, GK.ixD_list, GK.ixD_tup, GK.slD_list, GK.b1D_len, GK.b1D_lenT, GK.b1D_list, GK.b1D_listT, GK.b1D_tup, GK.b1D_tupT, GK.b1D_int, GK.b1D_intN, GK.b1D_sum, GK.sumS_some, GK.allS_some, GK.b1D_all, GK.b1D_any, GK.itemsD_list, GK.itemsD_tup, GK.ix_t0, GK.ix_t1, GK.ix_t2, GK.nD_def, GK.fI_eq', GK.fB_eq', GK.deq_pair, GK.natDec, GK.decide_self, GK.notP_rg1, GK.notP_rg2, GK.notPs_f, GK.notPs_o, GK.notP_seq, GK.esLen, Nat.reduceLeDiff, decide_true, decide_false, List.getElem?_cons_zero, List.getElem?_cons_succ, List.set_cons_zero, List.set_cons_succ, List.length_cons, List.length_nil, List.map_cons, List.map_nil, List.replicate_succ, List.replicate_zero, List.append_nil, List.nil_append, List.cons_append, Nat.reduceAdd, Nat.reduceSub, GK.startR, GK.tgIn, GK.isRg, List.contains_cons, List.all_cons, List.all_nil, Bool.and_true, Bool.true_and, Bool.not_true, Bool.not_false, beq_self_eq_true, Bool.or_true, Bool.true_or, Bool.or_false, Bool.false_or, Nat.not_lt_zero, GK.wipeR, GK.isNone, GK.isiD, GK.evE_glb, GK.evE_sst, GK.evE_gk, GK.evE_gdx, GK.evE_dsp, GK.evP_nil, GK.evP_cons, GK.evE_mm, GK.evE_rvl, GK.evI_rg3, GK.evI_enm, GK.evI_rev, GK.evI_zp, GK.evI_rvr, GK.notP_rg3, GK.notP_rvr, GK.notP_enm, GK.notP_rev, GK.notP_zp, GK.ckTu_t, GK.binop_catT, GK.slD_tup, GK.rvD_list, GK.cmpop_is, GK.cmpop_isnot, GK.negM_ok', GK.cmpop_in, GK.cmpop_notin, GK.cmpop_inT, GK.cmpop_notinT, GK.beq_t, GK.beq_f, GK.evE_dnw, GK.evE_dsp1, GK.setO_eq, GK.setS_list, GK.setS_dict, GK.keyOk_int, GK.keyOk_str, GK.ixD_dictI, GK.ixD_dictS, GK.cmpop_inK, GK.cmpop_notinK, GK.inK_int, GK.inK_str, GK.look_kT, GK.put_kT, GK.deq_bool, GK.lentE_var, GK.lentE_call, GK.lentE_lst, GK.lentE_tup, GK.lentE_ix, GK.lentE_sl, GK.lentE_bin, GK.lentE_b1, GK.lentE_lc, GK.lentE_lrg, GK.lentE_rvl, GK.lentE_sst, GK.lentE_gk, GK.lentE_gdx, GK.lentE_dsp, GK.lentO_p, GK.lentO_f, GK.lentO_o, GK.frzB_t, GK.frzB_f, GK.nmkD_list, GK.nmkD_tuple, GK.nmkD_int, GK.nmkD_bool, GK.nmkD_dict, GK.nmk_nil, GK.nmk_int, GK.nmk_str, GK.nmk_kT, GK.nmk_kv, GK.nmk_none, GK.keyOk_tup, GK.exS_ndn, GK.inK_tup, GK.inN_mk, GK.ixD_dictT, GK.getN_mk, GK.optD_some, GK.setSN_eq, GK.setN_mk, GK.b1D_tupN, GK.b1D_lenK, GK.b1D_lenD, GK.evE_lns, GK.evE_pk2, GK.exS_fst, Bool.false_and, Bool.and_false, GK.binI_add_nat, GK.binI_shr_nat, GK.binI_and1_nat, GK.deq_nat, GK.cmpop_lt_nat, GK.cmpop_le_nat, GK.cmpop_gt_nat, GK.cmpop_ge_nat, GK.binI_or_nat, GK.binI_xor_nat, GK.mmD_maxN, GK.mmD_minN, GK.inD_nats, GK.inF_nats, GK.intsD_nats, GK.sum_cast, i0, GK.binI_modN (show 0 < 3 by decide), h3, r0', m0, Bool.false_eq_true, if_false, GK.binI_sub_nat (show 1 ≤ m by omega)]
            exact nc
          · simp only [c_tree_0, GK.ok_bind, GK.pure_M, GK.bind_assoc', GK.vm_f, GK.vm_o, GK.vm_p, GK.vm_vm, GK.rdV_mk, GK.rdV_fI, GK.rdV_fB, GK.evE_var, GK.evE_int, GK.evE_bl, GK.evE_non, GK.evE_str, GK.evE_bin, GK.evE_neg, GK.evE_inv, GK.evE_cmp, GK.ifM_t, GK.ifM_f, GK.evE_chn, GK.evE_isN, GK.evE_notN, GK.evE_and, GK.evE_or, GK.evE_not, GK.evE_ife, GK.evE_tup, GK.evE_lst, GK.evE_ix, GK.evE_sl, GK.evE_call, GK.evE_b1, GK.evE_isi, GK.evE_lc, GK.evE_lrg, GK.evF_nil, GK.evF_cons, GK.evA_nil, GK.evA_cons, GK.getI_int, GK.evO_none, GK.evO_some, GK.evC_none, GK.evC_some, GK.evI_rg1, GK.evI_rg2, GK.evI_seq, GK.seqF_nx, GK.seqF_rt, GK.seqF_bk, GK.seqF_ct, GK.exSs_nil, GK.exSs_cons, GK.exSs_frz, GK.exS_asg, GK.exS_setix, GK.exS_app, GK.exS_ext, GK.exS_exp, GK.exS_ret, GK.exS_retN, GK.exS_ite, GK.exS_for, GK.exS_whl, GK.exS_brk, GK.exS_cont, GK.exS_pass, GK.fin_rt, GK.fin_nx, GK.bindT_nm, GK.bindT_nmo, GK.bindT_nI, GK.bindT_nB, GK.bindT_tp2, GK.bindT_tp3, GK.bindT_tl5, GK.fI_d, GK.fB_d, GK.fI_m, GK.fB_m, GK.asF_f, GK.asF_o, GK.asF_fI, GK.asF_fB, GK.asB_b, GK.argS_f, GK.argS_o, GK.argS_p, GK.argS_v, GK.argS_fI, GK.argS_fB, GK.retS_f, GK.retS_o, GK.retS_fI, GK.retS_fB, GK.retP_o, GK.retS_p, GK.ownG_o, GK.ownL_eq, GK.frzG_o, GK.frzG_f, GK.frzG_fI, GK.frzG_fB, GK.frzR_eq, GK.extG_list, GK.isF_f, GK.isF_o, GK.isF_p, GK.binop_int, GK.binop_cat, GK.binop_rep, GK.ckI_t, GK.ckO_t, GK.unop_neg, GK.unop_inv, GK.cmpop_eq, GK.cmpop_ne, GK.optS_some, GK.ixD_list, GK.ixD_tup, GK.slD_list, GK.b1D_len, GK.b1D_lenT, GK.b1D_list, GK.b1D_listT, GK.b1D_tup, GK.b1D_tupT, GK.b1D_int, GK.b1D_intN, GK.b1D_sum, GK.sumS_some, GK.allS_some, GK.b1D_all, GK.b1D_any, GK.itemsD_list, GK.itemsD_tup, GK.ix_t0, GK.ix_t1, GK.ix_t2, GK.nD_def, GK.fI_eq', GK.fB_eq', GK.deq_pair, GK.natDec, GK.decide_self, GK.notP_rg1, GK.notP_rg2, GK.notPs_f, GK.notPs_o, GK.notP_seq, GK.esLen, Nat.reduceLeDiff, decide_true, decide_false, List.getElem?_cons_zero, List.getElem?_cons_succ, List.set_cons_zero, List.set_cons_succ, List.length_cons, List.length_nil, List.map_cons, List.map_nil, List.replicate_succ, List.replicate_zero, List.append_nil, List.nil_append, List.cons_append, Nat.reduceAdd, Nat.reduceSub, GK.startR, GK.tgIn, GK.isRg, List.contains_cons, List.all_cons, List.all_nil, Bool.and_true, Bool.true_and, Bool.not_true, Bool.not_false, beq_self_eq_true, Bool.or_true, Bool.true_or, Bool.or_false, Bool.false_or, Nat.not_lt_zero, GK.wipeR, GK.isNone, GK.isiD, GK.evE_glb, GK.evE_sst, GK.evE_gk, GK.evE_gdx, GK.evE_dsp, GK.evP_nil, GK.evP_cons, GK.evE_mm, GK.evE_rvl, GK.evI_rg3, GK.evI_enm, GK.evI_rev, GK.evI_zp, GK.evI_rvr, GK.notP_rg3, GK.notP_rvr, GK.notP_enm, GK.notP_rev, GK.notP_zp, GK.ckTu_t, GK.binop_catT, GK.slD_tup, GK.rvD_list, GK.cmpop_is, GK.cmpop_isnot, GK.negM_ok', GK.cmpop_in, GK.cmpop_notin, GK.cmpop_inT, GK.cmpop_notinT, GK.beq_t, GK.beq_f, GK.evE_dnw, GK.evE_dsp1, GK.setO_eq, GK.setS_list, GK.setS_dict, GK.keyOk_int, GK.keyOk_str, GK.ixD_dictI, GK.ixD_dictS, GK.cmpop_inK, GK.cmpop_notinK, GK.inK_int, GK.inK_str, GK.look_kT, GK.put_kT, GK.deq_bool, GK.lentE_var, GK.lentE_call, GK.lentE_lst, GK.lentE_tup, GK.lentE_ix, GK.lentE_sl, GK.lentE_bin, GK.lentE_b1, GK.lentE_lc, GK.lentE_lrg, GK.lentE_rvl, GK.lentE_sst, GK.lentE_gk, GK.lentE_gdx, GK.lentE_dsp, GK.lentO_p, GK.lentO_f, GK.lentO_o, GK.frzB_t, GK.frzB_f, GK.nmkD_list, GK.nmkD_tuple, GK.nmkD_int, GK.nmkD_bool, GK.nmkD_dict, GK.nmk_nil, GK.nmk_int, GK.nmk_str, GK.nmk_kT, GK.nmk_kv, GK.nmk_none, GK.keyOk_tup, GK.exS_ndn, GK.inK_tup, GK.inN_mk, GK.ixD_dictT, GK.getN_mk, GK.optD_some, GK.setSN_eq, GK.setN_mk, GK.b1D_tupN, GK.b1D_lenK, GK.b1D_lenD, GK.evE_lns, GK.evE_pk2, GK.exS_fst, Bool.false_and, Bool.and_false, GK.binI_add_nat, GK.binI_shr_nat, GK.binI_and1_nat, GK.deq_nat, GK.cmpop_lt_nat, GK.cmpop_le_nat, GK.cmpop_gt_nat, GK.cmpop_ge_nat, GK.binI_or_nat, GK.binI_xor_nat, GK.mmD_maxN, GK.mmD_minN, GK.inD_nats, GK.inF_nats, GK.intsD_nats, GK.sum_cast, i0, GK.binI_modN (show 0 < 3 by decide), GK.binI_modN i0, h3, if_true]
            exact leafA i0
        · simp only [c_tree_0, c_tree_1, GK.ok_bind, GK.pure_M, GK.bind_assoc', GK.vm_f, GK.vm_o, GK.vm_p, GK.vm_vm, GK.rdV_mk, GK.rdV_fI, GK.rdV_fB, GK.evE_var, GK.evE_int, GK.evE_bl, GK.evE_non, GK.evE_str, GK.evE_bin, GK.evE_neg, GK.evE_inv, GK.evE_cmp, GK.ifM_t, GK.ifM_f, GK.evE_chn, GK.evE_isN, GK.evE_notN, GK.evE_and, GK.evE_or, GK.evE_not, GK.evE_ife, GK.evE_tup, GK.evE_lst, GK.evE_ix, GK.evE_sl, GK.evE_call, GK.evE_b1, GK.evE_isi, GK.evE_lc, GK.evE_lrg, GK.evF_nil, GK.evF_cons, GK.evA_nil, GK.evA_cons, GK.getI_int, GK.evO_none, GK.evO_some, GK.evC_none, GK.evC_some, GK.evI_rg1, GK.evI_rg2, GK.evI_seq, GK.seqF_nx, GK.seqF_rt, GK.seqF_bk, GK.seqF_ct, GK.exSs_nil, GK.exSs_cons, GK.exSs_frz, GK.exS_asg, GK.exS_setix, GK.exS_app, GK.exS_ext, GK.exS_exp, GK.exS_ret, GK.exS_retN, GK.exS_ite, GK.exS_for, GK.exS_whl, GK.exS_brk, GK.exS_cont, GK.exS_pass, GK.fin_rt, GK.fin_nx, GK.bindT_nm, GK.bindT_nmo, GK.bindT_nI, GK.bindT_nB, GK.bindT_tp2, GK.bindT_tp3, GK.bindT_tl5, GK.fI_d, GK.fB_d, GK.fI_m, GK.fB_m, GK.asF_f, GK.asF_o, GK.asF_fI, GK.asF_fB, GK.asB_b, GK.argS_f, GK.argS_o, GK.argS_p, GK.argS_v, GK.argS_fI, GK.argS_fB, GK.retS_f, GK.retS_o, GK.retS_fI, GK.retS_fB, GK.retP_o, GK.retS_p, GK.ownG_o, GK.ownL_eq, GK.frzG_o, GK.frzG_f, GK.frzG_fI, GK.frzG_fB, GK.frzR_eq, GK.extG_list, GK.isF_f, GK.isF_o, GK.isF_p, GK.binop_int, GK.binop_cat, GK.binop_rep, GK.ckI_t, GK.ckO_t, GK.unop_neg, GK.unop_inv, GK.cmpop_eq, GK.cmpop_ne, GK.optS_some, GK.ixD_list, GK.ixD_tup, GK.slD_list, GK.b1D_len, GK.b1D_lenT, GK.b1D_list, GK.b1D_listT, GK.b1D_tup, GK.b1D_tupT, GK.b1D_int, GK.b1D_intN, GK.b1D_sum, GK.sumS_some, GK.allS_some, GK.b1D_all, GK.b1D_any, GK.itemsD_list, GK.itemsD_tup, GK.ix_t0, GK.ix_t1, GK.ix_t2, GK.nD_def, GK.fI_eq', GK.fB_eq', GK.deq_pair, GK.natDec, GK.decide_self, GK.notP_rg1, GK.notP_rg2, GK.notPs_f, GK.notPs_o, GK.notP_seq, GK.esLen, Nat.reduceLeDiff, decide_true, decide_false, List.getElem?_cons_zero, List.getElem?_cons_succ, List.set_cons_zero, List.set_cons_succ, List.length_cons, List.length_nil, List.map_cons, List.map_nil, List.replicate_succ, List.replicate_zero, List.append_nil, List.nil_append, List.cons_append, Nat.reduceAdd, Nat.reduceSub, GK.startR, GK.tgIn, GK.isRg, List.contains_cons, List.all_cons, List.all_nil, Bool.and_true, Bool.true_and, Bool.not_true, Bool.not_false, beq_self_eq_true, Bool.or_true, Bool.true_or, Bool.or_false, Bool.false_or, Nat.not_lt_zero, GK.wipeR, GK.isNone, GK.isiD, GK.evE_glb, GK.evE_sst, GK.evE_gk, GK.evE_gdx, GK.evE_dsp, GK.evP_nil, GK.evP_cons, GK.evE_mm, GK.evE_rvl, GK.evI_rg3, GK.evI_enm, GK.evI_rev, GK.evI_zp, GK.evI_rvr, GK.notP_rg3, GK.notP_rvr, GK.notP_enm, GK.notP_rev, GK.notP_zp, GK.ckTu_t, GK.binop_catT, GK.slD_tup, GK.rvD_list, GK.cmpop_is, GK.cmpop_isnot, GK.negM_ok', GK.cmpop_in, GK.cmpop_notin, GK.cmpop_inT, GK.cmpop_notinT, GK.beq_t, GK.beq_f, GK.evE_dnw, GK.evE_dsp1, GK.setO_eq, GK.setS_list, GK.setS_dict, GK.keyOk_int, GK.keyOk_str, GK.ixD_dictI, GK.ixD_dictS, GK.cmpop_inK, GK.cmpop_notinK, GK.inK_int, GK.inK_str, GK.look_kT, GK.put_kT, GK.deq_bool, GK.lentE_var, GK.lentE_call, GK.lentE_lst, GK.lentE_tup, GK.lentE_ix, GK.lentE_sl, GK.lentE_bin, GK.lentE_b1, GK.lentE_lc, GK.lentE_lrg, GK.lentE_rvl, GK.lentE_sst, GK.lentE_gk, GK.lentE_gdx, GK.lentE_dsp, GK.lentO_p, GK.lentO_f, GK.lentO_o, GK.frzB_t, GK.frzB_f, GK.nmkD_list, GK.nmkD_tuple, GK.nmkD_int, GK.nmkD_bool, GK.nmkD_dict, GK.nmk_nil, GK.nmk_int, GK.nmk_str, GK.nmk_kT, GK.nmk_kv, GK.nmk_none, GK.keyOk_tup, GK.exS_ndn, GK.inK_tup, GK.inN_mk, GK.ixD_dictT, GK.getN_mk, GK.optD_some, GK.setSN_eq, GK.setN_mk, GK.b1D_tupN, GK.b1D_lenK, GK.b1D_lenD, GK.evE_lns, GK.evE_pk2, GK.exS_fst, Bool.false_and, Bool.and_false, GK.binI_add_nat, GK.binI_shr_nat, GK.binI_and1_nat, GK.deq_nat, GK.cmpop_lt_nat, GK.cmpop_le_nat, GK.cmpop_gt_nat, GK.cmpop_ge_nat, GK.binI_or_nat, GK.binI_xor_nat, GK.mmD_maxN, GK.mmD_minN, GK.inD_nats, GK.inF_nats, GK.intsD_nats, GK.sum_cast, i0, r0', m0, Bool.false_eq_true, if_false, GK.binI_sub_nat (show 1 ≤ m by omega)]
          exact nc

--@ifs law law_laid law_tree laid spread
/-! ### k18: a tree laid out as a circuit -/
def layL (f : D → List D → D × List D) : List D → List D → List D × List D
  | [], st => ([], st)
  | t :: ts, st => ((f t st).1 :: (layL f ts (f t st).2).1, (layL f ts (f t st).2).2)
def layF (i : Nat) : Nat → D → List D → D × List D
  | k + 1, .tuple [g, .tuple ts], st => (nD (i + (layL (layF i k) ts st).2.length), (layL (layF i k) ts st).2 ++ [.tuple [g, .tuple (layL (layF i k) ts st).1]])
  | _, d, st => (d, st)
theorem layF_leaf (i k w : Nat) (st : List D) : layF i k (nD w) st = (nD w, st) := by cases k <;> rfl
theorem layL_len {f : D → List D → D × List D} {c : Nat} : ∀ (ts st : List D), (∀ t ∈ ts, ∀ st, (f t st).2.length ≤ st.length + c) → (layL f ts st).2.length ≤ st.length + ts.length * c ∧ (layL f ts st).1.length = ts.length
  | [], st, _ => ⟨by simp [layL], rfl⟩
  | t :: ts, st, h => by
    obtain ⟨h1, h2⟩ := layL_len ts (f t st).2 fun t' ht' => h t' (List.mem_cons_of_mem _ ht')
    have h3 := h t List.mem_cons_self st
    show (layL f ts (f t st).2).2.length ≤ _ ∧ _
    refine ⟨?_, by show ((f t st).1 :: (layL f ts (f t st).2).1).length = _; rw [List.length_cons, List.length_cons, h2]⟩
    rw [List.length_cons, Nat.succ_mul]
    omega
theorem layF_len (i : Nat) : ∀ (k : Nat) (d : D) (st : List D), TrOk i k d → (layF i k d st).2.length ≤ st.length + 5 ^ k
  | 0, d, st, ⟨w, _, e⟩ => by rw [e, layF_leaf]; exact Nat.le_add_right _ _
  | k + 1, d, st, h => by
    rcases h with ⟨w, _, e⟩ | ⟨n, b, ts, h1, _, h2, h3, e⟩
    · rw [e, layF_leaf]; exact Nat.le_add_right _ _
    · rw [e]
      show ((layL (layF i k) ts st).2 ++ [_]).length ≤ _
      have := (layL_len (c := 5 ^ k) ts st fun t ht st => layF_len i k t st (h3 t ht)).1
      rw [List.length_append, List.length_cons, List.length_nil, Nat.pow_succ]
      have p := Nat.two_pow_pos 0
      have p5 : 0 < 5 ^ k := Nat.pow_pos (by decide)
      have : ts.length * 5 ^ k ≤ 4 * 5 ^ k := Nat.mul_le_mul_right _ (by omega)
      omega
theorem go_lay {f : D → List D → D × List D} {F : D → List D → M (D × List D)} {c B : Nat} : ∀ (ts st : List D), (∀ t ∈ ts, ∀ st, (f t st).2.length ≤ st.length + c) → st.length + ts.length * c ≤ B → (∀ t ∈ ts, ∀ st', st'.length + c ≤ B → F t st' = .ok (f t st')) → GK.ioGo F ts st = .ok (layL f ts st)
  | [], st, _, _, _ => rfl
  | t :: ts, st, hl, hB, h => by
    rw [List.length_cons, Nat.succ_mul] at hB
    have h3 := hl t List.mem_cons_self st
    show (F t st >>= fun r => GK.ioGo F ts r.2 >>= fun q => .ok (r.1 :: q.1, q.2)) = _
    rw [h t List.mem_cons_self st (by omega), GK.ok_bind, go_lay ts _ (fun t' ht' => hl t' (List.mem_cons_of_mem _ ht')) (by omega) fun t' ht' => h t' (List.mem_cons_of_mem _ ht'), GK.ok_bind]
    rfl
theorem runX_laid (K : Nat) (a b : Sl) (md : Md) (ds : List D) : GK.runX (run K) (runI K) (GK.ppOf TX) xd_laid [a, b, ⟨md, .list ds⟩] = GK.exX (run K) (runI K) (GK.ppOf TX) 2 x_laid [some a, some b, some ⟨.o, .list ds⟩, none, none] ds := by
  unfold GK.runX
  rw [if_pos ⟨rfl, (show 2 < 3 by decide)⟩]
  rfl
theorem pp_laid : GK.ppOf TX "laid" = 2 := by kernel_rfl
theorem laid_run (i : Nat) : ∀ (k : Nat) (d : D) (st : List D) (m : Nat) (md : Md), TrOk i k d → st.length + 5 ^ k ≤ 16000000 → runI (m + k + 1) "laid" [⟨.f, d⟩, fI (i : Nat), ⟨md, .list st⟩] = .ok (layF i k d st)
  | k, d, st, m, md, h, hb => by
    have leaf : ∀ w, d = nD w → runI (m + k + 1) "laid" [⟨.f, d⟩, fI (i : Nat), ⟨md, .list st⟩] = .ok (layF i k d st) := fun w e => by
      rw [e, layF_leaf, runI_laid, runX_laid]
      simp only [x_laid, GK.exX, GK.frzV, GK.ok_bind, GK.pure_M, GK.bind_assoc', GK.vm_f, GK.vm_o, GK.vm_p, GK.vm_vm, GK.rdV_mk, GK.rdV_fI, GK.rdV_fB, GK.evE_var, GK.evE_int, GK.evE_bl, GK.evE_non, GK.evE_str, GK.evE_bin, GK.evE_neg, GK.evE_inv, GK.evE_cmp, GK.ifM_t, GK.ifM_f, GK.evE_chn, GK.evE_isN, GK.evE_notN, GK.evE_and, GK.evE_or, GK.evE_not, GK.evE_ife, GK.evE_tup, GK.evE_lst, GK.evE_ix, GK.evE_sl, GK.evE_call, GK.evE_b1, GK.evE_isi, GK.evE_lc, GK.evE_lrg, GK.evF_nil, GK.evF_cons, GK.evA_nil, GK.evA_cons, GK.getI_int, GK.evO_none, GK.evO_some, GK.evC_none, GK.evC_some, GK.evI_rg1, GK.evI_rg2, GK.evI_seq, GK.seqF_nx, GK.seqF_rt, GK.seqF_bk, GK.seqF_ct, GK.exSs_nil, GK.exSs_cons, GK.exSs_frz, GK.exS_asg, GK.exS_setix, GK.exS_app, GK.exS_ext, GK.exS_exp, GK.exS_ret, GK.exS_retN, GK.exS_ite, GK.exS_for, GK.exS_whl, GK.exS_brk, GK.exS_cont, GK.exS_pass, GK.fin_rt, GK.fin_nx, GK.bindT_nm, GK.bindT_nmo, GK.bindT_nI, GK.bindT_nB, GK.bindT_tp2, GK.bindT_tp3, GK.bindT_tl5, GK.fI_d, GK.fB_d, GK.fI_m, GK.fB_m, GK.asF_f, GK.asF_o, GK.asF_fI, GK.asF_fB, GK.asB_b, GK.argS_f, GK.argS_o, GK.argS_p, GK.argS_v, GK.argS_fI, GK.argS_fB, GK.retS_f, GK.retS_o, GK.retS_fI, GK.retS_fB, GK.retP_o, GK.retS_p, GK.ownG_o, GK.ownL_eq, GK.frzG_o, GK.frzG_f, GK.frzG_fI, GK.frzG_fB, GK.frzR_eq, GK.extG_list, GK.isF_f, GK.isF_o, GK.isF_p, GK.binop_int, GK.binop_cat, GK.binop_rep, GK.ckI_t, GK.ckO_t, GK.unop_neg, GK.unop_inv, GK.cmpop_eq, GK.cmpop_ne, GK.optS_some, GK.ixD_list, GK.ixD_tup, GK.slD_list, GK.b1D_len, GK.b1D_lenT, GK.b1D_list, GK.b1D_listT, GK.b1D_tup, GK.b1D_tupT, GK.b1D_int, GK.b1D_intN, GK.b1D_sum, GK.sumS_some, GK.allS_some, GK.b1D_all, GK.b1D_any, GK.itemsD_list, GK.itemsD_tup, GK.ix_t0, GK.ix_t1, GK.ix_t2, GK.nD_def, GK.fI_eq', GK.fB_eq', GK.deq_pair, GK.natDec, GK.decide_self, GK.notP_rg1, GK.notP_rg2, GK.notPs_f, GK.notPs_o, GK.notP_seq, GK.esLen, Nat.reduceLeDiff, decide_true, decide_false, List.getElem?_cons_zero, List.getElem?_cons_succ, List.set_cons_zero, List.set_cons_succ, List.length_cons, List.length_nil, List.map_cons, List.map_nil, List.replicate_succ, List.replicate_zero, List.append_nil, List.nil_append, List.cons_append, Nat.reduceAdd, Nat.reduceSub, GK.startR, GK.tgIn, GK.isRg, List.contains_cons, List.all_cons, List.all_nil, Bool.and_true, Bool.true_and, Bool.not_true, Bool.not_false, beq_self_eq_true, Bool.or_true, Bool.true_or, Bool.or_false, Bool.false_or, Nat.not_lt_zero, GK.wipeR, GK.isNone, GK.isiD, GK.evE_glb, GK.evE_sst, GK.evE_gk, GK.evE_gdx, GK.evE_dsp, GK.evP_nil, GK.evP_cons, GK.evE_mm, GK.evE_rvl, GK.evI_rg3, GK.evI_enm, GK.evI_rev, GK.evI_zp, GK.evI_rvr, GK.notP_rg3, GK.notP_rvr, GK.notP_enm, GK.notP_rev, GK.notP_zp, GK.ckTu_t, GK.binop_catT, GK.slD_tup, GK.rvD_list, GK.cmpop_is, GK.cmpop_isnot, GK.negM_ok', GK.cmpop_in, GK.cmpop_notin, GK.cmpop_inT, GK.cmpop_notinT, GK.beq_t, GK.beq_f, GK.evE_dnw, GK.evE_dsp1, GK.setO_eq, GK.setS_list, GK.setS_dict, GK.keyOk_int, GK.keyOk_str, GK.ixD_dictI, GK.ixD_dictS, GK.cmpop_inK, GK.cmpop_notinK, GK.inK_int, GK.inK_str, GK.look_kT, GK.put_kT, GK.deq_bool, GK.lentE_var, GK.lentE_call, GK.lentE_lst, GK.lentE_tup, GK.lentE_ix, GK.lentE_sl, GK.lentE_bin, GK.lentE_b1, GK.lentE_lc, GK.lentE_lrg, GK.lentE_rvl, GK.lentE_sst, GK.lentE_gk, GK.lentE_gdx, GK.lentE_dsp, GK.lentO_p, GK.lentO_f, GK.lentO_o, GK.frzB_t, GK.frzB_f, GK.nmkD_list, GK.nmkD_tuple, GK.nmkD_int, GK.nmkD_bool, GK.nmkD_dict, GK.nmk_nil, GK.nmk_int, GK.nmk_str, GK.nmk_kT, GK.nmk_kv, GK.nmk_none, GK.keyOk_tup, GK.exS_ndn, GK.inK_tup, GK.inN_mk, GK.ixD_dictT, GK.getN_mk, GK.optD_some, GK.setSN_eq, GK.setN_mk, GK.b1D_tupN, GK.b1D_lenK, GK.b1D_lenD, GK.evE_lns, GK.evE_pk2, GK.exS_fst, Bool.false_and, Bool.and_false, GK.binI_add_nat, GK.binI_shr_nat, GK.binI_and1_nat, GK.deq_nat, GK.cmpop_lt_nat, GK.cmpop_le_nat, GK.cmpop_gt_nat, GK.cmpop_ge_nat, GK.binI_or_nat, GK.binI_xor_nat, GK.mmD_maxN, GK.mmD_minN, GK.inD_nats, GK.inF_nats, GK.intsD_nats, GK.sum_cast, GK.isiD, if_true]
    match k, h with
    | 0, ⟨w, _, e⟩ => exact leaf w e
    | k + 1, h =>
      rcases h with ⟨w, _, e⟩ | ⟨n, b, ts, h1, _, h2, h3, e⟩
      · exact leaf w e
      · rw [e, show m + (k + 1) + 1 = (m + k + 1) + 1 by omega, runI_laid, runX_laid]
        rw [Nat.pow_succ] at hb
        have p5 : 0 < 5 ^ k := Nat.pow_pos (by decide)
        have ht : ts.length * 5 ^ k ≤ 4 * 5 ^ k := Nat.mul_le_mul_right _ (by omega)
        have ll := layL_len (c := 5 ^ k) ts st fun t ht st => layF_len i k t st (h3 t ht)
        have g := go_lay (f := layF i k) (F := GK.ioT (run (m + k + 1)) (runI (m + k + 1)) (GK.ppOf TX) "laid" (.cons (.var 4) (.cons (.var 1) (.cons (.var 2) .nil))) 2 4 [some ⟨.f, .tuple [gD n b, .tuple ts]⟩, some (fI (i : Nat)), some ⟨.o, .list st⟩, none, none]) (c := 5 ^ k) (B := 16000000) ts st (fun t ht st => layF_len i k t st (h3 t ht)) (by omega) (fun t ht st' hb' => by
          have ih := laid_run i k t st' m .p (h3 t ht) hb'
          have e4 : GK.vAt (.cons (.var 4) (.cons (.var 1) (.cons (.var 2) .nil))) 2 = some 2 := rfl
          simp only [GK.ioT, GK.wipeR, pp_laid, e4, GK.ok_bind, GK.pure_M, GK.bind_assoc', GK.vm_f, GK.vm_o, GK.vm_p, GK.vm_vm, GK.rdV_mk, GK.rdV_fI, GK.rdV_fB, GK.evE_var, GK.evE_int, GK.evE_bl, GK.evE_non, GK.evE_str, GK.evE_bin, GK.evE_neg, GK.evE_inv, GK.evE_cmp, GK.ifM_t, GK.ifM_f, GK.evE_chn, GK.evE_isN, GK.evE_notN, GK.evE_and, GK.evE_or, GK.evE_not, GK.evE_ife, GK.evE_tup, GK.evE_lst, GK.evE_ix, GK.evE_sl, GK.evE_call, GK.evE_b1, GK.evE_isi, GK.evE_lc, GK.evE_lrg, GK.evF_nil, GK.evF_cons, GK.evA_nil, GK.evA_cons, GK.getI_int, GK.evO_none, GK.evO_some, GK.evC_none, GK.evC_some, GK.evI_rg1, GK.evI_rg2, GK.evI_seq, GK.seqF_nx, GK.seqF_rt, GK.seqF_bk, GK.seqF_ct, GK.exSs_nil, GK.exSs_cons, GK.exSs_frz, GK.exS_asg, GK.exS_setix, GK.exS_app, GK.exS_ext, GK.exS_exp, GK.exS_ret, GK.exS_retN, GK.exS_ite, GK.exS_for, GK.exS_whl, GK.exS_brk, GK.exS_cont, GK.exS_pass, GK.fin_rt, GK.fin_nx, GK.bindT_nm, GK.bindT_nmo, GK.bindT_nI, GK.bindT_nB, GK.bindT_tp2, GK.bindT_tp3, GK.bindT_tl5, GK.fI_d, GK.fB_d, GK.fI_m, GK.fB_m, GK.asF_f, GK.asF_o, GK.asF_fI, GK.asF_fB, GK.asB_b, GK.argS_f, GK.argS_o, GK.argS_p, GK.argS_v, GK.argS_fI, GK.argS_fB, GK.retS_f, GK.retS_o, GK.retS_fI, GK.retS_fB, GK.retP_o, GK.retS_p, GK.ownG_o, GK.ownL_eq, GK.frzG_o, GK.frzG_f, GK.frzG_fI, GK.frzG_fB, GK.frzR_eq, GK.extG_list, GK.isF_f, GK.isF_o, GK.isF_p, GK.binop_int, GK.binop_cat, GK.binop_rep, GK.ckI_t, GK.ckO_t, GK.unop_neg, GK.unop_inv, GK.cmpop_eq, GK.cmpop_ne, GK.optS_some, GK.ixD_list, GK.ixD_tup, GK.slD_list, GK.b1D_len, GK.b1D_lenT, GK.b1D_list, GK.b1D_listT, GK.b1D_tup, GK.b1D_tupT, GK.b1D_int, GK.b1D_intN, GK.b1D_sum, GK.sumS_some, GK.allS_some, GK.b1D_all, GK.b1D_any, GK.itemsD_list, GK.itemsD_tup, GK.ix_t0, GK.ix_t1, GK.ix_t2, GK.nD_def, GK.fI_eq', GK.fB_eq', GK.deq_pair, GK.natDec, GK.decide_self, GK.notP_rg1, GK.notP_rg2, GK.notPs_f, GK.notPs_o, GK.notP_seq, GK.esLen, Nat.reduceLeDiff, decide_true, decide_false, List.getElem?_cons_zero, List.getElem?_cons_succ, List.set_cons_zero, List.set_cons_succ, List.length_cons, List.length_nil, List.map_cons, List.map_nil, List.replicate_succ, List.replicate_zero, List.append_nil, List.nil_append, List.cons_append, Nat.reduceAdd, Nat.reduceSub, GK.startR, GK.tgIn, GK.isRg, List.contains_cons, List.all_cons, List.all_nil, Bool.and_true, Bool.true_and, Bool.not_true, Bool.not_false, beq_self_eq_true, Bool.or_true, Bool.true_or, Bool.or_false, Bool.false_or, Nat.not_lt_zero, GK.wipeR, GK.isNone, GK.isiD, GK.evE_glb, GK.evE_sst, GK.evE_gk, GK.evE_gdx, GK.evE_dsp, GK.evP_nil, GK.evP_cons, GK.evE_mm, GK.evE_rvl, GK.evI_rg3, GK.evI_enm, GK.evI_rev, GK.evI_zp, GK.evI_rvr, GK.notP_rg3, GK.notP_rvr, GK.notP_enm, GK.notP_rev, GK.notP_zp, GK.ckTu_t, GK.binop_catT, GK.slD_tup, GK.rvD_list, GK.cmpop_is, GK.cmpop_isnot, GK.negM_ok', GK.cmpop_in, GK.cmpop_notin, GK.cmpop_inT, GK.cmpop_notinT, GK.beq_t, GK.beq_f, GK.evE_dnw, GK.evE_dsp1, GK.setO_eq, GK.setS_list, GK.setS_dict, GK.keyOk_int, GK.keyOk_str, GK.ixD_dictI, GK.ixD_dictS, GK.cmpop_inK, GK.cmpop_notinK, GK.inK_int, GK.inK_str, GK.look_kT, GK.put_kT, GK.deq_bool, GK.lentE_var, GK.lentE_call, GK.lentE_lst, GK.lentE_tup, GK.lentE_ix, GK.lentE_sl, GK.lentE_bin, GK.lentE_b1, GK.lentE_lc, GK.lentE_lrg, GK.lentE_rvl, GK.lentE_sst, GK.lentE_gk, GK.lentE_gdx, GK.lentE_dsp, GK.lentO_p, GK.lentO_f, GK.lentO_o, GK.frzB_t, GK.frzB_f, GK.nmkD_list, GK.nmkD_tuple, GK.nmkD_int, GK.nmkD_bool, GK.nmkD_dict, GK.nmk_nil, GK.nmk_int, GK.nmk_str, GK.nmk_kT, GK.nmk_kv, GK.nmk_none, GK.keyOk_tup, GK.exS_ndn, GK.inK_tup, GK.inN_mk, GK.ixD_dictT, GK.getN_mk, GK.optD_some, GK.setSN_eq, GK.setN_mk, GK.b1D_tupN, GK.b1D_lenK, GK.b1D_lenD, GK.evE_lns, GK.evE_pk2, GK.exS_fst, Bool.false_and, Bool.and_false, GK.binI_add_nat, GK.binI_shr_nat, GK.binI_and1_nat, GK.deq_nat, GK.cmpop_lt_nat, GK.cmpop_le_nat, GK.cmpop_gt_nat, GK.cmpop_ge_nat, GK.binI_or_nat, GK.binI_xor_nat, GK.mmD_maxN, GK.mmD_minN, GK.inD_nats, GK.inF_nats, GK.intsD_nats, GK.sum_cast]
          exact ih)
        have lx : GK.lcXv (run (m + k + 1)) (runI (m + k + 1)) (GK.ppOf TX) "laid" (.cons (.var 4) (.cons (.var 1) (.cons (.var 2) .nil))) 2 4 (.seq (.ix (.var 0) (.int 1))) [some ⟨.f, .tuple [gD n b, .tuple ts]⟩, some (fI (i : Nat)), some ⟨.o, .list st⟩, none, none] st = .ok (layL (layF i k) ts st) := by
          unfold GK.lcXv
          simp only [GK.ok_bind, GK.pure_M, GK.bind_assoc', GK.vm_f, GK.vm_o, GK.vm_p, GK.vm_vm, GK.rdV_mk, GK.rdV_fI, GK.rdV_fB, GK.evE_var, GK.evE_int, GK.evE_bl, GK.evE_non, GK.evE_str, GK.evE_bin, GK.evE_neg, GK.evE_inv, GK.evE_cmp, GK.ifM_t, GK.ifM_f, GK.evE_chn, GK.evE_isN, GK.evE_notN, GK.evE_and, GK.evE_or, GK.evE_not, GK.evE_ife, GK.evE_tup, GK.evE_lst, GK.evE_ix, GK.evE_sl, GK.evE_call, GK.evE_b1, GK.evE_isi, GK.evE_lc, GK.evE_lrg, GK.evF_nil, GK.evF_cons, GK.evA_nil, GK.evA_cons, GK.getI_int, GK.evO_none, GK.evO_some, GK.evC_none, GK.evC_some, GK.evI_rg1, GK.evI_rg2, GK.evI_seq, GK.seqF_nx, GK.seqF_rt, GK.seqF_bk, GK.seqF_ct, GK.exSs_nil, GK.exSs_cons, GK.exSs_frz, GK.exS_asg, GK.exS_setix, GK.exS_app, GK.exS_ext, GK.exS_exp, GK.exS_ret, GK.exS_retN, GK.exS_ite, GK.exS_for, GK.exS_whl, GK.exS_brk, GK.exS_cont, GK.exS_pass, GK.fin_rt, GK.fin_nx, GK.bindT_nm, GK.bindT_nmo, GK.bindT_nI, GK.bindT_nB, GK.bindT_tp2, GK.bindT_tp3, GK.bindT_tl5, GK.fI_d, GK.fB_d, GK.fI_m, GK.fB_m, GK.asF_f, GK.asF_o, GK.asF_fI, GK.asF_fB, GK.asB_b, GK.argS_f, GK.argS_o, GK.argS_p, GK.argS_v, GK.argS_fI, GK.argS_fB, GK.retS_f, GK.retS_o, GK.retS_fI, GK.retS_fB, GK.retP_o, GK.retS_p, GK.ownG_o, GK.ownL_eq, GK.frzG_o, GK.frzG_f, GK.frzG_fI, GK.frzG_fB, GK.frzR_eq, GK.extG_list, GK.isF_f, GK.isF_o, GK.isF_p, GK.binop_int, GK.binop_cat, GK.binop_rep, GK.ckI_t, GK.ckO_t, GK.unop_neg, GK.unop_inv, GK.cmpop_eq, GK.cmpop_ne, GK.optS_some, GK.ixD_list, GK.ixD_tup, GK.slD_list, GK.b1D_len, GK.b1D_lenT, GK.b1D_list, GK.b1D_listT, GK.b1D_tup, GK.b1D_tupT, GK.b1D_int, GK.b1D_intN, GK.b1D_sum, GK.sumS_some, GK.allS_some, GK.b1D_all, GK.b1D_any, GK.itemsD_list, GK.itemsD_tup, GK.ix_t0, GK.ix_t1, GK.ix_t2, GK.nD_def, GK.fI_eq', GK.fB_eq', GK.deq_pair, GK.natDec, GK.decide_self, GK.notP_rg1, GK.notP_rg2, GK.notPs_f, GK.notPs_o, GK.notP_seq, GK.esLen, Nat.reduceLeDiff, decide_true, decide_false, List.getElem?_cons_zero, List.getElem?_cons_succ, List.set_cons_zero, List.set_cons_succ, List.length_cons, List.length_nil, List.map_cons, List.map_nil, List.replicate_succ, List.replicate_zero, List.append_nil, List.nil_append, List.cons_append, Nat.reduceAdd, Nat.reduceSub, GK.startR, GK.tgIn, GK.isRg, List.contains_cons, List.all_cons, List.all_nil, Bool.and_true, Bool.true_and, Bool.not_true, Bool.not_false, beq_self_eq_true, Bool.or_true, Bool.true_or, Bool.or_false, Bool.false_or, Nat.not_lt_zero, GK.wipeR, GK.isNone, GK.isiD, GK.evE_glb, GK.evE_sst, GK.evE_gk, GK.evE_gdx, GK.evE_dsp, GK.evP_nil, GK.evP_cons, GK.evE_mm, GK.evE_rvl, GK.evI_rg3, GK.evI_enm, GK.evI_rev, GK.evI_zp, GK.evI_rvr, GK.notP_rg3, GK.notP_rvr, GK.notP_enm, GK.notP_rev, GK.notP_zp, GK.ckTu_t, GK.binop_catT, GK.slD_tup, GK.rvD_list, GK.cmpop_is, GK.cmpop_isnot, GK.negM_ok', GK.cmpop_in, GK.cmpop_notin, GK.cmpop_inT, GK.cmpop_notinT, GK.beq_t, GK.beq_f, GK.evE_dnw, GK.evE_dsp1, GK.setO_eq, GK.setS_list, GK.setS_dict, GK.keyOk_int, GK.keyOk_str, GK.ixD_dictI, GK.ixD_dictS, GK.cmpop_inK, GK.cmpop_notinK, GK.inK_int, GK.inK_str, GK.look_kT, GK.put_kT, GK.deq_bool, GK.lentE_var, GK.lentE_call, GK.lentE_lst, GK.lentE_tup, GK.lentE_ix, GK.lentE_sl, GK.lentE_bin, GK.lentE_b1, GK.lentE_lc, GK.lentE_lrg, GK.lentE_rvl, GK.lentE_sst, GK.lentE_gk, GK.lentE_gdx, GK.lentE_dsp, GK.lentO_p, GK.lentO_f, GK.lentO_o, GK.frzB_t, GK.frzB_f, GK.nmkD_list, GK.nmkD_tuple, GK.nmkD_int, GK.nmkD_bool, GK.nmkD_dict, GK.nmk_nil, GK.nmk_int, GK.nmk_str, GK.nmk_kT, GK.nmk_kv, GK.nmk_none, GK.keyOk_tup, GK.exS_ndn, GK.inK_tup, GK.inN_mk, GK.ixD_dictT, GK.getN_mk, GK.optD_some, GK.setSN_eq, GK.setN_mk, GK.b1D_tupN, GK.b1D_lenK, GK.b1D_lenD, GK.evE_lns, GK.evE_pk2, GK.exS_fst, Bool.false_and, Bool.and_false, GK.binI_add_nat, GK.binI_shr_nat, GK.binI_and1_nat, GK.deq_nat, GK.cmpop_lt_nat, GK.cmpop_le_nat, GK.cmpop_gt_nat, GK.cmpop_ge_nat, GK.binI_or_nat, GK.binI_xor_nat, GK.mmD_maxN, GK.mmD_minN, GK.inD_nats, GK.inF_nats, GK.intsD_nats, GK.sum_cast]
          rw [if_pos ⟨by decide, rfl, GK.lenOk_of (by omega)⟩]
          exact g
        have en : i + ((layL (layF i k) ts st).2.length + 1) - 1 = i + (layL (layF i k) ts st).2.length := by omega
        simp only [gD, GK.nD_def] at lx
        simp only [x_laid, gD, GK.exX, GK.frzV, GK.ok_bind, GK.pure_M, GK.bind_assoc', GK.vm_f, GK.vm_o, GK.vm_p, GK.vm_vm, GK.rdV_mk, GK.rdV_fI, GK.rdV_fB, GK.evE_var, GK.evE_int, GK.evE_bl, GK.evE_non, GK.evE_str, GK.evE_bin, GK.evE_neg, GK.evE_inv, GK.evE_cmp, GK.ifM_t, GK.ifM_f, GK.evE_chn, GK.evE_isN, GK.evE_notN, GK.evE_and, GK.evE_or, GK.evE_not, GK.evE_ife, GK.evE_tup, GK.evE_lst, GK.evE_ix, GK.evE_sl, GK.evE_call, GK.evE_b1, GK.evE_isi, GK.evE_lc, GK.evE_lrg, GK.evF_nil, GK.evF_cons, GK.evA_nil, GK.evA_cons, GK.getI_int, GK.evO_none, GK.evO_some, GK.evC_none, GK.evC_some, GK.evI_rg1, GK.evI_rg2, GK.evI_seq, GK.seqF_nx, GK.seqF_rt, GK.seqF_bk, GK.seqF_ct, GK.exSs_nil, GK.exSs_cons, GK.exSs_frz, GK.exS_asg, GK.exS_setix, GK.exS_app, GK.exS_ext, GK.exS_exp, GK.exS_ret, GK.exS_retN, GK.exS_ite, GK.exS_for, GK.exS_whl, GK.exS_brk, GK.exS_cont, GK.exS_pass, GK.fin_rt, GK.fin_nx, GK.bindT_nm, GK.bindT_nmo, GK.bindT_nI, GK.bindT_nB, GK.bindT_tp2, GK.bindT_tp3, GK.bindT_tl5, GK.fI_d, GK.fB_d, GK.fI_m, GK.fB_m, GK.asF_f, GK.asF_o, GK.asF_fI, GK.asF_fB, GK.asB_b, GK.argS_f, GK.argS_o, GK.argS_p, GK.argS_v, GK.argS_fI, GK.argS_fB, GK.retS_f, GK.retS_o, GK.retS_fI, GK.retS_fB, GK.retP_o, GK.retS_p, GK.ownG_o, GK.ownL_eq, GK.frzG_o, GK.frzG_f, GK.frzG_fI, GK.frzG_fB, GK.frzR_eq, GK.extG_list, GK.isF_f, GK.isF_o, GK.isF_p, GK.binop_int, GK.binop_cat, GK.binop_rep, GK.ckI_t, GK.ckO_t, GK.unop_neg, GK.unop_inv, GK.cmpop_eq, GK.cmpop_ne, GK.optS_some, GK.ixD_list, GK.ixD_tup, GK.slD_list, GK.b1D_len, GK.b1D_lenT, GK.b1D_list, GK.b1D_listT, GK.b1D_tup, GK.b1D_tupT, GK.b1D_int, GK.b1D_intN, GK.b1D_sum, GK.sumS_some, GK.allS_some, GK.b1D_all, GK.b1D_any, GK.itemsD_list, GK.itemsD_tup, GK.ix_t0, GK.ix_t1, GK.ix_t2, GK.nD_def, GK.fI_eq', GK.fB_eq', GK.deq_pair, GK.natDec, GK.decide_self, GK.notP_rg1, GK.notP_rg2, GK.notPs_f, GK.notPs_o, GK.notP_seq, GK.esLen, Nat.reduceLeDiff, decide_true, decide_false, List.getElem?_cons_zero, List.getElem?_cons_succ, List.set_cons_zero, List.set_cons_succ, List.length_cons, List.length_nil, List.map_cons, List.map_nil, List.replicate_succ, List.replicate_zero, List.append_nil, List.nil_append, List.cons_append, Nat.reduceAdd, Nat.reduceSub, GK.startR, GK.tgIn, GK.isRg, List.contains_cons, List.all_cons, List.all_nil, Bool.and_true, Bool.true_and, Bool.not_true, Bool.not_false, beq_self_eq_true, Bool.or_true, Bool.true_or, Bool.or_false, Bool.false_or, Nat.not_lt_zero, GK.wipeR, GK.isNone, GK.isiD, GK.evE_glb, GK.evE_sst, GK.evE_gk, GK.evE_gdx, GK.evE_dsp, GK.evP_nil, GK.evP_cons, GK.evE_mm, GK.evE_rvl, GK.evI_rg3, GK.evI_enm, GK.evI_rev, GK.evI_zp, GK.evI_rvr, GK.notP_rg3, GK.notP_rvr, GK.notP_enm, GK.notP_rev, GK.notP_zp, GK.ckTu_t, GK.binop_catT, GK.slD_tup, GK.rvD_list, GK.cmpop_is, GK.cmpop_isnot, GK.negM_ok', GK.cmpop_in, GK.cmpop_notin, GK.cmpop_inT, GK.cmpop_notinT, GK.beq_t, GK.beq_f, GK.evE_dnw, GK.evE_dsp1, GK.setO_eq, GK.setS_list, GK.setS_dict, GK.keyOk_int, GK.keyOk_str, GK.ixD_dictI, GK.ixD_dictS, GK.cmpop_inK, GK.cmpop_notinK, GK.inK_int, GK.inK_str, GK.look_kT, GK.put_kT, GK.deq_bool, GK.lentE_var, GK.lentE_call, GK.lentE_lst, GK.lentE_tup, GK.lentE_ix, GK.lentE_sl, GK.lentE_bin, GK.lentE_b1, GK.lentE_lc, GK.lentE_lrg, GK.lentE_rvl, GK.lentE_sst, GK.lentE_gk, GK.lentE_gdx, GK.lentE_dsp, GK.lentO_p, GK.lentO_f, GK.lentO_o, GK.frzB_t, GK.frzB_f, GK.nmkD_list, GK.nmkD_tuple, GK.nmkD_int, GK.nmkD_bool, GK.nmkD_dict, GK.nmk_nil, GK.nmk_int, GK.nmk_str, GK.nmk_kT, GK.nmk_kv, GK.nmk_none, GK.keyOk_tup, GK.exS_ndn, GK.inK_tup, GK.inN_mk, GK.ixD_dictT, GK.getN_mk, GK.optD_some, GK.setSN_eq, GK.setN_mk, GK.b1D_tupN, GK.b1D_lenK, GK.b1D_lenD, GK.evE_lns, GK.evE_pk2, GK.exS_fst, Bool.false_and, Bool.and_false, GK.binI_add_nat, GK.binI_shr_nat, GK.binI_and1_nat, GK.deq_nat, GK.cmpop_lt_nat, GK.cmpop_le_nat, GK.cmpop_gt_nat, GK.cmpop_ge_nat, GK.binI_or_nat, GK.binI_xor_nat, GK.mmD_maxN, GK.mmD_minN, GK.inD_nats, GK.inF_nats, GK.intsD_nats, GK.sum_cast, GK.isiD, Bool.false_eq_true, if_false, lx, if_pos (show (3 : Nat) ≠ 2 by decide), GK.lenOk_of (show (layL (layF i k) ts st).2.length + 1 ≤ 16777216 by omega), if_true, List.length_append, GK.binI_sub_nat (show 1 ≤ i + ((layL (layF i k) ts st).2.length + 1) by omega), en]
        rfl

/-! the layout as steps, and what steps come to -/
def lyL (f : D → List Stp → Nat × List Stp) : List D → List Stp → List Nat × List Stp
  | [], st => ([], st)
  | t :: ts, st => ((f t st).1 :: (lyL f ts (f t st).2).1, (lyL f ts (f t st).2).2)
def lyF (i : Nat) : Nat → D → List Stp → Nat × List Stp
  | k + 1, .tuple [.tuple [.int n, .int b], .tuple ts], st => (i + (lyL (lyF i k) ts st).2.length, (lyL (lyF i k) ts st).2 ++ [⟨n.toNat, b.toNat, (lyL (lyF i k) ts st).1⟩])
  | _, .int w, st => (w.toNat, st)
  | _, _, st => (0, st)
theorem lyF_leaf (i k w : Nat) (st : List Stp) : lyF i k (nD w) st = (w, st) := by cases k <;> rfl
theorem lyF_node (i k n b : Nat) (ts : List D) (st : List Stp) : lyF i (k + 1) (.tuple [gD n b, .tuple ts]) st = (i + (lyL (lyF i k) ts st).2.length, (lyL (lyF i k) ts st).2 ++ [⟨n, b, (lyL (lyF i k) ts st).1⟩]) := rfl
theorem layF_node (i k n b : Nat) (ts : List D) (st : List D) : layF i (k + 1) (.tuple [gD n b, .tuple ts]) st = (nD (i + (layL (layF i k) ts st).2.length), (layL (layF i k) ts st).2 ++ [.tuple [gD n b, .tuple (layL (layF i k) ts st).1]]) := rfl
theorem ly_eqL {f : D → List D → D × List D} {g : D → List Stp → Nat × List Stp} : ∀ (ts : List D) (ss : List Stp), (∀ t ∈ ts, ∀ ss, f t (ss.map stD) = (nD (g t ss).1, (g t ss).2.map stD)) → layL f ts (ss.map stD) = ((lyL g ts ss).1.map nD, (lyL g ts ss).2.map stD)
  | [], ss, _ => rfl
  | t :: ts, ss, h => by
    have h1 := h t List.mem_cons_self ss
    have h2 := ly_eqL ts (g t ss).2 fun t' ht' => h t' (List.mem_cons_of_mem _ ht')
    show ((f t (ss.map stD)).1 :: (layL f ts (f t (ss.map stD)).2).1, (layL f ts (f t (ss.map stD)).2).2) = _
    rw [h1, h2]
    rfl
theorem ly_eq (i : Nat) : ∀ (k : Nat) (d : D) (ss : List Stp), TrOk i k d → layF i k d (ss.map stD) = (nD (lyF i k d ss).1, (lyF i k d ss).2.map stD)
  | 0, d, ss, ⟨w, _, e⟩ => by rw [e, layF_leaf, lyF_leaf]
  | k + 1, d, ss, h => by
    rcases h with ⟨w, _, e⟩ | ⟨n, b, ts, h1, _, h2, h3, e⟩
    · rw [e, layF_leaf, lyF_leaf]
    · rw [e, layF_node, lyF_node, ly_eqL (g := lyF i k) ts ss fun t ht ss => ly_eq i k t ss (h3 t ht), List.length_map, List.map_append]
      rfl
def gev {α : Type} (comb : Nat → Nat → List α → α) (z : α) (acc : List α) (ss : List Stp) : List α := ss.foldl (fun acc s => acc ++ [comb s.n s.b (s.ws.map fun w => acc.getD w z)]) acc
def tev {α : Type} (comb : Nat → Nat → List α → α) (z : α) (base : List α) : Nat → D → α
  | k + 1, .tuple [.tuple [.int n, .int b], .tuple ts] => comb n.toNat b.toNat (ts.map (tev comb z base k))
  | _, .int w => base.getD w.toNat z
  | _, _ => z
section
variable {α : Type} {comb : Nat → Nat → List α → α} {z : α}
theorem tev_leaf (base : List α) (k w : Nat) : tev comb z base k (nD w) = base.getD w z := by cases k <;> rfl
theorem tev_node (base : List α) (k n b : Nat) (ts : List D) : tev comb z base (k + 1) (.tuple [gD n b, .tuple ts]) = comb n b (ts.map (tev comb z base k)) := rfl
theorem gev_snoc (acc : List α) (ss : List Stp) (s : Stp) : gev comb z acc (ss ++ [s]) = gev comb z acc ss ++ [comb s.n s.b (s.ws.map fun w => (gev comb z acc ss).getD w z)] := by
  unfold gev
  rw [List.foldl_append]
  rfl
theorem gev_append (acc : List α) (ss tt : List Stp) : gev comb z acc (ss ++ tt) = gev comb z (gev comb z acc ss) tt := by
  unfold gev
  rw [List.foldl_append]
theorem gev_len : ∀ (ss : List Stp) (acc : List α), (gev comb z acc ss).length = acc.length + ss.length
  | [], acc => rfl
  | s :: ss, acc => by
    show (gev comb z (acc ++ [_]) ss).length = _
    rw [gev_len ss, List.length_append, List.length_cons, List.length_cons, List.length_nil]
    omega
theorem gev_pre : ∀ (ss : List Stp) (acc : List α), acc <+: gev comb z acc ss
  | [], acc => List.prefix_refl _
  | s :: ss, acc => (List.prefix_append _ _).trans (gev_pre ss (acc ++ [_]))
theorem pre_at {R R' : List α} (h : R <+: R') {w : Nat} (hw : w < R.length) : R'.getD w z = R.getD w z := by
  obtain ⟨t, rfl⟩ := h
  rw [List.getD_eq_getElem?_getD, List.getD_eq_getElem?_getD, List.getElem?_append_left hw]
theorem gev_sub {ss tt : List Stp} (h : ss <+: tt) (acc : List α) : gev comb z acc ss <+: gev comb z acc tt := by
  obtain ⟨t, rfl⟩ := h
  rw [gev_append]
  exact gev_pre _ _
end
/-- what a layout keeps to -/
structure LyOk (i : Nat) (ss ss' : List Stp) (w : Nat) : Prop where
  pre : ss <+: ss'
  lt : w < i + ss'.length
  st : (∀ k s, ss[k]? = some s → StepOk i k s) → ∀ k s, ss'[k]? = some s → StepOk i k s
structure LyOkL (i : Nat) (ss ss' : List Stp) (ws : List Nat) : Prop where
  pre : ss <+: ss'
  lt : ∀ w ∈ ws, w < i + ss'.length
  st : (∀ k s, ss[k]? = some s → StepOk i k s) → ∀ k s, ss'[k]? = some s → StepOk i k s
theorem pre_len {α : Type} {a b : List α} (h : a <+: b) : a.length ≤ b.length := h.length_le
theorem lyL_ok {i : Nat} {f : D → List Stp → Nat × List Stp} {c : D → Nat} : ∀ (ts : List D) (ss : List Stp), (∀ t ∈ ts, ∀ ss, LyOk i ss (f t ss).2 (f t ss).1 ∧ (f t ss).2.length = ss.length + c t) →
    LyOkL i ss (lyL f ts ss).2 (lyL f ts ss).1 ∧ (lyL f ts ss).1.length = ts.length ∧ (lyL f ts ss).2.length = ss.length + (ts.map c).sum
  | [], ss, _ => ⟨⟨List.prefix_refl _, fun w hw => by simp [lyL] at hw, fun h => h⟩, rfl, by simp [lyL]⟩
  | t :: ts, ss, h => by
    obtain ⟨h1, hl⟩ := h t List.mem_cons_self ss
    obtain ⟨h2, h3, h4⟩ := lyL_ok ts (f t ss).2 fun t' ht' => h t' (List.mem_cons_of_mem _ ht')
    refine ⟨⟨h1.pre.trans h2.pre, fun w hw => ?_, fun hs => h2.st (h1.st hs)⟩, by show ((f t ss).1 :: (lyL f ts (f t ss).2).1).length = _; rw [List.length_cons, List.length_cons, h3], ?_⟩
    · rcases List.mem_cons.mp hw with rfl | hw
      · have := pre_len h2.pre
        have := h1.lt
        show (f t ss).1 < i + (lyL f ts (f t ss).2).2.length
        omega
      · exact h2.lt w hw
    · show (lyL f ts (f t ss).2).2.length = _
      rw [h4, hl, List.map_cons, List.sum_cons]
      omega
theorem ly_ok (i : Nat) : ∀ (k : Nat) (d : D) (ss : List Stp), TrOk i k d → LyOk i ss (lyF i k d ss).2 (lyF i k d ss).1 ∧ (lyF i k d ss).2.length = ss.length + szF k d
  | k, d, ss, h => by
    have leaf : ∀ w, w < i → d = nD w → LyOk i ss (lyF i k d ss).2 (lyF i k d ss).1 ∧ (lyF i k d ss).2.length = ss.length + szF k d := fun w hw e => by
      rw [e, lyF_leaf, szF_leaf]
      exact ⟨⟨List.prefix_refl _, by show w < _; omega, fun h => h⟩, rfl⟩
    match k, h with
    | 0, ⟨w, hw, e⟩ => exact leaf w hw e
    | k + 1, h =>
      rcases h with ⟨w, hw, e⟩ | ⟨n, b, ts, h1, hb, h2, h3, e⟩
      · exact leaf w hw e
      · obtain ⟨q1, q2, q3⟩ := lyL_ok (i := i) (f := lyF i k) (c := szF k) ts ss fun t ht ss => ly_ok i k t ss (h3 t ht)
        rw [e, lyF_node, szF_node]
        generalize (lyL (lyF i k) ts ss) = r at *
        refine ⟨⟨q1.pre.trans (List.prefix_append _ _), by show i + r.2.length < i + (r.2 ++ [_]).length; rw [List.length_append, List.length_cons]; omega, fun hs k' s' h' => ?_⟩, by show (r.2 ++ [_]).length = _; rw [List.length_append, q3, List.length_cons, List.length_nil]; omega⟩
        rcases snoc_at h' with ⟨_, q⟩ | ⟨q, rfl⟩
        · exact q1.st hs _ _ q
        · subst q
          exact ⟨h1, hb, by show r.1.length = n; rw [q2, h2], q1.lt⟩
section
variable {α : Type} {comb : Nat → Nat → List α → α} {z : α}
theorem lyL_ev {i : Nat} {f : D → List Stp → Nat × List Stp} {e : D → α} {base : List α} (hb : base.length = i) : ∀ (ts : List D) (ss : List Stp), (∀ t ∈ ts, ∀ ss, LyOk i ss (f t ss).2 (f t ss).1 ∧ (gev comb z base (f t ss).2).getD (f t ss).1 z = e t) →
    ss <+: (lyL f ts ss).2 ∧ (lyL f ts ss).1.map (fun w => (gev comb z base (lyL f ts ss).2).getD w z) = ts.map e
  | [], ss, _ => ⟨List.prefix_refl _, rfl⟩
  | t :: ts, ss, h => by
    obtain ⟨h1, h2⟩ := h t List.mem_cons_self ss
    obtain ⟨h3, h4⟩ := lyL_ev hb ts (f t ss).2 fun t' ht' => h t' (List.mem_cons_of_mem _ ht')
    refine ⟨h1.pre.trans h3, ?_⟩
    show (gev comb z base (lyL f ts (f t ss).2).2).getD (f t ss).1 z :: (lyL f ts (f t ss).2).1.map _ = e t :: ts.map e
    have e1 : (gev comb z base (lyL f ts (f t ss).2).2).getD (f t ss).1 z = e t := by
      rw [← h2]
      exact pre_at (gev_sub h3 base) (by rw [gev_len, hb]; exact h1.lt)
    rw [e1]
    congr 1
theorem ly_ev {i : Nat} {base : List α} (hb : base.length = i) : ∀ (k : Nat) (d : D) (ss : List Stp), TrOk i k d → (gev comb z base (lyF i k d ss).2).getD (lyF i k d ss).1 z = tev comb z base k d
  | k, d, ss, h => by
    have leaf : ∀ w, w < i → d = nD w → (gev comb z base (lyF i k d ss).2).getD (lyF i k d ss).1 z = tev comb z base k d := fun w hw e => by
      rw [e, lyF_leaf, tev_leaf]
      exact pre_at (gev_pre ss base) (by rw [hb]; exact hw)
    match k, h with
    | 0, ⟨w, hw, e⟩ => exact leaf w hw e
    | k + 1, h =>
      rcases h with ⟨w, hw, e⟩ | ⟨n, b, ts, h1, _, h2, h3, e⟩
      · exact leaf w hw e
      · obtain ⟨q1, q2⟩ := lyL_ev (comb := comb) (z := z) hb (f := lyF i k) (e := tev comb z base k) ts ss fun t ht ss => ⟨(ly_ok i k t ss (h3 t ht)).1, ly_ev hb k t ss (h3 t ht)⟩
        rw [e, lyF_node, tev_node]
        show (gev comb z base ((lyL (lyF i k) ts ss).2 ++ [_])).getD (i + (lyL (lyF i k) ts ss).2.length) z = _
        rw [gev_snoc, List.getD_eq_getElem?_getD, List.getElem?_append_right (by rw [gev_len, hb]; exact Nat.le_refl _), gev_len, hb, Nat.sub_self, q2]
        rfl
end
/-! values, sizes, trees -/
def vF (row : Nat) : Nat → D → Nat
  | k + 1, .tuple [.tuple [.int _, .int b], .tuple ts] => valN b.toNat (ts.map (vF row k))
  | _, .int w => bitN row w.toNat
  | _, _ => 0
theorem vF_leaf (row k w : Nat) : vF row k (nD w) = bitN row w := by cases k <;> rfl
theorem vF_node (row k n b : Nat) (ts : List D) : vF row (k + 1) (.tuple [gD n b, .tuple ts]) = valN b (ts.map (vF row k)) := rfl
theorem vF_lt (row : Nat) : ∀ (k : Nat) (i : Nat) (d : D), TrOk i k d → vF row k d < 2
  | 0, i, d, ⟨w, _, e⟩ => by rw [e, vF_leaf]; exact bitN_lt _ _
  | k + 1, i, d, h => by
    rcases h with ⟨w, _, e⟩ | ⟨n, b, ts, _, _, _, _, e⟩
    · rw [e, vF_leaf]; exact bitN_lt _ _
    · rw [e, vF_node]; exact bitN_lt _ _
theorem base_at {α : Type} (f : Nat → α) (z : α) {i w : Nat} (h : w < i) : ((List.range i).map f).getD w z = f w := by
  rw [List.getD_eq_getElem?_getD, List.getElem?_map, List.getElem?_range h]
  rfl
theorem tev_v (i row : Nat) : ∀ (k : Nat) (d : D), TrOk i k d → tev (fun _ b vs => valN b vs) 0 ((List.range i).map (bitN row)) k d = vF row k d
  | 0, d, ⟨w, hw, e⟩ => by rw [e, tev_leaf, vF_leaf, base_at _ _ hw]
  | k + 1, d, h => by
    rcases h with ⟨w, hw, e⟩ | ⟨n, b, ts, _, _, _, h3, e⟩
    · rw [e, tev_leaf, vF_leaf, base_at _ _ hw]
    · rw [e, tev_node, vF_node]
      congr 1
      exact List.map_congr_left fun t ht => tev_v i row k t (h3 t ht)
theorem tev_z (i : Nat) : ∀ (k : Nat) (d : D), TrOk i k d → tev (fun _ _ vs => 1 + vs.sum) 0 ((List.range i).map fun _ => 0) k d = szF k d
  | 0, d, ⟨w, hw, e⟩ => by rw [e, tev_leaf, szF_leaf, base_at _ _ hw]
  | k + 1, d, h => by
    rcases h with ⟨w, hw, e⟩ | ⟨n, b, ts, _, _, _, h3, e⟩
    · rw [e, tev_leaf, szF_leaf, base_at _ _ hw]
    · rw [e, tev_node, szF_node]
      show 1 + List.sum _ = _
      congr 2
      exact List.map_congr_left fun t ht => tev_z i k t (h3 t ht)
theorem tev_t (i : Nat) : ∀ (k : Nat) (d : D), TrOk i k d → tev (fun n b vs => PyData.tuple [gD n b, .tuple vs]) .none ((List.range i).map nD) k d = d
  | 0, d, ⟨w, hw, e⟩ => by rw [e, tev_leaf, base_at _ _ hw]
  | k + 1, d, h => by
    rcases h with ⟨w, hw, e⟩ | ⟨n, b, ts, _, _, _, h3, e⟩
    · rw [e, tev_leaf, base_at _ _ hw]
    · have : ts.map (tev (fun n b vs => PyData.tuple [gD n b, .tuple vs]) .none ((List.range i).map nD) k) = ts := by
        conv => rhs; rw [← List.map_id' ts]
        exact List.map_congr_left fun t ht => tev_t i k t (h3 t ht)
      rw [e, tev_node, this]
theorem tr_lay (i : Nat) : ∀ (k : Nat) (d : D), TrOk i k d → GK.Lay (2 * k + 1) d
  | k, d, h => by
    have leaf : ∀ w, d = nD w → GK.Lay (2 * k + 1) d := fun w e => by rw [e]; exact GK.lay_nD _ _
    match k, h with
    | 0, ⟨w, hw, e⟩ => exact leaf w e
    | k + 1, h =>
      rcases h with ⟨w, hw, e⟩ | ⟨n, b, ts, _, _, _, h3, e⟩
      · exact leaf w e
      · rw [e, show 2 * (k + 1) + 1 = (2 * k + 1 + 1) + 1 by omega]
        exact GK.lay_tup (GK.lay_cons (GK.lay_mono (GK.lay_tup (k := 0) (GK.lay_cons (GK.lay_nD _ _) (GK.lay_cons (GK.lay_nD _ _) (GK.lay_nil _)))) (by omega)) (GK.lay_cons (GK.lay_tup fun t ht => tr_lay i k t (h3 t ht)) (GK.lay_nil _)))
/-! tree_circuit -/
theorem tree_circuit_run (i m k : Nat) (d : D) (h : TrOk i k d) (hb : 5 ^ k ≤ 16000000) : run (m + k + 2) "tree_circuit" [⟨.f, d⟩, fI (i : Nat)] = .ok ⟨.f, circD i (lyF i k d []).2 (lyF i k d []).1⟩ := by
  have lr := laid_run i k d [] m .p h (by rw [List.length_nil]; omega)
  have ly := ly_eq i k d [] h
  rw [List.map_nil] at ly
  have hl := (ly_ok i k d [] h).2
  rw [show m + k + 2 = (m + k + 1) + 1 by omega, run_tree_circuit]
  unfold GK.runK
  rw [if_pos (show ([⟨.f, d⟩, fI (i : Nat)] : List Sl).length = fy_circuit.ps.length from rfl)]
  have e1 : GK.exSs (run (m + k + 1)) fu y_tree_circuit.pre [some ⟨.f, d⟩, some (fI (i : Nat)), none, none] = .ok (.nx [some ⟨.f, d⟩, some (fI (i : Nat)), some ⟨.o, .list []⟩, none]) := by
    simp only [y_tree_circuit, GK.ok_bind, GK.pure_M, GK.bind_assoc', GK.vm_f, GK.vm_o, GK.vm_p, GK.vm_vm, GK.rdV_mk, GK.rdV_fI, GK.rdV_fB, GK.evE_var, GK.evE_int, GK.evE_bl, GK.evE_non, GK.evE_str, GK.evE_bin, GK.evE_neg, GK.evE_inv, GK.evE_cmp, GK.ifM_t, GK.ifM_f, GK.evE_chn, GK.evE_isN, GK.evE_notN, GK.evE_and, GK.evE_or, GK.evE_not, GK.evE_ife, GK.evE_tup, GK.evE_lst, GK.evE_ix, GK.evE_sl, GK.evE_call, GK.evE_b1, GK.evE_isi, GK.evE_lc, GK.evE_lrg, GK.evF_nil, GK.evF_cons, GK.evA_nil, GK.evA_cons, GK.getI_int, GK.evO_none, GK.evO_some, GK.evC_none, GK.evC_some, GK.evI_rg1, GK.evI_rg2, GK.evI_seq, GK.seqF_nx, GK.seqF_rt, GK.seqF_bk, GK.seqF_ct, GK.exSs_nil, GK.exSs_cons, GK.exSs_frz, GK.exS_asg, GK.exS_setix, GK.exS_app, GK.exS_ext, GK.exS_exp, GK.exS_ret, GK.exS_retN, GK.exS_ite, GK.exS_for, GK.exS_whl, GK.exS_brk, GK.exS_cont, GK.exS_pass, GK.fin_rt, GK.fin_nx, GK.bindT_nm, GK.bindT_nmo, GK.bindT_nI, GK.bindT_nB, GK.bindT_tp2, GK.bindT_tp3, GK.bindT_tl5, GK.fI_d, GK.fB_d, GK.fI_m, GK.fB_m, GK.asF_f, GK.asF_o, GK.asF_fI, GK.asF_fB, GK.asB_b, GK.argS_f, GK.argS_o, GK.argS_p, GK.argS_v, GK.argS_fI, GK.argS_fB, GK.retS_f, GK.retS_o, GK.retS_fI, GK.retS_fB, GK.retP_o, GK.retS_p, GK.ownG_o, GK.ownL_eq, GK.frzG_o, GK.frzG_f, GK.frzG_fI, GK.frzG_fB, GK.frzR_eq, GK.extG_list, GK.isF_f, GK.isF_o, GK.isF_p, GK.binop_int, GK.binop_cat, GK.binop_rep, GK.ckI_t, GK.ckO_t, GK.unop_neg, GK.unop_inv, GK.cmpop_eq, GK.cmpop_ne, GK.optS_some, GK.ixD_list, GK.ixD_tup, GK.slD_list, GK.b1D_len, GK.b1D_lenT, GK.b1D_list, GK.b1D_listT, GK.b1D_tup, GK.b1D_tupT, GK.b1D_int, GK.b1D_intN, GK.b1D_sum, GK.sumS_some, GK.allS_some, GK.b1D_all, GK.b1D_any, GK.itemsD_list, GK.itemsD_tup, GK.ix_t0, GK.ix_t1, GK.ix_t2, GK.nD_def, GK.fI_eq', GK.fB_eq', GK.deq_pair, GK.natDec, GK.decide_self, GK.notP_rg1, GK.notP_rg2, GK.notPs_f, GK.notPs_o, GK.notP_seq, GK.esLen, Nat.reduceLeDiff, decide_true, decide_false, List.getElem?_cons_zero, List.getElem?_cons_succ, List.set_cons_zero, List.set_cons_succ, List.length_cons, List.length_nil, List.map_cons, List.map_nil, List.replicate_succ, List.replicate_zero, List.append_nil, List.nil_append, List.cons_append, Nat.reduceAdd, Nat.reduceSub, GK.startR, GK.tgIn, GK.isRg, List.contains_cons, List.all_cons, List.all_nil, Bool.and_true, Bool.true_and, Bool.not_true, Bool.not_false, beq_self_eq_true, Bool.or_true, Bool.true_or, Bool.or_false, Bool.false_or, Nat.not_lt_zero, GK.wipeR, GK.isNone, GK.isiD, GK.evE_glb, GK.evE_sst, GK.evE_gk, GK.evE_gdx, GK.evE_dsp, GK.evP_nil, GK.evP_cons, GK.evE_mm, GK.evE_rvl, GK.evI_rg3, GK.evI_enm, GK.evI_rev, GK.evI_zp, GK.evI_rvr, GK.notP_rg3, GK.notP_rvr, GK.notP_enm, GK.notP_rev, GK.notP_zp, GK.ckTu_t, GK.binop_catT, GK.slD_tup, GK.rvD_list, GK.cmpop_is, GK.cmpop_isnot, GK.negM_ok', GK.cmpop_in, GK.cmpop_notin, GK.cmpop_inT, GK.cmpop_notinT, GK.beq_t, GK.beq_f, GK.evE_dnw, GK.evE_dsp1, GK.setO_eq, GK.setS_list, GK.setS_dict, GK.keyOk_int, GK.keyOk_str, GK.ixD_dictI, GK.ixD_dictS, GK.cmpop_inK, GK.cmpop_notinK, GK.inK_int, GK.inK_str, GK.look_kT, GK.put_kT, GK.deq_bool, GK.lentE_var, GK.lentE_call, GK.lentE_lst, GK.lentE_tup, GK.lentE_ix, GK.lentE_sl, GK.lentE_bin, GK.lentE_b1, GK.lentE_lc, GK.lentE_lrg, GK.lentE_rvl, GK.lentE_sst, GK.lentE_gk, GK.lentE_gdx, GK.lentE_dsp, GK.lentO_p, GK.lentO_f, GK.lentO_o, GK.frzB_t, GK.frzB_f, GK.nmkD_list, GK.nmkD_tuple, GK.nmkD_int, GK.nmkD_bool, GK.nmkD_dict, GK.nmk_nil, GK.nmk_int, GK.nmk_str, GK.nmk_kT, GK.nmk_kv, GK.nmk_none, GK.keyOk_tup, GK.exS_ndn, GK.inK_tup, GK.inN_mk, GK.ixD_dictT, GK.getN_mk, GK.optD_some, GK.setSN_eq, GK.setN_mk, GK.b1D_tupN, GK.b1D_lenK, GK.b1D_lenD, GK.evE_lns, GK.evE_pk2, GK.exS_fst, Bool.false_and, Bool.and_false, GK.binI_add_nat, GK.binI_shr_nat, GK.binI_and1_nat, GK.deq_nat, GK.cmpop_lt_nat, GK.cmpop_le_nat, GK.cmpop_gt_nat, GK.cmpop_ge_nat, GK.binI_or_nat, GK.binI_xor_nat, GK.mmD_maxN, GK.mmD_minN, GK.inD_nats, GK.inF_nats, GK.intsD_nats, GK.sum_cast]
  have e2 : GK.evA (run (m + k + 1)) y_tree_circuit.es [some ⟨.f, d⟩, some (fI (i : Nat)), some ⟨.o, .list []⟩, none] = .ok [⟨.f, d⟩, fI (i : Nat), ⟨.p, .list []⟩] := by
    simp only [y_tree_circuit, GK.ok_bind, GK.pure_M, GK.bind_assoc', GK.vm_f, GK.vm_o, GK.vm_p, GK.vm_vm, GK.rdV_mk, GK.rdV_fI, GK.rdV_fB, GK.evE_var, GK.evE_int, GK.evE_bl, GK.evE_non, GK.evE_str, GK.evE_bin, GK.evE_neg, GK.evE_inv, GK.evE_cmp, GK.ifM_t, GK.ifM_f, GK.evE_chn, GK.evE_isN, GK.evE_notN, GK.evE_and, GK.evE_or, GK.evE_not, GK.evE_ife, GK.evE_tup, GK.evE_lst, GK.evE_ix, GK.evE_sl, GK.evE_call, GK.evE_b1, GK.evE_isi, GK.evE_lc, GK.evE_lrg, GK.evF_nil, GK.evF_cons, GK.evA_nil, GK.evA_cons, GK.getI_int, GK.evO_none, GK.evO_some, GK.evC_none, GK.evC_some, GK.evI_rg1, GK.evI_rg2, GK.evI_seq, GK.seqF_nx, GK.seqF_rt, GK.seqF_bk, GK.seqF_ct, GK.exSs_nil, GK.exSs_cons, GK.exSs_frz, GK.exS_asg, GK.exS_setix, GK.exS_app, GK.exS_ext, GK.exS_exp, GK.exS_ret, GK.exS_retN, GK.exS_ite, GK.exS_for, GK.exS_whl, GK.exS_brk, GK.exS_cont, GK.exS_pass, GK.fin_rt, GK.fin_nx, GK.bindT_nm, GK.bindT_nmo, GK.bindT_nI, GK.bindT_nB, GK.bindT_tp2, GK.bindT_tp3, GK.bindT_tl5, GK.fI_d, GK.fB_d, GK.fI_m, GK.fB_m, GK.asF_f, GK.asF_o, GK.asF_fI, GK.asF_fB, GK.asB_b, GK.argS_f, GK.argS_o, GK.argS_p, GK.argS_v, GK.argS_fI, GK.argS_fB, GK.retS_f, GK.retS_o, GK.retS_fI, GK.retS_fB, GK.retP_o, GK.retS_p, GK.ownG_o, GK.ownL_eq, GK.frzG_o, GK.frzG_f, GK.frzG_fI, GK.frzG_fB, GK.frzR_eq, GK.extG_list, GK.isF_f, GK.isF_o, GK.isF_p, GK.binop_int, GK.binop_cat, GK.binop_rep, GK.ckI_t, GK.ckO_t, GK.unop_neg, GK.unop_inv, GK.cmpop_eq, GK.cmpop_ne, GK.optS_some, GK.ixD_list, GK.ixD_tup, GK.slD_list, GK.b1D_len, GK.b1D_lenT, GK.b1D_list, GK.b1D_listT, GK.b1D_tup, GK.b1D_tupT, GK.b1D_int, GK.b1D_intN, GK.b1D_sum, GK.sumS_some, GK.allS_some, GK.b1D_all, GK.b1D_any, GK.itemsD_list, GK.itemsD_tup, GK.ix_t0, GK.ix_t1, GK.ix_t2, GK.nD_def, GK.fI_eq', GK.fB_eq', GK.deq_pair, GK.natDec, GK.decide_self, GK.notP_rg1, GK.notP_rg2, GK.notPs_f, GK.notPs_o, GK.notP_seq, GK.esLen, Nat.reduceLeDiff, decide_true, decide_false, List.getElem?_cons_zero, List.getElem?_cons_succ, List.set_cons_zero, List.set_cons_succ, List.length_cons, List.length_nil, List.map_cons, List.map_nil, List.replicate_succ, List.replicate_zero, List.append_nil, List.nil_append, List.cons_append, Nat.reduceAdd, Nat.reduceSub, GK.startR, GK.tgIn, GK.isRg, List.contains_cons, List.all_cons, List.all_nil, Bool.and_true, Bool.true_and, Bool.not_true, Bool.not_false, beq_self_eq_true, Bool.or_true, Bool.true_or, Bool.or_false, Bool.false_or, Nat.not_lt_zero, GK.wipeR, GK.isNone, GK.isiD, GK.evE_glb, GK.evE_sst, GK.evE_gk, GK.evE_gdx, GK.evE_dsp, GK.evP_nil, GK.evP_cons, GK.evE_mm, GK.evE_rvl, GK.evI_rg3, GK.evI_enm, GK.evI_rev, GK.evI_zp, GK.evI_rvr, GK.notP_rg3, GK.notP_rvr, GK.notP_enm, GK.notP_rev, GK.notP_zp, GK.ckTu_t, GK.binop_catT, GK.slD_tup, GK.rvD_list, GK.cmpop_is, GK.cmpop_isnot, GK.negM_ok', GK.cmpop_in, GK.cmpop_notin, GK.cmpop_inT, GK.cmpop_notinT, GK.beq_t, GK.beq_f, GK.evE_dnw, GK.evE_dsp1, GK.setO_eq, GK.setS_list, GK.setS_dict, GK.keyOk_int, GK.keyOk_str, GK.ixD_dictI, GK.ixD_dictS, GK.cmpop_inK, GK.cmpop_notinK, GK.inK_int, GK.inK_str, GK.look_kT, GK.put_kT, GK.deq_bool, GK.lentE_var, GK.lentE_call, GK.lentE_lst, GK.lentE_tup, GK.lentE_ix, GK.lentE_sl, GK.lentE_bin, GK.lentE_b1, GK.lentE_lc, GK.lentE_lrg, GK.lentE_rvl, GK.lentE_sst, GK.lentE_gk, GK.lentE_gdx, GK.lentE_dsp, GK.lentO_p, GK.lentO_f, GK.lentO_o, GK.frzB_t, GK.frzB_f, GK.nmkD_list, GK.nmkD_tuple, GK.nmkD_int, GK.nmkD_bool, GK.nmkD_dict, GK.nmk_nil, GK.nmk_int, GK.nmk_str, GK.nmk_kT, GK.nmk_kv, GK.nmk_none, GK.keyOk_tup, GK.exS_ndn, GK.inK_tup, GK.inN_mk, GK.ixD_dictT, GK.getN_mk, GK.optD_some, GK.setSN_eq, GK.setN_mk, GK.b1D_tupN, GK.b1D_lenK, GK.b1D_lenD, GK.evE_lns, GK.evE_pk2, GK.exS_fst, Bool.false_and, Bool.and_false, GK.binI_add_nat, GK.binI_shr_nat, GK.binI_and1_nat, GK.deq_nat, GK.cmpop_lt_nat, GK.cmpop_le_nat, GK.cmpop_gt_nat, GK.cmpop_ge_nat, GK.binI_or_nat, GK.binI_xor_nat, GK.mmD_maxN, GK.mmD_minN, GK.inD_nats, GK.inF_nats, GK.intsD_nats, GK.sum_cast]
  have pz : GK.ppOf TX y_tree_circuit.f = 2 := pp_laid
  have e : GK.exK (run (m + k + 1)) (runI (m + k + 1)) (GK.ppOf TX) fu fy_circuit.y (GK.startR fy_circuit.N.length [⟨.f, d⟩, fI (i : Nat)]) = .ok (.rt ⟨.f, circD i (lyF i k d []).2 (lyF i k d []).1⟩) := by
    show GK.exYV (run (m + k + 1)) (runI (m + k + 1)) (GK.ppOf TX) fu y_tree_circuit [some ⟨.f, d⟩, some (fI (i : Nat)), none, none] = _
    unfold GK.exYV
    rw [e1, GK.ok_bind]
    simp only [e2, pz, GK.ok_bind]
    rw [if_pos ⟨rfl, rfl, rfl, by decide⟩]
    have lr : runI (m + k + 1) y_tree_circuit.f _ = _ := lr
    rw [lr, ly]
    show GK.exSs (run (m + k + 1)) fu y_tree_circuit.post [some ⟨.f, d⟩, some (fI (i : Nat)), some ⟨.o, .list ((lyF i k d []).2.map stD)⟩, some ⟨.f, nD (lyF i k d []).1⟩] = _
    simp only [y_tree_circuit, GK.ok_bind, GK.pure_M, GK.bind_assoc', GK.vm_f, GK.vm_o, GK.vm_p, GK.vm_vm, GK.rdV_mk, GK.rdV_fI, GK.rdV_fB, GK.evE_var, GK.evE_int, GK.evE_bl, GK.evE_non, GK.evE_str, GK.evE_bin, GK.evE_neg, GK.evE_inv, GK.evE_cmp, GK.ifM_t, GK.ifM_f, GK.evE_chn, GK.evE_isN, GK.evE_notN, GK.evE_and, GK.evE_or, GK.evE_not, GK.evE_ife, GK.evE_tup, GK.evE_lst, GK.evE_ix, GK.evE_sl, GK.evE_call, GK.evE_b1, GK.evE_isi, GK.evE_lc, GK.evE_lrg, GK.evF_nil, GK.evF_cons, GK.evA_nil, GK.evA_cons, GK.getI_int, GK.evO_none, GK.evO_some, GK.evC_none, GK.evC_some, GK.evI_rg1, GK.evI_rg2, GK.evI_seq, GK.seqF_nx, GK.seqF_rt, GK.seqF_bk, GK.seqF_ct, GK.exSs_nil, GK.exSs_cons, GK.exSs_frz, GK.exS_asg, GK.exS_setix, GK.exS_app, GK.exS_ext, GK.exS_exp, GK.exS_ret, GK.exS_retN, GK.exS_ite, GK.exS_for, GK.exS_whl, GK.exS_brk, GK.exS_cont, GK.exS_pass, GK.fin_rt, GK.fin_nx, GK.bindT_nm, GK.bindT_nmo, GK.bindT_nI, GK.bindT_nB, GK.bindT_tp2, GK.bindT_tp3, GK.bindT_tl5, GK.fI_d, GK.fB_d, GK.fI_m, GK.fB_m, GK.asF_f, GK.asF_o, GK.asF_fI, GK.asF_fB, GK.asB_b, GK.argS_f, GK.argS_o, GK.argS_p, GK.argS_v, GK.argS_fI, GK.argS_fB, GK.retS_f, GK.retS_o, GK.retS_fI, GK.retS_fB, GK.retP_o, GK.retS_p, GK.ownG_o, GK.ownL_eq, GK.frzG_o, GK.frzG_f, GK.frzG_fI, GK.frzG_fB, GK.frzR_eq, GK.extG_list, GK.isF_f, GK.isF_o, GK.isF_p, GK.binop_int, GK.binop_cat, GK.binop_rep, GK.ckI_t, GK.ckO_t, GK.unop_neg, GK.unop_inv, GK.cmpop_eq, GK.cmpop_ne, GK.optS_some, GK.ixD_list, GK.ixD_tup, GK.slD_list, GK.b1D_len, GK.b1D_lenT, GK.b1D_list, GK.b1D_listT, GK.b1D_tup, GK.b1D_tupT, GK.b1D_int, GK.b1D_intN, GK.b1D_sum, GK.sumS_some, GK.allS_some, GK.b1D_all, GK.b1D_any, GK.itemsD_list, GK.itemsD_tup, GK.ix_t0, GK.ix_t1, GK.ix_t2, GK.nD_def, GK.fI_eq', GK.fB_eq', GK.deq_pair, GK.natDec, GK.decide_self, GK.notP_rg1, GK.notP_rg2, GK.notPs_f, GK.notPs_o, GK.notP_seq, GK.esLen, Nat.reduceLeDiff, decide_true, decide_false, List.getElem?_cons_zero, List.getElem?_cons_succ, List.set_cons_zero, List.set_cons_succ, List.length_cons, List.length_nil, List.map_cons, List.map_nil, List.replicate_succ, List.replicate_zero, List.append_nil, List.nil_append, List.cons_append, Nat.reduceAdd, Nat.reduceSub, GK.startR, GK.tgIn, GK.isRg, List.contains_cons, List.all_cons, List.all_nil, Bool.and_true, Bool.true_and, Bool.not_true, Bool.not_false, beq_self_eq_true, Bool.or_true, Bool.true_or, Bool.or_false, Bool.false_or, Nat.not_lt_zero, GK.wipeR, GK.isNone, GK.isiD, GK.evE_glb, GK.evE_sst, GK.evE_gk, GK.evE_gdx, GK.evE_dsp, GK.evP_nil, GK.evP_cons, GK.evE_mm, GK.evE_rvl, GK.evI_rg3, GK.evI_enm, GK.evI_rev, GK.evI_zp, GK.evI_rvr, GK.notP_rg3, GK.notP_rvr, GK.notP_enm, GK.notP_rev, GK.notP_zp, GK.ckTu_t, GK.binop_catT, GK.slD_tup, GK.rvD_list, GK.cmpop_is, GK.cmpop_isnot, GK.negM_ok', GK.cmpop_in, GK.cmpop_notin, GK.cmpop_inT, GK.cmpop_notinT, GK.beq_t, GK.beq_f, GK.evE_dnw, GK.evE_dsp1, GK.setO_eq, GK.setS_list, GK.setS_dict, GK.keyOk_int, GK.keyOk_str, GK.ixD_dictI, GK.ixD_dictS, GK.cmpop_inK, GK.cmpop_notinK, GK.inK_int, GK.inK_str, GK.look_kT, GK.put_kT, GK.deq_bool, GK.lentE_var, GK.lentE_call, GK.lentE_lst, GK.lentE_tup, GK.lentE_ix, GK.lentE_sl, GK.lentE_bin, GK.lentE_b1, GK.lentE_lc, GK.lentE_lrg, GK.lentE_rvl, GK.lentE_sst, GK.lentE_gk, GK.lentE_gdx, GK.lentE_dsp, GK.lentO_p, GK.lentO_f, GK.lentO_o, GK.frzB_t, GK.frzB_f, GK.nmkD_list, GK.nmkD_tuple, GK.nmkD_int, GK.nmkD_bool, GK.nmkD_dict, GK.nmk_nil, GK.nmk_int, GK.nmk_str, GK.nmk_kT, GK.nmk_kv, GK.nmk_none, GK.keyOk_tup, GK.exS_ndn, GK.inK_tup, GK.inN_mk, GK.ixD_dictT, GK.getN_mk, GK.optD_some, GK.setSN_eq, GK.setN_mk, GK.b1D_tupN, GK.b1D_lenK, GK.b1D_lenD, GK.evE_lns, GK.evE_pk2, GK.exS_fst, Bool.false_and, Bool.and_false, GK.binI_add_nat, GK.binI_shr_nat, GK.binI_and1_nat, GK.deq_nat, GK.cmpop_lt_nat, GK.cmpop_le_nat, GK.cmpop_gt_nat, GK.cmpop_ge_nat, GK.binI_or_nat, GK.binI_xor_nat, GK.mmD_maxN, GK.mmD_minN, GK.inD_nats, GK.inF_nats, GK.intsD_nats, GK.sum_cast]
    rfl
  rw [e]
/-! the law's own layout, by a pile -/
theorem lcGo_id (h : D → D) {f : D → M (Option D)} (xs : List D) (H : ∀ x ∈ xs, f x = .ok (some (h x))) : GK.lcGo f xs = .ok (xs.map h) := by
  have := GK.lcGo_map (fun t : D => t) h xs H
  rwa [List.map_id'] at this
def mkP (d : D) (c : Bool) : D := .tuple [d, .bool c]
def LSt (d : D) (i : Nat) (ss : List Stp) (hs : List Nat) (P : List D) (j : Option Sl × Option Sl × Option Sl × Option Sl × Option Sl) : Rho := [some ⟨.f, d⟩, some (fI (i : Nat)), some ⟨.o, .list (ss.map stD)⟩, some ⟨.o, .list (hs.map nD)⟩, some ⟨.o, .list P⟩, j.1, j.2.1, j.2.2.1, j.2.2.2.1, j.2.2.2.2]
def Tl (K : Nat) : Rho → M Bool := fun ρ => GK.evE (run K) (.cmp .Gt (.b1 .len (.var 4)) (.int 0)) ρ >>= fun x => GK.asB x.d
def Cl (K : Nat) : Rho → M Fl := GK.exSs (run K) fu (.cons (.ef (.asg (.tp [5, 6])) (.pop 4) .hd) (.cons i_law_laid_0 .nil))
def Go (T : Rho → M Bool) (C : Rho → M Fl) (n : Nat) (ρ ρ' : Rho) : Prop := ∀ f, GK.whlGo T C (n + f) ρ = GK.whlGo T C f ρ'
theorem Go.trans {T : Rho → M Bool} {C : Rho → M Fl} {n m : Nat} {a b c : Rho} (h : Go T C n a b) (g : Go T C m b c) : Go T C (n + m) a c := fun f => by
  rw [Nat.add_assoc, h, g]
theorem Go.zero {T : Rho → M Bool} {C : Rho → M Fl} {a : Rho} : Go T C 0 a a := fun f => by rw [Nat.zero_add]
theorem go_one {T : Rho → M Bool} {C : Rho → M Fl} {a b : Rho} (h : T a = .ok true) (g : C a = .ok (.nx b)) : Go T C 1 a b := fun f => by
  rw [Nat.add_comm]
  simp only [GK.whlGo, h, GK.ok_bind, g, if_true]
theorem laid_t (K i : Nat) (d0 : D) (ss : List Stp) (hs : List Nat) (P : List D) (x : D) (j : Option Sl × Option Sl × Option Sl × Option Sl × Option Sl) : Tl K (LSt d0 i ss hs (P ++ [x]) j) = .ok true := by
  simp only [Tl, LSt, GK.ok_bind, GK.pure_M, GK.bind_assoc', GK.vm_f, GK.vm_o, GK.vm_p, GK.vm_vm, GK.rdV_mk, GK.rdV_fI, GK.rdV_fB, GK.evE_var, GK.evE_int, GK.evE_bl, GK.evE_non, GK.evE_str, GK.evE_bin, GK.evE_neg, GK.evE_inv, GK.evE_cmp, GK.ifM_t, GK.ifM_f, GK.evE_chn, GK.evE_isN, GK.evE_notN, GK.evE_and, GK.evE_or, GK.evE_not, GK.evE_ife, GK.evE_tup, GK.evE_lst, GK.evE_ix, GK.evE_sl, GK.evE_call, GK.evE_b1, GK.evE_isi, GK.evE_lc, GK.evE_lrg, GK.evF_nil, GK.evF_cons, GK.evA_nil, GK.evA_cons, GK.getI_int, GK.evO_none, GK.evO_some, GK.evC_none, GK.evC_some, GK.evI_rg1, GK.evI_rg2, GK.evI_seq, GK.seqF_nx, GK.seqF_rt, GK.seqF_bk, GK.seqF_ct, GK.exSs_nil, GK.exSs_cons, GK.exSs_frz, GK.exS_asg, GK.exS_setix, GK.exS_app, GK.exS_ext, GK.exS_exp, GK.exS_ret, GK.exS_retN, GK.exS_ite, GK.exS_for, GK.exS_whl, GK.exS_brk, GK.exS_cont, GK.exS_pass, GK.fin_rt, GK.fin_nx, GK.bindT_nm, GK.bindT_nmo, GK.bindT_nI, GK.bindT_nB, GK.bindT_tp2, GK.bindT_tp3, GK.bindT_tl5, GK.fI_d, GK.fB_d, GK.fI_m, GK.fB_m, GK.asF_f, GK.asF_o, GK.asF_fI, GK.asF_fB, GK.asB_b, GK.argS_f, GK.argS_o, GK.argS_p, GK.argS_v, GK.argS_fI, GK.argS_fB, GK.retS_f, GK.retS_o, GK.retS_fI, GK.retS_fB, GK.retP_o, GK.retS_p, GK.ownG_o, GK.ownL_eq, GK.frzG_o, GK.frzG_f, GK.frzG_fI, GK.frzG_fB, GK.frzR_eq, GK.extG_list, GK.isF_f, GK.isF_o, GK.isF_p, GK.binop_int, GK.binop_cat, GK.binop_rep, GK.ckI_t, GK.ckO_t, GK.unop_neg, GK.unop_inv, GK.cmpop_eq, GK.cmpop_ne, GK.optS_some, GK.ixD_list, GK.ixD_tup, GK.slD_list, GK.b1D_len, GK.b1D_lenT, GK.b1D_list, GK.b1D_listT, GK.b1D_tup, GK.b1D_tupT, GK.b1D_int, GK.b1D_intN, GK.b1D_sum, GK.sumS_some, GK.allS_some, GK.b1D_all, GK.b1D_any, GK.itemsD_list, GK.itemsD_tup, GK.ix_t0, GK.ix_t1, GK.ix_t2, GK.nD_def, GK.fI_eq', GK.fB_eq', GK.deq_pair, GK.natDec, GK.decide_self, GK.notP_rg1, GK.notP_rg2, GK.notPs_f, GK.notPs_o, GK.notP_seq, GK.esLen, Nat.reduceLeDiff, decide_true, decide_false, List.getElem?_cons_zero, List.getElem?_cons_succ, List.set_cons_zero, List.set_cons_succ, List.length_cons, List.length_nil, List.map_cons, List.map_nil, List.replicate_succ, List.replicate_zero, List.append_nil, List.nil_append, List.cons_append, Nat.reduceAdd, Nat.reduceSub, GK.startR, GK.tgIn, GK.isRg, List.contains_cons, List.all_cons, List.all_nil, Bool.and_true, Bool.true_and, Bool.not_true, Bool.not_false, beq_self_eq_true, Bool.or_true, Bool.true_or, Bool.or_false, Bool.false_or, Nat.not_lt_zero, GK.wipeR, GK.isNone, GK.isiD, GK.evE_glb, GK.evE_sst, GK.evE_gk, GK.evE_gdx, GK.evE_dsp, GK.evP_nil, GK.evP_cons, GK.evE_mm, GK.evE_rvl, GK.evI_rg3, GK.evI_enm, GK.evI_rev, GK.evI_zp, GK.evI_rvr, GK.notP_rg3, GK.notP_rvr, GK.notP_enm, GK.notP_rev, GK.notP_zp, GK.ckTu_t, GK.binop_catT, GK.slD_tup, GK.rvD_list, GK.cmpop_is, GK.cmpop_isnot, GK.negM_ok', GK.cmpop_in, GK.cmpop_notin, GK.cmpop_inT, GK.cmpop_notinT, GK.beq_t, GK.beq_f, GK.evE_dnw, GK.evE_dsp1, GK.setO_eq, GK.setS_list, GK.setS_dict, GK.keyOk_int, GK.keyOk_str, GK.ixD_dictI, GK.ixD_dictS, GK.cmpop_inK, GK.cmpop_notinK, GK.inK_int, GK.inK_str, GK.look_kT, GK.put_kT, GK.deq_bool, GK.lentE_var, GK.lentE_call, GK.lentE_lst, GK.lentE_tup, GK.lentE_ix, GK.lentE_sl, GK.lentE_bin, GK.lentE_b1, GK.lentE_lc, GK.lentE_lrg, GK.lentE_rvl, GK.lentE_sst, GK.lentE_gk, GK.lentE_gdx, GK.lentE_dsp, GK.lentO_p, GK.lentO_f, GK.lentO_o, GK.frzB_t, GK.frzB_f, GK.nmkD_list, GK.nmkD_tuple, GK.nmkD_int, GK.nmkD_bool, GK.nmkD_dict, GK.nmk_nil, GK.nmk_int, GK.nmk_str, GK.nmk_kT, GK.nmk_kv, GK.nmk_none, GK.keyOk_tup, GK.exS_ndn, GK.inK_tup, GK.inN_mk, GK.ixD_dictT, GK.getN_mk, GK.optD_some, GK.setSN_eq, GK.setN_mk, GK.b1D_tupN, GK.b1D_lenK, GK.b1D_lenD, GK.evE_lns, GK.evE_pk2, GK.exS_fst, Bool.false_and, Bool.and_false, GK.binI_add_nat, GK.binI_shr_nat, GK.binI_and1_nat, GK.deq_nat, GK.cmpop_lt_nat, GK.cmpop_le_nat, GK.cmpop_gt_nat, GK.cmpop_ge_nat, GK.binI_or_nat, GK.binI_xor_nat, GK.mmD_maxN, GK.mmD_minN, GK.inD_nats, GK.inF_nats, GK.intsD_nats, GK.sum_cast, List.length_append, Nat.succ_pos]
theorem laid_leaf (K i w : Nat) (d0 : D) (ss : List Stp) (hs : List Nat) (P : List D) (j : Option Sl × Option Sl × Option Sl × Option Sl × Option Sl) (hh : hs.length ≤ 1000) : ∃ j', Go (Tl K) (Cl K) 1 (LSt d0 i ss hs (P ++ [mkP (nD w) false]) j) (LSt d0 i ss (hs ++ [w]) P j') := by
  refine ⟨(some ⟨.f, nD w⟩, some (fB false), j.2.2.1, j.2.2.2.1, j.2.2.2.2), go_one (laid_t _ _ _ _ _ _ _ _) ?_⟩
  simp only [Cl, LSt, mkP, i_law_laid_0, GK.ok_bind, GK.pure_M, GK.bind_assoc', GK.vm_f, GK.vm_o, GK.vm_p, GK.vm_vm, GK.rdV_mk, GK.rdV_fI, GK.rdV_fB, GK.evE_var, GK.evE_int, GK.evE_bl, GK.evE_non, GK.evE_str, GK.evE_bin, GK.evE_neg, GK.evE_inv, GK.evE_cmp, GK.ifM_t, GK.ifM_f, GK.evE_chn, GK.evE_isN, GK.evE_notN, GK.evE_and, GK.evE_or, GK.evE_not, GK.evE_ife, GK.evE_tup, GK.evE_lst, GK.evE_ix, GK.evE_sl, GK.evE_call, GK.evE_b1, GK.evE_isi, GK.evE_lc, GK.evE_lrg, GK.evF_nil, GK.evF_cons, GK.evA_nil, GK.evA_cons, GK.getI_int, GK.evO_none, GK.evO_some, GK.evC_none, GK.evC_some, GK.evI_rg1, GK.evI_rg2, GK.evI_seq, GK.seqF_nx, GK.seqF_rt, GK.seqF_bk, GK.seqF_ct, GK.exSs_nil, GK.exSs_cons, GK.exSs_frz, GK.exS_asg, GK.exS_setix, GK.exS_app, GK.exS_ext, GK.exS_exp, GK.exS_ret, GK.exS_retN, GK.exS_ite, GK.exS_for, GK.exS_whl, GK.exS_brk, GK.exS_cont, GK.exS_pass, GK.fin_rt, GK.fin_nx, GK.bindT_nm, GK.bindT_nmo, GK.bindT_nI, GK.bindT_nB, GK.bindT_tp2, GK.bindT_tp3, GK.bindT_tl5, GK.fI_d, GK.fB_d, GK.fI_m, GK.fB_m, GK.asF_f, GK.asF_o, GK.asF_fI, GK.asF_fB, GK.asB_b, GK.argS_f, GK.argS_o, GK.argS_p, GK.argS_v, GK.argS_fI, GK.argS_fB, GK.retS_f, GK.retS_o, GK.retS_fI, GK.retS_fB, GK.retP_o, GK.retS_p, GK.ownG_o, GK.ownL_eq, GK.frzG_o, GK.frzG_f, GK.frzG_fI, GK.frzG_fB, GK.frzR_eq, GK.extG_list, GK.isF_f, GK.isF_o, GK.isF_p, GK.binop_int, GK.binop_cat, GK.binop_rep, GK.ckI_t, GK.ckO_t, GK.unop_neg, GK.unop_inv, GK.cmpop_eq, GK.cmpop_ne, GK.optS_some, GK.ixD_list, GK.ixD_tup, GK.slD_list, GK.b1D_len, GK.b1D_lenT, GK.b1D_list, GK.b1D_listT, GK.b1D_tup, GK.b1D_tupT, GK.b1D_int, GK.b1D_intN, GK.b1D_sum, GK.sumS_some, GK.allS_some, GK.b1D_all, GK.b1D_any, GK.itemsD_list, GK.itemsD_tup, GK.ix_t0, GK.ix_t1, GK.ix_t2, GK.nD_def, GK.fI_eq', GK.fB_eq', GK.deq_pair, GK.natDec, GK.decide_self, GK.notP_rg1, GK.notP_rg2, GK.notPs_f, GK.notPs_o, GK.notP_seq, GK.esLen, Nat.reduceLeDiff, decide_true, decide_false, List.getElem?_cons_zero, List.getElem?_cons_succ, List.set_cons_zero, List.set_cons_succ, List.length_cons, List.length_nil, List.map_cons, List.map_nil, List.replicate_succ, List.replicate_zero, List.append_nil, List.nil_append, List.cons_append, Nat.reduceAdd, Nat.reduceSub, GK.startR, GK.tgIn, GK.isRg, List.contains_cons, List.all_cons, List.all_nil, Bool.and_true, Bool.true_and, Bool.not_true, Bool.not_false, beq_self_eq_true, Bool.or_true, Bool.true_or, Bool.or_false, Bool.false_or, Nat.not_lt_zero, GK.wipeR, GK.isNone, GK.isiD, GK.evE_glb, GK.evE_sst, GK.evE_gk, GK.evE_gdx, GK.evE_dsp, GK.evP_nil, GK.evP_cons, GK.evE_mm, GK.evE_rvl, GK.evI_rg3, GK.evI_enm, GK.evI_rev, GK.evI_zp, GK.evI_rvr, GK.notP_rg3, GK.notP_rvr, GK.notP_enm, GK.notP_rev, GK.notP_zp, GK.ckTu_t, GK.binop_catT, GK.slD_tup, GK.rvD_list, GK.cmpop_is, GK.cmpop_isnot, GK.negM_ok', GK.cmpop_in, GK.cmpop_notin, GK.cmpop_inT, GK.cmpop_notinT, GK.beq_t, GK.beq_f, GK.evE_dnw, GK.evE_dsp1, GK.setO_eq, GK.setS_list, GK.setS_dict, GK.keyOk_int, GK.keyOk_str, GK.ixD_dictI, GK.ixD_dictS, GK.cmpop_inK, GK.cmpop_notinK, GK.inK_int, GK.inK_str, GK.look_kT, GK.put_kT, GK.deq_bool, GK.lentE_var, GK.lentE_call, GK.lentE_lst, GK.lentE_tup, GK.lentE_ix, GK.lentE_sl, GK.lentE_bin, GK.lentE_b1, GK.lentE_lc, GK.lentE_lrg, GK.lentE_rvl, GK.lentE_sst, GK.lentE_gk, GK.lentE_gdx, GK.lentE_dsp, GK.lentO_p, GK.lentO_f, GK.lentO_o, GK.frzB_t, GK.frzB_f, GK.nmkD_list, GK.nmkD_tuple, GK.nmkD_int, GK.nmkD_bool, GK.nmkD_dict, GK.nmk_nil, GK.nmk_int, GK.nmk_str, GK.nmk_kT, GK.nmk_kv, GK.nmk_none, GK.keyOk_tup, GK.exS_ndn, GK.inK_tup, GK.inN_mk, GK.ixD_dictT, GK.getN_mk, GK.optD_some, GK.setSN_eq, GK.setN_mk, GK.b1D_tupN, GK.b1D_lenK, GK.b1D_lenD, GK.evE_lns, GK.evE_pk2, GK.exS_fst, Bool.false_and, Bool.and_false, GK.binI_add_nat, GK.binI_shr_nat, GK.binI_and1_nat, GK.deq_nat, GK.cmpop_lt_nat, GK.cmpop_le_nat, GK.cmpop_gt_nat, GK.cmpop_ge_nat, GK.binI_or_nat, GK.binI_xor_nat, GK.mmD_maxN, GK.mmD_minN, GK.inD_nats, GK.inF_nats, GK.intsD_nats, GK.sum_cast, GK.exS_ef, GK.exS_eft, GK.efC_rz, GK.efC_v, GK.efT_rz, GK.efT_v, GK.efD_asg, GK.efD_ret, GK.efD_exp, GK.efD_app, GK.efD_set, GK.efX_call, GK.efX_pop, GK.efX_popA, GK.efX_popK, GK.efG_ok, GK.efG_rz, GK.popG_eq, GK.popL_snoc, GK.popGA_eq, GK.popGK_eq, GK.poE_hd, GK.poE_ixn, GK.ixL_tup, GK.ixL_list, GK.poE_isN, GK.poE_eqS, GK.poE_lst1, GK.poE_opI, GK.poE_ixv, GK.ixV_int, GK.poX_hd, GK.poX_ixn, GK.poX_isN, GK.poX_eqS, GK.poX_lst1, GK.ekX_asg, GK.ekX_ret, GK.ekX_exp, GK.ekX_set, GK.exS_ins, GK.popL_snoc, GK.isiD, List.length_map, GK.lenOk_of (show hs.length + 1 ≤ 16777216 by omega), List.map_append]
theorem laid_open (K i n b : Nat) (d0 : D) (ts : List D) (ss : List Stp) (hs : List Nat) (P : List D) (j : Option Sl × Option Sl × Option Sl × Option Sl × Option Sl) (hp : P.length ≤ 1000) (ht : ts.length ≤ 4) : ∃ j', Go (Tl K) (Cl K) 1 (LSt d0 i ss hs (P ++ [mkP (.tuple [gD n b, .tuple ts]) false]) j) (LSt d0 i ss hs (P ++ [mkP (.tuple [gD n b, .tuple ts]) true] ++ ts.reverse.map fun t => mkP t false) j') := by
  refine ⟨(some ⟨.f, .tuple [gD n b, .tuple ts]⟩, some (fB false), j.2.2.1, j.2.2.2.1, j.2.2.2.2), go_one (laid_t _ _ _ _ _ _ _ _) ?_⟩
  simp only [Cl, LSt, mkP, gD, i_law_laid_0, i_law_laid_1, GK.ok_bind, GK.pure_M, GK.bind_assoc', GK.vm_f, GK.vm_o, GK.vm_p, GK.vm_vm, GK.rdV_mk, GK.rdV_fI, GK.rdV_fB, GK.evE_var, GK.evE_int, GK.evE_bl, GK.evE_non, GK.evE_str, GK.evE_bin, GK.evE_neg, GK.evE_inv, GK.evE_cmp, GK.ifM_t, GK.ifM_f, GK.evE_chn, GK.evE_isN, GK.evE_notN, GK.evE_and, GK.evE_or, GK.evE_not, GK.evE_ife, GK.evE_tup, GK.evE_lst, GK.evE_ix, GK.evE_sl, GK.evE_call, GK.evE_b1, GK.evE_isi, GK.evE_lc, GK.evE_lrg, GK.evF_nil, GK.evF_cons, GK.evA_nil, GK.evA_cons, GK.getI_int, GK.evO_none, GK.evO_some, GK.evC_none, GK.evC_some, GK.evI_rg1, GK.evI_rg2, GK.evI_seq, GK.seqF_nx, GK.seqF_rt, GK.seqF_bk, GK.seqF_ct, GK.exSs_nil, GK.exSs_cons, GK.exSs_frz, GK.exS_asg, GK.exS_setix, GK.exS_app, GK.exS_ext, GK.exS_exp, GK.exS_ret, GK.exS_retN, GK.exS_ite, GK.exS_for, GK.exS_whl, GK.exS_brk, GK.exS_cont, GK.exS_pass, GK.fin_rt, GK.fin_nx, GK.bindT_nm, GK.bindT_nmo, GK.bindT_nI, GK.bindT_nB, GK.bindT_tp2, GK.bindT_tp3, GK.bindT_tl5, GK.fI_d, GK.fB_d, GK.fI_m, GK.fB_m, GK.asF_f, GK.asF_o, GK.asF_fI, GK.asF_fB, GK.asB_b, GK.argS_f, GK.argS_o, GK.argS_p, GK.argS_v, GK.argS_fI, GK.argS_fB, GK.retS_f, GK.retS_o, GK.retS_fI, GK.retS_fB, GK.retP_o, GK.retS_p, GK.ownG_o, GK.ownL_eq, GK.frzG_o, GK.frzG_f, GK.frzG_fI, GK.frzG_fB, GK.frzR_eq, GK.extG_list, GK.isF_f, GK.isF_o, GK.isF_p, GK.binop_int, GK.binop_cat, GK.binop_rep, GK.ckI_t, GK.ckO_t, GK.unop_neg, GK.unop_inv, GK.cmpop_eq, GK.cmpop_ne, GK.optS_some, GK.ixD_list, GK.ixD_tup, GK.slD_list, GK.b1D_len, GK.b1D_lenT, GK.b1D_list, GK.b1D_listT, GK.b1D_tup, GK.b1D_tupT, GK.b1D_int, GK.b1D_intN, GK.b1D_sum, GK.sumS_some, GK.allS_some, GK.b1D_all, GK.b1D_any, GK.itemsD_list, GK.itemsD_tup, GK.ix_t0, GK.ix_t1, GK.ix_t2, GK.nD_def, GK.fI_eq', GK.fB_eq', GK.deq_pair, GK.natDec, GK.decide_self, GK.notP_rg1, GK.notP_rg2, GK.notPs_f, GK.notPs_o, GK.notP_seq, GK.esLen, Nat.reduceLeDiff, decide_true, decide_false, List.getElem?_cons_zero, List.getElem?_cons_succ, List.set_cons_zero, List.set_cons_succ, List.length_cons, List.length_nil, List.map_cons, List.map_nil, List.replicate_succ, List.replicate_zero, List.append_nil, List.nil_append, List.cons_append, Nat.reduceAdd, Nat.reduceSub, GK.startR, GK.tgIn, GK.isRg, List.contains_cons, List.all_cons, List.all_nil, Bool.and_true, Bool.true_and, Bool.not_true, Bool.not_false, beq_self_eq_true, Bool.or_true, Bool.true_or, Bool.or_false, Bool.false_or, Nat.not_lt_zero, GK.wipeR, GK.isNone, GK.isiD, GK.evE_glb, GK.evE_sst, GK.evE_gk, GK.evE_gdx, GK.evE_dsp, GK.evP_nil, GK.evP_cons, GK.evE_mm, GK.evE_rvl, GK.evI_rg3, GK.evI_enm, GK.evI_rev, GK.evI_zp, GK.evI_rvr, GK.notP_rg3, GK.notP_rvr, GK.notP_enm, GK.notP_rev, GK.notP_zp, GK.ckTu_t, GK.binop_catT, GK.slD_tup, GK.rvD_list, GK.cmpop_is, GK.cmpop_isnot, GK.negM_ok', GK.cmpop_in, GK.cmpop_notin, GK.cmpop_inT, GK.cmpop_notinT, GK.beq_t, GK.beq_f, GK.evE_dnw, GK.evE_dsp1, GK.setO_eq, GK.setS_list, GK.setS_dict, GK.keyOk_int, GK.keyOk_str, GK.ixD_dictI, GK.ixD_dictS, GK.cmpop_inK, GK.cmpop_notinK, GK.inK_int, GK.inK_str, GK.look_kT, GK.put_kT, GK.deq_bool, GK.lentE_var, GK.lentE_call, GK.lentE_lst, GK.lentE_tup, GK.lentE_ix, GK.lentE_sl, GK.lentE_bin, GK.lentE_b1, GK.lentE_lc, GK.lentE_lrg, GK.lentE_rvl, GK.lentE_sst, GK.lentE_gk, GK.lentE_gdx, GK.lentE_dsp, GK.lentO_p, GK.lentO_f, GK.lentO_o, GK.frzB_t, GK.frzB_f, GK.nmkD_list, GK.nmkD_tuple, GK.nmkD_int, GK.nmkD_bool, GK.nmkD_dict, GK.nmk_nil, GK.nmk_int, GK.nmk_str, GK.nmk_kT, GK.nmk_kv, GK.nmk_none, GK.keyOk_tup, GK.exS_ndn, GK.inK_tup, GK.inN_mk, GK.ixD_dictT, GK.getN_mk, GK.optD_some, GK.setSN_eq, GK.setN_mk, GK.b1D_tupN, GK.b1D_lenK, GK.b1D_lenD, GK.evE_lns, GK.evE_pk2, GK.exS_fst, Bool.false_and, Bool.and_false, GK.binI_add_nat, GK.binI_shr_nat, GK.binI_and1_nat, GK.deq_nat, GK.cmpop_lt_nat, GK.cmpop_le_nat, GK.cmpop_gt_nat, GK.cmpop_ge_nat, GK.binI_or_nat, GK.binI_xor_nat, GK.mmD_maxN, GK.mmD_minN, GK.inD_nats, GK.inF_nats, GK.intsD_nats, GK.sum_cast, GK.exS_ef, GK.exS_eft, GK.efC_rz, GK.efC_v, GK.efT_rz, GK.efT_v, GK.efD_asg, GK.efD_ret, GK.efD_exp, GK.efD_app, GK.efD_set, GK.efX_call, GK.efX_pop, GK.efX_popA, GK.efX_popK, GK.efG_ok, GK.efG_rz, GK.popG_eq, GK.popL_snoc, GK.popGA_eq, GK.popGK_eq, GK.poE_hd, GK.poE_ixn, GK.ixL_tup, GK.ixL_list, GK.poE_isN, GK.poE_eqS, GK.poE_lst1, GK.poE_opI, GK.poE_ixv, GK.ixV_int, GK.poX_hd, GK.poX_ixn, GK.poX_isN, GK.poX_eqS, GK.poX_lst1, GK.ekX_asg, GK.ekX_ret, GK.ekX_exp, GK.ekX_set, GK.exS_ins, GK.popL_snoc, GK.isiD, List.length_map, GK.lenOk_of (show P.length + 1 ≤ 16777216 by omega)]
  rw [lcGo_id (fun t => PyData.tuple [t, .bool false])]
  rotate_left
  · intro t ht
    simp only [GK.lcTurn, GK.ok_bind, GK.pure_M, GK.bind_assoc', GK.vm_f, GK.vm_o, GK.vm_p, GK.vm_vm, GK.rdV_mk, GK.rdV_fI, GK.rdV_fB, GK.evE_var, GK.evE_int, GK.evE_bl, GK.evE_non, GK.evE_str, GK.evE_bin, GK.evE_neg, GK.evE_inv, GK.evE_cmp, GK.ifM_t, GK.ifM_f, GK.evE_chn, GK.evE_isN, GK.evE_notN, GK.evE_and, GK.evE_or, GK.evE_not, GK.evE_ife, GK.evE_tup, GK.evE_lst, GK.evE_ix, GK.evE_sl, GK.evE_call, GK.evE_b1, GK.evE_isi, GK.evE_lc, GK.evE_lrg, GK.evF_nil, GK.evF_cons, GK.evA_nil, GK.evA_cons, GK.getI_int, GK.evO_none, GK.evO_some, GK.evC_none, GK.evC_some, GK.evI_rg1, GK.evI_rg2, GK.evI_seq, GK.seqF_nx, GK.seqF_rt, GK.seqF_bk, GK.seqF_ct, GK.exSs_nil, GK.exSs_cons, GK.exSs_frz, GK.exS_asg, GK.exS_setix, GK.exS_app, GK.exS_ext, GK.exS_exp, GK.exS_ret, GK.exS_retN, GK.exS_ite, GK.exS_for, GK.exS_whl, GK.exS_brk, GK.exS_cont, GK.exS_pass, GK.fin_rt, GK.fin_nx, GK.bindT_nm, GK.bindT_nmo, GK.bindT_nI, GK.bindT_nB, GK.bindT_tp2, GK.bindT_tp3, GK.bindT_tl5, GK.fI_d, GK.fB_d, GK.fI_m, GK.fB_m, GK.asF_f, GK.asF_o, GK.asF_fI, GK.asF_fB, GK.asB_b, GK.argS_f, GK.argS_o, GK.argS_p, GK.argS_v, GK.argS_fI, GK.argS_fB, GK.retS_f, GK.retS_o, GK.retS_fI, GK.retS_fB, GK.retP_o, GK.retS_p, GK.ownG_o, GK.ownL_eq, GK.frzG_o, GK.frzG_f, GK.frzG_fI, GK.frzG_fB, GK.frzR_eq, GK.extG_list, GK.isF_f, GK.isF_o, GK.isF_p, GK.binop_int, GK.binop_cat, GK.binop_rep, GK.ckI_t, GK.ckO_t, GK.unop_neg, GK.unop_inv, GK.cmpop_eq, GK.cmpop_ne, GK.optS_some, GK.ixD_list, GK.ixD_tup, GK.slD_list, GK.b1D_len, GK.b1D_lenT, GK.b1D_list, GK.b1D_listT, GK.b1D_tup, GK.b1D_tupT, GK.b1D_int, GK.b1D_intN, GK.b1D_sum, GK.sumS_some, GK.allS_some, GK.b1D_all, GK.b1D_any, GK.itemsD_list, GK.itemsD_tup, GK.ix_t0, GK.ix_t1, GK.ix_t2, GK.nD_def, GK.fI_eq', GK.fB_eq', GK.deq_pair, GK.natDec, GK.decide_self, GK.notP_rg1, GK.notP_rg2, GK.notPs_f, GK.notPs_o, GK.notP_seq, GK.esLen, Nat.reduceLeDiff, decide_true, decide_false, List.getElem?_cons_zero, List.getElem?_cons_succ, List.set_cons_zero, List.set_cons_succ, List.length_cons, List.length_nil, List.map_cons, List.map_nil, List.replicate_succ, List.replicate_zero, List.append_nil, List.nil_append, List.cons_append, Nat.reduceAdd, Nat.reduceSub, GK.startR, GK.tgIn, GK.isRg, List.contains_cons, List.all_cons, List.all_nil, Bool.and_true, Bool.true_and, Bool.not_true, Bool.not_false, beq_self_eq_true, Bool.or_true, Bool.true_or, Bool.or_false, Bool.false_or, Nat.not_lt_zero, GK.wipeR, GK.isNone, GK.isiD, GK.evE_glb, GK.evE_sst, GK.evE_gk, GK.evE_gdx, GK.evE_dsp, GK.evP_nil, GK.evP_cons, GK.evE_mm, GK.evE_rvl, GK.evI_rg3, GK.evI_enm, GK.evI_rev, GK.evI_zp, GK.evI_rvr, GK.notP_rg3, GK.notP_rvr, GK.notP_enm, GK.notP_rev, GK.notP_zp, GK.ckTu_t, GK.binop_catT, GK.slD_tup, GK.rvD_list, GK.cmpop_is, GK.cmpop_isnot, GK.negM_ok', GK.cmpop_in, GK.cmpop_notin, GK.cmpop_inT, GK.cmpop_notinT, GK.beq_t, GK.beq_f, GK.evE_dnw, GK.evE_dsp1, GK.setO_eq, GK.setS_list, GK.setS_dict, GK.keyOk_int, GK.keyOk_str, GK.ixD_dictI, GK.ixD_dictS, GK.cmpop_inK, GK.cmpop_notinK, GK.inK_int, GK.inK_str, GK.look_kT, GK.put_kT, GK.deq_bool, GK.lentE_var, GK.lentE_call, GK.lentE_lst, GK.lentE_tup, GK.lentE_ix, GK.lentE_sl, GK.lentE_bin, GK.lentE_b1, GK.lentE_lc, GK.lentE_lrg, GK.lentE_rvl, GK.lentE_sst, GK.lentE_gk, GK.lentE_gdx, GK.lentE_dsp, GK.lentO_p, GK.lentO_f, GK.lentO_o, GK.frzB_t, GK.frzB_f, GK.nmkD_list, GK.nmkD_tuple, GK.nmkD_int, GK.nmkD_bool, GK.nmkD_dict, GK.nmk_nil, GK.nmk_int, GK.nmk_str, GK.nmk_kT, GK.nmk_kv, GK.nmk_none, GK.keyOk_tup, GK.exS_ndn, GK.inK_tup, GK.inN_mk, GK.ixD_dictT, GK.getN_mk, GK.optD_some, GK.setSN_eq, GK.setN_mk, GK.b1D_tupN, GK.b1D_lenK, GK.b1D_lenD, GK.evE_lns, GK.evE_pk2, GK.exS_fst, Bool.false_and, Bool.and_false, GK.binI_add_nat, GK.binI_shr_nat, GK.binI_and1_nat, GK.deq_nat, GK.cmpop_lt_nat, GK.cmpop_le_nat, GK.cmpop_gt_nat, GK.cmpop_ge_nat, GK.binI_or_nat, GK.binI_xor_nat, GK.mmD_maxN, GK.mmD_minN, GK.inD_nats, GK.inF_nats, GK.intsD_nats, GK.sum_cast]
  simp only [GK.ok_bind, GK.pure_M, GK.bind_assoc', GK.vm_f, GK.vm_o, GK.vm_p, GK.vm_vm, GK.rdV_mk, GK.rdV_fI, GK.rdV_fB, GK.evE_var, GK.evE_int, GK.evE_bl, GK.evE_non, GK.evE_str, GK.evE_bin, GK.evE_neg, GK.evE_inv, GK.evE_cmp, GK.ifM_t, GK.ifM_f, GK.evE_chn, GK.evE_isN, GK.evE_notN, GK.evE_and, GK.evE_or, GK.evE_not, GK.evE_ife, GK.evE_tup, GK.evE_lst, GK.evE_ix, GK.evE_sl, GK.evE_call, GK.evE_b1, GK.evE_isi, GK.evE_lc, GK.evE_lrg, GK.evF_nil, GK.evF_cons, GK.evA_nil, GK.evA_cons, GK.getI_int, GK.evO_none, GK.evO_some, GK.evC_none, GK.evC_some, GK.evI_rg1, GK.evI_rg2, GK.evI_seq, GK.seqF_nx, GK.seqF_rt, GK.seqF_bk, GK.seqF_ct, GK.exSs_nil, GK.exSs_cons, GK.exSs_frz, GK.exS_asg, GK.exS_setix, GK.exS_app, GK.exS_ext, GK.exS_exp, GK.exS_ret, GK.exS_retN, GK.exS_ite, GK.exS_for, GK.exS_whl, GK.exS_brk, GK.exS_cont, GK.exS_pass, GK.fin_rt, GK.fin_nx, GK.bindT_nm, GK.bindT_nmo, GK.bindT_nI, GK.bindT_nB, GK.bindT_tp2, GK.bindT_tp3, GK.bindT_tl5, GK.fI_d, GK.fB_d, GK.fI_m, GK.fB_m, GK.asF_f, GK.asF_o, GK.asF_fI, GK.asF_fB, GK.asB_b, GK.argS_f, GK.argS_o, GK.argS_p, GK.argS_v, GK.argS_fI, GK.argS_fB, GK.retS_f, GK.retS_o, GK.retS_fI, GK.retS_fB, GK.retP_o, GK.retS_p, GK.ownG_o, GK.ownL_eq, GK.frzG_o, GK.frzG_f, GK.frzG_fI, GK.frzG_fB, GK.frzR_eq, GK.extG_list, GK.isF_f, GK.isF_o, GK.isF_p, GK.binop_int, GK.binop_cat, GK.binop_rep, GK.ckI_t, GK.ckO_t, GK.unop_neg, GK.unop_inv, GK.cmpop_eq, GK.cmpop_ne, GK.optS_some, GK.ixD_list, GK.ixD_tup, GK.slD_list, GK.b1D_len, GK.b1D_lenT, GK.b1D_list, GK.b1D_listT, GK.b1D_tup, GK.b1D_tupT, GK.b1D_int, GK.b1D_intN, GK.b1D_sum, GK.sumS_some, GK.allS_some, GK.b1D_all, GK.b1D_any, GK.itemsD_list, GK.itemsD_tup, GK.ix_t0, GK.ix_t1, GK.ix_t2, GK.nD_def, GK.fI_eq', GK.fB_eq', GK.deq_pair, GK.natDec, GK.decide_self, GK.notP_rg1, GK.notP_rg2, GK.notPs_f, GK.notPs_o, GK.notP_seq, GK.esLen, Nat.reduceLeDiff, decide_true, decide_false, List.getElem?_cons_zero, List.getElem?_cons_succ, List.set_cons_zero, List.set_cons_succ, List.length_cons, List.length_nil, List.map_cons, List.map_nil, List.replicate_succ, List.replicate_zero, List.append_nil, List.nil_append, List.cons_append, Nat.reduceAdd, Nat.reduceSub, GK.startR, GK.tgIn, GK.isRg, List.contains_cons, List.all_cons, List.all_nil, Bool.and_true, Bool.true_and, Bool.not_true, Bool.not_false, beq_self_eq_true, Bool.or_true, Bool.true_or, Bool.or_false, Bool.false_or, Nat.not_lt_zero, GK.wipeR, GK.isNone, GK.isiD, GK.evE_glb, GK.evE_sst, GK.evE_gk, GK.evE_gdx, GK.evE_dsp, GK.evP_nil, GK.evP_cons, GK.evE_mm, GK.evE_rvl, GK.evI_rg3, GK.evI_enm, GK.evI_rev, GK.evI_zp, GK.evI_rvr, GK.notP_rg3, GK.notP_rvr, GK.notP_enm, GK.notP_rev, GK.notP_zp, GK.ckTu_t, GK.binop_catT, GK.slD_tup, GK.rvD_list, GK.cmpop_is, GK.cmpop_isnot, GK.negM_ok', GK.cmpop_in, GK.cmpop_notin, GK.cmpop_inT, GK.cmpop_notinT, GK.beq_t, GK.beq_f, GK.evE_dnw, GK.evE_dsp1, GK.setO_eq, GK.setS_list, GK.setS_dict, GK.keyOk_int, GK.keyOk_str, GK.ixD_dictI, GK.ixD_dictS, GK.cmpop_inK, GK.cmpop_notinK, GK.inK_int, GK.inK_str, GK.look_kT, GK.put_kT, GK.deq_bool, GK.lentE_var, GK.lentE_call, GK.lentE_lst, GK.lentE_tup, GK.lentE_ix, GK.lentE_sl, GK.lentE_bin, GK.lentE_b1, GK.lentE_lc, GK.lentE_lrg, GK.lentE_rvl, GK.lentE_sst, GK.lentE_gk, GK.lentE_gdx, GK.lentE_dsp, GK.lentO_p, GK.lentO_f, GK.lentO_o, GK.frzB_t, GK.frzB_f, GK.nmkD_list, GK.nmkD_tuple, GK.nmkD_int, GK.nmkD_bool, GK.nmkD_dict, GK.nmk_nil, GK.nmk_int, GK.nmk_str, GK.nmk_kT, GK.nmk_kv, GK.nmk_none, GK.keyOk_tup, GK.exS_ndn, GK.inK_tup, GK.inN_mk, GK.ixD_dictT, GK.getN_mk, GK.optD_some, GK.setSN_eq, GK.setN_mk, GK.b1D_tupN, GK.b1D_lenK, GK.b1D_lenD, GK.evE_lns, GK.evE_pk2, GK.exS_fst, Bool.false_and, Bool.and_false, GK.binI_add_nat, GK.binI_shr_nat, GK.binI_and1_nat, GK.deq_nat, GK.cmpop_lt_nat, GK.cmpop_le_nat, GK.cmpop_gt_nat, GK.cmpop_ge_nat, GK.binI_or_nat, GK.binI_xor_nat, GK.mmD_maxN, GK.mmD_minN, GK.inD_nats, GK.inF_nats, GK.intsD_nats, GK.sum_cast, List.length_map, List.length_append, List.length_reverse, GK.lenOk_of (show ts.length ≤ 16777216 by omega), GK.lenOk_of (show P.length + 1 + ts.length ≤ 16777216 by omega)]
theorem laid_close (K i n b : Nat) (d0 : D) (ts : List D) (ss : List Stp) (hs us : List Nat) (P : List D) (j : Option Sl × Option Sl × Option Sl × Option Sl × Option Sl) (hh : hs.length ≤ 1000) (hs' : ss.length ≤ 1000) (hu : us.length = ts.length) (ht : ts.length ≤ 4) : ∃ j', Go (Tl K) (Cl K) 1 (LSt d0 i ss (hs ++ us) (P ++ [mkP (.tuple [gD n b, .tuple ts]) true]) j) (LSt d0 i (ss ++ [⟨n, b, us⟩]) (hs ++ [i + ss.length]) P j') := by
  refine ⟨(some ⟨.f, .tuple [gD n b, .tuple ts]⟩, some (fB true), some (fI (ts.length : Nat)), some ⟨.f, .tuple (us.map nD)⟩, j.2.2.2.2), go_one (laid_t _ _ _ _ _ _ _ _) ?_⟩
  have en : hs.length + ts.length - ts.length = hs.length := by omega
  have ed : (hs.map nD ++ us.map nD).drop hs.length = us.map nD := by rw [← List.map_append, ← List.map_drop, List.drop_left]
  have et : (hs.map nD ++ us.map nD).take hs.length = hs.map nD := by rw [← List.map_append, ← List.map_take, List.take_left]
  have ew : i + (ss.length + 1) - 1 = i + ss.length := by omega
  simp only [Cl, LSt, mkP, gD, i_law_laid_0, i_law_laid_1, GK.ok_bind, GK.pure_M, GK.bind_assoc', GK.vm_f, GK.vm_o, GK.vm_p, GK.vm_vm, GK.rdV_mk, GK.rdV_fI, GK.rdV_fB, GK.evE_var, GK.evE_int, GK.evE_bl, GK.evE_non, GK.evE_str, GK.evE_bin, GK.evE_neg, GK.evE_inv, GK.evE_cmp, GK.ifM_t, GK.ifM_f, GK.evE_chn, GK.evE_isN, GK.evE_notN, GK.evE_and, GK.evE_or, GK.evE_not, GK.evE_ife, GK.evE_tup, GK.evE_lst, GK.evE_ix, GK.evE_sl, GK.evE_call, GK.evE_b1, GK.evE_isi, GK.evE_lc, GK.evE_lrg, GK.evF_nil, GK.evF_cons, GK.evA_nil, GK.evA_cons, GK.getI_int, GK.evO_none, GK.evO_some, GK.evC_none, GK.evC_some, GK.evI_rg1, GK.evI_rg2, GK.evI_seq, GK.seqF_nx, GK.seqF_rt, GK.seqF_bk, GK.seqF_ct, GK.exSs_nil, GK.exSs_cons, GK.exSs_frz, GK.exS_asg, GK.exS_setix, GK.exS_app, GK.exS_ext, GK.exS_exp, GK.exS_ret, GK.exS_retN, GK.exS_ite, GK.exS_for, GK.exS_whl, GK.exS_brk, GK.exS_cont, GK.exS_pass, GK.fin_rt, GK.fin_nx, GK.bindT_nm, GK.bindT_nmo, GK.bindT_nI, GK.bindT_nB, GK.bindT_tp2, GK.bindT_tp3, GK.bindT_tl5, GK.fI_d, GK.fB_d, GK.fI_m, GK.fB_m, GK.asF_f, GK.asF_o, GK.asF_fI, GK.asF_fB, GK.asB_b, GK.argS_f, GK.argS_o, GK.argS_p, GK.argS_v, GK.argS_fI, GK.argS_fB, GK.retS_f, GK.retS_o, GK.retS_fI, GK.retS_fB, GK.retP_o, GK.retS_p, GK.ownG_o, GK.ownL_eq, GK.frzG_o, GK.frzG_f, GK.frzG_fI, GK.frzG_fB, GK.frzR_eq, GK.extG_list, GK.isF_f, GK.isF_o, GK.isF_p, GK.binop_int, GK.binop_cat, GK.binop_rep, GK.ckI_t, GK.ckO_t, GK.unop_neg, GK.unop_inv, GK.cmpop_eq, GK.cmpop_ne, GK.optS_some, GK.ixD_list, GK.ixD_tup, GK.slD_list, GK.b1D_len, GK.b1D_lenT, GK.b1D_list, GK.b1D_listT, GK.b1D_tup, GK.b1D_tupT, GK.b1D_int, GK.b1D_intN, GK.b1D_sum, GK.sumS_some, GK.allS_some, GK.b1D_all, GK.b1D_any, GK.itemsD_list, GK.itemsD_tup, GK.ix_t0, GK.ix_t1, GK.ix_t2, GK.nD_def, GK.fI_eq', GK.fB_eq', GK.deq_pair, GK.natDec, GK.decide_self, GK.notP_rg1, GK.notP_rg2, GK.notPs_f, GK.notPs_o, GK.notP_seq, GK.esLen, Nat.reduceLeDiff, decide_true, decide_false, List.getElem?_cons_zero, List.getElem?_cons_succ, List.set_cons_zero, List.set_cons_succ, List.length_cons, List.length_nil, List.map_cons, List.map_nil, List.replicate_succ, List.replicate_zero, List.append_nil, List.nil_append, List.cons_append, Nat.reduceAdd, Nat.reduceSub, GK.startR, GK.tgIn, GK.isRg, List.contains_cons, List.all_cons, List.all_nil, Bool.and_true, Bool.true_and, Bool.not_true, Bool.not_false, beq_self_eq_true, Bool.or_true, Bool.true_or, Bool.or_false, Bool.false_or, Nat.not_lt_zero, GK.wipeR, GK.isNone, GK.isiD, GK.evE_glb, GK.evE_sst, GK.evE_gk, GK.evE_gdx, GK.evE_dsp, GK.evP_nil, GK.evP_cons, GK.evE_mm, GK.evE_rvl, GK.evI_rg3, GK.evI_enm, GK.evI_rev, GK.evI_zp, GK.evI_rvr, GK.notP_rg3, GK.notP_rvr, GK.notP_enm, GK.notP_rev, GK.notP_zp, GK.ckTu_t, GK.binop_catT, GK.slD_tup, GK.rvD_list, GK.cmpop_is, GK.cmpop_isnot, GK.negM_ok', GK.cmpop_in, GK.cmpop_notin, GK.cmpop_inT, GK.cmpop_notinT, GK.beq_t, GK.beq_f, GK.evE_dnw, GK.evE_dsp1, GK.setO_eq, GK.setS_list, GK.setS_dict, GK.keyOk_int, GK.keyOk_str, GK.ixD_dictI, GK.ixD_dictS, GK.cmpop_inK, GK.cmpop_notinK, GK.inK_int, GK.inK_str, GK.look_kT, GK.put_kT, GK.deq_bool, GK.lentE_var, GK.lentE_call, GK.lentE_lst, GK.lentE_tup, GK.lentE_ix, GK.lentE_sl, GK.lentE_bin, GK.lentE_b1, GK.lentE_lc, GK.lentE_lrg, GK.lentE_rvl, GK.lentE_sst, GK.lentE_gk, GK.lentE_gdx, GK.lentE_dsp, GK.lentO_p, GK.lentO_f, GK.lentO_o, GK.frzB_t, GK.frzB_f, GK.nmkD_list, GK.nmkD_tuple, GK.nmkD_int, GK.nmkD_bool, GK.nmkD_dict, GK.nmk_nil, GK.nmk_int, GK.nmk_str, GK.nmk_kT, GK.nmk_kv, GK.nmk_none, GK.keyOk_tup, GK.exS_ndn, GK.inK_tup, GK.inN_mk, GK.ixD_dictT, GK.getN_mk, GK.optD_some, GK.setSN_eq, GK.setN_mk, GK.b1D_tupN, GK.b1D_lenK, GK.b1D_lenD, GK.evE_lns, GK.evE_pk2, GK.exS_fst, Bool.false_and, Bool.and_false, GK.binI_add_nat, GK.binI_shr_nat, GK.binI_and1_nat, GK.deq_nat, GK.cmpop_lt_nat, GK.cmpop_le_nat, GK.cmpop_gt_nat, GK.cmpop_ge_nat, GK.binI_or_nat, GK.binI_xor_nat, GK.mmD_maxN, GK.mmD_minN, GK.inD_nats, GK.inF_nats, GK.intsD_nats, GK.sum_cast, GK.exS_ef, GK.exS_eft, GK.efC_rz, GK.efC_v, GK.efT_rz, GK.efT_v, GK.efD_asg, GK.efD_ret, GK.efD_exp, GK.efD_app, GK.efD_set, GK.efX_call, GK.efX_pop, GK.efX_popA, GK.efX_popK, GK.efG_ok, GK.efG_rz, GK.popG_eq, GK.popL_snoc, GK.popGA_eq, GK.popGK_eq, GK.poE_hd, GK.poE_ixn, GK.ixL_tup, GK.ixL_list, GK.poE_isN, GK.poE_eqS, GK.poE_lst1, GK.poE_opI, GK.poE_ixv, GK.ixV_int, GK.poX_hd, GK.poX_ixn, GK.poX_isN, GK.poX_eqS, GK.poX_lst1, GK.ekX_asg, GK.ekX_ret, GK.ekX_exp, GK.ekX_set, GK.exS_ins, GK.popL_snoc, GK.isiD, List.length_map, List.length_append, hu, GK.binI_sub_nat (show ts.length ≤ hs.length + ts.length by omega), en, GK.cutD_lo', GK.cutD_hi', ed, et, GK.lenOk_of (show ss.length + 1 ≤ 16777216 by omega), GK.lenOk_of (show hs.length + 1 ≤ 16777216 by omega), GK.binI_sub_nat (show 1 ≤ i + (ss.length + 1) by omega), ew, List.map_append]
  try rfl
theorem lyL_len {i k : Nat} : ∀ (ts : List D) (ss : List Stp), (∀ t ∈ ts, TrOk i k t) → (lyL (lyF i k) ts ss).1.length = ts.length ∧ (lyL (lyF i k) ts ss).2.length = ss.length + (ts.map (szF k)).sum := fun ts ss h =>
  (lyL_ok (i := i) (f := lyF i k) (c := szF k) ts ss fun t ht ss => ly_ok i k t ss (h t ht)).2
theorem laid_goL {K i k c : Nat} {d0 : D} {B1 : Nat} (hone : ∀ (d : D) (ss : List Stp) (hs : List Nat) (P : List D) (j : Option Sl × Option Sl × Option Sl × Option Sl × Option Sl), TrOk i k d → ss.length + szF k d ≤ 1000 → hs.length + B1 ≤ 1000 → P.length + B1 ≤ 1000 → ∃ n j', n ≤ c ∧ Go (Tl K) (Cl K) n (LSt d0 i ss hs (P ++ [mkP d false]) j) (LSt d0 i (lyF i k d ss).2 (hs ++ [(lyF i k d ss).1]) P j')) :
    ∀ (ts : List D) (ss : List Stp) (hs : List Nat) (P : List D) (j : Option Sl × Option Sl × Option Sl × Option Sl × Option Sl), (∀ t ∈ ts, TrOk i k t) → ss.length + (ts.map (szF k)).sum ≤ 1000 → hs.length + ts.length + B1 ≤ 1000 → P.length + ts.length + B1 ≤ 1000 → ∃ n j', n ≤ ts.length * c ∧ Go (Tl K) (Cl K) n (LSt d0 i ss hs (P ++ ts.reverse.map fun t => mkP t false) j) (LSt d0 i (lyL (lyF i k) ts ss).2 (hs ++ (lyL (lyF i k) ts ss).1) P j')
  | [], ss, hs, P, j, _, _, _, _ => ⟨0, j, Nat.zero_le _, by
      show Go _ _ 0 (LSt d0 i ss hs (P ++ []) j) (LSt d0 i ss (hs ++ []) P j)
      rw [List.append_nil, List.append_nil]
      exact .zero⟩
  | t :: ts, ss, hs, P, j, h, h1, h2, h3 => by
    rw [List.map_cons, List.sum_cons] at h1
    rw [List.length_cons] at h2 h3
    have ht := h t List.mem_cons_self
    obtain ⟨n1, j1, b1, g1⟩ := hone t ss hs (P ++ ts.reverse.map fun t => mkP t false) j ht (by omega) (by omega) (by rw [List.length_append, List.length_map, List.length_reverse]; omega)
    have hl := (ly_ok i k t ss ht).2
    obtain ⟨n2, j2, b2, g2⟩ := laid_goL hone ts (lyF i k t ss).2 (hs ++ [(lyF i k t ss).1]) P j1 (fun t' ht' => h t' (List.mem_cons_of_mem _ ht')) (by omega) (by rw [List.length_append, List.length_cons, List.length_nil]; omega) (by omega)
    refine ⟨n1 + n2, j2, by rw [List.length_cons, Nat.succ_mul]; omega, ?_⟩
    have e1 : P ++ (t :: ts).reverse.map (fun t => mkP t false) = P ++ ts.reverse.map (fun t => mkP t false) ++ [mkP t false] := by
      rw [List.reverse_cons, List.map_append, List.append_assoc]
      rfl
    rw [e1]
    rw [List.append_assoc] at g2
    exact g1.trans g2
theorem laid_go (K i : Nat) (d0 : D) : ∀ (k : Nat) (d : D) (ss : List Stp) (hs : List Nat) (P : List D) (j : Option Sl × Option Sl × Option Sl × Option Sl × Option Sl), TrOk i k d → ss.length + szF k d ≤ 1000 → hs.length + (5 * k + 1) ≤ 1000 → P.length + (5 * k + 1) ≤ 1000 →
    ∃ n j', n ≤ 6 ^ k ∧ Go (Tl K) (Cl K) n (LSt d0 i ss hs (P ++ [mkP d false]) j) (LSt d0 i (lyF i k d ss).2 (hs ++ [(lyF i k d ss).1]) P j')
  | k, d, ss, hs, P, j, h, h1, h2, h3 => by
    have leaf : ∀ w, d = nD w → ∃ n j', n ≤ 6 ^ k ∧ Go (Tl K) (Cl K) n (LSt d0 i ss hs (P ++ [mkP d false]) j) (LSt d0 i (lyF i k d ss).2 (hs ++ [(lyF i k d ss).1]) P j') := fun w e => by
      obtain ⟨j', g⟩ := laid_leaf K i w d0 ss hs P j (by omega)
      rw [e, lyF_leaf]
      exact ⟨1, j', Nat.pow_pos (by decide), g⟩
    match k, h with
    | 0, ⟨w, _, e⟩ => exact leaf w e
    | k + 1, h =>
      rcases h with ⟨w, _, e⟩ | ⟨n, b, ts, hn, hb, hl, ht, e⟩
      · exact leaf w e
      · subst e
        rw [szF_node] at h1
        obtain ⟨j1, g1⟩ := laid_open K i n b d0 ts ss hs P j (by omega) (by omega)
        obtain ⟨n2, j2, b2, g2⟩ := laid_goL (B1 := 5 * k + 1) (fun d ss hs P j a1 a2 a3 a4 => laid_go K i d0 k d ss hs P j a1 a2 a3 a4) ts ss hs (P ++ [mkP (.tuple [gD n b, .tuple ts]) true]) j1 ht (by omega) (by omega) (by rw [List.length_append, List.length_cons, List.length_nil]; omega)
        obtain ⟨l1, l2⟩ := lyL_len (i := i) (k := k) ts ss ht
        obtain ⟨j3, g3⟩ := laid_close K i n b d0 ts (lyL (lyF i k) ts ss).2 hs (lyL (lyF i k) ts ss).1 P j2 (by omega) (by omega) l1 (by omega)
        have p6 : 0 < 6 ^ k := Nat.pow_pos (by decide)
        have : ts.length * 6 ^ k ≤ 4 * 6 ^ k := Nat.mul_le_mul_right _ (by omega)
        exact ⟨1 + n2 + 1, j3, by rw [Nat.pow_succ]; omega, (g1.trans g2).trans g3⟩
def w_laid : S := .whl (.cmp .Gt (.b1 .len (.var 4)) (.int 0)) (.cons (.ef (.asg (.tp [5, 6])) (.pop 4) .hd) (.cons i_law_laid_0 .nil))
theorem b_laid_eq : b_law_laid = (.cons (.asg (.nm 2) (.lst .nil)) (.cons (.asg (.nm 3) (.lst .nil)) (.cons (.asg (.nm 4) (.lst (.cons (.tup (.cons (.var 0) (.cons (.bl false) .nil))) .nil))) (.cons w_laid (.cons (.ret (.tup (.cons (.var 1) (.cons (.b1 .tuple (.var 2)) (.cons (.ix (.var 3) (.int 0)) .nil))))) .nil))))) := rfl
theorem law_laid_run (K i k : Nat) (d : D) (h : TrOk i k d) (hz : szF k d ≤ 600) (hk : k ≤ 11) : run (K + 1) "_law_laid" [⟨.f, d⟩, fI (i : Nat)] = .ok ⟨.f, circD i (lyF i k d []).2 (lyF i k d []).1⟩ := by
  rw [run_law_laid, runB_eq]
  obtain ⟨n, j', hn, g⟩ := laid_go K i d k d [] [] [] (none, none, none, none, none) h (by rw [List.length_nil]; omega) (by rw [List.length_nil]; omega) (by rw [List.length_nil]; omega)
  have h6 : 6 ^ k ≤ 6 ^ 11 := Nat.pow_le_pow_right (by decide) hk
  have h6' : 6 ^ 11 = 362797056 := by decide
  have efu : fu = n + ((fu - n - 1) + 1) := by
    have : fu = 1000000000 := rfl
    omega
  have gg := g (fu - n - 1 + 1)
  rw [← efu] at gg
  have te : Tl K (LSt d i (lyF i k d []).2 ([] ++ [(lyF i k d []).1]) [] j') = .ok false := by
    simp only [Tl, LSt, GK.ok_bind, GK.pure_M, GK.bind_assoc', GK.vm_f, GK.vm_o, GK.vm_p, GK.vm_vm, GK.rdV_mk, GK.rdV_fI, GK.rdV_fB, GK.evE_var, GK.evE_int, GK.evE_bl, GK.evE_non, GK.evE_str, GK.evE_bin, GK.evE_neg, GK.evE_inv, GK.evE_cmp, GK.ifM_t, GK.ifM_f, GK.evE_chn, GK.evE_isN, GK.evE_notN, GK.evE_and, GK.evE_or, GK.evE_not, GK.evE_ife, GK.evE_tup, GK.evE_lst, GK.evE_ix, GK.evE_sl, GK.evE_call, GK.evE_b1, GK.evE_isi, GK.evE_lc, GK.evE_lrg, GK.evF_nil, GK.evF_cons, GK.evA_nil, GK.evA_cons, GK.getI_int, GK.evO_none, GK.evO_some, GK.evC_none, GK.evC_some, GK.evI_rg1, GK.evI_rg2, GK.evI_seq, GK.seqF_nx, GK.seqF_rt, GK.seqF_bk, GK.seqF_ct, GK.exSs_nil, GK.exSs_cons, GK.exSs_frz, GK.exS_asg, GK.exS_setix, GK.exS_app, GK.exS_ext, GK.exS_exp, GK.exS_ret, GK.exS_retN, GK.exS_ite, GK.exS_for, GK.exS_whl, GK.exS_brk, GK.exS_cont, GK.exS_pass, GK.fin_rt, GK.fin_nx, GK.bindT_nm, GK.bindT_nmo, GK.bindT_nI, GK.bindT_nB, GK.bindT_tp2, GK.bindT_tp3, GK.bindT_tl5, GK.fI_d, GK.fB_d, GK.fI_m, GK.fB_m, GK.asF_f, GK.asF_o, GK.asF_fI, GK.asF_fB, GK.asB_b, GK.argS_f, GK.argS_o, GK.argS_p, GK.argS_v, GK.argS_fI, GK.argS_fB, GK.retS_f, GK.retS_o, GK.retS_fI, GK.retS_fB, GK.retP_o, GK.retS_p, GK.ownG_o, GK.ownL_eq, GK.frzG_o, GK.frzG_f, GK.frzG_fI, GK.frzG_fB, GK.frzR_eq, GK.extG_list, GK.isF_f, GK.isF_o, GK.isF_p, GK.binop_int, GK.binop_cat, GK.binop_rep, GK.ckI_t, GK.ckO_t, GK.unop_neg, GK.unop_inv, GK.cmpop_eq, GK.cmpop_ne, GK.optS_some, GK.ixD_list, GK.ixD_tup, GK.slD_list, GK.b1D_len, GK.b1D_lenT, GK.b1D_list, GK.b1D_listT, GK.b1D_tup, GK.b1D_tupT, GK.b1D_int, GK.b1D_intN, GK.b1D_sum, GK.sumS_some, GK.allS_some, GK.b1D_all, GK.b1D_any, GK.itemsD_list, GK.itemsD_tup, GK.ix_t0, GK.ix_t1, GK.ix_t2, GK.nD_def, GK.fI_eq', GK.fB_eq', GK.deq_pair, GK.natDec, GK.decide_self, GK.notP_rg1, GK.notP_rg2, GK.notPs_f, GK.notPs_o, GK.notP_seq, GK.esLen, Nat.reduceLeDiff, decide_true, decide_false, List.getElem?_cons_zero, List.getElem?_cons_succ, List.set_cons_zero, List.set_cons_succ, List.length_cons, List.length_nil, List.map_cons, List.map_nil, List.replicate_succ, List.replicate_zero, List.append_nil, List.nil_append, List.cons_append, Nat.reduceAdd, Nat.reduceSub, GK.startR, GK.tgIn, GK.isRg, List.contains_cons, List.all_cons, List.all_nil, Bool.and_true, Bool.true_and, Bool.not_true, Bool.not_false, beq_self_eq_true, Bool.or_true, Bool.true_or, Bool.or_false, Bool.false_or, Nat.not_lt_zero, GK.wipeR, GK.isNone, GK.isiD, GK.evE_glb, GK.evE_sst, GK.evE_gk, GK.evE_gdx, GK.evE_dsp, GK.evP_nil, GK.evP_cons, GK.evE_mm, GK.evE_rvl, GK.evI_rg3, GK.evI_enm, GK.evI_rev, GK.evI_zp, GK.evI_rvr, GK.notP_rg3, GK.notP_rvr, GK.notP_enm, GK.notP_rev, GK.notP_zp, GK.ckTu_t, GK.binop_catT, GK.slD_tup, GK.rvD_list, GK.cmpop_is, GK.cmpop_isnot, GK.negM_ok', GK.cmpop_in, GK.cmpop_notin, GK.cmpop_inT, GK.cmpop_notinT, GK.beq_t, GK.beq_f, GK.evE_dnw, GK.evE_dsp1, GK.setO_eq, GK.setS_list, GK.setS_dict, GK.keyOk_int, GK.keyOk_str, GK.ixD_dictI, GK.ixD_dictS, GK.cmpop_inK, GK.cmpop_notinK, GK.inK_int, GK.inK_str, GK.look_kT, GK.put_kT, GK.deq_bool, GK.lentE_var, GK.lentE_call, GK.lentE_lst, GK.lentE_tup, GK.lentE_ix, GK.lentE_sl, GK.lentE_bin, GK.lentE_b1, GK.lentE_lc, GK.lentE_lrg, GK.lentE_rvl, GK.lentE_sst, GK.lentE_gk, GK.lentE_gdx, GK.lentE_dsp, GK.lentO_p, GK.lentO_f, GK.lentO_o, GK.frzB_t, GK.frzB_f, GK.nmkD_list, GK.nmkD_tuple, GK.nmkD_int, GK.nmkD_bool, GK.nmkD_dict, GK.nmk_nil, GK.nmk_int, GK.nmk_str, GK.nmk_kT, GK.nmk_kv, GK.nmk_none, GK.keyOk_tup, GK.exS_ndn, GK.inK_tup, GK.inN_mk, GK.ixD_dictT, GK.getN_mk, GK.optD_some, GK.setSN_eq, GK.setN_mk, GK.b1D_tupN, GK.b1D_lenK, GK.b1D_lenD, GK.evE_lns, GK.evE_pk2, GK.exS_fst, Bool.false_and, Bool.and_false, GK.binI_add_nat, GK.binI_shr_nat, GK.binI_and1_nat, GK.deq_nat, GK.cmpop_lt_nat, GK.cmpop_le_nat, GK.cmpop_gt_nat, GK.cmpop_ge_nat, GK.binI_or_nat, GK.binI_xor_nat, GK.mmD_maxN, GK.mmD_minN, GK.inD_nats, GK.inF_nats, GK.intsD_nats, GK.sum_cast]
    try rfl
  have ge : GK.whlGo (Tl K) (Cl K) fu (LSt d i [] [] [mkP d false] (none, none, none, none, none)) = .ok (.nx (LSt d i (lyF i k d []).2 [(lyF i k d []).1] [] j')) := by
    refine gg.trans ?_
    simp only [GK.whlGo, te, GK.ok_bind]
    rfl
  have hw : GK.exS (run K) fu w_laid [some ⟨.f, d⟩, some (fI (i : Nat)), some ⟨.o, .list []⟩, some ⟨.o, .list []⟩, some ⟨.o, .list [PyData.tuple [d, .bool false]]⟩, none, none, none, none, none] = .ok (.nx (LSt d i (lyF i k d []).2 [(lyF i k d []).1] [] j')) := ge
  rw [b_laid_eq]
  simp only [GK.ok_bind, GK.pure_M, GK.bind_assoc', GK.vm_f, GK.vm_o, GK.vm_p, GK.vm_vm, GK.rdV_mk, GK.rdV_fI, GK.rdV_fB, GK.evE_var, GK.evE_int, GK.evE_bl, GK.evE_non, GK.evE_str, GK.evE_bin, GK.evE_neg, GK.evE_inv, GK.evE_cmp, GK.ifM_t, GK.ifM_f, GK.evE_chn, GK.evE_isN, GK.evE_notN, GK.evE_and, GK.evE_or, GK.evE_not, GK.evE_ife, GK.evE_tup, GK.evE_lst, GK.evE_ix, GK.evE_sl, GK.evE_call, GK.evE_b1, GK.evE_isi, GK.evE_lc, GK.evE_lrg, GK.evF_nil, GK.evF_cons, GK.evA_nil, GK.evA_cons, GK.getI_int, GK.evO_none, GK.evO_some, GK.evC_none, GK.evC_some, GK.evI_rg1, GK.evI_rg2, GK.evI_seq, GK.seqF_nx, GK.seqF_rt, GK.seqF_bk, GK.seqF_ct, GK.exSs_nil, GK.exSs_cons, GK.exSs_frz, GK.exS_asg, GK.exS_setix, GK.exS_app, GK.exS_ext, GK.exS_exp, GK.exS_ret, GK.exS_retN, GK.exS_ite, GK.exS_for, GK.exS_whl, GK.exS_brk, GK.exS_cont, GK.exS_pass, GK.fin_rt, GK.fin_nx, GK.bindT_nm, GK.bindT_nmo, GK.bindT_nI, GK.bindT_nB, GK.bindT_tp2, GK.bindT_tp3, GK.bindT_tl5, GK.fI_d, GK.fB_d, GK.fI_m, GK.fB_m, GK.asF_f, GK.asF_o, GK.asF_fI, GK.asF_fB, GK.asB_b, GK.argS_f, GK.argS_o, GK.argS_p, GK.argS_v, GK.argS_fI, GK.argS_fB, GK.retS_f, GK.retS_o, GK.retS_fI, GK.retS_fB, GK.retP_o, GK.retS_p, GK.ownG_o, GK.ownL_eq, GK.frzG_o, GK.frzG_f, GK.frzG_fI, GK.frzG_fB, GK.frzR_eq, GK.extG_list, GK.isF_f, GK.isF_o, GK.isF_p, GK.binop_int, GK.binop_cat, GK.binop_rep, GK.ckI_t, GK.ckO_t, GK.unop_neg, GK.unop_inv, GK.cmpop_eq, GK.cmpop_ne, GK.optS_some, GK.ixD_list, GK.ixD_tup, GK.slD_list, GK.b1D_len, GK.b1D_lenT, GK.b1D_list, GK.b1D_listT, GK.b1D_tup, GK.b1D_tupT, GK.b1D_int, GK.b1D_intN, GK.b1D_sum, GK.sumS_some, GK.allS_some, GK.b1D_all, GK.b1D_any, GK.itemsD_list, GK.itemsD_tup, GK.ix_t0, GK.ix_t1, GK.ix_t2, GK.nD_def, GK.fI_eq', GK.fB_eq', GK.deq_pair, GK.natDec, GK.decide_self, GK.notP_rg1, GK.notP_rg2, GK.notPs_f, GK.notPs_o, GK.notP_seq, GK.esLen, Nat.reduceLeDiff, decide_true, decide_false, List.getElem?_cons_zero, List.getElem?_cons_succ, List.set_cons_zero, List.set_cons_succ, List.length_cons, List.length_nil, List.map_cons, List.map_nil, List.replicate_succ, List.replicate_zero, List.append_nil, List.nil_append, List.cons_append, Nat.reduceAdd, Nat.reduceSub, GK.startR, GK.tgIn, GK.isRg, List.contains_cons, List.all_cons, List.all_nil, Bool.and_true, Bool.true_and, Bool.not_true, Bool.not_false, beq_self_eq_true, Bool.or_true, Bool.true_or, Bool.or_false, Bool.false_or, Nat.not_lt_zero, GK.wipeR, GK.isNone, GK.isiD, GK.evE_glb, GK.evE_sst, GK.evE_gk, GK.evE_gdx, GK.evE_dsp, GK.evP_nil, GK.evP_cons, GK.evE_mm, GK.evE_rvl, GK.evI_rg3, GK.evI_enm, GK.evI_rev, GK.evI_zp, GK.evI_rvr, GK.notP_rg3, GK.notP_rvr, GK.notP_enm, GK.notP_rev, GK.notP_zp, GK.ckTu_t, GK.binop_catT, GK.slD_tup, GK.rvD_list, GK.cmpop_is, GK.cmpop_isnot, GK.negM_ok', GK.cmpop_in, GK.cmpop_notin, GK.cmpop_inT, GK.cmpop_notinT, GK.beq_t, GK.beq_f, GK.evE_dnw, GK.evE_dsp1, GK.setO_eq, GK.setS_list, GK.setS_dict, GK.keyOk_int, GK.keyOk_str, GK.ixD_dictI, GK.ixD_dictS, GK.cmpop_inK, GK.cmpop_notinK, GK.inK_int, GK.inK_str, GK.look_kT, GK.put_kT, GK.deq_bool, GK.lentE_var, GK.lentE_call, GK.lentE_lst, GK.lentE_tup, GK.lentE_ix, GK.lentE_sl, GK.lentE_bin, GK.lentE_b1, GK.lentE_lc, GK.lentE_lrg, GK.lentE_rvl, GK.lentE_sst, GK.lentE_gk, GK.lentE_gdx, GK.lentE_dsp, GK.lentO_p, GK.lentO_f, GK.lentO_o, GK.frzB_t, GK.frzB_f, GK.nmkD_list, GK.nmkD_tuple, GK.nmkD_int, GK.nmkD_bool, GK.nmkD_dict, GK.nmk_nil, GK.nmk_int, GK.nmk_str, GK.nmk_kT, GK.nmk_kv, GK.nmk_none, GK.keyOk_tup, GK.exS_ndn, GK.inK_tup, GK.inN_mk, GK.ixD_dictT, GK.getN_mk, GK.optD_some, GK.setSN_eq, GK.setN_mk, GK.b1D_tupN, GK.b1D_lenK, GK.b1D_lenD, GK.evE_lns, GK.evE_pk2, GK.exS_fst, Bool.false_and, Bool.and_false, GK.binI_add_nat, GK.binI_shr_nat, GK.binI_and1_nat, GK.deq_nat, GK.cmpop_lt_nat, GK.cmpop_le_nat, GK.cmpop_gt_nat, GK.cmpop_ge_nat, GK.binI_or_nat, GK.binI_xor_nat, GK.mmD_maxN, GK.mmD_minN, GK.inD_nats, GK.inF_nats, GK.intsD_nats, GK.sum_cast, hw]
  simp only [LSt, circD, GK.ok_bind, GK.pure_M, GK.bind_assoc', GK.vm_f, GK.vm_o, GK.vm_p, GK.vm_vm, GK.rdV_mk, GK.rdV_fI, GK.rdV_fB, GK.evE_var, GK.evE_int, GK.evE_bl, GK.evE_non, GK.evE_str, GK.evE_bin, GK.evE_neg, GK.evE_inv, GK.evE_cmp, GK.ifM_t, GK.ifM_f, GK.evE_chn, GK.evE_isN, GK.evE_notN, GK.evE_and, GK.evE_or, GK.evE_not, GK.evE_ife, GK.evE_tup, GK.evE_lst, GK.evE_ix, GK.evE_sl, GK.evE_call, GK.evE_b1, GK.evE_isi, GK.evE_lc, GK.evE_lrg, GK.evF_nil, GK.evF_cons, GK.evA_nil, GK.evA_cons, GK.getI_int, GK.evO_none, GK.evO_some, GK.evC_none, GK.evC_some, GK.evI_rg1, GK.evI_rg2, GK.evI_seq, GK.seqF_nx, GK.seqF_rt, GK.seqF_bk, GK.seqF_ct, GK.exSs_nil, GK.exSs_cons, GK.exSs_frz, GK.exS_asg, GK.exS_setix, GK.exS_app, GK.exS_ext, GK.exS_exp, GK.exS_ret, GK.exS_retN, GK.exS_ite, GK.exS_for, GK.exS_whl, GK.exS_brk, GK.exS_cont, GK.exS_pass, GK.fin_rt, GK.fin_nx, GK.bindT_nm, GK.bindT_nmo, GK.bindT_nI, GK.bindT_nB, GK.bindT_tp2, GK.bindT_tp3, GK.bindT_tl5, GK.fI_d, GK.fB_d, GK.fI_m, GK.fB_m, GK.asF_f, GK.asF_o, GK.asF_fI, GK.asF_fB, GK.asB_b, GK.argS_f, GK.argS_o, GK.argS_p, GK.argS_v, GK.argS_fI, GK.argS_fB, GK.retS_f, GK.retS_o, GK.retS_fI, GK.retS_fB, GK.retP_o, GK.retS_p, GK.ownG_o, GK.ownL_eq, GK.frzG_o, GK.frzG_f, GK.frzG_fI, GK.frzG_fB, GK.frzR_eq, GK.extG_list, GK.isF_f, GK.isF_o, GK.isF_p, GK.binop_int, GK.binop_cat, GK.binop_rep, GK.ckI_t, GK.ckO_t, GK.unop_neg, GK.unop_inv, GK.cmpop_eq, GK.cmpop_ne, GK.optS_some, GK.ixD_list, GK.ixD_tup, GK.slD_list, GK.b1D_len, GK.b1D_lenT, GK.b1D_list, GK.b1D_listT, GK.b1D_tup, GK.b1D_tupT, GK.b1D_int, GK.b1D_intN, GK.b1D_sum, GK.sumS_some, GK.allS_some, GK.b1D_all, GK.b1D_any, GK.itemsD_list, GK.itemsD_tup, GK.ix_t0, GK.ix_t1, GK.ix_t2, GK.nD_def, GK.fI_eq', GK.fB_eq', GK.deq_pair, GK.natDec, GK.decide_self, GK.notP_rg1, GK.notP_rg2, GK.notPs_f, GK.notPs_o, GK.notP_seq, GK.esLen, Nat.reduceLeDiff, decide_true, decide_false, List.getElem?_cons_zero, List.getElem?_cons_succ, List.set_cons_zero, List.set_cons_succ, List.length_cons, List.length_nil, List.map_cons, List.map_nil, List.replicate_succ, List.replicate_zero, List.append_nil, List.nil_append, List.cons_append, Nat.reduceAdd, Nat.reduceSub, GK.startR, GK.tgIn, GK.isRg, List.contains_cons, List.all_cons, List.all_nil, Bool.and_true, Bool.true_and, Bool.not_true, Bool.not_false, beq_self_eq_true, Bool.or_true, Bool.true_or, Bool.or_false, Bool.false_or, Nat.not_lt_zero, GK.wipeR, GK.isNone, GK.isiD, GK.evE_glb, GK.evE_sst, GK.evE_gk, GK.evE_gdx, GK.evE_dsp, GK.evP_nil, GK.evP_cons, GK.evE_mm, GK.evE_rvl, GK.evI_rg3, GK.evI_enm, GK.evI_rev, GK.evI_zp, GK.evI_rvr, GK.notP_rg3, GK.notP_rvr, GK.notP_enm, GK.notP_rev, GK.notP_zp, GK.ckTu_t, GK.binop_catT, GK.slD_tup, GK.rvD_list, GK.cmpop_is, GK.cmpop_isnot, GK.negM_ok', GK.cmpop_in, GK.cmpop_notin, GK.cmpop_inT, GK.cmpop_notinT, GK.beq_t, GK.beq_f, GK.evE_dnw, GK.evE_dsp1, GK.setO_eq, GK.setS_list, GK.setS_dict, GK.keyOk_int, GK.keyOk_str, GK.ixD_dictI, GK.ixD_dictS, GK.cmpop_inK, GK.cmpop_notinK, GK.inK_int, GK.inK_str, GK.look_kT, GK.put_kT, GK.deq_bool, GK.lentE_var, GK.lentE_call, GK.lentE_lst, GK.lentE_tup, GK.lentE_ix, GK.lentE_sl, GK.lentE_bin, GK.lentE_b1, GK.lentE_lc, GK.lentE_lrg, GK.lentE_rvl, GK.lentE_sst, GK.lentE_gk, GK.lentE_gdx, GK.lentE_dsp, GK.lentO_p, GK.lentO_f, GK.lentO_o, GK.frzB_t, GK.frzB_f, GK.nmkD_list, GK.nmkD_tuple, GK.nmkD_int, GK.nmkD_bool, GK.nmkD_dict, GK.nmk_nil, GK.nmk_int, GK.nmk_str, GK.nmk_kT, GK.nmk_kv, GK.nmk_none, GK.keyOk_tup, GK.exS_ndn, GK.inK_tup, GK.inN_mk, GK.ixD_dictT, GK.getN_mk, GK.optD_some, GK.setSN_eq, GK.setN_mk, GK.b1D_tupN, GK.b1D_lenK, GK.b1D_lenD, GK.evE_lns, GK.evE_pk2, GK.exS_fst, Bool.false_and, Bool.and_false, GK.binI_add_nat, GK.binI_shr_nat, GK.binI_and1_nat, GK.deq_nat, GK.cmpop_lt_nat, GK.cmpop_le_nat, GK.cmpop_gt_nat, GK.cmpop_ge_nat, GK.binI_or_nat, GK.binI_xor_nat, GK.mmD_maxN, GK.mmD_minN, GK.inD_nats, GK.inF_nats, GK.intsD_nats, GK.sum_cast]
  try rfl
/-! spread -/
abbrev zG (i : Nat) (ss : List Stp) : List Nat := gev (fun _ _ vs => 1 + vs.sum) 0 ((List.range i).map fun _ => 0) ss
abbrev tG (i : Nat) (ss : List Stp) : List D := gev (fun n b vs => PyData.tuple [gD n b, .tuple vs]) .none ((List.range i).map nD) ss
theorem spread_run (k i : Nat) (ss : List Stp) (o : Nat) (h : ∀ k s, ss[k]? = some s → StepOk i k s) (ho : o < i + ss.length) (hl : ss.length ≤ 1000) (hi : i ≤ 16) (hz : (zG i ss).getD o 0 ≤ 300) :
    run (k + 1) "spread" [⟨.f, circD i ss o⟩] = .ok ⟨.f, (tG i ss).getD o .none⟩ := by
  have zl : ∀ ss, (zG i ss).length = i + ss.length := fun ss => by rw [gev_len, List.length_map, List.length_range]
  have tl : ∀ ss, (tG i ss).length = i + ss.length := fun ss => by rw [gev_len, List.length_map, List.length_range]
  rw [run_spread, runB_eq]
  simp only [b_spread, circD, GK.ok_bind, GK.pure_M, GK.bind_assoc', GK.vm_f, GK.vm_o, GK.vm_p, GK.vm_vm, GK.rdV_mk, GK.rdV_fI, GK.rdV_fB, GK.evE_var, GK.evE_int, GK.evE_bl, GK.evE_non, GK.evE_str, GK.evE_bin, GK.evE_neg, GK.evE_inv, GK.evE_cmp, GK.ifM_t, GK.ifM_f, GK.evE_chn, GK.evE_isN, GK.evE_notN, GK.evE_and, GK.evE_or, GK.evE_not, GK.evE_ife, GK.evE_tup, GK.evE_lst, GK.evE_ix, GK.evE_sl, GK.evE_call, GK.evE_b1, GK.evE_isi, GK.evE_lc, GK.evE_lrg, GK.evF_nil, GK.evF_cons, GK.evA_nil, GK.evA_cons, GK.getI_int, GK.evO_none, GK.evO_some, GK.evC_none, GK.evC_some, GK.evI_rg1, GK.evI_rg2, GK.evI_seq, GK.seqF_nx, GK.seqF_rt, GK.seqF_bk, GK.seqF_ct, GK.exSs_nil, GK.exSs_cons, GK.exSs_frz, GK.exS_asg, GK.exS_setix, GK.exS_app, GK.exS_ext, GK.exS_exp, GK.exS_ret, GK.exS_retN, GK.exS_ite, GK.exS_for, GK.exS_whl, GK.exS_brk, GK.exS_cont, GK.exS_pass, GK.fin_rt, GK.fin_nx, GK.bindT_nm, GK.bindT_nmo, GK.bindT_nI, GK.bindT_nB, GK.bindT_tp2, GK.bindT_tp3, GK.bindT_tl5, GK.fI_d, GK.fB_d, GK.fI_m, GK.fB_m, GK.asF_f, GK.asF_o, GK.asF_fI, GK.asF_fB, GK.asB_b, GK.argS_f, GK.argS_o, GK.argS_p, GK.argS_v, GK.argS_fI, GK.argS_fB, GK.retS_f, GK.retS_o, GK.retS_fI, GK.retS_fB, GK.retP_o, GK.retS_p, GK.ownG_o, GK.ownL_eq, GK.frzG_o, GK.frzG_f, GK.frzG_fI, GK.frzG_fB, GK.frzR_eq, GK.extG_list, GK.isF_f, GK.isF_o, GK.isF_p, GK.binop_int, GK.binop_cat, GK.binop_rep, GK.ckI_t, GK.ckO_t, GK.unop_neg, GK.unop_inv, GK.cmpop_eq, GK.cmpop_ne, GK.optS_some, GK.ixD_list, GK.ixD_tup, GK.slD_list, GK.b1D_len, GK.b1D_lenT, GK.b1D_list, GK.b1D_listT, GK.b1D_tup, GK.b1D_tupT, GK.b1D_int, GK.b1D_intN, GK.b1D_sum, GK.sumS_some, GK.allS_some, GK.b1D_all, GK.b1D_any, GK.itemsD_list, GK.itemsD_tup, GK.ix_t0, GK.ix_t1, GK.ix_t2, GK.nD_def, GK.fI_eq', GK.fB_eq', GK.deq_pair, GK.natDec, GK.decide_self, GK.notP_rg1, GK.notP_rg2, GK.notPs_f, GK.notPs_o, GK.notP_seq, GK.esLen, Nat.reduceLeDiff, decide_true, decide_false, List.getElem?_cons_zero, List.getElem?_cons_succ, List.set_cons_zero, List.set_cons_succ, List.length_cons, List.length_nil, List.map_cons, List.map_nil, List.replicate_succ, List.replicate_zero, List.append_nil, List.nil_append, List.cons_append, Nat.reduceAdd, Nat.reduceSub, GK.startR, GK.tgIn, GK.isRg, List.contains_cons, List.all_cons, List.all_nil, Bool.and_true, Bool.true_and, Bool.not_true, Bool.not_false, beq_self_eq_true, Bool.or_true, Bool.true_or, Bool.or_false, Bool.false_or, Nat.not_lt_zero, GK.wipeR, GK.isNone, GK.isiD, GK.evE_glb, GK.evE_sst, GK.evE_gk, GK.evE_gdx, GK.evE_dsp, GK.evP_nil, GK.evP_cons, GK.evE_mm, GK.evE_rvl, GK.evI_rg3, GK.evI_enm, GK.evI_rev, GK.evI_zp, GK.evI_rvr, GK.notP_rg3, GK.notP_rvr, GK.notP_enm, GK.notP_rev, GK.notP_zp, GK.ckTu_t, GK.binop_catT, GK.slD_tup, GK.rvD_list, GK.cmpop_is, GK.cmpop_isnot, GK.negM_ok', GK.cmpop_in, GK.cmpop_notin, GK.cmpop_inT, GK.cmpop_notinT, GK.beq_t, GK.beq_f, GK.evE_dnw, GK.evE_dsp1, GK.setO_eq, GK.setS_list, GK.setS_dict, GK.keyOk_int, GK.keyOk_str, GK.ixD_dictI, GK.ixD_dictS, GK.cmpop_inK, GK.cmpop_notinK, GK.inK_int, GK.inK_str, GK.look_kT, GK.put_kT, GK.deq_bool, GK.lentE_var, GK.lentE_call, GK.lentE_lst, GK.lentE_tup, GK.lentE_ix, GK.lentE_sl, GK.lentE_bin, GK.lentE_b1, GK.lentE_lc, GK.lentE_lrg, GK.lentE_rvl, GK.lentE_sst, GK.lentE_gk, GK.lentE_gdx, GK.lentE_dsp, GK.lentO_p, GK.lentO_f, GK.lentO_o, GK.frzB_t, GK.frzB_f, GK.nmkD_list, GK.nmkD_tuple, GK.nmkD_int, GK.nmkD_bool, GK.nmkD_dict, GK.nmk_nil, GK.nmk_int, GK.nmk_str, GK.nmk_kT, GK.nmk_kv, GK.nmk_none, GK.keyOk_tup, GK.exS_ndn, GK.inK_tup, GK.inN_mk, GK.ixD_dictT, GK.getN_mk, GK.optD_some, GK.setSN_eq, GK.setN_mk, GK.b1D_tupN, GK.b1D_lenK, GK.b1D_lenD, GK.evE_lns, GK.evE_pk2, GK.exS_fst, Bool.false_and, Bool.and_false, GK.binI_add_nat, GK.binI_shr_nat, GK.binI_and1_nat, GK.deq_nat, GK.cmpop_lt_nat, GK.cmpop_le_nat, GK.cmpop_gt_nat, GK.cmpop_ge_nat, GK.binI_or_nat, GK.binI_xor_nat, GK.mmD_maxN, GK.mmD_minN, GK.inD_nats, GK.inF_nats, GK.intsD_nats, GK.sum_cast, GK.rngD_nat (show i < 2 ^ 62 by omega)]
  rw [GK.lcGo_map (fun k : Nat => PyData.int (k : Nat)) (fun _ => nD 0)]
  rotate_left
  · intro j _
    simp only [GK.lcTurn, GK.ok_bind, GK.pure_M, GK.bind_assoc', GK.vm_f, GK.vm_o, GK.vm_p, GK.vm_vm, GK.rdV_mk, GK.rdV_fI, GK.rdV_fB, GK.evE_var, GK.evE_int, GK.evE_bl, GK.evE_non, GK.evE_str, GK.evE_bin, GK.evE_neg, GK.evE_inv, GK.evE_cmp, GK.ifM_t, GK.ifM_f, GK.evE_chn, GK.evE_isN, GK.evE_notN, GK.evE_and, GK.evE_or, GK.evE_not, GK.evE_ife, GK.evE_tup, GK.evE_lst, GK.evE_ix, GK.evE_sl, GK.evE_call, GK.evE_b1, GK.evE_isi, GK.evE_lc, GK.evE_lrg, GK.evF_nil, GK.evF_cons, GK.evA_nil, GK.evA_cons, GK.getI_int, GK.evO_none, GK.evO_some, GK.evC_none, GK.evC_some, GK.evI_rg1, GK.evI_rg2, GK.evI_seq, GK.seqF_nx, GK.seqF_rt, GK.seqF_bk, GK.seqF_ct, GK.exSs_nil, GK.exSs_cons, GK.exSs_frz, GK.exS_asg, GK.exS_setix, GK.exS_app, GK.exS_ext, GK.exS_exp, GK.exS_ret, GK.exS_retN, GK.exS_ite, GK.exS_for, GK.exS_whl, GK.exS_brk, GK.exS_cont, GK.exS_pass, GK.fin_rt, GK.fin_nx, GK.bindT_nm, GK.bindT_nmo, GK.bindT_nI, GK.bindT_nB, GK.bindT_tp2, GK.bindT_tp3, GK.bindT_tl5, GK.fI_d, GK.fB_d, GK.fI_m, GK.fB_m, GK.asF_f, GK.asF_o, GK.asF_fI, GK.asF_fB, GK.asB_b, GK.argS_f, GK.argS_o, GK.argS_p, GK.argS_v, GK.argS_fI, GK.argS_fB, GK.retS_f, GK.retS_o, GK.retS_fI, GK.retS_fB, GK.retP_o, GK.retS_p, GK.ownG_o, GK.ownL_eq, GK.frzG_o, GK.frzG_f, GK.frzG_fI, GK.frzG_fB, GK.frzR_eq, GK.extG_list, GK.isF_f, GK.isF_o, GK.isF_p, GK.binop_int, GK.binop_cat, GK.binop_rep, GK.ckI_t, GK.ckO_t, GK.unop_neg, GK.unop_inv, GK.cmpop_eq, GK.cmpop_ne, GK.optS_some, GK.ixD_list, GK.ixD_tup, GK.slD_list, GK.b1D_len, GK.b1D_lenT, GK.b1D_list, GK.b1D_listT, GK.b1D_tup, GK.b1D_tupT, GK.b1D_int, GK.b1D_intN, GK.b1D_sum, GK.sumS_some, GK.allS_some, GK.b1D_all, GK.b1D_any, GK.itemsD_list, GK.itemsD_tup, GK.ix_t0, GK.ix_t1, GK.ix_t2, GK.nD_def, GK.fI_eq', GK.fB_eq', GK.deq_pair, GK.natDec, GK.decide_self, GK.notP_rg1, GK.notP_rg2, GK.notPs_f, GK.notPs_o, GK.notP_seq, GK.esLen, Nat.reduceLeDiff, decide_true, decide_false, List.getElem?_cons_zero, List.getElem?_cons_succ, List.set_cons_zero, List.set_cons_succ, List.length_cons, List.length_nil, List.map_cons, List.map_nil, List.replicate_succ, List.replicate_zero, List.append_nil, List.nil_append, List.cons_append, Nat.reduceAdd, Nat.reduceSub, GK.startR, GK.tgIn, GK.isRg, List.contains_cons, List.all_cons, List.all_nil, Bool.and_true, Bool.true_and, Bool.not_true, Bool.not_false, beq_self_eq_true, Bool.or_true, Bool.true_or, Bool.or_false, Bool.false_or, Nat.not_lt_zero, GK.wipeR, GK.isNone, GK.isiD, GK.evE_glb, GK.evE_sst, GK.evE_gk, GK.evE_gdx, GK.evE_dsp, GK.evP_nil, GK.evP_cons, GK.evE_mm, GK.evE_rvl, GK.evI_rg3, GK.evI_enm, GK.evI_rev, GK.evI_zp, GK.evI_rvr, GK.notP_rg3, GK.notP_rvr, GK.notP_enm, GK.notP_rev, GK.notP_zp, GK.ckTu_t, GK.binop_catT, GK.slD_tup, GK.rvD_list, GK.cmpop_is, GK.cmpop_isnot, GK.negM_ok', GK.cmpop_in, GK.cmpop_notin, GK.cmpop_inT, GK.cmpop_notinT, GK.beq_t, GK.beq_f, GK.evE_dnw, GK.evE_dsp1, GK.setO_eq, GK.setS_list, GK.setS_dict, GK.keyOk_int, GK.keyOk_str, GK.ixD_dictI, GK.ixD_dictS, GK.cmpop_inK, GK.cmpop_notinK, GK.inK_int, GK.inK_str, GK.look_kT, GK.put_kT, GK.deq_bool, GK.lentE_var, GK.lentE_call, GK.lentE_lst, GK.lentE_tup, GK.lentE_ix, GK.lentE_sl, GK.lentE_bin, GK.lentE_b1, GK.lentE_lc, GK.lentE_lrg, GK.lentE_rvl, GK.lentE_sst, GK.lentE_gk, GK.lentE_gdx, GK.lentE_dsp, GK.lentO_p, GK.lentO_f, GK.lentO_o, GK.frzB_t, GK.frzB_f, GK.nmkD_list, GK.nmkD_tuple, GK.nmkD_int, GK.nmkD_bool, GK.nmkD_dict, GK.nmk_nil, GK.nmk_int, GK.nmk_str, GK.nmk_kT, GK.nmk_kv, GK.nmk_none, GK.keyOk_tup, GK.exS_ndn, GK.inK_tup, GK.inN_mk, GK.ixD_dictT, GK.getN_mk, GK.optD_some, GK.setSN_eq, GK.setN_mk, GK.b1D_tupN, GK.b1D_lenK, GK.b1D_lenD, GK.evE_lns, GK.evE_pk2, GK.exS_fst, Bool.false_and, Bool.and_false, GK.binI_add_nat, GK.binI_shr_nat, GK.binI_and1_nat, GK.deq_nat, GK.cmpop_lt_nat, GK.cmpop_le_nat, GK.cmpop_gt_nat, GK.cmpop_ge_nat, GK.binI_or_nat, GK.binI_xor_nat, GK.mmD_maxN, GK.mmD_minN, GK.inD_nats, GK.inF_nats, GK.intsD_nats, GK.sum_cast]
  simp only [GK.ok_bind, GK.pure_M, GK.bind_assoc', GK.vm_f, GK.vm_o, GK.vm_p, GK.vm_vm, GK.rdV_mk, GK.rdV_fI, GK.rdV_fB, GK.evE_var, GK.evE_int, GK.evE_bl, GK.evE_non, GK.evE_str, GK.evE_bin, GK.evE_neg, GK.evE_inv, GK.evE_cmp, GK.ifM_t, GK.ifM_f, GK.evE_chn, GK.evE_isN, GK.evE_notN, GK.evE_and, GK.evE_or, GK.evE_not, GK.evE_ife, GK.evE_tup, GK.evE_lst, GK.evE_ix, GK.evE_sl, GK.evE_call, GK.evE_b1, GK.evE_isi, GK.evE_lc, GK.evE_lrg, GK.evF_nil, GK.evF_cons, GK.evA_nil, GK.evA_cons, GK.getI_int, GK.evO_none, GK.evO_some, GK.evC_none, GK.evC_some, GK.evI_rg1, GK.evI_rg2, GK.evI_seq, GK.seqF_nx, GK.seqF_rt, GK.seqF_bk, GK.seqF_ct, GK.exSs_nil, GK.exSs_cons, GK.exSs_frz, GK.exS_asg, GK.exS_setix, GK.exS_app, GK.exS_ext, GK.exS_exp, GK.exS_ret, GK.exS_retN, GK.exS_ite, GK.exS_for, GK.exS_whl, GK.exS_brk, GK.exS_cont, GK.exS_pass, GK.fin_rt, GK.fin_nx, GK.bindT_nm, GK.bindT_nmo, GK.bindT_nI, GK.bindT_nB, GK.bindT_tp2, GK.bindT_tp3, GK.bindT_tl5, GK.fI_d, GK.fB_d, GK.fI_m, GK.fB_m, GK.asF_f, GK.asF_o, GK.asF_fI, GK.asF_fB, GK.asB_b, GK.argS_f, GK.argS_o, GK.argS_p, GK.argS_v, GK.argS_fI, GK.argS_fB, GK.retS_f, GK.retS_o, GK.retS_fI, GK.retS_fB, GK.retP_o, GK.retS_p, GK.ownG_o, GK.ownL_eq, GK.frzG_o, GK.frzG_f, GK.frzG_fI, GK.frzG_fB, GK.frzR_eq, GK.extG_list, GK.isF_f, GK.isF_o, GK.isF_p, GK.binop_int, GK.binop_cat, GK.binop_rep, GK.ckI_t, GK.ckO_t, GK.unop_neg, GK.unop_inv, GK.cmpop_eq, GK.cmpop_ne, GK.optS_some, GK.ixD_list, GK.ixD_tup, GK.slD_list, GK.b1D_len, GK.b1D_lenT, GK.b1D_list, GK.b1D_listT, GK.b1D_tup, GK.b1D_tupT, GK.b1D_int, GK.b1D_intN, GK.b1D_sum, GK.sumS_some, GK.allS_some, GK.b1D_all, GK.b1D_any, GK.itemsD_list, GK.itemsD_tup, GK.ix_t0, GK.ix_t1, GK.ix_t2, GK.nD_def, GK.fI_eq', GK.fB_eq', GK.deq_pair, GK.natDec, GK.decide_self, GK.notP_rg1, GK.notP_rg2, GK.notPs_f, GK.notPs_o, GK.notP_seq, GK.esLen, Nat.reduceLeDiff, decide_true, decide_false, List.getElem?_cons_zero, List.getElem?_cons_succ, List.set_cons_zero, List.set_cons_succ, List.length_cons, List.length_nil, List.map_cons, List.map_nil, List.replicate_succ, List.replicate_zero, List.append_nil, List.nil_append, List.cons_append, Nat.reduceAdd, Nat.reduceSub, GK.startR, GK.tgIn, GK.isRg, List.contains_cons, List.all_cons, List.all_nil, Bool.and_true, Bool.true_and, Bool.not_true, Bool.not_false, beq_self_eq_true, Bool.or_true, Bool.true_or, Bool.or_false, Bool.false_or, Nat.not_lt_zero, GK.wipeR, GK.isNone, GK.isiD, GK.evE_glb, GK.evE_sst, GK.evE_gk, GK.evE_gdx, GK.evE_dsp, GK.evP_nil, GK.evP_cons, GK.evE_mm, GK.evE_rvl, GK.evI_rg3, GK.evI_enm, GK.evI_rev, GK.evI_zp, GK.evI_rvr, GK.notP_rg3, GK.notP_rvr, GK.notP_enm, GK.notP_rev, GK.notP_zp, GK.ckTu_t, GK.binop_catT, GK.slD_tup, GK.rvD_list, GK.cmpop_is, GK.cmpop_isnot, GK.negM_ok', GK.cmpop_in, GK.cmpop_notin, GK.cmpop_inT, GK.cmpop_notinT, GK.beq_t, GK.beq_f, GK.evE_dnw, GK.evE_dsp1, GK.setO_eq, GK.setS_list, GK.setS_dict, GK.keyOk_int, GK.keyOk_str, GK.ixD_dictI, GK.ixD_dictS, GK.cmpop_inK, GK.cmpop_notinK, GK.inK_int, GK.inK_str, GK.look_kT, GK.put_kT, GK.deq_bool, GK.lentE_var, GK.lentE_call, GK.lentE_lst, GK.lentE_tup, GK.lentE_ix, GK.lentE_sl, GK.lentE_bin, GK.lentE_b1, GK.lentE_lc, GK.lentE_lrg, GK.lentE_rvl, GK.lentE_sst, GK.lentE_gk, GK.lentE_gdx, GK.lentE_dsp, GK.lentO_p, GK.lentO_f, GK.lentO_o, GK.frzB_t, GK.frzB_f, GK.nmkD_list, GK.nmkD_tuple, GK.nmkD_int, GK.nmkD_bool, GK.nmkD_dict, GK.nmk_nil, GK.nmk_int, GK.nmk_str, GK.nmk_kT, GK.nmk_kv, GK.nmk_none, GK.keyOk_tup, GK.exS_ndn, GK.inK_tup, GK.inN_mk, GK.ixD_dictT, GK.getN_mk, GK.optD_some, GK.setSN_eq, GK.setN_mk, GK.b1D_tupN, GK.b1D_lenK, GK.b1D_lenD, GK.evE_lns, GK.evE_pk2, GK.exS_fst, Bool.false_and, Bool.and_false, GK.binI_add_nat, GK.binI_shr_nat, GK.binI_and1_nat, GK.deq_nat, GK.cmpop_lt_nat, GK.cmpop_le_nat, GK.cmpop_gt_nat, GK.cmpop_ge_nat, GK.binI_or_nat, GK.binI_xor_nat, GK.mmD_maxN, GK.mmD_minN, GK.inD_nats, GK.inF_nats, GK.intsD_nats, GK.sum_cast, List.length_map, List.length_range, GK.lenOk_of (show i ≤ 16777216 by omega)]
  refine for_fin (fun k ρ => ∃ a b c d, ρ = [some ⟨.f, .tuple [.int (i : Int), .tuple (ss.map stD), .int (o : Int)]⟩, some ⟨.o, .list ((zG i (ss.take k)).map nD)⟩, none, some (fI (i : Nat)), some ⟨.f, .tuple (ss.map stD)⟩, some (fI (o : Nat)), a, b, c, d]) ⟨none, none, none, none, ?_⟩ (fun k x ρ hx hp => ?_) (fun ρ' hp => ?_)
  · show _ = [_, some (⟨.o, .list (((List.range i).map fun _ => 0).map nD)⟩ : Sl), _, _, _, _, _, _, _, _]
    rw [List.map_map]
    rfl
  · obtain ⟨a, b, c, d, rfl⟩ := hp
    obtain ⟨s, hs, rfl⟩ := map_at hx
    have hk := at_lt hs
    have hso := h k s hs
    have hn4 := hso.n4
    have hwl := hso.len
    have zk : (zG i (ss.take k)).length = i + k := by rw [zl, List.length_take, Nat.min_eq_left (by omega)]
    have zsn : zG i (ss.take (k + 1)) = zG i (ss.take k) ++ [1 + (s.ws.map fun w => (zG i (ss.take k)).getD w 0).sum] := by rw [take_snoc hs]; exact gev_snoc _ _ _
    rw [zsn]
    simp only [stD, gD, GK.ok_bind, GK.pure_M, GK.bind_assoc', GK.vm_f, GK.vm_o, GK.vm_p, GK.vm_vm, GK.rdV_mk, GK.rdV_fI, GK.rdV_fB, GK.evE_var, GK.evE_int, GK.evE_bl, GK.evE_non, GK.evE_str, GK.evE_bin, GK.evE_neg, GK.evE_inv, GK.evE_cmp, GK.ifM_t, GK.ifM_f, GK.evE_chn, GK.evE_isN, GK.evE_notN, GK.evE_and, GK.evE_or, GK.evE_not, GK.evE_ife, GK.evE_tup, GK.evE_lst, GK.evE_ix, GK.evE_sl, GK.evE_call, GK.evE_b1, GK.evE_isi, GK.evE_lc, GK.evE_lrg, GK.evF_nil, GK.evF_cons, GK.evA_nil, GK.evA_cons, GK.getI_int, GK.evO_none, GK.evO_some, GK.evC_none, GK.evC_some, GK.evI_rg1, GK.evI_rg2, GK.evI_seq, GK.seqF_nx, GK.seqF_rt, GK.seqF_bk, GK.seqF_ct, GK.exSs_nil, GK.exSs_cons, GK.exSs_frz, GK.exS_asg, GK.exS_setix, GK.exS_app, GK.exS_ext, GK.exS_exp, GK.exS_ret, GK.exS_retN, GK.exS_ite, GK.exS_for, GK.exS_whl, GK.exS_brk, GK.exS_cont, GK.exS_pass, GK.fin_rt, GK.fin_nx, GK.bindT_nm, GK.bindT_nmo, GK.bindT_nI, GK.bindT_nB, GK.bindT_tp2, GK.bindT_tp3, GK.bindT_tl5, GK.fI_d, GK.fB_d, GK.fI_m, GK.fB_m, GK.asF_f, GK.asF_o, GK.asF_fI, GK.asF_fB, GK.asB_b, GK.argS_f, GK.argS_o, GK.argS_p, GK.argS_v, GK.argS_fI, GK.argS_fB, GK.retS_f, GK.retS_o, GK.retS_fI, GK.retS_fB, GK.retP_o, GK.retS_p, GK.ownG_o, GK.ownL_eq, GK.frzG_o, GK.frzG_f, GK.frzG_fI, GK.frzG_fB, GK.frzR_eq, GK.extG_list, GK.isF_f, GK.isF_o, GK.isF_p, GK.binop_int, GK.binop_cat, GK.binop_rep, GK.ckI_t, GK.ckO_t, GK.unop_neg, GK.unop_inv, GK.cmpop_eq, GK.cmpop_ne, GK.optS_some, GK.ixD_list, GK.ixD_tup, GK.slD_list, GK.b1D_len, GK.b1D_lenT, GK.b1D_list, GK.b1D_listT, GK.b1D_tup, GK.b1D_tupT, GK.b1D_int, GK.b1D_intN, GK.b1D_sum, GK.sumS_some, GK.allS_some, GK.b1D_all, GK.b1D_any, GK.itemsD_list, GK.itemsD_tup, GK.ix_t0, GK.ix_t1, GK.ix_t2, GK.nD_def, GK.fI_eq', GK.fB_eq', GK.deq_pair, GK.natDec, GK.decide_self, GK.notP_rg1, GK.notP_rg2, GK.notPs_f, GK.notPs_o, GK.notP_seq, GK.esLen, Nat.reduceLeDiff, decide_true, decide_false, List.getElem?_cons_zero, List.getElem?_cons_succ, List.set_cons_zero, List.set_cons_succ, List.length_cons, List.length_nil, List.map_cons, List.map_nil, List.replicate_succ, List.replicate_zero, List.append_nil, List.nil_append, List.cons_append, Nat.reduceAdd, Nat.reduceSub, GK.startR, GK.tgIn, GK.isRg, List.contains_cons, List.all_cons, List.all_nil, Bool.and_true, Bool.true_and, Bool.not_true, Bool.not_false, beq_self_eq_true, Bool.or_true, Bool.true_or, Bool.or_false, Bool.false_or, Nat.not_lt_zero, GK.wipeR, GK.isNone, GK.isiD, GK.evE_glb, GK.evE_sst, GK.evE_gk, GK.evE_gdx, GK.evE_dsp, GK.evP_nil, GK.evP_cons, GK.evE_mm, GK.evE_rvl, GK.evI_rg3, GK.evI_enm, GK.evI_rev, GK.evI_zp, GK.evI_rvr, GK.notP_rg3, GK.notP_rvr, GK.notP_enm, GK.notP_rev, GK.notP_zp, GK.ckTu_t, GK.binop_catT, GK.slD_tup, GK.rvD_list, GK.cmpop_is, GK.cmpop_isnot, GK.negM_ok', GK.cmpop_in, GK.cmpop_notin, GK.cmpop_inT, GK.cmpop_notinT, GK.beq_t, GK.beq_f, GK.evE_dnw, GK.evE_dsp1, GK.setO_eq, GK.setS_list, GK.setS_dict, GK.keyOk_int, GK.keyOk_str, GK.ixD_dictI, GK.ixD_dictS, GK.cmpop_inK, GK.cmpop_notinK, GK.inK_int, GK.inK_str, GK.look_kT, GK.put_kT, GK.deq_bool, GK.lentE_var, GK.lentE_call, GK.lentE_lst, GK.lentE_tup, GK.lentE_ix, GK.lentE_sl, GK.lentE_bin, GK.lentE_b1, GK.lentE_lc, GK.lentE_lrg, GK.lentE_rvl, GK.lentE_sst, GK.lentE_gk, GK.lentE_gdx, GK.lentE_dsp, GK.lentO_p, GK.lentO_f, GK.lentO_o, GK.frzB_t, GK.frzB_f, GK.nmkD_list, GK.nmkD_tuple, GK.nmkD_int, GK.nmkD_bool, GK.nmkD_dict, GK.nmk_nil, GK.nmk_int, GK.nmk_str, GK.nmk_kT, GK.nmk_kv, GK.nmk_none, GK.keyOk_tup, GK.exS_ndn, GK.inK_tup, GK.inN_mk, GK.ixD_dictT, GK.getN_mk, GK.optD_some, GK.setSN_eq, GK.setN_mk, GK.b1D_tupN, GK.b1D_lenK, GK.b1D_lenD, GK.evE_lns, GK.evE_pk2, GK.exS_fst, Bool.false_and, Bool.and_false, GK.binI_add_nat, GK.binI_shr_nat, GK.binI_and1_nat, GK.deq_nat, GK.cmpop_lt_nat, GK.cmpop_le_nat, GK.cmpop_gt_nat, GK.cmpop_ge_nat, GK.binI_or_nat, GK.binI_xor_nat, GK.mmD_maxN, GK.mmD_minN, GK.inD_nats, GK.inF_nats, GK.intsD_nats, GK.sum_cast]
    rw [GK.lcGo_map nD (fun w => nD ((zG i (ss.take k)).getD w 0)), show (s.ws.map fun w => nD ((zG i (ss.take k)).getD w 0)) = (s.ws.map fun w => (zG i (ss.take k)).getD w 0).map nD by rw [List.map_map]; rfl]
    rotate_left
    · intro w hw
      have := hso.lt w hw
      simp only [GK.lcTurn, GK.ok_bind, GK.pure_M, GK.bind_assoc', GK.vm_f, GK.vm_o, GK.vm_p, GK.vm_vm, GK.rdV_mk, GK.rdV_fI, GK.rdV_fB, GK.evE_var, GK.evE_int, GK.evE_bl, GK.evE_non, GK.evE_str, GK.evE_bin, GK.evE_neg, GK.evE_inv, GK.evE_cmp, GK.ifM_t, GK.ifM_f, GK.evE_chn, GK.evE_isN, GK.evE_notN, GK.evE_and, GK.evE_or, GK.evE_not, GK.evE_ife, GK.evE_tup, GK.evE_lst, GK.evE_ix, GK.evE_sl, GK.evE_call, GK.evE_b1, GK.evE_isi, GK.evE_lc, GK.evE_lrg, GK.evF_nil, GK.evF_cons, GK.evA_nil, GK.evA_cons, GK.getI_int, GK.evO_none, GK.evO_some, GK.evC_none, GK.evC_some, GK.evI_rg1, GK.evI_rg2, GK.evI_seq, GK.seqF_nx, GK.seqF_rt, GK.seqF_bk, GK.seqF_ct, GK.exSs_nil, GK.exSs_cons, GK.exSs_frz, GK.exS_asg, GK.exS_setix, GK.exS_app, GK.exS_ext, GK.exS_exp, GK.exS_ret, GK.exS_retN, GK.exS_ite, GK.exS_for, GK.exS_whl, GK.exS_brk, GK.exS_cont, GK.exS_pass, GK.fin_rt, GK.fin_nx, GK.bindT_nm, GK.bindT_nmo, GK.bindT_nI, GK.bindT_nB, GK.bindT_tp2, GK.bindT_tp3, GK.bindT_tl5, GK.fI_d, GK.fB_d, GK.fI_m, GK.fB_m, GK.asF_f, GK.asF_o, GK.asF_fI, GK.asF_fB, GK.asB_b, GK.argS_f, GK.argS_o, GK.argS_p, GK.argS_v, GK.argS_fI, GK.argS_fB, GK.retS_f, GK.retS_o, GK.retS_fI, GK.retS_fB, GK.retP_o, GK.retS_p, GK.ownG_o, GK.ownL_eq, GK.frzG_o, GK.frzG_f, GK.frzG_fI, GK.frzG_fB, GK.frzR_eq, GK.extG_list, GK.isF_f, GK.isF_o, GK.isF_p, GK.binop_int, GK.binop_cat, GK.binop_rep, GK.ckI_t, GK.ckO_t, GK.unop_neg, GK.unop_inv, GK.cmpop_eq, GK.cmpop_ne, GK.optS_some, GK.ixD_list, GK.ixD_tup, GK.slD_list, GK.b1D_len, GK.b1D_lenT, GK.b1D_list, GK.b1D_listT, GK.b1D_tup, GK.b1D_tupT, GK.b1D_int, GK.b1D_intN, GK.b1D_sum, GK.sumS_some, GK.allS_some, GK.b1D_all, GK.b1D_any, GK.itemsD_list, GK.itemsD_tup, GK.ix_t0, GK.ix_t1, GK.ix_t2, GK.nD_def, GK.fI_eq', GK.fB_eq', GK.deq_pair, GK.natDec, GK.decide_self, GK.notP_rg1, GK.notP_rg2, GK.notPs_f, GK.notPs_o, GK.notP_seq, GK.esLen, Nat.reduceLeDiff, decide_true, decide_false, List.getElem?_cons_zero, List.getElem?_cons_succ, List.set_cons_zero, List.set_cons_succ, List.length_cons, List.length_nil, List.map_cons, List.map_nil, List.replicate_succ, List.replicate_zero, List.append_nil, List.nil_append, List.cons_append, Nat.reduceAdd, Nat.reduceSub, GK.startR, GK.tgIn, GK.isRg, List.contains_cons, List.all_cons, List.all_nil, Bool.and_true, Bool.true_and, Bool.not_true, Bool.not_false, beq_self_eq_true, Bool.or_true, Bool.true_or, Bool.or_false, Bool.false_or, Nat.not_lt_zero, GK.wipeR, GK.isNone, GK.isiD, GK.evE_glb, GK.evE_sst, GK.evE_gk, GK.evE_gdx, GK.evE_dsp, GK.evP_nil, GK.evP_cons, GK.evE_mm, GK.evE_rvl, GK.evI_rg3, GK.evI_enm, GK.evI_rev, GK.evI_zp, GK.evI_rvr, GK.notP_rg3, GK.notP_rvr, GK.notP_enm, GK.notP_rev, GK.notP_zp, GK.ckTu_t, GK.binop_catT, GK.slD_tup, GK.rvD_list, GK.cmpop_is, GK.cmpop_isnot, GK.negM_ok', GK.cmpop_in, GK.cmpop_notin, GK.cmpop_inT, GK.cmpop_notinT, GK.beq_t, GK.beq_f, GK.evE_dnw, GK.evE_dsp1, GK.setO_eq, GK.setS_list, GK.setS_dict, GK.keyOk_int, GK.keyOk_str, GK.ixD_dictI, GK.ixD_dictS, GK.cmpop_inK, GK.cmpop_notinK, GK.inK_int, GK.inK_str, GK.look_kT, GK.put_kT, GK.deq_bool, GK.lentE_var, GK.lentE_call, GK.lentE_lst, GK.lentE_tup, GK.lentE_ix, GK.lentE_sl, GK.lentE_bin, GK.lentE_b1, GK.lentE_lc, GK.lentE_lrg, GK.lentE_rvl, GK.lentE_sst, GK.lentE_gk, GK.lentE_gdx, GK.lentE_dsp, GK.lentO_p, GK.lentO_f, GK.lentO_o, GK.frzB_t, GK.frzB_f, GK.nmkD_list, GK.nmkD_tuple, GK.nmkD_int, GK.nmkD_bool, GK.nmkD_dict, GK.nmk_nil, GK.nmk_int, GK.nmk_str, GK.nmk_kT, GK.nmk_kv, GK.nmk_none, GK.keyOk_tup, GK.exS_ndn, GK.inK_tup, GK.inN_mk, GK.ixD_dictT, GK.getN_mk, GK.optD_some, GK.setSN_eq, GK.setN_mk, GK.b1D_tupN, GK.b1D_lenK, GK.b1D_lenD, GK.evE_lns, GK.evE_pk2, GK.exS_fst, Bool.false_and, Bool.and_false, GK.binI_add_nat, GK.binI_shr_nat, GK.binI_and1_nat, GK.deq_nat, GK.cmpop_lt_nat, GK.cmpop_le_nat, GK.cmpop_gt_nat, GK.cmpop_ge_nat, GK.binI_or_nat, GK.binI_xor_nat, GK.mmD_maxN, GK.mmD_minN, GK.inD_nats, GK.inF_nats, GK.intsD_nats, GK.sum_cast, GK.at_map nD (zG i (ss.take k)) w _ (getD_at (show w < (zG i (ss.take k)).length by omega))]
    have e : (zG i (ss.take k)).map nD ++ [PyData.int ((1 + (s.ws.map fun w => (zG i (ss.take k)).getD w 0).sum : Nat) : Int)] = (zG i (ss.take k) ++ [1 + (s.ws.map fun w => (zG i (ss.take k)).getD w 0).sum]).map nD := by
      rw [List.map_append]
      rfl
    simp only [GK.ok_bind, GK.pure_M, GK.bind_assoc', GK.vm_f, GK.vm_o, GK.vm_p, GK.vm_vm, GK.rdV_mk, GK.rdV_fI, GK.rdV_fB, GK.evE_var, GK.evE_int, GK.evE_bl, GK.evE_non, GK.evE_str, GK.evE_bin, GK.evE_neg, GK.evE_inv, GK.evE_cmp, GK.ifM_t, GK.ifM_f, GK.evE_chn, GK.evE_isN, GK.evE_notN, GK.evE_and, GK.evE_or, GK.evE_not, GK.evE_ife, GK.evE_tup, GK.evE_lst, GK.evE_ix, GK.evE_sl, GK.evE_call, GK.evE_b1, GK.evE_isi, GK.evE_lc, GK.evE_lrg, GK.evF_nil, GK.evF_cons, GK.evA_nil, GK.evA_cons, GK.getI_int, GK.evO_none, GK.evO_some, GK.evC_none, GK.evC_some, GK.evI_rg1, GK.evI_rg2, GK.evI_seq, GK.seqF_nx, GK.seqF_rt, GK.seqF_bk, GK.seqF_ct, GK.exSs_nil, GK.exSs_cons, GK.exSs_frz, GK.exS_asg, GK.exS_setix, GK.exS_app, GK.exS_ext, GK.exS_exp, GK.exS_ret, GK.exS_retN, GK.exS_ite, GK.exS_for, GK.exS_whl, GK.exS_brk, GK.exS_cont, GK.exS_pass, GK.fin_rt, GK.fin_nx, GK.bindT_nm, GK.bindT_nmo, GK.bindT_nI, GK.bindT_nB, GK.bindT_tp2, GK.bindT_tp3, GK.bindT_tl5, GK.fI_d, GK.fB_d, GK.fI_m, GK.fB_m, GK.asF_f, GK.asF_o, GK.asF_fI, GK.asF_fB, GK.asB_b, GK.argS_f, GK.argS_o, GK.argS_p, GK.argS_v, GK.argS_fI, GK.argS_fB, GK.retS_f, GK.retS_o, GK.retS_fI, GK.retS_fB, GK.retP_o, GK.retS_p, GK.ownG_o, GK.ownL_eq, GK.frzG_o, GK.frzG_f, GK.frzG_fI, GK.frzG_fB, GK.frzR_eq, GK.extG_list, GK.isF_f, GK.isF_o, GK.isF_p, GK.binop_int, GK.binop_cat, GK.binop_rep, GK.ckI_t, GK.ckO_t, GK.unop_neg, GK.unop_inv, GK.cmpop_eq, GK.cmpop_ne, GK.optS_some, GK.ixD_list, GK.ixD_tup, GK.slD_list, GK.b1D_len, GK.b1D_lenT, GK.b1D_list, GK.b1D_listT, GK.b1D_tup, GK.b1D_tupT, GK.b1D_int, GK.b1D_intN, GK.b1D_sum, GK.sumS_some, GK.allS_some, GK.b1D_all, GK.b1D_any, GK.itemsD_list, GK.itemsD_tup, GK.ix_t0, GK.ix_t1, GK.ix_t2, GK.nD_def, GK.fI_eq', GK.fB_eq', GK.deq_pair, GK.natDec, GK.decide_self, GK.notP_rg1, GK.notP_rg2, GK.notPs_f, GK.notPs_o, GK.notP_seq, GK.esLen, Nat.reduceLeDiff, decide_true, decide_false, List.getElem?_cons_zero, List.getElem?_cons_succ, List.set_cons_zero, List.set_cons_succ, List.length_cons, List.length_nil, List.map_cons, List.map_nil, List.replicate_succ, List.replicate_zero, List.append_nil, List.nil_append, List.cons_append, Nat.reduceAdd, Nat.reduceSub, GK.startR, GK.tgIn, GK.isRg, List.contains_cons, List.all_cons, List.all_nil, Bool.and_true, Bool.true_and, Bool.not_true, Bool.not_false, beq_self_eq_true, Bool.or_true, Bool.true_or, Bool.or_false, Bool.false_or, Nat.not_lt_zero, GK.wipeR, GK.isNone, GK.isiD, GK.evE_glb, GK.evE_sst, GK.evE_gk, GK.evE_gdx, GK.evE_dsp, GK.evP_nil, GK.evP_cons, GK.evE_mm, GK.evE_rvl, GK.evI_rg3, GK.evI_enm, GK.evI_rev, GK.evI_zp, GK.evI_rvr, GK.notP_rg3, GK.notP_rvr, GK.notP_enm, GK.notP_rev, GK.notP_zp, GK.ckTu_t, GK.binop_catT, GK.slD_tup, GK.rvD_list, GK.cmpop_is, GK.cmpop_isnot, GK.negM_ok', GK.cmpop_in, GK.cmpop_notin, GK.cmpop_inT, GK.cmpop_notinT, GK.beq_t, GK.beq_f, GK.evE_dnw, GK.evE_dsp1, GK.setO_eq, GK.setS_list, GK.setS_dict, GK.keyOk_int, GK.keyOk_str, GK.ixD_dictI, GK.ixD_dictS, GK.cmpop_inK, GK.cmpop_notinK, GK.inK_int, GK.inK_str, GK.look_kT, GK.put_kT, GK.deq_bool, GK.lentE_var, GK.lentE_call, GK.lentE_lst, GK.lentE_tup, GK.lentE_ix, GK.lentE_sl, GK.lentE_bin, GK.lentE_b1, GK.lentE_lc, GK.lentE_lrg, GK.lentE_rvl, GK.lentE_sst, GK.lentE_gk, GK.lentE_gdx, GK.lentE_dsp, GK.lentO_p, GK.lentO_f, GK.lentO_o, GK.frzB_t, GK.frzB_f, GK.nmkD_list, GK.nmkD_tuple, GK.nmkD_int, GK.nmkD_bool, GK.nmkD_dict, GK.nmk_nil, GK.nmk_int, GK.nmk_str, GK.nmk_kT, GK.nmk_kv, GK.nmk_none, GK.keyOk_tup, GK.exS_ndn, GK.inK_tup, GK.inN_mk, GK.ixD_dictT, GK.getN_mk, GK.optD_some, GK.setSN_eq, GK.setN_mk, GK.b1D_tupN, GK.b1D_lenK, GK.b1D_lenD, GK.evE_lns, GK.evE_pk2, GK.exS_fst, Bool.false_and, Bool.and_false, GK.binI_add_nat, GK.binI_shr_nat, GK.binI_and1_nat, GK.deq_nat, GK.cmpop_lt_nat, GK.cmpop_le_nat, GK.cmpop_gt_nat, GK.cmpop_ge_nat, GK.binI_or_nat, GK.binI_xor_nat, GK.mmD_maxN, GK.mmD_minN, GK.inD_nats, GK.inF_nats, GK.intsD_nats, GK.sum_cast, List.length_map, GK.lenOk_of (show s.ws.length ≤ 16777216 by omega), zk, GK.lenOk_of (show i + k + 1 ≤ 16777216 by omega), e]
    exact nx_ok ⟨_, _, _, _, rfl⟩
  · obtain ⟨a, b, c, d, rfl⟩ := hp
    rw [List.length_map, List.take_length]
    have zl := zl ss
    have hb : ¬ 300 < (zG i ss).getD o 0 := by omega
    simp only [GK.ok_bind, GK.pure_M, GK.bind_assoc', GK.vm_f, GK.vm_o, GK.vm_p, GK.vm_vm, GK.rdV_mk, GK.rdV_fI, GK.rdV_fB, GK.evE_var, GK.evE_int, GK.evE_bl, GK.evE_non, GK.evE_str, GK.evE_bin, GK.evE_neg, GK.evE_inv, GK.evE_cmp, GK.ifM_t, GK.ifM_f, GK.evE_chn, GK.evE_isN, GK.evE_notN, GK.evE_and, GK.evE_or, GK.evE_not, GK.evE_ife, GK.evE_tup, GK.evE_lst, GK.evE_ix, GK.evE_sl, GK.evE_call, GK.evE_b1, GK.evE_isi, GK.evE_lc, GK.evE_lrg, GK.evF_nil, GK.evF_cons, GK.evA_nil, GK.evA_cons, GK.getI_int, GK.evO_none, GK.evO_some, GK.evC_none, GK.evC_some, GK.evI_rg1, GK.evI_rg2, GK.evI_seq, GK.seqF_nx, GK.seqF_rt, GK.seqF_bk, GK.seqF_ct, GK.exSs_nil, GK.exSs_cons, GK.exSs_frz, GK.exS_asg, GK.exS_setix, GK.exS_app, GK.exS_ext, GK.exS_exp, GK.exS_ret, GK.exS_retN, GK.exS_ite, GK.exS_for, GK.exS_whl, GK.exS_brk, GK.exS_cont, GK.exS_pass, GK.fin_rt, GK.fin_nx, GK.bindT_nm, GK.bindT_nmo, GK.bindT_nI, GK.bindT_nB, GK.bindT_tp2, GK.bindT_tp3, GK.bindT_tl5, GK.fI_d, GK.fB_d, GK.fI_m, GK.fB_m, GK.asF_f, GK.asF_o, GK.asF_fI, GK.asF_fB, GK.asB_b, GK.argS_f, GK.argS_o, GK.argS_p, GK.argS_v, GK.argS_fI, GK.argS_fB, GK.retS_f, GK.retS_o, GK.retS_fI, GK.retS_fB, GK.retP_o, GK.retS_p, GK.ownG_o, GK.ownL_eq, GK.frzG_o, GK.frzG_f, GK.frzG_fI, GK.frzG_fB, GK.frzR_eq, GK.extG_list, GK.isF_f, GK.isF_o, GK.isF_p, GK.binop_int, GK.binop_cat, GK.binop_rep, GK.ckI_t, GK.ckO_t, GK.unop_neg, GK.unop_inv, GK.cmpop_eq, GK.cmpop_ne, GK.optS_some, GK.ixD_list, GK.ixD_tup, GK.slD_list, GK.b1D_len, GK.b1D_lenT, GK.b1D_list, GK.b1D_listT, GK.b1D_tup, GK.b1D_tupT, GK.b1D_int, GK.b1D_intN, GK.b1D_sum, GK.sumS_some, GK.allS_some, GK.b1D_all, GK.b1D_any, GK.itemsD_list, GK.itemsD_tup, GK.ix_t0, GK.ix_t1, GK.ix_t2, GK.nD_def, GK.fI_eq', GK.fB_eq', GK.deq_pair, GK.natDec, GK.decide_self, GK.notP_rg1, GK.notP_rg2, GK.notPs_f, GK.notPs_o, GK.notP_seq, GK.esLen, Nat.reduceLeDiff, decide_true, decide_false, List.getElem?_cons_zero, List.getElem?_cons_succ, List.set_cons_zero, List.set_cons_succ, List.length_cons, List.length_nil, List.map_cons, List.map_nil, List.replicate_succ, List.replicate_zero, List.append_nil, List.nil_append, List.cons_append, Nat.reduceAdd, Nat.reduceSub, GK.startR, GK.tgIn, GK.isRg, List.contains_cons, List.all_cons, List.all_nil, Bool.and_true, Bool.true_and, Bool.not_true, Bool.not_false, beq_self_eq_true, Bool.or_true, Bool.true_or, Bool.or_false, Bool.false_or, Nat.not_lt_zero, GK.wipeR, GK.isNone, GK.isiD, GK.evE_glb, GK.evE_sst, GK.evE_gk, GK.evE_gdx, GK.evE_dsp, GK.evP_nil, GK.evP_cons, GK.evE_mm, GK.evE_rvl, GK.evI_rg3, GK.evI_enm, GK.evI_rev, GK.evI_zp, GK.evI_rvr, GK.notP_rg3, GK.notP_rvr, GK.notP_enm, GK.notP_rev, GK.notP_zp, GK.ckTu_t, GK.binop_catT, GK.slD_tup, GK.rvD_list, GK.cmpop_is, GK.cmpop_isnot, GK.negM_ok', GK.cmpop_in, GK.cmpop_notin, GK.cmpop_inT, GK.cmpop_notinT, GK.beq_t, GK.beq_f, GK.evE_dnw, GK.evE_dsp1, GK.setO_eq, GK.setS_list, GK.setS_dict, GK.keyOk_int, GK.keyOk_str, GK.ixD_dictI, GK.ixD_dictS, GK.cmpop_inK, GK.cmpop_notinK, GK.inK_int, GK.inK_str, GK.look_kT, GK.put_kT, GK.deq_bool, GK.lentE_var, GK.lentE_call, GK.lentE_lst, GK.lentE_tup, GK.lentE_ix, GK.lentE_sl, GK.lentE_bin, GK.lentE_b1, GK.lentE_lc, GK.lentE_lrg, GK.lentE_rvl, GK.lentE_sst, GK.lentE_gk, GK.lentE_gdx, GK.lentE_dsp, GK.lentO_p, GK.lentO_f, GK.lentO_o, GK.frzB_t, GK.frzB_f, GK.nmkD_list, GK.nmkD_tuple, GK.nmkD_int, GK.nmkD_bool, GK.nmkD_dict, GK.nmk_nil, GK.nmk_int, GK.nmk_str, GK.nmk_kT, GK.nmk_kv, GK.nmk_none, GK.keyOk_tup, GK.exS_ndn, GK.inK_tup, GK.inN_mk, GK.ixD_dictT, GK.getN_mk, GK.optD_some, GK.setSN_eq, GK.setN_mk, GK.b1D_tupN, GK.b1D_lenK, GK.b1D_lenD, GK.evE_lns, GK.evE_pk2, GK.exS_fst, Bool.false_and, Bool.and_false, GK.binI_add_nat, GK.binI_shr_nat, GK.binI_and1_nat, GK.deq_nat, GK.cmpop_lt_nat, GK.cmpop_le_nat, GK.cmpop_gt_nat, GK.cmpop_ge_nat, GK.binI_or_nat, GK.binI_xor_nat, GK.mmD_maxN, GK.mmD_minN, GK.inD_nats, GK.inF_nats, GK.intsD_nats, GK.sum_cast, i_spread_0, GK.at_map nD (zG i ss) o _ (getD_at (show o < (zG i ss).length by omega)), hb, if_false, GK.rngD_nat (show i < 2 ^ 62 by omega), List.length_map, List.length_range, GK.lenOk_of (show i ≤ 16777216 by omega)]
    refine for_fin (fun k ρ => ∃ a b c d, ρ = [some ⟨.f, .tuple [.int (i : Int), .tuple (ss.map stD), .int (o : Int)]⟩, some ⟨.o, .list ((zG i ss).map nD)⟩, some ⟨.o, .list (tG i (ss.take k))⟩, some (fI (i : Nat)), some ⟨.f, .tuple (ss.map stD)⟩, some (fI (o : Nat)), a, b, c, d]) ⟨a, b, c, d, rfl⟩ (fun k x ρ hx hp => ?_) (fun ρ' hp => ?_)
    · obtain ⟨a, b, c, d, rfl⟩ := hp
      obtain ⟨s, hs, rfl⟩ := map_at hx
      have hk := at_lt hs
      have hso := h k s hs
      have hn4 := hso.n4
      have hwl := hso.len
      have tk : (tG i (ss.take k)).length = i + k := by rw [tl, List.length_take, Nat.min_eq_left (by omega)]
      have tsn : tG i (ss.take (k + 1)) = tG i (ss.take k) ++ [PyData.tuple [gD s.n s.b, .tuple (s.ws.map fun w => (tG i (ss.take k)).getD w .none)]] := by rw [take_snoc hs]; exact gev_snoc _ _ _
      rw [tsn]
      simp only [stD, gD, GK.ok_bind, GK.pure_M, GK.bind_assoc', GK.vm_f, GK.vm_o, GK.vm_p, GK.vm_vm, GK.rdV_mk, GK.rdV_fI, GK.rdV_fB, GK.evE_var, GK.evE_int, GK.evE_bl, GK.evE_non, GK.evE_str, GK.evE_bin, GK.evE_neg, GK.evE_inv, GK.evE_cmp, GK.ifM_t, GK.ifM_f, GK.evE_chn, GK.evE_isN, GK.evE_notN, GK.evE_and, GK.evE_or, GK.evE_not, GK.evE_ife, GK.evE_tup, GK.evE_lst, GK.evE_ix, GK.evE_sl, GK.evE_call, GK.evE_b1, GK.evE_isi, GK.evE_lc, GK.evE_lrg, GK.evF_nil, GK.evF_cons, GK.evA_nil, GK.evA_cons, GK.getI_int, GK.evO_none, GK.evO_some, GK.evC_none, GK.evC_some, GK.evI_rg1, GK.evI_rg2, GK.evI_seq, GK.seqF_nx, GK.seqF_rt, GK.seqF_bk, GK.seqF_ct, GK.exSs_nil, GK.exSs_cons, GK.exSs_frz, GK.exS_asg, GK.exS_setix, GK.exS_app, GK.exS_ext, GK.exS_exp, GK.exS_ret, GK.exS_retN, GK.exS_ite, GK.exS_for, GK.exS_whl, GK.exS_brk, GK.exS_cont, GK.exS_pass, GK.fin_rt, GK.fin_nx, GK.bindT_nm, GK.bindT_nmo, GK.bindT_nI, GK.bindT_nB, GK.bindT_tp2, GK.bindT_tp3, GK.bindT_tl5, GK.fI_d, GK.fB_d, GK.fI_m, GK.fB_m, GK.asF_f, GK.asF_o, GK.asF_fI, GK.asF_fB, GK.asB_b, GK.argS_f, GK.argS_o, GK.argS_p, GK.argS_v, GK.argS_fI, GK.argS_fB, GK.retS_f, GK.retS_o, GK.retS_fI, GK.retS_fB, GK.retP_o, GK.retS_p, GK.ownG_o, GK.ownL_eq, GK.frzG_o, GK.frzG_f, GK.frzG_fI, GK.frzG_fB, GK.frzR_eq, GK.extG_list, GK.isF_f, GK.isF_o, GK.isF_p, GK.binop_int, GK.binop_cat, GK.binop_rep, GK.ckI_t, GK.ckO_t, GK.unop_neg, GK.unop_inv, GK.cmpop_eq, GK.cmpop_ne, GK.optS_some, GK.ixD_list, GK.ixD_tup, GK.slD_list, GK.b1D_len, GK.b1D_lenT, GK.b1D_list, GK.b1D_listT, GK.b1D_tup, GK.b1D_tupT, GK.b1D_int, GK.b1D_intN, GK.b1D_sum, GK.sumS_some, GK.allS_some, GK.b1D_all, GK.b1D_any, GK.itemsD_list, GK.itemsD_tup, GK.ix_t0, GK.ix_t1, GK.ix_t2, GK.nD_def, GK.fI_eq', GK.fB_eq', GK.deq_pair, GK.natDec, GK.decide_self, GK.notP_rg1, GK.notP_rg2, GK.notPs_f, GK.notPs_o, GK.notP_seq, GK.esLen, Nat.reduceLeDiff, decide_true, decide_false, List.getElem?_cons_zero, List.getElem?_cons_succ, List.set_cons_zero, List.set_cons_succ, List.length_cons, List.length_nil, List.map_cons, List.map_nil, List.replicate_succ, List.replicate_zero, List.append_nil, List.nil_append, List.cons_append, Nat.reduceAdd, Nat.reduceSub, GK.startR, GK.tgIn, GK.isRg, List.contains_cons, List.all_cons, List.all_nil, Bool.and_true, Bool.true_and, Bool.not_true, Bool.not_false, beq_self_eq_true, Bool.or_true, Bool.true_or, Bool.or_false, Bool.false_or, Nat.not_lt_zero, GK.wipeR, GK.isNone, GK.isiD, GK.evE_glb, GK.evE_sst, GK.evE_gk, GK.evE_gdx, GK.evE_dsp, GK.evP_nil, GK.evP_cons, GK.evE_mm, GK.evE_rvl, GK.evI_rg3, GK.evI_enm, GK.evI_rev, GK.evI_zp, GK.evI_rvr, GK.notP_rg3, GK.notP_rvr, GK.notP_enm, GK.notP_rev, GK.notP_zp, GK.ckTu_t, GK.binop_catT, GK.slD_tup, GK.rvD_list, GK.cmpop_is, GK.cmpop_isnot, GK.negM_ok', GK.cmpop_in, GK.cmpop_notin, GK.cmpop_inT, GK.cmpop_notinT, GK.beq_t, GK.beq_f, GK.evE_dnw, GK.evE_dsp1, GK.setO_eq, GK.setS_list, GK.setS_dict, GK.keyOk_int, GK.keyOk_str, GK.ixD_dictI, GK.ixD_dictS, GK.cmpop_inK, GK.cmpop_notinK, GK.inK_int, GK.inK_str, GK.look_kT, GK.put_kT, GK.deq_bool, GK.lentE_var, GK.lentE_call, GK.lentE_lst, GK.lentE_tup, GK.lentE_ix, GK.lentE_sl, GK.lentE_bin, GK.lentE_b1, GK.lentE_lc, GK.lentE_lrg, GK.lentE_rvl, GK.lentE_sst, GK.lentE_gk, GK.lentE_gdx, GK.lentE_dsp, GK.lentO_p, GK.lentO_f, GK.lentO_o, GK.frzB_t, GK.frzB_f, GK.nmkD_list, GK.nmkD_tuple, GK.nmkD_int, GK.nmkD_bool, GK.nmkD_dict, GK.nmk_nil, GK.nmk_int, GK.nmk_str, GK.nmk_kT, GK.nmk_kv, GK.nmk_none, GK.keyOk_tup, GK.exS_ndn, GK.inK_tup, GK.inN_mk, GK.ixD_dictT, GK.getN_mk, GK.optD_some, GK.setSN_eq, GK.setN_mk, GK.b1D_tupN, GK.b1D_lenK, GK.b1D_lenD, GK.evE_lns, GK.evE_pk2, GK.exS_fst, Bool.false_and, Bool.and_false, GK.binI_add_nat, GK.binI_shr_nat, GK.binI_and1_nat, GK.deq_nat, GK.cmpop_lt_nat, GK.cmpop_le_nat, GK.cmpop_gt_nat, GK.cmpop_ge_nat, GK.binI_or_nat, GK.binI_xor_nat, GK.mmD_maxN, GK.mmD_minN, GK.inD_nats, GK.inF_nats, GK.intsD_nats, GK.sum_cast]
      rw [GK.lcGo_map nD (fun w => (tG i (ss.take k)).getD w .none)]
      rotate_left
      · intro w hw
        have := hso.lt w hw
        have hat : L2.atI (tG i (ss.take k)) (w : Int) = some ((tG i (ss.take k)).getD w .none) := by
          refine GK.atI_ofNat ?_
          rw [List.getD_eq_getElem?_getD, List.getElem?_eq_getElem (show w < (tG i (ss.take k)).length by omega)]
          rfl
        simp only [GK.lcTurn, GK.ok_bind, GK.pure_M, GK.bind_assoc', GK.vm_f, GK.vm_o, GK.vm_p, GK.vm_vm, GK.rdV_mk, GK.rdV_fI, GK.rdV_fB, GK.evE_var, GK.evE_int, GK.evE_bl, GK.evE_non, GK.evE_str, GK.evE_bin, GK.evE_neg, GK.evE_inv, GK.evE_cmp, GK.ifM_t, GK.ifM_f, GK.evE_chn, GK.evE_isN, GK.evE_notN, GK.evE_and, GK.evE_or, GK.evE_not, GK.evE_ife, GK.evE_tup, GK.evE_lst, GK.evE_ix, GK.evE_sl, GK.evE_call, GK.evE_b1, GK.evE_isi, GK.evE_lc, GK.evE_lrg, GK.evF_nil, GK.evF_cons, GK.evA_nil, GK.evA_cons, GK.getI_int, GK.evO_none, GK.evO_some, GK.evC_none, GK.evC_some, GK.evI_rg1, GK.evI_rg2, GK.evI_seq, GK.seqF_nx, GK.seqF_rt, GK.seqF_bk, GK.seqF_ct, GK.exSs_nil, GK.exSs_cons, GK.exSs_frz, GK.exS_asg, GK.exS_setix, GK.exS_app, GK.exS_ext, GK.exS_exp, GK.exS_ret, GK.exS_retN, GK.exS_ite, GK.exS_for, GK.exS_whl, GK.exS_brk, GK.exS_cont, GK.exS_pass, GK.fin_rt, GK.fin_nx, GK.bindT_nm, GK.bindT_nmo, GK.bindT_nI, GK.bindT_nB, GK.bindT_tp2, GK.bindT_tp3, GK.bindT_tl5, GK.fI_d, GK.fB_d, GK.fI_m, GK.fB_m, GK.asF_f, GK.asF_o, GK.asF_fI, GK.asF_fB, GK.asB_b, GK.argS_f, GK.argS_o, GK.argS_p, GK.argS_v, GK.argS_fI, GK.argS_fB, GK.retS_f, GK.retS_o, GK.retS_fI, GK.retS_fB, GK.retP_o, GK.retS_p, GK.ownG_o, GK.ownL_eq, GK.frzG_o, GK.frzG_f, GK.frzG_fI, GK.frzG_fB, GK.frzR_eq, GK.extG_list, GK.isF_f, GK.isF_o, GK.isF_p, GK.binop_int, GK.binop_cat, GK.binop_rep, GK.ckI_t, GK.ckO_t, GK.unop_neg, GK.unop_inv, GK.cmpop_eq, GK.cmpop_ne, GK.optS_some, GK.ixD_list, GK.ixD_tup, GK.slD_list, GK.b1D_len, GK.b1D_lenT, GK.b1D_list, GK.b1D_listT, GK.b1D_tup, GK.b1D_tupT, GK.b1D_int, GK.b1D_intN, GK.b1D_sum, GK.sumS_some, GK.allS_some, GK.b1D_all, GK.b1D_any, GK.itemsD_list, GK.itemsD_tup, GK.ix_t0, GK.ix_t1, GK.ix_t2, GK.nD_def, GK.fI_eq', GK.fB_eq', GK.deq_pair, GK.natDec, GK.decide_self, GK.notP_rg1, GK.notP_rg2, GK.notPs_f, GK.notPs_o, GK.notP_seq, GK.esLen, Nat.reduceLeDiff, decide_true, decide_false, List.getElem?_cons_zero, List.getElem?_cons_succ, List.set_cons_zero, List.set_cons_succ, List.length_cons, List.length_nil, List.map_cons, List.map_nil, List.replicate_succ, List.replicate_zero, List.append_nil, List.nil_append, List.cons_append, Nat.reduceAdd, Nat.reduceSub, GK.startR, GK.tgIn, GK.isRg, List.contains_cons, List.all_cons, List.all_nil, Bool.and_true, Bool.true_and, Bool.not_true, Bool.not_false, beq_self_eq_true, Bool.or_true, Bool.true_or, Bool.or_false, Bool.false_or, Nat.not_lt_zero, GK.wipeR, GK.isNone, GK.isiD, GK.evE_glb, GK.evE_sst, GK.evE_gk, GK.evE_gdx, GK.evE_dsp, GK.evP_nil, GK.evP_cons, GK.evE_mm, GK.evE_rvl, GK.evI_rg3, GK.evI_enm, GK.evI_rev, GK.evI_zp, GK.evI_rvr, GK.notP_rg3, GK.notP_rvr, GK.notP_enm, GK.notP_rev, GK.notP_zp, GK.ckTu_t, GK.binop_catT, GK.slD_tup, GK.rvD_list, GK.cmpop_is, GK.cmpop_isnot, GK.negM_ok', GK.cmpop_in, GK.cmpop_notin, GK.cmpop_inT, GK.cmpop_notinT, GK.beq_t, GK.beq_f, GK.evE_dnw, GK.evE_dsp1, GK.setO_eq, GK.setS_list, GK.setS_dict, GK.keyOk_int, GK.keyOk_str, GK.ixD_dictI, GK.ixD_dictS, GK.cmpop_inK, GK.cmpop_notinK, GK.inK_int, GK.inK_str, GK.look_kT, GK.put_kT, GK.deq_bool, GK.lentE_var, GK.lentE_call, GK.lentE_lst, GK.lentE_tup, GK.lentE_ix, GK.lentE_sl, GK.lentE_bin, GK.lentE_b1, GK.lentE_lc, GK.lentE_lrg, GK.lentE_rvl, GK.lentE_sst, GK.lentE_gk, GK.lentE_gdx, GK.lentE_dsp, GK.lentO_p, GK.lentO_f, GK.lentO_o, GK.frzB_t, GK.frzB_f, GK.nmkD_list, GK.nmkD_tuple, GK.nmkD_int, GK.nmkD_bool, GK.nmkD_dict, GK.nmk_nil, GK.nmk_int, GK.nmk_str, GK.nmk_kT, GK.nmk_kv, GK.nmk_none, GK.keyOk_tup, GK.exS_ndn, GK.inK_tup, GK.inN_mk, GK.ixD_dictT, GK.getN_mk, GK.optD_some, GK.setSN_eq, GK.setN_mk, GK.b1D_tupN, GK.b1D_lenK, GK.b1D_lenD, GK.evE_lns, GK.evE_pk2, GK.exS_fst, Bool.false_and, Bool.and_false, GK.binI_add_nat, GK.binI_shr_nat, GK.binI_and1_nat, GK.deq_nat, GK.cmpop_lt_nat, GK.cmpop_le_nat, GK.cmpop_gt_nat, GK.cmpop_ge_nat, GK.binI_or_nat, GK.binI_xor_nat, GK.mmD_maxN, GK.mmD_minN, GK.inD_nats, GK.inF_nats, GK.intsD_nats, GK.sum_cast, hat]
      simp only [GK.ok_bind, GK.pure_M, GK.bind_assoc', GK.vm_f, GK.vm_o, GK.vm_p, GK.vm_vm, GK.rdV_mk, GK.rdV_fI, GK.rdV_fB, GK.evE_var, GK.evE_int, GK.evE_bl, GK.evE_non, GK.evE_str, GK.evE_bin, GK.evE_neg, GK.evE_inv, GK.evE_cmp, GK.ifM_t, GK.ifM_f, GK.evE_chn, GK.evE_isN, GK.evE_notN, GK.evE_and, GK.evE_or, GK.evE_not, GK.evE_ife, GK.evE_tup, GK.evE_lst, GK.evE_ix, GK.evE_sl, GK.evE_call, GK.evE_b1, GK.evE_isi, GK.evE_lc, GK.evE_lrg, GK.evF_nil, GK.evF_cons, GK.evA_nil, GK.evA_cons, GK.getI_int, GK.evO_none, GK.evO_some, GK.evC_none, GK.evC_some, GK.evI_rg1, GK.evI_rg2, GK.evI_seq, GK.seqF_nx, GK.seqF_rt, GK.seqF_bk, GK.seqF_ct, GK.exSs_nil, GK.exSs_cons, GK.exSs_frz, GK.exS_asg, GK.exS_setix, GK.exS_app, GK.exS_ext, GK.exS_exp, GK.exS_ret, GK.exS_retN, GK.exS_ite, GK.exS_for, GK.exS_whl, GK.exS_brk, GK.exS_cont, GK.exS_pass, GK.fin_rt, GK.fin_nx, GK.bindT_nm, GK.bindT_nmo, GK.bindT_nI, GK.bindT_nB, GK.bindT_tp2, GK.bindT_tp3, GK.bindT_tl5, GK.fI_d, GK.fB_d, GK.fI_m, GK.fB_m, GK.asF_f, GK.asF_o, GK.asF_fI, GK.asF_fB, GK.asB_b, GK.argS_f, GK.argS_o, GK.argS_p, GK.argS_v, GK.argS_fI, GK.argS_fB, GK.retS_f, GK.retS_o, GK.retS_fI, GK.retS_fB, GK.retP_o, GK.retS_p, GK.ownG_o, GK.ownL_eq, GK.frzG_o, GK.frzG_f, GK.frzG_fI, GK.frzG_fB, GK.frzR_eq, GK.extG_list, GK.isF_f, GK.isF_o, GK.isF_p, GK.binop_int, GK.binop_cat, GK.binop_rep, GK.ckI_t, GK.ckO_t, GK.unop_neg, GK.unop_inv, GK.cmpop_eq, GK.cmpop_ne, GK.optS_some, GK.ixD_list, GK.ixD_tup, GK.slD_list, GK.b1D_len, GK.b1D_lenT, GK.b1D_list, GK.b1D_listT, GK.b1D_tup, GK.b1D_tupT, GK.b1D_int, GK.b1D_intN, GK.b1D_sum, GK.sumS_some, GK.allS_some, GK.b1D_all, GK.b1D_any, GK.itemsD_list, GK.itemsD_tup, GK.ix_t0, GK.ix_t1, GK.ix_t2, GK.nD_def, GK.fI_eq', GK.fB_eq', GK.deq_pair, GK.natDec, GK.decide_self, GK.notP_rg1, GK.notP_rg2, GK.notPs_f, GK.notPs_o, GK.notP_seq, GK.esLen, Nat.reduceLeDiff, decide_true, decide_false, List.getElem?_cons_zero, List.getElem?_cons_succ, List.set_cons_zero, List.set_cons_succ, List.length_cons, List.length_nil, List.map_cons, List.map_nil, List.replicate_succ, List.replicate_zero, List.append_nil, List.nil_append, List.cons_append, Nat.reduceAdd, Nat.reduceSub, GK.startR, GK.tgIn, GK.isRg, List.contains_cons, List.all_cons, List.all_nil, Bool.and_true, Bool.true_and, Bool.not_true, Bool.not_false, beq_self_eq_true, Bool.or_true, Bool.true_or, Bool.or_false, Bool.false_or, Nat.not_lt_zero, GK.wipeR, GK.isNone, GK.isiD, GK.evE_glb, GK.evE_sst, GK.evE_gk, GK.evE_gdx, GK.evE_dsp, GK.evP_nil, GK.evP_cons, GK.evE_mm, GK.evE_rvl, GK.evI_rg3, GK.evI_enm, GK.evI_rev, GK.evI_zp, GK.evI_rvr, GK.notP_rg3, GK.notP_rvr, GK.notP_enm, GK.notP_rev, GK.notP_zp, GK.ckTu_t, GK.binop_catT, GK.slD_tup, GK.rvD_list, GK.cmpop_is, GK.cmpop_isnot, GK.negM_ok', GK.cmpop_in, GK.cmpop_notin, GK.cmpop_inT, GK.cmpop_notinT, GK.beq_t, GK.beq_f, GK.evE_dnw, GK.evE_dsp1, GK.setO_eq, GK.setS_list, GK.setS_dict, GK.keyOk_int, GK.keyOk_str, GK.ixD_dictI, GK.ixD_dictS, GK.cmpop_inK, GK.cmpop_notinK, GK.inK_int, GK.inK_str, GK.look_kT, GK.put_kT, GK.deq_bool, GK.lentE_var, GK.lentE_call, GK.lentE_lst, GK.lentE_tup, GK.lentE_ix, GK.lentE_sl, GK.lentE_bin, GK.lentE_b1, GK.lentE_lc, GK.lentE_lrg, GK.lentE_rvl, GK.lentE_sst, GK.lentE_gk, GK.lentE_gdx, GK.lentE_dsp, GK.lentO_p, GK.lentO_f, GK.lentO_o, GK.frzB_t, GK.frzB_f, GK.nmkD_list, GK.nmkD_tuple, GK.nmkD_int, GK.nmkD_bool, GK.nmkD_dict, GK.nmk_nil, GK.nmk_int, GK.nmk_str, GK.nmk_kT, GK.nmk_kv, GK.nmk_none, GK.keyOk_tup, GK.exS_ndn, GK.inK_tup, GK.inN_mk, GK.ixD_dictT, GK.getN_mk, GK.optD_some, GK.setSN_eq, GK.setN_mk, GK.b1D_tupN, GK.b1D_lenK, GK.b1D_lenD, GK.evE_lns, GK.evE_pk2, GK.exS_fst, Bool.false_and, Bool.and_false, GK.binI_add_nat, GK.binI_shr_nat, GK.binI_and1_nat, GK.deq_nat, GK.cmpop_lt_nat, GK.cmpop_le_nat, GK.cmpop_gt_nat, GK.cmpop_ge_nat, GK.binI_or_nat, GK.binI_xor_nat, GK.mmD_maxN, GK.mmD_minN, GK.inD_nats, GK.inF_nats, GK.intsD_nats, GK.sum_cast, List.length_map, GK.lenOk_of (show s.ws.length ≤ 16777216 by omega), tk, GK.lenOk_of (show i + k + 1 ≤ 16777216 by omega)]
      exact nx_ok ⟨_, _, _, _, rfl⟩
    · obtain ⟨a, b, c, d, rfl⟩ := hp
      rw [List.length_map, List.take_length]
      have tl := tl ss
      have hat : L2.atI (tG i ss) (o : Int) = some ((tG i ss).getD o .none) := by
        refine GK.atI_ofNat ?_
        rw [List.getD_eq_getElem?_getD, List.getElem?_eq_getElem (show o < (tG i ss).length by omega)]
        rfl
      simp only [GK.ok_bind, GK.pure_M, GK.bind_assoc', GK.vm_f, GK.vm_o, GK.vm_p, GK.vm_vm, GK.rdV_mk, GK.rdV_fI, GK.rdV_fB, GK.evE_var, GK.evE_int, GK.evE_bl, GK.evE_non, GK.evE_str, GK.evE_bin, GK.evE_neg, GK.evE_inv, GK.evE_cmp, GK.ifM_t, GK.ifM_f, GK.evE_chn, GK.evE_isN, GK.evE_notN, GK.evE_and, GK.evE_or, GK.evE_not, GK.evE_ife, GK.evE_tup, GK.evE_lst, GK.evE_ix, GK.evE_sl, GK.evE_call, GK.evE_b1, GK.evE_isi, GK.evE_lc, GK.evE_lrg, GK.evF_nil, GK.evF_cons, GK.evA_nil, GK.evA_cons, GK.getI_int, GK.evO_none, GK.evO_some, GK.evC_none, GK.evC_some, GK.evI_rg1, GK.evI_rg2, GK.evI_seq, GK.seqF_nx, GK.seqF_rt, GK.seqF_bk, GK.seqF_ct, GK.exSs_nil, GK.exSs_cons, GK.exSs_frz, GK.exS_asg, GK.exS_setix, GK.exS_app, GK.exS_ext, GK.exS_exp, GK.exS_ret, GK.exS_retN, GK.exS_ite, GK.exS_for, GK.exS_whl, GK.exS_brk, GK.exS_cont, GK.exS_pass, GK.fin_rt, GK.fin_nx, GK.bindT_nm, GK.bindT_nmo, GK.bindT_nI, GK.bindT_nB, GK.bindT_tp2, GK.bindT_tp3, GK.bindT_tl5, GK.fI_d, GK.fB_d, GK.fI_m, GK.fB_m, GK.asF_f, GK.asF_o, GK.asF_fI, GK.asF_fB, GK.asB_b, GK.argS_f, GK.argS_o, GK.argS_p, GK.argS_v, GK.argS_fI, GK.argS_fB, GK.retS_f, GK.retS_o, GK.retS_fI, GK.retS_fB, GK.retP_o, GK.retS_p, GK.ownG_o, GK.ownL_eq, GK.frzG_o, GK.frzG_f, GK.frzG_fI, GK.frzG_fB, GK.frzR_eq, GK.extG_list, GK.isF_f, GK.isF_o, GK.isF_p, GK.binop_int, GK.binop_cat, GK.binop_rep, GK.ckI_t, GK.ckO_t, GK.unop_neg, GK.unop_inv, GK.cmpop_eq, GK.cmpop_ne, GK.optS_some, GK.ixD_list, GK.ixD_tup, GK.slD_list, GK.b1D_len, GK.b1D_lenT, GK.b1D_list, GK.b1D_listT, GK.b1D_tup, GK.b1D_tupT, GK.b1D_int, GK.b1D_intN, GK.b1D_sum, GK.sumS_some, GK.allS_some, GK.b1D_all, GK.b1D_any, GK.itemsD_list, GK.itemsD_tup, GK.ix_t0, GK.ix_t1, GK.ix_t2, GK.nD_def, GK.fI_eq', GK.fB_eq', GK.deq_pair, GK.natDec, GK.decide_self, GK.notP_rg1, GK.notP_rg2, GK.notPs_f, GK.notPs_o, GK.notP_seq, GK.esLen, Nat.reduceLeDiff, decide_true, decide_false, List.getElem?_cons_zero, List.getElem?_cons_succ, List.set_cons_zero, List.set_cons_succ, List.length_cons, List.length_nil, List.map_cons, List.map_nil, List.replicate_succ, List.replicate_zero, List.append_nil, List.nil_append, List.cons_append, Nat.reduceAdd, Nat.reduceSub, GK.startR, GK.tgIn, GK.isRg, List.contains_cons, List.all_cons, List.all_nil, Bool.and_true, Bool.true_and, Bool.not_true, Bool.not_false, beq_self_eq_true, Bool.or_true, Bool.true_or, Bool.or_false, Bool.false_or, Nat.not_lt_zero, GK.wipeR, GK.isNone, GK.isiD, GK.evE_glb, GK.evE_sst, GK.evE_gk, GK.evE_gdx, GK.evE_dsp, GK.evP_nil, GK.evP_cons, GK.evE_mm, GK.evE_rvl, GK.evI_rg3, GK.evI_enm, GK.evI_rev, GK.evI_zp, GK.evI_rvr, GK.notP_rg3, GK.notP_rvr, GK.notP_enm, GK.notP_rev, GK.notP_zp, GK.ckTu_t, GK.binop_catT, GK.slD_tup, GK.rvD_list, GK.cmpop_is, GK.cmpop_isnot, GK.negM_ok', GK.cmpop_in, GK.cmpop_notin, GK.cmpop_inT, GK.cmpop_notinT, GK.beq_t, GK.beq_f, GK.evE_dnw, GK.evE_dsp1, GK.setO_eq, GK.setS_list, GK.setS_dict, GK.keyOk_int, GK.keyOk_str, GK.ixD_dictI, GK.ixD_dictS, GK.cmpop_inK, GK.cmpop_notinK, GK.inK_int, GK.inK_str, GK.look_kT, GK.put_kT, GK.deq_bool, GK.lentE_var, GK.lentE_call, GK.lentE_lst, GK.lentE_tup, GK.lentE_ix, GK.lentE_sl, GK.lentE_bin, GK.lentE_b1, GK.lentE_lc, GK.lentE_lrg, GK.lentE_rvl, GK.lentE_sst, GK.lentE_gk, GK.lentE_gdx, GK.lentE_dsp, GK.lentO_p, GK.lentO_f, GK.lentO_o, GK.frzB_t, GK.frzB_f, GK.nmkD_list, GK.nmkD_tuple, GK.nmkD_int, GK.nmkD_bool, GK.nmkD_dict, GK.nmk_nil, GK.nmk_int, GK.nmk_str, GK.nmk_kT, GK.nmk_kv, GK.nmk_none, GK.keyOk_tup, GK.exS_ndn, GK.inK_tup, GK.inN_mk, GK.ixD_dictT, GK.getN_mk, GK.optD_some, GK.setSN_eq, GK.setN_mk, GK.b1D_tupN, GK.b1D_lenK, GK.b1D_lenD, GK.evE_lns, GK.evE_pk2, GK.exS_fst, Bool.false_and, Bool.and_false, GK.binI_add_nat, GK.binI_shr_nat, GK.binI_and1_nat, GK.deq_nat, GK.cmpop_lt_nat, GK.cmpop_le_nat, GK.cmpop_gt_nat, GK.cmpop_ge_nat, GK.binI_or_nat, GK.binI_xor_nat, GK.mmD_maxN, GK.mmD_minN, GK.inD_nats, GK.inF_nats, GK.intsD_nats, GK.sum_cast, hat]
theorem law_value_run (i row : Nat) : ∀ (k : Nat) (d : D) (m : Nat), TrOk i k d → run (m + k + 1) "_law_value" [⟨.f, d⟩, fI (row : Nat)] = .ok (fI (vF row k d : Nat))
  | k, d, m, h => by
    have leaf : ∀ w, d = nD w → run (m + k + 1) "_law_value" [⟨.f, d⟩, fI (row : Nat)] = .ok (fI (vF row k d : Nat)) := fun w e => by
      rw [e, vF_leaf, run_law_value, runB_eq]
      simp only [b_law_value, GK.ok_bind, GK.pure_M, GK.bind_assoc', GK.vm_f, GK.vm_o, GK.vm_p, GK.vm_vm, GK.rdV_mk, GK.rdV_fI, GK.rdV_fB, GK.evE_var, GK.evE_int, GK.evE_bl, GK.evE_non, GK.evE_str, GK.evE_bin, GK.evE_neg, GK.evE_inv, GK.evE_cmp, GK.ifM_t, GK.ifM_f, GK.evE_chn, GK.evE_isN, GK.evE_notN, GK.evE_and, GK.evE_or, GK.evE_not, GK.evE_ife, GK.evE_tup, GK.evE_lst, GK.evE_ix, GK.evE_sl, GK.evE_call, GK.evE_b1, GK.evE_isi, GK.evE_lc, GK.evE_lrg, GK.evF_nil, GK.evF_cons, GK.evA_nil, GK.evA_cons, GK.getI_int, GK.evO_none, GK.evO_some, GK.evC_none, GK.evC_some, GK.evI_rg1, GK.evI_rg2, GK.evI_seq, GK.seqF_nx, GK.seqF_rt, GK.seqF_bk, GK.seqF_ct, GK.exSs_nil, GK.exSs_cons, GK.exSs_frz, GK.exS_asg, GK.exS_setix, GK.exS_app, GK.exS_ext, GK.exS_exp, GK.exS_ret, GK.exS_retN, GK.exS_ite, GK.exS_for, GK.exS_whl, GK.exS_brk, GK.exS_cont, GK.exS_pass, GK.fin_rt, GK.fin_nx, GK.bindT_nm, GK.bindT_nmo, GK.bindT_nI, GK.bindT_nB, GK.bindT_tp2, GK.bindT_tp3, GK.bindT_tl5, GK.fI_d, GK.fB_d, GK.fI_m, GK.fB_m, GK.asF_f, GK.asF_o, GK.asF_fI, GK.asF_fB, GK.asB_b, GK.argS_f, GK.argS_o, GK.argS_p, GK.argS_v, GK.argS_fI, GK.argS_fB, GK.retS_f, GK.retS_o, GK.retS_fI, GK.retS_fB, GK.retP_o, GK.retS_p, GK.ownG_o, GK.ownL_eq, GK.frzG_o, GK.frzG_f, GK.frzG_fI, GK.frzG_fB, GK.frzR_eq, GK.extG_list, GK.isF_f, GK.isF_o, GK.isF_p, GK.binop_int, GK.binop_cat, GK.binop_rep, GK.ckI_t, GK.ckO_t, GK.unop_neg, GK.unop_inv, GK.cmpop_eq, GK.cmpop_ne, GK.optS_some, GK.ixD_list, GK.ixD_tup, GK.slD_list, GK.b1D_len, GK.b1D_lenT, GK.b1D_list, GK.b1D_listT, GK.b1D_tup, GK.b1D_tupT, GK.b1D_int, GK.b1D_intN, GK.b1D_sum, GK.sumS_some, GK.allS_some, GK.b1D_all, GK.b1D_any, GK.itemsD_list, GK.itemsD_tup, GK.ix_t0, GK.ix_t1, GK.ix_t2, GK.nD_def, GK.fI_eq', GK.fB_eq', GK.deq_pair, GK.natDec, GK.decide_self, GK.notP_rg1, GK.notP_rg2, GK.notPs_f, GK.notPs_o, GK.notP_seq, GK.esLen, Nat.reduceLeDiff, decide_true, decide_false, List.getElem?_cons_zero, List.getElem?_cons_succ, List.set_cons_zero, List.set_cons_succ, List.length_cons, List.length_nil, List.map_cons, List.map_nil, List.replicate_succ, List.replicate_zero, List.append_nil, List.nil_append, List.cons_append, Nat.reduceAdd, Nat.reduceSub, GK.startR, GK.tgIn, GK.isRg, List.contains_cons, List.all_cons, List.all_nil, Bool.and_true, Bool.true_and, Bool.not_true, Bool.not_false, beq_self_eq_true, Bool.or_true, Bool.true_or, Bool.or_false, Bool.false_or, Nat.not_lt_zero, GK.wipeR, GK.isNone, GK.isiD, GK.evE_glb, GK.evE_sst, GK.evE_gk, GK.evE_gdx, GK.evE_dsp, GK.evP_nil, GK.evP_cons, GK.evE_mm, GK.evE_rvl, GK.evI_rg3, GK.evI_enm, GK.evI_rev, GK.evI_zp, GK.evI_rvr, GK.notP_rg3, GK.notP_rvr, GK.notP_enm, GK.notP_rev, GK.notP_zp, GK.ckTu_t, GK.binop_catT, GK.slD_tup, GK.rvD_list, GK.cmpop_is, GK.cmpop_isnot, GK.negM_ok', GK.cmpop_in, GK.cmpop_notin, GK.cmpop_inT, GK.cmpop_notinT, GK.beq_t, GK.beq_f, GK.evE_dnw, GK.evE_dsp1, GK.setO_eq, GK.setS_list, GK.setS_dict, GK.keyOk_int, GK.keyOk_str, GK.ixD_dictI, GK.ixD_dictS, GK.cmpop_inK, GK.cmpop_notinK, GK.inK_int, GK.inK_str, GK.look_kT, GK.put_kT, GK.deq_bool, GK.lentE_var, GK.lentE_call, GK.lentE_lst, GK.lentE_tup, GK.lentE_ix, GK.lentE_sl, GK.lentE_bin, GK.lentE_b1, GK.lentE_lc, GK.lentE_lrg, GK.lentE_rvl, GK.lentE_sst, GK.lentE_gk, GK.lentE_gdx, GK.lentE_dsp, GK.lentO_p, GK.lentO_f, GK.lentO_o, GK.frzB_t, GK.frzB_f, GK.nmkD_list, GK.nmkD_tuple, GK.nmkD_int, GK.nmkD_bool, GK.nmkD_dict, GK.nmk_nil, GK.nmk_int, GK.nmk_str, GK.nmk_kT, GK.nmk_kv, GK.nmk_none, GK.keyOk_tup, GK.exS_ndn, GK.inK_tup, GK.inN_mk, GK.ixD_dictT, GK.getN_mk, GK.optD_some, GK.setSN_eq, GK.setN_mk, GK.b1D_tupN, GK.b1D_lenK, GK.b1D_lenD, GK.evE_lns, GK.evE_pk2, GK.exS_fst, Bool.false_and, Bool.and_false, GK.binI_add_nat, GK.binI_shr_nat, GK.binI_and1_nat, GK.deq_nat, GK.cmpop_lt_nat, GK.cmpop_le_nat, GK.cmpop_gt_nat, GK.cmpop_ge_nat, GK.binI_or_nat, GK.binI_xor_nat, GK.mmD_maxN, GK.mmD_minN, GK.inD_nats, GK.inF_nats, GK.intsD_nats, GK.sum_cast, GK.isiD, bitN]
    match k, h with
    | 0, ⟨w, _, e⟩ => exact leaf w e
    | k + 1, h =>
      rcases h with ⟨w, _, e⟩ | ⟨n, b, ts, h1, _, h2, h3, e⟩
      · exact leaf w e
      · rw [e, vF_node, show m + (k + 1) + 1 = (m + k + 1) + 1 by omega, run_law_value, runB_eq]
        have ihh := fun t (ht : t ∈ ts) => law_value_run i row k t m (h3 t ht)
        have en := GK.enumD_map (fun t : D => t) .none ts
        rw [List.map_id'] at en
        simp only [b_law_value, gD, GK.ok_bind, GK.pure_M, GK.bind_assoc', GK.vm_f, GK.vm_o, GK.vm_p, GK.vm_vm, GK.rdV_mk, GK.rdV_fI, GK.rdV_fB, GK.evE_var, GK.evE_int, GK.evE_bl, GK.evE_non, GK.evE_str, GK.evE_bin, GK.evE_neg, GK.evE_inv, GK.evE_cmp, GK.ifM_t, GK.ifM_f, GK.evE_chn, GK.evE_isN, GK.evE_notN, GK.evE_and, GK.evE_or, GK.evE_not, GK.evE_ife, GK.evE_tup, GK.evE_lst, GK.evE_ix, GK.evE_sl, GK.evE_call, GK.evE_b1, GK.evE_isi, GK.evE_lc, GK.evE_lrg, GK.evF_nil, GK.evF_cons, GK.evA_nil, GK.evA_cons, GK.getI_int, GK.evO_none, GK.evO_some, GK.evC_none, GK.evC_some, GK.evI_rg1, GK.evI_rg2, GK.evI_seq, GK.seqF_nx, GK.seqF_rt, GK.seqF_bk, GK.seqF_ct, GK.exSs_nil, GK.exSs_cons, GK.exSs_frz, GK.exS_asg, GK.exS_setix, GK.exS_app, GK.exS_ext, GK.exS_exp, GK.exS_ret, GK.exS_retN, GK.exS_ite, GK.exS_for, GK.exS_whl, GK.exS_brk, GK.exS_cont, GK.exS_pass, GK.fin_rt, GK.fin_nx, GK.bindT_nm, GK.bindT_nmo, GK.bindT_nI, GK.bindT_nB, GK.bindT_tp2, GK.bindT_tp3, GK.bindT_tl5, GK.fI_d, GK.fB_d, GK.fI_m, GK.fB_m, GK.asF_f, GK.asF_o, GK.asF_fI, GK.asF_fB, GK.asB_b, GK.argS_f, GK.argS_o, GK.argS_p, GK.argS_v, GK.argS_fI, GK.argS_fB, GK.retS_f, GK.retS_o, GK.retS_fI, GK.retS_fB, GK.retP_o, GK.retS_p, GK.ownG_o, GK.ownL_eq, GK.frzG_o, GK.frzG_f, GK.frzG_fI, GK.frzG_fB, GK.frzR_eq, GK.extG_list, GK.isF_f, GK.isF_o, GK.isF_p, GK.binop_int, GK.binop_cat, GK.binop_rep, GK.ckI_t, GK.ckO_t, GK.unop_neg, GK.unop_inv, GK.cmpop_eq, GK.cmpop_ne, GK.optS_some, GK.ixD_list, GK.ixD_tup, GK.slD_list, GK.b1D_len, GK.b1D_lenT, GK.b1D_list, GK.b1D_listT, GK.b1D_tup, GK.b1D_tupT, GK.b1D_int, GK.b1D_intN, GK.b1D_sum, GK.sumS_some, GK.allS_some, GK.b1D_all, GK.b1D_any, GK.itemsD_list, GK.itemsD_tup, GK.ix_t0, GK.ix_t1, GK.ix_t2, GK.nD_def, GK.fI_eq', GK.fB_eq', GK.deq_pair, GK.natDec, GK.decide_self, GK.notP_rg1, GK.notP_rg2, GK.notPs_f, GK.notPs_o, GK.notP_seq, GK.esLen, Nat.reduceLeDiff, decide_true, decide_false, List.getElem?_cons_zero, List.getElem?_cons_succ, List.set_cons_zero, List.set_cons_succ, List.length_cons, List.length_nil, List.map_cons, List.map_nil, List.replicate_succ, List.replicate_zero, List.append_nil, List.nil_append, List.cons_append, Nat.reduceAdd, Nat.reduceSub, GK.startR, GK.tgIn, GK.isRg, List.contains_cons, List.all_cons, List.all_nil, Bool.and_true, Bool.true_and, Bool.not_true, Bool.not_false, beq_self_eq_true, Bool.or_true, Bool.true_or, Bool.or_false, Bool.false_or, Nat.not_lt_zero, GK.wipeR, GK.isNone, GK.isiD, GK.evE_glb, GK.evE_sst, GK.evE_gk, GK.evE_gdx, GK.evE_dsp, GK.evP_nil, GK.evP_cons, GK.evE_mm, GK.evE_rvl, GK.evI_rg3, GK.evI_enm, GK.evI_rev, GK.evI_zp, GK.evI_rvr, GK.notP_rg3, GK.notP_rvr, GK.notP_enm, GK.notP_rev, GK.notP_zp, GK.ckTu_t, GK.binop_catT, GK.slD_tup, GK.rvD_list, GK.cmpop_is, GK.cmpop_isnot, GK.negM_ok', GK.cmpop_in, GK.cmpop_notin, GK.cmpop_inT, GK.cmpop_notinT, GK.beq_t, GK.beq_f, GK.evE_dnw, GK.evE_dsp1, GK.setO_eq, GK.setS_list, GK.setS_dict, GK.keyOk_int, GK.keyOk_str, GK.ixD_dictI, GK.ixD_dictS, GK.cmpop_inK, GK.cmpop_notinK, GK.inK_int, GK.inK_str, GK.look_kT, GK.put_kT, GK.deq_bool, GK.lentE_var, GK.lentE_call, GK.lentE_lst, GK.lentE_tup, GK.lentE_ix, GK.lentE_sl, GK.lentE_bin, GK.lentE_b1, GK.lentE_lc, GK.lentE_lrg, GK.lentE_rvl, GK.lentE_sst, GK.lentE_gk, GK.lentE_gdx, GK.lentE_dsp, GK.lentO_p, GK.lentO_f, GK.lentO_o, GK.frzB_t, GK.frzB_f, GK.nmkD_list, GK.nmkD_tuple, GK.nmkD_int, GK.nmkD_bool, GK.nmkD_dict, GK.nmk_nil, GK.nmk_int, GK.nmk_str, GK.nmk_kT, GK.nmk_kv, GK.nmk_none, GK.keyOk_tup, GK.exS_ndn, GK.inK_tup, GK.inN_mk, GK.ixD_dictT, GK.getN_mk, GK.optD_some, GK.setSN_eq, GK.setN_mk, GK.b1D_tupN, GK.b1D_lenK, GK.b1D_lenD, GK.evE_lns, GK.evE_pk2, GK.exS_fst, Bool.false_and, Bool.and_false, GK.binI_add_nat, GK.binI_shr_nat, GK.binI_and1_nat, GK.deq_nat, GK.cmpop_lt_nat, GK.cmpop_le_nat, GK.cmpop_gt_nat, GK.cmpop_ge_nat, GK.binI_or_nat, GK.binI_xor_nat, GK.mmD_maxN, GK.mmD_minN, GK.inD_nats, GK.inF_nats, GK.intsD_nats, GK.sum_cast, GK.isiD, en, GK.notP_enm]
        refine for_fin (fun j ρ => ∃ s t, ρ = [some ⟨.f, .tuple [.tuple [.int (n : Int), .int (b : Int)], .tuple ts]⟩, some (fI (row : Nat)), some (fI (numN ((ts.map (vF row k)).take j) : Nat)), s, t]) ⟨none, none, rfl⟩ (fun j x ρ hx hp => ?_) (fun ρ' hp => ?_)
        · obtain ⟨s, t, rfl⟩ := hp
          obtain ⟨hj, rfl⟩ := range_at hx
          have hat := List.getElem?_eq_getElem hj
          have hm := at_mem hat
          have hlt := vF_lt row k i _ (h3 _ hm)
          have e2 : (ts.map (vF row k))[j]? = some (vF row k ts[j]) := by rw [List.getElem?_map, hat]; rfl
          have eg : ts.getD j .none = ts[j] := by rw [List.getD_eq_getElem?_getD, hat]; rfl
          simp only [GK.ok_bind, GK.pure_M, GK.bind_assoc', GK.vm_f, GK.vm_o, GK.vm_p, GK.vm_vm, GK.rdV_mk, GK.rdV_fI, GK.rdV_fB, GK.evE_var, GK.evE_int, GK.evE_bl, GK.evE_non, GK.evE_str, GK.evE_bin, GK.evE_neg, GK.evE_inv, GK.evE_cmp, GK.ifM_t, GK.ifM_f, GK.evE_chn, GK.evE_isN, GK.evE_notN, GK.evE_and, GK.evE_or, GK.evE_not, GK.evE_ife, GK.evE_tup, GK.evE_lst, GK.evE_ix, GK.evE_sl, GK.evE_call, GK.evE_b1, GK.evE_isi, GK.evE_lc, GK.evE_lrg, GK.evF_nil, GK.evF_cons, GK.evA_nil, GK.evA_cons, GK.getI_int, GK.evO_none, GK.evO_some, GK.evC_none, GK.evC_some, GK.evI_rg1, GK.evI_rg2, GK.evI_seq, GK.seqF_nx, GK.seqF_rt, GK.seqF_bk, GK.seqF_ct, GK.exSs_nil, GK.exSs_cons, GK.exSs_frz, GK.exS_asg, GK.exS_setix, GK.exS_app, GK.exS_ext, GK.exS_exp, GK.exS_ret, GK.exS_retN, GK.exS_ite, GK.exS_for, GK.exS_whl, GK.exS_brk, GK.exS_cont, GK.exS_pass, GK.fin_rt, GK.fin_nx, GK.bindT_nm, GK.bindT_nmo, GK.bindT_nI, GK.bindT_nB, GK.bindT_tp2, GK.bindT_tp3, GK.bindT_tl5, GK.fI_d, GK.fB_d, GK.fI_m, GK.fB_m, GK.asF_f, GK.asF_o, GK.asF_fI, GK.asF_fB, GK.asB_b, GK.argS_f, GK.argS_o, GK.argS_p, GK.argS_v, GK.argS_fI, GK.argS_fB, GK.retS_f, GK.retS_o, GK.retS_fI, GK.retS_fB, GK.retP_o, GK.retS_p, GK.ownG_o, GK.ownL_eq, GK.frzG_o, GK.frzG_f, GK.frzG_fI, GK.frzG_fB, GK.frzR_eq, GK.extG_list, GK.isF_f, GK.isF_o, GK.isF_p, GK.binop_int, GK.binop_cat, GK.binop_rep, GK.ckI_t, GK.ckO_t, GK.unop_neg, GK.unop_inv, GK.cmpop_eq, GK.cmpop_ne, GK.optS_some, GK.ixD_list, GK.ixD_tup, GK.slD_list, GK.b1D_len, GK.b1D_lenT, GK.b1D_list, GK.b1D_listT, GK.b1D_tup, GK.b1D_tupT, GK.b1D_int, GK.b1D_intN, GK.b1D_sum, GK.sumS_some, GK.allS_some, GK.b1D_all, GK.b1D_any, GK.itemsD_list, GK.itemsD_tup, GK.ix_t0, GK.ix_t1, GK.ix_t2, GK.nD_def, GK.fI_eq', GK.fB_eq', GK.deq_pair, GK.natDec, GK.decide_self, GK.notP_rg1, GK.notP_rg2, GK.notPs_f, GK.notPs_o, GK.notP_seq, GK.esLen, Nat.reduceLeDiff, decide_true, decide_false, List.getElem?_cons_zero, List.getElem?_cons_succ, List.set_cons_zero, List.set_cons_succ, List.length_cons, List.length_nil, List.map_cons, List.map_nil, List.replicate_succ, List.replicate_zero, List.append_nil, List.nil_append, List.cons_append, Nat.reduceAdd, Nat.reduceSub, GK.startR, GK.tgIn, GK.isRg, List.contains_cons, List.all_cons, List.all_nil, Bool.and_true, Bool.true_and, Bool.not_true, Bool.not_false, beq_self_eq_true, Bool.or_true, Bool.true_or, Bool.or_false, Bool.false_or, Nat.not_lt_zero, GK.wipeR, GK.isNone, GK.isiD, GK.evE_glb, GK.evE_sst, GK.evE_gk, GK.evE_gdx, GK.evE_dsp, GK.evP_nil, GK.evP_cons, GK.evE_mm, GK.evE_rvl, GK.evI_rg3, GK.evI_enm, GK.evI_rev, GK.evI_zp, GK.evI_rvr, GK.notP_rg3, GK.notP_rvr, GK.notP_enm, GK.notP_rev, GK.notP_zp, GK.ckTu_t, GK.binop_catT, GK.slD_tup, GK.rvD_list, GK.cmpop_is, GK.cmpop_isnot, GK.negM_ok', GK.cmpop_in, GK.cmpop_notin, GK.cmpop_inT, GK.cmpop_notinT, GK.beq_t, GK.beq_f, GK.evE_dnw, GK.evE_dsp1, GK.setO_eq, GK.setS_list, GK.setS_dict, GK.keyOk_int, GK.keyOk_str, GK.ixD_dictI, GK.ixD_dictS, GK.cmpop_inK, GK.cmpop_notinK, GK.inK_int, GK.inK_str, GK.look_kT, GK.put_kT, GK.deq_bool, GK.lentE_var, GK.lentE_call, GK.lentE_lst, GK.lentE_tup, GK.lentE_ix, GK.lentE_sl, GK.lentE_bin, GK.lentE_b1, GK.lentE_lc, GK.lentE_lrg, GK.lentE_rvl, GK.lentE_sst, GK.lentE_gk, GK.lentE_gdx, GK.lentE_dsp, GK.lentO_p, GK.lentO_f, GK.lentO_o, GK.frzB_t, GK.frzB_f, GK.nmkD_list, GK.nmkD_tuple, GK.nmkD_int, GK.nmkD_bool, GK.nmkD_dict, GK.nmk_nil, GK.nmk_int, GK.nmk_str, GK.nmk_kT, GK.nmk_kv, GK.nmk_none, GK.keyOk_tup, GK.exS_ndn, GK.inK_tup, GK.inN_mk, GK.ixD_dictT, GK.getN_mk, GK.optD_some, GK.setSN_eq, GK.setN_mk, GK.b1D_tupN, GK.b1D_lenK, GK.b1D_lenD, GK.evE_lns, GK.evE_pk2, GK.exS_fst, Bool.false_and, Bool.and_false, GK.binI_add_nat, GK.binI_shr_nat, GK.binI_and1_nat, GK.deq_nat, GK.cmpop_lt_nat, GK.cmpop_le_nat, GK.cmpop_gt_nat, GK.cmpop_ge_nat, GK.binI_or_nat, GK.binI_xor_nat, GK.mmD_maxN, GK.mmD_minN, GK.inD_nats, GK.inF_nats, GK.intsD_nats, GK.sum_cast, eg, ihh _ hm, GK.binI_shl_nat (show vF row k ts[j] < 2 ^ 64 by omega) (show j ≤ 1000000 by omega), numN_take e2]
          exact nx_ok ⟨_, _, rfl⟩
        · obtain ⟨s, t, rfl⟩ := hp
          rw [List.length_map, List.length_range, List.take_of_length_le (by rw [List.length_map]; exact Nat.le_refl _)]
          simp only [GK.ok_bind, GK.pure_M, GK.bind_assoc', GK.vm_f, GK.vm_o, GK.vm_p, GK.vm_vm, GK.rdV_mk, GK.rdV_fI, GK.rdV_fB, GK.evE_var, GK.evE_int, GK.evE_bl, GK.evE_non, GK.evE_str, GK.evE_bin, GK.evE_neg, GK.evE_inv, GK.evE_cmp, GK.ifM_t, GK.ifM_f, GK.evE_chn, GK.evE_isN, GK.evE_notN, GK.evE_and, GK.evE_or, GK.evE_not, GK.evE_ife, GK.evE_tup, GK.evE_lst, GK.evE_ix, GK.evE_sl, GK.evE_call, GK.evE_b1, GK.evE_isi, GK.evE_lc, GK.evE_lrg, GK.evF_nil, GK.evF_cons, GK.evA_nil, GK.evA_cons, GK.getI_int, GK.evO_none, GK.evO_some, GK.evC_none, GK.evC_some, GK.evI_rg1, GK.evI_rg2, GK.evI_seq, GK.seqF_nx, GK.seqF_rt, GK.seqF_bk, GK.seqF_ct, GK.exSs_nil, GK.exSs_cons, GK.exSs_frz, GK.exS_asg, GK.exS_setix, GK.exS_app, GK.exS_ext, GK.exS_exp, GK.exS_ret, GK.exS_retN, GK.exS_ite, GK.exS_for, GK.exS_whl, GK.exS_brk, GK.exS_cont, GK.exS_pass, GK.fin_rt, GK.fin_nx, GK.bindT_nm, GK.bindT_nmo, GK.bindT_nI, GK.bindT_nB, GK.bindT_tp2, GK.bindT_tp3, GK.bindT_tl5, GK.fI_d, GK.fB_d, GK.fI_m, GK.fB_m, GK.asF_f, GK.asF_o, GK.asF_fI, GK.asF_fB, GK.asB_b, GK.argS_f, GK.argS_o, GK.argS_p, GK.argS_v, GK.argS_fI, GK.argS_fB, GK.retS_f, GK.retS_o, GK.retS_fI, GK.retS_fB, GK.retP_o, GK.retS_p, GK.ownG_o, GK.ownL_eq, GK.frzG_o, GK.frzG_f, GK.frzG_fI, GK.frzG_fB, GK.frzR_eq, GK.extG_list, GK.isF_f, GK.isF_o, GK.isF_p, GK.binop_int, GK.binop_cat, GK.binop_rep, GK.ckI_t, GK.ckO_t, GK.unop_neg, GK.unop_inv, GK.cmpop_eq, GK.cmpop_ne, GK.optS_some, GK.ixD_list, GK.ixD_tup, GK.slD_list, GK.b1D_len, GK.b1D_lenT, GK.b1D_list, GK.b1D_listT, GK.b1D_tup, GK.b1D_tupT, GK.b1D_int, GK.b1D_intN, GK.b1D_sum, GK.sumS_some, GK.allS_some, GK.b1D_all, GK.b1D_any, GK.itemsD_list, GK.itemsD_tup, GK.ix_t0, GK.ix_t1, GK.ix_t2, GK.nD_def, GK.fI_eq', GK.fB_eq', GK.deq_pair, GK.natDec, GK.decide_self, GK.notP_rg1, GK.notP_rg2, GK.notPs_f, GK.notPs_o, GK.notP_seq, GK.esLen, Nat.reduceLeDiff, decide_true, decide_false, List.getElem?_cons_zero, List.getElem?_cons_succ, List.set_cons_zero, List.set_cons_succ, List.length_cons, List.length_nil, List.map_cons, List.map_nil, List.replicate_succ, List.replicate_zero, List.append_nil, List.nil_append, List.cons_append, Nat.reduceAdd, Nat.reduceSub, GK.startR, GK.tgIn, GK.isRg, List.contains_cons, List.all_cons, List.all_nil, Bool.and_true, Bool.true_and, Bool.not_true, Bool.not_false, beq_self_eq_true, Bool.or_true, Bool.true_or, Bool.or_false, Bool.false_or, Nat.not_lt_zero, GK.wipeR, GK.isNone, GK.isiD, GK.evE_glb, GK.evE_sst, GK.evE_gk, GK.evE_gdx, GK.evE_dsp, GK.evP_nil, GK.evP_cons, GK.evE_mm, GK.evE_rvl, GK.evI_rg3, GK.evI_enm, GK.evI_rev, GK.evI_zp, GK.evI_rvr, GK.notP_rg3, GK.notP_rvr, GK.notP_enm, GK.notP_rev, GK.notP_zp, GK.ckTu_t, GK.binop_catT, GK.slD_tup, GK.rvD_list, GK.cmpop_is, GK.cmpop_isnot, GK.negM_ok', GK.cmpop_in, GK.cmpop_notin, GK.cmpop_inT, GK.cmpop_notinT, GK.beq_t, GK.beq_f, GK.evE_dnw, GK.evE_dsp1, GK.setO_eq, GK.setS_list, GK.setS_dict, GK.keyOk_int, GK.keyOk_str, GK.ixD_dictI, GK.ixD_dictS, GK.cmpop_inK, GK.cmpop_notinK, GK.inK_int, GK.inK_str, GK.look_kT, GK.put_kT, GK.deq_bool, GK.lentE_var, GK.lentE_call, GK.lentE_lst, GK.lentE_tup, GK.lentE_ix, GK.lentE_sl, GK.lentE_bin, GK.lentE_b1, GK.lentE_lc, GK.lentE_lrg, GK.lentE_rvl, GK.lentE_sst, GK.lentE_gk, GK.lentE_gdx, GK.lentE_dsp, GK.lentO_p, GK.lentO_f, GK.lentO_o, GK.frzB_t, GK.frzB_f, GK.nmkD_list, GK.nmkD_tuple, GK.nmkD_int, GK.nmkD_bool, GK.nmkD_dict, GK.nmk_nil, GK.nmk_int, GK.nmk_str, GK.nmk_kT, GK.nmk_kv, GK.nmk_none, GK.keyOk_tup, GK.exS_ndn, GK.inK_tup, GK.inN_mk, GK.ixD_dictT, GK.getN_mk, GK.optD_some, GK.setSN_eq, GK.setN_mk, GK.b1D_tupN, GK.b1D_lenK, GK.b1D_lenD, GK.evE_lns, GK.evE_pk2, GK.exS_fst, Bool.false_and, Bool.and_false, GK.binI_add_nat, GK.binI_shr_nat, GK.binI_and1_nat, GK.deq_nat, GK.cmpop_lt_nat, GK.cmpop_le_nat, GK.cmpop_gt_nat, GK.cmpop_ge_nat, GK.binI_or_nat, GK.binI_xor_nat, GK.mmD_maxN, GK.mmD_minN, GK.inD_nats, GK.inF_nats, GK.intsD_nats, GK.sum_cast]
          rfl
theorem deq_deep {d : D} (h : GK.Lay 400 d) : GK.deq d d = .ok true := by
  have hd : GK.deepD d = true := by
    unfold GK.deepD
    rw [h.1, decide_eq_true h.2]
    rfl
  unfold GK.deq
  rw [hd, GK.eqv_self d h.1]
  split <;> rfl
theorem of_fin {X : M Fl} (h : GK.fin X = .ok (fB true)) : X = .ok (.rt (fB true)) := by
  cases X with
  | error e => cases e <;> cases h
  | ok fl =>
    cases fl with
    | rt s =>
      have h : (Except.ok s : M Sl) = .ok (fB true) := h
      cases h
      rfl
    | nx _ => cases h
    | bk _ => cases h
    | ct _ => cases h
    | rz _ _ => cases h
theorem law_true : ∀ ns : List Int, ns.length ≤ 63 → run (99 + 1) "law" [⟨.f, .list (ns.map .int)⟩] = .ok ⟨.f, .bool true⟩ := by
  intro ns hns
  have lc := fun j (hj : j ≤ 100000) => law_cell2_run 98 ns hns j hj
  have e5 := modN_lt (x := cell2 ns 0) (show 0 < 5 by decide)
  suffices h : GK.exY (run 99) (runI 99) (GK.ppOf TX) fu y_law (GK.startR 6 [⟨.f, .list (ns.map .int)⟩]) = .ok (.rt (fB true)) by
    rw [run_law]
    unfold GK.runK
    rw [if_pos (show ([⟨.f, .list (ns.map .int)⟩] : List Sl).length = fy_law.ps.length from rfl)]
    have e : GK.exK (run 99) (runI 99) (GK.ppOf TX) fu fy_law.y (GK.startR fy_law.N.length [⟨.f, .list (ns.map .int)⟩]) = .ok (.rt (fB true)) := h
    rw [e]
    rfl
  obtain ⟨most, hm, hmost⟩ : ∃ most : Nat, GK.exSs (run 99) fu y_law.pre (GK.startR 6 [⟨.f, .list (ns.map .int)⟩]) = .ok (.nx [some ⟨.f, .list (ns.map .int)⟩, some (fI (modN (cell2 ns 0) 5 : Nat)), some (fI (most : Nat)), none, none, none]) ∧ (most = 20 ∨ (most = 120 ∧ 0 < modN (cell2 ns 0) 5)) := by
    have st : GK.startR 6 [⟨.f, .list (ns.map .int)⟩] = [some ⟨.f, .list (ns.map .int)⟩, none, none, none, none, none] := rfl
    rw [st]
    by_cases h0 : 0 < modN (cell2 ns 0) 5
    · cases h8 : (modN (cell2 ns 0 / ((5 : Nat) : Int)) 8 == 5)
      · refine ⟨20, ?_, .inl rfl⟩
        simp only [y_law, GK.ok_bind, GK.pure_M, GK.bind_assoc', GK.vm_f, GK.vm_o, GK.vm_p, GK.vm_vm, GK.rdV_mk, GK.rdV_fI, GK.rdV_fB, GK.evE_var, GK.evE_int, GK.evE_bl, GK.evE_non, GK.evE_str, GK.evE_bin, GK.evE_neg, GK.evE_inv, GK.evE_cmp, GK.ifM_t, GK.ifM_f, GK.evE_chn, GK.evE_isN, GK.evE_notN, GK.evE_and, GK.evE_or, GK.evE_not, GK.evE_ife, GK.evE_tup, GK.evE_lst, GK.evE_ix, GK.evE_sl, GK.evE_call, GK.evE_b1, GK.evE_isi, GK.evE_lc, GK.evE_lrg, GK.evF_nil, GK.evF_cons, GK.evA_nil, GK.evA_cons, GK.getI_int, GK.evO_none, GK.evO_some, GK.evC_none, GK.evC_some, GK.evI_rg1, GK.evI_rg2, GK.evI_seq, GK.seqF_nx, GK.seqF_rt, GK.seqF_bk, GK.seqF_ct, GK.exSs_nil, GK.exSs_cons, GK.exSs_frz, GK.exS_asg, GK.exS_setix, GK.exS_app, GK.exS_ext, GK.exS_exp, GK.exS_ret, GK.exS_retN, GK.exS_ite, GK.exS_for, GK.exS_whl, GK.exS_brk, GK.exS_cont, GK.exS_pass, GK.fin_rt, GK.fin_nx, GK.bindT_nm, GK.bindT_nmo, GK.bindT_nI, GK.bindT_nB, GK.bindT_tp2, GK.bindT_tp3, GK.bindT_tl5, GK.fI_d, GK.fB_d, GK.fI_m, GK.fB_m, GK.asF_f, GK.asF_o, GK.asF_fI, GK.asF_fB, GK.asB_b, GK.argS_f, GK.argS_o, GK.argS_p, GK.argS_v, GK.argS_fI, GK.argS_fB, GK.retS_f, GK.retS_o, GK.retS_fI, GK.retS_fB, GK.retP_o, GK.retS_p, GK.ownG_o, GK.ownL_eq, GK.frzG_o, GK.frzG_f, GK.frzG_fI, GK.frzG_fB, GK.frzR_eq, GK.extG_list, GK.isF_f, GK.isF_o, GK.isF_p, GK.binop_int, GK.binop_cat, GK.binop_rep, GK.ckI_t, GK.ckO_t, GK.unop_neg, GK.unop_inv, GK.cmpop_eq, GK.cmpop_ne, GK.optS_some, GK.ixD_list, GK.ixD_tup, GK.slD_list, GK.b1D_len, GK.b1D_lenT, GK.b1D_list, GK.b1D_listT, GK.b1D_tup, GK.b1D_tupT, GK.b1D_int, GK.b1D_intN, GK.b1D_sum, GK.sumS_some, GK.allS_some, GK.b1D_all, GK.b1D_any, GK.itemsD_list, GK.itemsD_tup, GK.ix_t0, GK.ix_t1, GK.ix_t2, GK.nD_def, GK.fI_eq', GK.fB_eq', GK.deq_pair, GK.natDec, GK.decide_self, GK.notP_rg1, GK.notP_rg2, GK.notPs_f, GK.notPs_o, GK.notP_seq, GK.esLen, Nat.reduceLeDiff, decide_true, decide_false, List.getElem?_cons_zero, List.getElem?_cons_succ, List.set_cons_zero, List.set_cons_succ, List.length_cons, List.length_nil, List.map_cons, List.map_nil, List.replicate_succ, List.replicate_zero, List.append_nil, List.nil_append, List.cons_append, Nat.reduceAdd, Nat.reduceSub, GK.startR, GK.tgIn, GK.isRg, List.contains_cons, List.all_cons, List.all_nil, Bool.and_true, Bool.true_and, Bool.not_true, Bool.not_false, beq_self_eq_true, Bool.or_true, Bool.true_or, Bool.or_false, Bool.false_or, Nat.not_lt_zero, GK.wipeR, GK.isNone, GK.isiD, GK.evE_glb, GK.evE_sst, GK.evE_gk, GK.evE_gdx, GK.evE_dsp, GK.evP_nil, GK.evP_cons, GK.evE_mm, GK.evE_rvl, GK.evI_rg3, GK.evI_enm, GK.evI_rev, GK.evI_zp, GK.evI_rvr, GK.notP_rg3, GK.notP_rvr, GK.notP_enm, GK.notP_rev, GK.notP_zp, GK.ckTu_t, GK.binop_catT, GK.slD_tup, GK.rvD_list, GK.cmpop_is, GK.cmpop_isnot, GK.negM_ok', GK.cmpop_in, GK.cmpop_notin, GK.cmpop_inT, GK.cmpop_notinT, GK.beq_t, GK.beq_f, GK.evE_dnw, GK.evE_dsp1, GK.setO_eq, GK.setS_list, GK.setS_dict, GK.keyOk_int, GK.keyOk_str, GK.ixD_dictI, GK.ixD_dictS, GK.cmpop_inK, GK.cmpop_notinK, GK.inK_int, GK.inK_str, GK.look_kT, GK.put_kT, GK.deq_bool, GK.lentE_var, GK.lentE_call, GK.lentE_lst, GK.lentE_tup, GK.lentE_ix, GK.lentE_sl, GK.lentE_bin, GK.lentE_b1, GK.lentE_lc, GK.lentE_lrg, GK.lentE_rvl, GK.lentE_sst, GK.lentE_gk, GK.lentE_gdx, GK.lentE_dsp, GK.lentO_p, GK.lentO_f, GK.lentO_o, GK.frzB_t, GK.frzB_f, GK.nmkD_list, GK.nmkD_tuple, GK.nmkD_int, GK.nmkD_bool, GK.nmkD_dict, GK.nmk_nil, GK.nmk_int, GK.nmk_str, GK.nmk_kT, GK.nmk_kv, GK.nmk_none, GK.keyOk_tup, GK.exS_ndn, GK.inK_tup, GK.inN_mk, GK.ixD_dictT, GK.getN_mk, GK.optD_some, GK.setSN_eq, GK.setN_mk, GK.b1D_tupN, GK.b1D_lenK, GK.b1D_lenD, GK.evE_lns, GK.evE_pk2, GK.exS_fst, Bool.false_and, Bool.and_false, GK.binI_add_nat, GK.binI_shr_nat, GK.binI_and1_nat, GK.deq_nat, GK.cmpop_lt_nat, GK.cmpop_le_nat, GK.cmpop_gt_nat, GK.cmpop_ge_nat, GK.binI_or_nat, GK.binI_xor_nat, GK.mmD_maxN, GK.mmD_minN, GK.inD_nats, GK.inF_nats, GK.intsD_nats, GK.sum_cast, lc 0 (by decide), GK.binI_modN (show 0 < 5 by decide), h0, GK.binI_divI (show 0 < 5 by decide) (show 5 < 1073741824 by decide), GK.binI_modN (show 0 < 8 by decide), h8, GK.b2n_t, GK.b2n_f]
      · refine ⟨120, ?_, .inr ⟨rfl, h0⟩⟩
        simp only [y_law, GK.ok_bind, GK.pure_M, GK.bind_assoc', GK.vm_f, GK.vm_o, GK.vm_p, GK.vm_vm, GK.rdV_mk, GK.rdV_fI, GK.rdV_fB, GK.evE_var, GK.evE_int, GK.evE_bl, GK.evE_non, GK.evE_str, GK.evE_bin, GK.evE_neg, GK.evE_inv, GK.evE_cmp, GK.ifM_t, GK.ifM_f, GK.evE_chn, GK.evE_isN, GK.evE_notN, GK.evE_and, GK.evE_or, GK.evE_not, GK.evE_ife, GK.evE_tup, GK.evE_lst, GK.evE_ix, GK.evE_sl, GK.evE_call, GK.evE_b1, GK.evE_isi, GK.evE_lc, GK.evE_lrg, GK.evF_nil, GK.evF_cons, GK.evA_nil, GK.evA_cons, GK.getI_int, GK.evO_none, GK.evO_some, GK.evC_none, GK.evC_some, GK.evI_rg1, GK.evI_rg2, GK.evI_seq, GK.seqF_nx, GK.seqF_rt, GK.seqF_bk, GK.seqF_ct, GK.exSs_nil, GK.exSs_cons, GK.exSs_frz, GK.exS_asg, GK.exS_setix, GK.exS_app, GK.exS_ext, GK.exS_exp, GK.exS_ret, GK.exS_retN, GK.exS_ite, GK.exS_for, GK.exS_whl, GK.exS_brk, GK.exS_cont, GK.exS_pass, GK.fin_rt, GK.fin_nx, GK.bindT_nm, GK.bindT_nmo, GK.bindT_nI, GK.bindT_nB, GK.bindT_tp2, GK.bindT_tp3, GK.bindT_tl5, GK.fI_d, GK.fB_d, GK.fI_m, GK.fB_m, GK.asF_f, GK.asF_o, GK.asF_fI, GK.asF_fB, GK.asB_b, GK.argS_f, GK.argS_o, GK.argS_p, GK.argS_v, GK.argS_fI, GK.argS_fB, GK.retS_f, GK.retS_o, GK.retS_fI, GK.retS_fB, GK.retP_o, GK.retS_p, GK.ownG_o, GK.ownL_eq, GK.frzG_o, GK.frzG_f, GK.frzG_fI, GK.frzG_fB, GK.frzR_eq, GK.extG_list, GK.isF_f, GK.isF_o, GK.isF_p, GK.binop_int, GK.binop_cat, GK.binop_rep, GK.ckI_t, GK.ckO_t, GK.unop_neg, GK.unop_inv, GK.cmpop_eq, GK.cmpop_ne, GK.optS_some, GK.ixD_list, GK.ixD_tup, GK.slD_list, GK.b1D_len, GK.b1D_lenT, GK.b1D_list, GK.b1D_listT, GK.b1D_tup, GK.b1D_tupT, GK.b1D_int, GK.b1D_intN, GK.b1D_sum, GK.sumS_some, GK.allS_some, GK.b1D_all, GK.b1D_any, GK.itemsD_list, GK.itemsD_tup, GK.ix_t0, GK.ix_t1, GK.ix_t2, GK.nD_def, GK.fI_eq', GK.fB_eq', GK.deq_pair, GK.natDec, GK.decide_self, GK.notP_rg1, GK.notP_rg2, GK.notPs_f, GK.notPs_o, GK.notP_seq, GK.esLen, Nat.reduceLeDiff, decide_true, decide_false, List.getElem?_cons_zero, List.getElem?_cons_succ, List.set_cons_zero, List.set_cons_succ, List.length_cons, List.length_nil, List.map_cons, List.map_nil, List.replicate_succ, List.replicate_zero, List.append_nil, List.nil_append, List.cons_append, Nat.reduceAdd, Nat.reduceSub, GK.startR, GK.tgIn, GK.isRg, List.contains_cons, List.all_cons, List.all_nil, Bool.and_true, Bool.true_and, Bool.not_true, Bool.not_false, beq_self_eq_true, Bool.or_true, Bool.true_or, Bool.or_false, Bool.false_or, Nat.not_lt_zero, GK.wipeR, GK.isNone, GK.isiD, GK.evE_glb, GK.evE_sst, GK.evE_gk, GK.evE_gdx, GK.evE_dsp, GK.evP_nil, GK.evP_cons, GK.evE_mm, GK.evE_rvl, GK.evI_rg3, GK.evI_enm, GK.evI_rev, GK.evI_zp, GK.evI_rvr, GK.notP_rg3, GK.notP_rvr, GK.notP_enm, GK.notP_rev, GK.notP_zp, GK.ckTu_t, GK.binop_catT, GK.slD_tup, GK.rvD_list, GK.cmpop_is, GK.cmpop_isnot, GK.negM_ok', GK.cmpop_in, GK.cmpop_notin, GK.cmpop_inT, GK.cmpop_notinT, GK.beq_t, GK.beq_f, GK.evE_dnw, GK.evE_dsp1, GK.setO_eq, GK.setS_list, GK.setS_dict, GK.keyOk_int, GK.keyOk_str, GK.ixD_dictI, GK.ixD_dictS, GK.cmpop_inK, GK.cmpop_notinK, GK.inK_int, GK.inK_str, GK.look_kT, GK.put_kT, GK.deq_bool, GK.lentE_var, GK.lentE_call, GK.lentE_lst, GK.lentE_tup, GK.lentE_ix, GK.lentE_sl, GK.lentE_bin, GK.lentE_b1, GK.lentE_lc, GK.lentE_lrg, GK.lentE_rvl, GK.lentE_sst, GK.lentE_gk, GK.lentE_gdx, GK.lentE_dsp, GK.lentO_p, GK.lentO_f, GK.lentO_o, GK.frzB_t, GK.frzB_f, GK.nmkD_list, GK.nmkD_tuple, GK.nmkD_int, GK.nmkD_bool, GK.nmkD_dict, GK.nmk_nil, GK.nmk_int, GK.nmk_str, GK.nmk_kT, GK.nmk_kv, GK.nmk_none, GK.keyOk_tup, GK.exS_ndn, GK.inK_tup, GK.inN_mk, GK.ixD_dictT, GK.getN_mk, GK.optD_some, GK.setSN_eq, GK.setN_mk, GK.b1D_tupN, GK.b1D_lenK, GK.b1D_lenD, GK.evE_lns, GK.evE_pk2, GK.exS_fst, Bool.false_and, Bool.and_false, GK.binI_add_nat, GK.binI_shr_nat, GK.binI_and1_nat, GK.deq_nat, GK.cmpop_lt_nat, GK.cmpop_le_nat, GK.cmpop_gt_nat, GK.cmpop_ge_nat, GK.binI_or_nat, GK.binI_xor_nat, GK.mmD_maxN, GK.mmD_minN, GK.inD_nats, GK.inF_nats, GK.intsD_nats, GK.sum_cast, lc 0 (by decide), GK.binI_modN (show 0 < 5 by decide), h0, GK.binI_divI (show 0 < 5 by decide) (show 5 < 1073741824 by decide), GK.binI_modN (show 0 < 8 by decide), h8, GK.b2n_t, GK.b2n_f]
    · refine ⟨20, ?_, .inl rfl⟩
      simp only [y_law, GK.ok_bind, GK.pure_M, GK.bind_assoc', GK.vm_f, GK.vm_o, GK.vm_p, GK.vm_vm, GK.rdV_mk, GK.rdV_fI, GK.rdV_fB, GK.evE_var, GK.evE_int, GK.evE_bl, GK.evE_non, GK.evE_str, GK.evE_bin, GK.evE_neg, GK.evE_inv, GK.evE_cmp, GK.ifM_t, GK.ifM_f, GK.evE_chn, GK.evE_isN, GK.evE_notN, GK.evE_and, GK.evE_or, GK.evE_not, GK.evE_ife, GK.evE_tup, GK.evE_lst, GK.evE_ix, GK.evE_sl, GK.evE_call, GK.evE_b1, GK.evE_isi, GK.evE_lc, GK.evE_lrg, GK.evF_nil, GK.evF_cons, GK.evA_nil, GK.evA_cons, GK.getI_int, GK.evO_none, GK.evO_some, GK.evC_none, GK.evC_some, GK.evI_rg1, GK.evI_rg2, GK.evI_seq, GK.seqF_nx, GK.seqF_rt, GK.seqF_bk, GK.seqF_ct, GK.exSs_nil, GK.exSs_cons, GK.exSs_frz, GK.exS_asg, GK.exS_setix, GK.exS_app, GK.exS_ext, GK.exS_exp, GK.exS_ret, GK.exS_retN, GK.exS_ite, GK.exS_for, GK.exS_whl, GK.exS_brk, GK.exS_cont, GK.exS_pass, GK.fin_rt, GK.fin_nx, GK.bindT_nm, GK.bindT_nmo, GK.bindT_nI, GK.bindT_nB, GK.bindT_tp2, GK.bindT_tp3, GK.bindT_tl5, GK.fI_d, GK.fB_d, GK.fI_m, GK.fB_m, GK.asF_f, GK.asF_o, GK.asF_fI, GK.asF_fB, GK.asB_b, GK.argS_f, GK.argS_o, GK.argS_p, GK.argS_v, GK.argS_fI, GK.argS_fB, GK.retS_f, GK.retS_o, GK.retS_fI, GK.retS_fB, GK.retP_o, GK.retS_p, GK.ownG_o, GK.ownL_eq, GK.frzG_o, GK.frzG_f, GK.frzG_fI, GK.frzG_fB, GK.frzR_eq, GK.extG_list, GK.isF_f, GK.isF_o, GK.isF_p, GK.binop_int, GK.binop_cat, GK.binop_rep, GK.ckI_t, GK.ckO_t, GK.unop_neg, GK.unop_inv, GK.cmpop_eq, GK.cmpop_ne, GK.optS_some, GK.ixD_list, GK.ixD_tup, GK.slD_list, GK.b1D_len, GK.b1D_lenT, GK.b1D_list, GK.b1D_listT, GK.b1D_tup, GK.b1D_tupT, GK.b1D_int, GK.b1D_intN, GK.b1D_sum, GK.sumS_some, GK.allS_some, GK.b1D_all, GK.b1D_any, GK.itemsD_list, GK.itemsD_tup, GK.ix_t0, GK.ix_t1, GK.ix_t2, GK.nD_def, GK.fI_eq', GK.fB_eq', GK.deq_pair, GK.natDec, GK.decide_self, GK.notP_rg1, GK.notP_rg2, GK.notPs_f, GK.notPs_o, GK.notP_seq, GK.esLen, Nat.reduceLeDiff, decide_true, decide_false, List.getElem?_cons_zero, List.getElem?_cons_succ, List.set_cons_zero, List.set_cons_succ, List.length_cons, List.length_nil, List.map_cons, List.map_nil, List.replicate_succ, List.replicate_zero, List.append_nil, List.nil_append, List.cons_append, Nat.reduceAdd, Nat.reduceSub, GK.startR, GK.tgIn, GK.isRg, List.contains_cons, List.all_cons, List.all_nil, Bool.and_true, Bool.true_and, Bool.not_true, Bool.not_false, beq_self_eq_true, Bool.or_true, Bool.true_or, Bool.or_false, Bool.false_or, Nat.not_lt_zero, GK.wipeR, GK.isNone, GK.isiD, GK.evE_glb, GK.evE_sst, GK.evE_gk, GK.evE_gdx, GK.evE_dsp, GK.evP_nil, GK.evP_cons, GK.evE_mm, GK.evE_rvl, GK.evI_rg3, GK.evI_enm, GK.evI_rev, GK.evI_zp, GK.evI_rvr, GK.notP_rg3, GK.notP_rvr, GK.notP_enm, GK.notP_rev, GK.notP_zp, GK.ckTu_t, GK.binop_catT, GK.slD_tup, GK.rvD_list, GK.cmpop_is, GK.cmpop_isnot, GK.negM_ok', GK.cmpop_in, GK.cmpop_notin, GK.cmpop_inT, GK.cmpop_notinT, GK.beq_t, GK.beq_f, GK.evE_dnw, GK.evE_dsp1, GK.setO_eq, GK.setS_list, GK.setS_dict, GK.keyOk_int, GK.keyOk_str, GK.ixD_dictI, GK.ixD_dictS, GK.cmpop_inK, GK.cmpop_notinK, GK.inK_int, GK.inK_str, GK.look_kT, GK.put_kT, GK.deq_bool, GK.lentE_var, GK.lentE_call, GK.lentE_lst, GK.lentE_tup, GK.lentE_ix, GK.lentE_sl, GK.lentE_bin, GK.lentE_b1, GK.lentE_lc, GK.lentE_lrg, GK.lentE_rvl, GK.lentE_sst, GK.lentE_gk, GK.lentE_gdx, GK.lentE_dsp, GK.lentO_p, GK.lentO_f, GK.lentO_o, GK.frzB_t, GK.frzB_f, GK.nmkD_list, GK.nmkD_tuple, GK.nmkD_int, GK.nmkD_bool, GK.nmkD_dict, GK.nmk_nil, GK.nmk_int, GK.nmk_str, GK.nmk_kT, GK.nmk_kv, GK.nmk_none, GK.keyOk_tup, GK.exS_ndn, GK.inK_tup, GK.inN_mk, GK.ixD_dictT, GK.getN_mk, GK.optD_some, GK.setSN_eq, GK.setN_mk, GK.b1D_tupN, GK.b1D_lenK, GK.b1D_lenD, GK.evE_lns, GK.evE_pk2, GK.exS_fst, Bool.false_and, Bool.and_false, GK.binI_add_nat, GK.binI_shr_nat, GK.binI_and1_nat, GK.deq_nat, GK.cmpop_lt_nat, GK.cmpop_le_nat, GK.cmpop_gt_nat, GK.cmpop_ge_nat, GK.binI_or_nat, GK.binI_xor_nat, GK.mmD_maxN, GK.mmD_minN, GK.inD_nats, GK.inF_nats, GK.intsD_nats, GK.sum_cast, lc 0 (by decide), GK.binI_modN (show 0 < 5 by decide), h0, GK.b2n_t, GK.b2n_f]
  unfold GK.exY
  rw [hm, GK.ok_bind]
  generalize modN (cell2 ns 0) 5 = i at e5 hmost ⊢
  have hr : 6 + most / 40 ≤ 9 := by omega
  obtain ⟨d, s', m', t1, bd, t3⟩ := tree_run ns hns i (by omega) (6 + most / 40) 0 most (90 - (most / 40)) .o (by omega)
  have hsz : szF (6 + most / 40 + 1) d ≤ 120 := by
    have a := bd.a
    have b := bd.b
    have c := bd.c
    omega
  rw [show 90 - most / 40 + (6 + most / 40) + 3 = 99 by omega] at t3
  have pz : GK.ppOf TX y_law.f = 1 := pp_tree
  have ev : GK.evLX (run 99) 1 y_law.es [some ⟨.f, .list (ns.map .int)⟩, some (fI (i : Nat)), some (fI (most : Nat)), none, none, none] = .ok [⟨.f, .list (ns.map .int)⟩, ⟨.o, .list [nD 0, nD most]⟩, fI (i : Nat), fI (6 + most / 40 : Nat)] := by
    simp only [y_law, GK.evLX, GK.ok_bind, GK.pure_M, GK.bind_assoc', GK.vm_f, GK.vm_o, GK.vm_p, GK.vm_vm, GK.rdV_mk, GK.rdV_fI, GK.rdV_fB, GK.evE_var, GK.evE_int, GK.evE_bl, GK.evE_non, GK.evE_str, GK.evE_bin, GK.evE_neg, GK.evE_inv, GK.evE_cmp, GK.ifM_t, GK.ifM_f, GK.evE_chn, GK.evE_isN, GK.evE_notN, GK.evE_and, GK.evE_or, GK.evE_not, GK.evE_ife, GK.evE_tup, GK.evE_lst, GK.evE_ix, GK.evE_sl, GK.evE_call, GK.evE_b1, GK.evE_isi, GK.evE_lc, GK.evE_lrg, GK.evF_nil, GK.evF_cons, GK.evA_nil, GK.evA_cons, GK.getI_int, GK.evO_none, GK.evO_some, GK.evC_none, GK.evC_some, GK.evI_rg1, GK.evI_rg2, GK.evI_seq, GK.seqF_nx, GK.seqF_rt, GK.seqF_bk, GK.seqF_ct, GK.exSs_nil, GK.exSs_cons, GK.exSs_frz, GK.exS_asg, GK.exS_setix, GK.exS_app, GK.exS_ext, GK.exS_exp, GK.exS_ret, GK.exS_retN, GK.exS_ite, GK.exS_for, GK.exS_whl, GK.exS_brk, GK.exS_cont, GK.exS_pass, GK.fin_rt, GK.fin_nx, GK.bindT_nm, GK.bindT_nmo, GK.bindT_nI, GK.bindT_nB, GK.bindT_tp2, GK.bindT_tp3, GK.bindT_tl5, GK.fI_d, GK.fB_d, GK.fI_m, GK.fB_m, GK.asF_f, GK.asF_o, GK.asF_fI, GK.asF_fB, GK.asB_b, GK.argS_f, GK.argS_o, GK.argS_p, GK.argS_v, GK.argS_fI, GK.argS_fB, GK.retS_f, GK.retS_o, GK.retS_fI, GK.retS_fB, GK.retP_o, GK.retS_p, GK.ownG_o, GK.ownL_eq, GK.frzG_o, GK.frzG_f, GK.frzG_fI, GK.frzG_fB, GK.frzR_eq, GK.extG_list, GK.isF_f, GK.isF_o, GK.isF_p, GK.binop_int, GK.binop_cat, GK.binop_rep, GK.ckI_t, GK.ckO_t, GK.unop_neg, GK.unop_inv, GK.cmpop_eq, GK.cmpop_ne, GK.optS_some, GK.ixD_list, GK.ixD_tup, GK.slD_list, GK.b1D_len, GK.b1D_lenT, GK.b1D_list, GK.b1D_listT, GK.b1D_tup, GK.b1D_tupT, GK.b1D_int, GK.b1D_intN, GK.b1D_sum, GK.sumS_some, GK.allS_some, GK.b1D_all, GK.b1D_any, GK.itemsD_list, GK.itemsD_tup, GK.ix_t0, GK.ix_t1, GK.ix_t2, GK.nD_def, GK.fI_eq', GK.fB_eq', GK.deq_pair, GK.natDec, GK.decide_self, GK.notP_rg1, GK.notP_rg2, GK.notPs_f, GK.notPs_o, GK.notP_seq, GK.esLen, Nat.reduceLeDiff, decide_true, decide_false, List.getElem?_cons_zero, List.getElem?_cons_succ, List.set_cons_zero, List.set_cons_succ, List.length_cons, List.length_nil, List.map_cons, List.map_nil, List.replicate_succ, List.replicate_zero, List.append_nil, List.nil_append, List.cons_append, Nat.reduceAdd, Nat.reduceSub, GK.startR, GK.tgIn, GK.isRg, List.contains_cons, List.all_cons, List.all_nil, Bool.and_true, Bool.true_and, Bool.not_true, Bool.not_false, beq_self_eq_true, Bool.or_true, Bool.true_or, Bool.or_false, Bool.false_or, Nat.not_lt_zero, GK.wipeR, GK.isNone, GK.isiD, GK.evE_glb, GK.evE_sst, GK.evE_gk, GK.evE_gdx, GK.evE_dsp, GK.evP_nil, GK.evP_cons, GK.evE_mm, GK.evE_rvl, GK.evI_rg3, GK.evI_enm, GK.evI_rev, GK.evI_zp, GK.evI_rvr, GK.notP_rg3, GK.notP_rvr, GK.notP_enm, GK.notP_rev, GK.notP_zp, GK.ckTu_t, GK.binop_catT, GK.slD_tup, GK.rvD_list, GK.cmpop_is, GK.cmpop_isnot, GK.negM_ok', GK.cmpop_in, GK.cmpop_notin, GK.cmpop_inT, GK.cmpop_notinT, GK.beq_t, GK.beq_f, GK.evE_dnw, GK.evE_dsp1, GK.setO_eq, GK.setS_list, GK.setS_dict, GK.keyOk_int, GK.keyOk_str, GK.ixD_dictI, GK.ixD_dictS, GK.cmpop_inK, GK.cmpop_notinK, GK.inK_int, GK.inK_str, GK.look_kT, GK.put_kT, GK.deq_bool, GK.lentE_var, GK.lentE_call, GK.lentE_lst, GK.lentE_tup, GK.lentE_ix, GK.lentE_sl, GK.lentE_bin, GK.lentE_b1, GK.lentE_lc, GK.lentE_lrg, GK.lentE_rvl, GK.lentE_sst, GK.lentE_gk, GK.lentE_gdx, GK.lentE_dsp, GK.lentO_p, GK.lentO_f, GK.lentO_o, GK.frzB_t, GK.frzB_f, GK.nmkD_list, GK.nmkD_tuple, GK.nmkD_int, GK.nmkD_bool, GK.nmkD_dict, GK.nmk_nil, GK.nmk_int, GK.nmk_str, GK.nmk_kT, GK.nmk_kv, GK.nmk_none, GK.keyOk_tup, GK.exS_ndn, GK.inK_tup, GK.inN_mk, GK.ixD_dictT, GK.getN_mk, GK.optD_some, GK.setSN_eq, GK.setN_mk, GK.b1D_tupN, GK.b1D_lenK, GK.b1D_lenD, GK.evE_lns, GK.evE_pk2, GK.exS_fst, Bool.false_and, Bool.and_false, GK.binI_add_nat, GK.binI_shr_nat, GK.binI_and1_nat, GK.deq_nat, GK.cmpop_lt_nat, GK.cmpop_le_nat, GK.cmpop_gt_nat, GK.cmpop_ge_nat, GK.binI_or_nat, GK.binI_xor_nat, GK.mmD_maxN, GK.mmD_minN, GK.inD_nats, GK.inF_nats, GK.intsD_nats, GK.sum_cast, GK.binI_div_nat (show 0 < 40 by decide) (show 40 < 1073741824 by decide)]
  simp only [pz, ev, GK.ok_bind]
  have fo : GK.fOk 1 [⟨.f, .list (ns.map .int)⟩, ⟨.o, .list [nD 0, nD most]⟩, fI (i : Nat), fI (6 + most / 40 : Nat)] = true := rfl
  rw [if_pos fo]
  have t3 : runI 99 y_law.f _ = _ := t3
  rw [t3, GK.ok_bind]
  refine of_fin ?_
  show GK.fin (GK.exSs (run 99) fu y_law.post [some ⟨.f, .list (ns.map .int)⟩, some (fI (i : Nat)), some (fI (most : Nat)), some ⟨.f, d⟩, none, none]) = _
  generalize 6 + most / 40 = k at hr t1 hsz
  have p16 : 2 ^ i ≤ 2 ^ 4 := Nat.pow_le_pow_right (by decide) (by omega)
  have p5 : 5 ^ (k + 1) ≤ 5 ^ 10 := Nat.pow_le_pow_right (by decide) (by omega)
  have p5' : 5 ^ 10 = 9765625 := by decide
  have tc := tree_circuit_run i (96 - k) (k + 1) d t1 (by omega)
  rw [show 96 - k + (k + 1) + 2 = 99 by omega] at tc
  have ll := law_laid_run 98 i (k + 1) d t1 (by omega) (by omega)
  have tv := fun row => law_value_run i row (k + 1) d (97 - k) t1
  rw [show 97 - k + (k + 1) + 1 = 99 by omega] at tv
  obtain ⟨ok1, ok2⟩ := ly_ok i (k + 1) d [] t1
  have hst := ok1.st (fun k s h => by simp at h)
  have hz := ly_ev (comb := fun _ _ vs => 1 + vs.sum) (z := 0) (base := (List.range i).map fun _ => 0) (by rw [List.length_map, List.length_range]) (k + 1) d [] t1
  have htr := ly_ev (comb := fun n b vs => PyData.tuple [gD n b, .tuple vs]) (z := .none) (base := (List.range i).map nD) (by rw [List.length_map, List.length_range]) (k + 1) d [] t1
  have hv := fun row => ly_ev (comb := fun _ b vs => valN b vs) (z := 0) (base := (List.range i).map (bitN row)) (by rw [List.length_map, List.length_range]) (k + 1) d [] t1
  rw [tev_z i _ _ t1] at hz
  rw [tev_t i _ _ t1] at htr
  simp only [tev_v i _ _ _ t1] at hv
  have hlt := ok1.lt
  rw [List.length_nil, Nat.zero_add] at ok2
  generalize (lyF i (k + 1) d []).1 = o at *
  generalize (lyF i (k + 1) d []).2 = ss at *
  have sp := spread_run 98 i ss o hst hlt (by omega) (by omega) (by rw [hz]; omega)
  rw [show (tG i ss).getD o .none = d from htr] at sp
  have lo := fun row => law_out_run 98 i o row ss (by omega) ⟨hst, hlt⟩ (by omega)
  have hvv : ∀ row, (cvals ((List.range i).map (bitN row)) ss).getD o 0 = vF row (k + 1) d := hv
  simp only [hvv] at lo
  have dl := tr_lay i (k + 1) d t1
  have dq := deq_deep (GK.lay_mono dl (show 2 * (k + 1) + 1 ≤ 400 by omega))
  have cl := deq_deep (GK.lay_mono (circ_lay i ss o) (by decide))
  simp only [y_law, GK.ok_bind, GK.pure_M, GK.bind_assoc', GK.vm_f, GK.vm_o, GK.vm_p, GK.vm_vm, GK.rdV_mk, GK.rdV_fI, GK.rdV_fB, GK.evE_var, GK.evE_int, GK.evE_bl, GK.evE_non, GK.evE_str, GK.evE_bin, GK.evE_neg, GK.evE_inv, GK.evE_cmp, GK.ifM_t, GK.ifM_f, GK.evE_chn, GK.evE_isN, GK.evE_notN, GK.evE_and, GK.evE_or, GK.evE_not, GK.evE_ife, GK.evE_tup, GK.evE_lst, GK.evE_ix, GK.evE_sl, GK.evE_call, GK.evE_b1, GK.evE_isi, GK.evE_lc, GK.evE_lrg, GK.evF_nil, GK.evF_cons, GK.evA_nil, GK.evA_cons, GK.getI_int, GK.evO_none, GK.evO_some, GK.evC_none, GK.evC_some, GK.evI_rg1, GK.evI_rg2, GK.evI_seq, GK.seqF_nx, GK.seqF_rt, GK.seqF_bk, GK.seqF_ct, GK.exSs_nil, GK.exSs_cons, GK.exSs_frz, GK.exS_asg, GK.exS_setix, GK.exS_app, GK.exS_ext, GK.exS_exp, GK.exS_ret, GK.exS_retN, GK.exS_ite, GK.exS_for, GK.exS_whl, GK.exS_brk, GK.exS_cont, GK.exS_pass, GK.fin_rt, GK.fin_nx, GK.bindT_nm, GK.bindT_nmo, GK.bindT_nI, GK.bindT_nB, GK.bindT_tp2, GK.bindT_tp3, GK.bindT_tl5, GK.fI_d, GK.fB_d, GK.fI_m, GK.fB_m, GK.asF_f, GK.asF_o, GK.asF_fI, GK.asF_fB, GK.asB_b, GK.argS_f, GK.argS_o, GK.argS_p, GK.argS_v, GK.argS_fI, GK.argS_fB, GK.retS_f, GK.retS_o, GK.retS_fI, GK.retS_fB, GK.retP_o, GK.retS_p, GK.ownG_o, GK.ownL_eq, GK.frzG_o, GK.frzG_f, GK.frzG_fI, GK.frzG_fB, GK.frzR_eq, GK.extG_list, GK.isF_f, GK.isF_o, GK.isF_p, GK.binop_int, GK.binop_cat, GK.binop_rep, GK.ckI_t, GK.ckO_t, GK.unop_neg, GK.unop_inv, GK.cmpop_eq, GK.cmpop_ne, GK.optS_some, GK.ixD_list, GK.ixD_tup, GK.slD_list, GK.b1D_len, GK.b1D_lenT, GK.b1D_list, GK.b1D_listT, GK.b1D_tup, GK.b1D_tupT, GK.b1D_int, GK.b1D_intN, GK.b1D_sum, GK.sumS_some, GK.allS_some, GK.b1D_all, GK.b1D_any, GK.itemsD_list, GK.itemsD_tup, GK.ix_t0, GK.ix_t1, GK.ix_t2, GK.nD_def, GK.fI_eq', GK.fB_eq', GK.deq_pair, GK.natDec, GK.decide_self, GK.notP_rg1, GK.notP_rg2, GK.notPs_f, GK.notPs_o, GK.notP_seq, GK.esLen, Nat.reduceLeDiff, decide_true, decide_false, List.getElem?_cons_zero, List.getElem?_cons_succ, List.set_cons_zero, List.set_cons_succ, List.length_cons, List.length_nil, List.map_cons, List.map_nil, List.replicate_succ, List.replicate_zero, List.append_nil, List.nil_append, List.cons_append, Nat.reduceAdd, Nat.reduceSub, GK.startR, GK.tgIn, GK.isRg, List.contains_cons, List.all_cons, List.all_nil, Bool.and_true, Bool.true_and, Bool.not_true, Bool.not_false, beq_self_eq_true, Bool.or_true, Bool.true_or, Bool.or_false, Bool.false_or, Nat.not_lt_zero, GK.wipeR, GK.isNone, GK.isiD, GK.evE_glb, GK.evE_sst, GK.evE_gk, GK.evE_gdx, GK.evE_dsp, GK.evP_nil, GK.evP_cons, GK.evE_mm, GK.evE_rvl, GK.evI_rg3, GK.evI_enm, GK.evI_rev, GK.evI_zp, GK.evI_rvr, GK.notP_rg3, GK.notP_rvr, GK.notP_enm, GK.notP_rev, GK.notP_zp, GK.ckTu_t, GK.binop_catT, GK.slD_tup, GK.rvD_list, GK.cmpop_is, GK.cmpop_isnot, GK.negM_ok', GK.cmpop_in, GK.cmpop_notin, GK.cmpop_inT, GK.cmpop_notinT, GK.beq_t, GK.beq_f, GK.evE_dnw, GK.evE_dsp1, GK.setO_eq, GK.setS_list, GK.setS_dict, GK.keyOk_int, GK.keyOk_str, GK.ixD_dictI, GK.ixD_dictS, GK.cmpop_inK, GK.cmpop_notinK, GK.inK_int, GK.inK_str, GK.look_kT, GK.put_kT, GK.deq_bool, GK.lentE_var, GK.lentE_call, GK.lentE_lst, GK.lentE_tup, GK.lentE_ix, GK.lentE_sl, GK.lentE_bin, GK.lentE_b1, GK.lentE_lc, GK.lentE_lrg, GK.lentE_rvl, GK.lentE_sst, GK.lentE_gk, GK.lentE_gdx, GK.lentE_dsp, GK.lentO_p, GK.lentO_f, GK.lentO_o, GK.frzB_t, GK.frzB_f, GK.nmkD_list, GK.nmkD_tuple, GK.nmkD_int, GK.nmkD_bool, GK.nmkD_dict, GK.nmk_nil, GK.nmk_int, GK.nmk_str, GK.nmk_kT, GK.nmk_kv, GK.nmk_none, GK.keyOk_tup, GK.exS_ndn, GK.inK_tup, GK.inN_mk, GK.ixD_dictT, GK.getN_mk, GK.optD_some, GK.setSN_eq, GK.setN_mk, GK.b1D_tupN, GK.b1D_lenK, GK.b1D_lenD, GK.evE_lns, GK.evE_pk2, GK.exS_fst, Bool.false_and, Bool.and_false, GK.binI_add_nat, GK.binI_shr_nat, GK.binI_and1_nat, GK.deq_nat, GK.cmpop_lt_nat, GK.cmpop_le_nat, GK.cmpop_gt_nat, GK.cmpop_ge_nat, GK.binI_or_nat, GK.binI_xor_nat, GK.mmD_maxN, GK.mmD_minN, GK.inD_nats, GK.inF_nats, GK.intsD_nats, GK.sum_cast, tc]
  have il : GK.exS (run 99) fu i_law_0 [some ⟨.f, .list (ns.map .int)⟩, some (fI (i : Nat)), some (fI (most : Nat)), some ⟨.f, d⟩, some ⟨.f, circD i ss o⟩, none] = .ok (.nx [some ⟨.f, .list (ns.map .int)⟩, some (fI (i : Nat)), some (fI (most : Nat)), some ⟨.f, d⟩, some ⟨.f, circD i ss o⟩, none]) := by
    have cx : circD i ss o = .tuple [.int (i : Int), .tuple (ss.map stD), .int (o : Int)] := rfl
    rw [cx] at ll cl ⊢
    simp only [i_law_0, GK.ok_bind, GK.pure_M, GK.bind_assoc', GK.vm_f, GK.vm_o, GK.vm_p, GK.vm_vm, GK.rdV_mk, GK.rdV_fI, GK.rdV_fB, GK.evE_var, GK.evE_int, GK.evE_bl, GK.evE_non, GK.evE_str, GK.evE_bin, GK.evE_neg, GK.evE_inv, GK.evE_cmp, GK.ifM_t, GK.ifM_f, GK.evE_chn, GK.evE_isN, GK.evE_notN, GK.evE_and, GK.evE_or, GK.evE_not, GK.evE_ife, GK.evE_tup, GK.evE_lst, GK.evE_ix, GK.evE_sl, GK.evE_call, GK.evE_b1, GK.evE_isi, GK.evE_lc, GK.evE_lrg, GK.evF_nil, GK.evF_cons, GK.evA_nil, GK.evA_cons, GK.getI_int, GK.evO_none, GK.evO_some, GK.evC_none, GK.evC_some, GK.evI_rg1, GK.evI_rg2, GK.evI_seq, GK.seqF_nx, GK.seqF_rt, GK.seqF_bk, GK.seqF_ct, GK.exSs_nil, GK.exSs_cons, GK.exSs_frz, GK.exS_asg, GK.exS_setix, GK.exS_app, GK.exS_ext, GK.exS_exp, GK.exS_ret, GK.exS_retN, GK.exS_ite, GK.exS_for, GK.exS_whl, GK.exS_brk, GK.exS_cont, GK.exS_pass, GK.fin_rt, GK.fin_nx, GK.bindT_nm, GK.bindT_nmo, GK.bindT_nI, GK.bindT_nB, GK.bindT_tp2, GK.bindT_tp3, GK.bindT_tl5, GK.fI_d, GK.fB_d, GK.fI_m, GK.fB_m, GK.asF_f, GK.asF_o, GK.asF_fI, GK.asF_fB, GK.asB_b, GK.argS_f, GK.argS_o, GK.argS_p, GK.argS_v, GK.argS_fI, GK.argS_fB, GK.retS_f, GK.retS_o, GK.retS_fI, GK.retS_fB, GK.retP_o, GK.retS_p, GK.ownG_o, GK.ownL_eq, GK.frzG_o, GK.frzG_f, GK.frzG_fI, GK.frzG_fB, GK.frzR_eq, GK.extG_list, GK.isF_f, GK.isF_o, GK.isF_p, GK.binop_int, GK.binop_cat, GK.binop_rep, GK.ckI_t, GK.ckO_t, GK.unop_neg, GK.unop_inv, GK.cmpop_eq, GK.cmpop_ne, GK.optS_some, GK.ixD_list, GK.ixD_tup, GK.slD_list, GK.b1D_len, GK.b1D_lenT, GK.b1D_list, GK.b1D_listT, GK.b1D_tup, GK.b1D_tupT, GK.b1D_int, GK.b1D_intN, GK.b1D_sum, GK.sumS_some, GK.allS_some, GK.b1D_all, GK.b1D_any, GK.itemsD_list, GK.itemsD_tup, GK.ix_t0, GK.ix_t1, GK.ix_t2, GK.nD_def, GK.fI_eq', GK.fB_eq', GK.deq_pair, GK.natDec, GK.decide_self, GK.notP_rg1, GK.notP_rg2, GK.notPs_f, GK.notPs_o, GK.notP_seq, GK.esLen, Nat.reduceLeDiff, decide_true, decide_false, List.getElem?_cons_zero, List.getElem?_cons_succ, List.set_cons_zero, List.set_cons_succ, List.length_cons, List.length_nil, List.map_cons, List.map_nil, List.replicate_succ, List.replicate_zero, List.append_nil, List.nil_append, List.cons_append, Nat.reduceAdd, Nat.reduceSub, GK.startR, GK.tgIn, GK.isRg, List.contains_cons, List.all_cons, List.all_nil, Bool.and_true, Bool.true_and, Bool.not_true, Bool.not_false, beq_self_eq_true, Bool.or_true, Bool.true_or, Bool.or_false, Bool.false_or, Nat.not_lt_zero, GK.wipeR, GK.isNone, GK.isiD, GK.evE_glb, GK.evE_sst, GK.evE_gk, GK.evE_gdx, GK.evE_dsp, GK.evP_nil, GK.evP_cons, GK.evE_mm, GK.evE_rvl, GK.evI_rg3, GK.evI_enm, GK.evI_rev, GK.evI_zp, GK.evI_rvr, GK.notP_rg3, GK.notP_rvr, GK.notP_enm, GK.notP_rev, GK.notP_zp, GK.ckTu_t, GK.binop_catT, GK.slD_tup, GK.rvD_list, GK.cmpop_is, GK.cmpop_isnot, GK.negM_ok', GK.cmpop_in, GK.cmpop_notin, GK.cmpop_inT, GK.cmpop_notinT, GK.beq_t, GK.beq_f, GK.evE_dnw, GK.evE_dsp1, GK.setO_eq, GK.setS_list, GK.setS_dict, GK.keyOk_int, GK.keyOk_str, GK.ixD_dictI, GK.ixD_dictS, GK.cmpop_inK, GK.cmpop_notinK, GK.inK_int, GK.inK_str, GK.look_kT, GK.put_kT, GK.deq_bool, GK.lentE_var, GK.lentE_call, GK.lentE_lst, GK.lentE_tup, GK.lentE_ix, GK.lentE_sl, GK.lentE_bin, GK.lentE_b1, GK.lentE_lc, GK.lentE_lrg, GK.lentE_rvl, GK.lentE_sst, GK.lentE_gk, GK.lentE_gdx, GK.lentE_dsp, GK.lentO_p, GK.lentO_f, GK.lentO_o, GK.frzB_t, GK.frzB_f, GK.nmkD_list, GK.nmkD_tuple, GK.nmkD_int, GK.nmkD_bool, GK.nmkD_dict, GK.nmk_nil, GK.nmk_int, GK.nmk_str, GK.nmk_kT, GK.nmk_kv, GK.nmk_none, GK.keyOk_tup, GK.exS_ndn, GK.inK_tup, GK.inN_mk, GK.ixD_dictT, GK.getN_mk, GK.optD_some, GK.setSN_eq, GK.setN_mk, GK.b1D_tupN, GK.b1D_lenK, GK.b1D_lenD, GK.evE_lns, GK.evE_pk2, GK.exS_fst, Bool.false_and, Bool.and_false, GK.binI_add_nat, GK.binI_shr_nat, GK.binI_and1_nat, GK.deq_nat, GK.cmpop_lt_nat, GK.cmpop_le_nat, GK.cmpop_gt_nat, GK.cmpop_ge_nat, GK.binI_or_nat, GK.binI_xor_nat, GK.mmD_maxN, GK.mmD_minN, GK.inD_nats, GK.inF_nats, GK.intsD_nats, GK.sum_cast, GK.isiD, ll, cl]
  rw [show GK.exS (run 99) fu i_law_0 [some ⟨.f, .list (ns.map .int)⟩, some (fI (i : Nat)), some (fI (most : Nat)), some ⟨.f, d⟩, some ⟨.f, circD i ss o⟩, none] = _ from il]
  simp only [GK.ok_bind, GK.pure_M, GK.bind_assoc', GK.vm_f, GK.vm_o, GK.vm_p, GK.vm_vm, GK.rdV_mk, GK.rdV_fI, GK.rdV_fB, GK.evE_var, GK.evE_int, GK.evE_bl, GK.evE_non, GK.evE_str, GK.evE_bin, GK.evE_neg, GK.evE_inv, GK.evE_cmp, GK.ifM_t, GK.ifM_f, GK.evE_chn, GK.evE_isN, GK.evE_notN, GK.evE_and, GK.evE_or, GK.evE_not, GK.evE_ife, GK.evE_tup, GK.evE_lst, GK.evE_ix, GK.evE_sl, GK.evE_call, GK.evE_b1, GK.evE_isi, GK.evE_lc, GK.evE_lrg, GK.evF_nil, GK.evF_cons, GK.evA_nil, GK.evA_cons, GK.getI_int, GK.evO_none, GK.evO_some, GK.evC_none, GK.evC_some, GK.evI_rg1, GK.evI_rg2, GK.evI_seq, GK.seqF_nx, GK.seqF_rt, GK.seqF_bk, GK.seqF_ct, GK.exSs_nil, GK.exSs_cons, GK.exSs_frz, GK.exS_asg, GK.exS_setix, GK.exS_app, GK.exS_ext, GK.exS_exp, GK.exS_ret, GK.exS_retN, GK.exS_ite, GK.exS_for, GK.exS_whl, GK.exS_brk, GK.exS_cont, GK.exS_pass, GK.fin_rt, GK.fin_nx, GK.bindT_nm, GK.bindT_nmo, GK.bindT_nI, GK.bindT_nB, GK.bindT_tp2, GK.bindT_tp3, GK.bindT_tl5, GK.fI_d, GK.fB_d, GK.fI_m, GK.fB_m, GK.asF_f, GK.asF_o, GK.asF_fI, GK.asF_fB, GK.asB_b, GK.argS_f, GK.argS_o, GK.argS_p, GK.argS_v, GK.argS_fI, GK.argS_fB, GK.retS_f, GK.retS_o, GK.retS_fI, GK.retS_fB, GK.retP_o, GK.retS_p, GK.ownG_o, GK.ownL_eq, GK.frzG_o, GK.frzG_f, GK.frzG_fI, GK.frzG_fB, GK.frzR_eq, GK.extG_list, GK.isF_f, GK.isF_o, GK.isF_p, GK.binop_int, GK.binop_cat, GK.binop_rep, GK.ckI_t, GK.ckO_t, GK.unop_neg, GK.unop_inv, GK.cmpop_eq, GK.cmpop_ne, GK.optS_some, GK.ixD_list, GK.ixD_tup, GK.slD_list, GK.b1D_len, GK.b1D_lenT, GK.b1D_list, GK.b1D_listT, GK.b1D_tup, GK.b1D_tupT, GK.b1D_int, GK.b1D_intN, GK.b1D_sum, GK.sumS_some, GK.allS_some, GK.b1D_all, GK.b1D_any, GK.itemsD_list, GK.itemsD_tup, GK.ix_t0, GK.ix_t1, GK.ix_t2, GK.nD_def, GK.fI_eq', GK.fB_eq', GK.deq_pair, GK.natDec, GK.decide_self, GK.notP_rg1, GK.notP_rg2, GK.notPs_f, GK.notPs_o, GK.notP_seq, GK.esLen, Nat.reduceLeDiff, decide_true, decide_false, List.getElem?_cons_zero, List.getElem?_cons_succ, List.set_cons_zero, List.set_cons_succ, List.length_cons, List.length_nil, List.map_cons, List.map_nil, List.replicate_succ, List.replicate_zero, List.append_nil, List.nil_append, List.cons_append, Nat.reduceAdd, Nat.reduceSub, GK.startR, GK.tgIn, GK.isRg, List.contains_cons, List.all_cons, List.all_nil, Bool.and_true, Bool.true_and, Bool.not_true, Bool.not_false, beq_self_eq_true, Bool.or_true, Bool.true_or, Bool.or_false, Bool.false_or, Nat.not_lt_zero, GK.wipeR, GK.isNone, GK.isiD, GK.evE_glb, GK.evE_sst, GK.evE_gk, GK.evE_gdx, GK.evE_dsp, GK.evP_nil, GK.evP_cons, GK.evE_mm, GK.evE_rvl, GK.evI_rg3, GK.evI_enm, GK.evI_rev, GK.evI_zp, GK.evI_rvr, GK.notP_rg3, GK.notP_rvr, GK.notP_enm, GK.notP_rev, GK.notP_zp, GK.ckTu_t, GK.binop_catT, GK.slD_tup, GK.rvD_list, GK.cmpop_is, GK.cmpop_isnot, GK.negM_ok', GK.cmpop_in, GK.cmpop_notin, GK.cmpop_inT, GK.cmpop_notinT, GK.beq_t, GK.beq_f, GK.evE_dnw, GK.evE_dsp1, GK.setO_eq, GK.setS_list, GK.setS_dict, GK.keyOk_int, GK.keyOk_str, GK.ixD_dictI, GK.ixD_dictS, GK.cmpop_inK, GK.cmpop_notinK, GK.inK_int, GK.inK_str, GK.look_kT, GK.put_kT, GK.deq_bool, GK.lentE_var, GK.lentE_call, GK.lentE_lst, GK.lentE_tup, GK.lentE_ix, GK.lentE_sl, GK.lentE_bin, GK.lentE_b1, GK.lentE_lc, GK.lentE_lrg, GK.lentE_rvl, GK.lentE_sst, GK.lentE_gk, GK.lentE_gdx, GK.lentE_dsp, GK.lentO_p, GK.lentO_f, GK.lentO_o, GK.frzB_t, GK.frzB_f, GK.nmkD_list, GK.nmkD_tuple, GK.nmkD_int, GK.nmkD_bool, GK.nmkD_dict, GK.nmk_nil, GK.nmk_int, GK.nmk_str, GK.nmk_kT, GK.nmk_kv, GK.nmk_none, GK.keyOk_tup, GK.exS_ndn, GK.inK_tup, GK.inN_mk, GK.ixD_dictT, GK.getN_mk, GK.optD_some, GK.setSN_eq, GK.setN_mk, GK.b1D_tupN, GK.b1D_lenK, GK.b1D_lenD, GK.evE_lns, GK.evE_pk2, GK.exS_fst, Bool.false_and, Bool.and_false, GK.binI_add_nat, GK.binI_shr_nat, GK.binI_and1_nat, GK.deq_nat, GK.cmpop_lt_nat, GK.cmpop_le_nat, GK.cmpop_gt_nat, GK.cmpop_ge_nat, GK.binI_or_nat, GK.binI_xor_nat, GK.mmD_maxN, GK.mmD_minN, GK.inD_nats, GK.inF_nats, GK.intsD_nats, GK.sum_cast, GK.binI_shl_nat (show 1 < 2 ^ 64 by decide) (show i ≤ 1000000 by omega), Nat.one_mul, GK.rngD_nat (show 2 ^ i < 2 ^ 62 by omega)]
  refine for_fin (fun _ ρ => ∃ a, ρ = [some ⟨.f, .list (ns.map .int)⟩, some (fI (i : Nat)), some (fI (most : Nat)), some ⟨.f, d⟩, some ⟨.f, circD i ss o⟩, a]) ⟨none, rfl⟩ (fun r x ρ hx hp => ?_) (fun ρ' hp => ?_)
  · obtain ⟨a, rfl⟩ := hp
    obtain ⟨hr, rfl⟩ := range_at hx
    simp only [GK.ok_bind, GK.pure_M, GK.bind_assoc', GK.vm_f, GK.vm_o, GK.vm_p, GK.vm_vm, GK.rdV_mk, GK.rdV_fI, GK.rdV_fB, GK.evE_var, GK.evE_int, GK.evE_bl, GK.evE_non, GK.evE_str, GK.evE_bin, GK.evE_neg, GK.evE_inv, GK.evE_cmp, GK.ifM_t, GK.ifM_f, GK.evE_chn, GK.evE_isN, GK.evE_notN, GK.evE_and, GK.evE_or, GK.evE_not, GK.evE_ife, GK.evE_tup, GK.evE_lst, GK.evE_ix, GK.evE_sl, GK.evE_call, GK.evE_b1, GK.evE_isi, GK.evE_lc, GK.evE_lrg, GK.evF_nil, GK.evF_cons, GK.evA_nil, GK.evA_cons, GK.getI_int, GK.evO_none, GK.evO_some, GK.evC_none, GK.evC_some, GK.evI_rg1, GK.evI_rg2, GK.evI_seq, GK.seqF_nx, GK.seqF_rt, GK.seqF_bk, GK.seqF_ct, GK.exSs_nil, GK.exSs_cons, GK.exSs_frz, GK.exS_asg, GK.exS_setix, GK.exS_app, GK.exS_ext, GK.exS_exp, GK.exS_ret, GK.exS_retN, GK.exS_ite, GK.exS_for, GK.exS_whl, GK.exS_brk, GK.exS_cont, GK.exS_pass, GK.fin_rt, GK.fin_nx, GK.bindT_nm, GK.bindT_nmo, GK.bindT_nI, GK.bindT_nB, GK.bindT_tp2, GK.bindT_tp3, GK.bindT_tl5, GK.fI_d, GK.fB_d, GK.fI_m, GK.fB_m, GK.asF_f, GK.asF_o, GK.asF_fI, GK.asF_fB, GK.asB_b, GK.argS_f, GK.argS_o, GK.argS_p, GK.argS_v, GK.argS_fI, GK.argS_fB, GK.retS_f, GK.retS_o, GK.retS_fI, GK.retS_fB, GK.retP_o, GK.retS_p, GK.ownG_o, GK.ownL_eq, GK.frzG_o, GK.frzG_f, GK.frzG_fI, GK.frzG_fB, GK.frzR_eq, GK.extG_list, GK.isF_f, GK.isF_o, GK.isF_p, GK.binop_int, GK.binop_cat, GK.binop_rep, GK.ckI_t, GK.ckO_t, GK.unop_neg, GK.unop_inv, GK.cmpop_eq, GK.cmpop_ne, GK.optS_some, GK.ixD_list, GK.ixD_tup, GK.slD_list, GK.b1D_len, GK.b1D_lenT, GK.b1D_list, GK.b1D_listT, GK.b1D_tup, GK.b1D_tupT, GK.b1D_int, GK.b1D_intN, GK.b1D_sum, GK.sumS_some, GK.allS_some, GK.b1D_all, GK.b1D_any, GK.itemsD_list, GK.itemsD_tup, GK.ix_t0, GK.ix_t1, GK.ix_t2, GK.nD_def, GK.fI_eq', GK.fB_eq', GK.deq_pair, GK.natDec, GK.decide_self, GK.notP_rg1, GK.notP_rg2, GK.notPs_f, GK.notPs_o, GK.notP_seq, GK.esLen, Nat.reduceLeDiff, decide_true, decide_false, List.getElem?_cons_zero, List.getElem?_cons_succ, List.set_cons_zero, List.set_cons_succ, List.length_cons, List.length_nil, List.map_cons, List.map_nil, List.replicate_succ, List.replicate_zero, List.append_nil, List.nil_append, List.cons_append, Nat.reduceAdd, Nat.reduceSub, GK.startR, GK.tgIn, GK.isRg, List.contains_cons, List.all_cons, List.all_nil, Bool.and_true, Bool.true_and, Bool.not_true, Bool.not_false, beq_self_eq_true, Bool.or_true, Bool.true_or, Bool.or_false, Bool.false_or, Nat.not_lt_zero, GK.wipeR, GK.isNone, GK.isiD, GK.evE_glb, GK.evE_sst, GK.evE_gk, GK.evE_gdx, GK.evE_dsp, GK.evP_nil, GK.evP_cons, GK.evE_mm, GK.evE_rvl, GK.evI_rg3, GK.evI_enm, GK.evI_rev, GK.evI_zp, GK.evI_rvr, GK.notP_rg3, GK.notP_rvr, GK.notP_enm, GK.notP_rev, GK.notP_zp, GK.ckTu_t, GK.binop_catT, GK.slD_tup, GK.rvD_list, GK.cmpop_is, GK.cmpop_isnot, GK.negM_ok', GK.cmpop_in, GK.cmpop_notin, GK.cmpop_inT, GK.cmpop_notinT, GK.beq_t, GK.beq_f, GK.evE_dnw, GK.evE_dsp1, GK.setO_eq, GK.setS_list, GK.setS_dict, GK.keyOk_int, GK.keyOk_str, GK.ixD_dictI, GK.ixD_dictS, GK.cmpop_inK, GK.cmpop_notinK, GK.inK_int, GK.inK_str, GK.look_kT, GK.put_kT, GK.deq_bool, GK.lentE_var, GK.lentE_call, GK.lentE_lst, GK.lentE_tup, GK.lentE_ix, GK.lentE_sl, GK.lentE_bin, GK.lentE_b1, GK.lentE_lc, GK.lentE_lrg, GK.lentE_rvl, GK.lentE_sst, GK.lentE_gk, GK.lentE_gdx, GK.lentE_dsp, GK.lentO_p, GK.lentO_f, GK.lentO_o, GK.frzB_t, GK.frzB_f, GK.nmkD_list, GK.nmkD_tuple, GK.nmkD_int, GK.nmkD_bool, GK.nmkD_dict, GK.nmk_nil, GK.nmk_int, GK.nmk_str, GK.nmk_kT, GK.nmk_kv, GK.nmk_none, GK.keyOk_tup, GK.exS_ndn, GK.inK_tup, GK.inN_mk, GK.ixD_dictT, GK.getN_mk, GK.optD_some, GK.setSN_eq, GK.setN_mk, GK.b1D_tupN, GK.b1D_lenK, GK.b1D_lenD, GK.evE_lns, GK.evE_pk2, GK.exS_fst, Bool.false_and, Bool.and_false, GK.binI_add_nat, GK.binI_shr_nat, GK.binI_and1_nat, GK.deq_nat, GK.cmpop_lt_nat, GK.cmpop_le_nat, GK.cmpop_gt_nat, GK.cmpop_ge_nat, GK.binI_or_nat, GK.binI_xor_nat, GK.mmD_maxN, GK.mmD_minN, GK.inD_nats, GK.inF_nats, GK.intsD_nats, GK.sum_cast, i_law_1, lo, tv, beq_self_eq_true]
    exact nx_ok ⟨_, rfl⟩
  · obtain ⟨a, rfl⟩ := hp
    simp only [GK.ok_bind, GK.pure_M, GK.bind_assoc', GK.vm_f, GK.vm_o, GK.vm_p, GK.vm_vm, GK.rdV_mk, GK.rdV_fI, GK.rdV_fB, GK.evE_var, GK.evE_int, GK.evE_bl, GK.evE_non, GK.evE_str, GK.evE_bin, GK.evE_neg, GK.evE_inv, GK.evE_cmp, GK.ifM_t, GK.ifM_f, GK.evE_chn, GK.evE_isN, GK.evE_notN, GK.evE_and, GK.evE_or, GK.evE_not, GK.evE_ife, GK.evE_tup, GK.evE_lst, GK.evE_ix, GK.evE_sl, GK.evE_call, GK.evE_b1, GK.evE_isi, GK.evE_lc, GK.evE_lrg, GK.evF_nil, GK.evF_cons, GK.evA_nil, GK.evA_cons, GK.getI_int, GK.evO_none, GK.evO_some, GK.evC_none, GK.evC_some, GK.evI_rg1, GK.evI_rg2, GK.evI_seq, GK.seqF_nx, GK.seqF_rt, GK.seqF_bk, GK.seqF_ct, GK.exSs_nil, GK.exSs_cons, GK.exSs_frz, GK.exS_asg, GK.exS_setix, GK.exS_app, GK.exS_ext, GK.exS_exp, GK.exS_ret, GK.exS_retN, GK.exS_ite, GK.exS_for, GK.exS_whl, GK.exS_brk, GK.exS_cont, GK.exS_pass, GK.fin_rt, GK.fin_nx, GK.bindT_nm, GK.bindT_nmo, GK.bindT_nI, GK.bindT_nB, GK.bindT_tp2, GK.bindT_tp3, GK.bindT_tl5, GK.fI_d, GK.fB_d, GK.fI_m, GK.fB_m, GK.asF_f, GK.asF_o, GK.asF_fI, GK.asF_fB, GK.asB_b, GK.argS_f, GK.argS_o, GK.argS_p, GK.argS_v, GK.argS_fI, GK.argS_fB, GK.retS_f, GK.retS_o, GK.retS_fI, GK.retS_fB, GK.retP_o, GK.retS_p, GK.ownG_o, GK.ownL_eq, GK.frzG_o, GK.frzG_f, GK.frzG_fI, GK.frzG_fB, GK.frzR_eq, GK.extG_list, GK.isF_f, GK.isF_o, GK.isF_p, GK.binop_int, GK.binop_cat, GK.binop_rep, GK.ckI_t, GK.ckO_t, GK.unop_neg, GK.unop_inv, GK.cmpop_eq, GK.cmpop_ne, GK.optS_some, GK.ixD_list, GK.ixD_tup, GK.slD_list, GK.b1D_len, GK.b1D_lenT, GK.b1D_list, GK.b1D_listT, GK.b1D_tup, GK.b1D_tupT, GK.b1D_int, GK.b1D_intN, GK.b1D_sum, GK.sumS_some, GK.allS_some, GK.b1D_all, GK.b1D_any, GK.itemsD_list, GK.itemsD_tup, GK.ix_t0, GK.ix_t1, GK.ix_t2, GK.nD_def, GK.fI_eq', GK.fB_eq', GK.deq_pair, GK.natDec, GK.decide_self, GK.notP_rg1, GK.notP_rg2, GK.notPs_f, GK.notPs_o, GK.notP_seq, GK.esLen, Nat.reduceLeDiff, decide_true, decide_false, List.getElem?_cons_zero, List.getElem?_cons_succ, List.set_cons_zero, List.set_cons_succ, List.length_cons, List.length_nil, List.map_cons, List.map_nil, List.replicate_succ, List.replicate_zero, List.append_nil, List.nil_append, List.cons_append, Nat.reduceAdd, Nat.reduceSub, GK.startR, GK.tgIn, GK.isRg, List.contains_cons, List.all_cons, List.all_nil, Bool.and_true, Bool.true_and, Bool.not_true, Bool.not_false, beq_self_eq_true, Bool.or_true, Bool.true_or, Bool.or_false, Bool.false_or, Nat.not_lt_zero, GK.wipeR, GK.isNone, GK.isiD, GK.evE_glb, GK.evE_sst, GK.evE_gk, GK.evE_gdx, GK.evE_dsp, GK.evP_nil, GK.evP_cons, GK.evE_mm, GK.evE_rvl, GK.evI_rg3, GK.evI_enm, GK.evI_rev, GK.evI_zp, GK.evI_rvr, GK.notP_rg3, GK.notP_rvr, GK.notP_enm, GK.notP_rev, GK.notP_zp, GK.ckTu_t, GK.binop_catT, GK.slD_tup, GK.rvD_list, GK.cmpop_is, GK.cmpop_isnot, GK.negM_ok', GK.cmpop_in, GK.cmpop_notin, GK.cmpop_inT, GK.cmpop_notinT, GK.beq_t, GK.beq_f, GK.evE_dnw, GK.evE_dsp1, GK.setO_eq, GK.setS_list, GK.setS_dict, GK.keyOk_int, GK.keyOk_str, GK.ixD_dictI, GK.ixD_dictS, GK.cmpop_inK, GK.cmpop_notinK, GK.inK_int, GK.inK_str, GK.look_kT, GK.put_kT, GK.deq_bool, GK.lentE_var, GK.lentE_call, GK.lentE_lst, GK.lentE_tup, GK.lentE_ix, GK.lentE_sl, GK.lentE_bin, GK.lentE_b1, GK.lentE_lc, GK.lentE_lrg, GK.lentE_rvl, GK.lentE_sst, GK.lentE_gk, GK.lentE_gdx, GK.lentE_dsp, GK.lentO_p, GK.lentO_f, GK.lentO_o, GK.frzB_t, GK.frzB_f, GK.nmkD_list, GK.nmkD_tuple, GK.nmkD_int, GK.nmkD_bool, GK.nmkD_dict, GK.nmk_nil, GK.nmk_int, GK.nmk_str, GK.nmk_kT, GK.nmk_kv, GK.nmk_none, GK.keyOk_tup, GK.exS_ndn, GK.inK_tup, GK.inN_mk, GK.ixD_dictT, GK.getN_mk, GK.optD_some, GK.setSN_eq, GK.setN_mk, GK.b1D_tupN, GK.b1D_lenK, GK.b1D_lenD, GK.evE_lns, GK.evE_pk2, GK.exS_fst, Bool.false_and, Bool.and_false, GK.binI_add_nat, GK.binI_shr_nat, GK.binI_and1_nat, GK.deq_nat, GK.cmpop_lt_nat, GK.cmpop_le_nat, GK.cmpop_gt_nat, GK.cmpop_ge_nat, GK.binI_or_nat, GK.binI_xor_nat, GK.mmD_maxN, GK.mmD_minN, GK.inD_nats, GK.inF_nats, GK.intsD_nats, GK.sum_cast, sp, dq]

end K18
namespace K18
open PySem PySem.Spec PyProof.Rows L2 GK
theorem ok_spread : PD.Ok fs d_spread := ⟨⟨rfl, rfl, rfl, by decide +kernel, rfl, by decide +kernel, by decide +kernel⟩, by kernel_rfl, fun _ _ _ _ _ _ us hl => match us, hl with | [_], _ => rfl⟩
theorem ok_laid : PD.Ok fs d_laid := ⟨⟨rfl, rfl, rfl, by decide +kernel, rfl, by decide +kernel, by decide +kernel⟩, by kernel_rfl, fun _ _ _ _ _ _ us hl => match us, hl with | [_, _, _], _ => rfl⟩
theorem ok_tree_circuit : PD.Ok fs d_tree_circuit := ⟨⟨rfl, rfl, rfl, by decide +kernel, rfl, by decide +kernel, by decide +kernel⟩, by kernel_rfl, fun _ _ _ _ _ _ us hl => match us, hl with | [_, _], _ => rfl⟩
theorem ok_law_cell_at : PD.Ok fs d_law_cell_at := ⟨⟨rfl, rfl, rfl, by decide +kernel, rfl, by decide +kernel, by decide +kernel⟩, by kernel_rfl, fun _ _ _ _ _ _ us hl => match us, hl with | [_, _], _ => rfl⟩
theorem ok_law_gate : PD.Ok fs d_law_gate := ⟨⟨rfl, rfl, rfl, by decide +kernel, rfl, by decide +kernel, by decide +kernel⟩, by kernel_rfl, fun _ _ _ _ _ _ us hl => match us, hl with | [_], _ => rfl⟩
theorem ok_law_tree : PD.Ok fs d_law_tree := ⟨⟨rfl, rfl, rfl, by decide +kernel, rfl, by decide +kernel, by decide +kernel⟩, by kernel_rfl, fun _ _ _ _ _ _ us hl => match us, hl with | [_, _, _, _], _ => rfl⟩
theorem ok_law_out : PD.Ok fs d_law_out := ⟨⟨rfl, rfl, rfl, by decide +kernel, rfl, by decide +kernel, by decide +kernel⟩, by kernel_rfl, fun _ _ _ _ _ _ us hl => match us, hl with | [_, _], _ => rfl⟩
theorem ok_law_value : PD.Ok fs d_law_value := ⟨⟨rfl, rfl, rfl, by decide +kernel, rfl, by decide +kernel, by decide +kernel⟩, by kernel_rfl, fun _ _ _ _ _ _ us hl => match us, hl with | [_, _], _ => rfl⟩
theorem ok_law_laid : PD.Ok fs d_law_laid := ⟨⟨rfl, rfl, rfl, by decide +kernel, rfl, by decide +kernel, by decide +kernel⟩, by kernel_rfl, fun _ _ _ _ _ _ us hl => match us, hl with | [_, _], _ => rfl⟩
theorem ok_law : PD.Ok fs d_law := ⟨⟨rfl, rfl, rfl, by decide +kernel, rfl, by decide +kernel, by decide +kernel⟩, by kernel_rfl, fun _ _ _ _ _ _ us hl => match us, hl with | [_], _ => rfl⟩
theorem ok_all : ∀ d ∈ defs, PD.Ok fs d := by
  intro d hd
  simp only [defs, List.mem_cons, List.not_mem_nil, or_false] at hd
  rcases hd with rfl | rfl | rfl | rfl | rfl | rfl | rfl | rfl | rfl | rfl
  · exact ok_spread
  · exact ok_laid
  · exact ok_tree_circuit
  · exact ok_law_cell_at
  · exact ok_law_gate
  · exact ok_law_tree
  · exact ok_law_out
  · exact ok_law_value
  · exact ok_law_laid
  · exact ok_law
theorem hX : ∀ d ∈ defs, ∀ e, TX d.name = some e → d.N = e.N ∧ d.ps = e.ps ∧ d.body = toSs e.p e.body := by
  intro d hd e he
  simp only [defs, List.mem_cons, List.not_mem_nil, or_false] at hd
  rcases hd with rfl | rfl | rfl | rfl | rfl | rfl | rfl | rfl | rfl | rfl
  · have h : TX d_spread.name = none := by kernel_rfl
    rw [h] at he
    cases he
  · have h : TX d_laid.name = some xd_laid := by kernel_rfl
    rw [h] at he
    cases he
    exact ⟨rfl, rfl, rfl⟩
  · have h : TX d_tree_circuit.name = none := by kernel_rfl
    rw [h] at he
    cases he
  · have h : TX d_law_cell_at.name = none := by kernel_rfl
    rw [h] at he
    cases he
  · have h : TX d_law_gate.name = none := by kernel_rfl
    rw [h] at he
    cases he
  · have h : TX d_law_tree.name = some xd_tree := by kernel_rfl
    rw [h] at he
    cases he
    exact ⟨rfl, rfl, rfl⟩
  · have h : TX d_law_out.name = none := by kernel_rfl
    rw [h] at he
    cases he
  · have h : TX d_law_value.name = none := by kernel_rfl
    rw [h] at he
    cases he
  · have h : TX d_law_laid.name = none := by kernel_rfl
    rw [h] at he
    cases he
  · have h : TX d_law.name = none := by kernel_rfl
    rw [h] at he
    cases he
theorem hY : ∀ d ∈ defs, ∀ e, TY d.name = some e → d.N = e.N ∧ d.ps = e.ps ∧ d.body = e.y.body := by
  intro d hd e he
  simp only [defs, List.mem_cons, List.not_mem_nil, or_false] at hd
  rcases hd with rfl | rfl | rfl | rfl | rfl | rfl | rfl | rfl | rfl | rfl
  · have h : TY d_spread.name = none := by kernel_rfl
    rw [h] at he
    cases he
  · have h : TY d_laid.name = none := by kernel_rfl
    rw [h] at he
    cases he
  · have h : TY d_tree_circuit.name = some fy_circuit := by kernel_rfl
    rw [h] at he
    cases he
    exact ⟨rfl, rfl, rfl⟩
  · have h : TY d_law_cell_at.name = none := by kernel_rfl
    rw [h] at he
    cases he
  · have h : TY d_law_gate.name = none := by kernel_rfl
    rw [h] at he
    cases he
  · have h : TY d_law_tree.name = none := by kernel_rfl
    rw [h] at he
    cases he
  · have h : TY d_law_out.name = none := by kernel_rfl
    rw [h] at he
    cases he
  · have h : TY d_law_value.name = none := by kernel_rfl
    rw [h] at he
    cases he
  · have h : TY d_law_laid.name = none := by kernel_rfl
    rw [h] at he
    cases he
  · have h : TY d_law.name = some fy_law := by kernel_rfl
    rw [h] at he
    cases he
    exact ⟨rfl, rfl, rfl⟩
theorem tabOk : TabOk defs TY TX := ⟨hX, hY⟩
def fa : List He.Fa := facts defs cst
def fn : List He.DefD := defs.map PD.dd
abbrev R : PySem.W.OpenRow := PySem.W.OpenLaw.row PySem.Challenge.rw_gatekin_k18_circuits_of_trees
abbrev hk : PySem.W.Hook := He.hookD 4 fa fn
def ob (s : PySem.W.SharedT) : He.AlD := He.obsDG 4 fa fn (HandSHeadRun.getT s)
theorem ob_eq (s : PySem.W.SharedT) : ob s = hk.obs s.abs := He.obsDG_eq (HandSHeadRun.getT_eq s)
def loose : List Str := [("spread" : Str), ("laid" : Str), ("tree_circuit" : Str), ("_law_cell_at" : Str), ("_law_gate" : Str), ("_law_tree" : Str), ("_law_out" : Str), ("_law_value" : Str), ("_law_laid" : Str), ("GateError" : Str), ("TooBig" : Str), ("MOST_SIZE" : Str)]
theorem run_top (w : World) : HandSHeadRun.RunEq R (PySem.W.view R.prog [15]) hk ob 960 loose w := by
  intro os
  kernel_rfl
end K18
open PySem PySem.W PySem.Calls PyProof.Rows
theorem PySem.Challenge.cw_gatekin_k18_circuits_of_trees_holds : PySem.Challenge.rw_gatekin_k18_circuits_of_trees.Holds := by
  w_on; o_law
  refine HandSHeadRun.head_any (r := OpenLaw.row PySem.Challenge.rw_gatekin_k18_circuits_of_trees) (q := view (OpenLaw.row PySem.Challenge.rw_gatekin_k18_circuits_of_trees).prog [15]) (H := K18.hk) (ob := K18.ob) (M := 960) (loose := K18.loose) (d := HandSHeadRun.topDef (OpenLaw.row PySem.Challenge.rw_gatekin_k18_circuits_of_trees).prog 15) (kwd := []) K18.ob_eq
    (by kernel_rfl) (fun s => by kernel_rfl) K18.run_top (by kernel_rfl) (by kernel_rfl) (by kernel_rfl) (by rfl) (by first | assumption | decide +kernel) (by decide +kernel) ⟨rfl, rfl, rfl, rfl, rfl, by decide +kernel⟩ ?hw ?hc
  case hw => w_witness2
  case hc =>
    refine L2.walk_ofE (l := PySem.Challenge.rw_gatekin_k18_circuits_of_trees) (n := 63) (k := 120) (x := "_law_script") (CX := L2.CX0) rfl (by decide) (by kernel_rfl) ⟨rfl, by decide, by decide⟩ ?F (fun _ _ _ _ z => z)
    intro w mg fa h Y G hmg0
    obtain ⟨K, KX, c⟩ := Y
    have hmg : mg ("law" : PySem.Str) = some (.ref fa) := by
      have e : (HandSHeadRun.topDef (OpenLaw.row PySem.Challenge.rw_gatekin_k18_circuits_of_trees).prog 15).name = ("law" : PySem.Str) := by kernel_rfl
      rw [← e]
      exact hmg0
    exact GK.law_endZ KX G c GK.CkOk.none K18.ok_all K18.tabOk (d := K18.d_law) (k := 99) (by simp [K18.defs]) (by kernel_rfl) (by kernel_rfl) rfl hmg K18.law_true
