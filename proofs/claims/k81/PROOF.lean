import PyProof.Rows.All
import Wide.All
import OpenK.AllK
import Wide.FinOn
import HandS.SortInts
import HandS.SetFor
import HandS.Strs
import HandS.Exc
import HandS.ExcOwn
import HandS.ExcIs
import HandS.WordsExc
import HandS.Head0
import HandS.Head1
import HandS.Head2
import HandS.HeadEnd
import HandS.HeadHook1
import HandS.HeadHook2
import HandS.HeadHook3
import HandS.HeadHook4
import HandS.Defaults
import HandS.ForMost
import HandS.Conv
import KE.KeyNested
import HandS.Rev
import PyProof.CollectStr
import KE.KDictList
import HandS.TryMany
import HandS.IsInst
import KE.KTryMore
import HandS.Comp
import KE.GoesComp
import KE.KAsSuite
import HandS.Deep
import HandS.DictComp
import HandS.SetKeys
import HandS.Text
import HandS.StrSplit
import HandS.More
import PyProof.MinMaxWalk
import PyProof.WalkInts
import HandS.Zip
import HandS.TryOnly
import HandS.Style
import HandS.TupAny
import HandS.RevRange
import HandS.Small
import KE.GoesMore
import KE.GoesEnum
import PySem.Challenge.RW_gatekin_k81_gates_and_sets_written
set_option Elab.async false
set_option linter.all false
set_option maxRecDepth 100000
set_option maxHeartbeats 0
/-! what is looked at behind a law's top (first of all, so that the top's run stands ahead of the rest) -/
namespace GK
open PySem PySem.Spec PyProof.Rows L2
abbrev D := PyData
def xall : List Str := ["GateError", "NoRelation", "TooMany", "TooBig", "NotAll", "NotMade", "NoText", "NoName", "NoRow", "ValueError"]
def xsub (c d : Str) : Bool := decide (c = d) || (decide (d = "GateError") || decide (d = "ValueError"))
def xga (K : PySem.W.Frag) (c : Str) : Addr := match PySem.W.nsIn K mainGlobals c with
  | some (some (.ref a)) => a
  | _ => 0
def clsV (K : PySem.W.Frag) (d : Str) : Value := if d = "ValueError" then .type "ValueError" else .ref (xga K d)
def bnames : List Str := ["len", "list", "tuple", "int", "str", "sum", "all", "any", "sorted", "range", "isinstance", "bool", "dict", "set", "min", "max", "enumerate", "zip", "reversed", "abs", "repr", "ValueError"]
abbrev veMro : List Value := [.type "ValueError", .type "Exception", .type "BaseException", .type "object"]
def defNm (s : Stmt) (x : Str) : Str := match s with
  | .FunctionDef f .. => f
  | _ => x
mutual
def rpB (K : PySem.W.Frag) : D → Value → Bool
  | .none, .none => true
  | .bool b, .bool c => b == c
  | .int i, .int j _ => decide (i = j)
  | .str x, .str y _ => decide (x = y)
  | .tuple ds, .ref a => match K.lookup a with
    | some ⟨.type c, _, .seq its _, _⟩ => decide (c = "tuple") && (decide (its.size ≤ sizeLine) && rpBs K ds its.toList)
    | _ => false
  | _, _ => false
def rpBs (K : PySem.W.Frag) : List D → List Value → Bool
  | [], [] => true
  | d :: ds, u :: us => rpB K d u && rpBs K ds us
  | _, _ => false
end
def ckB (K : PySem.W.Frag) (ck : List (Str × D)) : Bool := ck.all fun p => match PySem.W.nsIn K mainGlobals p.1 with
  | some (some u) => rpB K p.2 u
  | _ => false
def cdB (K : PySem.W.Frag) (cd : List (Str × List (Str × D))) : Bool := cd.all fun p => match PySem.W.nsIn K mainGlobals p.1 with
  | some (some (.ref a)) => p.2.all fun q => match PySem.W.nsIn K a q.1 with
    | some (some u) => rpB K q.2 u
    | _ => false
  | _ => false
def tabsOf (cd : List (Str × List (Str × D))) : List He.Tab := cd.map fun p => (fun K => He.ga K p.1, p.2.map (·.1))
def knB (K : PySem.W.Frag) (d : Str) : Bool := decide (d = "ValueError") || (match PySem.W.nsIn K mainGlobals d with
  | some (some (.ref _)) => true
  | _ => false)
def bltB (n : String) : Option (Option Value) → Bool
  | some (some (.builtin m)) => decide (m = n)
  | _ => false
def nonB : Option (Option Value) → Bool
  | some none => true
  | _ => false
def xdB (K : PySem.W.Frag) (xd : List Str) : Bool := xd.all fun d => match PySem.W.nsIn K mainGlobals d with
  | some (some (.ref _)) => true
  | _ => false
def xrB1 (K : PySem.W.Frag) (c : Str) : Bool :=
  (match PySem.W.nsIn K mainGlobals c with
  | some (some (.ref _)) => true
  | _ => false) && (bltB "BaseException.__getattribute__" (PySem.W.findIn K (.ref (xga K c)) "__getattribute__") && (nonB (PySem.W.findIn K (.ref (xga K c)) "__getattr__") && (decide (PySem.W.subIn K (.ref (xga K c)) (.type "BaseException") = some true) &&
    (PySem.W.hasDictIn K (xga K c) && (bltB "object.__class__" (PySem.W.findIn K (.ref (xga K c)) "__class__") && (bltB "getset_descriptor.__get__" (PySem.W.specialIn K (.builtin "object.__class__") "__get__") && (decide (PySem.W.takesIn K (.builtin "object.__class__") = some true) &&
    (decide (PySem.W.mroIn K (xga K c) (.type "object") = some true) && ((xall.all fun d => !knB K d || decide (PySem.W.kitOne K (.ref (xga K c)) (clsV K d) = some (xsub c d)) && decide (PySem.W.exmOne K (.ref (xga K c)) (clsV K d) = some (xsub c d))) &&
    (PySem.W.excIn K (xga K c) veMro "ValueError.__new__" && (PySem.W.keepIn K (.ref (xga K c)) && (match PySem.W.typeIn K (.ref (xga K c)) with
      | some (.type n) => decide (n = "type")
      | _ => false))))))))))))
def exOf (ck : List (Str × D)) (cd : List (Str × List (Str × D))) (xr xd : List Str) (K : PySem.W.Frag) : Bool := (ckB K ck && cdB K cd) && (xr.all (xrB1 K) && xdB K xd)
def clsSt (s : Stmt) (j : Nat) : Stmt := match s with
  | .ClassDef _ _ _ body _ _ _ _ _ _ _ => body.getD j (.Pass ⟨0, 0, 0, 0⟩)
  | s => s
def clB (K : PySem.W.Frag) (c : Str) : Bool := (match PySem.W.nsIn K mainGlobals c with
  | some (some (.ref _)) => true
  | _ => false) && (PySem.W.plainGet K (xga K c) Str.empty && (PySem.W.hasDictIn K (xga K c) && (PySem.W.plainOver K (xga K c) && (bltB "object.__setattr__" (PySem.W.findIn K (.ref (xga K c)) "__setattr__") && (PySem.W.makesIn K (xga K c) && PySem.W.keepIn K (.ref (xga K c)))))))
def mtB (K : PySem.W.Frag) (c m : Str) : Bool := (match PySem.W.findIn K (.ref (xga K c)) m with
  | some (some (.ref f)) => decide (f = He.fAd K (c, some m))
  | _ => false) && PySem.W.isFn K (.ref (He.fAd K (c, some m)))
def naB (K : PySem.W.Frag) (c f : Str) : Bool := nonB (PySem.W.findIn K (.ref (xga K c)) f)
/-! the same, of names alone -/
def obB0 (ms : List (Str × Str)) (is : List (Str × List Str)) (K : PySem.W.Frag) : Bool := (ms.all fun d => clB K d.1 && mtB K d.1 d.2) && (is.all fun d => (clB K d.1 && mtB K d.1 "__init__") && d.2.all fun x => naB K d.1 x)
def exO0 (ck : List (Str × D)) (cd : List (Str × List (Str × D))) (xr xd : List Str) (ms : List (Str × Str)) (is : List (Str × List Str)) (K : PySem.W.Frag) : Bool := exOf ck cd xr xd K && obB0 ms is K
def facts0 (ds : List Str) (cst : List (Str × Nat)) : List He.Fa := ds.map (fun d => He.Fa.glo d) ++ (bnames.map He.Fa.free ++ cst.map fun p => He.Fa.int p.1 (p.2 : Int))
def dd0 (n : Str) (s : Stmt) : He.DefD := ⟨(n, none), defNm s n, defNm s n, defArgs s, defBody s, defScope s, [], []⟩
def mm0 (c m q : Str) (s : Stmt) : He.DefD := ⟨(c, some m), m, q, defArgs s, defBody s, defScope s, [], []⟩
end GK

/-! sorted of sets and dicts of any size, set(xs) of a list -/
namespace GK
open PySem PySem.Spec PyProof.Rows L2
section
variable {P : Program} {w : World} {A : Around} {E : Value → Shared → Prop} {s : Shared}
/-- sorted(x) of what is gathered into whole numbers, any number of them -/
theorem sorted_of {a : Addr} {C : List Value → Shared → Prop} {Q : Value → Shared → Prop} (hc : wpAny (model P w) A.in1 (collect (.ref a)) C E s)
    (h : ∀ vs s1, C vs s1 → ∃ ks : List Int, IntsAre vs ks ∧ vs.length ≤ sizeLine ∧ ∀ (h' : Heap) (out : List Value) (c : Nat), IntsAre out (out.map SrtO.iv) → (out.map SrtO.iv).Perm ks → (out.map SrtO.iv).Pairwise (· ≤ ·) →
      (∀ b u, s1.heap.get? b = some u → h'.get? b = some u) → h'.get? s1.heap.objs.size = some (seqObj "list" out.toArray c) → Q (.ref s1.heap.objs.size) { s1 with heap := h' }) :
    wpAny (model P w) A (call (.builtin "sorted") [.ref a]) Q E s := by
  refine Calls.call_function_entry kind_sorted plain_sorted entry_sorted (args_sorted1 _) ?_; unfold Builtin.«sorted»
  refine wpAny_bind (m := checkCount "sorted" 1 1 _) (wpAny_pure (wpAny_bind (wpAny_mono hc (fun vs s1 hC => ?_) fun _ _ e => e)))
  obtain ⟨ks, hI, hz, k⟩ := h vs s1 hC
  refine wpAny_bind (wpAny_newList ?_ hz)
  have ho : (s1.heap.push (seqObj "list" vs.toArray 0)).get? s1.heap.objs.size = some (seqObj "list" vs.toArray 0) := Heap.get?_push_size _ rfl
  refine wpAny_bind (wpAny_holding (wpAny_call_entry slot_list_sort ⟨_, ho, rfl⟩ entry_list_sort (SrtO.list_sort_ord SrtO.swo_int ho hz (fun _ => SrtO.ints_sortable hI (by assumption)) fun out g1 g2 => ⟨_, rfl, ?_⟩) (args_list_sort _)))
  obtain ⟨k1, k2, k3⟩ := SrtO.ints_out hI g1 g2
  obtain ⟨c, hcc⟩ := sortedHeap_at (vs := vs) (out := out.toArray) ho
  refine wpAny_pure ⟨_, rfl, k _ out c k1 k2 k3 (fun b u e => ?_) hcc⟩
  have lt := Heap.lt_size e
  rw [sortedHeap_old (Nat.ne_of_lt lt) (by rw [size_push']; exact Nat.lt_succ_of_lt lt)]
  exact Heap.get?_push_of_some _ e
/-- a new empty set -/
def eSet (w : World) : Obj := { cls := .type "set", dict := none, data := .set #[] 0 (.fresh 0 0 (!w.params.followText "set-order")) }
end
/-- sorted(x), x a set of whole numbers -/
def rSortS (w : World) : List V → Hp → VK → Prop := fun vs H Q => ∃ (a : Addr) (S : Int → Bool) (n : Nat), vs = [V.ref a] ∧ H a = some (SetO w a S n) ∧
  ∀ (ys : List Int) (p : Addr), ys.Pairwise (· ≤ ·) → ys.Nodup → (∀ k : Int, k ∈ ys ↔ S k = true) → H p = none → Q (.ref p) (upd H p (.lst (ys.map V.int)))
/-- sorted(d), d a dict with whole numbers as keys -/
def rSortD : List V → Hp → VK → Prop := fun xs H Q => ∃ (a : Addr) (kvs : List (Key × V)) (ks : List Int), xs = [.ref a] ∧ Rd H a (.dK kvs) ∧ kvs.map (·.1) = ks.map Sum.inl ∧
  ∀ (ys : List Int) (p : Addr), ys.Perm ks → ys.Pairwise (· ≤ ·) → H p = none → Q (.ref p) (upd H p (.lst (ys.map V.int)))
section
variable {X : Cx}
theorem cr_sortS (hc : X.calm = true) : CallR X (.builtin "sorted") (rSortS X.w) := by
  intro pins st σ H vs us Q I r h
  obtain ⟨a, S, n, rfl, ha, q⟩ := h
  obtain ⟨o, es, ep, t, ho, hex, hd, g, nd, hm, hb, hf, hn, hr, hl⟩ := setO_get I ha
  rw [Vals.ref1 r]
  refine sorted_of (collect_set (A := X.A.in1) (I.ok.hd hc) ⟨o, ho, hex.1, hd⟩ hf hb hr hl fun s1 vs k1 hz g1 o1 pm => (show _ ∧ _ ∧ _ ∧ _ ∧ _ from ⟨k1, hz, g1, o1, pm⟩)) fun vs s1 ⟨k1, hz, g1, o1, pm⟩ => ?_
  have hint : IntsAre vs (vs.map Builtin.Re.reRawOf) := ints_of vs fun v hv => by
    obtain ⟨e, he, q2⟩ := List.mem_map.mp (pm.mem_iff.mp hv)
    obtain ⟨k, tk, hk1, _⟩ := g e he
    exact ⟨k, tk, q2 ▸ hk1⟩
  have pkey : (vs.map Builtin.Re.reRawOf).Perm (es.toList.map keyOf) := by
    have z := pm.map Builtin.Re.reRawOf
    rwa [List.map_map] at z
  have hvl : vs.length ≤ sizeLine := by
    rw [pm.length_eq, List.length_map, Array.length_toList]
    exact fits_of_scanBound hb
  refine ⟨_, hint, hvl, fun h' out c e1 e2 e3 k2 hg => ?_⟩
  have pn := e2.trans pkey
  have hp : H s1.heap.objs.size = none := I.hok.fresh hz
  have keep : ∀ b u, st.heap.get? b = some u → h'.get? b = some u := fun b u e => k2 b u (k1 b u e)
  have hfit : ((out.map SrtO.iv).map V.int).length ≤ sizeLine := by
    rw [List.length_map, e2.length_eq, List.length_map]
    exact hvl
  exact ⟨.ref s1.heap.objs.size, upd H s1.heap.objs.size (.lst ((out.map SrtO.iv).map V.int)), I.call' (ch := []) (s' := { s1 with heap := h' }) o1 (Un.laid keep hz hp) (I.hok.laid keep hz ⟨hfit, out, c, vals_of_ints e1, hg⟩) (by rw [show ({ s1 with heap := h' } : Shared).gens = st.gens from g1]; exact I.bare) (fun _ z => nomatch z), rfl,
    q _ _ e3 (pn.nodup_iff.mpr nd) (fun k => by rw [pn.mem_iff, ← hm k]) hp⟩
theorem cr_sortD (hc : X.calm = true) : CallR X (.builtin "sorted") rSortD := by
  intro pins st σ H xs us Q I r h
  obtain ⟨a, kvs, ks, rfl, hd, hks, q⟩ := h
  rw [Vals.ref1 r]
  obtain ⟨hz, lo, vs, rel, dd⟩ := dk_rd I.hok hd
  obtain ⟨ep, hat⟩ := dd.dictAt
  have hkk : vs.map (·.1) = ks.map Sum.inl := rel.keys.symm.trans hks
  have hvk : vs.length = ks.length := by
    have e := congrArg List.length hkk
    rwa [List.length_map, List.length_map] at e
  have h16 : vs.length ≤ sizeLine := by rw [← rel.length]; exact hz
  refine sorted_of (PySem.W.kdu_collect (A := X.A.in1) (PySem.W.kdl_dict (knd := mixKind X.prog X.w) (kvs := vs) (ep := ep) lo) (I.ok.hd hc) hat h16 (R := fun l s1 => ∃ h1 t1, s1 = { st with heap := h1, toks := t1 } ∧ (∀ b u, st.heap.get? b = some u → h1.get? b = some u) ∧ IntsAre l ks) fun h1 tk acc k1 hacc => ⟨h1, tk, rfl, k1, ?_⟩) fun l s1 hx => ?_
  · refine ints_each (by rw [Array.length_toList, hacc.1, hvk]) fun j v e => ?_
    obtain ⟨k, y, e1, e2⟩ := hacc.2 j v (by rw [← Array.getElem?_toList]; exact e)
    have e33 : (vs.map (·.1))[j]? = some k := by rw [List.getElem?_map, e1]; rfl
    rw [hkk, List.getElem?_map] at e33
    obtain ⟨x, e4, rfl⟩ := Option.map_eq_some_iff.mp e33
    rcases keyIs_shape (show keyIs (Sum.inl x) v = true from e2) with ⟨i, t, ek, ev⟩ | ⟨z, t, ek, ev⟩
    · cases ek
      exact ⟨x, t, e4, ev⟩
    · cases ek
  · obtain ⟨h1, t1, rfl, k1, hI⟩ := hx
    have hll : l.length ≤ sizeLine := by
      rw [IntsAre.length hI, ← hvk]
      exact h16
    refine ⟨ks, hI, hll, fun h' out c e1 e2 e3 k2 hg => ?_⟩
    have I1 : Inv X pins σ H { st with heap := h1, toks := t1 } := I.kept k1
    have hfit : ((out.map SrtO.iv).map V.int).length ≤ sizeLine := by
      rw [List.length_map, e2.length_eq, ← IntsAre.length hI]
      exact hll
    exact ⟨.ref h1.objs.size, upd H h1.objs.size (.lst ((out.map SrtO.iv).map V.int)), I1.laid (t' := t1) k2 (Nat.le_refl _) ⟨hfit, out, c, vals_of_ints e1, hg⟩, rfl, q _ _ e2 e3 (I1.hok.fresh (Nat.le_refl _))⟩
end
/-! ### set(xs) -/
section
variable {P : Program} {w : World} {A : Around} {E : Value → Shared → Prop} {s : Shared}
/-- set(xs), xs a list of whole numbers -/
theorem set_ofList {l : Addr} {its : Array Value} {ns : List Int} {Q : Value → Shared → Prop} (hh : A.handled = none) (hl : s.heap.IsList l its) (hi : IntsAre its.toList ns) (hb : ns.length + 1 < scanBound)
    (h : ∀ (h' : Heap) (tk c : Nat), SetR w h' s.heap.objs.size (fun j => decide (j ∈ ns)) c → c ≤ ns.length → (∀ b o, s.heap.get? b = some o → h'.get? b = some o) → Q (.ref s.heap.objs.size) { s with heap := h', toks := tk }) :
    wpAny (model P w) A (call (.type "set") [.ref l]) Q E s := by
  have hsz : its.size = ns.length := by rw [← IntsAre.length hi, Array.length_toList]
  obtain ⟨N, hN⟩ : ∃ N, N = s.heap.push (eSet w) := ⟨_, rfl⟩
  have hS : N.get? s.heap.objs.size = some (eSet w) := by rw [hN]; exact Heap.get?_push_size _ rfl
  have kN : ∀ b o, s.heap.get? b = some o → N.get? b = some o := fun b o e => by rw [hN]; exact Heap.get?_push_of_some _ e
  obtain ⟨c, tl, hmro⟩ := F.called_set.mro; have hmade := F.called_set.made; have hsub := F.called_set.sub; have h1 := F.called_set.notType; have h2 := F.called_set.canCreate; have hct := F.typeCall_set_1 (.ref l)
  refine wpAny_call (codeAny_of_tree (show wpAny _ _ (callAny (.type "set") _) _ _ _ from wpAny_pure ⟨Code.quiet_builtin _ (by decide +kernel), codeAny_builtin F.entry_type_call ?_⟩))
  rw [Around.under_plain (weight_type_call_type "set" [.ref l] []) rfl]; repeat (any_goals (first | assumption | wp_step))
  refine codeAny_mono (code_set_led1 (.ref l) (E := E) (Q₁ := fun v s1 => v = .ref s.heap.objs.size ∧ s1 = { s with heap := N }) ⟨rfl, by rw [hN]; rfl⟩) fun r s1 hr => ?_
  match r, hr with
  | .error e, hr => exact hr
  | .ok (.ret v), hr =>
    obtain ⟨rfl, rfl⟩ := hr
    have hT : Shared.TypeIs { s with heap := N } (.ref s.heap.objs.size) "set" := ⟨_, hS, rfl⟩
    have hli := F.called_set.init.lookup; have hbi := F.called_set.init.bind (.ref s.heap.objs.size); repeat (any_goals (first | assumption | wp_step))
    refine codeAny_mono (codeAny_call_builtin (R := wants (fun v s2 => v = .none ∧ ∃ h' tk c, s2 = { s with heap := h', toks := tk } ∧ SetR w h' s.heap.objs.size (fun j => decide (j ∈ ns)) c ∧ c ≤ ns.length ∧ ∀ b o, s.heap.get? b = some o → h'.get? b = some o) E)
      F.called_set.init.plain F.entry_set_init (check_set_init_1 hT ?_)) fun r2 s2 hr2 => ?_
    · obtain ⟨ol, hol, hcl, nn, hdl⟩ := hl
      have hol1 := kN l ol hol
      have hli1 : N.IsList l its := ⟨ol, hol1, hcl, nn, hdl⟩
      have hT1 : Shared.TypeIs { s with heap := N } (.ref l) "list" := ⟨ol, hol1, hcl⟩
      have hs1 := F.sub_list_set; have hs2 := F.sub_list_frozenset
      have hnd : (Value.type "list" == Value.type "dict") = false := by decide
      unfold Builtin.«set.__init__» noKeywords Builtin.Frozenset.updateFrom; generalize hPI : pyIter = PI; wp_walk
      subst hPI
      refine wpAny_pyIter_list hli1 (wpAny_bind (wpAny_runValue ?_))
      have hlt : l < s.heap.objs.size := Heap.lt_size hol
      have hNs : N.objs.size = s.heap.objs.size + 1 := by rw [hN, Heap.size_push]
      have hval : ∀ (i : Nat) (v : Value), its[i]? = some v → ∃ k t, ns[i]? = some k ∧ v = .int k t := fun i v hv => by
        have hi2 : i < ns.length := by rw [← hsz]; exact (Array.getElem?_eq_some_iff.mp hv).1
        obtain ⟨t, e⟩ := PyProof.Rows.IntsAre.int_at hi i v (by rw [Array.getElem?_toList]; exact hv)
        exact ⟨ns[i], t, List.getElem?_eq_getElem hi2, by rw [e, List.getD_eq_getElem?_getD, List.getElem?_eq_getElem hi2]; rfl⟩
      have n1 : l ≠ N.objs.size := by rw [hNs]; exact Nat.ne_of_lt (Nat.lt_succ_of_lt hlt)
      have n2 : s.heap.objs.size ∉ [N.objs.size, l] := by
        simp only [List.mem_cons, List.not_mem_nil, or_false, not_or]
        rw [hNs]
        exact ⟨Nat.ne_of_lt (Nat.lt_succ_self _), Nat.ne_of_gt hlt⟩
      have keep : ∀ b o, s.heap.get? b = some o → b ∉ s.heap.objs.size :: [N.objs.size] := fun b o e => by
        have lt := Heap.lt_size e
        simp only [List.mem_cons, List.not_mem_nil, or_false, not_or]
        rw [hNs]
        exact ⟨Nat.ne_of_lt lt, Nat.ne_of_lt (Nat.lt_succ_of_lt lt)⟩
      refine set_update_ints ((Walks.list (by simp [hh]) N.objs.size l n1 its).toS) s.heap.objs.size n2 ns hsz hb hval (its.size - 0) 0 _ (by omega) (Nat.zero_le _) ⟨⟨_, Heap.get?_push_size _ rfl, rfl, rfl⟩, hli1.push _⟩
        ⟨0, Nat.le_refl 0, setR_new_at (Heap.get?_push_of_some _ hS)⟩ fun s' c' hm hc' hS' => ?_
      obtain ⟨h', g2, d2, tk', os2⟩ := s'
      cases hm.gens; cases hm.drawn; cases hm.os
      refine wpAny_pure (show wpAny _ _ (ret Value.none) _ _ _ from wpAny_pure ⟨rfl, h', tk', c', rfl, hS', by rw [← hsz]; exact hc', fun b o e => hm.heap b o (keep b o e) (Heap.get?_push_of_some _ (kN b o e))⟩)
    · match r2, hr2 with
      | .error e, hr2 => exact hr2
      | .ok (.ret v), hr2 =>
        obtain ⟨rfl, h', tk, c', rfl, e1, e2, e3⟩ := hr2
        repeat (any_goals (first | assumption | wp_step))
        exact h _ _ _ e1 e2 e3
      | .ok .next, hr2 => exact hr2.elim
      | .ok .brk, hr2 => exact hr2.elim
      | .ok .cont, hr2 => exact hr2.elim
  | .ok .next, hr => exact hr.elim
  | .ok .brk, hr => exact hr.elim
  | .ok .cont, hr => exact hr.elim
end
/-- set(xs), xs a list or tuple of whole numbers -/
def rSetLT (K : PySem.W.Frag) (w : World) : List V → Hp → VK → Prop := fun vs H Q => ∃ (l : Addr) (ns : List Int), vs = [V.ref l] ∧ (SqL K H l (ns.map V.int) ∨ SqT K H l (ns.map V.int)) ∧ ns.length < 4000 ∧
  ∀ (p : Addr) (c : Nat), H p = none → Q (.ref p) (upd H p (SetO w p (fun j => decide (j ∈ ns)) c))
/-- sorted(set(e)) -/
def tSst (K : PySem.W.Frag) (ta : TE) : TE := fun σ H Q => ta σ H fun x H1 => ∃ (l : Addr) (ns : List Int), x = V.ref l ∧ (SqL K H1 l (ns.map V.int) ∨ SqT K H1 l (ns.map V.int)) ∧ ns.length < 4000 ∧
  ∀ (ys : List Int) (p1 p2 : Addr) (o : HO), ys.Pairwise (· ≤ ·) → ys.Nodup → (∀ k : Int, k ∈ ys ↔ k ∈ ns) → H1 p1 = none → upd H1 p1 o p2 = none → Q (.ref p2) (upd (upd H1 p1 o) p2 (.lst (ys.map V.int)))
section
variable {X : Cx}
theorem cr_setLT (hc : X.calm = true) : CallR X (.type "set") (rSetLT X.K X.w) := by
  intro pins st σ H vs us Q I r h
  obtain ⟨l, ns, rfl, hs, hl, q⟩ := h
  rw [Vals.ref1 r]
  have hb : ns.length + 1 < scanBound := by show ns.length + 1 < 4096; omega
  have fin : ∀ (h' : Heap) (tk c : Nat), SetR X.w h' st.heap.objs.size (fun j => decide (j ∈ ns)) c → c ≤ ns.length → (∀ b o, st.heap.get? b = some o → h'.get? b = some o) → EP X pins σ Q (.ref st.heap.objs.size) { st with heap := h', toks := tk } := fun h' tk c R _ k =>
    ⟨.ref st.heap.objs.size, upd H st.heap.objs.size (SetO X.w st.heap.objs.size (fun j => decide (j ∈ ns)) c), I.laid (t' := tk) k (Nat.le_refl _) (setO_new R), rfl, q _ _ (I.hok.fresh (Nat.le_refl _))⟩
  rcases hs with hs | hs
  · obtain ⟨its, rv, pl, hz⟩ := I.list hs
    exact set_ofList (I.ok.hd hc) pl.isList (by simpa using rv.ints) hb fin
  · obtain ⟨its, rv, pl, hz⟩ := I.tuple hs
    exact call_set_tupI ns (I.ok.hd hc) pl (by simpa using rv.ints) hb fin
/-- a reading, let grow -/
def upT (t : TE) : TE := fun σ H Q => ∃ Q0 : VK, t σ H Q0 ∧ ∀ v H', Q0 v H' → Q v H'
theorem pe_up {e : Expr} {t : TE} (h : PE X e t) : PE X e (upT t) := ⟨fun pins s σ H Q I ⟨Q0, q, k⟩ => wpAny_mono (h.run pins s σ H Q0 I q) (fun u s1 ⟨v, H1, I1, r1, q1⟩ => ⟨v, H1, I1, r1, k _ _ q1⟩) fun _ _ x => x⟩
theorem pe_sst {e : Expr} {ta : TE} {p1 p2 p3 p4 : Pos} (hc : X.calm = true) (hg1 : Gl X "sorted") (hm1 : X.mg "sorted" = none) (hg2 : Gl X "set") (hm2 : X.mg "set" = none) (h : PE X e ta)
    (hs : starEach [e] X.env = (false, eval e X.env) :: starEach [] X.env) : PE X (.Call (.Name "sorted" p1) [.Call (.Name "set" p2) [e] [] p3] [] p4) (tSst X.K ta) := by
  have a : PE X (.Call (.Name "set" p2) [e] [] p3) (tCB (rSetLT X.K X.w) (tCons (upT ta) tNil)) := pe_callTy (cr_setLT hc) hg2 hm2 (by decide +kernel) (pa_cons (pe_up h) pa_nil hs) (by decide +kernel) (by decide +kernel) hs rfl
  have b := pe_callB (pos := p4) (p := p1) (cr_sortS hc) hg1 hm1 (by decide +kernel : bootBuiltins "sorted" = some (.builtin "sorted")) (pa_cons a pa_nil) (by decide +kernel) (by decide +kernel)
  refine ⟨fun pins s σ H Q I q => b.run pins s σ H Q I ⟨_, q, fun v H1 k => ?_⟩⟩
  obtain ⟨l, ns, rfl, hs, hl, k⟩ := k
  exact ⟨l, ns, rfl, hs, hl, fun p c hp => ⟨p, _, _, rfl, upd_same, fun ys p2 h1 h2 h3 h4 => k ys p p2 _ h1 h2 (fun j => (h3 j).trans decide_eq_true_iff) hp h4⟩⟩
/-- len(set(e)) -/
def tLns (K : PySem.W.Frag) (ta : TE) : TE := fun σ H Q => ta σ H fun x H1 => ∃ (l : Addr) (ns : List Int), x = V.ref l ∧ (SqL K H1 l (ns.map V.int) ∨ SqT K H1 l (ns.map V.int)) ∧ ns.length < 4000 ∧
  ∀ ks : List Int, ks.Nodup → (∀ k, k ∈ ks ↔ k ∈ ns) → Q (.int (ks.length : Nat)) H1
theorem pe_lns {a : Expr} {ta : TE} {p p2 q pos : Pos} (hc : X.calm = true) (hg : Gl X "len") (hm : X.mg "len" = none) (hg2 : Gl X "set") (hm2 : X.mg "set" = none) (ha : PE X a ta)
    (na : starEach [a] X.env = (false, eval a X.env) :: starEach [] X.env) : PE X (.Call (.Name "len" p) [.Call (.Name "set" p2) [a] [] q] [] pos) (tLns X.K ta) := by
  refine ⟨fun pins s σ H Q I h => ?_⟩
  refine Call_ (ld_blt I hg hm PySem.boot_len ?_)
  refine PyProof.Rows.callWith_builtin1 (PyProof.Rows.args_cons ?_ rfl) rfl rfl
  refine Call_ (ld_blt I hg2 hm2 PyProof.Rows.boot_set ?_)
  refine PyProof.Rows.callWith_type1 (PyProof.Rows.args_cons (thn (ha.run pins s σ H _ I h) fun v s1 ⟨x, H1, I1, r1, q1⟩ => PyProof.Rows.args_nil ?_) na) na rfl
  obtain ⟨l, ns, rfl, hs, hl, k⟩ := q1
  cases r1
  have hb : ns.length + 1 < scanBound := by show ns.length + 1 < 4096; omega
  rcases hs with hs | hs
  · obtain ⟨its, rv, pl, hz⟩ := I1.list hs
    refine set_ofList (I1.ok.hd hc) pl.isList (ns := ns) (by simpa using rv.ints) hb fun h' tk c R hc2 hk => ?_
    refine PyProof.Rows.args_nil ?_
    obtain ⟨o, es, ep, t, ho, hex, hd, _, nd, hm, hsz, hf, hn, _⟩ := R
    have I2 : Inv X pins σ H1 { s1 with heap := h', toks := tk } := I1.kept hk
    have e1 : es.size = (es.toList.map keyOf).length := by rw [List.length_map, Array.length_toList]
    refine call_len_set ho hex hd hf (by rw [hn]; omega) ⟨.int es.size, H1, I2.tok _, ⟨_, rfl⟩, ?_⟩
    rw [e1]
    exact k _ nd fun j => (hm j).symm.trans decide_eq_true_iff
  · obtain ⟨its, rv, pl, hz⟩ := I1.tuple hs
    refine call_set_tupI ns (I1.ok.hd hc) pl (by simpa using rv.ints) hb fun h' tk c R hc2 hk => ?_
    refine PyProof.Rows.args_nil ?_
    obtain ⟨o, es, ep, t, ho, hex, hd, _, nd, hm, hsz, hf, hn, _⟩ := R
    have I2 : Inv X pins σ H1 { s1 with heap := h', toks := tk } := I1.kept hk
    have e1 : es.size = (es.toList.map keyOf).length := by rw [List.length_map, Array.length_toList]
    refine call_len_set ho hex hd hf (by rw [hn]; omega) ⟨.int es.size, H1, I2.tok _, ⟨_, rfl⟩, ?_⟩
    rw [e1]
    exact k _ nd fun j => (hm j).symm.trans decide_eq_true_iff
end
end GK

/-! dicts whose keys are tuples of whole numbers and of such tuples -/
namespace GK
open PySem PySem.Spec PyProof.Rows L2
mutual
/-- the value v is the key k -/
inductive NkA (K : PySem.W.Frag) (H : Hp) : NestedKey → V → Prop
  | num (i : Int) : NkA K H (.num i) (.int i)
  | tup {a : Addr} {vs : List V} {ks : List NestedKey} : SqT K H a vs → NkAll K H ks vs → NkA K H (.tup ks) (.ref a)
inductive NkAll (K : PySem.W.Frag) (H : Hp) : List NestedKey → List V → Prop
  | nil : NkAll K H [] []
  | cons {k : NestedKey} {v : V} {ks : List NestedKey} {vs : List V} : NkA K H k v → NkAll K H ks vs → NkAll K H (k :: ks) (v :: vs)
end
section
variable {K : PySem.W.Frag} {H H' : Hp}
mutual
theorem NkA.hash : ∀ (k : NestedKey) (v : V), NkA K H k v → ∀ w w' : World, k.hash w = k.hash w'
  | .none, _, h => by cases h
  | .text _, _, h => by cases h
  | .num i, _, _ => fun w w' => by simp only [NestedKey.hash]
  | .tup ks, _, h => by
    cases h with
    | tup _ h2 =>
      intro w w'
      simp only [NestedKey.hash]
      rw [NkAll.hashes _ _ h2 w w']
theorem NkAll.hashes : ∀ (ks : List NestedKey) (vs : List V), NkAll K H ks vs → ∀ w w' : World, NestedKey.hashes w ks = NestedKey.hashes w' ks
  | [], _, _ => fun w w' => by simp only [NestedKey.hashes]
  | k :: ks, _, h => by
    cases h with
    | cons h1 h2 =>
      intro w w'
      simp only [NestedKey.hashes]
      rw [NkA.hash _ _ h1 w w', NkAll.hashes _ _ h2 w w']
end
mutual
theorem NkA.mono (sq : ∀ a xs, SqT K H a xs → SqT K H' a xs) : ∀ (k : NestedKey) (v : V), NkA K H k v → NkA K H' k v
  | .none, _, h => by cases h
  | .text _, _, h => by cases h
  | .num i, _, h => by
    cases h
    exact .num i
  | .tup ks, _, h => by
    cases h with
    | tup h1 h2 => exact .tup (sq _ _ h1) (NkAll.mono sq _ _ h2)
theorem NkAll.mono (sq : ∀ a xs, SqT K H a xs → SqT K H' a xs) : ∀ (ks : List NestedKey) (vs : List V), NkAll K H ks vs → NkAll K H' ks vs
  | [], _, h => by
    cases h
    exact .nil
  | k :: ks, _, h => by
    cases h with
    | cons h1 h2 => exact .cons (NkA.mono sq _ _ h1) (NkAll.mono sq _ _ h2)
end
end
section
variable {X : Cx} {pins : List (Addr × Obj)} {σ : L2.St} {H : Hp} {s : Shared}
mutual
theorem NkA.is (I : Inv X pins σ H s) : ∀ (k : NestedKey) (v : V) (u : Value), NkA X.K H k v → RelV v u → NestedIs s.heap k u
  | .none, _, _, h, _ => by cases h
  | .text _, _, _, h, _ => by cases h
  | .num i, _, _, h, r => by
    cases h
    obtain ⟨t, rfl⟩ := (show ∃ t, _ = Value.int i t from r)
    exact .int i t
  | .tup ks, _, _, h, r => by
    cases h with
    | tup h1 h2 =>
      cases r
      obtain ⟨its, rv, ⟨o, e1, e2, n, e3⟩, _⟩ := I.tuple h1
      exact .tup e1 e2 e3 (by simpa using NkAll.is I _ _ _ h2 rv)
theorem NkAll.is (I : Inv X pins σ H s) : ∀ (ks : List NestedKey) (vs : List V) (us : List Value), NkAll X.K H ks vs → Vals vs us → NestedAll s.heap ks us
  | [], _, _, h, r => by
    cases h
    cases r
    exact .nil
  | k :: ks, _, _, h, r => by
    cases h with
    | cons h1 h2 =>
      cases r with
      | cons r1 r2 => exact .cons (NkA.is I _ _ _ h1 r1) (NkAll.is I _ _ _ h2 r2)
end
end
/-- entries: a key, where its tuple stands, the value -/
abbrev NL := List (NestedKey × Addr × V)
abbrev NT : NL → List (NestedKey × Addr × Value) → Prop := Paired fun p q => p.1 = q.1 ∧ p.2.1 = q.2.1 ∧ RelV p.2.2 q.2.2
def ndF (a : Addr) (L : NL) (h : Heap) : Prop := ∃ (w0 : World) (xs : List (NestedKey × Addr × Value)), NT L xs ∧ L.length ≤ sizeLine ∧ (a == sysModules) = false ∧
  ∃ o es ep, h.get? a = some o ∧ o.ExactDict ∧ o.data = .dict es ep ∧ es.toList = xs.map (fun x => (⟨x.1.hash w0, .ref x.2.1, x.2.2⟩ : DictEntry)) ∧ (xs.map (·.1)).Nodup
def ndO (a : Addr) (L : NL) : HO := .ext (ndF a L)
def valN (L : NL) (k : NestedKey) : Option V := (L.find? fun p => decide (p.1 = k)).map (·.2.2)
def putNL (L : NL) (k : NestedKey) (b : Addr) (v : V) : NL := if (valN L k).isSome then L.map (fun p => if p.1 = k then (p.1, p.2.1, v) else p) else L ++ [(k, b, v)]
def KN (K : PySem.W.Frag) (H : Hp) (L : NL) : Prop := ∀ p ∈ L, NkA K H p.1 (.ref p.2.1) ∧ p.1.depth ≤ 8
theorem NT.val {L : NL} {xs : List (NestedKey × Addr × Value)} (r : NT L xs) (k : NestedKey) : RelO (valN L k) ((atKey xs k).map (·.2)) := by
  induction r with
  | nil => exact True.intro
  | @cons p q ps qs h t ih =>
    obtain ⟨h1, _, h2⟩ := h
    unfold valN atKey
    by_cases e : p.1 = k
    · have e' : q.1 = k := h1.symm.trans e
      simp only [List.find?_cons, e, e', decide_true, Option.map_some]
      exact h2
    · have e' : ¬ q.1 = k := fun z => e (h1.trans z)
      simp only [List.find?_cons, e, e', decide_false]
      exact ih
theorem NT.repl {L : NL} {xs : List (NestedKey × Addr × Value)} (r : NT L xs) (k : NestedKey) {y : V} {u : Value} (ry : RelV y u) :
    NT (L.map fun p => if p.1 = k then (p.1, p.2.1, y) else p) (xs.map (putAt k u)) := by
  induction r with
  | nil => exact .nil
  | @cons p q ps qs h t ih =>
    rw [List.map_cons, List.map_cons]
    refine .cons ?_ ih
    obtain ⟨h1, h2, h3⟩ := h
    unfold putAt
    by_cases e : p.1 = k
    · rw [if_pos e, if_pos (h1.symm.trans e)]
      exact ⟨h1, h2, ry⟩
    · rw [if_neg e, if_neg (fun z => e (h1.trans z))]
      exact ⟨h1, h2, h3⟩
theorem NT.put {L : NL} {xs : List (NestedKey × Addr × Value)} (r : NT L xs) (k : NestedKey) (b : Addr) {y : V} {u : Value} (ry : RelV y u) : NT (putNL L k b y) (storedH xs k b u) := by
  have e : (valN L k).isSome = (atKey xs k).isSome := by rw [(r.val k).isSome_eq, Option.isSome_map]
  unfold putNL storedH
  rw [e]
  by_cases q : (atKey xs k).isSome = true
  · rw [if_pos q, if_pos q]
    exact r.repl k ry
  · rw [if_neg q, if_neg q]
    exact Paired.snoc r ⟨rfl, rfl, ry⟩
theorem putNL_len (L : NL) (k : NestedKey) (b : Addr) (v : V) : (putNL L k b v).length ≤ L.length + 1 := by
  unfold putNL
  split
  · rw [List.length_map]
    exact Nat.le_succ _
  · rw [List.length_append]
    exact Nat.le_refl _
section
variable {X : Cx} {pins : List (Addr × Obj)} {σ : L2.St} {H : Hp} {s : Shared} {a : Addr} {y v : V} {u r : Value} {o : Option V} {A : Around} {E : Value → Shared → Prop}
theorem nd_of {L : NL} (I : Inv X pins σ H s) (e : H a = some (ndO a L)) (kn : KN X.K H L) : L.length ≤ sizeLine ∧ (a == sysModules) = false ∧ ∃ xs, NT L xs ∧ s.heap.DictOfH (nestedKind X.prog X.w) a xs := by
  obtain ⟨⟨w0, xs, r, hz, lo, o, es, ep, h1, h2, h3, h4, h5⟩, _, _⟩ := (show ObjOk X.prog X.w H s.heap a (ndO a L) from I.hok a _ e)
  have all : ∀ {l : NL} {m : List (NestedKey × Addr × Value)}, NT l m → KN X.K H l → (∀ x ∈ m, NestedIs s.heap x.1 (.ref x.2.1) ∧ x.1.depth ≤ 8) ∧ m.map (fun x => (⟨x.1.hash w0, .ref x.2.1, x.2.2⟩ : DictEntry)) = m.map (entryOfKey (nestedKind X.prog X.w)) := by
    intro l m q
    induction q with
    | nil => exact fun _ => ⟨fun x hx => (nomatch hx), rfl⟩
    | @cons p q ps qs hq t ih =>
      intro kn
      obtain ⟨i1, i2⟩ := ih fun p hp => kn p (List.mem_cons_of_mem _ hp)
      obtain ⟨n1, n2⟩ := kn p List.mem_cons_self
      obtain ⟨q1, q2, _⟩ := hq
      refine ⟨fun x hx => ?_, ?_⟩
      · rcases List.mem_cons.mp hx with e | hx
        · subst e
          rw [← q1, ← q2]
          exact ⟨NkA.is I _ _ _ n1 rfl, n2⟩
        · exact i1 x hx
      · rw [List.map_cons, List.map_cons, i2]
        congr 1
        unfold entryOfKey
        show (⟨q.1.hash w0, _, _⟩ : DictEntry) = ⟨q.1.hash X.w, _, _⟩
        rw [← q1, NkA.hash _ _ n1 w0 X.w]
  obtain ⟨a1, a2⟩ := all r kn
  exact ⟨hz, lo, xs, r, o, es, ep, h1, h2, h3, h4.trans a2, a1, h5⟩
theorem nd_new {H' : Hp} {h' : Heap} {L : NL} {xs : List (NestedKey × Addr × Value)} (z : L.length ≤ sizeLine) (lo : (a == sysModules) = false) (r : NT L xs) (dd : h'.DictOfH (nestedKind X.prog X.w) a xs) : ObjOk X.prog X.w H' h' a (ndO a L) := by
  obtain ⟨o, es, ep, h1, h2, h3, h4, _, h5⟩ := dd
  refine ⟨⟨X.w, xs, r, z, lo, o, es, ep, h1, h2, h3, h4, h5⟩, ⟨o, h1⟩, fun g1 g2 hf k => ?_⟩
  obtain ⟨w0, xs, r, hz, lo, o, es, ep, h1, h2⟩ := hf
  exact ⟨w0, xs, r, hz, lo, o, es, ep, k o h1, h2⟩
/-- what the dict at a holds at the key y -/
def DGetN (K : PySem.W.Frag) (H : Hp) (a : Addr) (y : V) (o : Option V) : Prop := ∃ (L : NL) (k : NestedKey) (b : Addr), H a = some (ndO a L) ∧ KN K H L ∧ y = .ref b ∧ NkA K H k (.ref b) ∧ k.depth ≤ 8 ∧ o = valN L k
/-- the heap behind a[y] = v -/
def DPutN (K : PySem.W.Frag) (H : Hp) (a : Addr) (y v : V) (H' : Hp) : Prop := ∃ (L : NL) (k : NestedKey) (b : Addr), H a = some (ndO a L) ∧ KN K H L ∧ y = .ref b ∧ NkA K H k (.ref b) ∧ k.depth ≤ 8 ∧ L.length < sizeLine ∧ H' = upd H a (ndO a (putNL L k b v))
theorem nested_room (hu : A.units + 500 < cLine) : (nestedKind X.prog X.w).room A.in1 := by
  show A.in1.units + 8 < cLine
  have : A.in1.units = A.units + 1 := rfl
  omega
theorem dn_getItem {Q : Value → Shared → Prop} (hu : A.units + 500 < cLine) (I : Inv X pins σ H s) (g : DGetN X.K H a y (some v)) (ry : RelV y u) (h : ∀ w' s', Inv X pins σ H s' → RelV v w' → Q w' s') :
    wpAny (model X.prog X.w) A (getItem (.ref a) u) Q E s := by
  obtain ⟨L, k, b, e, kn, rfl, nk, nd, l⟩ := g
  cases (show u = Value.ref b from ry)
  obtain ⟨z, lo, xs, rel, dd⟩ := nd_of I e kn
  obtain ⟨w', hw, rw'⟩ := RelO.some_of (v := v) (o := (atKey xs k).map (·.2)) (by rw [l]; exact rel.val k)
  obtain ⟨p, hp, hp2⟩ := Option.map_eq_some_iff.mp hw
  refine wpAny_getItem_heap (nested_room hu) (show (nestedKind X.prog X.w).is s.heap k b from ⟨NkA.is I _ _ _ nk rfl, nd⟩) dd hp ?_
  rw [hp2]
  exact h w' _ (I.tok _) rw'
theorem dn_in {Q : Value → Shared → Prop} (hu : A.units + 500 < cLine) (I : Inv X pins σ H s) (g : DGetN X.K H a y o) (ry : RelV y u) (h : ∀ s', Inv X pins σ H s' → Q (.bool o.isSome) s') :
    wpAny (model X.prog X.w) A (compareOp .In u (.ref a)) Q E s := by
  obtain ⟨L, k, b, e, kn, rfl, nk, nd, l⟩ := g
  cases (show u = Value.ref b from ry)
  obtain ⟨z, lo, xs, rel, dd⟩ := nd_of I e kn
  refine wpAny_in_heap (nested_room hu) (show (nestedKind X.prog X.w).is s.heap k b from ⟨NkA.is I _ _ _ nk rfl, nd⟩) lo dd ?_
  have q := (rel.val k).isSome_eq
  rw [Option.isSome_map] at q
  rw [← q, ← l]
  exact h _ (I.tok _)
theorem dn_notIn {Q : Value → Shared → Prop} (hu : A.units + 500 < cLine) (I : Inv X pins σ H s) (g : DGetN X.K H a y o) (ry : RelV y u) (h : ∀ s', Inv X pins σ H s' → Q (.bool (!o.isSome)) s') :
    wpAny (model X.prog X.w) A (compareOp .NotIn u (.ref a)) Q E s := by
  obtain ⟨L, k, b, e, kn, rfl, nk, nd, l⟩ := g
  cases (show u = Value.ref b from ry)
  obtain ⟨z, lo, xs, rel, dd⟩ := nd_of I e kn
  refine wpAny_notIn_heap (nested_room hu) (show (nestedKind X.prog X.w).is s.heap k b from ⟨NkA.is I _ _ _ nk rfl, nd⟩) lo dd ?_
  have q := (rel.val k).isSome_eq
  rw [Option.isSome_map] at q
  rw [← q, ← l]
  exact h _ (I.tok _)
theorem dn_setItem {H' : Hp} {Q : Unit → Shared → Prop} (hu : A.units + 500 < cLine) (I : Inv X pins σ H s) (g : DPutN X.K H a y v H') (ry : RelV y u) (rv : RelV v r) (h : ∀ s', Inv X pins σ H' s' → Q () s') :
    wpAny (model X.prog X.w) A (setItem (.ref a) u r) Q E s := by
  obtain ⟨L, k, b, e, kn, rfl, nk, nd, l, rfl⟩ := g
  cases (show u = Value.ref b from ry)
  obtain ⟨z, lo, xs, rel, dd⟩ := nd_of I e kn
  have hz : xs.length ≤ sizeLine := by rw [← Paired.length rel]; exact z
  have hl : (putNL L k b v).length ≤ sizeLine := by have := putNL_len L k b v; omega
  refine wpAny_setItem_heap (hsz := hz) (nested_room hu) (show (nestedKind X.prog X.w).is s.heap k b from ⟨NkA.is I _ _ _ nk rfl, nd⟩) dd fun h' dd' hs => h _ ?_
  have he : ∃ q, h'.get? a = some q := let ⟨q, _, _, hq, _⟩ := dd'; ⟨q, hq⟩
  exact d_write I (by rw [e]; exact True.intro) hs he (nd_new hl lo (rel.put k b rv) dd')
theorem dn_typeIs {L : NL} (I : Inv X pins σ H s) (e : H a = some (ndO a L)) : s.TypeIs (.ref a) "dict" := by
  obtain ⟨⟨w0, xs, r, hz, lo, o, es, ep, h1, h2, h3, h4, h5⟩, _, _⟩ := (show ObjOk X.prog X.w H s.heap a (ndO a L) from I.hok a _ e)
  exact ⟨o, h1, h2.1⟩
end
/-- d[y] -/
def tDGetN (K : PySem.W.Frag) (td ty : TE) : TE := fun σ H Q => td σ H fun x H1 => ty σ H1 fun y H2 => ∃ a v, x = .ref a ∧ DGetN K H2 a y (some v) ∧ Q v H2
def rInN (K : PySem.W.Frag) (neg : Bool) : R2 := fun y x H Q => ∃ a o, x = .ref a ∧ DGetN K H a y o ∧ Q (.bl (if neg then !o.isSome else o.isSome)) H
def rSetN (K : PySem.W.Frag) : V → V → V → Hp → (Hp → Prop) → Prop := fun o i v H Q => ∃ a H', o = .ref a ∧ DPutN K H a i v H' ∧ Q H'
def tDNewN : TE := fun _ H Q => ∀ p, H p = none → Q (.ref p) (upd H p (ndO p []))
section
variable {X : Cx} {o i : Expr} {pos : Pos} {td ty : TE}
theorem pe_dgetN (hu : X.A.units + 500 < cLine) (ho : PE X o td) (hi : PE X i ty) (hs : NoSl i) : PE X (.Subscript o i pos) (tDGetN X.K td ty) := by
  refine ⟨fun pins s σ H Q I h => ?_⟩
  refine subD_of PySem.F.slot_dict_getitem.lookup hs (thn (ho.run pins s σ H _ I h) fun u s1 ⟨x, H1, I1, rx, q1⟩ => thn (hi.run pins s1 σ H1 _ I1 q1) fun iv s2 ⟨y, H2, I2, ry, a, v, ex, g, q2⟩ => ?_)
  subst ex
  obtain rfl : u = Value.ref a := rx
  obtain ⟨L, k, b, e, _⟩ := id g
  exact ⟨dn_typeIs I2 e, dn_getItem hu I2 g ry fun w' s3 I3 rw' => ⟨v, H2, I3, rw', q2⟩⟩
theorem op_inN (hu : X.A.units + 500 < cLine) : OpR X (compareOp .In) (rInN X.K false) := by
  intro pins s σ H y x v u Q I ry rx h
  obtain ⟨a, o, rfl, g, q⟩ := h
  obtain rfl : u = Value.ref a := rx
  exact dn_in hu I g ry fun s3 I3 => ⟨.bl o.isSome, H, I3, rfl, q⟩
theorem op_notInN (hu : X.A.units + 500 < cLine) : OpR X (compareOp .NotIn) (rInN X.K true) := by
  intro pins s σ H y x v u Q I ry rx h
  obtain ⟨a, o, rfl, g, q⟩ := h
  obtain rfl : u = Value.ref a := rx
  exact dn_notIn hu I g ry fun s3 I3 => ⟨.bl (!o.isSome), H, I3, rfl, q⟩
theorem set_nested (hu : X.A.units + 500 < cLine) : PSet X (rSetN X.K) := by
  intro pins s σ H o i v ov iv u Q I ro ri rv h
  obtain ⟨a, H', eo, g, q⟩ := h
  subst eo
  cases (show ov = Value.ref a from ro)
  exact dn_setItem hu I g ri rv fun s' I' => ⟨H', I', q⟩
theorem pe_dnewN : PE X (.Dict [] [] pos) tDNewN := ⟨fun pins s σ H Q I h =>
  wpAny_Dict_empty ⟨.ref s.heap.objs.size, _, I.laid (a := s.heap.objs.size) (o := ndO s.heap.objs.size []) (t' := s.toks) (fun _ _ q => Heap.get?_push_of_some _ q) (Nat.le_refl _)
    (nd_new (xs := []) (Nat.zero_le _) (beq_eq_false_iff_ne.mpr (Ne.symm (Nat.ne_of_lt I.big))) .nil (Heap.DictOfH.new s.heap)), rfl, h _ (I.hok.fresh (Nat.le_refl _))⟩⟩
end
/-! ### tuple(d) -/
section
variable {prog : Program} {w : World} {A : Around} {E : Value → Shared → Prop} {s : Shared} {d : Addr} {o : Obj} {es : Array DictEntry} {ep : Nat}
theorem code_tuple_dict {Q₁ : Value → Shared → Prop} (hh : A.handled = none) (lo : (d == sysModules) = false) (ho : s.heap.get? d = some o) (hx : o.ExactDict) (hd : o.data = .dict es ep) (hn : es.size ≤ sizeLine)
    (h : ∀ (h' : Heap) (tk : Nat) (acc : Array Value), (∀ b o, s.heap.get? b = some o → h'.get? b = some o) → ItemsOf (fun i v => ∃ en : DictEntry, es[i]? = some en ∧ v = en.key) acc es.size →
      Q₁ (.ref h'.objs.size) { s with heap := h'.push { cls := .type "tuple", data := .seq acc }, toks := tk }) :
    codeAny (model prog w) A (.call (.builtin "tuple.__new__") ⟨[.type "tuple", .ref d], []⟩) (wants Q₁ E) s := by
  refine codeAny_of_tree ?_
  show wpAny _ A.in1 (do checkBuiltinCall "tuple.__new__" ⟨[.type "tuple", .ref d], []⟩; again (.builtin "tuple.__new__" ⟨[.type "tuple", .ref d], []⟩)) _ _ s
  refine wpAny_bind (wpAny_of_eq (F.newCall_tuple_1 _) (wpAny_pure ⟨plainId_quiet F.plain_tuple_new _, codeAny_builtin F.entry_tuple_new ?_⟩))
  rw [Around.under_plainId F.plain_tuple_new _]
  have hsub := sub_tuple_self
  have hinit := init_tuple_lookup
  have hmh := madeHere_tuple
  have hTI : s.TypeIs (.ref d) "dict" := ⟨_, ho, hx.1⟩
  have hh1 : A.in1.handled = none := hh
  have hcol : ∀ {R : List Value → Shared → Prop} {E : Value → Shared → Prop}, (∀ (h' : Heap) (tk : Nat) (acc : Array Value), (∀ b o, s.heap.get? b = some o → h'.get? b = some o) → ItemsOf (fun i v => ∃ en : DictEntry, es[i]? = some en ∧ v = en.key) acc es.size → R acc.toList { s with heap := h', toks := tk }) →
      wpAny (model prog w) A.in1 (collect (.ref d)) R E s := fun hR => PySem.W.kdu_collect (A := A.in1) (kdl_raw lo hx hd) hh1 ho hn hR
  wp_walk using wpAny_typeOf hTI, hcol
  intro h' tk acc hk hacc
  show wpAny _ _ (Builtin.Tuple.tupleExact acc.toList.toArray >>= fun v => ret v) _ _ _
  unfold Builtin.Tuple.tupleExact
  refine wpAny_bind (wpAny_newObj_type ?_ (by show acc.toList.toArray.size ≤ sizeLine; simp only [Array.toArray_toList]; rw [hacc.1]; exact hn))
  refine wpAny_pure ?_
  have e : acc.toList.toArray = acc := by simp
  rw [e]
  exact h h' tk acc hk hacc
theorem call_tuple_dict {Q : Value → Shared → Prop} (hh : A.handled = none) (lo : (d == sysModules) = false) (ho : s.heap.get? d = some o) (hx : o.ExactDict) (hd : o.data = .dict es ep) (hn : es.size ≤ sizeLine)
    (hQ : ∀ (h' : Heap) (tk : Nat) (acc : Array Value), (∀ b o, s.heap.get? b = some o → h'.get? b = some o) → ItemsOf (fun i v => ∃ en : DictEntry, es[i]? = some en ∧ v = en.key) acc es.size →
      Q (.ref h'.objs.size) { s with heap := h'.push { cls := .type "tuple", data := .seq acc }, toks := tk }) :
    wpAny (model prog w) A (call (.type "tuple") [.ref d]) Q E s := by
  refine callType_codes (Q₁ := fun obj s₁ => s₁.TypeIs obj "tuple" ∧ Q obj s₁) F.called_tuple (F.typeCall_tuple_1 _) F.entry_object_init
    (code_tuple_dict (A := A.in1) hh lo ho hx hd hn fun h' tk acc hk hacc => ⟨⟨_, Heap.get?_push_size _ rfl, rfl⟩, hQ h' tk acc hk hacc⟩) fun obj s₁ h₁ => ?_
  exact ⟨h₁.1, F.args_object_init_2 obj _, object_init_meets F.called_tuple.init.lookup F.called_tuple.made (by decide) prog w A.in1 _ s₁ ⟨h₁.1, rfl, h₁.2⟩⟩
end
/-- tuple(d) -/
def rTupN : List V → Hp → VK → Prop := fun xs H Q => ∃ (d : Addr) (L : NL), xs = [.ref d] ∧ H d = some (ndO d L) ∧ ∀ p, H p = none → Q (.ref p) (upd H p (.tup (L.map fun e => V.ref e.2.1)))
theorem cr_tupleN {X : Cx} (hc : X.calm = true) : CallR X (.type "tuple") rTupN := by
  intro pins s σ H xs us Q I r h
  obtain ⟨d, L, rfl, hd, q⟩ := h
  rw [Vals.ref1 r]
  obtain ⟨⟨w0, xs, rel, hz, lo, o, es, ep, h1, h2, h3, h4, h5⟩, _, _⟩ := (show ObjOk X.prog X.w H s.heap d (ndO d L) from I.hok d _ hd)
  have l1 : es.size = xs.length := by rw [← Array.length_toList, h4, List.length_map]
  have l2 : L.length = xs.length := Paired.length rel
  refine call_tuple_dict (I.ok.hd hc) lo h1 h2 h3 (by omega) fun h' tk acc hk it => ?_
  have ea : acc.toList = xs.map fun x => Value.ref x.2.1 := by
    have hl : acc.toList.length = xs.length := by rw [Array.length_toList, it.1]; exact l1
    apply List.ext_getElem?
    intro j
    rw [List.getElem?_map]
    cases hj : acc.toList[j]? with
    | none =>
      have h1 := List.getElem?_eq_none_iff.mp hj
      rw [List.getElem?_eq_none (by omega)]
      all_goals rfl
    | some v =>
      obtain ⟨en, hen, hv⟩ := it.2 j v (by rw [← Array.getElem?_toList]; exact hj)
      rw [← Array.getElem?_toList, h4, List.getElem?_map] at hen
      obtain ⟨b, hb, e2⟩ := Option.map_eq_some_iff.mp hen
      rw [hb, hv, ← e2]
      all_goals rfl
  have vr : ∀ {l : NL} {m : List (NestedKey × Addr × Value)}, NT l m → Vals (l.map fun e => V.ref e.2.1) (m.map fun x => Value.ref x.2.1) := by
    intro l m q
    induction q with
    | nil => exact .nil
    | cons hq t ih => exact .cons (show RelV (V.ref _) (Value.ref _) from by rw [hq.2.1]; rfl) ih
  have rv := vr rel
  rw [← ea] at rv
  have I2 : Inv X pins σ H { s with heap := h', toks := tk } := I.kept hk
  refine ⟨.ref h'.objs.size, upd H h'.objs.size (.tup (L.map fun e => V.ref e.2.1)), I2.laid (t' := tk) (fun c o e => Heap.get?_push_of_some _ e) (Nat.le_refl _) (show ObjOk X.prog X.w _ _ _ (.tup (L.map fun e => V.ref e.2.1)) from ⟨?_, acc.toList, rv, ?_⟩), rfl, q _ (I2.hok.fresh (Nat.le_refl _))⟩
  · rw [List.length_map]; omega
  · rw [Array.toArray_toList]; exact IsTup.new _ _
end GK

/-! list(reversed(x)), len(d) -/
namespace GK
open PySem PySem.Spec PyProof.Rows L2 RT
section
variable {prog : Program} {w : World} {A : Around} {E : Value → Shared → Prop} {s : Shared}
theorem list_init_rev {it l : Addr} {items : Array Value} {R : Result → Shared → Prop} {S : Addr} (hh : A.handled = none) (hit : s.heap.IsRevIter it l ((items.size : Int) - 1)) (hl : s.heap.IsList l items) (hne : l ≠ it) (hn : items.size ≤ sizeLine) (hSi : S ≠ it) (hSl : S ≠ l)
    (hS : s.heap.get? S = some { cls := .type "list", data := .seq #[] })
    (hR : ∀ h' tk acc' c', (∀ b o, b ≠ S → b ≠ it → s.heap.get? b = some o → h'.get? b = some o) → h'.get? S = some { cls := .type "list", dict := none, data := .seq acc' c', slots := #[] } → ItemsOf (fun i v => items[items.size - 1 - i]? = some v) acc' items.size → R (.ok (.ret .none)) { s with heap := h', toks := tk }) :
    wpAny (model prog w) A.in1 (Builtin.«list.__init__» ⟨[.ref S, .ref it], []⟩)
      (fun fin s' => match fin with | .done f => R (.ok f) s' | .again c' => c'.quiet = true ∧ codeAny (model prog w) A c' R s') (fun e s' => R (.error e) s') s := by
  have W := (Walks.listRev (prog := prog) (w := w) (A := A.in1) hh it l hne items).toS
  have hSf : S ∉ [it, l] := by simp only [List.mem_cons, List.not_mem_nil, or_false, not_or]; exact ⟨hSi, hSl⟩
  show wpAny _ _ (do let old ← Builtin.List.listItems (.ref S); Builtin.List.listUpdate (.ref S) (fun _ => #[]); letGo old.toList.reverse; Builtin.List.listExtendWith (.ref S) (.ref it) .none) _ _ s
  refine wpAny_bind ?_
  unfold Builtin.List.listItems
  refine wpAny_bind (wpAny_seqItems hS rfl (wpAny_pure ?_))
  show wpAny _ _ (updateSeq S (fun _ => #[]) >>= fun _ => letGo (#[] : Array Value).toList.reverse >>= fun _ => Builtin.List.listExtendWith (.ref S) (.ref it) .none) _ _ s
  refine wpAny_bind (wpAny_updateSeq hS rfl ?_)
  have hS₂ := Heap.get?_update_self (Obj.mapSeq (fun _ => (#[] : Array Value))) hS rfl
  have oth : ∀ b o, b ≠ S → s.heap.get? b = some o → (s.heap.update S (Obj.mapSeq (fun _ => (#[] : Array Value)))).get? b = some o :=
    fun b o hb e => (Heap.get?_update_other _ _ (Ne.symm hb)).trans e
  refine wpAny_bind (wpAny_letGo ?_)
  obtain ⟨N, hN⟩ : ∃ N, s.heap.update S (Obj.mapSeq (fun _ => (#[] : Array Value))) = N := ⟨_, rfl⟩
  rw [hN] at hS₂ oth ⊢
  have hit1 : N.IsRevIter it l ((items.size : Int) - 1) := hit.at fun o e => oth it o (Ne.symm hSi) e
  have hl1 : N.IsList l items := by
    obtain ⟨ol, hol, r⟩ := hl
    exact ⟨ol, oth l ol (Ne.symm hSl) hol, r⟩
  have hT : ({ s with heap := N } : Shared).TypeIs (.ref it) "list_reverseiterator" := Heap.IsRevIter.typeIs (s := { s with heap := N }) hit1
  have h1 : Builtin.List.listSameRef (.ref S) (.ref it) = false := by simp [Builtin.List.listSameRef, hSi]
  unfold Builtin.List.listExtendWith
  refine wpAny_bind (wpAny_typeOf hT ?_)
  rw [if_neg (by rw [h1]; decide)]
  refine wpAny_bind (wpAny_pyIter_revIter (s := { s with heap := N }) hit1 ?_)
  refine wpAny_bind (wpAny_holding ?_)
  unfold Builtin.List.listLengthHint
  refine wpAny_bind (wpAny_specialOf hT nolen_lri ?_)
  show wpAny _ A.in1 (specialOf (Value.ref it) (Str.ofString "__length_hint__") >>= _) _ _ _
  refine wpAny_bind (wpAny_specialOf hT hint_lri ?_)
  generalize hid : ("list_reverseiterator.__length_hint__" : String) = id0
  wp_delta
  rw [show splitId id0 = some ("list_reverseiterator", "__length_hint__") from by subst hid; decide +kernel]
  subst hid
  refine wpAny_bind (wpAny_isInstance (b := true) hT (by rw [isSubtype_type]; kernel_rfl) ?_)
  refine wpAny_pure ?_
  rw [if_neg (by decide)]
  have e0 : ((items.size : Nat) : Int) - 1 - ((0 : Nat) : Int) = (items.size : Int) - 1 := by omega
  refine wpAny_pure ⟨plainId_quiet F.plain_extend_loop _, codeAny_extend_loopS W hn _ hSf _ items.size 0 _ _ _ rfl (Nat.zero_le _) ⟨Nat.zero_le _, by rw [e0]; exact hit1, hl1⟩ hS₂ (ItemsOf.nil _) fun s' acc' c' hm hS' hacc => ?_⟩
  rw [Moved.eq_with hm]
  refine hR s'.heap s'.toks acc' c' (fun b o hb hb2 e => hm.heap b o (fun hmem => ?_) (oth b o hb e)) hS' hacc
  rcases List.mem_cons.mp hmem with e' | hmem
  · exact hb e'
  · exact hb2 (List.mem_singleton.mp hmem)
theorem call_list_rev {it l : Addr} {items : Array Value} {Q : Value → Shared → Prop} (hh : A.handled = none) (hit : s.heap.IsRevIter it l ((items.size : Int) - 1)) (hl : s.heap.IsList l items) (hne : l ≠ it) (hn : items.size ≤ sizeLine)
    (hQ : ∀ h' tk acc' c', (∀ b o, b ≠ it → s.heap.get? b = some o → h'.get? b = some o) → h'.get? s.heap.objs.size = some { cls := .type "list", dict := none, data := .seq acc' c', slots := #[] } → ItemsOf (fun i v => items[items.size - 1 - i]? = some v) acc' items.size → Q (.ref s.heap.objs.size) { s with heap := h', toks := tk }) :
    wpAny (model prog w) A (call (.type "list") [.ref it]) Q E s := by
  refine callType_codes (Q₁ := fun obj s₁ => obj = .ref s.heap.objs.size ∧ s₁ = { s with heap := s.heap.push { cls := .type "list", data := .seq #[] } }) PySem.F.called_list (PySem.F.typeCall_list_1 _) PySem.F.entry_list_init
    (code_list_new _ ⟨rfl, rfl⟩) fun obj s₁ h₁ => ?_
  obtain ⟨rfl, rfl⟩ := h₁
  have hS : (s.heap.push { cls := .type "list", data := .seq #[] }).get? s.heap.objs.size = some { cls := .type "list", data := .seq #[] } := Heap.get?_push_size _ rfl
  obtain ⟨oi, hoi, _⟩ := id hit
  obtain ⟨ol, hol, _⟩ := id hl
  have hSi : s.heap.objs.size ≠ it := Nat.ne_of_gt (Heap.lt_size hoi)
  have hSl : s.heap.objs.size ≠ l := Nat.ne_of_gt (Heap.lt_size hol)
  refine ⟨⟨_, hS, rfl⟩, PySem.F.args_list_init_2 _ _, list_init_rev (A := A.in1) hh (hit.at fun o e => Heap.get?_push_of_some _ e) (hl.push _) hne hn hSi hSl hS (fun h' tk acc' c' hk hS' hacc => ?_)⟩
  exact ⟨rfl, hQ h' tk acc' c' (fun b o hb e => hk b o (Nat.ne_of_lt (Heap.lt_size e)) hb (Heap.get?_push_of_some _ e)) hS' hacc⟩
end
/-- list(reversed(x)), x a list: a new list -/
def tLstRev (K : PySem.W.Frag) (te : TE) : TE := fun σ H Q => te σ H fun v H1 => ∃ (a : Addr) (xs : List V), v = .ref a ∧ SqL K H1 a xs ∧ ∀ q, H1 q = none → Q (.ref q) (upd H1 q (.lst xs.reverse))
section
variable {X : Cx}
theorem pe_lstRev {e : Expr} {te : TE} {p p2 pos pos2 : Pos} (hc : X.calm = true) (hg : Gl X "list") (hm : X.mg "list" = none) (hg2 : Gl X "reversed") (hm2 : X.mg "reversed" = none) (he : PE X e te)
    (hs : starEach [e] X.env = (false, eval e X.env) :: starEach [] X.env := by rfl)
    (hs2 : starEach [.Call (.Name "reversed" p2) [e] [] pos2] X.env = (false, eval (.Call (.Name "reversed" p2) [e] [] pos2) X.env) :: starEach [] X.env := by rfl) :
    PE X (.Call (.Name "list" p) [.Call (.Name "reversed" p2) [e] [] pos2] [] pos) (tLstRev X.K te) := by
  refine ⟨fun pins s σ H Q I h => ?_⟩
  refine Call_ (ld_blt I hg hm PyProof.Rows.boot_list (PyProof.Rows.callWith_type1 (args_cons (Call_ (ld_blt I hg2 hm2 PyProof.Rows.boot_reversed (PyProof.Rows.callWith_type1 (args_cons (thn (he.run pins s σ H _ I h) fun u s1 ⟨v, H1, I1, r1, q1⟩ => args_nil ?_) hs) hs rfl))) hs2) hs2 rfl))
  obtain ⟨a, xs, ev, hq, q⟩ := q1
  subst ev
  obtain rfl : u = Value.ref a := r1
  obtain ⟨its, rv, p', hz⟩ := I1.list hq
  refine call_reversed_list p'.isList (args_nil ?_)
  have hl := p'.isList
  obtain ⟨ol, hol, _⟩ := id hl
  have hne : a ≠ s1.heap.objs.size := Nat.ne_of_lt (Heap.lt_size hol)
  have hn : its.toArray.size ≤ sizeLine := by rw [List.size_toArray, ← rv.length]; exact hz
  refine call_list_rev (s := { s1 with heap := s1.heap.push (revObj a ((its.toArray.size : Int) - 1)) }) (I1.ok.hd hc) ⟨_, Heap.get?_push_size _ rfl, rfl, rfl⟩ (hl.push _) hne hn fun h' tk acc c hk hS hi => ?_
  have keep : ∀ b o, s1.heap.get? b = some o → h'.get? b = some o := fun b o e => hk b o (Nat.ne_of_lt (Heap.lt_size e)) (Heap.get?_push_of_some _ e)
  have hle : s1.heap.objs.size ≤ (s1.heap.push (revObj a ((its.toArray.size : Int) - 1))).objs.size := by rw [Heap.size_push]; exact Nat.le_succ _
  refine ⟨.ref _, upd H1 _ (.lst xs.reverse), I1.laid (t' := tk) keep hle (show ObjOk X.prog X.w _ _ _ (.lst xs.reverse) from ⟨by rw [List.length_reverse]; exact hz, acc.toList, c, vals_rev rv hi, by rw [Array.toArray_toList]; exact hS⟩), rfl, q _ (I1.hok.fresh hle)⟩
end
/-- len(d), d a dict with whole numbers or texts as keys -/
def rLenD : List V → Hp → VK → Prop := fun xs H Q => ∃ (p : Addr) (kvs : List (Key × V)), xs = [.ref p] ∧ Rd H p (.dK kvs) ∧ Q (.int ((kvs.length : Nat) : Int)) H
theorem cr_lenD {X : Cx} : CallR X (.builtin "len") rLenD := by
  intro pins s σ H xs us Q I r h
  obtain ⟨p, kvs, rfl, hd, q⟩ := h
  rw [Vals.ref1 r]
  exact d_len I hd fun t s' I' => ⟨.int _, H, I', ⟨t, rfl⟩, q⟩
end GK

/-! list(x), x a text: its signs -/
namespace GK
open PySem PySem.Spec PyProof.Rows L2
section
variable {prog : Program} {w : World} {A : Around} {E : Value → Shared → Prop} {s : Shared}
theorem ls_extend {R : Result → Shared → Prop} (hh : A.handled = none) (x : Str) (t : Tok) (S : Addr) (res : Value) (c₀ : Nat) (hS : s.heap.get? S = some { cls := .type "list", data := .seq #[] c₀ })
    (hR : ∀ s' acc' c', (∀ b o, b ≠ S → s.heap.get? b = some o → s'.heap.get? b = some o) → s'.gens = s.gens → s'.drawn = s.drawn → s'.os = s.os → s'.heap.get? S = some { cls := .type "list", dict := none, data := .seq acc' c', slots := #[] } → ItemsOf (SignAt x) acc' x.cps.size → R (.ok (.ret res)) s') (hn : x.cps.size ≤ sizeLine) :
    wpAny (model prog w) A.in1 (Builtin.List.listExtendWith (.ref S) (.str x t) res)
      (fun fin s' => match fin with | .done f => R (.ok f) s' | .again c' => c'.quiet = true ∧ codeAny (model prog w) A c' R s') (fun e s' => R (.error e) s') s := by
  have h1 : Builtin.List.listSameRef (.ref S) (.str x t) = false := rfl
  have h2 : (Value.type "str" == Value.type "list") = false := by decide
  have h3 : (Value.type "str" == Value.type "tuple") = false := by decide
  unfold Builtin.List.listExtendWith
  refine wpAny_bind (wpAny_typeOf (T := "str") (v := .str x t) rfl ?_)
  simp only [h1, h2, h3, Bool.or_false, Bool.false_eq_true, if_false]
  refine wpAny_bind (wpAny_pyIter_str fun o St W hst => ?_)
  refine wpAny_bind (wpAny_holding ?_)
  unfold Builtin.List.listLengthHint
  refine wpAny_bind (wpAny_specialOf (T := "str") (v := .str x t) rfl F.str_len ?_)
  wp_delta
  refine wpAny_bind (wpAny_isInstance (T := "str") (v := .str x t) (b := true) rfl (by rw [isSubtype_type]; kernel_rfl) ?_)
  show wpAny _ A.in1 (typeOf (Value.str x t) >>= _) _ _ _
  refine wpAny_bind (wpAny_typeOf (T := "str") (v := .str x t) rfl ?_)
  refine wpAny_pure ?_
  rw [if_neg (by decide)]
  have hSI : S ≠ s.heap.objs.size := Nat.ne_of_lt (Heap.lt_size hS)
  have hSf : S ∉ [s.heap.objs.size] := fun hm => hSI (List.mem_singleton.mp hm)
  refine wpAny_pure ⟨plainId_quiet F.plain_extend_loop _, codeAny_extend_loopS (W A.in1 hh).toS hn S hSf res x.cps.size 0 _ #[] c₀ rfl (Nat.zero_le _) hst (Heap.get?_push_of_some o hS) (ItemsOf.nil _) fun s' acc' c' hm hS' hacc => ?_⟩
  refine hR s' acc' c' (fun b ob hb e => hm.heap b ob (fun hmem => ?_) (Heap.get?_push_of_some _ e)) hm.gens hm.drawn hm.os hS' hacc
  rcases List.mem_cons.mp hmem with e' | hmem
  · exact hb e'
  · exact absurd (Heap.lt_size e) (by rw [List.mem_singleton.mp hmem]; exact Nat.lt_irrefl _)
theorem ls_init {R : Result → Shared → Prop} (hh : A.handled = none) (x : Str) (t : Tok) (S : Addr) (hS : s.heap.get? S = some { cls := .type "list", data := .seq #[] })
    (hR : ∀ s' acc' c', (∀ b o, b ≠ S → s.heap.get? b = some o → s'.heap.get? b = some o) → s'.gens = s.gens → s'.drawn = s.drawn → s'.os = s.os → s'.heap.get? S = some { cls := .type "list", dict := none, data := .seq acc' c', slots := #[] } → ItemsOf (SignAt x) acc' x.cps.size → R (.ok (.ret .none)) s') (hn : x.cps.size ≤ sizeLine) :
    wpAny (model prog w) A.in1 (Builtin.«list.__init__» ⟨[.ref S, .str x t], []⟩)
      (fun fin s' => match fin with | .done f => R (.ok f) s' | .again c' => c'.quiet = true ∧ codeAny (model prog w) A c' R s') (fun e s' => R (.error e) s') s := by
  show wpAny _ _ (do let old ← Builtin.List.listItems (.ref S); Builtin.List.listUpdate (.ref S) (fun _ => #[]); letGo old.toList.reverse; Builtin.List.listExtendWith (.ref S) (.str x t) .none) _ _ s
  refine wpAny_bind ?_
  unfold Builtin.List.listItems
  refine wpAny_bind (wpAny_seqItems hS rfl (wpAny_pure ?_))
  show wpAny _ _ (updateSeq S (fun _ => #[]) >>= fun _ => letGo (#[] : Array Value).toList.reverse >>= fun _ => Builtin.List.listExtendWith (.ref S) (.str x t) .none) _ _ s
  refine wpAny_bind (wpAny_updateSeq hS rfl ?_)
  have hS₂ := Heap.get?_update_self (Obj.mapSeq (fun _ => (#[] : Array Value))) hS rfl
  have oth : ∀ b o, b ≠ S → s.heap.get? b = some o → (s.heap.update S (Obj.mapSeq (fun _ => (#[] : Array Value)))).get? b = some o :=
    fun b o hb e => (Heap.get?_update_other _ _ (Ne.symm hb)).trans e
  refine wpAny_bind (wpAny_letGo ?_)
  exact ls_extend hh x t S .none _ hS₂ (fun s' acc' c' hk g d o hS' hacc => hR s' acc' c' (fun b o hb e => hk b o hb (oth b o hb e)) g d o hS' hacc) hn
theorem ls_call {Q : Value → Shared → Prop} (hh : A.handled = none) (x : Str) (t : Tok) (hn : x.cps.size ≤ sizeLine)
    (hQ : ∀ s' acc' c', (∀ b o, s.heap.get? b = some o → s'.heap.get? b = some o) → s'.gens = s.gens → s'.drawn = s.drawn → s'.os = s.os → s'.heap.get? s.heap.objs.size = some { cls := .type "list", dict := none, data := .seq acc' c', slots := #[] } → ItemsOf (SignAt x) acc' x.cps.size → Q (.ref s.heap.objs.size) s') :
    wpAny (model prog w) A (call (.type "list") [.str x t]) Q E s := by
  refine callType_codes (Q₁ := fun obj s₁ => obj = .ref s.heap.objs.size ∧ s₁ = { s with heap := s.heap.push { cls := .type "list", data := .seq #[] } }) PySem.F.called_list (PySem.F.typeCall_list_1 _) PySem.F.entry_list_init
    (code_list_new _ ⟨rfl, rfl⟩) fun obj s₁ h₁ => ?_
  obtain ⟨rfl, rfl⟩ := h₁
  have hS : (s.heap.push { cls := .type "list", data := .seq #[] }).get? s.heap.objs.size = some { cls := .type "list", data := .seq #[] } := Heap.get?_push_size _ rfl
  refine ⟨⟨_, hS, rfl⟩, PySem.F.args_list_init_2 _ _, ls_init (A := A.in1) hh x t _ hS (fun s' acc' c' hk g d o hS' hacc => ?_) hn⟩
  exact ⟨rfl, hQ s' acc' c' (fun b o e => hk b o (Nat.ne_of_lt (Heap.lt_size e)) (Heap.get?_push_of_some _ e)) g d o hS' hacc⟩
end
def sgV (z : Str) : List V := z.cps.toList.map fun c => .str ⟨#[c]⟩
def rListS : List V → Hp → VK → Prop := fun xs H Q => ∃ z, xs = [.str z] ∧ z.length ≤ sizeLine ∧ ∀ l, H l = none → Q (.ref l) (upd H l (.lst (sgV z)))
theorem cr_listS {X : Cx} (hc : X.calm = true) : CallR X (.type "list") rListS := by
  intro pins s σ H xs us Q I r h
  obtain ⟨z, rfl, hz, q⟩ := h
  obtain ⟨u, rfl, t, rfl⟩ := vals1 r
  refine ls_call (A := X.A) (I.ok.hd hc) z t hz fun s' acc' c' k g d o hS hacc => ?_
  have es : s' = { s with heap := s'.heap, toks := s'.toks } := by
    obtain ⟨h1, g1, d1, t1, o1⟩ := s'
    obtain ⟨h2, g2, d2, t2, o2⟩ := s
    dsimp only at g d o
    subst g d o
    rfl
  rw [es]
  have hv : Vals (sgV z) acc'.toList := by
    refine vals_of_at (by unfold sgV; rw [List.length_map, Array.length_toList, Array.length_toList, hacc.1]) fun j y u h1 h2 => ?_
    obtain ⟨c, tk, h3, rfl⟩ := hacc.2 j u (by rw [← Array.getElem?_toList]; exact h2)
    unfold sgV at h1
    rw [List.getElem?_map, Array.getElem?_toList, h3] at h1
    cases h1
    exact ⟨tk, rfl⟩
  exact ⟨.ref s.heap.objs.size, upd H s.heap.objs.size (.lst (sgV z)), I.laid (t' := s'.toks) k (Nat.le_refl _) (show ObjOk X.prog X.w _ _ _ (.lst (sgV z)) from ⟨by unfold sgV; rw [List.length_map, Array.length_toList]; exact hz, acc'.toList, c', hv, hS⟩), rfl, q _ (I.hok.fresh (Nat.le_refl _))⟩
end GK

/-! exceptions as values: an exception that a clause took is a tracked object; isinstance of it; try with several clauses, of a class or a tuple of classes, with a name or without -/
namespace GK
open PySem PySem.Spec PyProof.Rows L2 RT
/-! ### an exception as an object of ours -/
def xcF (a C : Addr) (h : Heap) : Prop := ∃ (oe : Obj) (vs : Array Value), h.get? a = some oe ∧ oe.cls = .ref C ∧ oe.dict = none ∧ oe.data = .fields vs
def xcO (a C : Addr) : HO := .ext (xcF a C)
section
variable {P : Program} {w : World} {H : Hp} {h : Heap} {a C : Addr}
theorem xcO_ok {oe : Obj} {vs : Array Value} (e : h.get? a = some oe) (h1 : oe.cls = .ref C) (h2 : oe.dict = none) (h3 : oe.data = .fields vs) : ObjOk P w H h a (xcO a C) :=
  ⟨⟨oe, vs, e, h1, h2, h3⟩, ⟨oe, e⟩, fun _ _ ⟨oe, vs, e, h1, h2, h3⟩ k => ⟨oe, vs, k _ e, h1, h2, h3⟩⟩
theorem xcO_at (x : HOk P w H h) (e : H a = some (xcO a C)) : xcF a C h := (x a _ e).1
end
/-- isinstance(e, c), e such a thing -/
def rIsX (K : PySem.W.Frag) : List V → Hp → VK → Prop := fun xs H Q => ∃ (a D : Addr) (c : V) (cv : Value) (b : Bool), xs = [.ref a, c] ∧ H a = some (xcO a D) ∧ ExcC K D ∧ (∀ u, RelV c u → u = cv) ∧ PySem.W.kitOne K (.ref D) cv = some b ∧ Q (.bl b) H
theorem cr_isX {X : Cx} : CallR X (.builtin "isinstance") (rIsX X.K) := by
  intro pins s σ H xs us Q I r h
  obtain ⟨a, D, c, cv, b, rfl, ha, C, hcv, e, q⟩ := h
  cases r with
  | cons rx rr =>
    cases rr with
    | cons rt rr =>
      cases rr
      cases rx
      have ec := hcv _ rt
      subst ec
      obtain ⟨oe, vs, hget, h1, h2, hv⟩ := xcO_at I.hok ha
      have J : PySem.W.InstAt s.heap a oe D none := by
        obtain ⟨oc, od, oda, osl⟩ := oe
        dsimp only at h1 h2 hv
        subst h1 h2 hv
        exact ⟨hget, rfl, rfl, trivial⟩
      exact PySem.W.kia_one (PySem.W.handS_kitx_exc C.hg C.hk C.hs C.hd C.ha C.hn C.ht C.hm) I.kIn J e (fun z => nomatch z) fun tk => ⟨.bl b, H, I.kept (t' := tk) fun _ _ z => z, rfl, q⟩
/-- isinstance(e, (c1, c2, ..)), e such a thing, the tuple just laid -/
def rIsXT (K : PySem.W.Frag) : List V → Hp → VK → Prop := fun xs H Q => ∃ (a D tp : Addr) (cs : List V) (us : List Value) (b : Bool), xs = [.ref a, .ref tp] ∧ H a = some (xcO a D) ∧ ExcC K D ∧ H tp = some (.tup cs) ∧ Paired ClsV cs us ∧ PySem.W.kitAny K (.ref D) us = some b ∧ Q (.bl b) H
theorem cr_isXT {X : Cx} : CallR X (.builtin "isinstance") (rIsXT X.K) := by
  intro pins s σ H xs us Q I r h
  obtain ⟨a, D, tp, cs, ws, b, rfl, ha, C, hT, k, e, q⟩ := h
  obtain ⟨u1, u2, rfl, r1, r2⟩ := vals2 r
  cases (show u1 = Value.ref a from r1)
  cases (show u2 = Value.ref tp from r2)
  obtain ⟨oe, vs, hget, g1, g2, hv⟩ := xcO_at I.hok ha
  have J : PySem.W.InstAt s.heap a oe D none := by
    obtain ⟨oc, od, oda, osl⟩ := oe
    dsimp only at g1 g2 hv
    subst g1 g2 hv
    exact ⟨hget, rfl, rfl, trivial⟩
  obtain ⟨_, its, rv, o, h1, h2, n, h3⟩ := (show ObjOk X.prog X.w H s.heap tp (.tup cs) from I.hok tp _ hT)
  have e3 := ClsV.all k rv
  subst e3
  obtain ⟨oc, od, dt, sl⟩ := o
  simp only at h2 h3
  subst h2 h3
  exact PySem.W.kia_tup (PySem.W.handS_kitx_exc C.hg C.hk C.hs C.hd C.ha C.hn C.ht C.hm) I.kIn J h1 e (fun z => nomatch z) fun tk => ⟨.bl b, H, I.kept (t' := tk) fun _ _ z => z, rfl, q⟩
theorem kitAny_all {K : PySem.W.Frag} {t : Value} {g : Str → Value} {f : Str → Bool} : ∀ (cs : List Str), (∀ c ∈ cs, PySem.W.kitOne K t (g c) = some (f c)) → PySem.W.kitAny K t (cs.map g) = some (cs.any f)
  | [], _ => rfl
  | c :: cs, h => by
    have h1 := h c List.mem_cons_self
    have h2 := kitAny_all cs fun d hd => h d (List.mem_cons_of_mem _ hd)
    rw [List.map_cons, List.any_cons]
    exact kitAny_cons h1 (fun z => by rw [h2, z]; rfl) (fun z => by rw [z]; rfl)
/-! ### a clause's test -/
section
variable {M : Model} {A : Around} {E : Value → Shared → Prop} {K : PySem.W.Frag}
theorem loop_all {s : Shared} {f : Value → PUnit → Sem (ForInStep PUnit)} {Q : PUnit → Shared → Prop} : ∀ (cs : List Value), (∀ c ∈ cs, ∀ P : ForInStep PUnit → Shared → Prop, P (.yield ⟨⟩) s → wpAny M A (f c ⟨⟩) P E s) → Q ⟨⟩ s → wpAny M A (forIn cs (⟨⟩ : PUnit) f) Q E s
  | [], _, q => by
    rw [List.forIn_nil]
    exact wpAny_pure q
  | c :: r, hf, q => by
    rw [List.forIn_cons]
    exact wpAny_bind (hf c List.mem_cons_self _ (loop_all r (fun c' hc' => hf c' (List.mem_cons_of_mem _ hc')) q))
theorem loop_any {β : Type} {s : Shared} {f : Value → β → Sem (ForInStep β)} {Q : β → Shared → Prop} {r0 r1 : β} (d : Value → Bool) : ∀ (cs : List Value), (∀ c ∈ cs, ∀ P : ForInStep β → Shared → Prop, P (if d c then .done r1 else .yield r0) s → wpAny M A (f c r0) P E s) →
    Q (if cs.any d then r1 else r0) s → wpAny M A (forIn cs r0 f) Q E s
  | [], _, q => by
    rw [List.forIn_nil]
    exact wpAny_pure q
  | c :: r, hf, q => by
    rw [List.forIn_cons]
    refine wpAny_bind (hf c List.mem_cons_self _ ?_)
    rw [List.any_cons] at q
    cases hd : d c with
    | true =>
      rw [hd] at q
      exact wpAny_pure q
    | false =>
      rw [hd, Bool.false_or] at q
      exact loop_any d r (fun c' hc' => hf c' (List.mem_cons_of_mem _ hc')) q
theorem exmAny_each {cls : Value} : ∀ {cs : List Value} {b : Bool}, PySem.W.exmAny K cls cs = some b → (∀ c ∈ cs, PySem.W.exmOne K cls c = some ((PySem.W.exmOne K cls c).getD false)) ∧ b = cs.any fun c => (PySem.W.exmOne K cls c).getD false
  | [], b, h => by
    cases h
    exact ⟨fun c hc => by simp at hc, rfl⟩
  | c :: r, b, h => by
    obtain ⟨b1, d1, h1, h2, rfl⟩ := PySem.W.exmAny_cons h
    obtain ⟨i1, i2⟩ := exmAny_each h2
    refine ⟨fun c' hc' => ?_, by rw [List.any_cons, h1, i2]; rfl⟩
    rcases List.mem_cons.mp hc' with rfl | q
    · rw [h1]; rfl
    · exact i1 c' q
theorem exm_tupN {cs : List Value} {cls : Value} {tp e : Addr} {b : Bool} {h : Heap} (X : K.In h) (LT : PySem.W.Looks M h (typeOf (.ref e)) cls) (hp : h.get? tp = some { cls := .type "tuple", data := .seq cs.toArray }) (hx : PySem.W.exmAny K cls cs = some b) :
    PySem.W.Looks M h (excMatches (.ref e) (.ref tp)) b := by
  intro A Q E s k₀ q
  obtain ⟨hh, g, d, tk, os⟩ := s
  have k : ∀ b o, h.get? b = some o → hh.get? b = some o := k₀
  have LT0 : PySem.W.Looks M h (isInstance (.ref tp) (.type "tuple")) true := ((PySem.W.Looks.ld hp).andThen .now).andThen (PySem.W.Looks.of_pure isSubtype_tuple_tuple)
  obtain ⟨each, hb⟩ := exmAny_each hx
  have LT := LT.keeps k
  have LT0 := LT0.keeps k
  have hp' := k _ _ hp
  unfold excMatches
  refine wpAny_bind (LT0.at ?_)
  dsimp only
  rw [if_pos rfl]
  first
    | refine wpAny_bind (wpAny_seqItems hp' rfl ?_)
    | refine wpAny_bind (wpAny_bind (wpAny_seqItems hp' rfl (wpAny_pure ?_)))
  dsimp only [Option.getD_some, Option.getD]
  refine wpAny_bind (wpAny_pure ?_)
  refine wpAny_bind (loop_all cs (fun c hc P q => ?_) ?_)
  · obtain ⟨e1, _⟩ := PySem.W.exm_cls (M := M) X (each c hc)
    have e1 := e1.keeps k
    refine wpAny_bind (e1.at ?_)
    simp only [Bool.not_true, Bool.false_eq_true, if_false]
    exact wpAny_pure q
  · refine wpAny_bind (LT.at ?_)
    refine wpAny_bind (loop_any (r0 := ((none, ()) : Option Bool × Unit)) (r1 := (some true, ())) (fun c => (PySem.W.exmOne K cls c).getD false) cs (fun c hc P q => ?_) ?_)
    · obtain ⟨_, S1⟩ := PySem.W.exm_cls (M := M) X (each c hc)
      have S1 := S1.keeps k
      refine wpAny_bind (S1.at ?_)
      cases hd : (PySem.W.exmOne K cls c).getD false with
      | true =>
        rw [hd] at q
        exact wpAny_pure q
      | false =>
        rw [hd] at q
        exact wpAny_pure q
    · rw [← hb]
      cases b <;> exact wpAny_pure q
end

section
variable {X : Cx}
/-- a clause's test: the class, or the tuple of classes -/
def PTst (X : Cx) (te : Expr) (cs : List Value) : Prop := ∀ (a : Addr) (pn pins : List (Addr × Obj)) (σ : L2.St) (H : Hp) (s : Shared) (Q : Value → Shared → Prop) (E : Value → Shared → Prop), Inv (X.suite a pn) pins σ H s →
  (∀ (v : Value) (h' : Heap), (∀ b o, s.heap.get? b = some o → h'.get? b = some o) → (∀ (M : Model) (e : Addr) (cls : Value) (b : Bool), X.K.In h' → PySem.W.Looks M h' (typeOf (.ref e)) cls → PySem.W.exmAny X.K cls cs = some b → PySem.W.Looks M h' (excMatches (.ref e) v) b) →
    Q v { s with heap := h' }) → wpAny (model X.prog X.w) (X.A.mark (some (.ref a))) (eval te X.env) Q E s
theorem ld_names {x : Str} {c : Value} {np : Pos} (hc : Names X x c) {a : Addr} {pn pins : List (Addr × Obj)} {σ : L2.St} {H : Hp} {s : Shared} {Q : Value → Shared → Prop} {E : Value → Shared → Prop} (I : Inv (X.suite a pn) pins σ H s) (q : Q c s) :
    wpAny (model X.prog X.w) (X.A.mark (some (.ref a))) (eval (.Name x np) X.env) Q E s := by
  obtain ⟨hg, hdbg, hm | ⟨hm, hv, hnn⟩⟩ := hc
  · exact ld_glob (X := X.suite a pn) I hg hm q hdbg
  · exact ld_blt (X := X.suite a pn) I hg hm hv q hnn hdbg
theorem exmAny_one {K : PySem.W.Frag} {cls c : Value} {b : Bool} (h : PySem.W.exmAny K cls [c] = some b) : PySem.W.exmOne K cls c = some b := by
  obtain ⟨b1, d1, h1, h2, rfl⟩ := PySem.W.exmAny_cons h
  cases h2
  rw [Bool.or_false]
  exact h1
theorem ptst_name {x : Str} {c : Value} {np : Pos} (hc : Names X x c) : PTst X (.Name x np) [c] := fun a pn pins σ H s Q E I q =>
  ld_names hc I (q c s.heap (fun _ _ z => z) fun M e cls b k LT h => PySem.W.exm_one k LT (exmAny_one h))
inductive NamesAll (X : Cx) : List Expr → List Value → Prop
  | nil : NamesAll X [] []
  | cons {x : Str} {c : Value} {np : Pos} {es : List Expr} {cs : List Value} : Names X x c → NamesAll X es cs → NamesAll X (.Name x np :: es) (c :: cs)
theorem ld_all {a : Addr} {pn pins : List (Addr × Obj)} {σ : L2.St} {H : Hp} {s : Shared} {E : Value → Shared → Prop} {pos : Pos} (I : Inv (X.suite a pn) pins σ H s) : ∀ {es : List Expr} {cs : List Value}, NamesAll X es cs → ∀ {Q : List Value → Shared → Prop}, Q cs s →
    wpAny (model X.prog X.w) (X.A.mark (some (.ref a))) (spliced (backTo pos (starEach es X.env))) Q E s
  | _, _, .nil, Q, q => wpAny_items_nil q
  | _, _, .cons hc r, Q, q => wpAny_items_cons (ld_names hc I (ld_all I r q))
theorem ptst_tup {es : List Expr} {cs : List Value} {k : Nat} {pos : Pos} (h : NamesAll X es cs) (hl : cs.length ≤ sizeLine) : PTst X (.Tuple es k pos) cs := fun a pn pins σ H s Q E I q => by
  refine wpAny_Tuple (ld_all I h ⟨hl, ?_⟩)
  refine q _ _ (fun b o z => Heap.get?_push_of_some _ z) fun M e cls b k LT hx => ?_
  exact exm_tupN k LT (Heap.get?_push_size s.heap rfl) hx
end
/-! ### an exception gets tracked -/
theorem Inv.track {X : Cx} {pins : List (Addr × Obj)} {σ : L2.St} {H : Hp} {s : Shared} {a : Addr} {o : HO} (I : Inv X pins σ H s) (na : H a = none) (new : ∀ H', ObjOk X.prog X.w H' s.heap a o) (n0 : X.s_0.heap.get? a = none) (nL : a ≠ X.env.locals)
    (nc : ∀ x c, X.env.cells.lookup x = some c → c ≠ a) (np : ∀ p ∈ X.pn ++ pins, p.1 ≠ a) : Inv X pins σ (upd H a o) s := by
  have ne : ∀ {b : Addr} {u : HO}, H b = some u → b ≠ a := fun e z => by rw [z, na] at e; cases e
  refine ⟨I.ok, I.os, I.bare, ⟨I.base.keep, I.base.slot, fun b ob e n hx => ?_, I.base.there, fun b xs e => ?_, fun b ob u e => ?_, fun b ps e => ?_⟩, I.loc, I.cell, ?_, fun x c e => ?_, fun p hp => ?_, fun b u e => ?_, I.len⟩
  · have hb : b ≠ a := fun z => by rw [z, n0] at e; cases e
    rw [upd_ne hb]
    exact I.base.free b ob e n hx
  · rw [upd_ne (ne (I.base.tups b xs e))]
    exact I.base.tups b xs e
  · rw [upd_ne (ne (I.base.frzs b ob u e))]
    exact I.base.frzs b ob u e
  · obtain ⟨more, q⟩ := I.base.tbls b ps e
    exact ⟨more, by rw [upd_ne (ne q)]; exact q⟩
  · rw [upd_ne (Ne.symm nL)]
    exact I.free
  · rw [upd_ne (nc x c e)]
    exact I.freeC x c e
  · obtain ⟨e, n, h1, h2, h3⟩ := I.pin p hp
    exact ⟨e, by rw [upd_ne (np p hp)]; exact n, h1, h2, h3⟩
  · by_cases hb : b = a
    · subst hb
      rw [upd_same] at e
      cases e
      exact new _
    · rw [upd_ne hb] at e
      exact (I.hok b u e).stay (fun c v _ q => q) (fun c q => by rw [upd_ne (ne q)]; exact q) fun c xs q => by rw [upd_ne (ne q)]; exact q

/-! ### try: body, except x as n: .., except (x, y): .. -/
/-- a clause: its classes, the slot of its name, its suite's reading -/
structure HdX where
  cs : List Value
  nm : Option Nat
  ts : TS
def endNm (nm : Option Nat) (D : Ends) : Ends := match nm with
  | none => D
  | some i => { nx := fun σ' H' => D.nx (σ'.set i none) H', rt := D.rt, bk := fun σ' H' => D.bk (σ'.set i none) H', ct := fun σ' H' => D.ct (σ'.set i none) H' }
def setNm (nm : Option Nat) (a : Addr) (σ : L2.St) : L2.St := match nm with
  | none => σ
  | some i => σ.set i (some (.ref a))
/-- what the clauses wish of an exception of the body, one after the other -/
def wX (K : PySem.W.Frag) (Wout : WX) (D : Ends) : List HdX → WX
  | [] => Wout
  | h :: r => fun cls d σ H => ∃ b, PySem.W.exmAny K cls h.cs = some b ∧ (b = true → ∃ C, cls = .ref C ∧ d = none ∧ ∀ a, H a = none → h.ts (endNm h.nm D) (setNm h.nm a σ) (upd H a (xcO a C))) ∧ (b = false → wX K Wout D r cls d σ H)
def NmOk (X : Cx) : Option Str → Option Nat → Prop
  | none, none => True
  | some n, some i => X.N[i]? = some n ∧ X.env.kindOf n = some .local
  | _, _ => False
inductive HdsX (X : Cx) : List ExceptHandler → List HdX → Prop
  | nil : HdsX X [] []
  | cons {te : Expr} {n : Option Str} {b₀ : Stmt} {suite : List Stmt} {pos' : Pos} {hds : List ExceptHandler} {h : HdX} {l : List HdX} (ht : PTst X te h.cs) (hn : NmOk X n h.nm)
      (hsu : ∀ (a : Addr) (pn : List (Addr × Obj)), PSs (X.suite a pn) (b₀ :: suite) h.ts) (r : HdsX X hds l) : HdsX X (.ExceptHandler (some te) n (b₀ :: suite) pos' :: hds) (h :: l)
section
variable {X : Cx} {pins : List (Addr × Obj)} {σ : L2.St} {H : Hp} {s : Shared}
theorem Inv.suite0 (I : Inv X pins σ H s) (a : Addr) : Inv (X.suite a (X.pn ++ pins)) [] σ H s :=
  ⟨I.ok.suite _ _, I.os, I.bare, I.base, I.loc, I.cell, I.free, I.freeC, fun p hp => I.pin p (by rw [List.append_nil] at hp; exact hp), I.hok, I.len⟩
theorem Inv.unsuite0 {a : Addr} {pn' : List (Addr × Obj)} (I : Inv (X.suite a (X.pn ++ pins)) pn' σ H s) (ok : X.Ok) : Inv X pins σ H s :=
  ⟨ok, I.os, I.bare, I.base, I.loc, I.cell, I.free, I.freeC, fun p hp => I.pin p (List.mem_append_left _ hp), I.hok, I.len⟩
theorem flyingZ_keeps {B h h' : Heap} {l : List Env} {a : Addr} {Z : Obj → Prop} (x : HandSPX.FlyingZ B l a Z h) (k : ∀ b o, h.get? b = some o → h'.get? b = some o) : HandSPX.FlyingZ B l a Z h' := by
  obtain ⟨f1, f2, f3, oe, vs, T, oT, ts, he, hz, hd, h1, hn, hne, hT, hdT, h3⟩ := x
  exact ⟨fun b o q => k b o (f1 b o q), f2, f3.of_keeps fun b o q _ => ⟨o, k b o q, rfl⟩, oe, vs, T, oT, ts, k _ _ he, hz, hd, h1, hn, hne, k _ _ hT, hdT, h3⟩
end
section
variable {X : Cx} {body : List Stmt} {h₀ : ExceptHandler} {hds : List ExceptHandler} {l : List HdX} {pos : Pos} {tb : WX → TS} {Wout : WX}
theorem ps_tryX (hs : X.stack = X.env :: X.outer) (hf : X.env.frame = some X.env.locals) (hex : X.ex = []) (hN : X.N.Nodup) (tk : Takes X Wout)
    (hb : ∀ (W : WX) (pn : List (Addr × Obj)) (xe : Value → Shared → Prop), Takes (X.tr pn xe) W → PassesOwn (model X.prog X.w) X.A X.env xe → PSs (X.tr pn xe) body (tb W))
    (hh : HdsX X (h₀ :: hds) l) : PS X (.Try body (h₀ :: hds) [] [] pos) (fun D σ H => tb (wX X.K Wout D l) D σ H) := by
  refine ⟨fun pins s σ H D I h => ?_⟩
  have ok := I.ok
  have hfr : X.A.frames = some (X.env :: X.outer) := by rw [ok.frames, hs]
  refine wpAny_Try_except ?_
  refine wpAny_mono ((hb (wX X.K Wout D l) (X.pn ++ pins) (fun e s₁ => wpAny (model X.prog X.w) X.A (noteFrame e X.env) (fun _ s₂ => wpAny (model X.prog X.w) X.A (setFlight e none) (fun _ s₃ =>
    wpAny (model X.prog X.w) X.A (handleBy e X.env (h₀ :: hds)) (SP X pins D) X.xe s₃) X.xe s₂) X.xe s₁) (fun u s' xx => ?_) PassesOwn.looking).run [] s σ H D (I.toTry _) h) (fun f s1 hsp => ?_) (fun e s1 he => he)
  · obtain ⟨a, B, sI, pins', σ', H', cls, d, rfl, J', nb, up, sky, na, os, ag, w⟩ := xx
    have J : Inv X pins σ' H' sI := J'.ofTry ok
    have sky' : Sky B (X.env :: X.outer) a (Zc cls d) X.env.locals s'.heap := by rw [← hs]; exact sky
    show wpAny (model X.prog X.w) X.A (noteFrame (.ref a) X.env) _ _ _
    refine Sky.land Zc.steady hfr hf sky' fun h3 fl3 up3 => ?_
    have bNone : B.get? a = none := fl3.2.1
    have nfr : a ∉ frs (X.env :: X.outer) := by
      obtain ⟨oe, vs, e, _, dd⟩ := fl3.there
      intro hm
      obtain ⟨_, o', e', hnf⟩ := fl3.2.2.1.mem hm
      rw [e] at e'; cases e'
      exact hnf _ dd
    have nL : a ≠ X.env.locals := fun z => nfr (List.mem_filterMap.mpr ⟨X.env, List.mem_cons_self, by rw [hf, z]⟩)
    have nI : sI.heap.get? a = none := by
      cases e : sI.heap.get? a with
      | none => rfl
      | some o =>
        have := nb a o e (by rw [hs]; exact nfr)
        rw [bNone] at this
        cases this
    have n0 : X.s_0.heap.get? a = none := by
      cases e : X.s_0.heap.get? a with
      | none => rfl
      | some o =>
        obtain ⟨o', e'⟩ := J.base.there a o e (by rw [hex]; intro z; cases z)
        rw [nI] at e'
        cases e'
    have nc : ∀ x c, X.env.cells.lookup x = some c → c ≠ a := fun x c e z => by
      obtain ⟨v, o, ho, _⟩ := J.cell x c e
      rw [z, nI] at ho
      cases ho
    have np : ∀ p ∈ X.pn ++ pins, p.1 ≠ a := fun p hp z => by
      obtain ⟨e, _⟩ := J.pin p hp
      rw [z, nI] at e
      cases e
    have go : ∀ {hds' : List ExceptHandler} {l' : List HdX}, HdsX X hds' l' → wX X.K Wout D l' cls d σ' H' → ∀ h3, HandSPX.FlyingZ B (X.env :: X.outer) a (Zc cls d) h3 → sI.heap.UpToSlots h3 →
        wpAny (model X.prog X.w) X.A (handleBy (.ref a) X.env hds') (SP X pins D) X.xe { s' with heap := h3 } := by
      intro hds' l' hk
      induction hk with
      | nil =>
        intro w h3 fl3 up3
        refine wpAny_handleBy_nil ?_
        obtain ⟨k1, k2, k3, oe, vs, T, oT, ts', he, hz, hd, h1, hr⟩ := id fl3
        unfold PySem.passOn
        refine wpAny_bind (wpAny_field he hd h1 ?_)
        rw [if_neg (show ¬ ((Value.ref T == Value.none) = true) from by simp)]
        have fin : wpAny (model X.prog X.w) X.A (setFlight (.ref a) X.env.frame) (fun _ s4 => wpAny (model X.prog X.w) X.A (throw (.ref a) : Sem Flow) (SP X pins D) X.xe s4) X.xe { s' with heap := h3 } := by
          rw [hf]
          refine HandSPX.setFlight_upZ fl3 fun h4 hh4 up4 => wpAny_throw (tk _ _ ?_)
          exact ⟨a, B, sI, pins, σ', H', cls, d, rfl, J, nb, up3.trans up4, .inr (.inr (by rw [hs]; exact hh4)), na, os, ag, w⟩
        first
          | exact wpAny_bind (wpAny_pure (wpAny_bind fin))
          | exact wpAny_bind fin
      | @cons te n b₀ suite pos' hds2 hd l2 ht hn hsu r ih =>
        intro w h3 fl3 up3
        obtain ⟨b, hb1, hyes, hno⟩ := w
        have J3 : Inv X pins σ' H' { s' with heap := h3 } := J.landed (s' := { s' with heap := h3 }) nb fl3.1 up3 os ag
        refine wpAny_handleBy_cons (codeAny_handlers_test ?_) (by intro q; cases q)
        refine ht a (X.pn ++ pins) [] σ' H' _ _ _ (Inv.suite0 J3 a) fun v h' k LM => ?_
        have fl' := flyingZ_keeps fl3 k
        have up' := up3.trans (Heap.UpToSlots.of_keeps k)
        obtain ⟨oe', vs', he', hz', hd'⟩ := fl'.there
        have LT : PySem.W.Looks (model X.prog X.w) h' (typeOf (.ref a)) cls := fun A Q E s k q => wpAny_typeOf_ref (k _ _ he') (by rw [hz'.1]; exact q)
        refine (LM (model X.prog X.w) a cls b (J3.kIn.keeps k) LT hb1).here ?_
        cases b with
        | false =>
          show wpAny _ X.A (handleBy (.ref a) X.env hds2) _ _ _
          exact ih (hno rfl) h' fl' up'
        | true =>
          obtain ⟨C, rfl, rfl, hts⟩ := hyes rfl
          have tr : ∀ h4, HandSPX.FlyingZ B (X.env :: X.outer) a (Zc (.ref C) none) h4 → h'.UpToSlots h4 → Inv X pins σ' (upd H' a (xcO a C)) { s' with heap := h4 } := fun h4 fl4 up4 => by
            have J4 : Inv X pins σ' H' { s' with heap := h4 } := J.landed (s' := { s' with heap := h4 }) nb fl4.1 (up'.trans up4) os ag
            obtain ⟨oe4, vs4, he4, hz4, hd4⟩ := fl4.there
            exact Inv.track J4 na (fun H' => xcO_ok he4 hz4.1 hz4.2 hd4) n0 nL nc np
          have ts := hts a na
          cases hnm : hd.nm with
          | none =>
            rw [hnm] at ts hn
            cases n with
            | some n => exact hn.elim
            | none =>
              refine codeAny_handlers_suite ?_
              refine HandSPX.lands_againZ fl' fun h4 fl4 up4 => ?_
              have S4 := Inv.suite0 (tr h4 fl4 up4) a
              refine wpAny_mono ((hsu a (X.pn ++ pins)).run [] _ _ _ _ S4 ts) (fun f s6 hsp => ?_) (fun _ _ z => False.elim z)
              cases f with
              | next =>
                obtain ⟨σ6, H6, S6, q6⟩ := hsp
                exact ⟨_, _, Inv.unsuite0 S6 ok, q6⟩
              | brk =>
                obtain ⟨σ6, H6, S6, q6⟩ := hsp
                exact ⟨_, _, Inv.unsuite0 S6 ok, q6⟩
              | cont =>
                obtain ⟨σ6, H6, S6, q6⟩ := hsp
                exact ⟨_, _, Inv.unsuite0 S6 ok, q6⟩
              | ret u =>
                obtain ⟨v6, σ6, H6, S6, r6, q6⟩ := hsp
                exact ⟨_, _, _, Inv.unsuite0 S6 ok, r6, q6⟩
          | some i =>
            rw [hnm] at ts hn
            cases n with
            | none => exact hn.elim
            | some n =>
              obtain ⟨hi, hln⟩ := hn
              have hloc : Loc X.env.scope n := .inl hln
              refine codeAny_handlers_suite_as ?_
              refine HandSPX.lands_againZ fl' fun h4 fl4 up4 => ?_
              have S4 := Inv.suite0 (tr h4 fl4 up4) a
              refine store_ok (X := X.suite a (X.pn ++ pins)) (v := .ref a) S4 hN hi hloc rfl (fun s5 S5 => ?_) (.inr hln)
              refine wpAny_mono ((hsu a (X.pn ++ pins)).run [] s5 _ _ _ S5 ts) (fun f s6 hsp => ?_) (fun _ _ z => False.elim z)
              have end_ : ∀ {σ6 : L2.St} {H6 : Hp} {Q : Shared → Prop}, Inv (X.suite a (X.pn ++ pins)) [] σ6 H6 s6 → (∀ s7, Inv X pins (σ6.set i none) H6 s7 → Q s7) →
                  wpAny (model X.prog X.w) X.A (do bindName X.env n .none; unbindBehindTheSuite X.env n pos') (fun _ s7 => Q s7) X.xe s6 := fun {σ6 H6 Q} S6 hq => gone_ok (Inv.unsuite0 S6 ok) hN hi hln hq
              cases f with
              | next =>
                obtain ⟨σ6, H6, S6, q6⟩ := hsp
                exact end_ S6 fun s7 J7 => ⟨_, _, J7, q6⟩
              | brk =>
                obtain ⟨σ6, H6, S6, q6⟩ := hsp
                exact end_ S6 fun s7 J7 => ⟨_, _, J7, q6⟩
              | cont =>
                obtain ⟨σ6, H6, S6, q6⟩ := hsp
                exact end_ S6 fun s7 J7 => ⟨_, _, J7, q6⟩
              | ret u =>
                obtain ⟨v6, σ6, H6, S6, r6, q6⟩ := hsp
                exact end_ S6 fun s7 J7 => ⟨_, _, _, J7, r6, q6⟩
    exact go hh w h3 fl3 (up.trans up3)
  · cases f with
    | next =>
      obtain ⟨σ', H', J', q⟩ := hsp
      exact wpAny_execs_nil ⟨σ', H', J'.ofTry ok, q⟩
    | brk =>
      obtain ⟨σ', H', J', q⟩ := hsp
      exact ⟨σ', H', J'.ofTry ok, q⟩
    | cont =>
      obtain ⟨σ', H', J', q⟩ := hsp
      exact ⟨σ', H', J'.ofTry ok, q⟩
    | ret u =>
      obtain ⟨v, σ', H', J', r, q⟩ := hsp
      exact ⟨v, σ', H', J'.ofTry ok, r, q⟩
end
end GK

namespace GK
open PySem PySem.Spec PyProof.Rows L2

/-! ### an exception that leaves a comprehension's element -/
section
variable {X Y : Cx} {pins : List (Addr × Obj)} {σ : L2.St} {H : Hp} {s : Shared}
theorem okX (ok : Y.Ok) (xe : Value → Shared → Prop) : ({ Y with xe := xe } : Cx).Ok :=
  ⟨ok.mod, ok.kind, ok.glob, ok.blt, ok.above, ok.inj, ok.has, ok.cab, ok.hd, ok.frames, ok.stk, ok.exf, ok.bs, ok.bsz, ok.noex, ok.exfs, ok.funs, ok.frf⟩
theorem invX (I : Inv Y pins σ H s) (xe : Value → Shared → Prop) : Inv { Y with xe := xe } pins σ H s :=
  ⟨okX I.ok xe, I.os, I.bare, I.base, I.loc, I.cell, I.free, I.freeC, I.pin, I.hok, I.len⟩
/-- what a call in the element lets out -/
def xeB (X XB : Cx) (E : XK) : Value → Shared → Prop := fun u s' => ∃ pins σ H s, Inv XB pins σ H s ∧ L2.CX X.prog X.w X.stack H s E u s'
theorem note_env (e : Value) {c d : Env} (h : c.frame = d.frame) : noteFrame e c = noteFrame e d := by
  unfold noteFrame PySem.frameOf
  rw [h]
theorem comp_raise {W : WX} {H3 : Hp} {s3 s' : Shared} {scope : Scope} {cl : List (Str × Addr)} {ce : Env} {fp : List Addr} {pb : List (Addr × Obj)} {σb : L2.St} {Hb : Hp} {sb : Shared} {u : Value}
    (hs : X.stack = X.env :: X.outer) (hf : X.env.frame = some X.env.locals) (tk : Takes X W) (I3 : Inv X pins σ H3 s3) (hce : ce = compEnvC scope cl s3.heap.objs.size X.env) (f3 : ∀ b ∈ fp, FpOk X pins H3 b)
    (Ib : Inv (X.blk s3 H3 scope ce fp) pb σb Hb sb) (c : L2.CX X.prog X.w X.stack Hb sb (WE W σ) u s') :
    notedBy (model X.prog X.w) X.A ce (CompFails (model X.prog X.w) X.A X.xe ce) u s' := by
  have hfr : X.A.frames = some (X.env :: X.outer) := by rw [I3.ok.frames, hs]
  have cf : ce.frame = X.env.frame := by rw [hce]; rfl
  have cL : ce.locals = s3.heap.objs.size := by rw [hce]; rfl
  obtain ⟨a, B, sI, pI, σI, H', cls, d, e, I6, nb, up, sky, na, os, ag, w⟩ := XE.of_call (W := fun cls d _ H' => W cls d σ H') Ib (fun _ _ _ h => h) c
  obtain ⟨a', B0, H0, cls0, d0, rfl, fl0, _⟩ := c
  cases e
  have fl : HandSPX.FlyingZ B X.stack a (Zc cls d) s'.heap := by
    obtain ⟨_, _, _, oe, vs, T, oT, ts, he, _, hd, h1, _, _, hT, hdT, h3⟩ := fl0
    rcases sky with ⟨_, _, _, oe', vs', he', _, hd', h1'⟩ | z | ⟨_, _, _, oe', vs', T', oT', ts', he', _, hd', h1', _, _, hT', hdT', h3'⟩
    · rw [he] at he'; cases he'
      rw [hd] at hd'; cases hd'
      rw [h1] at h1'; cases h1'
    · exact z
    · rw [he] at he'; cases he'
      rw [hd] at hd'; cases hd'
      rw [h1] at h1'; cases h1'
      rw [hT] at hT'; cases hT'
      rw [hdT] at hdT'; cases hdT'
      rw [h3] at h3'
      simp [rawInt] at h3'
  have I7 : Inv X pins σ H' sI := I3.call' (ch := fp) I6.os I6.base I6.hok I6.bare fun b hb => ⟨(f3 b hb).2.2.2.1, (f3 b hb).2.1, (f3 b hb).2.2.2.2.1, (f3 b hb).2.2.2.2.2⟩
  have nC : H' s3.heap.objs.size = none := by
    have z : H' ce.locals = none := I6.free
    rw [cL] at z
    exact z
  obtain ⟨m, hn, _⟩ := I6.loc
  have hn : sI.heap.Ns ce.locals m := hn
  rw [cL] at hn
  obtain ⟨f0, f1, f2, f4, f5, f6⟩ := I3.fpOk (Nat.le_refl _) nC
  generalize hC : s3.heap.objs.size = C at *
  have nfr : C ∉ frs X.stack := by
    rw [hs]
    intro z
    have z : C ∈ frs (X.env :: X.outer) := z
    obtain ⟨v, hv, q⟩ := List.mem_filterMap.mp z
    rcases List.mem_cons.mp hv with rfl | hv
    · rw [hf] at q
      exact f1 (Option.some.inj q).symm
    · exact f2 (List.mem_filterMap.mpr ⟨v, hv, q⟩)
  rw [hs] at fl
  show wpAny _ X.A (noteFrame (.ref a) ce) _ _ s'
  rw [note_env _ cf]
  refine HandSPX.looks_onZ Zc.steady hfr hf fl fun h1 hh1 up1 => ?_
  obtain ⟨k1, k2, k3, k4⟩ := hh1
  have hn1 : h1.Ns C m := by
    obtain ⟨o, es, ep, ho, r⟩ := hn
    exact ⟨o, es, ep, k1 _ _ (nb _ _ ho nfr), r⟩
  refine ⟨m, by rw [cL]; exact hn1, fun h2 m2 hn2 sb2 => ?_⟩
  rw [cL] at hn2 sb2
  have bd : ∀ b o, (PySem.W.hideAll B [C]).get? b = some o → B.get? b = some o ∧ b ≠ C := fun b o e =>
    ⟨PySem.W.of_hideAll _ e, fun z => by rw [PySem.W.hideAll_none [C] (by rw [z]; exact List.mem_singleton.mpr rfl)] at e; cases e⟩
  have bn : ∀ b, B.get? b = none → (PySem.W.hideAll B [C]).get? b = none := fun b e => by
    cases q : (PySem.W.hideAll B [C]).get? b with
    | none => rfl
    | some o => rw [(bd b o q).1] at e; cases e
  have st2 : (PySem.W.hideAll B [C]).StaysIn h2 := fun b o e => (sb2.2 b (bd b o e).2).trans (k1 b o (bd b o e).1)
  have ff2 : h2.FunFrames (PySem.W.hideAll B [C]) (X.env :: X.outer) := funFrames_none (Heap.FunFrames.sameBut sb2 hn2 k3) fun L hL => bn L (k3.mem hL).1
  obtain ⟨oC, es, ep, hoC, hdC, _⟩ := hn1
  obtain ⟨oe, vs, T, oT, ts, he, hz, hd, e1, hnT, hTe, hT, hdT, h3⟩ := k4
  have aC : a ≠ C := fun z => by
    rw [z, hoC] at he; cases he
    rw [hdC] at hd; cases hd
  have tC : T ≠ C := fun z => by
    rw [z, hoC] at hT; cases hT
    rw [hdC] at hdT; cases hdT
  have he2 : h2.get? a = some oe := (sb2.2 a aC).trans he
  have hT2 : h2.get? T = some oT := (sb2.2 T tC).trans hT
  have hh2 : HandSPX.HeldZ (PySem.W.hideAll B [C]) (X.env :: X.outer) a (Zc cls d) X.env.locals h2 := ⟨st2, bn a k2, ff2, oe, vs, T, oT, ts, he2, hz, hd, e1, bn T hnT, hTe, hT2, hdT, h3⟩
  unfold PySem.passOn
  refine wpAny_bind (wpAny_field he2 hd e1 ?_)
  rw [if_neg (show ¬ ((Value.ref T == Value.none) = true) from by simp)]
  have fin : wpAny (model X.prog X.w) X.A (setFlight (.ref a) ce.frame) (fun _ s4 => wpAny (model X.prog X.w) X.A (throw (.ref a) : Sem Value) (fun _ _ => False) X.xe s4) X.xe { s' with heap := h2 } := by
    rw [cf, hf]
    refine HandSPX.setFlight_onZ hh2 fun h4 hh4 up4 => wpAny_throw (tk _ _ ?_)
    have I8 : Inv X pins σ H' { sI with heap := PySem.W.hideAll sI.heap [C] } := I7.turned (t' := sI.toks) (fun b o hb e => PySem.W.hideAll_get _ e (fun z => hb (List.mem_singleton.mp z))) f0 f1 f4 f5 f6
    have gd : ∀ b o, (PySem.W.hideAll sI.heap [C]).get? b = some o → sI.heap.get? b = some o ∧ b ≠ C := fun b o e =>
      ⟨PySem.W.of_hideAll _ e, fun z => by rw [PySem.W.hideAll_none [C] (by rw [z]; exact List.mem_singleton.mpr rfl)] at e; cases e⟩
    refine ⟨a, PySem.W.hideAll B [C], { sI with heap := PySem.W.hideAll sI.heap [C] }, pins, σ, H', cls, d, rfl, I8, fun b o e hb => ?_, fun b o e hnf => ?_, .inr (.inr (by rw [hs]; exact hh4)), na, os, ag, w⟩
    · obtain ⟨z1, z2⟩ := gd b o e
      exact PySem.W.hideAll_get _ (nb b o z1 hb) fun z => z2 (List.mem_singleton.mp z)
    · obtain ⟨z1, z2⟩ := gd b o e
      obtain ⟨sl, q⟩ := (up.trans up1) b o z1 hnf
      have q2 : h2.get? b = some { o with slots := sl } := (sb2.2 b z2).trans q
      obtain ⟨sl4, q4⟩ := up4 b _ q2 hnf
      exact ⟨sl4, q4⟩
  first
    | exact wpAny_bind (wpAny_pure (wpAny_bind fin))
    | exact wpAny_bind fin
end
section
variable {X : Cx}
/-- a list comprehension (no test) whose element may raise -/
theorem lcR_core {W : WX} {pins : List (Addr × Obj)} {s : Shared} {σ : L2.St} {H : Hp} {Q : VK} {elt tg iter : Expr} {scope : Scope} {own : List (Str × Nat)} {pos pos' : Pos} {wi : TI} {g : TG} {te : TE} {use : Option (Value → Sem Unit)} {Qf : Value → Shared → Prop}
    (hs : X.stack = X.env :: X.outer) (hf : X.env.frame = some X.env.locals) (tk : Takes X W) (hc : X.calm = true) (I : Inv X pins σ H s) (hN : X.N.Nodup) (hi : PI X tg iter wi) (ok : BlkOk X.N X.env.scope scope own)
    (hg : ∀ (s : Shared) (H : Hp) (C : Addr) (cl : List (Str × Addr)) (fp : List Addr), PG (X.blk s H scope (compEnvC scope cl C X.env) fp) tg g)
    (he : ∀ (s : Shared) (H : Hp) (C : Addr) (cl : List (Str × Addr)) (fp : List Addr) (xe : Value → Shared → Prop), (∀ σ', PassesAt (L2.CX X.prog X.w) { X.blk s H scope (compEnvC scope cl C X.env) fp with xe := xe } σ' (WE W σ)) → PE { X.blk s H scope (compEnvC scope cl C X.env) fp with xe := xe } elt te)
    (hfs : ∀ x, foldedSetIterable iter X.env x = pure x)
    (h : tLc wi g tYes te (own.map (·.2)) σ H Q)
    (hRR : ∀ D cl C s' m H', Inv X pins σ H' s' → Q (.ref D) H' → s'.heap.Ns C m → FpOk X pins H' C → compEnds (model X.prog X.w) X.A X.xe use Qf (.ref D) (compEnvC scope cl C X.env) (.ok .next) s') :
    wpAny (model X.prog X.w) X.A (comprehension (.ListComp elt [⟨tg, iter, [], 0⟩] scope pos) scope X.env pos' (newList []) false (eval iter X.env) use) Qf X.xe s := by
  have hfree : ∀ y ∈ scope.names, y.2 = .free → ∃ c, X.env.cells.lookup y.1 = some c := fun y hy e => (ok.free y hy e).elim (fun k => I.ok.has _ (.inl k)) fun k => I.ok.has _ (.inr k)
  refine comprehension_at (use := use) rfl hfs (closure_ok hfree) ok.kind (fun y hy e => by rw [ok.uniq y hy, e])
    (thn (hi.run pins s σ H _ I h) fun xv s1 hx => thn hx fun itv s2 h2 => ?_)
  obtain ⟨it, fp, tn, J, H2, e, I2, T, st2, f2, q⟩ := h2
  subst e
  refine wpAny_newObj_type (newEnv_comp ?_) (by show 0 ≤ sizeLine; decide)
  generalize hD : s2.heap.objs.size = D
  have hDn : H2 D = none := I2.hok.fresh (Nat.le_of_eq hD)
  obtain ⟨Wn, ⟨m0, w0⟩, turn⟩ := q D hDn
  generalize hs3 : ({ s2 with heap := s2.heap.push { cls := .type "list", data := .seq ([] : List Value).toArray } } : Shared) = s3
  have h3 : s3.heap = s2.heap.push { cls := .type "list", data := .seq ([] : List Value).toArray } := by rw [← hs3]
  have I3 : Inv X pins σ (upd H2 D (.lst [])) s3 := by
    rw [← hs3]
    refine I2.laid (t' := s2.toks) (fun b o e => Heap.get?_push_of_some _ e) (Nat.le_of_eq hD) ⟨Nat.zero_le _, [], 0, .nil, ?_⟩
    rw [← hD]
    exact Heap.get?_push_size _ rfl
  have f3 : ∀ b ∈ fp, FpOk X pins (upd H2 D (.lst [])) b ∧ b < s3.heap.objs.size := fun b hb => by
    obtain ⟨o, e, _⟩ := T.obj _ _ st2 b hb
    have hlt := Heap.lt_size e
    refine ⟨⟨?_, (f2 b hb).2⟩, by rw [h3, Heap.size_push]; exact Nat.lt_succ_of_lt hlt⟩
    rw [upd_ne (by rw [← hD]; exact Nat.ne_of_lt hlt)]
    exact (f2 b hb).1
  have st3 : tn 0 s3.heap := T.keep _ _ _ st2 fun b _ o e => by rw [h3]; exact Heap.get?_push_of_some _ e
  have I4 := block_start I3 ok hN f3
  have pg := hg s3 (upd H2 D (.lst [])) s3.heap.objs.size (cellsFrom (s3.heap.objs.size + 1) scope.names (cloFrom X.env.cells scope.names [])) fp
  have pe := he s3 (upd H2 D (.lst [])) s3.heap.objs.size (cellsFrom (s3.heap.objs.size + 1) scope.names (cloFrom X.env.cells scope.names [])) fp
  have nfp : ∀ b ∈ fp, (upd H2 D (.lst [])) b = none := fun b hb => (f3 b hb).1.1
  have raise := fun {pb : List (Addr × Obj)} {σb : L2.St} {Hb : Hp} {sb s' : Shared} {u : Value} => comp_raise (X := X) (W := W) (scope := scope) (cl := cellsFrom (s3.heap.objs.size + 1) scope.names (cloFrom X.env.cells scope.names [])) (pb := pb) (σb := σb) (Hb := Hb) (sb := sb) (s' := s') (u := u) hs hf tk I3 rfl fun b hb => (f3 b hb).1
  show codeAny _ _ (.compStart (.ListComp elt [⟨tg, iter, [], 0⟩] scope pos) 0 (.ref it) (.ref D) (compEnvC scope (cellsFrom (s3.heap.objs.size + 1) scope.names (cloFrom X.env.cells scope.names [])) s3.heap.objs.size X.env))
    (compEnds (model X.prog X.w) X.A X.xe use Qf (.ref D) (compEnvC scope (cellsFrom (s3.heap.objs.size + 1) scope.names (cloFrom X.env.cells scope.names [])) s3.heap.objs.size X.env)) { s3 with heap := pushCells (s3.heap.push { cls := .type "dict", data := .dict #[] }) scope.names }
  have ends := fun (s' : Shared) (m : Str → Option Value) (H' : Hp) => hRR D (cellsFrom (s3.heap.objs.size + 1) scope.names (cloFrom X.env.cells scope.names [])) s3.heap.objs.size s' m H'
  generalize hce : compEnvC scope (cellsFrom (s3.heap.objs.size + 1) scope.names (cloFrom X.env.cells scope.names [])) s3.heap.objs.size X.env = ce at I4 pg pe raise ends ⊢
  have cL : ce.locals = s3.heap.objs.size := by subst hce; rfl
  generalize hH3 : upd H2 D (.lst []) = H3 at I3 I4 pg pe w0 nfp f3 raise
  generalize hs4 : ({ s3 with heap := pushCells (s3.heap.push { cls := .type "dict", data := .dict #[] }) scope.names } : Shared) = s4 at I4 ⊢
  have st4 : tn 0 s4.heap := T.keep _ _ _ st3 fun b _ o e => by rw [← hs4]; exact pushCells_keeps _ _ _ _ (Heap.get?_push_of_some _ e)
  have pe := pe (xeB X (X.blk s3 H3 scope ce fp) (WE W σ)) fun σ' pb Hb sb u s' Ib c => ⟨pb, σ', Hb, sb, invX Ib (fun _ _ => False), c⟩
  have stat : ∀ {σ' : L2.St} {H' : Hp} {s' : Shared}, Inv (X.blk s3 H3 scope ce fp) [] σ' H' s' → (∀ b ∈ fp, H' b = none) → ∀ b ∈ fp, FpOk (X.blk s3 H3 scope ce fp) [] H' b := fun {σ' H' s'} I' hn b hb =>
    ⟨hn b hb, (I'.ok.exf b hb).1, I'.ok.exfs b hb, .inl hb, fun x c e => (I'.ok.exf b hb).2 x c e, fun p hp => absurd (show p ∈ ([] : List (Addr × Obj)) ++ [] from hp) (by simp)⟩
  have loop : codeAny (model X.prog X.w) X.A (.compLoop (.ListComp elt [⟨tg, iter, [], 0⟩] scope pos) 0 (.ref it) (.ref D) ce) (compEnds (model X.prog X.w) X.A X.xe use Qf (.ref D) ce) s4 := by
    refine compLoop_any (fun n s' => ∃ i H', Inv (X.blk s3 H3 scope ce fp) [] (wipe σ (own.map (·.2))) H' s' ∧ tn i s'.heap ∧ (∀ b ∈ fp, H' b = none) ∧ Wn i n H') ?_ m0 ⟨0, H3, I4, st4, nfp, w0⟩
    rintro n s5 ⟨i, H5, I5, st5, n5, w5⟩
    rcases turn i n H5 w5 with ⟨stop, qq⟩ | ⟨go, Nx, hNx, step⟩
    · refine thnF (T.done (X.blk s3 H3 scope ce fp) rfl rfl rfl hc i [] s5 _ H5 (fun _ _ => False) I5 (stat I5 n5) st5 stop) fun r s6 ⟨hr, I6⟩ => ?_
      subst hr
      have I7 : Inv X pins σ H5 s6 := I3.call' (ch := fp) I6.os I6.base I6.hok I6.bare fun b hb => ⟨(f3 b hb).1.2.2.2.1, (f3 b hb).1.2.1, (f3 b hb).1.2.2.2.2.1, (f3 b hb).1.2.2.2.2.2⟩
      have nC : H5 s3.heap.objs.size = none := by
        have z : H5 ce.locals = none := I6.free
        rw [cL] at z
        exact z
      obtain ⟨m, hn, _⟩ := I6.loc
      have hn : s6.heap.Ns ce.locals m := hn
      rw [cL] at hn
      exact ends s6 m H5 I7 qq hn (I3.fpOk (Nat.le_refl _) nC)
    · refine thnF (T.item (X.blk s3 H3 scope ce fp) rfl rfl rfl hc i [] s5 _ H5 (fun _ _ => False) I5 (stat I5 n5) st5 go) fun r s6 ⟨u, hr, h6⟩ => ?_
      subst hr
      refine thnF h6 fun _ s7 ⟨x, H7, I7, r7, y7, st7, n7⟩ => ?_
      have I7' := I7.pinned (stat I7 n7) (T.obj _ _ st7)
      refine thnF (pg.run _ s7 _ H7 x u _ I7' r7 (step x H7 y7)) fun _ s8 ⟨σ8, H8, I8, hw8, q8⟩ => ?_
      refine wpAny_tests_nil ?_
      rw [if_pos rfl]
      have q8 : te σ8 H8 _ := q8
      refine wpAny_mono (pe.run _ s8 σ8 H8 _ (invX I8 _) q8) (fun z s10 ⟨yv, H10, I10, r10, acc, hD10, hz10, nx⟩ => ?_) (fun u' s' ⟨pb, σb, Hb, sb, Ib, c⟩ => raise Ib c)
      have I10 : Inv (X.blk s3 H3 scope ce fp) _ σ8 H10 s10 := invX I10 (fun _ _ => False)
      refine app_ok (X := X.blk s3 H3 scope ce fp) I10 hD10 hz10 r10 fun s11 I11 => ?_
      obtain ⟨m', hm, w'⟩ := hNx _ nx
      have pin' : ∀ b ∈ fp, ∀ o, s7.heap.get? b = some o → s11.heap.get? b = some o ∧ _ = none := fun b hb o e =>
        let z := I11.pin (b, o) (List.mem_append_right _ (List.mem_append_right _ (mem_pinsAt hb e)))
        ⟨z.1, z.2.1⟩
      have hl : (wipe σ (own.map (·.2))).length = σ8.length := by rw [← hw8, wipe_length]
      refine ⟨m', hm, i + 1, _, (I11.unpinned (pins := [])).weak hl (fun j v e => ?_), T.keep _ _ _ st7 fun b hb o e => (pin' b hb o e).1, fun b hb => ?_, w'⟩
      · rw [← hw8] at e
        exact (wipe_some e).1
      · obtain ⟨o, e, _⟩ := T.obj _ _ st7 b hb
        exact (pin' b hb o e).2
  exact codeAny_compStart_list loop (T.self X.A 0 _ _ _ st4 loop)
end
section
variable {X : Cx}
/-- [f(..) for x in it], where the call may raise -/
def tLcR (W : WX) (wi : TI) (g : TG) (sp : Sp) (t : TA) (vs : List Nat) : TE := fun σ H Q => tLc wi g tYes (tCallS sp (fun _ => WE W σ) t) vs σ H Q
theorem pe_lcR {W : WX} {elt tg iter : Expr} {scope : Scope} {own : List (Str × Nat)} {pos : Pos} {wi : TI} {g : TG} {sp : Sp} {t : TA}
    (hs : X.stack = X.env :: X.outer) (hf : X.env.frame = some X.env.locals) (tk : Takes X W) (hc : X.calm = true) (hN : X.N.Nodup) (hi : PI X tg iter wi) (ok : BlkOk X.N X.env.scope scope own)
    (hg : ∀ (s : Shared) (H : Hp) (C : Addr) (cl : List (Str × Addr)) (fp : List Addr), PG (X.blk s H scope (compEnvC scope cl C X.env) fp) tg g)
    (he : ∀ (s : Shared) (H : Hp) (C : Addr) (cl : List (Str × Addr)) (fp : List Addr) (xe : Value → Shared → Prop) (E : L2.St → XK), (∀ σ', PassesAt (L2.CX X.prog X.w) { X.blk s H scope (compEnvC scope cl C X.env) fp with xe := xe } σ' (E σ')) → PE { X.blk s H scope (compEnvC scope cl C X.env) fp with xe := xe } elt (tCallS sp E t))
    (hfs : ∀ x, foldedSetIterable iter X.env x = pure x := by intro _; rfl) :
    PE X (.ListComp elt [⟨tg, iter, [], 0⟩] scope pos) (tLcR W wi g sp t (own.map (·.2))) := by
  refine ⟨fun pins s σ H Q I h => ?_⟩
  rw [eval_ListComp]
  refine lcR_core (te := tCallS sp (fun _ => WE W σ) t) hs hf tk hc I hN hi ok hg (fun s H C cl fp xe hp => he s H C cl fp xe (fun _ => WE W σ) hp) hfs h fun D cl C s' m H' I' q hn f => ⟨m, hn, fun h'' sb => ?_⟩
  obtain ⟨f0, f1, f2, f3, f4, f5⟩ := f
  exact ⟨.ref D, H', I'.turned (t' := s'.toks) (fun b o hb e => (sb.2 b hb).trans e) f0 f1 f3 f4 f5, rfl, q⟩
/-- name = [f(..) for x in it] -/
theorem ps_setLcR {W : WX} {i : Nat} {y : Str} {py : Pos} {elt tg iter : Expr} {scope : Scope} {own : List (Str × Nat)} {pos spos : Pos} {wi : TI} {g : TG} {sp : Sp} {t : TA}
    (hs : X.stack = X.env :: X.outer) (hf : X.env.frame = some X.env.locals) (tk : Takes X W) (hc : X.calm = true) (hN : X.N.Nodup) (hy : X.N[i]? = some y) (hyl : X.env.scope.names.lookup y = some .local)
    (hsw : swapsWith (.ListComp elt [⟨tg, iter, [], 0⟩] scope pos) (some (.Name y py)) spos.line X.env = pure true) (hi : PI X tg iter wi) (ok : BlkOk X.N X.env.scope scope own)
    (hg : ∀ (s : Shared) (H : Hp) (C : Addr) (cl : List (Str × Addr)) (fp : List Addr), PG (X.blk s H scope (compEnvC scope cl C X.env) fp) tg g)
    (he : ∀ (s : Shared) (H : Hp) (C : Addr) (cl : List (Str × Addr)) (fp : List Addr) (xe : Value → Shared → Prop) (E : L2.St → XK), (∀ σ', PassesAt (L2.CX X.prog X.w) { X.blk s H scope (compEnvC scope cl C X.env) fp with xe := xe } σ' (E σ')) → PE { X.blk s H scope (compEnvC scope cl C X.env) fp with xe := xe } elt (tCallS sp E t))
    (hfs : ∀ x, foldedSetIterable iter X.env x = pure x := by intro _; rfl) :
    PS X (.Assign [.Name y py] (.ListComp elt [⟨tg, iter, [], 0⟩] scope pos) spos) (tAsg (tLcR W wi g sp t (own.map (·.2))) (gName i)) := by
  refine ⟨fun pins s σ H D I h => ?_⟩
  rw [exec_Assign_Name_used _ _ _ _ hsw]
  refine wpAny_bind (wpAny_standAt (wpAny_bind ?_))
  show wpAny _ X.A (do let _ ← comprehension (.ListComp elt [⟨tg, iter, [], 0⟩] scope pos) scope X.env (firstIterPos [⟨tg, iter, [], 0⟩] pos) (newList []) false (eval iter X.env) (some (assign (.Name y py) X.env))) _ _ s
  have h : tLc wi g tYes (tCallS sp (fun _ => WE W σ) t) (own.map (·.2)) σ H (fun x H1 => gName i x σ H1 D.nx) := h
  refine wpAny_bind (thn (lcR_core (Qf := fun _ s' => SP X pins D .next s') (te := tCallS sp (fun _ => WE W σ) t) hs hf tk hc I hN hi ok hg (fun s H C cl fp xe hp => he s H C cl fp xe (fun _ => WE W σ) hp) hfs h fun L cl C s' m H' I' q hn f => ?_) fun _ s' hq => wpAny_pure (wpAny_pure hq))
  show wpAny _ _ (assign (.Name y py) X.env (.ref L)) _ _ _
  refine wpAny_assign_Name (store_ok2 (v := V.ref L) I' hN hy (.inl hyl) rfl (fun s2 I2 ⟨a, sb, ha⟩ => ?_) (.inr hyl))
  obtain ⟨f0, f1, f2, f3, f4, f5⟩ := f
  have haC : C ≠ a := by
    rcases ha with z | z
    · rw [z]; exact f1
    · exact fun e => f4 y a z e.symm
  refine ⟨m, hn.sameBut sb haC, fun h3 sb3 => ?_⟩
  exact ⟨_, H', I2.turned (t' := s2.toks) (fun b o hb e => (sb3.2 b hb).trans e) f0 f1 f3 f4 f5, q⟩
end
end GK

/-! more rules: a dict against {}, min of pairs -/
namespace GK
open PySem PySem.Spec PyProof.Rows L2
section
variable {X : Cx}
/-- d != {} -/
def rNeE : R2 := fun x y H Q => ∃ a b ks, x = .ref a ∧ y = .ref b ∧ Rd H a (.dK ks) ∧ Rd H b (.dK []) ∧ Q (.bl (!ks.isEmpty)) H
theorem op_neE (hu : X.A.units < cLine) : OpR X (compareOp .NotEq) rNeE := by
  intro pins s σ H x y v u Q I rx ry h
  obtain ⟨a, b, ks, rfl, rfl, ea, eb, q⟩ := h
  obtain rfl : v = Value.ref a := rx
  obtain rfl : u = Value.ref b := ry
  obtain ⟨_, ya, va, ra, da⟩ := (show ObjOk X.prog X.w H s.heap a (.dK ks) from ea.ok I.hok)
  obtain ⟨_, yb, vb, rb, db⟩ := (show ObjOk X.prog X.w H s.heap b (.dK []) from eb.ok I.hok)
  have lb : vb.length = 0 := by rw [← rb.length]; rfl
  have la := ra.length
  have vb0 : vb = [] := List.eq_nil_of_length_eq_zero lb
  refine PySem.W.keq_ne (knd := mixKind X.prog X.w) (r := true) ya yb da db hu (fun hl => ?_) (fin_bl I q ?_)
  · have va0 : va = [] := List.eq_nil_of_length_eq_zero (by rw [hl, lb])
    subst va0 vb0
    exact hits_all rb (by cases ra; exact .nil) (fun p hp => by simp at hp)
  · rw [lb, ← la]
    cases ks <;> rfl
end
/-! min of pairs of whole numbers -/
/-- all of h0 stands in h -/
def Kp (h0 h : Heap) : Prop := ∀ b o, h0.get? b = some o → h.get? b = some o
section
variable {prog : Program} {w : World} {A : Around} {R : Result → Shared → Prop} {I S : Addr} {fp wr : List Addr} {n : Nat} {P : Nat → Value → Prop} {St : Nat → Heap → Prop}
/-- a loop's turns, from the place j on -/
theorem mnTurns (W : Walks prog w A.in1 I fp wr n P St) (bt : Nat → Nat → Bool) {h0 : Heap}
    (cmp : ∀ (i j : Nat) (x y : Value) (s : Shared) (Q : Value → Shared → Prop) (E : Value → Shared → Prop), Kp h0 s.heap → P i x → P j y → Q (.bool (bt i j)) s → wpAny (model prog w) A.in1 (richCompare .Lt x y) Q E s)
    (sf : S ∉ fp) (w0 : ∀ b o, h0.get? b = some o → b ∉ wr) (s0 : h0.get? S = none) (m : Nat) : ∀ (j : Nat) (s : Shared) (y : Value) (c : Nat), n = j + 1 + m → St (j + 1) s.heap → Kp h0 s.heap → P (argBest bt j) y →
    s.heap.get? S = some { cls := .type "list", dict := none, data := .seq #[y, y] c, slots := #[] } →
    (∀ v h' tk, P (argBest bt (n - 1)) v → Kp h0 h' → (∀ b o, b ∉ wr → b ≠ S → s.heap.get? b = some o → h'.get? b = some o) → R (.ok (.ret v)) { s with heap := h', toks := tk }) →
    codeAny (model prog w) A (.builtin "min.loop" ⟨[.ref I, .none, .ref S], []⟩) R s := by
  have sw : S ∉ wr := fun z => sf (W.sub _ z)
  have nm : (toString "min" ++ toString ".loop" : String) = "min.loop" := by decide
  have keepU : ∀ {h h' : Heap}, Kp h0 h → (∀ b o, b ∉ wr → h.get? b = some o → h'.get? b = some o) → Kp h0 h' := fun k kk b o e => kk b o (w0 b o e) (k b o e)
  have keepS : ∀ {h : Heap} {f : Array Value → Array Value}, Kp h0 h → Kp h0 h → True := fun _ _ => True.intro
  induction m with
  | zero =>
    intro j s y c hn st kp py hS hR
    refine codeAny_builtin F.entry_min_loop ?_
    rw [Around.under_plainId F.plain_min_loop _]
    show wpAny _ A.in1 (seqItems? (.ref S) >>= _) _ _ s
    refine wpAny_bind (wpAny_seqItems hS rfl ?_)
    show wpAny _ A.in1 (tryCatch (pyNext (.ref I)) _ >>= _) _ _ s
    refine wpAny_bind (wpAny_tryCatch (W.done s _ _ (by rw [hn]; exact st) fun h' tk kk => ?_))
    show wpAny _ A.in1 (updateSeq S (fun _ => #[]) >>= _) _ _ _
    refine wpAny_bind (wpAny_updateSeq (kk S _ sw hS) rfl (wpAny_bind (wpAny_letGo (wpAny_pure ?_))))
    refine hR y _ tk (by rw [hn]; exact py) (fun b o e => ?_) fun b o hw hs e => ?_
    · have hb : b ≠ S := fun z => by rw [z, s0] at e; cases e
      exact (Heap.get?_update_other _ _ (Ne.symm hb)).trans (keepU kp kk b o e)
    · exact (Heap.get?_update_other _ _ (Ne.symm hs)).trans (kk b o hw e)
  | succ m ih =>
    intro j s y c hn st kp py hS hR
    refine codeAny_builtin F.entry_min_loop ?_
    rw [Around.under_plainId F.plain_min_loop _]
    show wpAny _ A.in1 (seqItems? (.ref S) >>= _) _ _ s
    refine wpAny_bind (wpAny_seqItems hS rfl ?_)
    show wpAny _ A.in1 (tryCatch (pyNext (.ref I)) _ >>= _) _ _ s
    refine wpAny_bind (wpAny_tryCatch (W.item (j + 1) s _ _ (by omega) st fun x h' tk px st' kk => ?_))
    have hS' := kk S _ sw hS
    have kp' := keepU kp kk
    show wpAny _ A.in1 (tryCatch (holding [x, x] (richCompare .Lt x y >>= _)) _ >>= _) _ _ _
    refine wpAny_bind (wpAny_tryCatch (wpAny_holding (wpAny_bind (cmp (j + 1) (argBest bt j) x y _ _ _ kp' px py ?_))))
    refine wpAny_bind (wpAny_holding (wpAny_truthy_bool (wpAny_bind (wpAny_letGo (wpAny_pure ?_)))))
    cases hb : bt (j + 1) (argBest bt j) with
    | true =>
      have e1 : argBest bt (j + 1) = j + 1 := by simp only [argBest, hb, if_true]
      simp only [if_true]
      refine wpAny_bind (wpAny_updateSeq hS' rfl (wpAny_bind (wpAny_letGo ?_)))
      rw [nm]
      refine wpAny_pure ⟨plainId_quiet F.plain_min_loop _, ih (j + 1) _ x _ (by omega) (W.frame _ _ _ st' fun b hf o e => ?_) (fun b o e => ?_) (by rw [e1]; exact px) (Heap.get?_update_self _ hS' rfl) fun v h2 t2 pv k2 kk2 => ?_⟩
      · exact (Heap.get?_update_other _ _ (fun z : S = b => sf (by rw [z]; exact hf))).trans e
      · have hb : b ≠ S := fun z => by rw [z, s0] at e; cases e
        exact (Heap.get?_update_other _ _ (Ne.symm hb)).trans (kp' b o e)
      · exact hR v h2 t2 pv k2 fun b o hw hs e => kk2 b o hw hs ((Heap.get?_update_other _ _ (Ne.symm hs)).trans (kk b o hw e))
    | false =>
      have e1 : argBest bt (j + 1) = argBest bt j := by simp only [argBest, hb, Bool.false_eq_true, if_false]
      simp only [Bool.false_eq_true, if_false]
      refine wpAny_bind (wpAny_letGo ?_)
      rw [nm]
      refine wpAny_pure ⟨plainId_quiet F.plain_min_loop _, ih (j + 1) _ y c (by omega) st' kp' (by rw [e1]; exact py) hS' fun v h2 t2 pv k2 kk2 => ?_⟩
      exact hR v h2 t2 pv k2 fun b o hw hs e => kk2 b o hw hs (kk b o hw e)
/-- min(x), x a list -/
theorem mnList {l : Addr} {its : Array Value} {E : Value → Shared → Prop} {s : Shared} {Q : Value → Shared → Prop} (hh : A.handled = none) (hl : s.heap.IsList l its) (hn : 0 < its.size) (bt : Nat → Nat → Bool)
    (cmp : ∀ (i j : Nat) (x y : Value) (s' : Shared) (Q : Value → Shared → Prop) (E : Value → Shared → Prop), Kp s.heap s'.heap → its[i]? = some x → its[j]? = some y → Q (.bool (bt i j)) s' → wpAny (model prog w) A.in1 (richCompare .Lt x y) Q E s')
    (h : ∀ v h' tk, its[argBest bt (its.size - 1)]? = some v → Kp s.heap h' → Q v { s with heap := h', toks := tk }) : wpAny (model prog w) A (call (.builtin "min") [.ref l]) Q E s := by
  have nm : (toString "min" ++ toString ".loop" : String) = "min.loop" := by decide
  have ol := hl
  obtain ⟨o, ho, hcl, nn, hd⟩ := hl
  have lt : l < s.heap.objs.size := Heap.lt_size ho
  refine call_function_tree F.kind_min F.plain_min F.entry_min (F.args_min1 _) ?_
  show wpAny _ A.in1 (Builtin.Builtins.bindParams "min" ["key", "default"] 0 ⟨[], []⟩ >>= _) _ _ s
  refine wpAny_bind (wpAny_of_eq (show Builtin.Builtins.bindParams "min" ["key", "default"] 0 ⟨[], []⟩ = pure [none, none] from rfl) ?_)
  refine wpAny_bind (wpAny_pure (wpAny_bind (wpAny_pyIter_list ol ?_)))
  obtain ⟨it, hit⟩ : ∃ it, it = s.heap.objs.size := ⟨_, rfl⟩
  obtain ⟨N, hN⟩ : ∃ N, N = s.heap.push { cls := .type "list_iterator", data := .fields #[.ref l, .int 0 0] } := ⟨_, rfl⟩
  have zN : N.objs.size = s.heap.objs.size + 1 := by rw [hN, Heap.size_push]
  have W := Walks.list (prog := prog) (w := w) (A := A.in1) (by simp [hh]) s.heap.objs.size l (Nat.ne_of_lt lt) its
  have kN : Kp s.heap N := fun b o e => by rw [hN]; exact Heap.get?_push_of_some _ e
  have nI : s.heap.get? s.heap.objs.size = none := by
    cases e : s.heap.get? s.heap.objs.size with
    | none => rfl
    | some o => exact absurd (Heap.lt_size e) (Nat.lt_irrefl _)
  have st0 : N.IsListIter s.heap.objs.size l 0 ∧ N.IsList l its := ⟨by rw [hN]; exact ⟨_, Heap.get?_push_size _ rfl, rfl, rfl⟩, ⟨o, kN _ _ ho, hcl, nn, hd⟩⟩
  have w0 : ∀ b ob, s.heap.get? b = some ob → b ∉ [s.heap.objs.size] := fun b ob e z => by
    rw [List.mem_singleton.mp z, nI] at e
    cases e
  rw [← hN]
  refine wpAny_bind (wpAny_newObj_type ?_)
  have sf : N.objs.size ∉ [s.heap.objs.size, l] := by
    simp only [List.mem_cons, List.not_mem_nil, or_false, not_or]
    rw [zN]
    exact ⟨Nat.succ_ne_self _, Ne.symm (Nat.ne_of_lt (Nat.lt_succ_of_lt lt))⟩
  have s0 : s.heap.get? N.objs.size = none := by
    cases e : s.heap.get? N.objs.size with
    | none => rfl
    | some o =>
      have q := Heap.lt_size e
      rw [zN] at q
      exact absurd q (Nat.not_lt_of_lt (Nat.lt_succ_self _))
  rw [nm]
  refine wpAny_pure ⟨plainId_quiet F.plain_min_loop _, ?_⟩
  obtain ⟨N2, hN2⟩ : ∃ N2, N2 = N.push { cls := .type "list", dict := none, data := .seq #[] 0, slots := #[] } := ⟨_, rfl⟩
  have kN2 : ∀ b o, N.get? b = some o → N2.get? b = some o := fun b o e => by rw [hN2]; exact Heap.get?_push_of_some _ e
  have hS : N2.get? N.objs.size = some { cls := .type "list", dict := none, data := .seq #[] 0, slots := #[] } := by rw [hN2]; exact Heap.get?_push_size _ rfl
  have st1 := W.frame 0 N N2 st0 fun b _ o e => kN2 b o e
  have kp2 : Kp s.heap N2 := fun b o e => kN2 b o (kN b o e)
  have sw : N.objs.size ∉ [s.heap.objs.size] := by
    rw [List.mem_singleton, zN]
    exact Nat.succ_ne_self _
  rw [← hN2]
  refine codeAny_builtin F.entry_min_loop ?_
  rw [Around.under_plainId F.plain_min_loop _]
  show wpAny _ A.in1 (seqItems? (.ref N.objs.size) >>= _) _ _ _
  refine wpAny_bind (wpAny_seqItems hS rfl ?_)
  show wpAny _ A.in1 (tryCatch (pyNext (.ref s.heap.objs.size)) _ >>= _) _ _ _
  refine wpAny_bind (wpAny_tryCatch (W.item 0 _ _ _ hn st1 fun x h' tk px st' kk => ?_))
  have hS' := kk N.objs.size _ sw hS
  have kp' : Kp s.heap h' := fun b o e => kk b o (w0 b o e) (kp2 b o e)
  show wpAny _ A.in1 (updateSeq N.objs.size (fun _ => #[x, x]) >>= _) _ _ _
  refine wpAny_bind (wpAny_updateSeq hS' rfl ?_)
  rw [nm]
  refine wpAny_pure ⟨plainId_quiet F.plain_min_loop _, mnTurns W bt cmp sf w0 s0 (its.size - 1) 0 _ x _ (by omega) (W.frame _ _ _ st' fun b hf o e => ?_) (fun b o e => ?_) px (Heap.get?_update_self _ hS' rfl) fun v h2 t2 pv k2 kk2 => ?_⟩
  · exact (Heap.get?_update_other _ _ (fun z : N.objs.size = b => sf (by rw [z]; exact hf))).trans e
  · have hb : b ≠ N.objs.size := fun z => by rw [z, s0] at e; cases e
    exact (Heap.get?_update_other _ _ (Ne.symm hb)).trans (kp' b o e)
  · exact h v h2 t2 pv k2
end

theorem pairR : ∀ {xs : List V} {us : List Value} {i : Nat} {u : Value}, Vals xs us → us[i]? = some u → ∃ x, xs[i]? = some x ∧ RelV x u
  | _, _, _, _, .nil, h => by simp at h
  | _, _, 0, _, .cons r _, h => by
    simp at h
    subst h
    exact ⟨_, rfl, r⟩
  | _, _, i + 1, _, .cons _ t, h => by
    obtain ⟨x, h1, h2⟩ := pairR (i := i) t (by simpa using h)
    exact ⟨x, by simpa using h1, h2⟩
def ltP (p q : Int × Int) : Bool := HT.lexLt [p.1, p.2] [q.1, q.2]
def minPs (p : Int × Int) : List (Int × Int) → Int × Int
  | [] => p
  | q :: r => minPs (if ltP q p then q else p) r
theorem minPs_snoc (q : Int × Int) : ∀ (r : List (Int × Int)) (p : Int × Int), minPs p (r ++ [q]) = if ltP q (minPs p r) then q else minPs p r
  | [], p => rfl
  | x :: r, p => minPs_snoc q r _
def btP (ps : List (Int × Int)) (i j : Nat) : Bool := ltP (ps.getD i (0, 0)) (ps.getD j (0, 0))
theorem best_min (p : Int × Int) (r : List (Int × Int)) : ∀ k, k ≤ r.length → (p :: r).getD (argBest (btP (p :: r)) k) (0, 0) = minPs p (r.take k) ∧ argBest (btP (p :: r)) k ≤ k
  | 0, _ => ⟨rfl, Nat.le_refl _⟩
  | k + 1, hk => by
    obtain ⟨h1, h2⟩ := best_min p r k (by omega)
    have hat : r[k]? = some r[k] := List.getElem?_eq_getElem (by omega)
    have e1 : r.take (k + 1) = r.take k ++ [r[k]] := by rw [List.take_succ, hat]; rfl
    have e2 : (p :: r).getD (k + 1) (0, 0) = r[k] := by
      rw [List.getD_eq_getElem?_getD, List.getElem?_cons_succ, hat]
      rfl
    rw [e1, minPs_snoc, ← h1]
    have e3 : btP (p :: r) (k + 1) (argBest (btP (p :: r)) k) = ltP r[k] ((p :: r).getD (argBest (btP (p :: r)) k) (0, 0)) := by
      unfold btP
      rw [e2]
    cases hb : btP (p :: r) (k + 1) (argBest (btP (p :: r)) k) with
    | true =>
      have e4 : argBest (btP (p :: r)) (k + 1) = k + 1 := by simp only [argBest, hb, if_true]
      rw [e4, e2, ← e3, hb]
      exact ⟨rfl, Nat.le_refl _⟩
    | false =>
      have e4 : argBest (btP (p :: r)) (k + 1) = argBest (btP (p :: r)) k := by simp only [argBest, hb, Bool.false_eq_true, if_false]
      rw [e4, ← e3, hb]
      exact ⟨rfl, by omega⟩
/-- min(x), x a list of pairs of whole numbers -/
def rMinP (K : PySem.W.Frag) : List V → Hp → VK → Prop := fun vs H Q => ∃ (a : Addr) (xs : List V) (p : Int × Int) (r : List (Int × Int)), vs = [.ref a] ∧ SqL K H a xs ∧ xs.length = r.length + 1 ∧ (∀ i x, xs[i]? = some x → ∃ t, x = .ref t ∧ SqT K H t [.int ((p :: r).getD i (0, 0)).1, .int ((p :: r).getD i (0, 0)).2]) ∧
  ∀ (i : Nat) (v : V), xs[i]? = some v → (p :: r).getD i (0, 0) = minPs p r → Q v H
theorem cr_minP {X : Cx} (hc : X.calm = true) (hu : X.A.units + 500 < cLine) : CallR X (.builtin "min") (rMinP X.K) := by
  intro pins s σ H vs us Q I rr h
  obtain ⟨a, xs, p, r, rfl, hs, hl, ht, q⟩ := h
  obtain ⟨its, rv, pl, _⟩ := I.list hs
  rw [Vals.ref1 rr]
  have hlen : its.length = r.length + 1 := by rw [← rv.length]; exact hl
  have tup : ∀ i x, its.toArray[i]? = some x → ∃ (t : Addr) (ia : Array Value), x = .ref t ∧ IsTup s.heap t ia ∧ IntsAre ia.toList [((p :: r).getD i (0, 0)).1, ((p :: r).getD i (0, 0)).2] := fun i x e => by
    have e : its[i]? = some x := by simpa using e
    obtain ⟨y, ey, ry⟩ := pairR rv e
    obtain ⟨t, rfl, st⟩ := ht i y ey
    obtain ⟨it2, r2, p2, _⟩ := I.tuple st
    cases ry
    exact ⟨t, it2.toArray, rfl, p2, intsAre_of (ns := [_, _]) r2⟩
  refine mnList (I.ok.hd hc) pl.isList (by rw [List.size_toArray, hlen]; exact Nat.succ_pos _) (btP (p :: r)) (fun i j x y s' Q' E' kp ex ey hq => ?_) fun v h' tk ev kp => ?_
  · obtain ⟨t1, i1, rfl, ⟨o1, ho1, r1⟩, h1⟩ := tup i x ex
    obtain ⟨t2, i2, rfl, ⟨o2, ho2, r2⟩, h2⟩ := tup j y ey
    exact HT.lt_tupInts ⟨o1, kp _ _ ho1, r1⟩ ⟨o2, kp _ _ ho2, r2⟩ h1 h2 (by show X.A.units + 1 < cLine; omega) hq
  · have e : its[argBest (btP (p :: r)) (its.toArray.size - 1)]? = some v := by simpa using ev
    obtain ⟨y, ey, ry⟩ := pairR rv e
    have hz : its.toArray.size - 1 = r.length := by rw [List.size_toArray, hlen]; rfl
    rw [hz] at ey
    obtain ⟨b1, _⟩ := best_min p r r.length (Nat.le_refl _)
    rw [List.take_length] at b1
    exact ⟨y, H, I.kept kp, ry, q _ y ey b1⟩
end GK

/-! zip of a tuple and a list -/
namespace GK
open PySem PySem.Spec PyProof.Rows L2
/-- one side of a zip: an iterator, what it goes over, and its turns -/
structure Sd where
  I : Heap → Addr → Addr → Nat → Prop
  L : Heap → Addr → Array Value → Prop
  Ia : ∀ {h h' : Heap} {i l : Addr} {k : Nat}, I h i l k → (∀ o, h.get? i = some o → h'.get? i = some o) → I h' i l k
  La : ∀ {h h' : Heap} {l : Addr} {xs : Array Value}, L h l xs → (∀ o, h.get? l = some o → h'.get? l = some o) → L h' l xs
  item : ∀ {prog : Program} {w : World} {A : Around} {E : Value → Shared → Prop} {s : Shared} {i l : Addr} {k : Nat} {xs : Array Value} {x : Value} {Q : Value → Shared → Prop}, I s.heap i l k → L s.heap l xs → xs[k]? = some x →
    (∀ h', I h' i l (k + 1) → Heap.SameBut i s.heap h' → Q x { s with heap := h' }) → wpAny (model prog w) A (Builtin.SmallTypes.nextOf (.ref i)) Q E s
  over : ∀ {prog : Program} {w : World} {A : Around} {E : Value → Shared → Prop} {s : Shared} {i l : Addr} {k : Nat} {xs : Array Value} {Q : Value → Shared → Prop}, A.handled = none → I s.heap i l k → L s.heap l xs → xs[k]? = none →
    (∀ h' e, Heap.ExtBut i s.heap h' → (∃ o, h'.get? e = some o ∧ o.cls = .type "StopIteration") → E (.ref e) { s with heap := h' }) → wpAny (model prog w) A (Builtin.SmallTypes.nextOf (.ref i)) Q E s
def sdT : Sd := ⟨fun h i l k => h.IsTupleIter i l k, fun h l xs => h.IsTuple l xs, fun x e => x.at e, fun x e => x.at e, fun a b c q => RZ.nextOf_tuple_item a b c q, fun h a b c q => RZ.nextOf_tuple_end h a b c q⟩
def sdL : Sd := ⟨fun h i l k => h.IsListIter i l k, fun h l xs => h.IsList l xs, fun x e => x.at e, fun x e => x.at e, fun a b c q => wpAny_nextOf_list_item a b c q, fun h a b c q => wpAny_nextOf_list_end h a b c q⟩
section
variable {prog : Program} {w : World} {A : Around} {E : Value → Shared → Prop} {s : Shared}
/-- both sides hand out -/
theorem zs_item (u v : Sd) {z TI TO i1 i2 l1 l2 : Addr} {k1 k2 : Nat} {xs ys : Array Value} {x y a b : Value} {Q : Value → Shared → Prop} (D : ZipApart z TI TO i1 i2 l1 l2)
    (hz : IsZip s.heap z TI TO .none) (hTI : IsPair s.heap TI (.ref i1) (.ref i2)) (hTO : IsPair s.heap TO a b)
    (h1 : u.I s.heap i1 l1 k1) (h2 : v.I s.heap i2 l2 k2) (hl1 : u.L s.heap l1 xs) (hl2 : v.L s.heap l2 ys) (hx : xs[k1]? = some x) (hy : ys[k2]? = some y)
    (hQ : ∀ h', IsZip h' z TI TO (rawInt s.heap.objs.size) → IsPair h' TO x y → u.I h' i1 l1 (k1 + 1) → v.I h' i2 l2 (k2 + 1) → IsPair h' s.heap.objs.size x y → h'.objs.size = s.heap.objs.size + 1 →
      (∀ c o, c ≠ z → c ≠ TO → c ≠ i1 → c ≠ i2 → s.heap.get? c = some o → h'.get? c = some o) → Q (.ref s.heap.objs.size) { s with heap := h' }) :
    wpAny (model prog w) A (Builtin.«zip.__next__» ⟨[.ref z], []⟩) (fun fin s' => ∃ v, fin = .done (.ret v) ∧ Q v s') E s := by
  show wpAny _ _ (field (.ref z) 2 >>= _) _ _ _
  refine wpAny_bind (wpAny_field hz rfl (x := .bool false) rfl ?_)
  show wpAny _ _ (field (.ref z) 3 >>= _) _ _ _
  refine wpAny_bind (wpAny_field hz rfl (x := .ref TI) rfl (wpAny_bind (wpAny_seqItems hTI rfl ?_)))
  show wpAny _ _ (Builtin.SmallTypes.ownedTupleIsFree (.ref z) >>= _) _ _ _
  refine wpAny_bind ?_
  unfold Builtin.SmallTypes.ownedTupleIsFree
  refine wpAny_bind (wpAny_field hz rfl (x := .none) rfl (wpAny_pure ?_))
  simp only [if_true]
  refine wpAny_bind (wpAny_rule (wpAny_bind (wpAny_field hz rfl (x := .ref TO) rfl (wpAny_bind (wpAny_setField_rec hz (by simp) fun g1 hz1 s1 => wpAny_bind ?_)))))
  replace hz1 : IsZip g1 z TI TO .ellipsis := hz1
  simp only [List.zipIdx_cons, List.zipIdx_nil, List.forIn_cons, List.forIn_nil]
  refine wpAny_bind (wpAny_bind (wpAny_onRaise ?_))
  show wpAny _ _ (Builtin.SmallTypes.nextOf (.ref i1) >>= _) _ _ _
  refine wpAny_bind (u.item (u.Ia h1 fun o => s1.extBut _ o D.i1z) (u.La hl1 fun o => s1.extBut _ o D.l1z) hx fun g2 j1 s2 => wpAny_pure ?_)
  have t2 : IsPair g2 TO a b := s2.extBut _ _ D.TOi1 (s1.extBut _ _ D.TOz hTO)
  refine wpAny_bind (wpAny_seqItems t2 rfl (wpAny_bind (wpAny_updateSeq_pair t2 fun g3 t3 s3 => wpAny_bind (wpAny_letGo (wpAny_pure ?_)))))
  replace t3 : IsPair g3 TO x b := t3
  refine wpAny_bind (wpAny_bind (wpAny_onRaise ?_))
  show wpAny _ _ (Builtin.SmallTypes.nextOf (.ref i2) >>= _) _ _ _
  refine wpAny_bind (v.item (v.Ia h2 fun o e => s3.extBut _ o D.TOi2.symm (s2.extBut _ o D.i12.symm (s1.extBut _ o D.i2z e))) (v.La hl2 fun o e => s3.extBut _ o D.l2TO (s2.extBut _ o D.l2i1 (s1.extBut _ o D.l2z e))) hy fun g4 j2 s4 => wpAny_pure ?_)
  have t4 : IsPair g4 TO x b := s4.extBut _ _ D.TOi2 t3
  refine wpAny_bind (wpAny_seqItems t4 rfl (wpAny_bind (wpAny_updateSeq_pair t4 fun g5 t5 s5 => wpAny_bind (wpAny_letGo (wpAny_pure (wpAny_pure ?_))))))
  replace t5 : IsPair g5 TO x y := t5
  refine wpAny_bind (wpAny_seqItems t5 rfl (wpAny_bind (wpAny_newTuple ?_)))
  have hn : g5.objs.size = s.heap.objs.size := by rw [s5.1, s4.1, s3.1, s2.1, s1.1]
  have z5 : IsZip g5 z TI TO .ellipsis := s5.extBut _ _ D.TOz.symm (s4.extBut _ _ D.i2z.symm (s3.extBut _ _ D.TOz.symm (s2.extBut _ _ D.i1z.symm hz1)))
  have k5 : ∀ c o, c ≠ z → c ≠ TO → c ≠ i1 → c ≠ i2 → s.heap.get? c = some o → g5.get? c = some o := fun c o c1 c2 c3 c4 e => s5.extBut _ _ c2 (s4.extBut _ _ c4 (s3.extBut _ _ c2 (s2.extBut _ _ c3 (s1.extBut _ _ c1 e))))
  have zl : z < g5.objs.size := Heap.lt_size z5
  show wpAny _ _ (Builtin.SmallTypes.ownedTupleHandOut (.ref z) (.ref g5.objs.size) >>= _) _ _ _
  refine wpAny_bind ?_
  unfold Builtin.SmallTypes.ownedTupleHandOut
  have z6 : IsZip (g5.push { cls := .type "tuple", data := .seq #[x, y] }) z TI TO .ellipsis := Heap.get?_push_of_some _ z5
  refine wpAny_bind (wpAny_setField_rec z6 (by simp) fun g7 z7 s7 => ?_)
  replace z7 : IsZip g7 z TI TO (rawInt g5.objs.size) := z7
  refine wpAny_setField_rec z7 (by simp) fun g8 z8 s8 => ?_
  replace z8 : IsZip g8 z TI TO (rawInt g5.objs.size) := z8
  have up : ∀ c o, c ≠ z → g5.get? c = some o → g8.get? c = some o := fun c o c1 e => s8.extBut _ _ c1 (s7.extBut _ _ c1 (Heap.get?_push_of_some _ e))
  have p8 : IsPair g8 g5.objs.size x y := s8.extBut _ _ (Nat.ne_of_gt zl) (s7.extBut _ _ (Nat.ne_of_gt zl) (Heap.get?_push_size _ rfl))
  have n8 : g8.objs.size = g5.objs.size + 1 := by rw [s8.1, s7.1, Heap.size_push]
  rw [hn] at z8 p8 n8
  refine wpAny_pure ⟨_, rfl, ?_⟩
  show Q (.ref g5.objs.size) _
  rw [hn]
  exact hQ g8 z8 (up _ _ D.TOz t5) (u.Ia j1 fun o e => up _ o D.i1z (s5.extBut _ o D.TOi1.symm (s4.extBut _ o D.i12 (s3.extBut _ o D.TOi1.symm e)))) (v.Ia j2 fun o e => up _ o D.i2z (s5.extBut _ o D.TOi2.symm e)) p8 n8 fun c o c1 c2 c3 c4 e => up c o c1 (k5 c o c1 c2 c3 c4 e)
/-- one side is at its end -/
theorem zs_over (u v : Sd) {z TI TO i1 i2 l1 l2 : Addr} {k1 k2 : Nat} {xs ys : Array Value} {a b : Value} {Q : Fin → Shared → Prop} (hh : A.handled = none) (D : ZipApart z TI TO i1 i2 l1 l2)
    (hz : IsZip s.heap z TI TO .none) (hTI : IsPair s.heap TI (.ref i1) (.ref i2)) (hTO : IsPair s.heap TO a b)
    (h1 : u.I s.heap i1 l1 k1) (h2 : v.I s.heap i2 l2 k2) (hl1 : u.L s.heap l1 xs) (hl2 : v.L s.heap l2 ys) (hend : xs[k1]? = none ∨ ys[k2]? = none)
    (hE : ∀ h' e, (∀ c o, c ≠ z → c ≠ TO → c ≠ i1 → c ≠ i2 → s.heap.get? c = some o → h'.get? c = some o) → (∃ o, h'.get? e = some o ∧ o.cls = .type "StopIteration") → E (.ref e) { s with heap := h' }) :
    wpAny (model prog w) A (Builtin.«zip.__next__» ⟨[.ref z], []⟩) Q E s := by
  show wpAny _ _ (field (.ref z) 2 >>= _) _ _ _
  refine wpAny_bind (wpAny_field hz rfl (x := .bool false) rfl ?_)
  show wpAny _ _ (field (.ref z) 3 >>= _) _ _ _
  refine wpAny_bind (wpAny_field hz rfl (x := .ref TI) rfl (wpAny_bind (wpAny_seqItems hTI rfl ?_)))
  show wpAny _ _ (Builtin.SmallTypes.ownedTupleIsFree (.ref z) >>= _) _ _ _
  refine wpAny_bind ?_
  unfold Builtin.SmallTypes.ownedTupleIsFree
  refine wpAny_bind (wpAny_field hz rfl (x := .none) rfl (wpAny_pure ?_))
  simp only [if_true]
  refine wpAny_bind (wpAny_rule (wpAny_bind (wpAny_field hz rfl (x := .ref TO) rfl (wpAny_bind (wpAny_setField_rec hz (by simp) fun g1 hz1 s1 => wpAny_bind ?_)))))
  replace hz1 : IsZip g1 z TI TO .ellipsis := hz1
  simp only [List.zipIdx_cons, List.zipIdx_nil, List.forIn_cons, List.forIn_nil]
  refine wpAny_bind (wpAny_bind (wpAny_onRaise ?_))
  show wpAny _ _ (Builtin.SmallTypes.nextOf (.ref i1) >>= _) _ _ _
  cases hx : xs[k1]? with
  | none =>
    refine wpAny_bind (u.over hh (u.Ia h1 fun o => s1.extBut _ o D.i1z) (u.La hl1 fun o => s1.extBut _ o D.l1z) hx fun g2 e s2 he => ?_)
    obtain ⟨oe, hoe, hce⟩ := he
    have z2 : IsZip g2 z TI TO .ellipsis := s2 _ _ D.i1z.symm hz1
    have hez : e ≠ z := fun q => by
      subst q
      rw [z2] at hoe
      cases hoe
      simp at hce
    exact wpAny_setField_rec z2 (by simp) fun g3 _ s3 => hE g3 e (fun c o c1 _ c3 _ q => s3.extBut _ _ c1 (s2 _ _ c3 (s1.extBut _ _ c1 q))) ⟨oe, s3.extBut _ _ hez hoe, hce⟩
  | some x =>
    have hy : ys[k2]? = none := hend.resolve_left fun q => by
      rw [hx] at q
      cases q
    refine wpAny_bind (u.item (u.Ia h1 fun o => s1.extBut _ o D.i1z) (u.La hl1 fun o => s1.extBut _ o D.l1z) hx fun g2 j1 s2 => wpAny_pure ?_)
    have t2 : IsPair g2 TO a b := s2.extBut _ _ D.TOi1 (s1.extBut _ _ D.TOz hTO)
    refine wpAny_bind (wpAny_seqItems t2 rfl (wpAny_bind (wpAny_updateSeq_pair t2 fun g3 t3 s3 => wpAny_bind (wpAny_letGo (wpAny_pure ?_)))))
    refine wpAny_bind (wpAny_bind (wpAny_onRaise ?_))
    show wpAny _ _ (Builtin.SmallTypes.nextOf (.ref i2) >>= _) _ _ _
    refine wpAny_bind (v.over hh (v.Ia h2 fun o e => s3.extBut _ o D.TOi2.symm (s2.extBut _ o D.i12.symm (s1.extBut _ o D.i2z e))) (v.La hl2 fun o e => s3.extBut _ o D.l2TO (s2.extBut _ o D.l2i1 (s1.extBut _ o D.l2z e))) hy fun g4 e s4 he => ?_)
    obtain ⟨oe, hoe, hce⟩ := he
    have z4 : IsZip g4 z TI TO .ellipsis := s4 _ _ D.i2z.symm (s3.extBut _ _ D.TOz.symm (s2.extBut _ _ D.i1z.symm hz1))
    have hez : e ≠ z := fun q => by
      subst q
      rw [z4] at hoe
      cases hoe
      simp at hce
    exact wpAny_setField_rec z4 (by simp) fun g5 _ s5 => hE g5 e (fun c o c1 c2 c3 c4 q => s5.extBut _ _ c1 (s4 _ _ c4 (s3.extBut _ _ c2 (s2.extBut _ _ c3 (s1.extBut _ _ c1 q))))) ⟨oe, s5.extBut _ _ hez hoe, hce⟩
theorem zs_next (u v : Sd) {z TI TO i1 i2 l1 l2 : Addr} {k1 k2 : Nat} {xs ys : Array Value} {x y a b : Value} {Q : Option Value → Shared → Prop} (D : ZipApart z TI TO i1 i2 l1 l2)
    (hz : IsZip s.heap z TI TO .none) (hTI : IsPair s.heap TI (.ref i1) (.ref i2)) (hTO : IsPair s.heap TO a b)
    (h1 : u.I s.heap i1 l1 k1) (h2 : v.I s.heap i2 l2 k2) (hl1 : u.L s.heap l1 xs) (hl2 : v.L s.heap l2 ys) (hx : xs[k1]? = some x) (hy : ys[k2]? = some y)
    (hQ : ∀ h', IsZip h' z TI TO (rawInt s.heap.objs.size) → IsPair h' TO x y → u.I h' i1 l1 (k1 + 1) → v.I h' i2 l2 (k2 + 1) → IsPair h' s.heap.objs.size x y → h'.objs.size = s.heap.objs.size + 1 →
      (∀ c o, c ≠ z → c ≠ TO → c ≠ i1 → c ≠ i2 → s.heap.get? c = some o → h'.get? c = some o) → Q (some (.ref s.heap.objs.size)) { s with heap := h' }) :
    wpAny (model prog w) A (pyNext (.ref z)) Q E s := by
  have hT : s.TypeIs (.ref z) "zip" := ⟨_, hz, rfl⟩
  unfold pyNext
  exact wpAny_bind (wpAny_attempt (wpAny_callSpecial?_slot (name := Str.ofString "__next__") hT F.slot_zip_next
    (wpAny_call_entry F.slot_zip_next hT F.entry_zip_next (zs_item u v D hz hTI hTO h1 h2 hl1 hl2 hx hy fun h' a1 a2 a3 a4 a5 a6 a7 => wpAny_pure (hQ h' a1 a2 a3 a4 a5 a6 a7)) (F.args_zip_next_1 _))))
theorem zs_end (u v : Sd) {z TI TO i1 i2 l1 l2 : Addr} {k1 k2 : Nat} {xs ys : Array Value} {a b : Value} {Q : Option Value → Shared → Prop} (hh : A.handled = none) (D : ZipApart z TI TO i1 i2 l1 l2)
    (hz : IsZip s.heap z TI TO .none) (hTI : IsPair s.heap TI (.ref i1) (.ref i2)) (hTO : IsPair s.heap TO a b)
    (h1 : u.I s.heap i1 l1 k1) (h2 : v.I s.heap i2 l2 k2) (hl1 : u.L s.heap l1 xs) (hl2 : v.L s.heap l2 ys) (hend : xs[k1]? = none ∨ ys[k2]? = none)
    (hQ : ∀ h', (∀ c o, c ≠ z → c ≠ TO → c ≠ i1 → c ≠ i2 → s.heap.get? c = some o → h'.get? c = some o) → Q none { s with heap := h' }) : wpAny (model prog w) A (pyNext (.ref z)) Q E s := by
  have hT : s.TypeIs (.ref z) "zip" := ⟨_, hz, rfl⟩
  unfold pyNext
  refine wpAny_bind (wpAny_attempt (wpAny_callSpecial?_slot (name := Str.ofString "__next__") hT F.slot_zip_next
    (wpAny_call_entry F.slot_zip_next hT F.entry_zip_next (zs_over u v hh D hz hTI hTO h1 h2 hl1 hl2 hend fun h' e hk he => ?_) (F.args_zip_next_1 _))))
  obtain ⟨o, ho, hc⟩ := he
  exact wpAny_bind (wpAny_isInstance (T := "StopIteration") (b := true) ⟨o, ho, hc⟩ isSubtype_stop (wpAny_pure (hQ _ hk)))
abbrev zM1 (h : Heap) (l1 : Addr) : Heap := h.push { cls := .type "tuple_iterator", data := .fields #[.ref l1, .int 0 0] }
abbrev zM2 (h : Heap) (l1 l2 : Addr) : Heap := (zM1 h l1).push { cls := .type "list_iterator", data := .fields #[.ref l2, .int 0 0] }
abbrev zM3 (h : Heap) (l1 l2 : Addr) : Heap := (zM2 h l1 l2).push { cls := .type "tuple", data := .seq #[.ref h.objs.size, .ref (zM1 h l1).objs.size] }
abbrev zM4 (h : Heap) (l1 l2 : Addr) : Heap := (zM3 h l1 l2).push { cls := .type "tuple", data := .seq #[.none, .none] }
abbrev zM5 (h : Heap) (l1 l2 : Addr) : Heap := (zM4 h l1 l2).push { cls := .type "zip", data := .fields #[.none, .bool false, .bool false, .ref (zM2 h l1 l2).objs.size, .ref (zM3 h l1 l2).objs.size] }
theorem zm_new (l1 l2 : Addr) (xs ys : Array Value) :
    Meets (Builtin.«zip.__new__» ⟨[.type "zip", .ref l1, .ref l2], []⟩) (fun _ R s => s.heap.IsTuple l1 xs ∧ s.heap.IsList l2 ys ∧ R (.ok (.ret (.ref (zM4 s.heap l1 l2).objs.size))) { s with heap := zM5 s.heap l1 l2 }) :=
  .of_wp fun prog w A R s h => by
    obtain ⟨hp, g, d, tk, os⟩ := s
    obtain ⟨hl1, hl2, h⟩ := h
    have hsub := sub_zip
    have a1 : Heap.IsTuple (Shared.heap ⟨hp, g, d, tk, os⟩) l1 xs := hl1
    have a2 : Heap.IsList (Shared.heap ⟨hp.push { cls := .type "tuple_iterator", data := .fields #[.ref l1, .int 0 0] }, g, d, tk, os⟩) l2 ys := Heap.IsList.push hl2 _
    wp_walk using wpAny_pyIter_tuple a1, wpAny_pyIter_list a2
    exact ⟨_, rfl, h⟩
theorem zm_call {l1 l2 : Addr} {xs ys : Array Value} {Q : Value → Shared → Prop} (hl1 : s.heap.IsTuple l1 xs) (hl2 : s.heap.IsList l2 ys)
    (h : ∀ h', IsZip h' (s.heap.objs.size + 4) (s.heap.objs.size + 2) (s.heap.objs.size + 3) .none → IsPair h' (s.heap.objs.size + 2) (.ref s.heap.objs.size) (.ref (s.heap.objs.size + 1)) →
      IsPair h' (s.heap.objs.size + 3) .none .none → h'.IsTupleIter s.heap.objs.size l1 0 → h'.IsListIter (s.heap.objs.size + 1) l2 0 → h'.objs.size = s.heap.objs.size + 5 →
      (∀ c o, s.heap.get? c = some o → h'.get? c = some o) → Q (.ref (s.heap.objs.size + 4)) { s with heap := h' }) :
    wpAny (model prog w) A (call (.type "zip") [.ref l1, .ref l2]) Q E s := by
  refine callType_new F.called_zip (by decide) (F.typeCall_zip_2 _ _) (F.newCall_zip_2 _ _) (fun obj => F.args_object_init_3 obj _ _) F.entry_zip_new (zm_new l1 l2 xs ys) ⟨hl1, hl2, ?_⟩
  have z1 : (zM1 s.heap l1).objs.size = s.heap.objs.size + 1 := Heap.size_push ..
  have z2 : (zM2 s.heap l1 l2).objs.size = s.heap.objs.size + 2 := by rw [Heap.size_push, z1]
  have z3 : (zM3 s.heap l1 l2).objs.size = s.heap.objs.size + 3 := by rw [Heap.size_push, z2]
  have z4 : (zM4 s.heap l1 l2).objs.size = s.heap.objs.size + 4 := by rw [Heap.size_push, z3]
  have z5 : (zM5 s.heap l1 l2).objs.size = s.heap.objs.size + 5 := by rw [Heap.size_push, z4]
  have g5 : (zM5 s.heap l1 l2).get? (zM4 s.heap l1 l2).objs.size = some _ := Heap.get?_push_size _ rfl
  have g4 : (zM5 s.heap l1 l2).get? (zM3 s.heap l1 l2).objs.size = some _ := Heap.get?_push_of_some _ (Heap.get?_push_size _ rfl)
  have g3 : (zM5 s.heap l1 l2).get? (zM2 s.heap l1 l2).objs.size = some _ := Heap.get?_push_of_some _ (Heap.get?_push_of_some _ (Heap.get?_push_size _ rfl))
  have g2 : (zM5 s.heap l1 l2).get? (zM1 s.heap l1).objs.size = some _ := Heap.get?_push_of_some _ (Heap.get?_push_of_some _ (Heap.get?_push_of_some _ (Heap.get?_push_size _ rfl)))
  have g1 : (zM5 s.heap l1 l2).get? s.heap.objs.size = some _ := Heap.get?_push_of_some _ (Heap.get?_push_of_some _ (Heap.get?_push_of_some _ (Heap.get?_push_of_some _ (Heap.get?_push_size _ rfl))))
  show _ ∧ _
  rw [z2, z3, z4] at g5
  rw [z1, z2] at g3
  rw [z3] at g4
  rw [z1] at g2
  rw [z4]
  exact ⟨⟨_, g5, rfl⟩, h _ g5 g3 g4 ⟨_, g1, rfl, rfl⟩ ⟨_, g2, rfl, rfl⟩ z5 fun c o x => Heap.get?_push_of_some _ (Heap.get?_push_of_some _ (Heap.get?_push_of_some _ (Heap.get?_push_of_some _ (Heap.get?_push_of_some _ x))))⟩
end
/-- the tuple at a and the list at b as they stand at each turn -/
def ItzM (K : PySem.W.Frag) (a b : Addr) : It :=
  ⟨fun i H => ∃ (xs ys : List V) (x y : V), SqT K H a xs ∧ SqL K H b ys ∧ xs[i]? = some x ∧ ys[i]? = some y,
    fun i H v H' => ∃ T x y, v = .ref T ∧ H T = none ∧ H' = upd H T (.tup [x, y]) ∧ (∀ xs, SqT K H a xs → xs[i]? = some x) ∧ ∀ ys, SqL K H b ys → ys[i]? = some y,
    fun i H => ∃ xs ys : List V, SqT K H a xs ∧ SqL K H b ys ∧ (xs.length ≤ i ∨ ys.length ≤ i)⟩
theorem turn_zipM {P : Program} {w : World} {K : PySem.W.Frag} {elts : List Expr} {kk : Nat} {tpos : Pos} {a b z TI TO i1 i2 : Addr} (D : ZipApart z TI TO i1 i2 a b) :
    Turn P w K (.Tuple elts kk tpos) (ItzM K a b) [z, TI, TO, i1, i2] z (fun i h => IsZip h z TI TO .none ∧ IsPair h TI (.ref i1) (.ref i2) ∧ (∃ x y, IsPair h TO x y) ∧ h.IsTupleIter i1 a i ∧ h.IsListIter i2 b i) where
  mem := by simp
  obj := fun i h st c hc => by
    obtain ⟨hz, hTI, ⟨x, y, hTO⟩, ⟨o1, e1, _, d1⟩, ⟨o2, e2, _, d2⟩⟩ := st
    simp only [List.mem_cons, List.not_mem_nil, or_false] at hc
    rcases hc with q | q | q | q | q
    · rw [q]; exact ⟨_, hz, fun v q => nomatch q⟩
    · rw [q]; exact ⟨_, hTI, fun v q => nomatch q⟩
    · rw [q]; exact ⟨_, hTO, fun v q => nomatch q⟩
    · rw [q]; exact ⟨o1, e1, fun v q => by rw [d1] at q; cases q⟩
    · rw [q]; exact ⟨o2, e2, fun v q => by rw [d2] at q; cases q⟩
  keep := fun i h h' st k => by
    obtain ⟨hz, hTI, ⟨x, y, hTO⟩, h1, h2⟩ := st
    exact ⟨k z (by simp) _ hz, k TI (by simp) _ hTI, ⟨x, y, k TO (by simp) _ hTO⟩, h1.at fun o q => k i1 (by simp) o q, h2.at fun o q => k i2 (by simp) o q⟩
  item := by
    intro X hP hw hK hc i pins s σ H E I hf st hg
    subst hP hw hK
    obtain ⟨hz, hTI, ⟨x0, y0, hTO⟩, h1, h2⟩ := st
    obtain ⟨xs, ys, x, y, hqx, hqy, hx, hy⟩ := hg
    obtain ⟨its, rv, p, _⟩ := I.tuple hqx
    obtain ⟨its2, rv2, p2, _⟩ := I.list hqy
    obtain ⟨u, hu, ru⟩ := rv.get hx
    obtain ⟨u2, hu2, ru2⟩ := rv2.get hy
    have hzl : z < s.heap.objs.size := Heap.lt_size hz
    refine zs_next sdT sdL D hz hTI hTO h1 h2 p p2.isList (x := u) (y := u2) (by simpa using hu) (by simpa using hu2) fun h' z' TO' h1' h2' hT hsz hk => ?_
    refine ⟨_, rfl, wpAny_letOwnedTupleGo_zip (s := { s with heap := h' }) z' fun h'' z'' sb => ?_⟩
    have hT2 : h''.get? s.heap.objs.size = some { cls := .type "tuple", data := .seq #[u, u2] } := (sb.2 _ (Nat.ne_of_gt hzl)).trans hT
    have new : ObjOk X.prog X.w (upd H s.heap.objs.size (.tup [x, y])) h'' s.heap.objs.size (.tup [x, y]) := ⟨by show 2 ≤ sizeLine; decide, [u, u2], .cons ru (.cons ru2 .nil), ⟨_, hT2, rfl, _, rfl⟩⟩
    have I1 : Inv X pins σ (upd H s.heap.objs.size (.tup [x, y])) { s with heap := h'' } :=
      I.turnedNew (t' := s.toks) (ch := [z, TI, TO, i1, i2]) (fun c o hb q => (sb.2 c (fun q' => hb (by simp [q']))).trans (hk c o (fun q' => hb (by simp [q'])) (fun q' => hb (by simp [q'])) (fun q' => hb (by simp [q'])) (fun q' => hb (by simp [q'])) q)) hf (Nat.le_refl _) new
    refine ⟨.ref s.heap.objs.size, _, I1, rfl, ⟨_, x, y, rfl, I.hok.fresh (Nat.le_refl _), rfl, fun l hl => by rw [I.tuple_inj hl hqx]; exact hx, fun l hl => by rw [I.list_inj hl hqy]; exact hy⟩, ⟨z'', ?_, ⟨u, u2, ?_⟩, ?_, ?_⟩, fun c hcm => ?_⟩
    · exact (sb.2 _ D.TIz).trans (hk _ _ D.TIz D.TITO D.TIi1 D.TIi2 hTI)
    · exact (sb.2 _ D.TOz).trans TO'
    · exact Heap.IsTupleIter.at h1' fun o q => (sb.2 _ D.i1z).trans q
    · exact Heap.IsListIter.at h2' fun o q => (sb.2 _ D.i2z).trans q
    · have hlt : c < s.heap.objs.size := by
        simp only [List.mem_cons, List.not_mem_nil, or_false] at hcm
        rcases hcm with q | q | q | q | q
        · rw [q]; exact hzl
        · rw [q]; exact Heap.lt_size hTI
        · rw [q]; exact Heap.lt_size hTO
        · rw [q]; obtain ⟨_, e1, _⟩ := h1; exact Heap.lt_size e1
        · rw [q]; obtain ⟨_, e2, _⟩ := h2; exact Heap.lt_size e2
      rw [upd_ne (Nat.ne_of_lt hlt)]
      exact (hf c hcm).1
  done := by
    intro X hP hw hK hc i pins s σ H E I hf st hg
    subst hP hw hK
    obtain ⟨hz, hTI, ⟨x0, y0, hTO⟩, h1, h2⟩ := st
    obtain ⟨xs, ys, hqx, hqy, hend⟩ := hg
    obtain ⟨its, rv, p, _⟩ := I.tuple hqx
    obtain ⟨its2, rv2, p2, _⟩ := I.list hqy
    have l1 := rv.length
    have l2 := rv2.length
    have he : its.toArray[i]? = none ∨ its2.toArray[i]? = none := by
      rcases hend with q | q
      · exact .inl (by simp; omega)
      · exact .inr (by simp; omega)
    exact zs_end sdT sdL (I.ok.hd hc) D hz hTI hTO h1 h2 p p2.isList he fun h' hk => ⟨rfl, I.turnedL (t' := s.toks) (ch := [z, TI, TO, i1, i2]) (fun c o hb q =>
      hk c o (fun q' => hb (by simp [q'])) (fun q' => hb (by simp [q'])) (fun q' => hb (by simp [q'])) (fun q' => hb (by simp [q'])) q) hf⟩
  self := fun A i s Q E st h => wpAny_pyIter_zip st.1 h
/-- zip of two lists, two tuples, or a tuple and a list -/
def iZipX (K : PySem.W.Frag) (ta : TA) : TI := fun σ H R => ta σ H fun vs H1 => ∃ a b xs ys, vs = [.ref a, .ref b] ∧ ((SqL K H1 a xs ∧ SqL K H1 b ys ∧ R (Itz K a b) H1) ∨ (SqT K H1 a xs ∧ SqT K H1 b ys ∧ R (RZ.ItzT K a b) H1) ∨ (SqT K H1 a xs ∧ SqL K H1 b ys ∧ R (ItzM K a b) H1))
theorem pi_zipX {X : Cx} {e e2 : Expr} {ta : TA} {p pos tpos : Pos} {elts : List Expr} {kk : Nat} (hg : Gl X "zip") (hm : X.mg "zip" = none) (ha : PA X [e, e2] ta)
    (hs : starEach [e, e2] X.env = (false, eval e X.env) :: starEach [e2] X.env := by rfl) (hpl : (backTo pos (starEach [e2] X.env)).any (·.1) = false := by rfl) :
    PI X (.Tuple elts kk tpos) (.Call (.Name "zip" p) [e, e2] [] pos) (iZipX X.K ta) := by
  refine ⟨fun pins s σ H R I h => ?_⟩
  refine Call_ (ld_blt I hg hm PyProof.Rows.boot_zip (PyProof.Rows.callWith_type1 (thn (ha.run pos pins s σ H _ I h) fun us s1 ⟨vs, H1, I1, r1, q1⟩ => ?_) hs hpl))
  obtain ⟨a, b, xs, ys, ex, q1⟩ := q1
  subst ex
  cases r1 with
  | cons r rr =>
    cases rr with
    | cons r' rr =>
      cases rr
      cases r
      cases r'
      have fr : ∀ c, c ∈ [s1.heap.objs.size + 4, s1.heap.objs.size + 2, s1.heap.objs.size + 3, s1.heap.objs.size, s1.heap.objs.size + 1] → FpOk X pins H1 c := fun c hcm => by
        have hle : s1.heap.objs.size ≤ c := by
          simp only [List.mem_cons, List.not_mem_nil, or_false] at hcm
          rcases hcm with z | z | z | z | z <;> rw [z] <;> first | exact Nat.le_refl _ | exact Nat.le_add_right _ _
        exact I1.fpOk hle (I1.hok.fresh hle)
      rcases q1 with ⟨hqx, hqy, q⟩ | ⟨hqx, hqy, q⟩ | ⟨hqx, hqy, q⟩
      · obtain ⟨its, rv, p1, _⟩ := I1.list hqx
        obtain ⟨its2, rv2, p2, _⟩ := I1.list hqy
        exact call_zip_2 p1.isList p2.isList fun h' hz hTI hTO h1 h2 hsz hk => wpAny_pyIter_zip hz ⟨s1.heap.objs.size + 4, [s1.heap.objs.size + 4, s1.heap.objs.size + 2, s1.heap.objs.size + 3, s1.heap.objs.size, s1.heap.objs.size + 1], _, _, H1, rfl,
          I1.kept (t' := s1.toks) hk, turn_zip (PySem.W.ktu_apart s1.heap.objs.size a b p1.lt p2.lt), ⟨hz, hTI, ⟨_, _, hTO⟩, h1, h2⟩, fr, q⟩
      · obtain ⟨its, rv, p1, _⟩ := I1.tuple hqx
        obtain ⟨its2, rv2, p2, _⟩ := I1.tuple hqy
        obtain ⟨o1, ho1, _⟩ := id p1
        obtain ⟨o2, ho2, _⟩ := id p2
        exact RZ.call_zipT (show s1.heap.IsTuple a its.toArray from p1) (show s1.heap.IsTuple b its2.toArray from p2) fun h' hz hTI hTO h1 h2 hsz hk => wpAny_pyIter_zip hz ⟨s1.heap.objs.size + 4, [s1.heap.objs.size + 4, s1.heap.objs.size + 2, s1.heap.objs.size + 3, s1.heap.objs.size, s1.heap.objs.size + 1], _, _, H1, rfl,
          I1.kept (t' := s1.toks) hk, RZ.turn_zipT (PySem.W.ktu_apart s1.heap.objs.size a b (Heap.lt_size ho1) (Heap.lt_size ho2)), ⟨hz, hTI, ⟨_, _, hTO⟩, h1, h2⟩, fr, q⟩
      · obtain ⟨its, rv, p1, _⟩ := I1.tuple hqx
        obtain ⟨its2, rv2, p2, _⟩ := I1.list hqy
        obtain ⟨o1, ho1, _⟩ := id p1
        exact zm_call (show s1.heap.IsTuple a its.toArray from p1) p2.isList fun h' hz hTI hTO h1 h2 hsz hk => wpAny_pyIter_zip hz ⟨s1.heap.objs.size + 4, [s1.heap.objs.size + 4, s1.heap.objs.size + 2, s1.heap.objs.size + 3, s1.heap.objs.size, s1.heap.objs.size + 1], _, _, H1, rfl,
          I1.kept (t' := s1.toks) hk, turn_zipM (PySem.W.ktu_apart s1.heap.objs.size a b (Heap.lt_size ho1) p2.lt), ⟨hz, hTI, ⟨_, _, hTO⟩, h1, h2⟩, fr, q⟩
end GK

/-! a small language of pure python over deep values, and its meaning -/
namespace GK
open PySem PySem.Spec PyProof.Rows L2

inductive Err where
  | stuck | raised (c : Str)
abbrev M (α : Type) := Except Err α
def stk {α : Type} : M α := .error .stuck
/-- how a value is held: frozen; owned (new, reached by one name alone); peeked at -/
inductive Md where
  | f | o | p
  deriving DecidableEq
structure Sl where
  m : Md
  d : D
abbrev Rho := List (Option Sl)

inductive B1 where
  | len | list | tuple | int | str | sum | all | any | sorted
inductive Ty where
  | int | bool | str | list | tuple | dict
/-- families: a value, two, three -/
inductive U1 where
  | dne | mnp | joi (s : Str) | spl (s : Str) | spm (s : Str) (n : Nat) | fld (f : Str)
inductive U2 where
  | idx | get1 | spv
inductive U3 where
  | get
/-- methods that change an owned thing -/
inductive K0 where
  | rev | clr
inductive K1 where
  | rem
inductive K2 where
  | sdf
inductive Tg where
  | nm (i : Nat) | tp (is : List Nat)
mutual
inductive E where
  | var (i : Nat) | int (n : Nat) | bl (b : Bool) | non | str (s : Str)
  | bin (op : Operator) (a b : E)
  | neg (a : E) | inv (a : E)
  | cmp (op : CmpOp) (a b : E)
  | chn (op op' : CmpOp) (a b c : E)
  | isN (a : E) | notN (a : E)
  | and (a b : E) | or (a b : E) | not (a : E)
  | ife (c a b : E)
  | tup (es : Es) | lst (es : Es)
  | ix (a i : E)
  | sl (a : E) (lo hi : Eo)
  | call (f : Str) (es : Es)
  | b1 (b : B1) (a : E)
  | isi (a : E) (t : Ty)
  | lc (elt : E) (tg : Tg) (it : Iu) (ifs : Eo) (vs : List Nat)
  | lrg (it : Iu)
  | glb (x : Str) (n : Nat)
  | mm (mx : Bool) (a b : E)
  | rvl (a : E)
  | nev
  | dnw
  | dsp1 (k v : E)
  | sst (a : E)
  | gk (x : Str) (d : D)
  | gdx (x : Str) (kvs : List (Str × D)) (i : E)
  | isx (a : E) (c : Str)
  | ixs (a : E) (cs : List Str)
  | dsp (ps : Ps)
  | lns (a : E)
  | pk2 (a b c : E)
  | u1 (k : U1) (a : E) | u2 (k : U2) (a b : E) | u3 (k : U3) (a b c : E)
  | lcd (elt : E) (tg : Tg) (i : Nat) (ifs : Eo) (vs : List Nat)
  | mc (p : Nat) (c q m : Str) (es : Es) | mkc (c q : Str) (es : Es) | dnn
inductive Ps where
  | nil | cons (k v : E) (r : Ps)
inductive Es where
  | nil | cons (e : E) (es : Es)
inductive Eo where
  | none | some (e : E)
inductive Iu where
  | rg1 (a : E) | rg2 (a b : E) | seq (e : E) | rg3 (a b c : E) | enm (e : E) | zp (a b : E) | rev (e : E) | rvr (a : E)
end
/-- what is done with what a call hands back -/
inductive Ck where
  | asg (t : Tg) | ret | exp
/-- parts that may raise: atoms, and tuples of them -/
inductive Xa where
  | p (e : E)
  | c (f : Str) (es : Es)
  | l (f : Str) (es : Es) (i : Nat) (it : Iu)
  | tl (f : Str) (es : Es) (i : Nat) (it : Iu)
inductive Xe where
  | a (x : Xa)
  | t (xs : List Xa)
/-- a part of an expression that changes something, or may raise -/
inductive Ef where
  | call (f : Str) (es : Es)
  | pk (f g : Str) (c : E) (es : Es)
  | xe (x : Xe)
  | pop (x : Nat)
  | popA (x : Nat) (i : E)
  | popK (x : Nat) (k : E)
/-- what is done with it -/
inductive Ek where
  | asg (t : Tg) | ret | exp | app (y : Nat) | set (y : Nat) (i : E)
/-- what stands around it -/
inductive Po where
  | hd
  | ixn (p : Po) (n : Nat)
  | isN (p : Po)
  | eqS (p : Po) (s : Str)
  | lst1 (p : Po)
  | tupS (z : Str) (p : Po)
  | opI (op : Operator) (a : Nat) (p : Po)
  | ixv (y : Nat) (p : Po)
mutual
inductive S where
  | ef (k : Ek) (e : Ef) (p : Po)
  | eft (e : Ef) (p : Po) (a b : Ss)
  | ins (x : Nat) (i e : E)
  | fst (t x y : Nat) (c : Bool)
  | asg (t : Tg) (e : E)
  | setix (x : Nat) (i e : E)
  | aug (x : Nat) (op : Operator) (e : E)
  | app (x : Nat) (e : E)
  | ext (x : Nat) (e : E)
  | exp (e : E)
  | ret (e : E)
  | retN
  | ite (c : E) (a b : Ss)
  | for_ (t : Tg) (it : Iu) (b : Ss)
  | whl (c : E) (b : Ss)
  | brk | cont | pass | nvr
  | ndn (x : Nat)
  | fap (o e : E) | fsx (o i e : E) | fas (p : Nat) (f : Str) (e : E) | tn (g : Nat) (js : List Nat) (e : E)
  | rse (c : Str)
  | cst (k : Ck) (f : Str) (es : Es)
  | tr (b : Ss) (hs : Hs)
  | mt0 (k : K0) (x : Nat) | mt1 (k : K1) (x : Nat) (e : E) | mt2 (k : K2) (x : Nat) (e1 e2 : E)
  | fdk (t : Tg) (i : Nat) (b : Ss)
inductive Ss where
  | nil | cons (s : S) (ss : Ss) | frz (i : Nat) (ss : Ss)
inductive Hs where
  | nil | cons (cs : List Str) (nm : Option Nat) (b : Ss) (r : Hs)
end

/-! ### the meaning -/
def asF : Sl → M D
  | ⟨.p, _⟩ => stk
  | ⟨_, d⟩ => .ok d
def fI (i : Int) : Sl := ⟨.f, .int i⟩
def fB (b : Bool) : Sl := ⟨.f, .bool b⟩
def ckI (c : Bool) (i : Int) : M Sl := if c then .ok (fI i) else stk
def ckO (c : Bool) (xs : List D) : M Sl := if c then .ok ⟨.o, .list xs⟩ else stk
def mulOk (i j : Int) : Bool := (decide (-(2 ^ 64) < i) && decide (i < 2 ^ 64)) || (decide (-(2 ^ 64) < j) && decide (j < 2 ^ 64))
def powOk (i j : Int) : Bool := decide (0 ≤ j) && decide (j ≤ 1000000) && decide (i.natAbs < 2 ^ 64)
def lenOk (n : Nat) : Bool := decide (n ≤ 16777216)
def binI (op : Operator) (i j : Int) : M Sl := match op with
  | .Add => .ok (fI (i + j))
  | .Sub => .ok (fI (i - j))
  | .Mult => ckI (mulOk i j) (i * j)
  | .FloorDiv => ckI (decide (0 < j) && decide (j < 1073741824)) (i / j)
  | .Mod => ckI (decide (0 < j)) (i % j)
  | .Pow => ckI (powOk i j) (i ^ j.toNat)
  | .LShift => ckI (powOk i j) (i * 2 ^ j.toNat)
  | .RShift => ckI (decide (0 ≤ j)) (i / 2 ^ j.toNat)
  | .BitAnd => .ok (fI (Builtin.bitAnd i j))
  | .BitOr => .ok (fI (Builtin.bitOr i j))
  | .BitXor => .ok (fI (Builtin.bitXor i j))
  | _ => stk
def repOk (n : Nat) (k : Int) : Bool := decide (-(2 ^ 63) ≤ k) && decide (k < 2 ^ 63) && decide (n * k.toNat ≤ 16777216)
def isF : Md → Bool
  | .f => true
  | _ => false
def binop (op : Operator) (m : Md) : D → D → M Sl
  | .int i, .int j => binI op i j
  | .list xs, .list ys => match op with
    | .Add => ckO (lenOk (xs.length + ys.length)) (xs ++ ys)
    | _ => stk
  | .list xs, .int k => match op with
    | .Mult => ckO (repOk xs.length k && !isF m) (List.replicate k.toNat xs).flatten
    | _ => stk
  | .tuple xs, .tuple ys => match op with
    | .Add => if lenOk (xs.length + ys.length) then .ok ⟨.f, .tuple (xs ++ ys)⟩ else stk
    | _ => stk
  | .str x, .str y => match op with
    | .Add => if lenOk (x.length + y.length) then .ok ⟨.f, .str (x ++ y)⟩ else stk
    | _ => stk
  | _, _ => stk
def unop (inv : Bool) : D → M Sl
  | .int i => .ok (fI (if inv then Builtin.bitNot i else -i))
  | _ => stk
/-- .. deeper data, without dicts -/
def deepD (d : D) : Bool := d.canLay0 && decide (d.depth ≤ 400)
def deq (x y : D) : M Bool := if SeqAt.shaped x && SeqAt.shaped y then .ok (PyData.eqv x y) else if deepD x && deepD y then .ok (PyData.eqv x y) else stk
def keyOk : D → Bool
  | .int _ => true
  | .str _ => true
  | _ => false
def keq : D → D → Bool
  | .int i, .int j => decide (i = j)
  | .str x, .str y => decide (x = y)
  | _, _ => false
def lookD (ds : List (D × D)) (k : D) : Option D := (ds.find? fun p => keq p.1 k).map (·.2)
def putD (ds : List (D × D)) (k v : D) : List (D × D) := if (ds.any fun p => keq p.1 k) = true then ds.map (fun p => if keq p.1 k = true then (p.1, v) else p) else ds ++ [(k, v)]
/-- a dict with nested tuples as keys is marked by a first pair of Nones -/
def nmk : List (D × D) → Bool
  | (.none, _) :: _ => false
  | (.bool _, _) :: _ => false
  | _ => true
def nmkD : D → Bool
  | .dict ds => nmk ds
  | _ => true
mutual
def nkD : D → Option NestedKey
  | .int i => some (.num i)
  | .tuple ds => (nkDs ds).map .tup
  | .none => none
  | .bool _ => none
  | .str _ => none
  | .list _ => none
  | .dict _ => none
def nkDs : List D → Option (List NestedKey)
  | [] => some []
  | d :: ds => match nkD d, nkDs ds with
    | some k, some ks => some (k :: ks)
    | _, _ => none
end
def isT : D → Bool
  | .tuple _ => true
  | _ => false
def nkOk (d : D) : Bool := isT d && match nkD d with
  | some k => decide (k.depth ≤ 8)
  | none => false
def lookN (ps : List (D × D)) (j : D) : Option D := (ps.find? fun p => decide (nkD p.1 = nkD j)).map (·.2)
def putN (ps : List (D × D)) (j v : D) : List (D × D) := if (lookN ps j).isSome then ps.map (fun p => if nkD p.1 = nkD j then (p.1, v) else p) else ps ++ [(j, v)]
def inN (x : D) : List (D × D) → M Bool
  | (.none, .none) :: ps => .ok (lookN ps x).isSome
  | _ => stk
def getN (x : D) : List (D × D) → M D
  | (.none, .none) :: ps => match lookN ps x with
    | some d => .ok d
    | none => stk
  | _ => stk
def setN (x v : D) : List (D × D) → M D
  | (.none, .none) :: ps => if lenOk (ps.length + 1) then .ok (.dict ((.none, .none) :: putN ps x v)) else stk
  | _ => stk
def inK (x : D) (ds : List (D × D)) : M Bool := if keyOk x && nmk ds then .ok (lookD ds x).isSome else if nkOk x then inN x ds else stk
def flatD : D → Bool
  | .none => true
  | .bool _ => true
  | .int _ => true
  | .str _ => true
  | _ => false
def inD (x : D) (ds : List D) : M Bool := if SeqAt.shaped x && SeqAt.shaped (.list ds) then .ok (ds.any fun z => PyData.eqv z x) else stk
def inF (x : D) (ds : List D) : M Bool := if flatD x && ds.all flatD then .ok (ds.any fun z => PyData.eqv z x) else if SeqAt.shaped x && SeqAt.shaped (.tuple ds) then .ok (ds.any fun z => PyData.eqv z x) else stk
def negM : M Bool → M Bool
  | .ok b => .ok (!b)
  | .error e => .error e
def inS (x y : Str) : M Bool := match x.cps.toList with
  | [c] => .ok (decide (c ∈ y.cps.toList))
  | _ => stk
def cmpop (op : CmpOp) (x y : D) : M Bool := match op, x, y with
  | .Eq, _, _ => deq x y
  | .NotEq, _, _ => match deq x y with
    | .ok b => .ok (!b)
    | .error e => .error e
  | .Lt, .int i, .int j => .ok (decide (i < j))
  | .LtE, .int i, .int j => .ok (decide (i ≤ j))
  | .Gt, .int i, .int j => .ok (decide (j < i))
  | .GtE, .int i, .int j => .ok (decide (j ≤ i))
  | .Is, .bool a, .bool b => .ok (decide (a = b))
  | .IsNot, .bool a, .bool b => .ok (!decide (a = b))
  | .In, x, .list ds => inD x ds
  | .NotIn, x, .list ds => negM (inD x ds)
  | .In, x, .tuple ds => inF x ds
  | .In, x, .dict ds => inK x ds
  | .NotIn, x, .dict ds => negM (inK x ds)
  | .NotIn, x, .tuple ds => negM (inF x ds)
  | .In, .str x, .str y => inS x y
  | .NotIn, .str x, .str y => negM (inS x y)
  | _, _, _ => stk
def isNone : D → Bool
  | .none => true
  | _ => false
def asB : D → M Bool
  | .bool b => .ok b
  | _ => stk
def ixD : D → D → M Sl
  | .list xs, .int i => match atI xs i with
    | some d => .ok ⟨.f, d⟩
    | none => stk
  | .tuple xs, .int i => match atI xs i with
    | some d => .ok ⟨.f, d⟩
    | none => stk
  | .str z, .int i => if decide (0 ≤ i) && decide (i < 2 ^ 62) then match z.cps[i.toNat]? with
    | some c => .ok ⟨.f, .str ⟨#[c]⟩⟩
    | none => stk
    else stk
  | .dict ds, k => if keyOk k then match lookD ds k with
    | some d => .ok ⟨.f, d⟩
    | none => stk
    else if nkOk k then do
      let d ← getN k ds
      pure ⟨.f, d⟩
    else stk
  | _, _ => stk
def cutD (xs : List D) (lo hi : Option Int) : List D := (xs.drop (HT.sIx xs.length 0 lo)).take (HT.sIx xs.length xs.length hi - HT.sIx xs.length 0 lo)
def slD : D → Option Int → Option Int → M Sl
  | .list xs, lo, hi => .ok ⟨.o, .list (cutD xs lo hi)⟩
  | .tuple xs, lo, hi => .ok ⟨.f, .tuple (cutD xs lo hi)⟩
  | .str z, lo, hi => if lenOk z.length then .ok ⟨.f, .str (cutS z lo hi)⟩ else stk
  | _, _, _ => stk
def intsD : List D → Option (List Int)
  | [] => some []
  | .int i :: r => (intsD r).map (i :: ·)
  | _ => none
def boolsD : List D → Option (List Bool)
  | [] => some []
  | .bool i :: r => (boolsD r).map (i :: ·)
  | _ => none
def insI (i : Int) : List Int → List Int
  | [] => [i]
  | j :: r => if i ≤ j then i :: j :: r else j :: insI i r
def sortI : List Int → List Int
  | [] => []
  | i :: r => insI i (sortI r)
def b1D (b : B1) (d : D) : M Sl := match b, d with
  | .len, .list xs => .ok (fI xs.length)
  | .len, .tuple xs => .ok (fI xs.length)
  | .len, .dict ds => if nmk ds then .ok (fI ds.length) else stk
  | .len, .str z => if lenOk z.length then .ok (fI z.length) else stk
  | .list, .list xs => .ok ⟨.o, .list xs⟩
  | .list, .dict ds => if nmk ds then .ok ⟨.o, .list (ds.map (·.1))⟩ else stk
  | .list, .tuple xs => .ok ⟨.o, .list xs⟩
  | .list, .str z => if lenOk z.length then .ok ⟨.o, .list (z.cps.toList.map fun c => .str ⟨#[c]⟩)⟩ else stk
  | .tuple, .list xs => .ok ⟨.f, .tuple xs⟩
  | .tuple, .tuple xs => .ok ⟨.f, .tuple xs⟩
  | .tuple, .dict ((.none, .none) :: ps) => .ok ⟨.f, .tuple (ps.map (·.1))⟩
  | .int, .int i => .ok (fI i)
  | .int, .bool b => .ok (fI (if b then 1 else 0))
  | .int, .str z => match PySem.intText? z with
    | some n => if decide (z.length ≤ 640) then .ok (fI n) else stk
    | none => stk
  | .str, .int i => if decide (i.natAbs.log2 < 1920) then .ok ⟨.f, .str (toString i)⟩ else stk
  | .sum, .list xs => match intsD xs with
    | some ns => .ok (fI ns.sum)
    | none => stk
  | .all, .list xs => match boolsD xs with
    | some bs => .ok (fB (bs.all id))
    | none => stk
  | .any, .list xs => match boolsD xs with
    | some bs => .ok (fB (bs.any id))
    | none => stk
  | .sorted, .list xs => match intsD xs with
    | some ns => .ok ⟨.o, .list ((sortI ns).map .int)⟩
    | none => stk
  | .sorted, .dict ds => match intsD (ds.map (·.1)) with
    | some ns => .ok ⟨.o, .list ((sortI ns).map .int)⟩
    | none => stk
  | _, _ => stk
def tyD : D → String
  | .none => "NoneType"
  | .bool _ => "bool"
  | .int _ => "int"
  | .str _ => "str"
  | .list _ => "list"
  | .tuple _ => "tuple"
  | .dict _ => "dict"
def tyN : Ty → String
  | .int => "int"
  | .bool => "bool"
  | .str => "str"
  | .list => "list"
  | .tuple => "tuple"
  | .dict => "dict"
def isiD : D → Ty → Bool
  | .int _, .int => true
  | .bool _, .int => true
  | .bool _, .bool => true
  | .str _, .str => true
  | .list _, .list => true
  | .tuple _, .tuple => true
  | .dict _, .dict => true
  | _, _ => false
def itemsD : D → M (List D)
  | .list xs => .ok xs
  | .tuple xs => .ok xs
  | _ => stk
def seqD : D → M (List D)
  | .str z => .ok (z.cps.toList.map fun c => .str ⟨#[c]⟩)
  | d => itemsD d
def strsD : List D → Option (List Str)
  | [] => some []
  | .str x :: r => (strsD r).map (x :: ·)
  | _ => none
def pairsD : List D → Option (List (Int × Int))
  | [] => some []
  | .tuple [.int i, .int j] :: r => (pairsD r).map ((i, j) :: ·)
  | _ => none
/-- an object's fields -/
def fldL (f : Str) : List (D × D) → Option D
  | [] => none
  | (.tuple [.str g], d) :: r => if g = f then some d else fldL f r
  | _ :: r => fldL f r
def fldS : Option D → M Sl
  | some (.tuple [.bool b, d]) => .ok ⟨if b then .p else .f, d⟩
  | _ => stk
def u1D : U1 → D → M Sl
  | .fld f, .dict ((.none, .bool true) :: ps) => fldS (fldL f ps)
  | .dne, .dict ds => if nmk ds then .ok (fB (!ds.isEmpty)) else stk
  | .mnp, .list xs => match pairsD xs with
    | some (p :: r) => .ok ⟨.f, .tuple [.int (minPs p r).1, .int (minPs p r).2]⟩
    | _ => stk
  | .joi s, .list xs => match strsD xs with
    | some ys => if decide ((ys.map (·.length)).sum + ys.length * s.length ≤ 16777216) then .ok ⟨.f, .str (Txt.join s ys)⟩ else stk
    | none => stk
  | .spl b, .str a => if decide ((b.length == 0) = false) && lenOk (a.length + 2) then .ok ⟨.o, .list ((Txt.split a b).map .str)⟩ else stk
  | .spm b n, .str a => if decide ((b.length == 0) = false) && lenOk (a.length + 2) && decide (n < 1000000) then .ok ⟨.o, .list ((Txt.splitMax a b (n : Int)).map .str)⟩ else stk
  | _, _ => stk
def idxG (y : D) (j : Nat) : List D → Option Nat
  | [] => none
  | x :: r => if PyData.eqv x y then some j else idxG y (j + 1) r
def u2D : U2 → D → D → M Sl
  | .idx, .list xs, y => if SeqAt.shaped (.list xs) && SeqAt.shaped y then match idxG y 0 xs with
      | some j => .ok (fI (j : Nat))
      | none => stk
    else stk
  | .get1, .dict ds, k => if keyOk k && nmk ds then .ok ⟨.f, (lookD ds k).getD .none⟩ else stk
  | .spv, .str a, .str b => if decide ((b.length == 0) = false) && lenOk (a.length + 2) then .ok ⟨.o, .list ((Txt.split a b).map .str)⟩ else stk
  | _, _, _ => stk
def u3D : U3 → D → D → D → M Sl
  | .get, .dict ds, k, v => if keyOk k && nmk ds then .ok ⟨.f, (lookD ds k).getD v⟩ else stk
  | _, _, _, _ => stk
def rngD (i j : Int) : M (List D) := if decide (-(2 ^ 62) ≤ i) && decide (i < 2 ^ 62) && decide (-(2 ^ 62) ≤ j) && decide (j < 2 ^ 62) then .ok ((List.range (j - i).toNat).map fun k => .int (i + (k : Nat))) else stk
def enumD (xs : List D) : List D := (List.range xs.length).map fun i => .tuple [.int (i : Nat), xs.getD i .none]
def zipD (xs ys : List D) : List D := (List.range (min xs.length ys.length)).map fun i => .tuple [xs.getD i .none, ys.getD i .none]
def rng3D (i j c : Int) : M (List D) := if decide (c ≠ 0) && decide (c.natAbs < 1073741824) && Builtin.Range.small i j c && decide (0 ≤ Builtin.Range.rangeSize i j c) then .ok ((List.range (Builtin.Range.rangeSize i j c).toNat).map fun k => .int (i + (k : Nat) * c)) else stk
def pairD : D → D → M (List D)
  | .list xs, .list ys => .ok (zipD xs ys)
  | .tuple xs, .tuple ys => .ok (zipD xs ys)
  | .tuple xs, .list ys => .ok (zipD xs ys)
  | _, _ => stk
def setAll : List Nat → List D → Rho → Option Rho
  | [], [], ρ => some ρ
  | i :: is, d :: ds, ρ => setAll is ds (ρ.set i (some ⟨.f, d⟩))
  | _, _, _ => none
/-- a value is stored to a target -/
def bindT (t : Tg) (s : Sl) (ρ : Rho) : M Rho := match t with
  | .nm i => match s.m with
    | .p => stk
    | _ => .ok (ρ.set i (some s))
  | .tp is => match s.d with
    | .tuple ds => match setAll is ds ρ with
      | some ρ' => .ok ρ'
      | none => stk
    | .list ds => match setAll is ds ρ with
      | some ρ' => .ok ρ'
      | none => stk
    | _ => stk
def wipeR (ρ : Rho) : List Nat → Rho
  | [] => ρ
  | v :: vs => (wipeR ρ vs).set v none
/-- a comprehension's turns -/
def lcGo (f : D → M (Option D)) : List D → M (List D)
  | [] => .ok []
  | x :: xs => do
    let y ← f x
    let r ← lcGo f xs
    pure (match y with
      | some d => d :: r
      | none => r)
def tgIn (vs : List Nat) : Tg → Bool
  | .nm i => vs.contains i
  | .tp is => is.all vs.contains
def isRg : Iu → Bool
  | .rg1 _ => true
  | .rg2 _ _ => true
  | _ => false
def esLen : Es → Nat
  | .nil => 0
  | .cons _ es => esLen es + 1
def argS : Sl → Sl
  | ⟨.o, d⟩ => ⟨.f, d⟩
  | s => s

def mmD (mx : Bool) : D → D → M Sl
  | .int i, .int j => .ok (fI (if mx then (if j > i then j else i) else (if j < i then j else i)))
  | _, _ => stk
def rvD : D → M Sl
  | .list xs => .ok ⟨.o, .list xs.reverse⟩
  | _ => stk
def dedI : List Int → List Int
  | [] => []
  | i :: r => if i ∈ r then dedI r else i :: dedI r
/-- sorted(set(x)) -/
def sstD (d : D) : M Sl := match itemsD d with
  | .ok xs => match intsD xs with
    | some ns => if ns.length < 4000 then .ok ⟨.o, .list ((sortI (dedI ns)).map .int)⟩ else stk
    | none => stk
  | .error _ => stk
/-- len(set(x)) -/
def lnsD (d : D) : M Sl := match itemsD d with
  | .ok xs => match intsD xs with
    | some ns => if ns.length < 4000 then .ok (fI ((dedI ns).length : Nat)) else stk
    | none => stk
  | .error _ => stk
/-- a table of the module, looked up -/
def gdxD (kvs : List (Str × D)) (y : D) : M Sl := match y with
  | .str z => match kvs.lookup z with
    | some d => .ok ⟨.f, d⟩
    | none => stk
  | _ => stk
/-- a dict of pairs -/
def dspD (kvs : List (D × D)) : D := .dict (kvs.foldl (fun acc p => putD acc p.1 p.2) [])
/-! exceptions: the classes' names, what is below what; an exception as a value -/
def xcD (c : Str) : D := .dict [(.bool true, .str c)]
def isxS (s : Sl) (d : Str) : M Sl := match s with
  | ⟨.f, .dict [(.bool true, .str c)]⟩ => if xall.contains d then .ok (fB (xsub c d)) else stk
  | _ => stk
def ixsS (s : Sl) (cs : List Str) : M Sl := match s with
  | ⟨.f, .dict [(.bool true, .str c)]⟩ => if cs.all xall.contains && decide (cs.length ≤ 1000) then .ok (fB (cs.any (xsub c))) else stk
  | _ => stk
mutual
def evE (cl : Str → List Sl → M Sl) : E → Rho → M Sl
  | .var i, ρ => match ρ[i]? with
    | some (some ⟨.f, d⟩) => .ok ⟨.f, d⟩
    | some (some ⟨_, d⟩) => .ok ⟨.p, d⟩
    | _ => stk
  | .int n, _ => .ok (fI (n : Int))
  | .bl b, _ => .ok (fB b)
  | .non, _ => .ok ⟨.f, .none⟩
  | .str s, _ => .ok ⟨.f, .str s⟩
  | .bin op a b, ρ => do
    let x ← evE cl a ρ
    let y ← evE cl b ρ
    binop op x.m x.d y.d
  | .neg a, ρ => do
    let x ← evE cl a ρ
    unop false x.d
  | .inv a, ρ => do
    let x ← evE cl a ρ
    unop true x.d
  | .cmp op a b, ρ => do
    let x ← evE cl a ρ
    let y ← evE cl b ρ
    let r ← cmpop op x.d y.d
    pure (fB r)
  | .chn op op' a b c, ρ => do
    let x ← evE cl a ρ
    let y ← evE cl b ρ
    let r ← cmpop op x.d y.d
    if r then do
      let z ← evE cl c ρ
      let r' ← cmpop op' y.d z.d
      pure (fB r')
    else pure (fB false)
  | .isN a, ρ => do
    let x ← evE cl a ρ
    pure (fB (isNone x.d))
  | .notN a, ρ => do
    let x ← evE cl a ρ
    pure (fB (!isNone x.d))
  | .and a b, ρ => do
    let x ← evE cl a ρ
    let c ← asB x.d
    if c then evE cl b ρ else pure (fB false)
  | .or a b, ρ => do
    let x ← evE cl a ρ
    let c ← asB x.d
    if c then pure (fB true) else evE cl b ρ
  | .not a, ρ => do
    let x ← evE cl a ρ
    let c ← asB x.d
    pure (fB (!c))
  | .ife c a b, ρ => do
    let x ← evE cl c ρ
    let k ← asB x.d
    if k then evE cl a ρ else evE cl b ρ
  | .tup es, ρ => if esLen es ≤ 1000 then do
      let ds ← evF cl es ρ
      pure ⟨.f, .tuple ds⟩
    else stk
  | .lst es, ρ => if esLen es ≤ 1000 then do
      let ds ← evF cl es ρ
      pure ⟨.o, .list ds⟩
    else stk
  | .ix a i, ρ => do
    let x ← evE cl a ρ
    let y ← evE cl i ρ
    ixD x.d y.d
  | .sl a lo hi, ρ => do
    let x ← evE cl a ρ
    let l ← evO cl lo ρ
    let u ← evO cl hi ρ
    slD x.d l u
  | .call f es, ρ => do
    let ss ← evA cl es ρ
    cl f ss
  | .b1 b a, ρ => do
    let x ← evE cl a ρ
    b1D b x.d
  | .isi a t, ρ => do
    let x ← evE cl a ρ
    if nmkD x.d then pure (fB (isiD x.d t)) else stk
  | .isx a c, ρ => do
    let x ← evE cl a ρ
    isxS x c
  | .ixs a cs, ρ => do
    let x ← evE cl a ρ
    ixsS x cs
  | .lc elt tg it ifs vs, ρ => do
    let xs ← evI cl it ρ
    let ys ← lcGo (fun d => do
      let ρ' ← bindT tg ⟨.f, d⟩ (wipeR ρ vs)
      let c ← evC cl ifs ρ'
      if c then do
        let y ← evE cl elt ρ'
        let d ← asF y
        pure (some d)
      else pure none) xs
    if lenOk xs.length && tgIn vs tg then pure ⟨.o, .list ys⟩ else stk
  | .lrg it, ρ => do
    let xs ← evI cl it ρ
    if lenOk xs.length && isRg it then pure ⟨.o, .list xs⟩ else stk
  | .glb _ n, _ => .ok (fI (n : Int))
  | .mm mx a b, ρ => do
    let x ← evE cl a ρ
    let y ← evE cl b ρ
    mmD mx x.d y.d
  | .rvl a, ρ => do
    let x ← evE cl a ρ
    rvD x.d
  | .nev, _ => stk
  | .dnw, _ => .ok ⟨.o, .dict []⟩
  | .dsp1 k v, ρ => do
    let x ← evE cl k ρ
    let y ← evE cl v ρ
    let d ← asF y
    if keyOk x.d then pure ⟨.o, .dict [(x.d, d)]⟩ else stk
  | .sst a, ρ => do
    let x ← evE cl a ρ
    sstD x.d
  | .gk _ d, _ => .ok ⟨.f, d⟩
  | .gdx _ kvs i, ρ => do
    let x ← evE cl i ρ
    gdxD kvs x.d
  | .dsp ps, ρ => do
    let kvs ← evP cl ps ρ
    if decide (kvs.length ≤ 15) then pure ⟨.o, dspD kvs⟩ else stk
  | .mc .., _ => stk
  | .mkc .., _ => stk
  | .dnn, _ => stk
  | .lns a, ρ => do
    let x ← evE cl a ρ
    lnsD x.d
  | .pk2 a b c, ρ => do
    let x ← evE cl a ρ
    let dx ← asF x
    let y ← evE cl b ρ
    let dy ← asF y
    let z ← evE cl c ρ
    let k ← asB z.d
    pure ⟨.f, if k then dy else dx⟩
  | .u1 k a, ρ => do
    let x ← evE cl a ρ
    u1D k x.d
  | .u2 k a b, ρ => do
    let x ← evE cl a ρ
    let y ← evE cl b ρ
    u2D k x.d y.d
  | .u3 k a b c, ρ => do
    let x ← evE cl a ρ
    let y ← evE cl b ρ
    let z ← evE cl c ρ
    let dz ← asF z
    u3D k x.d y.d dz
  | .lcd elt tg i ifs vs, ρ => match ρ[i]? with
    | some (some ⟨_, .dict ds⟩) => do
      let ys ← lcGo (fun d => do
        let ρ' ← bindT tg ⟨.f, d⟩ (wipeR ρ vs)
        let c ← evC cl ifs ρ'
        if c then do
          let y ← evE cl elt ρ'
          let d ← asF y
          pure (some d)
        else pure none) (ds.map (·.1))
      if nmk ds && lenOk ds.length && tgIn vs tg then pure ⟨.o, .list ys⟩ else stk
    | _ => stk
/-- the pairs of a dict display -/
def evP (cl : Str → List Sl → M Sl) : Ps → Rho → M (List (D × D))
  | .nil, _ => .ok []
  | .cons k v r, ρ => do
    let x ← evE cl k ρ
    let y ← evE cl v ρ
    let d ← asF y
    let ds ← evP cl r ρ
    if keyOk x.d then pure ((x.d, d) :: ds) else stk
/-- items of a display: frozen -/
def evF (cl : Str → List Sl → M Sl) : Es → Rho → M (List D)
  | .nil, _ => .ok []
  | .cons e es, ρ => do
    let x ← evE cl e ρ
    let d ← asF x
    let ds ← evF cl es ρ
    pure (d :: ds)
/-- arguments of a call: frozen or peeked at -/
def evA (cl : Str → List Sl → M Sl) : Es → Rho → M (List Sl)
  | .nil, _ => .ok []
  | .cons e es, ρ => do
    let x ← evE cl e ρ
    let ds ← evA cl es ρ
    pure (argS x :: ds)
def evO (cl : Str → List Sl → M Sl) : Eo → Rho → M (Option Int)
  | .none, _ => .ok none
  | .some e, ρ => do
    let x ← evE cl e ρ
    match x.d with
    | .int i => pure (some i)
    | _ => stk
def evC (cl : Str → List Sl → M Sl) : Eo → Rho → M Bool
  | .none, _ => .ok true
  | .some e, ρ => do
    let x ← evE cl e ρ
    asB x.d
def evI (cl : Str → List Sl → M Sl) : Iu → Rho → M (List D)
  | .rg1 a, ρ => do
    let x ← evE cl a ρ
    match x.d with
    | .int j => rngD 0 j
    | _ => stk
  | .rg2 a b, ρ => do
    let x ← evE cl a ρ
    let y ← evE cl b ρ
    match x.d, y.d with
    | .int i, .int j => rngD i j
    | _, _ => stk
  | .seq e, ρ => do
    let x ← evE cl e ρ
    seqD x.d
  | .rg3 a b c, ρ => do
    let x ← evE cl a ρ
    let y ← evE cl b ρ
    let z ← evE cl c ρ
    match x.d, y.d, z.d with
    | .int i, .int j, .int k => rng3D i j k
    | _, _, _ => stk
  | .enm e, ρ => do
    let x ← evE cl e ρ
    let xs ← itemsD x.d
    pure (enumD xs)
  | .zp a b, ρ => do
    let x ← evE cl a ρ
    let y ← evE cl b ρ
    pairD x.d y.d
  | .rev e, ρ => do
    let x ← evE cl e ρ
    let xs ← itemsD x.d
    pure xs.reverse
  | .rvr a, ρ => do
    let x ← evE cl a ρ
    match x.d with
    | .int j => do
      let xs ← rngD 0 j
      pure xs.reverse
    | _ => stk
end

inductive Fl where
  | nx (ρ : Rho) | bk (ρ : Rho) | ct (ρ : Rho) | rt (s : Sl) | rz (c : Str) (ρ : Rho)
/-- a loop's turns -/
def forGo (bind : D → Rho → M Rho) (body : Rho → M Fl) : List D → Rho → M Fl
  | [], ρ => .ok (.nx ρ)
  | x :: xs, ρ => do
    let ρ1 ← bind x ρ
    let r ← body ρ1
    match r with
    | .nx ρ' => forGo bind body xs ρ'
    | .ct ρ' => forGo bind body xs ρ'
    | .bk ρ' => .ok (.nx ρ')
    | .rt s => .ok (.rt s)
    | .rz c ρ' => .ok (.rz c ρ')
def whlGo (test : Rho → M Bool) (body : Rho → M Fl) : Nat → Rho → M Fl
  | 0, _ => stk
  | n + 1, ρ => do
    let c ← test ρ
    if c then do
      let r ← body ρ
      match r with
      | .nx ρ' => whlGo test body n ρ'
      | .ct ρ' => whlGo test body n ρ'
      | .bk ρ' => .ok (.nx ρ')
      | .rt s => .ok (.rt s)
      | .rz c ρ' => .ok (.rz c ρ')
    else .ok (.nx ρ)
/-- what is handed back: an owned thing stays owned; a thing that is only peeked at is not handed back -/
def retS (e : E) (ρ : Rho) (s : Sl) : M Sl := match s with
  | ⟨.p, d⟩ => match e with
    | .var i => match ρ[i]? with
      | some (some ⟨.o, _⟩) => if nmkD d then .ok ⟨.o, d⟩ else stk
      | _ => stk
    | _ => stk
  | s => .ok s
/-- a slot's thing is frozen from here on (no step of the program) -/
def frzR (i : Nat) (ρ : Rho) : Rho := match ρ[i]? with
  | some (some ⟨.o, d⟩) => if nmkD d then ρ.set i (some ⟨.f, d⟩) else ρ
  | _ => ρ
/-- a slot that holds what is only lent: nobody changes it while the def runs -/
def lentE (e : E) (ρ : Rho) : Bool := match e with
  | .var i => match ρ[i]? with
    | some (some ⟨.p, _⟩) => true
    | _ => false
  | _ => false
def npE (cl : Str → List Sl → M Sl) (e : E) (ρ : Rho) : Bool := lentE e ρ || match evE cl e ρ with
  | .ok ⟨.p, _⟩ => false
  | _ => true
def nqE (cl : Str → List Sl → M Sl) (e : E) (ρ : Rho) : Bool := match evE cl e ρ with
  | .ok ⟨.p, _⟩ => false
  | _ => true
def notP (cl : Str → List Sl → M Sl) (it : Iu) (ρ : Rho) : Bool := match it with
  | .seq e => npE cl e ρ
  | .enm e => npE cl e ρ
  | .rev e => npE cl e ρ
  | .zp a b => nqE cl a ρ && nqE cl b ρ
  | _ => true
/-- an owned list at a slot -/
def ownL (x : Nat) (ρ : Rho) : M (List D) := match ρ[x]? with
  | some (some ⟨.o, .list ds⟩) => .ok ds
  | _ => stk
/-- x[j] = v of an owned list or dict -/
def setO (x : Nat) (ρ : Rho) (v j : D) : M Fl := match ρ[x]? with
  | some (some ⟨.o, .list ds⟩) => match j with
    | .int k => match ixN ds.length k with
      | some n => .ok (.nx (ρ.set x (some ⟨.o, .list (ds.set n v)⟩)))
      | none => stk
    | _ => stk
  | some (some ⟨.o, .dict ds⟩) => if keyOk j && nmk ds && lenOk (ds.length + 1) then .ok (.nx (ρ.set x (some ⟨.o, .dict (putD ds j v)⟩))) else if nkOk j then do
      let d ← setN j v ds
      pure (.nx (ρ.set x (some ⟨.o, d⟩)))
    else stk
  | _ => stk
/-- behind a call that may raise -/
def ckG (k : Ck) (ρ : Rho) : M Sl → M Fl
  | .ok s => match k with
    | .asg t => do
      let ρ' ← bindT t s ρ
      pure (.nx ρ')
    | .ret => do
      let r ← retS .non ρ s
      pure (.rt r)
    | .exp => .ok (.nx ρ)
  | .error (.raised c) => .ok (.rz c ρ)
  | .error e => .error e
/-- what a part that changes something comes to: a value and the slots, or what is raised -/
inductive Er where
  | v (s : Sl) (ρ : Rho)
  | rz (c : Str)
def efG (ρ : Rho) : M Sl → M Er
  | .ok s => .ok (.v s ρ)
  | .error (.raised c) => .ok (.rz c)
  | .error e => .error e
def dropD (ds : List (D × D)) (k : D) : List (D × D) := ds.filter fun p => !keq p.1 k
def popG (x : Nat) (ρ : Rho) : M Er := match ρ[x]? with
  | some (some ⟨.o, .list ds⟩) => match ds[ds.length - 1]? with
    | some d => .ok (.v ⟨.f, d⟩ (ρ.set x (some ⟨.o, .list ds.dropLast⟩)))
    | none => stk
  | _ => stk
def popGA (x : Nat) (ρ : Rho) (i : D) : M Er := match ρ[x]? with
  | some (some ⟨.o, .list ds⟩) => match i with
    | .int k => if decide (0 ≤ k) && decide (k < 2 ^ 62) then match ds[k.toNat]? with
      | some d => .ok (.v ⟨.f, d⟩ (ρ.set x (some ⟨.o, .list (ds.eraseIdx k.toNat)⟩)))
      | none => stk
      else stk
    | _ => stk
  | _ => stk
def popGK (x : Nat) (ρ : Rho) (k : D) : M Er := match ρ[x]? with
  | some (some ⟨.o, .dict ds⟩) => if keyOk k && nmk ds then match lookD ds k with
      | some d => .ok (.v ⟨.f, d⟩ (ρ.set x (some ⟨.o, .dict (dropD ds k)⟩)))
      | none => stk
      else stk
  | _ => stk
/-- a value, or what is raised -/
inductive Xr (α : Type) where
  | v (a : α)
  | rz (c : Str)
def callG : M Sl → M (Xr Sl)
  | .ok s => .ok (.v s)
  | .error (.raised c) => .ok (.rz c)
  | .error e => .error e
def lcX (f : D → M (Xr D)) : List D → M (Xr (List D))
  | [] => .ok (.v [])
  | x :: xs => do
    let r ← f x
    match r with
    | .rz c => pure (.rz c)
    | .v d => do
      let q ← lcX f xs
      match q with
      | .rz c => pure (.rz c)
      | .v ds => pure (.v (d :: ds))
def lcXt (cl : Str → List Sl → M Sl) (f : Str) (es : Es) (i : Nat) (ρ : Rho) (d : D) : M (Xr D) := do
  let ρ' ← bindT (.nm i) ⟨.f, d⟩ (wipeR ρ [i])
  let ss ← evA cl es ρ'
  let r ← callG (cl f ss)
  match r with
  | .rz c => pure (.rz c)
  | .v s => do
    let d ← asF s
    pure (.v d)
def evLx (cl : Str → List Sl → M Sl) (f : Str) (es : Es) (i : Nat) (it : Iu) (ρ : Rho) : M (Xr (List D)) := do
  let xs ← evI cl it ρ
  if lenOk xs.length then lcX (lcXt cl f es i ρ) xs else stk
def evXa (cl : Str → List Sl → M Sl) : Xa → Rho → M (Xr Sl)
  | .p e, ρ => do
    let s ← evE cl e ρ
    pure (.v s)
  | .c f es, ρ => do
    let ss ← evA cl es ρ
    callG (cl f ss)
  | .l f es i it, ρ => do
    let r ← evLx cl f es i it ρ
    match r with
    | .rz c => pure (.rz c)
    | .v ys => pure (.v ⟨.o, .list ys⟩)
  | .tl f es i it, ρ => do
    let r ← evLx cl f es i it ρ
    match r with
    | .rz c => pure (.rz c)
    | .v ys => do
      let s ← b1D .tuple (.list ys)
      pure (.v s)
def evXs (cl : Str → List Sl → M Sl) : List Xa → Rho → M (Xr (List D))
  | [], _ => .ok (.v [])
  | x :: xs, ρ => do
    let r ← evXa cl x ρ
    match r with
    | .rz c => pure (.rz c)
    | .v s => do
      let d ← asF s
      let q ← evXs cl xs ρ
      match q with
      | .rz c => pure (.rz c)
      | .v ds => pure (.v (d :: ds))
def evXe (cl : Str → List Sl → M Sl) : Xe → Rho → M (Xr Sl)
  | .a x, ρ => evXa cl x ρ
  | .t xs, ρ => do
    let r ← evXs cl xs ρ
    match r with
    | .rz c => pure (.rz c)
    | .v ds => if decide (ds.length ≤ 1000) then pure (.v ⟨.f, .tuple ds⟩) else stk
def erX (ρ : Rho) : Xr Sl → M Er
  | .v s => .ok (.v s ρ)
  | .rz c => .ok (.rz c)
def efX (cl : Str → List Sl → M Sl) : Ef → Rho → M Er
  | .xe x, ρ => do
    let r ← evXe cl x ρ
    erX ρ r
  | .call f es, ρ => do
    let ss ← evA cl es ρ
    efG ρ (cl f ss)
  | .pk f g c es, ρ => do
    let z ← evE cl c ρ
    let k ← asB z.d
    let ss ← evA cl es ρ
    efG ρ (cl (if k then g else f) ss)
  | .pop x, ρ => popG x ρ
  | .popA x i, ρ => do
    let y ← evE cl i ρ
    popGA x ρ y.d
  | .popK x k, ρ => do
    let y ← evE cl k ρ
    popGK x ρ y.d
/-- the value around: ρ the slots before, ρ' behind -/
def poE (ρ ρ' : Rho) : Po → Sl → M Sl
  | .hd, s => .ok s
  | .ixn p n, s => do
    let x ← poE ρ ρ' p s
    match x.d with
    | .dict _ => stk
    | .str _ => stk
    | d => ixD d (.int (n : Int))
  | .isN p, s => do
    let x ← poE ρ ρ' p s
    pure (fB (isNone x.d))
  | .eqS p z, s => do
    let x ← poE ρ ρ' p s
    let b ← cmpop .Eq x.d (.str z)
    pure (fB b)
  | .lst1 p, s => do
    let x ← poE ρ ρ' p s
    let d ← asF x
    pure ⟨.o, .list [d]⟩
  | .tupS z p, s => do
    let x ← poE ρ ρ' p s
    let d ← asF x
    pure ⟨.f, .tuple [.str z, d]⟩
  | .opI op a p, s => do
    let x ← poE ρ ρ' p s
    binop op .f (.int (a : Int)) x.d
  | .ixv y p, s => do
    let x ← poE ρ ρ' p s
    match ρ[y]?, ρ'[y]? with
    | some (some _), some (some ⟨_, .dict ds⟩) => if keyOk x.d then ixD (.dict ds) x.d else stk
    | _, _ => stk
def poX : Po → Bool
  | .hd => true
  | .ixn p _ => poX p
  | .isN p => poX p
  | .eqS p _ => poX p
  | .lst1 p => poX p
  | .tupS _ p => poX p
  | .opI _ _ p => poX p
  | .ixv _ _ => false
def ownLB : Option (Option Sl) → Bool
  | some (some ⟨.o, .list _⟩) => true
  | _ => false
def ekX (ρ : Rho) : Ek → Bool
  | .app y => ownLB ρ[y]?
  | _ => true
def nmS (nm : Option Nat) (c : Str) (ρ : Rho) : Rho := match nm with
  | none => ρ
  | some i => ρ.set i (some ⟨.f, xcD c⟩)
def nmD (nm : Option Nat) (ρ : Rho) : Rho := match nm with
  | none => ρ
  | some i => ρ.set i none
def nmF (nm : Option Nat) : Fl → M Fl
  | .nx ρ => .ok (.nx (nmD nm ρ))
  | .rt s => .ok (.rt s)
  | _ => stk
/-- methods -/
def m0D : K0 → D → M D
  | .rev, .list xs => .ok (.list xs.reverse)
  | .clr, .list _ => .ok (.list [])
  | _, _ => stk
def remI (k : Int) : List Int → Option (List Int)
  | [] => none
  | i :: r => if i = k then some r else (remI k r).map (i :: ·)
def m1D : K1 → D → D → M D
  | .rem, .list xs, .int k => match intsD xs with
    | some ns => match remI k ns with
      | some ms => .ok (.list (ms.map .int))
      | none => stk
    | none => stk
  | _, _, _ => stk
def m2D : K2 → D → D → D → M D
  | .sdf, .dict ds, k, v => if keyOk k && nmk ds && lenOk (ds.length + 1) then .ok (.dict (if (lookD ds k).isSome then ds else putD ds k v)) else stk
  | _, _, _, _ => stk
def ownD (x : Nat) (ρ : Rho) : M D := match ρ[x]? with
  | some (some ⟨.o, d⟩) => .ok d
  | _ => stk
def onlyNx : Fl → M Fl
  | .nx ρ => .ok (.nx ρ)
  | _ => stk
/-- for t in x: y[t] = c, x an owned list -/
def fstB (t : Nat) (ds : List D) (ρ : Rho) : Nat → Rho
  | 0 => ρ
  | j + 1 => match ds[j]? with
    | some d => ρ.set t (some ⟨.f, d⟩)
    | none => ρ
def fstR (t y : Nat) (c : Bool) (ps : List (D × D)) (ds : List D) (ρ : Rho) (i : Nat) : Rho :=
  (fstB t ds ρ i).set y (some ⟨.o, .dict ((ds.take i).foldl (fun acc d => putD acc d (.bool c)) ps)⟩)
def fstG (t x y : Nat) (c : Bool) (ρ : Rho) : M Fl := match ρ[x]?, ρ[y]? with
  | some (some ⟨.o, .list ds⟩), some (some ⟨.o, .dict ps⟩) => if decide (t < ρ.length) && decide (x ≠ y) && decide (t ≠ x) && decide (t ≠ y) && ds.all keyOk && nmk ps && lenOk (ps.length + ds.length) then .ok (.nx (fstR t y c ps ds ρ ds.length)) else stk
  | _, _ => stk
mutual
def exS (cl : Str → List Sl → M Sl) (fu : Nat) : S → Rho → M Fl
  | .fst t x y c, ρ => fstG t x y c ρ
  | .ef k e p, ρ => do
    let r ← efX cl e ρ
    match r with
    | .rz c => if poX p && ekX ρ k then .ok (.rz c ρ) else stk
    | .v s ρ' => do
      let v ← poE ρ ρ' p s
      match k with
      | .asg t => do
        let ρ2 ← bindT t v ρ'
        pure (.nx ρ2)
      | .ret => do
        let w ← retS .non ρ' v
        pure (.rt w)
      | .exp => .ok (.nx ρ')
      | .app y => do
        let d ← asF v
        let ds ← ownL y ρ
        let ds ← ownL y ρ'
        if lenOk (ds.length + 1) then pure (.nx (ρ'.set y (some ⟨.o, .list (ds ++ [d])⟩))) else stk
      | .set y i => do
        let d ← asF v
        let j ← evE cl i ρ'
        setO y ρ' d j.d
  | .eft e p a b, ρ => do
    let r ← efX cl e ρ
    match r with
    | .rz c => if poX p then .ok (.rz c ρ) else stk
    | .v s ρ' => do
      let v ← poE ρ ρ' p s
      let c ← asB v.d
      if c then exSs cl fu a ρ' else exSs cl fu b ρ'
  | .mt0 k x, ρ => do
    let d ← ownD x ρ
    let d' ← m0D k d
    pure (.nx (ρ.set x (some ⟨.o, d'⟩)))
  | .mt1 k x e, ρ => do
    let s ← evE cl e ρ
    let v ← asF s
    let d ← ownD x ρ
    let d' ← m1D k d v
    pure (.nx (ρ.set x (some ⟨.o, d'⟩)))
  | .mt2 k x e1 e2, ρ => do
    let s ← evE cl e1 ρ
    let v ← asF s
    let s2 ← evE cl e2 ρ
    let v2 ← asF s2
    let d ← ownD x ρ
    let d' ← m2D k d v v2
    pure (.nx (ρ.set x (some ⟨.o, d'⟩)))
  | .fdk t i b, ρ => match ρ[i]? with
    | some (some ⟨m, .dict ds⟩) => if nmk ds && lenOk ds.length && !decide (m = .o) then do
        let r ← forGo (fun d ρ => bindT t ⟨.f, d⟩ ρ) (fun ρ => exSs cl fu b ρ) (ds.map (·.1)) ρ
        onlyNx r
      else stk
    | _ => stk
  | .ins x i e, ρ => do
    let y ← evE cl i ρ
    let s ← evE cl e ρ
    let v ← asF s
    let ds ← ownL x ρ
    match y.d with
    | .int k => if lenOk (ds.length + 1) && decide (0 ≤ k) && decide (k < 2 ^ 62) then pure (.nx (ρ.set x (some ⟨.o, .list (ds.take k.toNat ++ v :: ds.drop k.toNat)⟩))) else stk
    | _ => stk
  | .asg t e, ρ => do
    let s ← evE cl e ρ
    let ρ' ← bindT t s ρ
    pure (.nx ρ')
  | .setix x i e, ρ => do
    let s ← evE cl e ρ
    let v ← asF s
    let j ← evE cl i ρ
    setO x ρ v j.d
  | .aug x op e, ρ => do
    let s ← evE cl e ρ
    match ρ[x]?, s.d with
    | some (some ⟨.f, .int i⟩), .int j => match op with
      | .Add => pure (.nx (ρ.set x (some (fI (i + j)))))
      | .Sub => pure (.nx (ρ.set x (some (fI (i - j)))))
      | _ => stk
    | _, _ => stk
  | .app x e, ρ => do
    let s ← evE cl e ρ
    let v ← asF s
    let ds ← ownL x ρ
    if lenOk (ds.length + 1) then pure (.nx (ρ.set x (some ⟨.o, .list (ds ++ [v])⟩))) else stk
  | .ext x e, ρ => do
    let s ← evE cl e ρ
    let ds ← ownL x ρ
    match s.d with
    | .list vs => if lenOk (ds.length + vs.length) && !isF s.m then pure (.nx (ρ.set x (some ⟨.o, .list (ds ++ vs)⟩))) else stk
    | _ => stk
  | .exp e, ρ => do
    let _ ← evE cl e ρ
    pure (.nx ρ)
  | .ret e, ρ => do
    let s ← evE cl e ρ
    let r ← retS e ρ s
    pure (.rt r)
  | .retN, _ => .ok (.rt ⟨.f, .none⟩)
  | .ite c a b, ρ => do
    let x ← evE cl c ρ
    let k ← asB x.d
    if k then exSs cl fu a ρ else exSs cl fu b ρ
  | .for_ t it b, ρ => do
    let xs ← evI cl it ρ
    if notP cl it ρ then
      forGo (fun d ρ => bindT t ⟨.f, d⟩ ρ) (fun ρ => exSs cl fu b ρ) xs ρ
    else stk
  | .whl c b, ρ => whlGo (fun ρ => do
      let x ← evE cl c ρ
      asB x.d) (fun ρ => exSs cl fu b ρ) fu ρ
  | .brk, ρ => .ok (.bk ρ)
  | .cont, ρ => .ok (.ct ρ)
  | .pass, ρ => .ok (.nx ρ)
  | .nvr, _ => stk
  | .fap .., _ => stk
  | .fsx .., _ => stk
  | .fas .., _ => stk
  | .tn .., _ => stk
  | .ndn x, ρ => .ok (.nx (ρ.set x (some ⟨.o, .dict [(.none, .none)]⟩)))
  | .rse c, ρ => .ok (.rz c ρ)
  | .cst k f es, ρ => do
    let ss ← evA cl es ρ
    ckG k ρ (cl f ss)
  | .tr b hs, ρ => do
    let r ← exSs cl fu b ρ
    match r with
    | .rz c ρ' => exHs cl fu c hs ρ'
    | r => .ok r
def exHs (cl : Str → List Sl → M Sl) (fu : Nat) (c : Str) : Hs → Rho → M Fl
  | .nil, ρ => .ok (.rz c ρ)
  | .cons cs nm b r, ρ => if cs.all xall.contains then
      if cs.any (xsub c) then do
        let f ← exSs cl fu b (nmS nm c ρ)
        nmF nm f
      else exHs cl fu c r ρ
    else stk
def exSs (cl : Str → List Sl → M Sl) (fu : Nat) : Ss → Rho → M Fl
  | .nil, ρ => .ok (.nx ρ)
  | .cons s ss, ρ => do
    let r ← exS cl fu s ρ
    match r with
    | .nx ρ' => exSs cl fu ss ρ'
    | r => .ok r
  | .frz i ss, ρ => exSs cl fu ss (frzR i ρ)
end

/-! ### a program -/
structure FD where
  N : List Str
  ps : List Str
  body : Ss
def startR (n : Nat) (ss : List Sl) : Rho := ss.map some ++ List.replicate (n - ss.length) none
def runB (cl : Str → List Sl → M Sl) (fu : Nat) (fd : FD) (ss : List Sl) : M Sl :=
  if ss.length = fd.ps.length then
    match exSs cl fu fd.body (startR fd.N.length ss) with
    | .ok (.rt s) => .ok s
    | .ok (.nx _) => .ok ⟨.f, .none⟩
    | .ok (.rz c _) => .error (.raised c)
    | .ok _ => stk
    | .error _ => stk
  else stk
def call (T : Str → Option FD) (fu : Nat) : Nat → Str → List Sl → M Sl
  | 0, _, _ => stk
  | k + 1, f, ss => match T f with
    | some fd => runB (call T fu k) fu fd ss
    | none => stk
end GK

namespace GK
open PySem PySem.Spec PyProof.Rows L2

/-! ### deep values on the abstract heap -/
def keyD : Key → D
  | .inl i => .int i
  | .inr x => .str x
/-! exceptions -/
def XKn (K : PySem.W.Frag) (d : Str) : Prop := d = "ValueError" ∨ ∃ a, PySem.W.nsIn K mainGlobals d = some (some (.ref a))
def clsW (K : PySem.W.Frag) (d : Str) : V := if d = "ValueError" then .ty "ValueError" else .ref (xga K d)
theorem clsW_rel {K : PySem.W.Frag} {d : Str} : RelV (clsW K d) (clsV K d) := by
  unfold clsW clsV
  split <;> rfl
theorem clsW_one {K : PySem.W.Frag} {d : Str} : ∀ u, RelV (clsW K d) u → u = clsV K d := by
  unfold clsW clsV
  split
  · exact fun u h => h
  · exact fun u h => h
/-- a class whose instances may be caught and asked -/
structure XcOk (K : PySem.W.Frag) (c : Str) : Prop where
  ex : ExcC K (xga K c)
  is : ∀ d, xall.contains d = true → XKn K d → PySem.W.kitOne K (.ref (xga K c)) (clsV K d) = some (xsub c d)
  mt : ∀ d, xall.contains d = true → XKn K d → PySem.W.exmOne K (.ref (xga K c)) (clsV K d) = some (xsub c d)
mutual
inductive Rp (K : PySem.W.Frag) (G : Hp) : V → D → Prop
  | non : Rp K G .non .none
  | bl (b : Bool) : Rp K G (.bl b) (.bool b)
  | int (i : Int) : Rp K G (.int i) (.int i)
  | str (x : Str) : Rp K G (.str x) (.str x)
  | lst {a : Addr} {vs : List V} {ds : List D} : SqL K G a vs → RpA K G vs ds → Rp K G (.ref a) (.list ds)
  | tup {a : Addr} {vs : List V} {ds : List D} : SqT K G a vs → RpA K G vs ds → Rp K G (.ref a) (.tuple ds)
  | dct {a : Addr} {vs : List (Key × V)} {ds : List (D × D)} : Rd G a (.dK vs) → RpK K G vs ds → Rp K G (.ref a) (.dict ds)
  | xc {a : Addr} {c : Str} : XcOk K c → G a = some (xcO a (xga K c)) → Rp K G (.ref a) (.dict [(.bool true, .str c)])
inductive RpA (K : PySem.W.Frag) (G : Hp) : List V → List D → Prop
  | nil : RpA K G [] []
  | cons {v : V} {vs : List V} {d : D} {ds : List D} : Rp K G v d → RpA K G vs ds → RpA K G (v :: vs) (d :: ds)
inductive RpK (K : PySem.W.Frag) (G : Hp) : List (Key × V) → List (D × D) → Prop
  | nil : RpK K G [] []
  | cons {k : Key} {v : V} {vs : List (Key × V)} {d : D} {ds : List (D × D)} : Rp K G v d → RpK K G vs ds → RpK K G ((k, v) :: vs) ((keyD k, d) :: ds)
end
section
variable {K : PySem.W.Frag} {G G' G1 H H' H1 H2 G2 : Hp}
theorem Rd.mono {a : Addr} {u : HO} (S : Same G G') (h : Rd G a u) : Rd G' a u := by
  rcases h with h | ⟨o, h⟩
  · exact .inl (S _ _ h)
  · exact .inr ⟨o, S _ _ h⟩
theorem SqT.mono {a : Addr} {xs : List V} (S : Same G G') (h : SqT K G a xs) : SqT K G' a xs := by
  rcases h with h | h
  · exact .inl (Rd.mono S h)
  · exact .inr h
mutual
theorem Rp.mono (S : Same G G') : ∀ (d : D) (v : V), Rp K G v d → Rp K G' v d
  | .none, _, h => by cases h; exact .non
  | .bool b, _, h => by cases h; exact .bl b
  | .int i, _, h => by cases h; exact .int i
  | .str x, _, h => by cases h; exact .str x
  | .list ds, _, h => by
    cases h with
    | lst hs ha => exact .lst (S.seq hs) (RpA.mono S ds _ ha)
  | .tuple ds, _, h => by
    cases h with
    | tup hs ha => exact .tup (SqT.mono S hs) (RpA.mono S ds _ ha)
  | .dict ds, _, h => by
    cases h with
    | dct hs ha => exact .dct (Rd.mono S hs) (RpK.mono S ds _ ha)
    | xc ho hs => exact .xc ho (S _ _ hs)
theorem RpA.mono (S : Same G G') : ∀ (ds : List D) (vs : List V), RpA K G vs ds → RpA K G' vs ds
  | [], _, h => by cases h; exact .nil
  | d :: ds, _, h => by
    cases h with
    | cons h1 h2 => exact .cons (Rp.mono S d _ h1) (RpA.mono S ds _ h2)
theorem RpK.mono (S : Same G G') : ∀ (ds : List (D × D)) (vs : List (Key × V)), RpK K G vs ds → RpK K G' vs ds
  | [], _, h => by cases h; exact .nil
  | (_, d) :: ds, _, h => by
    cases h with
    | cons h1 h2 => exact .cons (Rp.mono S d _ h1) (RpK.mono S ds _ h2)
end
mutual
theorem Rp.dp (S : Same G H) : ∀ (d : D) (v : V), d.canLay0 = true → Rp K G v d → Dp K H v d
  | .none, _, _, h => by cases h; exact .non
  | .bool b, _, _, h => by cases h; exact .bl b
  | .int i, _, _, h => by cases h; exact .int i
  | .str x, _, _, h => by cases h; exact .str x
  | .list ds, _, c, h => by
    cases h with
    | lst hs ha => exact .lst (S.seq hs) (RpA.dp S ds _ c ha)
  | .tuple ds, _, c, h => by
    cases h with
    | tup hs ha => exact .tup (SqT.mono S hs) (RpA.dp S ds _ c ha)
  | .dict _, _, c, h => by simp [PyData.canLay0] at c
theorem RpA.dp (S : Same G H) : ∀ (ds : List D) (vs : List V), PyData.canLayAll0 ds = true → RpA K G vs ds → DpAll K H vs ds
  | [], _, _, h => by cases h; exact .nil
  | d :: ds, _, c, h => by
    simp only [PyData.canLayAll0, Bool.and_eq_true] at c
    cases h with
    | cons h1 h2 => exact .cons (Rp.dp S d _ c.1 h1) (RpA.dp S ds _ c.2 h2)
end
theorem keyD_ok : ∀ k : Key, keyOk (keyD k) = true
  | .inl _ => rfl
  | .inr _ => rfl
theorem key_of {d : D} (h : keyOk d = true) : ∃ k : Key, d = keyD k := by
  cases d <;> first | (cases h; done) | exact ⟨.inl _, rfl⟩ | exact ⟨.inr _, rfl⟩ | (exact absurd h Bool.false_ne_true)
theorem keq_key : ∀ k j : Key, keq (keyD k) (keyD j) = decide (k = j)
  | .inl i, .inl j => by
    show decide (i = j) = _
    rw [Bool.eq_iff_iff, decide_eq_true_eq, decide_eq_true_eq]
    exact ⟨fun h => by rw [h], fun h => by cases h; rfl⟩
  | .inr i, .inr j => by
    show decide (i = j) = _
    rw [Bool.eq_iff_iff, decide_eq_true_eq, decide_eq_true_eq]
    exact ⟨fun h => by rw [h], fun h => by cases h; rfl⟩
  | .inl i, .inr j => (decide_eq_false (fun z => nomatch z)).symm
  | .inr i, .inl j => (decide_eq_false (fun z => nomatch z)).symm
theorem RpK.length : ∀ {vs : List (Key × V)} {ds : List (D × D)}, RpK K G vs ds → vs.length = ds.length
  | _, _, .nil => rfl
  | _, _, .cons _ t => by rw [List.length_cons, List.length_cons, RpK.length t]
theorem RpK.look {k : Key} : ∀ {vs : List (Key × V)} {ds : List (D × D)}, RpK K G vs ds → (valV vs k = none ∧ lookD ds (keyD k) = none) ∨ ∃ v d, valV vs k = some v ∧ lookD ds (keyD k) = some d ∧ Rp K G v d
  | _, _, .nil => .inl ⟨rfl, rfl⟩
  | _, _, .cons (k := j) (v := v) (d := d) (vs := vs) (ds := ds) r t => by
    unfold valV lookD
    rw [List.find?_cons, List.find?_cons]
    show ((match decide (j = k) with
      | true => some (j, v)
      | false => List.find? (fun kv => decide (kv.1 = k)) vs).map _ = none ∧ (match keq (keyD j) (keyD k) with
      | true => some (keyD j, d)
      | false => List.find? (fun p => keq p.1 (keyD k)) ds).map _ = none) ∨ _
    rw [keq_key]
    cases decide (j = k) with
    | true => exact .inr ⟨v, d, rfl, rfl, r⟩
    | false => exact RpK.look t
theorem RpK.anyK {k : Key} : ∀ {vs : List (Key × V)} {ds : List (D × D)}, RpK K G vs ds → (vs.any fun kv => decide (kv.1 = k)) = ds.any fun p => keq p.1 (keyD k)
  | _, _, .nil => rfl
  | _, _, .cons (k := j) r t => by
    rw [List.any_cons, List.any_cons, RpK.anyK t]
    show (decide (j = k) || _) = (keq (keyD j) (keyD k) || _)
    rw [keq_key]
theorem RpK.append : ∀ {vs ws : List (Key × V)} {ds es : List (D × D)}, RpK K G vs ds → RpK K G ws es → RpK K G (vs ++ ws) (ds ++ es)
  | _, _, _, _, .nil, s => s
  | _, _, _, _, .cons r t, s => .cons r (RpK.append t s)
theorem RpK.mapK {k : Key} {v : V} {d : D} (q : Rp K G v d) : ∀ {vs : List (Key × V)} {ds : List (D × D)}, RpK K G vs ds → RpK K G (vs.map fun kv => if kv.1 = k then (kv.1, v) else kv) (ds.map fun p => if keq p.1 (keyD k) = true then (p.1, d) else p)
  | _, _, .nil => .nil
  | _, _, .cons (k := j) (v := v0) (d := d0) r t => by
    have ih := RpK.mapK (k := k) q t
    rw [List.map_cons, List.map_cons]
    by_cases e : j = k
    · have e1 : (if (j, v0).1 = k then ((j, v0).1, v) else (j, v0)) = (j, v) := if_pos e
      have e2 : (if keq (keyD j, d0).1 (keyD k) = true then ((keyD j, d0).1, d) else (keyD j, d0)) = (keyD j, d) := if_pos (by show keq (keyD j) (keyD k) = true; rw [keq_key]; exact decide_eq_true e)
      rw [e1, e2]
      exact .cons q ih
    · have e1 : (if (j, v0).1 = k then ((j, v0).1, v) else (j, v0)) = (j, v0) := if_neg e
      have e2 : (if keq (keyD j, d0).1 (keyD k) = true then ((keyD j, d0).1, d) else (keyD j, d0)) = (keyD j, d0) := if_neg (by show ¬ keq (keyD j) (keyD k) = true; rw [keq_key]; exact fun z => e (of_decide_eq_true z))
      rw [e1, e2]
      exact .cons r ih
theorem RpK.put {k : Key} {v : V} {d : D} {vs : List (Key × V)} {ds : List (D × D)} (q : Rp K G v d) (r : RpK K G vs ds) : RpK K G (putK vs k v) (putD ds (keyD k) d) := by
  unfold putK putD
  rw [r.anyK]
  split
  · exact r.mapK q
  · exact r.append (.cons q .nil)
theorem RpK.drop {k : Key} : ∀ {vs : List (Key × V)} {ds : List (D × D)}, RpK K G vs ds → RpK K G (dropK vs k) (dropD ds (keyD k))
  | _, _, .nil => .nil
  | _, _, .cons (k := j) (v := v) (d := d) (vs := vs) (ds := ds) r t => by
    have ih := RpK.drop (k := k) t
    unfold dropK dropD at ih ⊢
    rw [List.filter_cons, List.filter_cons]
    by_cases e : j = k
    · have e1 : ¬ (decide ((j, v).1 ≠ k)) = true := by simp [e]
      have e2 : ¬ (!keq (keyD j, d).1 (keyD k)) = true := by
        show ¬ (!keq (keyD j) (keyD k)) = true
        rw [keq_key, decide_eq_true e]
        decide
      rw [if_neg e1, if_neg e2]
      exact ih
    · have e1 : (decide ((j, v).1 ≠ k)) = true := decide_eq_true e
      have e2 : (!keq (keyD j, d).1 (keyD k)) = true := by
        show (!keq (keyD j) (keyD k)) = true
        rw [keq_key, decide_eq_false e]
        rfl
      rw [if_pos e1, if_pos e2]
      exact .cons r ih
theorem RpK.merge : ∀ {ms : List (Key × V)} {es : List (D × D)} {vs : List (Key × V)} {ds : List (D × D)}, RpK K G ms es → RpK K G vs ds → RpK K G (mergeK vs ms) (es.foldl (fun acc p => putD acc p.1 p.2) ds)
  | _, _, _, _, .nil, r => r
  | _, _, _, _, .cons (k := k) q t, r => by
    have z := RpK.merge t (RpK.put (k := k) q r)
    exact z
theorem RpA.length : ∀ {vs : List V} {ds : List D}, RpA K G vs ds → vs.length = ds.length
  | _, _, .nil => rfl
  | _, _, .cons _ t => by rw [List.length_cons, List.length_cons, RpA.length t]
theorem RpA.get : ∀ {vs : List V} {ds : List D} {i : Nat} {d : D}, RpA K G vs ds → ds[i]? = some d → ∃ v, vs[i]? = some v ∧ Rp K G v d
  | _, _, _, _, .nil, h => by simp at h
  | _, _, 0, _, .cons r _, h => by
    simp at h
    subst h
    exact ⟨_, rfl, r⟩
  | _, _, i + 1, _, .cons _ t, h => by
    obtain ⟨v, h1, h2⟩ := RpA.get (i := i) t (by simpa using h)
    exact ⟨v, by simpa using h1, h2⟩
theorem RpA.getV : ∀ {vs : List V} {ds : List D} {i : Nat} {v : V}, RpA K G vs ds → vs[i]? = some v → ∃ d, ds[i]? = some d ∧ Rp K G v d
  | _, _, _, _, .nil, h => by simp at h
  | _, _, 0, _, .cons r _, h => by
    simp at h
    subst h
    exact ⟨_, rfl, r⟩
  | _, _, i + 1, _, .cons _ t, h => by
    obtain ⟨v, h1, h2⟩ := RpA.getV (i := i) t (by simpa using h)
    exact ⟨v, by simpa using h1, h2⟩
theorem RpA.append : ∀ {vs ws : List V} {ds es : List D}, RpA K G vs ds → RpA K G ws es → RpA K G (vs ++ ws) (ds ++ es)
  | _, _, _, _, .nil, s => s
  | _, _, _, _, .cons r t, s => .cons r (RpA.append t s)
theorem RpA.take : ∀ {vs : List V} {ds : List D} (n : Nat), RpA K G vs ds → RpA K G (vs.take n) (ds.take n)
  | _, _, 0, _ => .nil
  | _, _, _ + 1, .nil => .nil
  | _, _, n + 1, .cons r t => .cons r (RpA.take n t)
theorem RpA.drop : ∀ {vs : List V} {ds : List D} (n : Nat), RpA K G vs ds → RpA K G (vs.drop n) (ds.drop n)
  | _, _, 0, r => r
  | _, _, _ + 1, .nil => .nil
  | _, _, n + 1, .cons _ t => RpA.drop n t
theorem RpA.set {v : V} {d : D} (r : Rp K G v d) : ∀ {vs : List V} {ds : List D} (i : Nat), RpA K G vs ds → RpA K G (vs.set i v) (ds.set i d)
  | _, _, _, .nil => .nil
  | _, _, 0, .cons _ t => .cons r t
  | _, _, i + 1, .cons q t => .cons q (RpA.set r i t)
theorem RpA.erase : ∀ {vs : List V} {ds : List D} (i : Nat), RpA K G vs ds → RpA K G (vs.eraseIdx i) (ds.eraseIdx i)
  | _, _, _, .nil => .nil
  | _, _, 0, .cons _ t => t
  | _, _, i + 1, .cons q t => .cons q (RpA.erase i t)
theorem RpA.dropL : ∀ {vs : List V} {ds : List D}, RpA K G vs ds → RpA K G vs.dropLast ds.dropLast
  | _, _, .nil => .nil
  | _, _, .cons _ .nil => .nil
  | _, _, .cons q (.cons r t) => .cons q (RpA.dropL (.cons r t))
theorem RpA.rep {vs : List V} {ds : List D} (h : RpA K G vs ds) : ∀ k : Nat, RpA K G (List.replicate k vs).flatten (List.replicate k ds).flatten
  | 0 => .nil
  | k + 1 => by
    rw [List.replicate_succ, List.replicate_succ, List.flatten_cons, List.flatten_cons]
    exact h.append (RpA.rep h k)
theorem RpA.ints : ∀ {ds : List D} {vs : List V} {ns : List Int}, RpA K G vs ds → intsD ds = some ns → vs = ns.map V.int
  | [], _, ns, h, e => by
    cases h
    simp only [intsD, Option.some.injEq] at e
    subst e
    rfl
  | d :: ds, _, ns, h, e => by
    cases h with
    | cons h1 h2 =>
      cases d with
      | int i =>
        simp only [intsD, Option.map_eq_some_iff] at e
        obtain ⟨ms, e1, e2⟩ := e
        subst e2
        cases h1
        rw [RpA.ints h2 e1]
        rfl
      | _ => simp [intsD] at e
theorem RpA.bools : ∀ {ds : List D} {vs : List V} {ns : List Bool}, RpA K G vs ds → boolsD ds = some ns → vs = ns.map V.bl
  | [], _, ns, h, e => by
    cases h
    simp only [boolsD, Option.some.injEq] at e
    subst e
    rfl
  | d :: ds, _, ns, h, e => by
    cases h with
    | cons h1 h2 =>
      cases d with
      | bool i =>
        simp only [boolsD, Option.map_eq_some_iff] at e
        obtain ⟨ms, e1, e2⟩ := e
        subst e2
        cases h1
        rw [RpA.bools h2 e1]
        rfl
      | _ => simp [boolsD] at e
theorem RpA.rng (a : Int) : ∀ n : Nat, RpA K G ((List.range n).map fun i => V.int (a + (i : Nat))) ((List.range n).map fun i => PyData.int (a + (i : Nat))) := fun n => by
  induction n with
  | zero => exact .nil
  | succ n ih =>
    rw [List.range_succ, List.map_append, List.map_append]
    exact ih.append (.cons (.int _) .nil)

/-- the frozen part G of the tracked H; a step: all stays; what was tracked and not frozen isn't frozen later -/
structure Step (G H G' H' : Hp) : Prop where
  gg : Same G G'
  hh : Same H H'
  gh : Same G' H'
  fr : ∀ a o, H a = some o → G a = none → G' a = none
theorem Step.refl (S : Same G H) : Step G H G H := ⟨Same.refl _, Same.refl _, S, fun _ _ _ h => h⟩
theorem Step.trans (a : Step G H G1 H1) (b : Step G1 H1 G2 H2) : Step G H G2 H2 :=
  ⟨a.gg.trans b.gg, a.hh.trans b.hh, b.gh, fun x o h n => b.fr x o (a.hh _ _ h) (a.fr x o h n)⟩
/-- a tracked object and the data that it holds -/
inductive Shp (K : PySem.W.Frag) (G : Hp) : HO → D → Prop
  | lst {vs : List V} {ds : List D} : RpA K G vs ds → Shp K G (.lst vs) (.list ds)
  | dct {vs : List (Key × V)} {ds : List (D × D)} : RpK K G vs ds → Shp K G (.dK vs) (.dict ds)
theorem Shp.mono {o : HO} {d : D} (S : Same G G') (h : Shp K G o d) : Shp K G' o d := by
  cases h with
  | lst r => exact .lst (r.mono S)
  | dct r => exact .dct (r.mono S)
theorem Shp.frozen {a : Addr} {o : HO} {d : D} (h : Shp K G o d) (e : G a = some o) : Rp K G (.ref a) d := by
  cases h with
  | lst r => exact .lst (.inl (.inl e)) r
  | dct r => exact .dct (.inl e) r
/-- entries of a dict with nested tuples as keys -/
abbrev RpN (K : PySem.W.Frag) (G : Hp) : NL → List (D × D) → Prop := Paired fun q p => nkD p.1 = some q.1 ∧ q.1.depth ≤ 8 ∧ Rp K G (.ref q.2.1) p.1 ∧ Rp K G q.2.2 p.2
inductive ShpX (K : PySem.W.Frag) (G : Hp) (a : Addr) : HO → D → Prop
  | base {o : HO} {d : D} : Shp K G o d → ShpX K G a o d
  | nst {L : NL} {ps : List (D × D)} : RpN K G L ps → ShpX K G a (ndO a L) (.dict ((.none, .none) :: ps))
  | lck {od : Obj} {vs : List (Key × V)} {ds : List (D × D)} : RpK K G vs ds → ShpX K G a (.frz od (.dK vs)) (.dict ds)
theorem RpN.mono {L : NL} {ps : List (D × D)} (S : Same G G') (h : RpN K G L ps) : RpN K G' L ps := Paired.mapP h fun _ _ z => ⟨z.1, z.2.1, Rp.mono S _ _ z.2.2.1, Rp.mono S _ _ z.2.2.2⟩
theorem ShpX.mono {a : Addr} {o : HO} {d : D} (S : Same G G') (h : ShpX K G a o d) : ShpX K G' a o d := by
  cases h with
  | base r => exact .base (r.mono S)
  | nst r => exact .nst (RpN.mono S r)
  | lck r => exact .lck (r.mono S)
theorem Shp.plain {o : HO} {d : D} (h : Shp K G o d) : nmkD d = true := by
  cases h with
  | lst r => rfl
  | dct r =>
    cases r with
    | nil => rfl
    | @cons k _ _ _ _ _ _ => cases k <;> rfl
/-- no dict -/
def ndD : D → Bool
  | .dict _ => false
  | _ => true
theorem ShpX.plain {a : Addr} {o : HO} {d : D} (h : ShpX K G a o d) (n : ndD d = true) : Shp K G o d := by
  cases h with
  | base r => exact r
  | nst r => cases n
  | lck r => cases n
/-- it isn't locked -/
def Nfz (o : HO) : Prop := ∀ od u, o ≠ .frz od u
theorem Shp.nfz {o : HO} {d : D} (h : Shp K G o d) : Nfz o := by
  cases h with
  | lst r => exact fun _ _ z => nomatch z
  | dct r => exact fun _ _ z => nomatch z
/-- what stands at an owned slot -/
inductive ShpO (K : PySem.W.Frag) (G : Hp) (a : Addr) : HO → D → Prop
  | base {o : HO} {d : D} : Shp K G o d → ShpO K G a o d
  | nst {L : NL} {ps : List (D × D)} : RpN K G L ps → ShpO K G a (ndO a L) (.dict ((.none, .none) :: ps))
theorem ShpO.x {a : Addr} {o : HO} {d : D} (h : ShpO K G a o d) : ShpX K G a o d := by
  cases h with
  | base r => exact .base r
  | nst r => exact .nst r
theorem ShpO.nfz {a : Addr} {o : HO} {d : D} (h : ShpO K G a o d) : Nfz o := by
  cases h with
  | base r => exact r.nfz
  | nst r => exact fun _ _ z => nomatch z
theorem ShpO.plain {a : Addr} {o : HO} {d : D} (h : ShpO K G a o d) (n : nmkD d = true) : Shp K G o d := by
  cases h with
  | base r => exact r
  | nst r => cases n
theorem ShpX.o {a : Addr} {o : HO} {d : D} (h : ShpX K G a o d) (n : Nfz o) : ShpO K G a o d := by
  cases h with
  | base r => exact .base r
  | nst r => exact .nst r
  | lck r => exact absurd rfl (n _ _)
theorem ShpX.open_ {a : Addr} {o : HO} {d : D} (h : ShpX K G a o d) (p : nmkD d = true) (n : Nfz o) : Shp K G o d := by
  cases h with
  | base r => exact r
  | nst r => cases p
  | lck r => exact absurd rfl (n _ _)
/-- an owned thing: tracked, not frozen, its items frozen -/
def Top (K : PySem.W.Frag) (G H : Hp) (v : V) (d : D) : Prop := ∃ a o, v = .ref a ∧ G a = none ∧ H a = some o ∧ Shp K G o d
def TopY (K : PySem.W.Frag) (G H : Hp) (v : V) (d : D) : Prop := ∃ a o, v = .ref a ∧ G a = none ∧ H a = some o ∧ ShpX K G a o d
/-- a field: frozen data, or a thing that is peeked at -/
def FldR (K : PySem.W.Frag) (G H : Hp) (w : V) (x : D) : Prop := (∃ y, x = .tuple [.bool false, y] ∧ Rp K G w y) ∨ ∃ y, x = .tuple [.bool true, y] ∧ TopY K G H w y
/-- an object of a class of the program -/
def ObjX (K : PySem.W.Frag) (G H : Hp) (v : V) (d : D) : Prop := ∃ (a C dx : Addr) (fs : List (Str × V)) (ps : List (D × D)), v = .ref a ∧ G a = none ∧ H a = some (.ins C dx fs) ∧ Cls K C ∧ d = .dict ((.none, .bool true) :: ps) ∧ (∀ p ∈ ps, ∃ g, p.1 = .tuple [.str g]) ∧
  ∀ f x, fldL f ps = some x → NoAttr K C f ∧ ∃ w, fs.lookup f = some w ∧ FldR K G H w x
def TopX (K : PySem.W.Frag) (G H : Hp) (v : V) (d : D) : Prop := TopY K G H v d ∨ ObjX K G H v d
theorem TopX.ref {v : V} {d : D} (h : TopX K G H v d) : ∃ a o, v = .ref a ∧ G a = none ∧ H a = some o := by
  rcases h with ⟨a, o, e, n, t, _⟩ | ⟨a, C, dx, fs, ps, e, n, t, _, _⟩
  · exact ⟨a, o, e, n, t⟩
  · exact ⟨a, _, e, n, t⟩
theorem Top.y {v : V} {d : D} (h : Top K G H v d) : TopY K G H v d := by
  obtain ⟨a, o, e, n, t, r⟩ := h
  exact ⟨a, o, e, n, t, .base r⟩
theorem Top.x {v : V} {d : D} (h : Top K G H v d) : TopX K G H v d := by
  refine .inl ?_
  obtain ⟨a, o, e, n, t, r⟩ := h
  exact ⟨a, o, e, n, t, .base r⟩
theorem TopX.plain {v : V} {d : D} (h : TopX K G H v d) (p : ndD d = true) : Top K G H v d := by
  rcases h with h | ⟨a, C, dx, fs, ps, _, _, _, _, rfl, _⟩
  rotate_left
  · cases p
  obtain ⟨a, o, e, n, t, r⟩ := h
  exact ⟨a, o, e, n, t, r.plain p⟩
def SlR (K : PySem.W.Frag) (G H : Hp) (v : V) (s : Sl) : Prop := match s.m with
  | .f => Rp K G v s.d
  | .o => Top K G H v s.d
  | .p => TopX K G H v s.d
/-- what stands at a slot -/
def SlE (K : PySem.W.Frag) (G H : Hp) (v : V) (s : Sl) : Prop := match s.m with
  | .f => Rp K G v s.d
  | .o => TopY K G H v s.d
  | .p => TopX K G H v s.d
theorem SlR.e {v : V} {s : Sl} (h : SlR K G H v s) : SlE K G H v s := by
  obtain ⟨m, d⟩ := s
  cases m with
  | f => exact h
  | o => exact Top.y h
  | p => exact h
def Rdb (K : PySem.W.Frag) (G H : Hp) (v : V) (d : D) : Prop := Rp K G v d ∨ TopX K G H v d
theorem SlR.rdb {v : V} {s : Sl} (h : SlR K G H v s) : Rdb K G H v s.d := by
  obtain ⟨m, d⟩ := s
  cases m with
  | f => exact .inl h
  | o => exact .inr (Top.x h)
  | p => exact .inr h
theorem Top.mono {v : V} {d : D} (S : Step G H G' H') (h : Top K G H v d) : Top K G' H' v d := by
  obtain ⟨a, o, e1, n, t, r⟩ := h
  exact ⟨a, o, e1, S.fr _ _ t n, S.hh _ _ t, r.mono S.gg⟩
theorem TopY.mono {v : V} {d : D} (S : Step G H G' H') (h : TopY K G H v d) : TopY K G' H' v d := by
  obtain ⟨a, o, e1, n, t, r⟩ := h
  exact ⟨a, o, e1, S.fr _ _ t n, S.hh _ _ t, r.mono S.gg⟩
theorem FldR.mono {w : V} {x : D} (S : Step G H G' H') (h : FldR K G H w x) : FldR K G' H' w x := by
  rcases h with ⟨y, e, r⟩ | ⟨y, e, r⟩
  · exact .inl ⟨y, e, Rp.mono S.gg _ _ r⟩
  · exact .inr ⟨y, e, r.mono S⟩
theorem TopX.mono {v : V} {d : D} (S : Step G H G' H') (h : TopX K G H v d) : TopX K G' H' v d := by
  rcases h with h | ⟨a, C, dx, fs, ps, e, n, t, c, e2, r⟩
  · exact .inl (h.mono S)
  · refine .inr ⟨a, C, dx, fs, ps, e, S.fr _ _ t n, S.hh _ _ t, c, e2, r.1, fun f x hx => ?_⟩
    obtain ⟨h1, w, h2, h3⟩ := r.2 f x hx
    exact ⟨h1, w, h2, h3.mono S⟩
/-- the heap behind may be smaller -/
theorem TopY.monoG {H0 : Hp} {v : V} {d : D} (gg : Same G G') (fr : ∀ b o, H0 b = some o → G b = none → G' b = none) (h : TopY K G H0 v d) : TopY K G' H0 v d := by
  obtain ⟨a, o, e1, n, t, r⟩ := h
  exact ⟨a, o, e1, fr _ _ t n, t, r.mono gg⟩
theorem TopX.monoG {H0 : Hp} {v : V} {d : D} (gg : Same G G') (fr : ∀ b o, H0 b = some o → G b = none → G' b = none) (h : TopX K G H0 v d) : TopX K G' H0 v d := by
  rcases h with h | ⟨a, C, dx, fs, ps, e, n, t, c, e2, r⟩
  · exact .inl (h.monoG gg fr)
  · refine .inr ⟨a, C, dx, fs, ps, e, fr _ _ t n, t, c, e2, r.1, fun f x hx => ?_⟩
    obtain ⟨h1, w, h2, h3⟩ := r.2 f x hx
    refine ⟨h1, w, h2, ?_⟩
    rcases h3 with ⟨y, e, r⟩ | ⟨y, e, r⟩
    · exact .inl ⟨y, e, Rp.mono gg _ _ r⟩
    · exact .inr ⟨y, e, r.monoG gg fr⟩
theorem TopY.monoH {H0 : Hp} {v : V} {d : D} (hh : Same H0 H) (h : TopY K G H0 v d) : TopY K G H v d := by
  obtain ⟨a, o, e1, n, t, r⟩ := h
  exact ⟨a, o, e1, n, hh _ _ t, r⟩
theorem TopX.monoH {H0 : Hp} {v : V} {d : D} (hh : Same H0 H) (h : TopX K G H0 v d) : TopX K G H v d := by
  rcases h with h | ⟨a, C, dx, fs, ps, e, n, t, c, e2, e3, r⟩
  · exact .inl (h.monoH hh)
  · refine .inr ⟨a, C, dx, fs, ps, e, n, hh _ _ t, c, e2, e3, fun f x hx => ?_⟩
    obtain ⟨h1, w, h2, h3⟩ := r f x hx
    refine ⟨h1, w, h2, ?_⟩
    rcases h3 with h3 | ⟨y, e, r⟩
    · exact .inl h3
    · exact .inr ⟨y, e, r.monoH hh⟩
theorem obj_no {ps : List (D × D)} (h : ∀ p ∈ ps, ∃ g, p.1 = .tuple [.str g]) (y : D) : lookD ((.none, .bool true) :: ps) y = none := by
  unfold lookD
  rw [Option.map_eq_none_iff, List.find?_eq_none]
  intro p hp
  rcases List.mem_cons.mp hp with e | hp
  · rw [e]
    cases y <;> simp [keq]
  · obtain ⟨g, e⟩ := h p hp
    rw [e]
    cases y <;> simp [keq]
theorem SlE.mono {v : V} {s : Sl} (S : Step G H G' H') (h : SlE K G H v s) : SlE K G' H' v s := by
  obtain ⟨m, d⟩ := s
  cases m with
  | f => exact Rp.mono S.gg _ _ h
  | o => exact TopY.mono S h
  | p => exact TopX.mono S h
theorem SlR.mono {v : V} {s : Sl} (S : Step G H G' H') (h : SlR K G H v s) : SlR K G' H' v s := by
  obtain ⟨m, d⟩ := s
  cases m with
  | f => exact Rp.mono S.gg _ _ h
  | o => exact Top.mono S h
  | p => exact TopX.mono S h
theorem Rdb.mono {v : V} {d : D} (S : Step G H G' H') (h : Rdb K G H v d) : Rdb K G' H' v d := by
  rcases h with h | h
  · exact .inl (Rp.mono S.gg _ _ h)
  · exact .inr (h.mono S)
theorem TopX.cases {v : V} {d : D} (h : TopX K G H v d) : Top K G H v d ∨ (∃ (a : Addr) (L : NL) (ps : List (D × D)), v = .ref a ∧ d = .dict ((.none, .none) :: ps) ∧ G a = none ∧ H a = some (ndO a L) ∧ RpN K G L ps) ∨
    (∃ (a : Addr) (od : Obj) (vs : List (Key × V)) (ds : List (D × D)), v = .ref a ∧ d = .dict ds ∧ G a = none ∧ H a = some (.frz od (.dK vs)) ∧ RpK K G vs ds) ∨
    (∃ ps, d = .dict ((.none, .bool true) :: ps) ∧ v ≠ .non ∧ ∀ p ∈ ps, ∃ g, p.1 = .tuple [.str g]) := by
  rcases h with h | h
  rotate_left
  · obtain ⟨a, C, dx, fs, ps, e, n, t, c, e2, r⟩ := id h
    exact .inr (.inr (.inr ⟨ps, e2, (by rw [e]; exact fun z => nomatch z), r.1⟩))
  obtain ⟨a, o, e, n, t, r⟩ := h
  cases r with
  | base r => exact .inl ⟨a, o, e, n, t, r⟩
  | nst r => exact .inr (.inl ⟨a, _, _, e, rfl, n, t, r⟩)
  | lck r => exact .inr (.inr (.inl ⟨a, _, _, _, e, rfl, n, t, r⟩))
theorem Rdb.plain {v : V} {d : D} (h : Rdb K G H v d) (p : ndD d = true) : Rp K G v d ∨ Top K G H v d := h.imp id fun h => h.plain p
theorem Rdb.list {v : V} {ds : List D} (S : Same G H) (h : Rdb K G H v (.list ds)) : ∃ a vs, v = .ref a ∧ SqL K H a vs ∧ RpA K G vs ds := by
  rcases h.plain rfl with h | ⟨a, o, rfl, _, t, r⟩
  · cases h with
    | lst h1 h2 => exact ⟨_, _, rfl, S.seq h1, h2⟩
  · cases r with
    | lst r => exact ⟨a, _, rfl, .inl (.inl t), r⟩
theorem Rdb.dict {v : V} {ds : List (D × D)} (S : Same G H) (p : nmk ds = true) (h : Rdb K G H v (.dict ds)) : ∃ a vs, v = .ref a ∧ Rd H a (.dK vs) ∧ RpK K G vs ds := by
  rcases h with h | h
  · cases h with
    | dct h1 h2 => exact ⟨_, _, rfl, Rd.mono S h1, h2⟩
    | xc => cases p
  · rcases h.cases with ⟨a, o, rfl, _, t, r⟩ | ⟨a, L, ps, rfl, e, _⟩ | ⟨a, od, vs, ds', rfl, e, _, t, r⟩ | ⟨ps, e, _⟩
    · cases r with
      | dct r => exact ⟨a, _, rfl, .inl t, r⟩
    · cases e
      cases p
    · cases e
      exact ⟨a, vs, rfl, .inr ⟨od, t⟩, r⟩
    · cases e
      cases p
theorem RpK.plain {vs : List (Key × V)} {ds : List (D × D)} (h : RpK K G vs ds) : nmk ds = true := by
  cases h with
  | nil => rfl
  | @cons k _ _ _ _ _ _ => cases k <;> rfl
theorem Rdb.nst {v : V} {ps : List (D × D)} (h : Rdb K G H v (.dict ((.none, .none) :: ps))) : ∃ (a : Addr) (L : NL), v = .ref a ∧ H a = some (ndO a L) ∧ RpN K G L ps := by
  rcases h with h | h
  · cases h with
    | dct h1 h2 =>
      have := h2.plain
      cases this
  · rcases h.cases with h | ⟨a, L, ps', e1, e2, _, t, r⟩ | ⟨a, od, vs, ds', e1, e2, _, t, r⟩ | ⟨_, e2, _⟩
    · obtain ⟨a, o, _, _, _, r⟩ := h
      have := r.plain
      cases this
    · cases e2
      exact ⟨a, L, e1, t, r⟩
    · cases e2
      have := r.plain
      cases this
    · cases e2
theorem Rdb.tuple {v : V} {ds : List D} (S : Same G H) (h : Rdb K G H v (.tuple ds)) : ∃ a vs, v = .ref a ∧ SqT K H a vs ∧ RpA K G vs ds := by
  rcases h.plain rfl with h | ⟨a, o, rfl, _, t, r⟩
  · cases h with
    | tup h1 h2 => exact ⟨_, _, rfl, SqT.mono S h1, h2⟩
  · cases r
theorem Rdb.str {v : V} {x : Str} (h : Rdb K G H v (.str x)) : v = .str x := by
  rcases h.plain rfl with h | ⟨a, o, rfl, _, t, r⟩
  · cases h
    rfl
  · cases r
theorem Rdb.int {v : V} {i : Int} (h : Rdb K G H v (.int i)) : v = .int i := by
  rcases h.plain rfl with h | ⟨a, o, rfl, _, t, r⟩
  · cases h
    rfl
  · cases r
theorem Rdb.bool {v : V} {i : Bool} (h : Rdb K G H v (.bool i)) : v = .bl i := by
  rcases h.plain rfl with h | ⟨a, o, rfl, _, t, r⟩
  · cases h
    rfl
  · cases r
theorem Rdb.key {v : V} {k : Key} (h : Rdb K G H v (keyD k)) : v = kV k := by
  cases k with
  | inl i => exact h.int
  | inr x => exact h.str
theorem Rdb.dp {v : V} {d : D} (S : Same G H) (c : d.canLay0 = true) (h : Rdb K G H v d) : Dp K H v d := by
  have p : ndD d = true := by
    cases d with
    | dict ds => simp [PyData.canLay0] at c
    | _ => rfl
  rcases h.plain p with h | ⟨a, o, rfl, _, t, r⟩
  · exact Rp.dp S _ _ c h
  · cases r with
    | lst r => exact .lst (.inl (.inl t)) (RpA.dp S _ _ c r)
    | dct r => simp [PyData.canLay0] at c
theorem Rdb.none_iff {v : V} {d : D} (h : Rdb K G H v d) : decide (v = .non) = isNone d := by
  rcases h with h | h
  · cases h <;> rfl
  · rcases h.cases with ⟨a, o, rfl, _, t, r⟩ | ⟨a, L, ps', rfl, rfl, _⟩ | ⟨a, od, vs, ds', rfl, rfl, _⟩ | ⟨ps, rfl, hn, _⟩
    · cases r <;> rfl
    · rfl
    · rfl
    · exact decide_eq_false hn
mutual
theorem Rp.nk (S : Same G H) : ∀ (d : D) (v : V) (k : NestedKey), Rp K G v d → nkD d = some k → NkA K H k v
  | .int i, _, _, r, h => by
    cases r
    cases h
    exact .num i
  | .tuple ds, _, _, r, h => by
    cases r with
    | tup h1 h2 =>
      simp only [nkD] at h
      obtain ⟨ks, e, rfl⟩ := Option.map_eq_some_iff.mp h
      exact .tup (SqT.mono S h1) (RpA.nk S ds _ ks h2 e)
  | .none, _, _, _, h => by simp [nkD] at h
  | .bool _, _, _, _, h => by simp [nkD] at h
  | .str _, _, _, _, h => by simp [nkD] at h
  | .list _, _, _, _, h => by simp [nkD] at h
  | .dict _, _, _, _, h => by simp [nkD] at h
theorem RpA.nk (S : Same G H) : ∀ (ds : List D) (vs : List V) (ks : List NestedKey), RpA K G vs ds → nkDs ds = some ks → NkAll K H ks vs
  | [], _, _, r, h => by
    cases r
    simp only [nkDs] at h
    cases h
    exact .nil
  | d :: ds, _, _, r, h => by
    cases r with
    | cons r1 r2 =>
      simp only [nkDs] at h
      split at h
      · rename_i k ks e1 e2
        cases h
        exact .cons (Rp.nk S d _ k r1 e1) (RpA.nk S ds _ ks r2 e2)
      · cases h
end
theorem RpN.kn {L : NL} {ps : List (D × D)} (S : Same G H) (h : RpN K G L ps) : KN K H L := by
  induction h with
  | nil => exact fun p hp => (nomatch hp)
  | cons hq t ih =>
    intro p hp
    rcases List.mem_cons.mp hp with e | hp
    · subst e
      exact ⟨Rp.nk S _ _ _ hq.2.2.1 hq.1, hq.2.1⟩
    · exact ih p hp
theorem RpN.look {L : NL} {ps : List (D × D)} (h : RpN K G L ps) {j : D} {k : NestedKey} (hj : nkD j = some k) : (valN L k = none ∧ lookN ps j = none) ∨ ∃ w d, valN L k = some w ∧ lookN ps j = some d ∧ Rp K G w d := by
  induction h with
  | nil => exact .inl ⟨rfl, rfl⟩
  | @cons q p qs ps hq t ih =>
    obtain ⟨h1, _, _, h4⟩ := hq
    unfold valN lookN
    by_cases e : q.1 = k
    · have e2 : nkD p.1 = nkD j := by rw [h1, hj, e]
      simp only [List.find?_cons, e, e2, decide_true, Option.map_some]
      exact .inr ⟨_, _, rfl, rfl, h4⟩
    · have e2 : ¬ nkD p.1 = nkD j := by
        rw [h1, hj]
        exact fun z => e (Option.some.inj z)
      simp only [List.find?_cons, e, e2, decide_false]
      exact ih
theorem RpN.repl {L : NL} {ps : List (D × D)} (h : RpN K G L ps) {j d : D} {k : NestedKey} {v : V} (hj : nkD j = some k) (rv : Rp K G v d) :
    RpN K G (L.map fun p => if p.1 = k then (p.1, p.2.1, v) else p) (ps.map fun p => if nkD p.1 = nkD j then (p.1, d) else p) := by
  induction h with
  | nil => exact .nil
  | @cons q p qs ps hq t ih =>
    rw [List.map_cons, List.map_cons]
    refine .cons ?_ ih
    obtain ⟨h1, h2, h3, h4⟩ := hq
    by_cases e : q.1 = k
    · have e2 : nkD p.1 = nkD j := by rw [h1, hj, e]
      rw [if_pos e, if_pos e2]
      exact ⟨h1, h2, h3, rv⟩
    · have e2 : ¬ nkD p.1 = nkD j := by
        rw [h1, hj]
        exact fun z => e (Option.some.inj z)
      rw [if_neg e, if_neg e2]
      exact ⟨h1, h2, h3, h4⟩
theorem RpN.put {L : NL} {ps : List (D × D)} (h : RpN K G L ps) {j d : D} {k : NestedKey} {b : Addr} {v : V} (hj : nkD j = some k) (hd : k.depth ≤ 8) (rj : Rp K G (.ref b) j) (rv : Rp K G v d) : RpN K G (putNL L k b v) (putN ps j d) := by
  unfold putNL putN
  rcases h.look hj with ⟨e1, e2⟩ | ⟨w, d', e1, e2, _⟩
  · rw [e1, e2]
    exact Paired.snoc h ⟨hj, hd, rj, rv⟩
  · rw [e1, e2]
    exact h.repl hj rv
theorem RpN.keys {L : NL} {ps : List (D × D)} (h : RpN K G L ps) : RpA K G (L.map fun e => V.ref e.2.1) (ps.map (·.1)) := by
  induction h with
  | nil => exact .nil
  | cons hq t ih => exact .cons hq.2.2.1 ih
theorem nkOk_ok {d : D} (h : nkOk d = true) : (∃ ds, d = .tuple ds) ∧ ∃ k, nkD d = some k ∧ k.depth ≤ 8 := by
  unfold nkOk at h
  rw [Bool.and_eq_true] at h
  obtain ⟨h1, h2⟩ := h
  refine ⟨?_, ?_⟩
  · cases d with
    | tuple ds => exact ⟨ds, rfl⟩
    | _ => cases h1
  · split at h2
    · rename_i k e
      exact ⟨k, e, of_decide_eq_true h2⟩
    · cases h2
/-- a tuple that is read is frozen -/
theorem Rdb.rpTup {v : V} {ds : List D} (h : Rdb K G H v (.tuple ds)) : Rp K G v (.tuple ds) := by
  rcases h.plain rfl with h | ⟨a, o, _, _, _, r⟩
  · exact h
  · cases r
theorem RpN.no_key {L : NL} {ps : List (D × D)} (h : RpN K G L ps) {x : D} (hx : keyOk x = true) : lookD ((.none, .none) :: ps) x = none := by
  have z : ∀ p ∈ ps, keq p.1 x = false := by
    induction h with
    | nil => exact fun p hp => (nomatch hp)
    | @cons q p qs ps hq t ih =>
      intro p' hp
      rcases List.mem_cons.mp hp with e | hp
      · subst e
        obtain ⟨_, _, r, _⟩ := hq
        cases h' : p'.1 with
        | int i =>
          rw [h'] at r
          cases r
        | str i =>
          rw [h'] at r
          cases r
        | none => cases x <;> rfl
        | bool _ => cases x <;> rfl
        | list _ => cases x <;> rfl
        | tuple _ => cases x <;> rfl
        | dict _ => cases x <;> rfl
      · exact ih p' hp
  unfold lookD
  rw [List.find?_eq_none.mpr]
  · rfl
  · intro p hp
    rcases List.mem_cons.mp hp with e | hp
    · subst e
      cases x <;> simp [keq]
    · rw [z p hp]
      decide
/-- what an expression hands on, from the heap H on -/
def ResR (K : PySem.W.Frag) (H G' H' : Hp) (v : V) (s : Sl) : Prop := SlR K G' H' v s ∧ (s.m = .o → ∃ a, v = .ref a ∧ H a = none)
theorem ResR.f {v : V} {d : D} (h : Rp K G' v d) : ResR K H G' H' v ⟨.f, d⟩ := ⟨h, fun z => nomatch z⟩
theorem ResR.back {v : V} {s : Sl} (S : Same H H1) (h : ResR K H1 G' H' v s) : ResR K H G' H' v s :=
  ⟨h.1, fun z => by
    obtain ⟨a, e, n⟩ := h.2 z
    exact ⟨a, e, S.free n⟩⟩
theorem same_upd {p : Addr} {o : HO} (h : H p = none) : Same H (upd H p o) := fun b x e => by
  rw [upd_ne (ne_of_none e h)]
  exact e
/-- a new object, not frozen -/
theorem Step.new {p : Addr} {o : HO} (S : Same G H) (h : H p = none) : Step G H G (upd H p o) :=
  ⟨Same.refl _, same_upd h, S.trans (same_upd h), fun _ _ _ n => n⟩
/-- a new object, frozen at once -/
theorem Step.newF {p : Addr} {o : HO} (S : Same G H) (h : H p = none) : Step G H (upd G p o) (upd H p o) :=
  ⟨same_upd (S.free h), same_upd h, fun b x e => by
    by_cases hb : b = p
    · subst hb
      rw [upd_same] at e ⊢
      exact e
    · rw [upd_ne hb] at e ⊢
      exact S _ _ e, fun a x e n => by
    rw [upd_ne (ne_of_none e h)]
    exact n⟩
/-- a new object is changed -/
theorem Step.chg {p : Addr} {o : HO} (S : Step G H G' H') (h : H p = none) (g : G' p = none) : Step G H G' (upd H' p o) :=
  ⟨S.gg, fun b x e => by
    rw [upd_ne (ne_of_none e h)]
    exact S.hh _ _ e, fun b x e => by
    rw [upd_ne (ne_of_none e g)]
    exact S.gh _ _ e, S.fr⟩
theorem ResR.new {p : Addr} {vs : List V} {ds : List D} (S : Same G H) (h : H p = none) (r : RpA K G vs ds) : ResR K H G (upd H p (.lst vs)) (.ref p) ⟨.o, .list ds⟩ :=
  ⟨⟨p, .lst vs, rfl, S.free h, upd_same, .lst r⟩, fun _ => ⟨p, rfl, h⟩⟩
theorem ResR.newD {p : Addr} {vs : List (Key × V)} {ds : List (D × D)} (S : Same G H) (h : H p = none) (r : RpK K G vs ds) : ResR K H G (upd H p (.dK vs)) (.ref p) ⟨.o, .dict ds⟩ :=
  ⟨⟨p, .dK vs, rfl, S.free h, upd_same, .dct r⟩, fun _ => ⟨p, rfl, h⟩⟩
theorem ResR.newT {p : Addr} {vs : List V} {ds : List D} (S : Same G H) (h : H p = none) (r : RpA K G vs ds) : ResR K H (upd G p (.tup vs)) (upd H p (.tup vs)) (.ref p) ⟨.f, .tuple ds⟩ :=
  .f (.tup (.inl (.inl upd_same)) (r.mono (same_upd (S.free h))))
/-- what is handed on is frozen -/
theorem freeze {v : V} {s : Sl} {d : D} (S : Step G H G' H') (h : ResR K H G' H' v s) (e : asF s = .ok d) : ∃ G2, Step G H G2 H' ∧ Step G' H G2 H' ∧ Rp K G2 v d ∧ Same G' G2 := by
  obtain ⟨m, d'⟩ := s
  cases m with
  | p => cases e
  | f =>
    cases e
    exact ⟨G', S, ⟨Same.refl _, S.hh, S.gh, fun a o _ n => n⟩, h.1, Same.refl _⟩
  | o =>
    cases e
    obtain ⟨⟨a, o, rfl, n, t, r⟩, h2⟩ := h
    obtain ⟨b, e, nb⟩ := h2 rfl
    cases e
    have s1 : Same G' (upd G' a o) := same_upd n
    have s2 : Same (upd G' a o) H' := fun b x e => by
      by_cases hb : b = a
      · subst hb
        rw [upd_same] at e
        cases e
        exact t
      · rw [upd_ne hb] at e
        exact S.gh _ _ e
    have s3 : ∀ c x, H c = some x → G' c = none → upd G' a o c = none := fun c x e n' => by
      rw [upd_ne (ne_of_none e nb)]
      exact n'
    exact ⟨upd G' a o, ⟨S.gg.trans s1, S.hh, s2, fun c x e n' => s3 c x e (S.fr c x e n')⟩, ⟨s1, S.hh, s2, s3⟩, (r.mono s1).frozen upd_same, s1⟩

/-- the slots -/
structure EnvR (K : PySem.W.Frag) (G H : Hp) (σ : L2.St) (ρ : Rho) : Prop where
  len : σ.length = ρ.length
  at_ : ∀ (i : Nat) (s : Sl), ρ[i]? = some (some s) → ∃ v, σ[i]? = some (some v) ∧ SlE K G H v s
theorem EnvR.mono {σ : L2.St} {ρ : Rho} (S : Step G H G' H') (h : EnvR K G H σ ρ) : EnvR K G' H' σ ρ := ⟨h.len, fun i s e => by
  obtain ⟨v, e1, r⟩ := h.at_ i s e
  exact ⟨v, e1, r.mono S⟩⟩
/-- arguments -/
inductive ArgsR (K : PySem.W.Frag) (G H : Hp) : List V → List Sl → Prop
  | nil : ArgsR K G H [] []
  | cons {v : V} {vs : List V} {s : Sl} {ss : List Sl} : SlR K G H v s → s.m ≠ .o → ArgsR K G H vs ss → ArgsR K G H (v :: vs) (s :: ss)
theorem ArgsR.mono (S : Step G H G' H') : ∀ {vs : List V} {ss : List Sl}, ArgsR K G H vs ss → ArgsR K G' H' vs ss
  | _, _, .nil => .nil
  | _, _, .cons h n t => .cons (h.mono S) n (ArgsR.mono S t)
theorem ArgsR.length : ∀ {vs : List V} {ss : List Sl}, ArgsR K G H vs ss → vs.length = ss.length
  | _, _, .nil => rfl
  | _, _, .cons _ _ t => by rw [List.length_cons, List.length_cons, ArgsR.length t]
end
/-- the promise of a def that does what F does -/
def dspR (K : PySem.W.Frag) (G H : Hp) (Q : VK) (E : XK) : M Sl → Prop
  | .ok r => ∀ G' H' v, Step G H G' H' → ResR K H G' H' v r → Q v H'
  | .error (.raised c) => ∀ G' H', Step G H G' H' → XcOk K c → E (.ref (xga K c)) none H'
  | .error .stuck => False
def dsp (K : PySem.W.Frag) (F : List Sl → M Sl) : Sp := fun vs H Q E => ∃ G ss, Same G H ∧ ArgsR K G H vs ss ∧ dspR K G H Q E (F ss)
end GK

/-! a dict is locked for a while -/
namespace GK
open PySem PySem.Spec PyProof.Rows L2
section
variable {K : PySem.W.Frag} {G G' : Hp}
theorem SqL.rd {a : Addr} {xs : List V} (hr : ∀ a u, Nfz u → Rd G a u → Rd G' a u) (h : SqL K G a xs) : SqL K G' a xs := by
  rcases h with h | h
  · exact .inl (hr _ _ (fun _ _ z => nomatch z) h)
  · exact .inr h
theorem SqT.rd {a : Addr} {xs : List V} (hr : ∀ a u, Nfz u → Rd G a u → Rd G' a u) (h : SqT K G a xs) : SqT K G' a xs := by
  rcases h with h | h
  · exact .inl (hr _ _ (fun _ _ z => nomatch z) h)
  · exact .inr h
mutual
/-- what is read alike -/
theorem Rp.rd (hr : ∀ a u, Nfz u → Rd G a u → Rd G' a u) (hx : ∀ a c, G a = some (xcO a c) → G' a = some (xcO a c)) : ∀ (d : D) (v : V), Rp K G v d → Rp K G' v d
  | .none, _, h => by cases h; exact .non
  | .bool b, _, h => by cases h; exact .bl b
  | .int i, _, h => by cases h; exact .int i
  | .str x, _, h => by cases h; exact .str x
  | .list ds, _, h => by
    cases h with
    | lst hs ha => exact .lst (SqL.rd hr hs) (RpA.rd hr hx ds _ ha)
  | .tuple ds, _, h => by
    cases h with
    | tup hs ha => exact .tup (SqT.rd hr hs) (RpA.rd hr hx ds _ ha)
  | .dict ds, _, h => by
    cases h with
    | dct hs ha => exact .dct (hr _ _ (fun _ _ z => nomatch z) hs) (RpK.rd hr hx ds _ ha)
    | xc ho hs => exact .xc ho (hx _ _ hs)
theorem RpA.rd (hr : ∀ a u, Nfz u → Rd G a u → Rd G' a u) (hx : ∀ a c, G a = some (xcO a c) → G' a = some (xcO a c)) : ∀ (ds : List D) (vs : List V), RpA K G vs ds → RpA K G' vs ds
  | [], _, h => by cases h; exact .nil
  | d :: ds, _, h => by
    cases h with
    | cons h1 h2 => exact .cons (Rp.rd hr hx d _ h1) (RpA.rd hr hx ds _ h2)
theorem RpK.rd (hr : ∀ a u, Nfz u → Rd G a u → Rd G' a u) (hx : ∀ a c, G a = some (xcO a c) → G' a = some (xcO a c)) : ∀ (ds : List (D × D)) (vs : List (Key × V)), RpK K G vs ds → RpK K G' vs ds
  | [], _, h => by cases h; exact .nil
  | (_, d) :: ds, _, h => by
    cases h with
    | cons h1 h2 => exact .cons (Rp.rd hr hx d _ h1) (RpK.rd hr hx ds _ h2)
end
theorem RpN.rd (hr : ∀ a u, Nfz u → Rd G a u → Rd G' a u) (hx : ∀ a c, G a = some (xcO a c) → G' a = some (xcO a c)) {L : NL} {ps : List (D × D)} (h : RpN K G L ps) : RpN K G' L ps :=
  Paired.mapP h fun _ _ z => ⟨z.1, z.2.1, Rp.rd hr hx _ _ z.2.2.1, Rp.rd hr hx _ _ z.2.2.2⟩
theorem Shp.rd (hr : ∀ a u, Nfz u → Rd G a u → Rd G' a u) (hx : ∀ a c, G a = some (xcO a c) → G' a = some (xcO a c)) {o : HO} {d : D} (h : Shp K G o d) : Shp K G' o d := by
  cases h with
  | lst r => exact .lst (RpA.rd hr hx _ _ r)
  | dct r => exact .dct (RpK.rd hr hx _ _ r)
theorem ShpX.rd (hr : ∀ a u, Nfz u → Rd G a u → Rd G' a u) (hx : ∀ a c, G a = some (xcO a c) → G' a = some (xcO a c)) {a : Addr} {o : HO} {d : D} (h : ShpX K G a o d) : ShpX K G' a o d := by
  cases h with
  | base r => exact .base (r.rd hr hx)
  | nst r => exact .nst (RpN.rd hr hx r)
  | lck r => exact .lck (RpK.rd hr hx _ _ r)
end
/-- locked, open again -/
def lk (d : Addr) (od : Obj) (vs : List (Key × V)) (H : Hp) : Hp := fun a => if a = d then (match H a with
  | some _ => some (.frz od (.dK vs))
  | none => none) else H a
def ul (d : Addr) (vs : List (Key × V)) (H : Hp) : Hp := fun a => if a = d then (match H a with
  | some _ => some (.dK vs)
  | none => none) else H a
section
variable {d : Addr} {od : Obj} {vs : List (Key × V)} {G H G' H' : Hp}
theorem lk_ne {a : Addr} (h : a ≠ d) : lk d od vs H a = H a := if_neg h
theorem ul_ne {a : Addr} (h : a ≠ d) : ul d vs H a = H a := if_neg h
theorem lk_at {o : HO} (h : H d = some o) : lk d od vs H d = some (.frz od (.dK vs)) := by
  unfold lk
  rw [if_pos rfl, h]
theorem ul_at {o : HO} (h : H d = some o) : ul d vs H d = some (.dK vs) := by
  unfold ul
  rw [if_pos rfl, h]
theorem lk_is {o : HO} (h : ∀ o, H d = some o → o = .dK vs) (e : lk d od vs H d = some o) : o = .frz od (.dK vs) := by
  unfold lk at e
  rw [if_pos rfl] at e
  cases q : H d with
  | none => rw [q] at e; cases e
  | some o' => rw [q] at e; cases e; rfl
theorem lk_none {a : Addr} (h : H a = none) : lk d od vs H a = none := by
  unfold lk
  split
  · rw [h]
  · exact h
theorem ul_none {a : Addr} (h : H a = none) : ul d vs H a = none := by
  unfold ul
  split
  · rw [h]
  · exact h
theorem lk_free {a : Addr} (h : lk d od vs H a = none) : H a = none := by
  by_cases e : a = d
  · subst e
    cases q : H a with
    | none => rfl
    | some o =>
      rw [lk_at q] at h
      cases h
  · rwa [lk_ne e] at h
theorem ul_free {a : Addr} (h : ul d vs H a = none) : H a = none := by
  by_cases e : a = d
  · subst e
    cases q : H a with
    | none => rfl
    | some o =>
      rw [ul_at q] at h
      cases h
  · rwa [ul_ne e] at h
theorem lk_upd {o : HO} (h : H d = some o) : upd H d (.frz od (.dK vs)) = lk d od vs H := by
  funext a
  unfold upd lk
  split
  · rename_i e
    subst e
    rw [h]
  · rfl
theorem ul_upd {o : HO} (h : H d = some o) : upd H d (.dK vs) = ul d vs H := by
  funext a
  unfold upd ul
  split
  · rename_i e
    subst e
    rw [h]
  · rfl
theorem ul_lk (h : ∀ o, H d = some o → o = .dK vs) : ul d vs (lk d od vs H) = H := by
  funext a
  by_cases e : a = d
  · subst e
    cases q : H a with
    | none => rw [ul_none (lk_none q)]
    | some o => rw [ul_at (lk_at q), h o q]
  · rw [ul_ne e, lk_ne e]
theorem Same.lk (S : Same G H) : Same (lk d od vs G) (lk d od vs H) := fun b x e => by
  by_cases hb : b = d
  · subst hb
    cases q : G b with
    | none =>
      rw [lk_none q] at e
      cases e
    | some o =>
      rw [lk_at q] at e
      cases e
      exact lk_at (S _ _ q)
  · rw [lk_ne hb] at e
    rw [lk_ne hb]
    exact S _ _ e
theorem Same.ul (S : Same G H) : Same (ul d vs G) (ul d vs H) := fun b x e => by
  by_cases hb : b = d
  · subst hb
    cases q : G b with
    | none =>
      rw [ul_none q] at e
      cases e
    | some o =>
      rw [ul_at q] at e
      cases e
      exact ul_at (S _ _ q)
  · rw [ul_ne hb] at e
    rw [ul_ne hb]
    exact S _ _ e
/-- a step ahead of which all was locked -/
theorem Step.ul' (h : ∀ o, H d = some o → o = .dK vs) (hG : ∀ o, G d = some o → o = .dK vs) (t : Step (lk d od vs G) (lk d od vs H) G' H') : Step G H (ul d vs G') (ul d vs H') := by
  have e1 : GK.ul d vs (GK.lk d od vs G) = G := ul_lk hG
  have e2 : GK.ul d vs (GK.lk d od vs H) = H := ul_lk h
  refine ⟨by have := Same.ul (d := d) (vs := vs) t.gg; rwa [e1] at this, by have := Same.ul (d := d) (vs := vs) t.hh; rwa [e2] at this, Same.ul t.gh, fun a o e n => ul_none ?_⟩
  by_cases hb : a = d
  · subst hb
    exact t.fr _ _ (lk_at e) (lk_none n)
  · exact t.fr a o (by rw [lk_ne hb]; exact e) (by rw [lk_ne hb]; exact n)
theorem Step.ul (h : ∀ o, H d = some o → o = .dK vs) (S : Same G H) (t : Step (lk d od vs G) (lk d od vs H) G' H') : Step G H (ul d vs G') (ul d vs H') := Step.ul' h (fun o e => h o (S _ _ e)) t
theorem Step.lk (t : Step G H G' H') : Step (lk d od vs G) (lk d od vs H) (lk d od vs G') (lk d od vs H') :=
  ⟨Same.lk t.gg, Same.lk t.hh, Same.lk t.gh, fun a o e n => by
    cases q : H a with
    | none =>
      rw [lk_none q] at e
      cases e
    | some o' => exact lk_none (t.fr a o' q (lk_free n))⟩
theorem rd_lk (h : ∀ o, G d = some o → o = .dK vs) : ∀ a u, Nfz u → Rd G a u → Rd (lk d od vs G) a u := fun a u n r => by
  by_cases hb : a = d
  · subst hb
    rcases r with r | ⟨o, r⟩
    · rw [h _ r]
      exact .inr ⟨od, lk_at r⟩
    · cases h _ r
  · rcases r with r | ⟨o, r⟩
    · exact .inl (by rw [lk_ne hb]; exact r)
    · exact .inr ⟨o, by rw [lk_ne hb]; exact r⟩
theorem rd_ul (h : ∀ o, G d = some o → o = .frz od (.dK vs)) : ∀ a u, Nfz u → Rd G a u → Rd (ul d vs G) a u := fun a u n r => by
  by_cases hb : a = d
  · subst hb
    rcases r with r | ⟨o, r⟩
    · exact absurd (h _ r) (n _ _)
    · cases h _ r
      exact .inl (ul_at r)
  · rcases r with r | ⟨o, r⟩
    · exact .inl (by rw [ul_ne hb]; exact r)
    · exact .inr ⟨o, by rw [ul_ne hb]; exact r⟩
theorem xc_lk (h : ∀ o, G d = some o → o = .dK vs) : ∀ a c, G a = some (xcO a c) → lk d od vs G a = some (xcO a c) := fun a c e => by
  rw [lk_ne]
  · exact e
  · intro z
    subst z
    have := h _ e
    cases this
theorem xc_ul (h : ∀ o, G d = some o → o = .frz od (.dK vs)) : ∀ a c, G a = some (xcO a c) → ul d vs G a = some (xcO a c) := fun a c e => by
  rw [ul_ne]
  · exact e
  · intro z
    subst z
    have := h _ e
    cases this
variable {K : PySem.W.Frag}
theorem TopY.lk {v : V} {x : D} (hG : ∀ o, G d = some o → o = .dK vs) (h : ∀ o, H d = some o → o = .dK vs) (t : TopY K G H v x) : TopY K (lk d od vs G) (lk d od vs H) v x := by
  obtain ⟨a, o, e, n, t1, r⟩ := t
  by_cases hb : a = d
  · subst hb
    have := h _ t1
    subst this
    refine ⟨a, _, e, lk_none n, lk_at t1, ?_⟩
    cases r with
    | base r =>
      cases r with
      | dct r => exact .lck (RpK.rd (rd_lk hG) (xc_lk hG) _ _ r)
  · exact ⟨a, o, e, lk_none n, by rw [lk_ne hb]; exact t1, r.rd (rd_lk hG) (xc_lk hG)⟩
theorem TopX.lk {v : V} {x : D} (hG : ∀ o, G d = some o → o = .dK vs) (h : ∀ o, H d = some o → o = .dK vs) (t : TopX K G H v x) : TopX K (lk d od vs G) (lk d od vs H) v x := by
  rcases t with t | ⟨a, C, dx, fs, ps, e, n, t, c, e2, e3, r⟩
  · exact .inl (TopY.lk hG h t)
  · refine .inr ⟨a, C, dx, fs, ps, e, lk_none n, ?_, c, e2, e3, fun f x hx => ?_⟩
    · rw [lk_ne]
      · exact t
      · intro z
        subst z
        cases h _ t
    · obtain ⟨h1, w, h2, h3⟩ := r f x hx
      refine ⟨h1, w, h2, ?_⟩
      rcases h3 with ⟨y, e, ry⟩ | ⟨y, e, ry⟩
      · exact .inl ⟨y, e, Rp.rd (rd_lk hG) (xc_lk hG) _ _ ry⟩
      · exact .inr ⟨y, e, TopY.lk hG h ry⟩
theorem TopY.ul {v : V} {x : D} (hG : ∀ o, G d = some o → o = .frz od (.dK vs)) (h : ∀ o, H d = some o → o = .frz od (.dK vs)) (t : TopY K G H v x) : TopY K (ul d vs G) (ul d vs H) v x := by
  obtain ⟨a, o, e, n, t1, r⟩ := t
  by_cases hb : a = d
  · subst hb
    have := h _ t1
    subst this
    refine ⟨a, _, e, ul_none n, ul_at t1, ?_⟩
    cases r with
    | base r => cases r
    | lck r => exact .base (.dct (RpK.rd (rd_ul hG) (xc_ul hG) _ _ r))
  · exact ⟨a, o, e, ul_none n, by rw [ul_ne hb]; exact t1, r.rd (rd_ul hG) (xc_ul hG)⟩
theorem TopX.ul {v : V} {x : D} (hG : ∀ o, G d = some o → o = .frz od (.dK vs)) (h : ∀ o, H d = some o → o = .frz od (.dK vs)) (t : TopX K G H v x) : TopX K (ul d vs G) (ul d vs H) v x := by
  rcases t with t | ⟨a, C, dx, fs, ps, e, n, t, c, e2, e3, r⟩
  · exact .inl (TopY.ul hG h t)
  · refine .inr ⟨a, C, dx, fs, ps, e, ul_none n, ?_, c, e2, e3, fun f x hx => ?_⟩
    · rw [ul_ne]
      · exact t
      · intro z
        subst z
        cases h _ t
    · obtain ⟨h1, w, h2, h3⟩ := r f x hx
      refine ⟨h1, w, h2, ?_⟩
      rcases h3 with ⟨y, e, ry⟩ | ⟨y, e, ry⟩
      · exact .inl ⟨y, e, Rp.rd (rd_ul hG) (xc_ul hG) _ _ ry⟩
      · exact .inr ⟨y, e, TopY.ul hG h ry⟩
theorem SlE.lk {v : V} {s : Sl} (S : Same G H) (h : ∀ o, H d = some o → o = .dK vs) (t : SlE K G H v s) : SlE K (lk d od vs G) (lk d od vs H) v s := by
  have hG : ∀ o, G d = some o → o = .dK vs := fun o e => h o (S _ _ e)
  obtain ⟨m, x⟩ := s
  cases m with
  | f => exact Rp.rd (rd_lk hG) (xc_lk hG) _ _ t
  | o => exact TopY.lk hG h t
  | p => exact TopX.lk hG h t
theorem SlE.ul {v : V} {s : Sl} (S : Same G H) (h : ∀ o, H d = some o → o = .frz od (.dK vs)) (t : SlE K G H v s) : SlE K (ul d vs G) (ul d vs H) v s := by
  have hG : ∀ o, G d = some o → o = .frz od (.dK vs) := fun o e => h o (S _ _ e)
  obtain ⟨m, x⟩ := s
  cases m with
  | f => exact Rp.rd (rd_ul hG) (xc_ul hG) _ _ t
  | o => exact TopY.ul hG h t
  | p => exact TopX.ul hG h t
theorem EnvR.lk {σ : L2.St} {ρ : Rho} (S : Same G H) (h : ∀ o, H d = some o → o = .dK vs) (t : EnvR K G H σ ρ) : EnvR K (lk d od vs G) (lk d od vs H) σ ρ :=
  ⟨t.len, fun i s e => by
    obtain ⟨v, e1, q⟩ := t.at_ i s e
    exact ⟨v, e1, q.lk S h⟩⟩
theorem EnvR.ul {σ : L2.St} {ρ : Rho} (S : Same G H) (h : ∀ o, H d = some o → o = .frz od (.dK vs)) (t : EnvR K G H σ ρ) : EnvR K (ul d vs G) (ul d vs H) σ ρ :=
  ⟨t.len, fun i s e => by
    obtain ⟨v, e1, q⟩ := t.at_ i s e
    exact ⟨v, e1, q.ul S h⟩⟩
/-- what is handed back from within -/
theorem SlR.ul {v : V} {s : Sl} (S : Same G H) (h : ∀ o, H d = some o → o = .frz od (.dK vs)) (t : SlR K G H v s) : SlR K (ul d vs G) (ul d vs H) v s := by
  have hG : ∀ o, G d = some o → o = .frz od (.dK vs) := fun o e => h o (S _ _ e)
  obtain ⟨m, x⟩ := s
  cases m with
  | f => exact Rp.rd (rd_ul hG) (xc_ul hG) _ _ t
  | o =>
    obtain ⟨a, o, e, n, t1, r⟩ := t
    refine ⟨a, o, e, ul_none n, ?_, r.rd (rd_ul hG) (xc_ul hG)⟩
    rw [ul_ne]
    · exact t1
    · intro z
      subst z
      have := h _ t1
      subst this
      cases r
  | p => exact TopX.ul hG h t
theorem ResR.ul {v : V} {s : Sl} (S : Same G' H') (h : ∀ o, H' d = some o → o = .frz od (.dK vs)) (t : ResR K (lk d od vs H) G' H' v s) : ResR K H (ul d vs G') (ul d vs H') v s :=
  ⟨t.1.ul S h, fun z => by
    obtain ⟨a, e, n⟩ := t.2 z
    exact ⟨a, e, lk_free n⟩⟩
end
end GK

namespace GK
open PySem PySem.Spec PyProof.Rows L2

/-! ### readings of operators -/
def rNo : R2 := fun _ _ _ _ => False
def rCat2 (K : PySem.W.Frag) : R2 := fun x y H Q => ∃ l b xs zs, x = .ref l ∧ y = .ref b ∧ SqL K H l xs ∧ SqL K H b zs ∧ xs.length + zs.length ≤ sizeLine ∧ ∀ p, H p = none → Q (.ref p) (upd H p (.lst (xs ++ zs)))
def rOr (r r' : R2) : R2 := fun x y H Q => r x y H Q ∨ r' x y H Q
def rInKD (neg : Bool) : R2 := fun y x H Q => ∃ a o, x = .ref a ∧ DGet H a y o ∧ Q (.bl (if neg then !o.isSome else o.isSome)) H
def rSet2 (K : PySem.W.Frag) : TSet := fun o i v H Q => rSetL o i v H Q ∨ rSetD o i v H Q ∨ rSetN K o i v H Q
/-- texts -/
def rCatS : R2 := fun x y H Q => ∃ i j, x = .str i ∧ y = .str j ∧ i.length + j.length ≤ sizeLine ∧ Q (.str (i ++ j)) H
def rInS (neg : Bool) : R2 := fun x y H Q => ∃ (c : Nat) (z : Str), x = .str ⟨#[c]⟩ ∧ y = .str z ∧ Q (.bl (if neg then !decide (c ∈ z.cps.toList) else decide (c ∈ z.cps.toList))) H
def rIxS : R2 := fun x y H Q => ∃ z i c, x = .str z ∧ y = .int i ∧ 0 ≤ i ∧ i < 2 ^ 63 ∧ i < z.length ∧ z.cps[i.toNat]? = some c ∧ Q (.str ⟨#[c]⟩) H
def rOp (K : PySem.W.Frag) (op : Operator) : R2 := match op with
  | .Add => rOr (rI0 fun i j => .int (i + j)) (rOr (rCat2 K) (rOr (rCatA K) rCatS))
  | .Sub => rI0 fun i j => .int (i - j)
  | .Mult => rOr (rI CMul fun i j => .int (i * j)) rRep
  | .FloorDiv => rI CDiv fun i j => .int (i / j)
  | .Mod => rI (fun _ j => 0 < j) fun i j => .int (i % j)
  | .Pow => rI CPow fun i j => .int (i ^ j.toNat)
  | .LShift => rI CPow fun i j => .int (i * 2 ^ j.toNat)
  | .RShift => rI (fun _ j => 0 ≤ j) fun i j => .int (i / 2 ^ j.toNat)
  | .BitAnd => rI0 fun i j => .int (Builtin.bitAnd i j)
  | .BitOr => rI0 fun i j => .int (Builtin.bitOr i j)
  | .BitXor => rI0 fun i j => .int (Builtin.bitXor i j)
  | _ => rNo
def rEqT (K : PySem.W.Frag) (neg : Bool) : R2 := fun x y H Q => ∃ d e, Dp K H x d ∧ Dp K H y e ∧ deepD d = true ∧ deepD e = true ∧ Q (.bl (if neg then !PyData.eqv d e else PyData.eqv d e)) H
def rInTD (K : PySem.W.Frag) (neg : Bool) : R2 := fun x y H Q => ∃ d ds, Dp K H x d ∧ Dp K H y (.tuple ds) ∧ SeqAt.shaped d = true ∧ SeqAt.shaped (.tuple ds) = true ∧ Q (.bl (if neg then !(ds.any fun z => PyData.eqv z d) else ds.any fun z => PyData.eqv z d)) H
def rCmp (K : PySem.W.Frag) (op : CmpOp) : R2 := match op with
  | .Eq => rOr (rEqD K) (rEqT K false)
  | .NotEq => rOr (rNeD K) (rEqT K true)
  | .Lt => rI0 fun i j => .bl (decide (i < j))
  | .LtE => rI0 fun i j => .bl (decide (i ≤ j))
  | .Gt => rI0 fun i j => .bl (decide (j < i))
  | .GtE => rI0 fun i j => .bl (decide (j ≤ i))
  | .Is => rIsB
  | .IsNot => rNotB
  | .In => rOr (rInD K) (rOr (rIn K false) (rOr (rInKD false) (rOr (rInN K false) (rOr (rInTD K false) (rInS false)))))
  | .NotIn => rOr (rNotInD K) (rOr (rIn K true) (rOr (rInKD true) (rOr (rInN K true) (rOr (rInTD K true) (rInS true)))))
abbrev RL := List V → Hp → VK → Prop
def rLor (r r' : RL) : RL := fun xs H Q => r xs H Q ∨ r' xs H Q
def rLen (K : PySem.W.Frag) : RL := fun xs H Q => ∃ p ys, xs = [.ref p] ∧ (SqL K H p ys ∨ SqT K H p ys) ∧ Q (.int ys.length) H
def rListOf (K : PySem.W.Frag) : RL := fun xs H Q => ∃ p ys, xs = [.ref p] ∧ (SqL K H p ys ∨ SqT K H p ys) ∧ ∀ l, H l = none → Q (.ref l) (upd H l (.lst ys))
def rTupOf (K : PySem.W.Frag) : RL := fun xs H Q => ∃ p ys, xs = [.ref p] ∧ ((SqL K H p ys ∧ ∀ l, H l = none → Q (.ref l) (upd H l (.tup ys))) ∨ (SqT K H p ys ∧ Q (.ref p) H))
def rInt1 : RL := fun xs H Q => (∃ i, xs = [.int i] ∧ Q (.int i) H) ∨ ∃ k, xs = [.bl k] ∧ Q (.int (if k then 1 else 0)) H
def rStr1 : RL := fun xs H Q => ∃ i, xs = [.int i] ∧ i.natAbs.log2 < 1920 ∧ Q (.str (toString i)) H
def rSortedDK : RL := fun xs H Q => ∃ (a : Addr) (kvs : List (Key × V)) (ks : List Int), xs = [.ref a] ∧ Rd H a (.dK kvs) ∧ kvs.map (·.1) = ks.map Sum.inl ∧ ∀ (ys : List Int) (p : Addr), ys.Perm ks → ys.Pairwise (· ≤ ·) → H p = none → Q (.ref p) (upd H p (.lst (ys.map V.int)))
def rLenS : RL := fun xs H Q => ∃ z, xs = [.str z] ∧ z.length ≤ sizeLine ∧ Q (.int z.length) H
def rListDk : RL := fun xs H Q => ∃ (a : Addr) (kvs : List (Key × V)), xs = [.ref a] ∧ Rd H a (.dK kvs) ∧ ∀ p, H p = none → Q (.ref p) (upd H p (.lst (kvs.map fun kv => kV kv.1)))
def rIntS : RL := fun xs H Q => ∃ a n, xs = [.str a] ∧ PySem.intText? a = some n ∧ a.length ≤ 640 ∧ Q (.int n) H
def rB1 (K : PySem.W.Frag) (b : B1) : RL := match b with
  | .len => rLor (rLen K) (rLor rLenD rLenS)
  | .list => rLor (rListOf K) (rLor rListDk rListS)
  | .tuple => rLor (rTupOf K) rTupN
  | .int => rLor rInt1 rIntS
  | .str => rStr1
  | .sum => rSum K
  | .all => rAll K
  | .any => rAny K
  | .sorted => rLor (rSortedI K) rSortedDK
def rIx2 (K : PySem.W.Frag) : R2 := rOr (rIxL K) (rIxT K)
def rSl2 (K : PySem.W.Frag) : V → Option Int → Option Int → Hp → VK → Prop := fun x lo hi H Q => rSlL K x lo hi H Q ∨ rSlA K x lo hi H Q ∨ rSlS x lo hi H Q
def rMM (mx : Bool) : RL := fun xs H Q => ∃ i j : Int, xs = [.int i, .int j] ∧ Q (.int (if mx then (if j > i then j else i) else (if j < i then j else i))) H
def IteT (K : PySem.W.Frag) (a : Addr) : It :=
  ⟨fun i H => ∃ (xs : List V) (x : V), SqT K H a xs ∧ xs[i]? = some x, fun i H v H' => ∃ T x, v = .ref T ∧ H T = none ∧ H' = upd H T (.tup [.int (i : Nat), x]) ∧ ∀ xs, SqT K H a xs → xs[i]? = some x, fun i H => ∃ xs : List V, SqT K H a xs ∧ xs.length ≤ i⟩
def iEnumT (K : PySem.W.Frag) (ta : TA) : TI := fun σ H R => ta σ H fun vs H1 => ∃ a xs, vs = [.ref a] ∧ SqT K H1 a xs ∧ R (IteT K a) H1
def iOr (w w' : TI) : TI := fun σ H R => w σ H R ∨ w' σ H R
def gTg (K : PySem.W.Frag) : Tg → TG
  | .nm i => gName i
  | .tp is => fun v σ H Q => gTup K is.length (is.foldr (fun i t => gCons (gName i) t) gNil) v σ H Q ∨ gLst K is.length (is.foldr (fun i t => gCons (gName i) t) gNil) v σ H Q

/-- g, (a, b, ..) -/
def gTn (K : PySem.W.Frag) (g : Nat) (js : List Nat) : TG := gTup K 2 (gCons (gName g) (gCons (gTg K (.tp js)) gNil))
/-! families -/
def rJoi (K : PySem.W.Frag) : V → List V → Hp → VK → Prop := fun x xs H Q => ∃ a p, ∃ ys : List Str, x = .str a ∧ xs = [.ref p] ∧ (SqL K H p (ys.map V.str) ∨ SqT K H p (ys.map V.str)) ∧ (ys.map (·.length)).sum + ys.length * a.length ≤ 16777216 ∧ Q (.str (Txt.join a ys)) H
def rSpl : V → List V → Hp → VK → Prop := fun x xs H Q => ∃ a b, x = .str a ∧ xs = [.str b] ∧ (b.length == 0) = false ∧ a.length + 2 ≤ sizeLine ∧ rNewStrs (Txt.split a b) H Q
def rSpm : V → List V → Hp → VK → Prop := fun x xs H Q => ∃ (a b : Str) (k : Int), x = .str a ∧ xs = [.str b, .int k] ∧ (b.length == 0) = false ∧ -(2 ^ 63) ≤ k ∧ k < 2 ^ 63 ∧ a.length + 2 ≤ sizeLine ∧ rNewStrs (Txt.splitMax a b k) H Q
def tU (r : V → Hp → VK → Prop) (t : TE) : TE := fun σ H Q => t σ H fun x H1 => r x H1 Q
def rdU1 (K : PySem.W.Frag) : U1 → TE → TE
  | .dne, t => tOp rNeE t tDNewK
  | .mnp, t => tCB (rMinP K) (tCons t tNil)
  | .joi s, t => tM1 (rJoi K) (tC (.str s)) t
  | .spl s, t => tM1 rSpl t (tC (.str s))
  | .fld f, t => tFld K t f
  | .spm s n, t => tBM K "str" rSpm t (tCons (tC (.str s)) (tCons (tC (.int (n : Int))) tNil))
def rdU2 (K : PySem.W.Frag) : U2 → TE → TE → TE
  | .idx, t, u => tBM K "list" (rIndexD K) t (tCons u tNil)
  | .get1, t, u => tDGet1 t u
  | .spv, t, u => tM1 rSpl t u
def rdU3 : U3 → TE → TE → TE → TE
  | .get, t, u, v => tDGet2 t u v
/-! ### readings of expressions -/
def rdCs (K : PySem.W.Frag) : List Str → TA
  | [] => tNil
  | c :: cs => tCons (tC (clsW K c)) (rdCs K cs)
theorem rdCs_run {K : PySem.W.Frag} {σ : L2.St} {H : Hp} : ∀ (cs : List Str) {R : List V → Hp → Prop}, R (cs.map (clsW K)) H → rdCs K cs σ H R
  | [], _, h => h
  | c :: cs, R, h => rdCs_run cs (R := fun vs H2 => R (clsW K c :: vs) H2) h
theorem paired_cs {K : PySem.W.Frag} : ∀ (cs : List Str), Paired ClsV (cs.map (clsW K)) (cs.map (clsV K))
  | [] => .nil
  | c :: cs => by
    refine .cons ?_ (paired_cs cs)
    unfold clsW clsV
    split
    · exact .ty _
    · exact .own _
section
variable (K : PySem.W.Frag) (sp : Str → Sp)
mutual
def rdE : E → TE
  | .var i => tVar i
  | .int n => tC (.int (n : Int))
  | .bl b => tC (.bl b)
  | .non => tC .non
  | .str s => tC (.str s)
  | .bin op a b => tOp (rOp K op) (rdE a) (rdE b)
  | .neg a => tUn (rU fun i => .int (-i)) (rdE a)
  | .inv a => tUn (rU fun i => .int (Builtin.bitNot i)) (rdE a)
  | .cmp op a b => tOp (rCmp K op) (rdE a) (rdE b)
  | .chn op op' a b c => tChain (rCmp K op) (rCmp K op') (rdE a) (rdE b) (rdE c)
  | .isN a => tOp (fun x y H Q => y = .non ∧ Q (.bl (decide (x = .non))) H) (rdE a) (tC .non)
  | .notN a => tOp (fun x y H Q => y = .non ∧ Q (.bl (!decide (x = .non))) H) (rdE a) (tC .non)
  | .and a b => tAndV (rdE a) (rdE b)
  | .or a b => tOrV (rdE a) (rdE b)
  | .not a => tNotV (rdE a)
  | .ife c a b => tIf (tB (rdE c)) (rdE a) (rdE b)
  | .tup es => tTup (rdA es)
  | .lst es => tLst (rdA es)
  | .ix a i => fun σ H Q => tOp (rIx2 K) (rdE a) (rdE i) σ H Q ∨ tDGet (rdE a) (rdE i) σ H Q ∨ tDGetN K (rdE a) (rdE i) σ H Q ∨ tOp rIxS (rdE a) (rdE i) σ H Q
  | .sl a lo hi => tSl (rSl2 K) (rdE a) (rdO lo) (rdO hi)
  | .call f es => tCall (sp f) [] E0 (rdA es)
  | .b1 b a => tCB (rB1 K b) (tCons (rdE a) tNil)
  | .isx a c => fun σ H Q => XKn K c → tCB (rIsX K) (tCons (rdE a) (tCons (tC (clsW K c)) tNil)) σ H Q
  | .ixs a cs => fun σ H Q => (∀ c ∈ cs, XKn K c) → tCB (rIsXT K) (tCons (rdE a) (tCons (tTup (rdCs K cs)) tNil)) σ H Q
  | .isi a t => tCB (rIsi K) (tCons (rdE a) (tCons (tC (.ty (tyN t))) tNil))
  | .lc elt tg it ifs vs => tLc (rdI it) (gTg K tg) (rdC ifs) (rdE elt) vs
  | .lrg it => tLstRg (rdR it)
  | .glb _ n => tC (.int (n : Int))
  | .mm mx a b => tCB (rMM mx) (tCons (rdE a) (tCons (rdE b) tNil))
  | .rvl a => tRevL K (rdE a)
  | .nev => fun _ _ _ => False
  | .dnw => tDNewK
  | .dsp1 k v => tDisp [(rdE k, rdE v)]
  | .sst a => tSst K (rdE a)
  | .gk _ d => fun _ H Q => ∀ v, (∀ G, Rp K G v d) → Q v H
  | .gdx _ kvs i => fun σ H Q => rdE i σ H fun y H1 => ∃ z d, y = .str z ∧ kvs.lookup z = some d ∧ ∀ v, (∀ G, Rp K G v d) → Q v H1
  | .dsp ps => tDisp (rdP ps)
  | .mc p c q m es => tMeth (xga K c) m (sp q) [] E0 (tVar p) (rdA es)
  | .mkc c q es => tMake (xga K c) (sp q) [] E0 (rdA es)
  | .dnn => tDNewN
  | .lns a => tLns K (rdE a)
  | .pk2 a b c => tOp (rIx2 K) (tLst (tCons (rdE a) (tCons (rdE b) tNil))) (tCB (rB1 K .int) (tCons (rdE c) tNil))
  | .u1 k a => rdU1 K k (rdE a)
  | .u2 k a b => rdU2 K k (rdE a) (rdE b)
  | .u3 k a b c => rdU3 k (rdE a) (rdE b) (rdE c)
  | .lcd elt tg i ifs vs => fun σ H Q => tLc (iKeys (tVar i)) (gTg K tg) (rdC ifs) (rdE elt) vs σ H Q ∨ tLockE (tLc (iKeys (tVar i)) (gTg K tg) (rdC ifs) (rdE elt) vs) σ H Q
def rdP : Ps → List (TE × TE)
  | .nil => []
  | .cons k v r => (rdE k, rdE v) :: rdP r
def rdA : Es → TA
  | .nil => tNil
  | .cons e es => tCons (rdE e) (rdA es)
def rdO : Eo → TO
  | .none => tNoPart
  | .some e => tPart (rdE e)
def rdC : Eo → TT
  | .none => tYes
  | .some e => tB (rdE e)
def rdI : Iu → TI
  | .rg1 a => iRng1 (tCons (rdE a) tNil)
  | .rg2 a b => iRng2 (tCons (rdE a) (tCons (rdE b) tNil))
  | .seq e => iOr (iList K (rdE e)) (iOr (iTup K (rdE e)) (iStr (rdE e)))
  | .rg3 a b c => iRng3 (tCons (rdE a) (tCons (rdE b) (tCons (rdE c) tNil)))
  | .enm e => iOr (iEnum K (tCons (rdE e) tNil)) (iEnumT K (tCons (rdE e) tNil))
  | .zp a b => iZipX K (tCons (rdE a) (tCons (rdE b) tNil))
  | .rev e => RT.iRevA K (rdE e)
  | .rvr a => iRevR (tRg1 (rdE a))
def rdR : Iu → L2.St → Hp → (Int → Int → Hp → Prop) → Prop
  | .rg1 a => tRg1 (rdE a)
  | .rg2 a b => tRg2 (rdE a) (rdE b)
  | _ => fun _ _ _ => False
end
end

/-! ### rules that the layer lacks -/
section
variable {X : Cx} {a b c : Expr} {ta tb : TE} {pos : Pos} {rest : List Expr}
theorem opr_no {f : Value → Value → Sem Value} : OpR X f rNo := fun _ _ _ _ _ _ _ _ _ _ _ _ h => h.elim
theorem op_cat2 : OpR X (binaryOp .Add) (rCat2 X.K) := by
  intro pins s σ H x y v u Q I rx ry h
  obtain ⟨l, b, xs, zs, rfl, rfl, hH, hB, hz, q⟩ := h
  cases rx
  cases ry
  obtain ⟨its, r, pl, z⟩ := I.list hH
  obtain ⟨its2, r2, pl2, z2⟩ := I.list hB
  have hl := r.length
  have hl2 := r2.length
  obtain ⟨⟨cls, dd, data, sl⟩, ho, hc, n, hd⟩ := pl.isList
  obtain ⟨⟨cls2, dd2, data2, sl2⟩, ho2, hc2, n2, hd2⟩ := pl2.isList
  simp only at hc hd hc2 hd2
  subst hc hd hc2 hd2
  refine concat_meets ⟨_, ho, rfl⟩ ⟨_, ho2, rfl⟩ noFill_list_add seq_list_add PySem.F.slot_list_add PySem.F.entry_list_add (PySem.F.args_list_add_2 _ _) (list_addW l b its.toArray its2.toArray n n2 dd dd2 sl sl2 (by rw [List.size_toArray, List.size_toArray]; omega)) ⟨ho, ho2, ?_⟩
  have ea : its.toArray ++ its2.toArray = (its ++ its2).toArray := by simp
  rw [ea]
  exact ⟨.ref _, _, I.lnew (t' := s.toks) (r.append r2) (by rw [List.length_append]; omega), rfl, q _ I.fresh⟩
theorem op_all : ∀ op, OpR X (binaryOp op) (rOp X.K op)
  | .Add => op_add.or (op_cat2.or (op_catA.or op_add_str))
  | .Sub => op_sub
  | .Mult => op_mul.or op_rep
  | .FloorDiv => op_fdiv
  | .Mod => op_mod
  | .Pow => op_pow
  | .LShift => op_shl
  | .RShift => op_shr
  | .BitAnd => op_and
  | .BitOr => op_or
  | .BitXor => op_xor
  | .MatMult => opr_no
  | .Div => opr_no
theorem op_inKD (hu : X.A.units + 1 < cLine) : OpR X (compareOp .In) (rInKD false) := by
  intro pins s σ H y x v u Q I ry rx h
  obtain ⟨a, o, rfl, g, q⟩ := h
  obtain rfl : u = Value.ref a := rx
  exact d_in hu I g ry fun s3 I3 => ⟨.bl o.isSome, H, I3, rfl, q⟩
theorem op_notInKD (hu : X.A.units + 1 < cLine) : OpR X (compareOp .NotIn) (rInKD true) := by
  intro pins s σ H y x v u Q I ry rx h
  obtain ⟨a, o, rfl, g, q⟩ := h
  obtain rfl : u = Value.ref a := rx
  exact d_notIn hu I g ry fun s3 I3 => ⟨.bl (!o.isSome), H, I3, rfl, q⟩
theorem set_two (hu : X.A.units + 500 < cLine) : PSet X (rSet2 X.K) := by
  intro pins s σ H o i v ov iv u Q I ro ri rv h
  have hu1 : X.A.units + 1 < cLine := by omega
  rcases h with h | h | h
  · exact set_list pins s σ H o i v ov iv u Q I ro ri rv h
  · exact set_dict hu1 pins s σ H o i v ov iv u Q I ro ri rv h
  · exact set_nested hu pins s σ H o i v ov iv u Q I ro ri rv h
theorem deep_lay {d : D} (h : deepD d = true) : d.canLay0 = true ∧ d.depth ≤ 400 := by
  unfold deepD at h
  rw [Bool.and_eq_true, decide_eq_true_eq] at h
  exact h
theorem op_eqT (hu : X.A.units + 400 < cLine) : OpR X (compareOp .Eq) (rEqT X.K false) := by
  intro pins s σ H x y v u Q I rx ry h
  obtain ⟨d, e, hd, he, sd, se, q⟩ := h
  obtain ⟨as, r1⟩ := Dp.reads I d x v hd rx
  obtain ⟨bs, r2⟩ := Dp.reads I e y u he ry
  have h1 := deep_lay sd
  have h2 := deep_lay se
  exact SeqAt.compareEq_reads r1 r2 h1.1 h2.1 (by omega) ⟨.bl _, H, I, rfl, q⟩
theorem op_neT (hu : X.A.units + 400 < cLine) : OpR X (compareOp .NotEq) (rEqT X.K true) := by
  intro pins s σ H x y v u Q I rx ry h
  obtain ⟨d, e, hd, he, sd, se, q⟩ := h
  obtain ⟨as, r1⟩ := Dp.reads I d x v hd rx
  obtain ⟨bs, r2⟩ := Dp.reads I e y u he ry
  have h1 := deep_lay sd
  have h2 := deep_lay se
  exact SeqAt.compareNe_reads r1 r2 h1.1 h2.1 (by omega) ⟨.bl _, H, I, rfl, q⟩
theorem op_inTD (hu : X.A.units + 65 < cLine) : OpR X (compareOp .In) (rInTD X.K false) := by
  intro pins s σ H x y v u Q I rx ry h
  obtain ⟨d, ds, hd, he, sd, se, q⟩ := h
  obtain ⟨as, r1⟩ := Dp.reads I d x v hd rx
  obtain ⟨bs, r2⟩ := Dp.reads I (.tuple ds) y u he ry
  exact SeqAt.in_tuple_reads r2 r1 (SeqAt.canLay_of_shaped se) (SeqAt.canLay_of_shaped sd) (room_in_shaped sd hu) ⟨.bl _, H, I, rfl, q⟩
theorem op_notInTD (hu : X.A.units + 65 < cLine) : OpR X (compareOp .NotIn) (rInTD X.K true) := by
  intro pins s σ H x y v u Q I rx ry h
  obtain ⟨d, ds, hd, he, sd, se, q⟩ := h
  obtain ⟨as, r1⟩ := Dp.reads I d x v hd rx
  obtain ⟨bs, r2⟩ := Dp.reads I (.tuple ds) y u he ry
  exact SeqAt.notIn_tuple_reads r2 r1 (SeqAt.canLay_of_shaped se) (SeqAt.canLay_of_shaped sd) (room_in_shaped sd hu) ⟨.bl _, H, I, rfl, q⟩
theorem op_inS : OpR X (compareOp .In) (rInS false) := op_in_sign
theorem op_notInS : OpR X (compareOp .NotIn) (rInS true) := op_notIn_sign
theorem cmp_all (hu : X.A.units + 500 < cLine) : ∀ op, OpR X (compareOp op) (rCmp X.K op)
  | .Eq => (op_eqD (by omega)).or (op_eqT (by omega))
  | .NotEq => (op_neD (by omega)).or (op_neT (by omega))
  | .Lt => op_lt
  | .LtE => op_le
  | .Gt => op_gt
  | .GtE => op_ge
  | .Is => op_isBl
  | .IsNot => op_notBl
  | .In => (op_inD (by omega)).or (op_in_seq.or ((op_inKD (by omega)).or ((op_inN hu).or ((op_inTD (by omega)).or op_inS))))
  | .NotIn => (op_notInD (by omega)).or (op_notIn_seq.or ((op_notInKD (by omega)).or ((op_notInN hu).or ((op_notInTD (by omega)).or op_notInS))))
theorem pe_or2 {e : Expr} {t u : TE} (h : PE X e t) (h' : PE X e u) : PE X e (fun σ H Q => t σ H Q ∨ u σ H Q) :=
  ⟨fun pins s σ H Q I q => q.elim (h.run pins s σ H Q I) (h'.run pins s σ H Q I)⟩
theorem pi_or {tg e : Expr} {t u : TI} (h : PI X tg e t) (h' : PI X tg e u) : PI X tg e (iOr t u) :=
  ⟨fun pins s σ H Q I q => q.elim (h.run pins s σ H Q I) (h'.run pins s σ H Q I)⟩
theorem pw_one {op : BoolOp} {t : TT} (ha : PT X a t) : PW X (.BoolOp op [a] pos) t := by
  cases op with
  | And => exact pw_and1 ha
  | Or => exact pw_or1 ha
theorem pw_andV (ha : PT X a (tB ta)) (hb : PW X (.BoolOp .And (b :: rest) pos) (tB tb)) : PW X (.BoolOp .And (a :: b :: rest) pos) (tB (tAndV ta tb)) := by
  refine ⟨fun wh pins s σ H Q I h => ?_⟩
  refine isTrue_and (thn (ha.run pins s σ H (fun c H1 => if c = true then tb σ H1 (fun x H1 => ∃ c, x = .bl c ∧ Q c H1) else (fun x H1 => ∃ c, x = V.bl c ∧ Q c H1) (.bl false) H1) I h) fun c s1 ⟨H1, I1, q1⟩ => ?_)
  cases c with
  | true => exact hb.run wh pins s1 σ H1 Q I1 q1
  | false =>
    obtain ⟨k, e, q⟩ := q1
    cases e
    exact ⟨H1, I1, q⟩
theorem pw_orV (ha : PT X a (tB ta)) (hb : PW X (.BoolOp .Or (b :: rest) pos) (tB tb)) : PW X (.BoolOp .Or (a :: b :: rest) pos) (tB (tOrV ta tb)) := by
  refine ⟨fun wh pins s σ H Q I h => ?_⟩
  refine isTrue_or (thn (ha.run pins s σ H (fun c H1 => if c = true then (fun x H1 => ∃ c, x = V.bl c ∧ Q c H1) (.bl true) H1 else tb σ H1 (fun x H1 => ∃ c, x = .bl c ∧ Q c H1)) I h) fun c s1 ⟨H1, I1, q1⟩ => ?_)
  cases c with
  | true =>
    obtain ⟨k, e, q⟩ := q1
    cases e
    exact ⟨H1, I1, q⟩
  | false => exact hb.run wh pins s1 σ H1 Q I1 q1
theorem pt_notV (ha : PT X a (tB ta)) : PT X (.UnaryOp .Not a pos) (tB (tNotV ta)) := by
  refine ⟨fun pins s σ H Q I h => ?_⟩
  refine isTrue_not (thn (ha.run pins s σ H (fun c H1 => ∃ k, V.bl (!c) = .bl k ∧ Q k H1) I h) fun c s1 ⟨H1, I1, k, e, q⟩ => ?_)
  cases e
  exact ⟨H1, I1, q⟩
theorem pt_ifE {c : Expr} {tc : TT} (hc : PT X c tc) (ha : PT X a (tB ta)) (hb : PT X b (tB tb)) : PT X (.IfExp c a b pos) (tB (tIf tc ta tb)) := by
  refine ⟨fun pins s σ H Q I h => ?_⟩
  show wpAny _ _ (do if ← isTrue c X.env (eval c X.env) then isTrue a X.env (eval a X.env) else isTrue b X.env (eval b X.env)) _ _ _
  refine wpAny_bind (thn (hc.run pins s σ H _ I h) fun d s1 ⟨H1, I1, q1⟩ => ?_)
  cases d with
  | true => exact ha.run pins s1 σ H1 Q I1 q1
  | false => exact hb.run pins s1 σ H1 Q I1 q1
theorem cr_mm (hc : X.calm = true) : ∀ mx : Bool, CallR X (.builtin (if mx then "max" else "min")) (rMM mx)
  | true => call_max2 hc
  | false => call_min2 hc
theorem callR_or {f : Value} {r r' : RL} (h : CallR X f r) (h' : CallR X f r') : CallR X f (rLor r r') := by
  intro pins s σ H xs us Q I rv q
  rcases q with q | q
  · exact h pins s σ H xs us Q I rv q
  · exact h' pins s σ H xs us Q I rv q
theorem callR_no {f : Value} : CallR X f (fun _ _ _ => False) := fun _ _ _ _ _ _ _ _ _ h => h.elim
end
/-! ### enumerate of a tuple -/
theorem Draws.over {prog : Program} {w : World} {A : Around} (hh : A.handled = none) (it t : Addr) (items : Array Value) (i : Nat) (hx : items[i]? = none) :
    Draws prog w A it [it, t] i (fun _ _ => False) (fun j h => j = i ∧ h.IsTupleIter it t i ∧ h.IsTuple t items) where
  live := fun _ _ st => let ⟨o, ho, _⟩ := st.2.1; ⟨o, ho⟩
  frame := fun _ _ _ st hk => ⟨st.1, st.2.1.at fun o e => hk it (by simp) o e, st.2.2.at fun o e => hk t (by simp) o e⟩
  item := fun j s Q E hj st _ => absurd st.1 (Nat.ne_of_lt hj)
  done := fun s Q E st hE => wpAny_nextOf_tuple_end hh st.2.1 st.2.2 hx hE
theorem turn_enumT {P : Program} {w : World} {K : PySem.W.Frag} {elts : List Expr} {kk : Nat} {tpos : Pos} (a e it : Addr) :
    Turn P w K (.Tuple elts kk tpos) (IteT K a) [e, it] e (fun i h => (∃ old, IsEnum h e it ((i : Nat) : Int) old) ∧ h.IsTupleIter it a i ∧ e ≠ it ∧ a ≠ it ∧ e ≠ a) where
  mem := by simp
  obj := fun i h st b hb => by
    obtain ⟨⟨old, he⟩, ⟨o, ho, hc, hd⟩, _⟩ := st
    have e' : b = e ∨ b = it := by simpa using hb
    rcases e' with z | z
    · rw [z]; exact ⟨_, he, fun v q => nomatch q⟩
    · rw [z]; exact ⟨o, ho, fun v q => by rw [hd] at q; cases q⟩
  keep := fun i h h' st k => let ⟨⟨old, he⟩, hi, hne⟩ := st; ⟨⟨old, k e (by simp) _ he⟩, hi.at fun o q => k it (by simp) o q, hne⟩
  item := by
    intro X hP hw hK hc i pins s σ H E I hf st hg
    subst hP hw hK
    obtain ⟨⟨old, he⟩, hit, hne, hai, hea⟩ := st
    obtain ⟨xs, x, hq, hx⟩ := hg
    obtain ⟨its, rv, p, hz⟩ := I.tuple hq
    obtain ⟨u, hu, ru⟩ := rv.get hx
    have hel : e < s.heap.objs.size := Heap.lt_size he
    have hil : it < s.heap.objs.size := by obtain ⟨_, q, _⟩ := hit; exact Heap.lt_size q
    have hil2 : i < its.toArray.size := by
      have : i < its.length := by
        rcases Nat.lt_or_ge i its.length with q | q
        · exact q
        · rw [List.getElem?_eq_none q] at hu; cases hu
      simpa using this
    have hh : X.A.in1.handled = none := I.ok.hd hc
    refine wpAny_pyNext_enum_itemD (Draws.tuple hh it a hai its.toArray) he ⟨hit, p⟩ hil2 hne (by simp [hne, hea]) fun x' h' tk hP ho hs' hT hsz hk => ?_
    have ex : x' = u := by
      have : its[i]? = some x' := by simpa using hP
      rw [hu] at this
      exact (Option.some.inj this).symm
    subst ex
    refine ⟨_, rfl, wpAny_letOwnedTupleGo_enum (s := { s with heap := h', toks := tk + 1 }) ho fun h'' he' sb => ?_⟩
    have hT2 : h''.get? s.heap.objs.size = some { cls := .type "tuple", data := .seq #[.int i tk, x'] } := (sb.2 _ (Nat.ne_of_gt hel)).trans hT
    have new : ObjOk X.prog X.w (upd H s.heap.objs.size (.tup [.int (i : Nat), x])) h'' s.heap.objs.size (.tup [.int (i : Nat), x]) :=
      ⟨by show 2 ≤ sizeLine; decide, [.int i tk, x'], .cons ⟨_, rfl⟩ (.cons ru .nil), ⟨_, hT2, rfl, _, rfl⟩⟩
    have I1 : Inv X pins σ (upd H s.heap.objs.size (.tup [.int (i : Nat), x])) { s with heap := h'', toks := tk + 1 } :=
      I.turnedNew (ch := [e, it]) (fun b ob hb q => (sb.2 b (fun z => hb (by simp [z]))).trans (hk b ob (fun z => hb (by simp [z])) (fun z => hb (by simp [z])) q)) hf (Nat.le_refl _) new
    refine ⟨.ref s.heap.objs.size, _, I1, rfl, ⟨_, x, rfl, I.hok.fresh (Nat.le_refl _), rfl, fun ys hy => by rw [I.tuple_inj hy hq]; exact hx⟩, ⟨⟨x', ?_⟩, hs'.1.at fun o q => (sb.2 it (Ne.symm hne)).trans q, hne, hai, hea⟩, fun b hb => ?_⟩
    · have e1 : ((i + 1 : Nat) : Int) = (i : Int) + 1 := by omega
      rw [e1]; exact he'
    · have hb' : b < s.heap.objs.size := by
        have e' : b = e ∨ b = it := by simpa using hb
        rcases e' with z | z
        · rw [z]; exact hel
        · rw [z]; exact hil
      rw [upd_ne (Nat.ne_of_lt hb')]
      exact (hf b hb).1
  done := by
    intro X hP hw hK hc i pins s σ H E I hf st hg
    subst hP hw hK
    obtain ⟨⟨old, he⟩, hit, hne, hai, hea⟩ := st
    obtain ⟨xs, hq, hx⟩ := hg
    obtain ⟨its, rv, p, hz⟩ := I.tuple hq
    obtain ⟨f0, f1, f2, f3, f4, f5⟩ := hf it (by simp)
    have hl := rv.length
    have hh : X.A.in1.handled = none := I.ok.hd hc
    have hx' : its.toArray[i]? = none := by simp; omega
    exact wpAny_pyNext_enum_endD (Draws.over hh it a its.toArray i hx') he ⟨rfl, hit, p⟩ fun h' eb => ⟨rfl, I.turned (t' := s.toks) (fun b o hb q => eb b o hb q) f0 f1 f3 f4 f5⟩
  self := fun A i s Q E st h => let ⟨⟨_, he⟩, _⟩ := st; wpAny_pyIter_enum he h
theorem meets_enumerate_newB1 {v : Value} {o : Obj} {H : Heap → Prop} (B : Begins v o H) :
    Meets (Builtin.«enumerate.__new__» ⟨[.type "enumerate", v], []⟩) (fun _ R s => H s.heap ∧
      R (.ok (.ret (.ref (s.heap.push o).objs.size))) { s with heap := (s.heap.push o).push { cls := .type "enumerate", data := .fields #[.none, .bool false, .ref s.heap.objs.size, rawInt 0, .none, .none] } }) :=
  .of_wp fun prog w A R s h => by
    obtain ⟨hp, g, d, tk, os⟩ := s; obtain ⟨h1, h⟩ := h
    have hsub := sub_enumerate
    have q1 : ∀ {A' : Around} {E : Value → Shared → Prop} {Q : Value → Shared → Prop}, Q (.ref hp.objs.size) ⟨hp.push o, g, d, tk, os⟩ → wpAny (model prog w) A' (pyIter v) Q E ⟨hp, g, d, tk, os⟩ :=
      fun q => B.iter prog w _ _ ⟨hp, g, d, tk, os⟩ _ h1 q
    wp_walk using q1
    refine wpAny_stack_any fun st => wpAny_pure ?_
    split
    · rename_i c _ _ _ _ _
      cases (c == Value.type "enumerate")
      · wp_walk using q1
        exact ⟨_, rfl, h⟩
      · wp_walk using q1
        exact ⟨_, rfl, h⟩
    · wp_walk using q1
      exact ⟨_, rfl, h⟩
theorem call_enum1 {prog : Program} {w : World} {A : Around} {E : Value → Shared → Prop} {s : Shared} {v : Value} {o : Obj} {H : Heap → Prop} {Q : Value → Shared → Prop} (B : Begins v o H) (h1 : H s.heap)
    (h : ∀ h', IsEnum h' (s.heap.objs.size + 1) s.heap.objs.size 0 .none → h'.get? s.heap.objs.size = some o → h'.objs.size = s.heap.objs.size + 2 →
      (∀ b o, s.heap.get? b = some o → h'.get? b = some o) → Q (.ref (s.heap.objs.size + 1)) { s with heap := h' }) :
    wpAny (model prog w) A (PySem.call (.type "enumerate") [v]) Q E s := by
  refine callType_new F.called_enumerate (by decide) (F.typeCall_enumerate_1 _) (F.newCall_enumerate_1 _) (fun obj => F.args_object_init_2 obj _) F.entry_enumerate_new
    (meets_enumerate_newB1 B) ⟨h1, ?_⟩
  have hz : (s.heap.push o).objs.size = s.heap.objs.size + 1 := Heap.size_push ..
  show _ ∧ _
  rw [hz]
  have he : IsEnum ((s.heap.push o).push { cls := .type "enumerate", data := .fields #[.none, .bool false, .ref s.heap.objs.size, rawInt 0, .none, .none] }) (s.heap.objs.size + 1) s.heap.objs.size 0 .none := by
    have := Heap.get?_push_size (s.heap.push o) (o := { cls := .type "enumerate", data := .fields #[.none, .bool false, .ref s.heap.objs.size, rawInt 0, .none, .none] }) rfl
    rw [hz] at this; exact this
  refine ⟨⟨_, he, rfl⟩, h _ he (Heap.get?_push_of_some _ (Heap.get?_push_size _ B.free)) (by rw [Heap.size_push, hz]) fun b o x => Heap.get?_push_of_some _ (Heap.get?_push_of_some _ x)⟩
theorem pi_enumT {X : Cx} {e : Expr} {ta : TA} {p pos tpos : Pos} {elts : List Expr} {kk : Nat} (hg : Gl X "enumerate") (hm : X.mg "enumerate" = none) (ha : PA X [e] ta) (hs : starEach [e] X.env = [(false, eval e X.env)] := by rfl) :
    PI X (.Tuple elts kk tpos) (.Call (.Name "enumerate" p) [e] [] pos) (iEnumT X.K ta) := by
  refine ⟨fun pins s σ H R I h => ?_⟩
  refine Call_ (ld_blt I hg hm boot_enumerate (PyProof.Rows.callWith_type1 (thn (ha.run pos pins s σ H _ I h) fun us s1 ⟨vs, H1, I1, r1, q1⟩ => ?_) hs rfl))
  obtain ⟨a, xs, ex, hq, q⟩ := q1
  subst ex
  cases r1 with
  | cons r rr =>
    cases rr
    cases r
    obtain ⟨its, rv, p', hz⟩ := I1.tuple hq
    refine call_enum1 (begins_tuple a its.toArray) p' fun h' he hit hsz hk => wpAny_pyIter_enum he ?_
    have I2 : Inv X pins σ H1 { s1 with heap := h' } := I1.kept (t' := s1.toks) hk
    have hal : a < s1.heap.objs.size := by obtain ⟨_, q, _⟩ := p'; exact Heap.lt_size q
    refine ⟨s1.heap.objs.size + 1, [s1.heap.objs.size + 1, s1.heap.objs.size], _, _, H1, rfl, I2, turn_enumT a (s1.heap.objs.size + 1) s1.heap.objs.size, ⟨⟨.none, he⟩, ⟨_, hit, rfl, rfl⟩, Nat.succ_ne_self _, Nat.ne_of_lt hal, Ne.symm (Nat.ne_of_lt (Nat.lt_succ_of_lt hal))⟩, fun b hb => ?_, q⟩
    have e' : b = s1.heap.objs.size + 1 ∨ b = s1.heap.objs.size := by simpa using hb
    have hle : s1.heap.objs.size ≤ b := by
      rcases e' with z | z
      · rw [z]; exact Nat.le_add_right _ _
      · rw [z]; exact Nat.le_refl _
    exact I1.fpOk hle (I1.hok.fresh hle)
end GK

namespace GK
open PySem PySem.Spec PyProof.Rows L2

/-! ### views of the text -/
def vName : Expr → Option Str
  | .Name x _ => some x
  | _ => none
theorem vName_eq {e : Expr} {x : Str} (h : vName e = some x) : ∃ p, e = .Name x p := by
  unfold vName at h
  split at h <;> simp_all
def vInt : Expr → Option Int
  | .Constant (.int n) _ _ => some n
  | _ => none
theorem vInt_eq {e : Expr} {x : Int} (h : vInt e = some x) : ∃ k p, e = .Constant (.int x) k p := by
  unfold vInt at h
  split at h <;> simp_all
def vBl : Expr → Option Bool
  | .Constant (.bool n) _ _ => some n
  | _ => none
theorem vBl_eq {e : Expr} {x : Bool} (h : vBl e = some x) : ∃ k p, e = .Constant (.bool x) k p := by
  unfold vBl at h
  split at h <;> simp_all
def vStr : Expr → Option Str
  | .Constant (.str n) _ _ => some n
  | _ => none
theorem vStr_eq {e : Expr} {x : Str} (h : vStr e = some x) : ∃ k p, e = .Constant (.str x) k p := by
  unfold vStr at h
  split at h <;> simp_all
def vNon : Expr → Bool
  | .Constant .none _ _ => true
  | _ => false
theorem vNon_eq {e : Expr} (h : vNon e = true) : ∃ k p, e = .Constant .none k p := by
  unfold vNon at h
  split at h <;> simp_all
def vBin : Expr → Option (Expr × Operator × Expr)
  | .BinOp a op b _ => some (a, op, b)
  | _ => none
theorem vBin_eq {e a b : Expr} {op : Operator} (h : vBin e = some (a, op, b)) : ∃ p, e = .BinOp a op b p := by
  unfold vBin at h
  split at h <;> simp_all
def vUn : Expr → Option (UnaryOp × Expr)
  | .UnaryOp op b _ => some (op, b)
  | _ => none
theorem vUn_eq {e b : Expr} {op : UnaryOp} (h : vUn e = some (op, b)) : ∃ p, e = .UnaryOp op b p := by
  unfold vUn at h
  split at h <;> simp_all
def vC1 : Expr → Option (Expr × CmpOp × Expr)
  | .Compare a [op] [b] _ => some (a, op, b)
  | _ => none
theorem vC1_eq {e a b : Expr} {op : CmpOp} (h : vC1 e = some (a, op, b)) : ∃ p, e = .Compare a [op] [b] p := by
  unfold vC1 at h
  split at h <;> simp_all
def vC2 : Expr → Option (Expr × CmpOp × Expr × CmpOp × Expr)
  | .Compare a [op, op'] [b, c] _ => some (a, op, b, op', c)
  | _ => none
theorem vC2_eq {e a b c : Expr} {op op' : CmpOp} (h : vC2 e = some (a, op, b, op', c)) : ∃ p, e = .Compare a [op, op'] [b, c] p := by
  unfold vC2 at h
  split at h <;> simp_all
def vBool : Expr → Option (BoolOp × Expr × Expr × List Expr × Pos)
  | .BoolOp op (a :: b :: r) p => some (op, a, b, r, p)
  | _ => none
theorem vBool_eq {e a b : Expr} {r : List Expr} {op : BoolOp} {p : Pos} (h : vBool e = some (op, a, b, r, p)) : e = .BoolOp op (a :: b :: r) p := by
  unfold vBool at h
  split at h <;> simp_all
def vIf : Expr → Option (Expr × Expr × Expr)
  | .IfExp c a b _ => some (c, a, b)
  | _ => none
theorem vIf_eq {e a b c : Expr} (h : vIf e = some (c, a, b)) : ∃ p, e = .IfExp c a b p := by
  unfold vIf at h
  split at h <;> simp_all
def vTup : Expr → Option (List Expr)
  | .Tuple es _ _ => some es
  | _ => none
theorem vTup_eq {e : Expr} {es : List Expr} (h : vTup e = some es) : ∃ k p, e = .Tuple es k p := by
  unfold vTup at h
  split at h <;> simp_all
def vLst : Expr → Option (List Expr)
  | .List es _ => some es
  | _ => none
theorem vLst_eq {e : Expr} {es : List Expr} (h : vLst e = some es) : ∃ p, e = .List es p := by
  unfold vLst at h
  split at h <;> simp_all
def isSl : Expr → Bool
  | .Slice .. => true
  | _ => false
def isStar : Expr → Bool
  | .Starred .. => true
  | _ => false
def vSub : Expr → Option (Expr × Expr)
  | .Subscript a i _ => if isSl i then none else some (a, i)
  | _ => none
theorem vSub_eq {e a i : Expr} (h : vSub e = some (a, i)) : ∃ p, e = .Subscript a i p ∧ isSl i = false := by
  unfold vSub at h
  split at h
  · split at h
    · cases h
    · cases h
      rename_i hn
      exact ⟨_, rfl, by cases hq : isSl i with | false => rfl | true => exact absurd hq hn⟩
  · cases h
theorem plainIxT {i : Expr} (h : isSl i = false) : PlainIxT i := fun o j => by
  cases i <;> first | rfl | simp [isSl] at h
theorem plainIx {i : Expr} (h : isSl i = false) : PlainIx i := fun o j => by
  cases i <;> first | rfl | simp [isSl] at h
def vSlc : Expr → Option (Expr × Option Expr × Option Expr)
  | .Subscript a (.Slice lo hi none _) _ => some (a, lo, hi)
  | _ => none
theorem vSlc_eq {e a : Expr} {lo hi : Option Expr} (h : vSlc e = some (a, lo, hi)) : ∃ p q, e = .Subscript a (.Slice lo hi none p) q := by
  unfold vSlc at h
  split at h <;> simp_all
def vCall : Expr → Option (Str × List Expr)
  | .Call (.Name f _) es [] _ => some (f, es)
  | _ => none
theorem vCall_eq {e : Expr} {f : Str} {es : List Expr} (h : vCall e = some (f, es)) : ∃ p q, e = .Call (.Name f p) es [] q := by
  unfold vCall at h
  split at h <;> simp_all
/-- list(reversed(x)) -/
def vLRev : Expr → Option Expr
  | .Call (.Name f _) [.Call (.Name g _) [e] [] _] [] _ => if f = "list" ∧ g = "reversed" then some e else none
  | _ => none
theorem vLRev_eq {e a : Expr} (h : vLRev e = some a) : ∃ p p2 q2 q, e = .Call (.Name "list" p) [.Call (.Name "reversed" p2) [a] [] q2] [] q := by
  unfold vLRev at h
  split at h
  · split at h
    · rename_i c
      obtain ⟨c1, c2⟩ := c
      subst c1 c2
      cases h
      exact ⟨_, _, _, _, rfl⟩
    · cases h
  · cases h
def vComp : Expr → Option (Expr × Expr × Expr × List Expr × Scope × Pos)
  | .ListComp elt [⟨tg, iter, ifs, a⟩] sc p => if a = 0 then some (elt, tg, iter, ifs, sc, p) else none
  | _ => none
theorem vComp_eq {e elt tg iter : Expr} {ifs : List Expr} {sc : Scope} {p : Pos} (h : vComp e = some (elt, tg, iter, ifs, sc, p)) : e = .ListComp elt [⟨tg, iter, ifs, 0⟩] sc p := by
  unfold vComp at h
  split at h
  · split at h
    · simp_all
    · cases h
  · cases h
def isSet : Expr → Bool
  | .Set .. => true
  | _ => false
theorem folded_plain {e : Expr} {env : Env} (h : isSet e = false) : ∀ x, foldedSetIterable e env x = pure x := fun x => by
  cases e <;> first | rfl | simp [isSet] at h
theorem star_cons {e : Expr} {es : List Expr} {env : Env} (h : isStar e = false) : starEach (e :: es) env = (false, eval e env) :: starEach es env := by
  cases e <;> first | rfl | simp [isStar] at h
theorem back_any {pos : Pos} {env : Env} : ∀ {es : List Expr}, es.all (fun e => !isStar e) = true → (backTo pos (starEach es env)).any (·.1) = false
  | [], _ => rfl
  | e :: es, h => by
    simp only [List.all_cons, Bool.and_eq_true, Bool.not_eq_true'] at h
    rw [star_cons h.1]
    show (false || (backTo pos (starEach es env)).any (·.1)) = false
    rw [back_any h.2]
    rfl

def vRev : Expr → Option Expr
  | .Subscript e (.Slice none none (some (.UnaryOp .USub (.Constant (.int 1) _ _) _)) _) _ => some e
  | _ => none
theorem vRev_eq {e a : Expr} (h : vRev e = some a) : ∃ k p1 p2 p3 p, e = .Subscript a (.Slice none none (some (.UnaryOp .USub (.Constant (.int 1) k p1) p2)) p3) p := by
  unfold vRev at h
  split at h <;> simp_all
def vDict0 : Expr → Bool
  | .Dict [] [] _ => true
  | _ => false
theorem vDict0_eq {e : Expr} (h : vDict0 e = true) : ∃ p, e = .Dict [] [] p := by
  unfold vDict0 at h
  split at h <;> simp_all
def vDict1 : Expr → Option (Expr × Expr)
  | .Dict [some k] [v] _ => some (k, v)
  | _ => none
theorem vDict1_eq {e k v : Expr} (h : vDict1 e = some (k, v)) : ∃ p, e = .Dict [some k] [v] p := by
  unfold vDict1 at h
  split at h <;> simp_all
def vDictN : Expr → Option (List (Option Expr) × List Expr)
  | .Dict ks vs _ => some (ks, vs)
  | _ => none
theorem vDictN_eq {e : Expr} {ks : List (Option Expr)} {vs : List Expr} (h : vDictN e = some (ks, vs)) : ∃ p, e = .Dict ks vs p := by
  unfold vDictN at h
  split at h <;> simp_all
/-- alike, told by a Bool -/
def sameD : D → D → Bool
  | .none, .none => true
  | .bool b, .bool c => b == c
  | .int i, .int j => decide (i = j)
  | .str x, .str y => decide (x = y)
  | .tuple ds, .tuple es => go ds es
  | _, _ => false
where go : List D → List D → Bool
  | [], [] => true
  | d :: ds, e :: es => sameD d e && go ds es
  | _, _ => false
mutual
theorem sameD_eq : ∀ (d e : D), sameD d e = true → d = e
  | .none, e, h => by cases e <;> first | rfl | cases h
  | .bool b, e, h => by
    cases e <;> first | (cases h; done) | skip
    rename_i c
    have h : (b == c) = true := h
    rw [eq_of_beq h]
  | .int i, e, h => by
    cases e <;> first | (cases h; done) | skip
    exact congrArg _ (of_decide_eq_true h)
  | .str x, e, h => by
    cases e <;> first | (cases h; done) | skip
    exact congrArg _ (of_decide_eq_true h)
  | .tuple ds, e, h => by
    cases e <;> first | (cases h; done) | skip
    exact congrArg _ (sameDs_eq ds _ h)
  | .list ds, e, h => by cases e <;> cases h
  | .dict ds, e, h => by cases e <;> cases h
theorem sameDs_eq : ∀ (ds es : List D), sameD.go ds es = true → ds = es
  | [], es, h => by cases es <;> first | rfl | cases h
  | d :: ds, es, h => by
    cases es <;> first | (cases h; done) | skip
    obtain ⟨h1, h2⟩ := Bool.and_eq_true_iff.mp (show (sameD d _ && sameD.go ds _) = true from h)
    rw [sameD_eq d _ h1, sameDs_eq ds _ h2]
end
def samePs : List (Str × D) → List (Str × D) → Bool
  | [], [] => true
  | p :: ps, q :: qs => decide (p.1 = q.1) && (sameD p.2 q.2 && samePs ps qs)
  | _, _ => false
theorem samePs_eq : ∀ (ps qs : List (Str × D)), samePs ps qs = true → ps = qs
  | [], qs, h => by cases qs <;> first | rfl | cases h
  | p :: ps, qs, h => by
    cases qs <;> first | (cases h; done) | skip
    rename_i q qs
    obtain ⟨h1, h2⟩ := Bool.and_eq_true_iff.mp (show (decide (p.1 = q.1) && (sameD p.2 q.2 && samePs ps qs)) = true from h)
    obtain ⟨h3, h4⟩ := Bool.and_eq_true_iff.mp h2
    rw [samePs_eq ps qs h4]
    obtain ⟨p1, p2⟩ := p
    obtain ⟨q1, q2⟩ := q
    have e1 : p1 = q1 := of_decide_eq_true h1
    have e2 : p2 = q2 := sameD_eq _ _ h3
    rw [e1, e2]
def isTupE (e : Expr) : Bool := (vTup e).isSome
def isPr : Iu → Bool
  | .enm _ => true
  | .zp _ _ => true
  | _ => false
/-- what is known of the module's names -/
structure Fs where
  fs : List Str
  cst : List (Str × Nat)
  ck : List (Str × D) := []
  cd : List (Str × List (Str × D)) := []
  xr : List Str := []
  xd : List Str := []
  md : List (Str × Str × Str) := []
  mkc : List (Str × Str) := []
/-- a class's name that may be asked for -/
def xnB (fs : Fs) (c : Str) : Bool := xall.contains c && (decide (c = "ValueError") || fs.xd.contains c)
/-! ### the text is what the term says -/
def visB (sc : Scope) (x : Str) : Bool := match sc.names.lookup x with
  | some .local => true
  | some .cell => true
  | some .free => true
  | _ => false
def locB (sc : Scope) (x : Str) : Bool := match sc.names.lookup x with
  | some .local => true
  | some .cell => true
  | _ => false
def glB (sc : Scope) (x : Str) : Bool := match sc.names.lookup x with
  | some .globalImplicit => true
  | _ => false
def nmsB (sc : Scope) (fs : Fs) : List Str → List Expr → Bool
  | [], [] => true
  | c :: cs, y :: ys => decide (vName y = some c) && (glB sc c && (xnB fs c && nmsB sc fs cs ys))
  | _, _ => false
theorem visB_ok {sc : Scope} {x : Str} (h : visB sc x = true) : Vis sc x := by
  unfold visB at h
  split at h
  · exact .inl (by assumption)
  · exact .inr (.inl (by assumption))
  · exact .inr (.inr (by assumption))
  · cases h
theorem locB_ok {sc : Scope} {x : Str} (h : locB sc x = true) : Loc sc x := by
  unfold locB at h
  split at h
  · exact .inl (by assumption)
  · exact .inr (by assumption)
  · cases h
theorem glB_ok {sc : Scope} {x : Str} (h : glB sc x = true) : sc.names.lookup x = some .globalImplicit := by
  unfold glB at h
  split at h
  · assumption
  · cases h
def nDbg (x : Str) : Bool := (!(x == ("__debug__" : Str))) && !(x == ("__classdict__" : Str))
def b1N : B1 → Str
  | .len => "len"
  | .list => "list"
  | .tuple => "tuple"
  | .int => "int"
  | .str => "str"
  | .sum => "sum"
  | .all => "all"
  | .any => "any"
  | .sorted => "sorted"
def ownOf (N : List Str) (vs : List Nat) : List (Str × Nat) := vs.map fun i => (N.getD i "", i)
/-- a target; tsc: the scope whose own names may be stored to -/
def okTg (N : List Str) (tsc : Scope) : Tg → Expr → Bool
  | .nm i, e => match vName e with
    | some x => decide (N[i]? = some x) && locB tsc x
    | none => false
  | .tp is, e => match vTup e with
    | some es => decide (es.map vName = is.map fun i => N[i]?) && is.all (fun i => match N[i]? with
      | some x => locB tsc x
      | none => false) && decide (es.length = is.length)
    | none => false
/-! families -/
def abOk : Expr → Bool
  | .Call (.Name _ _) [] [] _ => false
  | _ => true
theorem ab_ok {x : Expr} {m : Str} {env : Env} {v : Sem Value} (h : abOk x = true) : attributeBase x m env v = v := by
  unfold abOk at h
  split at h
  · cases h
  · rename_i hn
    unfold attributeBase
    split
    · rename_i id _ p
      exact absurd rfl (hn _ _ _)
    · rfl
def vM1e : Expr → Option (Expr × Str × Expr)
  | .Call (.Attribute x m ap) [e] [] cp => if (ap.endLine == cp.line) && abOk x then some (x, m, e) else none
  | _ => none
theorem vM1e_eq {s x e : Expr} {m : Str} (h : vM1e s = some (x, m, e)) : ∃ ap cp, s = .Call (.Attribute x m ap) [e] [] cp ∧ (ap.endLine == cp.line) = true ∧ abOk x = true := by
  unfold vM1e at h
  split at h
  · split at h
    · rename_i hl
      obtain ⟨h1, h2⟩ := Bool.and_eq_true_iff.mp hl
      cases h
      exact ⟨_, _, rfl, h1, h2⟩
    · cases h
  · cases h
def vM2e : Expr → Option (Expr × Str × Expr × Expr)
  | .Call (.Attribute x m ap) [e, f] [] cp => if (ap.endLine == cp.line) && abOk x then some (x, m, e, f) else none
  | _ => none
theorem vM2e_eq {s x e f : Expr} {m : Str} (h : vM2e s = some (x, m, e, f)) : ∃ ap cp, s = .Call (.Attribute x m ap) [e, f] [] cp ∧ (ap.endLine == cp.line) = true ∧ abOk x = true := by
  unfold vM2e at h
  split at h
  · split at h
    · rename_i hl
      obtain ⟨h1, h2⟩ := Bool.and_eq_true_iff.mp hl
      cases h
      exact ⟨_, _, rfl, h1, h2⟩
    · cases h
  · cases h
def vAttr : Expr → Option (Expr × Str)
  | .Attribute x g _ => some (x, g)
  | _ => none
theorem vAttr_eq {e x : Expr} {g : Str} (h : vAttr e = some (x, g)) : ∃ p, e = .Attribute x g p := by
  unfold vAttr at h
  split at h
  · cases h
    exact ⟨_, rfl⟩
  · cases h
def vMc : Expr → Option (Str × Str × List Expr)
  | .Call (.Attribute (.Name y _) m q) xs [] r => if (q.endLine == r.line) = true ∧ xs.length < 30 then some (y, m, xs) else none
  | _ => none
theorem vMc_eq {e : Expr} {y m : Str} {xs : List Expr} (h : vMc e = some (y, m, xs)) : ∃ p q r, e = .Call (.Attribute (.Name y p) m q) xs [] r ∧ (q.endLine == r.line) = true ∧ xs.length < 30 := by
  unfold vMc at h
  split at h
  · split at h
    · rename_i hc
      cases h
      exact ⟨_, _, _, rfl, hc⟩
    · cases h
  · cases h
theorem mc_tree {y m : Str} {p q r : Pos} {xs : List Expr} {env : Env} (hl : (q.endLine == r.line) = true) (hn : xs.length < 30) (hs : xs.all (fun e => !isStar e) = true) :
    eval (.Call (.Attribute (.Name y p) m q) xs [] r) env = (do
      let ov ← eval (.Name y p) env
      standAt q.atName
      let (f, first) ← holding [ov] (getMethod ov m (do return (← importBound (.Name y p) env).getD true))
      callWith r f first (backTo r (starEach xs env)) (backToKw r (keywordEach [] env))) := by
  have hform : methodCallForm (xs.length + ([] : List Keyword).length) (backTo r (starEach xs env)) (backToKw r (keywordEach [] env)) = true := by
    have h1 : (backTo r (starEach xs env)).all (fun x => !x.1) = true := by
      have := back_any (pos := r) (env := env) hs
      rw [List.all_eq_true]
      intro x hx
      have h2 := List.any_eq_false.mp this x hx
      simpa using h2
    show ((backTo r (starEach xs env)).all (fun x => !x.1) && true && decide (xs.length + 0 + 0 < 30)) = true
    rw [h1, decide_eq_true (by omega)]
    rfl
  have hpos : methodCallPos true (.Name y p) env q r = pure r := by
    unfold methodCallPos
    simp [hl]
  rw [arm_eval_Call]
  unfold methodCall calleeOf
  simp only [hform, hpos, if_true, pure_bind]
  rfl
def txU1 : U1 → Expr → Option Expr
  | .dne, e => match vC1 e with
    | some (x, o, y) => if o = .NotEq ∧ vDict0 y = true then some x else none
    | none => none
  | .mnp, e => match vCall e with
    | some (f, [x]) => if f = "min" then some x else none
    | _ => none
  | .joi s, e => match vM1e e with
    | some (o, m, x) => if m = "join" ∧ vStr o = some s then some x else none
    | none => none
  | .spl s, e => match vM1e e with
    | some (x, m, y) => if m = "split" ∧ vStr y = some s then some x else none
    | none => none
  | .spm s n, e => match vM2e e with
    | some (x, m, y, z) => if m = "split" ∧ vStr y = some s ∧ vInt z = some (n : Int) then some x else none
    | none => none
  | .fld f, e => match vAttr e with
    | some (x, g) => if g = f ∧ abOk x = true then some x else none
    | none => none
def glU1 (sc : Scope) : U1 → Bool
  | .mnp => glB sc "min"
  | _ => true
def nmU2 : U2 → Str
  | .idx => "index"
  | .get1 => "get"
  | .spv => "split"
def nmU3 : U3 → Str
  | .get => "get"
def mmN (mx : Bool) : Str := if mx then "max" else "min"
section
variable (N : List Str) (fs : Fs)
mutual
def okE (sc tsc : Scope) : E → Expr → Bool
  | .var i, e => match vName e with
    | some x => decide (N[i]? = some x) && (visB sc x && nDbg x)
    | none => false
  | .int n, e => decide (vInt e = some (n : Int))
  | .bl n, e => decide (vBl e = some n)
  | .non, e => vNon e
  | .str n, e => decide (vStr e = some n)
  | .bin op a b, e => match vBin e with
    | some (x, o, y) => decide (o = op) && (okE sc tsc a x && okE sc tsc b y)
    | none => false
  | .neg a, e => match vUn e with
    | some (o, x) => decide (o = .USub) && okE sc tsc a x
    | none => false
  | .inv a, e => match vUn e with
    | some (o, x) => decide (o = .Invert) && okE sc tsc a x
    | none => false
  | .not a, e => match vUn e with
    | some (o, x) => decide (o = .Not) && okE sc tsc a x
    | none => false
  | .cmp op a b, e => match vC1 e with
    | some (x, o, y) => decide (o = op) && (!behindInMarks op y && (okE sc tsc a x && okE sc tsc b y))
    | none => false
  | .chn op op' a b c, e => match vC2 e with
    | some (x, o, y, o', z) => decide (o = op) && (decide (o' = op') && (decide (op' ≠ .In ∧ op' ≠ .NotIn) && (okE sc tsc a x && (okE sc tsc b y && okE sc tsc c z))))
    | none => false
  | .isN a, e => match vC1 e with
    | some (x, o, y) => decide (o = .Is) && (vNon y && okE sc tsc a x)
    | none => false
  | .notN a, e => match vC1 e with
    | some (x, o, y) => decide (o = .IsNot) && (vNon y && okE sc tsc a x)
    | none => false
  | .and a b, e => match vBool e with
    | some (o, x, y, r, p) => decide (o = .And) && (okE sc tsc a x && (match r with
      | [] => okE sc tsc b y
      | _ => okE sc tsc b (.BoolOp .And (y :: r) p)))
    | none => false
  | .or a b, e => match vBool e with
    | some (o, x, y, r, p) => decide (o = .Or) && (okE sc tsc a x && (match r with
      | [] => okE sc tsc b y
      | _ => okE sc tsc b (.BoolOp .Or (y :: r) p)))
    | none => false
  | .ife c a b, e => match vIf e with
    | some (z, x, y) => okE sc tsc c z && (okE sc tsc a x && okE sc tsc b y)
    | none => false
  | .tup es, e => match vTup e with
    | some xs => okA sc tsc es xs
    | none => false
  | .lst es, e => match vLst e with
    | some xs => okA sc tsc es xs
    | none => false
  | .ix a i, e => match vSub e with
    | some (x, y) => okE sc tsc a x && okE sc tsc i y
    | none => false
  | .sl a lo hi, e => match vSlc e with
    | some (x, l, h) => okE sc tsc a x && (okO sc tsc lo l && okO sc tsc hi h)
    | none => false
  | .call f es, e => match vCall e with
    | some (g, xs) => decide (g = f) && (fs.fs.contains f && (glB sc f && (nDbg f && okA sc tsc es xs)))
    | none => false
  | .b1 b a, e => match vCall e with
    | some (g, [x]) => decide (g = b1N b) && (glB sc (b1N b) && (okE sc tsc a x && !isStar x))
    | _ => false
  | .isx a c, e => match vCall e with
    | some (g, [x, y]) => decide (g = "isinstance") && (glB sc "isinstance" && (okE sc tsc a x && (!isStar x && (decide (vName y = some c) && (glB sc c && xnB fs c)))))
    | _ => false
  | .ixs a cs, e => match vCall e with
    | some (g, [x, y]) => (match vTup y with
      | some ys => decide (g = "isinstance") && (glB sc "isinstance" && (okE sc tsc a x && (!isStar x && nmsB sc fs cs ys)))
      | none => false)
    | _ => false
  | .isi a t, e => match vCall e with
    | some (g, [x, y]) => decide (g = "isinstance") && (glB sc "isinstance" && (okE sc tsc a x && (!isStar x && (decide (vName y = some (tyN t : Str)) && glB sc (tyN t)))))
    | _ => false
  | .lc elt tg it ifs vs, e => match vComp e with
    | some (x, t, i, c, scope, _) => blkC N sc scope (ownOf N vs) && (okI sc tsc it i && (okTg N scope tg t && ((!isPr it || isTupE t) && (okC (relS scope sc) scope ifs c && okE (relS scope sc) scope elt x))))
    | none => false
  | .lrg it, e => match vCall e with
    | some (g, [x]) => decide (g = "list") && (glB sc "list" && (okR sc tsc it x && !isStar x))
    | _ => false
  | .glb x n, e => match vName e with
    | some y => decide (y = x) && (glB sc x && (nDbg x && decide ((x, n) ∈ fs.cst)))
    | none => false
  | .mm mx a b, e => match vCall e with
    | some (g, [x, y]) => decide (g = mmN mx) && (glB sc (mmN mx) && (okE sc tsc a x && (!isStar x && (okE sc tsc b y && !isStar y))))
    | _ => false
  | .rvl a, e => match vRev e with
    | some x => okE sc tsc a x
    | none => match vLRev e with
      | some x => glB sc "list" && (glB sc "reversed" && (okE sc tsc a x && !isStar x))
      | none => false
  | .nev, e => !isStar e
  | .dnw, e => vDict0 e
  | .dsp1 k v, e => match vDict1 e with
    | some (x, y) => okE sc tsc k x && okE sc tsc v y
    | none => false
  | .sst a, e => match vCall e with
    | some (g, [x]) => (match vCall x with
      | some (f, [y]) => decide (g = "sorted") && (decide (f = "set") && (glB sc "sorted" && (glB sc "set" && (okE sc tsc a y && !isStar y))))
      | _ => false)
    | _ => false
  | .gk x d, e => match vName e with
    | some y => decide (y = x) && (glB sc x && (nDbg x && fs.ck.any fun p => decide (p.1 = x) && sameD p.2 d))
    | none => false
  | .gdx x kvs i, e => match vSub e with
    | some (o, j) => (match vName o with
      | some y => decide (y = x) && (glB sc x && (nDbg x && ((fs.cd.any fun p => decide (p.1 = x) && samePs p.2 kvs) && okE sc tsc i j)))
      | none => false)
    | none => false
  | .dsp ps, e => match vDictN e with
    | some (ks, vs) => decide (ks ≠ [] ∧ ks.length ≤ 15) && okP sc tsc ps ks vs
    | none => false
  | .pk2 a b c, e => match vSub e with
    | some (l, i) => (match vLst l, vCall i with
      | some [x, y], some (g, [z]) => decide (g = "int") && (glB sc "int" && (okE sc tsc a x && (!isStar x && (okE sc tsc b y && (!isStar y && (okE sc tsc c z && !isStar z))))))
      | _, _ => false)
    | none => false
  | .dnn, e => vDict0 e
  | .mc p c q m es, e => match vMc e with
    | some (y, m', xs) => decide (m' = m) && (fs.md.contains (c, q, m) && (decide (N[p]? = some y) && (visB sc y && (nDbg y && okA sc tsc es xs))))
    | none => false
  | .mkc c q es, e => match vCall e with
    | some (g, xs) => decide (g = c) && (fs.mkc.contains (c, q) && (glB sc c && (nDbg c && okA sc tsc es xs)))
    | none => false
  | .lns a, e => match vCall e with
    | some (g, [x]) => (match vCall x with
      | some (f, [y]) => decide (g = "len") && (decide (f = "set") && (glB sc "len" && (glB sc "set" && (okE sc tsc a y && !isStar y))))
      | _ => false)
    | _ => false
  | .u1 k a, e => match txU1 k e with
    | some x => glU1 sc k && (okE sc tsc a x && !isStar x)
    | none => false
  | .u2 k a b, e => match vM1e e with
    | some (x, m, y) => decide (m = nmU2 k) && (okE sc tsc a x && (okE sc tsc b y && !isStar y))
    | none => false
  | .u3 k a b c, e => match vM2e e with
    | some (x, m, y, z) => decide (m = nmU3 k) && (okE sc tsc a x && (okE sc tsc b y && (!isStar y && (okE sc tsc c z && !isStar z))))
    | none => false
  | .lcd elt tg i ifs vs, e => match vComp e with
    | some (x, t, it, c, scope, _) => blkC N sc scope (ownOf N vs) && ((match vName it with
      | some y => decide (N[i]? = some y) && (visB sc y && nDbg y)
      | none => false) && (okTg N scope tg t && (okC (relS scope sc) scope ifs c && okE (relS scope sc) scope elt x)))
    | none => false
def okP (sc tsc : Scope) : Ps → List (Option Expr) → List Expr → Bool
  | .nil, ks, vs => ks.isEmpty && vs.isEmpty
  | .cons k v r, ks, vs => match ks, vs with
    | some x :: ks, y :: vs => okE sc tsc k x && (okE sc tsc v y && okP sc tsc r ks vs)
    | _, _ => false
def okA (sc tsc : Scope) : Es → List Expr → Bool
  | .nil, xs => xs.isEmpty
  | .cons e es, xs => match xs with
    | x :: r => okE sc tsc e x && (!isStar x && okA sc tsc es r)
    | [] => false
def okO (sc tsc : Scope) : Eo → Option Expr → Bool
  | .none, o => o.isNone
  | .some e, o => match o with
    | some x => okE sc tsc e x
    | none => false
def okC (sc tsc : Scope) : Eo → List Expr → Bool
  | .none, o => o.isEmpty
  | .some e, o => match o with
    | [x] => okE sc tsc e x
    | _ => false
def okI (sc tsc : Scope) : Iu → Expr → Bool
  | .rg1 a, e => match vCall e with
    | some (g, [x]) => decide (g = "range") && (glB sc "range" && (okE sc tsc a x && !isStar x))
    | _ => false
  | .rg2 a b, e => match vCall e with
    | some (g, [x, y]) => decide (g = "range") && (glB sc "range" && (okE sc tsc a x && (!isStar x && (okE sc tsc b y && !isStar y))))
    | _ => false
  | .seq a, e => okE sc tsc a e && !isSet e
  | .rg3 a b c, e => match vCall e with
    | some (g, [x, y, z]) => decide (g = "range") && (glB sc "range" && (okE sc tsc a x && (!isStar x && (okE sc tsc b y && (!isStar y && (okE sc tsc c z && !isStar z))))))
    | _ => false
  | .enm a, e => match vCall e with
    | some (g, [x]) => decide (g = "enumerate") && (glB sc "enumerate" && (okE sc tsc a x && !isStar x))
    | _ => false
  | .zp a b, e => match vCall e with
    | some (g, [x, y]) => decide (g = "zip") && (glB sc "zip" && (okE sc tsc a x && (!isStar x && (okE sc tsc b y && !isStar y))))
    | _ => false
  | .rev a, e => match vCall e with
    | some (g, [x]) => decide (g = "reversed") && (glB sc "reversed" && (okE sc tsc a x && !isStar x))
    | _ => false
  | .rvr a, e => match vCall e with
    | some (g, [r]) => decide (g = "reversed") && (glB sc "reversed" && (!isStar r && (match vCall r with
      | some (g2, [x]) => decide (g2 = "range") && (glB sc "range" && (okE sc tsc a x && !isStar x))
      | _ => false)))
    | _ => false
def okR (sc tsc : Scope) : Iu → Expr → Bool
  | .rg1 a, e => match vCall e with
    | some (g, [x]) => decide (g = "range") && (glB sc "range" && (okE sc tsc a x && !isStar x))
    | _ => false
  | .rg2 a b, e => match vCall e with
    | some (g, [x, y]) => decide (g = "range") && (glB sc "range" && (okE sc tsc a x && (!isStar x && (okE sc tsc b y && !isStar y))))
    | _ => false
  | _, _ => false
end
end

/-! ### the context -/
/-- a class that can be raised -/
structure XrOk (X : Cx) (c : Str) : Prop where
  q : PySem.W.excIn X.K (xga X.K c) veMro "ValueError.__new__" = true
  g : X.mg c = some (.ref (xga X.K c))
  kp : PySem.W.keepIn X.K (.ref (xga X.K c)) = true
  r : Raises X (.ref (xga X.K c))
structure Cxt (X : Cx) (K : PySem.W.Frag) (sp : Str → Sp) (N : List Str) (fs : Fs) (sc tsc : Scope) : Prop where
  k : X.K = K
  calm : X.calm = true
  n : X.N = N
  nd : N.Nodup
  sc : X.env.scope = sc
  blt : ∀ b, b ∈ bnames → X.mg b = none
  hu : X.A.units + 500 < cLine
  gc : ∀ x n, (x, n) ∈ fs.cst → ∃ t, X.mg x = some (.int ((n : Nat) : Int) t)
  gk : ∀ x d, (x, d) ∈ fs.ck → ∃ v u, X.mg x = some u ∧ RelV v u ∧ ∀ G, Rp K G v d
  gd : ∀ x kvs, (x, kvs) ∈ fs.cd → ∃ a, X.mg x = some (.ref a) ∧ ∀ z d, kvs.lookup z = some d → ∃ v, KDct K X.w a z v ∧ ∀ G, Rp K G v d
  fn : ∀ f, f ∈ fs.fs → ∃ a fd ps k, FnOk X.prog X.w X.K X.mg X.base (L2.CX X.prog X.w) k a fd ps (sp f) ∧ Room k X.A ∧ X.mg f = some (.ref a) ∧ PySem.W.keepIn X.K (.ref a) = true ∧ Binds X.K fd ps []
  xd : ∀ d, d ∈ fs.xd → X.mg d = some (.ref (xga K d)) ∧ ∃ a, PySem.W.nsIn K mainGlobals d = some (some (.ref a))
  xr : ∀ c, c ∈ fs.xr → XcOk K c ∧ XrOk X c
  md : ∀ c q m, (c, q, m) ∈ fs.md → ∃ a fd ps k, Cls K (xga K c) ∧ Meth K (xga K c) m a ∧ FnOk X.prog X.w X.K X.mg X.base (L2.CX X.prog X.w) k a fd ps (sp q) ∧ Room k X.A ∧ Binds X.K fd ps []
  mkc : ∀ c q, (c, q) ∈ fs.mkc → ∃ a fd ps k, Mk K (xga K c) a ∧ FnOk X.prog X.w X.K X.mg X.base (L2.CX X.prog X.w) k a fd ps (sp q) ∧ Room (k + 1) X.A ∧ X.mg c = some (.ref (xga K c)) ∧ Binds X.K fd ps []
  tg : ∀ x, locB tsc x = true → Loc X.env.scope x ∧ (X.fn x = true ∨ X.env.scope.names.lookup x = some .local)
theorem Cxt.blk {X : Cx} {K : PySem.W.Frag} {sp : Str → Sp} {N : List Str} {fs : Fs} {sc tsc scope : Scope} (C : Cxt X K sp N fs sc tsc) (hu : ∀ y ∈ scope.names, scope.names.lookup y.1 = some y.2) (s : Shared) (H : Hp) (A : Addr) (cl : List (Str × Addr)) (fp : List Addr) :
    Cxt (X.blk s H scope (compEnvC scope cl A X.env) fp) K sp N fs (relS scope sc) scope where
  k := C.k
  calm := C.calm
  n := C.n
  nd := C.nd
  sc := by
    show relS scope X.env.scope = _
    rw [C.sc]
  blt := C.blt
  hu := C.hu
  gc := C.gc
  gk := C.gk
  gd := C.gd
  fn := C.fn
  md := C.md
  mkc := C.mkc
  xd := C.xd
  xr := fun c hc => ⟨(C.xr c hc).1, ⟨(C.xr c hc).2.q, (C.xr c hc).2.g, (C.xr c hc).2.kp, (C.xr c hc).2.r⟩⟩
  tg := fun x h => by
    have hs : (X.blk s H scope (compEnvC scope cl A X.env) fp).env.scope = relS scope X.env.scope := rfl
    rw [hs]
    rcases locB_ok h with e | e
    · have q : (relS scope X.env.scope).names.lookup x = some .local := lookup_relS_keep (by decide) e
      exact ⟨.inl q, .inr q⟩
    · have q : (relS scope X.env.scope).names.lookup x = some .cell := lookup_relS_keep (by decide) e
      refine ⟨.inr q, .inl ?_⟩
      show (scope.names.lookup x == some .cell) = true
      rw [e]
      rfl
end GK

namespace GK
open PySem PySem.Spec PyProof.Rows L2

theorem and2 {a b : Bool} (h : (a && b) = true) : a = true ∧ b = true := Bool.and_eq_true_iff.mp h
theorem nDbg_ok {x : Str} (h : nDbg x = true) : (x == ("__debug__" : Str)) = false ∧ (x == ("__classdict__" : Str)) = false := by
  obtain ⟨h1, h2⟩ := and2 h
  exact ⟨by simpa using h1, by simpa using h2⟩
theorem not_t {b : Bool} (h : (!b) = true) : b = false := by simpa using h
theorem boot_b1 : ∀ b : B1, (b1N b == ("__debug__" : Str)) = false ∧ b1N b ≠ ("__name__" : Str) ∧ b1N b ∈ bnames := by
  intro b
  cases b <;> decide +kernel
theorem pe_true {X : Cx} {e : Expr} {t : TE} (h : PE X e t) (he : ∀ whole, isTrue e X.env whole = (do let v ← whole; standAt e.pos; holding [v] (truthy v))) : PT X e (tB t) := pt_val h he

/-- what is shown of an expression -/
structure Der (X : Cx) (e : Expr) (t : TE) : Prop where
  pe : PE X e t
  pt : PT X e (tB t)
  pw : ∀ op vs p, e = .BoolOp op vs p → PW X e (tB t)
  ns : isStar e = false
theorem Der.mk' {X : Cx} {e : Expr} {t : TE} (h : PE X e t) (he : ∀ whole, isTrue e X.env whole = (do let v ← whole; standAt e.pos; holding [v] (truthy v))) (nb : ∀ op vs p, e ≠ .BoolOp op vs p) (ns : isStar e = false) : Der X e t :=
  ⟨h, pt_val h he, fun op vs p z => absurd z (nb op vs p), ns⟩
/-- one argument of a built-in -/
theorem pa1 {X : Cx} {e : Expr} {t : TE} (h : PE X e t) (ns : isStar e = false) : PA X [e] (tCons t tNil) := pa_cons h pa_nil (star_cons ns)
theorem pe_b1 {X : Cx} {K : PySem.W.Frag} {sp : Str → Sp} {N : List Str} {fs : Fs} {sc tsc : Scope} (C : Cxt X K sp N fs sc tsc) (b : B1) {x : Expr} {t : TE} {p q : Pos} (h : PE X x t) (ns : isStar x = false) (hg : glB sc (b1N b) = true) :
    PE X (.Call (.Name (b1N b) p) [x] [] q) (tCB (rB1 K b) (tCons t tNil)) := by
  obtain ⟨d1, d2, d3⟩ := boot_b1 b
  have hg' : Gl X (b1N b) := by
    show X.env.scope.names.lookup _ = _
    rw [C.sc]
    exact glB_ok hg
  have hm := C.blt _ d3
  have hk := C.k
  cases b with
  | len => subst hk; exact pe_callB (callR_or call_len_seq (callR_or cr_lenD call_len_str)) hg' hm PySem.boot_len (pa1 h ns) d2 d1 (star_cons ns) rfl
  | list => subst hk; exact pe_callTy (callR_or call_list_of (callR_or (call_listD C.calm) (cr_listS C.calm))) hg' hm PyProof.Rows.boot_list (pa1 h ns) d2 d1 (star_cons ns) rfl
  | tuple => subst hk; exact pe_callTy (callR_or call_tuple_of (cr_tupleN C.calm)) hg' hm PyProof.Rows.boot_tuple (pa1 h ns) d2 d1 (star_cons ns) rfl
  | int => subst hk; exact pe_callTy (callR_or call_int1 call_int_str) hg' hm PyProof.Rows.boot_int (pa1 h ns) d2 d1 (star_cons ns) rfl
  | str => subst hk; exact pe_callTy call_str_int hg' hm PyProof.Rows.boot_str (pa1 h ns) d2 d1 (star_cons ns) rfl
  | sum => subst hk; exact pe_callB (cr_sum C.calm) hg' hm (by decide +kernel) (pa1 h ns) d2 d1 (star_cons ns) rfl
  | all => subst hk; exact pe_callB (cr_all C.calm) hg' hm (by decide +kernel) (pa1 h ns) d2 d1 (star_cons ns) rfl
  | any => subst hk; exact pe_callB (cr_any C.calm) hg' hm (by decide +kernel) (pa1 h ns) d2 d1 (star_cons ns) rfl
  | sorted => subst hk; exact pe_callB (callR_or cr_sortedI (cr_sortD C.calm)) hg' hm (by decide +kernel : bootBuiltins "sorted" = some (.builtin "sorted")) (pa1 h ns) d2 d1 (star_cons ns) rfl
/-- a constant of the module -/
theorem pe_gk {X : Cx} {K : PySem.W.Frag} {x : Str} {d : D} {v : V} {u : Value} {p : Pos} (hg : Gl X x) (hm : X.mg x = some u) (r : RelV v u) (hr : ∀ G, Rp K G v d) (hd : (x == ("__debug__" : Str)) = false) : PE X (.Name x p) (fun _ H Q => ∀ v, (∀ G, Rp K G v d) → Q v H) :=
  ⟨fun pins s σ H Q I q => (pe_glob hg hm r hd).run pins s σ H Q I (q v hr)⟩
/-- a table of the module -/
theorem pe_gdx {X : Cx} {x : Str} {a : Addr} {kvs : List (Str × D)} {i : Expr} {ti : TE} {p q : Pos} (hg : Gl X x) (hm : X.mg x = some (.ref a)) (hk : ∀ z d, kvs.lookup z = some d → ∃ v, KDct X.K X.w a z v ∧ ∀ G, Rp X.K G v d) (hd : (x == ("__debug__" : Str)) = false) (hi : PE X i ti) (hs : PlainIx i) :
    PE X (.Subscript (.Name x p) i q) (fun σ H Q => ti σ H fun y H1 => ∃ z d, y = .str z ∧ kvs.lookup z = some d ∧ ∀ v, (∀ G, Rp X.K G v d) → Q v H1) := by
  have b := pe_ix (pos := q) ix_kdict (pe_glob (pos := p) (v := .ref a) hg hm rfl hd) (pe_up hi) hs
  refine ⟨fun pins s σ H Q I h => b.run pins s σ H Q I ⟨_, h, fun y H1 k => ?_⟩⟩
  obtain ⟨z, d, rfl, hl, k⟩ := k
  obtain ⟨v, h1, h2⟩ := hk z d hl
  exact ⟨a, z, v, rfl, rfl, h1, k v h2⟩
/-! families -/
theorem pe_u1 {X : Cx} {K : PySem.W.Frag} {sp : Str → Sp} {N : List Str} {fs : Fs} {sc tsc : Scope} (C : Cxt X K sp N fs sc tsc) (k : U1) {e x : Expr} {t : TE} (h : txU1 k e = some x) (hg : glU1 sc k = true) (hx : PE X x t) (ns : isStar x = false) : Der X e (rdU1 K k t) := by
  have hk := C.k
  subst hk
  cases k with
  | dne =>
    simp only [txU1] at h
    split at h
    · rename_i x' o y hv
      split at h
      · rename_i hc
        obtain ⟨rfl, hd⟩ := hc
        obtain ⟨p, rfl⟩ := vC1_eq hv
        obtain ⟨q, rfl⟩ := vDict0_eq hd
        cases h
        exact ⟨pe_cmpR (op_neE (by have := C.hu; omega)) hx pe_dnewK (nomark _), pt_cmpR (op_neE (by have := C.hu; omega)) hx pe_dnewK (nomark _), (fun _ _ _ z => nomatch z), rfl⟩
      · cases h
    · cases h
  | mnp =>
    simp only [txU1] at h
    split at h
    · rename_i f x' hv
      split at h
      · rename_i hf
        subst hf
        cases h
        obtain ⟨p, q, rfl⟩ := vCall_eq hv
        have hg' : Gl X "min" := by
          show X.env.scope.names.lookup _ = _
          rw [C.sc]
          exact glB_ok hg
        exact .mk' (pe_callB (cr_minP C.calm C.hu) hg' (C.blt _ (by decide +kernel)) (by decide +kernel) (pa1 hx ns) (by decide +kernel) (by decide +kernel) (star_cons ns) rfl) (fun _ => rfl) (fun _ _ _ z => nomatch z) rfl
      · cases h
    · cases h
  | fld f =>
    simp only [txU1] at h
    split at h
    · rename_i x' g hv
      split at h
      · rename_i hc
        obtain ⟨rfl, hb⟩ := hc
        cases h
        obtain ⟨p, rfl⟩ := vAttr_eq hv
        exact .mk' (pe_fld hx (ab_ok hb)) (fun _ => rfl) (fun _ _ _ z => nomatch z) rfl
      · cases h
    · cases h
  | joi s =>
    simp only [txU1] at h
    split at h
    · rename_i o m x' hv
      split at h
      · rename_i hc
        obtain ⟨rfl, hs⟩ := hc
        cases h
        obtain ⟨ap, cp, rfl, hl, hb⟩ := vM1e_eq hv
        obtain ⟨j, p, rfl⟩ := vStr_eq hs
        exact .mk' (pe_join pe_str hx (star_cons ns) (ab_ok hb) hl) (fun _ => rfl) (fun _ _ _ z => nomatch z) rfl
      · cases h
    · cases h
  | spl s =>
    simp only [txU1] at h
    split at h
    · rename_i x' m y hv
      split at h
      · rename_i hc
        obtain ⟨rfl, hs⟩ := hc
        cases h
        obtain ⟨ap, cp, rfl, hl, hb⟩ := vM1e_eq hv
        obtain ⟨j, p, rfl⟩ := vStr_eq hs
        exact .mk' (pe_split hx pe_str rfl (ab_ok hb) hl) (fun _ => rfl) (fun _ _ _ z => nomatch z) rfl
      · cases h
    · cases h
  | spm s n =>
    simp only [txU1] at h
    split at h
    · rename_i x' m y z hv
      split at h
      · rename_i hc
        obtain ⟨rfl, hs, hn⟩ := hc
        cases h
        obtain ⟨ap, cp, rfl, hl, hb⟩ := vM2e_eq hv
        obtain ⟨j, p, rfl⟩ := vStr_eq hs
        obtain ⟨j2, p2, rfl⟩ := vInt_eq hn
        exact .mk' (pe_bm PySem.F.plainAttrs_str PySem.F.slot_str_split PySem.F.type_str_split mt_splitMax hx (pa_cons pe_str (pa_cons pe_int pa_nil)) (ab_ok hb) rfl hl rfl rfl) (fun _ => rfl) (fun _ _ _ z => nomatch z) rfl
      · cases h
    · cases h
theorem m1_of {X : Cx} {o e : Expr} {m : Str} {ap cp : Pos} (hb : abOk o = true) (ns : isStar e = false) (hl : (ap.endLine == cp.line) = true) : M1 X o m ap e cp :=
  ⟨ab_ok hb, by rw [star_cons ns]; rfl, hl, by rw [star_cons ns]; rfl⟩
theorem m2_of {X : Cx} {o e f : Expr} {m : Str} {ap cp : Pos} (hb : abOk o = true) (ns : isStar e = false) (ns2 : isStar f = false) (hl : (ap.endLine == cp.line) = true) : M2 X o m ap e f cp :=
  ⟨ab_ok hb, by rw [star_cons ns, star_cons ns2]; rfl, hl, by rw [star_cons ns, star_cons ns2]; rfl⟩
theorem pe_u2 {X : Cx} {K : PySem.W.Frag} {sp : Str → Sp} {N : List Str} {fs : Fs} {sc tsc : Scope} (C : Cxt X K sp N fs sc tsc) (k : U2) {e x y : Expr} {t u : TE} (h : vM1e e = some (x, nmU2 k, y)) (hx : PE X x t) (hy : PE X y u) (ns : isStar y = false) : Der X e (rdU2 K k t u) := by
  have hk := C.k
  subst hk
  obtain ⟨ap, cp, rfl, hl, hb⟩ := vM1e_eq h
  have hu := C.hu
  cases k with
  | idx => exact .mk' (pe_bm PySem.F.plainAttrs_list PySem.F.slot_list_index PySem.F.type_list_index (mt_indexD (by omega)) hx (pa1 hy ns) (ab_ok hb) (by rw [star_cons ns]; rfl) hl (star_cons ns) rfl) (fun _ => rfl) (fun _ _ _ z => nomatch z) rfl
  | get1 => exact .mk' (pe_dget1 (by omega) hx hy (m1_of hb ns hl)) (fun _ => rfl) (fun _ _ _ z => nomatch z) rfl
  | spv => exact .mk' (pe_split hx hy (star_cons ns) (ab_ok hb) hl) (fun _ => rfl) (fun _ _ _ z => nomatch z) rfl
theorem pe_u3 {X : Cx} {K : PySem.W.Frag} {sp : Str → Sp} {N : List Str} {fs : Fs} {sc tsc : Scope} (C : Cxt X K sp N fs sc tsc) (k : U3) {e x y z : Expr} {t u v : TE} (h : vM2e e = some (x, nmU3 k, y, z)) (hx : PE X x t) (hy : PE X y u) (hz : PE X z v) (ns : isStar y = false) (ns2 : isStar z = false) : Der X e (rdU3 k t u v) := by
  obtain ⟨ap, cp, rfl, hl, hb⟩ := vM2e_eq h
  have hu := C.hu
  cases k with
  | get => exact .mk' (pe_dget2 (by omega) hx hy hz (m2_of hb ns ns2 hl)) (fun _ => rfl) (fun _ _ _ z => nomatch z) rfl
end GK

namespace GK
open PySem PySem.Spec PyProof.Rows L2

theorem assignEach_name {x : Str} {p : Pos} {es : List Expr} {env : Env} : assignEach (.Name x p :: es) env = (false, assign (.Name x p) env) :: assignEach es env := rfl
section
variable {X : Cx} {K : PySem.W.Frag} {sp : Str → Sp} {N : List Str} {fs : Fs} {sc tsc : Scope}
theorem dTgs (C : Cxt X K sp N fs sc tsc) : ∀ (is : List Nat) (es : List Expr), es.map vName = is.map (fun i => N[i]?) → (is.all fun i => match N[i]? with
      | some x => locB tsc x
      | none => false) = true → PGs X es (is.foldr (fun i t => gCons (gName i) t) gNil) ∧ (assignEach es X.env).length = es.length ∧ (assignEach es X.env).findIdx? (·.1) = none
  | [], [], _, _ => ⟨pgs_nil, rfl, rfl⟩
  | [], _ :: _, h, _ => by simp at h
  | _ :: _, [], h, _ => by simp at h
  | i :: is, e :: es, h, h2 => by
    simp only [List.map_cons, List.cons.injEq] at h
    simp only [List.all_cons, Bool.and_eq_true] at h2
    obtain ⟨a, b, c⟩ := dTgs C is es h.2 h2.2
    have h3 := h2.1
    split at h3
    · rename_i x hx
      obtain ⟨p, rfl⟩ := vName_eq (h.1.trans hx)
      obtain ⟨t1, t2⟩ := C.tg x h3
      refine ⟨pgs_cons (pg_name (i := i) (C.n ▸ C.nd) (C.n ▸ hx) t1 t2) a rfl, ?_, ?_⟩
      · rw [assignEach_name, List.length_cons, b, List.length_cons]
      · rw [assignEach_name, List.findIdx?_cons, c]
        rfl
    · cases h3
theorem pg_or {X : Cx} {e : Expr} {t t' : TG} (h : PG X e t) (h' : PG X e t') : PG X e (fun v σ H Q => t v σ H Q ∨ t' v σ H Q) :=
  ⟨fun pins s σ H v u Q I r hw => by
    rcases hw with hw | hw
    · exact h.run pins s σ H v u Q I r hw
    · exact h'.run pins s σ H v u Q I r hw⟩
theorem dTg (C : Cxt X K sp N fs sc tsc) (t : Tg) (e : Expr) (h : okTg N tsc t e = true) : PG X e (gTg K t) := by
  cases t with
  | nm i =>
    simp only [okTg] at h
    split at h
    · rename_i x hx
      obtain ⟨p, rfl⟩ := vName_eq hx
      obtain ⟨h1, h2⟩ := and2 h
      obtain ⟨t1, t2⟩ := C.tg x h2
      exact pg_name (C.n ▸ C.nd) (C.n ▸ of_decide_eq_true h1) t1 t2
    · cases h
  | tp is =>
    simp only [okTg] at h
    split at h
    · rename_i es hx
      obtain ⟨k, p, rfl⟩ := vTup_eq hx
      obtain ⟨h12, h3⟩ := and2 h
      obtain ⟨h1, h2⟩ := and2 h12
      obtain ⟨a, b, c⟩ := dTgs C is es (of_decide_eq_true h1) h2
      have hk := C.k
      subst hk
      exact pg_or (pg_tup C.calm a (b.trans (of_decide_eq_true h3)) c) (pg_lst C.calm a (b.trans (of_decide_eq_true h3)) c)
    · cases h
end
theorem glOf {X : Cx} {K : PySem.W.Frag} {sp : Str → Sp} {N : List Str} {fs : Fs} {sc tsc : Scope} (C : Cxt X K sp N fs sc tsc) {x : Str} (h : glB sc x = true) : Gl X x := by
  show X.env.scope.names.lookup _ = _
  rw [C.sc]
  exact glB_ok h
theorem prTup {it : Iu} {t : Expr} (h : (!isPr it || isTupE t) = true) (hp : isPr it = true) : isTupE t = true := by
  rw [hp] at h
  simpa using h
theorem isTupE_eq {t : Expr} (h : isTupE t = true) : ∃ es k p, t = .Tuple es k p := by
  unfold isTupE at h
  obtain ⟨es, e⟩ := Option.isSome_iff_exists.mp h
  obtain ⟨k, p, r⟩ := vTup_eq e
  exact ⟨es, k, p, r⟩
theorem isi_name (t : Ty) : bootBuiltins (tyN t : Str) = some (.type (tyN t)) ∧ ((tyN t : Str) == ("__debug__" : Str)) = false ∧ (tyN t : Str) ≠ ("__name__" : Str) ∧ (tyN t : Str) ∈ bnames := by
  cases t <;> decide +kernel
theorem xall_dbg : ∀ d, xall.contains d = true → (d == ("__debug__" : Str)) = false := by
  intro d h
  have h : d ∈ xall := by simpa using h
  have : ∀ d ∈ xall, (d == ("__debug__" : Str)) = false := by decide +kernel
  exact this d h
/-- a class's name -/
theorem pe_cls {X : Cx} {K : PySem.W.Frag} {sp : Str → Sp} {N : List Str} {fs : Fs} {sc tsc : Scope} (C : Cxt X K sp N fs sc tsc) {c : Str} {p : Pos} (hg : glB sc c = true) (hx : xnB fs c = true) : XKn K c ∧ PE X (.Name c p) (tC (clsW K c)) := by
  have hg' : Gl X c := by
    show X.env.scope.names.lookup _ = _
    rw [C.sc]
    exact glB_ok hg
  obtain ⟨h1, h2⟩ := and2 hx
  by_cases e : c = "ValueError"
  · subst e
    refine ⟨.inl rfl, ?_⟩
    have : clsW K "ValueError" = .ty "ValueError" := if_pos rfl
    rw [this]
    exact pe_bltn hg' (C.blt _ (by simp [bnames])) (by decide +kernel : bootBuiltins "ValueError" = some (.type "ValueError")) rfl (by decide +kernel) (by decide +kernel)
  · have hm : c ∈ fs.xd := by
      rcases Bool.or_eq_true_iff.mp h2 with z | z
      · exact absurd (of_decide_eq_true z) e
      · simpa using z
    obtain ⟨m, a, n⟩ := C.xd c hm
    refine ⟨.inr ⟨a, n⟩, ?_⟩
    have : clsW K c = .ref (xga K c) := if_neg e
    rw [this]
    exact pe_glob hg' m rfl (xall_dbg c h1)
theorem pa_nms {X : Cx} {K : PySem.W.Frag} {sp : Str → Sp} {N : List Str} {fs : Fs} {sc tsc : Scope} (C : Cxt X K sp N fs sc tsc) : ∀ (cs : List Str) (ys : List Expr), nmsB sc fs cs ys = true → (∀ c ∈ cs, XKn K c) ∧ PA X ys (rdCs K cs)
  | [], [], _ => ⟨fun _ h => (nomatch h), pa_nil⟩
  | [], _ :: _, h => nomatch h
  | _ :: _, [], h => nomatch h
  | c :: cs, y :: ys, h => by
    obtain ⟨h1, h⟩ := and2 h
    obtain ⟨h2, h⟩ := and2 h
    obtain ⟨h3, h4⟩ := and2 h
    obtain ⟨p, rfl⟩ := vName_eq (of_decide_eq_true h1)
    obtain ⟨kn, T⟩ := pe_cls (p := p) C h2 h3
    obtain ⟨ks, A⟩ := pa_nms C cs ys h4
    refine ⟨fun d hd => ?_, pa_cons T A rfl⟩
    rcases List.mem_cons.mp hd with rfl | q
    · exact kn
    · exact ks d q
theorem pe_imp {X : Cx} {e : Expr} {t t' : TE} (h : PE X e t) (i : ∀ σ H Q, t' σ H Q → t σ H Q) : PE X e t' := ⟨fun pins s σ H Q I q => h.run pins s σ H Q I (i σ H Q q)⟩
theorem dbg_isi : (("isinstance" : Str) == ("__debug__" : Str)) = false := by decide +kernel
theorem bn (x : Str) (h : bnames.contains x = true) : x ∈ bnames := by simpa using h

section
variable (K : PySem.W.Frag) (sp : Str → Sp) (N : List Str) (fs : Fs)
mutual
theorem dE : ∀ (e : E) {X : Cx} {sc tsc : Scope} (C : Cxt X K sp N fs sc tsc) (x : Expr), okE N fs sc tsc e x = true → Der X x (rdE K sp e)
  | .var i, X, sc, tsc, C, x, h => by
    unfold okE at h
    split at h
    · rename_i y hy
      obtain ⟨p, rfl⟩ := vName_eq hy
      obtain ⟨h1, h2⟩ := and2 h
      obtain ⟨h2, h3⟩ := and2 h2
      obtain ⟨d1, d2⟩ := nDbg_ok h3
      refine .mk' (pe_var (C.n ▸ of_decide_eq_true h1) ?_ d1 d2) (fun _ => rfl) (fun _ _ _ z => nomatch z) rfl
      rw [C.sc]
      exact visB_ok h2
    · cases h
  | .int n, X, sc, tsc, C, x, h => by
    unfold okE at h
    obtain ⟨k, p, rfl⟩ := vInt_eq (of_decide_eq_true h)
    exact .mk' pe_int (fun _ => rfl) (fun _ _ _ z => nomatch z) rfl
  | .bl n, X, sc, tsc, C, x, h => by
    unfold okE at h
    obtain ⟨k, p, rfl⟩ := vBl_eq (of_decide_eq_true h)
    exact .mk' pe_bl (fun _ => rfl) (fun _ _ _ z => nomatch z) rfl
  | .non, X, sc, tsc, C, x, h => by
    unfold okE at h
    obtain ⟨k, p, rfl⟩ := vNon_eq h
    exact .mk' pe_non (fun _ => rfl) (fun _ _ _ z => nomatch z) rfl
  | .str n, X, sc, tsc, C, x, h => by
    unfold okE at h
    obtain ⟨k, p, rfl⟩ := vStr_eq (of_decide_eq_true h)
    exact .mk' pe_str (fun _ => rfl) (fun _ _ _ z => nomatch z) rfl
  | .bin op a b, X, sc, tsc, C, x, h => by
    unfold okE at h
    split at h
    · rename_i l o r hv
      obtain ⟨p, rfl⟩ := vBin_eq hv
      obtain ⟨h1, h2⟩ := and2 h
      obtain ⟨h2, h3⟩ := and2 h2
      cases of_decide_eq_true h1
      have A := dE a C _ h2
      have B := dE b C _ h3
      have hk := C.k
      subst hk
      exact .mk' (pe_op (op_all op) A.pe B.pe) (fun _ => rfl) (fun _ _ _ z => nomatch z) rfl
    · cases h
  | .neg a, X, sc, tsc, C, x, h => by
    unfold okE at h
    split at h
    · rename_i o r hv
      obtain ⟨p, rfl⟩ := vUn_eq hv
      obtain ⟨h1, h2⟩ := and2 h
      cases of_decide_eq_true h1
      exact .mk' (pe_un un_neg (dE a C _ h2).pe) (fun _ => rfl) (fun _ _ _ z => nomatch z) rfl
    · cases h
  | .inv a, X, sc, tsc, C, x, h => by
    unfold okE at h
    split at h
    · rename_i o r hv
      obtain ⟨p, rfl⟩ := vUn_eq hv
      obtain ⟨h1, h2⟩ := and2 h
      cases of_decide_eq_true h1
      exact .mk' (pe_un un_inv (dE a C _ h2).pe) (fun _ => rfl) (fun _ _ _ z => nomatch z) rfl
    · cases h
  | .not a, X, sc, tsc, C, x, h => by
    unfold okE at h
    split at h
    · rename_i o r hv
      obtain ⟨p, rfl⟩ := vUn_eq hv
      obtain ⟨h1, h2⟩ := and2 h
      cases of_decide_eq_true h1
      have A := dE a C _ h2
      exact ⟨pe_not A.pe, pt_notV A.pt, (fun _ _ _ z => nomatch z), rfl⟩
    · cases h
  | .cmp op a b, X, sc, tsc, C, x, h => by
    unfold okE at h
    split at h
    · rename_i l o r hv
      obtain ⟨p, rfl⟩ := vC1_eq hv
      obtain ⟨h1, h2⟩ := and2 h
      obtain ⟨h2, h3⟩ := and2 h2
      obtain ⟨h3, h4⟩ := and2 h3
      cases of_decide_eq_true h1
      have A := dE a C _ h3
      have B := dE b C _ h4
      have hk := C.k
      subst hk
      exact ⟨pe_cmpR (cmp_all C.hu op) A.pe B.pe (not_t h2), pt_cmpR (cmp_all C.hu op) A.pe B.pe (not_t h2), (fun _ _ _ z => nomatch z), rfl⟩
    · cases h
  | .chn op op' a b c, X, sc, tsc, C, x, h => by
    unfold okE at h
    split at h
    · rename_i l o r o' r' hv
      obtain ⟨p, rfl⟩ := vC2_eq hv
      obtain ⟨h1, h2⟩ := and2 h
      obtain ⟨h2, h3⟩ := and2 h2
      obtain ⟨h3, h4⟩ := and2 h3
      obtain ⟨h4, h5⟩ := and2 h4
      obtain ⟨h5, h6⟩ := and2 h5
      cases of_decide_eq_true h1
      cases of_decide_eq_true h2
      obtain ⟨n1, n2⟩ := of_decide_eq_true h3
      have A := dE a C _ h4
      have B := dE b C _ h5
      have E := dE c C _ h6
      have hk := C.k
      subst hk
      have hm : lastMarks [op, op'] [r, r'] = false := nomark _ n1 n2
      exact ⟨pe_chain (cmp_all C.hu op) (cmp_all C.hu op') A.pe B.pe E.pe hm, pt_chain (cmp_all C.hu op) (cmp_all C.hu op') A.pe B.pe E.pe hm, (fun _ _ _ z => nomatch z), rfl⟩
    · cases h
  | .isN a, X, sc, tsc, C, x, h => by
    unfold okE at h
    split at h
    · rename_i l o r hv
      obtain ⟨p, rfl⟩ := vC1_eq hv
      obtain ⟨h1, h2⟩ := and2 h
      obtain ⟨h2, h3⟩ := and2 h2
      cases of_decide_eq_true h1
      obtain ⟨k, q, rfl⟩ := vNon_eq h2
      have A := dE a C _ h3
      exact ⟨pe_cmpR op_isN A.pe pe_non (nomark _), pt_cmpR op_isN A.pe pe_non (nomark _), (fun _ _ _ z => nomatch z), rfl⟩
    · cases h
  | .notN a, X, sc, tsc, C, x, h => by
    unfold okE at h
    split at h
    · rename_i l o r hv
      obtain ⟨p, rfl⟩ := vC1_eq hv
      obtain ⟨h1, h2⟩ := and2 h
      obtain ⟨h2, h3⟩ := and2 h2
      cases of_decide_eq_true h1
      obtain ⟨k, q, rfl⟩ := vNon_eq h2
      have A := dE a C _ h3
      exact ⟨pe_cmpR op_notN A.pe pe_non (nomark _), pt_cmpR op_notN A.pe pe_non (nomark _), (fun _ _ _ z => nomatch z), rfl⟩
    · cases h
  | .and a b, X, sc, tsc, C, x, h => by
    unfold okE at h
    split at h
    · rename_i o l r rs p hv
      have e := vBool_eq hv
      subst e
      obtain ⟨h1, h2⟩ := and2 h
      obtain ⟨h2, h3⟩ := and2 h2
      cases of_decide_eq_true h1
      have A := dE a C _ h2
      have B : PE X (.BoolOp .And (r :: rs) p) (rdE K sp b) ∧ PW X (.BoolOp .And (r :: rs) p) (tB (rdE K sp b)) := by
        cases rs with
        | nil =>
          have q := dE b C _ h3
          exact ⟨pe_one q.pe, pw_one q.pt⟩
        | cons z zs =>
          have q := dE b C _ h3
          exact ⟨q.pe, q.pw _ _ _ rfl⟩
      have W := pw_andV A.pt B.2
      exact ⟨pe_and A.pe B.1, W.pt, fun _ _ _ _ => W, rfl⟩
    · cases h
  | .or a b, X, sc, tsc, C, x, h => by
    unfold okE at h
    split at h
    · rename_i o l r rs p hv
      have e := vBool_eq hv
      subst e
      obtain ⟨h1, h2⟩ := and2 h
      obtain ⟨h2, h3⟩ := and2 h2
      cases of_decide_eq_true h1
      have A := dE a C _ h2
      have B : PE X (.BoolOp .Or (r :: rs) p) (rdE K sp b) ∧ PW X (.BoolOp .Or (r :: rs) p) (tB (rdE K sp b)) := by
        cases rs with
        | nil =>
          have q := dE b C _ h3
          exact ⟨pe_one q.pe, pw_one q.pt⟩
        | cons z zs =>
          have q := dE b C _ h3
          exact ⟨q.pe, q.pw _ _ _ rfl⟩
      have W := pw_orV A.pt B.2
      exact ⟨pe_or A.pe B.1, W.pt, fun _ _ _ _ => W, rfl⟩
    · cases h
  | .ife c a b, X, sc, tsc, C, x, h => by
    unfold okE at h
    split at h
    · rename_i z l r hv
      obtain ⟨p, rfl⟩ := vIf_eq hv
      obtain ⟨h1, h2⟩ := and2 h
      obtain ⟨h2, h3⟩ := and2 h2
      have Z := dE c C _ h1
      have A := dE a C _ h2
      have B := dE b C _ h3
      exact ⟨pe_ifExp Z.pt A.pe B.pe, pt_ifE Z.pt A.pt B.pt, (fun _ _ _ z => nomatch z), rfl⟩
    · cases h
  | .tup es, X, sc, tsc, C, x, h => by
    unfold okE at h
    split at h
    · rename_i xs hv
      obtain ⟨k, p, rfl⟩ := vTup_eq hv
      exact .mk' (pe_tup (dA es C _ h).1) (fun _ => rfl) (fun _ _ _ z => nomatch z) rfl
    · cases h
  | .lst es, X, sc, tsc, C, x, h => by
    unfold okE at h
    split at h
    · rename_i xs hv
      obtain ⟨p, rfl⟩ := vLst_eq hv
      exact .mk' (pe_lst (dA es C _ h).1) (fun _ => rfl) (fun _ _ _ z => nomatch z) rfl
    · cases h
  | .ix a i, X, sc, tsc, C, x, h => by
    unfold okE at h
    split at h
    · rename_i l r hv
      obtain ⟨p, rfl, hs⟩ := vSub_eq hv
      obtain ⟨h1, h2⟩ := and2 h
      have A := dE a C _ h1
      have B := dE i C _ h2
      have hk := C.k
      subst hk
      exact .mk' (pe_or2 (pe_ix (ix_list.or ix_tup) A.pe B.pe (plainIx hs)) (pe_or2 (pe_dget (by have := C.hu; omega) A.pe B.pe (plainIx hs)) (pe_or2 (pe_dgetN C.hu A.pe B.pe (plainIx hs)) (pe_item_str A.pe B.pe (plainIxT hs))))) (fun _ => rfl) (fun _ _ _ z => nomatch z) rfl
    · cases h
  | .sl a lo hi, X, sc, tsc, C, x, h => by
    unfold okE at h
    split at h
    · rename_i y l r hv
      obtain ⟨p, q, rfl⟩ := vSlc_eq hv
      obtain ⟨h1, h2⟩ := and2 h
      obtain ⟨h2, h3⟩ := and2 h2
      have A := dE a C _ h1
      have hl := dO lo C _ h2
      have hh := dO hi C _ h3
      have hk := C.k
      subst hk
      exact .mk' (pe_slice (sl_list.or (sl_tupA.or sl_str)) A.pe hl hh) (fun _ => rfl) (fun _ _ _ z => nomatch z) rfl
    · cases h
  | .call f es, X, sc, tsc, C, x, h => by
    unfold okE at h
    split at h
    · rename_i g xs hv
      obtain ⟨p, q, rfl⟩ := vCall_eq hv
      obtain ⟨h1, h2⟩ := and2 h
      obtain ⟨h2, h3⟩ := and2 h2
      obtain ⟨h3, h4⟩ := and2 h3
      obtain ⟨h4, h5⟩ := and2 h4
      cases of_decide_eq_true h1
      obtain ⟨d1, d2⟩ := nDbg_ok h4
      obtain ⟨a, fd, ps, k, F, R, m, kp, b⟩ := C.fn _ (by simpa using h2)
      obtain ⟨A1, A2⟩ := dA es C _ h5
      have hg := glOf C h3
      refine .mk' ?_ (fun _ => rfl) (fun _ _ _ z => nomatch z) rfl
      cases xs with
      | nil =>
        cases es with
        | nil => exact pe_call0 F R hg m kp b .nil passL d1
        | cons _ _ => simp [okA] at h5
      | cons y ys =>
        simp only [List.all_cons, Bool.and_eq_true] at A2
        exact pe_call F R hg m kp b .nil passL A1 d1 (star_cons (not_t A2.1)) (back_any A2.2)
    · cases h
  | .b1 b a, X, sc, tsc, C, x, h => by
    unfold okE at h
    split at h
    · rename_i g y hv
      obtain ⟨p, q, rfl⟩ := vCall_eq hv
      obtain ⟨h1, h2⟩ := and2 h
      obtain ⟨h2, h3⟩ := and2 h2
      obtain ⟨h3, h4⟩ := and2 h3
      cases of_decide_eq_true h1
      exact .mk' (pe_b1 C b (dE a C _ h3).pe (not_t h4) h2) (fun _ => rfl) (fun _ _ _ z => nomatch z) rfl
    · cases h
  | .isx a c, X, sc, tsc, C, x, h => by
    unfold okE at h
    split at h
    · rename_i g y z hv
      obtain ⟨p, q, rfl⟩ := vCall_eq hv
      have hh := and2 h
      have h1 := hh.1
      have h2 := (and2 hh.2).1
      have h3 := (and2 (and2 hh.2).2).1
      have h4 := (and2 (and2 (and2 hh.2).2).2).1
      have h5 := (and2 (and2 (and2 (and2 hh.2).2).2).2).1
      have h6 := (and2 (and2 (and2 (and2 (and2 hh.2).2).2).2).2).1
      have h7 := (and2 (and2 (and2 (and2 (and2 hh.2).2).2).2).2).2
      cases of_decide_eq_true h1
      obtain ⟨p', rfl⟩ := vName_eq (of_decide_eq_true h5)
      have A := dE a C _ h3
      have hk := C.k
      subst hk
      obtain ⟨kn, T⟩ := pe_cls (p := p') C h6 h7
      exact .mk' (pe_imp (pe_callB cr_isX (glOf C h2) (C.blt _ (bn _ (by decide +kernel))) PyProof.Rows.boot_isinstance (pa_cons A.pe (pa1 T rfl) (star_cons (not_t h4))) (by decide +kernel) dbg_isi (star_cons (not_t h4)) rfl) fun _ _ _ h => h kn) (fun _ => rfl) (fun _ _ _ z => nomatch z) rfl
    · cases h
  | .ixs a cs, X, sc, tsc, C, x, h => by
    unfold okE at h
    split at h
    · rename_i g y z hv
      obtain ⟨p, q, rfl⟩ := vCall_eq hv
      split at h
      · rename_i ys ht
        obtain ⟨k', p', rfl⟩ := vTup_eq ht
        have hh := and2 h
        have h1 := hh.1
        have h2 := (and2 hh.2).1
        have h3 := (and2 (and2 hh.2).2).1
        have h4 := (and2 (and2 (and2 hh.2).2).2).1
        have h5 := (and2 (and2 (and2 hh.2).2).2).2
        cases of_decide_eq_true h1
        have A := dE a C _ h3
        obtain ⟨kn, T⟩ := pa_nms C cs ys h5
        have hk := C.k
        subst hk
        exact .mk' (pe_imp (pe_callB cr_isXT (glOf C h2) (C.blt _ (bn _ (by decide +kernel))) PyProof.Rows.boot_isinstance (pa_cons A.pe (pa1 (pe_tup T) rfl) (star_cons (not_t h4))) (by decide +kernel) dbg_isi (star_cons (not_t h4)) rfl) fun _ _ _ h => h kn) (fun _ => rfl) (fun _ _ _ z => nomatch z) rfl
      · cases h
    · cases h
  | .isi a t, X, sc, tsc, C, x, h => by
    unfold okE at h
    split at h
    · rename_i g y z hv
      obtain ⟨p, q, rfl⟩ := vCall_eq hv
      have hh := and2 h
      have h1 := hh.1
      have h2 := (and2 hh.2).1
      have h3 := (and2 (and2 hh.2).2).1
      have h4 := (and2 (and2 (and2 hh.2).2).2).1
      have h5 := (and2 (and2 (and2 (and2 hh.2).2).2).2).1
      have h6 := (and2 (and2 (and2 (and2 hh.2).2).2).2).2
      cases of_decide_eq_true h1
      obtain ⟨p', rfl⟩ := vName_eq (of_decide_eq_true h5)
      obtain ⟨b1, b2, b3, b4⟩ := isi_name t
      have A := dE a C _ h3
      have hk := C.k
      subst hk
      have T : PE X (.Name (tyN t : Str) p') (tC (.ty (tyN t))) := pe_bltn (glOf C h6) (C.blt _ b4) b1 rfl b3 b2
      exact .mk' (pe_callB call_isi (glOf C h2) (C.blt _ (bn _ (by decide +kernel))) PyProof.Rows.boot_isinstance (pa_cons A.pe (pa1 T rfl) (star_cons (not_t h4))) (by decide +kernel) dbg_isi (star_cons (not_t h4)) rfl) (fun _ => rfl) (fun _ _ _ z => nomatch z) rfl
    · cases h
  | .lc elt tg it ifs vs, X, sc, tsc, C, x, h => by
    unfold okE at h
    split at h
    · rename_i y t i c scope p hv
      have e := vComp_eq hv
      subst e
      obtain ⟨h1, h2⟩ := and2 h
      obtain ⟨h2, h3⟩ := and2 h2
      obtain ⟨h3, h4⟩ := and2 h3
      obtain ⟨hp, h4⟩ := and2 h4
      obtain ⟨h5, h6⟩ := and2 h4
      have B : BlkOk X.N X.env.scope scope (ownOf N vs) := by
        rw [C.n, C.sc]
        exact blkOk_by h1
      have I := dI it C i h2
      have ev : (ownOf N vs).map (·.2) = vs := by
        unfold ownOf
        rw [List.map_map]
        exact List.map_id'' (fun _ => rfl) vs
      have R := pe_lc (X := X) (own := ownOf N vs) (pos := p) C.calm (C.n ▸ C.nd) (I.1 t (prTup hp)) B (fun s H A cl fp => dTg (C.blk B.uniq s H A cl fp) tg t h3) (fun s H A cl fp => dC ifs (C.blk B.uniq s H A cl fp) c h5) (fun s H A cl fp => (dE elt (C.blk B.uniq s H A cl fp) y h6).pe) I.2
      rw [ev] at R
      exact .mk' R (fun _ => rfl) (fun _ _ _ z => nomatch z) rfl
    · cases h
  | .lrg it, X, sc, tsc, C, x, h => by
    unfold okE at h
    split at h
    · rename_i g y hv
      obtain ⟨p, q, rfl⟩ := vCall_eq hv
      obtain ⟨h1, h2⟩ := and2 h
      obtain ⟨h2, h3⟩ := and2 h2
      obtain ⟨h3, h4⟩ := and2 h3
      cases of_decide_eq_true h1
      exact .mk' (pe_listRg C.calm (glOf C h2) (C.blt _ (bn _ (by decide +kernel))) (dR it C _ h3) (star_cons (not_t h4))) (fun _ => rfl) (fun _ _ _ z => nomatch z) rfl
    · cases h
  | .glb y n, X, sc, tsc, C, x, h => by
    unfold okE at h
    split at h
    · rename_i y' hy
      obtain ⟨p, rfl⟩ := vName_eq hy
      obtain ⟨h1, h2⟩ := and2 h
      obtain ⟨h2, h3⟩ := and2 h2
      obtain ⟨h3, h4⟩ := and2 h3
      cases of_decide_eq_true h1
      obtain ⟨d1, d2⟩ := nDbg_ok h3
      obtain ⟨t, m⟩ := C.gc _ _ (of_decide_eq_true h4)
      exact .mk' (pe_glob (glOf C h2) m ⟨t, rfl⟩ d1) (fun _ => rfl) (fun _ _ _ z => nomatch z) rfl
    · cases h
  | .mm mx a b, X, sc, tsc, C, x, h => by
    unfold okE at h
    split at h
    · rename_i g y z hv
      obtain ⟨p, q, rfl⟩ := vCall_eq hv
      have hh := and2 h
      have h1 := hh.1
      have h2 := (and2 hh.2).1
      have h3 := (and2 (and2 hh.2).2).1
      have h4 := (and2 (and2 (and2 hh.2).2).2).1
      have h5 := (and2 (and2 (and2 (and2 hh.2).2).2).2).1
      have h6 := (and2 (and2 (and2 (and2 hh.2).2).2).2).2
      cases of_decide_eq_true h1
      have A := dE a C _ h3
      have B := dE b C _ h5
      have pa := pa_cons A.pe (pa1 B.pe (not_t h6)) (star_cons (not_t h4))
      refine .mk' ?_ (fun _ => rfl) (fun _ _ _ z => nomatch z) rfl
      cases mx with
      | true => exact pe_callB (cr_mm C.calm true) (glOf C h2) (C.blt _ (bn _ (by decide +kernel))) (by decide +kernel) pa (by decide +kernel) (by decide +kernel) (star_cons (not_t h4)) (back_any (by rw [List.all_cons, h6]; rfl))
      | false => exact pe_callB (cr_mm C.calm false) (glOf C h2) (C.blt _ (bn _ (by decide +kernel))) (by decide +kernel) pa (by decide +kernel) (by decide +kernel) (star_cons (not_t h4)) (back_any (by rw [List.all_cons, h6]; rfl))
    · cases h
  | .rvl a, X, sc, tsc, C, x, h => by
    unfold okE at h
    split at h
    · rename_i y hv
      obtain ⟨k, p1, p2, p3, p, rfl⟩ := vRev_eq hv
      have A := dE a C _ h
      have hk := C.k
      subst hk
      exact .mk' (pe_revL A.pe) (fun _ => rfl) (fun _ _ _ z => nomatch z) rfl
    · split at h
      · rename_i y hv
        obtain ⟨p, p2, q2, q, rfl⟩ := vLRev_eq hv
        obtain ⟨h1, h2⟩ := and2 h
        obtain ⟨h2, h3⟩ := and2 h2
        obtain ⟨h3, h4⟩ := and2 h3
        have A := dE a C _ h3
        have hk := C.k
        subst hk
        exact .mk' (pe_lstRev C.calm (glOf C h1) (C.blt _ (bn _ (by decide +kernel))) (glOf C h2) (C.blt _ (bn _ (by decide +kernel))) A.pe (star_cons (not_t h4)) rfl) (fun _ => rfl) (fun _ _ _ z => nomatch z) rfl
      · cases h
  | .nev, X, sc, tsc, C, x, h => by
    unfold okE at h
    exact ⟨⟨fun _ _ _ _ _ _ q => q.elim⟩, ⟨fun _ _ _ _ _ _ q => q.elim⟩, fun _ _ _ _ => ⟨fun _ _ _ _ _ _ _ q => q.elim⟩, not_t h⟩
  | .dnw, X, sc, tsc, C, x, h => by
    unfold okE at h
    obtain ⟨p, rfl⟩ := vDict0_eq h
    exact .mk' pe_dnewK (fun _ => rfl) (fun _ _ _ z => nomatch z) rfl
  | .dsp1 k v, X, sc, tsc, C, x, h => by
    unfold okE at h
    split at h
    · rename_i l r hv
      obtain ⟨p, rfl⟩ := vDict1_eq hv
      obtain ⟨h1, h2⟩ := and2 h
      exact .mk' (pe_disp (pps_cons (dE k C _ h1).pe (dE v C _ h2).pe pps_nil) rfl rfl (by simp) (by simp)) (fun _ => rfl) (fun _ _ _ z => nomatch z) rfl
    · cases h
  | .sst a, X, sc, tsc, C, x, h => by
    unfold okE at h
    split at h
    · rename_i g y hv
      obtain ⟨p, q, rfl⟩ := vCall_eq hv
      split at h
      · rename_i f z hv2
        obtain ⟨p2, q2, rfl⟩ := vCall_eq hv2
        have hh := and2 h
        have h1 := hh.1
        have h2 := (and2 hh.2).1
        have h3 := (and2 (and2 hh.2).2).1
        have h4 := (and2 (and2 (and2 hh.2).2).2).1
        have h5 := (and2 (and2 (and2 (and2 hh.2).2).2).2).1
        have h6 := (and2 (and2 (and2 (and2 hh.2).2).2).2).2
        cases of_decide_eq_true h1
        cases of_decide_eq_true h2
        have A := dE a C _ h5
        have hk := C.k
        subst hk
        exact .mk' (pe_sst C.calm (glOf C h3) (C.blt _ (bn _ (by decide +kernel))) (glOf C h4) (C.blt _ (bn _ (by decide +kernel))) A.pe (star_cons (not_t h6))) (fun _ => rfl) (fun _ _ _ z => nomatch z) rfl
      · cases h
    · cases h
  | .pk2 a b c, X, sc, tsc, C, x, h => by
    unfold okE at h
    split at h
    · rename_i l i hv
      obtain ⟨p, rfl, hs⟩ := vSub_eq hv
      split at h
      · rename_i x y g z hl hi
        obtain ⟨p2, rfl⟩ := vLst_eq hl
        obtain ⟨p3, q3, rfl⟩ := vCall_eq hi
        have hh := and2 h
        have h1 := hh.1
        have h2 := (and2 hh.2).1
        have h3 := (and2 (and2 hh.2).2).1
        have h4 := (and2 (and2 (and2 hh.2).2).2).1
        have h5 := (and2 (and2 (and2 (and2 hh.2).2).2).2).1
        have h6 := (and2 (and2 (and2 (and2 (and2 hh.2).2).2).2).2).1
        have h7 := (and2 (and2 (and2 (and2 (and2 (and2 hh.2).2).2).2).2).2).1
        have h8 := (and2 (and2 (and2 (and2 (and2 (and2 hh.2).2).2).2).2).2).2
        cases of_decide_eq_true h1
        have A := dE a C _ h3
        have B := dE b C _ h5
        have I := dE c C _ h7
        have P := pe_b1 C .int (p := p3) (q := q3) I.pe (not_t h8) h2
        have hk := C.k
        subst hk
        exact .mk' (pe_ix (ix_list.or ix_tup) (pe_lst (pa_cons A.pe (pa1 B.pe (not_t h6)) (star_cons (not_t h4)))) P (plainIx hs)) (fun _ => rfl) (fun _ _ _ z => nomatch z) rfl
      · cases h
    · cases h
  | .dnn, X, sc, tsc, C, x, h => by
    unfold okE at h
    obtain ⟨q, rfl⟩ := vDict0_eq h
    exact .mk' pe_dnewN (fun _ => rfl) (fun _ _ _ z => nomatch z) rfl
  | .mc p c q m es, X, sc, tsc, C, x, h => by
    unfold okE at h
    split at h
    · rename_i y0 m' xs hv
      obtain ⟨p1, p2, p3, rfl, hl, hn⟩ := vMc_eq hv
      obtain ⟨h1, h2⟩ := and2 h
      obtain ⟨h2, h3⟩ := and2 h2
      obtain ⟨h3, h4⟩ := and2 h3
      obtain ⟨h4, h5⟩ := and2 h4
      obtain ⟨h5, h6⟩ := and2 h5
      cases of_decide_eq_true h1
      obtain ⟨d1, d2⟩ := nDbg_ok h5
      obtain ⟨a, fd, ps, k, cl, mt, F, R, b⟩ := C.md _ _ _ (by simpa using h2)
      obtain ⟨A1, A2⟩ := dA es C _ h6
      have V : PE X (.Name y0 p1) (tVar p) := pe_var (C.n ▸ of_decide_eq_true h3) (by rw [C.sc]; exact visB_ok h4) d1 d2
      have hk := C.k
      subst hk
      refine .mk' ?_ (fun _ => rfl) (fun _ _ _ z => nomatch z) rfl
      cases xs with
      | nil =>
        cases es with
        | nil => exact pe_meth0 V cl mt F R b .nil passL (mc_tree hl hn rfl)
        | cons _ _ => simp [okA] at h6
      | cons y ys =>
        have T := mc_tree (y := y0) (m := m) (p := p1) (env := X.env) hl hn A2
        simp only [List.all_cons, Bool.and_eq_true] at A2
        exact pe_meth V cl mt F R b .nil passL A1 (star_cons (not_t A2.1)) (back_any A2.2) T
    · cases h
  | .mkc c q es, X, sc, tsc, C, x, h => by
    unfold okE at h
    split at h
    · rename_i g xs hv
      obtain ⟨p, r, rfl⟩ := vCall_eq hv
      obtain ⟨h1, h2⟩ := and2 h
      obtain ⟨h2, h3⟩ := and2 h2
      obtain ⟨h3, h4⟩ := and2 h3
      obtain ⟨h4, h5⟩ := and2 h4
      cases of_decide_eq_true h1
      obtain ⟨d1, d2⟩ := nDbg_ok h4
      obtain ⟨a, fd, ps, k, M, F, R, mg, b⟩ := C.mkc _ _ (by simpa using h2)
      obtain ⟨A1, A2⟩ := dA es C _ h5
      have hg := glOf C h3
      have hk := C.k
      subst hk
      refine .mk' ?_ (fun _ => rfl) (fun _ _ _ z => nomatch z) rfl
      cases xs with
      | nil =>
        cases es with
        | nil => exact pe_make0 M F R hg mg b .nil passL d1
        | cons _ _ => simp [okA] at h5
      | cons y ys =>
        simp only [List.all_cons, Bool.and_eq_true] at A2
        exact pe_make M F R hg mg b .nil passL A1 d1 (star_cons (not_t A2.1)) (back_any A2.2)
    · cases h
  | .lns a, X, sc, tsc, C, x, h => by
    unfold okE at h
    split at h
    · rename_i g y hv
      obtain ⟨p, q, rfl⟩ := vCall_eq hv
      split at h
      · rename_i f z hv2
        obtain ⟨p2, q2, rfl⟩ := vCall_eq hv2
        have hh := and2 h
        have h1 := hh.1
        have h2 := (and2 hh.2).1
        have h3 := (and2 (and2 hh.2).2).1
        have h4 := (and2 (and2 (and2 hh.2).2).2).1
        have h5 := (and2 (and2 (and2 (and2 hh.2).2).2).2).1
        have h6 := (and2 (and2 (and2 (and2 hh.2).2).2).2).2
        cases of_decide_eq_true h1
        cases of_decide_eq_true h2
        have A := dE a C _ h5
        have hk := C.k
        subst hk
        exact .mk' (pe_lns C.calm (glOf C h3) (C.blt _ (bn _ (by decide +kernel))) (glOf C h4) (C.blt _ (bn _ (by decide +kernel))) A.pe (star_cons (not_t h6))) (fun _ => rfl) (fun _ _ _ z => nomatch z) rfl
      · cases h
    · cases h
  | .u1 k a, X, sc, tsc, C, x, h => by
    unfold okE at h
    split at h
    · rename_i y hv
      obtain ⟨h1, h2⟩ := and2 h
      obtain ⟨h2, h3⟩ := and2 h2
      exact pe_u1 C k hv h1 (dE a C _ h2).pe (not_t h3)
    · cases h
  | .u2 k a b, X, sc, tsc, C, x, h => by
    unfold okE at h
    split at h
    · rename_i y m z hv
      obtain ⟨h1, h2⟩ := and2 h
      obtain ⟨h2, h3⟩ := and2 h2
      obtain ⟨h3, h4⟩ := and2 h3
      cases of_decide_eq_true h1
      exact pe_u2 C k hv (dE a C _ h2).pe (dE b C _ h3).pe (not_t h4)
    · cases h
  | .u3 k a b c, X, sc, tsc, C, x, h => by
    unfold okE at h
    split at h
    · rename_i y m z w hv
      obtain ⟨h1, h2⟩ := and2 h
      obtain ⟨h2, h3⟩ := and2 h2
      obtain ⟨h3, h4⟩ := and2 h3
      obtain ⟨h4, h5⟩ := and2 h4
      obtain ⟨h5, h6⟩ := and2 h5
      cases of_decide_eq_true h1
      exact pe_u3 C k hv (dE a C _ h2).pe (dE b C _ h3).pe (dE c C _ h5).pe (not_t h4) (not_t h6)
    · cases h
  | .lcd elt tg i ifs vs, X, sc, tsc, C, x, h => by
    unfold okE at h
    split at h
    · rename_i y t it c scope p hv
      have e := vComp_eq hv
      subst e
      have h1 := (and2 h).1
      have hm := (and2 (and2 h).2).1
      have h3 := (and2 (and2 (and2 h).2).2).1
      have h5 := (and2 (and2 (and2 (and2 h).2).2).2).1
      have h6 := (and2 (and2 (and2 (and2 h).2).2).2).2
      clear h
      split at hm
      · rename_i z hz
        obtain ⟨pz, rfl⟩ := vName_eq hz
        obtain ⟨g1, g2⟩ := and2 hm
        obtain ⟨g2, g3⟩ := and2 g2
        obtain ⟨d1, d2⟩ := nDbg_ok g3
        have PV : PE X (.Name z pz) (tVar i) := pe_var (C.n ▸ of_decide_eq_true g1) (by rw [C.sc]; exact visB_ok g2) d1 d2
        have B : BlkOk X.N X.env.scope scope (ownOf N vs) := by
          rw [C.n, C.sc]
          exact blkOk_by h1
        have ev : (ownOf N vs).map (·.2) = vs := by
          unfold ownOf
          rw [List.map_map]
          exact List.map_id'' (fun _ => rfl) vs
        have R := pe_lc (X := X) (own := ownOf N vs) (pos := p) C.calm (C.n ▸ C.nd) (pi_keys PV) B (fun s H A cl fp => dTg (C.blk B.uniq s H A cl fp) tg t h3) (fun s H A cl fp => dC ifs (C.blk B.uniq s H A cl fp) c h5) (fun s H A cl fp => (dE elt (C.blk B.uniq s H A cl fp) y h6).pe) (folded_plain rfl)
        rw [ev] at R
        exact .mk' (pe_or2 R (pe_lock R)) (fun _ => rfl) (fun _ _ _ z => nomatch z) rfl
      · cases hm
    · cases h
  | .gk x d, X, sc, tsc, C, y, h => by
    unfold okE at h
    split at h
    · rename_i y hv
      obtain ⟨p, rfl⟩ := vName_eq hv
      have hh := and2 h
      have h1 := hh.1
      have h2 := (and2 hh.2).1
      have h3 := (and2 (and2 hh.2).2).1
      have h4 := (and2 (and2 hh.2).2).2
      cases of_decide_eq_true h1
      obtain ⟨d1, d2⟩ := nDbg_ok h3
      obtain ⟨⟨x', d'⟩, m1, m2⟩ := List.any_eq_true.mp h4
      obtain ⟨m2, m3⟩ := and2 m2
      cases of_decide_eq_true m2
      cases sameD_eq _ _ m3
      obtain ⟨v, u, e1, e2, e3⟩ := C.gk _ _ m1
      exact .mk' (pe_gk (glOf C h2) e1 e2 e3 d1) (fun _ => rfl) (fun _ _ _ z => nomatch z) rfl
    · cases h
  | .gdx x kvs i, X, sc, tsc, C, y, h => by
    unfold okE at h
    split at h
    · rename_i o j hv
      obtain ⟨p, rfl, hs⟩ := vSub_eq hv
      split at h
      · rename_i y hv2
        obtain ⟨p2, rfl⟩ := vName_eq hv2
        have hh := and2 h
        have h1 := hh.1
        have h2 := (and2 hh.2).1
        have h3 := (and2 (and2 hh.2).2).1
        have h4 := (and2 (and2 (and2 hh.2).2).2).1
        have h5 := (and2 (and2 (and2 hh.2).2).2).2
        cases of_decide_eq_true h1
        obtain ⟨d1, d2⟩ := nDbg_ok h3
        obtain ⟨⟨x', d'⟩, m1, m2⟩ := List.any_eq_true.mp h4
        obtain ⟨m2, m3⟩ := and2 m2
        cases of_decide_eq_true m2
        cases samePs_eq _ _ m3
        obtain ⟨a, e1, e2⟩ := C.gd _ _ m1
        have B := dE i C _ h5
        have hk := C.k
        subst hk
        exact .mk' (pe_gdx (glOf C h2) e1 e2 d1 B.pe (plainIx hs)) (fun _ => rfl) (fun _ _ _ z => nomatch z) rfl
      · cases h
    · cases h
  | .dsp ps, X, sc, tsc, C, x, h => by
    unfold okE at h
    split at h
    · rename_i ks vs hv
      obtain ⟨p, rfl⟩ := vDictN_eq hv
      obtain ⟨h1, h2⟩ := and2 h
      obtain ⟨c1, c2⟩ := of_decide_eq_true h1
      obtain ⟨q1, q2, q3⟩ := dP ps C ks vs h2 (pos := p)
      exact .mk' (pe_disp q1 q2 q3 c1 c2) (fun _ => rfl) (fun _ _ _ z => nomatch z) rfl
    · cases h
theorem dP : ∀ (ps : Ps) {X : Cx} {sc tsc : Scope} (C : Cxt X K sp N fs sc tsc) (ks : List (Option Expr)) (vs : List Expr), okP N fs sc tsc ps ks vs = true → ∀ {pos : Pos}, PPs X pos ks vs (rdP K sp ps) ∧ ks.all (·.isSome) = true ∧ ks.length = vs.length
  | .nil, X, sc, tsc, C, ks, vs, h, pos => by
    unfold okP at h
    obtain ⟨h1, h2⟩ := and2 h
    cases List.isEmpty_iff.mp h1
    cases List.isEmpty_iff.mp h2
    exact ⟨pps_nil, rfl, rfl⟩
  | .cons k v r, X, sc, tsc, C, ks, vs, h, pos => by
    unfold okP at h
    split at h
    · rename_i x ks y vs
      obtain ⟨h1, h2⟩ := and2 h
      obtain ⟨h2, h3⟩ := and2 h2
      obtain ⟨q1, q2, q3⟩ := dP r C ks vs h3 (pos := pos)
      exact ⟨pps_cons (dE k C _ h1).pe (dE v C _ h2).pe q1, by rw [List.all_cons, q2]; rfl, by rw [List.length_cons, List.length_cons, q3]⟩
    · cases h
theorem dA : ∀ (es : Es) {X : Cx} {sc tsc : Scope} (C : Cxt X K sp N fs sc tsc) (xs : List Expr), okA N fs sc tsc es xs = true → PA X xs (rdA K sp es) ∧ xs.all (fun e => !isStar e) = true
  | .nil, X, sc, tsc, C, xs, h => by
    unfold okA at h
    cases xs with
    | nil => exact ⟨pa_nil, rfl⟩
    | cons _ _ => cases h
  | .cons e es, X, sc, tsc, C, xs, h => by
    unfold okA at h
    cases xs with
    | nil => cases h
    | cons x r =>
      obtain ⟨h1, h2⟩ := and2 h
      obtain ⟨h2, h3⟩ := and2 h2
      obtain ⟨A1, A2⟩ := dA es C r h3
      exact ⟨pa_cons (dE e C x h1).pe A1 (star_cons (not_t h2)), by rw [List.all_cons, h2, A2]; rfl⟩
theorem dO : ∀ (e : Eo) {X : Cx} {sc tsc : Scope} (C : Cxt X K sp N fs sc tsc) (o : Option Expr), okO N fs sc tsc e o = true → PO X o (rdO K sp e)
  | .none, X, sc, tsc, C, o, h => by
    unfold okO at h
    cases o with
    | none => exact po_none
    | some _ => cases h
  | .some e, X, sc, tsc, C, o, h => by
    unfold okO at h
    cases o with
    | none => cases h
    | some x => exact po_some (dE e C x h).pe
theorem dC : ∀ (e : Eo) {X : Cx} {sc tsc : Scope} (C : Cxt X K sp N fs sc tsc) (o : List Expr), okC N fs sc tsc e o = true → PTs X o (rdC K sp e)
  | .none, X, sc, tsc, C, o, h => by
    unfold okC at h
    cases o with
    | nil => exact pts_nil
    | cons _ _ => cases h
  | .some e, X, sc, tsc, C, o, h => by
    unfold okC at h
    split at h
    · exact pts_one (dE e C _ h).pt
    · cases h
theorem dI : ∀ (i : Iu) {X : Cx} {sc tsc : Scope} (C : Cxt X K sp N fs sc tsc) (x : Expr), okI N fs sc tsc i x = true → (∀ tg, (isPr i = true → isTupE tg = true) → PI X tg x (rdI K sp i)) ∧ ∀ v, foldedSetIterable x X.env v = pure v
  | .rg1 a, X, sc, tsc, C, x, h => by
    unfold okI at h
    split at h
    · rename_i g y hv
      obtain ⟨p, q, rfl⟩ := vCall_eq hv
      obtain ⟨h1, h2⟩ := and2 h
      obtain ⟨h2, h3⟩ := and2 h2
      obtain ⟨h3, h4⟩ := and2 h3
      cases of_decide_eq_true h1
      refine ⟨fun tg _ => pi_range1 (glOf C h2) (C.blt _ (bn _ (by decide +kernel))) (pa1 (dE a C _ h3).pe (not_t h4)) (star_cons (not_t h4)), folded_plain rfl⟩
    · cases h
  | .rg2 a b, X, sc, tsc, C, x, h => by
    unfold okI at h
    split at h
    · rename_i g y z hv
      obtain ⟨p, q, rfl⟩ := vCall_eq hv
      obtain ⟨h1, h2⟩ := and2 h
      obtain ⟨h2, h3⟩ := and2 h2
      obtain ⟨h3, h4⟩ := and2 h3
      obtain ⟨h4, h5⟩ := and2 h4
      obtain ⟨h5, h6⟩ := and2 h5
      cases of_decide_eq_true h1
      have e2 : starEach [z] X.env = [(false, eval z X.env)] := star_cons (not_t h6)
      have e1 : starEach [y, z] X.env = [(false, eval y X.env), (false, eval z X.env)] := (star_cons (not_t h4)).trans (by rw [e2])
      refine ⟨fun tg _ => pi_range2 (glOf C h2) (C.blt _ (bn _ (by decide +kernel))) (pa_cons (dE a C _ h3).pe (pa1 (dE b C _ h5).pe (not_t h6)) (star_cons (not_t h4))) e1 e2, folded_plain rfl⟩
    · cases h
  | .seq a, X, sc, tsc, C, x, h => by
    unfold okI at h
    obtain ⟨h1, h2⟩ := and2 h
    have A := dE a C x h1
    have hk := C.k
    subst hk
    exact ⟨fun tg _ => pi_or (pi_list A.pe) (pi_or (pi_tup A.pe) (pi_str A.pe)), folded_plain (not_t h2)⟩
  | .rg3 a b c, X, sc, tsc, C, x, h => by
    unfold okI at h
    split at h
    · rename_i g y z w hv
      obtain ⟨p, q, rfl⟩ := vCall_eq hv
      have hh := and2 h
      have h1 := hh.1
      have h2 := (and2 hh.2).1
      have h3 := (and2 (and2 hh.2).2).1
      have h4 := (and2 (and2 (and2 hh.2).2).2).1
      have h5 := (and2 (and2 (and2 (and2 hh.2).2).2).2).1
      have h6 := (and2 (and2 (and2 (and2 (and2 hh.2).2).2).2).2).1
      have h7 := (and2 (and2 (and2 (and2 (and2 (and2 hh.2).2).2).2).2).2).1
      have h8 := (and2 (and2 (and2 (and2 (and2 (and2 hh.2).2).2).2).2).2).2
      cases of_decide_eq_true h1
      refine ⟨fun tg _ => pi_range3 (glOf C h2) (C.blt _ (bn _ (by decide +kernel))) (pa_cons (dE a C _ h3).pe (pa_cons (dE b C _ h5).pe (pa1 (dE c C _ h7).pe (not_t h8)) (star_cons (not_t h6))) (star_cons (not_t h4))) (star_cons (not_t h4)) (back_any (by rw [List.all_cons, List.all_cons, h6, h8]; rfl)), folded_plain rfl⟩
    · cases h
  | .enm a, X, sc, tsc, C, x, h => by
    unfold okI at h
    split at h
    · rename_i g y hv
      obtain ⟨p, q, rfl⟩ := vCall_eq hv
      obtain ⟨h1, h2⟩ := and2 h
      obtain ⟨h2, h3⟩ := and2 h2
      obtain ⟨h3, h4⟩ := and2 h3
      cases of_decide_eq_true h1
      have A := dE a C _ h3
      have hg := glOf C h2
      have hm := C.blt "enumerate" (bn _ (by decide +kernel))
      have hk := C.k
      subst hk
      refine ⟨fun tg ht => ?_, folded_plain rfl⟩
      obtain ⟨es, k, p', rfl⟩ := isTupE_eq (ht rfl)
      exact pi_or (pi_enum hg hm (pa1 A.pe (not_t h4)) (star_cons (not_t h4))) (pi_enumT hg hm (pa1 A.pe (not_t h4)) (star_cons (not_t h4)))
    · cases h
  | .zp a b, X, sc, tsc, C, x, h => by
    unfold okI at h
    split at h
    · rename_i g y z hv
      obtain ⟨p, q, rfl⟩ := vCall_eq hv
      have hh := and2 h
      have h1 := hh.1
      have h2 := (and2 hh.2).1
      have h3 := (and2 (and2 hh.2).2).1
      have h4 := (and2 (and2 (and2 hh.2).2).2).1
      have h5 := (and2 (and2 (and2 (and2 hh.2).2).2).2).1
      have h6 := (and2 (and2 (and2 (and2 hh.2).2).2).2).2
      cases of_decide_eq_true h1
      have A := dE a C _ h3
      have B := dE b C _ h5
      have hg := glOf C h2
      have hm := C.blt "zip" (bn _ (by decide +kernel))
      have hk := C.k
      subst hk
      refine ⟨fun tg ht => ?_, folded_plain rfl⟩
      obtain ⟨es, k, p', rfl⟩ := isTupE_eq (ht rfl)
      exact pi_zipX hg hm (pa_cons A.pe (pa1 B.pe (not_t h6)) (star_cons (not_t h4))) (star_cons (not_t h4)) (back_any (by rw [List.all_cons, h6]; rfl))
    · cases h
  | .rev a, X, sc, tsc, C, x, h => by
    unfold okI at h
    split at h
    · rename_i g y hv
      obtain ⟨p, q, rfl⟩ := vCall_eq hv
      obtain ⟨h1, h2⟩ := and2 h
      obtain ⟨h2, h3⟩ := and2 h2
      obtain ⟨h3, h4⟩ := and2 h3
      cases of_decide_eq_true h1
      have A := dE a C _ h3
      have hg := glOf C h2
      have hm := C.blt "reversed" (bn _ (by decide +kernel))
      have hk := C.k
      subst hk
      exact ⟨fun tg _ => RT.pi_revA hg hm A.pe (star_cons (not_t h4)), folded_plain rfl⟩
    · cases h
  | .rvr a, X, sc, tsc, C, x, h => by
    unfold okI at h
    split at h
    · rename_i g r hv
      obtain ⟨p, q, rfl⟩ := vCall_eq hv
      have h1 := (and2 h).1
      have g2 := (and2 (and2 h).2).1
      have g3 := (and2 (and2 (and2 h).2).2).1
      have h4 := (and2 (and2 (and2 h).2).2).2
      clear h
      cases of_decide_eq_true h1
      split at h4
      · rename_i gg y hv2
        obtain ⟨p2, q2, rfl⟩ := vCall_eq hv2
        obtain ⟨h5, h6⟩ := and2 h4
        obtain ⟨h6, h7⟩ := and2 h6
        obtain ⟨h7, h8⟩ := and2 h7
        cases of_decide_eq_true h5
        exact ⟨fun tg _ => pi_revR (glOf C g2) (C.blt _ (bn _ (by decide +kernel))) (prg_1 (glOf C h6) (C.blt _ (bn _ (by decide +kernel))) (dE a C _ h7).pe (star_cons (not_t h8))) (star_cons (not_t g3)), folded_plain rfl⟩
      · cases h4
    · cases h
theorem dR : ∀ (i : Iu) {X : Cx} {sc tsc : Scope} (C : Cxt X K sp N fs sc tsc) (x : Expr), okR N fs sc tsc i x = true → PRg X x (rdR K sp i)
  | .rg1 a, X, sc, tsc, C, x, h => by
    unfold okR at h
    split at h
    · rename_i g y hv
      obtain ⟨p, q, rfl⟩ := vCall_eq hv
      obtain ⟨h1, h2⟩ := and2 h
      obtain ⟨h2, h3⟩ := and2 h2
      obtain ⟨h3, h4⟩ := and2 h3
      cases of_decide_eq_true h1
      exact prg_1 (glOf C h2) (C.blt _ (bn _ (by decide +kernel))) (dE a C _ h3).pe (star_cons (not_t h4))
    · cases h
  | .rg2 a b, X, sc, tsc, C, x, h => by
    unfold okR at h
    split at h
    · rename_i g y z hv
      obtain ⟨p, q, rfl⟩ := vCall_eq hv
      obtain ⟨h1, h2⟩ := and2 h
      obtain ⟨h2, h3⟩ := and2 h2
      obtain ⟨h3, h4⟩ := and2 h3
      obtain ⟨h4, h5⟩ := and2 h4
      obtain ⟨h5, h6⟩ := and2 h5
      cases of_decide_eq_true h1
      exact prg_2 (glOf C h2) (C.blt _ (bn _ (by decide +kernel))) (dE a C _ h3).pe (dE b C _ h5).pe (star_cons (not_t h4)) (star_cons (not_t h6)) (back_any (by rw [List.all_cons, h6]; rfl))
    · cases h
  | .seq _, X, sc, tsc, C, x, h => by simp [okR] at h
  | .rg3 _ _ _, X, sc, tsc, C, x, h => by simp [okR] at h
  | .enm _, X, sc, tsc, C, x, h => by simp [okR] at h
  | .zp _ _, X, sc, tsc, C, x, h => by simp [okR] at h
  | .rev _, X, sc, tsc, C, x, h => by simp [okR] at h
  | .rvr _, X, sc, tsc, C, x, h => by simp [okR] at h
end
end
end GK

namespace GK
open PySem PySem.Spec PyProof.Rows L2

theorem bind_ok {α β : Type} {x : M α} {f : α → M β} {r : β} (h : (x >>= f) = .ok r) : ∃ a, x = .ok a ∧ f a = .ok r := by
  cases x with
  | error e => cases h
  | ok a => exact ⟨a, rfl, h⟩
theorem pure_ok {α : Type} {x r : α} (h : (pure x : M α) = .ok r) : x = r := by cases h; rfl
theorem ok_inj {α : Type} {x r : α} (h : (.ok x : M α) = .ok r) : x = r := by cases h; rfl
section
variable {K : PySem.W.Frag} {G H G' H' : Hp}
/-- what follows an expression -/
abbrev Nxt (K : PySem.W.Frag) (G H : Hp) (s : Sl) (Q : VK) : Prop := ∀ G' H' v, Step G H G' H' → ResR K H G' H' v s → Q v H'
theorem Nxt.int {i : Int} {Q : VK} (S : Same G H) (q : Nxt K G H (fI i) Q) : Q (.int i) H := q G H _ (.refl S) (.f (.int i))
theorem Nxt.bool {b : Bool} {Q : VK} (S : Same G H) (q : Nxt K G H (fB b) Q) : Q (.bl b) H := q G H _ (.refl S) (.f (.bl b))
theorem Nxt.list {ds : List D} {vs : List V} {Q : VK} (S : Same G H) (q : Nxt K G H ⟨.o, .list ds⟩ Q) (r : RpA K G vs ds) {p : Addr} (h : H p = none) : Q (.ref p) (upd H p (.lst vs)) :=
  q G _ _ (.new S h) (.new S h r)
theorem Nxt.tup {ds : List D} {vs : List V} {Q : VK} (S : Same G H) (q : Nxt K G H ⟨.f, .tuple ds⟩ Q) (r : RpA K G vs ds) {p : Addr} (h : H p = none) : Q (.ref p) (upd H p (.tup vs)) :=
  q _ _ _ (.newF S h) (.newT S h r)
theorem Nxt.back {s : Sl} {Q : VK} (S : Step G H G' H') (q : Nxt K G H s Q) : Nxt K G' H' s Q := fun G2 H2 v S2 r => q G2 H2 v (S.trans S2) (r.back S.hh)
theorem and_t {p q : Prop} [Decidable p] [Decidable q] (h : (decide p && decide q) = true) : p ∧ q := by
  obtain ⟨a, b⟩ := and2 h
  exact ⟨of_decide_eq_true a, of_decide_eq_true b⟩
theorem ckI_ok {c : Bool} {i : Int} {s : Sl} (h : ckI c i = .ok s) : c = true ∧ s = fI i := by
  unfold ckI at h
  split at h
  · exact ⟨by assumption, (ok_inj h).symm⟩
  · cases h
theorem ckO_ok {c : Bool} {i : List D} {s : Sl} (h : ckO c i = .ok s) : c = true ∧ s = ⟨.o, .list i⟩ := by
  unfold ckO at h
  split at h
  · exact ⟨by assumption, (ok_inj h).symm⟩
  · cases h
theorem powOk_ok {i j : Int} (h : powOk i j = true) : CPow i j := by
  obtain ⟨h1, h2⟩ := and2 h
  obtain ⟨h3, h4⟩ := and_t h1
  exact ⟨h3, h4, of_decide_eq_true h2⟩
theorem mulOk_ok {i j : Int} (h : mulOk i j = true) : CMul i j := by
  unfold mulOk at h
  rcases Bool.or_eq_true_iff.mp h with h | h
  · exact .inl (and_t h)
  · exact .inr (and_t h)
theorem lenOk_ok {n : Nat} (h : lenOk n = true) : n ≤ sizeLine := by
  rw [sizeLine_eq]
  exact of_decide_eq_true h
theorem binI_sem {op : Operator} {i j : Int} {s : Sl} {Q : VK} (S : Same G H) (h : binI op i j = .ok s) (q : Nxt K G H s Q) : rOp K op (.int i) (.int j) H Q := by
  cases op with
  | Add => cases h; exact .inl ⟨i, j, rfl, rfl, q.int S⟩
  | Sub => cases h; exact ⟨i, j, rfl, rfl, q.int S⟩
  | Mult =>
    obtain ⟨c, rfl⟩ := ckI_ok h
    exact .inl ⟨i, j, rfl, rfl, mulOk_ok c, q.int S⟩
  | FloorDiv =>
    obtain ⟨c, rfl⟩ := ckI_ok h
    exact ⟨i, j, rfl, rfl, and_t c, q.int S⟩
  | Mod =>
    obtain ⟨c, rfl⟩ := ckI_ok h
    exact ⟨i, j, rfl, rfl, of_decide_eq_true c, q.int S⟩
  | Pow =>
    obtain ⟨c, rfl⟩ := ckI_ok h
    exact ⟨i, j, rfl, rfl, powOk_ok c, q.int S⟩
  | LShift =>
    obtain ⟨c, rfl⟩ := ckI_ok h
    exact ⟨i, j, rfl, rfl, powOk_ok c, q.int S⟩
  | RShift =>
    obtain ⟨c, rfl⟩ := ckI_ok h
    exact ⟨i, j, rfl, rfl, of_decide_eq_true c, q.int S⟩
  | BitAnd => cases h; exact ⟨i, j, rfl, rfl, q.int S⟩
  | BitOr => cases h; exact ⟨i, j, rfl, rfl, q.int S⟩
  | BitXor => cases h; exact ⟨i, j, rfl, rfl, q.int S⟩
  | MatMult => cases h
  | Div => cases h
theorem Rdb.rpT {v : V} {ds : List D} (h : Rdb K G H v (.tuple ds)) : Rp K G v (.tuple ds) := by
  exact h.rpTup
def flV : D → V
  | .none => .non
  | .bool b => .bl b
  | .int i => .int i
  | .str x => .str x
  | _ => .non
theorem flatRdb {v : V} {d : D} (r : Rdb K G H v d) (h : flatD d = true) : v = flV d ∧ flatV v = true := by
  have p : ndD d = true := by
    cases d with
    | dict ds => cases h
    | _ => rfl
  rcases r.plain p with r | ⟨a, o, rfl, _, t, r⟩
  · cases r <;> first | exact ⟨rfl, rfl⟩ | cases h
  · cases r <;> cases h
theorem flatAll {vs : List V} {ds : List D} (r : RpA K G vs ds) (h : ds.all flatD = true) : vs = ds.map flV ∧ vs.all flatV = true := by
  induction ds generalizing vs with
  | nil => cases r; exact ⟨rfl, rfl⟩
  | cons d ds ih =>
    cases r with
    | cons r1 r2 =>
      simp only [List.all_cons, Bool.and_eq_true] at h
      obtain ⟨e, f⟩ := flatRdb (H := G) (.inl r1) h.1
      obtain ⟨e2, f2⟩ := ih r2 h.2
      exact ⟨by rw [List.map_cons, e, e2], by rw [List.all_cons, f, f2]; rfl⟩
theorem eqV_flV {x y : D} (hx : flatD x = true) (hy : flatD y = true) : eqV (flV x) (flV y) = PyData.eqv x y := by
  cases x <;> first | (exact absurd hx Bool.false_ne_true) | (cases y <;> first | rfl | exact absurd hy Bool.false_ne_true)
theorem inV_flV {x : D} {ds : List D} (hx : flatD x = true) (h : ds.all flatD = true) : inV (flV x) (ds.map flV) = ds.any fun z => PyData.eqv z x := by
  induction ds with
  | nil => rfl
  | cons d ds ih =>
    simp only [List.all_cons, Bool.and_eq_true] at h
    have := ih h.2
    unfold inV at this ⊢
    rw [List.map_cons, List.any_cons, List.any_cons, this, eqV_flV h.1 hx]
theorem inF_ok {x : D} {ds : List D} {b : Bool} (h : inF x ds = .ok b) : b = (ds.any fun z => PyData.eqv z x) ∧ ((flatD x = true ∧ ds.all flatD = true) ∨ (SeqAt.shaped x = true ∧ SeqAt.shaped (.tuple ds) = true)) := by
  unfold inF at h
  split at h
  · rename_i c
    exact ⟨(ok_inj h).symm, .inl (and2 c)⟩
  · split at h
    · rename_i c
      exact ⟨(ok_inj h).symm, .inr (and2 c)⟩
    · cases h
theorem inD_ok {x : D} {ds : List D} {b : Bool} (h : inD x ds = .ok b) : SeqAt.shaped x = true ∧ SeqAt.shaped (.list ds) = true ∧ b = ds.any fun z => PyData.eqv z x := by
  unfold inD at h
  split at h
  · rename_i c
    obtain ⟨c1, c2⟩ := and2 c
    exact ⟨c1, c2, (ok_inj h).symm⟩
  · cases h
theorem negM_ok {m : M Bool} {b : Bool} (h : negM m = .ok b) : ∃ c, m = .ok c ∧ b = !c := by
  unfold negM at h
  split at h
  · exact ⟨_, rfl, (ok_inj h).symm⟩
  · cases h
theorem inF_sem {x : D} {ds : List D} {v w : V} {b : Bool} {Q : VK} (neg : Bool) (S : Same G H) (rx : Rdb K G H v x) (ry : Rdb K G H w (.tuple ds)) (h : inF x ds = .ok b) (q : Q (.bl (if neg then !b else b)) H) : rIn K neg v w H Q ∨ rInTD K neg v w H Q := by
  obtain ⟨rfl, c⟩ := inF_ok h
  rcases c with ⟨c1, c2⟩ | ⟨c1, c2⟩
  · obtain ⟨a, vs, rfl, ra, qa⟩ := ry.tuple S
    obtain ⟨e1, f1⟩ := flatRdb rx c1
    obtain ⟨e2, f2⟩ := flatAll qa c2
    refine .inl ⟨a, vs, rfl, .inr ra, f1, f2, ?_⟩
    rw [e1, e2, inV_flV c1 c2]
    exact q
  · exact .inr ⟨x, ds, rx.dp S (SeqAt.canLay_of_shaped c1), ry.dp S (SeqAt.canLay_of_shaped c2), c1, c2, q⟩
theorem look_get {a : Addr} {vs : List (Key × V)} {ds : List (D × D)} {x : D} {v : V} (hx : keyOk x = true) (rx : Rdb K G H v x) (ra : Rd H a (.dK vs)) (qa : RpK K G vs ds) :
    (DGet H a v none ∧ lookD ds x = none) ∨ ∃ w d, DGet H a v (some w) ∧ lookD ds x = some d ∧ Rp K G w d := by
  obtain ⟨k, rfl⟩ := key_of hx
  have ev := rx.key
  subst ev
  have g : DGet H a (kV k) (valV vs k) := .inl ⟨vs, k, ra, rfl, rfl⟩
  rcases qa.look (k := k) with ⟨e1, e2⟩ | ⟨w, d, e1, e2, r⟩
  · rw [e1] at g
    exact .inl ⟨g, e2⟩
  · rw [e1] at g
    exact .inr ⟨w, d, g, e2, r⟩
theorem nst_get {ps : List (D × D)} {x : D} {v w : V} (S : Same G H) (hx : nkOk x = true) (rx : Rdb K G H v x) (ry : Rdb K G H w (.dict ((.none, .none) :: ps))) :
    ∃ a, w = .ref a ∧ ((DGetN K H a v none ∧ lookN ps x = none) ∨ ∃ z d, DGetN K H a v (some z) ∧ lookN ps x = some d ∧ Rp K G z d) := by
  obtain ⟨⟨ds, rfl⟩, k, e, hd⟩ := nkOk_ok hx
  obtain ⟨a, L, rfl, t, r⟩ := ry.nst
  have rt := rx.rpTup
  cases rt with
  | @tup b vs _ h1 h2 =>
    have nk := Rp.nk S _ _ k (Rp.tup h1 h2) e
    refine ⟨a, rfl, ?_⟩
    rcases r.look e with ⟨e1, e2⟩ | ⟨z, d, e1, e2, rz⟩
    · exact .inl ⟨⟨L, k, b, t, RpN.kn S r, rfl, nk, hd, e1.symm⟩, e2⟩
    · exact .inr ⟨z, d, ⟨L, k, b, t, RpN.kn S r, rfl, nk, hd, e1.symm⟩, e2, rz⟩
theorem inN_ok {x : D} {ds : List (D × D)} {b : Bool} (h : inN x ds = .ok b) : ∃ ps, ds = (.none, .none) :: ps ∧ b = (lookN ps x).isSome := by
  unfold inN at h
  split at h
  · cases h
    exact ⟨_, rfl, rfl⟩
  · cases h
theorem getN_ok {x d : D} {ds : List (D × D)} (h : getN x ds = .ok d) : ∃ ps, ds = (.none, .none) :: ps ∧ lookN ps x = some d := by
  unfold getN at h
  split at h
  · split at h
    · rename_i e
      cases h
      exact ⟨_, rfl, e⟩
    · cases h
  · cases h
theorem inK_sem {x : D} {ds : List (D × D)} {v w : V} {b : Bool} {Q : VK} (neg : Bool) (S : Same G H) (rx : Rdb K G H v x) (ry : Rdb K G H w (.dict ds)) (h : inK x ds = .ok b) (q : Q (.bl (if neg then !b else b)) H) : rOr (rInKD neg) (rInN K neg) v w H Q := by
  unfold inK at h
  split at h
  · rename_i hx
    obtain ⟨hx, hm⟩ := and2 hx
    cases h
    obtain ⟨a, vs, rfl, ra, qa⟩ := ry.dict S hm
    rcases look_get hx rx ra qa with ⟨g, e⟩ | ⟨z, d, g, e, r⟩
    · rw [e] at q
      exact .inl ⟨a, none, rfl, g, q⟩
    · rw [e] at q
      exact .inl ⟨a, some z, rfl, g, q⟩
  · split at h
    · rename_i hx
      obtain ⟨ps, rfl, rfl⟩ := inN_ok h
      obtain ⟨a, rfl, g⟩ := nst_get S hx rx ry
      rcases g with ⟨g, e⟩ | ⟨z, d, g, e, _⟩
      · rw [e] at q
        exact .inr ⟨a, none, rfl, g, q⟩
      · rw [e] at q
        exact .inr ⟨a, some z, rfl, g, q⟩
    · cases h
theorem binop_sem {op : Operator} {m : Md} {x y : D} {v w : V} {s : Sl} {Q : VK} (S : Same G H) (sx : SlR K G H v ⟨m, x⟩) (ry : Rdb K G H w y) (h : binop op m x y = .ok s) (q : Nxt K G H s Q) : rOp K op v w H Q := by
  have rx : Rdb K G H v x := sx.rdb
  unfold binop at h
  split at h
  · rw [rx.int, ry.int]
    exact binI_sem S h q
  · obtain ⟨a, vs, rfl, ra, qa⟩ := rx.list S
    obtain ⟨b, ws, rfl, rb, qb⟩ := ry.list S
    split at h
    · obtain ⟨c, rfl⟩ := ckO_ok h
      exact .inr (.inl ⟨a, b, vs, ws, rfl, rfl, ra, rb, by rw [qa.length, qb.length]; exact lenOk_ok c, fun p np => q.list S (qa.append qb) np⟩)
    · cases h
  · rw [ry.int]
    split at h
    · obtain ⟨c, rfl⟩ := ckO_ok h
      obtain ⟨c, cm⟩ := and2 c
      have tx : ∀ d, ndD d = true → SlR K G H v ⟨m, d⟩ → Top K G H v d := fun d pl sx => by
        cases m with
        | f => cases cm
        | o => exact sx
        | p => exact TopX.plain sx pl
      obtain ⟨a, o, rfl, _, ra, qa⟩ := tx _ rfl sx
      cases qa
      rename_i vs qa
      obtain ⟨c1, c2⟩ := and2 c
      obtain ⟨c3, c4⟩ := and_t c1
      exact .inr ⟨a, _, vs, rfl, rfl, ra, c3, c4, by rw [qa.length, sizeLine_eq]; exact of_decide_eq_true c2, fun p np => q.list S (qa.rep _) np⟩
    · cases h
  · obtain ⟨a, vs, rfl, ra, qa⟩ := rx.tuple S
    obtain ⟨b, ws, rfl, rb, qb⟩ := ry.tuple S
    split at h
    · split at h
      · rename_i c
        cases h
        refine .inr (.inr (.inl ⟨a, b, vs, ws, rfl, rfl, ra, rb, by rw [qa.length, qb.length]; exact lenOk_ok c, fun e => ?_, fun _ e => ?_, fun _ _ p np => q.tup S (qa.append qb) np⟩))
        · subst e
          cases qa
          exact q G H _ (.refl S) (.f ry.rpT)
        · subst e
          cases qb
          have q' := q
          rw [List.append_nil] at q'
          exact q' G H _ (.refl S) (.f rx.rpT)
      · cases h
    · cases h
  · split at h
    · split at h
      · rename_i c
        cases h
        rw [rx.str, ry.str]
        exact .inr (.inr (.inr ⟨_, _, rfl, rfl, lenOk_ok c, q G H _ (.refl S) (.f (.str _))⟩))
      · cases h
    · cases h
  · cases h
theorem inS_ok {x y : Str} {b : Bool} (h : inS x y = .ok b) : ∃ c, x = ⟨#[c]⟩ ∧ b = decide (c ∈ y.cps.toList) := by
  unfold inS at h
  split at h
  · rename_i c hc
    refine ⟨c, ?_, (ok_inj h).symm⟩
    obtain ⟨cps⟩ := x
    have : cps = #[c] := by
      apply Array.ext'
      exact hc
    rw [this]
  · cases h
theorem deq_ok {x y : D} {b : Bool} (h : deq x y = .ok b) : b = PyData.eqv x y ∧ ((SeqAt.shaped x = true ∧ SeqAt.shaped y = true) ∨ (deepD x = true ∧ deepD y = true)) := by
  unfold deq at h
  split at h
  · rename_i c
    exact ⟨(ok_inj h).symm, .inl (and2 c)⟩
  · split at h
    · rename_i c
      exact ⟨(ok_inj h).symm, .inr (and2 c)⟩
    · cases h
theorem cmpop_sem {op : CmpOp} {x y : D} {v w : V} {b : Bool} {Q : VK} (S : Same G H) (rx : Rdb K G H v x) (ry : Rdb K G H w y) (h : cmpop op x y = .ok b) (q : Q (.bl b) H) : rCmp K op v w H Q := by
  unfold cmpop at h
  split at h
  · obtain ⟨rfl, c⟩ := deq_ok h
    rcases c with ⟨c1, c2⟩ | ⟨c1, c2⟩
    · exact .inl ⟨x, y, rx.dp S (SeqAt.canLay_of_shaped c1), ry.dp S (SeqAt.canLay_of_shaped c2), c1, c2, q⟩
    · exact .inr ⟨x, y, rx.dp S (deep_lay c1).1, ry.dp S (deep_lay c2).1, c1, c2, q⟩
  · split at h
    · rename_i b' hb
      obtain ⟨rfl, c⟩ := deq_ok hb
      cases h
      rcases c with ⟨c1, c2⟩ | ⟨c1, c2⟩
      · exact .inl ⟨x, y, rx.dp S (SeqAt.canLay_of_shaped c1), ry.dp S (SeqAt.canLay_of_shaped c2), c1, c2, q⟩
      · exact .inr ⟨x, y, rx.dp S (deep_lay c1).1, ry.dp S (deep_lay c2).1, c1, c2, q⟩
    · cases h
  · cases h
    rw [rx.int, ry.int]
    exact ⟨_, _, rfl, rfl, q⟩
  · cases h
    rw [rx.int, ry.int]
    exact ⟨_, _, rfl, rfl, q⟩
  · cases h
    rw [rx.int, ry.int]
    exact ⟨_, _, rfl, rfl, q⟩
  · cases h
    rw [rx.int, ry.int]
    exact ⟨_, _, rfl, rfl, q⟩
  · cases h
    rw [rx.bool, ry.bool]
    exact ⟨_, _, rfl, rfl, q⟩
  · cases h
    rw [rx.bool, ry.bool]
    exact ⟨_, _, rfl, rfl, q⟩
  · obtain ⟨c1, c2, rfl⟩ := inD_ok h
    exact .inl ⟨x, _, rx.dp S (SeqAt.canLay_of_shaped c1), ry.dp S (SeqAt.canLay_of_shaped c2), c1, c2, q⟩
  · obtain ⟨c, hn, rfl⟩ := negM_ok h
    obtain ⟨c1, c2, rfl⟩ := inD_ok hn
    exact .inl ⟨x, _, rx.dp S (SeqAt.canLay_of_shaped c1), ry.dp S (SeqAt.canLay_of_shaped c2), c1, c2, q⟩
  · rcases inF_sem false S rx ry h q with z | z
    · exact .inr (.inl z)
    · exact .inr (.inr (.inr (.inr (.inl z))))
  · rcases inK_sem false S rx ry h q with z | z
    · exact .inr (.inr (.inl z))
    · exact .inr (.inr (.inr (.inl z)))
  · obtain ⟨c, hn, rfl⟩ := negM_ok h
    rcases inK_sem true S rx ry hn q with z | z
    · exact .inr (.inr (.inl z))
    · exact .inr (.inr (.inr (.inl z)))
  · obtain ⟨c, hn, rfl⟩ := negM_ok h
    rcases inF_sem true S rx ry hn q with z | z
    · exact .inr (.inl z)
    · exact .inr (.inr (.inr (.inr (.inl z))))
  · obtain ⟨c, e, rfl⟩ := inS_ok h
    have e1 := rx.str
    rw [e] at e1
    exact .inr (.inr (.inr (.inr (.inr ⟨c, _, e1, ry.str, q⟩))))
  · obtain ⟨b', hn, rfl⟩ := negM_ok h
    obtain ⟨c, e, rfl⟩ := inS_ok hn
    have e1 := rx.str
    rw [e] at e1
    exact .inr (.inr (.inr (.inr (.inr ⟨c, _, e1, ry.str, q⟩))))
  · cases h
theorem atI_rp {vs : List V} {ds : List D} {i : Int} {d : D} (r : RpA K G vs ds) (h : atI ds i = some d) : ∃ v, atI vs i = some v ∧ Rp K G v d := by
  unfold atI at h ⊢
  rw [r.length]
  cases e : ixN ds.length i with
  | none => rw [e] at h; cases h
  | some j =>
    rw [e] at h
    obtain ⟨v, e1, q⟩ := r.get (i := j) h
    exact ⟨v, e1, q⟩
theorem ixD_sem {x y : D} {v w : V} {s : Sl} {Q : VK} (hnd : ¬ ∃ ds, x = .dict ds) (hns : ¬ ∃ z, x = .str z) (S : Same G H) (rx : Rdb K G H v x) (ry : Rdb K G H w y) (h : ixD x y = .ok s) (q : Nxt K G H s Q) : rIx2 K v w H Q := by
  unfold ixD at h
  split at h
  · obtain ⟨a, vs, rfl, ra, qa⟩ := rx.list S
    rw [ry.int]
    split at h
    · rename_i d hd
      cases h
      obtain ⟨z, e, r⟩ := atI_rp qa hd
      exact .inl ⟨a, vs, _, z, rfl, rfl, ra, e, q G H z (.refl S) (.f r)⟩
    · cases h
  · obtain ⟨a, vs, rfl, ra, qa⟩ := rx.tuple S
    rw [ry.int]
    split at h
    · rename_i d hd
      cases h
      obtain ⟨z, e, r⟩ := atI_rp qa hd
      exact .inr ⟨a, vs, _, z, rfl, rfl, ra, e, q G H z (.refl S) (.f r)⟩
    · cases h
  · exact absurd ⟨_, rfl⟩ hns
  · exact absurd ⟨_, rfl⟩ hnd
  · cases h
theorem ixD_str {z : Str} {y : D} {v w : V} {s : Sl} {Q : VK} (S : Same G H) (rx : Rdb K G H v (.str z)) (ry : Rdb K G H w y) (h : ixD (.str z) y = .ok s) (q : Nxt K G H s Q) : rIxS v w H Q := by
  cases y with
  | int i =>
    simp only [ixD] at h
    split at h
    · rename_i hc
      obtain ⟨c1, c2⟩ := and_t hc
      split at h
      · rename_i c hc
        cases h
        rw [rx.str, ry.int]
        refine ⟨z, i, c, rfl, rfl, c1, by omega, ?_, hc, q G H _ (.refl S) (.f (.str _))⟩
        have hl := (Array.getElem?_eq_some_iff.mp hc).1
        show i < ((z.cps.size : Nat) : Int)
        omega
      · cases h
    · cases h
  | _ => cases h
theorem ixD_dict {ds : List (D × D)} {y : D} {v w : V} {s : Sl} {Q : VK} (S : Same G H) (rx : Rdb K G H v (.dict ds)) (ry : Rdb K G H w y) (h : ixD (.dict ds) y = .ok s) (q : Nxt K G H s Q) : (∃ a z, v = .ref a ∧ DGet H a w (some z) ∧ Q z H) ∨ ∃ a z, v = .ref a ∧ DGetN K H a w (some z) ∧ Q z H := by
  simp only [ixD] at h
  split at h
  · rename_i hy
    split at h
    · rename_i d hd
      cases h
      cases hm : nmk ds with
      | false =>
        exfalso
        cases ds with
        | nil => cases hm
        | cons p ps =>
          obtain ⟨k, e⟩ := p
          rcases rx with rx | rx
          · cases rx with
            | dct h1 h2 => rw [h2.plain] at hm; cases hm
            | xc => cases y <;> first | (simp [keyOk] at hy; done) | (simp [lookD, keq] at hd)
          · rcases rx.cases with ⟨a, o, _, _, _, r⟩ | ⟨a, L, ps', _, e2, _, _, r⟩ | ⟨a, od, vs, ds', _, e2, _, _, r⟩ | ⟨_, e2, _, r⟩
            · have := r.plain
              rw [show nmkD (.dict ((k, e) :: ps)) = nmk ((k, e) :: ps) from rfl, hm] at this
              cases this
            · cases e2
              rw [r.no_key hy] at hd
              cases hd
            · cases e2
              rw [r.plain] at hm
              cases hm
            · cases e2
              rw [obj_no r] at hd
              cases hd
      | true =>
        obtain ⟨a, vs, rfl, ra, qa⟩ := rx.dict S hm
        rcases look_get hy ry ra qa with ⟨g, e⟩ | ⟨z, d', g, e, r⟩
        · rw [hd] at e
          cases e
        · rw [hd] at e
          cases e
          exact .inl ⟨a, z, rfl, g, q G H z (.refl S) (.f r)⟩
    · cases h
  · split at h
    · rename_i hy
      obtain ⟨d, e1, h⟩ := bind_ok h
      cases pure_ok h
      obtain ⟨ps, rfl, hl⟩ := getN_ok e1
      obtain ⟨a, rfl, g⟩ := nst_get S hy ry rx
      rcases g with ⟨_, e⟩ | ⟨z, d', g, e, r⟩
      · rw [hl] at e
        cases e
      · rw [hl] at e
        cases e
        exact .inr ⟨a, z, rfl, g, q G H z (.refl S) (.f r)⟩
    · cases h
theorem ixD_dictK {ds : List (D × D)} {y : D} {v w : V} {s : Sl} {Q : VK} (hy : keyOk y = true) (S : Same G H) (rx : Rdb K G H v (.dict ds)) (ry : Rdb K G H w y) (h : ixD (.dict ds) y = .ok s) (q : Nxt K G H s Q) : ∃ a z, v = .ref a ∧ DGet H a w (some z) ∧ Q z H := by
  rcases ixD_dict S rx ry h q with z | ⟨a, z, _, ⟨L, k, b, _, _, e, nk, _⟩, _⟩
  · exact z
  · exfalso
    subst e
    rcases ry.plain (by cases y <;> first | rfl | cases hy) with r | ⟨_, _, _, _, _, r⟩
    · cases r <;> cases hy
    · cases r <;> cases hy
theorem ixD_dictN {ds : List (D × D)} {y : D} {v w : V} {s : Sl} {Q : VK} (hy : keyOk y = false) (S : Same G H) (rx : Rdb K G H v (.dict ds)) (ry : Rdb K G H w y) (h : ixD (.dict ds) y = .ok s) (q : Nxt K G H s Q) : ∃ a z, v = .ref a ∧ DGetN K H a w (some z) ∧ Q z H := by
  simp only [ixD, hy] at h
  rw [if_neg (by decide)] at h
  split at h
  · rename_i hy
    obtain ⟨d, e1, h⟩ := bind_ok h
    cases pure_ok h
    obtain ⟨ps, rfl, hl⟩ := getN_ok e1
    obtain ⟨a, rfl, g⟩ := nst_get S hy ry rx
    rcases g with ⟨_, e⟩ | ⟨z, d', g, e, r⟩
    · rw [hl] at e
      cases e
    · rw [hl] at e
      cases e
      exact ⟨a, z, rfl, g, q G H z (.refl S) (.f r)⟩
  · cases h
theorem cut_rp {vs : List V} {ds : List D} {lo hi : Option Int} (r : RpA K G vs ds) : RpA K G (cutV vs lo hi) (cutD ds lo hi) := by
  unfold cutV cutD
  rw [r.length]
  exact (r.drop _).take _
theorem cut_whole {ds : List D} {lo hi : Option Int} (h : HT.sIx ds.length 0 lo = 0 ∧ HT.sIx ds.length ds.length hi = ds.length) : cutD ds lo hi = ds := by
  unfold cutD
  rw [h.1, h.2, List.drop_zero, Nat.sub_zero, List.take_length]
theorem slD_sem {x : D} {v : V} {lo hi : Option Int} {s : Sl} {Q : VK} (S : Same G H) (rx : Rdb K G H v x) (h : slD x lo hi = .ok s) (q : Nxt K G H s Q) : rSl2 K v lo hi H Q := by
  unfold slD at h
  split at h
  · obtain ⟨a, vs, rfl, ra, qa⟩ := rx.list S
    cases h
    exact .inl ⟨a, vs, rfl, ra, fun p np => q.list S (cut_rp qa) np⟩
  · obtain ⟨a, vs, rfl, ra, qa⟩ := rx.tuple S
    cases h
    refine .inr (.inl ⟨a, vs, rfl, ra, fun hw => ?_, fun _ p np => q.tup S (cut_rp qa) np⟩)
    rw [qa.length] at hw
    have e : cutD _ lo hi = _ := cut_whole hw
    have q' := q
    rw [e] at q'
    exact q' G H _ (.refl S) (.f rx.rpT)
  · split at h
    · rename_i c
      cases h
      rw [rx.str]
      exact .inr (.inr ⟨_, rfl, lenOk_ok c, q G H _ (.refl S) (.f (.str _))⟩)
    · cases h
  · cases h
theorem insI_perm (i : Int) : ∀ l : List Int, (insI i l).Perm (i :: l)
  | [] => .refl _
  | j :: r => by
    unfold insI
    split
    · exact .refl _
    · exact (List.Perm.cons j (insI_perm i r)).trans (.swap i j r)
theorem insI_sorted (i : Int) : ∀ l : List Int, l.Pairwise (· ≤ ·) → (insI i l).Pairwise (· ≤ ·)
  | [], _ => by simp [insI]
  | j :: r, h => by
    unfold insI
    obtain ⟨h1, h2⟩ := List.pairwise_cons.mp h
    split
    · rename_i c
      refine List.pairwise_cons.mpr ⟨fun k hk => ?_, h⟩
      rcases List.mem_cons.mp hk with e | hk
      · rw [e]; exact c
      · exact Int.le_trans c (h1 k hk)
    · rename_i c
      refine List.pairwise_cons.mpr ⟨fun k hk => ?_, insI_sorted i r h2⟩
      rcases List.mem_cons.mp ((insI_perm i r).mem_iff.mp hk) with e | hk
      · rw [e]; omega
      · exact h1 k hk
theorem sortI_perm : ∀ l : List Int, (sortI l).Perm l
  | [] => .refl _
  | i :: r => (insI_perm i (sortI r)).trans (.cons i (sortI_perm r))
theorem sortI_sorted : ∀ l : List Int, (sortI l).Pairwise (· ≤ ·)
  | [] => .nil
  | i :: r => insI_sorted i _ (sortI_sorted r)
theorem sorted_uniq : ∀ {l m : List Int}, l.Perm m → l.Pairwise (· ≤ ·) → m.Pairwise (· ≤ ·) → l = m
  | [], m, p, _, _ => (List.Perm.nil_eq p)
  | a :: l, [], p, _, _ => absurd p.length_eq (by simp)
  | a :: l, b :: m, p, h1, h2 => by
    obtain ⟨a1, a2⟩ := List.pairwise_cons.mp h1
    obtain ⟨b1, b2⟩ := List.pairwise_cons.mp h2
    have e : a = b := by
      have m1 : a ∈ b :: m := p.mem_iff.mp List.mem_cons_self
      have m2 : b ∈ a :: l := p.mem_iff.mpr List.mem_cons_self
      rcases List.mem_cons.mp m1 with e | m1
      · exact e
      · rcases List.mem_cons.mp m2 with e | m2
        · exact e.symm
        · have := a1 b m2
          have := b1 a m1
          omega
    subst e
    rw [sorted_uniq (List.Perm.cons_inv p) a2 b2]
theorem sortI_uniq {l m : List Int} (p : l.Perm m) (h : l.Pairwise (· ≤ ·)) : l = sortI m := sorted_uniq (p.trans (sortI_perm m).symm) h (sortI_sorted m)
theorem RpA.intsM : ∀ ns : List Int, RpA K G (ns.map V.int) (ns.map PyData.int)
  | [] => .nil
  | _ :: ns => .cons (.int _) (RpA.intsM ns)
theorem RpA.reverse {vs : List V} {ds : List D} (h : RpA K G vs ds) : RpA K G vs.reverse ds.reverse := by
  induction ds generalizing vs with
  | nil => cases h; exact .nil
  | cons d ds ih =>
    cases h with
    | cons h1 h2 =>
      rw [List.reverse_cons, List.reverse_cons]
      exact (ih h2).append (.cons h1 .nil)
theorem RpK.intKeys : ∀ {ds : List (D × D)} {vs : List (Key × V)} {ns : List Int}, RpK K G vs ds → intsD (ds.map (·.1)) = some ns → vs.map (·.1) = ns.map Sum.inl
  | [], _, ns, h, e => by
    cases h
    simp only [List.map_nil, intsD, Option.some.injEq] at e
    subst e
    rfl
  | (k, d) :: ds, _, ns, h, e => by
    cases h with
    | @cons k v vs _ _ h1 h2 =>
      cases k with
      | inl i =>
        simp only [List.map_cons, keyD, intsD, Option.map_eq_some_iff] at e
        obtain ⟨ms, e1, e2⟩ := e
        subst e2
        rw [List.map_cons, List.map_cons, RpK.intKeys h2 e1]
      | inr x => simp [keyD, intsD] at e
theorem RpK.keyVs : ∀ {vs : List (Key × V)} {ds : List (D × D)}, RpK K G vs ds → RpA K G (vs.map fun kv => kV kv.1) (ds.map (·.1))
  | _, _, .nil => .nil
  | _, _, .cons (k := k) r t => by
    refine .cons ?_ (RpK.keyVs t)
    cases k with
    | inl i => exact .int i
    | inr x => exact .str x
theorem rpSigns {K : PySem.W.Frag} {G : Hp} : ∀ l : List Nat, RpA K G (l.map fun c => V.str ⟨#[c]⟩) (l.map fun c => PyData.str ⟨#[c]⟩)
  | [] => .nil
  | c :: l => .cons (.str _) (rpSigns l)
theorem b1D_sem {b : B1} {x : D} {v : V} {s : Sl} {Q : VK} (S : Same G H) (rx : Rdb K G H v x) (h : b1D b x = .ok s) (q : Nxt K G H s Q) : rB1 K b [v] H Q := by
  unfold b1D at h
  split at h
  · obtain ⟨a, vs, rfl, ra, qa⟩ := rx.list S
    cases h
    exact .inl ⟨a, vs, rfl, .inl ra, by rw [qa.length]; exact q.int S⟩
  · obtain ⟨a, vs, rfl, ra, qa⟩ := rx.tuple S
    cases h
    exact .inl ⟨a, vs, rfl, .inr ra, by rw [qa.length]; exact q.int S⟩
  · split at h
    · rename_i hm
      cases h
      obtain ⟨a, vs, rfl, ra, qa⟩ := rx.dict S hm
      exact .inr (.inl ⟨a, vs, rfl, ra, by rw [qa.length]; exact q.int S⟩)
    · cases h
  · split at h
    · rename_i c
      cases h
      rw [rx.str]
      exact .inr (.inr ⟨_, rfl, lenOk_ok c, q.int S⟩)
    · cases h
  · obtain ⟨a, vs, rfl, ra, qa⟩ := rx.list S
    cases h
    exact .inl ⟨a, vs, rfl, .inl ra, fun p np => q.list S qa np⟩
  · split at h
    · rename_i hm
      cases h
      obtain ⟨a, vs, rfl, ra, qa⟩ := rx.dict S hm
      exact .inr (.inl ⟨a, vs, rfl, ra, fun p np => q.list S qa.keyVs np⟩)
    · cases h
  · obtain ⟨a, vs, rfl, ra, qa⟩ := rx.tuple S
    cases h
    exact .inl ⟨a, vs, rfl, .inr ra, fun p np => q.list S qa np⟩
  · split at h
    · rename_i c
      cases h
      rw [rx.str]
      exact .inr (.inr ⟨_, rfl, lenOk_ok c, fun p np => q.list S (rpSigns _) np⟩)
    · cases h
  · obtain ⟨a, vs, rfl, ra, qa⟩ := rx.list S
    cases h
    exact .inl ⟨a, vs, rfl, .inl ⟨ra, fun p np => q.tup S qa np⟩⟩
  · cases h
    have rx := rx.rpTup
    cases rx with
    | tup ra qa => exact .inl ⟨_, _, rfl, .inr ⟨SqT.mono S ra, q G H _ (.refl S) (.f (.tup ra qa))⟩⟩
  · cases h
    obtain ⟨a, L, rfl, t, r⟩ := rx.nst
    exact .inr ⟨a, L, rfl, t, fun p np => q.tup S r.keys np⟩
  · cases h
    rw [rx.int]
    exact .inl (.inl ⟨_, rfl, q.int S⟩)
  · cases h
    rw [rx.bool]
    exact .inl (.inr ⟨_, rfl, q.int S⟩)
  · split at h
    · rename_i n hn
      split at h
      · rename_i c
        cases h
        rw [rx.str]
        exact .inr ⟨_, n, rfl, hn, of_decide_eq_true c, q.int S⟩
      · cases h
    · cases h
  · split at h
    · rename_i c
      cases h
      rw [rx.int]
      exact ⟨_, rfl, of_decide_eq_true c, q G H _ (.refl S) (.f (.str _))⟩
    · cases h
  · split at h
    · rename_i ns hn
      cases h
      obtain ⟨a, vs, rfl, ra, qa⟩ := rx.list S
      have e := qa.ints hn
      subst e
      exact ⟨a, ns, rfl, ra, q.int S⟩
    · cases h
  · split at h
    · rename_i ns hn
      cases h
      obtain ⟨a, vs, rfl, ra, qa⟩ := rx.list S
      have e := qa.bools hn
      subst e
      exact ⟨a, ns, rfl, ra, q.bool S⟩
    · cases h
  · split at h
    · rename_i ns hn
      cases h
      obtain ⟨a, vs, rfl, ra, qa⟩ := rx.list S
      have e := qa.bools hn
      subst e
      exact ⟨a, ns, rfl, ra, q.bool S⟩
    · cases h
  · split at h
    · rename_i ns hn
      cases h
      obtain ⟨a, vs, rfl, ra, qa⟩ := rx.list S
      have e := qa.ints hn
      subst e
      refine .inl ⟨a, ns, rfl, ra, fun ns' p pm so np => ?_⟩
      have e2 : ns' = sortI ns := sortI_uniq pm so
      subst e2
      exact q.list S (RpA.intsM _) np
    · cases h
  · split at h
    · rename_i ns hn
      cases h
      rename_i ds0 _
      have hm : nmk ds0 = true := by
        cases hm : nmk ds0 with
        | true => rfl
        | false =>
          exfalso
          cases ds0 with
          | nil => cases hm
          | cons p ps =>
            obtain ⟨k, e⟩ := p
            cases k <;> first | (simp [nmk] at hm; done) | (simp [intsD] at hn)
      obtain ⟨a, vs, rfl, ra, qa⟩ := rx.dict S hm
      refine .inr ⟨a, vs, ns, rfl, ra, RpK.intKeys qa hn, fun ns' p pm so np => ?_⟩
      have e2 : ns' = sortI ns := sortI_uniq pm so
      subst e2
      exact q.list S (RpA.intsM _) np
    · cases h
  · cases h
theorem dedI_mem {k : Int} : ∀ {l : List Int}, k ∈ dedI l ↔ k ∈ l
  | [] => Iff.rfl
  | i :: r => by
    unfold dedI
    split
    · rename_i h
      rw [dedI_mem, List.mem_cons]
      exact ⟨.inr, fun z => z.elim (fun e => e ▸ h) id⟩
    · rw [List.mem_cons, List.mem_cons, dedI_mem]
theorem dedI_nodup : ∀ l : List Int, (dedI l).Nodup
  | [] => List.nodup_nil
  | i :: r => by
    unfold dedI
    split
    · exact dedI_nodup r
    · rename_i h
      exact List.nodup_cons.mpr ⟨fun z => h (dedI_mem.mp z), dedI_nodup r⟩
theorem nodupI_perm : ∀ {l m : List Int}, l.Nodup → m.Nodup → (∀ x, x ∈ l ↔ x ∈ m) → l.Perm m
  | [], m, _, _, h => by
    cases m with
    | nil => exact .refl _
    | cons x m => exact absurd ((h x).mpr List.mem_cons_self) List.not_mem_nil
  | x :: l, m, h1, h2, h => by
    obtain ⟨s, t, rfl⟩ := List.append_of_mem ((h x).mp List.mem_cons_self)
    obtain ⟨n1, n2⟩ := List.nodup_cons.mp h1
    have p := List.perm_middle (a := x) (l₁ := s) (l₂ := t)
    have h3 := p.nodup_iff.mp h2
    obtain ⟨n3, n4⟩ := List.nodup_cons.mp h3
    refine .trans (.cons x (nodupI_perm n2 n4 fun y => ?_)) p.symm
    have hy := h y
    rw [p.mem_iff, List.mem_cons, List.mem_cons] at hy
    constructor
    · intro z
      exact (hy.mp (.inr z)).resolve_left fun e => n1 (e ▸ z)
    · intro z
      exact (hy.mpr (.inr z)).resolve_left fun e => n3 (e ▸ z)
theorem sst_sem {x : D} {v : V} {s : Sl} {Q : VK} (S : Same G H) (rx : Rdb K G H v x) (h : sstD x = .ok s) (q : Nxt K G H s Q) : ∃ (l : Addr) (ns : List Int), v = V.ref l ∧ (SqL K H l (ns.map V.int) ∨ SqT K H l (ns.map V.int)) ∧ ns.length < 4000 ∧
    ∀ (ys : List Int) (p1 p2 : Addr) (o : HO), ys.Pairwise (· ≤ ·) → ys.Nodup → (∀ k : Int, k ∈ ys ↔ k ∈ ns) → H p1 = none → upd H p1 o p2 = none → Q (.ref p2) (upd (upd H p1 o) p2 (.lst (ys.map V.int))) := by
  have fin : ∀ {ns : List Int}, Nxt K G H ⟨.o, .list ((sortI (dedI ns)).map .int)⟩ Q → ∀ (ys : List Int) (p1 p2 : Addr) (o : HO), ys.Pairwise (· ≤ ·) → ys.Nodup → (∀ k : Int, k ∈ ys ↔ k ∈ ns) → H p1 = none → upd H p1 o p2 = none → Q (.ref p2) (upd (upd H p1 o) p2 (.lst (ys.map V.int))) := fun {ns} q ys p1 p2 o h1 h2 h3 n1 n2 => by
    have e : ys = sortI (dedI ns) := sortI_uniq (nodupI_perm h2 (dedI_nodup ns) fun x => (h3 x).trans dedI_mem.symm) h1
    subst e
    have S1 : Step G H G (upd H p1 o) := .new S n1
    exact (q.back S1).list S1.gh (RpA.intsM _) n2
  unfold sstD at h
  split at h
  · rename_i xs hx
    split at h
    · rename_i ns hn
      split at h
      · rename_i hl
        cases h
        unfold itemsD at hx
        split at hx
        · cases hx
          obtain ⟨a, vs, rfl, ra, qa⟩ := rx.list S
          have e := qa.ints hn
          subst e
          exact ⟨a, ns, rfl, .inl ra, hl, fin q⟩
        · cases hx
          obtain ⟨a, vs, rfl, ra, qa⟩ := rx.tuple S
          have e := qa.ints hn
          subst e
          exact ⟨a, ns, rfl, .inr ra, hl, fin q⟩
        · cases hx
      · cases h
    · cases h
  · cases h
theorem lns_sem {x : D} {v : V} {s : Sl} {Q : VK} (S : Same G H) (rx : Rdb K G H v x) (h : lnsD x = .ok s) (q : Nxt K G H s Q) : ∃ (l : Addr) (ns : List Int), v = V.ref l ∧ (SqL K H l (ns.map V.int) ∨ SqT K H l (ns.map V.int)) ∧ ns.length < 4000 ∧
    ∀ ks : List Int, ks.Nodup → (∀ k, k ∈ ks ↔ k ∈ ns) → Q (.int (ks.length : Nat)) H := by
  have fin : ∀ {ns : List Int}, Nxt K G H (fI ((dedI ns).length : Nat)) Q → ∀ ks : List Int, ks.Nodup → (∀ k, k ∈ ks ↔ k ∈ ns) → Q (.int (ks.length : Nat)) H := fun {ns} q ks h1 h2 => by
    have e : ks.length = (dedI ns).length := (nodupI_perm h1 (dedI_nodup ns) fun x => (h2 x).trans dedI_mem.symm).length_eq
    rw [e]
    exact q.int S
  unfold lnsD at h
  split at h
  · rename_i xs hx
    split at h
    · rename_i ns hn
      split at h
      · rename_i hl
        cases h
        unfold itemsD at hx
        split at hx
        · cases hx
          obtain ⟨a, vs, rfl, ra, qa⟩ := rx.list S
          have e := qa.ints hn
          subst e
          exact ⟨a, ns, rfl, .inl ra, hl, fin q⟩
        · cases hx
          obtain ⟨a, vs, rfl, ra, qa⟩ := rx.tuple S
          have e := qa.ints hn
          subst e
          exact ⟨a, ns, rfl, .inr ra, hl, fin q⟩
        · cases hx
      · cases h
    · cases h
  · cases h
theorem gdx_sem {kvs : List (Str × D)} {x : D} {v : V} {s : Sl} {Q : VK} (S : Same G H) (rx : Rdb K G H v x) (h : gdxD kvs x = .ok s) (q : Nxt K G H s Q) : ∃ z d, v = V.str z ∧ kvs.lookup z = some d ∧ ∀ w, (∀ G, Rp K G w d) → Q w H := by
  unfold gdxD at h
  split at h
  · split at h
    · rename_i z d hd
      cases h
      refine ⟨_, d, rx.str, hd, fun w hw => q G H w (.refl S) (.f (hw G))⟩
    · cases h
  · cases h
theorem mmD_sem {mx : Bool} {x y : D} {v w : V} {s : Sl} {Q : VK} (S : Same G H) (rx : Rdb K G H v x) (ry : Rdb K G H w y) (h : mmD mx x y = .ok s) (q : Nxt K G H s Q) : rMM mx [v, w] H Q := by
  unfold mmD at h
  split at h
  · cases h
    rw [rx.int, ry.int]
    exact ⟨_, _, rfl, q.int S⟩
  · cases h
theorem rvD_sem {x : D} {v : V} {s : Sl} {Q : VK} (S : Same G H) (rx : Rdb K G H v x) (h : rvD x = .ok s) (q : Nxt K G H s Q) : ∃ a xs, v = .ref a ∧ SqL K H a xs ∧ ∀ p, H p = none → Q (.ref p) (upd H p (.lst xs.reverse)) := by
  unfold rvD at h
  split at h
  · cases h
    obtain ⟨a, vs, rfl, ra, qa⟩ := rx.list S
    exact ⟨a, vs, rfl, ra, fun p np => q.list S qa.reverse np⟩
  · cases h
theorem tyX_of {v : V} {d : D} (S : Same G H) (pl : nmkD d = true) (r : Rdb K G H v d) : TyX K H v (.type (tyD d)) := by
  have dk : ∀ (a : Addr) (vs : List (Key × V)), Rd H a (.dK vs) → TyX K H (.ref a) (.type "dict") := fun a vs h => by
    rcases h with h | ⟨o, h⟩
    · exact .base (.dK h)
    · exact .fDict h
  rcases r with r | r
  · cases r with
    | non => exact .base .non
    | bl b => exact .base (.bl b)
    | int i => exact .base (.int i)
    | str x => exact .base (.str x)
    | lst h _ =>
      rcases S.seq h with h | ⟨o, its, n, h1, h2, _⟩
      · rcases h with h | ⟨o, h⟩
        · exact .base (.lst h)
        · exact .base (.frz h)
      · exact .kList h1 h2
    | tup h _ =>
      rcases SqT.mono S h with h | ⟨o, its, n, h1, h2, _⟩
      · rcases h with h | ⟨o, h⟩
        · exact .base (.tup h)
        · exact .fTuple h
      · exact .kTuple h1 h2
    | dct h _ => exact dk _ _ (Rd.mono S h)
    | xc => cases pl
  · rcases r.cases with ⟨a, o, rfl, _, t, r⟩ | ⟨a, L, ps, _, rfl, _⟩ | ⟨a, od, vs, ds, rfl, rfl, _, t, r⟩ | ⟨ps, rfl, _⟩
    · cases r with
      | lst _ => exact .base (.lst t)
      | dct _ => exact .base (.dK t)
    · cases pl
    · exact .fDict t
    · cases pl
def isiS (y : String) (t : Ty) : Bool := y == tyN t || (tyN t == "int" && y == "bool")
theorem isi_kit0 (t : Ty) : ∀ y ∈ ["NoneType", "bool", "int", "str", "list", "tuple", "dict"], kitB y (tyN t) = some (isiS y t) := by
  cases t <;> decide +kernel
theorem isi_kit (t : Ty) (d : D) : kitB (tyD d) (tyN t) = some (isiD d t) := by
  have e : isiS (tyD d) t = isiD d t := by cases t <;> cases d <;> rfl
  rw [← e]
  exact isi_kit0 t _ (by cases d <;> simp [tyD])
theorem isi_sem {x : D} {v : V} {t : Ty} {Q : VK} (S : Same G H) (pl : nmkD x = true) (rx : Rdb K G H v x) (q : Q (.bl (isiD x t)) H) : rIsi K [v, .ty (tyN t)] H Q :=
  ⟨v, .ty (tyN t), .type (tyD x), .type (tyN t), isiD x t, rfl, .ty _, tyX_of S pl rx, kit_ty (isi_kit t x), q⟩
/-! families -/
theorem pairsD_at : ∀ {vs : List V} {ds : List D} {ps : List (Int × Int)}, RpA K G vs ds → pairsD ds = some ps → vs.length = ps.length ∧ ∀ (i : Nat) (x : V), vs[i]? = some x → ∃ t, x = .ref t ∧ SqT K G t [.int (ps.getD i (0, 0)).1, .int (ps.getD i (0, 0)).2] ∧ ds[i]? = some (.tuple [.int (ps.getD i (0, 0)).1, .int (ps.getD i (0, 0)).2])
  | _, _, ps, .nil, h => by
    cases h
    exact ⟨rfl, fun i x e => by simp at e⟩
  | _, _, ps, .cons (v := v) (vs := vs) (d := d) (ds := ds) r t, h => by
    unfold pairsD at h
    split at h
    · rename_i e
      cases e
    · rename_i a b r' e
      cases e
      obtain ⟨ps', e1, e2⟩ := Option.map_eq_some_iff.mp h
      subst e2
      obtain ⟨h1, h2⟩ := pairsD_at t e1
      refine ⟨by rw [List.length_cons, List.length_cons, h1], fun i x hx => ?_⟩
      cases i with
      | zero =>
        cases hx
        cases r with
        | tup hs ha =>
          cases ha with
          | cons q1 ha =>
            cases ha with
            | cons q2 ha =>
              cases ha
              cases q1
              cases q2
              exact ⟨_, rfl, hs, rfl⟩
      | succ i => exact h2 i x hx
    · cases h
theorem strsD_rp : ∀ {vs : List V} {ds : List D} {ys : List Str}, RpA K G vs ds → strsD ds = some ys → vs = ys.map V.str
  | _, _, ys, .nil, h => by
    cases h
    rfl
  | _, _, ys, .cons (d := d) r t, h => by
    cases d with
    | str x =>
      simp only [strsD, Option.map_eq_some_iff] at h
      obtain ⟨zs, e1, e2⟩ := h
      subst e2
      cases r
      rw [strsD_rp t e1]
      rfl
    | _ => simp [strsD] at h
theorem RpA.strs (ys : List Str) : RpA K G (ys.map V.str) (ys.map PyData.str) := by
  induction ys with
  | nil => exact .nil
  | cons y ys ih => exact .cons (.str y) ih
theorem idxG_ok {y : D} : ∀ {xs : List D} {j0 j : Nat}, idxG y j0 xs = some j → ∃ i z, j = j0 + i ∧ xs[i]? = some z ∧ PyData.eqv z y = true ∧ ∀ (m : Nat) (z' : D), m < i → xs[m]? = some z' → PyData.eqv z' y = false
  | [], _, _, h => by cases h
  | x :: xs, j0, j, h => by
    unfold idxG at h
    split at h
    · rename_i hx
      cases h
      exact ⟨0, x, rfl, rfl, hx, fun m z' hm => absurd hm (Nat.not_lt_zero _)⟩
    · rename_i hx
      obtain ⟨i, z, e1, e2, e3, e4⟩ := idxG_ok h
      refine ⟨i + 1, z, by omega, e2, e3, fun m z' hm hz => ?_⟩
      cases m with
      | zero =>
        cases hz
        simpa using hx
      | succ m => exact e4 m z' (by omega) hz
theorem u1_sem {k : U1} {t : TE} {σ : L2.St} {x s : Sl} {Q : VK} (S : Same G H) (ht : ∀ Q' : VK, (∀ G1 H1 v1, Step G H G1 H1 → ResR K H G1 H1 v1 x → Q' v1 H1) → t σ H Q') (h : u1D k x.d = .ok s) (q : Nxt K G H s Q) : rdU1 K k t σ H Q := by
  unfold u1D at h
  split at h
  · rename_i f ps hd
    unfold fldS at h
    split at h
    rotate_left
    · cases h
    rename_i b d hf
    cases h
    refine ht _ fun G1 H1 v1 S1 r1 => ?_
    have rx := r1.1.rdb
    rw [hd] at rx
    rcases rx with rx | rx | ⟨a, C, dx, fs, ps', e1, n, t, c, e2, e3, r⟩
    · cases rx with
      | dct _ h2 => have := h2.plain; cases this
    · obtain ⟨a, o, _, _, _, r⟩ := rx
      cases r with
      | base r => have := r.plain; cases this
      | lck r => have := r.plain; cases this
    · cases e2
      obtain ⟨h1, w, h2, h3⟩ := r _ _ hf
      refine ⟨a, C, dx, fs, w, e1, t, c, h1, h2, ?_⟩
      rcases h3 with ⟨y, e, ry⟩ | ⟨y, e, ry⟩
      · cases e
        exact q G1 H1 w S1 (.f ry)
      · cases e
        exact q G1 H1 w S1 ⟨.inl ry, fun z => nomatch z⟩
  · rename_i ds hd
    split at h
    · rename_i hm
      cases h
      refine ht _ fun G1 H1 v1 S1 r1 => ?_
      have rx := r1.1.rdb
      rw [hd] at rx
      obtain ⟨a, vs, rfl, ra, qa⟩ := rx.dict S1.gh hm
      intro p np
      have e : (!vs.isEmpty) = !ds.isEmpty := by
        have := qa.length
        cases vs <;> cases ds <;> simp at this ⊢
      refine ⟨a, p, vs, rfl, rfl, ?_, .inl upd_same, ?_⟩
      · rcases ra with ra | ⟨o, ra⟩
        · exact .inl (by rw [upd_ne (ne_of_none ra np)]; exact ra)
        · exact .inr ⟨o, by rw [upd_ne (ne_of_none ra np)]; exact ra⟩
      · rw [e]
        exact q G1 _ _ (S1.trans (.new S1.gh np)) (.f (.bl _))
    · cases h
  · rename_i ds hd
    split at h
    · rename_i p r hp
      cases h
      refine ht _ fun G1 H1 v1 S1 r1 => ?_
      have rx := r1.1.rdb
      rw [hd] at rx
      obtain ⟨a, vs, rfl, ra, qa⟩ := rx.list S1.gh
      obtain ⟨h1, h2⟩ := pairsD_at qa hp
      refine ⟨a, vs, p, r, rfl, ra, h1, fun i x e => ?_, fun i v e em => ?_⟩
      · obtain ⟨t, e1, e2, _⟩ := h2 i x e
        exact ⟨t, e1, SqT.mono S1.gh e2⟩
      · obtain ⟨t, e1, e2, e3⟩ := h2 i v e
        obtain ⟨d, e4, e5⟩ := qa.getV e
        rw [e3] at e4
        cases e4
        rw [em] at e5
        exact q G1 H1 v S1 (.f e5)
    · cases h
  · rename_i sep ds hd
    split at h
    · rename_i ys hy
      split at h
      · rename_i hc
        cases h
        refine ⟨⟨sep, rfl⟩, ht _ fun G1 H1 v1 S1 r1 => ?_⟩
        have rx := r1.1.rdb
        rw [hd] at rx
        obtain ⟨a, vs, rfl, ra, qa⟩ := rx.list S1.gh
        have e := strsD_rp qa hy
        subst e
        exact ⟨sep, a, ys, rfl, rfl, .inl ra, of_decide_eq_true hc, q G1 H1 _ S1 (.f (.str _))⟩
      · cases h
    · cases h
  · rename_i b a hd
    split at h
    · rename_i hc
      cases h
      obtain ⟨c1, c2⟩ := and2 hc
      refine ht _ fun G1 H1 v1 S1 r1 => ?_
      have rx := r1.1.rdb
      rw [hd] at rx
      rw [rx.str]
      exact ⟨⟨_, rfl⟩, _, b, rfl, rfl, of_decide_eq_true c1, lenOk_ok c2, fun p np => (q.back S1).list S1.gh (RpA.strs _) np⟩
    · cases h
  · rename_i b n a hd
    split at h
    · rename_i hc
      cases h
      obtain ⟨c1, c3⟩ := and2 hc
      obtain ⟨c1, c2⟩ := and2 c1
      have c3 := of_decide_eq_true c3
      refine ht _ fun G1 H1 v1 S1 r1 => ?_
      have rx := r1.1.rdb
      rw [hd] at rx
      rw [rx.str]
      exact ⟨rfl, _, b, (n : Int), rfl, rfl, of_decide_eq_true c1, by omega, by omega, lenOk_ok c2, fun p np => (q.back S1).list S1.gh (RpA.strs _) np⟩
    · cases h
  · cases h
theorem u2_sem {k : U2} {t u : TE} {σ : L2.St} {x y s : Sl} {Q : VK} (S : Same G H) (ht : ∀ Q' : VK, (∀ G1 H1 v1, Step G H G1 H1 → ResR K H G1 H1 v1 x → Q' v1 H1) → t σ H Q')
    (hu : ∀ (G1 H1 : Hp) (Q' : VK), Step G H G1 H1 → (∀ G2 H2 v2, Step G1 H1 G2 H2 → ResR K H1 G2 H2 v2 y → Q' v2 H2) → u σ H1 Q') (h : u2D k x.d y.d = .ok s) (q : Nxt K G H s Q) : rdU2 K k t u σ H Q := by
  unfold u2D at h
  split at h
  · rename_i ds hd
    split at h
    · rename_i hc
      obtain ⟨c1, c2⟩ := and2 hc
      split at h
      · rename_i j hj
        cases h
        obtain ⟨i, z, e1, e2, e3, e4⟩ := idxG_ok hj
        rw [Nat.zero_add] at e1
        subst e1
        refine ht _ fun G1 H1 v1 S1 r1 => ?_
        have rx := r1.1.rdb
        rw [hd] at rx
        obtain ⟨a, vs, rfl, ra, qa⟩ := rx.list S1.gh
        refine ⟨.inl ⟨rfl, vs, ra⟩, hu G1 H1 _ S1 fun G2 H2 v2 S2 r2 => ?_⟩
        exact ⟨a, v2, _, ds, j, z, rfl, rfl, (rx.mono S2).dp S2.gh (SeqAt.canLay_of_shaped c1), r2.1.rdb.dp S2.gh (SeqAt.canLay_of_shaped c2), c1, c2, e2, e3, e4, (q.back (S1.trans S2)).int S2.gh⟩
      · cases h
    · cases h
  · rename_i ds hd
    split at h
    · rename_i hc
      obtain ⟨c1, c2⟩ := and2 hc
      cases h
      refine ht _ fun G1 H1 v1 S1 r1 => ?_
      have rx := r1.1.rdb
      rw [hd] at rx
      obtain ⟨a, vs, rfl, ra, qa⟩ := rx.dict S1.gh c2
      refine ⟨a, rfl, .inl ⟨vs, ra⟩, hu G1 H1 _ S1 fun G2 H2 v2 S2 r2 => ?_⟩
      obtain ⟨a', vs', ea, ra', qa'⟩ := (rx.mono S2).dict S2.gh c2
      cases ea
      rcases look_get c1 r2.1.rdb ra' qa' with ⟨g, e⟩ | ⟨w, d, g, e, r⟩
      · refine ⟨none, g, ?_⟩
        rw [e] at q
        exact q G2 H2 _ (S1.trans S2) (.f .non)
      · refine ⟨some w, g, ?_⟩
        rw [e] at q
        exact q G2 H2 _ (S1.trans S2) (.f r)
    · cases h
  · rename_i a b hd hb
    split at h
    · rename_i hc
      cases h
      obtain ⟨c1, c2⟩ := and2 hc
      refine ht _ fun G1 H1 v1 S1 r1 => ?_
      have rx := r1.1.rdb
      rw [hd] at rx
      refine ⟨⟨_, rx.str⟩, hu G1 H1 _ S1 fun G2 H2 v2 S2 r2 => ?_⟩
      have ry := r2.1.rdb
      rw [hb] at ry
      exact ⟨a, b, rx.str, by rw [ry.str], of_decide_eq_true c1, lenOk_ok c2, fun p np => (q.back (S1.trans S2)).list S2.gh (RpA.strs _) np⟩
    · cases h
  · cases h
theorem u3_sem {k : U3} {t u w : TE} {σ : L2.St} {x y z s : Sl} {dz : D} {Q : VK} (S : Same G H) (ht : ∀ Q' : VK, (∀ G1 H1 v1, Step G H G1 H1 → ResR K H G1 H1 v1 x → Q' v1 H1) → t σ H Q')
    (hu : ∀ (G1 H1 : Hp) (Q' : VK), Step G H G1 H1 → (∀ G2 H2 v2, Step G1 H1 G2 H2 → ResR K H1 G2 H2 v2 y → Q' v2 H2) → u σ H1 Q')
    (hw : ∀ (G1 H1 : Hp) (Q' : VK), Step G H G1 H1 → (∀ G2 H2 v2, Step G1 H1 G2 H2 → ResR K H1 G2 H2 v2 z → Q' v2 H2) → w σ H1 Q') (hz : asF z = .ok dz) (h : u3D k x.d y.d dz = .ok s) (q : Nxt K G H s Q) : rdU3 k t u w σ H Q := by
  unfold u3D at h
  split at h
  · rename_i ds hd
    split at h
    · rename_i hc
      obtain ⟨c1, c2⟩ := and2 hc
      cases h
      refine ht _ fun G1 H1 v1 S1 r1 => ?_
      have rx := r1.1.rdb
      rw [hd] at rx
      obtain ⟨a, vs, rfl, ra, qa⟩ := rx.dict S1.gh c2
      refine ⟨a, rfl, .inl ⟨vs, ra⟩, hu G1 H1 _ S1 fun G2 H2 v2 S2 r2 => hw G2 H2 _ (S1.trans S2) fun G3 H3 v3 S3 r3 => ?_⟩
      obtain ⟨G4, S4, _, r4, _⟩ := freeze S3 r3 hz
      obtain ⟨a', vs', ea, ra', qa'⟩ := ((rx.mono S2).mono S4).dict S4.gh c2
      cases ea
      rcases look_get c1 (r2.1.rdb.mono S4) ra' qa' with ⟨g, e⟩ | ⟨w, d, g, e, r⟩
      · refine ⟨none, g, ?_⟩
        rw [e] at q
        exact q G4 H3 _ ((S1.trans S2).trans S4) (.f r4)
      · refine ⟨some w, g, ?_⟩
        rw [e] at q
        exact q G4 H3 _ ((S1.trans S2).trans S4) (.f r)
    · cases h
  · cases h
end
end GK

namespace GK
open PySem PySem.Spec PyProof.Rows L2

theorem wipe_get (σ : L2.St) : ∀ (vs : List Nat) (j : Nat), (wipe σ vs)[j]? = if j ∈ vs ∧ j < σ.length then some none else σ[j]?
  | [], j => by simp [wipe]
  | v :: vs, j => by
    unfold wipe
    have hl := wipe_length σ vs
    by_cases e : v = j
    · subst e
      by_cases h : v < σ.length
      · rw [List.getElem?_set_self (by omega), if_pos ⟨List.mem_cons_self, h⟩]
      · rw [List.getElem?_eq_none (by rw [List.length_set]; omega), if_neg (fun z => h z.2), List.getElem?_eq_none (by omega)]
    · rw [List.getElem?_set_ne e, wipe_get σ vs j]
      by_cases h : j ∈ vs ∧ j < σ.length
      · rw [if_pos h, if_pos ⟨List.mem_cons_of_mem _ h.1, h.2⟩]
      · rw [if_neg h, if_neg (fun z => h ⟨(List.mem_cons.mp z.1).resolve_left (fun q => e q.symm), z.2⟩)]
theorem wipeR_length (ρ : Rho) : ∀ vs : List Nat, (wipeR ρ vs).length = ρ.length
  | [] => rfl
  | v :: vs => by unfold wipeR; rw [List.length_set, wipeR_length ρ vs]
theorem wipeR_get (ρ : Rho) : ∀ (vs : List Nat) (j : Nat), (wipeR ρ vs)[j]? = if j ∈ vs ∧ j < ρ.length then some none else ρ[j]?
  | [], j => by simp [wipeR]
  | v :: vs, j => by
    unfold wipeR
    have hl := wipeR_length ρ vs
    by_cases e : v = j
    · subst e
      by_cases h : v < ρ.length
      · rw [List.getElem?_set_self (by omega), if_pos ⟨List.mem_cons_self, h⟩]
      · rw [List.getElem?_eq_none (by rw [List.length_set]; omega), if_neg (fun z => h z.2), List.getElem?_eq_none (by omega)]
    · rw [List.getElem?_set_ne e, wipeR_get ρ vs j]
      by_cases h : j ∈ vs ∧ j < ρ.length
      · rw [if_pos h, if_pos ⟨List.mem_cons_of_mem _ h.1, h.2⟩]
      · rw [if_neg h, if_neg (fun z => h ⟨(List.mem_cons.mp z.1).resolve_left (fun q => e q.symm), z.2⟩)]
/-- only slots of vs may differ -/
def SameBut (vs : List Nat) (σ σ' : L2.St) : Prop := σ'.length = σ.length ∧ ∀ j, j ∉ vs → σ'[j]? = σ[j]?
theorem wipe_sameBut {vs : List Nat} {σ σ' : L2.St} (h : SameBut vs (wipe σ vs) σ') : wipe σ' vs = wipe σ vs := by
  apply List.ext_getElem?
  intro j
  have hl : σ'.length = σ.length := h.1.trans (wipe_length σ vs)
  rw [wipe_get, wipe_get, hl]
  by_cases hj : j ∈ vs
  · by_cases h2 : j < σ.length
    · rw [if_pos ⟨hj, h2⟩, if_pos ⟨hj, h2⟩]
    · rw [if_neg (fun z => h2 z.2), if_neg (fun z => h2 z.2), List.getElem?_eq_none (by omega), List.getElem?_eq_none (by omega)]
  · rw [if_neg (fun z => hj z.1), if_neg (fun z => hj z.1), h.2 j hj, wipe_get, if_neg (fun z => hj z.1)]
section
variable {K : PySem.W.Frag} {G H G' H' : Hp}
theorem EnvR.wipe {σ : L2.St} {ρ : Rho} (h : EnvR K G H σ ρ) (vs : List Nat) : EnvR K G H (L2.wipe σ vs) (wipeR ρ vs) := by
  refine ⟨by rw [wipe_length, wipeR_length, h.len], fun i s e => ?_⟩
  rw [wipeR_get] at e
  split at e
  · cases e
  · rename_i hn
    obtain ⟨v, e1, r⟩ := h.at_ i s e
    rw [wipe_get, h.len, if_neg hn]
    exact ⟨v, e1, r⟩
theorem EnvR.set {σ : L2.St} {ρ : Rho} (h : EnvR K G H σ ρ) (i : Nat) {v : V} {s : Sl} (r : SlE K G H v s) : EnvR K G H (σ.set i (some v)) (ρ.set i (some s)) := by
  refine ⟨by rw [List.length_set, List.length_set, h.len], fun j t e => ?_⟩
  by_cases hj : i = j
  · subst hj
    by_cases hl : i < ρ.length
    · rw [List.getElem?_set_self hl] at e
      cases e
      exact ⟨v, by rw [List.getElem?_set_self (h.len ▸ hl)], r⟩
    · rw [List.getElem?_eq_none (by rw [List.length_set]; omega)] at e
      cases e
  · rw [List.getElem?_set_ne hj] at e ⊢
    exact h.at_ j t e
theorem setAll_sem {tvs : List Nat} : ∀ (is : List Nat) (ds : List D) (vs : List V) (ρ ρ' : Rho) (σ : L2.St) (Q : L2.St → Hp → Prop), EnvR K G H σ ρ → RpA K G vs ds → setAll is ds ρ = some ρ' →
    (∀ σ', EnvR K G H σ' ρ' → (is.all tvs.contains = true → SameBut tvs σ σ') → Q σ' H) → (is.foldr (fun i t => gCons (gName i) t) gNil) vs σ H Q
  | [], [], _, ρ, ρ', σ, Q, E, r, e, q => by
    cases r
    cases e
    exact ⟨rfl, q σ E fun _ => ⟨rfl, fun _ _ => rfl⟩⟩
  | [], _ :: _, _, _, _, _, _, _, _, e, _ => by simp [setAll] at e
  | _ :: _, [], _, _, _, _, _, _, _, e, _ => by simp [setAll] at e
  | i :: is, d :: ds, _, ρ, ρ', σ, Q, E, r, e, q => by
    cases r with
    | cons r1 r2 =>
      simp only [setAll] at e
      refine ⟨_, _, rfl, setAll_sem (tvs := tvs) is ds _ _ ρ' _ Q (E.set i (s := ⟨.f, d⟩) r1) r2 e fun σ' E' sb => q σ' E' fun hi => ?_⟩
      simp only [List.all_cons, Bool.and_eq_true] at hi
      obtain ⟨l, g⟩ := sb hi.2
      refine ⟨by rw [l, List.length_set], fun j hj => ?_⟩
      rw [g j hj, List.getElem?_set_ne]
      intro z
      subst z
      exact hj (by simpa using hi.1)
theorem bindF_sem {tvs : List Nat} {tg : Tg} {d : D} {v : V} {ρ ρ' : Rho} {σ : L2.St} {Q : L2.St → Hp → Prop} (S : Same G H) (E : EnvR K G H σ ρ) (r : Rp K G v d) (e : bindT tg ⟨.f, d⟩ ρ = .ok ρ')
    (q : ∀ σ', EnvR K G H σ' ρ' → (tgIn tvs tg = true → SameBut tvs σ σ') → Q σ' H) : gTg K tg v σ H Q := by
  cases tg with
  | nm i =>
    cases e
    refine q _ (E.set i (s := ⟨.f, d⟩) r) fun hi => ⟨by rw [List.length_set], fun j hj => ?_⟩
    rw [List.getElem?_set_ne]
    intro z
    subst z
    exact hj (by simpa [tgIn] using hi)
  | tp is =>
    have hl : ∀ (is : List Nat) (ds : List D) (ρ ρ' : Rho), setAll is ds ρ = some ρ' → ds.length = is.length := by
      intro is
      induction is with
      | nil => intro ds ρ ρ' e; cases ds <;> simp [setAll] at e ⊢
      | cons i is ih =>
        intro ds ρ ρ' e
        cases ds with
        | nil => simp [setAll] at e
        | cons d ds => simp only [setAll] at e; rw [List.length_cons, List.length_cons, ih ds _ _ e]
    simp only [bindT] at e
    split at e
    · rename_i ds
      split at e
      · rename_i ρ2 e2
        cases e
        cases r with
        | @tup a vs _ h1 h2 =>
          exact .inl ⟨a, vs, rfl, SqT.mono S h1, by rw [h2.length, hl is ds ρ _ e2], setAll_sem (tvs := tvs) is ds vs ρ _ σ Q E h2 e2 fun σ' E' sb => q σ' E' fun hi => sb hi⟩
      · cases e
    · rename_i ds
      split at e
      · rename_i ρ2 e2
        cases e
        cases r with
        | @lst a vs _ h1 h2 =>
          exact .inr ⟨a, vs, rfl, S.seq h1, by rw [h2.length, hl is ds ρ _ e2], setAll_sem (tvs := tvs) is ds vs ρ _ σ Q E h2 e2 fun σ' E' sb => q σ' E' fun hi => sb hi⟩
      · cases e
    · cases e

/-- an iterator over deep values, from the heap B on -/
def IterR (K : PySem.W.Frag) (G B : Hp) (J : It) (xs : List D) : Prop := ∀ i H Gc, Same G Gc → Same Gc H → Same B H → (∀ d, xs[i]? = some d → J.go i H ∧ ∀ x H', J.yld i H x H' → ∃ G', Step Gc H G' H' ∧ Rp K G' x d) ∧ (xs.length ≤ i → J.stop i H)
theorem SqL.same {a : Addr} {xs : List V} (S : Same G H) (h : SqL K G a xs) : SqL K H a xs := S.seq h
theorem iter_list {B : Hp} {a : Addr} {vs : List V} {xs : List D} (h : SqL K B a vs) (r : RpA K G vs xs) : IterR K G B (Itl K a) xs := fun i H Gc SG SH S => by
  have hs : SqL K H a vs := S.seq h
  refine ⟨fun d hd => ?_, fun hl => ⟨vs, hs, by rw [r.length]; exact hl⟩⟩
  obtain ⟨v, e, q⟩ := r.get hd
  refine ⟨⟨vs, v, hs, e⟩, fun x H' y => ?_⟩
  cases Option.some.inj ((y.2 vs hs).symm.trans e)
  obtain ⟨rfl, _⟩ := y
  exact ⟨Gc, .refl SH, Rp.mono SG _ _ q⟩
theorem iter_tup {B : Hp} {a : Addr} {vs : List V} {xs : List D} (h : SqT K B a vs) (r : RpA K G vs xs) : IterR K G B (Itt K a) xs := fun i H Gc SG SH S => by
  have hs : SqT K H a vs := SqT.mono S h
  refine ⟨fun d hd => ?_, fun hl => ⟨vs, hs, by rw [r.length]; exact hl⟩⟩
  obtain ⟨v, e, q⟩ := r.get hd
  refine ⟨⟨vs, v, hs, e⟩, fun x H' y => ?_⟩
  cases Option.some.inj ((y.2 vs hs).symm.trans e)
  obtain ⟨rfl, _⟩ := y
  exact ⟨Gc, .refl SH, Rp.mono SG _ _ q⟩
theorem iter_str {B : Hp} {x : Str} : IterR K G B (Its x) (x.cps.toList.map fun c => .str ⟨#[c]⟩) := fun i H Gc SG SH S => by
  refine ⟨fun d hd => ?_, fun hl => ?_⟩
  · rw [List.getElem?_map] at hd
    obtain ⟨c, e1, e2⟩ := Option.map_eq_some_iff.mp hd
    subst e2
    have hc : x.cps[i]? = some c := by rw [← Array.getElem?_toList]; exact e1
    refine ⟨(Array.getElem?_eq_some_iff.mp hc).1, fun v H' y => ?_⟩
    obtain ⟨rfl, c', e3, rfl⟩ := y
    rw [hc] at e3
    cases e3
    exact ⟨Gc, .refl SH, .str _⟩
  · rw [List.length_map, Array.length_toList] at hl
    exact hl
/-- the keys of a locked dict -/
theorem iter_keysD {B : Hp} {a : Addr} {od : Obj} {vs : List (Key × V)} {ds : List (D × D)} (h : B a = some (.frz od (.dK vs))) (r : RpK K G vs ds) : IterR K G B (Itk a od vs) (ds.map (·.1)) := fun i H Gc SG SH S => by
  have hl := r.length
  refine ⟨fun d hd => ?_, fun hq => ⟨S _ _ h, by rw [List.length_map] at hq; omega⟩⟩
  have hi : i < vs.length := by
    have := (List.getElem?_eq_some_iff.mp hd).1
    rw [List.length_map] at this
    omega
  refine ⟨⟨S _ _ h, hi⟩, fun x H' y => ?_⟩
  obtain ⟨rfl, k, v, e, rfl⟩ := y
  have r2 := r.keyVs
  obtain ⟨d', e1, e2⟩ := r2.getV (i := i) (v := kV k) (by rw [List.getElem?_map, e]; rfl)
  rw [hd] at e1
  cases e1
  exact ⟨Gc, .refl SH, Rp.mono SG _ _ e2⟩
theorem iter_rng {B : Hp} {lo : Int} {n : Nat} : IterR K G B (Itr lo n) ((List.range n).map fun k => .int (lo + (k : Nat))) := fun i H Gc SG SH S => by
  refine ⟨fun d hd => ?_, fun hl => ?_⟩
  · rw [List.getElem?_map] at hd
    by_cases h : i < n
    · rw [List.getElem?_range h] at hd
      cases hd
      refine ⟨h, fun x H' y => ?_⟩
      obtain ⟨rfl, rfl⟩ := y
      exact ⟨Gc, .refl SH, .int _⟩
    · rw [List.getElem?_eq_none (by rw [List.length_range]; omega)] at hd
      cases hd
  · rw [List.length_map, List.length_range] at hl
    exact hl
theorem iter_rngC {B : Hp} {lo c : Int} {n : Nat} : IterR K G B (Itc lo c n) ((List.range n).map fun k => .int (lo + (k : Nat) * c)) := fun i H Gc SG SH S => by
  refine ⟨fun d hd => ?_, fun hl => ?_⟩
  · rw [List.getElem?_map] at hd
    by_cases h : i < n
    · rw [List.getElem?_range h] at hd
      cases hd
      refine ⟨h, fun x H' y => ?_⟩
      obtain ⟨rfl, rfl⟩ := y
      exact ⟨Gc, .refl SH, .int _⟩
    · rw [List.getElem?_eq_none (by rw [List.length_range]; omega)] at hd
      cases hd
  · rw [List.length_map, List.length_range] at hl
    exact hl
theorem rev_at {α : Type} {xs : List α} {i : Nat} {d : α} (h : xs.reverse[i]? = some d) : i < xs.length ∧ xs[xs.length - 1 - i]? = some d := by
  have hi : i < xs.length := by
    rcases Nat.lt_or_ge i xs.length with q | q
    · exact q
    · rw [List.getElem?_eq_none (by rw [List.length_reverse]; exact q)] at h
      cases h
  rw [List.getElem?_reverse hi] at h
  exact ⟨hi, h⟩
theorem iter_rvr {B : Hp} {n : Nat} : IterR K G B (Itc (0 + (n : Int) - 1) (-1) n) ((List.range n).map fun k => .int (0 + (k : Nat))).reverse := fun i H Gc SG SH S => by
  refine ⟨fun d hd => ?_, fun hl => ?_⟩
  · obtain ⟨h1, h2⟩ := rev_at hd
    rw [List.length_map, List.length_range] at h1 h2
    rw [List.getElem?_map, List.getElem?_range (by omega)] at h2
    cases h2
    refine ⟨h1, fun x H' y => ?_⟩
    obtain ⟨rfl, rfl⟩ := y
    refine ⟨Gc, .refl SH, ?_⟩
    have e : 0 + (n : Int) - 1 + (i : Nat) * (-1) = 0 + ((n - 1 - i : Nat) : Int) := by omega
    rw [e]
    exact .int _
  · rw [List.length_reverse, List.length_map, List.length_range] at hl
    exact hl
theorem iter_rev {B : Hp} {a : Addr} {vs : List V} {xs : List D} (h : SqL K B a vs) (r : RpA K G vs xs) : IterR K G B (Itv K a vs.length) xs.reverse := fun i H Gc SG SH S => by
  have hs : SqL K H a vs := S.seq h
  refine ⟨fun d hd => ?_, fun hl => by rw [List.length_reverse, ← r.length] at hl; exact hl⟩
  obtain ⟨h1, h2⟩ := rev_at hd
  obtain ⟨v, e, q⟩ := r.get h2
  rw [← r.length] at e h1
  refine ⟨⟨h1, vs, v, hs, e⟩, fun x H' y => ?_⟩
  cases Option.some.inj ((y.2 vs hs).symm.trans e)
  obtain ⟨rfl, _⟩ := y
  exact ⟨Gc, .refl SH, Rp.mono SG _ _ q⟩
theorem iter_revT {B : Hp} {a : Addr} {vs : List V} {xs : List D} (h : SqT K B a vs) (r : RpA K G vs xs) : IterR K G B (RT.ItvT K a vs.length) xs.reverse := fun i H Gc SG SH S => by
  have hs : SqT K H a vs := SqT.mono S h
  refine ⟨fun d hd => ?_, fun hl => by rw [List.length_reverse, ← r.length] at hl; exact hl⟩
  obtain ⟨h1, h2⟩ := rev_at hd
  obtain ⟨v, e, q⟩ := r.get h2
  rw [← r.length] at e h1
  refine ⟨⟨h1, vs, v, hs, e⟩, fun x H' y => ?_⟩
  cases Option.some.inj ((y.2 vs hs).symm.trans e)
  obtain ⟨rfl, _⟩ := y
  exact ⟨Gc, .refl SH, Rp.mono SG _ _ q⟩
theorem enum_at {xs : List D} {i : Nat} {d : D} (h : (enumD xs)[i]? = some d) : ∃ x, xs[i]? = some x ∧ d = .tuple [.int (i : Nat), x] := by
  unfold enumD at h
  rw [List.getElem?_map] at h
  by_cases hi : i < xs.length
  · rw [List.getElem?_range hi] at h
    cases h
    exact ⟨xs[i], List.getElem?_eq_getElem hi, by show PyData.tuple [_, xs.getD i .none] = _; rw [List.getD_eq_getElem?_getD, List.getElem?_eq_getElem hi]; rfl⟩
  · rw [List.getElem?_eq_none (by rw [List.length_range]; omega)] at h
    cases h
theorem enum_len (xs : List D) : (enumD xs).length = xs.length := by rw [enumD, List.length_map, List.length_range]
theorem zip_at {xs ys : List D} {i : Nat} {d : D} (h : (zipD xs ys)[i]? = some d) : ∃ x y, xs[i]? = some x ∧ ys[i]? = some y ∧ d = .tuple [x, y] := by
  unfold zipD at h
  rw [List.getElem?_map] at h
  by_cases hi : i < min xs.length ys.length
  · rw [List.getElem?_range hi] at h
    cases h
    have h1 : i < xs.length := by omega
    have h2 : i < ys.length := by omega
    exact ⟨xs[i], ys[i], List.getElem?_eq_getElem h1, List.getElem?_eq_getElem h2, by show PyData.tuple [xs.getD i .none, ys.getD i .none] = _; rw [List.getD_eq_getElem?_getD, List.getElem?_eq_getElem h1, List.getD_eq_getElem?_getD, List.getElem?_eq_getElem h2]; rfl⟩
  · rw [List.getElem?_eq_none (by rw [List.length_range]; omega)] at h
    cases h
theorem zip_len (xs ys : List D) : (zipD xs ys).length = min xs.length ys.length := by rw [zipD, List.length_map, List.length_range]
theorem pair_step {Gc : Hp} {T : Addr} {x y : V} {d e : D} (SH : Same Gc H) (hT : H T = none) (r1 : Rp K Gc x d) (r2 : Rp K Gc y e) : ∃ G', Step Gc H G' (upd H T (.tup [x, y])) ∧ Rp K G' (.ref T) (.tuple [d, e]) :=
  ⟨upd Gc T (.tup [x, y]), .newF SH hT, .tup (.inl (.inl upd_same)) (.cons (Rp.mono (same_upd (SH.free hT)) _ _ r1) (.cons (Rp.mono (same_upd (SH.free hT)) _ _ r2) .nil))⟩
theorem iter_enum {B : Hp} {a : Addr} {vs : List V} {xs : List D} (h : SqL K B a vs) (r : RpA K G vs xs) : IterR K G B (Ite K a) (enumD xs) := fun i H Gc SG SH S => by
  have hs : SqL K H a vs := S.seq h
  refine ⟨fun d hd => ?_, fun hl => ⟨vs, hs, by rw [r.length]; rwa [enum_len] at hl⟩⟩
  obtain ⟨z, h1, rfl⟩ := enum_at hd
  obtain ⟨v, e, q⟩ := r.get h1
  refine ⟨⟨vs, v, hs, e⟩, fun x H' y => ?_⟩
  obtain ⟨T, u, rfl, hT, rfl, hu⟩ := y
  cases Option.some.inj ((hu vs hs).symm.trans e)
  exact pair_step SH hT (.int _) (Rp.mono SG _ _ q)
theorem iter_enumT {B : Hp} {a : Addr} {vs : List V} {xs : List D} (h : SqT K B a vs) (r : RpA K G vs xs) : IterR K G B (IteT K a) (enumD xs) := fun i H Gc SG SH S => by
  have hs : SqT K H a vs := SqT.mono S h
  refine ⟨fun d hd => ?_, fun hl => ⟨vs, hs, by rw [r.length]; rwa [enum_len] at hl⟩⟩
  obtain ⟨z, h1, rfl⟩ := enum_at hd
  obtain ⟨v, e, q⟩ := r.get h1
  refine ⟨⟨vs, v, hs, e⟩, fun x H' y => ?_⟩
  obtain ⟨T, u, rfl, hT, rfl, hu⟩ := y
  cases Option.some.inj ((hu vs hs).symm.trans e)
  exact pair_step SH hT (.int _) (Rp.mono SG _ _ q)
theorem iter_zip {B : Hp} {a b : Addr} {vs ws : List V} {xs ys : List D} (h : SqL K B a vs) (h' : SqL K B b ws) (r : RpA K G vs xs) (r' : RpA K G ws ys) : IterR K G B (Itz K a b) (zipD xs ys) := fun i H Gc SG SH S => by
  have hs : SqL K H a vs := S.seq h
  have hs' : SqL K H b ws := S.seq h'
  refine ⟨fun d hd => ?_, fun hl => ⟨vs, ws, hs, hs', by rw [r.length, r'.length]; rw [zip_len] at hl; omega⟩⟩
  obtain ⟨z, z', h1, h2, rfl⟩ := zip_at hd
  obtain ⟨v, e, q⟩ := r.get h1
  obtain ⟨v', e', q'⟩ := r'.get h2
  refine ⟨⟨vs, ws, v, v', hs, hs', e, e'⟩, fun x H' y => ?_⟩
  obtain ⟨T, u, u', rfl, hT, rfl, hu, hu'⟩ := y
  cases Option.some.inj ((hu vs hs).symm.trans e)
  cases Option.some.inj ((hu' ws hs').symm.trans e')
  exact pair_step SH hT (Rp.mono SG _ _ q) (Rp.mono SG _ _ q')
theorem iter_zipT {B : Hp} {a b : Addr} {vs ws : List V} {xs ys : List D} (h : SqT K B a vs) (h' : SqT K B b ws) (r : RpA K G vs xs) (r' : RpA K G ws ys) : IterR K G B (RZ.ItzT K a b) (zipD xs ys) := fun i H Gc SG SH S => by
  have hs : SqT K H a vs := SqT.mono S h
  have hs' : SqT K H b ws := SqT.mono S h'
  refine ⟨fun d hd => ?_, fun hl => ⟨vs, ws, hs, hs', by rw [r.length, r'.length]; rw [zip_len] at hl; omega⟩⟩
  obtain ⟨z, z', h1, h2, rfl⟩ := zip_at hd
  obtain ⟨v, e, q⟩ := r.get h1
  obtain ⟨v', e', q'⟩ := r'.get h2
  refine ⟨⟨vs, ws, v, v', hs, hs', e, e'⟩, fun x H' y => ?_⟩
  obtain ⟨T, u, u', rfl, hT, rfl, hu, hu'⟩ := y
  cases Option.some.inj ((hu vs hs).symm.trans e)
  cases Option.some.inj ((hu' ws hs').symm.trans e')
  exact pair_step SH hT (Rp.mono SG _ _ q) (Rp.mono SG _ _ q')
theorem iter_zipM {B : Hp} {a b : Addr} {vs ws : List V} {xs ys : List D} (h : SqT K B a vs) (h' : SqL K B b ws) (r : RpA K G vs xs) (r' : RpA K G ws ys) : IterR K G B (ItzM K a b) (zipD xs ys) := fun i H Gc SG SH S => by
  have hs : SqT K H a vs := SqT.mono S h
  have hs' : SqL K H b ws := S.seq h'
  refine ⟨fun d hd => ?_, fun hl => ⟨vs, ws, hs, hs', by rw [r.length, r'.length]; rw [zip_len] at hl; omega⟩⟩
  obtain ⟨z, z', h1, h2, rfl⟩ := zip_at hd
  obtain ⟨v, e, q⟩ := r.get h1
  obtain ⟨v', e', q'⟩ := r'.get h2
  refine ⟨⟨vs, ws, v, v', hs, hs', e, e'⟩, fun x H' y => ?_⟩
  obtain ⟨T, u, u', rfl, hT, rfl, hu, hu'⟩ := y
  cases Option.some.inj ((hu vs hs).symm.trans e)
  cases Option.some.inj ((hu' ws hs').symm.trans e')
  exact pair_step SH hT (Rp.mono SG _ _ q) (Rp.mono SG _ _ q')
theorem rng3_ok {i j c : Int} {xs : List D} (h : rng3D i j c = .ok xs) : RgC i j c (Builtin.Range.rangeSize i j c).toNat ∧ xs = (List.range (Builtin.Range.rangeSize i j c).toNat).map fun k => .int (i + (k : Nat) * c) := by
  unfold rng3D at h
  split at h
  · rename_i q
    obtain ⟨q1, q4⟩ := and2 q
    obtain ⟨q1, q3⟩ := and2 q1
    obtain ⟨q1, q2⟩ := and_t q1
    exact ⟨⟨q1, q2, q3, (Int.toNat_of_nonneg (of_decide_eq_true q4)).symm⟩, (ok_inj h).symm⟩
  · cases h
/-- a heap without one object -/
def del (H : Hp) (D : Addr) : Hp := fun b => if b = D then none else H b
theorem del_same {D : Addr} : del H D D = none := if_pos rfl
theorem del_ne {D b : Addr} (h : b ≠ D) : del H D b = H b := if_neg h
theorem upd_del {D : Addr} {o : HO} : upd (del H D) D o = upd H D o := by
  funext b
  unfold upd del
  split <;> rfl
theorem rng_ok {i j : Int} {xs : List D} (h : rngD i j = .ok xs) : -(2 ^ 62) ≤ i ∧ i < 2 ^ 62 ∧ -(2 ^ 62) ≤ j ∧ j < 2 ^ 62 ∧ xs = (List.range (j - i).toNat).map fun k => .int (i + (k : Nat)) := by
  unfold rngD at h
  split at h
  · rename_i c
    obtain ⟨c1, c2⟩ := and2 c
    obtain ⟨c1, c3⟩ := and2 c1
    obtain ⟨c4, c5⟩ := and_t c1
    exact ⟨c4, c5, of_decide_eq_true c3, of_decide_eq_true c2, (ok_inj h).symm⟩
  · cases h
end

section
variable {K : PySem.W.Frag} {sp : Str → Sp} {cl : Str → List Sl → M Sl}
  (hsp : ∀ (f : Str) (vs : List V) (H G : Hp) (ss : List Sl) (r : Sl) (Q : VK), Same G H → ArgsR K G H vs ss → cl f ss = .ok r → Nxt K G H r Q → sp f vs H Q E0)
/-- a comprehension's turns -/
theorem lc_sem {G H : Hp} {J : It} {xs ys : List D} {f : D → M (Option D)} {g : TG} {tt : TT} {te : TE} {vs : List Nat} {σ : L2.St} {Q : VK} (S : Same G H) (hJ : IterR K G H J xs) (hx : xs.length ≤ sizeLine)
    (he : lcGo f xs = .ok ys)
    (turn : ∀ (d : D) (v : V) (y : Option D) (G1 H1 : Hp) (Nx : Hp → Prop) (D : Addr), Step G H G1 H1 → Rp K G1 v d → f d = .ok y → (y = none → ∀ G2 H2, Step G1 H1 G2 H2 → Nx H2) →
      (∀ e, y = some e → ∀ G2 H2 w, Step G1 H1 G2 H2 → Rp K G2 w e → ∃ acc, H2 D = some (.lst acc) ∧ acc.length < sizeLine ∧ Nx (upd H2 D (.lst (acc ++ [w])))) →
      g v (wipe σ vs) H1 fun σ2 H2 => wipe σ2 vs = wipe σ vs ∧ tt σ2 H2 fun b H3 => if b = true then te σ2 H3 fun y H4 => ∃ acc, H4 D = some (.lst acc) ∧ acc.length < sizeLine ∧ Nx (upd H4 D (.lst (acc ++ [y]))) else Nx H3)
    (q : Nxt K G H ⟨.o, .list ys⟩ Q) : ∀ D, H D = none → ∃ W : Nat → Nat → Hp → Prop, (∃ m, W 0 m (upd H D (.lst []))) ∧ ∀ i m H, W i m H →
  (J.stop i H ∧ Q (.ref D) H) ∨ (J.go i H ∧ ∃ Nx : Hp → Prop, (∀ H', Nx H' → ∃ m', m' < m ∧ W (i + 1) m' H') ∧ ∀ x H', J.yld i H x H' → g x (wipe σ vs) H' fun σ2 H2 => wipe σ2 vs = wipe σ vs ∧ tt σ2 H2 fun b H3 =>
    if b = true then te σ2 H3 fun y H4 => ∃ acc, H4 D = some (.lst acc) ∧ acc.length < sizeLine ∧ Nx (upd H4 D (.lst (acc ++ [y]))) else Nx H3) := by
  intro D hD
  refine ⟨fun i m Hc => ∃ Gc acc ds zs, m = xs.length - i ∧ i ≤ xs.length ∧ Step G H Gc Hc ∧ Gc D = none ∧ Hc D = some (.lst acc) ∧ acc.length ≤ i ∧ RpA K Gc acc ds ∧ lcGo f (xs.drop i) = .ok zs ∧ ds ++ zs = ys,
    ⟨xs.length, G, [], [], ys, rfl, Nat.zero_le _, .new S hD, S.free hD, upd_same, Nat.zero_le _, .nil, he, rfl⟩, ?_⟩
  rintro i m Hc ⟨Gc, acc, ds, zs, rfl, hi, Sc, hGD, hHD, ha, ra, hz, ey⟩
  obtain ⟨j1, j2⟩ := hJ i Hc Gc Sc.gg Sc.gh Sc.hh
  by_cases hl : i < xs.length
  · obtain ⟨g1, g2⟩ := j1 xs[i] (List.getElem?_eq_getElem hl)
    refine .inr ⟨g1, fun H' => ∃ Gc acc ds zs, i + 1 ≤ xs.length ∧ Step G H Gc H' ∧ Gc D = none ∧ H' D = some (.lst acc) ∧ acc.length ≤ i + 1 ∧ RpA K Gc acc ds ∧ lcGo f (xs.drop (i + 1)) = .ok zs ∧ ds ++ zs = ys,
      fun H' ⟨Gc, acc, ds, zs, a1, a2, a3, a4, a5, a6, a7, a8⟩ => ⟨xs.length - (i + 1), by omega, Gc, acc, ds, zs, rfl, a1, a2, a3, a4, a5, a6, a7, a8⟩, fun x H' hy => ?_⟩
    obtain ⟨G3, St, rx⟩ := g2 x H' hy
    have Sc := Sc.trans St
    have hGD := St.fr _ _ hHD hGD
    have hHD := St.hh _ _ hHD
    have ra := ra.mono St.gg
    rw [List.drop_eq_getElem_cons hl] at hz
    obtain ⟨y, e1, hz⟩ := bind_ok hz
    obtain ⟨r, e2, hz⟩ := bind_ok hz
    cases pure_ok hz
    refine turn xs[i] x y G3 H' _ D Sc rx e1 (fun ey' G2 H2 S2 => ?_) (fun e ey' G2 H2 w S2 rw_ => ?_)
    · subst ey'
      exact ⟨G2, acc, ds, r, hl, Sc.trans S2, S2.fr _ _ hHD hGD, S2.hh _ _ hHD, by omega, ra.mono S2.gg, e2, ey⟩
    · subst ey'
      refine ⟨acc, S2.hh _ _ hHD, by omega, G2, acc ++ [w], ds ++ [e], r, hl, ?_, S2.fr _ _ hHD hGD, upd_same, by rw [List.length_append]; exact Nat.succ_le_succ ha, (ra.mono S2.gg).append (.cons rw_ .nil), e2, by rw [List.append_assoc]; exact ey⟩
      have S3 := Sc.trans S2
      have hg2 : G2 D = none := S2.fr _ _ hHD hGD
      refine ⟨S3.gg, fun b o e => ?_, fun b o e => ?_, S3.fr⟩
      · rw [upd_ne (ne_of_none e hD)]
        exact S3.hh _ _ e
      · rw [upd_ne (ne_of_none e hg2)]
        exact S3.gh _ _ e
  · have ei : i = xs.length := by omega
    subst ei
    rw [List.drop_length] at hz
    cases hz
    rw [List.append_nil] at ey
    subst ey
    exact .inl ⟨j2 (Nat.le_refl _), q Gc Hc (.ref D) Sc ⟨⟨D, _, rfl, hGD, hHD, .lst ra⟩, fun _ => ⟨D, rfl, hD⟩⟩⟩
end
end GK

namespace GK
open PySem PySem.Spec PyProof.Rows L2
theorem seqD_ok {d : D} {xs : List D} (h : seqD d = .ok xs) : d = .list xs ∨ d = .tuple xs ∨ ∃ z, d = .str z ∧ xs = z.cps.toList.map fun c => .str ⟨#[c]⟩ := by
  unfold seqD at h
  split at h
  · cases h
    exact .inr (.inr ⟨_, rfl, rfl⟩)
  · unfold itemsD at h
    split at h
    · cases h; exact .inl rfl
    · cases h; exact .inr (.inl rfl)
    · cases h
section
variable (K : PySem.W.Frag) (sp : Str → Sp) (cl : Str → List Sl → M Sl)
/-- the promises of all defs are what they do -/
abbrev Hsp : Prop := ∀ (f : Str) (vs : List V) (H G : Hp) (ss : List Sl) (r : Sl) (Q : VK), Same G H → ArgsR K G H vs ss → cl f ss = .ok r → Nxt K G H r Q → sp f vs H Q E0
theorem asB_ok {d : D} {b : Bool} (h : asB d = .ok b) : d = .bool b := by
  cases d <;> first | (cases h; rfl) | cases h
theorem argS_sl {G H : Hp} {H0 : Hp} {v : V} {s : Sl} (S : Step G H0 G H) (r : ResR K H0 G H v s) : ∃ G2, Step G H0 G2 H ∧ SlR K G2 H v (argS s) ∧ (argS s).m ≠ .o ∧ Same G G2 := by
  obtain ⟨m, d⟩ := s
  cases m with
  | f => exact ⟨G, S, r.1, (fun z => nomatch z), Same.refl _⟩
  | p => exact ⟨G, S, r.1, (fun z => nomatch z), Same.refl _⟩
  | o =>
    obtain ⟨G2, S1, S2, r2, sg⟩ := freeze (d := d) S r rfl
    exact ⟨G2, S1, r2, (fun z => nomatch z), sg⟩
theorem evF_len : ∀ (es : Es) {ρ : Rho} (ds : List D), evF cl es ρ = .ok ds → ds.length = esLen es
  | .nil, ρ, ds, h => by
    cases h
    rfl
  | .cons e es, ρ, ds, h => by
    simp only [evF] at h
    obtain ⟨x, e1, h⟩ := bind_ok h
    obtain ⟨d, e2, h⟩ := bind_ok h
    obtain ⟨r, e3, h⟩ := bind_ok h
    cases pure_ok h
    rw [List.length_cons, evF_len es r e3]
    rfl
mutual
theorem semE (hsp : Hsp K sp cl) : ∀ (e : E) {σ : L2.St} {H G : Hp} {ρ : Rho} {s : Sl} (Q : VK), Same G H → EnvR K G H σ ρ → evE cl e ρ = .ok s → Nxt K G H s Q → rdE K sp e σ H Q
  | .var i, σ, H, G, ρ, s, Q, S, E, h, q => by
    simp only [evE] at h
    split at h
    · rename_i d hd
      cases h
      obtain ⟨v, e1, r⟩ := E.at_ _ _ hd
      exact ⟨v, e1, q G H v (.refl S) (.f r)⟩
    · rename_i m d hn hd
      cases h
      obtain ⟨v, e1, r⟩ := E.at_ _ _ hd
      have r' : TopX K G H v d := by
        cases m with
        | f => exact (hn rfl).elim
        | o => exact .inl r
        | p => exact r
      exact ⟨v, e1, q G H v (.refl S) ⟨r', fun z => nomatch z⟩⟩
    · cases h
  | .int n, σ, H, G, ρ, s, Q, S, E, h, q => by
    cases h
    exact q.int S
  | .bl n, σ, H, G, ρ, s, Q, S, E, h, q => by
    cases h
    exact q.bool S
  | .non, σ, H, G, ρ, s, Q, S, E, h, q => by
    cases h
    exact q G H _ (.refl S) (.f .non)
  | .str n, σ, H, G, ρ, s, Q, S, E, h, q => by
    cases h
    exact q G H _ (.refl S) (.f (.str _))
  | .bin op a b, σ, H, G, ρ, s, Q, S, E, h, q => by
    simp only [evE] at h
    obtain ⟨x, e1, h⟩ := bind_ok h
    obtain ⟨y, e2, h⟩ := bind_ok h
    exact semE hsp a _ S E e1 fun G1 H1 v1 S1 r1 => semE hsp b _ S1.gh (E.mono S1) e2 fun G2 H2 v2 S2 r2 =>
      binop_sem S2.gh (r1.1.mono S2) r2.1.rdb h (q.back (S1.trans S2))
  | .neg a, σ, H, G, ρ, s, Q, S, E, h, q => by
    simp only [evE] at h
    obtain ⟨x, e1, h⟩ := bind_ok h
    refine semE hsp a _ S E e1 fun G1 H1 v1 S1 r1 => ?_
    unfold unop at h
    split at h
    · rename_i i hi
      cases h
      have r := r1.1.rdb
      rw [hi] at r
      rw [r.int]
      exact ⟨i, rfl, (q.back S1).int S1.gh⟩
    · cases h
  | .inv a, σ, H, G, ρ, s, Q, S, E, h, q => by
    simp only [evE] at h
    obtain ⟨x, e1, h⟩ := bind_ok h
    refine semE hsp a _ S E e1 fun G1 H1 v1 S1 r1 => ?_
    unfold unop at h
    split at h
    · rename_i i hi
      cases h
      have r := r1.1.rdb
      rw [hi] at r
      rw [r.int]
      exact ⟨i, rfl, (q.back S1).int S1.gh⟩
    · cases h
  | .cmp op a b, σ, H, G, ρ, s, Q, S, E, h, q => by
    simp only [evE] at h
    obtain ⟨x, e1, h⟩ := bind_ok h
    obtain ⟨y, e2, h⟩ := bind_ok h
    obtain ⟨r, e3, h⟩ := bind_ok h
    cases pure_ok h
    exact semE hsp a _ S E e1 fun G1 H1 v1 S1 r1 => semE hsp b _ S1.gh (E.mono S1) e2 fun G2 H2 v2 S2 r2 =>
      cmpop_sem S2.gh (r1.1.rdb.mono S2) r2.1.rdb e3 ((q.back (S1.trans S2)).bool S2.gh)
  | .chn op op' a b c, σ, H, G, ρ, s, Q, S, E, h, q => by
    simp only [evE] at h
    obtain ⟨x, e1, h⟩ := bind_ok h
    obtain ⟨y, e2, h⟩ := bind_ok h
    obtain ⟨r, e3, h⟩ := bind_ok h
    refine semE hsp a _ S E e1 fun G1 H1 v1 S1 r1 => semE hsp b _ S1.gh (E.mono S1) e2 fun G2 H2 v2 S2 r2 =>
      cmpop_sem S2.gh (r1.1.rdb.mono S2) r2.1.rdb e3 ⟨r, rfl, ?_⟩
    cases r with
    | true =>
      rw [if_pos rfl] at h ⊢
      obtain ⟨z, e4, h⟩ := bind_ok h
      obtain ⟨r', e5, h⟩ := bind_ok h
      cases pure_ok h
      exact semE hsp c _ S2.gh ((E.mono S1).mono S2) e4 fun G3 H3 v3 S3 r3 => cmpop_sem S3.gh (r2.1.rdb.mono S3) r3.1.rdb e5 ((q.back ((S1.trans S2).trans S3)).bool S3.gh)
    | false =>
      rw [if_neg Bool.false_ne_true] at h ⊢
      cases pure_ok h
      exact (q.back (S1.trans S2)).bool S2.gh
  | .isN a, σ, H, G, ρ, s, Q, S, E, h, q => by
    simp only [evE] at h
    obtain ⟨x, e1, h⟩ := bind_ok h
    cases pure_ok h
    refine semE hsp a _ S E e1 fun G1 H1 v1 S1 r1 => ⟨rfl, ?_⟩
    rw [r1.1.rdb.none_iff]
    exact (q.back S1).bool S1.gh
  | .notN a, σ, H, G, ρ, s, Q, S, E, h, q => by
    simp only [evE] at h
    obtain ⟨x, e1, h⟩ := bind_ok h
    cases pure_ok h
    refine semE hsp a _ S E e1 fun G1 H1 v1 S1 r1 => ⟨rfl, ?_⟩
    rw [r1.1.rdb.none_iff]
    exact (q.back S1).bool S1.gh
  | .and a b, σ, H, G, ρ, s, Q, S, E, h, q => by
    simp only [evE] at h
    obtain ⟨x, e1, h⟩ := bind_ok h
    obtain ⟨c, e2, h⟩ := bind_ok h
    refine semE hsp a _ S E e1 fun G1 H1 v1 S1 r1 => ?_
    have r := r1.1.rdb
    rw [asB_ok e2] at r
    refine ⟨c, r.bool, ?_⟩
    cases c with
    | true =>
      rw [if_pos rfl] at h ⊢
      exact semE hsp b _ S1.gh (E.mono S1) h (q.back S1)
    | false =>
      rw [if_neg Bool.false_ne_true] at h ⊢
      cases pure_ok h
      exact (q.back S1).bool S1.gh
  | .or a b, σ, H, G, ρ, s, Q, S, E, h, q => by
    simp only [evE] at h
    obtain ⟨x, e1, h⟩ := bind_ok h
    obtain ⟨c, e2, h⟩ := bind_ok h
    refine semE hsp a _ S E e1 fun G1 H1 v1 S1 r1 => ?_
    have r := r1.1.rdb
    rw [asB_ok e2] at r
    refine ⟨c, r.bool, ?_⟩
    cases c with
    | true =>
      rw [if_pos rfl] at h ⊢
      cases pure_ok h
      exact (q.back S1).bool S1.gh
    | false =>
      rw [if_neg Bool.false_ne_true] at h ⊢
      exact semE hsp b _ S1.gh (E.mono S1) h (q.back S1)
  | .not a, σ, H, G, ρ, s, Q, S, E, h, q => by
    simp only [evE] at h
    obtain ⟨x, e1, h⟩ := bind_ok h
    obtain ⟨c, e2, h⟩ := bind_ok h
    cases pure_ok h
    refine semE hsp a _ S E e1 fun G1 H1 v1 S1 r1 => ?_
    have r := r1.1.rdb
    rw [asB_ok e2] at r
    exact ⟨c, r.bool, (q.back S1).bool S1.gh⟩
  | .ife c a b, σ, H, G, ρ, s, Q, S, E, h, q => by
    simp only [evE] at h
    obtain ⟨x, e1, h⟩ := bind_ok h
    obtain ⟨k, e2, h⟩ := bind_ok h
    refine semE hsp c _ S E e1 fun G1 H1 v1 S1 r1 => ?_
    have r := r1.1.rdb
    rw [asB_ok e2] at r
    refine ⟨k, r.bool, ?_⟩
    cases k with
    | true =>
      rw [if_pos rfl] at h ⊢
      exact semE hsp a _ S1.gh (E.mono S1) h (q.back S1)
    | false =>
      rw [if_neg Bool.false_ne_true] at h ⊢
      exact semE hsp b _ S1.gh (E.mono S1) h (q.back S1)
  | .tup es, σ, H, G, ρ, s, Q, S, E, h, q => by
    simp only [evE] at h
    split at h
    · obtain ⟨ds, e1, h⟩ := bind_ok h
      cases pure_ok h
      refine semF hsp es _ S E e1 fun G1 H1 vs S1 r1 => ⟨?_, fun p np => (q.back S1).tup S1.gh r1 np⟩
      rw [r1.length, evF_len cl es ds e1, sizeLine_eq]
      omega
    · cases h
  | .lst es, σ, H, G, ρ, s, Q, S, E, h, q => by
    simp only [evE] at h
    split at h
    · obtain ⟨ds, e1, h⟩ := bind_ok h
      cases pure_ok h
      refine semF hsp es _ S E e1 fun G1 H1 vs S1 r1 => ⟨?_, fun p np => (q.back S1).list S1.gh r1 np⟩
      rw [r1.length, evF_len cl es ds e1, sizeLine_eq]
      omega
    · cases h
  | .ix a i, σ, H, G, ρ, s, Q, S, E, h, q => by
    simp only [evE] at h
    obtain ⟨x, e1, h⟩ := bind_ok h
    obtain ⟨y, e2, h⟩ := bind_ok h
    by_cases hd : ∃ ds, x.d = .dict ds
    · obtain ⟨ds, hd⟩ := hd
      rw [hd] at h
      cases hy : keyOk y.d with
      | true => exact .inr (.inl (semE hsp a _ S E e1 fun G1 H1 v1 S1 r1 => semE hsp i _ S1.gh (E.mono S1) e2 fun G2 H2 v2 S2 r2 =>
          ixD_dictK hy S2.gh (hd ▸ r1.1.rdb.mono S2) r2.1.rdb h (q.back (S1.trans S2))))
      | false => exact .inr (.inr (.inl (semE hsp a _ S E e1 fun G1 H1 v1 S1 r1 => semE hsp i _ S1.gh (E.mono S1) e2 fun G2 H2 v2 S2 r2 =>
          ixD_dictN hy S2.gh (hd ▸ r1.1.rdb.mono S2) r2.1.rdb h (q.back (S1.trans S2)))))
    · by_cases hs : ∃ z, x.d = .str z
      · obtain ⟨z, hs⟩ := hs
        rw [hs] at h
        exact .inr (.inr (.inr (semE hsp a _ S E e1 fun G1 H1 v1 S1 r1 => semE hsp i _ S1.gh (E.mono S1) e2 fun G2 H2 v2 S2 r2 =>
          ixD_str S2.gh (hs ▸ r1.1.rdb.mono S2) r2.1.rdb h (q.back (S1.trans S2)))))
      exact .inl (semE hsp a _ S E e1 fun G1 H1 v1 S1 r1 => semE hsp i _ S1.gh (E.mono S1) e2 fun G2 H2 v2 S2 r2 =>
        ixD_sem hd hs S2.gh (r1.1.rdb.mono S2) r2.1.rdb h (q.back (S1.trans S2)))
  | .sl a lo hi, σ, H, G, ρ, s, Q, S, E, h, q => by
    simp only [evE] at h
    obtain ⟨x, e1, h⟩ := bind_ok h
    obtain ⟨l, e2, h⟩ := bind_ok h
    obtain ⟨u, e3, h⟩ := bind_ok h
    exact semE hsp a _ S E e1 fun G1 H1 v1 S1 r1 => semO hsp lo _ S1.gh (E.mono S1) e2 fun G2 H2 S2 => semO hsp hi _ S2.gh ((E.mono S1).mono S2) e3 fun G3 H3 S3 =>
      slD_sem S3.gh ((r1.1.rdb.mono S2).mono S3) h (q.back ((S1.trans S2).trans S3))
  | .call f es, σ, H, G, ρ, s, Q, S, E, h, q => by
    simp only [evE] at h
    obtain ⟨ss, e1, h⟩ := bind_ok h
    refine semA hsp es _ S E e1 fun G1 H1 vs S1 r1 => ?_
    rw [List.append_nil]
    exact hsp f vs H1 G1 ss s Q S1.gh r1 h (q.back S1)
  | .b1 b a, σ, H, G, ρ, s, Q, S, E, h, q => by
    simp only [evE] at h
    obtain ⟨x, e1, h⟩ := bind_ok h
    exact semE hsp a _ S E e1 fun G1 H1 v1 S1 r1 => b1D_sem S1.gh r1.1.rdb h (q.back S1)
  | .isx a c, σ, H, G, ρ, s, Q, S, E, h, q => by
    simp only [evE] at h
    obtain ⟨x, e1, h⟩ := bind_ok h
    intro kn
    refine semE hsp a _ S E e1 fun G1 H1 v1 S1 r1 => ?_
    unfold isxS at h
    split at h
    · rename_i z
      split at h
      · rename_i hc
        cases h
        have rr : Rp K G1 v1 (.dict [(.bool true, .str z)]) := r1.1
        cases rr with
        | dct _ h2 =>
          have := h2.plain
          cases this
        | xc ho hs => exact ⟨_, _, clsW K c, clsV K c, xsub z c, rfl, S1.gh _ _ hs, ho.ex, clsW_one, ho.is c hc kn, (q.back S1).bool S1.gh⟩
      · cases h
    · cases h
  | .ixs a cs, σ, H, G, ρ, s, Q, S, E, h, q => by
    simp only [evE] at h
    obtain ⟨x, e1, h⟩ := bind_ok h
    intro kn
    refine semE hsp a _ S E e1 fun G1 H1 v1 S1 r1 => ?_
    unfold ixsS at h
    split at h
    · rename_i z
      split at h
      · rename_i hc
        obtain ⟨hc, hl⟩ := and2 hc
        have hl := of_decide_eq_true hl
        cases h
        have rr : Rp K G1 v1 (.dict [(.bool true, .str z)]) := r1.1
        cases rr with
        | dct _ h2 =>
          have := h2.plain
          cases this
        | xc ho hs =>
          refine rdCs_run cs ⟨by rw [List.length_map, sizeLine_eq]; omega, fun p hp => ?_⟩
          have S5 := Step.new (o := .tup (cs.map (clsW K))) S1.gh hp
          exact ⟨_, _, p, _, cs.map (clsV K), cs.any (xsub z), rfl, S5.hh _ _ (S1.gh _ _ hs), ho.ex, upd_same, paired_cs cs, kitAny_all cs (fun c h => ho.is c (List.all_eq_true.mp hc c h) (kn c h)), (Nxt.back S5 (Nxt.back S1 q)).bool S5.gh⟩
      · cases h
    · cases h
  | .isi a t, σ, H, G, ρ, s, Q, S, E, h, q => by
    simp only [evE] at h
    obtain ⟨x, e1, h⟩ := bind_ok h
    split at h
    · rename_i hc
      cases pure_ok h
      refine semE hsp a _ S E e1 fun G1 H1 v1 S1 r1 => ?_
      have pl : nmkD x.d = true := hc
      exact isi_sem S1.gh pl r1.1.rdb ((q.back S1).bool S1.gh)
    · cases h
  | .lc elt tg it ifs vs, σ, H, G, ρ, s, Q, S, E, h, q => by
    simp only [evE] at h
    obtain ⟨xs, e1, h⟩ := bind_ok h
    obtain ⟨ys, e2, h⟩ := bind_ok h
    split at h
    · rename_i hl
      obtain ⟨hl, htg⟩ := and2 hl
      cases pure_ok h
      refine semI hsp it _ S E e1 fun J G1 H1 S1 hJ => ?_
      refine lc_sem S1.gh hJ (lenOk_ok hl) e2 (fun d v y G2 H2 Nx D S2 rv hf hn hs => ?_) (q.back S1)
      obtain ⟨ρ', f1, hf⟩ := bind_ok hf
      obtain ⟨c, f2, hf⟩ := bind_ok hf
      refine bindF_sem (tvs := vs) S2.gh (((E.mono S1).mono S2).wipe vs) rv f1 fun σ2 E2 sb => ⟨wipe_sameBut (sb htg), ?_⟩
      refine semC hsp ifs _ S2.gh E2 f2 fun G3 H3 S3 => ?_
      cases c with
      | true =>
        rw [if_pos rfl] at hf ⊢
        obtain ⟨z, f3, hf⟩ := bind_ok hf
        obtain ⟨d', f4, hf⟩ := bind_ok hf
        cases pure_ok hf
        refine semE hsp elt _ S3.gh (E2.mono S3) f3 fun G4 H4 w S4 r4 => ?_
        obtain ⟨G5, S5, S6, r5, sg⟩ := freeze S4 r4 f4
        exact hs d' rfl G5 H4 w (S3.trans S5) r5
      | false =>
        rw [if_neg Bool.false_ne_true] at hf ⊢
        cases pure_ok hf
        exact hn rfl G3 H3 S3
    · cases h
  | .lrg it, σ, H, G, ρ, s, Q, S, E, h, q => by
    simp only [evE] at h
    obtain ⟨xs, e1, h⟩ := bind_ok h
    split at h
    · rename_i hl
      obtain ⟨hl, hr⟩ := and2 hl
      cases pure_ok h
      have hl' := lenOk_ok hl
      rw [sizeLine_eq] at hl'
      cases it with
      | rg1 a =>
        simp only [evI] at e1
        obtain ⟨x, f1, e1⟩ := bind_ok e1
        refine semE hsp a _ S E f1 fun G1 H1 v1 S1 r1 => ?_
        split at e1
        · rename_i j hj
          have r := r1.1.rdb
          rw [hj] at r
          obtain ⟨a1, a2, a3, a4, rfl⟩ := rng_ok e1
          rw [List.length_map, List.length_range] at hl'
          exact ⟨j, r.int, ⟨a1, a2, a3, a4, by omega⟩, fun p np => (q.back S1).list S1.gh (RpA.rng 0 _) np⟩
        · cases e1
      | rg2 a b =>
        simp only [evI] at e1
        obtain ⟨x, f1, e1⟩ := bind_ok e1
        obtain ⟨y, f2, e1⟩ := bind_ok e1
        refine semE hsp a _ S E f1 fun G1 H1 v1 S1 r1 => semE hsp b _ S1.gh (E.mono S1) f2 fun G2 H2 v2 S2 r2 => ?_
        split at e1
        · rename_i i j hi hj
          have ra := r1.1.rdb
          rw [hi] at ra
          have rb := r2.1.rdb
          rw [hj] at rb
          obtain ⟨a1, a2, a3, a4, rfl⟩ := rng_ok e1
          rw [List.length_map, List.length_range] at hl'
          exact ⟨i, j, ra.int, rb.int, ⟨a1, a2, a3, a4, by omega⟩, fun p np => (q.back (S1.trans S2)).list S2.gh (RpA.rng i _) np⟩
        · cases e1
      | _ => cases hr
    · cases h
  | .glb y n, σ, H, G, ρ, s, Q, S, E, h, q => by
    cases h
    exact q.int S
  | .mm mx a b, σ, H, G, ρ, s, Q, S, E, h, q => by
    simp only [evE] at h
    obtain ⟨x, e1, h⟩ := bind_ok h
    obtain ⟨y, e2, h⟩ := bind_ok h
    exact semE hsp a _ S E e1 fun G1 H1 v1 S1 r1 => semE hsp b _ S1.gh (E.mono S1) e2 fun G2 H2 v2 S2 r2 =>
      mmD_sem S2.gh (r1.1.rdb.mono S2) r2.1.rdb h (q.back (S1.trans S2))
  | .rvl a, σ, H, G, ρ, s, Q, S, E, h, q => by
    simp only [evE] at h
    obtain ⟨x, e1, h⟩ := bind_ok h
    exact semE hsp a _ S E e1 fun G1 H1 v1 S1 r1 => rvD_sem S1.gh r1.1.rdb h (q.back S1)
  | .nev, σ, H, G, ρ, s, Q, S, E, h, q => by
    cases h
  | .dnw, σ, H, G, ρ, s, Q, S, E, h, q => by
    cases h
    exact fun p np => q G _ _ (.new S np) (.newD S np .nil)
  | .dsp1 k v, σ, H, G, ρ, s, Q, S, E, h, q => by
    simp only [evE] at h
    obtain ⟨x, e1, h⟩ := bind_ok h
    obtain ⟨y, e2, h⟩ := bind_ok h
    obtain ⟨d, e3, h⟩ := bind_ok h
    split at h
    · rename_i hk
      cases pure_ok h
      intro p np
      have S0 : Step G H G (upd H p (.dK [])) := .new S np
      have gp : G p = none := S.free np
      refine semE hsp k _ S0.gh (E.mono S0) e1 fun G1 H1 v1 S1 r1 => semE hsp v _ S1.gh ((E.mono S0).mono S1) e2 fun G2 H2 v2 S2 r2 => ?_
      obtain ⟨G3, S3, S4, r3, sg⟩ := freeze S2 r2 e3
      have hp1 := S1.hh _ _ (upd_same (H := H) (a := p) (o := .dK []))
      have hp2 := S3.hh _ _ hp1
      have g1 := S1.fr _ _ (upd_same (H := H) (a := p) (o := .dK [])) gp
      have g3 := S3.fr _ _ hp1 g1
      obtain ⟨k', ek⟩ := key_of hk
      have rk := r1.1.rdb
      rw [ek] at rk
      have ev := rk.key
      subst ev
      refine ⟨hp2, [(k', v2)], rfl, by simp, ?_⟩
      have SS := (S0.trans S1).trans S3
      refine q G3 _ _ (SS.chg np g3) ⟨⟨p, _, rfl, g3, upd_same, ?_⟩, fun _ => ⟨p, rfl, np⟩⟩
      rw [ek]
      exact .dct (.cons r3 .nil)
    · cases h
  | .sst a, σ, H, G, ρ, s, Q, S, E, h, q => by
    simp only [evE] at h
    obtain ⟨x, e1, h⟩ := bind_ok h
    exact semE hsp a _ S E e1 fun G1 H1 v1 S1 r1 => sst_sem S1.gh r1.1.rdb h (q.back S1)
  | .pk2 a b c, σ, H, G, ρ, s, Q, S, E, h, q => by
    simp only [evE] at h
    obtain ⟨x, e1, h⟩ := bind_ok h
    obtain ⟨dx, e2, h⟩ := bind_ok h
    obtain ⟨y, e3, h⟩ := bind_ok h
    obtain ⟨dy, e4, h⟩ := bind_ok h
    obtain ⟨z, e5, h⟩ := bind_ok h
    obtain ⟨k, e6, h⟩ := bind_ok h
    cases pure_ok h
    refine semE hsp a _ S E e1 fun G1 H1 v1 S1 r1 => ?_
    obtain ⟨G2, S2, _, r2, _⟩ := freeze S1 r1 e2
    refine semE hsp b _ S2.gh (E.mono S2) e3 fun G3 H3 v3 S3 r3 => ?_
    obtain ⟨G4, S4, _, r4, _⟩ := freeze S3 r3 e4
    refine ⟨by show 2 ≤ sizeLine; decide, fun p hp => ?_⟩
    have S5 := Step.new (o := .lst [v1, v3]) S4.gh hp
    have SS := (S2.trans S4).trans S5
    refine semE hsp c _ S5.gh (E.mono SS) e5 fun G6 H6 v6 S6 r6 => ?_
    have rb := r6.1.rdb
    rw [asB_ok e6] at rb
    have eb := rb.bool
    subst eb
    refine .inl (.inr ⟨k, rfl, ?_⟩)
    have S7 := SS.trans S6
    have t6 : H6 p = some (.lst [v1, v3]) := S6.hh _ _ upd_same
    have n6 : G6 p = none := S6.fr _ _ upd_same (S4.gh.free hp)
    have rr : RpA K G6 [v1, v3] [dx, dy] := .cons (Rp.mono ((S4.trans S5).trans S6).gg _ _ r2) (.cons (Rp.mono (S5.trans S6).gg _ _ r4) .nil)
    have rx : Rdb K G6 H6 (.ref p) (.list [dx, dy]) := .inr (.inl ⟨p, _, rfl, n6, t6, .base (.lst rr)⟩)
    have ry : Rdb K G6 H6 (.int (if k then 1 else 0)) (.int (if k then 1 else 0)) := .inl (.int _)
    have hx : ixD (.list [dx, dy]) (.int (if k then 1 else 0)) = .ok ⟨.f, if k then dy else dx⟩ := by cases k <;> rfl
    exact ixD_sem (fun ⟨_, e⟩ => nomatch e) (fun ⟨_, e⟩ => nomatch e) S6.gh rx ry hx (Nxt.back S7 q)
  | .mc _ _ _ _ _, σ, H, G, ρ, s, Q, S, E, h, q => by simp only [evE] at h; cases h
  | .mkc _ _ _, σ, H, G, ρ, s, Q, S, E, h, q => by simp only [evE] at h; cases h
  | .dnn, σ, H, G, ρ, s, Q, S, E, h, q => by simp only [evE] at h; cases h
  | .lns a, σ, H, G, ρ, s, Q, S, E, h, q => by
    simp only [evE] at h
    obtain ⟨x, e1, h⟩ := bind_ok h
    exact semE hsp a _ S E e1 fun G1 H1 v1 S1 r1 => lns_sem S1.gh r1.1.rdb h (q.back S1)
  | .u1 k a, σ, H, G, ρ, s, Q, S, E, h, q => by
    simp only [evE] at h
    obtain ⟨x, e1, h⟩ := bind_ok h
    exact u1_sem S (fun Q' k' => semE hsp a _ S E e1 k') h q
  | .u2 k a b, σ, H, G, ρ, s, Q, S, E, h, q => by
    simp only [evE] at h
    obtain ⟨x, e1, h⟩ := bind_ok h
    obtain ⟨y, e2, h⟩ := bind_ok h
    exact u2_sem S (fun Q' k' => semE hsp a _ S E e1 k') (fun G1 H1 Q' S1 k' => semE hsp b _ S1.gh (E.mono S1) e2 k') h q
  | .u3 k a b c, σ, H, G, ρ, s, Q, S, E, h, q => by
    simp only [evE] at h
    obtain ⟨x, e1, h⟩ := bind_ok h
    obtain ⟨y, e2, h⟩ := bind_ok h
    obtain ⟨z, e3, h⟩ := bind_ok h
    obtain ⟨dz, e4, h⟩ := bind_ok h
    exact u3_sem S (fun Q' k' => semE hsp a _ S E e1 k') (fun G1 H1 Q' S1 k' => semE hsp b _ S1.gh (E.mono S1) e2 k') (fun G1 H1 Q' S1 k' => semE hsp c _ S1.gh (E.mono S1) e3 k') e4 h q
  | .lcd elt tg i ifs vs, σ, H, G, ρ, s, Q, S, E, h, q => by
    simp only [evE] at h
    split at h
    · rename_i m ds hi
      obtain ⟨ys, e2, h⟩ := bind_ok h
      split at h
      · rename_i hc
        obtain ⟨hc, htg⟩ := and2 hc
        obtain ⟨hm, hl⟩ := and2 hc
        cases pure_ok h
        have core : ∀ {G H : Hp} {a : Addr} {od : Obj} {kvs : List (Key × V)} {Q : VK}, Same G H → EnvR K G H σ ρ → σ[i]? = some (some (.ref a)) → H a = some (.frz od (.dK kvs)) → RpK K G kvs ds → Nxt K G H ⟨.o, .list ys⟩ Q →
            tLc (iKeys (tVar i)) (gTg K tg) (rdC K sp ifs) (rdE K sp elt) vs σ H Q := fun {G H a od kvs Q} S E hs ha hk q => by
          refine ⟨.ref a, hs, a, od, rfl, .inl ⟨kvs, ha, ?_⟩⟩
          refine lc_sem S (iter_keysD ha hk) (by rw [List.length_map]; exact lenOk_ok hl) e2 (fun d v y G2 H2 Nx D S2 rv hf hn hs => ?_) q
          obtain ⟨ρ', f1, hf⟩ := bind_ok hf
          obtain ⟨c, f2, hf⟩ := bind_ok hf
          refine bindF_sem (tvs := vs) S2.gh ((E.mono S2).wipe vs) rv f1 fun σ2 E2 sb => ⟨wipe_sameBut (sb htg), ?_⟩
          refine semC hsp ifs _ S2.gh E2 f2 fun G3 H3 S3 => ?_
          cases c with
          | true =>
            rw [if_pos rfl] at hf ⊢
            obtain ⟨z, f3, hf⟩ := bind_ok hf
            obtain ⟨d', f4, hf⟩ := bind_ok hf
            cases pure_ok hf
            refine semE hsp elt _ S3.gh (E2.mono S3) f3 fun G4 H4 w S4 r4 => ?_
            obtain ⟨G5, S5, S6, r5, sg⟩ := freeze S4 r4 f4
            exact hs d' rfl G5 H4 w (S3.trans S5) r5
          | false =>
            rw [if_neg Bool.false_ne_true] at hf ⊢
            cases pure_ok hf
            exact hn rfl G3 H3 S3
        obtain ⟨v, e1, r⟩ := E.at_ _ _ hi
        have rx : Rdb K G H v (.dict ds) := by
          cases m with
          | f => exact .inl r
          | o => exact .inr (.inl r)
          | p => exact .inr r
        obtain ⟨a, kvs, rfl, ra, qa⟩ := rx.dict S hm
        rcases ra with ra | ⟨od, ra⟩
        · refine .inr ⟨a, .dK kvs, ra, True.intro, fun od => ?_⟩
          have hu : ∀ o, H a = some o → o = .dK kvs := fun o e => by rw [ra] at e; cases e; rfl
          have hG : ∀ o, G a = some o → o = .dK kvs := fun o e => hu o (S _ _ e)
          rw [lk_upd ra]
          refine core (od := od) (Same.lk S) (E.lk S hu) e1 (lk_at ra) (RpK.rd (rd_lk hG) (xc_lk hG) _ _ qa) fun G' H' w S1 r1 => ?_
          have hd := S1.hh _ _ (lk_at ra)
          have hf : ∀ o, H' a = some o → o = .frz od (.dK kvs) := fun o e => by rw [hd] at e; cases e; rfl
          refine ⟨hd, ?_⟩
          rw [ul_upd hd]
          exact q _ _ w (Step.ul hu S S1) (r1.ul S1.gh hf)
        · exact .inl (core S E e1 ra qa q)
      · cases h
    · cases h
  | .gk y d, σ, H, G, ρ, s, Q, S, E, h, q => by
    cases h
    exact fun v hv => q G H v (.refl S) (.f (hv G))
  | .gdx y kvs i, σ, H, G, ρ, s, Q, S, E, h, q => by
    simp only [evE] at h
    obtain ⟨x, e1, h⟩ := bind_ok h
    exact semE hsp i _ S E e1 fun G1 H1 v1 S1 r1 => gdx_sem S1.gh r1.1.rdb h (q.back S1)
  | .dsp ps, σ, H, G, ρ, s, Q, S, E, h, q => by
    simp only [evE] at h
    obtain ⟨kvs, e1, h⟩ := bind_ok h
    split at h
    · rename_i hl
      cases pure_ok h
      intro p np
      have S0 : Step G H G (upd H p (.dK [])) := .new S np
      have gp : G p = none := S.free np
      refine semP hsp ps _ S0.gh (E.mono S0) e1 fun G1 H1 ks S1 r1 => ?_
      have hp1 := S1.hh _ _ (upd_same (H := H) (a := p) (o := .dK []))
      have g1 := S1.fr _ _ (upd_same (H := H) (a := p) (o := .dK [])) gp
      refine ⟨hp1, ks, rfl, by rw [r1.length]; exact of_decide_eq_true hl, ?_⟩
      refine q G1 _ _ ((S0.trans S1).chg np g1) ⟨⟨p, _, rfl, g1, upd_same, ?_⟩, fun _ => ⟨p, rfl, np⟩⟩
      exact .dct (RpK.merge r1 .nil)
    · cases h
theorem semP (hsp : Hsp K sp cl) : ∀ (ps : Ps) {σ : L2.St} {H G : Hp} {ρ : Rho} {kvs : List (D × D)} (Q : List (V × V) → Hp → Prop), Same G H → EnvR K G H σ ρ → evP cl ps ρ = .ok kvs →
    (∀ G' H' (ks : List (Key × V)), Step G H G' H' → RpK K G' ks kvs → Q (ks.map fun kv => (kV kv.1, kv.2)) H') → tPairs (rdP K sp ps) σ H Q
  | .nil, σ, H, G, ρ, kvs, Q, S, E, h, q => by
    cases h
    exact q G H [] (.refl S) .nil
  | .cons k v r, σ, H, G, ρ, kvs, Q, S, E, h, q => by
    simp only [evP] at h
    obtain ⟨x, e1, h⟩ := bind_ok h
    obtain ⟨y, e2, h⟩ := bind_ok h
    obtain ⟨d, e3, h⟩ := bind_ok h
    obtain ⟨ds, e4, h⟩ := bind_ok h
    split at h
    · rename_i hk
      cases pure_ok h
      refine semE hsp k _ S E e1 fun G1 H1 v1 S1 r1 => semE hsp v _ S1.gh (E.mono S1) e2 fun G2 H2 v2 S2 r2 => ?_
      obtain ⟨G3, S3, S4, r3, sg⟩ := freeze S2 r2 e3
      obtain ⟨k', ek⟩ := key_of hk
      have rk := r1.1.rdb
      rw [ek] at rk
      have ev := rk.key
      subst ev
      refine semP hsp r _ S3.gh ((E.mono S1).mono S3) e4 fun G4 H4 ks S5 r5 => ?_
      refine q G4 H4 ((k', v2) :: ks) ((S1.trans S3).trans S5) ?_
      rw [ek]
      exact .cons (Rp.mono S5.gg _ _ r3) r5
    · cases h
theorem semF (hsp : Hsp K sp cl) : ∀ (es : Es) {σ : L2.St} {H G : Hp} {ρ : Rho} {ds : List D} (Q : List V → Hp → Prop), Same G H → EnvR K G H σ ρ → evF cl es ρ = .ok ds →
    (∀ G' H' vs, Step G H G' H' → RpA K G' vs ds → Q vs H') → rdA K sp es σ H Q
  | .nil, σ, H, G, ρ, ds, Q, S, E, h, q => by
    cases h
    exact q G H [] (.refl S) .nil
  | .cons e es, σ, H, G, ρ, ds, Q, S, E, h, q => by
    simp only [evF] at h
    obtain ⟨x, e1, h⟩ := bind_ok h
    obtain ⟨d, e2, h⟩ := bind_ok h
    obtain ⟨r, e3, h⟩ := bind_ok h
    cases pure_ok h
    refine semE hsp e _ S E e1 fun G1 H1 v S1 r1 => ?_
    obtain ⟨G2, S2, S3, r2, sg⟩ := freeze S1 r1 e2
    exact semF hsp es _ S2.gh (E.mono S2) e3 fun G4 H4 vs S4 r4 => q G4 H4 (v :: vs) (S2.trans S4) (.cons (Rp.mono S4.gg _ _ r2) r4)
theorem semA (hsp : Hsp K sp cl) : ∀ (es : Es) {σ : L2.St} {H G : Hp} {ρ : Rho} {ss : List Sl} (Q : List V → Hp → Prop), Same G H → EnvR K G H σ ρ → evA cl es ρ = .ok ss →
    (∀ G' H' vs, Step G H G' H' → ArgsR K G' H' vs ss → Q vs H') → rdA K sp es σ H Q
  | .nil, σ, H, G, ρ, ss, Q, S, E, h, q => by
    cases h
    exact q G H [] (.refl S) .nil
  | .cons e es, σ, H, G, ρ, ss, Q, S, E, h, q => by
    simp only [evA] at h
    obtain ⟨x, e1, h⟩ := bind_ok h
    obtain ⟨r, e3, h⟩ := bind_ok h
    cases pure_ok h
    refine semE hsp e _ S E e1 fun G1 H1 v S1 r1 => ?_
    have key : ∃ G2, Step G H G2 H1 ∧ SlR K G2 H1 v (argS x) ∧ (argS x).m ≠ .o := by
      obtain ⟨m, d⟩ := x
      cases m with
      | f => exact ⟨G1, S1, r1.1, fun z => nomatch z⟩
      | p => exact ⟨G1, S1, r1.1, fun z => nomatch z⟩
      | o =>
        obtain ⟨G2, S2, _, r2, _⟩ := freeze (d := d) S1 r1 rfl
        exact ⟨G2, S2, r2, fun z => nomatch z⟩
    obtain ⟨G2, S2, r2, hm⟩ := key
    exact semA hsp es _ S2.gh (E.mono S2) e3 fun G4 H4 vs S4 r4 => q G4 H4 (v :: vs) (S2.trans S4) (.cons (r2.mono S4) hm r4)
theorem semO (hsp : Hsp K sp cl) : ∀ (e : Eo) {σ : L2.St} {H G : Hp} {ρ : Rho} {o : Option Int} (Q : Option Int → Hp → Prop), Same G H → EnvR K G H σ ρ → evO cl e ρ = .ok o →
    (∀ G' H', Step G H G' H' → Q o H') → rdO K sp e σ H Q
  | .none, σ, H, G, ρ, o, Q, S, E, h, q => by
    cases h
    exact q G H (.refl S)
  | .some e, σ, H, G, ρ, o, Q, S, E, h, q => by
    simp only [evO] at h
    obtain ⟨x, e1, h⟩ := bind_ok h
    refine semE hsp e _ S E e1 fun G1 H1 v S1 r1 => ?_
    split at h
    · rename_i i hi
      cases pure_ok h
      have r := r1.1.rdb
      rw [hi] at r
      exact ⟨i, r.int, q G1 H1 S1⟩
    · cases h
theorem semC (hsp : Hsp K sp cl) : ∀ (e : Eo) {σ : L2.St} {H G : Hp} {ρ : Rho} {b : Bool} (Q : Bool → Hp → Prop), Same G H → EnvR K G H σ ρ → evC cl e ρ = .ok b →
    (∀ G' H', Step G H G' H' → Q b H') → rdC K sp e σ H Q
  | .none, σ, H, G, ρ, b, Q, S, E, h, q => by
    cases h
    exact q G H (.refl S)
  | .some e, σ, H, G, ρ, b, Q, S, E, h, q => by
    simp only [evC] at h
    obtain ⟨x, e1, h⟩ := bind_ok h
    refine semE hsp e _ S E e1 fun G1 H1 v S1 r1 => ?_
    have r := r1.1.rdb
    rw [asB_ok h] at r
    exact ⟨b, r.bool, q G1 H1 S1⟩
theorem semI (hsp : Hsp K sp cl) : ∀ (i : Iu) {σ : L2.St} {H G : Hp} {ρ : Rho} {xs : List D} (R : It → Hp → Prop), Same G H → EnvR K G H σ ρ → evI cl i ρ = .ok xs →
    (∀ J G' H', Step G H G' H' → IterR K G' H' J xs → R J H') → rdI K sp i σ H R
  | .rg1 a, σ, H, G, ρ, xs, R, S, E, h, q => by
    simp only [evI] at h
    obtain ⟨x, e1, h⟩ := bind_ok h
    refine semE hsp a _ S E e1 fun G1 H1 v S1 r1 => ?_
    split at h
    · rename_i j hj
      have r := r1.1.rdb
      rw [hj] at r
      obtain ⟨a1, a2, a3, a4, rfl⟩ := rng_ok h
      refine ⟨j, by rw [r.int], a3, a4, q _ G1 H1 S1 ?_⟩
      rw [Int.sub_zero]
      exact iter_rng
    · cases h
  | .rg2 a b, σ, H, G, ρ, xs, R, S, E, h, q => by
    simp only [evI] at h
    obtain ⟨x, e1, h⟩ := bind_ok h
    obtain ⟨y, e2, h⟩ := bind_ok h
    refine semE hsp a _ S E e1 fun G1 H1 v1 S1 r1 => semE hsp b _ S1.gh (E.mono S1) e2 fun G2 H2 v2 S2 r2 => ?_
    split at h
    · rename_i i j hi hj
      have ra := r1.1.rdb
      rw [hi] at ra
      have rb := r2.1.rdb
      rw [hj] at rb
      obtain ⟨a1, a2, a3, a4, rfl⟩ := rng_ok h
      exact ⟨i, j, by rw [ra.int, rb.int], ⟨a1, a2, a3, a4⟩, q _ G2 H2 (S1.trans S2) iter_rng⟩
    · cases h
  | .seq e, σ, H, G, ρ, xs, R, S, E, h, q => by
    simp only [evI] at h
    obtain ⟨x, e1, h⟩ := bind_ok h
    rcases seqD_ok h with hd | hd | ⟨z, hd, rfl⟩
    · refine .inl (semE hsp e _ S E e1 fun G1 H1 v1 S1 r1 => ?_)
      have r := r1.1.rdb
      rw [hd] at r
      obtain ⟨a, vs, rfl, ra, qa⟩ := r.list S1.gh
      exact ⟨a, rfl, ⟨vs, ra⟩, q _ G1 H1 S1 (iter_list ra qa)⟩
    · refine .inr (.inl (semE hsp e _ S E e1 fun G1 H1 v1 S1 r1 => ?_))
      have r := r1.1.rdb
      rw [hd] at r
      obtain ⟨a, vs, rfl, ra, qa⟩ := r.tuple S1.gh
      exact ⟨a, rfl, ⟨vs, ra⟩, q _ G1 H1 S1 (iter_tup ra qa)⟩
    · refine .inr (.inr (semE hsp e _ S E e1 fun G1 H1 v1 S1 r1 => ?_))
      have r := r1.1.rdb
      rw [hd] at r
      exact ⟨z, r.str, q _ G1 H1 S1 iter_str⟩
  | .rg3 a b c, σ, H, G, ρ, xs, R, S, E, h, q => by
    simp only [evI] at h
    obtain ⟨x, e1, h⟩ := bind_ok h
    obtain ⟨y, e2, h⟩ := bind_ok h
    obtain ⟨z, e3, h⟩ := bind_ok h
    refine semE hsp a _ S E e1 fun G1 H1 v1 S1 r1 => semE hsp b _ S1.gh (E.mono S1) e2 fun G2 H2 v2 S2 r2 => semE hsp c _ S2.gh ((E.mono S1).mono S2) e3 fun G3 H3 v3 S3 r3 => ?_
    split at h
    · rename_i i j k hi hj hk
      have ra := r1.1.rdb
      rw [hi] at ra
      have rb := r2.1.rdb
      rw [hj] at rb
      have rc := r3.1.rdb
      rw [hk] at rc
      obtain ⟨g, rfl⟩ := rng3_ok h
      exact ⟨i, j, k, _, by rw [ra.int, rb.int, rc.int], g, q _ G3 H3 ((S1.trans S2).trans S3) iter_rngC⟩
    · cases h
  | .enm e, σ, H, G, ρ, xs, R, S, E, h, q => by
    simp only [evI] at h
    obtain ⟨x, e1, h⟩ := bind_ok h
    obtain ⟨ds, e2, h⟩ := bind_ok h
    cases pure_ok h
    unfold itemsD at e2
    split at e2
    · rename_i ds hd
      cases e2
      refine .inl (semE hsp e _ S E e1 fun G1 H1 v1 S1 r1 => ?_)
      have r := r1.1.rdb
      rw [hd] at r
      obtain ⟨a, vs, rfl, ra, qa⟩ := r.list S1.gh
      exact ⟨a, vs, rfl, ra, q _ G1 H1 S1 (iter_enum ra qa)⟩
    · rename_i ds hd
      cases e2
      refine .inr (semE hsp e _ S E e1 fun G1 H1 v1 S1 r1 => ?_)
      have r := r1.1.rdb
      rw [hd] at r
      obtain ⟨a, vs, rfl, ra, qa⟩ := r.tuple S1.gh
      exact ⟨a, vs, rfl, ra, q _ G1 H1 S1 (iter_enumT ra qa)⟩
    · cases e2
  | .zp a b, σ, H, G, ρ, xs, R, S, E, h, q => by
    simp only [evI] at h
    obtain ⟨x, e1, h⟩ := bind_ok h
    obtain ⟨y, e2, h⟩ := bind_ok h
    refine semE hsp a _ S E e1 fun G1 H1 v1 S1 r1 => semE hsp b _ S1.gh (E.mono S1) e2 fun G2 H2 v2 S2 r2 => ?_
    unfold pairD at h
    split at h
    · rename_i xs' ys' hx hy
      cases h
      have ra := r1.1.rdb.mono S2
      rw [hx] at ra
      have rb := r2.1.rdb
      rw [hy] at rb
      obtain ⟨a1, vs, rfl, ra, qa⟩ := ra.list S2.gh
      obtain ⟨b1, ws, rfl, rb, qb⟩ := rb.list S2.gh
      exact ⟨a1, b1, vs, ws, rfl, .inl ⟨ra, rb, q _ G2 H2 (S1.trans S2) (iter_zip ra rb qa qb)⟩⟩
    · rename_i xs' ys' hx hy
      cases h
      have ra := r1.1.rdb.mono S2
      rw [hx] at ra
      have rb := r2.1.rdb
      rw [hy] at rb
      obtain ⟨a1, vs, rfl, ra, qa⟩ := ra.tuple S2.gh
      obtain ⟨b1, ws, rfl, rb, qb⟩ := rb.tuple S2.gh
      exact ⟨a1, b1, vs, ws, rfl, .inr (.inl ⟨ra, rb, q _ G2 H2 (S1.trans S2) (iter_zipT ra rb qa qb)⟩)⟩
    · rename_i xs' ys' hx hy
      cases h
      have ra := r1.1.rdb.mono S2
      rw [hx] at ra
      have rb := r2.1.rdb
      rw [hy] at rb
      obtain ⟨a1, vs, rfl, ra, qa⟩ := ra.tuple S2.gh
      obtain ⟨b1, ws, rfl, rb, qb⟩ := rb.list S2.gh
      exact ⟨a1, b1, vs, ws, rfl, .inr (.inr ⟨ra, rb, q _ G2 H2 (S1.trans S2) (iter_zipM ra rb qa qb)⟩)⟩
    · cases h
  | .rev e, σ, H, G, ρ, xs, R, S, E, h, q => by
    simp only [evI] at h
    obtain ⟨x, e1, h⟩ := bind_ok h
    obtain ⟨ds, e2, h⟩ := bind_ok h
    cases pure_ok h
    refine semE hsp e _ S E e1 fun G1 H1 v1 S1 r1 => ?_
    have r := r1.1.rdb
    unfold itemsD at e2
    split at e2
    · rename_i ds hd
      cases e2
      rw [hd] at r
      obtain ⟨a, vs, rfl, ra, qa⟩ := r.list S1.gh
      exact ⟨a, vs, rfl, .inl ⟨ra, q _ G1 H1 S1 (iter_rev ra qa)⟩⟩
    · rename_i ds hd
      cases e2
      rw [hd] at r
      obtain ⟨a, vs, rfl, ra, qa⟩ := r.tuple S1.gh
      exact ⟨a, vs, rfl, .inr ⟨ra, q _ G1 H1 S1 (iter_revT ra qa)⟩⟩
    · cases e2
  | .rvr a, σ, H, G, ρ, xs, R, S, E, h, q => by
    simp only [evI] at h
    obtain ⟨x, e1, h⟩ := bind_ok h
    refine semE hsp a _ S E e1 fun G1 H1 v S1 r1 => ?_
    split at h
    · rename_i j hj
      obtain ⟨ys, e2, h⟩ := bind_ok h
      cases pure_ok h
      have r := r1.1.rdb
      rw [hj] at r
      obtain ⟨a1, a2, a3, a4, rfl⟩ := rng_ok e2
      refine ⟨j, r.int, by decide, by decide, a3, a4, q _ G1 H1 S1 ?_⟩
      exact iter_rvr
    · cases h
end
end
end GK

namespace GK
open PySem PySem.Spec PyProof.Rows L2

/-! ### readings of statements -/
def rInsert : V → List V → Hp → VK → Prop := fun x vs H Q => ∃ (l : Addr) (xs : List V) (i : Int) (y : V), x = .ref l ∧ vs = [.int i, y] ∧ H l = some (.lst xs) ∧ xs.length < sizeLine ∧ 0 ≤ i ∧ i < 2 ^ 63 ∧
    Q .non (upd H l (.lst (xs.take i.toNat ++ [y] ++ xs.drop i.toNat)))
def ipOp (op : Operator) : TIp := match op with
  | .Add => ipI fun i j => i + j
  | .Sub => ipI fun i j => i - j
  | _ => fun _ _ _ _ => False
section
variable (K : PySem.W.Frag) (sp : Str → Sp)
/-- what is done with what a call hands back -/
def ckT (k : Ck) (te : TE) : TS := match k with
  | .asg t => tAsg te (gTg K t)
  | .ret => tRet te
  | .exp => tDrop te
/-- [f, g][int(c)](es) -/
def tPkC (tc : TE) (spf spg : Sp) (E : L2.St → XK) (ta : TA) : TE := fun σ H Q => ∀ fa ga : Addr, tOp (rIx2 K) (tLst (tCons (tC (.ref fa)) (tCons (tC (.ref ga)) tNil))) (tCB (rB1 K .int) (tCons tc tNil)) σ H fun x H1 =>
  ∃ k : Bool, x = .ref (if k then ga else fa) ∧ tCallS (if k then spg else spf) E ta σ H1 Q
/-- readings of parts that may raise -/
def rdXa (W : WX) : Xa → TE
  | .p e => rdE K sp e
  | .c f es => tCallS (sp f) (WE W) (rdA K sp es)
  | .l f es i it => tLcR W (rdI K sp it) (gTg K (.nm i)) (sp f) (rdA K sp es) [i]
  | .tl f es i it => tCB (rB1 K .tuple) (tCons (tLcR W (rdI K sp it) (gTg K (.nm i)) (sp f) (rdA K sp es) [i]) tNil)
def rdXs (W : WX) : List Xa → TA
  | [] => tNil
  | x :: xs => tCons (rdXa K sp W x) (rdXs W xs)
def rdXe (W : WX) : Xe → TE
  | .a x => rdXa K sp W x
  | .t xs => tTup (rdXs K sp W xs)
/-- readings of parts that change something -/
def rdEf (W : WX) : Ef → TE
  | .xe x => rdXe K sp W x
  | .call f es => tCallS (sp f) (WE W) (rdA K sp es)
  | .pk f g c es => tPkC K (rdE K sp c) (sp f) (sp g) (WE W) (rdA K sp es)
  | .pop x => tBM0 K "list" rPop (tVar x)
  | .popA x i => tBM K "list" rPopAt (tVar x) (tCons (rdE K sp i) tNil)
  | .popK x k => tDPop1 (tVar x) (rdE K sp k)
def rdPo (t : TE) : Po → TE
  | .hd => t
  | .ixn p n => tOp (rIx2 K) (rdPo t p) (tC (.int (n : Int)))
  | .isN p => tOp (fun x y H Q => y = .non ∧ Q (.bl (decide (x = .non))) H) (rdPo t p) (tC .non)
  | .eqS p z => tOp (rCmp K .Eq) (rdPo t p) (tC (.str z))
  | .lst1 p => tLst (tCons (rdPo t p) tNil)
  | .tupS z p => tTup (tCons (tC (.str z)) (tCons (rdPo t p) tNil))
  | .opI op a p => tOp (rOp K op) (tC (.int (a : Int))) (rdPo t p)
  | .ixv y p => tDGet (tVar y) (rdPo t p)
/-- the classes that clauses name -/
def hsNames : Hs → List Str
  | .nil => []
  | .cons cs _ _ r => cs ++ hsNames r
mutual
def rdS : S → WX → TS
  | .ef k e p, W => match k with
    | .asg t => tAsg (rdPo K (rdEf K sp W e) p) (gTg K t)
    | .ret => tRet (rdPo K (rdEf K sp W e) p)
    | .exp => tDrop (rdPo K (rdEf K sp W e) p)
    | .app y => tDrop (tBM K "list" rAppend (tVar y) (tCons (rdPo K (rdEf K sp W e) p) tNil))
    | .set y i => tAsg (rdPo K (rdEf K sp W e) p) (gSub (tVar y) (rdE K sp i) (rSet2 K))
  | .eft e p a b, W => tIfS (tB (rdPo K (rdEf K sp W e) p)) (rdSs a W) (rdSs b W)
  | .fst t x y c, W => tFor (rdI K sp (.seq (.var x))) (gName t) (tSeq (tAsg (rdE K sp (.bl c)) (gSub (tVar y) (rdE K sp (.var t)) (rSet2 K))) tNext)
  | .ins x i e, _ => tDrop (tBM K "list" rInsert (tVar x) (tCons (rdE K sp i) (tCons (rdE K sp e) tNil)))
  | .mt0 k x, _ => match k with
    | .rev => tDrop (tBM0 K "list" rReverse (tVar x))
    | .clr => tDrop (tBM0 K "list" rClear (tVar x))
  | .mt1 k x e, _ => match k with
    | .rem => tDrop (tBM K "list" rRemI (tVar x) (tCons (rdE K sp e) tNil))
  | .mt2 k x e1 e2, _ => match k with
    | .sdf => tDrop (tDSetd (tVar x) (rdE K sp e1) (rdE K sp e2))
  | .fdk t i b, W => fun D σ H => tFor (iKeys (tVar i)) (gTg K t) (rdSs b W) D σ H ∨ tLock (tFor (iKeys (tVar i)) (gTg K t) (rdSs b W)) D σ H
  | .asg t e, _ => tAsg (rdE K sp e) (gTg K t)
  | .setix x i e, _ => tAsg (rdE K sp e) (gSub (tVar x) (rdE K sp i) (rSet2 K))
  | .aug x op e, _ => tAug x (rdE K sp e) (ipOp op)
  | .app x e, _ => tDrop (tBM K "list" rAppend (tVar x) (tCons (rdE K sp e) tNil))
  | .ext x e, _ => tDrop (tBM K "list" rExtend (tVar x) (tCons (rdE K sp e) tNil))
  | .exp e, _ => tDrop (rdE K sp e)
  | .ret e, _ => tRet (rdE K sp e)
  | .retN, _ => tRetN
  | .ite c a b, W => tIfS (tB (rdE K sp c)) (rdSs a W) (rdSs b W)
  | .for_ t it b, W => tFor (rdI K sp it) (gTg K t) (rdSs b W)
  | .whl c b, W => tWhile (tB (rdE K sp c)) (rdSs b W)
  | .brk, _ => tBreak
  | .cont, _ => tCont
  | .pass, _ => tNext
  | .nvr, _ => tNever
  | .fap o e, _ => tDrop (tBM K "list" rAppend (rdE K sp o) (tCons (rdE K sp e) tNil))
  | .fsx o i e, _ => tAsg (rdE K sp e) (gSub (rdE K sp o) (rdE K sp i) (rSet2 K))
  | .fas p f e, _ => sFld K (tVar p) (rdE K sp e) f
  | .tn g js e, _ => tAsg (rdE K sp e) (gTn K g js)
  | .ndn x, _ => tAsg tDNewN (gName x)
  | .rse c, W => fun _ σ H => XcOk K c → W (.ref (xga K c)) none σ H
  | .cst k f es, W => ckT K k (tCallS (sp f) (WE W) (rdA K sp es))
  | .tr b hs, W => fun D σ H => (∀ d, d ∈ hsNames hs → XKn K d) → rdSs b (wX K W D (rdHs hs)) D σ H
def rdSs : Ss → WX → TS
  | .nil, _ => tNext
  | .cons s ss, W => tSeq (rdS s W) (rdSs ss W)
  | .frz _ ss, W => rdSs ss W
def rdHs : Hs → List HdX
  | .nil => []
  | .cons cs nm b r => ⟨cs.map (clsV K), nm, rdSs b (fun _ _ _ _ => False)⟩ :: rdHs r
end
end
theorem ip_all {X : Cx} : ∀ op, PIp X op (ipOp op)
  | .Add => ip_add
  | .Sub => ip_sub
  | .Mult | .FloorDiv | .Mod | .Pow | .LShift | .RShift | .BitAnd | .BitOr | .BitXor | .MatMult | .Div => fun _ _ _ _ _ _ _ _ _ _ _ _ h => h.elim

/-! ### views of statements -/
def vMfe : Expr → Option (Expr × Expr)
  | .Call (.Attribute (.Attribute y g q) m ap) [v] [] cp => if m = "append" ∧ (ap.endLine == cp.line) = true then some (.Attribute y g q, v) else none
  | .Call (.Attribute (.Subscript y g q) m ap) [v] [] cp => if m = "append" ∧ (ap.endLine == cp.line) = true then some (.Subscript y g q, v) else none
  | _ => none
theorem vMfe_eq {e x v : Expr} (h : vMfe e = some (x, v)) : ∃ ap cp, e = .Call (.Attribute x "append" ap) [v] [] cp ∧ ((∃ y g q, x = .Attribute y g q) ∨ ∃ y g q, x = .Subscript y g q) ∧ (ap.endLine == cp.line) = true := by
  unfold vMfe at h
  split at h
  · split at h
    · rename_i hc
      obtain ⟨rfl, h2⟩ := hc
      cases h
      exact ⟨_, _, rfl, .inl ⟨_, _, _, rfl⟩, h2⟩
    · cases h
  · split at h
    · rename_i hc
      obtain ⟨rfl, h2⟩ := hc
      cases h
      exact ⟨_, _, rfl, .inr ⟨_, _, _, rfl⟩, h2⟩
    · cases h
  · cases h
def vClS : Expr → Option (Expr × List Expr)
  | .Call (.Subscript a i p) es [] _ => some (.Subscript a i p, es)
  | _ => none
theorem vClS_eq {e u : Expr} {es : List Expr} (h : vClS e = some (u, es)) : ∃ a i p q, u = .Subscript a i p ∧ e = .Call (.Subscript a i p) es [] q := by
  unfold vClS at h
  split at h
  · cases h
    exact ⟨_, _, _, _, rfl, rfl⟩
  · cases h
def vAsg : Stmt → Option (Expr × Expr × Pos)
  | .Assign [t] e p => some (t, e, p)
  | _ => none
theorem vAsg_eq {s : Stmt} {t e : Expr} {p : Pos} (h : vAsg s = some (t, e, p)) : s = .Assign [t] e p := by
  unfold vAsg at h
  split at h <;> simp_all
def vAug : Stmt → Option (Str × Operator × Expr)
  | .AugAssign (.Name x _) op e _ => some (x, op, e)
  | _ => none
theorem vAug_eq {s : Stmt} {x : Str} {op : Operator} {e : Expr} (h : vAug s = some (x, op, e)) : ∃ p q, s = .AugAssign (.Name x p) op e q := by
  unfold vAug at h
  split at h <;> simp_all
def vExp : Stmt → Option Expr
  | .Expr e _ => some e
  | _ => none
theorem vExp_eq {s : Stmt} {e : Expr} (h : vExp s = some e) : ∃ p, s = .Expr e p := by
  unfold vExp at h
  split at h <;> simp_all
def vRet : Stmt → Option (Option Expr)
  | .Return e _ => some e
  | _ => none
theorem vRet_eq {s : Stmt} {e : Option Expr} (h : vRet s = some e) : ∃ p, s = .Return e p := by
  unfold vRet at h
  split at h <;> simp_all
def vIfS : Stmt → Option (Expr × List Stmt × List Stmt)
  | .If c a b _ => some (c, a, b)
  | _ => none
theorem vIfS_eq {s : Stmt} {c : Expr} {a b : List Stmt} (h : vIfS s = some (c, a, b)) : ∃ p, s = .If c a b p := by
  unfold vIfS at h
  split at h <;> simp_all
def vFor : Stmt → Option (Expr × Expr × List Stmt)
  | .For t i b [] _ => some (t, i, b)
  | _ => none
theorem vFor_eq {s : Stmt} {t i : Expr} {b : List Stmt} (h : vFor s = some (t, i, b)) : ∃ p, s = .For t i b [] p := by
  unfold vFor at h
  split at h <;> simp_all
def vWhl : Stmt → Option (Expr × List Stmt)
  | .While c b [] _ => some (c, b)
  | _ => none
theorem vWhl_eq {s : Stmt} {c : Expr} {b : List Stmt} (h : vWhl s = some (c, b)) : ∃ p, s = .While c b [] p := by
  unfold vWhl at h
  split at h <;> simp_all
def vRse : Stmt → Option Str
  | .Raise (some (.Call (.Name x _) [.Constant (.str _) _ _] [] _)) none _ => some x
  | _ => none
theorem vRse_eq {s : Stmt} {x : Str} (h : vRse s = some x) : ∃ p m j q r t, s = .Raise (some (.Call (.Name x p) [.Constant (.str m) j q] [] r)) none t := by
  unfold vRse at h
  split at h
  · cases h
    exact ⟨_, _, _, _, _, _, rfl⟩
  · cases h
def vTry : Stmt → Option (List Stmt × List ExceptHandler)
  | .Try b (h :: hs) [] [] _ => some (b, h :: hs)
  | _ => none
theorem vTry_eq {s : Stmt} {b : List Stmt} {hs : List ExceptHandler} (h : vTry s = some (b, hs)) : ∃ h₀ r p, hs = h₀ :: r ∧ s = .Try b (h₀ :: r) [] [] p := by
  unfold vTry at h
  split at h
  · cases h
    exact ⟨_, _, _, rfl, rfl⟩
  · cases h
/-- a clause: its test, its name, its suite -/
def vHd : ExceptHandler → Option (Expr × Option Str × Stmt × List Stmt)
  | .ExceptHandler (some te) n (b :: bs) _ => some (te, n, b, bs)
  | _ => none
theorem vHd_eq {h : ExceptHandler} {te : Expr} {n : Option Str} {b : Stmt} {bs : List Stmt} (e : vHd h = some (te, n, b, bs)) : ∃ p, h = .ExceptHandler (some te) n (b :: bs) p := by
  unfold vHd at e
  split at e
  · cases e
    exact ⟨_, rfl⟩
  · cases e
def isBrk : Stmt → Bool
  | .Break _ => true
  | _ => false
def isCont : Stmt → Bool
  | .Continue _ => true
  | _ => false
def isPass : Stmt → Bool
  | .Pass _ => true
  | _ => false
def isComp : Expr → Bool
  | .ListComp .. => true
  | .SetComp .. => true
  | .DictComp .. => true
  | _ => false
def isTupD : Expr → Bool
  | .Tuple .. => true
  | .List .. => true
  | _ => false
theorem no_swap {e : Expr} {t : Option Expr} {l : Nat} {env : Env} (h : isComp e = false) : swapsWith e t l env = pure false := by
  cases e <;> first | rfl | simp [isComp] at h
theorem no_sole {e t : Expr} {l : Nat} {env : Env} (h : isComp e = false) : swapsWithSole [t] e l env = pure false := (show swapsWithSole [t] e l env = swapsWith e (some t) l env from rfl).trans (no_swap h)
theorem no_stores {t e : Expr} {env : Env} (h : isTupD e = false) : swappedStores [t] e env = pure none := by
  cases e <;> first | (cases t <;> rfl) | simp [isTupD] at h
/-- x.m(e) -/
def vMeth : Expr → Option (Str × Str × Expr)
  | .Call (.Attribute (.Name x _) m ap) [e] [] cp => if ap.endLine == cp.line then some (x, m, e) else none
  | _ => none
theorem vMeth_eq {s e : Expr} {x m : Str} (h : vMeth s = some (x, m, e)) : ∃ p ap cp, s = .Call (.Attribute (.Name x p) m ap) [e] [] cp ∧ (ap.endLine == cp.line) = true := by
  unfold vMeth at h
  split at h
  · split at h
    · rename_i hl
      cases h
      exact ⟨_, _, _, rfl, hl⟩
    · cases h
  · cases h

/-- x.m() -/
def vM0 : Expr → Option (Str × Str)
  | .Call (.Attribute (.Name x _) m ap) [] [] cp => if ap.endLine == cp.line then some (x, m) else none
  | _ => none
theorem vM0_eq {s : Expr} {x m : Str} (h : vM0 s = some (x, m)) : ∃ p ap cp, s = .Call (.Attribute (.Name x p) m ap) [] [] cp ∧ (ap.endLine == cp.line) = true := by
  unfold vM0 at h
  split at h
  · split at h
    · rename_i hl
      cases h
      exact ⟨_, _, _, rfl, hl⟩
    · cases h
  · cases h
/-- x.m(e, f) -/
def vM2 : Expr → Option (Str × Str × Expr × Expr)
  | .Call (.Attribute (.Name x _) m ap) [e, f] [] cp => if ap.endLine == cp.line then some (x, m, e, f) else none
  | _ => none
theorem vM2_eq {s e f : Expr} {x m : Str} (h : vM2 s = some (x, m, e, f)) : ∃ p ap cp, s = .Call (.Attribute (.Name x p) m ap) [e, f] [] cp ∧ (ap.endLine == cp.line) = true := by
  unfold vM2 at h
  split at h
  · split at h
    · rename_i hl
      cases h
      exact ⟨_, _, _, rfl, hl⟩
    · cases h
  · cases h

def nmK0 : K0 → Str
  | .rev => "reverse"
  | .clr => "clear"
def nmK1 : K1 → Str
  | .rem => "remove"
def nmK2 : K2 → Str
  | .sdf => "setdefault"
section
variable (N : List Str) (fs : Fs)
def okV (sc : Scope) (i : Nat) (x : Str) : Bool := decide (N[i]? = some x) && (visB sc x && nDbg x)
/-! what a clause's suite may say -/
mutual
def qE : E → Bool
  | .var _ => true
  | .bl _ => true
  | .non => true
  | .str _ => true
  | .int _ => true
  | .isx a _ => qE a
  | .ixs a _ => qE a
  | .and a b => qE a && qE b
  | .not a => qE a
  | .tup es => qEs es
  | .pk2 a b c => qE a && (qE b && qE c)
  | _ => false
def qEs : Es → Bool
  | .nil => true
  | .cons e es => qE e && qEs es
end
def okQs (sc : Scope) : Ss → List Stmt → Bool
  | .nil, xs => xs.isEmpty
  | .cons (.asg (.nm i) e) ss, xs => match xs with
    | x :: r => (match vAsg x with
      | some (tg, v, _) => okTg N sc (.nm i) tg && (okE N fs sc sc e v && (qE e && (!isComp v && okQs sc ss r)))
      | none => false)
    | [] => false
  | .cons (.ret e) ss, xs => match xs with
    | x :: r => (match vRet x with
      | some (some v) => okE N fs sc sc e v && (qE e && okQs sc ss r)
      | _ => false)
    | [] => false
  | _, _ => false
def okNs (sc : Scope) : List Str → List Expr → Bool
  | [], [] => true
  | c :: cs, x :: xs => decide (vName x = some c) && (glB sc c && (xnB fs c && okNs sc cs xs))
  | _, _ => false
/-- a clause's test -/
def okTe (sc : Scope) (cs : List Str) (te : Expr) : Bool := match vTup te with
  | some es => okNs fs sc cs es && decide (cs.length ≤ 100)
  | none => match cs with
    | [c] => decide (vName te = some c) && (glB sc c && xnB fs c)
    | _ => false
def okNm (sc : Scope) : Option Nat → Option Str → Bool
  | none, none => true
  | some i, some n => decide (N[i]? = some n) && decide (sc.names.lookup n = some .local)
  | _, _ => false
def okHs (sc : Scope) : Hs → List ExceptHandler → Bool
  | .nil, hs => hs.isEmpty
  | .cons cs nm b r, hs => match hs with
    | h :: hs => (match vHd h with
      | some (te, n, x, xs) => okTe fs sc cs te && (okNm N sc nm n && (okQs N fs sc b (x :: xs) && okHs sc r hs))
      | none => false)
    | [] => false
/-- a call of a def that may raise -/
def okCl (sc : Scope) (f : Str) (es : Es) (v : Expr) : Bool := match vCall v with
  | some (g, xs) => decide (g = f) && (fs.fs.contains f && (glB sc f && (nDbg f && (!xs.isEmpty && okA N fs sc sc es xs))))
  | none => false
def okClB (sc tsc : Scope) (f : Str) (es : Es) (v : Expr) : Bool := match vCall v with
  | some (g, xs) => decide (g = f) && (fs.fs.contains f && (glB sc f && (nDbg f && (!xs.isEmpty && okA N fs sc tsc es xs))))
  | none => false
def okLx (sc : Scope) (f : Str) (es : Es) (i : Nat) (it : Iu) (v : Expr) : Bool := match vComp v with
  | some (x, t, j, c, scope, _) => blkC N sc scope (ownOf N [i]) && (okI N fs sc sc it j && (okTg N scope (.nm i) t && (!isPr it && (c.isEmpty && okClB N fs (relS scope sc) scope f es x))))
  | none => false
def okXa (sc : Scope) : Xa → Expr → Bool
  | .p e, v => okE N fs sc sc e v && !isStar v
  | .c f es, v => okCl N fs sc f es v
  | .l f es i it, v => okLx N fs sc f es i it v
  | .tl f es i it, v => match vCall v with
    | some (g, [x]) => decide (g = b1N .tuple) && (glB sc (b1N .tuple) && okLx N fs sc f es i it x)
    | _ => false
def okXs (sc : Scope) : List Xa → List Expr → Bool
  | [], [] => true
  | x :: xs, v :: vs => okXa N fs sc x v && okXs sc xs vs
  | _, _ => false
def okXe (sc : Scope) : Xe → Expr → Bool
  | .a x, v => okXa N fs sc x v
  | .t xs, v => match vTup v with
    | some vs => okXs N fs sc xs vs
    | none => false
def okFn (sc : Scope) (f : Str) (x : Expr) : Bool := decide (vName x = some f) && (fs.fs.contains f && (glB sc f && nDbg f))
def okEf (sc : Scope) : Ef → Expr → Bool
  | .pk f g c es, v => match vClS v with
    | some (u, xs) => (match vSub u with
      | some (l, i) => (match vLst l, vCall i with
        | some [x, y], some (h, [z]) => decide (h = "int") && (glB sc "int" && (okFn fs sc f x && (okFn fs sc g y && (okE N fs sc sc c z && (!isStar z && (!xs.isEmpty && okA N fs sc sc es xs))))))
        | _, _ => false)
      | none => false)
    | none => false
  | .xe x, v => okXe N fs sc x v
  | .call f es, v => okCl N fs sc f es v
  | .pop x, v => match vM0 v with
    | some (y, m) => decide (m = "pop") && okV N sc x y
    | none => false
  | .popA x i, v => match vMeth v with
    | some (y, m, e) => decide (m = "pop") && (okV N sc x y && (okE N fs sc sc i e && !isStar e))
    | none => false
  | .popK x i, v => match vMeth v with
    | some (y, m, e) => decide (m = "pop") && (okV N sc x y && (okE N fs sc sc i e && !isStar e))
    | none => false
/-- a comprehension given to a name -/
def efLc : Tg → Ef → Po → Bool
  | .nm _, .xe (.a (.l ..)), .hd => true
  | _, _, _ => false
def okPo (sc : Scope) (ef : Ef) : Po → Expr → Bool
  | .hd, v => okEf N fs sc ef v
  | .ixn p n, v => match vSub v with
    | some (o, j) => decide (vInt j = some (n : Int)) && okPo sc ef p o
    | none => false
  | .isN p, v => match vC1 v with
    | some (x, o, y) => decide (o = .Is) && (vNon y && okPo sc ef p x)
    | none => false
  | .eqS p z, v => match vC1 v with
    | some (x, o, y) => decide (o = .Eq) && (!behindInMarks .Eq y && (decide (vStr y = some z) && okPo sc ef p x))
    | none => false
  | .lst1 p, v => match vLst v with
    | some [x] => okPo sc ef p x
    | _ => false
  | .tupS z p, v => match vTup v with
    | some [x, y] => decide (vStr x = some z) && okPo sc ef p y
    | _ => false
  | .opI op a p, v => match vBin v with
    | some (x, o, y) => decide (o = op) && (decide (vInt x = some (a : Int)) && okPo sc ef p y)
    | none => false
  | .ixv i p, v => match vSub v with
    | some (o, j) => (match vName o with
      | some y => okV N sc i y && okPo sc ef p j
      | none => false)
    | none => false
mutual
def okS (sc : Scope) : S → Stmt → Bool
  | .mt0 k x, s => match vExp s with
    | some c => (match vM0 c with
      | some (y, m) => decide (m = nmK0 k) && okV N sc x y
      | none => false)
    | none => false
  | .mt1 k x e, s => match vExp s with
    | some c => (match vMeth c with
      | some (y, m, v) => decide (m = nmK1 k) && (okV N sc x y && (okE N fs sc sc e v && !isStar v))
      | none => false)
    | none => false
  | .mt2 k x e1 e2, s => match vExp s with
    | some c => (match vM2 c with
      | some (y, m, u, v) => decide (m = nmK2 k) && (okV N sc x y && (okE N fs sc sc e1 u && (!isStar u && (okE N fs sc sc e2 v && !isStar v))))
      | none => false)
    | none => false
  | .fdk t i b, s => match vFor s with
    | some (tg, it, y) => okTg N sc t tg && ((match vName it with
      | some z => okV N sc i z
      | none => false) && okSs sc b y)
    | none => false
  | .ef k e p, s => match k with
    | .asg t => (match vAsg s with
      | some (tg, v, _) => okTg N sc t tg && (okPo N fs sc e p v && ((efLc t e p || !isComp v) && (match t with
        | .nm _ => true
        | .tp _ => !isTupD v)))
      | none => false)
    | .ret => (match vRet s with
      | some (some v) => okPo N fs sc e p v
      | _ => false)
    | .exp => (match vExp s with
      | some v => okPo N fs sc e p v && !isComp v
      | none => false)
    | .app x => (match vExp s with
      | some c => (match vMeth c with
        | some (y, m, v) => decide (m = "append") && (okV N sc x y && okPo N fs sc e p v)
        | none => false)
      | none => false)
    | .set x i => (match vAsg s with
      | some (tg, v, _) => (match vSub tg with
        | some (o, j) => (match vName o with
          | some y => okV N sc x y && (okE N fs sc sc i j && (okPo N fs sc e p v && (!isComp v && !isTupD v)))
          | none => false)
        | none => false)
      | none => false)
  | .eft e p a b, s => match vIfS s with
    | some (z, x, y) => okPo N fs sc e p z && (okSs sc a x && okSs sc b y)
    | none => false
  | .fst t x y c, s => match vFor s with
    | some (tg, i, b) => (match vName tg, vName i, b with
      | some n, some m, [u] => (match vAsg u with
        | some (g, v, _) => (match vSub g with
          | some (o, j) => (match vName o, vName j, vBl v with
            | some p, some q, some k => decide (k = c) && (decide (N[t]? = some n) && (locB sc n && (okV N sc x m && (okV N sc y p && okV N sc t q))))
            | _, _, _ => false)
          | none => false)
        | none => false)
      | _, _, _ => false)
    | none => false
  | .ins x i e, s => match vExp s with
    | some c => (match vM2 c with
      | some (y, m, u, v) => decide (m = "insert") && (okV N sc x y && (okE N fs sc sc i u && (!isStar u && (okE N fs sc sc e v && !isStar v))))
      | none => false)
    | none => false
  | .asg t e, s => match vAsg s with
    | some (tg, v, _) => okTg N sc t tg && (okE N fs sc sc e v && (match t, e with
      | .nm _, .lc .. => true
      | .nm _, _ => !isComp v
      | .tp _, _ => !isComp v && !isTupD v))
    | none => false
  | .setix x i e, s => match vAsg s with
    | some (tg, v, _) => (match vSub tg with
      | some (o, j) => (match vName o with
        | some y => okV N sc x y && (okE N fs sc sc i j && (okE N fs sc sc e v && !isComp v))
        | none => false)
      | none => false)
    | none => false
  | .aug x op e, s => match vAug s with
    | some (y, o, v) => decide (o = op) && (decide (N[x]? = some y) && (locB sc y && okE N fs sc sc e v))
    | none => false
  | .app x e, s => match vExp s with
    | some c => (match vMeth c with
      | some (y, m, v) => decide (m = "append") && (okV N sc x y && (okE N fs sc sc e v && !isStar v))
      | none => false)
    | none => false
  | .ext x e, s => match vExp s with
    | some c => (match vMeth c with
      | some (y, m, v) => decide (m = "extend") && (okV N sc x y && (okE N fs sc sc e v && !isStar v))
      | none => false)
    | none => false
  | .exp e, s => match vExp s with
    | some v => okE N fs sc sc e v && !isComp v
    | none => false
  | .ret e, s => match vRet s with
    | some (some v) => okE N fs sc sc e v
    | _ => false
  | .retN, s => match vRet s with
    | some none => true
    | _ => false
  | .ite c a b, s => match vIfS s with
    | some (z, x, y) => okE N fs sc sc c z && (okSs sc a x && okSs sc b y)
    | none => false
  | .for_ t it b, s => match vFor s with
    | some (tg, i, y) => okTg N sc t tg && (okI N fs sc sc it i && ((!isPr it || isTupE tg) && okSs sc b y))
    | none => false
  | .whl c b, s => match vWhl s with
    | some (z, y) => okE N fs sc sc c z && okSs sc b y
    | none => false
  | .brk, s => isBrk s
  | .cont, s => isCont s
  | .pass, s => isPass s
  | .nvr, _ => true
  | .fap o e, s => match vExp s with
    | some c => (match vMfe c with
      | some (y, v) => okE N fs sc sc o y && (okE N fs sc sc e v && !isStar v)
      | none => false)
    | none => false
  | .fsx o i e, s => match vAsg s with
    | some (tg, v, _) => (match vSub tg with
      | some (y, j) => (match vAttr y with
        | some _ => okE N fs sc sc o y && (okE N fs sc sc i j && (okE N fs sc sc e v && !isComp v))
        | none => false)
      | none => false)
    | none => false
  | .fas p f e, s => match vAsg s with
    | some (tg, v, _) => (match vAttr tg with
      | some (o, g) => decide (g = f) && ((match vName o with
        | some y => okV N sc p y
        | none => false) && (okE N fs sc sc e v && !isComp v))
      | none => false)
    | none => false
  | .tn g js e, s => match vAsg s with
    | some (tg, v, _) => (match vTup tg with
      | some [t1, t2] => okTg N sc (.nm g) t1 && (okTg N sc (.tp js) t2 && (okE N fs sc sc e v && (!isComp v && !isTupD v)))
      | _ => false)
    | none => false
  | .ndn x, s => match vAsg s with
    | some (tg, v, _) => okTg N sc (.nm x) tg && vDict0 v
    | none => false
  | .rse c, s => match vRse s with
    | some x => decide (x = c) && (glB sc c && (fs.xr.contains c && xall.contains c))
    | none => false
  | .cst k f es, s => match k with
    | .asg t => (match vAsg s with
      | some (tg, v, _) => okTg N sc t tg && okCl N fs sc f es v
      | none => false)
    | .ret => (match vRet s with
      | some (some v) => okCl N fs sc f es v
      | _ => false)
    | .exp => (match vExp s with
      | some v => okCl N fs sc f es v
      | none => false)
  | .tr b hs, s => match vTry s with
    | some (x, y) => okSs sc b x && okHs N fs sc hs y
    | none => false
def okSs (sc : Scope) : Ss → List Stmt → Bool
  | .nil, xs => xs.isEmpty
  | .cons s ss, xs => match xs with
    | x :: r => okS sc s x && okSs sc ss r
    | [] => false
  | .frz _ ss, xs => okSs sc ss xs
end
end

section
variable {X : Cx} {K : PySem.W.Frag} {sp : Str → Sp} {N : List Str} {fs : Fs} {sc : Scope}
theorem dV (C : Cxt X K sp N fs sc sc) {i : Nat} {x : Str} {p : Pos} (h : okV N sc i x = true) : PE X (.Name x p) (tVar i) := by
  obtain ⟨h1, h2⟩ := and2 h
  obtain ⟨h2, h3⟩ := and2 h2
  obtain ⟨d1, d2⟩ := nDbg_ok h3
  refine pe_var (C.n ▸ of_decide_eq_true h1) ?_ d1 d2
  rw [C.sc]
  exact visB_ok h2
end
theorem sw_val {elt : Expr} {gs : List Comprehension} {scope : Scope} {pos py : Pos} {y : Str} {l : Nat} {env : Env} : swapsWith (.ListComp elt gs scope pos) (some (.Name y py)) l env =
    pure (env.blockKind == .function && env.kindOf y == some .local && py.line == (Expr.ListComp elt gs scope pos).pos.line && !(scope.names.any fun (n, k) => n == y && (k == .local || k == .cell))) := rfl
/-! ### clauses -/
/-- what a suite's context says -/
structure Cq (X : Cx) (K : PySem.W.Frag) (N : List Str) (fs : Fs) (sc : Scope) : Prop where
  k : X.K = K
  n : X.N = N
  nd : N.Nodup
  se : X.env.scope = sc
  blt : ∀ b, b ∈ bnames → X.mg b = none
  xd : ∀ d, d ∈ fs.xd → X.mg d = some (.ref (xga K d)) ∧ ∃ a, PySem.W.nsIn K mainGlobals d = some (some (.ref a))
  tg : ∀ x, locB sc x = true → Loc X.env.scope x ∧ (X.fn x = true ∨ X.env.scope.names.lookup x = some .local)
theorem Cxt.cq {X : Cx} {K : PySem.W.Frag} {sp : Str → Sp} {N : List Str} {fs : Fs} {sc : Scope} (C : Cxt X K sp N fs sc sc) : Cq X K N fs sc := ⟨C.k, C.n, C.nd, C.sc, C.blt, C.xd, C.tg⟩
theorem Cq.suite {X : Cx} {K : PySem.W.Frag} {N : List Str} {fs : Fs} {sc : Scope} (C : Cq X K N fs sc) (a : Addr) (pn : List (Addr × Obj)) : Cq (X.suite a pn) K N fs sc := ⟨C.k, C.n, C.nd, C.se, C.blt, C.xd, C.tg⟩
theorem Cxt.tr {X : Cx} {K : PySem.W.Frag} {sp : Str → Sp} {N : List Str} {fs : Fs} {sc tsc : Scope} (C : Cxt X K sp N fs sc tsc) (pn : List (Addr × Obj)) (xe : Value → Shared → Prop) : Cxt (X.tr pn xe) K sp N fs sc tsc :=
  ⟨C.k, C.calm, C.n, C.nd, C.sc, C.blt, C.hu, C.gc, C.gk, C.gd, C.fn, C.xd, fun c hc => ⟨(C.xr c hc).1, ⟨(C.xr c hc).2.q, (C.xr c hc).2.g, (C.xr c hc).2.kp, (C.xr c hc).2.r⟩⟩, C.md, C.mkc, C.tg⟩
/-- the context of a def's own statements -/
structure TpX (X : Cx) : Prop where
  stk : X.stack = X.env :: X.outer
  fr : X.env.frame = some X.env.locals
  ex : X.ex = []
theorem TpX.tr {X : Cx} (t : TpX X) (pn : List (Addr × Obj)) (xe : Value → Shared → Prop) : TpX (X.tr pn xe) := ⟨t.stk, t.fr, t.ex⟩
theorem ps_imp {X : Cx} {s : Stmt} {t t' : TS} (h : PS X s t) (i : ∀ D σ H, t' D σ H → t D σ H) : PS X s t' := ⟨fun pins s σ H D I q => h.run pins s σ H D I (i D σ H q)⟩
section
variable {X : Cx} {K : PySem.W.Frag} {N : List Str} {fs : Fs} {sc : Scope}
theorem Cq.gl (C : Cq X K N fs sc) {x : Str} (h : glB sc x = true) : Gl X x := by
  show X.env.scope.names.lookup _ = _
  rw [C.se]
  exact glB_ok h
theorem Cq.kn (C : Cq X K N fs sc) {c : Str} (h : xnB fs c = true) : XKn K c := by
  obtain ⟨h1, h2⟩ := and2 h
  by_cases e : c = "ValueError"
  · exact .inl e
  · have hm : c ∈ fs.xd := by
      rcases Bool.or_eq_true_iff.mp h2 with z | z
      · exact absurd (of_decide_eq_true z) e
      · simpa using z
    exact .inr (C.xd c hm).2
theorem Cq.names (C : Cq X K N fs sc) {c : Str} (hg : glB sc c = true) (h : xnB fs c = true) : Names X c (clsV K c) := by
  obtain ⟨h1, h2⟩ := and2 h
  refine ⟨C.gl hg, xall_dbg c h1, ?_⟩
  by_cases e : c = "ValueError"
  · subst e
    have : clsV K "ValueError" = .type "ValueError" := if_pos rfl
    rw [this]
    exact .inr ⟨C.blt _ (by simp [bnames]), by decide +kernel, by decide +kernel⟩
  · have hm : c ∈ fs.xd := by
      rcases Bool.or_eq_true_iff.mp h2 with z | z
      · exact absurd (of_decide_eq_true z) e
      · simpa using z
    have : clsV K c = .ref (xga K c) := if_neg e
    rw [this]
    exact .inl (C.xd c hm).1
theorem Cq.cls (C : Cq X K N fs sc) {c : Str} {p : Pos} (hg : glB sc c = true) (hx : xnB fs c = true) : PE X (.Name c p) (tC (clsW K c)) := by
  obtain ⟨h1, h2⟩ := and2 hx
  by_cases e : c = "ValueError"
  · subst e
    have : clsW K "ValueError" = .ty "ValueError" := if_pos rfl
    rw [this]
    exact pe_bltn (C.gl hg) (C.blt _ (by simp [bnames])) (by decide +kernel : bootBuiltins "ValueError" = some (.type "ValueError")) rfl (by decide +kernel) (by decide +kernel)
  · have hm : c ∈ fs.xd := by
      rcases Bool.or_eq_true_iff.mp h2 with z | z
      · exact absurd (of_decide_eq_true z) e
      · simpa using z
    have : clsW K c = .ref (xga K c) := if_neg e
    rw [this]
    exact pe_glob (C.gl hg) (C.xd c hm).1 rfl (xall_dbg c h1)
theorem Cq.nms (C : Cq X K N fs sc) : ∀ (cs : List Str) (ys : List Expr), nmsB sc fs cs ys = true → (∀ c ∈ cs, XKn K c) ∧ PA X ys (rdCs K cs)
  | [], [], _ => ⟨fun _ h => (nomatch h), pa_nil⟩
  | [], _ :: _, h => nomatch h
  | _ :: _, [], h => nomatch h
  | c :: cs, y :: ys, h => by
    obtain ⟨h1, h⟩ := and2 h
    obtain ⟨h2, h⟩ := and2 h
    obtain ⟨h3, h4⟩ := and2 h
    obtain ⟨p, rfl⟩ := vName_eq (of_decide_eq_true h1)
    obtain ⟨ks, A⟩ := C.nms cs ys h4
    refine ⟨fun d hd => ?_, pa_cons (C.cls (p := p) h2 h3) A rfl⟩
    rcases List.mem_cons.mp hd with rfl | q
    · exact C.kn h3
    · exact ks d q
theorem Cq.all (C : Cq X K N fs sc) : ∀ {cs : List Str} {xs : List Expr}, okNs fs sc cs xs = true → NamesAll X xs (cs.map (clsV K)) ∧ ∀ d ∈ cs, XKn K d
  | [], xs, h => by
    cases xs with
    | nil => exact ⟨.nil, fun d hd => by simp at hd⟩
    | cons _ _ => simp [okNs] at h
  | c :: cs, xs, h => by
    cases xs with
    | nil => simp [okNs] at h
    | cons x xs =>
      simp only [okNs] at h
      have hh := and2 h
      have h1 := hh.1
      have h2 := (and2 hh.2).1
      have h3 := (and2 (and2 hh.2).2).1
      have h4 := (and2 (and2 hh.2).2).2
      obtain ⟨p, rfl⟩ := vName_eq (of_decide_eq_true h1)
      obtain ⟨i1, i2⟩ := C.all h4
      refine ⟨.cons (C.names h2 h3) i1, fun d hd => ?_⟩
      rcases List.mem_cons.mp hd with rfl | q
      · exact C.kn h3
      · exact i2 d q
theorem Cq.te (C : Cq X K N fs sc) {cs : List Str} {te : Expr} (h : okTe fs sc cs te = true) : PTst X te (cs.map (clsV K)) ∧ ∀ d ∈ cs, XKn K d := by
  unfold okTe at h
  split at h
  · rename_i es hv
    obtain ⟨k, p, rfl⟩ := vTup_eq hv
    obtain ⟨h1, h2⟩ := and2 h
    obtain ⟨i1, i2⟩ := C.all h1
    have hl := of_decide_eq_true h2
    refine ⟨ptst_tup i1 ?_, i2⟩
    rw [List.length_map, sizeLine_eq]
    omega
  · split at h
    · rename_i c
      have hh := and2 h
      have h1 := hh.1
      have h2 := (and2 hh.2).1
      have h3 := (and2 hh.2).2
      obtain ⟨p, rfl⟩ := vName_eq (of_decide_eq_true h1)
      refine ⟨ptst_name (C.names h2 h3), fun d hd => ?_⟩
      rw [List.mem_singleton] at hd
      rw [hd]
      exact C.kn h3
    · cases h
theorem Cq.nm (C : Cq X K N fs sc) {nm : Option Nat} {n : Option Str} (h : okNm N sc nm n = true) : NmOk X n nm := by
  unfold okNm at h
  split at h
  · exact True.intro
  · obtain ⟨h1, h2⟩ := and2 h
    refine ⟨C.n ▸ of_decide_eq_true h1, ?_⟩
    show X.env.scope.names.lookup _ = _
    rw [C.se]
    exact of_decide_eq_true h2
  · cases h
end
section
variable (K : PySem.W.Frag) (sp : Str → Sp) (N : List Str) (fs : Fs)
mutual
theorem dQ : ∀ (e : E) {X : Cx} {sc : Scope} (C : Cq X K N fs sc) (x : Expr), okE N fs sc sc e x = true → qE e = true → Der X x (rdE K sp e)
  | .var i, X, sc, C, x, h, _ => by
    unfold okE at h
    split at h
    · rename_i y hy
      obtain ⟨p, rfl⟩ := vName_eq hy
      obtain ⟨h1, h2⟩ := and2 h
      obtain ⟨h2, h3⟩ := and2 h2
      obtain ⟨d1, d2⟩ := nDbg_ok h3
      refine .mk' (pe_var (C.n ▸ of_decide_eq_true h1) ?_ d1 d2) (fun _ => rfl) (fun _ _ _ z => nomatch z) rfl
      rw [C.se]
      exact visB_ok h2
    · cases h
  | .int n, X, sc, C, x, h, _ => by
    unfold okE at h
    obtain ⟨k, p, rfl⟩ := vInt_eq (of_decide_eq_true h)
    exact .mk' pe_int (fun _ => rfl) (fun _ _ _ z => nomatch z) rfl
  | .bl n, X, sc, C, x, h, _ => by
    unfold okE at h
    obtain ⟨k, p, rfl⟩ := vBl_eq (of_decide_eq_true h)
    exact .mk' pe_bl (fun _ => rfl) (fun _ _ _ z => nomatch z) rfl
  | .non, X, sc, C, x, h, _ => by
    unfold okE at h
    obtain ⟨k, p, rfl⟩ := vNon_eq h
    exact .mk' pe_non (fun _ => rfl) (fun _ _ _ z => nomatch z) rfl
  | .str n, X, sc, C, x, h, _ => by
    unfold okE at h
    obtain ⟨k, p, rfl⟩ := vStr_eq (of_decide_eq_true h)
    exact .mk' pe_str (fun _ => rfl) (fun _ _ _ z => nomatch z) rfl
  | .isx a c, X, sc, C, x, h, hq => by
    unfold okE at h
    split at h
    · rename_i g y z hv
      obtain ⟨p, q, rfl⟩ := vCall_eq hv
      have hh := and2 h
      have h1 := hh.1
      have h2 := (and2 hh.2).1
      have h3 := (and2 (and2 hh.2).2).1
      have h4 := (and2 (and2 (and2 hh.2).2).2).1
      have h5 := (and2 (and2 (and2 (and2 hh.2).2).2).2).1
      have h6 := (and2 (and2 (and2 (and2 (and2 hh.2).2).2).2).2).1
      have h7 := (and2 (and2 (and2 (and2 (and2 hh.2).2).2).2).2).2
      cases of_decide_eq_true h1
      obtain ⟨p', rfl⟩ := vName_eq (of_decide_eq_true h5)
      have A := dQ a C _ h3 hq
      have kn := C.kn h7
      have T := C.cls (p := p') h6 h7
      have hk := C.k
      subst hk
      exact .mk' (pe_imp (pe_callB cr_isX (C.gl h2) (C.blt _ (bn _ (by decide +kernel))) PyProof.Rows.boot_isinstance (pa_cons A.pe (pa1 T rfl) (star_cons (not_t h4))) (by decide +kernel) dbg_isi (star_cons (not_t h4)) rfl) fun _ _ _ h => h kn) (fun _ => rfl) (fun _ _ _ z => nomatch z) rfl
    · cases h
  | .ixs a cs, X, sc, C, x, h, hq => by
    unfold okE at h
    split at h
    · rename_i g y z hv
      obtain ⟨p, q, rfl⟩ := vCall_eq hv
      split at h
      · rename_i ys ht
        obtain ⟨k', p', rfl⟩ := vTup_eq ht
        have hh := and2 h
        have h1 := hh.1
        have h2 := (and2 hh.2).1
        have h3 := (and2 (and2 hh.2).2).1
        have h4 := (and2 (and2 (and2 hh.2).2).2).1
        have h5 := (and2 (and2 (and2 hh.2).2).2).2
        cases of_decide_eq_true h1
        have A := dQ a C _ h3 hq
        obtain ⟨kn, T⟩ := C.nms cs ys h5
        have hk := C.k
        subst hk
        exact .mk' (pe_imp (pe_callB cr_isXT (C.gl h2) (C.blt _ (bn _ (by decide +kernel))) PyProof.Rows.boot_isinstance (pa_cons A.pe (pa1 (pe_tup T) rfl) (star_cons (not_t h4))) (by decide +kernel) dbg_isi (star_cons (not_t h4)) rfl) fun _ _ _ h => h kn) (fun _ => rfl) (fun _ _ _ z => nomatch z) rfl
      · cases h
    · cases h
  | .and a b, X, sc, C, x, h, hq => by
    obtain ⟨q1, q2⟩ := and2 hq
    unfold okE at h
    split at h
    · rename_i o l r rs p hv
      have e := vBool_eq hv
      subst e
      obtain ⟨h1, h2⟩ := and2 h
      obtain ⟨h2, h3⟩ := and2 h2
      cases of_decide_eq_true h1
      have A := dQ a C _ h2 q1
      have B : PE X (.BoolOp .And (r :: rs) p) (rdE K sp b) ∧ PW X (.BoolOp .And (r :: rs) p) (tB (rdE K sp b)) := by
        cases rs with
        | nil =>
          have q := dQ b C _ h3 q2
          exact ⟨pe_one q.pe, pw_one q.pt⟩
        | cons z zs =>
          have q := dQ b C _ h3 q2
          exact ⟨q.pe, q.pw _ _ _ rfl⟩
      have W := pw_andV A.pt B.2
      exact ⟨pe_and A.pe B.1, W.pt, fun _ _ _ _ => W, rfl⟩
    · cases h
  | .not a, X, sc, C, x, h, hq => by
    unfold okE at h
    split at h
    · rename_i o r hv
      obtain ⟨p, rfl⟩ := vUn_eq hv
      obtain ⟨h1, h2⟩ := and2 h
      cases of_decide_eq_true h1
      have A := dQ a C _ h2 hq
      exact ⟨pe_not A.pe, pt_notV A.pt, (fun _ _ _ z => nomatch z), rfl⟩
    · cases h
  | .pk2 a b c, X, sc, C, x, h, hq => by
    obtain ⟨q1, hq⟩ := and2 hq
    obtain ⟨q2, q3⟩ := and2 hq
    unfold okE at h
    split at h
    · rename_i l i hv
      obtain ⟨p, rfl, hs⟩ := vSub_eq hv
      split at h
      · rename_i x y g z hl hi
        obtain ⟨p2, rfl⟩ := vLst_eq hl
        obtain ⟨p3, q4, rfl⟩ := vCall_eq hi
        have hh := and2 h
        have h1 := hh.1
        have h2 := (and2 hh.2).1
        have h3 := (and2 (and2 hh.2).2).1
        have h4 := (and2 (and2 (and2 hh.2).2).2).1
        have h5 := (and2 (and2 (and2 (and2 hh.2).2).2).2).1
        have h6 := (and2 (and2 (and2 (and2 (and2 hh.2).2).2).2).2).1
        have h7 := (and2 (and2 (and2 (and2 (and2 (and2 hh.2).2).2).2).2).2).1
        have h8 := (and2 (and2 (and2 (and2 (and2 (and2 hh.2).2).2).2).2).2).2
        cases of_decide_eq_true h1
        have A := dQ a C _ h3 q1
        have B := dQ b C _ h5 q2
        have I := dQ c C _ h7 q3
        obtain ⟨d1, d2, d3⟩ := boot_b1 .int
        have hk := C.k
        subst hk
        have P := pe_callTy (p := p3) (pos := q4) (callR_or call_int1 call_int_str) (C.gl h2) (C.blt _ d3) PyProof.Rows.boot_int (pa1 I.pe (not_t h8)) d2 d1 (star_cons (not_t h8)) rfl
        exact .mk' (pe_ix (ix_list.or ix_tup) (pe_lst (pa_cons A.pe (pa1 B.pe (not_t h6)) (star_cons (not_t h4)))) P (plainIx hs)) (fun _ => rfl) (fun _ _ _ z => nomatch z) rfl
      · cases h
    · cases h
  | .tup es, X, sc, C, x, h, hq => by
    unfold okE at h
    split at h
    · rename_i xs hv
      obtain ⟨k, p, rfl⟩ := vTup_eq hv
      exact .mk' (pe_tup (dQA es C _ h hq)) (fun _ => rfl) (fun _ _ _ z => nomatch z) rfl
    · cases h
  | .bin _ _ _, _, _, _, _, _, hq => by simp [qE] at hq
  | .neg _, _, _, _, _, _, hq => by simp [qE] at hq
  | .inv _, _, _, _, _, _, hq => by simp [qE] at hq
  | .cmp _ _ _, _, _, _, _, _, hq => by simp [qE] at hq
  | .chn _ _ _ _ _, _, _, _, _, _, hq => by simp [qE] at hq
  | .isN _, _, _, _, _, _, hq => by simp [qE] at hq
  | .notN _, _, _, _, _, _, hq => by simp [qE] at hq
  | .or _ _, _, _, _, _, _, hq => by simp [qE] at hq
  | .ife _ _ _, _, _, _, _, _, hq => by simp [qE] at hq
  | .lst _, _, _, _, _, _, hq => by simp [qE] at hq
  | .ix _ _, _, _, _, _, _, hq => by simp [qE] at hq
  | .sl _ _ _, _, _, _, _, _, hq => by simp [qE] at hq
  | .call _ _, _, _, _, _, _, hq => by simp [qE] at hq
  | .b1 _ _, _, _, _, _, _, hq => by simp [qE] at hq
  | .isi _ _, _, _, _, _, _, hq => by simp [qE] at hq
  | .lc _ _ _ _ _, _, _, _, _, _, hq => by simp [qE] at hq
  | .lrg _, _, _, _, _, _, hq => by simp [qE] at hq
  | .glb _ _, _, _, _, _, _, hq => by simp [qE] at hq
  | .mm _ _ _, _, _, _, _, _, hq => by simp [qE] at hq
  | .rvl _, _, _, _, _, _, hq => by simp [qE] at hq
  | .nev, _, _, _, _, _, hq => by simp [qE] at hq
  | .dnw, _, _, _, _, _, hq => by simp [qE] at hq
  | .dsp1 _ _, _, _, _, _, _, hq => by simp [qE] at hq
  | .sst _, _, _, _, _, _, hq => by simp [qE] at hq
  | .mc _ _ _ _ _, _, _, _, _, _, hq => by simp [qE] at hq
  | .mkc _ _ _, _, _, _, _, _, hq => by simp [qE] at hq
  | .dnn, _, _, _, _, _, hq => by simp [qE] at hq
  | .lns _, _, _, _, _, _, hq => by simp [qE] at hq
  | .u1 _ _, _, _, _, _, _, hq => by simp [qE] at hq
  | .u2 _ _ _, _, _, _, _, _, hq => by simp [qE] at hq
  | .u3 _ _ _ _, _, _, _, _, _, hq => by simp [qE] at hq
  | .lcd _ _ _ _ _, _, _, _, _, _, hq => by simp [qE] at hq
  | .gk _ _, _, _, _, _, _, hq => by simp [qE] at hq
  | .gdx _ _ _, _, _, _, _, _, hq => by simp [qE] at hq
  | .dsp _, _, _, _, _, _, hq => by simp [qE] at hq
theorem dQA : ∀ (es : Es) {X : Cx} {sc : Scope} (C : Cq X K N fs sc) (xs : List Expr), okA N fs sc sc es xs = true → qEs es = true → PA X xs (rdA K sp es)
  | .nil, X, sc, C, xs, h, _ => by
    unfold okA at h
    cases xs with
    | nil => exact pa_nil
    | cons _ _ => cases h
  | .cons e es, X, sc, C, xs, h, hq => by
    obtain ⟨q1, q2⟩ := and2 hq
    unfold okA at h
    cases xs with
    | nil => cases h
    | cons x r =>
      obtain ⟨h1, h2⟩ := and2 h
      obtain ⟨h2, h3⟩ := and2 h2
      exact pa_cons (dQ e C x h1 q1).pe (dQA es C r h3 q2) (star_cons (not_t h2))
end
theorem dQs : ∀ (b : Ss) {X : Cx} {sc : Scope} (C : Cq X K N fs sc) (W : WX) (xs : List Stmt), okQs N fs sc b xs = true → PSs X xs (rdSs K sp b W)
  | .nil, X, sc, C, W, xs, h => by
    unfold okQs at h
    cases xs with
    | nil => exact pss_nil
    | cons _ _ => cases h
  | .cons s ss, X, sc, C, W, [], h => by
    cases s with
    | asg t e => cases t <;> simp [okQs] at h
    | _ => simp [okQs] at h
  | .cons s ss, X, sc, C, W, x :: r, h => by
    cases s with
    | asg t e =>
      cases t with
      | tp is => simp [okQs] at h
      | nm i =>
        simp only [okQs] at h
        split at h
        · rename_i tg v p hv
          have ex := vAsg_eq hv
          subst ex
          have hh := and2 h
          have h1 := hh.1
          have h2 := (and2 hh.2).1
          have h3 := (and2 (and2 hh.2).2).1
          have h4 := (and2 (and2 (and2 hh.2).2).2).1
          have h5 := (and2 (and2 (and2 hh.2).2).2).2
          refine pss_cons ?_ (dQs _ C W r h5)
          simp only [okTg] at h1
          split at h1
          · rename_i y hy
            obtain ⟨q, rfl⟩ := vName_eq hy
            obtain ⟨a1, a2⟩ := and2 h1
            obtain ⟨t1, t2⟩ := C.tg y a2
            exact ps_set (i := i) (C.n ▸ C.nd) (C.n ▸ of_decide_eq_true a1) t1 (dQ K sp N fs e C v h2 h3).pe (no_swap (not_t h4)) t2
          · cases h1
        · cases h
    | ret e =>
      simp only [okQs] at h
      split at h
      · rename_i v hv
        obtain ⟨p, rfl⟩ := vRet_eq hv
        have hh := and2 h
        exact pss_cons (ps_ret (dQ K sp N fs e C v hh.1 (and2 hh.2).1).pe) (dQs _ C W r (and2 hh.2).2)
      · cases h
    | _ => simp [okQs] at h
  | .frz _ _, X, sc, C, W, xs, h => by simp [okQs] at h
theorem dHs {X : Cx} {sc : Scope} (C : Cq X K N fs sc) : ∀ (hs : Hs) (ys : List ExceptHandler), okHs N fs sc hs ys = true → HdsX X ys (rdHs K sp hs) ∧ ∀ d, d ∈ hsNames hs → XKn K d
  | .nil, ys, h => by
    unfold okHs at h
    cases ys with
    | nil => exact ⟨.nil, fun d hd => by simp [hsNames] at hd⟩
    | cons _ _ => cases h
  | .cons cs nm b r, ys, h => by
    unfold okHs at h
    cases ys with
    | nil => cases h
    | cons y ys =>
      simp only at h
      split at h
      · rename_i te n x xs hv
        obtain ⟨p, rfl⟩ := vHd_eq hv
        have hh := and2 h
        have h1 := hh.1
        have h2 := (and2 hh.2).1
        have h3 := (and2 (and2 hh.2).2).1
        have h4 := (and2 (and2 hh.2).2).2
        obtain ⟨t1, t2⟩ := C.te h1
        obtain ⟨i1, i2⟩ := dHs C r ys h4
        refine ⟨.cons (h := ⟨cs.map (clsV K), nm, rdSs K sp b (fun _ _ _ _ => False)⟩) t1 (C.nm h2) (fun a pn => dQs K sp N fs b (C.suite a pn) _ _ h3) i1, fun d hd => ?_⟩
        unfold hsNames at hd
        rcases List.mem_append.mp hd with q | q
        · exact t2 d q
        · exact i2 d q
      · cases h
end
section
variable (K : PySem.W.Frag) (sp : Str → Sp) (N : List Str) (fs : Fs)
theorem dCl {X : Cx} {sc : Scope} {W : WX} (C : Cxt X K sp N fs sc sc) (tk : Takes X W) {f : Str} {es : Es} (v : Expr) (h : okCl N fs sc f es v = true) : Der X v (tCallS (sp f) (WE W) (rdA K sp es)) := by
  unfold okCl at h
  split at h
  · rename_i g xs hv
    obtain ⟨p, q, rfl⟩ := vCall_eq hv
    have hh := and2 h
    have h1 := hh.1
    have h2 := (and2 hh.2).1
    have h3 := (and2 (and2 hh.2).2).1
    have h4 := (and2 (and2 (and2 hh.2).2).2).1
    have h5 := (and2 (and2 (and2 (and2 hh.2).2).2).2).1
    have h6 := (and2 (and2 (and2 (and2 hh.2).2).2).2).2
    cases of_decide_eq_true h1
    obtain ⟨d1, d2⟩ := nDbg_ok h4
    obtain ⟨a, fd, ps, k, F, R, m, kp, b⟩ := C.fn _ (by simpa using h2)
    obtain ⟨A1, A2⟩ := dA K sp N fs es C _ h6
    refine .mk' ?_ (fun _ => rfl) (fun _ _ _ z => nomatch z) rfl
    cases xs with
    | nil => cases h5
    | cons y ys =>
      simp only [List.all_cons, Bool.and_eq_true] at A2
      exact pe_callS F R (glOf C h3) m kp b (fun σ => passAt tk σ) A1 d1 (star_cons (not_t A2.1)) (back_any A2.2)
  · cases h
theorem dClB {X : Cx} {sc tsc : Scope} {E : L2.St → XK} (C : Cxt X K sp N fs sc tsc) (hx : ∀ σ, PassesAt (L2.CX X.prog X.w) X σ (E σ)) {f : Str} {es : Es} (v : Expr) (h : okClB N fs sc tsc f es v = true) : PE X v (tCallS (sp f) E (rdA K sp es)) := by
  unfold okClB at h
  split at h
  · rename_i g xs hv
    obtain ⟨p, q, rfl⟩ := vCall_eq hv
    have hh := and2 h
    have h1 := hh.1
    have h2 := (and2 hh.2).1
    have h3 := (and2 (and2 hh.2).2).1
    have h4 := (and2 (and2 (and2 hh.2).2).2).1
    have h5 := (and2 (and2 (and2 (and2 hh.2).2).2).2).1
    have h6 := (and2 (and2 (and2 (and2 hh.2).2).2).2).2
    cases of_decide_eq_true h1
    obtain ⟨d1, d2⟩ := nDbg_ok h4
    obtain ⟨a, fd, ps, k, F, R, m, kp, b⟩ := C.fn _ (by simpa using h2)
    obtain ⟨A1, A2⟩ := dA K sp N fs es C _ h6
    cases xs with
    | nil => cases h5
    | cons y ys =>
      simp only [List.all_cons, Bool.and_eq_true] at A2
      exact pe_callS F R (glOf C h3) m kp b hx A1 d1 (star_cons (not_t A2.1)) (back_any A2.2)
  · cases h
/-- what okLx shows -/
theorem lx_parts {X : Cx} {sc : Scope} (C : Cxt X K sp N fs sc sc) {f : Str} {es : Es} {i : Nat} {it : Iu} {v : Expr} (h : okLx N fs sc f es i it v = true) : ∃ x t j scope p, v = .ListComp x [⟨t, j, [], 0⟩] scope p ∧ PI X t j (rdI K sp it) ∧
    BlkOk X.N X.env.scope scope (ownOf N [i]) ∧ (∀ (s : Shared) (H : Hp) (A : Addr) (cl : List (Str × Addr)) (fp : List Addr), PG (X.blk s H scope (compEnvC scope cl A X.env) fp) t (gTg K (.nm i))) ∧
    (∀ (s : Shared) (H : Hp) (A : Addr) (cl : List (Str × Addr)) (fp : List Addr) (xe : Value → Shared → Prop) (E : L2.St → XK), (∀ σ', PassesAt (L2.CX X.prog X.w) { X.blk s H scope (compEnvC scope cl A X.env) fp with xe := xe } σ' (E σ')) →
      PE { X.blk s H scope (compEnvC scope cl A X.env) fp with xe := xe } x (tCallS (sp f) E (rdA K sp es))) ∧ ∀ z, foldedSetIterable j X.env z = pure z := by
  unfold okLx at h
  split at h
  · rename_i x t j c scope p hv
    have e := vComp_eq hv
    subst e
    have h1 := (and2 h).1
    have h2 := (and2 (and2 h).2).1
    have h3 := (and2 (and2 (and2 h).2).2).1
    have h4 := (and2 (and2 (and2 (and2 h).2).2).2).1
    have h5 := (and2 (and2 (and2 (and2 (and2 h).2).2).2).2).1
    have h6 := (and2 (and2 (and2 (and2 (and2 h).2).2).2).2).2
    clear h
    have ec : c = [] := List.isEmpty_iff.mp h5
    subst ec
    have B : BlkOk X.N X.env.scope scope (ownOf N [i]) := by
      rw [C.n, C.sc]
      exact blkOk_by h1
    have I := dI K sp N fs it C j h2
    refine ⟨x, t, j, scope, p, rfl, I.1 t (fun z => by rw [z] at h4; cases h4), B, fun s H A cl fp => dTg (C.blk B.uniq s H A cl fp) (.nm i) t h3, fun s H A cl fp xe E hp => ?_, I.2⟩
    exact dClB K sp N fs (X := { X.blk s H scope (compEnvC scope cl A X.env) fp with xe := xe }) ((C.blk B.uniq s H A cl fp).tr [] xe) hp x h6
  · cases h
theorem dLx {X : Cx} {sc : Scope} {W : WX} (C : Cxt X K sp N fs sc sc) (tp : TpX X) (tk : Takes X W) {f : Str} {es : Es} {i : Nat} {it : Iu} {v : Expr} (h : okLx N fs sc f es i it v = true) : Der X v (tLcR W (rdI K sp it) (gTg K (.nm i)) (sp f) (rdA K sp es) [i]) := by
  obtain ⟨x, t, j, scope, p, rfl, I, B, G, A, F⟩ := lx_parts K sp N fs C h
  have R := pe_lcR (X := X) (own := ownOf N [i]) (pos := p) tp.stk tp.fr tk C.calm (C.n ▸ C.nd) I B G A F
  exact .mk' R (fun _ => rfl) (fun _ _ _ z => nomatch z) rfl
theorem dXa {X : Cx} {sc : Scope} {W : WX} (C : Cxt X K sp N fs sc sc) (tp : TpX X) (tk : Takes X W) : ∀ (x : Xa) (v : Expr), okXa N fs sc x v = true → Der X v (rdXa K sp W x)
  | .p e, v, h => dE K sp N fs e C v (and2 h).1
  | .c f es, v, h => dCl K sp N fs C tk v h
  | .l f es i it, v, h => dLx K sp N fs C tp tk h
  | .tl f es i it, v, h => by
    simp only [okXa] at h
    split at h
    · rename_i g x hv
      obtain ⟨p, q, rfl⟩ := vCall_eq hv
      obtain ⟨h1, h2⟩ := and2 h
      obtain ⟨h2, h3⟩ := and2 h2
      cases of_decide_eq_true h1
      have A := dLx K sp N fs C tp tk h3
      exact .mk' (pe_b1 C .tuple A.pe A.ns h2) (fun _ => rfl) (fun _ _ _ z => nomatch z) rfl
    · cases h
theorem dXs {X : Cx} {sc : Scope} {W : WX} (C : Cxt X K sp N fs sc sc) (tp : TpX X) (tk : Takes X W) : ∀ (xs : List Xa) (vs : List Expr), okXs N fs sc xs vs = true → PA X vs (rdXs K sp W xs)
  | [], [], _ => pa_nil
  | x :: xs, v :: vs, h => by
    obtain ⟨h1, h2⟩ := and2 h
    have A := dXa K sp N fs C tp tk x v h1
    exact pa_cons A.pe (dXs C tp tk xs vs h2) (star_cons A.ns)
theorem dXe {X : Cx} {sc : Scope} {W : WX} (C : Cxt X K sp N fs sc sc) (tp : TpX X) (tk : Takes X W) : ∀ (x : Xe) (v : Expr), okXe N fs sc x v = true → Der X v (rdXe K sp W x)
  | .a x, v, h => dXa K sp N fs C tp tk x v h
  | .t xs, v, h => by
    simp only [okXe] at h
    split at h
    · rename_i vs hv
      obtain ⟨k, p, rfl⟩ := vTup_eq hv
      exact .mk' (pe_tup (dXs K sp N fs C tp tk xs vs h)) (fun _ => rfl) (fun _ _ _ z => nomatch z) rfl
    · cases h
theorem pe_pkC {X : Cx} {fa ga : Addr} {kf kg : Nat} {fdf fdg : FuncData} {psf psg : List Str} {spf spg : Sp} {E : L2.St → XK} {a i e : Expr} {es : List Expr} {p pos : Pos} {tc : TE} {t : TA}
    (F : FnOk X.prog X.w X.K X.mg X.base (L2.CX X.prog X.w) kf fa fdf psf spf) (hr : Room kf X.A) (hk : PySem.W.keepIn X.K (.ref fa) = true) (hb : Binds X.K fdf psf [])
    (F2 : FnOk X.prog X.w X.K X.mg X.base (L2.CX X.prog X.w) kg ga fdg psg spg) (hr2 : Room kg X.A) (hk2 : PySem.W.keepIn X.K (.ref ga) = true) (hb2 : Binds X.K fdg psg [])
    (hx : ∀ σ, PassesAt (L2.CX X.prog X.w) X σ (E σ))
    (hv : PE X (.Subscript a i p) (tOp (rIx2 X.K) (tLst (tCons (tC (.ref fa)) (tCons (tC (.ref ga)) tNil))) (tCB (rB1 X.K .int) (tCons tc tNil))))
    (ha : PA X (e :: es) t) (he : starEach (e :: es) X.env = (false, eval e X.env) :: starEach es X.env) (hpl : (backTo pos (starEach es X.env)).any (·.1) = false) :
    PE X (.Call (.Subscript a i p) (e :: es) [] pos) (tPkC X.K tc spf spg E t) := by
  refine ⟨fun pins s σ H Q I h => ?_⟩
  refine Call_ (thn (hv.run pins s σ H _ I (h fa ga)) fun u s1 ⟨x, H1, I1, rx, k, ex, q⟩ => ?_)
  subst ex
  cases k with
  | false =>
    obtain rfl : u = Value.ref fa := rx
    refine PySem.W.callWith_K (h₀ := X.base) I.ok.mod.kin hk (thn (ha.run pos pins s1 σ H1 _ I1 q) fun us s2 ⟨vs, H2, I2, r, q⟩ => ⟨I2.kIn, ?_⟩) he hpl
    exact run_fnS F hr hb (hx σ) I2 r q
  | true =>
    obtain rfl : u = Value.ref ga := rx
    refine PySem.W.callWith_K (h₀ := X.base) I.ok.mod.kin hk2 (thn (ha.run pos pins s1 σ H1 _ I1 q) fun us s2 ⟨vs, H2, I2, r, q⟩ => ⟨I2.kIn, ?_⟩) he hpl
    exact run_fnS F2 hr2 hb2 (hx σ) I2 r q
theorem dEf {X : Cx} {sc : Scope} {W : WX} (C : Cxt X K sp N fs sc sc) (tp : TpX X) (tk : Takes X W) : ∀ (e : Ef) (v : Expr), okEf N fs sc e v = true → Der X v (rdEf K sp W e)
  | .xe x, v, h => dXe K sp N fs C tp tk x v h
  | .call f es, v, h => dCl K sp N fs C tk v h
  | .pk f g c es, v, h => by
    simp only [okEf] at h
    split at h
    · rename_i u xs hu
      obtain ⟨a, i, p, q, rfl, rfl⟩ := vClS_eq hu
      split at h
      · rename_i l i' hs
        obtain ⟨p1, e1, hsl⟩ := vSub_eq hs
        cases e1
        split at h
        · rename_i x y h' z hl hc
          obtain ⟨p2, rfl⟩ := vLst_eq hl
          obtain ⟨p3, q3, rfl⟩ := vCall_eq hc
          obtain ⟨h1, h⟩ := and2 h
          obtain ⟨h2, h⟩ := and2 h
          obtain ⟨h3, h⟩ := and2 h
          obtain ⟨h4, h⟩ := and2 h
          obtain ⟨h5, h⟩ := and2 h
          obtain ⟨h6, h⟩ := and2 h
          obtain ⟨h7, h8⟩ := and2 h
          cases of_decide_eq_true h1
          unfold okFn at h3 h4
          obtain ⟨f1, f2⟩ := and2 h3
          obtain ⟨f2, f3⟩ := and2 f2
          obtain ⟨f3, f4⟩ := and2 f3
          obtain ⟨g1, g2⟩ := and2 h4
          obtain ⟨g2, g3⟩ := and2 g2
          obtain ⟨g3, g4⟩ := and2 g3
          obtain ⟨pf, rfl⟩ := vName_eq (of_decide_eq_true f1)
          obtain ⟨pg, rfl⟩ := vName_eq (of_decide_eq_true g1)
          obtain ⟨d1, d2⟩ := nDbg_ok f4
          obtain ⟨d3, d4⟩ := nDbg_ok g4
          obtain ⟨fa, fd, ps, k, F, R, m, kp, b⟩ := C.fn _ (by simpa using f2)
          obtain ⟨ga, fd2, ps2, k2, F2, R2, m2, kp2, b2⟩ := C.fn _ (by simpa using g2)
          obtain ⟨A1, A2⟩ := dA K sp N fs es C _ h8
          have I := dE K sp N fs c C z h5
          have P := pe_b1 C .int (p := p3) (q := q3) I.pe (not_t h6) h2
          have L := pe_lst (pos := p2) (pa_cons (pe_glob (pos := pf) (glOf C f3) m (show RelV (.ref fa) (.ref fa) from rfl) d1) (pa1 (pe_glob (pos := pg) (glOf C g3) m2 (show RelV (.ref ga) (.ref ga) from rfl) d3) rfl) rfl)
          have hk := C.k
          subst hk
          refine .mk' ?_ (fun _ => rfl) (fun _ _ _ z => nomatch z) rfl
          cases xs with
          | nil => cases h7
          | cons y ys =>
            simp only [List.all_cons, Bool.and_eq_true] at A2
            exact pe_pkC F R kp b F2 R2 kp2 b2 (fun σ => passAt tk σ) (pe_ix (ix_list.or ix_tup) L P (plainIx hsl)) A1 (star_cons (not_t A2.1)) (back_any A2.2)
        · cases h
      · cases h
    · cases h
  | .pop x, v, h => by
    simp only [okEf] at h
    split at h
    · rename_i y m hm
      obtain ⟨q, ap, cp, rfl, hl⟩ := vM0_eq hm
      obtain ⟨h1, h2⟩ := and2 h
      cases of_decide_eq_true h1
      have hk := C.k
      subst hk
      exact .mk' (pe_bm0 PySem.F.plainAttrs_list PySem.F.slot_list_pop PySem.F.type_list_pop mt_pop (dV C h2) rfl hl) (fun _ => rfl) (fun _ _ _ z => nomatch z) rfl
    · cases h
  | .popA x i, v, h => by
    simp only [okEf] at h
    split at h
    · rename_i y m e hm
      obtain ⟨q, ap, cp, rfl, hl⟩ := vMeth_eq hm
      have hh := and2 h
      have h1 := hh.1
      have h2 := (and2 hh.2).1
      have h3 := (and2 (and2 hh.2).2).1
      have h4 := (and2 (and2 hh.2).2).2
      cases of_decide_eq_true h1
      have E := (dE K sp N fs i C e h3).pe
      have ns := star_cons (es := []) (env := X.env) (not_t h4)
      have hk := C.k
      subst hk
      exact .mk' (pe_bm PySem.F.plainAttrs_list PySem.F.slot_list_pop PySem.F.type_list_pop mt_popAt (dV C h2) (pa1 E (not_t h4)) rfl (by rw [ns]; rfl) hl ns rfl) (fun _ => rfl) (fun _ _ _ z => nomatch z) rfl
    · cases h
  | .popK x i, v, h => by
    simp only [okEf] at h
    split at h
    · rename_i y m e hm
      obtain ⟨q, ap, cp, rfl, hl⟩ := vMeth_eq hm
      have hh := and2 h
      have h1 := hh.1
      have h2 := (and2 hh.2).1
      have h3 := (and2 (and2 hh.2).2).1
      have h4 := (and2 (and2 hh.2).2).2
      cases of_decide_eq_true h1
      have E := (dE K sp N fs i C e h3).pe
      have ns := star_cons (es := []) (env := X.env) (not_t h4)
      exact .mk' (pe_dpop1 (dV C h2) E ⟨rfl, by rw [ns]; rfl, hl, by rw [ns]; rfl⟩) (fun _ => rfl) (fun _ _ _ z => nomatch z) rfl
    · cases h
theorem dPo {X : Cx} {sc : Scope} {t : TE} (C : Cxt X K sp N fs sc sc) (ef : Ef) (A : ∀ v, okEf N fs sc ef v = true → Der X v t) : ∀ (p : Po) (v : Expr), okPo N fs sc ef p v = true → Der X v (rdPo K t p)
  | .hd, v, h => A v h
  | .ixn p n, v, h => by
    unfold okPo at h
    split at h
    · rename_i o j hv
      obtain ⟨q, rfl, hs⟩ := vSub_eq hv
      obtain ⟨h1, h2⟩ := and2 h
      obtain ⟨k, r, rfl⟩ := vInt_eq (of_decide_eq_true h1)
      have B := dPo C ef A p o h2
      have hk := C.k
      subst hk
      exact .mk' (pe_ix (ix_list.or ix_tup) B.pe pe_int (plainIx hs)) (fun _ => rfl) (fun _ _ _ z => nomatch z) rfl
    · cases h
  | .isN p, v, h => by
    unfold okPo at h
    split at h
    · rename_i x o y hv
      obtain ⟨q, rfl⟩ := vC1_eq hv
      obtain ⟨h1, h2⟩ := and2 h
      obtain ⟨h2, h3⟩ := and2 h2
      cases of_decide_eq_true h1
      obtain ⟨k, r, rfl⟩ := vNon_eq h2
      have B := dPo C ef A p _ h3
      exact ⟨pe_cmpR op_isN B.pe pe_non (nomark _), pt_cmpR op_isN B.pe pe_non (nomark _), (fun _ _ _ z => nomatch z), rfl⟩
    · cases h
  | .eqS p z, v, h => by
    unfold okPo at h
    split at h
    · rename_i x o y hv
      obtain ⟨q, rfl⟩ := vC1_eq hv
      have hh := and2 h
      have h1 := hh.1
      have h2 := (and2 hh.2).1
      have h3 := (and2 (and2 hh.2).2).1
      have h4 := (and2 (and2 hh.2).2).2
      cases of_decide_eq_true h1
      obtain ⟨k, r, rfl⟩ := vStr_eq (of_decide_eq_true h3)
      have B := dPo C ef A p _ h4
      have hk := C.k
      subst hk
      exact ⟨pe_cmpR (cmp_all C.hu .Eq) B.pe pe_str (not_t h2), pt_cmpR (cmp_all C.hu .Eq) B.pe pe_str (not_t h2), (fun _ _ _ z => nomatch z), rfl⟩
    · cases h
  | .lst1 p, v, h => by
    unfold okPo at h
    split at h
    · rename_i x hv
      obtain ⟨q, rfl⟩ := vLst_eq hv
      have B := dPo C ef A p x h
      exact .mk' (pe_lst (pa1 B.pe B.ns)) (fun _ => rfl) (fun _ _ _ z => nomatch z) rfl
    · cases h
  | .tupS z p, v, h => by
    unfold okPo at h
    split at h
    · rename_i x y hv
      obtain ⟨q1, q2, rfl⟩ := vTup_eq hv
      obtain ⟨h1, h2⟩ := and2 h
      obtain ⟨k, r, rfl⟩ := vStr_eq (of_decide_eq_true h1)
      have B := dPo C ef A p y h2
      have hk := C.k
      subst hk
      exact .mk' (pe_tup (pa_cons pe_str (pa1 B.pe B.ns) (star_cons rfl))) (fun _ => rfl) (fun _ _ _ z => nomatch z) rfl
    · cases h
  | .opI op a p, v, h => by
    unfold okPo at h
    split at h
    · rename_i x o y hv
      obtain ⟨q, rfl⟩ := vBin_eq hv
      obtain ⟨h1, h2⟩ := and2 h
      obtain ⟨h2, h3⟩ := and2 h2
      cases of_decide_eq_true h1
      obtain ⟨k, r, rfl⟩ := vInt_eq (of_decide_eq_true h2)
      have B := dPo C ef A p _ h3
      have hk := C.k
      subst hk
      exact .mk' (pe_op (op_all op) pe_int B.pe) (fun _ => rfl) (fun _ _ _ z => nomatch z) rfl
    · cases h
  | .ixv i p, v, h => by
    unfold okPo at h
    split at h
    · rename_i o j hv
      obtain ⟨q, rfl, hs⟩ := vSub_eq hv
      split at h
      · rename_i y hy
        obtain ⟨r, rfl⟩ := vName_eq hy
        obtain ⟨h1, h2⟩ := and2 h
        have B := dPo C ef A p _ h2
        have hk := C.k
        subst hk
        exact .mk' (pe_dget (by have := C.hu; omega) (dV C h1) B.pe (plainIx hs)) (fun _ => rfl) (fun _ _ _ z => nomatch z) rfl
      · cases h
    · cases h
mutual
theorem dS : ∀ (e : S) {X : Cx} {sc : Scope} {W : WX} (C : Cxt X K sp N fs sc sc) (tp : TpX X) (tk : Takes X W) (po : PassesOwn (model X.prog X.w) X.A X.env X.xe) (x : Stmt), okS N fs sc e x = true → PS X x (rdS K sp e W)
  | .asg t e, X, sc, W, C, tp, tk, po, x, h => by
    unfold okS at h
    split at h
    · rename_i tg v p hv
      have ex := vAsg_eq hv
      subst ex
      have hh := and2 h
      have h1 := hh.1
      have h2 := (and2 hh.2).1
      have h3 := (and2 hh.2).2
      have E := dE K sp N fs e C v h2
      cases t with
      | tp is =>
        obtain ⟨h4, h5⟩ := and2 h3
        have G := dTg C (.tp is) tg h1
        simp only [okTg] at h1
        split at h1
        · rename_i es hx
          obtain ⟨k, q, rfl⟩ := vTup_eq hx
          exact ps_asg E.pe G (no_sole (not_t h4)) (no_stores (not_t h5)) rfl
        · cases h1
      | nm i =>
        simp only [okTg] at h1
        split at h1
        · rename_i y hy
          obtain ⟨q, rfl⟩ := vName_eq hy
          obtain ⟨a1, a2⟩ := and2 h1
          obtain ⟨t1, t2⟩ := C.tg y a2
          have plain : (swapsWith v (some (.Name y q)) p.line X.env = pure false) → PS X (.Assign [.Name y q] v p) (rdS K sp (.asg (.nm i) e) W) := fun hs =>
            ps_set (i := i) (C.n ▸ C.nd) (C.n ▸ of_decide_eq_true a1) t1 E.pe hs t2
          cases e with
          | lc elt tg it ifs vs =>
            unfold okE at h2
            split at h2
            · rename_i y' t i' c scope p' hv'
              have e' := vComp_eq hv'
              subst e'
              have sw := sw_val (elt := y') (gs := [⟨t, i', c, 0⟩]) (scope := scope) (pos := p') (py := q) (y := y) (l := p.line) (env := X.env)
              cases hb : (X.env.blockKind == .function && X.env.kindOf y == some .local && q.line == (Expr.ListComp y' [⟨t, i', c, 0⟩] scope p').pos.line && !(scope.names.any fun (n, k) => n == y && (k == .local || k == .cell))) with
              | false =>
                rw [hb] at sw
                exact plain sw
              | true =>
                rw [hb] at sw
                have hl : X.env.scope.names.lookup y = some .local := by
                  have b1 := (and2 (and2 (and2 hb).1).1).2
                  have b2 : X.env.kindOf y = some .local := by simpa using b1
                  exact b2
                have hh := and2 h2
                have h1 := hh.1
                have h2 := (and2 hh.2).1
                have h3 := (and2 (and2 hh.2).2).1
                have hp := (and2 (and2 (and2 hh.2).2).2).1
                have h5 := (and2 (and2 (and2 (and2 hh.2).2).2).2).1
                have h6 := (and2 (and2 (and2 (and2 hh.2).2).2).2).2
                have B : BlkOk X.N X.env.scope scope (ownOf N vs) := by
                  rw [C.n, C.sc]
                  exact blkOk_by h1
                have I := dI K sp N fs it C i' h2
                have ev : (ownOf N vs).map (·.2) = vs := by
                  unfold ownOf
                  rw [List.map_map]
                  exact List.map_id'' (fun _ => rfl) vs
                have R := ps_setLc (X := X) (i := i) (own := ownOf N vs) (pos := p') (py := q) (spos := p) C.calm (C.n ▸ C.nd) (C.n ▸ of_decide_eq_true a1) hl sw (I.1 t (prTup hp)) B (fun s H A cl fp => dTg (C.blk B.uniq s H A cl fp) tg t h3) (fun s H A cl fp => dC K sp N fs ifs (C.blk B.uniq s H A cl fp) c h5) (fun s H A cl fp => (dE K sp N fs elt (C.blk B.uniq s H A cl fp) y' h6).pe) I.2
                rw [ev] at R
                exact R
            · cases h2
          | _ => exact plain (no_swap (not_t h3))
        · cases h1
    · cases h
  | .ef k e p, X, sc, W, C, tp, tk, po, st, h => by
    have A := dPo K sp N fs C e (dEf K sp N fs C tp tk e) p
    cases k with
    | asg t =>
      simp only [okS] at h
      split at h
      · rename_i tg v ps hv
        have ex := vAsg_eq hv
        subst ex
        have hh := and2 h
        have h1 := hh.1
        have E := A v (and2 hh.2).1
        have c1 := (and2 (and2 hh.2).2).1
        have c2 := (and2 (and2 hh.2).2).2
        have G := dTg C t tg h1
        cases t with
        | tp is =>
          simp only [okTg] at h1
          split at h1
          · rename_i es' hx
            obtain ⟨k, q, rfl⟩ := vTup_eq hx
            exact ps_asg E.pe G (no_sole (not_t (show (!isComp v) = true from c1))) (no_stores (not_t c2)) rfl
          · cases h1
        | nm i =>
          simp only [okTg] at h1
          split at h1
          · rename_i y hy
            obtain ⟨q, rfl⟩ := vName_eq hy
            obtain ⟨a1, a2⟩ := and2 h1
            obtain ⟨t1, t2⟩ := C.tg y a2
            have plain : swapsWith v (some (.Name y q)) ps.line X.env = pure false → PS X (.Assign [.Name y q] v ps) (rdS K sp (.ef (.asg (.nm i)) e p) W) := fun hs =>
              ps_set (i := i) (C.n ▸ C.nd) (C.n ▸ of_decide_eq_true a1) t1 E.pe hs t2
            cases hx : efLc (.nm i) e p with
            | false =>
              rw [hx, Bool.false_or] at c1
              exact plain (no_swap (not_t c1))
            | true =>
              unfold efLc at hx
              split at hx
              · rename_i f es j it hq
                have hp := (and2 hh.2).1
                obtain ⟨x', t', i', scope, p', rfl, I, B, G', A', F⟩ := lx_parts K sp N fs (f := f) (es := es) (i := j) (it := it) C hp
                have sw := sw_val (elt := x') (gs := [⟨t', i', [], 0⟩]) (scope := scope) (pos := p') (py := q) (y := y) (l := ps.line) (env := X.env)
                cases hb : (X.env.blockKind == .function && X.env.kindOf y == some .local && q.line == (Expr.ListComp x' [⟨t', i', [], 0⟩] scope p').pos.line && !(scope.names.any fun (n, k) => n == y && (k == .local || k == .cell))) with
                | false =>
                  rw [hb] at sw
                  exact plain sw
                | true =>
                  rw [hb] at sw
                  have hl : X.env.scope.names.lookup y = some .local := by
                    have b1 := (and2 (and2 (and2 hb).1).1).2
                    have b2 : X.env.kindOf y = some .local := by simpa using b1
                    exact b2
                  exact ps_setLcR (X := X) (i := i) (own := ownOf N [j]) (pos := p') (py := q) (spos := ps) tp.stk tp.fr tk C.calm (C.n ▸ C.nd) (C.n ▸ of_decide_eq_true a1) hl sw I B G' A' F
              · cases hx
          · cases h1
      · cases h
    | ret =>
      simp only [okS] at h
      split at h
      · rename_i v hv
        obtain ⟨q, rfl⟩ := vRet_eq hv
        exact ps_ret (A v h).pe
      · cases h
    | exp =>
      simp only [okS] at h
      split at h
      · rename_i v hv
        obtain ⟨q, rfl⟩ := vExp_eq hv
        obtain ⟨h1, h2⟩ := and2 h
        exact ps_expr (A v h1).pe (no_swap (not_t h2))
      · cases h
    | app x =>
      simp only [okS] at h
      split at h
      · rename_i c hv
        obtain ⟨p', rfl⟩ := vExp_eq hv
        split at h
        · rename_i y m v hm
          obtain ⟨q, ap, cp, rfl, hl⟩ := vMeth_eq hm
          have hh := and2 h
          have h1 := hh.1
          have h2 := (and2 hh.2).1
          have E := A v (and2 hh.2).2
          cases of_decide_eq_true h1
          have ns := star_cons (es := []) (env := X.env) E.ns
          have hk := C.k
          subst hk
          exact ps_expr (pe_bm PySem.F.plainAttrs_list PySem.F.slot_list_append PySem.F.type_list_append mt_append (dV C h2) (pa1 E.pe E.ns) rfl (by rw [ns]; rfl) hl ns rfl) rfl
        · cases h
      · cases h
    | set x i =>
      simp only [okS] at h
      split at h
      · rename_i tg v p' hv
        have ex := vAsg_eq hv
        subst ex
        split at h
        · rename_i o j hs
          obtain ⟨q, rfl, hsl⟩ := vSub_eq hs
          split at h
          · rename_i y hy
            obtain ⟨r, rfl⟩ := vName_eq hy
            have hh := and2 h
            have h1 := hh.1
            have h2 := (and2 hh.2).1
            have E := A v (and2 (and2 hh.2).2).1
            have c1 := (and2 (and2 (and2 hh.2).2).2).1
            have c2 := (and2 (and2 (and2 hh.2).2).2).2
            exact ps_asg E.pe (pg_sub (dV C h1) (dE K sp N fs i C j h2).pe (C.k ▸ set_two C.hu) (fun v => by cases j <;> first | rfl | simp [isSl] at hsl)) (no_sole (not_t c1)) (no_stores (not_t c2)) rfl
          · cases h
        · cases h
      · cases h
  | .eft e p a b, X, sc, W, C, tp, tk, po, st, h => by
    have A := dPo K sp N fs C e (dEf K sp N fs C tp tk e) p
    unfold okS at h
    split at h
    · rename_i z x y hv
      obtain ⟨q, rfl⟩ := vIfS_eq hv
      have hh := and2 h
      exact ps_if (A z hh.1).pt (dSs a C tp tk po x (and2 hh.2).1) (dSs b C tp tk po y (and2 hh.2).2)
    · cases h
  | .fst t x y c, X, sc, W, C, tp, tk, po, st, h => by
    unfold okS at h
    split at h
    · rename_i tg i b hv
      obtain ⟨pp, rfl⟩ := vFor_eq hv
      split at h
      · rename_i n m u htg hi
        obtain ⟨q1, rfl⟩ := vName_eq htg
        obtain ⟨q2, rfl⟩ := vName_eq hi
        split at h
        · rename_i g v p' hu
          have ex := vAsg_eq hu
          subst ex
          split at h
          · rename_i o j hs
            obtain ⟨q3, rfl, hsl⟩ := vSub_eq hs
            split at h
            · rename_i p q k ho hj hk
              obtain ⟨q4, rfl⟩ := vName_eq ho
              obtain ⟨q5, rfl⟩ := vName_eq hj
              obtain ⟨k2, q6, rfl⟩ := vBl_eq hk
              have hh := and2 h
              have h1 := hh.1
              have h2 := (and2 hh.2).1
              have h3 := (and2 (and2 hh.2).2).1
              have h4 := (and2 (and2 (and2 hh.2).2).2).1
              have h5 := (and2 (and2 (and2 (and2 hh.2).2).2).2).1
              have h6 := (and2 (and2 (and2 (and2 hh.2).2).2).2).2
              cases of_decide_eq_true h1
              obtain ⟨t1, t2⟩ := C.tg n h3
              have I := dI K sp N fs (.seq (.var x)) C (.Name m q2) (by
                show (okE N fs sc sc (.var x) (.Name m q2) && !isSet (.Name m q2)) = true
                simp only [okE, vName, Bool.and_eq_true]
                obtain ⟨w1, w2⟩ := and2 h4
                obtain ⟨w2, w3⟩ := and2 w2
                exact ⟨⟨w1, w2, w3⟩, rfl⟩)
              exact ps_for po C.calm (I.1 _ (fun z => by cases z)) (pg_name (C.n ▸ C.nd) (C.n ▸ of_decide_eq_true h2) t1 t2) (pss_cons (ps_asg pe_bl (pg_sub (dV C h5) (dV C h6) (C.k ▸ set_two C.hu) (fun v => rfl)) rfl rfl rfl) pss_nil) I.2
            · cases h
          · cases h
        · cases h
      · cases h
    · cases h
  | .ins x i e, X, sc, W, C, tp, tk, po, st, h => by
    unfold okS at h
    split at h
    · rename_i c hv
      obtain ⟨p, rfl⟩ := vExp_eq hv
      split at h
      · rename_i y m u v hm
        obtain ⟨q, ap, cp, rfl, hl⟩ := vM2_eq hm
        have hh := and2 h
        have h1 := hh.1
        have h2 := (and2 hh.2).1
        have h3 := (and2 (and2 hh.2).2).1
        have h4 := (and2 (and2 (and2 hh.2).2).2).1
        have h5 := (and2 (and2 (and2 (and2 hh.2).2).2).2).1
        have h6 := (and2 (and2 (and2 (and2 hh.2).2).2).2).2
        cases of_decide_eq_true h1
        have E1 := (dE K sp N fs i C u h3).pe
        have E2 := (dE K sp N fs e C v h5).pe
        have ns2 := star_cons (es := []) (env := X.env) (not_t h6)
        have ns := star_cons (es := [v]) (env := X.env) (not_t h4)
        have hk := C.k
        subst hk
        exact ps_expr (pe_bm PySem.F.plainAttrs_list PySem.F.slot_list_insert PySem.F.type_list_insert mt_insert (dV C h2) (pa_cons E1 (pa1 E2 (not_t h6)) ns) rfl (by rw [ns, ns2]; rfl) hl ns (by rw [ns2]; rfl)) rfl
      · cases h
    · cases h
  | .setix x i e, X, sc, W, C, tp, tk, po, st, h => by
    unfold okS at h
    split at h
    · rename_i tg v p hv
      have ex := vAsg_eq hv
      subst ex
      split at h
      · rename_i o j hs
        obtain ⟨q, rfl, hsl⟩ := vSub_eq hs
        split at h
        · rename_i y hy
          obtain ⟨r, rfl⟩ := vName_eq hy
          have hh := and2 h
          have h1 := hh.1
          have h2 := (and2 hh.2).1
          have h3 := (and2 (and2 hh.2).2).1
          have h4 := (and2 (and2 hh.2).2).2
          exact ps_asg (dE K sp N fs e C v h3).pe (pg_sub (dV C h1) (dE K sp N fs i C j h2).pe (C.k ▸ set_two C.hu) (fun v => by cases j <;> first | rfl | simp [isSl] at hsl)) (no_sole (not_t h4)) (by cases v <;> rfl) rfl
        · cases h
      · cases h
    · cases h
  | .aug x op e, X, sc, W, C, tp, tk, po, st, h => by
    unfold okS at h
    split at h
    · rename_i y o v hv
      obtain ⟨p, q, rfl⟩ := vAug_eq hv
      have hh := and2 h
      have h1 := hh.1
      have h2 := (and2 hh.2).1
      have h3 := (and2 (and2 hh.2).2).1
      have h4 := (and2 (and2 hh.2).2).2
      cases of_decide_eq_true h1
      obtain ⟨t1, t2⟩ := C.tg y h3
      exact ps_aug (C.n ▸ C.nd) (C.n ▸ of_decide_eq_true h2) t1 (dE K sp N fs e C v h4).pe (ip_all op) t2
    · cases h
  | .fap o e, X, sc, W, C, tp, tk, po, st, h => by
    unfold okS at h
    split at h
    · rename_i c hv
      obtain ⟨p, rfl⟩ := vExp_eq hv
      split at h
      · rename_i y v hm
        obtain ⟨ap, cp, rfl, hx, hl⟩ := vMfe_eq hm
        obtain ⟨h1, h2⟩ := and2 h
        obtain ⟨h2, h3⟩ := and2 h2
        have O := (dE K sp N fs o C _ h1).pe
        have E := (dE K sp N fs e C v h2).pe
        have ns := star_cons (es := []) (env := X.env) (not_t h3)
        have hk := C.k
        subst hk
        rcases hx with ⟨z, g, q, rfl⟩ | ⟨z, g, q, rfl⟩
        · exact ps_expr (pe_bm PySem.F.plainAttrs_list PySem.F.slot_list_append PySem.F.type_list_append mt_append O (pa1 E (not_t h3)) rfl (by rw [ns]; rfl) hl ns rfl) rfl
        · exact ps_expr (pe_bm PySem.F.plainAttrs_list PySem.F.slot_list_append PySem.F.type_list_append mt_append O (pa1 E (not_t h3)) rfl (by rw [ns]; rfl) hl ns rfl) rfl
      · cases h
    · cases h
  | .fsx o i e, X, sc, W, C, tp, tk, po, st, h => by
    unfold okS at h
    split at h
    · rename_i tg v p hv
      have ex := vAsg_eq hv
      subst ex
      split at h
      · rename_i y j hs
        obtain ⟨q, rfl, hsl⟩ := vSub_eq hs
        split at h
        · rename_i y' hy
          obtain ⟨r, e'⟩ := vAttr_eq (x := y'.1) (g := y'.2) hy
          subst e'
          have hh := and2 h
          have h1 := hh.1
          have h2 := (and2 hh.2).1
          have h3 := (and2 (and2 hh.2).2).1
          have h4 := (and2 (and2 hh.2).2).2
          exact ps_asg (dE K sp N fs e C v h3).pe (pg_sub (dE K sp N fs o C _ h1).pe (dE K sp N fs i C j h2).pe (C.k ▸ set_two C.hu) (fun v => by cases j <;> first | rfl | simp [isSl] at hsl)) (no_sole (not_t h4)) (by cases v <;> rfl) rfl
        · cases h
      · cases h
    · cases h
  | .fas p f e, X, sc, W, C, tp, tk, po, st, h => by
    unfold okS at h
    split at h
    · rename_i tg v p' hv
      have ex := vAsg_eq hv
      subst ex
      split at h
      · rename_i o g hs
        obtain ⟨q, rfl⟩ := vAttr_eq hs
        have g1 := (and2 h).1
        have g2 := (and2 (and2 h).2).1
        have h3 := (and2 (and2 (and2 h).2).2).1
        have h4 := (and2 (and2 (and2 h).2).2).2
        clear h
        cases of_decide_eq_true g1
        split at g2
        · rename_i y hy
          obtain ⟨r, rfl⟩ := vName_eq hy
          have V := dV (p := r) C g2
          have E := (dE K sp N fs e C v h3).pe
          have hk := C.k
          subst hk
          exact ps_fld V E (no_swap (not_t h4))
        · cases g2
      · cases h
    · cases h
  | .tn g js e, X, sc, W, C, tp, tk, po, st, h => by
    unfold okS at h
    split at h
    · rename_i tg v p' hv
      have ex := vAsg_eq hv
      subst ex
      split at h
      · rename_i t1 t2 hs
        obtain ⟨k, q, rfl⟩ := vTup_eq hs
        obtain ⟨h1, h2⟩ := and2 h
        obtain ⟨h2, h3⟩ := and2 h2
        obtain ⟨h3, h4⟩ := and2 h3
        obtain ⟨h4, h5⟩ := and2 h4
        have E := (dE K sp N fs e C v h3).pe
        have G1 := dTg C (.nm g) t1 h1
        have G2 := dTg C (.tp js) t2 h2
        have hk := C.k
        subst hk
        simp only [okTg] at h1 h2
        split at h1
        · rename_i y hy
          obtain ⟨r, rfl⟩ := vName_eq hy
          split at h2
          · rename_i es hx
            obtain ⟨k2, q2, rfl⟩ := vTup_eq hx
            exact ps_asg E (pg_tup C.calm (pgs_cons G1 (pgs_cons G2 pgs_nil))) (no_sole (not_t h4)) (no_stores (not_t h5)) rfl
          · cases h2
        · cases h1
      · cases h
    · cases h
  | .app x e, X, sc, W, C, tp, tk, po, st, h => by
    unfold okS at h
    split at h
    · rename_i c hv
      obtain ⟨p, rfl⟩ := vExp_eq hv
      split at h
      · rename_i y m v hm
        obtain ⟨q, ap, cp, rfl, hl⟩ := vMeth_eq hm
        have hh := and2 h
        have h1 := hh.1
        have h2 := (and2 hh.2).1
        have h3 := (and2 (and2 hh.2).2).1
        have h4 := (and2 (and2 hh.2).2).2
        cases of_decide_eq_true h1
        have E := (dE K sp N fs e C v h3).pe
        have ns := star_cons (es := []) (env := X.env) (not_t h4)
        have hk := C.k
        subst hk
        exact ps_expr (pe_bm PySem.F.plainAttrs_list PySem.F.slot_list_append PySem.F.type_list_append mt_append (dV C h2) (pa1 E (not_t h4)) rfl (by rw [ns]; rfl) hl ns rfl) rfl
      · cases h
    · cases h
  | .ext x e, X, sc, W, C, tp, tk, po, st, h => by
    unfold okS at h
    split at h
    · rename_i c hv
      obtain ⟨p, rfl⟩ := vExp_eq hv
      split at h
      · rename_i y m v hm
        obtain ⟨q, ap, cp, rfl, hl⟩ := vMeth_eq hm
        have hh := and2 h
        have h1 := hh.1
        have h2 := (and2 hh.2).1
        have h3 := (and2 (and2 hh.2).2).1
        have h4 := (and2 (and2 hh.2).2).2
        cases of_decide_eq_true h1
        have E := (dE K sp N fs e C v h3).pe
        have ns := star_cons (es := []) (env := X.env) (not_t h4)
        have hk := C.k
        subst hk
        exact ps_expr (pe_bm PySem.F.plainAttrs_list PySem.F.slot_list_extend PySem.F.type_list_extend mt_extend (dV C h2) (pa1 E (not_t h4)) rfl (by rw [ns]; rfl) hl ns rfl) rfl
      · cases h
    · cases h
  | .exp e, X, sc, W, C, tp, tk, po, st, h => by
    unfold okS at h
    split at h
    · rename_i v hv
      obtain ⟨p, rfl⟩ := vExp_eq hv
      obtain ⟨h1, h2⟩ := and2 h
      exact ps_expr (dE K sp N fs e C v h1).pe (no_swap (not_t h2))
    · cases h
  | .ret e, X, sc, W, C, tp, tk, po, st, h => by
    unfold okS at h
    split at h
    · rename_i v hv
      obtain ⟨p, rfl⟩ := vRet_eq hv
      exact ps_ret (dE K sp N fs e C v h).pe
    · cases h
  | .retN, X, sc, W, C, tp, tk, po, st, h => by
    unfold okS at h
    split at h
    · rename_i hv
      obtain ⟨p, rfl⟩ := vRet_eq hv
      exact ps_retN
    · cases h
  | .ite c a b, X, sc, W, C, tp, tk, po, st, h => by
    unfold okS at h
    split at h
    · rename_i z x y hv
      obtain ⟨p, rfl⟩ := vIfS_eq hv
      have hh := and2 h
      exact ps_if (dE K sp N fs c C z hh.1).pt (dSs a C tp tk po x (and2 hh.2).1) (dSs b C tp tk po y (and2 hh.2).2)
    · cases h
  | .for_ t it b, X, sc, W, C, tp, tk, po, st, h => by
    unfold okS at h
    split at h
    · rename_i tg i y hv
      obtain ⟨p, rfl⟩ := vFor_eq hv
      have hh := and2 h
      have I := dI K sp N fs it C i (and2 hh.2).1
      exact ps_for po C.calm (I.1 tg (prTup (and2 (and2 hh.2).2).1)) (dTg C t tg hh.1) (dSs b C tp tk po y (and2 (and2 hh.2).2).2) I.2
    · cases h
  | .mt0 k x, X, sc, W, C, tp, tk, po, st, h => by
    unfold okS at h
    split at h
    · rename_i c hv
      obtain ⟨p, rfl⟩ := vExp_eq hv
      split at h
      · rename_i y m hm
        obtain ⟨q, ap, cp, rfl, hl⟩ := vM0_eq hm
        have hh := and2 h
        cases of_decide_eq_true hh.1
        have hk := C.k
        subst hk
        cases k with
        | rev => exact ps_expr (pe_bm0 PySem.F.plainAttrs_list PySem.F.slot_list_reverse PySem.F.type_list_reverse mt_reverse (dV C hh.2) rfl hl) rfl
        | clr => exact ps_expr (pe_bm0 PySem.F.plainAttrs_list PySem.F.slot_list_clear PySem.F.type_list_clear mt_clear (dV C hh.2) rfl hl) rfl
      · cases h
    · cases h
  | .mt1 k x e, X, sc, W, C, tp, tk, po, st, h => by
    unfold okS at h
    split at h
    · rename_i c hv
      obtain ⟨p, rfl⟩ := vExp_eq hv
      split at h
      · rename_i y m v hm
        obtain ⟨q, ap, cp, rfl, hl⟩ := vMeth_eq hm
        have hh := and2 h
        have h1 := hh.1
        have h2 := (and2 hh.2).1
        have h3 := (and2 (and2 hh.2).2).1
        have h4 := (and2 (and2 hh.2).2).2
        cases of_decide_eq_true h1
        have E1 := (dE K sp N fs e C v h3).pe
        have ns := star_cons (es := []) (env := X.env) (not_t h4)
        have hk := C.k
        subst hk
        cases k with
        | rem => exact ps_expr (pe_bm PySem.F.plainAttrs_list PySem.F.slot_list_remove PySem.F.type_list_remove mt_remove (dV C h2) (pa1 E1 (not_t h4)) rfl (by rw [ns]; rfl) hl ns rfl) rfl
      · cases h
    · cases h
  | .mt2 k x e1 e2, X, sc, W, C, tp, tk, po, st, h => by
    unfold okS at h
    split at h
    · rename_i c hv
      obtain ⟨p, rfl⟩ := vExp_eq hv
      split at h
      · rename_i y m u v hm
        obtain ⟨q, ap, cp, rfl, hl⟩ := vM2_eq hm
        have hh := and2 h
        have h1 := hh.1
        have h2 := (and2 hh.2).1
        have h3 := (and2 (and2 hh.2).2).1
        have h4 := (and2 (and2 (and2 hh.2).2).2).1
        have h5 := (and2 (and2 (and2 (and2 hh.2).2).2).2).1
        have h6 := (and2 (and2 (and2 (and2 hh.2).2).2).2).2
        cases of_decide_eq_true h1
        have E1 := (dE K sp N fs e1 C u h3).pe
        have E2 := (dE K sp N fs e2 C v h5).pe
        cases k with
        | sdf => exact ps_expr (pe_dsetd (dV C h2) E1 E2 (m2_of rfl (not_t h4) (not_t h6) hl)) rfl
      · cases h
    · cases h
  | .fdk t i b, X, sc, W, C, tp, tk, po, st, h => by
    unfold okS at h
    split at h
    · rename_i tg it y hv
      obtain ⟨p, rfl⟩ := vFor_eq hv
      have h1 := (and2 h).1
      have hm := (and2 (and2 h).2).1
      have h3 := (and2 (and2 h).2).2
      clear h
      split at hm
      · rename_i z hz
        obtain ⟨pz, rfl⟩ := vName_eq hz
        have R := ps_for (iter := .Name z pz) (pos := p) po C.calm (pi_keys (tg := tg) (dV C (p := pz) hm)) (dTg C t tg h1) (dSs b C tp tk po y h3) (folded_plain rfl)
        have R2 := ps_lock R
        exact ⟨fun pins s σ H D I q => q.elim (R.run pins s σ H D I) (R2.run pins s σ H D I)⟩
      · cases hm
    · cases h
  | .whl c b, X, sc, W, C, tp, tk, po, st, h => by
    unfold okS at h
    split at h
    · rename_i z y hv
      obtain ⟨p, rfl⟩ := vWhl_eq hv
      have hh := and2 h
      exact ps_while po (dE K sp N fs c C z hh.1).pt (dSs b C tp tk po y hh.2)
    · cases h
  | .brk, X, sc, W, C, tp, tk, po, st, h => by
    unfold okS isBrk at h
    split at h
    · exact ps_break
    · cases h
  | .cont, X, sc, W, C, tp, tk, po, st, h => by
    unfold okS isCont at h
    split at h
    · exact ps_continue
    · cases h
  | .pass, X, sc, W, C, tp, tk, po, st, h => by
    unfold okS isPass at h
    split at h
    · exact ps_pass
    · cases h
  | .nvr, X, sc, W, C, tp, tk, po, st, h => ps_never
  | .ndn i, X, sc, W, C, tp, tk, po, st, h => by
    unfold okS at h
    split at h
    · rename_i tg v p hv
      have ex := vAsg_eq hv
      subst ex
      obtain ⟨h1, h2⟩ := and2 h
      obtain ⟨q, rfl⟩ := vDict0_eq h2
      simp only [okTg] at h1
      split at h1
      · rename_i y hy
        obtain ⟨q2, rfl⟩ := vName_eq hy
        obtain ⟨h3, h4⟩ := and2 h1
        obtain ⟨t1, t2⟩ := C.tg y h4
        exact ps_asg pe_dnewN (pg_name (C.n ▸ C.nd) (C.n ▸ of_decide_eq_true h3) t1 t2) (by rfl) rfl rfl
      · cases h1
    · cases h
  | .rse c, X, sc, W, C, tp, tk, po, st, h => by
    unfold okS at h
    split at h
    · rename_i x hv
      obtain ⟨p, m, j, q, r, t, rfl⟩ := vRse_eq hv
      have hh := and2 h
      have h1 := hh.1
      have h2 := (and2 hh.2).1
      have h3 := (and2 (and2 hh.2).2).1
      have h4 := (and2 (and2 hh.2).2).2
      cases of_decide_eq_true h1
      obtain ⟨ok, xr⟩ := C.xr _ (by simpa using h3)
      have hk := C.k
      subst hk
      exact ps_imp (ps_raise C.calm tk (pmk_own PySem.F.excBase_ValueError xr.q xr.g xr.kp xr.r (glOf C h2) (xall_dbg _ h4))) fun D σ H z => z ok
    · cases h
  | .cst k f es, X, sc, W, C, tp, tk, po, st, h => by
    have call_ : ∀ v, okCl N fs sc f es v = true → PE X v (tCallS (sp f) (WE W) (rdA K sp es)) ∧ isComp v = false ∧ isTupD v = false ∧ (∀ l env, swapsWithSole [] v l env = swapsWithSole [] v l env) := fun v h => by
      unfold okCl at h
      split at h
      · rename_i g xs hv
        obtain ⟨p, q, rfl⟩ := vCall_eq hv
        have hh := and2 h
        have h1 := hh.1
        have h2 := (and2 hh.2).1
        have h3 := (and2 (and2 hh.2).2).1
        have h4 := (and2 (and2 (and2 hh.2).2).2).1
        have h5 := (and2 (and2 (and2 (and2 hh.2).2).2).2).1
        have h6 := (and2 (and2 (and2 (and2 hh.2).2).2).2).2
        cases of_decide_eq_true h1
        obtain ⟨d1, d2⟩ := nDbg_ok h4
        obtain ⟨a, fd, ps, k, F, R, m, kp, b⟩ := C.fn _ (by simpa using h2)
        obtain ⟨A1, A2⟩ := dA K sp N fs es C _ h6
        refine ⟨?_, rfl, rfl, fun _ _ => rfl⟩
        cases xs with
        | nil => cases h5
        | cons y ys =>
          simp only [List.all_cons, Bool.and_eq_true] at A2
          exact pe_callS F R (glOf C h3) m kp b (fun σ => passAt tk σ) A1 d1 (star_cons (not_t A2.1)) (back_any A2.2)
      · cases h
    unfold okS at h
    cases k with
    | asg t =>
      simp only at h
      split at h
      · rename_i tg v p hv
        have ex := vAsg_eq hv
        subst ex
        obtain ⟨h1, h2⟩ := and2 h
        obtain ⟨E, c1, c2, _⟩ := call_ v h2
        have G := dTg C t tg h1
        cases t with
        | tp is =>
          simp only [okTg] at h1
          split at h1
          · rename_i es' hx
            obtain ⟨k, q, rfl⟩ := vTup_eq hx
            exact ps_asg E G (no_sole c1) (no_stores c2) rfl
          · cases h1
        | nm i =>
          simp only [okTg] at h1
          split at h1
          · rename_i y hy
            obtain ⟨q, rfl⟩ := vName_eq hy
            obtain ⟨a1, a2⟩ := and2 h1
            obtain ⟨t1, t2⟩ := C.tg y a2
            exact ps_set (i := i) (C.n ▸ C.nd) (C.n ▸ of_decide_eq_true a1) t1 E (no_swap c1) t2
          · cases h1
      · cases h
    | ret =>
      simp only at h
      split at h
      · rename_i v hv
        obtain ⟨p, rfl⟩ := vRet_eq hv
        exact ps_ret (call_ v h).1
      · cases h
    | exp =>
      simp only at h
      split at h
      · rename_i v hv
        obtain ⟨p, rfl⟩ := vExp_eq hv
        obtain ⟨E, c1, c2, _⟩ := call_ v h
        exact ps_expr E (no_swap c1)
      · cases h
  | .tr b hs, X, sc, W, C, tp, tk, po, st, h => by
    unfold okS at h
    split at h
    · rename_i x y hv
      obtain ⟨h₀, r, p, rfl, rfl⟩ := vTry_eq hv
      obtain ⟨h1, h2⟩ := and2 h
      obtain ⟨H1, H2⟩ := dHs K sp N fs C.cq hs _ h2
      have B : ∀ (W' : WX) (pn : List (Addr × Obj)) (xe : Value → Shared → Prop), Takes (X.tr pn xe) W' → PassesOwn (model X.prog X.w) X.A X.env xe → PSs (X.tr pn xe) x (rdSs K sp b W') :=
        fun W' pn xe tk' po' => dSs b (C.tr pn xe) (tp.tr pn xe) tk' po' x h1
      have T := ps_tryX (X := X) (tb := fun W' => rdSs K sp b W') (pos := p) tp.stk tp.fr tp.ex (C.n ▸ C.nd) tk B H1
      rw [C.k] at T
      exact ps_imp T fun D σ H z => z H2
    · cases h
theorem dSs : ∀ (e : Ss) {X : Cx} {sc : Scope} {W : WX} (C : Cxt X K sp N fs sc sc) (tp : TpX X) (tk : Takes X W) (po : PassesOwn (model X.prog X.w) X.A X.env X.xe) (x : List Stmt), okSs N fs sc e x = true → PSs X x (rdSs K sp e W)
  | .nil, X, sc, W, C, tp, tk, po, xs, h => by
    unfold okSs at h
    cases xs with
    | nil => exact pss_nil
    | cons _ _ => cases h
  | .cons s ss, X, sc, W, C, tp, tk, po, xs, h => by
    unfold okSs at h
    cases xs with
    | nil => cases h
    | cons x r =>
      obtain ⟨h1, h2⟩ := and2 h
      exact pss_cons (dS s C tp tk po x h1) (dSs ss C tp tk po r h2)
  | .frz _ ss, X, sc, W, C, tp, tk, po, xs, h => by
    unfold okSs at h
    exact dSs ss C tp tk po xs h
end
end
end GK

namespace GK
open PySem PySem.Spec PyProof.Rows L2

/-- a def's state in its midst: GL the frozen part that stays at least, (G0, H0) its entry -/
structure StOk (K : PySem.W.Frag) (GL G0 H0 G H : Hp) (σ : L2.St) (ρ : Rho) : Prop where
  st : Step G0 H0 G H
  env : EnvR K G H σ ρ
  own : ∀ (i : Nat) (d : D), ρ[i]? = some (some ⟨.o, d⟩) → ∃ a : Addr, σ[i]? = some (some (.ref a)) ∧ H0 a = none ∧ (∃ o, H a = some o ∧ Nfz o) ∧ ∀ (j : Nat) (s : Sl), j ≠ i → ρ[j]? = some (some s) → s.m ≠ .f → σ[j]? ≠ some (some (.ref a))
  lo : Same GL G
  per : ∀ (i : Nat) (d : D), ρ[i]? = some (some ⟨.p, d⟩) → ∃ v : V, σ[i]? = some (some v) ∧ TopX K G H0 v d
section
variable {K : PySem.W.Frag} {GL G0 H0 G H G' H' : Hp} {σ : L2.St} {ρ : Rho}
theorem StOk.step (s : StOk K GL G0 H0 G H σ ρ) (S : Step G H G' H') : StOk K GL G0 H0 G' H' σ ρ := ⟨s.st.trans S, s.env.mono S, fun i d e => by
  obtain ⟨a, h1, h2, ⟨o, h4, h5⟩, h3⟩ := s.own i d e
  exact ⟨a, h1, h2, ⟨o, S.hh _ _ h4, h5⟩, h3⟩, s.lo.trans S.gg, fun i d e => by
  obtain ⟨v, h1, h2⟩ := s.per i d e
  exact ⟨v, h1, h2.monoG S.gg fun b o e n => S.fr _ _ (s.st.hh _ _ e) n⟩⟩
theorem StOk.weak {GM : Hp} (s : StOk K GM G0 H0 G H σ ρ) (S : Same GL GM) : StOk K GL G0 H0 G H σ ρ := ⟨s.st, s.env, s.own, S.trans s.lo, s.per⟩
theorem get_set {α : Type} {l : List α} {i j : Nat} {a b : α} (h : (l.set i a)[j]? = some b) : (i = j ∧ a = b ∧ j < l.length) ∨ (i ≠ j ∧ l[j]? = some b) := by
  by_cases e : i = j
  · subst e
    by_cases hl : i < l.length
    · rw [List.getElem?_set_self hl] at h
      cases h
      exact .inl ⟨rfl, rfl, hl⟩
    · rw [List.getElem?_eq_none (by rw [List.length_set]; omega)] at h
      cases h
  · rw [List.getElem?_set_ne e] at h
    exact .inr ⟨e, h⟩
/-- a frozen thing comes to a slot -/
theorem per_set {σ : L2.St} {ρ : Rho} (h : ∀ (i : Nat) (d : D), ρ[i]? = some (some ⟨.p, d⟩) → ∃ v : V, σ[i]? = some (some v) ∧ TopX K G H0 v d) (i : Nat) {t : Sl} (v : V) (hm : t.m ≠ .p) :
    ∀ (j : Nat) (d : D), (ρ.set i (some t))[j]? = some (some ⟨.p, d⟩) → ∃ w : V, (σ.set i (some v))[j]? = some (some w) ∧ TopX K G H0 w d := fun j d hj => by
  rcases get_set hj with ⟨_, e, _⟩ | ⟨hne, hj⟩
  · cases e
    exact absurd rfl hm
  · rw [List.getElem?_set_ne hne]
    exact h j d hj
theorem per_setR {σ : L2.St} {ρ : Rho} (h : ∀ (i : Nat) (d : D), ρ[i]? = some (some ⟨.p, d⟩) → ∃ v : V, σ[i]? = some (some v) ∧ TopX K G H0 v d) (i : Nat) {t : Sl} (hm : t.m ≠ .p) :
    ∀ (j : Nat) (d : D), (ρ.set i (some t))[j]? = some (some ⟨.p, d⟩) → ∃ w : V, σ[j]? = some (some w) ∧ TopX K G H0 w d := fun j d hj => by
  rcases get_set hj with ⟨_, e, _⟩ | ⟨hne, hj⟩
  · cases e
    exact absurd rfl hm
  · exact h j d hj
theorem StOk.setF (s : StOk K GL G0 H0 G H σ ρ) (i : Nat) {v : V} {d : D} (r : Rp K G v d) : StOk K GL G0 H0 G H (σ.set i (some v)) (ρ.set i (some ⟨.f, d⟩)) := by
  refine ⟨s.st, s.env.set i (s := ⟨.f, d⟩) r, fun j d' hj => ?_, s.lo, per_set s.per i v (fun z => nomatch z)⟩
  rcases get_set hj with ⟨rfl, e, _⟩ | ⟨hne, hj⟩
  · cases e
  · obtain ⟨a, h1, h2, hz, h3⟩ := s.own j d' hj
    refine ⟨a, by rw [List.getElem?_set_ne hne]; exact h1, h2, hz, fun k t hk ht hm => ?_⟩
    rcases get_set ht with ⟨rfl, e, _⟩ | ⟨hne2, ht⟩
    · cases e
      exact absurd rfl hm
    · rw [List.getElem?_set_ne hne2]
      exact h3 k t hk ht hm
/-- a new owned thing comes to a slot -/
theorem StOk.setX (s : StOk K GL G0 H0 G H σ ρ) (S : Step G H G' H') (i : Nat) {v : V} {d : D} (r1 : TopY K G' H' v d) (r2 : ∃ a, v = .ref a ∧ H a = none ∧ ∃ o, H' a = some o ∧ Nfz o) : StOk K GL G0 H0 G' H' (σ.set i (some v)) (ρ.set i (some ⟨.o, d⟩)) := by
  have s' := s.step S
  obtain ⟨a, rfl, na, nz⟩ := r2
  refine ⟨s'.st, s'.env.set i (s := ⟨.o, d⟩) r1, fun j d' hj => ?_, s'.lo, per_set s'.per i _ (fun z => nomatch z)⟩
  have fresh : ∀ (k : Nat) (t : Sl), ρ[k]? = some (some t) → t.m ≠ .f → σ[k]? ≠ some (some (.ref a)) := fun k t ht hm z => by
    obtain ⟨w, e, q⟩ := s.env.at_ k t ht
    rw [z] at e
    cases e
    obtain ⟨m, dt⟩ := t
    cases m with
    | f => exact hm rfl
    | o =>
      obtain ⟨b, o, e1, _, t1, _⟩ := q
      cases e1
      rw [na] at t1
      cases t1
    | p =>
      obtain ⟨b, o, e1, _, t1⟩ := TopX.ref q
      cases e1
      rw [na] at t1
      cases t1
  rcases get_set hj with ⟨rfl, e, hl⟩ | ⟨hne, hj⟩
  · refine ⟨a, by rw [List.getElem?_set_self (by rw [s.env.len]; exact hl)], s.st.hh.free na, nz, fun k t hk ht hm => ?_⟩
    rcases get_set ht with ⟨e2, _⟩ | ⟨hne2, ht⟩
    · exact absurd e2.symm hk
    · rw [List.getElem?_set_ne hne2]
      exact fresh k t ht hm
  · obtain ⟨b, h1, h2, ⟨o, hz1, hz2⟩, h3⟩ := s.own j d' hj
    refine ⟨b, by rw [List.getElem?_set_ne hne]; exact h1, h2, ⟨o, S.hh _ _ hz1, hz2⟩, fun k t hk ht hm => ?_⟩
    rcases get_set ht with ⟨rfl, e, hl⟩ | ⟨hne2, ht⟩
    · rw [List.getElem?_set_self (by rw [s.env.len]; exact hl)]
      intro z
      cases z
      exact fresh j _ hj (fun z => nomatch z) h1
    · rw [List.getElem?_set_ne hne2]
      exact h3 k t hk ht hm
/-- a slot is emptied -/
theorem StOk.gone (s : StOk K GL G0 H0 G H σ ρ) (i : Nat) : StOk K GL G0 H0 G H (σ.set i none) (ρ.set i none) := by
  refine ⟨s.st, ⟨by rw [List.length_set, List.length_set]; exact s.env.len, fun j t ht => ?_⟩, fun j d hj => ?_, s.lo, fun j d hj => ?_⟩
  · rcases get_set ht with ⟨_, e, _⟩ | ⟨hne, ht⟩
    · cases e
    · obtain ⟨v, e, q⟩ := s.env.at_ j t ht
      exact ⟨v, by rw [List.getElem?_set_ne hne]; exact e, q⟩
  · rcases get_set hj with ⟨_, e, _⟩ | ⟨hne, hj⟩
    · cases e
    · obtain ⟨a, h1, h2, hz, h3⟩ := s.own j d hj
      refine ⟨a, by rw [List.getElem?_set_ne hne]; exact h1, h2, hz, fun k t hk ht hm => ?_⟩
      rcases get_set ht with ⟨_, e, _⟩ | ⟨hne2, ht⟩
      · cases e
      · rw [List.getElem?_set_ne hne2]
        exact h3 k t hk ht hm
  · rcases get_set hj with ⟨_, e, _⟩ | ⟨hne, hj⟩
    · cases e
    · obtain ⟨w, h1, h2⟩ := s.per j d hj
      exact ⟨w, by rw [List.getElem?_set_ne hne]; exact h1, h2⟩
theorem StOk.setO (s : StOk K GL G0 H0 G H σ ρ) (S : Step G H G' H') (i : Nat) {v : V} {d : D} (r : ResR K H G' H' v ⟨.o, d⟩) : StOk K GL G0 H0 G' H' (σ.set i (some v)) (ρ.set i (some ⟨.o, d⟩)) := s.setX S i (Top.y r.1) (by
  obtain ⟨a, e, n⟩ := r.2 rfl
  obtain ⟨b, o, e2, _, t, sh⟩ := r.1
  rw [e] at e2
  cases e2
  exact ⟨a, e, n, o, t, sh.nfz⟩)
/-- what stands at an owned slot -/
theorem StOk.ownedG (s : StOk K GL G0 H0 G H σ ρ) {x : Nat} {d : D} (hd : ρ[x]? = some (some ⟨.o, d⟩)) : ∃ (a : Addr) (o : HO), σ[x]? = some (some (.ref a)) ∧ H0 a = none ∧ G a = none ∧ H a = some o ∧ ShpO K G a o d ∧
    ∀ (j : Nat) (t : Sl), j ≠ x → ρ[j]? = some (some t) → t.m ≠ .f → σ[j]? ≠ some (some (.ref a)) := by
  obtain ⟨a, h1, h2, ⟨o', z1, z2⟩, h3⟩ := s.own x _ hd
  obtain ⟨v, e, q⟩ := s.env.at_ x _ hd
  rw [h1] at e
  cases e
  obtain ⟨b, o, e1, n, t, r⟩ := q
  cases e1
  rw [z1] at t
  cases t
  exact ⟨a, _, h1, h2, n, z1, r.o z2, h3⟩
theorem ownL_ok {x : Nat} {ρ : Rho} {ds : List D} (h : ownL x ρ = .ok ds) : ρ[x]? = some (some ⟨.o, .list ds⟩) := by
  unfold ownL at h
  split at h
  · rename_i ds' hd
    cases h
    exact hd
  · cases h
theorem StOk.owned (s : StOk K GL G0 H0 G H σ ρ) {x : Nat} {ds : List D} (h : ownL x ρ = .ok ds) : ∃ (a : Addr) (vs : List V), σ[x]? = some (some (.ref a)) ∧ H0 a = none ∧ G a = none ∧ H a = some (.lst vs) ∧ RpA K G vs ds ∧ ρ[x]? = some (some ⟨.o, .list ds⟩) ∧
    ∀ (j : Nat) (t : Sl), j ≠ x → ρ[j]? = some (some t) → t.m ≠ .f → σ[j]? ≠ some (some (.ref a)) := by
  have hd := ownL_ok h
  obtain ⟨a, o, h1, h2, n, t, r, h3⟩ := s.ownedG hd
  have r := r.plain rfl
  cases r with
  | lst r => exact ⟨a, _, h1, h2, n, t, r, hd, h3⟩
/-- an owned thing is changed -/
theorem StOk.mut (s : StOk K GL G0 H0 G H σ ρ) {x : Nat} {d d' : D} {o o' : HO} {a : Addr} (h1 : σ[x]? = some (some (.ref a))) (h2 : H0 a = none) (h3 : G a = none) (h4 : H a = some o) (h5 : ρ[x]? = some (some ⟨.o, d⟩))
    (h6 : ∀ (j : Nat) (t : Sl), j ≠ x → ρ[j]? = some (some t) → t.m ≠ .f → σ[j]? ≠ some (some (.ref a))) (r : ShpO K G a o' d') : StOk K GL G0 H0 G (upd H a o') σ (ρ.set x (some ⟨.o, d'⟩)) := by
  have hx : x < ρ.length := by
    rcases Nat.lt_or_ge x ρ.length with q | q
    · exact q
    · rw [List.getElem?_eq_none q] at h5
      cases h5
  have st2 : Step G0 H0 G (upd H a o') := by
    refine ⟨s.st.gg, fun b o e => ?_, fun b o e => ?_, s.st.fr⟩
    · rw [upd_ne (ne_of_none e h2)]
      exact s.st.hh _ _ e
    · rw [upd_ne (ne_of_none e h3)]
      exact s.st.gh _ _ e
  refine ⟨st2, ⟨by rw [List.length_set]; exact s.env.len, fun j t ht => ?_⟩, fun j d hj => ?_, s.lo, per_setR s.per x (fun z => nomatch z)⟩
  · rcases get_set ht with ⟨rfl, e, _⟩ | ⟨hne, ht⟩
    · cases e
      exact ⟨_, h1, a, o', rfl, h3, upd_same, r.x⟩
    · obtain ⟨w, e, q⟩ := s.env.at_ j t ht
      refine ⟨w, e, ?_⟩
      obtain ⟨m, dt⟩ := t
      have top : m ≠ .f → TopY K G H w dt → TopY K G (upd H a o') w dt := fun hm ⟨b, ob, e1, n, t1, r1⟩ => by
        subst e1
        refine ⟨b, ob, rfl, n, ?_, r1⟩
        rw [upd_ne]
        · exact t1
        · intro z
          subst z
          exact h6 j _ (fun z => hne z.symm) ht hm e
      cases m with
      | f => exact q
      | o => exact top (fun z => nomatch z) q
      | p =>
        obtain ⟨w', g1, g2⟩ := s.per j dt ht
        rw [e] at g1
        cases g1
        exact g2.monoH st2.hh
  · rcases get_set hj with ⟨rfl, e, _⟩ | ⟨hne, hj⟩
    · refine ⟨a, h1, h2, ⟨o', upd_same, r.nfz⟩, fun k t hk ht hm => ?_⟩
      rcases get_set ht with ⟨e2, _⟩ | ⟨_, ht⟩
      · exact absurd e2.symm hk
      · exact h6 k t hk ht hm
    · obtain ⟨b, g1, g2, ⟨ob, z1, z2⟩, g3⟩ := s.own j d hj
      have hba : b ≠ a := fun z => by
        subst z
        exact g3 x _ hne h5 (fun z => nomatch z) h1
      refine ⟨b, g1, g2, ⟨ob, by rw [upd_ne hba]; exact z1, z2⟩, fun k t hk ht hm => ?_⟩
      rcases get_set ht with ⟨rfl, e, _⟩ | ⟨hne2, ht⟩
      · exact g3 x _ hk h5 (fun z => nomatch z)
      · exact g3 k t hk ht hm
/-- an owned thing is frozen -/
theorem StOk.frz (s : StOk K GL G0 H0 G H σ ρ) (i : Nat) : ∃ G', Same G G' ∧ StOk K GL G0 H0 G' H σ (frzR i ρ) := by
  unfold frzR
  split
  · rename_i d hd
    cases hm : nmkD d with
    | false => exact ⟨G, Same.refl _, s⟩
    | true =>
    rw [if_pos rfl]
    obtain ⟨a, o, h1, h2, n, t, r, h3⟩ := s.ownedG hd
    have sg : Same G (upd G a o) := same_upd n
    have sh : Same (upd G a o) H := fun b x e => by
      by_cases hb : b = a
      · subst hb
        rw [upd_same] at e
        cases e
        exact t
      · rw [upd_ne hb] at e
        exact s.st.gh _ _ e
    have st2 : Step G0 H0 (upd G a o) H := by
      refine ⟨s.st.gg.trans sg, s.st.hh, sh, fun b x e n' => ?_⟩
      rw [upd_ne (ne_of_none e h2)]
      exact s.st.fr _ _ e n'
    refine ⟨upd G a o, sg, st2, ⟨by rw [List.length_set]; exact s.env.len, fun j t' ht => ?_⟩, fun j d hj => ?_, s.lo.trans sg, per_setR (fun j x hj => by
      obtain ⟨v, g1, g2⟩ := s.per j x hj
      exact ⟨v, g1, g2.monoG sg fun b x e n' => by rw [upd_ne (ne_of_none e h2)]; exact n'⟩) i (fun z => nomatch z)⟩
    · rcases get_set ht with ⟨rfl, e, _⟩ | ⟨hne, ht⟩
      · cases e
        exact ⟨_, h1, ((r.plain hm).mono sg).frozen upd_same⟩
      · obtain ⟨w, e, q⟩ := s.env.at_ j t' ht
        refine ⟨w, e, ?_⟩
        obtain ⟨m, dt⟩ := t'
        have top : m ≠ .f → TopY K G H w dt → TopY K (upd G a o) H w dt := fun hm ⟨b, ob, e1, n, t1, r1⟩ => by
          subst e1
          refine ⟨b, ob, rfl, ?_, t1, r1.mono sg⟩
          rw [upd_ne]
          · exact n
          · intro z
            subst z
            exact h3 j _ (fun z => hne z.symm) ht hm e
        cases m with
        | f => exact Rp.mono sg _ _ q
        | o => exact top (fun z => nomatch z) q
        | p =>
          obtain ⟨w', g1, g2⟩ := s.per j dt ht
          rw [e] at g1
          cases g1
          exact (g2.monoG sg fun b x e n' => by rw [upd_ne (ne_of_none e h2)]; exact n').monoH s.st.hh
    · rcases get_set hj with ⟨_, e, _⟩ | ⟨hne, hj⟩
      · cases e
      · obtain ⟨b, g1, g2, hz, g3⟩ := s.own j d hj
        refine ⟨b, g1, g2, hz, fun k t hk ht hm => ?_⟩
        rcases get_set ht with ⟨rfl, e, _⟩ | ⟨hne2, ht⟩
        · cases e
          exact absurd rfl hm
        · exact g3 k t hk ht hm
  · exact ⟨G, Same.refl _, s⟩
theorem setAll_st : ∀ (is : List Nat) (ds : List D) (vs : List V) (ρ ρ' : Rho) (σ : L2.St) (Q : L2.St → Hp → Prop), StOk K GL G0 H0 G H σ ρ → RpA K G vs ds → setAll is ds ρ = some ρ' →
    (∀ σ', StOk K GL G0 H0 G H σ' ρ' → Q σ' H) → (is.foldr (fun i t => gCons (gName i) t) gNil) vs σ H Q
  | [], [], _, ρ, ρ', σ, Q, E, r, e, q => by
    cases r
    cases e
    exact ⟨rfl, q σ E⟩
  | [], _ :: _, _, _, _, _, _, _, _, e, _ => by simp [setAll] at e
  | _ :: _, [], _, _, _, _, _, _, _, e, _ => by simp [setAll] at e
  | i :: is, d :: ds, _, ρ, ρ', σ, Q, E, r, e, q => by
    cases r with
    | cons r1 r2 =>
      simp only [setAll] at e
      exact ⟨_, _, rfl, setAll_st is ds _ _ ρ' _ Q (E.setF i r1) r2 e q⟩
theorem setAll_len : ∀ (is : List Nat) (ds : List D) (ρ ρ' : Rho), setAll is ds ρ = some ρ' → ds.length = is.length := by
  intro is
  induction is with
  | nil => intro ds ρ ρ' e; cases ds <;> simp [setAll] at e ⊢
  | cons i is ih =>
    intro ds ρ ρ' e
    cases ds with
    | nil => simp [setAll] at e
    | cons d ds => simp only [setAll] at e; rw [List.length_cons, List.length_cons, ih ds _ _ e]
/-- a target takes what an expression handed on -/
theorem bind_st {t : Tg} {s : Sl} {v : V} {ρ' : Rho} {Q : L2.St → Hp → Prop} (so : StOk K GL G0 H0 G H σ ρ) (S : Step G H G' H') (r : ResR K H G' H' v s) (e : bindT t s ρ = .ok ρ')
    (q : ∀ σ', StOk K GL G0 H0 G' H' σ' ρ' → Q σ' H') : gTg K t v σ H' Q := by
  cases t with
  | nm i =>
    obtain ⟨m, d⟩ := s
    cases m with
    | f =>
      cases e
      exact q _ ((so.step S).setF i r.1)
    | o =>
      cases e
      exact q _ (so.setO S i r)
    | p => cases e
  | tp is =>
    simp only [bindT] at e
    split at e
    · rename_i ds hd
      split at e
      · rename_i ρ2 e2
        cases e
        have rr := r.1.rdb
        rw [hd] at rr
        obtain ⟨a, vs, rfl, h1, h2⟩ := rr.tuple S.gh
        exact .inl ⟨a, vs, rfl, h1, by rw [h2.length, setAll_len is ds ρ _ e2], setAll_st is ds vs ρ _ σ Q (so.step S) h2 e2 q⟩
      · cases e
    · rename_i ds hd
      split at e
      · rename_i ρ2 e2
        cases e
        have rr := r.1.rdb
        rw [hd] at rr
        obtain ⟨a, vs, rfl, h1, h2⟩ := rr.list S.gh
        exact .inr ⟨a, vs, rfl, h1, by rw [h2.length, setAll_len is ds ρ _ e2], setAll_st is ds vs ρ _ σ Q (so.step S) h2 e2 q⟩
      · cases e
    · cases e
end
/-! a dict is locked, and open again -/
section
variable {K : PySem.W.Frag} {GL G0 H0 G H G' H' : Hp} {σ σ' : L2.St} {ρ ρ' : Rho} {d : Addr} {od : Obj} {vs : List (Key × V)}
theorem StOk.lk (s : StOk K GL G0 H0 G H σ ρ) (h : H d = some (.dK vs)) (hn : ∀ (i : Nat) (x : D), ρ[i]? = some (some ⟨.o, x⟩) → σ[i]? ≠ some (some (.ref d))) : StOk K (GK.lk d od vs G) (GK.lk d od vs G0) (GK.lk d od vs H0) (GK.lk d od vs G) (GK.lk d od vs H) σ ρ := by
  have hu : ∀ o, H d = some o → o = .dK vs := fun o e => by rw [h] at e; cases e; rfl
  refine ⟨Step.lk s.st, EnvR.lk s.st.gh hu s.env, fun i x hi => ?_, Same.refl _, fun i x hi => ?_⟩
  · obtain ⟨a, h1, h2, ⟨o, h4, h5⟩, h3⟩ := s.own i x hi
    have ha : a ≠ d := fun z => hn i x hi (by rw [h1, z])
    exact ⟨a, h1, lk_none h2, ⟨o, by rw [lk_ne ha]; exact h4, h5⟩, h3⟩
  · obtain ⟨w, h1, h2⟩ := s.per i x hi
    exact ⟨w, h1, TopX.lk (fun o e => hu o (s.st.gh _ _ e)) (fun o e => hu o (s.st.hh _ _ e)) h2⟩
theorem StOk.ul (s : StOk K (GK.lk d od vs G) (GK.lk d od vs G0) (GK.lk d od vs H0) G' H' σ' ρ') (s0 : StOk K GL G0 H0 G H σ ρ) (h : H d = some (.dK vs)) (hd : H' d = some (.frz od (.dK vs))) : StOk K GL G0 H0 (GK.ul d vs G') (GK.ul d vs H') σ' ρ' := by
  have hu : ∀ o, H d = some o → o = .dK vs := fun o e => by rw [h] at e; cases e; rfl
  have hG : ∀ o, G d = some o → o = .dK vs := fun o e => hu o (s0.st.gh _ _ e)
  have h0 : ∀ o, H0 d = some o → o = .dK vs := fun o e => hu o (s0.st.hh _ _ e)
  have g0 : ∀ o, G0 d = some o → o = .dK vs := fun o e => hG o (s0.st.gg _ _ e)
  have hf : ∀ o, H' d = some o → o = .frz od (.dK vs) := fun o e => by rw [hd] at e; cases e; rfl
  refine ⟨Step.ul' h0 g0 s.st, EnvR.ul s.st.gh hf s.env, fun i x hi => ?_, ?_, fun i x hi => ?_⟩
  · obtain ⟨a, h1, h2, ⟨o, h4, h5⟩, h3⟩ := s.own i x hi
    have ha : a ≠ d := fun z => by
      subst z
      exact h5 _ _ (hf o h4)
    exact ⟨a, h1, lk_free h2, ⟨o, by rw [ul_ne ha]; exact h4, h5⟩, h3⟩
  · have e : GK.ul d vs (GK.lk d od vs G) = G := ul_lk hG
    have z : Same (GK.ul d vs (GK.lk d od vs G)) (GK.ul d vs G') := Same.ul s.lo
    rw [e] at z
    exact s0.lo.trans z
  · obtain ⟨w, h1, h2⟩ := s.per i x hi
    have q := TopX.ul (d := d) (od := od) (vs := vs) (fun o e => hf o (s.st.gh _ _ e)) (fun o e => lk_is h0 e) h2
    rw [ul_lk h0] at q
    exact ⟨w, h1, q⟩
end
theorem upd_eq {H : Hp} {a : Addr} {o : HO} (h : H a = some o) : upd H a o = H := by
  funext b
  unfold upd
  split
  · rename_i e
    rw [e, h]
  · rfl
theorem remI_at {k : Int} : ∀ {ns ms : List Int}, remI k ns = some ms → ∃ j : Nat, ns[j]? = some k ∧ (∀ m : Nat, m < j → ns[m]? ≠ some k) ∧ ms = ns.eraseIdx j
  | [], _, h => by cases h
  | i :: r, ms, h => by
    unfold remI at h
    split at h
    · rename_i e
      cases h
      exact ⟨0, by rw [← e]; rfl, fun m hm => absurd hm (Nat.not_lt_zero _), rfl⟩
    · rename_i e
      obtain ⟨ms', e1, e2⟩ := Option.map_eq_some_iff.mp h
      subst e2
      obtain ⟨j, h1, h2, h3⟩ := remI_at e1
      refine ⟨j + 1, h1, fun m hm => ?_, by rw [h3]; rfl⟩
      cases m with
      | zero => exact fun z => e (Option.some.inj z)
      | succ m => exact h2 m (by omega)
theorem m1D_ok {k : K1} {d v d' : D} (h : m1D k d v = .ok d') : k = .rem ∧ ∃ xs kk ns ms, d = .list xs ∧ v = .int kk ∧ intsD xs = some ns ∧ remI kk ns = some ms ∧ d' = .list (ms.map .int) := by
  unfold m1D at h
  split at h
  · split at h
    · rename_i hns
      split at h
      · rename_i hms
        cases h
        exact ⟨rfl, _, _, _, _, rfl, rfl, hns, hms, rfl⟩
      · cases h
    · cases h
  · cases h
theorem asF_d {s : Sl} {v : D} (h : asF s = .ok v) : s.d = v := by
  obtain ⟨m, d⟩ := s
  cases m with
  | p => cases h
  | f => cases h; rfl
  | o => cases h; rfl
theorem ownD_ok {x : Nat} {ρ : Rho} {d : D} (h : ownD x ρ = .ok d) : ρ[x]? = some (some ⟨.o, d⟩) := by
  unfold ownD at h
  split at h
  · rename_i d' hd
    cases h
    exact hd
  · cases h
/-- what is wanted behind a statement -/
def FlR (K : PySem.W.Frag) (GL G0 H0 : Hp) (W : WX) (fl : Fl) (D : Ends) : Prop := match fl with
  | .nx ρ' => ∀ σ' G' H', StOk K GL G0 H0 G' H' σ' ρ' → D.nx σ' H'
  | .bk ρ' => ∀ σ' G' H', StOk K GL G0 H0 G' H' σ' ρ' → D.bk σ' H'
  | .ct ρ' => ∀ σ' G' H', StOk K GL G0 H0 G' H' σ' ρ' → D.ct σ' H'
  | .rt r => ∀ G' H' v, Step G0 H0 G' H' → ResR K H0 G' H' v r → D.rt v H'
  | .rz c ρ' => ∀ σ' G' H', StOk K GL G0 H0 G' H' σ' ρ' → XcOk K c → W (.ref (xga K c)) none σ' H'
/-- the promises of all defs, exceptions too -/
abbrev HspX (K : PySem.W.Frag) (sp : Str → Sp) (cl : Str → List Sl → M Sl) : Prop := ∀ (f : Str) (vs : List V) (H G : Hp) (ss : List Sl) (Q : VK) (E : XK), Same G H → ArgsR K G H vs ss → dspR K G H Q E (cl f ss) → sp f vs H Q E
theorem exm_map {K : PySem.W.Frag} {c : Str} (x : XcOk K c) : ∀ {cs : List Str}, (cs.all xall.contains) = true → (∀ d ∈ cs, XKn K d) → PySem.W.exmAny K (.ref (xga K c)) (cs.map (clsV K)) = some (cs.any (xsub c))
  | [], _, _ => rfl
  | d :: cs, h, k => by
    rw [List.all_cons] at h
    obtain ⟨h1, h2⟩ := and2 h
    have e1 := x.mt d h1 (k d List.mem_cons_self)
    have e2 := exm_map x h2 fun d' hd => k d' (List.mem_cons_of_mem _ hd)
    rw [List.map_cons, List.any_cons]
    unfold PySem.W.exmAny
    simp only [e1, e2]
section
variable (K : PySem.W.Frag) (sp : Str → Sp) (cl : Str → List Sl → M Sl) (fu : Nat) {GL G0 H0 : Hp}
/-- what a loop may walk: a frozen thing, or one that was lent -/
theorem srcL {G H : Hp} {σ : L2.St} {ρ : Rho} {e : E} {x : Sl} (so : StOk K GL G0 H0 G H σ ρ) (e1 : evE cl e ρ = .ok x) (hp : npE cl e ρ = true) {G1 H1 : Hp} {v : V} (S1 : Step G H G1 H1) (r1 : ResR K H G1 H1 v x) (hv : ∀ i, e = .var i → σ[i]? = some (some v)) :
    ∃ G2 B, Step G H G2 H1 ∧ (B = G2 ∨ B = H0) ∧
      (∀ ds, x.d = .list ds → ∃ a vs, v = .ref a ∧ SqL K B a vs ∧ RpA K G2 vs ds) ∧ (∀ ds, x.d = .tuple ds → ∃ a vs, v = .ref a ∧ SqT K B a vs ∧ RpA K G2 vs ds) := by
  obtain ⟨m, d⟩ := x
  have fr : m ≠ .p → ∃ G2 B, Step G H G2 H1 ∧ (B = G2 ∨ B = H0) ∧
      (∀ ds, d = .list ds → ∃ a vs, v = .ref a ∧ SqL K B a vs ∧ RpA K G2 vs ds) ∧ (∀ ds, d = .tuple ds → ∃ a vs, v = .ref a ∧ SqT K B a vs ∧ RpA K G2 vs ds) := fun hm => by
    obtain ⟨G2, S2, r2⟩ : ∃ G2, Step G H G2 H1 ∧ Rp K G2 v d := by
      cases m with
      | f =>
        obtain ⟨G2, S2, _, r2, _⟩ := freeze (d := d) S1 r1 rfl
        exact ⟨G2, S2, r2⟩
      | o =>
        obtain ⟨G2, S2, _, r2, _⟩ := freeze (d := d) S1 r1 rfl
        exact ⟨G2, S2, r2⟩
      | p => exact absurd rfl hm
    refine ⟨G2, G2, S2, .inl rfl, fun ds e => ?_, fun ds e => ?_⟩
    · subst e
      cases r2 with
      | lst ra qa => exact ⟨_, _, rfl, ra, qa⟩
    · subst e
      cases r2 with
      | tup ra qa => exact ⟨_, _, rfl, ra, qa⟩
  by_cases hm : m = .p
  · subst hm
    have hl : lentE e ρ = true := by
      unfold npE at hp
      rw [e1] at hp
      simpa using hp
    unfold lentE at hl
    split at hl
    · rename_i i
      split at hl
      · rename_i d' hd
        simp only [evE, hd] at e1
        cases e1
        obtain ⟨w0, h1, h2w⟩ := so.per i _ hd
        have hvi := hv i rfl
        rw [h1] at hvi
        cases hvi
        obtain ⟨a, o, e0, _, h2⟩ := h2w.ref
        subst e0
        refine ⟨G1, H0, S1, .inr rfl, fun ds e => ?_, fun ds e => ?_⟩
        · have e : d = .list ds := e
          subst e
          obtain ⟨b, ob, e2, n, t, sh⟩ := TopX.plain r1.1 rfl
          cases e2
          cases sh with
          | @lst vs _ q =>
            have := S1.hh _ _ (so.st.hh _ _ h2)
            rw [this] at t
            cases t
            exact ⟨a, vs, rfl, .inl (.inl h2), q⟩
        · have e : d = .tuple ds := e
          subst e
          obtain ⟨b, ob, e2, n, t, sh⟩ := TopX.plain r1.1 rfl
          cases sh
      · cases hl
    · cases hl
  · exact fr hm
theorem itemsD_ok {d : D} {xs : List D} (h : itemsD d = .ok xs) : d = .list xs ∨ d = .tuple xs := by
  unfold itemsD at h
  split at h
  · cases h; exact .inl rfl
  · cases h; exact .inr rfl
  · cases h
/-- an expression, and that a name's value is the slot's -/
theorem semV (hsp : Hsp K sp cl) (e : E) {σ : L2.St} {H G : Hp} {ρ : Rho} {s : Sl} (Q : VK) (so : StOk K GL G0 H0 G H σ ρ) (h : evE cl e ρ = .ok s) (q : ∀ G' H' v, Step G H G' H' → ResR K H G' H' v s → (∀ i, e = .var i → σ[i]? = some (some v)) → Q v H') : rdE K sp e σ H Q := by
  by_cases hv : ∃ i, e = .var i
  · obtain ⟨i, rfl⟩ := hv
    simp only [evE] at h
    split at h
    · rename_i d hd
      cases h
      obtain ⟨v, e1, r⟩ := so.env.at_ _ _ hd
      exact ⟨v, e1, q G H v (.refl so.st.gh) (.f r) fun j ej => by cases ej; exact e1⟩
    · rename_i m d hn hd
      cases h
      obtain ⟨v, e1, r⟩ := so.env.at_ _ _ hd
      have r' : TopX K G H v d := by
        cases m with
        | f => exact (hn rfl).elim
        | o => exact .inl r
        | p => exact r
      exact ⟨v, e1, q G H v (.refl so.st.gh) ⟨r', fun z => nomatch z⟩ fun j ej => by cases ej; exact e1⟩
    · cases h
  · exact semE K sp cl hsp e _ so.st.gh so.env h fun G' H' v S r => q G' H' v S r fun i ei => absurd ⟨i, ei⟩ hv
theorem seqB {G H G2 H1 B : Hp} {σ : L2.St} {ρ : Rho} {a : Addr} {vs : List V} (so : StOk K GL G0 H0 G H σ ρ) (S2 : Step G H G2 H1) (hB : B = G2 ∨ B = H0) (h : SqL K B a vs) : SqL K H1 a vs := by
  rcases hB with rfl | rfl
  · exact S2.gh.seq h
  · exact (so.st.hh.trans S2.hh).seq h
theorem seqBT {G H G2 H1 B : Hp} {σ : L2.St} {ρ : Rho} {a : Addr} {vs : List V} (so : StOk K GL G0 H0 G H σ ρ) (S2 : Step G H G2 H1) (hB : B = G2 ∨ B = H0) (h : SqT K B a vs) : SqT K H1 a vs := by
  rcases hB with rfl | rfl
  · exact SqT.mono S2.gh h
  · exact SqT.mono (so.st.hh.trans S2.hh) h
theorem frz_np {G H G1 H1 : Hp} {v : V} {x : Sl} (S1 : Step G H G1 H1) (r1 : ResR K H G1 H1 v x) (h : x.m ≠ .p) : ∃ G2, Step G H G2 H1 ∧ Rp K G2 v x.d := by
  obtain ⟨m, d⟩ := x
  cases m with
  | f =>
    obtain ⟨G2, S2, _, r2, _⟩ := freeze (d := d) S1 r1 rfl
    exact ⟨G2, S2, r2⟩
  | o =>
    obtain ⟨G2, S2, _, r2, _⟩ := freeze (d := d) S1 r1 rfl
    exact ⟨G2, S2, r2⟩
  | p => exact absurd rfl h
theorem npZ {e : E} {ρ : Rho} {x : Sl} (e1 : evE cl e ρ = .ok x) (h : nqE cl e ρ = true) : x.m ≠ .p := by
  unfold nqE at h
  rw [e1] at h
  obtain ⟨m, d⟩ := x
  cases m with
  | p => cases h
  | f => exact fun z => nomatch z
  | o => exact fun z => nomatch z
/-- a loop's source -/
theorem semL (hsp : Hsp K sp cl) : ∀ (i : Iu) {σ : L2.St} {H G : Hp} {ρ : Rho} {xs : List D} (R : It → Hp → Prop), StOk K GL G0 H0 G H σ ρ → evI cl i ρ = .ok xs → notP cl i ρ = true →
    (∀ J G' H' B, Step G H G' H' → (B = G' ∨ B = H0) → IterR K G' B J xs → R J H') → rdI K sp i σ H R
  | .rg1 a, σ, H, G, ρ, xs, R, so, h, _, q => by
    simp only [evI] at h
    obtain ⟨x, e1, h⟩ := bind_ok h
    refine semE K sp cl hsp a _ so.st.gh so.env e1 fun G1 H1 v S1 r1 => ?_
    split at h
    · rename_i j hj
      have r := r1.1.rdb
      rw [hj] at r
      obtain ⟨a1, a2, a3, a4, rfl⟩ := rng_ok h
      refine ⟨j, by rw [r.int], a3, a4, q _ G1 H1 G1 S1 (.inl rfl) ?_⟩
      rw [Int.sub_zero]
      exact iter_rng
    · cases h
  | .rg2 a b, σ, H, G, ρ, xs, R, so, h, _, q => by
    simp only [evI] at h
    obtain ⟨x, e1, h⟩ := bind_ok h
    obtain ⟨y, e2, h⟩ := bind_ok h
    refine semE K sp cl hsp a _ so.st.gh so.env e1 fun G1 H1 v1 S1 r1 => semE K sp cl hsp b _ S1.gh (so.env.mono S1) e2 fun G2 H2 v2 S2 r2 => ?_
    split at h
    · rename_i i j hi hj
      have ra := r1.1.rdb
      rw [hi] at ra
      have rb := r2.1.rdb
      rw [hj] at rb
      obtain ⟨a1, a2, a3, a4, rfl⟩ := rng_ok h
      exact ⟨i, j, by rw [ra.int, rb.int], ⟨a1, a2, a3, a4⟩, q _ G2 H2 G2 (S1.trans S2) (.inl rfl) iter_rng⟩
    · cases h
  | .seq e, σ, H, G, ρ, xs, R, so, h, hp, q => by
    simp only [evI] at h
    obtain ⟨x, e1, h⟩ := bind_ok h
    simp only [notP] at hp
    rcases seqD_ok h with hd | hd | ⟨z, hd, rfl⟩
    rotate_left 2
    · refine .inr (.inr (semE K sp cl hsp e _ so.st.gh so.env e1 fun G1 H1 v1 S1 r1 => ?_))
      have r := r1.1.rdb
      rw [hd] at r
      exact ⟨z, r.str, q _ G1 H1 G1 S1 (.inl rfl) iter_str⟩
    · refine .inl (semV K sp cl hsp e _ so e1 fun G1 H1 v1 S1 r1 hv => ?_)
      obtain ⟨G2, B, S2, hB, hl, _⟩ := srcL K cl so e1 hp S1 r1 hv
      obtain ⟨a, vs, rfl, ra, qa⟩ := hl _ hd
      exact ⟨a, rfl, ⟨vs, seqB K so S2 hB ra⟩, q _ G2 H1 B S2 hB (iter_list ra qa)⟩
    · refine .inr (.inl <| semV K sp cl hsp e _ so e1 fun G1 H1 v1 S1 r1 hv => ?_)
      obtain ⟨G2, B, S2, hB, _, hl⟩ := srcL K cl so e1 hp S1 r1 hv
      obtain ⟨a, vs, rfl, ra, qa⟩ := hl _ hd
      exact ⟨a, rfl, ⟨vs, seqBT K so S2 hB ra⟩, q _ G2 H1 B S2 hB (iter_tup ra qa)⟩
  | .rg3 a b c, σ, H, G, ρ, xs, R, so, h, _, q => by
    simp only [evI] at h
    obtain ⟨x, e1, h⟩ := bind_ok h
    obtain ⟨y, e2, h⟩ := bind_ok h
    obtain ⟨z, e3, h⟩ := bind_ok h
    refine semE K sp cl hsp a _ so.st.gh so.env e1 fun G1 H1 v1 S1 r1 => semE K sp cl hsp b _ S1.gh (so.env.mono S1) e2 fun G2 H2 v2 S2 r2 => semE K sp cl hsp c _ S2.gh ((so.env.mono S1).mono S2) e3 fun G3 H3 v3 S3 r3 => ?_
    split at h
    · rename_i i j k hi hj hk
      have ra := r1.1.rdb
      rw [hi] at ra
      have rb := r2.1.rdb
      rw [hj] at rb
      have rc := r3.1.rdb
      rw [hk] at rc
      obtain ⟨g, rfl⟩ := rng3_ok h
      exact ⟨i, j, k, _, by rw [ra.int, rb.int, rc.int], g, q _ G3 H3 G3 ((S1.trans S2).trans S3) (.inl rfl) iter_rngC⟩
    · cases h
  | .enm e, σ, H, G, ρ, xs, R, so, h, hp, q => by
    simp only [evI] at h
    obtain ⟨x, e1, h⟩ := bind_ok h
    obtain ⟨ds, e2, h⟩ := bind_ok h
    cases pure_ok h
    simp only [notP] at hp
    rcases itemsD_ok e2 with hd | hd
    · refine .inl (semV K sp cl hsp e _ so e1 fun G1 H1 v1 S1 r1 hv => ?_)
      obtain ⟨G2, B, S2, hB, hl, _⟩ := srcL K cl so e1 hp S1 r1 hv
      obtain ⟨a, vs, rfl, ra, qa⟩ := hl _ hd
      exact ⟨a, vs, rfl, seqB K so S2 hB ra, q _ G2 H1 B S2 hB (iter_enum ra qa)⟩
    · refine .inr (semV K sp cl hsp e _ so e1 fun G1 H1 v1 S1 r1 hv => ?_)
      obtain ⟨G2, B, S2, hB, _, hl⟩ := srcL K cl so e1 hp S1 r1 hv
      obtain ⟨a, vs, rfl, ra, qa⟩ := hl _ hd
      exact ⟨a, vs, rfl, seqBT K so S2 hB ra, q _ G2 H1 B S2 hB (iter_enumT ra qa)⟩
  | .zp a b, σ, H, G, ρ, xs, R, so, h, hp, q => by
    simp only [evI] at h
    obtain ⟨x, e1, h⟩ := bind_ok h
    obtain ⟨y, e2, h⟩ := bind_ok h
    simp only [notP] at hp
    obtain ⟨hp1, hp2⟩ := and2 hp
    have f1 := npZ cl e1 hp1
    have f2 := npZ cl e2 hp2
    refine semE K sp cl hsp a _ so.st.gh so.env e1 fun G1 H1 v1 S1 r1 => ?_
    obtain ⟨G2, S2, r2⟩ := frz_np K S1 r1 f1
    refine semE K sp cl hsp b _ S2.gh (so.env.mono S2) e2 fun G3 H3 v3 S3 r3 => ?_
    obtain ⟨G4, S4, r4⟩ := frz_np K S3 r3 f2
    have r2 := Rp.mono S4.gg _ _ r2
    unfold pairD at h
    split at h
    · rename_i xs' ys' hx hy
      cases h
      rw [hx] at r2
      rw [hy] at r4
      cases r2 with
      | lst ra qa =>
        cases r4 with
        | lst rb qb => exact ⟨_, _, _, _, rfl, .inl ⟨S4.gh.seq ra, S4.gh.seq rb, q _ G4 H3 G4 (S2.trans S4) (.inl rfl) (iter_zip ra rb qa qb)⟩⟩
    · rename_i xs' ys' hx hy
      cases h
      rw [hx] at r2
      rw [hy] at r4
      cases r2 with
      | tup ra qa =>
        cases r4 with
        | tup rb qb => exact ⟨_, _, _, _, rfl, .inr (.inl ⟨SqT.mono S4.gh ra, SqT.mono S4.gh rb, q _ G4 H3 G4 (S2.trans S4) (.inl rfl) (iter_zipT ra rb qa qb)⟩)⟩
    · rename_i xs' ys' hx hy
      cases h
      rw [hx] at r2
      rw [hy] at r4
      cases r2 with
      | tup ra qa =>
        cases r4 with
        | lst rb qb => exact ⟨_, _, _, _, rfl, .inr (.inr ⟨SqT.mono S4.gh ra, S4.gh.seq rb, q _ G4 H3 G4 (S2.trans S4) (.inl rfl) (iter_zipM ra rb qa qb)⟩)⟩
    · cases h
  | .rev e, σ, H, G, ρ, xs, R, so, h, hp, q => by
    simp only [evI] at h
    obtain ⟨x, e1, h⟩ := bind_ok h
    obtain ⟨ds, e2, h⟩ := bind_ok h
    cases pure_ok h
    simp only [notP] at hp
    refine semV K sp cl hsp e _ so e1 fun G1 H1 v1 S1 r1 hv => ?_
    obtain ⟨G2, B, S2, hB, hl, hl'⟩ := srcL K cl so e1 hp S1 r1 hv
    rcases itemsD_ok e2 with hd | hd
    · obtain ⟨a, vs, rfl, ra, qa⟩ := hl _ hd
      exact ⟨a, vs, rfl, .inl ⟨seqB K so S2 hB ra, q _ G2 H1 B S2 hB (iter_rev ra qa)⟩⟩
    · obtain ⟨a, vs, rfl, ra, qa⟩ := hl' _ hd
      exact ⟨a, vs, rfl, .inr ⟨seqBT K so S2 hB ra, q _ G2 H1 B S2 hB (iter_revT ra qa)⟩⟩
  | .rvr a, σ, H, G, ρ, xs, R, so, h, _, q => by
    simp only [evI] at h
    obtain ⟨x, e1, h⟩ := bind_ok h
    refine semE K sp cl hsp a _ so.st.gh so.env e1 fun G1 H1 v S1 r1 => ?_
    split at h
    · rename_i j hj
      obtain ⟨ys, e2, h⟩ := bind_ok h
      cases pure_ok h
      have r := r1.1.rdb
      rw [hj] at r
      obtain ⟨a1, a2, a3, a4, rfl⟩ := rng_ok e2
      exact ⟨j, r.int, by decide, by decide, a3, a4, q _ G1 H1 G1 S1 (.inl rfl) iter_rvr⟩
    · cases h
theorem seqIx_nat {k : Int} {n : Nat} (h0 : 0 ≤ k) (h : k.toNat < n) : seqIndex? k n = some k.toNat := by
  unfold seqIndex?
  have h1 : ¬ k < 0 := by omega
  have h2 : (decide (0 ≤ k) && decide (k < (n : Int))) = true := by
    rw [decide_eq_true h0, decide_eq_true (show k < (n : Int) by omega)]
    rfl
  simp only [h1, if_false, h2, if_true]
/-- what a part that may raise comes to -/
def preX (ds : List D) : Xr (List D) → Xr (List D)
  | .v zs => .v (ds ++ zs)
  | .rz c => .rz c
theorem lcX_sem {G H : Hp} {J : It} {xs : List D} {r : Xr (List D)} {f : D → M (Xr D)} {g : TG} {te : TE} {vs : List Nat} {σ : L2.St} {Q : VK} {E : XK} (S : Same G H) (hJ : IterR K G H J xs) (hx : xs.length ≤ sizeLine)
    (he : lcX f xs = .ok r)
    (turn : ∀ (d : D) (v : V) (y : Xr D) (G1 H1 : Hp) (Nx : Hp → Prop) (D : Addr), Step G H G1 H1 → Rp K G1 v d → f d = .ok y → (∀ c, y = .rz c → ∀ G2 H2, Step G1 H1 G2 H2 → XcOk K c → E (.ref (xga K c)) none H2) →
      (∀ e, y = .v e → ∀ G2 H2 w, Step G1 H1 G2 H2 → Rp K G2 w e → ∃ acc, H2 D = some (.lst acc) ∧ acc.length < sizeLine ∧ Nx (upd H2 D (.lst (acc ++ [w])))) →
      g v (wipe σ vs) H1 fun σ2 H2 => wipe σ2 vs = wipe σ vs ∧ tYes σ2 H2 fun b H3 => if b = true then te σ2 H3 fun y H4 => ∃ acc, H4 D = some (.lst acc) ∧ acc.length < sizeLine ∧ Nx (upd H4 D (.lst (acc ++ [y]))) else Nx H3)
    (q1 : ∀ ys, r = .v ys → Nxt K G H ⟨.o, .list ys⟩ Q) (q2 : ∀ c, r = .rz c → ∀ G' H', Step G H G' H' → XcOk K c → E (.ref (xga K c)) none H') : ∀ D, H D = none → ∃ W : Nat → Nat → Hp → Prop, (∃ m, W 0 m (upd H D (.lst []))) ∧ ∀ i m H, W i m H →
  (J.stop i H ∧ Q (.ref D) H) ∨ (J.go i H ∧ ∃ Nx : Hp → Prop, (∀ H', Nx H' → ∃ m', m' < m ∧ W (i + 1) m' H') ∧ ∀ x H', J.yld i H x H' → g x (wipe σ vs) H' fun σ2 H2 => wipe σ2 vs = wipe σ vs ∧ tYes σ2 H2 fun b H3 =>
    if b = true then te σ2 H3 fun y H4 => ∃ acc, H4 D = some (.lst acc) ∧ acc.length < sizeLine ∧ Nx (upd H4 D (.lst (acc ++ [y]))) else Nx H3) := by
  intro D hD
  refine ⟨fun i m Hc => ∃ Gc acc ds z, m = xs.length - i ∧ i ≤ xs.length ∧ Step G H Gc Hc ∧ Gc D = none ∧ Hc D = some (.lst acc) ∧ acc.length ≤ i ∧ RpA K Gc acc ds ∧ lcX f (xs.drop i) = .ok z ∧ r = preX ds z,
    ⟨xs.length, G, [], [], r, rfl, Nat.zero_le _, .new S hD, S.free hD, upd_same, Nat.zero_le _, .nil, he, by cases r <;> rfl⟩, ?_⟩
  rintro i m Hc ⟨Gc, acc, ds, z, rfl, hi, Sc, hGD, hHD, ha, ra, hz, ey⟩
  obtain ⟨j1, j2⟩ := hJ i Hc Gc Sc.gg Sc.gh Sc.hh
  by_cases hl : i < xs.length
  · obtain ⟨g1, g2⟩ := j1 xs[i] (List.getElem?_eq_getElem hl)
    refine .inr ⟨g1, fun H' => ∃ Gc acc ds z, i + 1 ≤ xs.length ∧ Step G H Gc H' ∧ Gc D = none ∧ H' D = some (.lst acc) ∧ acc.length ≤ i + 1 ∧ RpA K Gc acc ds ∧ lcX f (xs.drop (i + 1)) = .ok z ∧ r = preX ds z,
      fun H' ⟨Gc, acc, ds, z, a1, a2, a3, a4, a5, a6, a7, a8⟩ => ⟨xs.length - (i + 1), by omega, Gc, acc, ds, z, rfl, a1, a2, a3, a4, a5, a6, a7, a8⟩, fun x H' hy => ?_⟩
    obtain ⟨G3, St, rx⟩ := g2 x H' hy
    have Sc := Sc.trans St
    have hGD := St.fr _ _ hHD hGD
    have hHD := St.hh _ _ hHD
    have ra := ra.mono St.gg
    rw [List.drop_eq_getElem_cons hl] at hz
    simp only [lcX] at hz
    obtain ⟨y, e1, hz⟩ := bind_ok hz
    cases y with
    | rz c =>
      cases pure_ok hz
      exact turn xs[i] x (.rz c) G3 H' _ D Sc rx e1 (fun c' ec G2 H2 S2 xo => by cases ec; exact q2 c ey G2 H2 (Sc.trans S2) xo) (fun e ee => nomatch ee)
    | v e =>
      obtain ⟨z', e2, hz⟩ := bind_ok hz
      have ez : r = preX (ds ++ [e]) z' := by
        cases z' with
        | rz c =>
          cases pure_ok hz
          exact ey
        | v zs =>
          cases pure_ok hz
          rw [ey]
          show Xr.v (ds ++ (e :: zs)) = Xr.v ((ds ++ [e]) ++ zs)
          rw [List.append_assoc]
          rfl
      refine turn xs[i] x (.v e) G3 H' _ D Sc rx e1 (fun c ec => nomatch ec) (fun e' ee G2 H2 w S2 rw_ => ?_)
      cases ee
      refine ⟨acc, S2.hh _ _ hHD, by omega, G2, acc ++ [w], ds ++ [e], z', hl, ?_, S2.fr _ _ hHD hGD, upd_same, by rw [List.length_append]; exact Nat.succ_le_succ ha, (ra.mono S2.gg).append (.cons rw_ .nil), e2, ez⟩
      have S3 := Sc.trans S2
      have hg2 : G2 D = none := S2.fr _ _ hHD hGD
      refine ⟨S3.gg, fun b o e => ?_, fun b o e => ?_, S3.fr⟩
      · rw [upd_ne (ne_of_none e hD)]
        exact S3.hh _ _ e
      · rw [upd_ne (ne_of_none e hg2)]
        exact S3.gh _ _ e
  · have ei : i = xs.length := by omega
    subst ei
    rw [List.drop_length] at hz
    cases hz
    have ey : r = .v (ds ++ []) := ey
    rw [List.append_nil] at ey
    exact .inl ⟨j2 (Nat.le_refl _), q1 ds ey Gc Hc (.ref D) Sc ⟨⟨D, _, rfl, hGD, hHD, .lst ra⟩, fun _ => ⟨D, rfl, hD⟩⟩⟩
theorem semLx (hsp : Hsp K sp cl) (hx : HspX K sp cl) {f : Str} {es : Es} {i : Nat} {it : Iu} {W : WX} {σ : L2.St} {H G : Hp} {ρ : Rho} {r : Xr (List D)} (Q : VK) (S : Same G H) (E : EnvR K G H σ ρ) (h : evLx cl f es i it ρ = .ok r)
    (q1 : ∀ ys, r = .v ys → Nxt K G H ⟨.o, .list ys⟩ Q) (q2 : ∀ c, r = .rz c → ∀ G' H', Step G H G' H' → XcOk K c → W (.ref (xga K c)) none σ H') : tLcR W (rdI K sp it) (gTg K (.nm i)) (sp f) (rdA K sp es) [i] σ H Q := by
  unfold evLx at h
  obtain ⟨xs, e1, h⟩ := bind_ok h
  split at h
  · rename_i hl
    refine semI K sp cl hsp it _ S E e1 fun J G1 H1 S1 hJ => ?_
    refine lcX_sem (K := K) (E := WE W σ) S1.gh hJ (lenOk_ok hl) h (fun d v y G2 H2 Nx D S2 rv hf hr hn => ?_) (fun ys e => (q1 ys e).back S1) (fun c e G' H' S' xo => q2 c e G' H' (S1.trans S') xo)
    unfold lcXt at hf
    obtain ⟨ρ', f1, hf⟩ := bind_ok hf
    obtain ⟨ss, f2, hf⟩ := bind_ok hf
    obtain ⟨r0, f3, hf⟩ := bind_ok hf
    refine bindF_sem (tvs := [i]) S2.gh (((E.mono S1).mono S2).wipe [i]) rv f1 fun σ2 E2 sb => ⟨wipe_sameBut (sb (by simp [tgIn])), ?_⟩
    unfold tYes
    dsimp only
    rw [if_pos rfl]
    show tCallS (sp f) (fun _ => WE W σ) (rdA K sp es) σ2 H2 _
    refine semA K sp cl hsp es _ S2.gh E2 f2 fun G3 H3 ws S3 r3 => hx f ws H3 G3 ss _ _ S3.gh r3 ?_
    cases e : cl f ss with
    | error er =>
      rw [e] at f3
      cases er with
      | stuck => cases f3
      | raised c =>
        cases f3
        cases pure_ok hf
        exact fun G' H' S' xo => hr c rfl G' H' (S3.trans S') xo
    | ok s =>
      rw [e] at f3
      cases f3
      obtain ⟨d', f4, hf⟩ := bind_ok hf
      cases pure_ok hf
      exact fun G' H' w S' r' => by
        obtain ⟨G5, S5, S6, r5, sg⟩ := freeze S' r' f4
        exact hn d' rfl G5 H' w (S3.trans S5) r5
  · cases h
def XrR (K : PySem.W.Frag) (G H : Hp) (W : WX) (σ : L2.St) (Q : VK) : Xr Sl → Prop
  | .v s => Nxt K G H s Q
  | .rz c => ∀ G' H', Step G H G' H' → XcOk K c → W (.ref (xga K c)) none σ H'
theorem semXa (hsp : Hsp K sp cl) (hx : HspX K sp cl) : ∀ (x : Xa) {W : WX} {σ : L2.St} {H G : Hp} {ρ : Rho} {r : Xr Sl} (Q : VK), Same G H → EnvR K G H σ ρ → evXa cl x ρ = .ok r → XrR K G H W σ Q r → rdXa K sp W x σ H Q
  | .p e, W, σ, H, G, ρ, r, Q, S, E, h, q => by
    simp only [evXa] at h
    obtain ⟨s, e1, h⟩ := bind_ok h
    cases pure_ok h
    exact semE K sp cl hsp e _ S E e1 q
  | .c f es, W, σ, H, G, ρ, r, Q, S, E, h, q => by
    simp only [evXa] at h
    obtain ⟨ss, e1, h⟩ := bind_ok h
    refine semA K sp cl hsp es _ S E e1 fun G1 H1 vs S1 r1 => hx f vs H1 G1 ss Q _ S1.gh r1 ?_
    cases e : cl f ss with
    | error er =>
      rw [e] at h
      cases er with
      | stuck => cases h
      | raised c =>
        cases h
        exact fun G' H' S' xo => q G' H' (S1.trans S') xo
    | ok s =>
      rw [e] at h
      cases h
      exact fun G' H' v S' r' => (Nxt.back S1 q) G' H' v S' r'
  | .l f es i it, W, σ, H, G, ρ, r, Q, S, E, h, q => by
    simp only [evXa] at h
    obtain ⟨r0, e1, h⟩ := bind_ok h
    refine semLx K sp cl hsp hx Q S E e1 (fun ys e => ?_) (fun c e => ?_)
    · subst e
      cases pure_ok h
      exact q
    · subst e
      cases pure_ok h
      exact q
  | .tl f es i it, W, σ, H, G, ρ, r, Q, S, E, h, q => by
    simp only [evXa] at h
    obtain ⟨r0, e1, h⟩ := bind_ok h
    show tLcR W (rdI K sp it) (gTg K (.nm i)) (sp f) (rdA K sp es) [i] σ H fun v H1 => rB1 K .tuple [v] H1 Q
    refine semLx K sp cl hsp hx _ S E e1 (fun ys e => ?_) (fun c e => ?_)
    · subst e
      obtain ⟨s, e2, h⟩ := bind_ok h
      cases pure_ok h
      exact fun G1 H1 v1 S1 r1 => b1D_sem S1.gh r1.1.rdb e2 (Nxt.back S1 q)
    · subst e
      cases pure_ok h
      exact q
theorem semXs (hsp : Hsp K sp cl) (hx : HspX K sp cl) : ∀ (xs : List Xa) {W : WX} {σ : L2.St} {H G : Hp} {ρ : Rho} {r : Xr (List D)} (Q : List V → Hp → Prop), Same G H → EnvR K G H σ ρ → evXs cl xs ρ = .ok r →
    (∀ ds, r = .v ds → ∀ G' H' vs, Step G H G' H' → RpA K G' vs ds → Q vs H') → (∀ c, r = .rz c → ∀ G' H', Step G H G' H' → XcOk K c → W (.ref (xga K c)) none σ H') → rdXs K sp W xs σ H Q
  | [], W, σ, H, G, ρ, r, Q, S, E, h, q1, q2 => by
    cases h
    exact q1 [] rfl G H [] (.refl S) .nil
  | x :: xs, W, σ, H, G, ρ, r, Q, S, E, h, q1, q2 => by
    simp only [evXs] at h
    obtain ⟨r0, e1, h⟩ := bind_ok h
    refine semXa K sp cl hsp hx x _ S E e1 ?_
    cases r0 with
    | rz c =>
      cases pure_ok h
      exact q2 c rfl
    | v s =>
      obtain ⟨d, e2, h⟩ := bind_ok h
      obtain ⟨r3, e3, h⟩ := bind_ok h
      exact fun G1 H1 v S1 r1 => by
        obtain ⟨G2, S2, S3, r2, sg⟩ := freeze S1 r1 e2
        refine semXs hsp hx xs _ S2.gh (E.mono S2) e3 (fun ds e G4 H4 vs S4 r4 => ?_) (fun c e G4 H4 S4 xo => ?_)
        · subst e
          cases pure_ok h
          exact q1 _ rfl G4 H4 (v :: vs) (S2.trans S4) (.cons (Rp.mono S4.gg _ _ r2) r4)
        · subst e
          cases pure_ok h
          exact q2 c rfl G4 H4 (S2.trans S4) xo
theorem semXe (hsp : Hsp K sp cl) (hx : HspX K sp cl) : ∀ (x : Xe) {W : WX} {σ : L2.St} {H G : Hp} {ρ : Rho} {r : Xr Sl} (Q : VK), Same G H → EnvR K G H σ ρ → evXe cl x ρ = .ok r → XrR K G H W σ Q r → rdXe K sp W x σ H Q
  | .a x, W, σ, H, G, ρ, r, Q, S, E, h, q => semXa K sp cl hsp hx x Q S E h q
  | .t xs, W, σ, H, G, ρ, r, Q, S, E, h, q => by
    simp only [evXe] at h
    obtain ⟨r0, e1, h⟩ := bind_ok h
    refine semXs K sp cl hsp hx xs _ S E e1 (fun ds e G1 H1 vs S1 r1 => ?_) (fun c e => ?_)
    · subst e
      have h : (if decide (ds.length ≤ 1000) = true then (pure (Xr.v ⟨.f, .tuple ds⟩) : M (Xr Sl)) else stk) = .ok r := h
      split at h
      · rename_i hl
        cases pure_ok h
        have hl := of_decide_eq_true hl
        refine ⟨?_, fun p np => (Nxt.back S1 q).tup S1.gh r1 np⟩
        rw [r1.length, sizeLine_eq]
        omega
      · cases h
    · subst e
      cases pure_ok h
      exact q
/-- what a part that changes something comes to -/
def ErR (K : PySem.W.Frag) (GL G0 H0 : Hp) (W : WX) (σ : L2.St) (ρ : Rho) (Q : VK) : Er → Prop
  | .v s ρ' => ∀ Gb Hb G' H' v, StOk K GL G0 H0 Gb Hb σ ρ' → Step Gb Hb G' H' → ResR K Hb G' H' v s → Q v H'
  | .rz c => ∀ G' H', StOk K GL G0 H0 G' H' σ ρ → XcOk K c → W (.ref (xga K c)) none σ H'
theorem semEf (hsp : Hsp K sp cl) (hx : HspX K sp cl) : ∀ (e : Ef) {GL : Hp} {W : WX} {σ : L2.St} {H G : Hp} {ρ : Rho} {r : Er} (Q : VK), StOk K GL G0 H0 G H σ ρ → efX cl e ρ = .ok r → ErR K GL G0 H0 W σ ρ Q r → rdEf K sp W e σ H Q
  | .xe x, GL, W, σ, H, G, ρ, r, Q, so, h, q => by
    simp only [efX] at h
    obtain ⟨r0, e1, h⟩ := bind_ok h
    refine semXe K sp cl hsp hx x Q so.st.gh so.env e1 ?_
    cases r0 with
    | rz c =>
      cases h
      exact fun G' H' S' xo => q G' H' (so.step S') xo
    | v s =>
      cases h
      exact fun G' H' v S' r' => q G H G' H' v so S' r'
  | .call f es, GL, W, σ, H, G, ρ, r, Q, so, h, q => by
    simp only [efX] at h
    obtain ⟨ss, e1, h⟩ := bind_ok h
    refine semA K sp cl hsp es _ so.st.gh so.env e1 fun G1 H1 vs S1 r1 => hx f vs H1 G1 ss Q _ S1.gh r1 ?_
    cases e : cl f ss with
    | error er =>
      rw [e] at h
      cases er with
      | stuck => cases h
      | raised c =>
        cases h
        exact fun G' H' S' xo => q G' H' (so.step (S1.trans S')) xo
    | ok s =>
      rw [e] at h
      cases h
      exact fun G' H' v S' r' => q G1 H1 G' H' v (so.step S1) S' r'
  | .pk f g c es, GL, W, σ, H, G, ρ, r, Q, so, h, q => by
    simp only [efX] at h
    obtain ⟨z, e5, h⟩ := bind_ok h
    obtain ⟨k, e6, h⟩ := bind_ok h
    obtain ⟨ss, e1, h⟩ := bind_ok h
    intro fa ga
    refine ⟨by show 2 ≤ sizeLine; decide, fun p hp => ?_⟩
    have S5 := Step.new (o := .lst [.ref fa, .ref ga]) so.st.gh hp
    refine semE K sp cl hsp c _ S5.gh (so.env.mono S5) e5 fun G6 H6 v6 S6 r6 => ?_
    have rb := r6.1.rdb
    rw [asB_ok e6] at rb
    have eb := rb.bool
    subst eb
    refine .inl (.inr ⟨k, rfl, ?_⟩)
    have t6 : H6 p = some (.lst [.ref fa, .ref ga]) := S6.hh _ _ upd_same
    refine .inl ⟨p, [.ref fa, .ref ga], _, .ref (if k then ga else fa), rfl, rfl, .inl (.inl t6), by cases k <;> rfl, k, rfl, ?_⟩
    have S7 := S5.trans S6
    have main : ∀ (spx : Sp) (f : Str), spx = sp f → efG ρ (cl f ss) = .ok r → tCallS spx (WE W) (rdA K sp es) σ H6 Q := by
      intro spx f e h
      subst e
      refine semA K sp cl hsp es _ S7.gh (so.env.mono S7) e1 fun G1 H1 vs S1 r1 => hx f vs H1 G1 ss Q _ S1.gh r1 ?_
      cases e : cl f ss with
      | error er =>
        rw [e] at h
        cases er with
        | stuck => cases h
        | raised c =>
          cases h
          exact fun G' H' S' xo => q G' H' (so.step ((S7.trans S1).trans S')) xo
      | ok s =>
        rw [e] at h
        cases h
        exact fun G' H' v S' r' => q G1 H1 G' H' v (so.step (S7.trans S1)) S' r'
    cases k with
    | true => exact main _ g rfl h
    | false => exact main _ f rfl h
  | .pop x, GL, W, σ, H, G, ρ, r, Q, so, h, q => by
    simp only [efX, popG] at h
    split at h
    · rename_i ds hd
      split at h
      · rename_i d hi
        cases h
        obtain ⟨a, o, o1, o2, o3, o4, sh, o7⟩ := so.ownedG hd
        have sh := sh.plain rfl
        cases sh with
        | @lst vs _ o5 =>
          obtain ⟨w, w1, w2⟩ := o5.get hi
          have so' := so.mut o1 o2 o3 o4 hd o7 (.base (.lst o5.dropL))
          exact ⟨.ref a, o1, .inl ⟨rfl, _, .inl (.inl o4)⟩, a, vs, w, rfl, rfl, o4, by rw [o5.length]; exact w1, q G _ G _ w so' (.refl so'.st.gh) (.f w2)⟩
      · cases h
    · cases h
  | .popA x i, GL, W, σ, H, G, ρ, r, Q, so, h, q => by
    simp only [efX] at h
    obtain ⟨y, e1, h⟩ := bind_ok h
    unfold popGA at h
    split at h
    · rename_i ds hd
      obtain ⟨a, o, o1, o2, o3, o4, sh, o7⟩ := so.ownedG hd
      have sh := sh.plain rfl
      cases sh with
      | @lst vs _ o5 =>
        refine ⟨.ref a, o1, .inl ⟨rfl, _, .inl (.inl o4)⟩, semE K sp cl hsp i _ so.st.gh so.env e1 fun G1 H1 u S1 r1 => ?_⟩
        split at h
        · rename_i k hk
          split at h
          · rename_i hb
            obtain ⟨b1, b2⟩ := and2 hb
            have b1 := of_decide_eq_true b1
            have b2 := of_decide_eq_true b2
            split at h
            · rename_i d hi
              cases h
              have rk := r1.1.rdb
              rw [hk] at rk
              have eu := rk.int
              subst eu
              obtain ⟨w, w1, w2⟩ := o5.get hi
              have hlt : k.toNat < vs.length := by
                rcases Nat.lt_or_ge k.toNat vs.length with z | z
                · exact z
                · rw [List.getElem?_eq_none z] at w1
                  cases w1
              have so' := (so.step S1).mut o1 o2 (S1.fr _ _ o4 o3) (S1.hh _ _ o4) hd o7 (.base (.lst ((o5.mono S1.gg).erase k.toNat)))
              exact ⟨a, vs, k, k.toNat, w, rfl, rfl, S1.hh _ _ o4, by omega, by omega, seqIx_nat b1 hlt, w1, q G1 _ G1 _ w so' (.refl so'.st.gh) (.f (Rp.mono S1.gg _ _ w2))⟩
            · cases h
          · cases h
        · cases h
    · cases h
  | .popK x i, GL, W, σ, H, G, ρ, r, Q, so, h, q => by
    simp only [efX] at h
    obtain ⟨y, e1, h⟩ := bind_ok h
    unfold popGK at h
    split at h
    · rename_i ds hd
      split at h
      · rename_i hb
        obtain ⟨b1, b2⟩ := and2 hb
        split at h
        · rename_i d hl
          cases h
          obtain ⟨a, o, o1, o2, o3, o4, sh, o7⟩ := so.ownedG hd
          have sh := sh.plain b2
          cases sh with
          | @dct vs _ o5 =>
            refine ⟨.ref a, o1, a, rfl, .inl ⟨vs, .inl o4⟩, semE K sp cl hsp i _ so.st.gh so.env e1 fun G1 H1 u S1 r1 => ?_⟩
            obtain ⟨k', ek⟩ := key_of b1
            have rk := r1.1.rdb
            rw [ek] at rk hl q
            have eu := rk.key
            subst eu
            rcases RpK.look (k := k') o5 with ⟨_, z⟩ | ⟨w, d', w1, w2, w3⟩
            · rw [z] at hl
              cases hl
            · rw [w2] at hl
              cases hl
              have so' := (so.step S1).mut o1 o2 (S1.fr _ _ o4 o3) (S1.hh _ _ o4) hd o7 (.base (.dct (RpK.drop (k := k') (o5.mono S1.gg))))
              exact ⟨vs, k', w, S1.hh _ _ o4, rfl, w1, q G1 _ G1 _ w so' (.refl so'.st.gh) (.f (Rp.mono S1.gg _ _ w3))⟩
        · cases h
      · cases h
    · cases h
theorem nmk_put {qs : List (PyData × PyData)} {k v : PyData} (hk : keyOk k = true) (h : nmk qs = true) : nmk (putD qs k v) = true := by
  unfold putD
  by_cases e : (qs.any fun p => keq p.1 k) = true
  · rw [if_pos e]
    cases qs with
    | nil => rfl
    | cons q qs =>
      obtain ⟨q1, q2⟩ := q
      rw [List.map_cons]
      by_cases e2 : keq (q1, q2).1 k = true
      · rw [if_pos e2]
        cases q1 <;> first | rfl | exact h
      · rw [if_neg e2]
        cases q1 <;> first | rfl | exact h
  · rw [if_neg e]
    cases qs with
    | nil => cases k <;> first | rfl | cases hk
    | cons q qs =>
      obtain ⟨q1, q2⟩ := q
      cases q1 <;> first | rfl | exact h
theorem fstB_len (t : Nat) (ds : List PyData) (ρ : Rho) (i : Nat) : (fstB t ds ρ i).length = ρ.length := by
  cases i with
  | zero => rfl
  | succ j =>
    simp only [fstB]
    split
    · exact List.length_set
    · rfl
theorem fstB_succ {t : Nat} {ds : List PyData} {ρ : Rho} {i : Nat} {d : PyData} (h : ds[i]? = some d) : (fstB t ds ρ i).set t (some ⟨.f, d⟩) = fstB t ds ρ (i + 1) := by
  have e : fstB t ds ρ (i + 1) = ρ.set t (some ⟨.f, d⟩) := by
    simp only [fstB, h]
  rw [e]
  cases i with
  | zero => rfl
  | succ j =>
    simp only [fstB]
    split
    · exact List.set_set ..
    · rfl
/-- a reading that hands on just s, the slots being ρ' -/
def TV (K : PySem.W.Frag) (GL G0 H0 : Hp) (σ : L2.St) (H : Hp) (ρ' : Rho) (t : TE) (s : Sl) : Prop := ∀ Q : VK, (∀ Gb Hb G' H' v, StOk K GL G0 H0 Gb Hb σ ρ' → Step Gb Hb G' H' → ResR K Hb G' H' v s → Q v H') → t σ H Q
theorem semPo {σ : L2.St} {H G : Hp} {ρ ρ' : Rho} {t : TE} {s : Sl} (so : StOk K GL G0 H0 G H σ ρ) (T : TV K GL G0 H0 σ H ρ' t s) : ∀ (p : Po) (s' : Sl), poE ρ ρ' p s = .ok s' → TV K GL G0 H0 σ H ρ' (rdPo K t p) s'
  | .hd, s', h => by
    cases h
    exact T
  | .ixn p n, s', h => by
    simp only [poE] at h
    obtain ⟨x, e1, h⟩ := bind_ok h
    intro Q q
    refine semPo so T p x e1 _ fun Gb Hb G' H' v so' S r => ?_
    have nd : ¬ ∃ ds, x.d = .dict ds := by
      rintro ⟨ds, e⟩
      rw [e] at h
      cases h
    have ns : ¬ ∃ z, x.d = .str z := by
      rintro ⟨ds, e⟩
      rw [e] at h
      cases h
    have h' : ixD x.d (.int (n : Int)) = .ok s' := by
      split at h
      · rename_i ds e
        exact (nd ⟨ds, e⟩).elim
      · rename_i z e
        exact (ns ⟨z, e⟩).elim
      · exact h
    exact ixD_sem nd ns S.gh r.1.rdb (.inl (.int _)) h' fun G2 H2 w S2 r2 => q Gb Hb G2 H2 w so' (S.trans S2) (r2.back S.hh)
  | .isN p, s', h => by
    simp only [poE] at h
    obtain ⟨x, e1, h⟩ := bind_ok h
    cases pure_ok h
    intro Q q
    refine semPo so T p x e1 _ fun Gb Hb G' H' v so' S r => ⟨rfl, ?_⟩
    rw [r.1.rdb.none_iff]
    exact q Gb Hb G' H' _ so' S (.f (.bl _))
  | .eqS p z, s', h => by
    simp only [poE] at h
    obtain ⟨x, e1, h⟩ := bind_ok h
    obtain ⟨b, e2, h⟩ := bind_ok h
    cases pure_ok h
    intro Q q
    refine semPo so T p x e1 _ fun Gb Hb G' H' v so' S r => ?_
    exact cmpop_sem S.gh r.1.rdb (.inl (.str _)) e2 (q Gb Hb G' H' _ so' S (.f (.bl _)))
  | .lst1 p, s', h => by
    simp only [poE] at h
    obtain ⟨x, e1, h⟩ := bind_ok h
    obtain ⟨d, e2, h⟩ := bind_ok h
    cases pure_ok h
    intro Q q
    refine semPo so T p x e1 _ fun Gb Hb G' H' v so' S r => ?_
    obtain ⟨G2, S2, _, r2, _⟩ := freeze S r e2
    refine ⟨by show 1 ≤ sizeLine; decide, fun p hp => ?_⟩
    have rn : ResR K H' G2 (upd H' p (.lst [v])) (.ref p) ⟨.o, .list [d]⟩ := .new S2.gh hp (.cons r2 .nil)
    exact q Gb Hb G2 _ _ so' (S2.trans (.new S2.gh hp)) (rn.back S2.hh)
  | .tupS z p, s', h => by
    simp only [poE] at h
    obtain ⟨x, e1, h⟩ := bind_ok h
    obtain ⟨d, e2, h⟩ := bind_ok h
    cases pure_ok h
    intro Q q
    refine semPo so T p x e1 _ fun Gb Hb G' H' v so' S r => ?_
    obtain ⟨G2, S2, _, r2, _⟩ := freeze S r e2
    refine ⟨by show 2 ≤ sizeLine; decide, fun p hp => ?_⟩
    have rn : ResR K H' (upd G2 p (.tup [.str z, v])) (upd H' p (.tup [.str z, v])) (.ref p) ⟨.f, .tuple [.str z, d]⟩ := .newT S2.gh hp (.cons (.str z) (.cons r2 .nil))
    exact q Gb Hb _ _ _ so' (S2.trans (.newF S2.gh hp)) (rn.back S2.hh)
  | .opI op a p, s', h => by
    simp only [poE] at h
    obtain ⟨x, e1, h⟩ := bind_ok h
    intro Q q
    refine semPo so T p x e1 _ fun Gb Hb G' H' v so' S r => ?_
    have sx : SlR K G' H' (.int (a : Int)) ⟨.f, .int (a : Int)⟩ := Rp.int _
    exact binop_sem S.gh sx r.1.rdb h fun G2 H2 w S2 r2 => q Gb Hb G2 H2 w so' (S.trans S2) (r2.back S.hh)
  | .ixv y p, s', h => by
    simp only [poE] at h
    obtain ⟨x, e1, h⟩ := bind_ok h
    split at h
    · rename_i s0 m ds hy hy'
      split at h
      · rename_i hk
        obtain ⟨v0, ev, _⟩ := so.env.at_ _ _ hy
        intro Q q
        refine ⟨v0, ev, semPo so T p x e1 _ fun Gb Hb G' H' v so' S r => ?_⟩
        obtain ⟨v1, ev1, r1⟩ := so'.env.at_ _ _ hy'
        rw [ev] at ev1
        cases ev1
        have rd : Rdb K G' H' v0 (.dict ds) := by
          cases m with
          | f => exact Rdb.mono S (.inl r1)
          | o => exact Rdb.mono S (.inr (.inl r1))
          | p => exact Rdb.mono S (.inr r1)
        exact ixD_dictK hk S.gh rd r.1.rdb h fun G2 H2 w S2 r2 => q Gb Hb G2 H2 w so' (S.trans S2) (r2.back S.hh)
      · cases h
    · cases h
theorem semPoX {σ : L2.St} {H : Hp} {t : TE} (T : ∀ Q : VK, t σ H Q) : ∀ (p : Po), poX p = true → ∀ Q : VK, rdPo K t p σ H Q
  | .hd, _, Q => T Q
  | .ixn p n, h, Q => semPoX T p h _
  | .isN p, h, Q => semPoX T p h _
  | .eqS p z, h, Q => semPoX T p h _
  | .lst1 p, h, Q => semPoX T p h _
  | .tupS z p, h, Q => semPoX T p h _
  | .opI op a p, h, Q => semPoX T p h _
  | .ixv y p, h, Q => by cases h
theorem semSet (hsp : Hsp K sp cl) (x : Nat) (i : E) {GL : Hp} {W : WX} {σ : L2.St} {H1 G2 : Hp} {ρ : Rho} {v : D} {w : V} {j : Sl} {fl : Fl} (D : Ends) (so2 : StOk K GL G0 H0 G2 H1 σ ρ) (e3 : evE cl i ρ = .ok j) (r2 : Rp K G2 w v) (h : setO x ρ v j.d = .ok fl)
    (q : FlR K GL G0 H0 W fl D) : gSub (tVar x) (rdE K sp i) (rSet2 K) w σ H1 D.nx := by
    unfold setO at h
    split at h
    · rename_i ds hx
      obtain ⟨a, o, o1, o2, o3, o4, sh, o7⟩ := so2.ownedG hx
      have sh := sh.plain rfl
      cases sh with
      | @lst vs _ o5 =>
        refine ⟨.ref a, o1, semE K sp cl hsp i _ so2.st.gh so2.env e3 fun G3 H3 k S3 r3 => .inl ?_⟩
        split at h
        · rename_i n hn
          split at h
          · rename_i m hm
            cases h
            have rk := r3.1.rdb
            rw [hn] at rk
            have so3 := so2.step S3
            refine ⟨a, vs, n, m, rfl, rk.int, S3.hh _ _ o4, by rw [o5.length]; exact hm, ?_⟩
            exact q σ G3 _ (so3.mut o1 o2 (S3.fr _ _ o4 o3) (S3.hh _ _ o4) hx o7 (.base (.lst ((o5.mono S3.gg).set (Rp.mono S3.gg _ _ r2) m))))
          · cases h
        · cases h
    · rename_i ds hx
      obtain ⟨a, o, o1, o2, o3, o4, sh, o7⟩ := so2.ownedG hx
      split at h
      · rename_i hk
        obtain ⟨hk, hl⟩ := and2 hk
        obtain ⟨hk, hm⟩ := and2 hk
        have sh := sh.plain hm
        cases sh with
        | @dct vs _ o5 =>
          refine ⟨.ref a, o1, semE K sp cl hsp i _ so2.st.gh so2.env e3 fun G3 H3 k S3 r3 => .inr (.inl ?_)⟩
          cases h
          obtain ⟨k', ek⟩ := key_of hk
          have rk := r3.1.rdb
          rw [ek] at rk
          have ev := rk.key
          subst ev
          have so3 := so2.step S3
          have hl' := lenOk_ok hl
          refine ⟨a, _, rfl, DPut.k (S3.hh _ _ o4) (by rw [o5.length]; omega), ?_⟩
          rw [ek] at q
          exact q σ G3 _ (so3.mut o1 o2 (S3.fr _ _ o4 o3) (S3.hh _ _ o4) hx o7 (.base (.dct ((o5.mono S3.gg).put (Rp.mono S3.gg _ _ r2)))))
      · split at h
        · rename_i hk
          obtain ⟨d, e5, h⟩ := bind_ok h
          cases pure_ok h
          unfold setN at e5
          split at e5
          · rename_i ps _
            split at e5
            · rename_i hl
              cases e5
              cases sh with
              | base r =>
                have := r.plain
                cases this
              | @nst L _ r =>
                refine ⟨.ref a, o1, semE K sp cl hsp i _ so2.st.gh so2.env e3 fun G3 H3 k S3 r3 => .inr (.inr ?_)⟩
                obtain ⟨⟨ds', et⟩, nk, ek, hd⟩ := nkOk_ok hk
                have rk := r3.1.rdb
                have rk' := rk
                rw [et] at rk'
                have rt := rk'.rpTup
                have hv : ∃ b, k = .ref b := by
                  cases rt with
                  | tup _ _ => exact ⟨_, rfl⟩
                obtain ⟨b, rfl⟩ := hv
                have rt2 : Rp K G3 (.ref b) j.d := by rw [et]; exact rt
                have so3 := so2.step S3
                have hl' := lenOk_ok hl
                have r' := RpN.mono S3.gg r
                have hll : L.length = ps.length := Paired.length r
                refine ⟨a, _, rfl, ⟨L, nk, b, S3.hh _ _ o4, RpN.kn S3.gh r', rfl, Rp.nk S3.gh _ _ nk rt2 ek, hd, by rw [hll]; omega, rfl⟩, ?_⟩
                exact q σ G3 _ (so3.mut o1 o2 (S3.fr _ _ o4 o3) (S3.hh _ _ o4) hx o7 (.nst (r'.put ek hd rt2 (Rp.mono S3.gg _ _ r2))))
            · cases e5
          · cases e5
        · cases h
    · cases h
mutual
theorem semS (hsp : Hsp K sp cl) (hx : HspX K sp cl) : ∀ (e : S) {GL G0 H0 : Hp} {W : WX} {σ : L2.St} {H G : Hp} {ρ : Rho} {fl : Fl} (D : Ends), StOk K GL G0 H0 G H σ ρ → exS cl fu e ρ = .ok fl → FlR K GL G0 H0 W fl D → rdS K sp e W D σ H
  | .asg t e, GL, G0, H0, W, σ, H, G, ρ, fl, D, so, h, q => by
    simp only [exS] at h
    obtain ⟨s, e1, h⟩ := bind_ok h
    obtain ⟨ρ', e2, h⟩ := bind_ok h
    cases pure_ok h
    exact semE K sp cl hsp e _ so.st.gh so.env e1 fun G1 H1 v S1 r1 => bind_st so S1 r1 e2 fun σ' so' => q σ' G1 H1 so'
  | .ef k e p, GL, G0, H0, W, σ, H, G, ρ, fl, D, so, h, q => by
    simp only [exS] at h
    obtain ⟨r, e1, h⟩ := bind_ok h
    cases r with
    | rz c =>
      have T : (poX p && ekX ρ k) = true ∧ fl = .rz c ρ := by
        have h : (if (poX p && ekX ρ k) = true then (Except.ok (Fl.rz c ρ) : M Fl) else stk) = .ok fl := h
        split at h
        · rename_i hp
          cases h
          exact ⟨hp, rfl⟩
        · cases h
      obtain ⟨hp, rfl⟩ := T
      obtain ⟨hp, hk⟩ := and2 hp
      have T : ∀ Q : VK, rdPo K (rdEf K sp W e) p σ H Q := semPoX K (fun Q => semEf K sp cl hsp hx e Q so e1 fun G' H' so' xo => q σ G' H' so' xo) p hp
      cases k with
      | asg t => exact T _
      | ret => exact T _
      | exp => exact T _
      | app y =>
        have e4 : ∃ ds, ownL y ρ = .ok ds := by
          have hk : ownLB ρ[y]? = true := hk
          unfold ownL
          generalize ρ[y]? = o at hk ⊢
          unfold ownLB at hk
          split at hk
          · exact ⟨_, rfl⟩
          · cases hk
        obtain ⟨ds, e4⟩ := e4
        obtain ⟨a, vs, o1, o2, o3, o4, o5, o6, o7⟩ := so.owned e4
        exact ⟨.ref a, o1, Or.inl ⟨rfl, _, Or.inl (Or.inl o4)⟩, T _⟩
      | set y i => exact T _
    | v s ρ' =>
      obtain ⟨v, e2, h⟩ := bind_ok h
      have T : TV K GL G0 H0 σ H ρ' (rdPo K (rdEf K sp W e) p) v := semPo K so (fun Q qq => semEf K sp cl hsp hx e (W := W) Q so e1 qq) p v e2
      cases k with
      | asg t =>
        obtain ⟨ρ2, e3, h⟩ := bind_ok h
        cases pure_ok h
        exact T _ fun Gb Hb G' H' w so' S r => bind_st so' S r e3 fun σ' so2 => q σ' G' H' so2
      | ret =>
        obtain ⟨w, e3, h⟩ := bind_ok h
        cases pure_ok h
        have es : w = v := by
          obtain ⟨m, d⟩ := v
          cases m with
          | p => simp [retS, stk] at e3
          | f => cases e3; rfl
          | o => cases e3; rfl
        subst es
        exact T _ fun Gb Hb G' H' w so' S r => q G' H' w (so'.st.trans S) (r.back so'.st.hh)
      | exp =>
        cases h
        exact T _ fun Gb Hb G' H' w so' S r => q σ G' H' (so'.step S)
      | app y =>
        obtain ⟨d, e3, h⟩ := bind_ok h
        obtain ⟨ds0, e4, h⟩ := bind_ok h
        obtain ⟨ds, e5, h⟩ := bind_ok h
        split at h
        · rename_i hl
          cases pure_ok h
          have hl' := lenOk_ok hl
          obtain ⟨a, vs, o1, o2, o3, o4, o5, o6, o7⟩ := so.owned e4
          refine ⟨.ref a, o1, Or.inl ⟨rfl, _, Or.inl (Or.inl o4)⟩, T _ fun Gb Hb G' H' w so' S r => ?_⟩
          obtain ⟨G2, S2, _, r2, _⟩ := freeze S r e3
          obtain ⟨a', vs', p1, p2, p3, p4, p5, p6, p7⟩ := so'.owned e5
          rw [o1] at p1
          cases p1
          refine ⟨a, vs', w, rfl, rfl, S2.hh _ _ p4, by rw [p5.length]; omega, ?_⟩
          exact q σ G2 _ ((so'.step S2).mut o1 p2 (S2.fr _ _ p4 p3) (S2.hh _ _ p4) p6 p7 (.base (.lst ((p5.mono S2.gg).append (.cons r2 .nil)))))
        · cases h
      | set y i =>
        obtain ⟨d, e3, h⟩ := bind_ok h
        obtain ⟨j, e4, h⟩ := bind_ok h
        refine T _ fun Gb Hb G' H' w so' S r => ?_
        obtain ⟨G2, S2, _, r2, _⟩ := freeze S r e3
        exact semSet K sp cl hsp y i D (so'.step S2) e4 r2 h q
  | .eft e p a b, GL, G0, H0, W, σ, H, G, ρ, fl, D, so, h, q => by
    simp only [exS] at h
    obtain ⟨r, e1, h⟩ := bind_ok h
    cases r with
    | rz c =>
      have T : poX p = true ∧ fl = .rz c ρ := by
        have h : (if poX p = true then (Except.ok (Fl.rz c ρ) : M Fl) else stk) = .ok fl := h
        split at h
        · rename_i hp
          cases h
          exact ⟨hp, rfl⟩
        · cases h
      obtain ⟨hp, rfl⟩ := T
      exact semPoX K (fun Q => semEf K sp cl hsp hx e Q so e1 fun G' H' so' xo => q σ G' H' so' xo) p hp _
    | v s ρ' =>
      obtain ⟨v, e2, h⟩ := bind_ok h
      have T : TV K GL G0 H0 σ H ρ' (rdPo K (rdEf K sp W e) p) v := semPo K so (fun Q qq => semEf K sp cl hsp hx e (W := W) Q so e1 qq) p v e2
      obtain ⟨c, e3, h⟩ := bind_ok h
      refine T _ fun Gb Hb G' H' w so' S r => ?_
      have rr := r.1.rdb
      rw [asB_ok e3] at rr
      refine ⟨c, rr.bool, ?_⟩
      cases c with
      | true =>
        rw [if_pos rfl] at h ⊢
        exact semSs hsp hx a D (so'.step S) h q
      | false =>
        rw [if_neg Bool.false_ne_true] at h ⊢
        exact semSs hsp hx b D (so'.step S) h q
  | .fst t x y c, GL, G0, H0, W, σ, H, G, ρ, fl, D, so, h, q => by
    simp only [exS, fstG] at h
    split at h
    · rename_i ds ps hx2 hy2
      split at h
      · rename_i hc
        cases h
        obtain ⟨hc, c6⟩ := and2 hc
        obtain ⟨hc, c5⟩ := and2 hc
        obtain ⟨hc, c4⟩ := and2 hc
        obtain ⟨hc, c3⟩ := and2 hc
        obtain ⟨hc, c2⟩ := and2 hc
        obtain ⟨c0, c1⟩ := and2 hc
        have c0 := of_decide_eq_true c0
        have c1 := of_decide_eq_true c1
        have c2 := of_decide_eq_true c2
        have c3 := of_decide_eq_true c3
        have c6 := lenOk_ok c6
        obtain ⟨a, o, o1, o2, o3, o4, sh, o7⟩ := so.ownedG hx2
        have sh := sh.plain rfl
        cases sh with
        | @lst vs _ r =>
          have hyl : y < ρ.length := by
            rcases Nat.lt_or_ge y ρ.length with z | z
            · exact z
            · rw [List.getElem?_eq_none z] at hy2
              cases hy2
          have e0 : fstR t y c ps ds ρ 0 = ρ := by
            show ρ.set y (some ⟨.o, .dict ((ds.take 0).foldl (fun acc d => putD acc d (.bool c)) ps)⟩) = ρ
            rw [List.take_zero, List.foldl_nil]
            refine List.ext_getElem? fun j => ?_
            by_cases ej : y = j
            · subst ej
              rw [List.getElem?_set_self hyl, hy2]
            · rw [List.getElem?_set_ne ej]
          refine .inl ⟨.ref a, o1, a, rfl, ⟨vs, .inl (.inl o4)⟩, fun i m σ' H' => ∃ G', m = ds.length - i ∧ i ≤ ds.length ∧ StOk K GL G0 H0 G' H' σ' (fstR t y c ps ds ρ i) ∧ σ'[x]? = some (some (.ref a)) ∧ H' a = some (.lst vs) ∧ RpA K G' vs ds,
            ⟨ds.length, G, rfl, Nat.zero_le _, by rw [e0]; exact so, o1, o4, r⟩, ?_⟩
          rintro i m σ' H' ⟨G', rfl, hi, so', s1, s2, r'⟩
          have it := iter_list (K := K) (B := fun b => if b = a then some (.lst vs) else none) (.inl (.inl (if_pos rfl))) r' i H' G' (Same.refl _) so'.st.gh (fun b ob e => by
            have e : (if b = a then some (HO.lst vs) else none) = some ob := e
            split at e
            · rename_i eb
              cases e
              rw [eb]
              exact s2
            · cases e)
          obtain ⟨j1, j2⟩ := it
          by_cases hl : i < ds.length
          · have hd : ds[i]? = some ds[i] := List.getElem?_eq_getElem hl
            obtain ⟨g1, g2⟩ := j1 ds[i] hd
            have hko : keyOk ds[i] = true := by
              rw [List.all_eq_true] at c4
              exact c4 _ (List.getElem_mem _)
            refine .inr ⟨g1, fun σ2 H2 => ∃ G2, StOk K GL G0 H0 G2 H2 σ2 (fstR t y c ps ds ρ (i + 1)) ∧ σ2[x]? = some (some (.ref a)) ∧ H2 a = some (.lst vs) ∧ RpA K G2 vs ds,
              fun σ2 H2 ⟨G2, a1, a2, a3, a4⟩ => ⟨ds.length - (i + 1), by omega, G2, rfl, hl, a1, a2, a3, a4⟩, fun w H2 hy => ?_⟩
            obtain ⟨G3, St, rx⟩ := g2 w H2 hy
            have so3 := (so'.step St).setF t rx
            have ln : (fstR t y c ps ds ρ i).length = ρ.length := by
              unfold fstR
              rw [List.length_set, fstB_len]
            have hyy : ((fstR t y c ps ds ρ i).set t (some ⟨.f, ds[i]⟩))[y]? = some (some ⟨.o, .dict ((ds.take i).foldl (fun acc d => putD acc d (.bool c)) ps)⟩) := by
              rw [List.getElem?_set_ne c3]
              unfold fstR
              rw [List.getElem?_set_self (by rw [fstB_len]; exact hyl)]
            obtain ⟨b, ob, p1, p2, p3, p4, sh2, p7⟩ := so3.ownedG hyy
            have nmp : nmk ((ds.take i).foldl (fun acc d => putD acc d (.bool c)) ps) = true := by
              have aux : ∀ (l : List PyData) (qs : List (PyData × PyData)), l.all keyOk = true → nmk qs = true → nmk (l.foldl (fun acc d => putD acc d (.bool c)) qs) = true := by
                intro l
                induction l with
                | nil => intro qs _ h; exact h
                | cons d l ih =>
                  intro qs h1 h2
                  rw [List.all_cons] at h1
                  obtain ⟨k1, k2⟩ := and2 h1
                  exact ih _ k2 (nmk_put k1 h2)
              exact aux _ _ (List.all_eq_true.mpr fun d hd => by
                rw [List.all_eq_true] at c4
                exact c4 d (List.mem_of_mem_take hd)) c5
            have sh2 := sh2.plain nmp
            cases sh2 with
            | @dct us _ r2 =>
              have hlen : us.length + 1 ≤ sizeLine := by
                have e1 := r2.length
                have aux : ∀ (l : List PyData) (qs : List (PyData × PyData)), (l.foldl (fun acc d => putD acc d (.bool c)) qs).length ≤ qs.length + l.length := by
                  intro l
                  induction l with
                  | nil => intro qs; exact Nat.le_refl _
                  | cons d l ih =>
                    intro qs
                    have h1 := ih (putD qs d (.bool c))
                    have h2 : (putD qs d (.bool c)).length ≤ qs.length + 1 := by
                      unfold putD
                      split
                      · rw [List.length_map]; omega
                      · rw [List.length_append]; exact Nat.le_refl _
                    rw [List.foldl_cons, List.length_cons]
                    omega
                have h1 := aux (ds.take i) ps
                refine Nat.le_trans (Nat.succ_le_succ (Nat.le_trans (Nat.le_of_eq e1) h1)) ?_
                rw [List.length_take]
                omega
              obtain ⟨k', ek⟩ := key_of hko
              have tl : t < σ'.length := by rw [so'.env.len, ln]; exact c0
              have hwk : w = kV k' := by
                have rr : Rdb K G3 H2 w (keyD k') := by
                  rw [← ek]
                  exact .inl rx
                exact rr.key
              have e3 : (((fstR t y c ps ds ρ i).set t (some ⟨.f, ds[i]⟩)).set y (some ⟨.o, .dict (putD ((ds.take i).foldl (fun acc d => putD acc d (.bool c)) ps) ds[i] (.bool c))⟩)) = fstR t y c ps ds ρ (i + 1) := by
                have e4 : (ds.take (i + 1)).foldl (fun acc d => putD acc d (.bool c)) ps = putD ((ds.take i).foldl (fun acc d => putD acc d (.bool c)) ps) ds[i] (.bool c) := by
                  rw [List.take_succ, hd, List.foldl_append]
                  rfl
                unfold fstR
                rw [e4, List.set_comm _ _ (Ne.symm c3), List.set_set, fstB_succ hd]
              have na : a ≠ b := fun e => by
                have z := St.hh _ _ s2
                rw [e, p4] at z
                cases z
              refine ⟨.ref b, p1, w, List.getElem?_set_self tl, .inr (.inl ?_)⟩
              rw [hwk]
              refine ⟨b, _, rfl, DPut.k p4 (by omega), ?_⟩
              refine ⟨G3, ?_, ?_, ?_, r'.mono St.gg⟩
              · rw [← e3]
                have so5 := so3.mut p1 p2 p3 p4 hyy p7 (.base (.dct (RpK.put (k := k') (.bl c) r2)))
                rw [← ek, hwk] at so5
                exact so5
              · rw [List.getElem?_set_ne c2]
                exact s1
              · rw [upd_ne na]
                exact St.hh _ _ s2
          · have ei : i = ds.length := by omega
            subst ei
            exact .inl ⟨j2 (Nat.le_refl _), q σ' G' H' so'⟩
      · cases h
    · cases h
  | .ins x i e, GL, G0, H0, W, σ, H, G, ρ, fl, D, so, h, q => by
    simp only [exS] at h
    obtain ⟨y, e0, h⟩ := bind_ok h
    obtain ⟨s, e1, h⟩ := bind_ok h
    obtain ⟨v, e2, h⟩ := bind_ok h
    obtain ⟨ds, e4, h⟩ := bind_ok h
    split at h
    · rename_i k hk
      split at h
      · rename_i hl
        cases pure_ok h
        obtain ⟨hl, b2⟩ := and2 hl
        obtain ⟨hl, b1⟩ := and2 hl
        have b1 := of_decide_eq_true b1
        have b2 := of_decide_eq_true b2
        have hl' := lenOk_ok hl
        obtain ⟨a, vs, o1, o2, o3, o4, o5, o6, o7⟩ := so.owned e4
        refine ⟨.ref a, o1, Or.inl ⟨rfl, _, Or.inl (Or.inl o4)⟩, semE K sp cl hsp i _ so.st.gh so.env e0 fun G1 H1 u S1 r1 => semE K sp cl hsp e _ S1.gh (so.env.mono S1) e1 fun G2 H2 w S2 r2 => ?_⟩
        have rk := r1.1.rdb
        rw [hk] at rk
        have eu := rk.int
        subst eu
        obtain ⟨G3, S3, _, r3, _⟩ := freeze S2 r2 e2
        have S4 := S1.trans S3
        refine ⟨a, vs, k, w, rfl, rfl, S4.hh _ _ o4, by rw [o5.length]; omega, b1, by omega, ?_⟩
        have r5 := o5.mono S4.gg
        have e6 : ds.take k.toNat ++ v :: ds.drop k.toNat = ds.take k.toNat ++ [v] ++ ds.drop k.toNat := by simp
        rw [e6] at q
        exact q σ G3 _ ((so.step S4).mut o1 o2 (S4.fr _ _ o4 o3) (S4.hh _ _ o4) o6 o7 (.base (.lst (((r5.take _).append (.cons r3 .nil)).append (r5.drop _)))))
      · cases h
    · cases h
  | .setix x i e, GL, G0, H0, W, σ, H, G, ρ, fl, D, so, h, q => by
    simp only [exS] at h
    obtain ⟨s, e1, h⟩ := bind_ok h
    obtain ⟨v, e2, h⟩ := bind_ok h
    obtain ⟨j, e3, h⟩ := bind_ok h
    refine semE K sp cl hsp e _ so.st.gh so.env e1 fun G1 H1 w S1 r1 => ?_
    obtain ⟨G2, S2, _, r2, _⟩ := freeze S1 r1 e2
    have so2 := so.step S2
    exact semSet K sp cl hsp x i D so2 e3 r2 h q
  | .aug x op e, GL, G0, H0, W, σ, H, G, ρ, fl, D, so, h, q => by
    simp only [exS] at h
    obtain ⟨s, e1, h⟩ := bind_ok h
    split at h
    · rename_i i j hx hj
      obtain ⟨v, e2, r⟩ := so.env.at_ _ _ hx
      have ev : v = .int i := Rdb.int (K := K) (G := G) (H := H) (.inl r)
      subst ev
      refine ⟨_, e2, semE K sp cl hsp e _ so.st.gh so.env e1 fun G1 H1 w S1 r1 => ?_⟩
      have rk := r1.1.rdb
      rw [hj] at rk
      have ew := rk.int
      subst ew
      split at h
      · cases pure_ok h
        exact ⟨i, j, rfl, rfl, q _ G1 H1 ((so.step S1).setF x (.int _))⟩
      · cases pure_ok h
        exact ⟨i, j, rfl, rfl, q _ G1 H1 ((so.step S1).setF x (.int _))⟩
      · cases h
    · cases h
  | .app x e, GL, G0, H0, W, σ, H, G, ρ, fl, D, so, h, q => by
    simp only [exS] at h
    obtain ⟨s, e1, h⟩ := bind_ok h
    obtain ⟨v, e2, h⟩ := bind_ok h
    obtain ⟨ds, e4, h⟩ := bind_ok h
    split at h
    · rename_i hl
      cases pure_ok h
      have hl' := lenOk_ok hl
      obtain ⟨a, vs, o1, o2, o3, o4, o5, o6, o7⟩ := so.owned e4
      refine ⟨.ref a, o1, Or.inl ⟨rfl, _, Or.inl (Or.inl o4)⟩, semE K sp cl hsp e _ so.st.gh so.env e1 fun G1 H1 w S1 r1 => ?_⟩
      obtain ⟨G2, S2, _, r2, _⟩ := freeze S1 r1 e2
      refine ⟨a, vs, w, rfl, rfl, S2.hh _ _ o4, by rw [o5.length]; omega, ?_⟩
      exact q σ G2 _ ((so.step S2).mut o1 o2 (S2.fr _ _ o4 o3) (S2.hh _ _ o4) o6 o7 (.base (.lst ((o5.mono S2.gg).append (.cons r2 .nil)))))
    · cases h
  | .ext x e, GL, G0, H0, W, σ, H, G, ρ, fl, D, so, h, q => by
    simp only [exS] at h
    obtain ⟨s, e1, h⟩ := bind_ok h
    obtain ⟨ds, e4, h⟩ := bind_ok h
    split at h
    · rename_i es hes
      split at h
      · rename_i hl
        cases pure_ok h
        obtain ⟨hl, hm⟩ := and2 hl
        have hl' := lenOk_ok hl
        obtain ⟨a, vs, o1, o2, o3, o4, o5, o6, o7⟩ := so.owned e4
        refine ⟨.ref a, o1, Or.inl ⟨rfl, _, Or.inl (Or.inl o4)⟩, semE K sp cl hsp e _ so.st.gh so.env e1 fun G1 H1 w S1 r1 => ?_⟩
        have tx : Top K G1 H1 w (.list es) := by
          obtain ⟨m, d⟩ := s
          cases hes
          cases m with
          | f => cases hm
          | o => exact r1.1
          | p => exact TopX.plain r1.1 rfl
        obtain ⟨b, ob, rfl, _, rb, qb⟩ := tx
        cases qb
        rename_i ws qb
        refine ⟨a, b, vs, ws, rfl, rfl, S1.hh _ _ o4, rb, by rw [o5.length, qb.length]; exact hl', ?_⟩
        exact q σ G1 _ ((so.step S1).mut o1 o2 (S1.fr _ _ o4 o3) (S1.hh _ _ o4) o6 o7 (.base (.lst ((o5.mono S1.gg).append qb))))
      · cases h
    · cases h
  | .exp e, GL, G0, H0, W, σ, H, G, ρ, fl, D, so, h, q => by
    simp only [exS] at h
    obtain ⟨s, e1, h⟩ := bind_ok h
    cases pure_ok h
    exact semE K sp cl hsp e _ so.st.gh so.env e1 fun G1 H1 v S1 r1 => q σ G1 H1 (so.step S1)
  | .ret e, GL, G0, H0, W, σ, H, G, ρ, fl, D, so, h, q => by
    simp only [exS] at h
    obtain ⟨s, e1, h⟩ := bind_ok h
    obtain ⟨r, e2, h⟩ := bind_ok h
    cases pure_ok h
    obtain ⟨m, d⟩ := s
    cases m with
    | f =>
      cases e2
      exact semE K sp cl hsp e _ so.st.gh so.env e1 fun G1 H1 v S1 r1 => q G1 H1 v (so.st.trans S1) (r1.back so.st.hh)
    | o =>
      cases e2
      exact semE K sp cl hsp e _ so.st.gh so.env e1 fun G1 H1 v S1 r1 => q G1 H1 v (so.st.trans S1) (r1.back so.st.hh)
    | p =>
      cases e with
      | var i =>
        simp only [retS] at e2
        split at e2
        · rename_i d' hd
          split at e2
          · rename_i hm
            cases e2
            simp only [evE, hd] at e1
            cases e1
            obtain ⟨a, o, h1, h2, n, t, sh, _⟩ := so.ownedG hd
            exact ⟨_, h1, q G H _ so.st ⟨⟨a, o, rfl, n, t, sh.plain hm⟩, fun _ => ⟨a, rfl, h2⟩⟩⟩
          · cases e2
        · cases e2
      | _ => simp [retS, stk] at e2
  | .retN, GL, G0, H0, W, σ, H, G, ρ, fl, D, so, h, q => by
    cases h
    exact q G H .non so.st (.f .non)
  | .ite c a b, GL, G0, H0, W, σ, H, G, ρ, fl, D, so, h, q => by
    simp only [exS] at h
    obtain ⟨x, e1, h⟩ := bind_ok h
    obtain ⟨k, e2, h⟩ := bind_ok h
    refine semE K sp cl hsp c _ so.st.gh so.env e1 fun G1 H1 v S1 r1 => ?_
    have r := r1.1.rdb
    rw [asB_ok e2] at r
    refine ⟨k, r.bool, ?_⟩
    cases k with
    | true =>
      rw [if_pos rfl] at h ⊢
      exact semSs hsp hx a D (so.step S1) h q
    | false =>
      rw [if_neg Bool.false_ne_true] at h ⊢
      exact semSs hsp hx b D (so.step S1) h q
  | .for_ t it b, GL, G0, H0, W, σ, H, G, ρ, fl, D, so, h, q => by
    simp only [exS] at h
    obtain ⟨xs, e1, h⟩ := bind_ok h
    split at h
    · rename_i hp
      refine semL K sp cl hsp it _ so e1 hp fun J GB H1 B S1 hB hJ => ?_
      have hGL : Same GL GB := so.lo.trans S1.gg
      refine ⟨fun i m σ H => ∃ G ρ, m = xs.length - i ∧ i ≤ xs.length ∧ StOk K GB G0 H0 G H σ ρ ∧ forGo (fun d ρ => bindT t ⟨.f, d⟩ ρ) (fun ρ => exSs cl fu b ρ) (xs.drop i) ρ = .ok fl,
        ⟨xs.length, GB, ρ, rfl, Nat.zero_le _, ⟨so.st.trans S1, so.env.mono S1, (so.step S1).own, Same.refl _, (so.step S1).per⟩, h⟩, ?_⟩
      rintro i m σ H ⟨G, ρ, rfl, hi, so, h⟩
      obtain ⟨j1, j2⟩ := hJ i H G so.lo so.st.gh (by
        rcases hB with rfl | rfl
        · exact so.lo.trans so.st.gh
        · exact so.st.hh)
      by_cases hl : i < xs.length
      · obtain ⟨g1, g2⟩ := j1 xs[i] (List.getElem?_eq_getElem hl)
        rw [List.drop_eq_getElem_cons hl] at h
        simp only [forGo] at h
        obtain ⟨ρ1, f1, h⟩ := bind_ok h
        obtain ⟨r, f2, h⟩ := bind_ok h
        refine .inr ⟨g1, fun σ' H' => ∃ G ρ, StOk K GB G0 H0 G H' σ' ρ ∧ forGo (fun d ρ => bindT t ⟨.f, d⟩ ρ) (fun ρ => exSs cl fu b ρ) (xs.drop (i + 1)) ρ = .ok fl,
          fun σ' H' ⟨G, ρ, a1, a2⟩ => ⟨xs.length - (i + 1), by omega, G, ρ, rfl, hl, a1, a2⟩, fun x H' hy => ?_⟩
        obtain ⟨G3, St, rx⟩ := g2 x H' hy
        refine bind_st so St (.f rx) f1 fun σ2 so2 => semSs hsp hx b _ so2 f2 ?_
        cases r with
        | nx ρ' => exact fun σ' G' H' so' => ⟨G', ρ', so', h⟩
        | ct ρ' => exact fun σ' G' H' so' => ⟨G', ρ', so', h⟩
        | bk ρ' =>
          cases h
          exact fun σ' G' H' so' => q σ' G' H' (so'.weak hGL)
        | rt s =>
          cases h
          exact q
        | rz c ρ' =>
          cases h
          exact fun σ' G' H' so' => q σ' G' H' (so'.weak hGL)
      · have ei : i = xs.length := by omega
        subst ei
        rw [List.drop_length] at h
        cases h
        exact .inl ⟨j2 (Nat.le_refl _), q σ G H (so.weak hGL)⟩
    · cases h
  | .mt0 k x, GL, G0, H0, W, σ, H, G, ρ, fl, D, so, h, q => by
    simp only [exS] at h
    obtain ⟨d, e1, h⟩ := bind_ok h
    obtain ⟨d', e2, h⟩ := bind_ok h
    cases pure_ok h
    have hd := ownD_ok e1
    obtain ⟨a, o, o1, o2, o3, o4, sh, o7⟩ := so.ownedG hd
    unfold m0D at e2
    split at e2
    · cases e2
      have sh := sh.plain rfl
      cases sh with
      | @lst vs _ r =>
        refine ⟨.ref a, o1, Or.inl ⟨rfl, _, Or.inl (Or.inl o4)⟩, a, vs, rfl, rfl, o4, ?_⟩
        exact q σ G _ (so.mut o1 o2 o3 o4 hd o7 (.base (.lst r.reverse)))
    · cases e2
      have sh := sh.plain rfl
      cases sh with
      | @lst vs _ r =>
        refine ⟨.ref a, o1, Or.inl ⟨rfl, _, Or.inl (Or.inl o4)⟩, a, vs, rfl, rfl, o4, ?_⟩
        exact q σ G _ (so.mut o1 o2 o3 o4 hd o7 (.base (.lst .nil)))
    · cases e2
  | .mt1 k x e, GL, G0, H0, W, σ, H, G, ρ, fl, D, so, h, q => by
    simp only [exS] at h
    obtain ⟨s, e1, h⟩ := bind_ok h
    obtain ⟨v, e2, h⟩ := bind_ok h
    obtain ⟨d, e3, h⟩ := bind_ok h
    obtain ⟨d', e4, h⟩ := bind_ok h
    cases pure_ok h
    have hd := ownD_ok e3
    obtain ⟨a, o, o1, o2, o3, o4, sh, o7⟩ := so.ownedG hd
    obtain ⟨rfl, xs, kk, ns, ms, rfl, rfl, hns, hms, rfl⟩ := m1D_ok e4
    have sh := sh.plain rfl
    cases sh with
    | @lst vs _ r =>
      have ev := r.ints hns
      subst ev
      obtain ⟨j, j1, j2, j3⟩ := remI_at hms
      refine ⟨.ref a, o1, Or.inl ⟨rfl, _, Or.inl (Or.inl o4)⟩, semE K sp cl hsp e _ so.st.gh so.env e1 fun G1 H1 u S1 r1 => ?_⟩
      have rk := r1.1.rdb
      rw [asF_d e2] at rk
      have eu := rk.int
      subst eu
      refine ⟨a, ns, kk, j, rfl, rfl, S1.hh _ _ o4, j1, j2, ?_⟩
      rw [j3] at q
      exact q σ G1 _ ((so.step S1).mut o1 o2 (S1.fr _ _ o4 o3) (S1.hh _ _ o4) hd o7 (.base (.lst (RpA.intsM _))))
  | .mt2 k x e1 e2, GL, G0, H0, W, σ, H, G, ρ, fl, D, so, h, q => by
    simp only [exS] at h
    obtain ⟨s, f1, h⟩ := bind_ok h
    obtain ⟨v, f2, h⟩ := bind_ok h
    obtain ⟨s2, f3, h⟩ := bind_ok h
    obtain ⟨v2, f4, h⟩ := bind_ok h
    obtain ⟨d, f5, h⟩ := bind_ok h
    obtain ⟨d', f6, h⟩ := bind_ok h
    cases pure_ok h
    have hd := ownD_ok f5
    obtain ⟨a, o, o1, o2, o3, o4, sh, o7⟩ := so.ownedG hd
    unfold m2D at f6
    split at f6
    · rename_i ds
      split at f6
      · rename_i hc
        cases f6
        obtain ⟨hc, c3⟩ := and2 hc
        obtain ⟨c1, c2⟩ := and2 hc
        have c3 := lenOk_ok c3
        have sh := sh.plain c2
        cases sh with
        | @dct vs _ r =>
          refine ⟨.ref a, o1, a, rfl, .inl ⟨vs, .inl o4⟩, semE K sp cl hsp e1 _ so.st.gh so.env f1 fun G1 H1 u S1 r1 => semE K sp cl hsp e2 _ S1.gh (so.env.mono S1) f3 fun G2 H2 w S2 r2 => ?_⟩
          obtain ⟨k', ek⟩ := key_of c1
          subst ek
          have rk := r1.1.rdb
          rw [asF_d f2] at rk
          have eu := rk.key
          subst eu
          obtain ⟨G3, S3, _, r3, _⟩ := freeze S2 r2 f4
          have S4 := S1.trans S3
          have t4 := S4.hh _ _ o4
          have so4 := so.step S4
          refine ⟨vs, k', t4, rfl, by rw [r.length]; omega, fun z hz => ?_, fun hz => ?_⟩
          · rcases r.look (k := k') with ⟨z1, _⟩ | ⟨w', d2, z1, z2, z3⟩
            · rw [z1] at hz
              cases hz
            · rw [z2] at q
              have so5 := so4.mut o1 o2 (S4.fr _ _ o4 o3) t4 hd o7 (.base (.dct (r.mono S4.gg)))
              rw [upd_eq t4] at so5
              exact q σ G3 _ so5
          · rcases r.look (k := k') with ⟨z1, z2⟩ | ⟨w', d2, z1, z2, z3⟩
            · rw [z2] at q
              exact q σ G3 _ (so4.mut o1 o2 (S4.fr _ _ o4 o3) t4 hd o7 (.base (.dct ((r.mono S4.gg).put r3))))
            · rw [z1] at hz
              cases hz
      · cases f6
    · cases f6
  | .fdk t i b, GL, G0, H0, W, σ, H, G, ρ, fl, D, so, h, q => by
    simp only [exS] at h
    split at h
    · rename_i m ds hi
      split at h
      · rename_i hc
        obtain ⟨hc, c3⟩ := and2 hc
        obtain ⟨c1, c2⟩ := and2 hc
        have c3 : m ≠ .o := fun z => by rw [z] at c3; simp at c3
        obtain ⟨r, f1, h⟩ := bind_ok h
        cases r with
        | nx ρ' =>
          cases h
          have core : ∀ {GL G0 H0 G H B : Hp} {a : Addr} {od : Obj} {kvs : List (Key × V)} {D : Ends}, StOk K GL G0 H0 G H σ ρ → σ[i]? = some (some (.ref a)) → (B = G ∨ B = H0) → B a = some (.frz od (.dK kvs)) → RpK K G kvs ds →
              (∀ σ' G' H', StOk K G G0 H0 G' H' σ' ρ' → D.nx σ' H') → tFor (iKeys (tVar i)) (gTg K t) (rdSs K sp b W) D σ H := fun {GL G0 H0 G H B a od kvs D} so hs hB hb hk q => by
            have hH : H a = some (.frz od (.dK kvs)) := by
              rcases hB with rfl | rfl
              · exact so.st.gh _ _ hb
              · exact so.st.hh _ _ hb
            refine ⟨.ref a, hs, a, od, rfl, .inl ⟨kvs, hH, ?_⟩⟩
            have hJ := iter_keysD hb hk
            have hl := lenOk_ok c2
            refine ⟨fun j m σ H => ∃ Gc ρ, m = (ds.map (·.1)).length - j ∧ j ≤ (ds.map (·.1)).length ∧ StOk K G G0 H0 Gc H σ ρ ∧ forGo (fun d ρ => bindT t ⟨.f, d⟩ ρ) (fun ρ => exSs cl fu b ρ) ((ds.map (·.1)).drop j) ρ = .ok (.nx ρ'),
              ⟨_, G, ρ, rfl, Nat.zero_le _, ⟨so.st, so.env, so.own, Same.refl _, so.per⟩, f1⟩, ?_⟩
            rintro j m σ H ⟨Gc, ρ, rfl, hj, so, h⟩
            obtain ⟨j1, j2⟩ := hJ j H Gc so.lo so.st.gh (by
              rcases hB with rfl | rfl
              · exact so.lo.trans so.st.gh
              · exact so.st.hh)
            by_cases hl : j < (ds.map (·.1)).length
            · obtain ⟨g1, g2⟩ := j1 (ds.map (·.1))[j] (List.getElem?_eq_getElem hl)
              rw [List.drop_eq_getElem_cons hl] at h
              simp only [forGo] at h
              obtain ⟨ρ1, f1, h⟩ := bind_ok h
              obtain ⟨r, f2, h⟩ := bind_ok h
              refine .inr ⟨g1, fun σ' H' => ∃ Gc ρ, StOk K G G0 H0 Gc H' σ' ρ ∧ forGo (fun d ρ => bindT t ⟨.f, d⟩ ρ) (fun ρ => exSs cl fu b ρ) ((ds.map (·.1)).drop (j + 1)) ρ = .ok (.nx ρ'),
                fun σ' H' ⟨Gc, ρ, a1, a2⟩ => ⟨(ds.map (·.1)).length - (j + 1), by omega, Gc, ρ, rfl, hl, a1, a2⟩, fun x H' hy => ?_⟩
              obtain ⟨G3, St, rx⟩ := g2 x H' hy
              refine bind_st so St (.f rx) f1 fun σ2 so2 => semSs hsp hx b _ so2 f2 ?_
              cases r with
              | nx ρ' => exact fun σ' G' H' so' => ⟨G', ρ', so', h⟩
              | ct ρ' => exact fun σ' G' H' so' => ⟨G', ρ', so', h⟩
              | bk ρ' =>
                cases h
                exact fun σ' G' H' so' => q σ' G' H' so'
              | rt s => cases h
              | rz c ρ' => cases h
            · have ei : j = (ds.map (·.1)).length := by omega
              subst ei
              rw [List.drop_length] at h
              cases h
              exact .inl ⟨j2 (Nat.le_refl _), q σ Gc H so⟩
          obtain ⟨v, e1, r⟩ := so.env.at_ _ _ hi
          have key : ∃ (B : Hp) (a : Addr) (kvs : List (Key × V)), v = .ref a ∧ (B = G ∨ B = H0) ∧ Rd B a (.dK kvs) ∧ RpK K G kvs ds := by
            cases m with
            | f =>
              have r : Rp K G v (.dict ds) := r
              cases r with
              | dct h1 h2 => exact ⟨G, _, _, rfl, .inl rfl, h1, h2⟩
              | xc => cases c1
            | o => exact absurd rfl c3
            | p =>
              obtain ⟨w0, h1, h2w⟩ := so.per i _ hi
              rw [e1] at h1
              cases h1
              obtain ⟨a, o, e0, _, h2⟩ := h2w.ref
              subst e0
              have hH := so.st.hh _ _ h2
              have rx : Rdb K G H (.ref a) (.dict ds) := .inr r
              obtain ⟨a', kvs, ea, ra, qa⟩ := rx.dict so.st.gh c1
              cases ea
              refine ⟨H0, a, kvs, rfl, .inr rfl, ?_, qa⟩
              rcases ra with ra | ⟨od, ra⟩
              · rw [hH] at ra
                cases ra
                exact .inl h2
              · rw [hH] at ra
                cases ra
                exact .inr ⟨od, h2⟩
          obtain ⟨B, a, kvs, rfl, hB, rb, qa⟩ := key
          rcases rb with rb | ⟨od, rb⟩
          · have hH : H a = some (.dK kvs) := by
              rcases hB with rfl | rfl
              · exact so.st.gh _ _ rb
              · exact so.st.hh _ _ rb
            refine .inr ⟨a, .dK kvs, hH, True.intro, fun od => ?_⟩
            have hu : ∀ o, H a = some o → o = .dK kvs := fun o e => by rw [hH] at e; cases e; rfl
            have hG : ∀ o, G a = some o → o = .dK kvs := fun o e => hu o (so.st.gh _ _ e)
            have hn : ∀ (j : Nat) (x : PyData), ρ[j]? = some (some ⟨.o, x⟩) → σ[j]? ≠ some (some (.ref a)) := fun j x hj z => by
              obtain ⟨a', h1, h2, ⟨ob, h4, h5⟩, h3⟩ := so.own j x hj
              rw [z] at h1
              cases h1
              have hne : i ≠ j := fun z => by
                subst z
                rw [hi] at hj
                cases hj
                exact c3 rfl
              cases m with
              | f =>
                obtain ⟨w, g1, g2⟩ := so.env.at_ j _ hj
                rw [z] at g1
                cases g1
                obtain ⟨b, o, e2, n, _⟩ := g2
                cases e2
                have r : Rp K G (.ref a) (.dict ds) := r
                cases r with
                | dct h1 h2 =>
                  rcases h1 with h1 | ⟨_, h1⟩
                  · rw [n] at h1
                    cases h1
                  · rw [n] at h1
                    cases h1
                | xc => cases c1
              | o => exact c3 rfl
              | p => exact h3 i _ hne hi (fun z => nomatch z) e1
            rw [lk_upd hH]
            have so1 := so.lk (od := od) hH hn
            refine core (B := lk a od kvs B) (od := od) so1 e1 ?_ (lk_at rb) (RpK.rd (rd_lk hG) (xc_lk hG) _ _ qa) fun σ' G' H' so' => ?_
            · rcases hB with rfl | rfl
              · exact .inl rfl
              · exact .inr rfl
            · have hd : H' a = some (.frz od (.dK kvs)) := by
                rcases hB with rfl | rfl
                · exact so'.st.gh _ _ (so'.lo _ _ (lk_at rb))
                · exact so'.st.hh _ _ (lk_at rb)
              refine ⟨hd, ?_⟩
              rw [ul_upd hd]
              exact q σ' _ _ (so'.ul so hH hd)
          · exact .inl (core so e1 hB rb qa fun σ' G' H' so' => q σ' G' H' (so'.weak so.lo))
        | _ => cases h
      · cases h
    · cases h
  | .whl c b, GL, G0, H0, W, σ, H, G, ρ, fl, D, so, h, q => by
    simp only [exS] at h
    refine ⟨fun m σ H => ∃ G ρ, StOk K GL G0 H0 G H σ ρ ∧ whlGo (fun ρ => do
      let x ← evE cl c ρ
      asB x.d) (fun ρ => exSs cl fu b ρ) m ρ = .ok fl, ⟨fu, G, ρ, so, h⟩, ?_⟩
    rintro m σ H ⟨G, ρ, so, h⟩
    cases m with
    | zero => cases h
    | succ m =>
      simp only [whlGo] at h
      obtain ⟨k, e1, h⟩ := bind_ok h
      obtain ⟨x, e1, e2⟩ := bind_ok e1
      refine semE K sp cl hsp c _ so.st.gh so.env e1 fun G1 H1 v S1 r1 => ?_
      have r := r1.1.rdb
      rw [asB_ok e2] at r
      refine ⟨k, r.bool, ?_⟩
      cases k with
      | true =>
        rw [if_pos rfl] at h ⊢
        obtain ⟨fl2, f2, h⟩ := bind_ok h
        refine ⟨fun σ' H' => ∃ G ρ, StOk K GL G0 H0 G H' σ' ρ ∧ whlGo (fun ρ => do
          let x ← evE cl c ρ
          asB x.d) (fun ρ => exSs cl fu b ρ) m ρ = .ok fl, fun σ' H' ⟨G, ρ, a1, a2⟩ => ⟨m, Nat.lt_succ_self m, G, ρ, a1, a2⟩, semSs hsp hx b _ (so.step S1) f2 ?_⟩
        cases fl2 with
        | nx ρ' => exact fun σ' G' H' so' => ⟨G', ρ', so', h⟩
        | ct ρ' => exact fun σ' G' H' so' => ⟨G', ρ', so', h⟩
        | bk ρ' =>
          cases h
          exact q
        | rt s =>
          cases h
          exact q
        | rz c ρ' =>
          cases h
          exact q
      | false =>
        rw [if_neg Bool.false_ne_true] at h ⊢
        cases h
        exact q σ G1 H1 (so.step S1)
  | .brk, GL, G0, H0, W, σ, H, G, ρ, fl, D, so, h, q => by
    cases h
    exact q σ G H so
  | .cont, GL, G0, H0, W, σ, H, G, ρ, fl, D, so, h, q => by
    cases h
    exact q σ G H so
  | .pass, GL, G0, H0, W, σ, H, G, ρ, fl, D, so, h, q => by
    cases h
    exact q σ G H so
  | .nvr, GL, G0, H0, W, σ, H, G, ρ, fl, D, so, h, q => by
    cases h
  | .fap _ _, GL, G0, H0, W, σ, H, G, ρ, fl, D, so, h, q => by simp only [exS] at h; cases h
  | .fsx _ _ _, GL, G0, H0, W, σ, H, G, ρ, fl, D, so, h, q => by simp only [exS] at h; cases h
  | .fas _ _ _, GL, G0, H0, W, σ, H, G, ρ, fl, D, so, h, q => by simp only [exS] at h; cases h
  | .tn _ _ _, GL, G0, H0, W, σ, H, G, ρ, fl, D, so, h, q => by simp only [exS] at h; cases h
  | .ndn x, GL, G0, H0, W, σ, H, G, ρ, fl, D, so, h, q => by
    cases h
    intro p hp
    have S1 : Step G H G (upd H p (ndO p [])) := Step.new so.st.gh hp
    exact q _ G _ (so.setX S1 x ⟨p, ndO p [], rfl, so.st.gh.free hp, upd_same, .nst .nil⟩ ⟨p, rfl, hp, ndO p [], upd_same, fun _ _ z => nomatch z⟩)
  | .rse c, GL, G0, H0, W, σ, H, G, ρ, fl, D, so, h, q => by
    cases h
    exact fun xo => q σ G H so xo
  | .cst k f es, GL, G0, H0, W, σ, H, G, ρ, fl, D, so, h, q => by
    simp only [exS] at h
    obtain ⟨ss, e1, h⟩ := bind_ok h
    have go : ∀ Q : VK, (∀ G1 H1, Step G H G1 H1 → dspR K G1 H1 Q (WE W σ) (cl f ss)) → tCallS (sp f) (WE W) (rdA K sp es) σ H Q := fun Q hq =>
      semA K sp cl hsp es _ so.st.gh so.env e1 fun G1 H1 vs S1 r1 => hx f vs H1 G1 ss Q _ S1.gh r1 (hq G1 H1 S1)
    have exc : ∀ {c : Str} {G1 H1 : Hp} {Q : VK}, Step G H G1 H1 → cl f ss = .error (.raised c) → ckG k ρ (cl f ss) = .ok fl → dspR K G1 H1 Q (WE W σ) (cl f ss) := fun {c G1 H1 Q} S1 e h => by
      rw [e] at h ⊢
      cases h
      exact fun G' H' S' xo => q σ G' H' (so.step (S1.trans S')) xo
    cases k with
    | asg t =>
      refine go _ fun G1 H1 S1 => ?_
      cases e : cl f ss with
      | error er =>
        cases er with
        | stuck =>
          rw [e] at h
          cases h
        | raised c => exact e ▸ exc S1 e h
      | ok s =>
        rw [e] at h
        obtain ⟨ρ', e2, h⟩ := bind_ok h
        cases pure_ok h
        exact fun G' H' v S' r' => bind_st so (S1.trans S') (r'.back S1.hh) e2 fun σ' so' => q σ' G' H' so'
    | ret =>
      refine go _ fun G1 H1 S1 => ?_
      cases e : cl f ss with
      | error er =>
        cases er with
        | stuck =>
          rw [e] at h
          cases h
        | raised c => exact e ▸ exc S1 e h
      | ok s =>
        rw [e] at h
        obtain ⟨r, e2, h⟩ := bind_ok h
        cases pure_ok h
        have es : r = s := by
          obtain ⟨m, d⟩ := s
          cases m with
          | p => simp [retS, stk] at e2
          | f => cases e2; rfl
          | o => cases e2; rfl
        subst es
        exact fun G' H' v S' r' => q G' H' v (so.st.trans (S1.trans S')) ((r'.back S1.hh).back so.st.hh)
    | exp =>
      refine go _ fun G1 H1 S1 => ?_
      cases e : cl f ss with
      | error er =>
        cases er with
        | stuck =>
          rw [e] at h
          cases h
        | raised c => exact e ▸ exc S1 e h
      | ok s =>
        rw [e] at h
        cases h
        exact fun G' H' v S' r' => q σ G' H' (so.step (S1.trans S'))
  | .tr b hs, GL, G0, H0, W, σ, H, G, ρ, fl, D, so, h, q => by
    simp only [exS] at h
    obtain ⟨r, e1, h⟩ := bind_ok h
    intro kn
    refine semSs hsp hx b _ so e1 ?_
    cases r with
    | nx ρ' =>
      cases h
      exact q
    | bk ρ' =>
      cases h
      exact q
    | ct ρ' =>
      cases h
      exact q
    | rt s =>
      cases h
      exact q
    | rz c ρ' => exact fun σ' G' H' so' xo => semHs hsp hx xo hs D kn so' h q
theorem semHs (hsp : Hsp K sp cl) (hx : HspX K sp cl) {c : Str} (xo : XcOk K c) : ∀ (hs : Hs) {GL G0 H0 : Hp} {W : WX} {σ : L2.St} {H G : Hp} {ρ : Rho} {fl : Fl} (D : Ends), (∀ d, d ∈ hsNames hs → XKn K d) → StOk K GL G0 H0 G H σ ρ → exHs cl fu c hs ρ = .ok fl → FlR K GL G0 H0 W fl D →
    wX K W D (rdHs K sp hs) (.ref (xga K c)) none σ H
  | .nil, GL, G0, H0, W, σ, H, G, ρ, fl, D, kn, so, h, q => by
    cases h
    exact q σ G H so xo
  | .cons cs nm b r, GL, G0, H0, W, σ, H, G, ρ, fl, D, kn, so, h, q => by
    simp only [exHs] at h
    split at h
    · rename_i hc
      refine ⟨_, exm_map xo hc fun d hd => kn d (List.mem_append_left _ hd), fun hb => ⟨_, rfl, rfl, fun a na => ?_⟩, fun hb => ?_⟩
      · rw [hb, if_pos rfl] at h
        obtain ⟨f, e1, h⟩ := bind_ok h
        have S1 := Step.newF (o := xcO a (xga K c)) so.st.gh na
        have so1 := so.step S1
        have so2 : StOk K GL G0 H0 (upd G a (xcO a (xga K c))) (upd H a (xcO a (xga K c))) (setNm nm a σ) (nmS nm c ρ) := by
          cases nm with
          | none => exact so1
          | some i => exact so1.setF i (.xc xo upd_same)
        refine semSs hsp hx b _ so2 e1 ?_
        cases f with
        | nx ρ' =>
          cases nm with
          | none =>
            cases h
            exact q
          | some i =>
            cases h
            exact fun σ' G' H' so' => q _ G' H' (so'.gone i)
        | rt s =>
          cases nm with
          | none =>
            cases h
            exact q
          | some i =>
            cases h
            exact q
        | bk ρ' => cases nm <;> cases h
        | ct ρ' => cases nm <;> cases h
        | rz c ρ' => cases nm <;> cases h
      · rw [hb, if_neg Bool.false_ne_true] at h
        exact semHs hsp hx xo r D (fun d hd => kn d (List.mem_append_right _ hd)) so h q
    · cases h
theorem semSs (hsp : Hsp K sp cl) (hx : HspX K sp cl) : ∀ (e : Ss) {GL G0 H0 : Hp} {W : WX} {σ : L2.St} {H G : Hp} {ρ : Rho} {fl : Fl} (D : Ends), StOk K GL G0 H0 G H σ ρ → exSs cl fu e ρ = .ok fl → FlR K GL G0 H0 W fl D → rdSs K sp e W D σ H
  | .nil, GL, G0, H0, W, σ, H, G, ρ, fl, D, so, h, q => by
    cases h
    exact q σ G H so
  | .cons s ss, GL, G0, H0, W, σ, H, G, ρ, fl, D, so, h, q => by
    simp only [exSs] at h
    obtain ⟨r, e1, h⟩ := bind_ok h
    refine semS hsp hx s _ so e1 ?_
    cases r with
    | nx ρ' => exact fun σ' G' H' so' => semSs hsp hx ss D so' h q
    | bk ρ' =>
      cases h
      exact q
    | ct ρ' =>
      cases h
      exact q
    | rt s =>
      cases h
      exact q
    | rz c ρ' =>
      cases h
      exact q
  | .frz i ss, GL, G0, H0, W, σ, H, G, ρ, fl, D, so, h, q => by
    simp only [exSs] at h
    obtain ⟨G', sg, so'⟩ := so.frz i
    exact semSs hsp hx ss D so' h q
end
end
end GK

namespace GK
open PySem PySem.Spec PyProof.Rows L2

theorem args_start {K : PySem.W.Frag} {G H : Hp} : ∀ {vs : List V} {ss : List Sl}, ArgsR K G H vs ss → ∀ (i : Nat) (s : Sl), (ss.map some)[i]? = some (some s) → s.m ≠ .o ∧ ∃ v, (vs.map some)[i]? = some (some v) ∧ SlR K G H v s
  | _, _, .nil, i, s, h => by simp at h
  | _, _, .cons r n t, 0, s, h => by
    simp at h
    subst h
    exact ⟨n, _, rfl, r⟩
  | _, _, .cons r n t, i + 1, s, h => by
    obtain ⟨n', v, e, q⟩ := args_start t i s (by simpa using h)
    exact ⟨n', v, by simpa using e, q⟩
theorem start_ok {K : PySem.W.Frag} {G H : Hp} {N : List Str} {vs : List V} {ss : List Sl} (S : Same G H) (r : ArgsR K G H vs ss) : StOk K G G H G H (start N vs) (startR N.length ss) := by
  have hl := r.length
  have key : ∀ (i : Nat) (s : Sl), (startR N.length ss)[i]? = some (some s) → s.m ≠ .o ∧ ∃ v, (start N vs)[i]? = some (some v) ∧ SlR K G H v s := fun i s h => by
    unfold startR at h
    unfold L2.start
    rcases Nat.lt_or_ge i ss.length with hi | hi
    · rw [List.getElem?_append_left (by rw [List.length_map]; exact hi)] at h
      rw [List.getElem?_append_left (by rw [List.length_map, hl]; exact hi)]
      exact args_start r i s h
    · rw [List.getElem?_append_right (by rw [List.length_map]; exact hi), List.getElem?_replicate] at h
      split at h <;> cases h
  refine ⟨.refl S, ⟨?_, fun i s h => by
    obtain ⟨v, e, r⟩ := (key i s h).2
    exact ⟨v, e, r.e⟩⟩, fun i d h => absurd rfl (key i _ h).1, Same.refl _, fun i d h => ?_⟩
  rotate_left
  · obtain ⟨_, v, e, q⟩ := key i _ h
    exact ⟨v, e, q⟩
  unfold L2.start startR
  rw [List.length_append, List.length_append, List.length_map, List.length_map, List.length_replicate, List.length_replicate, hl]
section
variable {P : Program} {w : World} {K : PySem.W.Frag} {mg : Str → Option Value} {base : Heap} {T : Str → Option FD} {fu : Nat} {fs : Fs}
/-- the module's constants -/
structure CkOk (K : PySem.W.Frag) (w : World) (mg : Str → Option Value) (fs : Fs) : Prop where
  gk : ∀ x d, (x, d) ∈ fs.ck → ∃ v u, mg x = some u ∧ RelV v u ∧ ∀ G, Rp K G v d
  gd : ∀ x kvs, (x, kvs) ∈ fs.cd → ∃ a, mg x = some (.ref a) ∧ ∀ z d, kvs.lookup z = some d → ∃ v, KDct K w a z v ∧ ∀ G, Rp K G v d
  xd : ∀ d, d ∈ fs.xd → mg d = some (.ref (xga K d)) ∧ ∃ a, PySem.W.nsIn K mainGlobals d = some (some (.ref a))
  xr : ∀ c, c ∈ fs.xr → XcOk K c ∧ PySem.W.excIn K (xga K c) veMro "ValueError.__new__" = true ∧ mg c = some (.ref (xga K c)) ∧ PySem.W.keepIn K (.ref (xga K c)) = true ∧ PySem.W.subIn K (.ref (xga K c)) (.type "BaseException") = some true ∧ PySem.W.typeIn K (.ref (xga K c)) = some (.type "type")
  nomd : fs.md = []
  nomk : fs.mkc = []
theorem CkOk.none {ns : List Str} {cst : List (Str × Nat)} : CkOk K w mg ⟨ns, cst, [], [], [], [], [], []⟩ := ⟨fun _ _ h => (nomatch h), fun _ _ h => (nomatch h), fun _ h => (nomatch h), fun _ h => (nomatch h), rfl, rfl⟩
/-- a def at the level k -/
def FnAt (P : Program) (w : World) (K : PySem.W.Frag) (mg : Str → Option Value) (base : Heap) (T : Str → Option FD) (fu : Nat) (k : Nat) (f : Str) : Prop :=
  ∃ a fd ps, FnOk P w K mg base (L2.CX P w) (k + 20) a fd ps (dsp K (call T fu k f)) ∧ mg f = some (.ref a) ∧ PySem.W.keepIn K (.ref a) = true ∧ Binds K fd ps []
theorem hsp_of (cl : Str → List Sl → M Sl) : Hsp K (fun f => dsp K (cl f)) cl := fun _ _ _ G ss r _ S A e q => ⟨G, ss, S, A, by rw [e]; exact q⟩
theorem hspx_of (cl : Str → List Sl → M Sl) : HspX K (fun f => dsp K (cl f)) cl := fun _ _ _ G ss _ _ S A d => ⟨G, ss, S, A, d⟩
/-- nothing comes out but what is handed back -/
theorem FnOk.quiet {k : Nat} {f : Addr} {fd : FuncData} {ps : List Str} {sp : Sp} (F : FnOk P w K mg base (L2.CX P w) k f fd ps sp) : FnOk P w K mg base CX0 k f fd ps (fun vs H Q _ => sp vs H Q E0) :=
  ⟨fun vs H Q E h => F.len vs H Q E0 h, fun A outer s H args us vs Q E hr he hb hv hs => codeAny_mono (F.run A outer s H args us vs Q E0 hr he hb hv hs) fun r s' hq => by
    cases r with
    | error e =>
      obtain ⟨_, _, _, _, _, _, _, _, _, _, _, _, z⟩ := hq
      exact z
    | ok fl =>
      cases fl with
      | ret u => exact hq
      | next => exact hq
      | brk => exact hq
      | cont => exact hq⟩
theorem room100 {k : Nat} {A : Around} (r : Room (k + 20) A) : A.units + 500 < cLine := by
  have := r.un
  omega
theorem fn_step {f g0 : Str} {args : Arguments} {body : List Stmt} {scope : Scope} {a : Addr} {fd : FuncData} {N ps : List Str} {b : Ss} {k : Nat} (F : FunD K g0 g0 args body scope [] [] a fd) (S : FnScope N ps scope) (ok : okSs N fs scope b body = true)
    (blt : ∀ b, b ∈ bnames → mg b = none) (gc : ∀ x n, (x, n) ∈ fs.cst → ∃ t, mg x = some (.int ((n : Nat) : Int) t)) (ko : CkOk K w mg fs) (ih : ∀ g, g ∈ fs.fs → FnAt P w K mg base T fu k g) (hT : T f = some ⟨N, ps, b⟩) : FnOk P w K mg base (L2.CX P w) (k + 20 + 1) a fd ps (dsp K (call T fu (k + 1) f)) := by
  refine F.ok S (fun vs H Q E h => ?_) (fun cdv A outer s H vs Q E hr h => ?_)
  · obtain ⟨G, ss, _, ar, q⟩ := h
    simp only [call, hT, runB] at q
    split at q
    · rw [ar.length]
      assumption
    · exact False.elim q
  · obtain ⟨G, ss, SG, ar, q⟩ := h
    simp only [call, hT, runB] at q
    split at q
    · have C : Cxt (cxOf (L2.CX P w) P w K mg base N g0 scope a cdv A outer s H E) K (fun g => dsp K (call T fu k g)) N fs scope scope := by
        refine ⟨rfl, rfl, rfl, S.nd, rfl, blt, room100 hr, gc, ko.gk, ko.gd, fun g hg => ?_, ko.xd, fun c hc => ?_, (fun _ _ _ h => by rw [ko.nomd] at h; cases h), (fun _ _ h => by rw [ko.nomk] at h; cases h), fun x hx => ⟨locB_ok hx, .inl rfl⟩⟩
        · obtain ⟨a', fd', ps', F', m, kp, bd⟩ := ih g hg
          exact ⟨a', fd', ps', k + 20, F', hr, m, kp, bd⟩
        · obtain ⟨h1, h2, h3, h4, h5, h6⟩ := ko.xr c hc
          exact ⟨h1, ⟨h2, h3, h4, raises_own h5 h6⟩⟩
      have tk : Takes (cxOf (L2.CX P w) P w K mg base N g0 scope a cdv A outer s H E) (fun cls d _ H => E cls d H) := takes_of rfl rfl rfl rfl
      have R := fun {σ : L2.St} {ρ : Rho} {fl : Fl} (D : Ends) so he q => semSs (GL := G) (σ := σ) (ρ := ρ) (fl := fl) (W := fun cls d _ H => E cls d H) (G0 := G) (H0 := H) (G := G) (H := H) K (fun g => dsp K (call T fu k g)) (call T fu k) fu (hsp_of _) (hspx_of _) b D so he q
      refine ⟨_, dSs K (fun g => dsp K (call T fu k g)) N fs b C ⟨rfl, rfl, rfl⟩ tk (passes_of rfl) body ok, ?_⟩
      cases he : exSs (call T fu k) fu b (startR N.length ss) with
      | error e =>
        rw [he] at q
        exact False.elim q
      | ok fl =>
        rw [he] at q
        cases fl with
        | nx ρ' => exact R _ (start_ok SG ar) he fun σ' G' H' so => q G' H' .non so.st (.f .non)
        | rt s' => exact R _ (start_ok SG ar) he fun G' H' v S' r' => q G' H' v S' r'
        | rz c ρ' => exact R _ (start_ok SG ar) he fun σ' G' H' so xo => q G' H' so.st xo
        | bk ρ' => exact False.elim q
        | ct ρ' => exact False.elim q
    · exact False.elim q
theorem fn_zero {j : Nat} {f : Str} {a : Addr} {fd : FuncData} {ps : List Str} : FnOk P w K mg base (L2.CX P w) j a fd ps (dsp K (call T fu 0 f)) :=
  ⟨fun _ _ _ _ ⟨_, _, _, _, q⟩ => False.elim q, fun _ _ _ _ _ _ _ _ _ _ _ _ _ ⟨_, _, _, _, q⟩ => False.elim q⟩
end

/-! ### a program's defs -/
structure PD where
  name : Str
  N : List Str
  ps : List Str
  body : Ss
  st : Stmt
/-- the name that stands in the def's own text (another name may stand for it, too) -/
def PD.nm (d : PD) : Str := defNm d.st d.name
def tab (ds : List PD) (f : Str) : Option FD := match ds with
  | [] => none
  | d :: r => if d.name = f then some ⟨d.N, d.ps, d.body⟩ else tab r f
theorem tab_of {ds : List PD} {f : Str} (h : f ∈ ds.map (·.name)) : ∃ d, d ∈ ds ∧ d.name = f ∧ tab ds f = some ⟨d.N, d.ps, d.body⟩ := by
  induction ds with
  | nil => simp at h
  | cons d r ih =>
    by_cases e : d.name = f
    · exact ⟨d, List.mem_cons_self, e, by unfold tab; rw [if_pos e]⟩
    · rw [List.map_cons, List.mem_cons] at h
      obtain ⟨d', h1, h2, h3⟩ := ih (h.resolve_left fun z => e z.symm)
      exact ⟨d', List.mem_cons_of_mem _ h1, h2, by unfold tab; rw [if_neg e]; exact h3⟩
/-- a def as the head finds it -/
def PD.dd (d : PD) : He.DefD := ⟨(d.name, none), d.nm, d.nm, defArgs d.st, defBody d.st, defScope d.st, [], []⟩
/-- all that can be looked at in the text -/
def PD.okB (fs : Fs) (d : PD) : Bool := okSs d.N fs (defScope d.st) d.body (defBody d.st)
structure PD.Ok (fs : Fs) (d : PD) : Prop where
  sc : FnScope d.N d.ps (defScope d.st)
  ok : d.okB fs = true
  bd : ∀ (kV doc pm : Value) (an : Option Addr) (cdv ct : Value) (us : List Value), us.length = d.ps.length → bindArgs (PySem.W.fnOf d.nm d.nm (defArgs d.st) (defBody d.st) (defScope d.st) .none kV doc pm an cdv ct) ⟨us, []⟩ = pure (d.ps.zip us)
def facts (ds : List PD) (cst : List (Str × Nat)) : List He.Fa := ds.map (fun d => He.Fa.glo d.name) ++ (bnames.map He.Fa.free ++ cst.map fun p => He.Fa.int p.1 (p.2 : Int))
theorem FunD.kpD {K : PySem.W.Frag} {x q : Str} {a : Arguments} {b : List Stmt} {s : Scope} {f : Addr} {fd : FuncData} (F : FunD K x q a b s [] [] f fd) : PySem.W.keepIn K (.ref f) = true := F.kp
theorem all_at {P : Program} {w : World} {K : PySem.W.Frag} {mg : Str → Option Value} {base h : Heap} {fu : Nat} {ds : List PD} {cst : List (Str × Nat)} {ck : List (Str × D)} {cd : List (Str × List (Str × D))} {xr xd : List Str} (X : K.In h) (G : h.Ns mainGlobals mg) (c : He.SaysD (facts ds cst) (ds.map PD.dd) K) (ko : CkOk K w mg ⟨ds.map (·.name), cst, ck, cd, xr, xd, [], []⟩) (hd : ∀ d ∈ ds, d.Ok ⟨ds.map (·.name), cst, ck, cd, xr, xd, [], []⟩) :
    ∀ k f, f ∈ ds.map (·.name) → FnAt P w K mg base (tab ds) fu k f := by
  have blt : ∀ b, b ∈ bnames → mg b = none := fun b hb => He.free_ok X G (He.SaysD.facts c (List.mem_append_right _ (List.mem_append_left _ (List.mem_map_of_mem hb))))
  have gc : ∀ x n, (x, n) ∈ cst → ∃ t, mg x = some (.int ((n : Nat) : Int) t) := fun x n hb => He.int_ok X G (He.SaysD.facts c (List.mem_append_right _ (List.mem_append_right _ (List.mem_map_of_mem (f := fun p : Str × Nat => He.Fa.int p.1 (p.2 : Int)) hb))))
  have glo : ∀ d ∈ ds, mg d.name = some (.ref (He.ga K d.name)) := fun d hd => He.glo_ok X G (He.SaysD.facts c (List.mem_append_left _ (List.mem_map_of_mem hd)))
  have fun_ : ∀ d ∈ ds, ∃ fd, FunD K d.nm d.nm (defArgs d.st) (defBody d.st) (defScope d.st) [] [] (He.ga K d.name) fd := fun d hd => He.SaysD.defs c (d := d.dd) (List.mem_map_of_mem hd)
  intro k
  induction k with
  | zero =>
    intro f hf
    obtain ⟨d, h1, rfl, h3⟩ := tab_of hf
    obtain ⟨fd, F⟩ := fun_ d h1
    exact ⟨_, fd, d.ps, fn_zero, glo d h1, F.kp, F.bindsN (hd d h1).bd⟩
  | succ k ih =>
    intro f hf
    obtain ⟨d, h1, rfl, h3⟩ := tab_of hf
    obtain ⟨fd, F⟩ := fun_ d h1
    exact ⟨_, fd, d.ps, fn_step F (hd d h1).sc (hd d h1).ok blt gc ko ih h3, glo d h1, F.kp, F.bindsN (hd d h1).bd⟩
/-- the law's def, from what its run gives -/
theorem law_sp {K : PySem.W.Frag} {F : List Sl → M Sl} {H : Hp} {a : Addr} {ns : List Int} (hS : SqL K H a (ns.map V.int)) (h : F [⟨.f, .list (ns.map .int)⟩] = .ok ⟨.f, .bool true⟩) : dsp K F [.ref a] H (fun v _ => v = .bl true) E0 := by
  have r : RpA K H (ns.map V.int) (ns.map PyData.int) := by
    induction ns with
    | nil => exact .nil
    | cons n r ih =>
      have aux : ∀ l : List Int, RpA K H (l.map V.int) (l.map PyData.int) := fun l => by
        induction l with
        | nil => exact .nil
        | cons m l ih => exact .cons (.int m) ih
      exact aux _
  refine ⟨H, _, Same.refl _, .cons (s := ⟨.f, .list (ns.map .int)⟩) (.lst hS r) (fun z => nomatch z) .nil, ?_⟩
  rw [h]
  intro G' H' v _ q
  exact Rdb.bool (K := K) (G := G') (H := H') (.inl q.1)
theorem law_end {P : Program} {w : World} {K : PySem.W.Frag} {mg : Str → Option Value} {h : Heap} {fu n k : Nat} {ds : List PD} {cst : List (Str × Nat)} {ck : List (Str × D)} {cd : List (Str × List (Str × D))} {xr xd : List Str} {d : PD} {fa : Addr} {x : Str} (X : K.In h) (G : h.Ns mainGlobals mg) (c : He.SaysD (facts ds cst) (ds.map PD.dd) K) (ko : CkOk K w mg ⟨ds.map (·.name), cst, ck, cd, xr, xd, [], []⟩) (hd : ∀ d ∈ ds, d.Ok ⟨ds.map (·.name), cst, ck, cd, xr, xd, [], []⟩)
    (hm : d ∈ ds) (hT : tab ds d.name = some ⟨d.N, d.ps, d.body⟩) (hx : d.ps = [x]) (hmg : mg d.name = some (.ref fa))
    (ht : ∀ ns : List Int, ns.length ≤ n → call (tab ds) fu (k + 1) d.name [⟨.f, .list (ns.map .int)⟩] = .ok ⟨.f, .bool true⟩) :
    ∃ (K : PySem.W.Frag) (fd : FuncData) (sp : Sp), K.In h ∧ (∀ (s : Shared) (u : Value), BindsTo s fd ⟨[u], []⟩ [(x, u)]) ∧
        (∀ (H : Hp) (a : Addr) (ns : List Int), ns.length ≤ n → Only H → SqL K H a (ns.map V.int) → sp [.ref a] H (fun v _ => v = .bl true) fun _ _ _ => False) ∧
        ∀ base : Heap, K.In base → base.Ns mainGlobals mg → FnOk P w K mg base CX0 (k + 20 + 1) fa fd [x] sp := by
  obtain ⟨fd, F⟩ := He.SaysD.defs c (d := d.dd) (List.mem_map_of_mem hm)
  have F' : FunD K d.nm d.nm (defArgs d.st) (defBody d.st) (defScope d.st) [] [] (He.ga K d.name) fd := F
  have e := hmg.symm.trans (He.glo_ok X G (He.SaysD.facts c (List.mem_append_left _ (List.mem_map_of_mem (f := fun d => He.Fa.glo d.name) hm))))
  cases e
  have bd := (hd d hm).bd
  rw [hx] at bd
  refine ⟨K, fd, fun vs H Q _ => dsp K (call (tab ds) fu (k + 1) d.name) vs H Q E0, X, fun s u => F'.bindsA (ps := [x]) bd s [u] rfl, fun H a ns hl _ hS => law_sp hS (ht ns hl), fun base _ _ => ?_⟩
  have blt : ∀ b, b ∈ bnames → mg b = none := fun b hb => He.free_ok X G (He.SaysD.facts c (List.mem_append_right _ (List.mem_append_left _ (List.mem_map_of_mem hb))))
  have gc : ∀ x n, (x, n) ∈ cst → ∃ t, mg x = some (.int ((n : Nat) : Int) t) := fun x n hb => He.int_ok X G (He.SaysD.facts c (List.mem_append_right _ (List.mem_append_right _ (List.mem_map_of_mem (f := fun p : Str × Nat => He.Fa.int p.1 (p.2 : Int)) hb))))
  have q := fn_step (P := P) (w := w) (base := base) (fu := fu) (k := k) F' (hd d hm).sc (hd d hm).ok blt gc ko (all_at X G c ko hd k) hT
  rw [hx] at q
  exact GK.FnOk.quiet q
/-! ### the module's constants, read in the heap -/
mutual
theorem rpB_ok {K : PySem.W.Frag} : ∀ (d : D) (u : Value), rpB K d u = true → ∃ v, RelV v u ∧ ∀ G, Rp K G v d
  | .none, u, h => by
    cases u <;> first | (simp [rpB] at h; done) | skip
    exact ⟨.non, rfl, fun _ => .non⟩
  | .bool b, u, h => by
    cases u <;> first | (simp [rpB] at h; done) | skip
    rename_i c
    have h : (b == c) = true := by simpa [rpB] using h
    rw [eq_of_beq h]
    exact ⟨.bl c, rfl, fun _ => .bl c⟩
  | .int i, u, h => by
    cases u <;> first | (simp [rpB] at h; done) | skip
    rename_i j t
    have h : i = j := by simpa [rpB] using h
    rw [h]
    exact ⟨.int j, ⟨t, rfl⟩, fun _ => .int j⟩
  | .str x, u, h => by
    cases u <;> first | (simp [rpB] at h; done) | skip
    rename_i y t
    have h : x = y := by simpa [rpB] using h
    rw [h]
    exact ⟨.str y, ⟨t, rfl⟩, fun _ => .str y⟩
  | .tuple ds, u, h => by
    cases u <;> first | (simp [rpB] at h; done) | skip
    rename_i a
    unfold rpB at h
    split at h
    · rename_i c od its n osl hq
      obtain ⟨h1, h2⟩ := and2 h
      obtain ⟨h2, h3⟩ := and2 h2
      obtain ⟨vs, h4, h5⟩ := rpBs_ok ds _ h3
      exact ⟨.ref a, rfl, fun G => .tup (.inr ⟨_, its, n, hq, congrArg Value.type (of_decide_eq_true h1), rfl, of_decide_eq_true h2, h4⟩) (h5 G)⟩
    · cases h
  | .list ds, u, h => by cases u <;> simp [rpB] at h
  | .dict ds, u, h => by cases u <;> simp [rpB] at h
theorem rpBs_ok {K : PySem.W.Frag} : ∀ (ds : List D) (us : List Value), rpBs K ds us = true → ∃ vs, Vals vs us ∧ ∀ G, RpA K G vs ds
  | [], us, h => by
    cases us <;> first | (simp [rpBs] at h; done) | skip
    exact ⟨[], .nil, fun _ => .nil⟩
  | d :: ds, us, h => by
    cases us <;> first | (simp [rpBs] at h; done) | skip
    rename_i u us
    unfold rpBs at h
    obtain ⟨h1, h2⟩ := and2 h
    obtain ⟨v, e1, e2⟩ := rpB_ok d u h1
    obtain ⟨vs, e3, e4⟩ := rpBs_ok ds us h2
    exact ⟨v :: vs, .cons e1 e3, fun G => .cons (e2 G) (e4 G)⟩
end
/-! the classes of exceptions -/
theorem bltB_ok {n : String} {v : Option (Option Value)} (h : bltB n v = true) : v = some (some (.builtin n)) := by
  unfold bltB at h
  split at h
  · rw [of_decide_eq_true h]
  · cases h
theorem nonB_ok {v : Option (Option Value)} (h : nonB v = true) : v = some none := by
  unfold nonB at h
  split at h
  · rfl
  · cases h
theorem nsRef {K : PySem.W.Frag} {d : Str} (h : (match PySem.W.nsIn K mainGlobals d with
  | some (some (.ref _)) => true
  | _ => false) = true) : PySem.W.nsIn K mainGlobals d = some (some (.ref (xga K d))) := by
  unfold xga
  split at h
  · rename_i a e
    rw [e]
  · cases h
theorem kn_ok {K : PySem.W.Frag} {d : Str} (h : XKn K d) : knB K d = true := by
  unfold knB
  rcases h with e | ⟨a, e⟩
  · rw [decide_eq_true e, Bool.true_or]
  · rw [e, Bool.or_true]
theorem xr_ok {K : PySem.W.Frag} {c : Str} {mg : Str → Option Value} {h : Heap} (X : K.In h) (G : h.Ns mainGlobals mg) (q : xrB1 K c = true) : XcOk K c ∧ PySem.W.excIn K (xga K c) veMro "ValueError.__new__" = true ∧ mg c = some (.ref (xga K c)) ∧ PySem.W.keepIn K (.ref (xga K c)) = true ∧
    PySem.W.subIn K (.ref (xga K c)) (.type "BaseException") = some true ∧ PySem.W.typeIn K (.ref (xga K c)) = some (.type "type") := by
  unfold xrB1 at q
  obtain ⟨h0, q⟩ := and2 q
  obtain ⟨h1, q⟩ := and2 q
  obtain ⟨h2, q⟩ := and2 q
  obtain ⟨h3, q⟩ := and2 q
  obtain ⟨h4, q⟩ := and2 q
  obtain ⟨h5, q⟩ := and2 q
  obtain ⟨h6, q⟩ := and2 q
  obtain ⟨h7, q⟩ := and2 q
  obtain ⟨h8, q⟩ := and2 q
  obtain ⟨h9, q⟩ := and2 q
  obtain ⟨h10, q⟩ := and2 q
  obtain ⟨h11, h12⟩ := and2 q
  have each : ∀ d, xall.contains d = true → XKn K d → PySem.W.kitOne K (.ref (xga K c)) (clsV K d) = some (xsub c d) ∧ PySem.W.exmOne K (.ref (xga K c)) (clsV K d) = some (xsub c d) := fun d hd kn => by
    have z := List.all_eq_true.mp h9 d (by simpa using hd)
    rw [kn_ok kn, Bool.not_true, Bool.false_or] at z
    obtain ⟨z1, z2⟩ := and2 z
    exact ⟨of_decide_eq_true z1, of_decide_eq_true z2⟩
  refine ⟨⟨⟨bltB_ok h1, nonB_ok h2, of_decide_eq_true h3, h4, bltB_ok h5, bltB_ok h6, of_decide_eq_true h7, of_decide_eq_true h8⟩, fun d hd kn => (each d hd kn).1, fun d hd kn => (each d hd kn).2⟩, h10, PySem.W.mg_of X G (nsRef h0), h11, of_decide_eq_true h3, ?_⟩
  split at h12
  · rename_i n e
    rw [e, of_decide_eq_true h12]
  · cases h12
theorem lookup_in {z : Str} {d : D} : ∀ {l : List (Str × D)}, l.lookup z = some d → (z, d) ∈ l
  | [], h => by cases h
  | (y, e) :: r, h => by
    rw [List.lookup_cons] at h
    split at h
    · rename_i q
      cases h
      rw [eq_of_beq q]
      exact List.mem_cons_self
    · exact List.mem_cons_of_mem _ (lookup_in h)
theorem ck_of {fa : List He.Fa} {fn : List He.DefD} {tf : List He.Defn} {w : World} {K : PySem.W.Frag} {h : Heap} {mg : Str → Option Value} {ns : List Str} {cst : List (Str × Nat)} {ck : List (Str × D)} {cd : List (Str × List (Str × D))} {xr xd : List Str} (X : K.In h) (G : h.Ns mainGlobals mg)
    (c : He.SaysX fa fn (tabsOf cd) tf (exOf ck cd xr xd) w h K) : CkOk K w mg ⟨ns, cst, ck, cd, xr, xd, [], []⟩ := by
  obtain ⟨mm, mx⟩ := and2 c.more
  obtain ⟨m1, m2⟩ := and2 mm
  obtain ⟨m3, m4⟩ := and2 mx
  refine ⟨fun x d hx => ?_, fun x kvs hx => ?_, fun d hd => ?_, fun c hc => xr_ok X G (List.all_eq_true.mp m3 c hc), rfl, rfl⟩
  rotate_left 2
  · have z := nsRef (List.all_eq_true.mp m4 d hd)
    exact ⟨PySem.W.mg_of X G z, _, z⟩
  · have h1 := List.all_eq_true.mp m1 _ hx
    split at h1
    · rename_i u e
      obtain ⟨v, e1, e2⟩ := rpB_ok _ _ h1
      exact ⟨v, u, PySem.W.mg_of X G e, e1, e2⟩
    · cases h1
  · have h1 := List.all_eq_true.mp m2 _ hx
    obtain ⟨i, hi, ei⟩ := List.mem_iff_getElem.mp hx
    have ht : (tabsOf cd)[i]? = some ((fun K => He.ga K x, kvs.map (·.1)) : He.Tab) := by
      unfold tabsOf
      rw [List.getElem?_map, List.getElem?_eq_getElem hi, ei]
      rfl
    obtain ⟨es, n, kd⟩ := c.t.tab i ht
    split at h1
    · rename_i a e
      have ea : He.ga K x = a := by
        unfold He.ga
        rw [e]
      refine ⟨a, PySem.W.mg_of X G e, fun z d hz => ?_⟩
      have h2 := List.all_eq_true.mp h1 _ (lookup_in hz)
      split at h2
      · rename_i u eu
        obtain ⟨v, e1, e2⟩ := rpB_ok _ _ h2
        have kd : KDict K w (He.ga K x) es n := kd
        rw [ea] at kd
        exact ⟨v, ⟨es, n, u, kd.1, kd.2, eu, e1⟩, e2⟩
      · cases h2
    · cases h1
end GK

/-! running the small language by rewriting -/
namespace GK
open PySem PySem.Spec PyProof.Rows L2

theorem ok_bind {α β : Type} (a : α) (f : α → M β) : ((Except.ok a : M α) >>= f) = f a := (rfl)
theorem pure_bind' {α β : Type} (a : α) (f : α → M β) : ((pure a : M α) >>= f) = f a := (rfl)
theorem pure_M {α : Type} (a : α) : (pure a : M α) = .ok a := (rfl)
theorem bind_assoc' {α β γ : Type} (x : M α) (f : α → M β) (g : β → M γ) : ((x >>= f) >>= g) = (x >>= fun a => f a >>= g) := by
  cases x <;> rfl
def vm : Md → Md
  | .f => .f
  | _ => .p
theorem vm_f : vm .f = .f := (rfl)
theorem vm_o : vm .o = .p := (rfl)
theorem vm_p : vm .p = .p := (rfl)
theorem vm_vm (m : Md) : vm (vm m) = vm m := by cases m <;> rfl
def rdV : Option (Option Sl) → M Sl
  | some (some ⟨m, d⟩) => .ok ⟨vm m, d⟩
  | _ => stk
theorem rdV_mk (m : Md) (d : D) : rdV (some (some ⟨m, d⟩)) = .ok ⟨vm m, d⟩ := (rfl)
theorem rdV_fI (i : Int) : rdV (some (some (fI i))) = .ok (fI i) := (rfl)
theorem rdV_fB (i : Bool) : rdV (some (some (fB i))) = .ok (fB i) := (rfl)
section
variable (cl : Str → List Sl → M Sl) (fu : Nat) (ρ : Rho)
theorem evE_var (i : Nat) : evE cl (.var i) ρ = rdV ρ[i]? := by
  simp only [evE]
  cases ρ[i]? with
  | none => rfl
  | some o =>
    cases o with
    | none => rfl
    | some s => obtain ⟨m, d⟩ := s; cases m <;> rfl
theorem evE_int (n : Nat) : evE cl (.int n) ρ = .ok (fI (n : Int)) := (rfl)
theorem evE_bl (n : Bool) : evE cl (.bl n) ρ = .ok (fB n) := (rfl)
theorem evE_non : evE cl .non ρ = .ok ⟨.f, .none⟩ := (rfl)
theorem evE_str (n : Str) : evE cl (.str n) ρ = .ok ⟨.f, .str n⟩ := (rfl)
theorem evE_bin (op : Operator) (a b : E) : evE cl (.bin op a b) ρ = evE cl a ρ >>= fun x => evE cl b ρ >>= fun y => binop op x.m x.d y.d := (rfl)
theorem evE_neg (a : E) : evE cl (.neg a) ρ = evE cl a ρ >>= fun x => unop false x.d := (rfl)
theorem evE_inv (a : E) : evE cl (.inv a) ρ = evE cl a ρ >>= fun x => unop true x.d := (rfl)
theorem evE_cmp (op : CmpOp) (a b : E) : evE cl (.cmp op a b) ρ = evE cl a ρ >>= fun x => evE cl b ρ >>= fun y => cmpop op x.d y.d >>= fun r => .ok (fB r) := (rfl)
def ifM {α : Type} (b : Bool) (x y : M α) : M α := if b then x else y
theorem ifM_t {α : Type} (x y : M α) : ifM true x y = x := (rfl)
theorem ifM_f {α : Type} (x y : M α) : ifM false x y = y := (rfl)
theorem evE_chn (op op' : CmpOp) (a b c : E) : evE cl (.chn op op' a b c) ρ = evE cl a ρ >>= fun x => evE cl b ρ >>= fun y => cmpop op x.d y.d >>= fun r => ifM r (evE cl c ρ >>= fun z => cmpop op' y.d z.d >>= fun r' => .ok (fB r')) (.ok (fB false)) := (rfl)
theorem evE_isN (a : E) : evE cl (.isN a) ρ = evE cl a ρ >>= fun x => .ok (fB (isNone x.d)) := (rfl)
theorem evE_notN (a : E) : evE cl (.notN a) ρ = evE cl a ρ >>= fun x => .ok (fB (!isNone x.d)) := (rfl)
theorem evE_and (a b : E) : evE cl (.and a b) ρ = evE cl a ρ >>= fun x => asB x.d >>= fun c => ifM c (evE cl b ρ) (.ok (fB false)) := (rfl)
theorem evE_or (a b : E) : evE cl (.or a b) ρ = evE cl a ρ >>= fun x => asB x.d >>= fun c => ifM c (.ok (fB true)) (evE cl b ρ) := (rfl)
theorem evE_not (a : E) : evE cl (.not a) ρ = evE cl a ρ >>= fun x => asB x.d >>= fun c => .ok (fB (!c)) := (rfl)
theorem evE_ife (c a b : E) : evE cl (.ife c a b) ρ = evE cl c ρ >>= fun x => asB x.d >>= fun k => ifM k (evE cl a ρ) (evE cl b ρ) := (rfl)
theorem evE_tup (es : Es) : evE cl (.tup es) ρ = ifM (decide (esLen es ≤ 1000)) (evF cl es ρ >>= fun ds => .ok ⟨.f, .tuple ds⟩) stk := by
  first | (simp only [evE, ifM, decide_eq_true_eq]; done) | (simp only [evE, ifM, decide_eq_true_eq]; rfl)
theorem evE_lst (es : Es) : evE cl (.lst es) ρ = ifM (decide (esLen es ≤ 1000)) (evF cl es ρ >>= fun ds => .ok ⟨.o, .list ds⟩) stk := by
  first | (simp only [evE, ifM, decide_eq_true_eq]; done) | (simp only [evE, ifM, decide_eq_true_eq]; rfl)
theorem evE_ix (a i : E) : evE cl (.ix a i) ρ = evE cl a ρ >>= fun x => evE cl i ρ >>= fun y => ixD x.d y.d := (rfl)
theorem evE_sl (a : E) (lo hi : Eo) : evE cl (.sl a lo hi) ρ = evE cl a ρ >>= fun x => evO cl lo ρ >>= fun l => evO cl hi ρ >>= fun u => slD x.d l u := (rfl)
theorem evE_call (f : Str) (es : Es) : evE cl (.call f es) ρ = evA cl es ρ >>= fun ss => cl f ss := (rfl)
theorem evE_b1 (b : B1) (a : E) : evE cl (.b1 b a) ρ = evE cl a ρ >>= fun x => b1D b x.d := (rfl)
theorem evE_isi (a : E) (t : Ty) : evE cl (.isi a t) ρ = evE cl a ρ >>= fun x => ifM (nmkD x.d) (.ok (fB (isiD x.d t))) stk := (rfl)
theorem evE_isx (a : E) (c : Str) : evE cl (.isx a c) ρ = evE cl a ρ >>= fun x => isxS x c := (rfl)
def lcTurn (tg : Tg) (ifs : Eo) (elt : E) (vs : List Nat) (d : D) : M (Option D) :=
  bindT tg ⟨.f, d⟩ (wipeR ρ vs) >>= fun ρ' => evC cl ifs ρ' >>= fun c => ifM c (evE cl elt ρ' >>= fun y => asF y >>= fun d => .ok (some d)) (.ok none)
theorem evE_lc (elt : E) (tg : Tg) (it : Iu) (ifs : Eo) (vs : List Nat) : evE cl (.lc elt tg it ifs vs) ρ = evI cl it ρ >>= fun xs => lcGo (lcTurn cl ρ tg ifs elt vs) xs >>= fun ys => ifM (lenOk xs.length && tgIn vs tg) (.ok ⟨.o, .list ys⟩) stk := (rfl)
theorem evE_lrg (it : Iu) : evE cl (.lrg it) ρ = evI cl it ρ >>= fun xs => ifM (lenOk xs.length && isRg it) (.ok ⟨.o, .list xs⟩) stk := (rfl)
theorem evF_nil : evF cl .nil ρ = .ok [] := (rfl)
theorem evF_cons (e : E) (es : Es) : evF cl (.cons e es) ρ = evE cl e ρ >>= fun x => asF x >>= fun d => evF cl es ρ >>= fun ds => .ok (d :: ds) := (rfl)
theorem evA_nil : evA cl .nil ρ = .ok [] := (rfl)
theorem evA_cons (e : E) (es : Es) : evA cl (.cons e es) ρ = evE cl e ρ >>= fun x => evA cl es ρ >>= fun ds => .ok (argS x :: ds) := (rfl)
def getI : D → M Int
  | .int i => .ok i
  | _ => stk
theorem getI_int (i : Int) : getI (.int i) = .ok i := (rfl)
theorem evO_none : evO cl .none ρ = .ok none := (rfl)
theorem evO_some (e : E) : evO cl (.some e) ρ = evE cl e ρ >>= fun x => getI x.d >>= fun i => .ok (some i) := by
  simp only [evO]
  cases evE cl e ρ with
  | error e => rfl
  | ok x => obtain ⟨m, d⟩ := x; cases d <;> rfl
theorem evC_none : evC cl .none ρ = .ok true := (rfl)
theorem evC_some (e : E) : evC cl (.some e) ρ = evE cl e ρ >>= fun x => asB x.d := (rfl)
theorem evI_rg1 (e : E) : evI cl (.rg1 e) ρ = evE cl e ρ >>= fun x => getI x.d >>= fun j => rngD 0 j := by
  simp only [evI]
  cases evE cl e ρ with
  | error e => rfl
  | ok x => obtain ⟨m, d⟩ := x; cases d <;> rfl
theorem evI_rg2 (a b : E) : evI cl (.rg2 a b) ρ = evE cl a ρ >>= fun x => evE cl b ρ >>= fun y => getI x.d >>= fun i => getI y.d >>= fun j => rngD i j := by
  simp only [evI]
  cases evE cl a ρ with
  | error e => rfl
  | ok x =>
    cases evE cl b ρ with
    | error e => rfl
    | ok y => obtain ⟨m, d⟩ := x; obtain ⟨m', d'⟩ := y; cases d <;> cases d' <;> rfl
theorem evI_rg3 (a b c : E) : evI cl (.rg3 a b c) ρ = evE cl a ρ >>= fun x => evE cl b ρ >>= fun y => evE cl c ρ >>= fun z => getI x.d >>= fun i => getI y.d >>= fun j => getI z.d >>= fun k => rng3D i j k := by
  simp only [evI]
  cases evE cl a ρ with
  | error e => rfl
  | ok x =>
    cases evE cl b ρ with
    | error e => rfl
    | ok y =>
      cases evE cl c ρ with
      | error e => rfl
      | ok z => obtain ⟨m, d⟩ := x; obtain ⟨m', d'⟩ := y; obtain ⟨m2, d2⟩ := z; cases d <;> cases d' <;> cases d2 <;> rfl
theorem evI_enm (e : E) : evI cl (.enm e) ρ = evE cl e ρ >>= fun x => itemsD x.d >>= fun xs => .ok (enumD xs) := (rfl)
theorem evI_rev (e : E) : evI cl (.rev e) ρ = evE cl e ρ >>= fun x => itemsD x.d >>= fun xs => .ok xs.reverse := (rfl)
theorem evI_zp (a b : E) : evI cl (.zp a b) ρ = evE cl a ρ >>= fun x => evE cl b ρ >>= fun y => pairD x.d y.d := (rfl)
theorem evI_rvr (e : E) : evI cl (.rvr e) ρ = evE cl e ρ >>= fun x => getI x.d >>= fun j => rngD 0 j >>= fun xs => .ok xs.reverse := by
  simp only [evI]
  cases evE cl e ρ with
  | error e => rfl
  | ok x => obtain ⟨m, d⟩ := x; cases d <;> rfl
theorem evE_dnw : evE cl .dnw ρ = .ok ⟨.o, .dict []⟩ := (rfl)
theorem evE_dsp1 (k v : E) : evE cl (.dsp1 k v) ρ = evE cl k ρ >>= fun x => evE cl v ρ >>= fun y => asF y >>= fun d => ifM (keyOk x.d) (.ok ⟨.o, .dict [(x.d, d)]⟩) stk := (rfl)
theorem evE_pk2 (a b c : E) : evE cl (.pk2 a b c) ρ = evE cl a ρ >>= fun x => asF x >>= fun dx => evE cl b ρ >>= fun y => asF y >>= fun dy => evE cl c ρ >>= fun z => asB z.d >>= fun k => .ok ⟨.f, if k then dy else dx⟩ := (rfl)
theorem evE_lns (a : E) : evE cl (.lns a) ρ = evE cl a ρ >>= fun x => lnsD x.d := (rfl)
theorem evE_sst (a : E) : evE cl (.sst a) ρ = evE cl a ρ >>= fun x => sstD x.d := (rfl)
theorem evE_gk (x : Str) (d : D) : evE cl (.gk x d) ρ = .ok ⟨.f, d⟩ := (rfl)
theorem evE_gdx (x : Str) (kvs : List (Str × D)) (i : E) : evE cl (.gdx x kvs i) ρ = evE cl i ρ >>= fun x => gdxD kvs x.d := (rfl)
theorem evE_dsp (ps : Ps) : evE cl (.dsp ps) ρ = evP cl ps ρ >>= fun kvs => ifM (decide (kvs.length ≤ 15)) (.ok ⟨.o, dspD kvs⟩) stk := (rfl)
theorem evP_nil : evP cl .nil ρ = .ok [] := (rfl)
theorem evP_cons (k v : E) (r : Ps) : evP cl (.cons k v r) ρ = evE cl k ρ >>= fun x => evE cl v ρ >>= fun y => asF y >>= fun d => evP cl r ρ >>= fun ds => ifM (keyOk x.d) (.ok ((x.d, d) :: ds)) stk := by
  rfl
theorem evE_glb (x : Str) (n : Nat) : evE cl (.glb x n) ρ = .ok (fI (n : Int)) := (rfl)
theorem evE_mm (mx : Bool) (a b : E) : evE cl (.mm mx a b) ρ = evE cl a ρ >>= fun x => evE cl b ρ >>= fun y => mmD mx x.d y.d := (rfl)
theorem evE_rvl (a : E) : evE cl (.rvl a) ρ = evE cl a ρ >>= fun x => rvD x.d := (rfl)
theorem evI_seq (e : E) : evI cl (.seq e) ρ = evE cl e ρ >>= fun x => seqD x.d := (rfl)
theorem evE_u1 (k : U1) (a : E) : evE cl (.u1 k a) ρ = evE cl a ρ >>= fun x => u1D k x.d := (rfl)
theorem evE_u2 (k : U2) (a b : E) : evE cl (.u2 k a b) ρ = evE cl a ρ >>= fun x => evE cl b ρ >>= fun y => u2D k x.d y.d := (rfl)
theorem evE_u3 (k : U3) (a b c : E) : evE cl (.u3 k a b c) ρ = evE cl a ρ >>= fun x => evE cl b ρ >>= fun y => evE cl c ρ >>= fun z => asF z >>= fun dz => u3D k x.d y.d dz := (rfl)
/-- a comprehension over a dict -/
def lcdV (f : D → M (Option D)) (ok : Bool) : Option (Option Sl) → M Sl
  | some (some ⟨_, .dict ds⟩) => lcGo f (ds.map (·.1)) >>= fun ys => ifM (nmk ds && lenOk ds.length && ok) (.ok ⟨.o, .list ys⟩) stk
  | _ => stk
theorem evE_lcd (elt : E) (tg : Tg) (i : Nat) (ifs : Eo) (vs : List Nat) : evE cl (.lcd elt tg i ifs vs) ρ = lcdV (lcTurn cl ρ tg ifs elt vs) (tgIn vs tg) ρ[i]? := by
  simp only [evE]
  cases ρ[i]? with
  | none => rfl
  | some o =>
    cases o with
    | none => rfl
    | some s => obtain ⟨m, d⟩ := s; cases d <;> rfl
theorem lcdV_dict (f : D → M (Option D)) (ok : Bool) (m : Md) (ds : List (D × D)) : lcdV f ok (some (some ⟨m, .dict ds⟩)) = lcGo f (ds.map (·.1)) >>= fun ys => ifM (nmk ds && lenOk ds.length && ok) (.ok ⟨.o, .list ys⟩) stk := (rfl)

def seqF (k : Rho → M Fl) : Fl → M Fl
  | .nx ρ' => k ρ'
  | r => .ok r
theorem seqF_nx (k : Rho → M Fl) (ρ : Rho) : seqF k (.nx ρ) = k ρ := (rfl)
theorem seqF_rt (k : Rho → M Fl) (s : Sl) : seqF k (.rt s) = .ok (.rt s) := (rfl)
theorem seqF_bk (k : Rho → M Fl) (s : Rho) : seqF k (.bk s) = .ok (.bk s) := (rfl)
theorem seqF_ct (k : Rho → M Fl) (s : Rho) : seqF k (.ct s) = .ok (.ct s) := (rfl)
theorem seqF_rz (k : Rho → M Fl) (c : Str) (s : Rho) : seqF k (.rz c s) = .ok (.rz c s) := (rfl)
theorem exSs_nil : exSs cl fu .nil ρ = .ok (.nx ρ) := (rfl)
theorem exSs_cons (s : S) (ss : Ss) : exSs cl fu (.cons s ss) ρ = exS cl fu s ρ >>= seqF (exSs cl fu ss) := by
  simp only [exSs]
  congr
theorem exSs_frz (i : Nat) (ss : Ss) : exSs cl fu (.frz i ss) ρ = exSs cl fu ss (frzR i ρ) := (rfl)
theorem exS_asg (t : Tg) (e : E) : exS cl fu (.asg t e) ρ = evE cl e ρ >>= fun s => bindT t s ρ >>= fun ρ' => .ok (.nx ρ') := (rfl)
def setG (x : Nat) (ds : List D) (v : D) (j : D) : M Fl := match j with
  | .int k => match ixN ds.length k with
    | some n => .ok (.nx (ρ.set x (some ⟨.o, .list (ds.set n v)⟩)))
    | none => stk
  | _ => stk
theorem exS_setix (x : Nat) (i e : E) : exS cl fu (.setix x i e) ρ = evE cl e ρ >>= fun s => asF s >>= fun v => evE cl i ρ >>= fun j => setO x ρ v j.d := (rfl)
theorem exS_app (x : Nat) (e : E) : exS cl fu (.app x e) ρ = evE cl e ρ >>= fun s => asF s >>= fun v => ownL x ρ >>= fun ds => ifM (lenOk (ds.length + 1)) (.ok (.nx (ρ.set x (some ⟨.o, .list (ds ++ [v])⟩)))) stk := (rfl)
def extG (x : Nat) (ds : List D) (m : Md) (d : D) : M Fl := match d with
  | .list vs => ifM (lenOk (ds.length + vs.length) && !isF m) (.ok (.nx (ρ.set x (some ⟨.o, .list (ds ++ vs)⟩)))) stk
  | _ => stk
theorem exS_ext (x : Nat) (e : E) : exS cl fu (.ext x e) ρ = evE cl e ρ >>= fun s => ownL x ρ >>= fun ds => extG ρ x ds s.m s.d := by
  first | rfl | (simp only [exS]; done) | (simp only [exS]; rfl)
theorem exS_exp (e : E) : exS cl fu (.exp e) ρ = evE cl e ρ >>= fun _ => .ok (.nx ρ) := (rfl)
theorem exS_ret (e : E) : exS cl fu (.ret e) ρ = evE cl e ρ >>= fun s => retS e ρ s >>= fun r => .ok (.rt r) := (rfl)
theorem exS_retN : exS cl fu .retN ρ = .ok (.rt ⟨.f, .none⟩) := (rfl)
theorem exS_ite (c : E) (a b : Ss) : exS cl fu (.ite c a b) ρ = evE cl c ρ >>= fun x => asB x.d >>= fun k => ifM k (exSs cl fu a ρ) (exSs cl fu b ρ) := (rfl)
theorem exS_for (t : Tg) (it : Iu) (b : Ss) : exS cl fu (.for_ t it b) ρ = evI cl it ρ >>= fun xs => ifM (notP cl it ρ) (forGo (fun d ρ => bindT t ⟨.f, d⟩ ρ) (exSs cl fu b) xs ρ) stk := (rfl)
theorem exS_whl (c : E) (b : Ss) : exS cl fu (.whl c b) ρ = whlGo (fun ρ => evE cl c ρ >>= fun x => asB x.d) (exSs cl fu b) fu ρ := (rfl)
theorem exS_rse (c : Str) : exS cl fu (.rse c) ρ = .ok (.rz c ρ) := (rfl)
theorem evE_ixs (a : E) (cs : List Str) : evE cl (.ixs a cs) ρ = evE cl a ρ >>= fun x => ixsS x cs := (rfl)
theorem exS_cst (k : Ck) (f : Str) (es : Es) : exS cl fu (.cst k f es) ρ = evA cl es ρ >>= fun ss => ckG k ρ (cl f ss) := (rfl)
def tryG (hs : Hs) : Fl → M Fl
  | .rz c ρ' => exHs cl fu c hs ρ'
  | r => .ok r
theorem exS_tr (b : Ss) (hs : Hs) : exS cl fu (.tr b hs) ρ = exSs cl fu b ρ >>= tryG cl fu hs := by
  simp only [exS]
  congr
theorem tryG_nx (hs : Hs) (ρ : Rho) : tryG cl fu hs (.nx ρ) = .ok (.nx ρ) := (rfl)
theorem tryG_rt (hs : Hs) (s : Sl) : tryG cl fu hs (.rt s) = .ok (.rt s) := (rfl)
theorem tryG_rz (hs : Hs) (c : Str) (ρ : Rho) : tryG cl fu hs (.rz c ρ) = exHs cl fu c hs ρ := (rfl)
theorem exHs_nil (c : Str) : exHs cl fu c .nil ρ = .ok (.rz c ρ) := (rfl)
theorem exHs_cons (c : Str) (cs : List Str) (nm : Option Nat) (b : Ss) (r : Hs) : exHs cl fu c (.cons cs nm b r) ρ = ifM (cs.all xall.contains) (ifM (cs.any (xsub c)) (exSs cl fu b (nmS nm c ρ) >>= nmF nm) (exHs cl fu c r ρ)) stk := (rfl)
theorem nmS_none (c : Str) : nmS none c ρ = ρ := (rfl)
theorem nmS_some (i : Nat) (c : Str) : nmS (some i) c ρ = ρ.set i (some ⟨.f, xcD c⟩) := (rfl)
theorem nmF_nxN : nmF none (.nx ρ) = .ok (.nx ρ) := (rfl)
theorem nmF_nxS (i : Nat) : nmF (some i) (.nx ρ) = .ok (.nx (ρ.set i none)) := (rfl)
theorem nmF_rt (nm : Option Nat) (s : Sl) : nmF nm (.rt s) = .ok (.rt s) := (rfl)
theorem ckG_asg (t : Tg) (s : Sl) : ckG (.asg t) ρ (.ok s) = bindT t s ρ >>= fun ρ' => .ok (.nx ρ') := (rfl)
theorem ckG_ret (s : Sl) : ckG .ret ρ (.ok s) = retS .non ρ s >>= fun r => .ok (.rt r) := (rfl)
theorem ckG_exp (s : Sl) : ckG .exp ρ (.ok s) = .ok (.nx ρ) := (rfl)
theorem ckG_rz (k : Ck) (c : Str) : ckG k ρ (.error (.raised c)) = .ok (.rz c ρ) := by
  cases k <;> rfl
theorem exS_brk : exS cl fu .brk ρ = .ok (.bk ρ) := (rfl)
theorem exS_cont : exS cl fu .cont ρ = .ok (.ct ρ) := (rfl)
theorem exS_pass : exS cl fu .pass ρ = .ok (.nx ρ) := (rfl)
end
def fin : M Fl → M Sl
  | .ok (.rt s) => .ok s
  | .ok (.nx _) => .ok ⟨.f, .none⟩
  | .ok (.rz c _) => .error (.raised c)
  | .ok _ => stk
  | .error _ => stk
theorem md_fo : decide (Md.f = Md.o) = false := rfl
theorem md_po : decide (Md.p = Md.o) = false := rfl
theorem fin_rz (c : Str) (s : Rho) : fin (.ok (.rz c s)) = .error (.raised c) := (rfl)
theorem fin_rt (s : Sl) : fin (.ok (.rt s)) = .ok s := (rfl)
theorem fin_nx (s : Rho) : fin (.ok (.nx s)) = .ok ⟨.f, .none⟩ := (rfl)
theorem runB_eq (cl : Str → List Sl → M Sl) (fu : Nat) (N ps : List Str) (b : Ss) (ss : List Sl) : runB cl fu ⟨N, ps, b⟩ ss = ifM (decide (ss.length = ps.length)) (fin (exSs cl fu b (startR N.length ss))) stk := by
  simp only [runB, ifM, decide_eq_true_eq]
  split
  · split <;> simp_all [fin]
  · rfl
/-! small steps -/
theorem bindT_nm (i : Nat) (d : D) (ρ : Rho) : bindT (.nm i) ⟨.f, d⟩ ρ = .ok (ρ.set i (some ⟨.f, d⟩)) := (rfl)
theorem bindT_nmo (i : Nat) (d : D) (ρ : Rho) : bindT (.nm i) ⟨.o, d⟩ ρ = .ok (ρ.set i (some ⟨.o, d⟩)) := (rfl)
theorem bindT_nI (i : Nat) (d : Int) (ρ : Rho) : bindT (.nm i) (fI d) ρ = .ok (ρ.set i (some (fI d))) := (rfl)
theorem bindT_nB (i : Nat) (d : Bool) (ρ : Rho) : bindT (.nm i) (fB d) ρ = .ok (ρ.set i (some (fB d))) := (rfl)
theorem bindT_tp2 (i j : Nat) (m : Md) (a b : D) (ρ : Rho) : bindT (.tp [i, j]) ⟨m, .tuple [a, b]⟩ ρ = .ok ((ρ.set i (some ⟨.f, a⟩)).set j (some ⟨.f, b⟩)) := (rfl)
theorem bindT_tl5 (i j k l n : Nat) (m : Md) (a b c d f : D) (ρ : Rho) : bindT (.tp [i, j, k, l, n]) ⟨m, .list [a, b, c, d, f]⟩ ρ = .ok (((((ρ.set i (some ⟨.f, a⟩)).set j (some ⟨.f, b⟩)).set k (some ⟨.f, c⟩)).set l (some ⟨.f, d⟩)).set n (some ⟨.f, f⟩)) := (rfl)
theorem bindT_tp3 (i j k : Nat) (m : Md) (a b c : D) (ρ : Rho) : bindT (.tp [i, j, k]) ⟨m, .tuple [a, b, c]⟩ ρ = .ok (((ρ.set i (some ⟨.f, a⟩)).set j (some ⟨.f, b⟩)).set k (some ⟨.f, c⟩)) := (rfl)
theorem fI_d (i : Int) : (fI i).d = .int i := (rfl)
theorem fB_d (i : Bool) : (fB i).d = .bool i := (rfl)
theorem fI_m (i : Int) : (fI i).m = .f := (rfl)
theorem fB_m (i : Bool) : (fB i).m = .f := (rfl)
theorem fI_eq (i : Int) : (⟨.f, .int i⟩ : Sl) = fI i := (rfl)
theorem asF_f (d : D) : asF ⟨.f, d⟩ = .ok d := (rfl)
theorem asF_o (d : D) : asF ⟨.o, d⟩ = .ok d := (rfl)
theorem asF_fI (d : Int) : asF (fI d) = .ok (.int d) := (rfl)
theorem asF_fB (d : Bool) : asF (fB d) = .ok (.bool d) := (rfl)
theorem asB_b (b : Bool) : asB (.bool b) = .ok b := (rfl)
theorem argS_f (d : D) : argS ⟨.f, d⟩ = ⟨.f, d⟩ := (rfl)
theorem argS_o (d : D) : argS ⟨.o, d⟩ = ⟨.f, d⟩ := (rfl)
theorem argS_p (d : D) : argS ⟨.p, d⟩ = ⟨.p, d⟩ := (rfl)
theorem argS_v (m : Md) (d : D) : argS ⟨vm m, d⟩ = ⟨vm m, d⟩ := by cases m <;> rfl
theorem argS_fI (d : Int) : argS (fI d) = fI d := (rfl)
theorem argS_fB (d : Bool) : argS (fB d) = fB d := (rfl)
theorem retS_f (e : E) (ρ : Rho) (d : D) : retS e ρ ⟨.f, d⟩ = .ok ⟨.f, d⟩ := (rfl)
theorem retS_o (e : E) (ρ : Rho) (d : D) : retS e ρ ⟨.o, d⟩ = .ok ⟨.o, d⟩ := (rfl)
theorem retS_fI (e : E) (ρ : Rho) (d : Int) : retS e ρ (fI d) = .ok (fI d) := (rfl)
theorem retS_fB (e : E) (ρ : Rho) (d : Bool) : retS e ρ (fB d) = .ok (fB d) := (rfl)
def retP (d : D) : Option (Option Sl) → M Sl
  | some (some ⟨.o, _⟩) => ifM (nmkD d) (.ok ⟨.o, d⟩) stk
  | _ => stk
theorem retP_o (d d' : D) : retP d (some (some ⟨.o, d'⟩)) = ifM (nmkD d) (.ok ⟨.o, d⟩) stk := (rfl)
theorem retS_p (i : Nat) (ρ : Rho) (d : D) : retS (.var i) ρ ⟨.p, d⟩ = retP d ρ[i]? := by
  simp only [retS]
  cases ρ[i]? with
  | none => rfl
  | some o =>
    cases o with
    | none => rfl
    | some s => obtain ⟨m, d⟩ := s; cases m <;> rfl
def ownG : Option (Option Sl) → M (List D)
  | some (some ⟨.o, .list ds⟩) => .ok ds
  | _ => stk
theorem ownG_o (ds : List D) : ownG (some (some ⟨.o, .list ds⟩)) = .ok ds := (rfl)
theorem ownL_eq (x : Nat) (ρ : Rho) : ownL x ρ = ownG ρ[x]? := by
  simp only [ownL]
  cases ρ[x]? with
  | none => rfl
  | some o =>
    cases o with
    | none => rfl
    | some s => obtain ⟨m, d⟩ := s; cases m <;> cases d <;> rfl
def frzB (b : Bool) (ρ' ρ : Rho) : Rho := if b then ρ' else ρ
theorem frzB_t (ρ' ρ : Rho) : frzB true ρ' ρ = ρ' := (rfl)
theorem nmkD_list (xs : List D) : nmkD (.list xs) = true := (rfl)
theorem nmkD_tuple (xs : List D) : nmkD (.tuple xs) = true := (rfl)
theorem nmkD_int (i : Int) : nmkD (.int i) = true := (rfl)
theorem nmkD_bool (i : Bool) : nmkD (.bool i) = true := (rfl)
theorem nmkD_dict (ds : List (D × D)) : nmkD (.dict ds) = nmk ds := (rfl)
theorem nmk_nil : nmk [] = true := (rfl)
theorem nmk_int (i : Int) (v : D) (ds : List (D × D)) : nmk ((.int i, v) :: ds) = true := (rfl)
theorem nmk_str (i : Str) (v : D) (ds : List (D × D)) : nmk ((.str i, v) :: ds) = true := (rfl)
def frzG (i : Nat) (ρ : Rho) : Option (Option Sl) → Rho
  | some (some ⟨.o, d⟩) => frzB (nmkD d) (ρ.set i (some ⟨.f, d⟩)) ρ
  | _ => ρ
theorem frzG_o (i : Nat) (ρ : Rho) (d : D) : frzG i ρ (some (some ⟨.o, d⟩)) = frzB (nmkD d) (ρ.set i (some ⟨.f, d⟩)) ρ := (rfl)
theorem frzG_f (i : Nat) (ρ : Rho) (d : D) : frzG i ρ (some (some ⟨.f, d⟩)) = ρ := (rfl)
theorem frzG_fI (i : Nat) (ρ : Rho) (d : Int) : frzG i ρ (some (some (fI d))) = ρ := (rfl)
theorem frzG_fB (i : Nat) (ρ : Rho) (d : Bool) : frzG i ρ (some (some (fB d))) = ρ := (rfl)
theorem frzR_eq (i : Nat) (ρ : Rho) : frzR i ρ = frzG i ρ ρ[i]? := by
  simp only [frzR]
  cases ρ[i]? with
  | none => rfl
  | some o =>
    cases o with
    | none => rfl
    | some s => obtain ⟨m, d⟩ := s; cases m <;> rfl
theorem extG_list (ρ : Rho) (x : Nat) (ds vs : List D) (m : Md) : extG ρ x ds m (.list vs) = ifM (lenOk (ds.length + vs.length) && !isF m) (.ok (.nx (ρ.set x (some ⟨.o, .list (ds ++ vs)⟩)))) stk := (rfl)
theorem isF_f : isF .f = true := (rfl)
theorem isF_o : isF .o = false := (rfl)
theorem isF_p : isF .p = false := (rfl)
theorem binop_int (op : Operator) (m : Md) (i j : Int) : binop op m (.int i) (.int j) = binI op i j := (rfl)
theorem binI_add (i j : Int) : binI .Add i j = .ok (fI (i + j)) := (rfl)
theorem binI_sub (i j : Int) : binI .Sub i j = .ok (fI (i - j)) := (rfl)
theorem binI_mul (i j : Int) : binI .Mult i j = ckI (mulOk i j) (i * j) := (rfl)
theorem binI_div (i j : Int) : binI .FloorDiv i j = ckI (decide (0 < j) && decide (j < 1073741824)) (i / j) := (rfl)
theorem binI_mod (i j : Int) : binI .Mod i j = ckI (decide (0 < j)) (i % j) := (rfl)
theorem binI_pow (i j : Int) : binI .Pow i j = ckI (powOk i j) (i ^ j.toNat) := (rfl)
theorem binI_shl (i j : Int) : binI .LShift i j = ckI (powOk i j) (i * 2 ^ j.toNat) := (rfl)
theorem binI_shr (i j : Int) : binI .RShift i j = ckI (decide (0 ≤ j)) (i / 2 ^ j.toNat) := (rfl)
theorem binI_and (i j : Int) : binI .BitAnd i j = .ok (fI (Builtin.bitAnd i j)) := (rfl)
theorem binI_or (i j : Int) : binI .BitOr i j = .ok (fI (Builtin.bitOr i j)) := (rfl)
theorem binI_xor (i j : Int) : binI .BitXor i j = .ok (fI (Builtin.bitXor i j)) := (rfl)
theorem binop_cat (m : Md) (xs ys : List D) : binop .Add m (.list xs) (.list ys) = ckO (lenOk (xs.length + ys.length)) (xs ++ ys) := (rfl)
theorem binop_rep (m : Md) (xs : List D) (k : Int) : binop .Mult m (.list xs) (.int k) = ckO (repOk xs.length k && !isF m) (List.replicate k.toNat xs).flatten := (rfl)
theorem ckI_t (i : Int) : ckI true i = .ok (fI i) := (rfl)
theorem ckO_t (i : List D) : ckO true i = .ok ⟨.o, .list i⟩ := (rfl)
theorem unop_neg (i : Int) : unop false (.int i) = .ok (fI (-i)) := (rfl)
theorem unop_inv (i : Int) : unop true (.int i) = .ok (fI (Builtin.bitNot i)) := (rfl)
theorem deq_int (i j : Int) : deq (.int i) (.int j) = .ok (i == j) := by
  have h : ∀ k : Int, SeqAt.shaped (.int k) = true := fun k => rfl
  simp only [deq, h, PyData.eqv, Bool.and_self, if_true]
theorem cmpop_eq (x y : D) : cmpop .Eq x y = deq x y := (rfl)
theorem cmpop_ne (x y : D) : cmpop .NotEq x y = deq x y >>= fun b => .ok (!b) := by
  simp only [cmpop]
  cases deq x y <;> rfl
theorem cmpop_lt (i j : Int) : cmpop .Lt (.int i) (.int j) = .ok (decide (i < j)) := (rfl)
theorem cmpop_le (i j : Int) : cmpop .LtE (.int i) (.int j) = .ok (decide (i ≤ j)) := (rfl)
theorem cmpop_gt (i j : Int) : cmpop .Gt (.int i) (.int j) = .ok (decide (j < i)) := (rfl)
theorem cmpop_ge (i j : Int) : cmpop .GtE (.int i) (.int j) = .ok (decide (j ≤ i)) := (rfl)
def optS : Option D → M Sl
  | some d => .ok ⟨.f, d⟩
  | none => stk
theorem optS_some (d : D) : optS (some d) = .ok ⟨.f, d⟩ := (rfl)
theorem ixD_list (xs : List D) (i : Int) : ixD (.list xs) (.int i) = optS (atI xs i) := by
  simp only [ixD]
  cases atI xs i <;> rfl
theorem ixD_tup (xs : List D) (i : Int) : ixD (.tuple xs) (.int i) = optS (atI xs i) := by
  simp only [ixD]
  cases atI xs i <;> rfl
theorem slD_list (xs : List D) (lo hi : Option Int) : slD (.list xs) lo hi = .ok ⟨.o, .list (cutD xs lo hi)⟩ := (rfl)
theorem b1D_len (xs : List D) : b1D .len (.list xs) = .ok (fI xs.length) := (rfl)
theorem b1D_lenT (xs : List D) : b1D .len (.tuple xs) = .ok (fI xs.length) := (rfl)
theorem b1D_lenD (ds : List (D × D)) (h : nmk ds = true) : b1D .len (.dict ds) = .ok (fI ds.length) := by
  show (if nmk ds then _ else _) = _
  rw [h]; rfl
theorem b1D_list (xs : List D) : b1D .list (.list xs) = .ok ⟨.o, .list xs⟩ := (rfl)
theorem b1D_listT (xs : List D) : b1D .list (.tuple xs) = .ok ⟨.o, .list xs⟩ := (rfl)
theorem b1D_tup (xs : List D) : b1D .tuple (.list xs) = .ok ⟨.f, .tuple xs⟩ := (rfl)
theorem b1D_tupT (xs : List D) : b1D .tuple (.tuple xs) = .ok ⟨.f, .tuple xs⟩ := (rfl)
theorem b1D_int (i : Int) : b1D .int (.int i) = .ok (fI i) := (rfl)
theorem b1D_intB (i : Bool) : b1D .int (.bool i) = .ok (fI (if i then 1 else 0)) := (rfl)
def sumS : Option (List Int) → M Sl
  | some ns => .ok (fI ns.sum)
  | none => stk
theorem b1D_sum (xs : List D) : b1D .sum (.list xs) = sumS (intsD xs) := by
  simp only [b1D]
  cases intsD xs <;> rfl
theorem sumS_some (ns : List Int) : sumS (some ns) = .ok (fI ns.sum) := (rfl)
def allS (f : List Bool → Bool) : Option (List Bool) → M Sl
  | some ns => .ok (fB (f ns))
  | none => stk
theorem allS_some (f : List Bool → Bool) (ns : List Bool) : allS f (some ns) = .ok (fB (f ns)) := (rfl)
theorem b1D_all (xs : List D) : b1D .all (.list xs) = allS (fun bs => bs.all id) (boolsD xs) := by
  simp only [b1D]
  cases boolsD xs <;> rfl
theorem b1D_any (xs : List D) : b1D .any (.list xs) = allS (fun bs => bs.any id) (boolsD xs) := by
  simp only [b1D]
  cases boolsD xs <;> rfl
theorem intsD_map {α : Type} (f : α → Int) : ∀ xs : List α, intsD (xs.map fun x => PyData.int (f x)) = some (xs.map f)
  | [] => rfl
  | x :: xs => by simp only [List.map_cons, intsD, intsD_map f xs, Option.map_some]
theorem boolsD_map {α : Type} (f : α → Bool) : ∀ xs : List α, boolsD (xs.map fun x => PyData.bool (f x)) = some (xs.map f)
  | [] => rfl
  | x :: xs => by simp only [List.map_cons, boolsD, boolsD_map f xs, Option.map_some]
theorem seqD_list (xs : List D) : seqD (.list xs) = .ok xs := (rfl)
theorem seqD_tup (xs : List D) : seqD (.tuple xs) = .ok xs := (rfl)
theorem seqD_str (z : Str) : seqD (.str z) = .ok (z.cps.toList.map fun c => .str ⟨#[c]⟩) := (rfl)
theorem itemsD_list (xs : List D) : itemsD (.list xs) = .ok xs := (rfl)
theorem itemsD_tup (xs : List D) : itemsD (.tuple xs) = .ok xs := (rfl)
theorem rngD_nat {n : Nat} (h : n < 2 ^ 62) : rngD 0 (n : Int) = .ok ((List.range n).map fun k => .int (k : Nat)) := by
  have e : ((n : Int) - 0).toNat = n := by omega
  unfold rngD
  rw [if_pos]
  · rw [e]
    congr
    funext k
    rw [Int.zero_add]
  · simp only [Bool.and_eq_true, decide_eq_true_eq]
    omega
theorem rngD_nat2 {a b : Nat} (h : a < 2 ^ 62) (h2 : b < 2 ^ 62) : rngD (a : Int) (b : Int) = .ok ((List.range (b - a)).map fun k => .int ((a + k : Nat) : Int)) := by
  have e : ((b : Int) - a).toNat = b - a := by omega
  unfold rngD
  rw [if_pos]
  · rw [e]
    rfl
  · simp only [Bool.and_eq_true, decide_eq_true_eq]
    omega
def notPm : Md → Bool
  | .p => false
  | _ => true
theorem notP_rg1 (cl : Str → List Sl → M Sl) (a : E) (ρ : Rho) : notP cl (.rg1 a) ρ = true := (rfl)
theorem notP_rg2 (cl : Str → List Sl → M Sl) (a b : E) (ρ : Rho) : notP cl (.rg2 a b) ρ = true := (rfl)
def notPs : M Sl → Bool
  | .ok ⟨.p, _⟩ => false
  | _ => true
theorem notPs_f (d : D) : notPs (.ok ⟨.f, d⟩) = true := (rfl)
theorem notPs_o (d : D) : notPs (.ok ⟨.o, d⟩) = true := (rfl)
def lentS : E → Rho → Option (Option Sl) → Bool
  | .var _, _, some (some ⟨.p, _⟩) => true
  | _, _, _ => false
theorem npE_old (cl : Str → List Sl → M Sl) (a : E) (ρ : Rho) : npE cl a ρ = (lentE a ρ || notPs (evE cl a ρ)) := by
  unfold npE
  congr 1
theorem lentE_call (f : Str) (es : Es) (ρ : Rho) : lentE (.call f es) ρ = false := (rfl)
theorem lentE_lst (es : Es) (ρ : Rho) : lentE (.lst es) ρ = false := (rfl)
theorem lentE_tup (es : Es) (ρ : Rho) : lentE (.tup es) ρ = false := (rfl)
theorem lentE_ix (a b : E) (ρ : Rho) : lentE (.ix a b) ρ = false := (rfl)
theorem lentE_sl (a : E) (b c : Eo) (ρ : Rho) : lentE (.sl a b c) ρ = false := (rfl)
theorem lentE_bin (o : Operator) (a b : E) (ρ : Rho) : lentE (.bin o a b) ρ = false := (rfl)
theorem lentE_b1 (o : B1) (a : E) (ρ : Rho) : lentE (.b1 o a) ρ = false := (rfl)
theorem lentE_lc (a : E) (t : Tg) (i : Iu) (o : Eo) (vs : List Nat) (ρ : Rho) : lentE (.lc a t i o vs) ρ = false := (rfl)
theorem lentE_lrg (i : Iu) (ρ : Rho) : lentE (.lrg i) ρ = false := (rfl)
theorem lentE_sst (a : E) (ρ : Rho) : lentE (.sst a) ρ = false := (rfl)
theorem lentE_gk (x : Str) (d : D) (ρ : Rho) : lentE (.gk x d) ρ = false := (rfl)
theorem lentE_gdx (x : Str) (kvs : List (Str × D)) (a : E) (ρ : Rho) : lentE (.gdx x kvs a) ρ = false := (rfl)
theorem lentE_dsp (p : Ps) (ρ : Rho) : lentE (.dsp p) ρ = false := (rfl)
theorem lentE_rvl (i : E) (ρ : Rho) : lentE (.rvl i) ρ = false := (rfl)
def lentO : Option (Option Sl) → Bool
  | some (some ⟨.p, _⟩) => true
  | _ => false
theorem lentE_var (i : Nat) (ρ : Rho) : lentE (.var i) ρ = lentO ρ[i]? := by
  simp only [lentE]
  cases ρ[i]? with
  | none => rfl
  | some o =>
    cases o with
    | none => rfl
    | some s => obtain ⟨m, d⟩ := s; cases m <;> rfl
theorem lentO_p (d : D) : lentO (some (some ⟨.p, d⟩)) = true := (rfl)
theorem lentO_f (d : D) : lentO (some (some ⟨.f, d⟩)) = false := (rfl)
theorem lentO_o (d : D) : lentO (some (some ⟨.o, d⟩)) = false := (rfl)
theorem notPs_vm (m : Md) (d : D) : (lentO (some (some ⟨m, d⟩)) || notPs (.ok ⟨vm m, d⟩)) = !(decide (m = .o)) := by cases m <;> rfl
theorem notP_seq (cl : Str → List Sl → M Sl) (a : E) (ρ : Rho) : notP cl (.seq a) ρ = (lentE a ρ || notPs (evE cl a ρ)) := npE_old cl a ρ
/-- a comprehension, item by item -/
theorem lcGo_map {α : Type} (g : α → D) (h : α → D) {f : D → M (Option D)} : ∀ (xs : List α), (∀ x ∈ xs, f (g x) = .ok (some (h x))) → lcGo f (xs.map g) = .ok (xs.map h)
  | [], _ => rfl
  | x :: xs, H => by
    simp only [List.map_cons, lcGo, H x List.mem_cons_self, lcGo_map g h xs fun y hy => H y (List.mem_cons_of_mem _ hy)]
    rfl
theorem lcGo_filter {α : Type} (g : α → D) (h : α → D) (p : α → Bool) {f : D → M (Option D)} : ∀ (xs : List α), (∀ x ∈ xs, f (g x) = .ok (if p x then some (h x) else none)) → lcGo f (xs.map g) = .ok ((xs.filter p).map h)
  | [], _ => rfl
  | x :: xs, H => by
    simp only [List.map_cons, lcGo, H x List.mem_cons_self, lcGo_filter g h p xs fun y hy => H y (List.mem_cons_of_mem _ hy)]
    cases hp : p x <;> simp [hp, ok_bind, pure_M]
/-- loops by an invariant -/
theorem forGo_inv {B : D → Rho → M Rho} {C : Rho → M Fl} (P : Nat → Rho → Prop) : ∀ (xs : List D) (ρ : Rho), P 0 ρ → (∀ i x ρ, xs[i]? = some x → P i ρ → ∃ ρ1 ρ2, B x ρ = .ok ρ1 ∧ C ρ1 = .ok (.nx ρ2) ∧ P (i + 1) ρ2) → ∃ ρ', forGo B C xs ρ = .ok (.nx ρ') ∧ P xs.length ρ' := by
  intro xs
  have aux : ∀ (l : List D) (n : Nat) (ρ : Rho), P n ρ → (∀ i x ρ, l[i]? = some x → P (n + i) ρ → ∃ ρ1 ρ2, B x ρ = .ok ρ1 ∧ C ρ1 = .ok (.nx ρ2) ∧ P (n + i + 1) ρ2) → ∃ ρ', forGo B C l ρ = .ok (.nx ρ') ∧ P (n + l.length) ρ' := by
    intro l
    induction l with
    | nil => intro n ρ h _; exact ⟨ρ, rfl, h⟩
    | cons x l ih =>
      intro n ρ h hs
      obtain ⟨ρ1, ρ2, e1, e2, h2⟩ := hs 0 x ρ rfl h
      obtain ⟨ρ', e3, h3⟩ := ih (n + 1) ρ2 h2 fun i y ρ hy hp => by
        have := hs (i + 1) y ρ (by simpa using hy)
        rw [show n + (i + 1) = n + 1 + i from by omega] at this
        exact this hp
      refine ⟨ρ', ?_, ?_⟩
      · simp only [forGo, e1, e2, ok_bind, e3]
      · rw [List.length_cons, show n + (l.length + 1) = n + 1 + l.length from by omega]
        exact h3
  intro ρ h0 hs
  have := aux xs 0 ρ h0 fun i x ρ hx hp => by
    have := hs i x ρ hx
    rw [Nat.zero_add] at hp ⊢
    exact this hp
  rw [Nat.zero_add] at this
  exact this
/-- a block runs through to a state -/
def NX (m : M Fl) (Q : Rho → Prop) : Prop := ∃ ρ, m = .ok (.nx ρ) ∧ Q ρ
theorem nx_ok {ρ : Rho} {Q : Rho → Prop} (h : Q ρ) : NX (.ok (.nx ρ)) Q := ⟨ρ, rfl, h⟩
theorem forGo_nx {B : D → Rho → M Rho} {C : Rho → M Fl} (P : Nat → Rho → Prop) {xs : List D} {ρ : Rho} (h0 : P 0 ρ) (hs : ∀ i x ρ, xs[i]? = some x → P i ρ → NX (B x ρ >>= C) (P (i + 1))) : NX (forGo B C xs ρ) (P xs.length) := by
  refine forGo_inv P xs ρ h0 fun i x ρ hx hp => ?_
  obtain ⟨ρ2, e, q⟩ := hs i x ρ hx hp
  obtain ⟨ρ1, e1, e2⟩ := bind_ok e
  exact ⟨ρ1, ρ2, e1, e2, q⟩
/-- .. where the goal is the end of a def -/
theorem for_fin {B : D → Rho → M Rho} {C : Rho → M Fl} {xs : List D} {ρ : Rho} {k : Fl → M Fl} {r : M Sl} (P : Nat → Rho → Prop) (h0 : P 0 ρ)
    (hs : ∀ i x ρ, xs[i]? = some x → P i ρ → NX (B x ρ >>= C) (P (i + 1))) (hk : ∀ ρ', P xs.length ρ' → fin (k (.nx ρ')) = r) : fin (forGo B C xs ρ >>= k) = r := by
  obtain ⟨ρ', e, h⟩ := forGo_nx P h0 hs
  rw [e]
  exact hk ρ' h
/-- .. within a block -/
theorem for_nx {B : D → Rho → M Rho} {C : Rho → M Fl} {xs : List D} {ρ : Rho} {k : Fl → M Fl} {Q : Rho → Prop} (P : Nat → Rho → Prop) (h0 : P 0 ρ)
    (hs : ∀ i x ρ, xs[i]? = some x → P i ρ → NX (B x ρ >>= C) (P (i + 1))) (hk : ∀ ρ', P xs.length ρ' → NX (k (.nx ρ')) Q) : NX (forGo B C xs ρ >>= k) Q := by
  obtain ⟨ρ', e, h⟩ := forGo_nx P h0 hs
  rw [e]
  exact hk ρ' h
/-- whiles: a measure falls -/
theorem whlGo_nx {T : Rho → M Bool} {C : Rho → M Fl} (P : Rho → Prop) (μ : Rho → Nat) (Q : Rho → Prop) (ht : ∀ ρ, P ρ → (T ρ = .ok false ∧ Q ρ) ∨ (T ρ = .ok true ∧ NX (C ρ) fun ρ' => P ρ' ∧ μ ρ' < μ ρ)) : ∀ (n : Nat) (ρ : Rho), P ρ → μ ρ < n → NX (whlGo T C n ρ) Q
  | 0, _, _, h => absurd h (Nat.not_lt_zero _)
  | n + 1, ρ, h, hn => by
    rcases ht ρ h with ⟨e, q⟩ | ⟨e, ρ', e2, h2, hm⟩
    · exact ⟨ρ, by simp only [whlGo, e, ok_bind]; rfl, q⟩
    · obtain ⟨ρ2, e3, q⟩ := whlGo_nx P μ Q ht n ρ' h2 (by omega)
      exact ⟨ρ2, by simp only [whlGo, e, ok_bind, e2, if_pos, e3], q⟩
theorem whl_fin {T : Rho → M Bool} {C : Rho → M Fl} {n : Nat} {ρ : Rho} {k : Fl → M Fl} {r : M Sl} (P : Rho → Prop) (μ : Rho → Nat) (Q : Rho → Prop) (h0 : P ρ) (hn : μ ρ < n)
    (ht : ∀ ρ, P ρ → (T ρ = .ok false ∧ Q ρ) ∨ (T ρ = .ok true ∧ NX (C ρ) fun ρ' => P ρ' ∧ μ ρ' < μ ρ)) (hk : ∀ ρ', Q ρ' → fin (k (.nx ρ')) = r) : fin (whlGo T C n ρ >>= k) = r := by
  obtain ⟨ρ', e, h⟩ := whlGo_nx P μ Q ht n ρ h0 hn
  rw [e]
  exact hk ρ' h
theorem whl_nx {T : Rho → M Bool} {C : Rho → M Fl} {n : Nat} {ρ : Rho} {k : Fl → M Fl} {R : Rho → Prop} (P : Rho → Prop) (μ : Rho → Nat) (Q : Rho → Prop) (h0 : P ρ) (hn : μ ρ < n)
    (ht : ∀ ρ, P ρ → (T ρ = .ok false ∧ Q ρ) ∨ (T ρ = .ok true ∧ NX (C ρ) fun ρ' => P ρ' ∧ μ ρ' < μ ρ)) (hk : ∀ ρ', Q ρ' → NX (k (.nx ρ')) R) : NX (whlGo T C n ρ >>= k) R := by
  obtain ⟨ρ', e, h⟩ := whlGo_nx P μ Q ht n ρ h0 hn
  rw [e]
  exact hk ρ' h
theorem lenOk_of {n : Nat} (h : n ≤ 16777216) : lenOk n = true := decide_eq_true h
theorem powOk_of {i j : Int} (h1 : 0 ≤ j) (h2 : j ≤ 1000000) (h3 : i.natAbs < 2 ^ 64) : powOk i j = true := by
  unfold powOk
  simp only [Bool.and_eq_true, decide_eq_true_eq]
  exact ⟨⟨h1, h2⟩, h3⟩
theorem mulOk_of {i j : Int} (h1 : -(2 ^ 64) < i) (h2 : i < 2 ^ 64) : mulOk i j = true := by
  unfold mulOk
  simp only [Bool.or_eq_true, Bool.and_eq_true, decide_eq_true_eq]
  exact .inl ⟨h1, h2⟩
theorem atI_ofNat {xs : List D} {i : Nat} {d : D} (h : xs[i]? = some d) : atI xs (i : Int) = some d := atI_nat h
/-- ints as they are -/
def nI (n : Nat) : Sl := fI (n : Int)
theorem bitAnd_one (n : Nat) : Builtin.bitAnd (n : Int) 1 = ((n % 2 : Nat) : Int) := by
  have : Builtin.bitAnd (n : Int) ((1 : Nat) : Int) = ((n &&& 1 : Nat) : Int) := (rfl)
  rw [show (1 : Int) = ((1 : Nat) : Int) from rfl, this, Nat.and_one_is_mod]
end GK
namespace GK
open PySem PySem.Spec PyProof.Rows L2
/-! whole numbers from 0 on -/
def nD (n : Nat) : D := .int (n : Int)
theorem nD_eq (n : Nat) : PyData.int (n : Int) = nD n := (rfl)
theorem rdV_nD (m : Md) (n : Nat) : rdV (some (some ⟨m, nD n⟩)) = .ok ⟨vm m, nD n⟩ := (rfl)
theorem binI_add_nat (a b : Nat) : binI .Add (a : Int) (b : Int) = .ok (fI ((a + b : Nat) : Int)) := (rfl)
theorem binI_sub_nat {a b : Nat} (h : b ≤ a) : binI .Sub (a : Int) (b : Int) = .ok (fI ((a - b : Nat) : Int)) := by
  rw [binI_sub, Int.ofNat_sub h]
theorem binI_shr_nat (a b : Nat) : binI .RShift (a : Int) (b : Int) = .ok (fI ((a / 2 ^ b : Nat) : Int)) := by
  rw [binI_shr, decide_eq_true (Int.natCast_nonneg b), ckI_t]
  rfl
theorem binI_shl_nat {a b : Nat} (h : a < 2 ^ 64) (h2 : b ≤ 1000000) : binI .LShift (a : Int) (b : Int) = .ok (fI ((a * 2 ^ b : Nat) : Int)) := by
  rw [binI_shl, powOk_of (Int.natCast_nonneg b) (by omega) (by omega), ckI_t]
  congr 2
theorem binI_and1_nat (a : Nat) : binI .BitAnd (a : Int) ((1 : Nat) : Int) = .ok (fI ((a % 2 : Nat) : Int)) := by
  rw [binI_and, show ((1 : Nat) : Int) = 1 from rfl, bitAnd_one]
theorem binI_mod_nat {a b : Nat} (h : 0 < b) : binI .Mod (a : Int) (b : Int) = .ok (fI ((a % b : Nat) : Int)) := by
  rw [binI_mod, decide_eq_true (by omega), ckI_t]
  rfl
theorem binI_div_nat {a b : Nat} (h : 0 < b) (h2 : b < 1073741824) : binI .FloorDiv (a : Int) (b : Int) = .ok (fI ((a / b : Nat) : Int)) := by
  rw [binI_div, decide_eq_true (show (0 : Int) < b by omega), decide_eq_true (show (b : Int) < 1073741824 by omega)]
  rfl
theorem binI_mul_nat {a b : Nat} (h : a < 2 ^ 64) : binI .Mult (a : Int) (b : Int) = .ok (fI ((a * b : Nat) : Int)) := by
  rw [binI_mul, mulOk_of (by omega) (by omega), ckI_t]
  rfl
theorem ix_map {α : Type} (f : α → D) (xs : List α) (i : Nat) (a : α) (h : xs[i]? = some a) : ixD (.list (xs.map f)) (.int (i : Int)) = .ok ⟨.f, f a⟩ := by
  rw [ixD_list, atI_nat (v := f a) (by rw [List.getElem?_map, h]; rfl)]
  rfl
theorem deq_nat (i j : Nat) : deq (.int (i : Int)) (.int (j : Int)) = .ok (i == j) := by
  rw [deq_int]
  congr 1
  rw [Bool.eq_iff_iff, beq_iff_eq, beq_iff_eq]
  exact Int.ofNat_inj
theorem cmpop_lt_nat (i j : Nat) : cmpop .Lt (.int (i : Int)) (.int (j : Int)) = .ok (decide (i < j)) := by
  rw [cmpop_lt]
  congr 1
  exact decide_eq_decide.mpr Int.ofNat_lt
theorem cmpop_le_nat (i j : Nat) : cmpop .LtE (.int (i : Int)) (.int (j : Int)) = .ok (decide (i ≤ j)) := by
  rw [cmpop_le]
  congr 1
  exact decide_eq_decide.mpr Int.ofNat_le
theorem cmpop_gt_nat (i j : Nat) : cmpop .Gt (.int (i : Int)) (.int (j : Int)) = .ok (decide (j < i)) := by
  rw [cmpop_gt]
  congr 1
  exact decide_eq_decide.mpr Int.ofNat_lt
theorem cmpop_ge_nat (i j : Nat) : cmpop .GtE (.int (i : Int)) (.int (j : Int)) = .ok (decide (j ≤ i)) := by
  rw [cmpop_ge]
  congr 1
  exact decide_eq_decide.mpr Int.ofNat_le
theorem binI_pow_nat {a b : Nat} (h : a < 2 ^ 64) (h2 : b ≤ 1000000) : binI .Pow (a : Int) (b : Int) = .ok (fI ((a ^ b : Nat) : Int)) := by
  rw [binI_pow, powOk_of (Int.natCast_nonneg b) (by omega) (by omega), ckI_t]
  congr 2
theorem range_at {n i : Nat} {f : Nat → D} {x : D} (h : ((List.range n).map f)[i]? = some x) : i < n ∧ x = f i := by
  rw [List.getElem?_map] at h
  rcases Nat.lt_or_ge i n with q | q
  · rw [List.getElem?_range q] at h
    cases h
    exact ⟨q, rfl⟩
  · rw [List.getElem?_eq_none (by rw [List.length_range]; exact q)] at h
    cases h
theorem map_at {α : Type} {xs : List α} {i : Nat} {f : α → D} {x : D} (h : (xs.map f)[i]? = some x) : ∃ a, xs[i]? = some a ∧ x = f a := by
  rw [List.getElem?_map] at h
  obtain ⟨a, e, r⟩ := Option.map_eq_some_iff.mp h
  exact ⟨a, e, r.symm⟩
theorem at_lt {α : Type} {xs : List α} {i : Nat} {a : α} (h : xs[i]? = some a) : i < xs.length := by
  rcases Nat.lt_or_ge i xs.length with q | q
  · exact q
  · rw [List.getElem?_eq_none q] at h
    cases h
theorem at_mem {α : Type} {xs : List α} {i : Nat} {a : α} (h : xs[i]? = some a) : a ∈ xs := List.mem_of_getElem? h
end GK
namespace GK
open PySem PySem.Spec PyProof.Rows L2
def modN (x : Int) (n : Nat) : Nat := (x % (n : Int)).toNat
theorem modN_cast {x : Int} {n : Nat} (h : 0 < n) : ((modN x n : Nat) : Int) = x % (n : Int) := Int.toNat_of_nonneg (Int.emod_nonneg x (by omega))
theorem modN_lt {x : Int} {n : Nat} (h : 0 < n) : modN x n < n := by
  have := Int.emod_lt_of_pos x (show (0 : Int) < n by omega)
  have := modN_cast (x := x) h
  omega
theorem binI_modN {x : Int} {n : Nat} (h : 0 < n) : binI .Mod x (n : Int) = .ok (fI ((modN x n : Nat) : Int)) := by
  rw [binI_mod, decide_eq_true (by omega), ckI_t, modN_cast h]
/-- a script's cell -/
def cellI (ns : List Int) (k : Nat) : Int := ns.getD k 0
theorem shaped_ints : ∀ xs : List Int, SeqAt.shaped (.list (xs.map PyData.int)) = true := fun xs => by
  have h1 : ∀ xs : List Int, PyData.canLayAll0 (xs.map PyData.int) = true := by
    intro xs
    induction xs with
    | nil => rfl
    | cons x xs ih => simp only [List.map_cons, PyData.canLayAll0, PyData.canLay0, ih, Bool.and_self]
  have h2 : ∀ xs : List Int, PyData.depthAll (xs.map PyData.int) = 0 := by
    intro xs
    induction xs with
    | nil => rfl
    | cons x xs ih => simp only [List.map_cons, PyData.depthAll, PyData.depth, ih, Nat.max_self]
  simp only [SeqAt.shaped, PyData.canLay0, h1, PyData.depth, h2, Bool.true_and]
  rfl
theorem eqvAll_ints : ∀ xs ys : List Int, PyData.eqvAll (xs.map PyData.int) (ys.map PyData.int) = decide (xs = ys)
  | [], [] => rfl
  | [], _ :: _ => by simp [PyData.eqvAll]
  | _ :: _, [] => by simp [PyData.eqvAll]
  | x :: xs, y :: ys => by
    simp only [List.map_cons, PyData.eqvAll, PyData.eqv, eqvAll_ints xs ys]
    rw [Bool.eq_iff_iff]
    simp
theorem deq_ints (xs ys : List Int) : deq (.list (xs.map PyData.int)) (.list (ys.map PyData.int)) = .ok (decide (xs = ys)) := by
  unfold deq
  rw [shaped_ints, shaped_ints]
  simp only [Bool.and_self, if_true, PyData.eqv, eqvAll_ints]
theorem map_nD (xs : List Nat) : xs.map nD = (xs.map fun n : Nat => (n : Int)).map PyData.int := by
  rw [List.map_map]
  rfl
theorem deq_nats (xs ys : List Nat) : deq (.list (xs.map nD)) (.list (ys.map nD)) = .ok (decide (xs = ys)) := by
  rw [map_nD, map_nD, deq_ints]
  congr 1
  rw [Bool.eq_iff_iff, decide_eq_true_eq, decide_eq_true_eq]
  constructor
  · intro h
    exact List.map_inj_right (fun a b h => by omega) |>.mp h
  · intro h
    rw [h]
end GK
namespace GK
open PySem PySem.Spec PyProof.Rows L2
theorem ix_t0 (a : D) (r : List D) : atI (a :: r) ((0 : Nat) : Int) = some a := GK.atI_ofNat rfl
theorem ix_t1 (a b : D) (r : List D) : atI (a :: b :: r) ((1 : Nat) : Int) = some b := GK.atI_ofNat rfl
theorem ix_t2 (a b c : D) (r : List D) : atI (a :: b :: c :: r) ((2 : Nat) : Int) = some c := GK.atI_ofNat rfl
theorem nD_def (n : Nat) : nD n = .int (n : Int) := (rfl)
theorem fI_eq' (i : Int) : (⟨.f, .int i⟩ : Sl) = fI i := (rfl)
theorem fB_eq' (i : Bool) : (⟨.f, .bool i⟩ : Sl) = fB i := (rfl)
end GK
namespace GK
open PySem PySem.Spec PyProof.Rows L2
theorem at_map {α : Type} (f : α → D) (xs : List α) (i : Nat) (a : α) (h : xs[i]? = some a) : atI (xs.map f) (i : Int) = some (f a) := atI_nat (by rw [List.getElem?_map, h]; rfl)
end GK
namespace GK
open PySem PySem.Spec PyProof.Rows L2
theorem binI_divI {x : Int} {n : Nat} (h : 0 < n) (h2 : n < 1073741824) : binI .FloorDiv x (n : Int) = .ok (fI (x / (n : Int))) := by
  rw [binI_div, decide_eq_true (show (0 : Int) < n by omega), decide_eq_true (show (n : Int) < 1073741824 by omega)]
  rfl
theorem lenOk_map {α : Type} (f : α → D) (xs : List α) : lenOk (xs.map f).length = lenOk xs.length := by rw [List.length_map]
theorem lenOk_range {n : Nat} (h : n ≤ 16777216) : lenOk (List.range n).length = true := by rw [List.length_range]; exact lenOk_of h
end GK
namespace GK
open PySem PySem.Spec PyProof.Rows L2
theorem deq_pair (a b c d : Int) : deq (.tuple [.int a, .int b]) (.tuple [.int c, .int d]) = .ok (decide (a = c) && decide (b = d)) := by
  have h : ∀ a b : Int, SeqAt.shaped (.tuple [.int a, .int b]) = true := fun a b => rfl
  unfold deq
  rw [h, h]
  simp only [Bool.and_self, if_true, PyData.eqv, PyData.eqvAll, Bool.and_true]
  congr 1
theorem natDec (a b : Nat) : decide ((a : Int) = (b : Int)) = decide (a = b) := decide_eq_decide.mpr Int.ofNat_inj
theorem decide_self {α : Type} [DecidableEq α] (a : α) : decide (a = a) = true := decide_eq_true rfl
end GK
namespace GK
open PySem PySem.Spec PyProof.Rows L2
theorem setG_nat {ρ : Rho} {x : Nat} {ds : List D} {v : D} {k : Nat} (h : k < ds.length) : setG ρ x ds v (.int (k : Int)) = .ok (.nx (ρ.set x (some ⟨.o, .list (ds.set k v)⟩))) := by
  have e : ixN ds.length (k : Int) = some k := by
    unfold ixN
    rw [if_pos (Int.natCast_nonneg k), if_pos (by omega), Int.toNat_natCast]
  simp only [setG, e]
theorem cutD_hi {xs : List D} {k : Nat} (h : k ≤ xs.length) : cutD xs none (some (k : Int)) = xs.take k := by
  unfold cutD
  rw [HT.sIx_none, HT.sIx_nat, Nat.min_eq_left h]
  simp
theorem cutD_lo {xs : List D} {k : Nat} (h : k ≤ xs.length) : cutD xs (some (k : Int)) none = xs.drop k := by
  unfold cutD
  rw [HT.sIx_none, HT.sIx_nat, Nat.min_eq_left h, List.take_of_length_le]
  rw [List.length_drop]
  omega
theorem cutD_both {xs : List D} {i k : Nat} (hi : i ≤ xs.length) (h : k ≤ xs.length) : cutD xs (some (i : Int)) (some (k : Int)) = (xs.drop i).take (k - i) := by
  unfold cutD
  rw [HT.sIx_nat, HT.sIx_nat, Nat.min_eq_left h, Nat.min_eq_left hi]
end GK
namespace GK
open PySem PySem.Spec PyProof.Rows L2
/-- a loop that looks for one and hands back -/
theorem forGo_find {α : Type} {B : D → Rho → M Rho} {C : Rho → M Fl} (g : α → D) (p : α → Bool) (P : Rho → Prop) (s : Sl) : ∀ (l : List α) (ρ : Rho), P ρ →
    (∀ a ∈ l, ∀ ρ, P ρ → (p a = true → (B (g a) ρ >>= C) = .ok (.rt s)) ∧ (p a = false → NX (B (g a) ρ >>= C) P)) →
    (l.any p = true → forGo B C (l.map g) ρ = .ok (.rt s)) ∧ (l.any p = false → NX (forGo B C (l.map g) ρ) P)
  | [], ρ, h, _ => ⟨fun z => by simp at z, fun _ => ⟨ρ, rfl, h⟩⟩
  | a :: l, ρ, h, hs => by
    obtain ⟨h1, h2⟩ := hs a List.mem_cons_self ρ h
    have ih := forGo_find (B := B) (C := C) g p P s l
    cases hp : p a with
    | true =>
      refine ⟨fun _ => ?_, fun z => by simp [hp] at z⟩
      obtain ⟨ρ1, e1, e2⟩ := bind_ok (h1 hp)
      simp only [List.map_cons, forGo, e1, e2, ok_bind]
    | false =>
      obtain ⟨ρ2, e, q⟩ := h2 hp
      obtain ⟨ρ1, e1, e2⟩ := bind_ok e
      obtain ⟨i1, i2⟩ := ih ρ2 q fun b hb => hs b (List.mem_cons_of_mem _ hb)
      simp only [List.any_cons, hp, Bool.false_or, List.map_cons, forGo, e1, e2, ok_bind]
      exact ⟨i1, i2⟩
theorem find_fin {α : Type} {B : D → Rho → M Rho} {C : Rho → M Fl} {l : List α} {ρ : Rho} {k : Fl → M Fl} {r : M Sl} (g : α → D) (p : α → Bool) (P : Rho → Prop) (s : Sl) (h0 : P ρ)
    (hs : ∀ a ∈ l, ∀ ρ, P ρ → (p a = true → (B (g a) ρ >>= C) = .ok (.rt s)) ∧ (p a = false → NX (B (g a) ρ >>= C) P))
    (h1 : l.any p = true → fin (k (.rt s)) = r) (h2 : l.any p = false → ∀ ρ', P ρ' → fin (k (.nx ρ')) = r) : fin (forGo B C (l.map g) ρ >>= k) = r := by
  obtain ⟨a, b⟩ := forGo_find g p P s l ρ h0 hs
  cases h : l.any p with
  | true => rw [a h]; exact h1 h
  | false =>
    obtain ⟨ρ', e, q⟩ := b h
    rw [e]
    exact h2 h ρ' q
/-- a loop that raises at the first that .. -/
theorem forGo_rz {α : Type} {B : D → Rho → M Rho} {C : Rho → M Fl} (g : α → D) (p : α → Bool) (P : Rho → Prop) (c : Str) : ∀ (l : List α) (ρ : Rho), P ρ →
    (∀ a ∈ l, ∀ ρ, P ρ → (p a = true → ∃ ρ', (B (g a) ρ >>= C) = .ok (.rz c ρ')) ∧ (p a = false → NX (B (g a) ρ >>= C) P)) →
    (l.any p = true → ∃ ρ', forGo B C (l.map g) ρ = .ok (.rz c ρ')) ∧ (l.any p = false → NX (forGo B C (l.map g) ρ) P)
  | [], ρ, h, _ => ⟨fun z => by simp at z, fun _ => ⟨ρ, rfl, h⟩⟩
  | a :: l, ρ, h, hs => by
    obtain ⟨h1, h2⟩ := hs a List.mem_cons_self ρ h
    have ih := forGo_rz (B := B) (C := C) g p P c l
    cases hp : p a with
    | true =>
      refine ⟨fun _ => ?_, fun z => by simp [hp] at z⟩
      obtain ⟨ρ', h1⟩ := h1 hp
      obtain ⟨ρ1, e1, e2⟩ := bind_ok h1
      exact ⟨ρ', by simp only [List.map_cons, forGo, e1, e2, ok_bind]⟩
    | false =>
      obtain ⟨ρ2, e, q⟩ := h2 hp
      obtain ⟨ρ1, e1, e2⟩ := bind_ok e
      obtain ⟨i1, i2⟩ := ih ρ2 q fun b hb => hs b (List.mem_cons_of_mem _ hb)
      simp only [List.any_cons, hp, Bool.false_or, List.map_cons, forGo, e1, e2, ok_bind]
      exact ⟨i1, i2⟩
theorem raise_fin {α : Type} {B : D → Rho → M Rho} {C : Rho → M Fl} {l : List α} {ρ : Rho} {k : Fl → M Fl} {r : M Sl} (g : α → D) (p : α → Bool) (P : Rho → Prop) (c : Str) (h0 : P ρ)
    (hs : ∀ a ∈ l, ∀ ρ, P ρ → (p a = true → ∃ ρ', (B (g a) ρ >>= C) = .ok (.rz c ρ')) ∧ (p a = false → NX (B (g a) ρ >>= C) P))
    (h1 : l.any p = true → ∀ ρ', fin (k (.rz c ρ')) = r) (h2 : l.any p = false → ∀ ρ', P ρ' → fin (k (.nx ρ')) = r) : fin (forGo B C (l.map g) ρ >>= k) = r := by
  obtain ⟨a, b⟩ := forGo_rz g p P c l ρ h0 hs
  cases h : l.any p with
  | true =>
    obtain ⟨ρ', e⟩ := a h
    rw [e]
    exact h1 h ρ'
  | false =>
    obtain ⟨ρ', e, q⟩ := b h
    rw [e]
    exact h2 h ρ' q
/-! classes of exceptions -/
theorem isxS_xc (c d : Str) (h : xall.contains d = true) : isxS ⟨.f, xcD c⟩ d = .ok (fB (xsub c d)) := by
  unfold isxS xcD
  simp only [h, if_true]
theorem ixsS_xc (c : Str) (cs : List Str) (h : (cs.all xall.contains && decide (cs.length ≤ 1000)) = true) : ixsS ⟨.f, xcD c⟩ cs = .ok (fB (cs.any (xsub c))) := by
  unfold ixsS xcD
  simp only [h, if_true]
/-- the end of a def, with an end that is only told by a property -/
def FE (m : M Sl) (Q : Sl → Prop) : Prop := ∃ s, m = .ok s ∧ Q s
theorem fe_ok {s : Sl} {Q : Sl → Prop} (h : Q s) : FE (.ok s) Q := ⟨s, rfl, h⟩
theorem for_fe {B : D → Rho → M Rho} {C : Rho → M Fl} {xs : List D} {ρ : Rho} {k : Fl → M Fl} {Q : Sl → Prop} (P : Nat → Rho → Prop) (h0 : P 0 ρ)
    (hs : ∀ i x ρ, xs[i]? = some x → P i ρ → NX (B x ρ >>= C) (P (i + 1))) (hk : ∀ ρ', P xs.length ρ' → FE (fin (k (.nx ρ'))) Q) : FE (fin (forGo B C xs ρ >>= k)) Q := by
  obtain ⟨ρ', e, h⟩ := forGo_nx P h0 hs
  rw [e]
  exact hk ρ' h
theorem binI_and_nat (a b : Nat) : binI .BitAnd (a : Int) (b : Int) = .ok (fI ((a &&& b : Nat) : Int)) := by
  have e : Builtin.bitAnd (a : Int) (b : Int) = ((a &&& b : Nat) : Int) := (rfl)
  rw [binI_and, e]
theorem binI_or_nat (a b : Nat) : binI .BitOr (a : Int) (b : Int) = .ok (fI ((a ||| b : Nat) : Int)) := by
  have e : Builtin.bitOr (a : Int) (b : Int) = ((a ||| b : Nat) : Int) := by
    have h1 : ∀ n : Nat, decide (0 ≤ Builtin.bitNot (n : Int)) = false := fun n => decide_eq_false (by unfold Builtin.bitNot; omega)
    have h2 : ∀ n : Nat, (Builtin.bitNot (Builtin.bitNot (n : Int))).toNat = n := fun n => by unfold Builtin.bitNot; omega
    have h3 : ∀ i : Int, Builtin.bitNot (Builtin.bitNot i) = i := fun n => by unfold Builtin.bitNot; omega
    unfold Builtin.bitOr Builtin.bitAnd
    simp only [h1, h2, h3, Int.toNat_natCast]
  rw [binI_or, e]
theorem or_xor_and : ∀ (n a b : Nat), a ≤ n → a ||| b = (a ^^^ b) + (a &&& b)
  | 0, a, b, h => by
    have : a = 0 := by omega
    subst this
    simp
  | n + 1, a, b, h => by
    by_cases ha : a = 0
    · subst ha
      simp
    · have ih := or_xor_and n (a / 2) (b / 2) (by omega)
      have d1 : (a ||| b) / 2 = a / 2 ||| b / 2 := Nat.or_div_two
      have d2 : (a &&& b) / 2 = a / 2 &&& b / 2 := Nat.and_div_two
      have d3 : (a ^^^ b) / 2 = a / 2 ^^^ b / 2 := Nat.xor_div_two
      have m1 : (a ||| b) % 2 = 1 ↔ a % 2 = 1 ∨ b % 2 = 1 := Nat.or_mod_two_eq_one
      have m2 : (a &&& b) % 2 = 1 ↔ a % 2 = 1 ∧ b % 2 = 1 := Nat.and_mod_two_eq_one
      have m3 : (a ^^^ b) % 2 = 1 ↔ ¬ (a % 2 = 1 ↔ b % 2 = 1) := Nat.xor_mod_two_eq_one
      rw [← d1, ← d2, ← d3] at ih
      omega
theorem binI_xor_nat (a b : Nat) : binI .BitXor (a : Int) (b : Int) = .ok (fI ((a ^^^ b : Nat) : Int)) := by
  have e : Builtin.bitXor (a : Int) (b : Int) = ((a ^^^ b : Nat) : Int) := by
    have e1 : Builtin.bitOr (a : Int) (b : Int) = ((a ||| b : Nat) : Int) := by
      have := binI_or_nat a b
      rw [binI_or] at this
      exact congrArg (fun r : M Sl => match r with
        | .ok ⟨_, .int i⟩ => i
        | _ => 0) this
    have e2 : Builtin.bitAnd (a : Int) (b : Int) = ((a &&& b : Nat) : Int) := (rfl)
    unfold Builtin.bitXor
    rw [e1, e2, or_xor_and a a b (Nat.le_refl a)]
    omega
  rw [binI_xor, e]
theorem deq_nil : deq (.list []) (.list []) = .ok true := deq_nats [] []
end GK
namespace GK
open PySem PySem.Spec PyProof.Rows L2
theorem notP_rg3 (cl : Str → List Sl → M Sl) (a b c : E) (ρ : Rho) : notP cl (.rg3 a b c) ρ = true := (rfl)
theorem notP_rvr (cl : Str → List Sl → M Sl) (a : E) (ρ : Rho) : notP cl (.rvr a) ρ = true := (rfl)
theorem notP_enm (cl : Str → List Sl → M Sl) (a : E) (ρ : Rho) : notP cl (.enm a) ρ = (lentE a ρ || notPs (evE cl a ρ)) := npE_old cl a ρ
theorem notP_rev (cl : Str → List Sl → M Sl) (a : E) (ρ : Rho) : notP cl (.rev a) ρ = (lentE a ρ || notPs (evE cl a ρ)) := npE_old cl a ρ
theorem nqE_eq (cl : Str → List Sl → M Sl) (a : E) (ρ : Rho) : nqE cl a ρ = notPs (evE cl a ρ) := by
  simp only [nqE]
  cases evE cl a ρ with
  | error e => rfl
  | ok s => obtain ⟨m, d⟩ := s; cases m <;> rfl
theorem notP_zp (cl : Str → List Sl → M Sl) (a b : E) (ρ : Rho) : notP cl (.zp a b) ρ = (notPs (evE cl a ρ) && notPs (evE cl b ρ)) := by
  rw [← nqE_eq, ← nqE_eq]
  rfl
def ckTu (c : Bool) (xs : List D) : M Sl := if c then .ok ⟨.f, .tuple xs⟩ else stk
theorem ckTu_t (xs : List D) : ckTu true xs = .ok ⟨.f, .tuple xs⟩ := (rfl)
theorem binop_catT (m : Md) (xs ys : List D) : binop .Add m (.tuple xs) (.tuple ys) = ckTu (lenOk (xs.length + ys.length)) (xs ++ ys) := (rfl)
theorem slD_tup (xs : List D) (lo hi : Option Int) : slD (.tuple xs) lo hi = .ok ⟨.f, .tuple (cutD xs lo hi)⟩ := (rfl)
theorem mmD_max (i j : Int) : mmD true (.int i) (.int j) = .ok (fI (if j > i then j else i)) := (rfl)
theorem mmD_min (i j : Int) : mmD false (.int i) (.int j) = .ok (fI (if j < i then j else i)) := (rfl)
theorem mmD_maxN (i j : Nat) : mmD true (.int (i : Int)) (.int (j : Int)) = .ok (fI (max i j : Nat)) := by
  rw [mmD_max]
  congr 2
  split <;> omega
theorem mmD_minN (i j : Nat) : mmD false (.int (i : Int)) (.int (j : Int)) = .ok (fI (min i j : Nat)) := by
  rw [mmD_min]
  congr 2
  split <;> omega
theorem rvD_list (xs : List D) : rvD (.list xs) = .ok ⟨.o, .list xs.reverse⟩ := (rfl)
theorem cmpop_is (a b : Bool) : cmpop .Is (.bool a) (.bool b) = .ok (a == b) := by
  cases a <;> cases b <;> rfl
theorem cmpop_isnot (a b : Bool) : cmpop .IsNot (.bool a) (.bool b) = .ok (!(a == b)) := by
  cases a <;> cases b <;> rfl
theorem negM_ok' (b : Bool) : negM (.ok b) = .ok (!b) := (rfl)
theorem cmpop_in (x : D) (ds : List D) : cmpop .In x (.list ds) = inD x ds := (rfl)
theorem cmpop_notin (x : D) (ds : List D) : cmpop .NotIn x (.list ds) = negM (inD x ds) := (rfl)
theorem cmpop_inT (x : D) (ds : List D) : cmpop .In x (.tuple ds) = inF x ds := (rfl)
theorem cmpop_notinT (x : D) (ds : List D) : cmpop .NotIn x (.tuple ds) = negM (inF x ds) := (rfl)
theorem any_nD (x : Nat) (xs : List Nat) : ((xs.map nD).any fun z => PyData.eqv z (nD x)) = decide (x ∈ xs) := by
  induction xs with
  | nil => simp
  | cons y ys ih =>
    rw [List.map_cons, List.any_cons, ih]
    have e : PyData.eqv (nD y) (nD x) = decide (y = x) := by
      simp only [nD, PyData.eqv]
      rw [Bool.eq_iff_iff, beq_iff_eq, decide_eq_true_eq]
      exact Int.ofNat_inj
    rw [e, Bool.eq_iff_iff]
    simp only [Bool.or_eq_true, decide_eq_true_eq, List.mem_cons]
    constructor
    · rintro (h | h)
      · exact .inl h.symm
      · exact .inr h
    · rintro (h | h)
      · exact .inl h.symm
      · exact .inr h
theorem inD_nats (x : Nat) (xs : List Nat) : inD (.int (x : Int)) (xs.map nD) = .ok (decide (x ∈ xs)) := by
  have h1 : SeqAt.shaped (.int (x : Int)) = true := rfl
  have h2 : SeqAt.shaped (.list (xs.map nD)) = true := by rw [map_nD]; exact shaped_ints _
  unfold inD
  rw [h1, h2]
  have := any_nD x xs
  simp only [nD] at this
  simp only [Bool.and_self, if_true]
  exact congrArg _ this
theorem inF_nats (x : Nat) (xs : List Nat) : inF (.int (x : Int)) (xs.map nD) = .ok (decide (x ∈ xs)) := by
  have h2 : (xs.map nD).all flatD = true := by
    rw [List.all_map, List.all_eq_true]
    intro y _
    rfl
  unfold inF
  rw [h2, show flatD (.int (x : Int)) = true from rfl]
  have := any_nD x xs
  simp only [nD] at this
  simp only [Bool.and_self, if_true]
  exact congrArg _ this
theorem enumD_map {α : Type} (f : α → D) (z : α) (xs : List α) : enumD (xs.map f) = (List.range xs.length).map fun i => .tuple [.int (i : Nat), f (xs.getD i z)] := by
  unfold enumD
  rw [List.length_map]
  apply List.map_congr_left
  intro i hi
  have hi' := List.mem_range.mp hi
  rw [List.getD_eq_getElem?_getD, List.getElem?_map, List.getElem?_eq_getElem hi', List.getD_eq_getElem?_getD, List.getElem?_eq_getElem hi']
  rfl
theorem b1D_sorted (xs : List D) (ns : List Int) (h : intsD xs = some ns) : b1D .sorted (.list xs) = .ok ⟨.o, .list ((sortI ns).map .int)⟩ := by
  simp only [b1D, h]
theorem beq_t (b : Bool) : (b == true) = b := by cases b <;> rfl
theorem beq_f (b : Bool) : (b == false) = !b := by cases b <;> rfl
theorem nDmap {α : Type} (g : α → Nat) (xs : List α) : xs.map (fun a => nD (g a)) = (xs.map g).map nD := by
  rw [List.map_map]
  rfl
theorem intsD_nats (xs : List Nat) : intsD (xs.map nD) = some (xs.map fun n : Nat => (n : Int)) := intsD_map (fun n : Nat => (n : Int)) xs
theorem sum_cast : ∀ xs : List Nat, (xs.map fun n : Nat => (n : Int)).sum = ((xs.sum : Nat) : Int)
  | [] => rfl
  | x :: xs => by rw [List.map_cons, List.sum_cons, List.sum_cons, sum_cast xs]; rfl
/-- one statement, told by what holds behind it -/
theorem bind_nx {X : M Fl} {k : Fl → M Fl} {Q : Rho → Prop} (P : Rho → Prop) (h : NX X P) (hk : ∀ ρ', P ρ' → NX (k (.nx ρ')) Q) : NX (X >>= k) Q := by
  obtain ⟨ρ', e, p⟩ := h
  rw [e]
  exact hk ρ' p
theorem bind_fin {X : M Fl} {k : Fl → M Fl} {r : M Sl} (P : Rho → Prop) (h : NX X P) (hk : ∀ ρ', P ρ' → fin (k (.nx ρ')) = r) : fin (X >>= k) = r := by
  obtain ⟨ρ', e, p⟩ := h
  rw [e]
  exact hk ρ' p
theorem bind_fe {X : M Fl} {k : Fl → M Fl} {Q : Sl → Prop} (P : Rho → Prop) (h : NX X P) (hk : ∀ ρ', P ρ' → FE (fin (k (.nx ρ'))) Q) : FE (fin (X >>= k)) Q := by
  obtain ⟨ρ', e, p⟩ := h
  rw [e]
  exact hk ρ' p
/-! deep data -/
mutual
theorem eqv_self : ∀ d : D, d.canLay0 = true → PyData.eqv d d = true
  | .none, _ => rfl
  | .bool b, _ => by simp [PyData.eqv]
  | .int i, _ => by simp [PyData.eqv]
  | .str x, _ => by simp [PyData.eqv]
  | .list xs, h => by
    simp only [PyData.eqv]
    exact eqvAll_self xs h
  | .tuple xs, h => by
    simp only [PyData.eqv]
    exact eqvAll_self xs h
  | .dict _, h => by simp [PyData.canLay0] at h
theorem eqvAll_self : ∀ ds : List D, PyData.canLayAll0 ds = true → PyData.eqvAll ds ds = true
  | [], _ => rfl
  | d :: ds, h => by
    simp only [PyData.canLayAll0, Bool.and_eq_true] at h
    simp only [PyData.eqvAll, eqv_self d h.1, eqvAll_self ds h.2, Bool.and_self]
end
theorem deq_refl {d : D} (h : SeqAt.shaped d = true) : deq d d = .ok true := by
  unfold deq
  rw [h, eqv_self d (SeqAt.canLay_of_shaped h)]
  rfl
/-- data without dicts and texts, of a depth -/
def Lay (k : Nat) (d : D) : Prop := d.canLay0 = true ∧ d.depth ≤ k
theorem lay_all {k : Nat} : ∀ ds : List D, (∀ d ∈ ds, Lay k d) → PyData.canLayAll0 ds = true ∧ PyData.depthAll ds ≤ k
  | [], _ => ⟨rfl, Nat.zero_le _⟩
  | d :: ds, h => by
    obtain ⟨a1, a2⟩ := h d List.mem_cons_self
    obtain ⟨b1, b2⟩ := lay_all ds fun x hx => h x (List.mem_cons_of_mem _ hx)
    exact ⟨by simp only [PyData.canLayAll0, a1, b1, Bool.and_self], by simp only [PyData.depthAll]; omega⟩
theorem lay_int (k : Nat) (i : Int) : Lay k (.int i) := ⟨rfl, Nat.zero_le _⟩
theorem lay_nD (k n : Nat) : Lay k (nD n) := ⟨rfl, Nat.zero_le _⟩
theorem lay_bool (k : Nat) (b : Bool) : Lay k (.bool b) := ⟨rfl, Nat.zero_le _⟩
theorem lay_none (k : Nat) : Lay k .none := ⟨rfl, Nat.zero_le _⟩
theorem lay_tup {k : Nat} {ds : List D} (h : ∀ d ∈ ds, Lay k d) : Lay (k + 1) (.tuple ds) := by
  obtain ⟨a, b⟩ := lay_all ds h
  exact ⟨a, by simp only [PyData.depth]; omega⟩
theorem lay_lst {k : Nat} {ds : List D} (h : ∀ d ∈ ds, Lay k d) : Lay (k + 1) (.list ds) := by
  obtain ⟨a, b⟩ := lay_all ds h
  exact ⟨a, by simp only [PyData.depth]; omega⟩
theorem lay_map {α : Type} {k : Nat} {f : α → D} {xs : List α} (h : ∀ x ∈ xs, Lay k (f x)) : ∀ d ∈ xs.map f, Lay k d := by
  intro d hd
  obtain ⟨x, hx, rfl⟩ := List.mem_map.mp hd
  exact h x hx
theorem lay_nats (k : Nat) (xs : List Nat) : ∀ d ∈ xs.map nD, Lay k d := lay_map fun x _ => lay_nD k x
theorem lay_mono {k l : Nat} {d : D} (h : Lay k d) (hk : k ≤ l) : Lay l d := ⟨h.1, Nat.le_trans h.2 hk⟩
theorem lay_cons {k : Nat} {d : D} {ds : List D} (h : Lay k d) (h2 : ∀ d ∈ ds, Lay k d) : ∀ x ∈ d :: ds, Lay k x := by
  intro x hx
  rcases List.mem_cons.mp hx with e | hx
  · rw [e]; exact h
  · exact h2 x hx
theorem lay_nil (k : Nat) : ∀ x ∈ ([] : List D), Lay k x := fun x hx => by simp at hx
theorem Lay.shaped {k : Nat} {d : D} (h : Lay k d) (hk : k ≤ 64) : SeqAt.shaped d = true := by
  unfold SeqAt.shaped
  rw [h.1, decide_eq_true (Nat.le_trans h.2 hk)]
  rfl
theorem Lay.deq {k : Nat} {d : D} (h : Lay k d) (hk : k ≤ 64) : GK.deq d d = .ok true := deq_refl (h.shaped hk)
def b2n : Bool → Nat
  | true => 1
  | false => 0
theorem b2n_t : b2n true = 1 := (rfl)
theorem b2n_f : b2n false = 0 := (rfl)
theorem b2n_lt (b : Bool) : b2n b < 2 := by cases b <;> decide
theorem b1D_intN (b : Bool) : b1D .int (.bool b) = .ok (fI ((b2n b : Nat) : Int)) := by cases b <;> rfl
def optD : Option D → M D
  | some d => .ok d
  | none => stk
theorem optD_some (d : D) : optD (some d) = .ok d := (rfl)
def setSN (ρ : Rho) (x : Nat) (v j : D) (ds : List (D × D)) : M Fl := ifM (nkOk j) (setN j v ds >>= fun d => .ok (.nx (ρ.set x (some ⟨.o, d⟩)))) stk
def setS (ρ : Rho) (x : Nat) (v j : D) : Option (Option Sl) → M Fl
  | some (some ⟨.o, .list ds⟩) => setG ρ x ds v j
  | some (some ⟨.o, .dict ds⟩) => ifM (keyOk j && nmk ds && lenOk (ds.length + 1)) (.ok (.nx (ρ.set x (some ⟨.o, .dict (putD ds j v)⟩)))) (setSN ρ x v j ds)
  | _ => stk
theorem setO_eq (x : Nat) (ρ : Rho) (v j : D) : setO x ρ v j = setS ρ x v j ρ[x]? := by
  simp only [setO]
  cases ρ[x]? with
  | none => rfl
  | some o =>
    cases o with
    | none => rfl
    | some s => obtain ⟨m, d⟩ := s; cases m <;> cases d <;> rfl
theorem setS_list (ρ : Rho) (x : Nat) (v j : D) (ds : List D) : setS ρ x v j (some (some ⟨.o, .list ds⟩)) = setG ρ x ds v j := (rfl)
theorem setS_dict (ρ : Rho) (x : Nat) (v j : D) (ds : List (D × D)) : setS ρ x v j (some (some ⟨.o, .dict ds⟩)) = ifM (keyOk j && nmk ds && lenOk (ds.length + 1)) (.ok (.nx (ρ.set x (some ⟨.o, .dict (putD ds j v)⟩)))) (setSN ρ x v j ds) := (rfl)
theorem keyOk_tup (xs : List D) : keyOk (.tuple xs) = false := (rfl)
theorem keyOk_int (i : Int) : keyOk (.int i) = true := (rfl)
theorem keyOk_str (i : Str) : keyOk (.str i) = true := (rfl)
theorem ixD_dict' (ds : List (D × D)) (k : D) (h : keyOk k = true) : ixD (.dict ds) k = optS (lookD ds k) := by
  simp only [ixD, h, if_true]
  cases lookD ds k <;> rfl
theorem ixD_dictI (ds : List (D × D)) (i : Int) : ixD (.dict ds) (.int i) = optS (lookD ds (.int i)) := ixD_dict' ds _ rfl
theorem ixD_dictS (ds : List (D × D)) (i : Str) : ixD (.dict ds) (.str i) = optS (lookD ds (.str i)) := ixD_dict' ds _ rfl
theorem cmpop_inK (x : D) (ds : List (D × D)) : cmpop .In x (.dict ds) = inK x ds := (rfl)
theorem cmpop_notinK (x : D) (ds : List (D × D)) : cmpop .NotIn x (.dict ds) = negM (inK x ds) := (rfl)
theorem inK_int (i : Int) (ds : List (D × D)) (h : nmk ds = true) : inK (.int i) ds = .ok (lookD ds (.int i)).isSome := by
  simp only [inK, keyOk, h, Bool.and_self, if_true]
theorem inK_str (i : Str) (ds : List (D × D)) (h : nmk ds = true) : inK (.str i) ds = .ok (lookD ds (.str i)).isSome := by
  simp only [inK, keyOk, h, Bool.and_self, if_true]
/-! dicts with whole numbers for keys -/
def kv {α : Type} (f : α → Nat) (g : α → D) (a : α) : D × D := (nD (f a), g a)
theorem keq_nD (i j : Nat) : keq (nD i) (nD j) = decide (i = j) := decide_eq_decide.mpr Int.ofNat_inj
theorem lookD_kv {α : Type} (f : α → Nat) (g : α → D) (x : Nat) : ∀ xs : List α, lookD (xs.map (kv f g)) (nD x) = (xs.find? fun a => decide (f a = x)).map g
  | [] => rfl
  | a :: xs => by
    have ih := lookD_kv f g x xs
    unfold lookD at ih ⊢
    rw [List.map_cons, List.find?_cons, List.find?_cons]
    have e : keq (kv f g a).1 (nD x) = decide (f a = x) := keq_nD _ _
    rw [e]
    cases decide (f a = x) with
    | true => rfl
    | false => exact ih
theorem anyD_kv {α : Type} (f : α → Nat) (g : α → D) (x : Nat) : ∀ xs : List α, ((xs.map (kv f g)).any fun p => keq p.1 (nD x)) = xs.any fun a => decide (f a = x)
  | [] => rfl
  | a :: xs => by
    rw [List.map_cons, List.any_cons, List.any_cons, anyD_kv f g x xs]
    congr 1
    exact keq_nD _ _
/-- a dict whose values are all true: a set of whole numbers -/
def kT : Nat → D × D := kv id fun _ => .bool true
def addN (xs : List Nat) (x : Nat) : List Nat := if x ∈ xs then xs else xs ++ [x]
theorem look_kT (xs : List Nat) (x : Nat) : (lookD (xs.map kT) (.int (x : Int))).isSome = decide (x ∈ xs) := by
  have e := lookD_kv id (fun _ => PyData.bool true) x xs
  rw [show (PyData.int (x : Int)) = nD x from rfl, show xs.map kT = xs.map (kv id fun _ => .bool true) from rfl, e, Option.isSome_map, Bool.eq_iff_iff, List.find?_isSome, decide_eq_true_eq]
  constructor
  · rintro ⟨a, ha, h⟩
    rw [← of_decide_eq_true h]
    exact ha
  · intro h
    exact ⟨x, h, decide_eq_true rfl⟩
theorem put_kT (xs : List Nat) (x : Nat) : putD (xs.map kT) (.int (x : Int)) (.bool true) = (addN xs x).map kT := by
  have e := anyD_kv id (fun _ => PyData.bool true) x xs
  have e2 : (xs.any fun a => decide (id a = x)) = decide (x ∈ xs) := by
    rw [Bool.eq_iff_iff, List.any_eq_true, decide_eq_true_eq]
    constructor
    · rintro ⟨a, ha, h⟩
      rw [← of_decide_eq_true h]
      exact ha
    · intro h
      exact ⟨x, h, decide_eq_true rfl⟩
  rw [e2] at e
  unfold putD addN
  rw [show ((xs.map kT).any fun p => keq p.1 (.int (x : Int))) = decide (x ∈ xs) from e]
  by_cases h : x ∈ xs
  · rw [if_pos (decide_eq_true h), if_pos h, List.map_map]
    apply List.map_congr_left
    intro a _
    show (if keq (kT a).1 _ = true then ((kT a).1, PyData.bool true) else kT a) = kT a
    split <;> rfl
  · rw [if_neg (fun z => h (of_decide_eq_true z)), if_neg h, List.map_append]
    rfl
theorem nmk_kv {α : Type} (f : α → Nat) (g : α → D) (xs : List α) : nmk (xs.map (kv f g)) = true := by cases xs <;> rfl
theorem nmk_kT (xs : List Nat) : nmk (xs.map kT) = true := by cases xs <;> rfl
theorem nmk_none (v : D) (ds : List (D × D)) : nmk ((.none, v) :: ds) = false := (rfl)
theorem frzB_f (ρ' ρ : Rho) : frzB false ρ' ρ = ρ := (rfl)
/-! dicts with nested tuples for keys -/
theorem exS_ndn (x : Nat) : exS cl fu (.ndn x) ρ = .ok (.nx (ρ.set x (some ⟨.o, .dict [(.none, .none)]⟩))) := (rfl)
theorem inK_tup (ks : List D) (ds : List (D × D)) : inK (.tuple ks) ds = ifM (nkOk (.tuple ks)) (inN (.tuple ks) ds) stk := (rfl)
theorem inN_mk (x : D) (ps : List (D × D)) : inN x ((.none, .none) :: ps) = .ok (lookN ps x).isSome := (rfl)
theorem ixD_dictT (ds : List (D × D)) (ks : List D) : ixD (.dict ds) (.tuple ks) = ifM (nkOk (.tuple ks)) (getN (.tuple ks) ds >>= fun d => .ok ⟨.f, d⟩) stk := (rfl)
theorem getN_mk (x : D) (ps : List (D × D)) : getN x ((.none, .none) :: ps) = optD (lookN ps x) := by
  show (match lookN ps x with
    | some d => .ok d
    | none => stk) = optD (lookN ps x)
  cases lookN ps x <;> rfl
theorem setSN_eq (ρ : Rho) (x : Nat) (v j : D) (ds : List (D × D)) : setSN ρ x v j ds = ifM (nkOk j) (setN j v ds >>= fun d => .ok (.nx (ρ.set x (some ⟨.o, d⟩)))) stk := (rfl)
theorem setN_mk (x v : D) (ps : List (D × D)) : setN x v ((.none, .none) :: ps) = ifM (lenOk (ps.length + 1)) (.ok (.dict ((.none, .none) :: putN ps x v))) stk := (rfl)
theorem nmk_kTs (xs : List Nat) : nmk (xs.map kT) = true := by cases xs <;> rfl
theorem b1D_lenK (xs : List Nat) : b1D .len (.dict (xs.map kT)) = .ok (fI xs.length) := by
  rw [b1D_lenD _ (nmk_kTs xs), List.length_map]
theorem b1D_tupN (ps : List (D × D)) : b1D .tuple (.dict ((.none, .none) :: ps)) = .ok ⟨.f, .tuple (ps.map (·.1))⟩ := (rfl)
theorem nkD_nat (n : Nat) : nkD (nD n) = some (.num n) := (rfl)
theorem nkD_tup {ds : List D} {ks : List NestedKey} (h : nkDs ds = some ks) : nkD (.tuple ds) = some (.tup ks) := by
  simp only [nkD, h, Option.map_some]
theorem nkDs_nil : nkDs [] = some [] := (rfl)
theorem nkDs_cons {d : D} {ds : List D} {k : NestedKey} {ks : List NestedKey} (h : nkD d = some k) (h2 : nkDs ds = some ks) : nkDs (d :: ds) = some (k :: ks) := by
  simp only [nkDs, h, h2]
theorem nkDs_map {α : Type} {enc : α → D} {kf : α → NestedKey} : ∀ {xs : List α}, (∀ x ∈ xs, nkD (enc x) = some (kf x)) → nkDs (xs.map enc) = some (xs.map kf)
  | [], _ => rfl
  | x :: xs, h => nkDs_cons (h x List.mem_cons_self) (nkDs_map fun y hy => h y (List.mem_cons_of_mem _ hy))
theorem nkDs_nats (xs : List Nat) : nkDs (xs.map nD) = some (xs.map fun n : Nat => NestedKey.num (n : Int)) := nkDs_map fun x _ => nkD_nat x
theorem depthAll_le {d : Nat} : ∀ {ks : List NestedKey}, (∀ k ∈ ks, k.depth ≤ d) → NestedKey.depthAll ks ≤ d
  | [], _ => Nat.zero_le _
  | k :: ks, h => by
    simp only [NestedKey.depthAll]
    exact Nat.max_le.mpr ⟨h k List.mem_cons_self, depthAll_le fun y hy => h y (List.mem_cons_of_mem _ hy)⟩
theorem nums_inj {xs ys : List Nat} (h : (xs.map fun n : Nat => NestedKey.num (n : Int)) = ys.map fun n : Nat => NestedKey.num (n : Int)) : xs = ys := by
  induction xs generalizing ys with
  | nil =>
    cases ys with
    | nil => rfl
    | cons _ _ => cases h
  | cons x xs ih =>
    cases ys with
    | nil => cases h
    | cons y ys =>
      simp only [List.map_cons, List.cons.injEq, NestedKey.num.injEq, Int.ofNat_inj] at h
      rw [h.1, ih h.2]
/-- a way to write things as keys -/
structure NKey {α : Type} (enc : α → D) : Prop where
  tup : ∀ x, ∃ ds, enc x = .tuple ds
  key : ∀ x, ∃ k : NestedKey, nkD (enc x) = some k ∧ k.depth ≤ 8
  inj : ∀ x y, nkD (enc x) = nkD (enc y) → x = y
theorem NKey.ok {α : Type} {enc : α → D} (h : NKey enc) (x : α) : nkOk (enc x) = true := by
  obtain ⟨ds, e⟩ := h.tup x
  obtain ⟨k, e2, hd⟩ := h.key x
  unfold nkOk
  rw [e2, e]
  simp only [isT, Bool.true_and]
  exact decide_eq_true hd
theorem NKey.look {α : Type} [DecidableEq α] {enc : α → D} (h : NKey enc) (y : α) : ∀ L : List (α × D), lookN (L.map fun p => (enc p.1, p.2)) (enc y) = (L.find? fun p => decide (p.1 = y)).map (·.2)
  | [] => rfl
  | p :: L => by
    have ih := h.look y L
    unfold lookN at ih ⊢
    rw [List.map_cons, List.find?_cons, List.find?_cons]
    have e : decide (nkD (enc p.1) = nkD (enc y)) = decide (p.1 = y) := decide_eq_decide.mpr ⟨h.inj _ _, fun z => by rw [z]⟩
    simp only [e]
    cases decide (p.1 = y) with
    | true => rfl
    | false => exact ih
theorem NKey.put_new {α : Type} [DecidableEq α] {enc : α → D} (h : NKey enc) {y : α} {v : D} {L : List (α × D)} (hn : ∀ p ∈ L, p.1 ≠ y) : putN (L.map fun p => (enc p.1, p.2)) (enc y) v = (L ++ [(y, v)]).map fun p => (enc p.1, p.2) := by
  have e : (L.find? fun p => decide (p.1 = y)) = none := List.find?_eq_none.mpr fun p hp => by
    rw [decide_eq_true_eq]
    exact hn p hp
  unfold putN
  rw [h.look y L, e, List.map_append]
  rfl
/-- a set of keys: each value True -/
def kTN {α : Type} (enc : α → D) (xs : List α) : List (D × D) := xs.map fun x => (enc x, .bool true)
def addK {α : Type} [DecidableEq α] (xs : List α) (x : α) : List α := if x ∈ xs then xs else xs ++ [x]
theorem addK_mem {α : Type} [DecidableEq α] {xs : List α} {x y : α} : y ∈ addK xs x ↔ y ∈ xs ∨ y = x := by
  unfold addK
  split
  · rename_i h
    exact ⟨.inl, fun z => z.elim id fun e => e ▸ h⟩
  · rw [List.mem_append, List.mem_singleton]
theorem addK_nodup {α : Type} [DecidableEq α] {xs : List α} (h : xs.Nodup) (x : α) : (addK xs x).Nodup := by
  unfold addK
  split
  · exact h
  · rename_i hx
    rw [List.nodup_append]
    refine ⟨h, by simp, fun a ha b hb => ?_⟩
    rw [List.mem_singleton] at hb
    rw [hb]
    exact fun e => hx (e ▸ ha)
theorem addK_len {α : Type} [DecidableEq α] (xs : List α) (x : α) : (addK xs x).length ≤ xs.length + 1 := by
  unfold addK
  split
  · exact Nat.le_succ _
  · rw [List.length_append]
    exact Nat.le_refl _
theorem NKey.putT {α : Type} [DecidableEq α] {enc : α → D} (h : NKey enc) (xs : List α) (x : α) : putN (kTN enc xs) (enc x) (.bool true) = kTN enc (addK xs x) := by
  have ek : ∀ xs : List α, kTN enc xs = (xs.map fun x => (x, PyData.bool true)).map fun p => (enc p.1, p.2) := fun xs => by
    unfold kTN
    rw [List.map_map]
    rfl
  unfold addK
  split
  · rename_i hx
    unfold putN
    have e : (lookN (kTN enc xs) (enc x)).isSome = true := by
      rw [ek, h.look x, Option.isSome_map, List.find?_isSome]
      exact ⟨(x, .bool true), List.mem_map.mpr ⟨x, hx, rfl⟩, decide_eq_true rfl⟩
    rw [if_pos e]
    unfold kTN
    rw [List.map_map]
    apply List.map_congr_left
    intro a _
    show (if nkD (enc a) = nkD (enc x) then (enc a, PyData.bool true) else (enc a, PyData.bool true)) = _
    split <;> rfl
  · rename_i hx
    rw [ek, h.put_new]
    · unfold kTN
      rw [List.map_append, List.map_append, List.map_map]
      rfl
    · intro p hp
      obtain ⟨a, ha, rfl⟩ := List.mem_map.mp hp
      exact fun e => hx (e ▸ ha)
theorem kTN_keys {α : Type} (enc : α → D) (xs : List α) : (kTN enc xs).map (·.1) = xs.map enc := by
  unfold kTN
  rw [List.map_map]
  rfl
theorem kTN_len {α : Type} (enc : α → D) (xs : List α) : (kTN enc xs).length = xs.length := by
  unfold kTN
  rw [List.length_map]
theorem deq_bool (a b : Bool) : deq (.bool a) (.bool b) = .ok (a == b) := by
  have h : ∀ k : Bool, SeqAt.shaped (.bool k) = true := fun k => rfl
  simp only [deq, h, PyData.eqv, Bool.and_self, if_true]
theorem b1D_sortedD (ds : List (D × D)) (ns : List Int) (h : intsD (ds.map (·.1)) = some ns) : b1D .sorted (.dict ds) = .ok ⟨.o, .list ((sortI ns).map .int)⟩ := by
  simp only [b1D, h]
/-- a loop that looks for the first one and hands back what belongs to it -/
theorem forGo_first {α : Type} {B : D → Rho → M Rho} {C : Rho → M Fl} (g : α → D) (p : α → Bool) (P : Rho → Prop) (s : α → Sl) : ∀ (l : List α) (ρ : Rho), P ρ →
    (∀ a ∈ l, ∀ ρ, P ρ → (p a = true → (B (g a) ρ >>= C) = .ok (.rt (s a))) ∧ (p a = false → NX (B (g a) ρ >>= C) P)) →
    (∀ a, l.find? p = some a → forGo B C (l.map g) ρ = .ok (.rt (s a))) ∧ (l.find? p = none → NX (forGo B C (l.map g) ρ) P)
  | [], ρ, h, _ => ⟨fun a z => by simp at z, fun _ => ⟨ρ, rfl, h⟩⟩
  | a :: l, ρ, h, hs => by
    obtain ⟨h1, h2⟩ := hs a List.mem_cons_self ρ h
    have ih := forGo_first (B := B) (C := C) g p P s l
    rw [List.find?_cons]
    cases hp : p a with
    | true =>
      refine ⟨fun b z => ?_, fun z => by cases z⟩
      cases z
      obtain ⟨ρ1, e1, e2⟩ := bind_ok (h1 hp)
      simp only [List.map_cons, forGo, e1, e2, ok_bind]
    | false =>
      obtain ⟨ρ2, e, q⟩ := h2 hp
      obtain ⟨ρ1, e1, e2⟩ := bind_ok e
      obtain ⟨i1, i2⟩ := ih ρ2 q fun b hb => hs b (List.mem_cons_of_mem _ hb)
      simp only [List.map_cons, forGo, e1, e2, ok_bind]
      exact ⟨i1, i2⟩
theorem first_fin {α : Type} {B : D → Rho → M Rho} {C : Rho → M Fl} {l : List α} {ρ : Rho} {k : Fl → M Fl} {r : M Sl} (g : α → D) (p : α → Bool) (P : Rho → Prop) (s : α → Sl) (h0 : P ρ)
    (hs : ∀ a ∈ l, ∀ ρ, P ρ → (p a = true → (B (g a) ρ >>= C) = .ok (.rt (s a))) ∧ (p a = false → NX (B (g a) ρ >>= C) P))
    (h1 : ∀ a, l.find? p = some a → fin (k (.rt (s a))) = r) (h2 : l.find? p = none → ∀ ρ', P ρ' → fin (k (.nx ρ')) = r) : fin (forGo B C (l.map g) ρ >>= k) = r := by
  obtain ⟨a, b⟩ := forGo_first g p P s l ρ h0 hs
  cases h : l.find? p with
  | some x => rw [a x h]; exact h1 x h
  | none =>
    obtain ⟨ρ', e, q⟩ := b h
    rw [e]
    exact h2 h ρ' q
theorem cutD_hi' (xs : List D) (k : Nat) : cutD xs none (some (k : Int)) = xs.take k := by
  unfold cutD
  rw [HT.sIx_none, HT.sIx_nat, List.drop_zero, Nat.sub_zero]
  rcases Nat.le_total k xs.length with h | h
  · rw [Nat.min_eq_left h]
  · rw [Nat.min_eq_right h, List.take_of_length_le (Nat.le_refl _), List.take_of_length_le h]
theorem cutD_lo' (xs : List D) (k : Nat) : cutD xs (some (k : Int)) none = xs.drop k := by
  unfold cutD
  rw [HT.sIx_none, HT.sIx_nat, List.take_of_length_le (by rw [List.length_drop]; omega)]
  rcases Nat.le_total k xs.length with h | h
  · rw [Nat.min_eq_left h]
  · rw [Nat.min_eq_right h, List.drop_of_length_le (Nat.le_refl _), List.drop_of_length_le h]
/-! sorting whole numbers -/
def insN' (i : Nat) : List Nat → List Nat
  | [] => [i]
  | j :: r => if i ≤ j then i :: j :: r else j :: insN' i r
def sortN : List Nat → List Nat
  | [] => []
  | i :: r => insN' i (sortN r)
theorem insI_nat (i : Nat) : ∀ l : List Nat, insI (i : Int) (l.map fun n : Nat => (n : Int)) = (insN' i l).map fun n : Nat => (n : Int)
  | [] => rfl
  | j :: r => by
    rw [List.map_cons]
    unfold insI insN'
    by_cases h : i ≤ j
    · rw [if_pos h, if_pos (by omega)]
      rfl
    · rw [if_neg h, if_neg (by omega), insI_nat i r]
      rfl
theorem sortI_nat : ∀ l : List Nat, sortI (l.map fun n : Nat => (n : Int)) = (sortN l).map fun n : Nat => (n : Int)
  | [] => rfl
  | i :: r => by
    rw [List.map_cons]
    unfold sortI sortN
    rw [sortI_nat r, insI_nat]
theorem insN'_perm (i : Nat) : ∀ l : List Nat, (insN' i l).Perm (i :: l)
  | [] => .refl _
  | j :: r => by
    unfold insN'
    split
    · exact .refl _
    · exact (List.Perm.cons j (insN'_perm i r)).trans (.swap i j r)
theorem sortN_perm : ∀ l : List Nat, (sortN l).Perm l
  | [] => .refl _
  | i :: r => (insN'_perm i (sortN r)).trans (.cons i (sortN_perm r))
theorem b1D_sortN (xs : List Nat) : b1D .sorted (.list (xs.map nD)) = .ok ⟨.o, .list ((sortN xs).map nD)⟩ := by
  rw [b1D_sorted _ _ (intsD_nats xs), sortI_nat, map_nD]
theorem b1D_sortM (xs : List Nat) : b1D .sorted (.dict (xs.map kT)) = .ok ⟨.o, .list ((sortN xs).map nD)⟩ := by
  have e : (xs.map kT).map (·.1) = xs.map nD := by
    rw [List.map_map]
    rfl
  rw [b1D_sortedD _ (xs.map fun n : Nat => (n : Int)) (by rw [e]; exact intsD_nats xs), sortI_nat, map_nD]
theorem b1D_sortK (xs : List Nat) (_ : xs.length < 64) : b1D .sorted (.dict (xs.map kT)) = .ok ⟨.o, .list ((sortN xs).map nD)⟩ := b1D_sortM xs
theorem addN_mem {x y : Nat} {xs : List Nat} : y ∈ addN xs x ↔ y ∈ xs ∨ y = x := by
  unfold addN
  split
  · rename_i h
    exact ⟨.inl, fun z => z.elim id fun e => e ▸ h⟩
  · rw [List.mem_append, List.mem_singleton]
theorem addN_len (xs : List Nat) (x : Nat) : (addN xs x).length ≤ xs.length + 1 := by
  unfold addN
  split
  · omega
  · rw [List.length_append]
    exact Nat.le_refl _
theorem foldN_mem {y : Nat} : ∀ (l xs : List Nat), y ∈ l.foldl addN xs ↔ y ∈ xs ∨ y ∈ l
  | [], xs => by simp
  | x :: l, xs => by
    rw [List.foldl_cons, foldN_mem l, addN_mem, List.mem_cons]
    constructor
    · rintro ((h | h) | h)
      · exact .inl h
      · exact .inr (.inl h)
      · exact .inr (.inr h)
    · rintro (h | h | h)
      · exact .inl (.inl h)
      · exact .inl (.inr h)
      · exact .inr h
theorem foldN_len : ∀ (l xs : List Nat), (l.foldl addN xs).length ≤ xs.length + l.length
  | [], xs => by simp
  | x :: l, xs => by
    rw [List.foldl_cons, List.length_cons]
    have := foldN_len l (addN xs x)
    have := addN_len xs x
    omega
/-- whiles: a count falls -/
theorem whlGo_cnt {T : Rho → M Bool} {C : Rho → M Fl} (P : Nat → Rho → Prop) (Q : Rho → Prop) (ht : ∀ n ρ, P n ρ → (T ρ = .ok false ∧ Q ρ) ∨ (T ρ = .ok true ∧ NX (C ρ) fun ρ' => ∃ m, m < n ∧ P m ρ')) : ∀ (k n : Nat) (ρ : Rho), P n ρ → n < k → NX (whlGo T C k ρ) Q
  | 0, _, _, _, h => absurd h (Nat.not_lt_zero _)
  | k + 1, n, ρ, h, hn => by
    rcases ht n ρ h with ⟨e, q⟩ | ⟨e, ρ', e2, m, hm, h2⟩
    · exact ⟨ρ, by simp only [whlGo, e, ok_bind]; rfl, q⟩
    · obtain ⟨ρ2, e3, q⟩ := whlGo_cnt P Q ht k m ρ' h2 (by omega)
      exact ⟨ρ2, by simp only [whlGo, e, ok_bind, e2, if_pos, e3], q⟩
theorem whl_feN {T : Rho → M Bool} {C : Rho → M Fl} {k : Nat} {ρ : Rho} {c : Fl → M Fl} {R : Sl → Prop} (P : Nat → Rho → Prop) (Q : Rho → Prop) (n : Nat) (h0 : P n ρ) (hn : n < k)
    (ht : ∀ n ρ, P n ρ → (T ρ = .ok false ∧ Q ρ) ∨ (T ρ = .ok true ∧ NX (C ρ) fun ρ' => ∃ m, m < n ∧ P m ρ')) (hk : ∀ ρ', Q ρ' → FE (fin (c (.nx ρ'))) R) : FE (fin (whlGo T C k ρ >>= c)) R := by
  obtain ⟨ρ', e, h⟩ := whlGo_cnt P Q ht k n ρ h0 hn
  rw [e]
  exact hk ρ' h
/-- numbers below n, each once: at most n -/
theorem nodup_len : ∀ (n : Nat) (l : List Nat), l.Nodup → (∀ x ∈ l, x < n) → l.length ≤ n
  | 0, l, _, h => by
    cases l with
    | nil => exact Nat.le_refl _
    | cons x l => exact absurd (h x List.mem_cons_self) (Nat.not_lt_zero _)
  | n + 1, l, nd, h => by
    have ih := nodup_len n (l.filter (· != n)) (nd.filter _) fun x hx => by
      rw [List.mem_filter] at hx
      have := h x hx.1
      have := hx.2
      simp at this
      omega
    have : ∀ l : List Nat, l.Nodup → l.length ≤ (l.filter (· != n)).length + 1 := by
      intro l
      induction l with
      | nil => intro _; simp
      | cons x l ih =>
        intro nd
        obtain ⟨n1, n2⟩ := List.nodup_cons.mp nd
        rw [List.filter_cons]
        split
        · rw [List.length_cons, List.length_cons]
          have := ih n2
          omega
        · rename_i hx
          have hx' : x = n := by simpa using hx
          subst hx'
          have e : l.filter (· != x) = l := by
            rw [List.filter_eq_self]
            intro y hy
            have : y ≠ x := fun z => n1 (z ▸ hy)
            simpa using this
          rw [e, List.length_cons]
          exact Nat.le_refl _
    have := this l nd
    omega
theorem cutD_both' (xs : List D) (i k : Nat) (h : k ≤ xs.length) (hi : i ≤ xs.length) : cutD xs (some (i : Int)) (some (k : Int)) = (xs.drop i).take (k - i) := cutD_both hi h
theorem addN_nodup {xs : List Nat} (h : xs.Nodup) (x : Nat) : (addN xs x).Nodup := by
  unfold addN
  split
  · exact h
  · rename_i hx
    rw [List.nodup_append]
    refine ⟨h, by simp, fun a ha b hb => ?_⟩
    rw [List.mem_singleton] at hb
    subst hb
    exact fun z => hx (z ▸ ha)
theorem insN'_sorted (i : Nat) : ∀ l : List Nat, l.Pairwise (· ≤ ·) → (insN' i l).Pairwise (· ≤ ·)
  | [], _ => by simp [insN']
  | j :: r, h => by
    unfold insN'
    obtain ⟨h1, h2⟩ := List.pairwise_cons.mp h
    split
    · rename_i c
      refine List.pairwise_cons.mpr ⟨fun k hk => ?_, h⟩
      rcases List.mem_cons.mp hk with e | hk
      · rw [e]; exact c
      · exact Nat.le_trans c (h1 k hk)
    · rename_i c
      refine List.pairwise_cons.mpr ⟨fun k hk => ?_, insN'_sorted i r h2⟩
      rcases List.mem_cons.mp ((insN'_perm i r).mem_iff.mp hk) with e | hk
      · rw [e]; omega
      · exact h1 k hk
theorem sortN_sorted : ∀ l : List Nat, (sortN l).Pairwise (· ≤ ·)
  | [] => .nil
  | i :: r => insN'_sorted i _ (sortN_sorted r)
theorem sortedN_uniq : ∀ {l m : List Nat}, l.Perm m → l.Pairwise (· ≤ ·) → m.Pairwise (· ≤ ·) → l = m
  | [], m, p, _, _ => (List.Perm.nil_eq p)
  | a :: l, [], p, _, _ => absurd p.length_eq (by simp)
  | a :: l, b :: m, p, h1, h2 => by
    obtain ⟨a1, a2⟩ := List.pairwise_cons.mp h1
    obtain ⟨b1, b2⟩ := List.pairwise_cons.mp h2
    have e : a = b := by
      have m1 : a ∈ b :: m := p.mem_iff.mp List.mem_cons_self
      have m2 : b ∈ a :: l := p.mem_iff.mpr List.mem_cons_self
      rcases List.mem_cons.mp m1 with e | m1
      · exact e
      · rcases List.mem_cons.mp m2 with e | m2
        · exact e.symm
        · have := a1 b m2
          have := b1 a m1
          omega
    subst e
    rw [sortedN_uniq (List.Perm.cons_inv p) a2 b2]
theorem nodup_perm : ∀ {l m : List Nat}, l.Nodup → m.Nodup → (∀ x, x ∈ l ↔ x ∈ m) → l.Perm m
  | [], m, _, _, h => by
    cases m with
    | nil => exact .refl _
    | cons x m => exact absurd ((h x).mpr List.mem_cons_self) (by simp)
  | a :: l, m, h1, h2, h => by
    obtain ⟨n1, n2⟩ := List.nodup_cons.mp h1
    have ha : a ∈ m := (h a).mp List.mem_cons_self
    have p := List.perm_cons_erase ha
    refine (List.Perm.cons a (nodup_perm n2 (h2.erase a) fun x => ?_)).trans p.symm
    rw [h2.mem_erase_iff]
    constructor
    · intro hx
      exact ⟨fun z => n1 (z ▸ hx), (h x).mp (List.mem_cons_of_mem _ hx)⟩
    · rintro ⟨hne, hx⟩
      exact (List.mem_cons.mp ((h x).mpr hx)).resolve_left hne
theorem sortN_eq {l m : List Nat} (h1 : l.Nodup) (h2 : m.Nodup) (h : ∀ x, x ∈ l ↔ x ∈ m) : sortN l = sortN m :=
  sortedN_uniq ((sortN_perm l).trans ((nodup_perm h1 h2 h).trans (sortN_perm m).symm)) (sortN_sorted l) (sortN_sorted m)
theorem sortN_mem {x : Nat} {l : List Nat} : x ∈ sortN l ↔ x ∈ l := (sortN_perm l).mem_iff
/-! ### sorted(set(xs)), tables -/
theorem gdxD_str {kvs : List (Str × D)} {z : Str} {d : D} (h : kvs.lookup z = some d) : gdxD kvs (.str z) = .ok ⟨.f, d⟩ := by
  unfold gdxD
  simp only [h]
def dedN : List Nat → List Nat
  | [] => []
  | i :: r => if i ∈ r then dedN r else i :: dedN r
theorem dedN_mem {k : Nat} : ∀ {l : List Nat}, k ∈ dedN l ↔ k ∈ l
  | [] => Iff.rfl
  | i :: r => by
    unfold dedN
    split
    · rename_i h
      rw [dedN_mem, List.mem_cons]
      exact ⟨.inr, fun z => z.elim (fun e => e ▸ h) id⟩
    · rw [List.mem_cons, List.mem_cons, dedN_mem]
theorem dedN_nodup : ∀ l : List Nat, (dedN l).Nodup
  | [] => List.nodup_nil
  | i :: r => by
    unfold dedN
    split
    · exact dedN_nodup r
    · rename_i h
      exact List.nodup_cons.mpr ⟨fun z => h (dedN_mem.mp z), dedN_nodup r⟩
theorem dedN_len : ∀ l : List Nat, (dedN l).length ≤ l.length
  | [] => Nat.le_refl _
  | i :: r => by
    unfold dedN
    split
    · exact Nat.le_succ_of_le (dedN_len r)
    · exact Nat.succ_le_succ (dedN_len r)
theorem dedI_nat : ∀ l : List Nat, dedI (l.map fun n : Nat => (n : Int)) = (dedN l).map fun n : Nat => (n : Int)
  | [] => rfl
  | i :: r => by
    have e : ((i : Int) ∈ r.map fun n : Nat => (n : Int)) ↔ i ∈ r := by
      constructor
      · intro h
        obtain ⟨j, hj, ej⟩ := List.mem_map.mp h
        exact (Int.ofNat_inj.mp ej) ▸ hj
      · exact fun h => List.mem_map.mpr ⟨i, h, rfl⟩
    rw [List.map_cons, dedI, dedN, dedI_nat r]
    by_cases h : i ∈ r
    · rw [if_pos h, if_pos (e.mpr h)]
    · rw [if_neg h, if_neg fun z => h (e.mp z)]
      rfl
/-- sorted(set(xs)) -/
def sstN (xs : List Nat) : List Nat := sortN (dedN xs)
theorem sstN_mem {x : Nat} {xs : List Nat} : x ∈ sstN xs ↔ x ∈ xs := sortN_mem.trans dedN_mem
theorem sstN_nodup (xs : List Nat) : (sstN xs).Nodup := (sortN_perm _).nodup_iff.mpr (dedN_nodup xs)
theorem sstN_sorted (xs : List Nat) : (sstN xs).Pairwise (· ≤ ·) := sortN_sorted _
theorem sstN_len (xs : List Nat) : (sstN xs).length ≤ xs.length := by
  unfold sstN
  rw [(sortN_perm _).length_eq]
  exact dedN_len xs
theorem sstN_eq {xs ys : List Nat} (h : ∀ x, x ∈ xs ↔ x ∈ ys) : sstN xs = sstN ys := sortN_eq (dedN_nodup xs) (dedN_nodup ys) fun x => dedN_mem.trans ((h x).trans dedN_mem.symm)
theorem sstN_sort {xs ys : List Nat} (hn : ys.Nodup) (h : ∀ x, x ∈ xs ↔ x ∈ ys) : sstN xs = sortN ys := sortN_eq (dedN_nodup xs) hn fun x => dedN_mem.trans (h x)
theorem sstD_list (xs : List Nat) (h : xs.length < 4000) : sstD (.list (xs.map nD)) = .ok ⟨.o, .list ((sstN xs).map nD)⟩ := by
  have e := intsD_nats xs
  unfold sstD
  simp only [itemsD, e, List.length_map, h, if_true, dedI_nat, sortI_nat]
  rw [map_nD]
  rfl
theorem sstD_tup (xs : List Nat) (h : xs.length < 4000) : sstD (.tuple (xs.map nD)) = .ok ⟨.o, .list ((sstN xs).map nD)⟩ := by
  have e := intsD_nats xs
  unfold sstD
  simp only [itemsD, e, List.length_map, h, if_true, dedI_nat, sortI_nat]
  rw [map_nD]
  rfl
end GK

namespace GK
open PySem
theorem isx_GateError (c : Str) : isxS ⟨.f, xcD c⟩ "GateError" = .ok (fB (xsub c "GateError")) := isxS_xc c _ (by decide +kernel)
theorem xin_GateError : xall.contains "GateError" = true := by decide +kernel
theorem isx_NoRelation (c : Str) : isxS ⟨.f, xcD c⟩ "NoRelation" = .ok (fB (xsub c "NoRelation")) := isxS_xc c _ (by decide +kernel)
theorem xin_NoRelation : xall.contains "NoRelation" = true := by decide +kernel
theorem isx_TooMany (c : Str) : isxS ⟨.f, xcD c⟩ "TooMany" = .ok (fB (xsub c "TooMany")) := isxS_xc c _ (by decide +kernel)
theorem xin_TooMany : xall.contains "TooMany" = true := by decide +kernel
theorem isx_TooBig (c : Str) : isxS ⟨.f, xcD c⟩ "TooBig" = .ok (fB (xsub c "TooBig")) := isxS_xc c _ (by decide +kernel)
theorem xin_TooBig : xall.contains "TooBig" = true := by decide +kernel
theorem isx_NotAll (c : Str) : isxS ⟨.f, xcD c⟩ "NotAll" = .ok (fB (xsub c "NotAll")) := isxS_xc c _ (by decide +kernel)
theorem xin_NotAll : xall.contains "NotAll" = true := by decide +kernel
theorem isx_NotMade (c : Str) : isxS ⟨.f, xcD c⟩ "NotMade" = .ok (fB (xsub c "NotMade")) := isxS_xc c _ (by decide +kernel)
theorem xin_NotMade : xall.contains "NotMade" = true := by decide +kernel
theorem isx_NoText (c : Str) : isxS ⟨.f, xcD c⟩ "NoText" = .ok (fB (xsub c "NoText")) := isxS_xc c _ (by decide +kernel)
theorem xin_NoText : xall.contains "NoText" = true := by decide +kernel
theorem isx_NoName (c : Str) : isxS ⟨.f, xcD c⟩ "NoName" = .ok (fB (xsub c "NoName")) := isxS_xc c _ (by decide +kernel)
theorem xin_NoName : xall.contains "NoName" = true := by decide +kernel
theorem isx_NoRow (c : Str) : isxS ⟨.f, xcD c⟩ "NoRow" = .ok (fB (xsub c "NoRow")) := isxS_xc c _ (by decide +kernel)
theorem xin_NoRow : xall.contains "NoRow" = true := by decide +kernel
theorem isx_ValueError (c : Str) : isxS ⟨.f, xcD c⟩ "ValueError" = .ok (fB (xsub c "ValueError")) := isxS_xc c _ (by decide +kernel)
theorem xin_ValueError : xall.contains "ValueError" = true := by decide +kernel
theorem xs_NoRelation_GateError : xsub "NoRelation" "GateError" = true := by decide +kernel
theorem xs_NoRelation_NoRelation : xsub "NoRelation" "NoRelation" = true := by decide +kernel
theorem xs_NoRelation_TooMany : xsub "NoRelation" "TooMany" = false := by decide +kernel
theorem xs_NoRelation_TooBig : xsub "NoRelation" "TooBig" = false := by decide +kernel
theorem xs_NoRelation_NotAll : xsub "NoRelation" "NotAll" = false := by decide +kernel
theorem xs_NoRelation_NotMade : xsub "NoRelation" "NotMade" = false := by decide +kernel
theorem xs_NoRelation_NoText : xsub "NoRelation" "NoText" = false := by decide +kernel
theorem xs_NoRelation_NoName : xsub "NoRelation" "NoName" = false := by decide +kernel
theorem xs_NoRelation_NoRow : xsub "NoRelation" "NoRow" = false := by decide +kernel
theorem xs_NoRelation_ValueError : xsub "NoRelation" "ValueError" = true := by decide +kernel
theorem xs_TooMany_GateError : xsub "TooMany" "GateError" = true := by decide +kernel
theorem xs_TooMany_NoRelation : xsub "TooMany" "NoRelation" = false := by decide +kernel
theorem xs_TooMany_TooMany : xsub "TooMany" "TooMany" = true := by decide +kernel
theorem xs_TooMany_TooBig : xsub "TooMany" "TooBig" = false := by decide +kernel
theorem xs_TooMany_NotAll : xsub "TooMany" "NotAll" = false := by decide +kernel
theorem xs_TooMany_NotMade : xsub "TooMany" "NotMade" = false := by decide +kernel
theorem xs_TooMany_NoText : xsub "TooMany" "NoText" = false := by decide +kernel
theorem xs_TooMany_NoName : xsub "TooMany" "NoName" = false := by decide +kernel
theorem xs_TooMany_NoRow : xsub "TooMany" "NoRow" = false := by decide +kernel
theorem xs_TooMany_ValueError : xsub "TooMany" "ValueError" = true := by decide +kernel
theorem xs_TooBig_GateError : xsub "TooBig" "GateError" = true := by decide +kernel
theorem xs_TooBig_NoRelation : xsub "TooBig" "NoRelation" = false := by decide +kernel
theorem xs_TooBig_TooMany : xsub "TooBig" "TooMany" = false := by decide +kernel
theorem xs_TooBig_TooBig : xsub "TooBig" "TooBig" = true := by decide +kernel
theorem xs_TooBig_NotAll : xsub "TooBig" "NotAll" = false := by decide +kernel
theorem xs_TooBig_NotMade : xsub "TooBig" "NotMade" = false := by decide +kernel
theorem xs_TooBig_NoText : xsub "TooBig" "NoText" = false := by decide +kernel
theorem xs_TooBig_NoName : xsub "TooBig" "NoName" = false := by decide +kernel
theorem xs_TooBig_NoRow : xsub "TooBig" "NoRow" = false := by decide +kernel
theorem xs_TooBig_ValueError : xsub "TooBig" "ValueError" = true := by decide +kernel
end GK
namespace GK
open PySem PySem.Spec PyProof.Rows L2
section
variable {cl : Str → List Sl → M Sl} {fu : Nat} {ρ ρ' : Rho}
/-! parts that change something -/
def efD (cl : Str → List Sl → M Sl) (ρ ρ' : Rho) : Ek → Sl → M Fl
  | .asg t, v => bindT t v ρ' >>= fun ρ2 => .ok (.nx ρ2)
  | .ret, v => retS .non ρ' v >>= fun w => .ok (.rt w)
  | .exp, _ => .ok (.nx ρ')
  | .app y, v => asF v >>= fun d => ownL y ρ >>= fun _ => ownL y ρ' >>= fun ds => ifM (lenOk (ds.length + 1)) (.ok (.nx (ρ'.set y (some ⟨.o, .list (ds ++ [d])⟩)))) stk
  | .set y i, v => asF v >>= fun d => evE cl i ρ' >>= fun j => setO y ρ' d j.d
def efC (cl : Str → List Sl → M Sl) (ρ : Rho) (k : Ek) (p : Po) : Er → M Fl
  | .rz c => ifM (poX p && ekX ρ k) (.ok (.rz c ρ)) stk
  | .v s ρ' => poE ρ ρ' p s >>= efD cl ρ ρ' k
theorem exS_ef (k : Ek) (e : Ef) (p : Po) : exS cl fu (.ef k e p) ρ = efX cl e ρ >>= efC cl ρ k p := by
  simp only [exS]
  congr
  funext r
  cases r with
  | rz c => rfl
  | v s ρ' => cases k <;> rfl
def efT (cl : Str → List Sl → M Sl) (fu : Nat) (ρ : Rho) (p : Po) (a b : Ss) : Er → M Fl
  | .rz c => ifM (poX p) (.ok (.rz c ρ)) stk
  | .v s ρ' => poE ρ ρ' p s >>= fun v => asB v.d >>= fun c => ifM c (exSs cl fu a ρ') (exSs cl fu b ρ')
theorem exS_eft (e : Ef) (p : Po) (a b : Ss) : exS cl fu (.eft e p a b) ρ = efX cl e ρ >>= efT cl fu ρ p a b := by
  simp only [exS]
  congr
theorem efC_rz (k : Ek) (p : Po) (c : Str) : efC cl ρ k p (.rz c) = ifM (poX p && ekX ρ k) (.ok (.rz c ρ)) stk := (rfl)
theorem efC_v (k : Ek) (p : Po) (s : Sl) : efC cl ρ k p (.v s ρ') = poE ρ ρ' p s >>= efD cl ρ ρ' k := (rfl)
theorem efT_rz (p : Po) (a b : Ss) (c : Str) : efT cl fu ρ p a b (.rz c) = ifM (poX p) (.ok (.rz c ρ)) stk := (rfl)
theorem efT_v (p : Po) (a b : Ss) (s : Sl) : efT cl fu ρ p a b (.v s ρ') = poE ρ ρ' p s >>= fun v => asB v.d >>= fun c => ifM c (exSs cl fu a ρ') (exSs cl fu b ρ') := (rfl)
theorem efD_asg (t : Tg) (v : Sl) : efD cl ρ ρ' (.asg t) v = bindT t v ρ' >>= fun ρ2 => .ok (.nx ρ2) := (rfl)
theorem efD_ret (v : Sl) : efD cl ρ ρ' .ret v = retS .non ρ' v >>= fun w => .ok (.rt w) := (rfl)
theorem efD_exp (v : Sl) : efD cl ρ ρ' .exp v = .ok (.nx ρ') := (rfl)
theorem efD_app (y : Nat) (v : Sl) : efD cl ρ ρ' (.app y) v = asF v >>= fun d => ownL y ρ >>= fun _ => ownL y ρ' >>= fun ds => ifM (lenOk (ds.length + 1)) (.ok (.nx (ρ'.set y (some ⟨.o, .list (ds ++ [d])⟩)))) stk := (rfl)
theorem efD_set (y : Nat) (i : E) (v : Sl) : efD cl ρ ρ' (.set y i) v = asF v >>= fun d => evE cl i ρ' >>= fun j => setO y ρ' d j.d := (rfl)
theorem efX_call (f : Str) (es : Es) : efX cl (.call f es) ρ = evA cl es ρ >>= fun ss => efG ρ (cl f ss) := (rfl)
theorem efX_pk (f g : Str) (c : E) (es : Es) : efX cl (.pk f g c es) ρ = evE cl c ρ >>= fun z => asB z.d >>= fun k => evA cl es ρ >>= fun ss => efG ρ (cl (if k then g else f) ss) := (rfl)
theorem efX_pop (x : Nat) : efX cl (.pop x) ρ = popG x ρ := (rfl)
def lxL : Xr (List D) → M (Xr Sl)
  | .v ys => .ok (.v ⟨.o, .list ys⟩)
  | .rz c => .ok (.rz c)
def lxT : Xr (List D) → M (Xr Sl)
  | .v ys => b1D .tuple (.list ys) >>= fun s => .ok (.v s)
  | .rz c => .ok (.rz c)
def xsK (d : D) : Xr (List D) → M (Xr (List D))
  | .v ds => .ok (.v (d :: ds))
  | .rz c => .ok (.rz c)
def xsC (cl : Str → List Sl → M Sl) (xs : List Xa) (ρ : Rho) : Xr Sl → M (Xr (List D))
  | .v s => asF s >>= fun d => evXs cl xs ρ >>= xsK d
  | .rz c => .ok (.rz c)
def xtK : Xr (List D) → M (Xr Sl)
  | .v ds => ifM (decide (ds.length ≤ 1000)) (.ok (.v ⟨.f, .tuple ds⟩)) stk
  | .rz c => .ok (.rz c)
def ltK : Xr Sl → M (Xr D)
  | .v s => asF s >>= fun d => .ok (.v d)
  | .rz c => .ok (.rz c)
theorem efX_xe (x : Xe) : efX cl (.xe x) ρ = evXe cl x ρ >>= erX ρ := (rfl)
theorem erX_v (s : Sl) : erX ρ (.v s) = .ok (.v s ρ) := (rfl)
theorem erX_rz (c : Str) : erX ρ (.rz c) = .ok (.rz c) := (rfl)
theorem evXe_a (x : Xa) : evXe cl (.a x) ρ = evXa cl x ρ := (rfl)
theorem evXe_t (xs : List Xa) : evXe cl (.t xs) ρ = evXs cl xs ρ >>= xtK := by
  simp only [evXe]
  congr
  funext r
  cases r <;> rfl
theorem evXa_p (e : E) : evXa cl (.p e) ρ = evE cl e ρ >>= fun s => .ok (.v s) := (rfl)
theorem evXa_c (f : Str) (es : Es) : evXa cl (.c f es) ρ = evA cl es ρ >>= fun ss => callG (cl f ss) := (rfl)
theorem evXa_l (f : Str) (es : Es) (i : Nat) (it : Iu) : evXa cl (.l f es i it) ρ = evLx cl f es i it ρ >>= lxL := by
  simp only [evXa]
  congr
  funext r
  cases r <;> rfl
theorem evXa_tl (f : Str) (es : Es) (i : Nat) (it : Iu) : evXa cl (.tl f es i it) ρ = evLx cl f es i it ρ >>= lxT := by
  simp only [evXa]
  congr
  funext r
  cases r <;> rfl
theorem evXs_nil : evXs cl [] ρ = .ok (.v []) := (rfl)
theorem evXs_cons (x : Xa) (xs : List Xa) : evXs cl (x :: xs) ρ = evXa cl x ρ >>= xsC cl xs ρ := by
  simp only [evXs]
  congr
  funext r
  cases r with
  | rz c => rfl
  | v s =>
    simp only [xsC]
    congr
    funext d
    congr
    funext q
    cases q <;> rfl
theorem xsC_v (xs : List Xa) (s : Sl) : xsC cl xs ρ (.v s) = asF s >>= fun d => evXs cl xs ρ >>= xsK d := (rfl)
theorem xsC_rz (xs : List Xa) (c : Str) : xsC cl xs ρ (.rz c) = .ok (.rz c) := (rfl)
theorem xsK_v (d : D) (ds : List D) : xsK d (.v ds) = .ok (.v (d :: ds)) := (rfl)
theorem xsK_rz (d : D) (c : Str) : xsK d (.rz c) = .ok (.rz c) := (rfl)
theorem xtK_v (ds : List D) : xtK (.v ds) = ifM (decide (ds.length ≤ 1000)) (.ok (.v ⟨.f, .tuple ds⟩)) stk := (rfl)
theorem xtK_rz (c : Str) : xtK (.rz c) = .ok (.rz c) := (rfl)
theorem lxL_v (ds : List D) : lxL (.v ds) = .ok (.v ⟨.o, .list ds⟩) := (rfl)
theorem lxL_rz (c : Str) : lxL (.rz c) = .ok (.rz c) := (rfl)
theorem lxT_v (ds : List D) : lxT (.v ds) = b1D .tuple (.list ds) >>= fun s => .ok (.v s) := (rfl)
theorem lxT_rz (c : Str) : lxT (.rz c) = .ok (.rz c) := (rfl)
theorem callG_ok (s : Sl) : callG (.ok s) = .ok (.v s) := (rfl)
theorem callG_rz (c : Str) : callG (.error (.raised c)) = .ok (.rz c) := (rfl)
theorem evLx_eq (f : Str) (es : Es) (i : Nat) (it : Iu) : evLx cl f es i it ρ = evI cl it ρ >>= fun xs => ifM (lenOk xs.length) (lcX (lcXt cl f es i ρ) xs) stk := (rfl)
theorem lcXt_eq (f : Str) (es : Es) (i : Nat) (d : D) : lcXt cl f es i ρ d = bindT (.nm i) ⟨.f, d⟩ (wipeR ρ [i]) >>= fun ρ' => evA cl es ρ' >>= fun ss => callG (cl f ss) >>= ltK := by
  unfold lcXt
  congr
  funext ρ'
  congr
  funext ss
  congr
  funext r
  cases r <;> rfl
theorem ltK_v (s : Sl) : ltK (.v s) = asF s >>= fun d => .ok (.v d) := (rfl)
theorem ltK_rz (c : Str) : ltK (.rz c) = .ok (.rz c) := (rfl)
/-- the turns of a comprehension that may raise -/
def optL {α β : Type} (h : α → Option β) : List α → Option (List β)
  | [] => some []
  | x :: xs => (h x).bind fun y => (optL h xs).map fun ys => y :: ys
def xrO {β : Type} (c : Str) (k : β → D) : Option β → Xr D
  | some y => .v (k y)
  | none => .rz c
def xrL {β : Type} (c : Str) (k : β → D) : Option (List β) → Xr (List D)
  | some ys => .v (ys.map k)
  | none => .rz c
theorem lcX_opt {α β : Type} (g : α → D) (h : α → Option β) (k : β → D) (c : Str) {f : D → M (Xr D)} : ∀ xs : List α, (∀ x ∈ xs, f (g x) = .ok (xrO c k (h x))) → lcX f (xs.map g) = .ok (xrL c k (optL h xs))
  | [], _ => rfl
  | x :: xs, H => by
    have ih := lcX_opt g h k c (f := f) xs fun y hy => H y (List.mem_cons_of_mem _ hy)
    simp only [List.map_cons, lcX, H x List.mem_cons_self, ih]
    cases e : h x with
    | none => simp only [optL, e, Option.bind_none]; rfl
    | some y =>
      simp only [optL, e, Option.bind_some]
      cases optL h xs <;> rfl
theorem efX_popA (x : Nat) (i : E) : efX cl (.popA x i) ρ = evE cl i ρ >>= fun y => popGA x ρ y.d := (rfl)
theorem efX_popK (x : Nat) (i : E) : efX cl (.popK x i) ρ = evE cl i ρ >>= fun y => popGK x ρ y.d := (rfl)
theorem efG_ok (s : Sl) : efG ρ (.ok s) = .ok (.v s ρ) := (rfl)
theorem efG_rz (c : Str) : efG ρ (.error (.raised c)) = .ok (.rz c) := (rfl)
def popL (x : Nat) (ρ : Rho) : Option (Option Sl) → M Er
  | some (some ⟨.o, .list ds⟩) => match ds[ds.length - 1]? with
    | some d => .ok (.v ⟨.f, d⟩ (ρ.set x (some ⟨.o, .list ds.dropLast⟩)))
    | none => stk
  | _ => stk
theorem popG_eq (x : Nat) : popG x ρ = popL x ρ ρ[x]? := by
  unfold popG
  cases ρ[x]? with
  | none => rfl
  | some o =>
    cases o with
    | none => rfl
    | some s => obtain ⟨m, d⟩ := s; cases m <;> cases d <;> rfl
theorem popL_snoc (x : Nat) (ds : List D) (d : D) : popL x ρ (some (some ⟨.o, .list (ds ++ [d])⟩)) = .ok (.v ⟨.f, d⟩ (ρ.set x (some ⟨.o, .list ds⟩))) := by
  have e : (ds ++ [d])[(ds ++ [d]).length - 1]? = some d := by
    rw [List.length_append]
    simp
  simp only [popL, e, List.dropLast_concat]
def popLA (x : Nat) (ρ : Rho) (i : D) : Option (Option Sl) → M Er
  | some (some ⟨.o, .list ds⟩) => match i with
    | .int k => if decide (0 ≤ k) && decide (k < 2 ^ 62) then match ds[k.toNat]? with
      | some d => .ok (.v ⟨.f, d⟩ (ρ.set x (some ⟨.o, .list (ds.eraseIdx k.toNat)⟩)))
      | none => stk
      else stk
    | _ => stk
  | _ => stk
theorem popGA_eq (x : Nat) (i : D) : popGA x ρ i = popLA x ρ i ρ[x]? := by
  unfold popGA
  cases ρ[x]? with
  | none => rfl
  | some o =>
    cases o with
    | none => rfl
    | some s => obtain ⟨m, d⟩ := s; cases m <;> cases d <;> rfl
theorem popLA_at (x : Nat) (ds : List D) (d : D) (k : Nat) (h : ds[k]? = some d) (hk : k < 2 ^ 62) : popLA x ρ (.int (k : Int)) (some (some ⟨.o, .list ds⟩)) = .ok (.v ⟨.f, d⟩ (ρ.set x (some ⟨.o, .list (ds.eraseIdx k)⟩))) := by
  have e : (decide ((0 : Int) ≤ (k : Int)) && decide ((k : Int) < 2 ^ 62)) = true := by
    rw [decide_eq_true (Int.natCast_nonneg k), decide_eq_true (show (k : Int) < 2 ^ 62 by omega)]
    rfl
  simp only [popLA, e, if_true, Int.toNat_natCast, h]
def popLK (x : Nat) (ρ : Rho) (k : D) : Option (Option Sl) → M Er
  | some (some ⟨.o, .dict ds⟩) => if keyOk k && nmk ds then match lookD ds k with
      | some d => .ok (.v ⟨.f, d⟩ (ρ.set x (some ⟨.o, .dict (dropD ds k)⟩)))
      | none => stk
      else stk
  | _ => stk
theorem popGK_eq (x : Nat) (i : D) : popGK x ρ i = popLK x ρ i ρ[x]? := by
  unfold popGK
  cases ρ[x]? with
  | none => rfl
  | some o =>
    cases o with
    | none => rfl
    | some s => obtain ⟨m, d⟩ := s; cases m <;> cases d <;> rfl
theorem popLK_at (x : Nat) (ds : List (D × D)) (k d : D) (hk : keyOk k = true) (hn : nmk ds = true) (h : lookD ds k = some d) : popLK x ρ k (some (some ⟨.o, .dict ds⟩)) = .ok (.v ⟨.f, d⟩ (ρ.set x (some ⟨.o, .dict (dropD ds k)⟩))) := by
  simp only [popLK, hk, hn, Bool.and_self, if_true, h]
theorem poE_hd (s : Sl) : poE ρ ρ' .hd s = .ok s := (rfl)
def ixL (n : Nat) : D → M Sl
  | .dict _ => stk
  | .str _ => stk
  | d => ixD d (.int (n : Int))
theorem poE_ixn (p : Po) (n : Nat) (s : Sl) : poE ρ ρ' (.ixn p n) s = poE ρ ρ' p s >>= fun x => ixL n x.d := by
  simp only [poE]
  congr
theorem ixL_tup (n : Nat) (ds : List D) : ixL n (.tuple ds) = ixD (.tuple ds) (.int (n : Int)) := (rfl)
theorem ixL_list (n : Nat) (ds : List D) : ixL n (.list ds) = ixD (.list ds) (.int (n : Int)) := (rfl)
theorem poE_isN (p : Po) (s : Sl) : poE ρ ρ' (.isN p) s = poE ρ ρ' p s >>= fun x => .ok (fB (isNone x.d)) := (rfl)
theorem poE_eqS (p : Po) (z : Str) (s : Sl) : poE ρ ρ' (.eqS p z) s = poE ρ ρ' p s >>= fun x => cmpop .Eq x.d (.str z) >>= fun b => .ok (fB b) := (rfl)
theorem poE_lst1 (p : Po) (s : Sl) : poE ρ ρ' (.lst1 p) s = poE ρ ρ' p s >>= fun x => asF x >>= fun d => .ok ⟨.o, .list [d]⟩ := (rfl)
theorem poE_tupS (z : Str) (p : Po) (s : Sl) : poE ρ ρ' (.tupS z p) s = poE ρ ρ' p s >>= fun x => asF x >>= fun d => .ok ⟨.f, .tuple [.str z, d]⟩ := (rfl)
theorem poE_opI (op : Operator) (a : Nat) (p : Po) (s : Sl) : poE ρ ρ' (.opI op a p) s = poE ρ ρ' p s >>= fun x => binop op .f (.int (a : Int)) x.d := (rfl)
def ixV (k : D) : Option (Option Sl) → Option (Option Sl) → M Sl
  | some (some _), some (some ⟨_, .dict ds⟩) => if keyOk k then ixD (.dict ds) k else stk
  | _, _ => stk
theorem poE_ixv (y : Nat) (p : Po) (s : Sl) : poE ρ ρ' (.ixv y p) s = poE ρ ρ' p s >>= fun x => ixV x.d ρ[y]? ρ'[y]? := by
  simp only [poE]
  congr
theorem ixV_int (i : Int) (s : Sl) (m : Md) (ds : List (D × D)) : ixV (.int i) (some (some s)) (some (some ⟨m, .dict ds⟩)) = ixD (.dict ds) (.int i) := (rfl)
theorem poX_hd : poX .hd = true := (rfl)
theorem poX_ixn (p : Po) (n : Nat) : poX (.ixn p n) = poX p := (rfl)
theorem poX_isN (p : Po) : poX (.isN p) = poX p := (rfl)
theorem poX_eqS (p : Po) (z : Str) : poX (.eqS p z) = poX p := (rfl)
theorem poX_tupS (z : Str) (p : Po) : poX (.tupS z p) = poX p := (rfl)
theorem poX_lst1 (p : Po) : poX (.lst1 p) = poX p := (rfl)
theorem ekX_asg (t : Tg) : ekX ρ (.asg t) = true := (rfl)
theorem ekX_app (y : Nat) : ekX ρ (.app y) = ownLB ρ[y]? := (rfl)
theorem ownLB_o (ds : List D) : ownLB (some (some ⟨.o, .list ds⟩)) = true := (rfl)
theorem ekX_ret : ekX ρ .ret = true := (rfl)
theorem ekX_exp : ekX ρ .exp = true := (rfl)
theorem ekX_set (y : Nat) (i : E) : ekX ρ (.set y i) = true := (rfl)
/-! methods, loops over dicts -/
def ownO : Option (Option Sl) → M D
  | some (some ⟨.o, d⟩) => .ok d
  | _ => stk
theorem ownD_eq (x : Nat) : ownD x ρ = ownO ρ[x]? := by
  unfold ownD
  cases ρ[x]? with
  | none => rfl
  | some o =>
    cases o with
    | none => rfl
    | some s => obtain ⟨m, d⟩ := s; cases m <;> rfl
theorem ownO_o (d : D) : ownO (some (some ⟨.o, d⟩)) = .ok d := (rfl)
theorem exS_mt0 (k : K0) (x : Nat) : exS cl fu (.mt0 k x) ρ = ownD x ρ >>= fun d => m0D k d >>= fun d' => .ok (.nx (ρ.set x (some ⟨.o, d'⟩))) := by
  simp only [exS]
  rfl
theorem exS_mt1 (k : K1) (x : Nat) (e : E) : exS cl fu (.mt1 k x e) ρ = evE cl e ρ >>= fun s => asF s >>= fun v => ownD x ρ >>= fun d => m1D k d v >>= fun d' => .ok (.nx (ρ.set x (some ⟨.o, d'⟩))) := by
  simp only [exS]
  rfl
theorem exS_mt2 (k : K2) (x : Nat) (e1 e2 : E) : exS cl fu (.mt2 k x e1 e2) ρ = evE cl e1 ρ >>= fun s => asF s >>= fun v => evE cl e2 ρ >>= fun s2 => asF s2 >>= fun v2 => ownD x ρ >>= fun d => m2D k d v v2 >>= fun d' => .ok (.nx (ρ.set x (some ⟨.o, d'⟩))) := by
  simp only [exS]
  rfl
theorem m0D_rev (xs : List D) : m0D .rev (.list xs) = .ok (.list xs.reverse) := (rfl)
theorem m0D_clr (xs : List D) : m0D .clr (.list xs) = .ok (.list []) := (rfl)
def onlyN : M Fl → M Fl
  | .ok (.nx ρ) => .ok (.nx ρ)
  | .error e => .error e
  | _ => stk
def fdkV (bind : D → Rho → M Rho) (body : Rho → M Fl) (ρ : Rho) : Option (Option Sl) → M Fl
  | some (some ⟨m, .dict ds⟩) => ifM (nmk ds && lenOk ds.length && !decide (m = .o)) (forGo bind body (ds.map (·.1)) ρ >>= onlyNx) stk
  | _ => stk
theorem exS_fdk (t : Tg) (i : Nat) (b : Ss) : exS cl fu (.fdk t i b) ρ = fdkV (fun d ρ => bindT t ⟨.f, d⟩ ρ) (exSs cl fu b) ρ ρ[i]? := by
  simp only [exS]
  cases ρ[i]? with
  | none => rfl
  | some o =>
    cases o with
    | none => rfl
    | some s => obtain ⟨m, d⟩ := s; cases d <;> rfl
theorem fdkV_dict (bind : D → Rho → M Rho) (body : Rho → M Fl) (m : Md) (ds : List (D × D)) : fdkV bind body ρ (some (some ⟨m, .dict ds⟩)) = ifM (nmk ds && lenOk ds.length && !decide (m = .o)) (forGo bind body (ds.map (·.1)) ρ >>= onlyNx) stk := (rfl)
theorem onlyNx_nx : onlyNx (.nx ρ) = .ok (.nx ρ) := (rfl)
/-! x.insert(i, e) -/
def insG (x : Nat) (ρ : Rho) (i v : D) (ds : List D) : M Fl := match i with
  | .int k => ifM (lenOk (ds.length + 1) && decide (0 ≤ k) && decide (k < 2 ^ 62)) (.ok (.nx (ρ.set x (some ⟨.o, .list (ds.take k.toNat ++ v :: ds.drop k.toNat)⟩)))) stk
  | _ => stk
theorem exS_ins (x : Nat) (i e : E) : exS cl fu (.ins x i e) ρ = evE cl i ρ >>= fun y => evE cl e ρ >>= fun s => asF s >>= fun v => ownL x ρ >>= fun ds => insG x ρ y.d v ds := by
  simp only [exS]
  congr
theorem insG_nat (x : Nat) (k : Nat) (v : D) (ds : List D) (h : ds.length + 1 ≤ 16777216) (hk : k < 2 ^ 62) : insG x ρ (.int (k : Int)) v ds = .ok (.nx (ρ.set x (some ⟨.o, .list (ds.take k ++ v :: ds.drop k)⟩))) := by
  have e : (lenOk (ds.length + 1) && decide ((0 : Int) ≤ (k : Int)) && decide ((k : Int) < 2 ^ 62)) = true := by
    rw [lenOk_of h, decide_eq_true (Int.natCast_nonneg k), decide_eq_true (show (k : Int) < 2 ^ 62 by omega)]
    rfl
  simp only [insG, e, ifM_t, Int.toNat_natCast]
theorem lnsD_list (xs : List Nat) (h : xs.length < 4000) : lnsD (.list (xs.map nD)) = .ok (fI ((sstN xs).length : Nat)) := by
  have e : (intsD (xs.map nD)) = some (xs.map fun n : Nat => (n : Int)) := intsD_nats xs
  have e2 : itemsD (.list (xs.map nD)) = .ok (xs.map nD) := rfl
  unfold lnsD
  simp only [e2, e, List.length_map, h, if_true]
  rw [dedI_nat, List.length_map]
  unfold sstN
  rw [(sortN_perm _).length_eq]
end
/-! loops and ends that may raise -/
def NR (c : Str) (m : M Fl) (P : Rho → Prop) (R : Prop) : Prop := (∃ ρ', m = .ok (.nx ρ') ∧ P ρ') ∨ ((∃ ρ', m = .ok (.rz c ρ')) ∧ R)
theorem nr_ok {c : Str} {ρ : Rho} {P : Rho → Prop} {R : Prop} (h : P ρ) : NR c (.ok (.nx ρ)) P R := .inl ⟨ρ, rfl, h⟩
theorem nr_rz {c : Str} {ρ : Rho} {P : Rho → Prop} {R : Prop} (h : R) : NR c (.ok (.rz c ρ)) P R := .inr ⟨⟨ρ, rfl⟩, h⟩
theorem NX.nr {c : Str} {m : M Fl} {P : Rho → Prop} {R : Prop} (h : NX m P) : NR c m P R := .inl h
theorem forGo_nr {B : D → Rho → M Rho} {C : Rho → M Fl} {c : Str} {R : Prop} : ∀ (xs : List D) (ρ : Rho) (P : Nat → Rho → Prop), P 0 ρ → (∀ i x ρ, xs[i]? = some x → P i ρ → NR c (B x ρ >>= C) (P (i + 1)) R) → NR c (forGo B C xs ρ) (P xs.length) R
  | [], ρ, P, h, _ => .inl ⟨ρ, rfl, h⟩
  | x :: xs, ρ, P, h, hs => by
    rcases hs 0 x ρ rfl h with ⟨ρ', e, p⟩ | ⟨⟨ρ', e⟩, r⟩
    · obtain ⟨ρ1, e1, e2⟩ := bind_ok e
      rcases forGo_nr xs ρ' (fun i => P (i + 1)) p (fun i y ρ hy hp => hs (i + 1) y ρ (by simpa using hy) hp) with ⟨ρ2, e3, p2⟩ | ⟨⟨ρ2, e3⟩, r⟩
      · exact .inl ⟨ρ2, by simp only [forGo, e1, e2, e3, ok_bind], p2⟩
      · exact .inr ⟨⟨ρ2, by simp only [forGo, e1, e2, e3, ok_bind]⟩, r⟩
    · obtain ⟨ρ1, e1, e2⟩ := bind_ok e
      exact .inr ⟨⟨ρ', by simp only [forGo, e1, e2, ok_bind]⟩, r⟩
theorem whlGo_nr {T : Rho → M Bool} {C : Rho → M Fl} {c : Str} {R : Prop} (P : Nat → Rho → Prop) (Q : Rho → Prop) (ht : ∀ n ρ, P n ρ → (T ρ = .ok false ∧ Q ρ) ∨ (T ρ = .ok true ∧ NR c (C ρ) (fun ρ' => ∃ m, m < n ∧ P m ρ') R)) : ∀ (k n : Nat) (ρ : Rho), P n ρ → n < k → NR c (whlGo T C k ρ) Q R
  | 0, _, _, _, h => absurd h (Nat.not_lt_zero _)
  | k + 1, n, ρ, h, hn => by
    rcases ht n ρ h with ⟨e, q⟩ | ⟨e, ⟨ρ', e2, m, hm, h2⟩ | ⟨⟨ρ', e2⟩, r⟩⟩
    · exact .inl ⟨ρ, by simp only [whlGo, e, ok_bind]; rfl, q⟩
    · rcases whlGo_nr P Q ht k m ρ' h2 (by omega) with ⟨ρ2, e3, q⟩ | ⟨⟨ρ2, e3⟩, r⟩
      · exact .inl ⟨ρ2, by simp only [whlGo, e, ok_bind, e2, if_pos, e3], q⟩
      · exact .inr ⟨⟨ρ2, by simp only [whlGo, e, ok_bind, e2, if_pos, e3]⟩, r⟩
    · exact .inr ⟨⟨ρ', by simp only [whlGo, e, ok_bind, e2, if_pos]⟩, r⟩
/-- the end of a def: handed back, or raised -/
def RE (c : Str) (m : M Sl) (Q : Sl → Prop) (R : Prop) : Prop := (∃ s, m = .ok s ∧ Q s) ∨ (m = .error (.raised c) ∧ R)
theorem re_ok {c : Str} {s : Sl} {Q : Sl → Prop} {R : Prop} (h : Q s) : RE c (.ok s) Q R := .inl ⟨s, rfl, h⟩
theorem re_rz {c : Str} {Q : Sl → Prop} {R : Prop} (h : R) : RE c (.error (.raised c)) Q R := .inr ⟨rfl, h⟩
theorem bind_re {c : Str} {X : M Fl} {k : Fl → M Fl} {Q : Sl → Prop} {R : Prop} (P : Rho → Prop) (h : NR c X P R) (hk : ∀ ρ', P ρ' → RE c (fin (k (.nx ρ'))) Q R) (hz : ∀ ρ', fin (k (.rz c ρ')) = .error (.raised c) := by exact fun _ => rfl) : RE c (fin (X >>= k)) Q R := by
  rcases h with ⟨ρ', e, p⟩ | ⟨⟨ρ', e⟩, r⟩
  · rw [e]
    exact hk ρ' p
  · rw [e]
    exact .inr ⟨hz ρ', r⟩
theorem bind_nr {c : Str} {X : M Fl} {k : Fl → M Fl} {Q : Rho → Prop} {R : Prop} (P : Rho → Prop) (h : NR c X P R) (hk : ∀ ρ', P ρ' → NR c (k (.nx ρ')) Q R) (hz : ∀ ρ', k (.rz c ρ') = .ok (.rz c ρ') := by exact fun _ => rfl) : NR c (X >>= k) Q R := by
  rcases h with ⟨ρ', e, p⟩ | ⟨⟨ρ', e⟩, r⟩
  · rw [e]
    exact hk ρ' p
  · rw [e]
    exact .inr ⟨⟨ρ', hz ρ'⟩, r⟩
theorem for_re {c : Str} {B : D → Rho → M Rho} {C : Rho → M Fl} {xs : List D} {ρ : Rho} {k : Fl → M Fl} {Q : Sl → Prop} {R : Prop} (P : Nat → Rho → Prop) (h0 : P 0 ρ)
    (hs : ∀ i x ρ, xs[i]? = some x → P i ρ → NR c (B x ρ >>= C) (P (i + 1)) R) (hk : ∀ ρ', P xs.length ρ' → RE c (fin (k (.nx ρ'))) Q R) (hz : ∀ ρ', fin (k (.rz c ρ')) = .error (.raised c) := by exact fun _ => rfl) : RE c (fin (forGo B C xs ρ >>= k)) Q R :=
  bind_re _ (forGo_nr xs ρ P h0 hs) hk hz
theorem for_nr {c : Str} {B : D → Rho → M Rho} {C : Rho → M Fl} {xs : List D} {ρ : Rho} {k : Fl → M Fl} {Q : Rho → Prop} {R : Prop} (P : Nat → Rho → Prop) (h0 : P 0 ρ)
    (hs : ∀ i x ρ, xs[i]? = some x → P i ρ → NR c (B x ρ >>= C) (P (i + 1)) R) (hk : ∀ ρ', P xs.length ρ' → NR c (k (.nx ρ')) Q R) (hz : ∀ ρ', k (.rz c ρ') = .ok (.rz c ρ') := by exact fun _ => rfl) : NR c (forGo B C xs ρ >>= k) Q R :=
  bind_nr _ (forGo_nr xs ρ P h0 hs) hk hz
theorem whl_re {c : Str} {T : Rho → M Bool} {C : Rho → M Fl} {k : Nat} {ρ : Rho} {kk : Fl → M Fl} {QQ : Sl → Prop} {R : Prop} (P : Nat → Rho → Prop) (Q : Rho → Prop) (n : Nat) (h0 : P n ρ) (hn : n < k)
    (ht : ∀ n ρ, P n ρ → (T ρ = .ok false ∧ Q ρ) ∨ (T ρ = .ok true ∧ NR c (C ρ) (fun ρ' => ∃ m, m < n ∧ P m ρ') R)) (hk : ∀ ρ', Q ρ' → RE c (fin (kk (.nx ρ'))) QQ R) (hz : ∀ ρ', fin (kk (.rz c ρ')) = .error (.raised c) := by exact fun _ => rfl) : RE c (fin (whlGo T C k ρ >>= kk)) QQ R :=
  bind_re _ (whlGo_nr P Q ht k n ρ h0 hn) hk hz
end GK
namespace GK
open PySem PySem.Spec PyProof.Rows L2
/-- for t in x: y[t] = c -/
def fstH (t x y : Nat) (c : Bool) (ρ : Rho) : Option (Option Sl) → Option (Option Sl) → M Fl
  | some (some ⟨.o, .list ds⟩), some (some ⟨.o, .dict ps⟩) => ifM (decide (t < ρ.length) && decide (x ≠ y) && decide (t ≠ x) && decide (t ≠ y) && ds.all keyOk && nmk ps && lenOk (ps.length + ds.length)) (.ok (.nx (fstR t y c ps ds ρ ds.length))) stk
  | _, _ => stk
theorem exS_fst {cl : Str → List Sl → M Sl} {fu : Nat} {ρ : Rho} (t x y : Nat) (c : Bool) : exS cl fu (.fst t x y c) ρ = fstH t x y c ρ ρ[x]? ρ[y]? := by
  simp only [exS, fstG]
  split
  · rename_i ds ps h1 h2
    rw [h1, h2]
    rfl
  · rename_i h
    unfold fstH
    split
    · rename_i ds ps h1 h2
      exact (h ds ps h1 h2).elim
    · rfl
theorem fstH_nats {ρ : Rho} (t x y : Nat) (xs : List Nat) (ht : t < ρ.length) (h1 : x ≠ y) (h2 : t ≠ x) (h3 : t ≠ y) (hn : xs.Nodup) (hl : xs.length ≤ 16777216) :
    ∃ s, fstH t x y true ρ (some (some ⟨.o, .list (xs.map nD)⟩)) (some (some ⟨.o, .dict []⟩)) = .ok (.nx ((ρ.set t s).set y (some ⟨.o, .dict (xs.map kT)⟩))) ∨ fstH t x y true ρ (some (some ⟨.o, .list (xs.map nD)⟩)) (some (some ⟨.o, .dict []⟩)) = .ok (.nx (ρ.set y (some ⟨.o, .dict (xs.map kT)⟩))) := by
  have hk : (xs.map nD).all keyOk = true := by
    rw [List.all_eq_true]
    intro d hd
    obtain ⟨n, _, rfl⟩ := List.mem_map.mp hd
    rfl
  have hf : (xs.map nD).foldl (fun acc d => putD acc d (.bool true)) [] = xs.map kT := by
    have aux : ∀ (l a : List Nat), (a ++ l).Nodup → (l.map nD).foldl (fun acc d => putD acc d (.bool true)) (a.map kT) = (a ++ l).map kT := by
      intro l
      induction l with
      | nil => intro a _; rw [List.append_nil]; rfl
      | cons x l ih =>
        intro a h
        have hx : x ∉ a := fun z => by
          rw [List.nodup_append] at h
          exact h.2.2 x z x List.mem_cons_self rfl
        have e1 : putD (a.map kT) (nD x) (.bool true) = (a ++ [x]).map kT := by
          have e2 := put_kT a x
          have e3 : addN a x = a ++ [x] := if_neg hx
          rw [e3] at e2
          exact e2
        rw [List.map_cons, List.foldl_cons, e1, ih (a ++ [x]) (by rw [List.append_assoc]; exact h), List.append_assoc]
        rfl
    exact aux xs [] hn
  have hc : (decide (t < ρ.length) && decide (x ≠ y) && decide (t ≠ x) && decide (t ≠ y) && (xs.map nD).all keyOk && nmk [] && lenOk (([] : List (D × D)).length + (xs.map nD).length)) = true := by
    rw [decide_eq_true ht, decide_eq_true h1, decide_eq_true h2, decide_eq_true h3, hk]
    simp only [Bool.true_and, nmk, List.length_nil, Nat.zero_add, List.length_map]
    exact lenOk_of hl
  simp only [fstH, hc, ifM_t, fstR, List.take_length, hf]
  cases h : (xs.map nD).length with
  | zero => exact ⟨none, .inr rfl⟩
  | succ j =>
    simp only [fstB]
    split
    · exact ⟨_, .inl rfl⟩
    · exact ⟨none, .inr rfl⟩
end GK

local macro_rules | `(tactic| simp! only [1, $ts,*] $[$loc]?) => `(tactic| simp only [GK.ok_bind, GK.pure_M, GK.bind_assoc', GK.vm_f, GK.vm_o, GK.vm_p, GK.vm_vm, GK.rdV_mk, GK.rdV_fI, GK.rdV_fB, GK.evE_var, GK.evE_int, GK.evE_bl, GK.evE_non, GK.evE_str, GK.evE_bin, GK.evE_neg, GK.evE_inv, GK.evE_cmp, GK.ifM_t, GK.ifM_f, GK.evE_chn, GK.evE_isN, GK.evE_notN, GK.evE_and, GK.evE_or, GK.evE_not, GK.evE_ife, GK.evE_tup, GK.evE_lst, GK.evE_ix, GK.evE_sl, GK.evE_call, GK.evE_b1, GK.evE_isi, GK.evE_lc, GK.evE_lrg, GK.evF_nil, GK.evF_cons, GK.evA_nil, GK.evA_cons, GK.getI_int, GK.evO_none, GK.evO_some, GK.evC_none, GK.evC_some, GK.evI_rg1, GK.evI_rg2, GK.evI_seq, GK.seqF_nx, GK.seqF_rt, GK.seqF_bk, GK.seqF_ct, GK.exSs_nil, GK.exSs_cons, GK.exSs_frz, GK.exS_asg, GK.exS_setix, GK.exS_app, GK.exS_ext, GK.exS_exp, GK.exS_ret, GK.exS_retN, GK.exS_ite, GK.exS_for, GK.exS_whl, GK.exS_brk, GK.exS_cont, GK.exS_pass, GK.fin_rt, GK.fin_nx, GK.bindT_nm, GK.bindT_nmo, GK.bindT_nI, GK.bindT_nB, GK.bindT_tp2, GK.bindT_tp3, GK.bindT_tl5, GK.fI_d, GK.fB_d, GK.fI_m, GK.fB_m, GK.asF_f, GK.asF_o, GK.asF_fI, GK.asF_fB, GK.asB_b, GK.argS_f, GK.argS_o, GK.argS_p, GK.argS_v, GK.argS_fI, GK.argS_fB, GK.retS_f, GK.retS_o, GK.retS_fI, GK.retS_fB, GK.retP_o, GK.retS_p, GK.ownG_o, GK.ownL_eq, GK.frzG_o, GK.frzG_f, GK.frzG_fI, GK.frzG_fB, GK.frzR_eq, GK.extG_list, GK.isF_f, GK.isF_o, GK.isF_p, GK.binop_int, GK.binop_cat, GK.binop_rep, GK.ckI_t, GK.ckO_t, GK.unop_neg, GK.unop_inv, GK.cmpop_eq, GK.cmpop_ne, GK.optS_some, GK.ixD_list, GK.ixD_tup, GK.slD_list, GK.b1D_len, GK.b1D_lenT, GK.b1D_list, GK.b1D_listT, GK.b1D_tup, GK.b1D_tupT, GK.b1D_int, GK.b1D_intN, GK.b1D_sum, GK.sumS_some, GK.allS_some, GK.b1D_all, GK.b1D_any, GK.itemsD_list, GK.itemsD_tup, GK.ix_t0, GK.ix_t1, GK.ix_t2, GK.nD_def, GK.fI_eq', GK.fB_eq', GK.deq_pair, GK.natDec, GK.decide_self, GK.notP_rg1, GK.notP_rg2, GK.notPs_f, GK.notPs_o, GK.notP_seq, GK.esLen, Nat.reduceLeDiff, decide_true, decide_false, List.getElem?_cons_zero, List.getElem?_cons_succ, List.set_cons_zero, List.set_cons_succ, List.length_cons, List.length_nil, List.map_cons, List.map_nil, List.replicate_succ, List.replicate_zero, List.append_nil, List.nil_append, List.cons_append, Nat.reduceAdd, Nat.reduceSub, GK.startR, GK.tgIn, GK.isRg, List.contains_cons, List.all_cons, List.all_nil, Bool.and_true, Bool.true_and, Bool.not_true, Bool.not_false, beq_self_eq_true, Bool.or_true, Bool.true_or, Bool.or_false, Bool.false_or, Nat.not_lt_zero, GK.wipeR, GK.isNone, GK.isiD, GK.evE_glb, GK.evE_sst, GK.evE_gk, GK.evE_gdx, GK.evE_dsp, GK.evP_nil, GK.evP_cons, GK.evE_mm, GK.evE_rvl, GK.evI_rg3, GK.evI_enm, GK.evI_rev, GK.evI_zp, GK.evI_rvr, GK.notP_rg3, GK.notP_rvr, GK.notP_enm, GK.notP_rev, GK.notP_zp, GK.ckTu_t, GK.binop_catT, GK.slD_tup, GK.rvD_list, GK.cmpop_is, GK.cmpop_isnot, GK.negM_ok', GK.cmpop_in, GK.cmpop_notin, GK.cmpop_inT, GK.cmpop_notinT, GK.beq_t, GK.beq_f, GK.evE_dnw, GK.evE_dsp1, GK.setO_eq, GK.setS_list, GK.setS_dict, GK.keyOk_int, GK.keyOk_str, GK.ixD_dictI, GK.ixD_dictS, GK.cmpop_inK, GK.cmpop_notinK, GK.inK_int, GK.inK_str, GK.look_kT, GK.put_kT, GK.deq_bool, GK.lentE_var, GK.lentE_call, GK.lentE_lst, GK.lentE_tup, GK.lentE_ix, GK.lentE_sl, GK.lentE_bin, GK.lentE_b1, GK.lentE_lc, GK.lentE_lrg, GK.lentE_rvl, GK.lentE_sst, GK.lentE_gk, GK.lentE_gdx, GK.lentE_dsp, GK.lentO_p, GK.lentO_f, GK.lentO_o, GK.frzB_t, GK.frzB_f, GK.nmkD_list, GK.nmkD_tuple, GK.nmkD_int, GK.nmkD_bool, GK.nmkD_dict, GK.nmk_nil, GK.nmk_int, GK.nmk_str, GK.nmk_kT, GK.nmk_kv, GK.nmk_none, GK.keyOk_tup, GK.exS_ndn, GK.inK_tup, GK.inN_mk, GK.ixD_dictT, GK.getN_mk, GK.optD_some, GK.setSN_eq, GK.setN_mk, GK.b1D_tupN, GK.b1D_lenK, GK.b1D_lenD, GK.evE_lns, GK.evE_pk2, GK.exS_fst, Bool.false_and, Bool.and_false, GK.seqD_list, GK.seqD_tup, GK.evE_u1, GK.evE_u2, GK.evE_u3, GK.evE_lcd, GK.lcdV_dict, GK.ownD_eq, GK.ownO_o, GK.exS_mt0, GK.exS_mt1, GK.exS_mt2, GK.m0D_rev, GK.m0D_clr, GK.exS_fdk, GK.fdkV_dict, GK.onlyNx_nx, GK.md_fo, GK.md_po, GK.binI_add_nat, GK.binI_shr_nat, GK.binI_and1_nat, GK.deq_nat, GK.cmpop_lt_nat, GK.cmpop_le_nat, GK.cmpop_gt_nat, GK.cmpop_ge_nat, GK.binI_or_nat, GK.binI_xor_nat, GK.mmD_maxN, GK.mmD_minN, GK.inD_nats, GK.inF_nats, GK.intsD_nats, GK.sum_cast, GK.isx_GateError, GK.xin_GateError, GK.isx_NoRelation, GK.xin_NoRelation, GK.isx_TooMany, GK.xin_TooMany, GK.isx_TooBig, GK.xin_TooBig, GK.isx_NotAll, GK.xin_NotAll, GK.isx_NotMade, GK.xin_NotMade, GK.isx_NoText, GK.xin_NoText, GK.isx_NoName, GK.xin_NoName, GK.isx_NoRow, GK.xin_NoRow, GK.isx_ValueError, GK.xin_ValueError, GK.xs_NoRelation_GateError, GK.xs_NoRelation_NoRelation, GK.xs_NoRelation_TooMany, GK.xs_NoRelation_TooBig, GK.xs_NoRelation_NotAll, GK.xs_NoRelation_NotMade, GK.xs_NoRelation_NoText, GK.xs_NoRelation_NoName, GK.xs_NoRelation_NoRow, GK.xs_NoRelation_ValueError, GK.xs_TooMany_GateError, GK.xs_TooMany_NoRelation, GK.xs_TooMany_TooMany, GK.xs_TooMany_TooBig, GK.xs_TooMany_NotAll, GK.xs_TooMany_NotMade, GK.xs_TooMany_NoText, GK.xs_TooMany_NoName, GK.xs_TooMany_NoRow, GK.xs_TooMany_ValueError, GK.xs_TooBig_GateError, GK.xs_TooBig_NoRelation, GK.xs_TooBig_TooMany, GK.xs_TooBig_TooBig, GK.xs_TooBig_NotAll, GK.xs_TooBig_NotMade, GK.xs_TooBig_NoText, GK.xs_TooBig_NoName, GK.xs_TooBig_NoRow, GK.xs_TooBig_ValueError, GK.evE_isx, GK.seqF_rz, GK.exS_rse, GK.exS_cst, GK.exS_tr, GK.tryG_nx, GK.tryG_rt, GK.tryG_rz, GK.exHs_nil, GK.exHs_cons, GK.nmS_none, GK.nmS_some, GK.nmF_nxN, GK.nmF_nxS, GK.nmF_rt, GK.ckG_asg, GK.ckG_ret, GK.ckG_exp, GK.ckG_rz, GK.fin_rz, List.any_cons, List.any_nil, GK.evE_ixs, $ts,*] $[$loc]?)
local macro_rules | `(tactic| simp! only [2, $ts,*] $[$loc]?) => `(tactic| simp only [GK.ok_bind, GK.pure_M, GK.bind_assoc', GK.vm_f, GK.vm_o, GK.vm_p, GK.vm_vm, GK.rdV_mk, GK.rdV_fI, GK.rdV_fB, GK.evE_var, GK.evE_int, GK.evE_bl, GK.evE_non, GK.evE_str, GK.evE_bin, GK.evE_neg, GK.evE_inv, GK.evE_cmp, GK.ifM_t, GK.ifM_f, GK.evE_chn, GK.evE_isN, GK.evE_notN, GK.evE_and, GK.evE_or, GK.evE_not, GK.evE_ife, GK.evE_tup, GK.evE_lst, GK.evE_ix, GK.evE_sl, GK.evE_call, GK.evE_b1, GK.evE_isi, GK.evE_lc, GK.evE_lrg, GK.evF_nil, GK.evF_cons, GK.evA_nil, GK.evA_cons, GK.getI_int, GK.evO_none, GK.evO_some, GK.evC_none, GK.evC_some, GK.evI_rg1, GK.evI_rg2, GK.evI_seq, GK.seqF_nx, GK.seqF_rt, GK.seqF_bk, GK.seqF_ct, GK.exSs_nil, GK.exSs_cons, GK.exSs_frz, GK.exS_asg, GK.exS_setix, GK.exS_app, GK.exS_ext, GK.exS_exp, GK.exS_ret, GK.exS_retN, GK.exS_ite, GK.exS_for, GK.exS_whl, GK.exS_brk, GK.exS_cont, GK.exS_pass, GK.fin_rt, GK.fin_nx, GK.bindT_nm, GK.bindT_nmo, GK.bindT_nI, GK.bindT_nB, GK.bindT_tp2, GK.bindT_tp3, GK.bindT_tl5, GK.fI_d, GK.fB_d, GK.fI_m, GK.fB_m, GK.asF_f, GK.asF_o, GK.asF_fI, GK.asF_fB, GK.asB_b, GK.argS_f, GK.argS_o, GK.argS_p, GK.argS_v, GK.argS_fI, GK.argS_fB, GK.retS_f, GK.retS_o, GK.retS_fI, GK.retS_fB, GK.retP_o, GK.retS_p, GK.ownG_o, GK.ownL_eq, GK.frzG_o, GK.frzG_f, GK.frzG_fI, GK.frzG_fB, GK.frzR_eq, GK.extG_list, GK.isF_f, GK.isF_o, GK.isF_p, GK.binop_int, GK.binop_cat, GK.binop_rep, GK.ckI_t, GK.ckO_t, GK.unop_neg, GK.unop_inv, GK.cmpop_eq, GK.cmpop_ne, GK.optS_some, GK.ixD_list, GK.ixD_tup, GK.slD_list, GK.b1D_len, GK.b1D_lenT, GK.b1D_list, GK.b1D_listT, GK.b1D_tup, GK.b1D_tupT, GK.b1D_int, GK.b1D_intN, GK.b1D_sum, GK.sumS_some, GK.allS_some, GK.b1D_all, GK.b1D_any, GK.itemsD_list, GK.itemsD_tup, GK.ix_t0, GK.ix_t1, GK.ix_t2, GK.nD_def, GK.fI_eq', GK.fB_eq', GK.deq_pair, GK.natDec, GK.decide_self, GK.notP_rg1, GK.notP_rg2, GK.notPs_f, GK.notPs_o, GK.notP_seq, GK.esLen, Nat.reduceLeDiff, decide_true, decide_false, List.getElem?_cons_zero, List.getElem?_cons_succ, List.set_cons_zero, List.set_cons_succ, List.length_cons, List.length_nil, List.map_cons, List.map_nil, List.replicate_succ, List.replicate_zero, List.append_nil, List.nil_append, List.cons_append, Nat.reduceAdd, Nat.reduceSub, GK.startR, GK.tgIn, GK.isRg, List.contains_cons, List.all_cons, List.all_nil, Bool.and_true, Bool.true_and, Bool.not_true, Bool.not_false, beq_self_eq_true, Bool.or_true, Bool.true_or, Bool.or_false, Bool.false_or, Nat.not_lt_zero, GK.wipeR, GK.isNone, GK.isiD, GK.evE_glb, GK.evE_sst, GK.evE_gk, GK.evE_gdx, GK.evE_dsp, GK.evP_nil, GK.evP_cons, GK.evE_mm, GK.evE_rvl, GK.evI_rg3, GK.evI_enm, GK.evI_rev, GK.evI_zp, GK.evI_rvr, GK.notP_rg3, GK.notP_rvr, GK.notP_enm, GK.notP_rev, GK.notP_zp, GK.ckTu_t, GK.binop_catT, GK.slD_tup, GK.rvD_list, GK.cmpop_is, GK.cmpop_isnot, GK.negM_ok', GK.cmpop_in, GK.cmpop_notin, GK.cmpop_inT, GK.cmpop_notinT, GK.beq_t, GK.beq_f, GK.evE_dnw, GK.evE_dsp1, GK.setO_eq, GK.setS_list, GK.setS_dict, GK.keyOk_int, GK.keyOk_str, GK.ixD_dictI, GK.ixD_dictS, GK.cmpop_inK, GK.cmpop_notinK, GK.inK_int, GK.inK_str, GK.look_kT, GK.put_kT, GK.deq_bool, GK.lentE_var, GK.lentE_call, GK.lentE_lst, GK.lentE_tup, GK.lentE_ix, GK.lentE_sl, GK.lentE_bin, GK.lentE_b1, GK.lentE_lc, GK.lentE_lrg, GK.lentE_rvl, GK.lentE_sst, GK.lentE_gk, GK.lentE_gdx, GK.lentE_dsp, GK.lentO_p, GK.lentO_f, GK.lentO_o, GK.frzB_t, GK.frzB_f, GK.nmkD_list, GK.nmkD_tuple, GK.nmkD_int, GK.nmkD_bool, GK.nmkD_dict, GK.nmk_nil, GK.nmk_int, GK.nmk_str, GK.nmk_kT, GK.nmk_kv, GK.nmk_none, GK.keyOk_tup, GK.exS_ndn, GK.inK_tup, GK.inN_mk, GK.ixD_dictT, GK.getN_mk, GK.optD_some, GK.setSN_eq, GK.setN_mk, GK.b1D_tupN, GK.b1D_lenK, GK.b1D_lenD, GK.evE_lns, GK.evE_pk2, GK.exS_fst, Bool.false_and, Bool.and_false, GK.seqD_list, GK.seqD_tup, GK.evE_u1, GK.evE_u2, GK.evE_u3, GK.evE_lcd, GK.lcdV_dict, GK.ownD_eq, GK.ownO_o, GK.exS_mt0, GK.exS_mt1, GK.exS_mt2, GK.m0D_rev, GK.m0D_clr, GK.exS_fdk, GK.fdkV_dict, GK.onlyNx_nx, GK.md_fo, GK.md_po, GK.binI_add_nat, GK.binI_shr_nat, GK.binI_and1_nat, GK.deq_nat, GK.cmpop_lt_nat, GK.cmpop_le_nat, GK.cmpop_gt_nat, GK.cmpop_ge_nat, GK.binI_or_nat, GK.binI_xor_nat, GK.mmD_maxN, GK.mmD_minN, GK.inD_nats, GK.inF_nats, GK.intsD_nats, GK.sum_cast, $ts,*] $[$loc]?)
local macro_rules | `(tactic| simp! only [3, $ts,*] $[$loc]?) => `(tactic| simp only [GK.exS_ef, GK.exS_eft, GK.efC_rz, GK.efC_v, GK.efT_rz, GK.efT_v, GK.efD_asg, GK.efD_ret, GK.efD_exp, GK.efD_app, GK.efD_set, GK.efX_call, GK.efX_pop, GK.efX_popA, GK.efX_popK, GK.efG_ok, GK.efG_rz, GK.popG_eq, GK.popL_snoc, GK.popGA_eq, GK.popGK_eq, GK.poE_hd, GK.poE_ixn, GK.ixL_tup, GK.ixL_list, GK.poE_isN, GK.poE_eqS, GK.poE_lst1, GK.poE_tupS, GK.poE_opI, GK.poE_ixv, GK.ixV_int, GK.poX_hd, GK.poX_ixn, GK.poX_isN, GK.poX_eqS, GK.poX_lst1, GK.poX_tupS, GK.ekX_asg, GK.ekX_ret, GK.ekX_exp, GK.ekX_set, GK.ekX_app, GK.ownLB_o, GK.exS_ins, GK.efX_xe, GK.erX_v, GK.erX_rz, GK.evXe_a, GK.evXe_t, GK.evXa_p, GK.evXa_c, GK.evXa_l, GK.evXa_tl, GK.evXs_nil, GK.evXs_cons, GK.xsC_v, GK.xsC_rz, GK.xsK_v, GK.xsK_rz, GK.xtK_v, GK.xtK_rz, GK.lxL_v, GK.lxL_rz, GK.lxT_v, GK.lxT_rz, GK.callG_ok, GK.callG_rz, GK.evLx_eq, GK.lcXt_eq, GK.ltK_v, GK.ltK_rz, GK.xrO, GK.xrL, GK.efX_pk, GK.ok_bind, GK.pure_M, GK.bind_assoc', GK.vm_f, GK.vm_o, GK.vm_p, GK.vm_vm, GK.rdV_mk, GK.rdV_fI, GK.rdV_fB, GK.evE_var, GK.evE_int, GK.evE_bl, GK.evE_non, GK.evE_str, GK.evE_bin, GK.evE_neg, GK.evE_inv, GK.evE_cmp, GK.ifM_t, GK.ifM_f, GK.evE_chn, GK.evE_isN, GK.evE_notN, GK.evE_and, GK.evE_or, GK.evE_not, GK.evE_ife, GK.evE_tup, GK.evE_lst, GK.evE_ix, GK.evE_sl, GK.evE_call, GK.evE_b1, GK.evE_isi, GK.evE_lc, GK.evE_lrg, GK.evF_nil, GK.evF_cons, GK.evA_nil, GK.evA_cons, GK.getI_int, GK.evO_none, GK.evO_some, GK.evC_none, GK.evC_some, GK.evI_rg1, GK.evI_rg2, GK.evI_seq, GK.seqF_nx, GK.seqF_rt, GK.seqF_bk, GK.seqF_ct, GK.exSs_nil, GK.exSs_cons, GK.exSs_frz, GK.exS_asg, GK.exS_setix, GK.exS_app, GK.exS_ext, GK.exS_exp, GK.exS_ret, GK.exS_retN, GK.exS_ite, GK.exS_for, GK.exS_whl, GK.exS_brk, GK.exS_cont, GK.exS_pass, GK.fin_rt, GK.fin_nx, GK.bindT_nm, GK.bindT_nmo, GK.bindT_nI, GK.bindT_nB, GK.bindT_tp2, GK.bindT_tp3, GK.bindT_tl5, GK.fI_d, GK.fB_d, GK.fI_m, GK.fB_m, GK.asF_f, GK.asF_o, GK.asF_fI, GK.asF_fB, GK.asB_b, GK.argS_f, GK.argS_o, GK.argS_p, GK.argS_v, GK.argS_fI, GK.argS_fB, GK.retS_f, GK.retS_o, GK.retS_fI, GK.retS_fB, GK.retP_o, GK.retS_p, GK.ownG_o, GK.ownL_eq, GK.frzG_o, GK.frzG_f, GK.frzG_fI, GK.frzG_fB, GK.frzR_eq, GK.extG_list, GK.isF_f, GK.isF_o, GK.isF_p, GK.binop_int, GK.binop_cat, GK.binop_rep, GK.ckI_t, GK.ckO_t, GK.unop_neg, GK.unop_inv, GK.cmpop_eq, GK.cmpop_ne, GK.optS_some, GK.ixD_list, GK.ixD_tup, GK.slD_list, GK.b1D_len, GK.b1D_lenT, GK.b1D_list, GK.b1D_listT, GK.b1D_tup, GK.b1D_tupT, GK.b1D_int, GK.b1D_intN, GK.b1D_sum, GK.sumS_some, GK.allS_some, GK.b1D_all, GK.b1D_any, GK.itemsD_list, GK.itemsD_tup, GK.ix_t0, GK.ix_t1, GK.ix_t2, GK.nD_def, GK.fI_eq', GK.fB_eq', GK.deq_pair, GK.natDec, GK.decide_self, GK.notP_rg1, GK.notP_rg2, GK.notPs_f, GK.notPs_o, GK.notP_seq, GK.esLen, Nat.reduceLeDiff, decide_true, decide_false, List.getElem?_cons_zero, List.getElem?_cons_succ, List.set_cons_zero, List.set_cons_succ, List.length_cons, List.length_nil, List.map_cons, List.map_nil, List.replicate_succ, List.replicate_zero, List.append_nil, List.nil_append, List.cons_append, Nat.reduceAdd, Nat.reduceSub, GK.startR, GK.tgIn, GK.isRg, List.contains_cons, List.all_cons, List.all_nil, Bool.and_true, Bool.true_and, Bool.not_true, Bool.not_false, beq_self_eq_true, Bool.or_true, Bool.true_or, Bool.or_false, Bool.false_or, Nat.not_lt_zero, GK.wipeR, GK.isNone, GK.isiD, GK.evE_glb, GK.evE_sst, GK.evE_gk, GK.evE_gdx, GK.evE_dsp, GK.evP_nil, GK.evP_cons, GK.evE_mm, GK.evE_rvl, GK.evI_rg3, GK.evI_enm, GK.evI_rev, GK.evI_zp, GK.evI_rvr, GK.notP_rg3, GK.notP_rvr, GK.notP_enm, GK.notP_rev, GK.notP_zp, GK.ckTu_t, GK.binop_catT, GK.slD_tup, GK.rvD_list, GK.cmpop_is, GK.cmpop_isnot, GK.negM_ok', GK.cmpop_in, GK.cmpop_notin, GK.cmpop_inT, GK.cmpop_notinT, GK.beq_t, GK.beq_f, GK.evE_dnw, GK.evE_dsp1, GK.setO_eq, GK.setS_list, GK.setS_dict, GK.keyOk_int, GK.keyOk_str, GK.ixD_dictI, GK.ixD_dictS, GK.cmpop_inK, GK.cmpop_notinK, GK.inK_int, GK.inK_str, GK.look_kT, GK.put_kT, GK.deq_bool, GK.lentE_var, GK.lentE_call, GK.lentE_lst, GK.lentE_tup, GK.lentE_ix, GK.lentE_sl, GK.lentE_bin, GK.lentE_b1, GK.lentE_lc, GK.lentE_lrg, GK.lentE_rvl, GK.lentE_sst, GK.lentE_gk, GK.lentE_gdx, GK.lentE_dsp, GK.lentO_p, GK.lentO_f, GK.lentO_o, GK.frzB_t, GK.frzB_f, GK.nmkD_list, GK.nmkD_tuple, GK.nmkD_int, GK.nmkD_bool, GK.nmkD_dict, GK.nmk_nil, GK.nmk_int, GK.nmk_str, GK.nmk_kT, GK.nmk_kv, GK.nmk_none, GK.keyOk_tup, GK.exS_ndn, GK.inK_tup, GK.inN_mk, GK.ixD_dictT, GK.getN_mk, GK.optD_some, GK.setSN_eq, GK.setN_mk, GK.b1D_tupN, GK.b1D_lenK, GK.b1D_lenD, GK.evE_lns, GK.evE_pk2, GK.exS_fst, Bool.false_and, Bool.and_false, GK.seqD_list, GK.seqD_tup, GK.evE_u1, GK.evE_u2, GK.evE_u3, GK.evE_lcd, GK.lcdV_dict, GK.ownD_eq, GK.ownO_o, GK.exS_mt0, GK.exS_mt1, GK.exS_mt2, GK.m0D_rev, GK.m0D_clr, GK.exS_fdk, GK.fdkV_dict, GK.onlyNx_nx, GK.md_fo, GK.md_po, GK.binI_add_nat, GK.binI_shr_nat, GK.binI_and1_nat, GK.deq_nat, GK.cmpop_lt_nat, GK.cmpop_le_nat, GK.cmpop_gt_nat, GK.cmpop_ge_nat, GK.binI_or_nat, GK.binI_xor_nat, GK.mmD_maxN, GK.mmD_minN, GK.inD_nats, GK.inF_nats, GK.intsD_nats, GK.sum_cast, GK.isx_GateError, GK.xin_GateError, GK.isx_NoRelation, GK.xin_NoRelation, GK.isx_TooMany, GK.xin_TooMany, GK.isx_TooBig, GK.xin_TooBig, GK.isx_NotAll, GK.xin_NotAll, GK.isx_NotMade, GK.xin_NotMade, GK.isx_NoText, GK.xin_NoText, GK.isx_NoName, GK.xin_NoName, GK.isx_NoRow, GK.xin_NoRow, GK.isx_ValueError, GK.xin_ValueError, GK.xs_NoRelation_GateError, GK.xs_NoRelation_NoRelation, GK.xs_NoRelation_TooMany, GK.xs_NoRelation_TooBig, GK.xs_NoRelation_NotAll, GK.xs_NoRelation_NotMade, GK.xs_NoRelation_NoText, GK.xs_NoRelation_NoName, GK.xs_NoRelation_NoRow, GK.xs_NoRelation_ValueError, GK.xs_TooMany_GateError, GK.xs_TooMany_NoRelation, GK.xs_TooMany_TooMany, GK.xs_TooMany_TooBig, GK.xs_TooMany_NotAll, GK.xs_TooMany_NotMade, GK.xs_TooMany_NoText, GK.xs_TooMany_NoName, GK.xs_TooMany_NoRow, GK.xs_TooMany_ValueError, GK.xs_TooBig_GateError, GK.xs_TooBig_NoRelation, GK.xs_TooBig_TooMany, GK.xs_TooBig_TooBig, GK.xs_TooBig_NotAll, GK.xs_TooBig_NotMade, GK.xs_TooBig_NoText, GK.xs_TooBig_NoName, GK.xs_TooBig_NoRow, GK.xs_TooBig_ValueError, GK.evE_isx, GK.seqF_rz, GK.exS_rse, GK.exS_cst, GK.exS_tr, GK.tryG_nx, GK.tryG_rt, GK.tryG_rz, GK.exHs_nil, GK.exHs_cons, GK.nmS_none, GK.nmS_some, GK.nmF_nxN, GK.nmF_nxS, GK.nmF_rt, GK.ckG_asg, GK.ckG_ret, GK.ckG_exp, GK.ckG_rz, GK.fin_rz, List.any_cons, List.any_nil, GK.evE_ixs, $ts,*] $[$loc]?)
namespace K81
open PySem PySem.Spec PyProof.Rows L2 GK
def topS (i : Nat) : Stmt := PySem.Challenge.pw_gatekin_k81_gates_and_sets_written.main.body.getD i (.Pass ⟨0, 0, 0, 0⟩)
def ck_FIGURES : D := .str "0123456789"
def b_bits_text : Ss := (.cons (.ret (.u1 (.joi "") (.lc (.b1 .str (.bin .BitAnd (.bin .RShift (.var 0) (.var 2)) (.int 1))) (.nm 2) (.rg1 (.var 1)) .none [2]))) .nil)
def d_bits_text : PD := ⟨"bits_text", ["bits", "many", "k"], ["bits", "many"], b_bits_text, topS 10⟩
def b_read_bits : Ss := (.cons (.asg (.nm 2) (.int 0)) (.cons (.ite (.cmp .NotEq (.b1 .len (.var 0)) (.var 1)) (.cons (.rse "NoText") .nil) .nil) (.cons (.for_ (.nm 3) (.rg1 (.var 1)) (.cons (.ite (.cmp .Eq (.ix (.var 0) (.var 3)) (.str "1")) (.cons (.asg (.nm 2) (.bin .Add (.var 2) (.bin .LShift (.int 1) (.var 3)))) .nil) (.cons (.ite (.cmp .NotEq (.ix (.var 0) (.var 3)) (.str "0")) (.cons (.rse "NoText") .nil) .nil) .nil)) .nil)) (.cons (.ret (.var 2)) .nil))))
def d_read_bits : PD := ⟨"read_bits", ["text", "many", "found", "k"], ["text", "many"], b_read_bits, topS 11⟩
def b_read_number : Ss := (.cons (.ite (.or (.not (.chn .LtE .LtE (.int 1) (.b1 .len (.var 0)) (.int 4))) (.and (.cmp .Eq (.ix (.var 0) (.int 0)) (.str "0")) (.cmp .Gt (.b1 .len (.var 0)) (.int 1)))) (.cons (.rse "NoText") .nil) .nil) (.cons (.for_ (.nm 1) (.seq (.var 0)) (.cons (.ite (.cmp .NotIn (.var 1) (.gk "FIGURES" ck_FIGURES)) (.cons (.rse "NoText") .nil) .nil) .nil)) (.cons (.ret (.b1 .int (.var 0))) .nil)))
def d_read_number : PD := ⟨"read_number", ["text", "sign"], ["text"], b_read_number, topS 12⟩
def b_parted : Ss := (.cons (.ite (.not (.isi (.var 0) .str)) (.cons (.rse "NoText") .nil) .nil) (.cons (.ret (.u2 .spv (.var 0) (.var 1))) .nil))
def d_parted : PD := ⟨"parted", ["text", "between"], ["text", "between"], b_parted, topS 13⟩
def b_gate_text : Ss := (.cons (.ret (.bin .Add (.bin .Add (.b1 .str (.ix (.var 0) (.int 0))) (.str ":")) (.call "bits_text" (.cons (.ix (.var 0) (.int 1)) (.cons (.bin .LShift (.int 1) (.ix (.var 0) (.int 0))) .nil))))) .nil)
def d_gate_text : PD := ⟨"gate_text", ["gate"], ["gate"], b_gate_text, topS 14⟩
def b_read_gate : Ss := (.cons (.cst (.asg (.nm 1)) "parted" (.cons (.var 0) (.cons (.str ":") .nil))) (.cons (.ite (.cmp .NotEq (.b1 .len (.var 1)) (.int 2)) (.cons (.rse "NoText") .nil) .nil) (.cons (.cst (.asg (.nm 2)) "read_number" (.cons (.ix (.var 1) (.int 0)) .nil)) (.frz 2 (.cons (.ite (.cmp .Gt (.var 2) (.glb "MOST_INPUTS" 4)) (.cons (.rse "NoText") .nil) .nil) (.cons (.ef .ret (.xe (.t [(.p (.var 2)), (.c "read_bits" (.cons (.ix (.var 1) (.int 1)) (.cons (.bin .LShift (.int 1) (.var 2)) .nil)))])) .hd) .nil))))))
def d_read_gate : PD := ⟨"read_gate", ["text", "parts", "inputs"], ["text"], b_read_gate, topS 15⟩
def b_set_text : Ss := (.cons (.ret (.u1 (.joi " ") (.lc (.call "gate_text" (.cons (.var 1) .nil)) (.nm 1) (.seq (.var 0)) .none [1]))) .nil)
def d_set_text : PD := ⟨"set_text", ["gates", "gate"], ["gates"], b_set_text, topS 16⟩
def b_read_set : Ss := (.cons (.cst (.asg (.nm 1)) "parted" (.cons (.var 0) (.cons (.str " ") .nil))) (.frz 1 (.cons (.ite (.cmp .Eq (.var 0) (.str "")) (.cons (.ret (.lst .nil)) .nil) .nil) (.cons (.ite (.cmp .Gt (.b1 .len (.var 1)) (.glb "MOST_GATES" 6)) (.cons (.rse "NoText") .nil) .nil) (.cons (.ef .ret (.xe (.a (.l "read_gate" (.cons (.var 2) .nil) 2 (.seq (.var 1))))) .hd) .nil)))))
def d_read_set : PD := ⟨"read_set", ["text", "words", "word"], ["text"], b_read_set, topS 17⟩
def b_law_cell : Ss := (.cons (.ite (.cmp .Lt (.var 1) (.b1 .len (.var 0))) (.cons (.ret (.ix (.var 0) (.var 1))) .nil) .nil) (.cons (.asg (.nm 2) (.bin .Add (.bin .Mult (.var 1) (.int 101)) (.int 31))) (.cons (.ite (.cmp .Gt (.b1 .len (.var 0)) (.int 0)) (.cons (.asg (.nm 2) (.bin .Mod (.bin .Add (.bin .Mult (.ix (.var 0) (.bin .Mod (.bin .Mult (.var 1) (.int 3)) (.b1 .len (.var 0)))) (.int 48271)) (.bin .Mult (.var 1) (.int 101))) (.int 2147483647))) .nil) .nil) (.cons (.ret (.bin .Mod (.bin .Mult (.var 2) (.var 2)) (.int 2147483489))) .nil))))
def d_law_cell : PD := ⟨"_law_cell", ["_law_script", "_law_k", "_law_number"], ["_law_script", "_law_k"], b_law_cell, topS 19⟩
def b_law_gate : Ss := (.cons (.asg (.nm 1) (.bin .Mod (.var 0) (.int 5))) (.frz 1 (.cons (.asg (.nm 2) (.bin .Mod (.bin .FloorDiv (.var 0) (.int 5)) (.bin .LShift (.int 1) (.bin .LShift (.int 1) (.var 1))))) (.frz 2 (.cons (.ret (.tup (.cons (.var 1) (.cons (.ix (.lst (.cons (.var 2) (.cons (.var 2) (.cons (.int 0) (.cons (.bin .Sub (.bin .LShift (.int 1) (.bin .LShift (.int 1) (.var 1))) (.int 1)) .nil))))) (.bin .Mod (.bin .FloorDiv (.var 0) (.int 7)) (.int 4))) .nil)))) .nil)))))
def d_law_gate : PD := ⟨"_law_gate", ["_law_cell_here", "_law_inputs", "_law_bits"], ["_law_cell_here"], b_law_gate, topS 20⟩
def b_law_text : Ss := (.cons (.ret (.bin .Add (.bin .Add (.b1 .str (.ix (.var 0) (.int 0))) (.str ":")) (.u1 (.joi "") (.lc (.b1 .str (.bin .BitAnd (.bin .RShift (.ix (.var 0) (.int 1)) (.var 1)) (.int 1))) (.nm 1) (.rg1 (.bin .LShift (.int 1) (.ix (.var 0) (.int 0)))) .none [1])))) .nil)
def d_law_text : PD := ⟨"_law_text", ["_law_gate_here", "_law_r"], ["_law_gate_here"], b_law_text, topS 21⟩
def b_law_whole : Ss := (.cons (.ret (.and (.isi (.var 0) .int) (.not (.isi (.var 0) .bool)))) .nil)
def d_law_whole : PD := ⟨"_law_whole", ["_law_found"], ["_law_found"], b_law_whole, topS 22⟩
def b_law_is : Ss := (.cons (.ite (.or (.not (.isi (.var 0) .tuple)) (.or (.cmp .NotEq (.b1 .len (.var 0)) (.int 2)) (.or (.not (.call "_law_whole" (.cons (.ix (.var 0) (.int 0)) .nil))) (.not (.call "_law_whole" (.cons (.ix (.var 0) (.int 1)) .nil)))))) (.cons (.ret (.bl false)) .nil) .nil) (.cons (.ret (.and (.chn .LtE .LtE (.int 0) (.ix (.var 0) (.int 0)) (.int 4)) (.chn .LtE .Lt (.int 0) (.ix (.var 0) (.int 1)) (.bin .LShift (.int 1) (.bin .LShift (.int 1) (.ix (.var 0) (.int 0))))))) .nil))
def d_law_is : PD := ⟨"_law_is", ["_law_found"], ["_law_found"], b_law_is, topS 23⟩
def b_law_spoilt : Ss := (.cons (.asg (.nm 2) (.ix (.str "01234:: -x;59") (.bin .Mod (.bin .FloorDiv (.var 1) (.int 4)) (.int 13)))) (.cons (.asg (.nm 3) (.bin .Mod (.bin .FloorDiv (.var 1) (.int 64)) (.bin .Add (.b1 .len (.var 0)) (.int 1)))) (.frz 3 (.cons (.ite (.or (.cmp .Eq (.bin .Mod (.var 1) (.int 4)) (.int 0)) (.cmp .Eq (.var 0) (.str ""))) (.cons (.ret (.bin .Add (.bin .Add (.sl (.var 0) .none (.some (.var 3))) (.var 2)) (.sl (.var 0) (.some (.var 3)) .none))) .nil) .nil) (.cons (.asg (.nm 3) (.bin .Mod (.var 3) (.b1 .len (.var 0)))) (.frz 3 (.cons (.ite (.cmp .Eq (.bin .Mod (.var 1) (.int 4)) (.int 1)) (.cons (.ret (.bin .Add (.sl (.var 0) .none (.some (.var 3))) (.sl (.var 0) (.some (.bin .Add (.var 3) (.int 1))) .none))) .nil) .nil) (.cons (.ite (.cmp .Eq (.bin .Mod (.var 1) (.int 4)) (.int 2)) (.cons (.ret (.bin .Add (.bin .Add (.sl (.var 0) .none (.some (.var 3))) (.var 2)) (.sl (.var 0) (.some (.bin .Add (.var 3) (.int 1))) .none))) .nil) .nil) (.cons (.asg (.nm 4) (.bin .Mod (.bin .FloorDiv (.var 1) (.int 4096)) (.b1 .len (.var 0)))) (.frz 4 (.cons (.asg (.nm 5) (.b1 .list (.var 0))) (.cons (.setix 5 (.var 3) (.ix (.var 0) (.var 4))) (.cons (.setix 5 (.var 4) (.ix (.var 0) (.var 3))) (.frz 5 (.cons (.ret (.u1 (.joi "") (.var 5))) .nil)))))))))))))))
def d_law_spoilt : PD := ⟨"_law_spoilt", ["_law_text_here", "_law_cell_here", "_law_sign", "_law_at", "_law_other", "_law_signs"], ["_law_text_here", "_law_cell_here"], b_law_spoilt, topS 24⟩
def b_law_read : Ss := (.cons (.ite (.var 2) (.cons (.tr (.cons (.ef .ret (.pk "read_gate" "read_set" (.var 1) (.cons (.var 0) .nil)) .hd) .nil) (.cons ["GateError"] (some 3) (.cons (.ret (.pk2 (.str "other") (.str "none") (.and (.isx (.var 3) "NoText") (.not (.ixs (.var 3) ["NoName", "NoRow", "NoRelation"]))))) .nil) .nil)) .nil) .nil) (.cons (.tr (.cons (.ef .ret (.pk "read_gate" "read_set" (.var 1) (.cons (.var 0) .nil)) .hd) .nil) (.cons ["NoText"] (some 3) (.cons (.ret (.pk2 (.str "other") (.str "none") (.isx (.var 3) "ValueError"))) .nil) .nil)) .nil))
def d_law_read : PD := ⟨"_law_read", ["_law_text_here", "_law_many", "_law_base", "e"], ["_law_text_here", "_law_many", "_law_base"], b_law_read, topS 25⟩
def b_law_due : Ss := (.cons (.asg (.nm 1) (.u1 (.spl ":") (.var 0))) (.cons (.ite (.or (.cmp .NotEq (.b1 .len (.var 1)) (.int 2)) (.or (.cmp .NotIn (.ix (.var 1) (.int 0)) (.lst (.cons (.str "0") (.cons (.str "1") (.cons (.str "2") (.cons (.str "3") (.cons (.str "4") .nil))))))) (.cmp .NotEq (.b1 .len (.ix (.var 1) (.int 1))) (.bin .LShift (.int 1) (.b1 .int (.ix (.var 1) (.int 0))))))) (.cons (.ret (.str "none")) .nil) .nil) (.cons (.ite (.not (.b1 .all (.lc (.cmp .In (.var 2) (.str "01")) (.nm 2) (.seq (.ix (.var 1) (.int 1))) .none [2]))) (.cons (.ret (.str "none")) .nil) .nil) (.cons (.ret (.tup (.cons (.b1 .int (.ix (.var 1) (.int 0))) (.cons (.b1 .sum (.lc (.bin .LShift (.b1 .int (.ix (.ix (.var 1) (.int 1)) (.var 3))) (.var 3)) (.nm 3) (.rg1 (.b1 .len (.ix (.var 1) (.int 1)))) .none [3])) .nil)))) .nil))))
def d_law_due : PD := ⟨"_law_due", ["_law_text_here", "_law_parts", "_law_sign", "_law_r"], ["_law_text_here"], b_law_due, topS 26⟩
def b_law_good : Ss := (.cons (.asg (.nm 3) (.call "_law_read" (.cons (.var 0) (.cons (.var 1) (.cons (.var 2) .nil))))) (.frz 3 (.cons (.ite (.not (.var 1)) (.cons (.ret (.and (.cmp .Eq (.var 3) (.call "_law_due" (.cons (.var 0) .nil))) (.or (.cmp .Eq (.var 3) (.str "none")) (.call "_law_is" (.cons (.var 3) .nil))))) .nil) .nil) (.cons (.asg (.nm 4) (.lc (.call "_law_due" (.cons (.var 5) .nil)) (.nm 5) (.seq (.u1 (.spl " ") (.var 0))) .none [5])) (.cons (.ite (.cmp .Eq (.var 0) (.str "")) (.cons (.asg (.nm 4) (.lst .nil)) .nil) .nil) (.cons (.ite (.or (.cmp .In (.str "none") (.var 4)) (.cmp .Gt (.b1 .len (.var 4)) (.int 6))) (.cons (.ret (.cmp .Eq (.var 3) (.str "none"))) .nil) .nil) (.cons (.ret (.and (.isi (.var 3) .list) (.and (.cmp .Eq (.var 3) (.var 4)) (.b1 .all (.lc (.call "_law_is" (.cons (.var 6) .nil)) (.nm 6) (.seq (.var 3)) .none [6]))))) .nil)))))))
def d_law_good : PD := ⟨"_law_good", ["_law_text_here", "_law_many", "_law_base", "_law_found", "_law_due_here", "_law_word", "_law_gate_here"], ["_law_text_here", "_law_many", "_law_base"], b_law_good, topS 27⟩
def b_law : Ss := (.cons (.asg (.nm 1) (.call "_law_gate" (.cons (.bin .Mod (.call "_law_cell" (.cons (.var 0) (.cons (.int 0) .nil))) (.bin .Pow (.int 10) (.int 9))) .nil))) (.frz 1 (.cons (.asg (.nm 2) (.lc (.call "_law_gate" (.cons (.bin .Mod (.call "_law_cell" (.cons (.var 0) (.cons (.bin .Add (.int 2) (.var 4)) .nil))) (.bin .Pow (.int 10) (.int 9))) .nil)) (.nm 4) (.rg1 (.bin .Mod (.call "_law_cell" (.cons (.var 0) (.cons (.int 1) .nil))) (.int 7))) .none [4])) (.frz 2 (.cons (.asg (.nm 3) (.lst (.cons (.call "_law_text" (.cons (.var 1) .nil)) (.cons (.u1 (.joi " ") (.lc (.call "_law_text" (.cons (.var 8) .nil)) (.nm 8) (.seq (.var 2)) .none [8])) .nil)))) (.cons (.ite (.or (.cmp .NotEq (.call "gate_text" (.cons (.var 1) .nil)) (.ix (.var 3) (.int 0))) (.cmp .NotEq (.call "set_text" (.cons (.b1 .list (.var 2)) .nil)) (.ix (.var 3) (.int 1)))) (.cons (.ret (.bl false)) .nil) .nil) (.cons (.ite (.or (.cmp .NotEq (.call "read_gate" (.cons (.ix (.var 3) (.int 0)) .nil)) (.var 1)) (.or (.cmp .NotEq (.call "read_set" (.cons (.ix (.var 3) (.int 1)) .nil)) (.var 2)) (.not (.call "_law_is" (.cons (.call "read_gate" (.cons (.ix (.var 3) (.int 0)) .nil)) .nil))))) (.cons (.ret (.bl false)) .nil) .nil) (.cons (.for_ (.nm 4) (.rg1 (.int 6)) (.cons (.asg (.nm 7) (.bin .Mod (.call "_law_cell" (.cons (.var 0) (.cons (.bin .Add (.int 10) (.var 4)) .nil))) (.bin .Pow (.int 10) (.int 9)))) (.frz 7 (.cons (.ite (.not (.call "_law_good" (.cons (.call "_law_spoilt" (.cons (.ix (.var 3) (.bin .Mod (.var 4) (.int 2))) (.cons (.var 7) .nil))) (.cons (.cmp .Eq (.bin .Mod (.var 4) (.int 2)) (.int 1)) (.cons (.cmp .Eq (.bin .Mod (.bin .FloorDiv (.var 7) (.bin .Pow (.int 10) (.int 8))) (.int 2)) (.int 0)) .nil))))) (.cons (.ret (.bl false)) .nil) .nil) .nil)))) (.cons (.asg (.nm 5) (.u1 (.joi " ") (.lc (.ix (.var 3) (.int 0)) (.nm 4) (.rg1 (.int 7)) .none [4]))) (.frz 5 (.cons (.asg (.nm 6) (.ix (.lst (.cons .non (.cons (.int 2) (.cons (.bl true) (.cons (.lst (.cons (.ix (.var 3) (.int 0)) .nil)) (.cons (.tup (.cons (.int 2) (.cons (.int 8) .nil))) (.cons (.var 5) .nil))))))) (.bin .Mod (.call "_law_cell" (.cons (.var 0) (.cons (.int 20) .nil))) (.int 6)))) (.cons (.ret (.and (.cmp .Eq (.call "_law_read" (.cons (.var 6) (.cons (.bl false) (.cons (.bl true) .nil)))) (.str "none")) (.cmp .Eq (.call "_law_read" (.cons (.var 6) (.cons (.bl true) (.cons (.bl false) .nil)))) (.str "none")))) .nil))))))))))))
def d_law : PD := ⟨"law", ["_law_script", "_law_gate_here", "_law_gates", "_law_texts", "_law_k", "_law_seven", "_law_odd", "_law_cell_here", "_law_one"], ["_law_script"], b_law, topS 28⟩
def defs : List PD := [d_bits_text, d_read_bits, d_read_number, d_parted, d_gate_text, d_read_gate, d_set_text, d_read_set, d_law_cell, d_law_gate, d_law_text, d_law_whole, d_law_is, d_law_spoilt, d_law_read, d_law_due, d_law_good, d_law]
def cst : List (Str × Nat) := [("MOST_INPUTS", 4), ("MOST_GATES", 6)]
def ck : List (Str × D) := [("FIGURES", ck_FIGURES)]
def cd : List (Str × List (Str × D)) := []
def xr : List Str := ["NoText"]
def xd : List Str := ["GateError", "NoRelation", "NoText", "NoName", "NoRow"]
def fs : Fs := ⟨defs.map (·.name), cst, ck, cd, xr, xd, [], []⟩
def fu : Nat := 1000000000
abbrev run (k : Nat) (f : Str) (ss : List Sl) : M Sl := GK.call (tab defs) fu k f ss
theorem run_bits_text (k : Nat) (ss : List Sl) : run (k + 1) "bits_text" ss = runB (run k) fu ⟨["bits", "many", "k"], ["bits", "many"], b_bits_text⟩ ss := by
  have e : tab defs "bits_text" = some ⟨["bits", "many", "k"], ["bits", "many"], b_bits_text⟩ := by kernel_rfl
  show GK.call (tab defs) fu (k + 1) "bits_text" ss = _
  simp only [GK.call, e]
theorem run_read_bits (k : Nat) (ss : List Sl) : run (k + 1) "read_bits" ss = runB (run k) fu ⟨["text", "many", "found", "k"], ["text", "many"], b_read_bits⟩ ss := by
  have e : tab defs "read_bits" = some ⟨["text", "many", "found", "k"], ["text", "many"], b_read_bits⟩ := by kernel_rfl
  show GK.call (tab defs) fu (k + 1) "read_bits" ss = _
  simp only [GK.call, e]
theorem run_read_number (k : Nat) (ss : List Sl) : run (k + 1) "read_number" ss = runB (run k) fu ⟨["text", "sign"], ["text"], b_read_number⟩ ss := by
  have e : tab defs "read_number" = some ⟨["text", "sign"], ["text"], b_read_number⟩ := by kernel_rfl
  show GK.call (tab defs) fu (k + 1) "read_number" ss = _
  simp only [GK.call, e]
theorem run_parted (k : Nat) (ss : List Sl) : run (k + 1) "parted" ss = runB (run k) fu ⟨["text", "between"], ["text", "between"], b_parted⟩ ss := by
  have e : tab defs "parted" = some ⟨["text", "between"], ["text", "between"], b_parted⟩ := by kernel_rfl
  show GK.call (tab defs) fu (k + 1) "parted" ss = _
  simp only [GK.call, e]
theorem run_gate_text (k : Nat) (ss : List Sl) : run (k + 1) "gate_text" ss = runB (run k) fu ⟨["gate"], ["gate"], b_gate_text⟩ ss := by
  have e : tab defs "gate_text" = some ⟨["gate"], ["gate"], b_gate_text⟩ := by kernel_rfl
  show GK.call (tab defs) fu (k + 1) "gate_text" ss = _
  simp only [GK.call, e]
theorem run_read_gate (k : Nat) (ss : List Sl) : run (k + 1) "read_gate" ss = runB (run k) fu ⟨["text", "parts", "inputs"], ["text"], b_read_gate⟩ ss := by
  have e : tab defs "read_gate" = some ⟨["text", "parts", "inputs"], ["text"], b_read_gate⟩ := by kernel_rfl
  show GK.call (tab defs) fu (k + 1) "read_gate" ss = _
  simp only [GK.call, e]
theorem run_set_text (k : Nat) (ss : List Sl) : run (k + 1) "set_text" ss = runB (run k) fu ⟨["gates", "gate"], ["gates"], b_set_text⟩ ss := by
  have e : tab defs "set_text" = some ⟨["gates", "gate"], ["gates"], b_set_text⟩ := by kernel_rfl
  show GK.call (tab defs) fu (k + 1) "set_text" ss = _
  simp only [GK.call, e]
theorem run_read_set (k : Nat) (ss : List Sl) : run (k + 1) "read_set" ss = runB (run k) fu ⟨["text", "words", "word"], ["text"], b_read_set⟩ ss := by
  have e : tab defs "read_set" = some ⟨["text", "words", "word"], ["text"], b_read_set⟩ := by kernel_rfl
  show GK.call (tab defs) fu (k + 1) "read_set" ss = _
  simp only [GK.call, e]
theorem run_law_cell (k : Nat) (ss : List Sl) : run (k + 1) "_law_cell" ss = runB (run k) fu ⟨["_law_script", "_law_k", "_law_number"], ["_law_script", "_law_k"], b_law_cell⟩ ss := by
  have e : tab defs "_law_cell" = some ⟨["_law_script", "_law_k", "_law_number"], ["_law_script", "_law_k"], b_law_cell⟩ := by kernel_rfl
  show GK.call (tab defs) fu (k + 1) "_law_cell" ss = _
  simp only [GK.call, e]
theorem run_law_gate (k : Nat) (ss : List Sl) : run (k + 1) "_law_gate" ss = runB (run k) fu ⟨["_law_cell_here", "_law_inputs", "_law_bits"], ["_law_cell_here"], b_law_gate⟩ ss := by
  have e : tab defs "_law_gate" = some ⟨["_law_cell_here", "_law_inputs", "_law_bits"], ["_law_cell_here"], b_law_gate⟩ := by kernel_rfl
  show GK.call (tab defs) fu (k + 1) "_law_gate" ss = _
  simp only [GK.call, e]
theorem run_law_text (k : Nat) (ss : List Sl) : run (k + 1) "_law_text" ss = runB (run k) fu ⟨["_law_gate_here", "_law_r"], ["_law_gate_here"], b_law_text⟩ ss := by
  have e : tab defs "_law_text" = some ⟨["_law_gate_here", "_law_r"], ["_law_gate_here"], b_law_text⟩ := by kernel_rfl
  show GK.call (tab defs) fu (k + 1) "_law_text" ss = _
  simp only [GK.call, e]
theorem run_law_whole (k : Nat) (ss : List Sl) : run (k + 1) "_law_whole" ss = runB (run k) fu ⟨["_law_found"], ["_law_found"], b_law_whole⟩ ss := by
  have e : tab defs "_law_whole" = some ⟨["_law_found"], ["_law_found"], b_law_whole⟩ := by kernel_rfl
  show GK.call (tab defs) fu (k + 1) "_law_whole" ss = _
  simp only [GK.call, e]
theorem run_law_is (k : Nat) (ss : List Sl) : run (k + 1) "_law_is" ss = runB (run k) fu ⟨["_law_found"], ["_law_found"], b_law_is⟩ ss := by
  have e : tab defs "_law_is" = some ⟨["_law_found"], ["_law_found"], b_law_is⟩ := by kernel_rfl
  show GK.call (tab defs) fu (k + 1) "_law_is" ss = _
  simp only [GK.call, e]
theorem run_law_spoilt (k : Nat) (ss : List Sl) : run (k + 1) "_law_spoilt" ss = runB (run k) fu ⟨["_law_text_here", "_law_cell_here", "_law_sign", "_law_at", "_law_other", "_law_signs"], ["_law_text_here", "_law_cell_here"], b_law_spoilt⟩ ss := by
  have e : tab defs "_law_spoilt" = some ⟨["_law_text_here", "_law_cell_here", "_law_sign", "_law_at", "_law_other", "_law_signs"], ["_law_text_here", "_law_cell_here"], b_law_spoilt⟩ := by kernel_rfl
  show GK.call (tab defs) fu (k + 1) "_law_spoilt" ss = _
  simp only [GK.call, e]
theorem run_law_read (k : Nat) (ss : List Sl) : run (k + 1) "_law_read" ss = runB (run k) fu ⟨["_law_text_here", "_law_many", "_law_base", "e"], ["_law_text_here", "_law_many", "_law_base"], b_law_read⟩ ss := by
  have e : tab defs "_law_read" = some ⟨["_law_text_here", "_law_many", "_law_base", "e"], ["_law_text_here", "_law_many", "_law_base"], b_law_read⟩ := by kernel_rfl
  show GK.call (tab defs) fu (k + 1) "_law_read" ss = _
  simp only [GK.call, e]
theorem run_law_due (k : Nat) (ss : List Sl) : run (k + 1) "_law_due" ss = runB (run k) fu ⟨["_law_text_here", "_law_parts", "_law_sign", "_law_r"], ["_law_text_here"], b_law_due⟩ ss := by
  have e : tab defs "_law_due" = some ⟨["_law_text_here", "_law_parts", "_law_sign", "_law_r"], ["_law_text_here"], b_law_due⟩ := by kernel_rfl
  show GK.call (tab defs) fu (k + 1) "_law_due" ss = _
  simp only [GK.call, e]
theorem run_law_good (k : Nat) (ss : List Sl) : run (k + 1) "_law_good" ss = runB (run k) fu ⟨["_law_text_here", "_law_many", "_law_base", "_law_found", "_law_due_here", "_law_word", "_law_gate_here"], ["_law_text_here", "_law_many", "_law_base"], b_law_good⟩ ss := by
  have e : tab defs "_law_good" = some ⟨["_law_text_here", "_law_many", "_law_base", "_law_found", "_law_due_here", "_law_word", "_law_gate_here"], ["_law_text_here", "_law_many", "_law_base"], b_law_good⟩ := by kernel_rfl
  show GK.call (tab defs) fu (k + 1) "_law_good" ss = _
  simp only [GK.call, e]
theorem run_law (k : Nat) (ss : List Sl) : run (k + 1) "law" ss = runB (run k) fu ⟨["_law_script", "_law_gate_here", "_law_gates", "_law_texts", "_law_k", "_law_seven", "_law_odd", "_law_cell_here", "_law_one"], ["_law_script"], b_law⟩ ss := by
  have e : tab defs "law" = some ⟨["_law_script", "_law_gate_here", "_law_gates", "_law_texts", "_law_k", "_law_seven", "_law_odd", "_law_cell_here", "_law_one"], ["_law_script"], b_law⟩ := by kernel_rfl
  show GK.call (tab defs) fu (k + 1) "law" ss = _
  simp only [GK.call, e]
end K81

namespace K81
open GK PySem
/-! ### texts: joined and split, numbers as texts -/
abbrev cp (s : Str) : List Nat := s.cps.toList
theorem str_cp {a b : Str} (h : cp a = cp b) : a = b := Str.ext' (Array.toList_inj.mp h)
theorem cp_app (a b : Str) : cp (a ++ b) = cp a ++ cp b := by
  show (a.cps ++ b.cps).toList = _
  rw [Array.toList_append]
theorem cp_len (a : Str) : (cp a).length = a.length := Array.length_toList
theorem cp_one (c : Nat) : cp ⟨#[c]⟩ = [c] := rfl
/-- a separator between parts -/
def jn (y : List Nat) : List (List Nat) → List Nat
  | [] => []
  | [x] => x
  | x :: z :: r => x ++ y ++ jn y (z :: r)
theorem cp_join (y : Str) : ∀ ps : List Str, cp (Str.join y ps) = jn (cp y) (ps.map cp)
  | [] => rfl
  | [x] => rfl
  | x :: z :: r => by
    show cp (x ++ y ++ Str.join y (z :: r)) = cp x ++ cp y ++ jn (cp y) ((z :: r).map cp)
    rw [cp_app, cp_app, cp_join y (z :: r)]
theorem join_eq (y : Str) (ps : List Str) : Txt.join y ps = Str.join y ps := StrLaws.glued_eq_join y ps
theorem at_sign {x y : Str} {c : Nat} {ys : List Nat} (hy : cp y = c :: ys) {k : Nat} (h : StrLaws.At x y x.length k) : (cp x)[k]? = some c := by
  have h2 := h.2
  rw [StrLaws.subAt_eq] at h2
  have h3 : ((cp x).drop k).take y.length = c :: ys := by rw [← hy]; exact eq_of_beq h2
  have hl : 0 < y.length := by rw [← cp_len, hy]; exact Nat.succ_pos _
  have h4 : (((cp x).drop k).take y.length)[0]? = some c := by rw [h3]; rfl
  rw [List.getElem?_take_of_lt hl, List.getElem?_drop, Nat.add_zero] at h4
  exact h4
theorem at_here {x y : Str} {k : Nat} {r : List Nat} (h : (cp x).drop k = cp y ++ r) (hk : k ≤ x.length) : StrLaws.At x y x.length k := by
  have hl := congrArg List.length h
  rw [List.length_drop, List.length_append, cp_len, cp_len] at hl
  refine ⟨by omega, ?_⟩
  rw [StrLaws.subAt_eq]
  show (((cp x).drop k).take y.length == cp y) = true
  rw [h, ← cp_len, List.take_left]
  exact beq_self_eq_true _
theorem parts_eq (x y : Str) {c : Nat} {ys : List Nat} (hy : cp y = c :: ys) : ∀ (ps : List Str) (a f : Nat) (cuts : List Nat), ps ≠ [] → (∀ p ∈ ps, c ∉ cp p) → a ≤ x.length →
    (cp x).drop a = jn (cp y) (ps.map cp) → StrLaws.ChainG x y x.length a cuts f → (∀ k, f ≤ k → ¬ StrLaws.At x y x.length k) → StrLaws.partsFrom x y.length a cuts = ps
  | [], _, _, _, ne, _, _, _, _, _ => absurd rfl ne
  | [p], a, f, cuts, _, hp, ha, hd, hc, hn => by
    have hd : (cp x).drop a = cp p := hd
    cases cuts with
    | nil =>
      show [Builtin.Str.strSub x a x.length] = [p]
      rw [show Builtin.Str.strSub x a x.length = p from str_cp (by
        show (Builtin.Str.strSub x a x.length).cps.toList = _
        rw [StrLaws.strSub_toList]
        show ((cp x).drop a).take (x.length - a) = cp p
        rw [← hd]
        exact List.take_of_length_le (by rw [List.length_drop, cp_len]; exact Nat.le_refl _))]
    | cons d r =>
      have h1 := at_sign hy hc.2.1
      have h2 : ((cp x).drop a)[d - a]? = some c := by
        rw [List.getElem?_drop, show a + (d - a) = d from Nat.add_sub_cancel' hc.1]
        exact h1
      rw [hd] at h2
      exact absurd (List.mem_of_getElem? h2) (hp p List.mem_cons_self)
  | p :: q :: r, a, f, cuts, _, hp, ha, hd, hc, hn => by
    have hd : (cp x).drop a = cp p ++ cp y ++ jn (cp y) ((q :: r).map cp) := hd
    have hdl := congrArg List.length hd
    rw [List.length_drop, List.length_append, List.length_append, cp_len, cp_len, cp_len] at hdl
    have hd2 : (cp x).drop (a + p.length) = cp y ++ jn (cp y) ((q :: r).map cp) := by
      rw [← List.drop_drop, hd, List.append_assoc, ← cp_len p, List.drop_left]
    have hl : 0 < y.length := by rw [← cp_len, hy]; exact Nat.succ_pos _
    have here := at_here hd2 (by omega)
    cases cuts with
    | nil =>
      have e : f = a := hc
      subst e
      exact absurd here (hn _ (Nat.le_add_right _ _))
    | cons d s =>
      obtain ⟨c1, c2, c3, c4⟩ := hc
      have h1 := at_sign hy c2
      have e : d = a + p.length := by
        rcases Nat.lt_trichotomy d (a + p.length) with z | z | z
        · have h2 : ((cp x).drop a)[d - a]? = some c := by
            rw [List.getElem?_drop, show a + (d - a) = d from Nat.add_sub_cancel' c1]
            exact h1
          rw [hd, List.append_assoc, List.getElem?_append_left (by rw [cp_len]; omega)] at h2
          exact absurd (List.mem_of_getElem? h2) (hp p List.mem_cons_self)
        · exact z
        · exact absurd here (c3 _ (Nat.le_add_right _ _) z)
      subst e
      show Builtin.Str.strSub x a (a + p.length) :: StrLaws.partsFrom x y.length (a + p.length + y.length) s = p :: q :: r
      rw [show Builtin.Str.strSub x a (a + p.length) = p from str_cp (by
        show (Builtin.Str.strSub x a (a + p.length)).cps.toList = _
        rw [StrLaws.strSub_toList]
        show ((cp x).drop a).take (a + p.length - a) = cp p
        rw [hd, Nat.add_sub_cancel_left, List.append_assoc, ← cp_len p, List.take_left])]
      rw [parts_eq x y hy (q :: r) (a + p.length + y.length) f s (by intro z; cases z) (fun z hz => hp z (List.mem_cons_of_mem _ hz)) (by omega) (by
        rw [← List.drop_drop, hd2, ← cp_len y, List.drop_left]) c4 hn]
theorem kind_pos (x : Str) : 1 ≤ Builtin.Str.strKind x := by
  unfold Builtin.Str.strKind
  split
  · exact Nat.le_refl _
  · split <;> decide
/-- the parts of a text that was joined -/
theorem split_jn (x y : Str) {c : Nat} {ys : List Nat} (hy : cp y = c :: ys) (hk : Builtin.Str.strKind y = 1) (ps : List Str) (ne : ps ≠ []) (hp : ∀ p ∈ ps, c ∉ cp p) (hx : cp x = jn (cp y) (ps.map cp)) : Txt.split x y = ps := by
  have hl : 1 ≤ y.length := by rw [← cp_len, hy]; exact Nat.succ_pos _
  obtain ⟨f, hG, hn⟩ := StrLaws.occ_tight x y hl
  have key := parts_eq x y hy ps 0 f _ ne hp (Nat.zero_le _) (by rw [List.drop_zero]; exact hx) hG hn
  unfold Txt.split
  split
  · rename_i hc
    rw [Bool.or_eq_true, decide_eq_true_eq, decide_eq_true_eq] at hc
    rcases hc with hc | hc
    · cases ps with
      | nil => exact absurd rfl ne
      | cons p r =>
        cases r with
        | nil => exact congrArg (fun z => [z]) (str_cp hx)
        | cons q r =>
          have z : cp x = cp p ++ cp y ++ jn (cp y) ((q :: r).map cp) := hx
          have := congrArg List.length z
          rw [List.length_append, List.length_append, cp_len, cp_len, cp_len] at this
          omega
    · have := kind_pos x
      omega
  · split
    · rename_i he
      rw [List.isEmpty_iff.mp he] at key
      rw [← key]
      show [x] = [Builtin.Str.strSub x 0 x.length]
      rw [StrLaws.sub_whole]
    · rw [StrLaws.partsBetween_eq]
      exact key
theorem split_join (y : Str) {c : Nat} {ys : List Nat} (hy : cp y = c :: ys) (hk : Builtin.Str.strKind y = 1) (ps : List Str) (ne : ps ≠ []) (hp : ∀ p ∈ ps, c ∉ cp p) : Txt.split (Txt.join y ps) y = ps :=
  split_jn _ y hy hk ps ne hp (by rw [join_eq, cp_join])
theorem split_ne (x y : Str) : Txt.split x y ≠ [] := by
  unfold Txt.split
  split
  · exact List.cons_ne_nil _ _
  · split
    · exact List.cons_ne_nil _ _
    · rw [StrLaws.partsBetween_eq]
      obtain ⟨p, r, e⟩ := StrLaws.partsFrom_ne x y.length 0 (Builtin.Str.occurrences x y 0 x.length (x.length + 1))
      rw [e]
      exact List.cons_ne_nil _ _
theorem jn_count (y : List Nat) (c : Nat) (hc : 1 ≤ y.count c) : ∀ ps : List (List Nat), ps.length ≤ (jn y ps).count c + 1
  | [] => Nat.zero_le _
  | [x] => by simp
  | x :: z :: r => by
    have h := jn_count y c hc (z :: r)
    show (z :: r).length + 1 ≤ (x ++ y ++ jn y (z :: r)).count c + 1
    rw [List.count_append, List.count_append]
    omega
theorem split_many (x y : Str) (c : Nat) (hc : 1 ≤ (cp y).count c) : (Txt.split x y).length ≤ (cp x).count c + 1 := by
  have h := jn_count (cp y) c hc ((Txt.split x y).map cp)
  rw [← cp_join, StrLaws.join_split, List.length_map] at h
  exact h
theorem jn_part (y : List Nat) : ∀ (ps : List (List Nat)) (p : List Nat), p ∈ ps → p.length ≤ (jn y ps).length
  | [x], p, h => by
    rw [List.mem_singleton.mp h]
    exact Nat.le_refl _
  | x :: z :: r, p, h => by
    show p.length ≤ (x ++ y ++ jn y (z :: r)).length
    rw [List.length_append, List.length_append]
    rcases List.mem_cons.mp h with rfl | h
    · omega
    · have := jn_part y (z :: r) p h
      omega
theorem split_short {x y p : Str} (h : p ∈ Txt.split x y) : p.length ≤ x.length := by
  have := jn_part (cp y) ((Txt.split x y).map cp) (cp p) (List.mem_map_of_mem h)
  rw [← cp_join, StrLaws.join_split, cp_len, cp_len] at this
  exact this
theorem split_few (x y : Str) (hy : (y.length == 0) = false) : (Txt.split x y).length ≤ x.length + 1 := by
  have hl : 1 ≤ y.length := by
    rcases Nat.eq_zero_or_pos y.length with z | z
    · rw [z] at hy
      cases hy
    · exact z
  cases e : cp y with
  | nil =>
    have := cp_len y
    rw [e] at this
    have : 0 = y.length := this
    omega
  | cons c ys =>
    have h := split_many x y c (by rw [e, List.count_cons_self]; exact Nat.succ_pos _)
    have h2 : (cp x).count c ≤ (cp x).length := List.count_le_length
    rw [cp_len] at h2
    omega

/-! ### numbers, gates and circuits as texts -/
def numT (k : Nat) : Str := Str.ofString (toString ((k : Nat) : Int))
def digs (k : Nat) : List Nat := (Nat.toDigits 10 k).map Char.toNat
theorem cp_num (k : Nat) : cp (numT k) = digs k := PySem.W.KIN.signs_num k
def dgOk (l : List Nat) : Bool := l.all fun c => decide (48 ≤ c) && decide (c ≤ 57)
def numOk (l : List Nat) : Bool := decide (1 ≤ l.length) && (decide (l.length ≤ 4) && (!(decide (l[0]? = some 48) && decide (1 < l.length)) && dgOk l))
theorem digs_ok : ∀ k, k < 1000 → numOk (digs k) = true := by
  have h : (List.range 1000).all (fun k => numOk (digs k)) = true := by decide +kernel
  intro k hk
  exact List.all_eq_true.mp h k (List.mem_range.mpr hk)
theorem dg_all {l : List Nat} (h : dgOk l = true) : NumText.AllDigits l := fun c hc => by
  have := List.all_eq_true.mp h c hc
  simp only [Bool.and_eq_true, decide_eq_true_eq] at this
  exact this
theorem num_dg {k : Nat} (h : k < 1000) : dgOk (cp (numT k)) = true := by
  have := digs_ok k h
  rw [cp_num]
  unfold numOk at this
  simp only [Bool.and_eq_true] at this
  exact this.2.2.2
theorem num_val (k : Nat) : NumText.digitsVal (cp (numT k)) = k := by
  rw [cp_num]
  exact PySem.W.KIN.val_back k
theorem num_int {k : Nat} (h : k < 1000) : PySem.intText? (numT k) = some ((k : Nat) : Int) := PySem.W.KIN.num_reads (by omega) (by omega)
theorem num_short {k : Nat} (h : k < 1000) : (numT k).length ≤ 4 := by
  have := digs_ok k h
  unfold numOk at this
  simp only [Bool.and_eq_true, decide_eq_true_eq] at this
  rw [← cp_len, cp_num]
  exact this.2.1
theorem num_free {k c : Nat} (h : k < 1000) (hc : c < 48 ∨ 57 < c) : c ∉ cp (numT k) := fun z => by
  have := dg_all (num_dg h) c z
  omega
/-- a whole number read -/
def rdNum (w : Str) : Option Nat := if numOk (cp w) = true then some (NumText.digitsVal (cp w)) else none
theorem rdNum_num {k : Nat} (h : k < 1000) : rdNum (numT k) = some k := by
  unfold rdNum
  rw [if_pos (by rw [cp_num]; exact digs_ok k h), num_val]
theorem rdNum_back {w : Str} {k : Nat} (h : rdNum w = some k) (hk : k < 40) : w = numT k := by
  unfold rdNum at h
  split at h
  · rename_i ho
    cases h
    apply str_cp
    rw [cp_num]
    generalize hl : cp w = l at ho hk
    unfold numOk at ho
    simp only [Bool.and_eq_true, decide_eq_true_eq, Bool.not_eq_true', Bool.and_eq_false_iff, decide_eq_false_iff_not] at ho
    obtain ⟨o1, o2, o3, o4⟩ := ho
    have o4 := dg_all o4
    match l, o1, o2, o3, o4, hk with
    | [a], _, _, _, o4, hk =>
      have ha := o4 a (by simp)
      have q : ∀ a', a' < 10 → digs (NumText.digitsVal [a' + 48]) = [a' + 48] := by decide +kernel
      have := q (a - 48) (by omega)
      rw [show a - 48 + 48 = a by omega] at this
      exact this.symm
    | [a, b], _, _, o3, o4, hk =>
      have ha := o4 a (by simp)
      have hb := o4 b (by simp)
      have h0 : a ≠ 48 := by
        rcases o3 with z | z
        · intro e
          exact z (by rw [e]; rfl)
        · exact absurd (show 1 < 2 by decide) z
      have q : ∀ a', a' < 10 → 1 ≤ a' → ∀ b', b' < 10 → digs (NumText.digitsVal [a' + 48, b' + 48]) = [a' + 48, b' + 48] := by decide +kernel
      have := q (a - 48) (by omega) (by omega) (b - 48) (by omega)
      rw [show a - 48 + 48 = a by omega, show b - 48 + 48 = b by omega] at this
      exact this.symm
    | [a, b, c], _, _, o3, o4, hk =>
      have ha := o4 a (by simp)
      have h0 : a ≠ 48 := by
        rcases o3 with z | z
        · intro e
          exact z (by rw [e]; rfl)
        · exact absurd (show 1 < 3 by decide) z
      have hk : ((0 * 10 + (a - 48)) * 10 + (b - 48)) * 10 + (c - 48) < 40 := hk
      omega
    | [a, b, c, d], _, _, o3, o4, hk =>
      have ha := o4 a (by simp)
      have h0 : a ≠ 48 := by
        rcases o3 with z | z
        · intro e
          exact z (by rw [e]; rfl)
        · exact absurd (show 1 < 4 by decide) z
      have hk : (((0 * 10 + (a - 48)) * 10 + (b - 48)) * 10 + (c - 48)) * 10 + (d - 48) < 40 := hk
      omega
    | _ :: _ :: _ :: _ :: _ :: _, _, o2, _, _, _ =>
      simp only [List.length_cons] at o2
      omega
  · cases h
theorem num_inj {a b : Nat} (h : numT a = numT b) : a = b := by
  have := congrArg (fun z => NumText.digitsVal (cp z)) h
  simp only [num_val] at this
  exact this
/-- bits as figures -/
def bitsT (b m : Nat) : Str := Txt.join "" ((List.range m).map fun k => numT (b / 2 ^ k % 2))
def bv : List Nat → Nat
  | [] => 0
  | c :: r => (c - 48) + 2 * bv r
def btOk (l : List Nat) : Bool := l.all fun c => decide (c = 48) || decide (c = 49)
def rdBits (w : Str) (m : Nat) : Option Nat := if (decide (w.length = m) && btOk (cp w)) = true then some (bv (cp w)) else none
theorem jn_nil : ∀ ps : List (List Nat), jn [] ps = ps.flatten
  | [] => rfl
  | [x] => by simp [jn]
  | x :: z :: r => by
    show x ++ [] ++ jn [] (z :: r) = x ++ (z :: r).flatten
    rw [jn_nil (z :: r), List.append_nil]
theorem cp_empty : cp ("" : Str) = [] := by decide +kernel
theorem num01 : ∀ k, k < 2 → digs k = [48 + k] := by decide +kernel
theorem cp_bits (b m : Nat) : cp (bitsT b m) = (List.range m).map fun k => 48 + b / 2 ^ k % 2 := by
  unfold bitsT
  rw [join_eq, cp_join, cp_empty, jn_nil, List.map_map]
  have : ((List.range m).map (cp ∘ fun k => numT (b / 2 ^ k % 2))) = (List.range m).map fun k => [48 + b / 2 ^ k % 2] :=
    List.map_congr_left fun k _ => by
      show cp (numT (b / 2 ^ k % 2)) = _
      rw [cp_num, num01 _ (Nat.mod_lt _ (by decide))]
  rw [this]
  induction (List.range m) with
  | nil => rfl
  | cons x r ih => simp only [List.map_cons, List.flatten_cons, ih, List.singleton_append]
theorem bits_len (b m : Nat) : (bitsT b m).length = m := by
  rw [← cp_len, cp_bits, List.length_map, List.length_range]
theorem bv_range : ∀ (m b : Nat), bv ((List.range m).map fun k => 48 + b / 2 ^ k % 2) = b % 2 ^ m
  | 0, b => by simp [bv, Nat.mod_one]
  | m + 1, b => by
    rw [List.range_succ_eq_map, List.map_cons, List.map_map]
    have e : ((List.range m).map ((fun k => 48 + b / 2 ^ k % 2) ∘ Nat.succ)) = (List.range m).map fun k => 48 + (b / 2) / 2 ^ k % 2 :=
      List.map_congr_left fun k _ => by
        show 48 + b / 2 ^ (k + 1) % 2 = _
        rw [Nat.pow_succ, Nat.mul_comm, Nat.div_div_eq_div_mul]
    rw [e]
    show (48 + b / 2 ^ 0 % 2 - 48) + 2 * bv _ = _
    rw [bv_range m (b / 2), Nat.pow_zero, Nat.div_one, Nat.pow_succ, Nat.mul_comm (2 ^ m) 2, Nat.mod_mul]
    omega
theorem bits_ok (b m : Nat) : btOk (cp (bitsT b m)) = true := by
  rw [cp_bits]
  unfold btOk
  rw [List.all_eq_true]
  intro c hc
  obtain ⟨k, _, rfl⟩ := List.mem_map.mp hc
  have := Nat.mod_lt (b / 2 ^ k) (show 0 < 2 by decide)
  simp only [Bool.or_eq_true, decide_eq_true_eq]
  omega
theorem rdBits_bits {b m : Nat} (h : b < 2 ^ m) : rdBits (bitsT b m) m = some b := by
  unfold rdBits
  rw [if_pos (by rw [bits_ok, bits_len]; simp), cp_bits, bv_range, Nat.mod_eq_of_lt h]
theorem bits_free {b m c : Nat} (hc : c < 48 ∨ 57 < c) : c ∉ cp (bitsT b m) := fun z => by
  have := List.all_eq_true.mp (bits_ok b m) c z
  simp only [Bool.or_eq_true, decide_eq_true_eq] at this
  omega
theorem bv_snoc : ∀ (l : List Nat) (c : Nat), bv (l ++ [c]) = bv l + (c - 48) * 2 ^ l.length
  | [], c => by simp [bv]
  | d :: l, c => by
    show (d - 48) + 2 * bv (l ++ [c]) = (d - 48) + 2 * bv l + (c - 48) * 2 ^ (l.length + 1)
    rw [bv_snoc l c, Nat.pow_succ, Nat.mul_add, Nat.add_assoc]
    congr 2
    rw [Nat.mul_comm 2, Nat.mul_assoc]
theorem bv_lt : ∀ (l : List Nat), btOk l = true → bv l < 2 ^ l.length
  | [], _ => by decide
  | c :: l, h => by
    unfold btOk at h
    rw [List.all_cons, Bool.and_eq_true] at h
    have h1 := bv_lt l h.2
    have h2 := h.1
    simp only [Bool.or_eq_true, decide_eq_true_eq] at h2
    show (c - 48) + 2 * bv l < 2 ^ (l.length + 1)
    rw [Nat.pow_succ]
    omega
/-- gates -/
def gateT (g : Nat × Nat) : Str := numT g.1 ++ (":" : Str) ++ bitsT g.2 (2 ^ g.1)
def rdGate (w : Str) : Option (Nat × Nat) := match Txt.split w ":" with
  | [a, b] => (rdNum a).bind fun n => if n ≤ 4 then (rdBits b (2 ^ n)).map fun x => (n, x) else none
  | _ => none
theorem cp_colon : cp (":" : Str) = [58] := by decide +kernel
theorem cp_blank : cp (" " : Str) = [32] := by decide +kernel
theorem cp_semi : cp ("; " : Str) = [59, 32] := by decide +kernel
theorem cp_great : cp ("> " : Str) = [62, 32] := by decide +kernel
theorem kind_colon : Builtin.Str.strKind (":" : Str) = 1 := by decide +kernel
theorem kind_blank : Builtin.Str.strKind (" " : Str) = 1 := by decide +kernel
theorem kind_semi : Builtin.Str.strKind ("; " : Str) = 1 := by decide +kernel
theorem cp_gate (g : Nat × Nat) : cp (gateT g) = cp (numT g.1) ++ [58] ++ cp (bitsT g.2 (2 ^ g.1)) := by
  unfold gateT
  rw [cp_app, cp_app, cp_colon]
theorem gate_split {g : Nat × Nat} (h : g.1 < 1000) : Txt.split (gateT g) ":" = [numT g.1, bitsT g.2 (2 ^ g.1)] :=
  split_jn _ _ cp_colon kind_colon _ (List.cons_ne_nil _ _) (fun p hp => by
    rcases List.mem_cons.mp hp with rfl | hp
    · exact num_free h (by decide)
    · rw [List.mem_singleton.mp hp]
      exact bits_free (by decide)) (by rw [cp_gate, cp_colon]; rfl)
theorem rdGate_gate {g : Nat × Nat} (hn : g.1 ≤ 4) (hb : g.2 < 2 ^ 2 ^ g.1) : rdGate (gateT g) = some g := by
  unfold rdGate
  rw [gate_split (by omega)]
  simp only [rdNum_num (show g.1 < 1000 by omega), Option.bind_some, if_pos hn, rdBits_bits hb, Option.map_some]
theorem gate_free {g : Nat × Nat} {c : Nat} (h : g.1 < 1000) (hc : c < 48 ∨ 57 < c) (h2 : c ≠ 58) : c ∉ cp (gateT g) := fun z => by
  rw [cp_gate] at z
  rcases List.mem_append.mp z with z | z
  · rcases List.mem_append.mp z with z | z
    · exact num_free h hc z
    · exact h2 (List.mem_singleton.mp z)
  · exact bits_free hc z
/-- steps -/
abbrev GS := (Nat × Nat) × List Nat
def stepT (s : GS) : Str := Txt.join " " (gateT s.1 :: s.2.map numT)
def rdNums : List Str → Option (List Nat)
  | [] => some []
  | w :: r => (rdNum w).bind fun k => (rdNums r).map fun ks => k :: ks
def rdStep (w : Str) : Option GS := match Txt.split w " " with
  | g :: ws => (rdGate g).bind fun x => (rdNums ws).map fun ks => (x, ks)
  | [] => none
theorem rdNums_nums : ∀ ks : List Nat, (∀ k ∈ ks, k < 1000) → rdNums (ks.map numT) = some ks
  | [], _ => rfl
  | k :: ks, h => by
    simp only [List.map_cons, rdNums, rdNum_num (h k List.mem_cons_self), rdNums_nums ks fun x hx => h x (List.mem_cons_of_mem _ hx), Option.bind_some, Option.map_some]
def GsOk (s : GS) : Prop := s.1.1 ≤ 4 ∧ s.1.2 < 2 ^ 2 ^ s.1.1 ∧ ∀ k ∈ s.2, k < 1000
theorem step_split {s : GS} (h : GsOk s) : Txt.split (stepT s) " " = gateT s.1 :: s.2.map numT :=
  split_join _ cp_blank kind_blank _ (List.cons_ne_nil _ _) fun p hp => by
    rcases List.mem_cons.mp hp with rfl | hp
    · exact gate_free (by have := h.1; omega) (by decide) (by decide)
    · obtain ⟨k, hk, rfl⟩ := List.mem_map.mp hp
      exact num_free (h.2.2 k hk) (by decide)
theorem rdStep_step {s : GS} (h : GsOk s) : rdStep (stepT s) = some s := by
  unfold rdStep
  rw [step_split h]
  simp only [rdGate_gate h.1 h.2.1, rdNums_nums s.2 h.2.2, Option.bind_some, Option.map_some]
theorem jn_free {y : List Nat} {c : Nat} (hy : c ∉ y) : ∀ ps : List (List Nat), (∀ p ∈ ps, c ∉ p) → c ∉ jn y ps
  | [], _ => List.not_mem_nil
  | [x], h => h x List.mem_cons_self
  | x :: z :: r, h => fun w => by
    rcases List.mem_append.mp (show c ∈ (x ++ y) ++ jn y (z :: r) from w) with w | w
    · rcases List.mem_append.mp w with w | w
      · exact h x List.mem_cons_self w
      · exact hy w
    · exact jn_free hy (z :: r) (fun p hp => h p (List.mem_cons_of_mem _ hp)) w
theorem step_free {s : GS} {c : Nat} (h : GsOk s) (hc : 58 < c) : c ∉ cp (stepT s) := by
  unfold stepT
  rw [join_eq, cp_join, cp_blank]
  refine jn_free (by simp; omega) _ fun p hp => ?_
  obtain ⟨w, hw, rfl⟩ := List.mem_map.mp hp
  rcases List.mem_cons.mp hw with rfl | hw
  · exact gate_free (by have := h.1; omega) (by omega) (by omega)
  · obtain ⟨k, hk, rfl⟩ := List.mem_map.mp hw
    exact num_free (h.2.2 k hk) (by omega)
/-- circuits -/
abbrev CS := Nat × List GS × Nat
def outT (o : Nat) : Str := ("> " : Str) ++ numT o
def circParts (c : CS) : List Str := numT c.1 :: (c.2.1.map stepT ++ [outT c.2.2])
def circT (c : CS) : Str := Txt.join "; " (circParts c)
def rdSteps : List Str → Option (List GS)
  | [] => some []
  | w :: r => (rdStep w).bind fun s => (rdSteps r).map fun ss => s :: ss
theorem rdSteps_steps : ∀ ss : List GS, (∀ s ∈ ss, GsOk s) → rdSteps (ss.map stepT) = some ss
  | [], _ => rfl
  | s :: ss, h => by
    simp only [List.map_cons, rdSteps, rdStep_step (h s List.mem_cons_self), rdSteps_steps ss fun x hx => h x (List.mem_cons_of_mem _ hx), Option.bind_some, Option.map_some]
def CsOk (c : CS) : Prop := c.1 < 1000 ∧ (∀ s ∈ c.2.1, GsOk s) ∧ c.2.2 < 1000
theorem out_free {o c : Nat} (h : o < 1000) (hc : 57 < c) (h2 : c ≠ 62) : c ∉ cp (outT o) := fun z => by
  unfold outT at z
  rw [cp_app, cp_great] at z
  rcases List.mem_append.mp z with z | z
  · simp at z
    omega
  · exact num_free h (by omega) z
theorem circ_free {c : CS} (h : CsOk c) : ∀ p ∈ circParts c, 59 ∉ cp p := fun p hp => by
  rcases List.mem_cons.mp hp with rfl | hp
  · exact num_free h.1 (by decide)
  · rcases List.mem_append.mp hp with hp | hp
    · obtain ⟨s, hs, rfl⟩ := List.mem_map.mp hp
      exact step_free (h.2.1 s hs) (by decide)
    · rw [List.mem_singleton.mp hp]
      exact out_free h.2.2 (by decide) (by decide)
theorem circ_split {c : CS} (h : CsOk c) : Txt.split (circT c) "; " = circParts c :=
  split_join _ cp_semi kind_semi _ (List.cons_ne_nil _ _) (circ_free h)

/-! ### lists and literals -/
theorem getD_at {o : List Nat} {i : Nat} (h : i < o.length) : o[i]? = some (o.getD i 0) := by
  rw [List.getD_eq_getElem?_getD, List.getElem?_eq_getElem h]
  rfl
theorem getD_map {α β : Type} (f : α → β) (l : List α) (i : Nat) (d : β) (z : α) (h : i < l.length) : (l.map f).getD i d = f (l.getD i z) := by
  rw [List.getD_eq_getElem?_getD, List.getElem?_map, List.getElem?_eq_getElem h, List.getD_eq_getElem?_getD, List.getElem?_eq_getElem h]
  rfl
/-! literal lists -/
theorem at_lit {P : Nat → Prop} {ds : List D} {i : Nat} (h : ∀ d ∈ ds, ∃ v : Nat, d = PyData.int (v : Int) ∧ P v) (hi : i < ds.length) : ∃ v : Nat, L2.atI ds (i : Int) = some (.int (v : Int)) ∧ P v := by
  obtain ⟨v, e, p⟩ := h ds[i] (List.getElem_mem hi)
  refine ⟨v, GK.atI_ofNat ?_, p⟩
  rw [List.getElem?_eq_getElem hi, e]
theorem mulOkR {x : Int} {n : Nat} (h : n < 2 ^ 64) : GK.mulOk x (n : Int) = true := by
  unfold GK.mulOk
  rw [Bool.or_eq_true, Bool.and_eq_true, decide_eq_true_eq, Bool.and_eq_true, decide_eq_true_eq, decide_eq_true_eq, decide_eq_true_eq]
  exact .inr ⟨by omega, by omega⟩
theorem binI_mulR {x : Int} {n : Nat} (h : n < 2 ^ 64) : GK.binI .Mult x (n : Int) = .ok (fI (x * (n : Int))) := by
  rw [GK.binI_mul, mulOkR h, GK.ckI_t]
theorem take_snoc {α : Type} {xs : List α} {i : Nat} {x : α} (h : xs[i]? = some x) : xs.take (i + 1) = xs.take i ++ [x] := by
  rw [List.take_succ, h]
  rfl

def rzO {α : Type} (k : α → Sl) : Option α → M Sl
  | some x => .ok (k x)
  | none => .error (.raised "NoText")
theorem re_rzO {α : Type} {k : α → Sl} {o : Option α} {m : M Sl} (h : GK.RE "NoText" m (fun s => ∃ x, o = some x ∧ s = k x) (o = none)) : m = rzO k o := by
  rcases h with ⟨s, e, x, eo, es⟩ | ⟨e, eo⟩
  · rw [e, eo, es]
    rfl
  · rw [e, eo]
    rfl
theorem cps_at (w : Str) (i : Nat) : w.cps[i]? = (cp w)[i]? := by simp
theorem sign_in (c : Nat) : GK.inS ⟨#[c]⟩ "0123456789" = .ok (decide (48 ≤ c ∧ c ≤ 57)) := by
  unfold GK.inS
  show (Except.ok (decide (c ∈ cp "0123456789")) : M Bool) = _
  rw [show cp "0123456789" = [48, 49, 50, 51, 52, 53, 54, 55, 56, 57] from by decide +kernel]
  congr 1
  rw [decide_eq_decide]
  simp
  omega
theorem lenS (w : Str) (h : w.length ≤ 16777216) : GK.b1D .len (.str w) = .ok (fI (w.length : Nat)) := by
  show (if GK.lenOk w.length = true then (Except.ok (fI (w.length : Nat)) : M Sl) else stk) = _
  rw [if_pos (GK.lenOk_of h)]
theorem ixS {w : Str} {i c : Nat} (h : (cp w)[i]? = some c) (hi : i < 1000000) : GK.ixD (.str w) (.int (i : Nat)) = .ok ⟨.f, .str ⟨#[c]⟩⟩ := by
  have e : w.cps[((i : Nat) : Int).toNat]? = some c := by rw [Int.toNat_natCast, cps_at]; exact h
  have q : (decide ((0 : Int) ≤ (i : Nat)) && decide (((i : Nat) : Int) < 2 ^ 62)) = true := by
    rw [decide_eq_true (show (0 : Int) ≤ (i : Nat) by omega), decide_eq_true (show ((i : Nat) : Int) < 2 ^ 62 by omega)]
    rfl
  rw [GK.ixD, if_pos q, e]
/-- a text of plain signs, not too long -/
structure Sg (w : Str) : Prop where
  len : w.length ≤ 100000
  sg : ∀ c ∈ cp w, c < 1000
theorem strOk_of {a : Str} (h : ∀ c ∈ cp a, c < 1000) : PyData.strOk a = true := by
  unfold PyData.strOk
  rw [← Array.all_toList, List.all_eq_true]
  intro c hc
  have := h c hc
  exact decide_eq_true (by omega)
theorem shaped_s {a : Str} (h : ∀ c ∈ cp a, c < 1000) : SeqAt.shaped (.str a) = true := by
  unfold SeqAt.shaped
  show (PyData.strOk a && decide (PyData.depth (.str a) ≤ 64)) = true
  rw [strOk_of h]
  rfl
theorem eqv_s (a b : Str) : PyData.eqv (.str a) (.str b) = decide (a = b) := by
  simp only [PyData.eqv]
  first
    | rfl
    | (rw [Bool.eq_iff_iff]; simp)
theorem deq_s {a b : Str} (ha : ∀ c ∈ cp a, c < 1000) (hb : ∀ c ∈ cp b, c < 1000) : GK.deq (.str a) (.str b) = .ok (decide (a = b)) := by
  simp only [GK.deq, shaped_s ha, shaped_s hb, eqv_s, Bool.and_self, if_true]
theorem deq_1 {c d : Nat} (hc : c < 1000) (hd : d < 1000) : GK.deq (.str ⟨#[c]⟩) (.str ⟨#[d]⟩) = .ok (decide ((⟨#[c]⟩ : Str) = ⟨#[d]⟩)) :=
  deq_s (fun x hx => by rw [List.mem_singleton.mp hx]; exact hc) (fun x hx => by rw [List.mem_singleton.mp hx]; exact hd)
theorem sign_eq (c d : Nat) : decide ((⟨#[c]⟩ : Str) = ⟨#[d]⟩) = decide (c = d) := by
  rw [decide_eq_decide]
  constructor
  · intro h
    have := congrArg cp h
    simpa using this
  · rintro rfl
    rfl
theorem str0 : Str.ofString "0" = ⟨#[48]⟩ := str_cp (by decide +kernel)
theorem str1 : Str.ofString "1" = ⟨#[49]⟩ := str_cp (by decide +kernel)
theorem seqS (w : Str) : GK.seqD (.str w) = .ok ((cp w).map fun c => .str ⟨#[c]⟩) := (rfl)
theorem inS_not (c : Nat) (y : Str) : GK.cmpop .NotIn (.str ⟨#[c]⟩) (.str y) = .ok (!decide (c ∈ cp y)) := (rfl)
theorem inS_in (c : Nat) (y : Str) : GK.cmpop .In (.str ⟨#[c]⟩) (.str y) = .ok (decide (c ∈ cp y)) := (rfl)
theorem fig_mem (c : Nat) : decide (c ∈ cp (Str.ofString "0123456789")) = decide (48 ≤ c ∧ c ≤ 57) := by
  rw [show cp (Str.ofString "0123456789") = [48, 49, 50, 51, 52, 53, 54, 55, 56, 57] from by decide +kernel, decide_eq_decide]
  simp
  omega
theorem int_dg {w : Str} (h : dgOk (cp w) = true) (h0 : 1 ≤ w.length) (h1 : w.length ≤ 600) : GK.b1D .int (.str w) = .ok (fI (NumText.digitsVal (cp w) : Nat)) := by
  have e := PySem.intText_digits (dg_all h) (by intro z; have := cp_len w; rw [show cp w = [] from z] at this; have : 0 = w.length := this; omega) (show w.length ≤ 4300 by omega)
  show (match PySem.intText? w with
    | some n => if decide (w.length ≤ 640) = true then (Except.ok (fI n) : M Sl) else stk
    | none => stk) = _
  rw [e]
  show (if decide (w.length ≤ 640) = true then (Except.ok _ : M Sl) else stk) = _
  rw [if_pos (decide_eq_true (by omega))]
theorem read_number_run (k : Nat) {w : Str} (hw : Sg w) : run (k + 1) "read_number" [⟨.f, .str w⟩] = rzO (fun n : Nat => fI (n : Nat)) (rdNum w) := by
  apply re_rzO
  rw [run_read_number, runB_eq]
  have hl := hw.len
  have hlen := cp_len w
  simp! only [1, b_read_number, ck_FIGURES, lenS w (by omega)]
  have no : numOk (cp w) = false → rdNum w = none := fun h => by
    unfold rdNum
    rw [if_neg (by rw [h]; decide)]
  by_cases h1 : 1 ≤ w.length
  · by_cases h2 : w.length ≤ 4
    · obtain ⟨c, hc⟩ : ∃ c, (cp w)[0]? = some c := ⟨_, List.getElem?_eq_getElem (by omega)⟩
      have c1 := hw.sg c (List.mem_of_getElem? hc)
      simp! only [1, h1, h2, ixS hc (by decide), str0, deq_1 c1 (show 48 < 1000 by decide), sign_eq, decide_true]
      by_cases h3 : c = 48 ∧ 1 < w.length
      · simp! only [1, h3.1, h3.2, decide_true]
        refine re_rz (no ?_)
        unfold numOk
        rw [hc, h3.1, hlen, decide_eq_true h3.2]
        simp
      · have e3 : ∀ (r : Fl → M Fl), (ifM (decide (c = 48)) (Except.ok (fB (decide (1 < w.length)))) (Except.ok (fB false)) >>= fun a => asB a.d >>= fun a => ifM a (Except.ok (Fl.rz (Str.ofString "NoText") [some ⟨.f, .str w⟩, none])) (Except.ok (Fl.nx [some ⟨.f, .str w⟩, none])) >>= r) = r (Fl.nx [some ⟨.f, .str w⟩, none]) := fun r => by
          by_cases h4 : c = 48
          · have h5 : ¬ 1 < w.length := fun z => h3 ⟨h4, z⟩
            simp! only [1, h4, h5, decide_true, decide_false]
          · simp! only [1, h4, decide_false]
        rw [e3]
        simp! only [1, seqS, inS_not]
        refine GK.for_re (fun i ρ => (∃ o, ρ = [some ⟨.f, .str w⟩, o]) ∧ ∀ d ∈ (cp w).take i, 48 ≤ d ∧ d ≤ 57) ⟨⟨none, rfl⟩, by simp⟩ (fun i x ρ hx hP => ?_) (fun ρ' hP => ?_)
        · obtain ⟨⟨o, rfl⟩, hd⟩ := hP
          rw [List.getElem?_map] at hx
          cases hi : (cp w)[i]? with
          | none => rw [hi] at hx; cases hx
          | some d =>
            rw [hi] at hx
            cases hx
            simp! only [1, inS_not, fig_mem]
            by_cases h6 : 48 ≤ d ∧ d ≤ 57
            · simp! only [1, h6, decide_true]
              refine nr_ok ⟨⟨_, rfl⟩, fun e he => ?_⟩
              rw [take_snoc hi] at he
              rcases List.mem_append.mp he with he | he
              · exact hd e he
              · rw [List.mem_singleton.mp he]
                exact h6
            · simp! only [1, h6, decide_false]
              refine nr_rz (no ?_)
              unfold numOk
              have : dgOk (cp w) = false := by
                cases q : dgOk (cp w) with
                | false => rfl
                | true => exact absurd (dg_all q d (List.mem_of_getElem? hi)) h6
              rw [this]
              simp
        · obtain ⟨⟨o, rfl⟩, hd⟩ := hP
          rw [List.length_map, List.take_length] at hd
          have dg : dgOk (cp w) = true := List.all_eq_true.mpr fun d hm => by
            have := hd d hm
            simp [this.1, this.2]
          simp! only [1, int_dg dg h1 (by omega)]
          refine re_ok ⟨NumText.digitsVal (cp w), ?_, rfl⟩
          unfold rdNum
          rw [if_pos]
          unfold numOk
          rw [hc, hlen, dg, decide_eq_true h1, decide_eq_true h2]
          by_cases h4 : c = 48
          · have h5 : ¬ 1 < w.length := fun z => h3 ⟨h4, z⟩
            simp [h5]
          · simp [h4]
    · simp! only [1, h1, h2]
      refine re_rz (no ?_)
      unfold numOk
      rw [hlen, decide_eq_false h2]
      simp
  · simp! only [1, h1]
    refine re_rz (no ?_)
    unfold numOk
    rw [hlen, decide_eq_false h1]
    simp

theorem btOk_snoc (l : List Nat) (c : Nat) : btOk (l ++ [c]) = (btOk l && (decide (c = 48) || decide (c = 49))) := by
  unfold btOk
  rw [List.all_append, List.all_cons, List.all_nil, Bool.and_true]
theorem btOk_mem {l : List Nat} (h : btOk l = true) {c : Nat} (hc : c ∈ l) : c = 48 ∨ c = 49 := by
  have := List.all_eq_true.mp h c hc
  simpa using this
theorem read_bits_run (k : Nat) {w : Str} {m : Nat} (hw : Sg w) (hm : m ≤ 1000) : run (k + 1) "read_bits" [⟨.f, .str w⟩, fI (m : Nat)] = rzO (fun n : Nat => fI (n : Nat)) (rdBits w m) := by
  apply re_rzO
  rw [run_read_bits, runB_eq]
  have hl := hw.len
  have hlen := cp_len w
  simp! only [1, b_read_bits, lenS w (by omega)]
  have no : (decide (w.length = m) && btOk (cp w)) = false → rdBits w m = none := fun h => by
    unfold rdBits
    rw [if_neg (by rw [h]; decide)]
  by_cases h1 : w.length = m
  · simp! only [1, h1, bne_self_eq_false, Bool.not_true, beq_self_eq_true, GK.rngD_nat (show m < 2 ^ 62 by omega)]
    refine GK.for_re (fun i ρ => (∃ o, ρ = [some ⟨.f, .str w⟩, some (fI (m : Nat)), some (fI (bv ((cp w).take i) : Nat)), o]) ∧ btOk ((cp w).take i) = true) ⟨⟨none, rfl⟩, rfl⟩ (fun i x ρ hx hP => ?_) (fun ρ' hP => ?_)
    · obtain ⟨⟨o, rfl⟩, hd⟩ := hP
      rw [List.getElem?_map] at hx
      cases hi : (List.range m)[i]? with
      | none => rw [hi] at hx; cases hx
      | some j =>
        rw [hi] at hx
        cases hx
        obtain ⟨him, rfl⟩ : i < m ∧ i = j := by
          obtain ⟨q1, q2⟩ := List.getElem?_eq_some_iff.mp hi
          rw [List.length_range] at q1
          rw [List.getElem_range] at q2
          exact ⟨q1, q2⟩
        obtain ⟨c, hc⟩ : ∃ c, (cp w)[i]? = some c := ⟨_, List.getElem?_eq_getElem (by omega)⟩
        have c1 := hw.sg c (List.mem_of_getElem? hc)
        have e1 : bv ((cp w).take (i + 1)) = bv ((cp w).take i) + (c - 48) * 2 ^ i := by
          rw [take_snoc hc, bv_snoc, List.length_take, Nat.min_eq_left (by omega)]
        have e2 : btOk ((cp w).take (i + 1)) = (decide (c = 48) || decide (c = 49)) := by rw [take_snoc hc, btOk_snoc, hd, Bool.true_and]
        simp! only [1, ixS hc (show i < 1000000 by omega), str1, str0, deq_1 c1 (show 49 < 1000 by decide), deq_1 c1 (show 48 < 1000 by decide), sign_eq]
        by_cases h2 : c = 49
        · simp! only [1, h2, decide_true, GK.binI_shl_nat (show 1 < 2 ^ 64 by decide) (show i ≤ 1000000 by omega)]
          refine nr_ok ⟨⟨some (fI (i : Nat)), ?_⟩, by rw [e2, h2]; rfl⟩
          rw [e1, h2]
        · by_cases h3 : c = 48
          · simp! only [1, h3, decide_true, show decide (48 = 49) = false from rfl]
            refine nr_ok ⟨⟨some (fI (i : Nat)), ?_⟩, by rw [e2, h3]; rfl⟩
            rw [e1, h3, Nat.sub_self, Nat.zero_mul, Nat.add_zero]
          · simp! only [1, h2, h3, decide_false]
            refine nr_rz (no ?_)
            cases q : btOk (cp w) with
            | false => exact Bool.and_false _
            | true =>
              rcases btOk_mem q (List.mem_of_getElem? hc) with z | z
              · exact absurd z h3
              · exact absurd z h2
    · obtain ⟨⟨o, rfl⟩, hd⟩ := hP
      rw [List.length_map, List.length_range] at hd ⊢
      have ew : (cp w).take m = cp w := List.take_of_length_le (by omega)
      rw [ew] at hd ⊢
      simp! only [1, GK.ok_bind]
      refine re_ok ⟨_, ?_, rfl⟩
      unfold rdBits
      rw [if_pos (by rw [hd, decide_eq_true h1]; rfl)]
  · have h2 : ((w.length == m) = true) = False := by simp [h1]
    have h3 : (w.length == m) = false := by simp [h1]
    simp! only [1, h1, h2, h3]
    refine re_rz (no (by rw [decide_eq_false h1]; rfl))
theorem parted_run (k : Nat) {w y : Str} (hw : Sg w) (hy : (y.length == 0) = false) : run (k + 1) "parted" [⟨.f, .str w⟩, ⟨.f, .str y⟩] = .ok ⟨.o, .list ((Txt.split w y).map .str)⟩ := by
  rw [run_parted, runB_eq]
  have hl := hw.len
  simp! only [1, b_parted]
  have e : GK.u2D .spv (.str w) (.str y) = .ok ⟨.o, .list ((Txt.split w y).map .str)⟩ := by
    show (if (decide ((y.length == 0) = false) && GK.lenOk (w.length + 2)) = true then (Except.ok ⟨.o, .list ((Txt.split w y).map .str)⟩ : M Sl) else stk) = _
    rw [decide_eq_true hy, GK.lenOk_of (show w.length + 2 ≤ 16777216 by omega)]
    rfl
  have n : GK.nmkD (.str w) = true := rfl
  simp! only [1, n, e]
theorem parted_bad (k : Nat) (m : Md) (d : D) (y : Str) (hd : GK.isiD d .str = false) (hn : GK.nmkD d = true) : run (k + 1) "parted" [⟨m, d⟩, ⟨.f, .str y⟩] = .error (.raised "NoText") := by
  rw [run_parted, runB_eq]
  cases d <;> first
    | (cases hd; done)
    | (simp! only [1, b_parted, hn]; done)

abbrev sts (ws : List Str) : List D := ws.map PyData.str
theorem sts_at {ws : List Str} {i : Nat} {w : Str} (h : ws[i]? = some w) : (sts ws)[i]? = some (.str w) := by rw [List.getElem?_map, h]; rfl
theorem ixD_sts {ws : List Str} {i : Nat} {w : Str} (h : ws[i]? = some w) : GK.ixD (.list (sts ws)) (.int (i : Nat)) = .ok ⟨.f, .str w⟩ := by
  rw [GK.ixD_list, GK.atI_ofNat (sts_at h)]
  rfl
theorem len_sts (ws : List Str) : (sts ws).length = ws.length := List.length_map ..
theorem jn_sub (y : List Nat) : ∀ (ps : List (List Nat)) (p : List Nat), p ∈ ps → ∀ c ∈ p, c ∈ jn y ps
  | [x], p, h, c, hc => by
    rw [List.mem_singleton.mp h] at hc
    exact hc
  | x :: z :: r, p, h, c, hc => by
    show c ∈ x ++ y ++ jn y (z :: r)
    rcases List.mem_cons.mp h with rfl | h
    · exact List.mem_append_left _ (List.mem_append_left _ hc)
    · exact List.mem_append_right _ (jn_sub y (z :: r) p h c hc)
theorem Sg.part {x y p : Str} (h : Sg x) (hp : p ∈ Txt.split x y) : Sg p :=
  ⟨Nat.le_trans (split_short hp) h.len, fun c hc => h.sg c (by
    have := jn_sub (cp y) ((Txt.split x y).map cp) (cp p) (List.mem_map_of_mem hp) c hc
    rw [← cp_join, StrLaws.join_split] at this
    exact this)⟩
theorem len_colon : ((":" : Str).length == 0) = false := by decide +kernel
theorem len_blank : ((" " : Str).length == 0) = false := by decide +kernel
theorem len_semi : (("; " : Str).length == 0) = false := by decide +kernel
def dropS (k : Nat) (s : Str) : Str := ⟨((cp s).drop k).toArray⟩
def takeS (k : Nat) (s : Str) : Str := ⟨((cp s).take k).toArray⟩
theorem cp_drop (k : Nat) (s : Str) : cp (dropS k s) = (cp s).drop k := rfl
theorem cp_take (k : Nat) (s : Str) : cp (takeS k s) = (cp s).take k := rfl
theorem Sg.drop {s : Str} (h : Sg s) (k : Nat) : Sg (dropS k s) :=
  ⟨by rw [← cp_len, cp_drop, List.length_drop, cp_len]; have := h.len; omega, fun c hc => h.sg c (List.mem_of_mem_drop hc)⟩
theorem Sg.take {s : Str} (h : Sg s) (k : Nat) : Sg (takeS k s) :=
  ⟨by rw [← cp_len, cp_take, List.length_take, cp_len]; have := h.len; omega, fun c hc => h.sg c (List.mem_of_mem_take hc)⟩
theorem sl_take {s : Str} (h : Sg s) (k : Nat) (hk : k ≤ 1000000) : GK.slD (.str s) none (some ((k : Nat) : Int)) = .ok ⟨.f, .str (takeS k s)⟩ := by
  have hl := h.len
  show (if GK.lenOk s.length = true then (Except.ok ⟨.f, .str (L2.cutS s none (some (k : Int)))⟩ : M Sl) else stk) = _
  rw [if_pos (GK.lenOk_of (by omega))]
  have e : L2.cutS s none (some (k : Int)) = takeS k s := str_cp (by
    show ((s.cps.toList.drop (HT.sIx s.length 0 none)).take (HT.sIx s.length s.length (some (k : Int)) - HT.sIx s.length 0 none)) = (cp s).take k
    rw [HT.sIx_nat, HT.sIx_none, List.drop_zero, Nat.sub_zero]
    have := cp_len s
    rcases Nat.le_total k s.length with z | z
    · rw [Nat.min_eq_left z]
    · rw [Nat.min_eq_right z, List.take_of_length_le (show (cp s).length ≤ s.length by omega), List.take_of_length_le (by omega)])
  rw [e]
theorem sl_drop {s : Str} (h : Sg s) (k : Nat) (hk : k ≤ 1000000) : GK.slD (.str s) (some ((k : Nat) : Int)) none = .ok ⟨.f, .str (dropS k s)⟩ := by
  have hl := h.len
  show (if GK.lenOk s.length = true then (Except.ok ⟨.f, .str (L2.cutS s (some (k : Int)) none)⟩ : M Sl) else stk) = _
  rw [if_pos (GK.lenOk_of (by omega))]
  have e : L2.cutS s (some (k : Int)) none = dropS k s := str_cp (by
    show ((s.cps.toList.drop (HT.sIx s.length 0 (some (k : Int)))).take (HT.sIx s.length s.length none - HT.sIx s.length 0 (some (k : Int)))) = (cp s).drop k
    rw [HT.sIx_nat, HT.sIx_none]
    have := cp_len s
    rcases Nat.le_total k s.length with z | z
    · rw [Nat.min_eq_left z]
      exact List.take_of_length_le (by rw [List.length_drop]; exact Nat.le_of_eq (by rw [this]))
    · rw [Nat.min_eq_right z, Nat.sub_self, List.take_zero, List.drop_eq_nil_of_le (by omega)])
  rw [e]
theorem cutD_mid (xs : List D) : GK.cutD xs (some ((1 : Nat) : Int)) (some (-((1 : Nat) : Int))) = xs.tail.dropLast := by
  unfold GK.cutD
  rw [HT.sIx_nat xs.length 0 1]
  have e : HT.sIx xs.length xs.length (some (-((1 : Nat) : Int))) = xs.length - 1 := by
    show (if (-((1 : Nat) : Int)) < 0 then ((-((1 : Nat) : Int)) + (xs.length : Int)).toNat else min (-((1 : Nat) : Int)).toNat xs.length) = _
    rw [if_pos (by decide)]
    omega
  rw [e, List.dropLast_eq_take, List.length_tail, ← List.drop_one]
  cases xs with
  | nil => rfl
  | cons x r =>
    simp only [List.length_cons, Nat.add_sub_cancel]
    rw [Nat.min_eq_left (by omega)]
theorem lastD_at {α : Type} (d : α) : ∀ {xs : List α}, xs ≠ [] → xs[xs.length - 1]? = some (xs.getLastD d)
  | [], h => absurd rfl h
  | x :: r, _ => by
    rw [List.getLastD_eq_getLast?, ← List.getLast?_eq_getElem?]
    cases e : (x :: r).getLast? with
    | none => rw [List.getLast?_eq_none_iff] at e; cases e
    | some y => rfl
theorem at_last {ws : List Str} (h : ws ≠ []) : L2.atI (List.map PyData.str ws) (-((1 : Nat) : Int)) = some (.str (ws.getLastD "")) := by
  have hl : 1 ≤ ws.length := List.length_pos_iff.mpr h
  unfold L2.atI L2.ixN
  have n1 : ¬ ((0 : Int) ≤ -((1 : Nat) : Int)) := by decide
  rw [if_neg n1, List.length_map, if_pos (by omega)]
  show (List.map PyData.str ws)[(-((1 : Nat) : Int) + (ws.length : Int)).toNat]? = _
  rw [show (-((1 : Nat) : Int) + (ws.length : Int)).toNat = ws.length - 1 by omega]
  exact sts_at (lastD_at (Str.ofString "") h)
theorem at_head {ws : List Str} (h : ws ≠ []) : L2.atI (List.map PyData.str ws) ((0 : Nat) : Int) = some (.str (ws.headD "")) := by
  rw [GK.atI_ofNat (i := 0)]
  cases ws with
  | nil => exact absurd rfl h
  | cons x r => rfl
theorem map_mid (ws : List Str) : (List.map PyData.str ws).tail.dropLast = List.map PyData.str ws.tail.dropLast := by
  rw [← List.map_tail, ← List.map_dropLast]
theorem optL_snoc {α β : Type} (h : α → Option β) : ∀ (xs : List α) (x : α), GK.optL h (xs ++ [x]) = (GK.optL h xs).bind fun ys => (h x).map fun y => ys ++ [y]
  | [], x => by
    simp only [List.nil_append, GK.optL]
    cases h x <;> rfl
  | z :: xs, x => by
    simp only [List.cons_append, GK.optL, optL_snoc h xs x]
    cases h z with
    | none => rfl
    | some y =>
      cases GK.optL h xs with
      | none => rfl
      | some ys => cases h x <;> rfl
theorem optL_none {α β : Type} {h : α → Option β} : ∀ {xs : List α} {x : α}, x ∈ xs → h x = none → GK.optL h xs = none
  | z :: xs, x, hm, e => by
    rcases List.mem_cons.mp hm with rfl | hm
    · simp only [GK.optL, e, Option.bind_none]
    · simp only [GK.optL, optL_none hm e]
      cases h z <;> rfl
theorem spl_run {w y : Str} (hw : Sg w) (hy : (y.length == 0) = false) : GK.u1D (.spl y) (.str w) = .ok ⟨.o, .list ((Txt.split w y).map .str)⟩ := by
  have hl := hw.len
  show (if (decide ((y.length == 0) = false) && GK.lenOk (w.length + 2)) = true then (Except.ok ⟨.o, .list ((Txt.split w y).map .str)⟩ : M Sl) else stk) = _
  rw [decide_eq_true hy, GK.lenOk_of (show w.length + 2 ≤ 16777216 by omega)]
  rfl
theorem cut1 (ws : List Str) : GK.cutD (List.map PyData.str ws) (some ((1 : Nat) : Int)) none = List.map PyData.str (ws.drop 1) := by rw [GK.cutD_lo', List.map_drop]
theorem tup_of (xs : List D) : GK.b1D .tuple (.list xs) = .ok ⟨.f, .tuple xs⟩ := (rfl)
theorem head_mem {ws : List Str} (h : ws ≠ []) : ws.headD "" ∈ ws := by
  cases ws with
  | nil => exact absurd rfl h
  | cons x r => exact List.mem_cons_self
theorem optL_mem {α β : Type} {h : α → Option β} : ∀ {xs : List α} {ys : List β} {y : β}, GK.optL h xs = some ys → y ∈ ys → ∃ x ∈ xs, h x = some y
  | [], _, y, e, hy => by cases e; cases hy
  | x :: xs, ys, y, e, hy => by
    simp only [GK.optL] at e
    cases hx : h x with
    | none => rw [hx] at e; cases e
    | some z =>
      rw [hx] at e
      cases hr : GK.optL h xs with
      | none => rw [hr] at e; cases e
      | some zs =>
        rw [hr] at e
        cases e
        rcases List.mem_cons.mp hy with rfl | hy
        · exact ⟨x, List.mem_cons_self, hx⟩
        · obtain ⟨x', h1, h2⟩ := optL_mem hr hy
          exact ⟨x', List.mem_cons_of_mem _ h1, h2⟩
theorem optL_len {α β : Type} {h : α → Option β} : ∀ {xs : List α} {ys : List β}, GK.optL h xs = some ys → ys.length = xs.length
  | [], _, e => by cases e; rfl
  | x :: xs, ys, e => by
    simp only [GK.optL] at e
    cases hx : h x with
    | none => rw [hx] at e; cases e
    | some z =>
      rw [hx] at e
      cases hr : GK.optL h xs with
      | none => rw [hr] at e; cases e
      | some zs =>
        rw [hr] at e
        cases e
        rw [List.length_cons, List.length_cons, optL_len hr]
theorem str_nat (n : Nat) (h : n < 1000000) : GK.b1D .str (.int (n : Nat)) = .ok ⟨.f, .str (numT n)⟩ := by
  show (if decide (((n : Nat) : Int).natAbs.log2 < 1920) = true then (Except.ok ⟨.f, .str (Str.ofString (toString ((n : Nat) : Int)))⟩ : M Sl) else stk) = _
  rw [if_pos]
  · rfl
  · rw [Int.natAbs_natCast]
    have : n.log2 < 1920 := by
      rcases Nat.eq_zero_or_pos n with z | z
      · rw [z]; decide
      · exact (Nat.log2_lt (by omega)).mpr (Nat.lt_of_lt_of_le h (Nat.le_trans (show 1000000 ≤ 2 ^ 20 by decide) (Nat.pow_le_pow_right (by decide) (by decide))))
    exact decide_eq_true this
theorem strsD_map (ws : List Str) : GK.strsD (ws.map PyData.str) = some ws := by
  induction ws with
  | nil => rfl
  | cons w ws ih => simp only [List.map_cons, GK.strsD, ih, Option.map_some]
theorem joi_run (y : Str) (ws : List Str) (h : (ws.map fun w : Str => w.length).sum + ws.length * y.length ≤ 16777216) : GK.u1D (.joi y) (.list (ws.map PyData.str)) = .ok ⟨.f, .str (Txt.join y ws)⟩ := by
  show (match GK.strsD (ws.map PyData.str) with
    | some ys => if decide ((ys.map fun w : Str => w.length).sum + ys.length * y.length ≤ 16777216) = true then (Except.ok ⟨.f, .str (Txt.join y ys)⟩ : M Sl) else stk
    | none => stk) = _
  rw [strsD_map]
  exact if_pos (decide_eq_true h)
theorem sum_const {α : Type} (f : α → Nat) (c : Nat) : ∀ xs : List α, (∀ x ∈ xs, f x ≤ c) → (xs.map f).sum ≤ xs.length * c
  | [], _ => Nat.zero_le _
  | x :: xs, h => by
    have h1 := sum_const f c xs fun y hy => h y (List.mem_cons_of_mem _ hy)
    have h2 := h x List.mem_cons_self
    simp only [List.map_cons, List.sum_cons, List.length_cons, Nat.succ_mul]
    omega
theorem bits_text_run (k : Nat) (b m : Nat) (hm : m ≤ 1000) (hb : b < 2 ^ 64) : run (k + 1) "bits_text" [fI (b : Nat), fI (m : Nat)] = .ok ⟨.f, .str (bitsT b m)⟩ := by
  rw [run_bits_text, runB_eq]
  simp! only [2, b_bits_text, GK.rngD_nat (show m < 2 ^ 62 by omega)]
  rw [GK.lcGo_map (fun k : Nat => PyData.int (k : Nat)) (fun k => PyData.str (numT (b / 2 ^ k % 2)))]
  · have e : (List.range m).map (fun k => PyData.str (numT (b / 2 ^ k % 2))) = List.map PyData.str ((List.range m).map fun k => numT (b / 2 ^ k % 2)) := (List.map_map ..).symm
    have hs : (((List.range m).map fun k => numT (b / 2 ^ k % 2)).map fun w : Str => w.length).sum + ((List.range m).map fun k => numT (b / 2 ^ k % 2)).length * (Str.ofString "").length ≤ 16777216 := by
      have h1 := sum_const (fun w : Str => w.length) 4 ((List.range m).map fun k => numT (b / 2 ^ k % 2)) (fun w hw => by
        obtain ⟨j, _, rfl⟩ := List.mem_map.mp hw
        exact num_short (Nat.lt_of_lt_of_le (Nat.mod_lt _ (by decide)) (by decide)))
      have h0 : (Str.ofString "").length = 0 := by decide +kernel
      rw [h0, Nat.mul_zero, Nat.add_zero]
      rw [List.length_map, List.length_range] at h1
      omega
    simp! only [2, List.length_map, List.length_range, GK.lenOk_of (show m ≤ 16777216 by omega), e, joi_run _ _ hs]
    rfl
  · intro j hj
    have hj := List.mem_range.mp hj
    have h2 : b / 2 ^ j % 2 < 1000000 := Nat.lt_of_lt_of_le (Nat.mod_lt _ (by decide)) (by decide)
    have h3 := str_nat (b / 2 ^ j % 2) h2
    simp! only [2, GK.lcTurn, h3, Nat.shiftRight_eq_div_pow, Nat.and_one_is_mod]

theorem add_str {m : Md} {a b : Str} (h : a.length + b.length ≤ 16777216) : GK.binop .Add m (.str a) (.str b) = .ok ⟨.f, .str (a ++ b)⟩ := by
  show (if GK.lenOk (a.length + b.length) = true then (Except.ok ⟨.f, .str (a ++ b)⟩ : M Sl) else stk) = _
  rw [if_pos (GK.lenOk_of h)]
def GOk (g : Nat × Nat) : Prop := g.1 ≤ 4 ∧ g.2 < 2 ^ 2 ^ g.1
theorem GOk.small {g : Nat × Nat} (h : GOk g) : 2 ^ g.1 ≤ 16 ∧ g.2 < 2 ^ 64 := by
  have h1 : 2 ^ g.1 ≤ 2 ^ 4 := Nat.pow_le_pow_right (by decide) h.1
  exact ⟨h1, Nat.lt_of_lt_of_le h.2 (Nat.pow_le_pow_right (by decide) (Nat.le_trans h1 (by decide)))⟩
theorem str_len_app (a b : Str) : (a ++ b).length = a.length + b.length := Str.length_append a b
theorem colon_len : (Str.ofString ":").length = 1 := by decide +kernel
theorem blank_len : (Str.ofString " ").length = 1 := by decide +kernel
theorem semi_len : (Str.ofString "; ").length = 2 := by decide +kernel
theorem great_len : (Str.ofString "> ").length = 2 := by decide +kernel
theorem any_strs (w : Str) (ws : List Str) : ((List.map PyData.str ws).any fun z => PyData.eqv z (.str w)) = decide (w ∈ ws) := by
  induction ws with
  | nil => rfl
  | cons x r ih =>
    rw [List.map_cons, List.any_cons, ih, eqv_s, Bool.eq_iff_iff]
    simp only [Bool.or_eq_true, decide_eq_true_eq, List.mem_cons]
    exact or_congr ⟨Eq.symm, Eq.symm⟩ Iff.rfl
theorem shaped_strs {ws : List Str} (h : ∀ w ∈ ws, ∀ c ∈ cp w, c < 1000) : SeqAt.shaped (.list (List.map PyData.str ws)) = true := by
  have h1 : ∀ vs : List Str, (∀ w ∈ vs, ∀ c ∈ cp w, c < 1000) → PyData.canLayAll0 (List.map PyData.str vs) = true ∧ PyData.depthAll (List.map PyData.str vs) = 0 := by
    intro vs
    induction vs with
    | nil => exact fun _ => ⟨rfl, rfl⟩
    | cons x r ih =>
      intro h
      obtain ⟨i1, i2⟩ := ih fun w hw => h w (List.mem_cons_of_mem _ hw)
      refine ⟨?_, ?_⟩
      · show (PyData.strOk x && PyData.canLayAll0 (List.map PyData.str r)) = true
        rw [strOk_of (h x List.mem_cons_self), i1]
        rfl
      · show max 0 (PyData.depthAll (List.map PyData.str r)) = 0
        rw [i2]
        rfl
  obtain ⟨a, b⟩ := h1 ws h
  unfold SeqAt.shaped
  show (PyData.canLayAll0 (List.map PyData.str ws) && decide (PyData.depthAll (List.map PyData.str ws) + 1 ≤ 64)) = true
  rw [a, b]
  rfl
theorem inD_strs {w : Str} {ws : List Str} (hw : ∀ c ∈ cp w, c < 1000) (h : ∀ x ∈ ws, ∀ c ∈ cp x, c < 1000) : GK.inD (.str w) (List.map PyData.str ws) = .ok (decide (w ∈ ws)) := by
  unfold GK.inD
  rw [shaped_s hw, shaped_strs h, any_strs]
  rfl
theorem num_plain {k : Nat} (h : k < 1000) : ∀ c ∈ cp (numT k), c < 1000 := fun c hc => by
  have := dg_all (num_dg h) c hc
  omega
theorem mem_nums {w : Str} {m : Nat} (hm : m ≤ 40) : w ∈ (List.range m).map numT ↔ ∃ n, rdNum w = some n ∧ n < m := by
  constructor
  · intro h
    obtain ⟨n, hn, rfl⟩ := List.mem_map.mp h
    have := List.mem_range.mp hn
    exact ⟨n, rdNum_num (by omega), this⟩
  · rintro ⟨n, h1, h2⟩
    rw [rdNum_back h1 (by omega)]
    exact List.mem_map_of_mem (List.mem_range.mpr h2)
theorem int_num {w : Str} {n : Nat} (h : rdNum w = some n) : GK.b1D .int (.str w) = .ok (fI (n : Nat)) := by
  unfold rdNum at h
  split at h
  · rename_i ho
    cases h
    unfold numOk at ho
    simp only [Bool.and_eq_true, decide_eq_true_eq] at ho
    rw [cp_len] at ho
    exact int_dg ho.2.2.2 ho.1 (by omega)
  · cases h
theorem mem01 (c : Nat) : decide (c ∈ cp (Str.ofString "01")) = (decide (c = 48) || decide (c = 49)) := by
  rw [show cp (Str.ofString "01") = [48, 49] from by decide +kernel, Bool.eq_iff_iff]
  simp
theorem bit_int {c : Nat} (h : c = 48 ∨ c = 49) : GK.b1D .int (.str ⟨#[c]⟩) = .ok (fI ((c - 48 : Nat) : Nat)) := by
  have := int_dg (w := ⟨#[c]⟩) (by unfold dgOk; rcases h with rfl | rfl <;> rfl) (Nat.le_refl 1) (show 1 ≤ 600 by decide)
  rw [this]
  congr 2
  show ((0 * 10 + (c - 48) : Nat) : Int) = _
  rw [Nat.zero_mul, Nat.zero_add]
theorem bits_sum : ∀ (m : Nat) (l : List Nat), m ≤ l.length → ((List.range m).map fun r => ((l.getD r 0 - 48) * 2 ^ r : Nat)).sum = bv (l.take m)
  | 0, l, _ => rfl
  | m + 1, l, h => by
    have hm : l[m]? = some (l.getD m 0) := by
      rw [List.getD_eq_getElem?_getD, List.getElem?_eq_getElem (by omega)]
      rfl
    rw [List.range_succ, List.map_append, List.sum_append, bits_sum m l (by omega), take_snoc hm, bv_snoc, List.length_take, Nat.min_eq_left (by omega)]
    simp
theorem boolsM : ∀ bs : List Bool, GK.boolsD (bs.map PyData.bool) = some bs
  | [] => rfl
  | b :: bs => by simp only [List.map_cons, GK.boolsD, boolsM bs, Option.map_some]
theorem take_drop_str (w : Str) : takeS 2 w ++ dropS 2 w = w := str_cp (by rw [cp_app, cp_take, cp_drop, List.take_append_drop])
theorem rng_at {m i : Nat} {x : D} (h : ((List.range m).map fun k => PyData.int (k : Nat))[i]? = some x) : i < m ∧ x = .int (i : Nat) := by
  rw [List.getElem?_map] at h
  cases hi : (List.range m)[i]? with
  | none => rw [hi] at h; cases h
  | some j =>
    rw [hi] at h
    cases h
    obtain ⟨q1, q2⟩ := List.getElem?_eq_some_iff.mp hi
    rw [List.length_range] at q1
    rw [List.getElem_range] at q2
    exact ⟨q1, by rw [q2]⟩
theorem s_pow9 : GK.binI .Pow ((10 : Nat) : Int) ((9 : Nat) : Int) = .ok (fI ((1000000000 : Nat) : Int)) := GK.binI_pow_nat (a := 10) (b := 9) (show 10 < 2 ^ 64 by decide) (show 9 ≤ 1000000 by decide)
theorem jn_count_le (y : List Nat) (c : Nat) : ∀ ps : List (List Nat), (∀ p ∈ ps, c ∉ p) → (jn y ps).count c ≤ ps.length * y.count c
  | [], _ => Nat.zero_le _
  | [x], h => by
    show x.count c ≤ _
    rw [List.count_eq_zero.mpr (h x List.mem_cons_self)]
    exact Nat.zero_le _
  | x :: z :: r, h => by
    have ih := jn_count_le y c (z :: r) fun p hp => h p (List.mem_cons_of_mem _ hp)
    show (x ++ y ++ jn y (z :: r)).count c ≤ (z :: r).length.succ * y.count c
    rw [List.count_append, List.count_append, List.count_eq_zero.mpr (h x List.mem_cons_self), Nat.succ_mul]
    omega
theorem sub_nat {a b : Nat} (h : b ≤ a) : GK.binI .Sub (a : Int) (b : Int) = .ok (fI ((a - b : Nat) : Int)) := by
  rw [GK.binI_sub, Int.ofNat_sub h]
theorem deq_txt {s : Str} (h : ∀ c ∈ cp s, c < 1000) : GK.deq (.str s) (.str s) = .ok true := by rw [deq_s h h, decide_eq_true rfl]
theorem none_plain : ∀ c ∈ cp (Str.ofString "none"), c < 1000 := by decide +kernel

def gP (g : Nat × Nat) : D := .tuple [nD g.1, nD g.2]
theorem read_gate_run (k : Nat) {w : Str} (hw : Sg w) : run (k + 2) "read_gate" [⟨.f, .str w⟩] = rzO (fun g : Nat × Nat => ⟨.f, gP g⟩) (rdGate w) := by
  rw [run_read_gate, runB_eq]
  simp! only [3, b_read_gate, parted_run k hw len_colon]
  unfold rdGate
  generalize hs : Txt.split w ":" = ps
  have hp : ∀ p ∈ ps, Sg p := fun p h => hw.part (by rw [hs]; exact h)
  rcases ps with _ | ⟨a, _ | ⟨b, _ | ⟨c, r⟩⟩⟩
  · simp! only [3, List.map_nil, List.length_nil]
    rfl
  · simp! only [3, List.map_nil, List.map_cons, List.length_nil, List.length_cons]
    rfl
  · simp! only [3, List.map_nil, List.map_cons, List.length_nil, List.length_cons, read_number_run k (hp a (by simp))]
    cases hn : rdNum a with
    | none =>
      simp! only [3, rzO]
      rfl
    | some n =>
      simp! only [3, rzO, Option.bind_some]
      by_cases h4 : n ≤ 4
      · have h5 : ¬ 4 < n := by omega
        have h6 : 2 ^ n ≤ 2 ^ 4 := Nat.pow_le_pow_right (by decide) h4
        simp! only [3, h5, h4, if_true, GK.binI_shl_nat (show 1 < 2 ^ 64 by decide) (show n ≤ 1000000 by omega), Nat.one_mul, read_bits_run k (hp b (by simp)) (show 2 ^ n ≤ 1000 by omega)]
        cases hb : rdBits b (2 ^ n) with
        | none =>
          simp! only [3, rzO]
          rfl
        | some x =>
          simp! only [3, rzO]
          rfl
      · have h5 : 4 < n := by omega
        simp! only [3, h5, h4, if_false, if_true]
  · have : ((List.map PyData.str (a :: b :: c :: r)).length == 2) = false := by simp
    simp! only [3, this]
    rfl

theorem gateT_len {g : Nat × Nat} (h : GOk g) : (gateT g).length ≤ 21 := by
  have h1 := num_short (k := g.1) (by have := h.1; omega)
  have h2 := h.small.1
  unfold gateT
  rw [str_len_app, str_len_app, bits_len, colon_len]
  omega
theorem gate_text_run (k : Nat) {g : Nat × Nat} (h : GOk g) : run (k + 2) "gate_text" [⟨.f, gP g⟩] = .ok ⟨.f, .str (gateT g)⟩ := by
  have h0 := h.1
  have h1 := num_short (k := g.1) (by omega)
  obtain ⟨h2, h3⟩ := h.small
  rw [run_gate_text, runB_eq]
  simp! only [2, b_gate_text, gP, str_nat g.1 (by omega), add_str (show (numT g.1).length + (Str.ofString ":").length ≤ 16777216 by rw [colon_len]; omega), GK.binI_shl_nat (show 1 < 2 ^ 64 by decide) (show g.1 ≤ 1000000 by omega), Nat.one_mul, bits_text_run k g.2 (2 ^ g.1) (by omega) h3, add_str (show (numT g.1 ++ Str.ofString ":").length + (bitsT g.2 (2 ^ g.1)).length ≤ 16777216 by rw [str_len_app, colon_len, bits_len]; omega)]
  rfl
theorem lit_nums : [(Str.ofString "0"), Str.ofString "1", Str.ofString "2", Str.ofString "3", Str.ofString "4"] = (List.range 5).map numT := by decide +kernel
theorem in_lit {w : Str} (hw : Sg w) : GK.inD (.str w) [.str (Str.ofString "0"), .str (Str.ofString "1"), .str (Str.ofString "2"), .str (Str.ofString "3"), .str (Str.ofString "4")] = .ok (decide (∃ n, rdNum w = some n ∧ n < 5)) := by
  have e := inD_strs (ws := (List.range 5).map numT) hw.sg (fun x hx => by
    obtain ⟨n, hn, rfl⟩ := List.mem_map.mp hx
    exact num_plain (by have := List.mem_range.mp hn; omega))
  rw [← lit_nums] at e
  rw [show ([.str (Str.ofString "0"), .str (Str.ofString "1"), .str (Str.ofString "2"), .str (Str.ofString "3"), .str (Str.ofString "4")] : List D) = List.map PyData.str [(Str.ofString "0"), Str.ofString "1", Str.ofString "2", Str.ofString "3", Str.ofString "4"] from rfl, e, lit_nums]
  congr 1
  rw [decide_eq_decide]
  exact mem_nums (by decide)

/-! ### sets of gates as texts -/
def setT (gs : List (Nat × Nat)) : Str := Txt.join " " (gs.map gateT)
def rdSet (s : Str) : Option (List (Nat × Nat)) := if s = "" then some [] else if 6 < (Txt.split s " ").length then none else GK.optL rdGate (Txt.split s " ")
theorem list_str {w : Str} (h : w.length ≤ 16777216) : GK.b1D .list (.str w) = .ok ⟨.o, .list ((cp w).map fun c => .str ⟨#[c]⟩)⟩ := by
  show (if GK.lenOk w.length = true then (Except.ok ⟨.o, .list ((cp w).map fun c => PyData.str ⟨#[c]⟩)⟩ : M Sl) else stk) = _
  rw [if_pos (GK.lenOk_of h)]
theorem rdGate_ok {s : Str} {g : Nat × Nat} (h : rdGate s = some g) : GOk g := by
  unfold rdGate at h
  split at h
  · rename_i a b _
    cases h1 : rdNum a with
    | none => rw [h1] at h; cases h
    | some n =>
      rw [h1] at h
      have h : (if n ≤ 4 then (rdBits b (2 ^ n)).map fun x => (n, x) else none) = some g := h
      split at h
      · rename_i h4
        cases h2 : rdBits b (2 ^ n) with
        | none => rw [h2] at h; cases h
        | some x =>
          rw [h2] at h
          cases h
          refine ⟨h4, ?_⟩
          unfold rdBits at h2
          split at h2
          · rename_i hc
            cases h2
            rw [Bool.and_eq_true, decide_eq_true_eq] at hc
            have := bv_lt (cp b) hc.2
            rw [cp_len, hc.1] at this
            exact this
          · cases h2
      · cases h
  · cases h
theorem rdGate_free {s : Str} {g : Nat × Nat} (h : rdGate s = some g) : 32 ∉ cp s := fun z => by
  unfold rdGate at h
  split at h
  · rename_i a b e
    have hs := StrLaws.join_split s (Str.ofString ":")
    rw [e] at hs
    have hc : cp s = cp a ++ [58] ++ cp b := by
      rw [← hs, cp_join, show cp (Str.ofString ":") = [58] from cp_colon]
      rfl
    cases h1 : rdNum a with
    | none => rw [h1] at h; cases h
    | some n =>
      rw [h1] at h
      have h : (if n ≤ 4 then (rdBits b (2 ^ n)).map fun x => (n, x) else none) = some g := h
      split at h
      · cases h2 : rdBits b (2 ^ n) with
        | none => rw [h2] at h; cases h
        | some x =>
          unfold rdBits at h2
          split at h2
          · rename_i hb
            rw [Bool.and_eq_true] at hb
            unfold rdNum at h1
            split at h1
            · rename_i ha
              unfold numOk at ha
              simp only [Bool.and_eq_true] at ha
              have da := dg_all ha.2.2.2
              rw [hc] at z
              rcases List.mem_append.mp z with z | z
              · rcases List.mem_append.mp z with z | z
                · have := da 32 z
                  omega
                · simp at z
              · rcases btOk_mem hb.2 z with y | y <;> omega
            · cases h1
          · cases h2
      · cases h
  · cases h
theorem gate_plain {g : Nat × Nat} (h : GOk g) : ∀ c ∈ cp (gateT g), c < 1000 := fun c hc => by
  rw [cp_gate] at hc
  rcases List.mem_append.mp hc with z | z
  · rcases List.mem_append.mp z with z | z
    · exact num_plain (k := g.1) (by have := h.1; omega) c z
    · rw [List.mem_singleton.mp z]
      decide
  · rcases btOk_mem (bits_ok _ _) z with z | z <;> omega
theorem gate_Sg {g : Nat × Nat} (h : GOk g) : Sg (gateT g) := ⟨by have := gateT_len h; omega, gate_plain h⟩
theorem jn_sg {P : Nat → Prop} {y : List Nat} (hy : ∀ c ∈ y, P c) : ∀ {ps : List (List Nat)}, (∀ p ∈ ps, ∀ c ∈ p, P c) → ∀ c ∈ jn y ps, P c
  | [], _, c, hc => (List.not_mem_nil hc).elim
  | [x], hp, c, hc => hp x List.mem_cons_self c hc
  | x :: z :: r, hp, c, hc => by
    rcases List.mem_append.mp (show c ∈ (x ++ y) ++ jn y (z :: r) from hc) with w | w
    · rcases List.mem_append.mp w with w | w
      · exact hp x List.mem_cons_self c w
      · exact hy c w
    · exact jn_sg hy (fun p h => hp p (List.mem_cons_of_mem _ h)) c w
theorem join_plain {ws : List Str} (h : ∀ w ∈ ws, ∀ c ∈ cp w, c < 1000) : ∀ c ∈ cp (Txt.join " " ws), c < 1000 := by
  rw [join_eq, cp_join, cp_blank]
  refine jn_sg (by decide) fun p hp => ?_
  obtain ⟨w, hw, rfl⟩ := List.mem_map.mp hp
  exact h w hw
theorem join_len (ws : List Str) (m : Nat) (h : ∀ w ∈ ws, w.length ≤ m) : (Txt.join " " ws).length ≤ ws.length * (m + 1) := by
  rw [join_eq]
  have h1 := StrLaws.join_length_le (Str.ofString " ") ws
  have h2 := sum_const (fun w : Str => w.length) m ws h
  rw [blank_len] at h1
  have h4 : (ws.map (·.length)).sum = (ws.map fun w : Str => w.length).sum := rfl
  rw [Nat.mul_succ]
  omega
theorem joi_blank (ws : List Str) (h : ∀ w ∈ ws, w.length ≤ 1000) (hl : ws.length ≤ 1000) : GK.u1D (.joi (Str.ofString " ")) (.list (List.map PyData.str ws)) = .ok ⟨.f, .str (Txt.join " " ws)⟩ := by
  refine joi_run _ _ ?_
  have h2 := sum_const (fun w : Str => w.length) 1000 ws h
  rw [blank_len]
  have : ws.length * 1000 ≤ 1000 * 1000 := Nat.mul_le_mul_right _ hl
  omega
theorem set_len (gs : List (Nat × Nat)) (h : ∀ g ∈ gs, GOk g) : (setT gs).length ≤ gs.length * 22 := by
  have := join_len (gs.map gateT) 21 fun w hw => by
    obtain ⟨g, hg, rfl⟩ := List.mem_map.mp hw
    exact gateT_len (h g hg)
  rw [List.length_map] at this
  exact this
theorem set_Sg (gs : List (Nat × Nat)) (h : ∀ g ∈ gs, GOk g) (hl : gs.length ≤ 100) : Sg (setT gs) := by
  refine ⟨?_, join_plain fun w hw => ?_⟩
  · have := set_len gs h
    have : gs.length * 22 ≤ 100 * 22 := Nat.mul_le_mul_right _ hl
    omega
  · obtain ⟨g, hg, rfl⟩ := List.mem_map.mp hw
    exact gate_plain (h g hg)
theorem gates_free {gs : List (Nat × Nat)} (h : ∀ g ∈ gs, GOk g) : ∀ p ∈ gs.map gateT, 32 ∉ cp p := fun p hp => by
  obtain ⟨g, hg, rfl⟩ := List.mem_map.mp hp
  exact gate_free (by have := (h g hg).1; omega) (by decide) (by decide)
theorem set_split {gs : List (Nat × Nat)} (h : ∀ g ∈ gs, GOk g) (ne : gs ≠ []) : Txt.split (setT gs) " " = gs.map gateT :=
  split_join _ cp_blank kind_blank _ (fun z => ne (List.map_eq_nil_iff.mp z)) (gates_free h)
theorem opt_gates : ∀ {gs : List (Nat × Nat)}, (∀ g ∈ gs, GOk g) → GK.optL rdGate (gs.map gateT) = some gs
  | [], _ => rfl
  | g :: gs, h => by
    have hg := h g List.mem_cons_self
    rw [List.map_cons]
    simp only [GK.optL, rdGate_gate hg.1 hg.2, opt_gates fun x hx => h x (List.mem_cons_of_mem _ hx)]
    rfl
theorem jn_mem (y : List Nat) : ∀ {ps : List (List Nat)} {p : List Nat} {c : Nat}, p ∈ ps → c ∈ p → c ∈ jn y ps
  | [x], p, c, h, hc => by
    rw [List.mem_singleton.mp h] at hc
    exact hc
  | x :: z :: r, p, c, h, hc => by
    show c ∈ x ++ y ++ jn y (z :: r)
    rcases List.mem_cons.mp h with rfl | h
    · exact List.mem_append_left _ (List.mem_append_left _ hc)
    · exact List.mem_append_right _ (jn_mem y h hc)
theorem set_ne {gs : List (Nat × Nat)} (ne : gs ≠ []) : setT gs ≠ "" := fun z => by
  have e : cp (setT gs) = [] := by rw [z]; exact cp_empty
  unfold setT at e
  rw [join_eq, cp_join, cp_blank] at e
  cases gs with
  | nil => exact ne rfl
  | cons g r =>
    have : 58 ∈ jn [32] (((g :: r).map gateT).map cp) := jn_mem _ (p := cp (gateT g)) (by simp) (by rw [cp_gate]; simp)
    rw [e] at this
    exact List.not_mem_nil this
theorem rdSet_set {gs : List (Nat × Nat)} (h : ∀ g ∈ gs, GOk g) (hl : gs.length ≤ 6) : rdSet (setT gs) = some gs := by
  unfold rdSet
  by_cases ne : gs = []
  · subst ne
    exact if_pos rfl
  · rw [if_neg (set_ne ne), set_split h ne, List.length_map, if_neg (by omega), opt_gates h]
/-! ### read -/
theorem gates_lx (k : Nat) {ws : List Str} (h : ∀ s ∈ ws, Sg s) (a b : Option Sl) : GK.lcX (GK.lcXt (run (k + 2)) "read_gate" (.cons (.var 2) .nil) 2 [a, b, none]) (List.map PyData.str ws) = .ok (GK.xrL "NoText" gP (GK.optL rdGate ws)) := by
  refine GK.lcX_opt PyData.str rdGate gP "NoText" ws fun s hs => ?_
  simp! only [3, read_gate_run k (h s hs)]
  cases rdGate s with
  | none => rfl
  | some n => rfl
theorem empty_sg : ∀ c ∈ cp (Str.ofString ""), c < 1000 := by rw [show cp (Str.ofString "") = [] from cp_empty]; decide
theorem read_set_run (k : Nat) {s : Str} (hs : Sg s) : run (k + 3) "read_set" [⟨.f, .str s⟩] = rzO (fun gs : List (Nat × Nat) => ⟨.o, .list (gs.map gP)⟩) (rdSet s) := by
  rw [run_read_set, runB_eq]
  simp! only [3, b_read_set, parted_run (k + 1) hs len_blank, deq_s hs.sg empty_sg]
  apply re_rzO
  have hp : ∀ p ∈ Txt.split s " ", Sg p := fun p h => hs.part h
  have hfew := split_few s " " len_blank
  have hl := hs.len
  unfold rdSet
  generalize Txt.split s " " = ws at *
  by_cases h0 : s = ""
  · have h0' : decide (s = Str.ofString "") = true := decide_eq_true h0
    rw [if_pos h0]
    simp! only [3, h0']
    exact re_ok ⟨[], rfl, rfl⟩
  · have h0' : decide (s = Str.ofString "") = false := decide_eq_false h0
    rw [if_neg h0]
    simp! only [3, h0', List.length_map]
    by_cases h6 : 6 < ws.length
    · rw [if_pos h6]
      simp! only [3, h6]
      exact re_rz (by trivial)
    · rw [if_neg h6]
      simp! only [3, h6, List.length_map, GK.lenOk_of (show ws.length ≤ 16777216 by omega), gates_lx k hp]
      cases GK.optL rdGate ws with
      | none =>
        simp! only [3, GK.ok_bind]
        exact re_rz (by trivial)
      | some gs =>
        simp! only [3, GK.ok_bind]
        exact re_ok ⟨gs, rfl, rfl⟩
theorem read_gate_bad (k : Nat) (d : D) (hd : GK.isiD d .str = false) (hn : GK.nmkD d = true) : run (k + 3) "read_gate" [⟨.f, d⟩] = .error (.raised "NoText") := by
  rw [run_read_gate, runB_eq]
  simp! only [3, b_read_gate, parted_bad (k + 1) .f d ":" hd hn]
theorem read_set_bad (k : Nat) (d : D) (hd : GK.isiD d .str = false) (hn : GK.nmkD d = true) : run (k + 3) "read_set" [⟨.f, d⟩] = .error (.raised "NoText") := by
  rw [run_read_set, runB_eq]
  simp! only [3, b_read_set, parted_bad (k + 1) .f d " " hd hn]
theorem texts_lc (k : Nat) {gs : List (Nat × Nat)} (h : ∀ g ∈ gs, GOk g) (a : Option Sl) : GK.lcGo (GK.lcTurn (run (k + 2)) [a, none] (.nm 1) .none (.call "gate_text" (.cons (.var 1) .nil)) [1]) (gs.map gP) = .ok (List.map PyData.str (gs.map gateT)) := by
  rw [GK.lcGo_map gP (fun g => PyData.str (gateT g)), List.map_map]
  · rfl
  · intro g hg
    simp! only [2, GK.lcTurn, gate_text_run k (h g hg)]
theorem set_joi {gs : List (Nat × Nat)} (h : ∀ g ∈ gs, GOk g) (hl : gs.length ≤ 100) : GK.u1D (.joi (Str.ofString " ")) (.list (List.map PyData.str (gs.map gateT))) = .ok ⟨.f, .str (setT gs)⟩ :=
  joi_blank (gs.map gateT) (fun w hw => by
    obtain ⟨g, hg, rfl⟩ := List.mem_map.mp hw
    have := gateT_len (h g hg)
    omega) (by rw [List.length_map]; omega)
theorem set_text_run (k : Nat) (m : Md) {gs : List (Nat × Nat)} (h : ∀ g ∈ gs, GOk g) (hl : gs.length ≤ 100) (hm : m = .f ∨ m = .p) : run (k + 3) "set_text" [⟨m, .list (gs.map gP)⟩] = .ok ⟨.f, .str (setT gs)⟩ := by
  rw [run_set_text, runB_eq]
  rcases hm with rfl | rfl
  · simp! only [2, b_set_text, texts_lc k h, List.length_map, GK.lenOk_of (show gs.length ≤ 16777216 by omega), set_joi h hl]
  · simp! only [2, b_set_text, texts_lc k h, List.length_map, GK.lenOk_of (show gs.length ≤ 16777216 by omega), set_joi h hl]

/-! ### the law's parts -/
def numC (ns : List Int) (k : Nat) : Nat := if 0 < ns.length then modN (ns.getD (k * 3 % ns.length) 0 * ((48271 : Nat) : Int) + ((k * 101 : Nat) : Int)) 2147483647 else k * 101 + 31
def cellC (ns : List Int) (k : Nat) : Int := if k < ns.length then ns.getD k 0 else ((numC ns k * numC ns k % 2147483489 : Nat) : Int)
theorem law_cellC_run (l : Nat) (ns : List Int) (hns : ns.length ≤ 63) (k : Nat) (hk : k ≤ 100000) : run (l + 1) "_law_cell" [⟨.f, .list (ns.map .int)⟩, fI (k : Nat)] = .ok (fI (cellC ns k)) := by
  rw [run_law_cell, runB_eq]
  simp! only [2, b_law_cell, List.length_map]
  by_cases h : k < ns.length
  · have e : ns[k]? = some (cellC ns k) := by
      unfold cellC
      rw [if_pos h, List.getD_eq_getElem?_getD, List.getElem?_eq_getElem h]
      rfl
    simp! only [2, h, GK.at_map PyData.int ns k _ e]
  · by_cases h0 : 0 < ns.length
    · have hm : k * 3 % ns.length < ns.length := Nat.mod_lt _ h0
      have e : ns[k * 3 % ns.length]? = some (ns.getD (k * 3 % ns.length) 0) := by
        rw [List.getD_eq_getElem?_getD, List.getElem?_eq_getElem hm]
        rfl
      have en : modN (ns.getD (k * 3 % ns.length) 0 * ((48271 : Nat) : Int) + ((k * 101 : Nat) : Int)) 2147483647 = numC ns k := by
        unfold numC
        rw [if_pos h0]
      have hl : numC ns k < 2147483647 := by
        rw [← en]
        exact modN_lt (by decide)
      have ec : cellC ns k = ((numC ns k * numC ns k % 2147483489 : Nat) : Int) := if_neg h
      simp! only [2, h, h0, List.length_map, GK.binI_mul_nat (show k < 2 ^ 64 by omega), GK.binI_mod_nat h0, GK.at_map PyData.int ns _ _ e, binI_mulR (show 48271 < 2 ^ 64 by decide), GK.binI_add, GK.binI_modN (show 0 < 2147483647 by decide), en, GK.binI_mul_nat (show numC ns k < 2 ^ 64 by omega), GK.binI_mod_nat (show 0 < 2147483489 by decide), ec]
    · have en : k * 101 + 31 = numC ns k := by
        unfold numC
        rw [if_neg h0]
      have hl : numC ns k < 2 ^ 64 := by
        rw [← en]
        omega
      have ec : cellC ns k = ((numC ns k * numC ns k % 2147483489 : Nat) : Int) := if_neg h
      simp! only [2, h, h0, List.length_map, GK.binI_mul_nat (show k < 2 ^ 64 by omega), en, GK.binI_mul_nat hl, GK.binI_mod_nat (show 0 < 2147483489 by decide), ec]
theorem law_gate_run (k x : Nat) : ∃ g, GOk g ∧ run (k + 1) "_law_gate" [fI (x : Nat)] = .ok ⟨.f, gP g⟩ := by
  have h5 := Nat.mod_lt x (show 0 < 5 by decide)
  have h4 := Nat.mod_lt (x / 7) (show 0 < 4 by decide)
  have g2 : 2 ^ (x % 5) ≤ 2 ^ 4 := Nat.pow_le_pow_right (by decide) (by omega)
  have hp : 0 < 2 ^ 2 ^ (x % 5) := Nat.two_pow_pos _
  obtain ⟨n, hn⟩ : ∃ n, x % 5 = n := ⟨_, rfl⟩
  rw [hn] at h5 g2 hp
  obtain ⟨b, hb⟩ : ∃ b, x / 5 % 2 ^ 2 ^ n = b := ⟨_, rfl⟩
  have hbl : b < 2 ^ 2 ^ n := by rw [← hb]; exact Nat.mod_lt _ hp
  obtain ⟨j, hj⟩ : ∃ j, x / 7 % 4 = j := ⟨_, rfl⟩
  rw [hj] at h4
  obtain ⟨v, hv, hvl⟩ : ∃ v : Nat, L2.atI [PyData.int (b : Nat), PyData.int (b : Nat), PyData.int ((0 : Nat) : Int), PyData.int ((2 ^ 2 ^ n - 1 : Nat) : Int)] (j : Int) = some (.int (v : Nat)) ∧ v < 2 ^ 2 ^ n := by
    rcases (show j = 0 ∨ j = 1 ∨ j = 2 ∨ j = 3 by omega) with rfl | rfl | rfl | rfl
    · exact ⟨b, rfl, hbl⟩
    · exact ⟨b, rfl, hbl⟩
    · exact ⟨0, rfl, hp⟩
    · exact ⟨2 ^ 2 ^ n - 1, rfl, by omega⟩
  refine ⟨(n, v), ⟨by omega, hvl⟩, ?_⟩
  rw [run_law_gate, runB_eq]
  simp! only [2, b_law_gate, GK.binI_mod_nat (show 0 < 5 by decide), hn, GK.binI_div_nat (show 0 < 5 by decide) (show 5 < 1073741824 by decide), GK.binI_shl_nat (show 1 < 2 ^ 64 by decide) (show n ≤ 1000000 by omega), Nat.one_mul, GK.binI_shl_nat (show 1 < 2 ^ 64 by decide) (show 2 ^ n ≤ 1000000 by omega), GK.binI_mod_nat hp, hb, sub_nat (show 1 ≤ 2 ^ 2 ^ n from hp), GK.binI_div_nat (show 0 < 7 by decide) (show 7 < 1073741824 by decide), GK.binI_mod_nat (show 0 < 4 by decide), hj, hv, GK.optS]
  rfl
theorem bits_lcR (k : Nat) (n b m : Nat) : GK.lcGo (GK.lcTurn (run k) [some ⟨.f, .tuple [nD n, nD b]⟩, none] (.nm 1) .none (.b1 .str (.bin .BitAnd (.bin .RShift (.ix (.var 0) (.int 1)) (.var 1)) (.int 1))) [1]) ((List.range m).map fun k => .int (k : Nat)) = .ok (List.map PyData.str ((List.range m).map fun k => numT (b / 2 ^ k % 2))) := by
  rw [GK.lcGo_map (fun k : Nat => PyData.int (k : Nat)) (fun k => PyData.str (numT (b / 2 ^ k % 2))), List.map_map]
  · rfl
  · intro j hj
    have h2 : b / 2 ^ j % 2 < 1000000 := Nat.lt_of_lt_of_le (Nat.mod_lt _ (by decide)) (by decide)
    have h3 := str_nat (b / 2 ^ j % 2) h2
    simp! only [2, GK.lcTurn, h3, Nat.shiftRight_eq_div_pow, Nat.and_one_is_mod]
theorem bits_joiR (b m : Nat) (hm : m ≤ 1000) : GK.u1D (.joi (Str.ofString "")) (.list (List.map PyData.str ((List.range m).map fun k => numT (b / 2 ^ k % 2)))) = .ok ⟨.f, .str (bitsT b m)⟩ := by
  refine joi_run _ _ ?_
  have h1 := sum_const (fun w : Str => w.length) 4 ((List.range m).map fun k => numT (b / 2 ^ k % 2)) (fun w hw => by
    obtain ⟨j, _, rfl⟩ := List.mem_map.mp hw
    exact num_short (Nat.lt_of_lt_of_le (Nat.mod_lt _ (by decide)) (by decide)))
  have h0 : (Str.ofString "").length = 0 := by decide +kernel
  rw [h0, Nat.mul_zero, Nat.add_zero]
  rw [List.length_map, List.length_range] at h1
  omega
theorem law_text_run (k : Nat) {g : Nat × Nat} (h : GOk g) : run (k + 1) "_law_text" [⟨.f, gP g⟩] = .ok ⟨.f, .str (gateT g)⟩ := by
  have h0 := h.1
  have h1 := num_short (k := g.1) (by omega)
  obtain ⟨h2, h3⟩ := h.small
  rw [run_law_text, runB_eq]
  have lc := bits_lcR k g.1 g.2 (2 ^ g.1)
  simp! only [2, b_law_text, gP, str_nat g.1 (by omega), add_str (show (numT g.1).length + (Str.ofString ":").length ≤ 16777216 by rw [colon_len]; omega), GK.binI_shl_nat (show 1 < 2 ^ 64 by decide) (show g.1 ≤ 1000000 by omega), Nat.one_mul, GK.rngD_nat (show 2 ^ g.1 < 2 ^ 62 by omega)]
  simp only [nD_def] at lc
  simp! only [2, lc, List.length_map, List.length_range, GK.lenOk_of (show 2 ^ g.1 ≤ 16777216 by omega), bits_joiR g.2 (2 ^ g.1) (by omega), add_str (show (numT g.1 ++ Str.ofString ":").length + (bitsT g.2 (2 ^ g.1)).length ≤ 16777216 by rw [str_len_app, colon_len, bits_len]; omega)]
  rfl
theorem law_whole_run (k n : Nat) : run (k + 1) "_law_whole" [fI (n : Nat)] = .ok (fB true) := by
  rw [run_law_whole, runB_eq]
  simp! only [2, b_law_whole]
theorem law_is_run (k : Nat) {g : Nat × Nat} (h : GOk g) : run (k + 2) "_law_is" [⟨.f, gP g⟩] = .ok (fB true) := by
  have h0 := h.1
  obtain ⟨h2, h3⟩ := h.small
  have h4 := h.2
  rw [run_law_is, runB_eq]
  simp! only [2, b_law_is, gP, law_whole_run k, Nat.zero_le, h0, GK.binI_shl_nat (show 1 < 2 ^ 64 by decide) (show g.1 ≤ 1000000 by omega), Nat.one_mul, GK.binI_shl_nat (show 1 < 2 ^ 64 by decide) (show 2 ^ g.1 ≤ 1000000 by omega), h4, decide_true]
/-! ### what the law finds -/
def dG : Option (Nat × Nat) → D
  | some g => gP g
  | none => .str "none"
theorem signs_lc (k : Nat) (l : List Nat) (a b c : Option Sl) : GK.lcGo (GK.lcTurn (run k) [a, b, none, c] (.nm 2) .none (.cmp .In (.var 2) (.str (Str.ofString "01"))) [2]) (l.map fun c => .str ⟨#[c]⟩) = .ok ((l.map fun c => (decide (c = 48) || decide (c = 49))).map PyData.bool) := by
  rw [GK.lcGo_map (fun c : Nat => PyData.str ⟨#[c]⟩) (fun c => PyData.bool (decide (c = 48) || decide (c = 49))), List.map_map]
  · rfl
  · intro c _
    simp! only [2, GK.lcTurn, inS_in, mem01]
theorem sum_lc (k : Nat) {a b : Str} (hb : btOk (cp b) = true) (hl : b.length ≤ 1000) (A : Option Sl) : GK.lcGo (GK.lcTurn (run k) [A, some ⟨.o, .list [.str a, .str b]⟩, none, none] (.nm 3) .none (.bin .LShift (.b1 .int (.ix (.ix (.var 1) (.int 1)) (.var 3))) (.var 3)) [3]) ((List.range b.length).map fun k => .int (k : Nat)) = .ok (((List.range b.length).map fun r => ((cp b).getD r 0 - 48) * 2 ^ r).map nD) := by
  rw [GK.lcGo_map (fun k : Nat => PyData.int (k : Nat)) (fun r => nD (((cp b).getD r 0 - 48) * 2 ^ r)), List.map_map]
  · rfl
  · intro r hr
    have hr := List.mem_range.mp hr
    have hlen := cp_len b
    have hc : (cp b)[r]? = some ((cp b).getD r 0) := by
      rw [List.getD_eq_getElem?_getD, List.getElem?_eq_getElem (by omega)]
      rfl
    have h01 := btOk_mem hb (List.mem_of_getElem? hc)
    have hi := bit_int h01
    have hs : (cp b).getD r 0 - 48 < 2 ^ 64 := by omega
    simp! only [2, GK.lcTurn, ixS hc (show r < 1000000 by omega), hi, GK.binI_shl_nat hs (show r ≤ 1000000 by omega)]
theorem law_due_run (k : Nat) {s : Str} (hs : Sg s) : run (k + 1) "_law_due" [⟨.f, .str s⟩] = .ok ⟨.f, dG (rdGate s)⟩ := by
  have hspl := spl_run hs len_colon
  rw [run_law_due, runB_eq]
  simp! only [2, b_law_due, hspl]
  unfold rdGate
  generalize hps : Txt.split s (Str.ofString ":") = ps
  have hp : ∀ p ∈ ps, Sg p := fun p h => hs.part (by rw [hps]; exact h)
  rcases ps with _ | ⟨a, _ | ⟨b, _ | ⟨c, r⟩⟩⟩
  · simp! only [2, List.map_nil, List.length_nil]
    rfl
  · simp! only [2, List.map_nil, List.map_cons, List.length_nil, List.length_cons]
    rfl
  · have ha := hp a (by simp)
    have hb := hp b (by simp)
    have hlb := hb.len
    have hlen := cp_len b
    have elit := in_lit ha
    by_cases h5 : ∃ n, rdNum a = some n ∧ n < 5
    · rw [decide_eq_true h5] at elit
      obtain ⟨n, hn, hn5⟩ := h5
      have g2 : 2 ^ n ≤ 2 ^ 4 := Nat.pow_le_pow_right (by decide) (by omega)
      simp! only [2, List.map_nil, List.map_cons, List.length_nil, List.length_cons, elit, GK.negM, lenS b (by omega), int_num hn, GK.binI_shl_nat (show 1 < 2 ^ 64 by decide) (show n ≤ 1000000 by omega), Nat.one_mul, hn, Option.bind_some, if_pos (show n ≤ 4 by omega)]
      unfold rdBits
      by_cases h6 : b.length = 2 ^ n
      · have h6' : (b.length == 2 ^ n) = true := by simp [h6]
        rw [decide_eq_true h6]
        simp! only [2, h6', seqS, signs_lc, List.length_map, GK.lenOk_of (show (cp b).length ≤ 16777216 by omega), boolsM, List.all_map, Bool.true_and]
        have eb : List.all (cp b) (id ∘ fun c => (decide (c = 48) || decide (c = 49))) = btOk (cp b) := rfl
        simp only [eb]
        cases hbt : btOk (cp b) with
        | false =>
          simp! only [2, GK.ok_bind]
          rfl
        | true =>
          have hb1000 : b.length ≤ 1000 := by omega
          have es := bits_sum b.length (cp b) (by omega)
          rw [List.take_of_length_le (show (cp b).length ≤ b.length by omega)] at es
          simp! only [2, lenS b (by omega), GK.rngD_nat (show b.length < 2 ^ 62 by omega), sum_lc k hbt hb1000, List.length_map, List.length_range, GK.lenOk_of (show b.length ≤ 16777216 by omega), es, int_num hn, if_true]
          rfl
      · have h6' : (b.length == 2 ^ n) = false := by simp [h6]
        rw [decide_eq_false h6]
        simp! only [2, h6']
        rfl
    · rw [decide_eq_false h5] at elit
      simp! only [2, List.map_nil, List.map_cons, List.length_nil, List.length_cons, elit, GK.negM]
      cases hn : rdNum a with
      | none => rfl
      | some n =>
        have : ¬ n ≤ 4 := fun z => h5 ⟨n, hn, by omega⟩
        simp only [Option.bind_some, if_neg this]
        rfl
  · have : ((List.map PyData.str (a :: b :: c :: r)).length == 2) = false := by simp
    simp! only [2, this]
    rfl
/-! ### the spoilt text -/
theorem put_Sg {t : Str} (ht : Sg t) (hl : t.length ≤ 30000) (i j c : Nat) (h : c < 1000) : Sg (takeS i t ++ ⟨#[c]⟩ ++ dropS j t) := by
  have e : cp (takeS i t ++ ⟨#[c]⟩ ++ dropS j t) = (cp t).take i ++ [c] ++ (cp t).drop j := by rw [cp_app, cp_app]; rfl
  have l1 : ((cp t).take i).length ≤ (cp t).length := by rw [List.length_take]; omega
  have l2 : ((cp t).drop j).length ≤ (cp t).length := by rw [List.length_drop]; omega
  have l3 := cp_len t
  refine ⟨?_, ?_⟩
  · rw [← cp_len, e, List.length_append, List.length_append]
    show _ + 1 + _ ≤ _
    omega
  · rw [e]
    intro x hx
    rcases List.mem_append.mp hx with z | z
    · rcases List.mem_append.mp z with z | z
      · exact ht.sg x (List.mem_of_mem_take z)
      · rw [List.mem_singleton.mp z]
        exact h
    · exact ht.sg x (List.mem_of_mem_drop z)
theorem cut_Sg {t : Str} (ht : Sg t) (hl : t.length ≤ 30000) (i j : Nat) : Sg (takeS i t ++ dropS j t) := by
  have e : cp (takeS i t ++ dropS j t) = (cp t).take i ++ (cp t).drop j := by rw [cp_app]; rfl
  have l1 : ((cp t).take i).length ≤ (cp t).length := by rw [List.length_take]; omega
  have l2 : ((cp t).drop j).length ≤ (cp t).length := by rw [List.length_drop]; omega
  have l3 := cp_len t
  refine ⟨?_, ?_⟩
  · rw [← cp_len, e, List.length_append]
    omega
  · rw [e]
    intro x hx
    rcases List.mem_append.mp hx with z | z
    · exact ht.sg x (List.mem_of_mem_take z)
    · exact ht.sg x (List.mem_of_mem_drop z)
theorem signs_Sg {l : List Nat} (h : ∀ c ∈ l, c < 1000) (hl : l.length ≤ 30000) : Sg (Txt.join "" (l.map fun c => (⟨#[c]⟩ : Str))) ∧ GK.u1D (.joi (Str.ofString "")) (.list (l.map fun c => .str ⟨#[c]⟩)) = .ok ⟨.f, .str (Txt.join "" (l.map fun c => (⟨#[c]⟩ : Str)))⟩ := by
  have e : cp (Txt.join "" (l.map fun c => (⟨#[c]⟩ : Str))) = l := by
    rw [join_eq, cp_join, show cp (Str.ofString "") = [] from cp_empty, jn_nil, List.map_map]
    have : ∀ l : List Nat, (l.map (cp ∘ fun c => (⟨#[c]⟩ : Str))).flatten = l := fun l => by
      induction l with
      | nil => rfl
      | cons x r ih =>
        rw [List.map_cons, List.flatten_cons, ih]
        rfl
    exact this l
  refine ⟨⟨by rw [← cp_len, e]; omega, by rw [e]; exact h⟩, ?_⟩
  have j := joi_run (Str.ofString "") (l.map fun c => (⟨#[c]⟩ : Str)) (by
    have h0 : (Str.ofString "").length = 0 := by decide +kernel
    have h1 := sum_const (fun w : Str => w.length) 1 (l.map fun c => (⟨#[c]⟩ : Str)) (fun w hw => by
      obtain ⟨c, _, rfl⟩ := List.mem_map.mp hw
      exact Nat.le_refl _)
    rw [h0]
    rw [List.length_map] at h1 ⊢
    omega)
  rw [List.map_map] at j
  exact j
theorem law_spoilt_run (k : Nat) {t : Str} (ht : Sg t) (hl : t.length ≤ 1000) (x : Nat) : ∃ s, run (k + 1) "_law_spoilt" [⟨.f, .str t⟩, fI (x : Nat)] = .ok ⟨.f, .str s⟩ ∧ Sg s := by
  suffices hh : GK.FE (run (k + 1) "_law_spoilt" [⟨.f, .str t⟩, fI (x : Nat)]) (fun r => ∃ s, r = ⟨.f, .str s⟩ ∧ Sg s) by
    obtain ⟨r, e, s, rfl, h⟩ := hh
    exact ⟨s, e, h⟩
  have hlen := cp_len t
  rw [run_law_spoilt, runB_eq]
  have h10 := Nat.mod_lt (x / 4) (show 0 < 13 by decide)
  obtain ⟨d, hd, hd1⟩ : ∃ d, (cp (Str.ofString "01234:: -x;59"))[x / 4 % 13]? = some d ∧ d < 1000 := by
    have e : cp (Str.ofString "01234:: -x;59") = [48, 49, 50, 51, 52, 58, 58, 32, 45, 120, 59, 53, 57] := by decide +kernel
    rw [e]
    refine ⟨_, List.getElem?_eq_getElem h10, ?_⟩
    have : ∀ d ∈ ([48, 49, 50, 51, 52, 58, 58, 32, 45, 120, 59, 53, 57] : List Nat), d < 1000 := by decide
    exact this _ (List.getElem_mem _)
  have ha := Nat.mod_lt (x / 64) (show 0 < t.length + 1 by omega)
  have add1 : ∀ i j, (takeS i t).length + (⟨#[d]⟩ : Str).length ≤ 16777216 ∧ (takeS i t ++ ⟨#[d]⟩).length + (dropS j t).length ≤ 16777216 ∧ (takeS i t).length + (dropS j t).length ≤ 16777216 := fun i j => by
    have l1 : (takeS i t).length ≤ t.length := by rw [← cp_len, cp_take, List.length_take, ← cp_len]; omega
    have l2 : (dropS j t).length ≤ t.length := by rw [← cp_len, cp_drop, List.length_drop, ← cp_len]; omega
    have l3 : (⟨#[d]⟩ : Str).length = 1 := rfl
    rw [str_len_app, l3]
    omega
  obtain ⟨at_, hat⟩ : ∃ a, x / 64 % (t.length + 1) = a := ⟨_, rfl⟩
  rw [hat] at ha
  obtain ⟨a1, a2, _⟩ := add1 at_ at_
  simp! only [2, b_law_spoilt, GK.binI_div_nat (show 0 < 4 by decide) (show 4 < 1073741824 by decide), GK.binI_mod_nat (show 0 < 13 by decide), ixS hd (show x / 4 % 13 < 1000000 by omega), lenS t (by omega), GK.binI_div_nat (show 0 < 64 by decide) (show 64 < 1073741824 by decide), GK.binI_mod_nat (show 0 < t.length + 1 by omega), hat, GK.binI_mod_nat (show 0 < 4 by decide), deq_s ht.sg (show ∀ c ∈ cp (Str.ofString ""), c < 1000 from empty_sg)]
  by_cases h0 : x % 4 = 0
  · have h0' : (x % 4 == 0) = true := by simp [h0]
    simp! only [2, h0', sl_take ht at_ (by omega), sl_drop ht at_ (by omega), add_str a1, add_str a2]
    exact GK.fe_ok ⟨_, rfl, put_Sg ht (by omega) at_ at_ d hd1⟩
  · have h0' : (x % 4 == 0) = false := beq_eq_false_iff_ne.mpr h0
    by_cases he : t = ""
    · have he' : decide (t = Str.ofString "") = true := decide_eq_true he
      simp! only [2, h0', he', sl_take ht at_ (by omega), sl_drop ht at_ (by omega), add_str a1, add_str a2]
      exact GK.fe_ok ⟨_, rfl, put_Sg ht (by omega) at_ at_ d hd1⟩
    · have he' : decide (t = Str.ofString "") = false := decide_eq_false he
      have hpos : 0 < t.length := by
        rcases Nat.eq_zero_or_pos t.length with z | z
        · refine absurd (str_cp ?_) he
          rw [show cp (Str.ofString "") = [] from cp_empty]
          exact List.length_eq_zero_iff.mp (by omega)
        · exact z
      have hi := Nat.mod_lt at_ hpos
      have hj := Nat.mod_lt (x / 4096) hpos
      obtain ⟨i, hie⟩ : ∃ i, at_ % t.length = i := ⟨_, rfl⟩
      obtain ⟨j, hje⟩ : ∃ j, x / 4096 % t.length = j := ⟨_, rfl⟩
      rw [hie] at hi
      rw [hje] at hj
      obtain ⟨b1, b2, b3⟩ := add1 i (i + 1)
      simp! only [2, h0', he', lenS t (show t.length ≤ 16777216 by omega), GK.binI_mod_nat hpos, hie]
      by_cases h1 : x % 4 = 1
      · have h1' : (x % 4 == 1) = true := by simp [h1]
        simp! only [2, GK.binI_mod_nat (show 0 < 4 by decide), h1', sl_take ht i (by omega), sl_drop ht (i + 1) (by omega), add_str b3]
        exact GK.fe_ok ⟨_, rfl, cut_Sg ht (by omega) i (i + 1)⟩
      · have h1' : (x % 4 == 1) = false := beq_eq_false_iff_ne.mpr h1
        by_cases h2 : x % 4 = 2
        · have h2' : (x % 4 == 2) = true := by simp [h2]
          simp! only [2, GK.binI_mod_nat (show 0 < 4 by decide), h1', h2', sl_take ht i (by omega), sl_drop ht (i + 1) (by omega), add_str b1, add_str b2]
          exact GK.fe_ok ⟨_, rfl, put_Sg ht (by omega) i (i + 1) d hd1⟩
        · have h2' : (x % 4 == 2) = false := beq_eq_false_iff_ne.mpr h2
          obtain ⟨ci, hci⟩ : ∃ c, (cp t)[i]? = some c := ⟨_, List.getElem?_eq_getElem (by omega)⟩
          obtain ⟨cj, hcj⟩ : ∃ c, (cp t)[j]? = some c := ⟨_, List.getElem?_eq_getElem (by omega)⟩
          have hset : ∀ (l : List Nat) (q : Nat) (m : Nat), (l.map fun c => PyData.str ⟨#[c]⟩).set m (.str ⟨#[q]⟩) = (l.set m q).map fun c => PyData.str ⟨#[c]⟩ := fun l q m => (List.map_set ..).symm
          have s1 : ∀ ρ : Rho, GK.setG ρ 5 ((cp t).map fun c => PyData.str ⟨#[c]⟩) (.str ⟨#[cj]⟩) (.int (i : Nat)) = .ok (.nx (ρ.set 5 (some ⟨.o, .list (((cp t).set i cj).map fun c => PyData.str ⟨#[c]⟩)⟩))) := fun ρ => by rw [GK.setG_nat (by rw [List.length_map]; omega), hset]
          have s2 : ∀ ρ : Rho, GK.setG ρ 5 (((cp t).set i cj).map fun c => PyData.str ⟨#[c]⟩) (.str ⟨#[ci]⟩) (.int (j : Nat)) = .ok (.nx (ρ.set 5 (some ⟨.o, .list ((((cp t).set i cj).set j ci).map fun c => PyData.str ⟨#[c]⟩)⟩))) := fun ρ => by rw [GK.setG_nat (by rw [List.length_map, List.length_set]; omega), hset]
          obtain ⟨f1, f2⟩ := signs_Sg (l := ((cp t).set i cj).set j ci) (fun c hc => by
            rcases List.mem_or_eq_of_mem_set hc with z | rfl
            · rcases List.mem_or_eq_of_mem_set z with z | rfl
              · exact ht.sg c z
              · exact ht.sg _ (List.mem_of_getElem? hcj)
            · exact ht.sg _ (List.mem_of_getElem? hci)) (by rw [List.length_set, List.length_set]; omega)
          simp! only [2, GK.binI_mod_nat (show 0 < 4 by decide), h1', h2', GK.binI_div_nat (show 0 < 4096 by decide) (show 4096 < 1073741824 by decide), lenS t (show t.length ≤ 16777216 by omega), GK.binI_mod_nat hpos, hje, list_str (show t.length ≤ 16777216 by omega), ixS hcj (show j < 1000000 by omega), ixS hci (show i < 1000000 by omega), s1, s2, f2]
          exact GK.fe_ok ⟨_, rfl, f1⟩

/-! ### read, or refused -/
theorem isx_Text : GK.isxS ⟨.f, xcD "NoText"⟩ "NoText" = .ok (fB true) := by rw [GK.isx_NoText, show GK.xsub (Str.ofString "NoText") (Str.ofString "NoText") = true from by decide +kernel]
theorem isx_TextV : GK.isxS ⟨.f, xcD "NoText"⟩ "ValueError" = .ok (fB true) := by rw [GK.isx_ValueError, show GK.xsub (Str.ofString "NoText") (Str.ofString "ValueError") = true from by decide +kernel]
theorem ixs_Text : GK.ixsS ⟨.f, xcD "NoText"⟩ ["NoName", "NoRow", "NoRelation"] = .ok (fB false) := by
  rw [GK.ixsS_xc _ _ (by decide +kernel), show ([Str.ofString "NoName", Str.ofString "NoRow", Str.ofString "NoRelation"].any (GK.xsub (Str.ofString "NoText"))) = false from by decide +kernel]
theorem law_read_gate (k : Nat) (d : D) (b : Bool) (o : Option (Nat × Nat)) (h : run (k + 3) "read_gate" [⟨.f, d⟩] = rzO (fun g : Nat × Nat => ⟨.f, gP g⟩) o) : run (k + 4) "_law_read" [⟨.f, d⟩, fB false, fB b] = .ok ⟨.f, dG o⟩ := by
  rw [run_law_read, runB_eq]
  have e1 : GK.xsub (Str.ofString "NoText") (Str.ofString "GateError") = true := by decide +kernel
  have e2 : GK.xsub (Str.ofString "NoText") (Str.ofString "NoText") = true := by decide +kernel
  cases o with
  | some c =>
    have h : run (k + 3) "read_gate" [⟨.f, d⟩] = .ok ⟨.f, gP c⟩ := h
    cases b <;> simp! only [3, b_law_read, Bool.false_eq_true, if_false, h]
    all_goals rfl
  | none =>
    have h : run (k + 3) "read_gate" [⟨.f, d⟩] = .error (.raised "NoText") := h
    cases b <;> simp! only [3, b_law_read, Bool.false_eq_true, if_false, h, isx_Text, isx_TextV, ixs_Text, e1, e2, Bool.or_false, Bool.not_false]
    all_goals rfl
def dS : Option (List (Nat × Nat)) → Sl
  | some gs => ⟨.o, .list (gs.map gP)⟩
  | none => ⟨.f, .str "none"⟩
theorem law_read_set (k : Nat) (d : D) (b : Bool) (o : Option (List (Nat × Nat))) (h : run (k + 3) "read_set" [⟨.f, d⟩] = rzO (fun gs : List (Nat × Nat) => ⟨.o, .list (gs.map gP)⟩) o) : run (k + 4) "_law_read" [⟨.f, d⟩, fB true, fB b] = .ok (dS o) := by
  rw [run_law_read, runB_eq]
  have e1 : GK.xsub (Str.ofString "NoText") (Str.ofString "GateError") = true := by decide +kernel
  have e2 : GK.xsub (Str.ofString "NoText") (Str.ofString "NoText") = true := by decide +kernel
  cases o with
  | some c =>
    have h : run (k + 3) "read_set" [⟨.f, d⟩] = .ok ⟨.o, .list (c.map gP)⟩ := h
    cases b <;> simp! only [3, b_law_read, if_true, h]
    all_goals rfl
  | none =>
    have h : run (k + 3) "read_set" [⟨.f, d⟩] = .error (.raised "NoText") := h
    cases b <;> simp! only [3, b_law_read, if_true, h, isx_Text, isx_TextV, ixs_Text, e1, e2, Bool.or_false, Bool.not_false]
    all_goals rfl
/-! ### good -/
theorem lay_gP (g : Nat × Nat) : GK.Lay 1 (gP g) := GK.lay_tup (GK.lay_cons (GK.lay_nD 0 _) (GK.lay_cons (GK.lay_nD 0 _) (GK.lay_nil 0)))
theorem lay_gs (gs : List (Nat × Nat)) : GK.Lay 2 (.list (gs.map gP)) := GK.lay_lst (GK.lay_map fun g _ => lay_gP g)
theorem shaped_dG (o : Option (Nat × Nat)) : SeqAt.shaped (dG o) = true := by
  cases o with
  | none => exact shaped_s none_plain
  | some c => exact (lay_gP c).shaped (by decide)
theorem deq_dG (o : Option (Nat × Nat)) : GK.deq (dG o) (dG o) = .ok true := GK.deq_refl (shaped_dG o)
theorem eqv_dG (o : Option (Nat × Nat)) : PyData.eqv (dG o) (.str (Str.ofString "none")) = o.isNone := by
  cases o with
  | none =>
    have := eqv_s (Str.ofString "none") (Str.ofString "none")
    rw [decide_eq_true rfl] at this
    exact this
  | some c => rfl
theorem deq_none (o : Option (Nat × Nat)) : GK.deq (dG o) (.str (Str.ofString "none")) = .ok o.isNone := by
  unfold GK.deq
  rw [shaped_dG o, shaped_s none_plain, eqv_dG]
  rfl
theorem lay_dG (o : Option (Nat × Nat)) : GK.Lay 1 (dG o) := by
  cases o with
  | none => exact ⟨strOk_of none_plain, Nat.zero_le _⟩
  | some c => exact lay_gP c
theorem none_in (os : List (Option (Nat × Nat))) : GK.inD (.str (Str.ofString "none")) (os.map dG) = .ok (os.any fun o => o.isNone) := by
  unfold GK.inD
  have h1 : SeqAt.shaped (.list (os.map dG)) = true := (GK.lay_lst (GK.lay_map fun o _ => lay_dG o)).shaped (by decide)
  rw [h1, shaped_s none_plain, List.any_map]
  simp only [Bool.and_self, if_true]
  have e : ∀ l : List (Option (Nat × Nat)), (l.any ((fun z => PyData.eqv z (.str (Str.ofString "none"))) ∘ dG)) = l.any fun o => o.isNone := fun l => by
    induction l with
    | nil => rfl
    | cons o l ih =>
      rw [List.any_cons, List.any_cons, ih]
      show (PyData.eqv (dG o) (.str (Str.ofString "none")) || _) = _
      rw [eqv_dG]
  rw [e]
theorem law_good_gate (k : Nat) {s : Str} (hs : Sg s) (b : Bool) : run (k + 6) "_law_good" [⟨.f, .str s⟩, fB false, fB b] = .ok (fB true) := by
  rw [run_law_good, runB_eq]
  have r := law_read_gate (k + 1) (.str s) b (rdGate s) (read_gate_run (k + 2) hs)
  have ld := law_due_run (k + 4) hs
  simp! only [2, b_law_good, r, Bool.not_false, ld, deq_dG, deq_none]
  cases hr : rdGate s with
  | none => simp! only [2, Option.isNone_none]
  | some g =>
    have li := law_is_run (k + 3) (rdGate_ok hr)
    have li : run (k + 5) "_law_is" [⟨.f, dG (some g)⟩] = .ok (fB true) := li
    simp! only [2, Option.isNone_some, li]
theorem dues_lc (k : Nat) {ws : List Str} (h : ∀ w ∈ ws, Sg w) (a b c d e : Option Sl) : GK.lcGo (GK.lcTurn (run (k + 1)) [a, b, c, d, e, none, none] (.nm 5) .none (.call "_law_due" (.cons (.var 5) .nil)) [5]) (List.map PyData.str ws) = .ok ((ws.map rdGate).map dG) := by
  rw [GK.lcGo_map PyData.str (fun w => dG (rdGate w)), List.map_map]
  · rfl
  · intro w hw
    simp! only [2, GK.lcTurn, law_due_run k (h w hw)]
theorem any_optL {α β : Type} (h : α → Option β) : ∀ xs : List α, ((xs.map h).any fun o => o.isNone) = (GK.optL h xs).isNone
  | [] => rfl
  | x :: xs => by
    rw [List.map_cons, List.any_cons, any_optL h xs]
    simp only [GK.optL]
    cases h x with
    | none => rfl
    | some y => cases GK.optL h xs <;> rfl
theorem optL_map {α : Type} (h : α → Option (Nat × Nat)) : ∀ (xs : List α) (ss : List (Nat × Nat)), GK.optL h xs = some ss → (xs.map h).map dG = ss.map gP
  | [], ss, e => by cases e; rfl
  | x :: xs, ss, e => by
    simp only [GK.optL] at e
    cases hx : h x with
    | none => rw [hx] at e; cases e
    | some z =>
      rw [hx] at e
      cases hr : GK.optL h xs with
      | none => rw [hr] at e; cases e
      | some zs =>
        rw [hr] at e
        cases e
        rw [List.map_cons, List.map_cons, List.map_cons, hx, optL_map h xs zs hr]
        rfl
theorem deq_noneS : GK.deq (.str (Str.ofString "none")) (.str (Str.ofString "none")) = .ok true := deq_txt none_plain
theorem law_good_set (k : Nat) {s : Str} (hs : Sg s) (b : Bool) : run (k + 6) "_law_good" [⟨.f, .str s⟩, fB true, fB b] = .ok (fB true) := by
  have r := law_read_set (k + 1) (.str s) b (rdSet s) (read_set_run (k + 1) hs)
  have hl := hs.len
  rw [run_law_good, runB_eq]
  have hp : ∀ p ∈ Txt.split s " ", Sg p := fun p h => hs.part h
  have hfew := split_few s " " len_blank
  have hspl := spl_run hs len_blank
  suffices h : GK.FE (GK.fin (GK.exSs (run (k + 5)) fu b_law_good (startR 7 [⟨.f, .str s⟩, fB true, fB b]))) (fun r => r = fB true) by
    obtain ⟨r, e, rfl⟩ := h
    exact e
  unfold rdSet at r
  generalize Txt.split s " " = ws at *
  have all_is : ∀ (gs : List (Nat × Nat)), (∀ g ∈ gs, GOk g) → ∀ a b c d e f, GK.lcGo (GK.lcTurn (run (k + 5)) [a, b, c, d, e, f, none] (.nm 6) .none (.call "_law_is" (.cons (.var 6) .nil)) [6]) (gs.map gP) = .ok ((gs.map fun _ => true).map PyData.bool) := fun gs hg a b c d e f => by
    rw [GK.lcGo_map gP (fun _ => PyData.bool true), List.map_map]
    · rfl
    · intro g h
      simp! only [2, GK.lcTurn, law_is_run (k + 3) (hg g h)]
  have alls : ∀ gs : List (Nat × Nat), (gs.map fun _ => true).all id = true := fun gs => by simp
  have dl := fun a b c d e => dues_lc (k + 4) hp a b c d e
  by_cases h0 : s = ""
  · have h0' : decide (s = Str.ofString "") = true := decide_eq_true h0
    rw [if_pos h0] at r
    have ai := all_is [] (fun g h => (List.not_mem_nil h).elim)
    simp only [List.map_nil] at ai
    have n0 := none_in []
    simp only [List.map_nil, List.any_nil] at n0
    simp! only [2, b_law_good, r, dS, List.map_nil, Bool.not_true, hspl, dl, List.length_map, GK.lenOk_of (show ws.length ≤ 16777216 by omega), deq_s hs.sg empty_sg, h0', n0, GK.deq_nil, GK.lcGo, List.length_nil, GK.lenOk_of (show 0 ≤ 16777216 by decide), GK.boolsD, List.all_nil]
    exact GK.fe_ok rfl
  · have h0' : decide (s = Str.ofString "") = false := decide_eq_false h0
    rw [if_neg h0] at r
    by_cases h6 : 6 < ws.length
    · rw [if_pos h6] at r
      simp! only [2, b_law_good, r, dS, Bool.not_true, hspl, dl, List.length_map, GK.lenOk_of (show ws.length ≤ 16777216 by omega), deq_s hs.sg empty_sg, h0', none_in, h6, deq_noneS]
      cases (List.map rdGate ws).any fun o => o.isNone <;> simp! only [2, GK.ok_bind]
      all_goals exact GK.fe_ok rfl
    · rw [if_neg h6] at r
      cases ho : GK.optL rdGate ws with
      | none =>
        rw [ho] at r
        have ea := any_optL rdGate ws
        rw [ho] at ea
        have ea : ((List.map rdGate ws).any fun o => o.isNone) = true := ea
        simp! only [2, b_law_good, r, dS, Bool.not_true, hspl, dl, List.length_map, GK.lenOk_of (show ws.length ≤ 16777216 by omega), deq_s hs.sg empty_sg, h0', none_in, ea, deq_noneS]
        exact GK.fe_ok rfl
      | some gs =>
        rw [ho] at r
        have ea := any_optL rdGate ws
        rw [ho] at ea
        have ea : ((List.map rdGate ws).any fun o => o.isNone) = false := ea
        have em := optL_map rdGate ws gs ho
        have hg : ∀ g ∈ gs, GOk g := fun g h => by
          obtain ⟨w, _, e⟩ := optL_mem ho h
          exact rdGate_ok e
        have hgl : gs.length = ws.length := optL_len ho
        have nin : GK.inD (.str (Str.ofString "none")) (gs.map gP) = .ok false := by
          have := none_in (ws.map rdGate)
          rw [em, ea] at this
          exact this
        have dq : GK.deq (.list (gs.map gP)) (.list (gs.map gP)) = .ok true := (lay_gs gs).deq (by decide)
        simp! only [2, b_law_good, r, dS, Bool.not_true, hspl, dl, List.length_map, GK.lenOk_of (show ws.length ≤ 16777216 by omega), deq_s hs.sg empty_sg, h0', nin, show ¬ 6 < gs.length by omega, em, dq, all_is gs hg, GK.lenOk_of (show gs.length ≤ 16777216 by omega), boolsM, alls]
        exact GK.fe_ok rfl
/-! ### the law -/
theorem gates_lc2 (k : Nat) (ns : List Int) (hns : ns.length ≤ 63) (m : Nat) (hm : m ≤ 6) (a b c d e f g : Option Sl) : ∃ gs : List (Nat × Nat), gs.length = m ∧ (∀ g ∈ gs, GOk g) ∧ GK.lcGo (GK.lcTurn (run (k + 1)) [some ⟨.f, .list (ns.map .int)⟩, a, b, c, none, d, e, f, g] (.nm 4) .none (.call "_law_gate" (.cons (.bin .Mod (.call "_law_cell" (.cons (.var 0) (.cons (.bin .Add (.int 2) (.var 4)) .nil))) (.bin .Pow (.int 10) (.int 9))) .nil)) [4]) ((List.range m).map fun k => .int (k : Nat)) = .ok (gs.map gP) := by
  have key : ∀ x : Nat, ∃ g, GOk g ∧ run (k + 1) "_law_gate" [fI (x : Nat)] = .ok ⟨.f, gP g⟩ := fun x => law_gate_run k x
  obtain ⟨G, hG⟩ : ∃ G : Nat → Nat × Nat, ∀ x, GOk (G x) ∧ run (k + 1) "_law_gate" [fI (x : Nat)] = .ok ⟨.f, gP (G x)⟩ := ⟨fun x => (key x).choose, fun x => (key x).choose_spec⟩
  have hG1 := fun x => (hG x).1
  have hG2 := fun x => (hG x).2
  refine ⟨(List.range m).map fun j => G (GK.modN (cellC ns (2 + j)) 1000000000), by rw [List.length_map, List.length_range], fun g hg => ?_, ?_⟩
  · obtain ⟨j, _, rfl⟩ := List.mem_map.mp hg
    exact hG1 _
  · rw [GK.lcGo_map (fun k : Nat => PyData.int (k : Nat)) (fun j => gP (G (GK.modN (cellC ns (2 + j)) 1000000000))), List.map_map]
    · rfl
    · intro j hj
      have hj := List.mem_range.mp hj
      have ck := law_cellC_run k ns hns (2 + j) (by omega)
      simp! only [2, GK.lcTurn, ck, s_pow9, GK.binI_modN (show 0 < 1000000000 by decide), hG2]
theorem seven_lc (k : Nat) (t : Str) (o : D) (a b c z d e f g : Option Sl) : GK.lcGo (GK.lcTurn (run k) [a, b, c, some ⟨.o, .list [.str t, o]⟩, z, d, e, f, g] (.nm 4) .none (.ix (.var 3) (.int 0)) [4]) ((List.range 7).map fun k => .int (k : Nat)) = .ok (List.map PyData.str (List.replicate 7 t)) := by
  rw [GK.lcGo_map (fun k : Nat => PyData.int (k : Nat)) (fun _ => PyData.str t)]
  · rfl
  · intro j hj
    simp! only [2, GK.lcTurn]
theorem seven_bad {g : Nat × Nat} (h : GOk g) : Sg (Txt.join " " (List.replicate 7 (gateT g))) ∧ rdGate (Txt.join " " (List.replicate 7 (gateT g))) = none ∧ rdSet (Txt.join " " (List.replicate 7 (gateT g))) = none := by
  have hm : ∀ w ∈ List.replicate 7 (gateT g), w = gateT g := fun w hw => (List.mem_replicate.mp hw).2
  have hf : ∀ w ∈ List.replicate 7 (gateT g), 32 ∉ cp w := fun w hw => by
    rw [hm w hw]
    exact gate_free (by have := h.1; omega) (by decide) (by decide)
  have hsp := split_join " " cp_blank kind_blank (List.replicate 7 (gateT g)) (List.cons_ne_nil _ _) hf
  have hb : 32 ∈ cp (Txt.join " " (List.replicate 7 (gateT g))) := by
    rw [join_eq, cp_join, cp_blank]
    show 32 ∈ cp (gateT g) ++ [32] ++ _
    simp
  have hl := join_len (List.replicate 7 (gateT g)) 21 fun w hw => by
    rw [hm w hw]
    exact gateT_len h
  refine ⟨⟨?_, join_plain fun w hw => ?_⟩, ?_, ?_⟩
  · have : (List.replicate 7 (gateT g)).length = 7 := List.length_replicate
    rw [this] at hl
    omega
  · rw [hm w hw]
    exact gate_plain h
  · cases e : rdGate (Txt.join " " (List.replicate 7 (gateT g))) with
    | none => rfl
    | some x => exact absurd hb (rdGate_free e)
  · unfold rdSet
    rw [if_neg, hsp, List.length_replicate, if_pos (by decide)]
    intro z
    rw [z] at hb
    have : cp (Str.ofString "") = [] := cp_empty
    rw [this] at hb
    exact List.not_mem_nil hb
theorem odd_at {g : Nat × Nat} (hg : GOk g) {i : Nat} (hi : i < 6) : ∃ d, L2.atI [PyData.none, PyData.int ((2 : Nat) : Int), PyData.bool true, PyData.list [PyData.str (gateT g)], PyData.tuple [PyData.int ((2 : Nat) : Int), PyData.int ((8 : Nat) : Int)], PyData.str (Txt.join " " (List.replicate 7 (gateT g)))] (i : Int) = some d ∧ (∀ k, run (k + 3) "read_gate" [⟨.f, d⟩] = rzO (fun g : Nat × Nat => ⟨.f, gP g⟩) none) ∧ ∀ k, run (k + 3) "read_set" [⟨.f, d⟩] = rzO (fun gs : List (Nat × Nat) => ⟨.o, .list (gs.map gP)⟩) none := by
  obtain ⟨s1, s2, s3⟩ := seven_bad hg
  rcases (show i = 0 ∨ i = 1 ∨ i = 2 ∨ i = 3 ∨ i = 4 ∨ i = 5 by omega) with rfl | rfl | rfl | rfl | rfl | rfl
  · exact ⟨_, rfl, fun k => read_gate_bad k _ rfl rfl, fun k => read_set_bad k _ rfl rfl⟩
  · exact ⟨_, rfl, fun k => read_gate_bad k _ rfl rfl, fun k => read_set_bad k _ rfl rfl⟩
  · exact ⟨_, rfl, fun k => read_gate_bad k _ rfl rfl, fun k => read_set_bad k _ rfl rfl⟩
  · exact ⟨_, rfl, fun k => read_gate_bad k _ rfl rfl, fun k => read_set_bad k _ rfl rfl⟩
  · exact ⟨_, rfl, fun k => read_gate_bad k _ rfl rfl, fun k => read_set_bad k _ rfl rfl⟩
  · exact ⟨_, rfl, fun k => by rw [read_gate_run (k + 1) s1, s2], fun k => by rw [read_set_run k s1, s3]⟩
theorem law_true : ∀ ns : List Int, ns.length ≤ 63 → GK.call (tab defs) fu 100 "law" [⟨.f, .list (ns.map .int)⟩] = .ok ⟨.f, .bool true⟩ := by
  intro ns hns
  suffices hh : GK.FE (run 100 "law" [⟨.f, .list (ns.map .int)⟩]) (fun r => r = ⟨.f, .bool true⟩) by
    obtain ⟨r, e, rfl⟩ := hh
    exact e
  rw [run_law, runB_eq]
  have c0 := law_cellC_run 98 ns hns 0 (by decide)
  have c1 := law_cellC_run 98 ns hns 1 (by decide)
  have c20 := law_cellC_run 98 ns hns 20 (by decide)
  have h7 := modN_lt (x := cellC ns 1) (show 0 < 7 by decide)
  obtain ⟨g, hg, hgr⟩ := law_gate_run 98 (GK.modN (cellC ns 0) 1000000000)
  have r1 : run 99 "_law_text" [⟨.f, gP g⟩] = .ok ⟨.f, .str (gateT g)⟩ := law_text_run 98 hg
  have r2 : run 99 "gate_text" [⟨.f, gP g⟩] = .ok ⟨.f, .str (gateT g)⟩ := gate_text_run 97 hg
  have r3 := read_gate_run 97 (gate_Sg hg)
  rw [rdGate_gate hg.1 hg.2] at r3
  have r3 : run 99 "read_gate" [⟨.f, .str (gateT g)⟩] = .ok ⟨.f, gP g⟩ := r3
  have r4 : run 99 "_law_is" [⟨.f, gP g⟩] = .ok (fB true) := law_is_run 97 hg
  have dg : GK.deq (gP g) (gP g) = .ok true := (lay_gP g).deq (by decide)
  obtain ⟨gs, hgl, hgs, hlc⟩ := gates_lc2 98 ns hns (GK.modN (cellC ns 1) 7) (by omega) (some ⟨.f, gP g⟩) none none none none none none
  have tl : ∀ a b c d e f g h, GK.lcGo (GK.lcTurn (run 99) [a, b, c, d, e, f, g, h, none] (.nm 8) .none (.call "_law_text" (.cons (.var 8) .nil)) [8]) (gs.map gP) = .ok (List.map PyData.str (gs.map gateT)) := fun a b c d e f g h => by
    rw [GK.lcGo_map gP (fun g => PyData.str (gateT g)), List.map_map]
    · rfl
    · intro g hg
      simp! only [2, GK.lcTurn, law_text_run 98 (hgs g hg)]
  have q2 : run 99 "set_text" [⟨.f, .list (gs.map gP)⟩] = .ok ⟨.f, .str (setT gs)⟩ := set_text_run 96 .f hgs (by omega) (.inl rfl)
  have q3 := read_set_run 96 (set_Sg gs hgs (by omega))
  rw [rdSet_set hgs (by omega)] at q3
  have q3 : run 99 "read_set" [⟨.f, .str (setT gs)⟩] = .ok ⟨.o, .list (gs.map gP)⟩ := q3
  have dgs : GK.deq (.list (gs.map gP)) (.list (gs.map gP)) = .ok true := (lay_gs gs).deq (by decide)
  have sj := set_joi hgs (show gs.length ≤ 100 by omega)
  have t1 := deq_txt (gate_Sg hg).sg
  have t2 := deq_txt (set_Sg gs hgs (show gs.length ≤ 100 by omega)).sg
  simp! only [3, b_law, c0, s_pow9, GK.binI_modN (show 0 < 1000000000 by decide), hgr, c1, GK.binI_modN (show 0 < 7 by decide), GK.rngD_nat (show GK.modN (cellC ns 1) 7 < 2 ^ 62 by omega), hlc, List.length_map, List.length_range, GK.lenOk_of (show GK.modN (cellC ns 1) 7 ≤ 16777216 by omega), r1, tl, hgl, sj, r2, t1, q2, t2, r3, dg, q3, dgs, r4, Bool.not_true, GK.rngD_nat (show 6 < 2 ^ 62 by decide)]
  refine GK.for_fe (fun q ρ => ∃ o4 o7, ρ = [some ⟨.f, .list (ns.map .int)⟩, some ⟨.f, gP g⟩, some ⟨.f, .list (gs.map gP)⟩, some ⟨.o, .list [.str (gateT g), .str (setT gs)]⟩, o4, none, none, o7, none]) ⟨none, none, rfl⟩ (fun q x ρ hx hp => ?_) (fun ρ' hp => ?_)
  · obtain ⟨o4, o7, rfl⟩ := hp
    obtain ⟨hq, rfl⟩ := rng_at hx
    have ck := law_cellC_run 98 ns hns (10 + q) (by omega)
    obtain ⟨x, ex⟩ : ∃ x, GK.modN (cellC ns (10 + q)) 1000000000 = x := ⟨_, rfl⟩
    have p8 : GK.binI .Pow ((10 : Nat) : Int) ((8 : Nat) : Int) = .ok (fI ((100000000 : Nat) : Int)) := GK.binI_pow_nat (a := 10) (b := 8) (show 10 < 2 ^ 64 by decide) (show 8 ≤ 1000000 by decide)
    rcases (show q % 2 = 0 ∨ q % 2 = 1 by omega) with z | z
    · obtain ⟨s, hs, fs⟩ := law_spoilt_run 98 (gate_Sg hg) (show (gateT g).length ≤ 1000 by have := gateT_len hg; omega) x
      have hs : run 99 "_law_spoilt" [⟨.f, .str (gateT g)⟩, fI (x : Nat)] = .ok ⟨.f, .str s⟩ := hs
      have lg : run 99 "_law_good" [⟨.f, .str s⟩, fB false, fB (x / 100000000 % 2 == 0)] = .ok (fB true) := law_good_gate 93 fs _
      have ez : L2.atI [PyData.str (gateT g), PyData.str (setT gs)] ((0 : Nat) : Int) = some (.str (gateT g)) := rfl
      have e01 : (0 == 1) = false := rfl
      simp! only [3, ck, s_pow9, p8, GK.binI_modN (show 0 < 1000000000 by decide), ex, GK.binI_mod_nat (show 0 < 2 by decide), z, ez, GK.optS, e01, hs, GK.binI_div_nat (show 0 < 100000000 by decide) (show 100000000 < 1073741824 by decide), lg, Bool.not_true]
      exact nx_ok ⟨_, _, rfl⟩
    · obtain ⟨s, hs, fs⟩ := law_spoilt_run 98 (set_Sg gs hgs (show gs.length ≤ 100 by omega)) (show (setT gs).length ≤ 1000 by have := set_len gs hgs; have : gs.length * 22 ≤ 6 * 22 := Nat.mul_le_mul_right _ (by omega); omega) x
      have hs : run 99 "_law_spoilt" [⟨.f, .str (setT gs)⟩, fI (x : Nat)] = .ok ⟨.f, .str s⟩ := hs
      have lg : run 99 "_law_good" [⟨.f, .str s⟩, fB true, fB (x / 100000000 % 2 == 0)] = .ok (fB true) := law_good_set 93 fs _
      have ez : L2.atI [PyData.str (gateT g), PyData.str (setT gs)] ((1 : Nat) : Int) = some (.str (setT gs)) := rfl
      have e01 : (1 == 1) = true := rfl
      simp! only [3, ck, s_pow9, p8, GK.binI_modN (show 0 < 1000000000 by decide), ex, GK.binI_mod_nat (show 0 < 2 by decide), z, ez, GK.optS, e01, hs, GK.binI_div_nat (show 0 < 100000000 by decide) (show 100000000 < 1073741824 by decide), lg, Bool.not_true]
      exact nx_ok ⟨_, _, rfl⟩
  · obtain ⟨o4, o7, rfl⟩ := hp
    have h6 := modN_lt (x := cellC ns 20) (show 0 < 6 by decide)
    obtain ⟨d, hd, hr1, hr2⟩ := odd_at hg h6
    have l1 : run 99 "_law_read" [⟨.f, d⟩, fB false, fB true] = .ok ⟨.f, dG none⟩ := law_read_gate 95 d true none (hr1 95)
    have l2 : run 99 "_law_read" [⟨.f, d⟩, fB true, fB false] = .ok ⟨.f, dG none⟩ := law_read_set 95 d false none (hr2 95)
    have j7 := joi_blank (List.replicate 7 (gateT g)) (fun w hw => by
      rw [(List.mem_replicate.mp hw).2]
      have := gateT_len hg
      omega) (by rw [List.length_replicate]; decide)
    obtain ⟨T, hT⟩ : ∃ T, T = Txt.join " " (List.replicate 7 (gateT g)) := ⟨_, rfl⟩
    rw [← hT] at hd j7
    have j7 : GK.u1D (.joi (Str.ofString " ")) (.list [.str (gateT g), .str (gateT g), .str (gateT g), .str (gateT g), .str (gateT g), .str (gateT g), .str (gateT g)]) = .ok ⟨.f, .str T⟩ := j7
    have s7 := fun a b c z d e f g' => seven_lc 99 (gateT g) (.str (setT gs)) a b c z d e f g'
    simp! only [3, GK.rngD_nat (show 7 < 2 ^ 62 by decide), s7, List.length_map, List.length_range, GK.lenOk_of (show 7 ≤ 16777216 by decide), j7, c20, GK.binI_modN (show 0 < 6 by decide), hd, GK.optS, l1, l2, deq_none, Option.isNone_none]
    exact GK.fe_ok rfl

end K81
namespace K81
open PySem PySem.Spec PyProof.Rows L2 GK
theorem ok_bits_text : PD.Ok fs d_bits_text := ⟨⟨rfl, rfl, rfl, by decide +kernel, rfl, by decide +kernel, by decide +kernel⟩, by kernel_rfl, fun _ _ _ _ _ _ us hl => match us, hl with | [_, _], _ => rfl⟩
theorem ok_read_bits : PD.Ok fs d_read_bits := ⟨⟨rfl, rfl, rfl, by decide +kernel, rfl, by decide +kernel, by decide +kernel⟩, by kernel_rfl, fun _ _ _ _ _ _ us hl => match us, hl with | [_, _], _ => rfl⟩
theorem ok_read_number : PD.Ok fs d_read_number := ⟨⟨rfl, rfl, rfl, by decide +kernel, rfl, by decide +kernel, by decide +kernel⟩, by kernel_rfl, fun _ _ _ _ _ _ us hl => match us, hl with | [_], _ => rfl⟩
theorem ok_parted : PD.Ok fs d_parted := ⟨⟨rfl, rfl, rfl, by decide +kernel, rfl, by decide +kernel, by decide +kernel⟩, by kernel_rfl, fun _ _ _ _ _ _ us hl => match us, hl with | [_, _], _ => rfl⟩
theorem ok_gate_text : PD.Ok fs d_gate_text := ⟨⟨rfl, rfl, rfl, by decide +kernel, rfl, by decide +kernel, by decide +kernel⟩, by kernel_rfl, fun _ _ _ _ _ _ us hl => match us, hl with | [_], _ => rfl⟩
theorem ok_read_gate : PD.Ok fs d_read_gate := ⟨⟨rfl, rfl, rfl, by decide +kernel, rfl, by decide +kernel, by decide +kernel⟩, by kernel_rfl, fun _ _ _ _ _ _ us hl => match us, hl with | [_], _ => rfl⟩
theorem ok_set_text : PD.Ok fs d_set_text := ⟨⟨rfl, rfl, rfl, by decide +kernel, rfl, by decide +kernel, by decide +kernel⟩, by kernel_rfl, fun _ _ _ _ _ _ us hl => match us, hl with | [_], _ => rfl⟩
theorem ok_read_set : PD.Ok fs d_read_set := ⟨⟨rfl, rfl, rfl, by decide +kernel, rfl, by decide +kernel, by decide +kernel⟩, by kernel_rfl, fun _ _ _ _ _ _ us hl => match us, hl with | [_], _ => rfl⟩
theorem ok_law_cell : PD.Ok fs d_law_cell := ⟨⟨rfl, rfl, rfl, by decide +kernel, rfl, by decide +kernel, by decide +kernel⟩, by kernel_rfl, fun _ _ _ _ _ _ us hl => match us, hl with | [_, _], _ => rfl⟩
theorem ok_law_gate : PD.Ok fs d_law_gate := ⟨⟨rfl, rfl, rfl, by decide +kernel, rfl, by decide +kernel, by decide +kernel⟩, by kernel_rfl, fun _ _ _ _ _ _ us hl => match us, hl with | [_], _ => rfl⟩
theorem ok_law_text : PD.Ok fs d_law_text := ⟨⟨rfl, rfl, rfl, by decide +kernel, rfl, by decide +kernel, by decide +kernel⟩, by kernel_rfl, fun _ _ _ _ _ _ us hl => match us, hl with | [_], _ => rfl⟩
theorem ok_law_whole : PD.Ok fs d_law_whole := ⟨⟨rfl, rfl, rfl, by decide +kernel, rfl, by decide +kernel, by decide +kernel⟩, by kernel_rfl, fun _ _ _ _ _ _ us hl => match us, hl with | [_], _ => rfl⟩
theorem ok_law_is : PD.Ok fs d_law_is := ⟨⟨rfl, rfl, rfl, by decide +kernel, rfl, by decide +kernel, by decide +kernel⟩, by kernel_rfl, fun _ _ _ _ _ _ us hl => match us, hl with | [_], _ => rfl⟩
theorem ok_law_spoilt : PD.Ok fs d_law_spoilt := ⟨⟨rfl, rfl, rfl, by decide +kernel, rfl, by decide +kernel, by decide +kernel⟩, by kernel_rfl, fun _ _ _ _ _ _ us hl => match us, hl with | [_, _], _ => rfl⟩
theorem ok_law_read : PD.Ok fs d_law_read := ⟨⟨rfl, rfl, rfl, by decide +kernel, rfl, by decide +kernel, by decide +kernel⟩, by kernel_rfl, fun _ _ _ _ _ _ us hl => match us, hl with | [_, _, _], _ => rfl⟩
theorem ok_law_due : PD.Ok fs d_law_due := ⟨⟨rfl, rfl, rfl, by decide +kernel, rfl, by decide +kernel, by decide +kernel⟩, by kernel_rfl, fun _ _ _ _ _ _ us hl => match us, hl with | [_], _ => rfl⟩
theorem ok_law_good : PD.Ok fs d_law_good := ⟨⟨rfl, rfl, rfl, by decide +kernel, rfl, by decide +kernel, by decide +kernel⟩, by kernel_rfl, fun _ _ _ _ _ _ us hl => match us, hl with | [_, _, _], _ => rfl⟩
theorem ok_law : PD.Ok fs d_law := ⟨⟨rfl, rfl, rfl, by decide +kernel, rfl, by decide +kernel, by decide +kernel⟩, by kernel_rfl, fun _ _ _ _ _ _ us hl => match us, hl with | [_], _ => rfl⟩
theorem ok_all : ∀ d ∈ defs, PD.Ok fs d := by
  intro d hd
  simp only [defs, List.mem_cons, List.not_mem_nil, or_false] at hd
  rcases hd with rfl | rfl | rfl | rfl | rfl | rfl | rfl | rfl | rfl | rfl | rfl | rfl | rfl | rfl | rfl | rfl | rfl | rfl
  · exact ok_bits_text
  · exact ok_read_bits
  · exact ok_read_number
  · exact ok_parted
  · exact ok_gate_text
  · exact ok_read_gate
  · exact ok_set_text
  · exact ok_read_set
  · exact ok_law_cell
  · exact ok_law_gate
  · exact ok_law_text
  · exact ok_law_whole
  · exact ok_law_is
  · exact ok_law_spoilt
  · exact ok_law_read
  · exact ok_law_due
  · exact ok_law_good
  · exact ok_law
def fa : List He.Fa := facts defs cst
def fn : List He.DefD := defs.map PD.dd
abbrev R : PySem.W.OpenRow := PySem.W.OpenLaw.row PySem.Challenge.rw_gatekin_k81_gates_and_sets_written
abbrev hk : PySem.W.Hook := He.hookX 4 fa fn (GK.tabsOf cd) [] (GK.exOf ck cd xr xd)
def ob (s : PySem.W.SharedT) : He.AlX := He.obsX 4 fa fn (GK.tabsOf cd) [] (GK.exOf ck cd xr xd) (HandSHeadRun.getT s)
theorem ob_eq (s : PySem.W.SharedT) : ob s = hk.obs s.abs := He.obsX_eq (HandSHeadRun.getT_eq s)
def loose : List Str := [("bits_text" : Str), ("read_bits" : Str), ("read_number" : Str), ("parted" : Str), ("gate_text" : Str), ("read_gate" : Str), ("set_text" : Str), ("read_set" : Str), ("_law_cell" : Str), ("_law_gate" : Str), ("_law_text" : Str), ("_law_whole" : Str), ("_law_is" : Str), ("_law_spoilt" : Str), ("_law_read" : Str), ("_law_due" : Str), ("_law_good" : Str), ("GateError" : Str), ("NoRelation" : Str), ("NoText" : Str), ("NoName" : Str), ("NoRow" : Str), ("FIGURES" : Str), ("MOST_INPUTS" : Str), ("MOST_GATES" : Str)]
theorem run_top (w : World) : HandSHeadRun.RunEq R (PySem.W.view R.prog [28]) hk ob 6000 loose w := by
  intro os
  kernel_rfl
end K81
open PySem PySem.W PySem.Calls PyProof.Rows
theorem PySem.Challenge.cw_gatekin_k81_gates_and_sets_written_holds : PySem.Challenge.rw_gatekin_k81_gates_and_sets_written.Holds := by
  w_on; o_law
  refine HandSHeadRun.head_any (r := OpenLaw.row PySem.Challenge.rw_gatekin_k81_gates_and_sets_written) (q := view (OpenLaw.row PySem.Challenge.rw_gatekin_k81_gates_and_sets_written).prog [28]) (H := K81.hk) (ob := K81.ob) (M := 6000) (loose := K81.loose) (d := HandSHeadRun.topDef (OpenLaw.row PySem.Challenge.rw_gatekin_k81_gates_and_sets_written).prog 28) (kwd := []) K81.ob_eq
    (by kernel_rfl) (fun s => by kernel_rfl) K81.run_top (by kernel_rfl) (by kernel_rfl) (by kernel_rfl) (by rfl) (by first | assumption | decide +kernel) (by decide +kernel) ⟨rfl, rfl, rfl, rfl, rfl, by decide +kernel⟩ ?hw ?hc
  case hw => w_witness2
  case hc =>
    refine L2.walk_ofE (l := PySem.Challenge.rw_gatekin_k81_gates_and_sets_written) (n := 63) (k := 120) (x := "_law_script") (CX := L2.CX0) rfl (by decide) (by kernel_rfl) ⟨rfl, by decide, by decide⟩ ?F (fun _ _ _ _ z => z)
    intro w mg fa h Y G hmg0
    obtain ⟨K, KX, c⟩ := Y
    have hmg : mg ("law" : PySem.Str) = some (.ref fa) := by
      have e : (HandSHeadRun.topDef (OpenLaw.row PySem.Challenge.rw_gatekin_k81_gates_and_sets_written).prog 28).name = ("law" : PySem.Str) := by kernel_rfl
      rw [← e]
      exact hmg0
    exact GK.law_end KX G c.t.d (GK.ck_of KX G c) K81.ok_all (d := K81.d_law) (k := 99) (by simp [K81.defs]) (by kernel_rfl) rfl hmg K81.law_true
