import PyProof.Rows.All
import Wide.All
import OpenK.AllK
import Wide.FinOn
import PyProof.MinMaxWalk
import KE.KDictWalk
import HandS.ForMost
import HandS.DictTup
import HandS.TupLen
import HandS.Zip
import HandS.TupSets
import HandS.Defaults
import HandS.SortRule
import HandS.SortInts
import HandS.TupLe
import HandS.TupAny
import HandS.IsInst
import HandS.Conv
import HandS.Style
import PySem.Challenge.RW_cherrystone_k53_whole_paths_or_papers
import HandS.Walk
import KE.KStateDown
import Lean
import HandS.Head0
import HandS.Head1
import HandS.Head2
import HandS.HeadEnd
import HandS.HeadHook1
import HandS.HeadHook2
set_option Elab.async false
set_option linter.all false
set_option maxRecDepth 100000
set_option maxHeartbeats 0
namespace K53
open PySem PySem.Spec PyProof.Rows L2
/-! ### min of a walk whose items the heap compares: some item of the walk -/
section
variable {prog : Program} {w : World} {A : Around} {R : Result → Shared → Prop} {I : Addr} {fp wr : List Addr} {n : Nat} {P : Nat → Value → Prop} {St : Nat → Heap → Prop}
def Okc (prog : Program) (w : World) (A : Around) (G : Heap → Prop) (P : Nat → Value → Prop) : Prop :=
  ∀ i j v u (s : Shared) (Q : Value → Shared → Prop) (E : Value → Shared → Prop), G s.heap → P i v → P j u → (∀ b, Q (.bool b) s) → wpAny (model prog w) A (richCompare .Lt v u) Q E s
theorem minTurns (W : Walks prog w A.in1 I fp wr n P St) (G : Heap → Prop) (hc : Okc prog w A.in1 G P) (S : Addr) (hS : S ∉ fp)
    (hG : ∀ h h' : Heap, G h → (∀ b o, b ∉ wr → b ≠ S → h.get? b = some o → h'.get? b = some o) → G h') :
    ∀ (k i : Nat) (s : Shared) (vb : Value) (c : Nat), n - i = k → i ≤ n → St i s.heap → G s.heap → (∃ j, P j vb) →
      s.heap.get? S = some { cls := .type "list", dict := none, data := .seq #[vb, vb] c, slots := #[] } →
      (∀ v h' tk, (∃ j, P j v) → (∀ b o, b ∉ wr → b ≠ S → s.heap.get? b = some o → h'.get? b = some o) → R (.ok (.ret v)) { s with heap := h', toks := tk }) →
      codeAny (model prog w) A (.builtin "min.loop" ⟨[.ref I, .none, .ref S], []⟩) R s := by
  have hw : S ∉ wr := fun z => hS (W.sub _ z)
  have nm : (toString "min" ++ toString ".loop" : String) = "min.loop" := by decide
  intro k; induction k with
  | zero =>
    intro i s vb c hk hin st g pb eS fin
    obtain rfl : i = n := by omega
    refine codeAny_builtin F.entry_min_loop ?_; rw [Around.under_plainId F.plain_min_loop _]
    show wpAny _ A.in1 (seqItems? (.ref S) >>= _) _ _ s; refine wpAny_bind (wpAny_seqItems eS rfl ?_)
    show wpAny _ A.in1 (tryCatch (pyNext (.ref I)) _ >>= _) _ _ s; refine wpAny_bind (wpAny_tryCatch (W.done s _ _ st fun h' tk kept => ?_))
    show wpAny _ A.in1 (updateSeq S (fun _ => #[]) >>= _) _ _ _; refine wpAny_bind (wpAny_updateSeq (kept S _ hw eS) rfl (wpAny_bind (wpAny_letGo (wpAny_pure ?_))))
    exact fin vb _ tk pb fun b o h1 h2 e => (Heap.get?_update_other _ _ (Ne.symm h2)).trans (kept b o h1 e)
  | succ k ih =>
    intro i s vb c hk hin st g pb eS fin
    have lt : i < n := by omega
    refine codeAny_builtin F.entry_min_loop ?_; rw [Around.under_plainId F.plain_min_loop _]
    show wpAny _ A.in1 (seqItems? (.ref S) >>= _) _ _ s; refine wpAny_bind (wpAny_seqItems eS rfl ?_)
    show wpAny _ A.in1 (tryCatch (pyNext (.ref I)) _ >>= _) _ _ s; refine wpAny_bind (wpAny_tryCatch (W.item i s _ _ lt st fun v h' tk pv st' kept => ?_))
    have eS' := kept S _ hw eS
    have g' : G h' := hG _ _ g fun b o h1 _ e => kept b o h1 e
    obtain ⟨j, pj⟩ := pb
    show wpAny _ A.in1 (tryCatch (holding [v, v] (richCompare .Lt v vb >>= _)) _ >>= _) _ _ _
    refine wpAny_bind (wpAny_tryCatch (wpAny_holding (wpAny_bind (hc i j v vb _ _ _ g' pv pj fun b => ?_))))
    refine wpAny_bind (wpAny_holding (wpAny_truthy_bool ?_)); refine wpAny_bind (wpAny_letGo (wpAny_pure ?_))
    cases b with
    | true =>
      simp only [if_true]
      refine wpAny_bind (wpAny_updateSeq eS' rfl (wpAny_bind (wpAny_letGo ?_))); rw [nm]
      have kp : ∀ b o, b ≠ S → h'.get? b = some o → (h'.update S _).get? b = some o := fun b o h2 e => (Heap.get?_update_other _ (Obj.mapSeq fun _ => #[v, v]) (Ne.symm h2)).trans e
      refine wpAny_pure ⟨plainId_quiet F.plain_min_loop _, ih (i + 1) _ v _ (by omega) lt (W.frame _ _ _ st' fun b hb o e => ?_) (hG _ _ g' fun b o _ => kp b o) ⟨i, pv⟩ (Heap.get?_update_self _ eS' rfl) fun v' h'' tk'' pv' kept' => ?_⟩
      · exact kp b o (fun z => hS (by rw [← z]; exact hb)) e
      · exact fin v' h'' tk'' pv' fun b o h1 h2 e => kept' b o h1 h2 (kp b o h2 (kept b o h1 e))
    | false =>
      simp only [Bool.false_eq_true, if_false]
      refine wpAny_bind (wpAny_letGo ?_); rw [nm]
      refine wpAny_pure ⟨plainId_quiet F.plain_min_loop _, ih (i + 1) _ vb c (by omega) lt st' g' ⟨j, pj⟩ eS' fun v' h'' tk'' pv' kept' => ?_⟩
      exact fin v' h'' tk'' pv' fun b o h1 h2 e => kept' b o h1 h2 (kept b o h1 e)
theorem minFirst (W : Walks prog w A.in1 I fp wr n P St) (G : Heap → Prop) (hc : Okc prog w A.in1 G P) (S : Addr) (hS : S ∉ fp) (hn : 0 < n)
    (hG : ∀ h h' : Heap, G h → (∀ b o, b ∉ wr → b ≠ S → h.get? b = some o → h'.get? b = some o) → G h') {s : Shared} {c : Nat} (st : St 0 s.heap) (g : G s.heap)
    (eS : s.heap.get? S = some { cls := .type "list", dict := none, data := .seq #[] c, slots := #[] })
    (fin : ∀ v h' tk, (∃ j, P j v) → (∀ b o, b ∉ wr → b ≠ S → s.heap.get? b = some o → h'.get? b = some o) → R (.ok (.ret v)) { s with heap := h', toks := tk }) :
    codeAny (model prog w) A (.builtin "min.loop" ⟨[.ref I, .none, .ref S], []⟩) R s := by
  have hw : S ∉ wr := fun z => hS (W.sub _ z)
  have nm : (toString "min" ++ toString ".loop" : String) = "min.loop" := by decide
  refine codeAny_builtin F.entry_min_loop ?_; rw [Around.under_plainId F.plain_min_loop _]
  show wpAny _ A.in1 (seqItems? (.ref S) >>= _) _ _ s; refine wpAny_bind (wpAny_seqItems eS rfl ?_)
  show wpAny _ A.in1 (tryCatch (pyNext (.ref I)) _ >>= _) _ _ s; refine wpAny_bind (wpAny_tryCatch (W.item 0 s _ _ hn st fun v h' tk pv st' kept => ?_))
  have eS' := kept S _ hw eS
  have g' : G h' := hG _ _ g fun b o h1 _ e => kept b o h1 e
  show wpAny _ A.in1 (updateSeq S (fun _ => #[v, v]) >>= _) _ _ _; refine wpAny_bind (wpAny_updateSeq eS' rfl ?_); rw [nm]
  have kp : ∀ b o, b ≠ S → h'.get? b = some o → (h'.update S _).get? b = some o := fun b o h2 e => (Heap.get?_update_other _ (Obj.mapSeq fun _ => #[v, v]) (Ne.symm h2)).trans e
  refine wpAny_pure ⟨plainId_quiet F.plain_min_loop _, minTurns W G hc S hS hG _ 1 _ v _ rfl hn (W.frame _ _ _ st' fun b hb o e => ?_) (hG _ _ g' fun b o _ => kp b o) ⟨0, pv⟩ (Heap.get?_update_self _ eS' rfl) fun v' h'' tk'' pv' kept' => ?_⟩
  · exact kp b o (fun z => hS (by rw [← z]; exact hb)) e
  · exact fin v' h'' tk'' pv' fun b o h1 h2 e => kept' b o h1 h2 (kp b o h2 (kept b o h1 e))
end
theorem callMin {prog : Program} {w : World} {A : Around} {E : Value → Shared → Prop} {s : Shared} {x : Value} {Q : Value → Shared → Prop}
    (h : wpAny (model prog w) A.in1 (pyIter x) (fun it s₂ => ∃ I fp wr n P St G, it = .ref I ∧ Walks prog w A.in1 I fp wr n P St ∧ St 0 s₂.heap ∧ (∀ b ∈ fp, b < s₂.heap.objs.size) ∧ 0 < n ∧ Okc prog w A.in1 G P ∧ G s₂.heap ∧
      (∀ h h' : Heap, G h → (∀ b o, b ∉ wr → b < s₂.heap.objs.size → h.get? b = some o → h'.get? b = some o) → G h') ∧
      ∀ v h' tk, (∃ j, P j v) → (∀ b o, b ∉ wr → s₂.heap.get? b = some o → h'.get? b = some o) → Q v { s₂ with heap := h', toks := tk }) E s) :
    wpAny (model prog w) A (call (.builtin "min") [x]) Q E s := by
  have nm : (toString "min" ++ toString ".loop" : String) = "min.loop" := by decide
  refine call_function_tree F.kind_min F.plain_min F.entry_min (F.args_min1 _) ?_
  show wpAny _ A.in1 (Builtin.Builtins.bindParams "min" ["key", "default"] 0 ⟨[], []⟩ >>= _) _ _ s; refine wpAny_bind (wpAny_of_eq (show Builtin.Builtins.bindParams "min" ["key", "default"] 0 ⟨[], []⟩ = pure [none, none] from rfl) ?_)
  refine wpAny_bind (wpAny_pure ?_); refine wpAny_bind (wpAny_mono h (fun it s₂ h₂ => ?_) fun _ _ e => e)
  obtain ⟨I, fp, wr, n, P, St, G, rfl, W, st, hfp, hn, hc, g, hG, q⟩ := h₂
  refine wpAny_bind (wpAny_newObj_type ?_)
  have hS : s₂.heap.objs.size ∉ fp := fun z => Nat.lt_irrefl _ (hfp _ z)
  rw [nm]
  refine wpAny_pure ⟨plainId_quiet F.plain_min_loop _, minFirst W G hc s₂.heap.objs.size hS hn (fun h h' g k => hG h h' g fun b o h1 h2 e => k b o h1 (Nat.ne_of_lt h2) e) (W.frame _ _ _ st fun b _ o e => Heap.get?_push_of_some _ e)
    (hG _ _ g fun b o _ _ e => Heap.get?_push_of_some _ e) (Heap.get?_push_size _ rfl) fun v h' tk pv kept => ?_⟩
  exact q v h' tk pv fun b o h1 e => kept b o h1 (Nat.ne_of_lt (Heap.lt_size e)) (Heap.get?_push_of_some _ e)
end K53
namespace K53
open PySem PySem.Spec PyProof.Rows L2
section
variable {X : Cx}
/-! ### xs[j], by values, ahead of xs[j] op= e -/
def rGetL (K : PySem.W.Frag) : V → V → Hp → VK → Prop := fun x y H Q => ∃ (p : Addr) (xs : List V) (j : Nat) (v : V), x = .ref p ∧ y = .int (j : Int) ∧ SqL K H p xs ∧ xs[j]? = some v ∧ Q v H
theorem get_list : PGet X (rGetL X.K) := by
  intro pins s σ H o i ov iv Q I ro ri h
  obtain ⟨p, xs, j, v, rfl, rfl, hx, hv, q⟩ := h
  obtain rfl : ov = .ref p := ro
  obtain ⟨t, rfl⟩ := ri
  obtain ⟨its, rel, pl, hz⟩ := I.list hx
  obtain ⟨u, hu, ru⟩ := rel.get hv
  have hj := (List.getElem?_eq_some_iff.mp hv).1
  have hl := line63
  refine wpAny_getItem_list pl.isList (Int.natCast_nonneg _) (by omega) (x := u) (by simpa using hu) ?_
  exact ⟨v, H, I, ru, q⟩
/-! ### the truth of a dict with tuple keys -/
theorem truthDT {pins : List (Addr × Obj)} {s : Shared} {σ : L2.St} {H : Hp} {d : Addr} {kvs : List (List Key × V)} {Q : Bool → Hp → Prop} (I : Inv X pins σ H s) (h : H d = some (.dT kvs)) (q : Q (!kvs.isEmpty) H) :
    wpAny (model X.prog X.w) X.A (truthy (.ref d)) (TP X pins σ Q) X.xe s := by
  obtain ⟨z, hd, ys, rel, dd⟩ := dt_of I.hok h
  have el : kvs.length = ys.length := Paired.length rel
  have hz : ys.length ≤ 16777216 := by rw [← el, ← sizeLine_eq]; exact z
  have ne : ((ys.length : Int) != 0) = !kvs.isEmpty := by
    rw [← el]; cases kvs <;> simp <;> omega
  have key : wpAny (model X.prog X.w) X.A (runValue (.builtin "len" ⟨[.ref d], []⟩)) (fun r s' => r = Value.int (ys.length : Int) (s.toks + 1) ∧ TP X pins σ Q (!kvs.isEmpty) s') X.xe s := by
    refine wpAny_runValue (codeAny_builtin entry_len ?_)
    rw [Around.under_plainId plain_len _]
    refine wpAny_mono (wpAny_len_body_dictH (Q := fun r s' => r = .int ys.length (s.toks + 1) ∧ TP X pins σ Q (!kvs.isEmpty) s') hd dd (by omega) ⟨rfl, H, I.tok _, q⟩) (fun fin s' h' => ?_) fun _ _ e => e
    obtain ⟨r, rfl, hq⟩ := h'
    exact hq
  unfold truthy
  refine wpAny_bind ?_
  first
    | (refine wpAny_callSpecial?_none (name := Str.ofString "__bool__") dd.typeIs noBool_dict ?_; refine wpAny_bind ?_)
    | (refine wpAny_pure (wpAny_bind (wpAny_callSpecial?_none (name := Str.ofString "__bool__") dd.typeIs noBool_dict ?_)); refine wpAny_bind ?_)
  first
    | (refine wpAny_specialOf (name := Str.ofString "__len__") dd.typeIs PySem.F.slot_dict_len.lookup ?_; refine wpAny_bind (wpAny_mono key (fun r s' h' => ?_) fun _ _ e => e))
    | (refine wpAny_pure (wpAny_bind (wpAny_specialOf (name := Str.ofString "__len__") dd.typeIs PySem.F.slot_dict_len.lookup ?_)); refine wpAny_bind (wpAny_mono key (fun r s' h' => ?_) fun _ _ e => e))
    | (refine wpAny_specialOf (name := Str.ofString "__len__") dd.typeIs PySem.F.slot_dict_len.lookup ?_; refine wpAny_bind (wpAny_pure (wpAny_bind (wpAny_mono key (fun r s' h' => ?_) fun _ _ e => e))))
    | (refine wpAny_pure (wpAny_bind (wpAny_specialOf (name := Str.ofString "__len__") dd.typeIs PySem.F.slot_dict_len.lookup ?_)); refine wpAny_bind (wpAny_pure (wpAny_bind (wpAny_mono key (fun r s' h' => ?_) fun _ _ e => e))))
  obtain ⟨rfl, hq⟩ := h'
  exact wpAny_pure (ne ▸ hq)
def tTruT (ta : TE) : TT := fun σ H Q => ta σ H fun x H' => ∃ (d : Addr) (kvs : List (List Key × V)), x = .ref d ∧ H' d = some (.dT kvs) ∧ Q (!kvs.isEmpty) H'
theorem pt_truT {a : Expr} {ta : TE} (ha : PE X a ta) (he : ∀ whole, isTrue a X.env whole = (do let v ← whole; standAt a.pos; holding [v] (truthy v)) := by intro _; rfl) : PT X a (tTruT ta) := by
  refine ⟨fun pins s σ H Q I h => isTrue_plain (thn (ha.run pins s σ H _ I h) fun v s1 ⟨x, H1, I1, r1, d, kvs, e, hd, q1⟩ => ?_) (he _)⟩
  subst e
  obtain rfl : v = .ref d := r1
  exact truthDT I1 hd q1
/-! ### min of a dict whose keys are tuples of ints: one of its keys -/
def rMinT : List V → Hp → VK → Prop := fun vs H Q => ∃ (a : Addr) (kvs : List (List Key × V)), vs = [V.ref a] ∧ H a = some (.dT kvs) ∧ kvs ≠ [] ∧ (∀ p ∈ kvs, ∃ ns : List Int, p.1 = ns.map Sum.inl) ∧
  ∀ (k : List Key) (v : V) (q : Addr), (k, v) ∈ kvs → H q = some (.tup (k.map kV)) → Q (.ref q) H
theorem cr_minT (hc : X.calm = true) (hu : X.A.units + 1 < cLine) : CallR X (.builtin "min") rMinT := by
  intro pins s σ H vs us Q I r h
  obtain ⟨a, kvs, rfl, ha, hne, hint, q⟩ := h
  obtain ⟨u, rfl, ru⟩ := vals1 r
  obtain rfl : u = .ref a := ru
  obtain ⟨_, hsys, xs, rel, o, es, ep, ho, hex, hdat, hes, hnd⟩ := I.hok a _ ha
  have raw : s.heap.DictRaw a es ep := ⟨o, ho, hex, hdat⟩
  have hlt : a < s.heap.objs.size := Heap.lt_size ho
  have hsz : es.size = kvs.length := (size_of_entries hes).trans (Paired.length rel).symm
  have ent : ∀ (i : Nat) (hi : i < es.size), ∃ k v qd, kvs[i]? = some (k, v) ∧ es[i].key = .ref qd ∧ H qd = some (.tup (k.map kV)) := fun i hi => by
    have hi' : i < kvs.length := by omega
    obtain ⟨b, hb, e1, e2, _⟩ := paired_get rel (List.getElem?_eq_getElem hi')
    have z := entry_at hes i
    rw [hb, Array.getElem?_eq_getElem hi] at z
    refine ⟨kvs[i].1, kvs[i].2, b.2.1, List.getElem?_eq_getElem hi', ?_, e2⟩
    rw [Option.some.inj z] <;> rfl
  let G : Heap → Prop := fun g => ∀ (i : Nat) (hi : i < es.size), ∃ (qd : Addr) (its : Array Value) (ns : List Int), es[i].key = .ref qd ∧ qd < s.heap.objs.size ∧ IsTup g qd its ∧ IntsAre its.toList ns
  have g0 : G s.heap := fun i hi => by
    obtain ⟨k, v, qd, hk, ek, hq⟩ := ent i hi
    obtain ⟨ns, en⟩ := hint _ (List.mem_of_getElem? hk)
    have en' : k = ns.map Sum.inl := en
    obtain ⟨_, its, rv, it⟩ := I.hok qd _ hq
    have e3 : (k.map kV) = ns.map V.int := by rw [en', List.map_map]; rfl
    rw [e3] at rv
    exact ⟨qd, its.toArray, ns, ek, it.lt, it, intsAre_of rv⟩
  refine callMin (wpAny_pyIter_dict_raw hsys raw ?_)
  refine ⟨_, _, _, _, _, _, G, rfl, Walks.rawKeys (A := X.A.in1) (I.ok.hd hc) s.heap.objs.size a (Nat.ne_of_lt hlt) es ep,
    ⟨⟨_, Heap.get?_push_size _ rfl, rfl, rfl⟩, raw.at fun b e => Heap.get?_push_of_some _ e⟩, fun b hb => ?_, ?_, ?_, ?_, ?_, fun v h' tk hP hk => ?_⟩
  · show b < (s.heap.push _).objs.size
    rw [Heap.size_push]
    rcases List.mem_cons.mp hb with e | hb
    · rw [e]; exact Nat.lt_succ_self _
    · rw [List.mem_singleton.mp hb]; exact Nat.lt_succ_of_lt hlt
  · rw [hsz]; exact List.length_pos_iff.mpr hne
  · rintro i j v u s2 Q2 E2 g ⟨hi, ev⟩ ⟨hj, eu⟩ hb
    obtain ⟨q1, it1, n1, k1, _, t1, a1⟩ := g i hi
    obtain ⟨q2, it2, n2, k2, _, t2, a2⟩ := g j hj
    rw [ev, eu, k1, k2]
    exact HT.lt_tupInts t1 t2 a1 a2 (show X.A.units + 1 < cLine from hu) (hb _)
  · intro i hi
    obtain ⟨qd, its, ns, e1, e2, t, e3⟩ := g0 i hi
    obtain ⟨oo, e4, e5⟩ := t
    exact ⟨qd, its, ns, e1, e2, ⟨oo, Heap.get?_push_of_some _ e4, e5⟩, e3⟩
  · intro g g' hg kept i hi
    obtain ⟨qd, its, ns, e1, e2, t, e3⟩ := hg i hi
    obtain ⟨oo, e4, e5⟩ := t
    refine ⟨qd, its, ns, e1, e2, ⟨oo, kept qd oo (fun z => ?_) ?_ e4, e5⟩, e3⟩
    · rw [List.mem_singleton.mp z] at e2; exact Nat.lt_irrefl _ e2
    · show qd < (s.heap.push _).objs.size
      rw [Heap.size_push]; exact Nat.lt_succ_of_lt e2
  · obtain ⟨j, hj, ev⟩ := hP
    obtain ⟨k, y, qd, hk', ek, hq⟩ := ent j hj
    refine ⟨.ref qd, H, I.kept (t' := tk) fun b u e => hk b u (fun z => ?_) (Heap.get?_push_of_some _ e), ?_, q k y qd (List.mem_of_getElem? hk') hq⟩
    · have e2 := Heap.lt_size e
      rw [List.mem_singleton.mp z] at e2
      exact Nat.lt_irrefl _ e2
    · rw [ev, ek]; rfl
end
end K53
namespace K53
open PySem PySem.Spec PyProof.Rows L2
/-! ### for (a, b), c in d.items(): a dict with tuple keys -/
theorem frzDT {X : Cx} {pins : List (Addr × Obj)} {σ : L2.St} {H : Hp} {s : Shared} {d : Addr} {o : Obj} {kvs : List (List Key × V)} (I : Inv X pins σ H s) (h : H d = some (.frz o (.dT kvs))) :
    (d == sysModules) = false ∧ ∃ (es : Array DictEntry) (ep : Nat), DT.Raw s.heap d es ep ∧ o.data = .dict es ep ∧ es.size = kvs.length ∧
      ∀ (i : Nat) (hi : i < es.size), ∃ (k : List Key) (v : V) (q : Addr), kvs[i]? = some (k, v) ∧ es[i].key = .ref q ∧ H q = some (.tup (k.map kV)) ∧ RelV v es[i].val := by
  obtain ⟨hd, z, hs, xs, pr, o2, es, ep, ho, hx, hdt, he, _⟩ := I.hok d _ h
  have eo : o = o2 := Option.some.inj (hd.symm.trans ho)
  subst eo
  have hsz : es.size = kvs.length := (size_of_entries he).trans (Paired.length pr).symm
  refine ⟨hs, es, ep, ⟨o, hd, hx, hdt⟩, hdt, hsz, fun i hi => ?_⟩
  have hi' : i < kvs.length := by omega
  obtain ⟨b, hb, e1, e2, e3⟩ := paired_get pr (List.getElem?_eq_getElem hi')
  have w := entry_at he i
  rw [hb, Array.getElem?_eq_getElem hi] at w
  have w2 := Option.some.inj w
  refine ⟨kvs[i].1, kvs[i].2, b.2.1, List.getElem?_eq_getElem hi', ?_, e2, ?_⟩
  · rw [w2] <;> rfl
  · rw [w2]; exact e3
def Itit (d : Addr) (o : Obj) (kvs : List (List Key × V)) : It :=
  ⟨fun i H => H d = some (.frz o (.dT kvs)) ∧ i < kvs.length,
   fun i H x H' => ∃ (T q : Addr) (k : List Key) (v : V), kvs[i]? = some (k, v) ∧ x = .ref T ∧ H T = none ∧ H q = some (.tup (k.map kV)) ∧ H' = upd H T (.tup [.ref q, v]),
   fun i H => H d = some (.frz o (.dT kvs)) ∧ kvs.length ≤ i⟩
theorem sameData {o : Obj} {es es' : Array DictEntry} {ep ep' : Nat} (h : o.data = .dict es ep) (h' : o.data = .dict es' ep') : es' = es ∧ ep' = ep := by
  have z := h.symm.trans h'
  injection z with z1 z2
  exact ⟨z1.symm, z2.symm⟩
theorem turn_itemsT {P : Program} {w : World} {K : PySem.W.Frag} {d : Addr} {o : Obj} {es : Array DictEntry} {ep : Nat} {kvs : List (List Key × V)} {elts : List Expr} {kk : Nat} {tpos : Pos} (it : Addr) (hod : o.data = .dict es ep) :
    Turn P w K (.Tuple elts kk tpos) (Itit d o kvs) [it] it (fun i h => ∃ ok ov, IsItemIter h it d i es.size ep ok ov) where
  mem := List.mem_singleton.mpr rfl
  obj := fun i h st b hb => by
    obtain rfl : b = it := List.mem_singleton.mp hb
    obtain ⟨ok, ov, e⟩ := st
    exact ⟨_, e, fun v z => nomatch z⟩
  keep := fun i h h' ⟨ok, ov, e⟩ k => ⟨ok, ov, k it (List.mem_singleton.mpr rfl) _ e⟩
  item := by
    intro X hP hw hK hc i pins s σ H E I hf st hg
    subst hP hw hK
    obtain ⟨hd, hi⟩ := hg
    obtain ⟨hs, es', ep', raw, hdt, hsz, ent⟩ := frzDT I hd
    obtain ⟨rfl, rfl⟩ := sameData hod hdt
    have hi' : i < es'.size := by omega
    obtain ⟨k, v, q, hk, ek, hq, rv⟩ := ent i hi'
    obtain ⟨ok, ov, he⟩ := st
    have hlt : it < s.heap.objs.size := Heap.lt_size he
    refine DT.nextI he raw hi' fun h' ho hT hz hk' => ?_
    refine ⟨_, rfl, wpAny_letOwnedTupleGo_items (s := { s with heap := h' }) ho fun h2 he2 sb => ?_⟩
    have hT2 : h2.get? s.heap.objs.size = some { cls := .type "tuple", data := .seq #[es'[i].key, es'[i].val] } := (sb.2 _ (Nat.ne_of_gt hlt)).trans hT
    have new : ObjOk X.prog X.w (upd H s.heap.objs.size (.tup [.ref q, v])) h2 s.heap.objs.size (.tup [.ref q, v]) :=
      ⟨by show 2 ≤ sizeLine; decide, [es'[i].key, es'[i].val], .cons (by rw [ek] <;> rfl) (.cons rv .nil), ⟨_, hT2, rfl, _, rfl⟩⟩
    have I1 : Inv X pins σ (upd H s.heap.objs.size (.tup [.ref q, v])) { s with heap := h2 } :=
      I.turnedNew (t' := s.toks) (ch := [it]) (fun b ob hb e => (sb.2 b (fun z => hb (List.mem_singleton.mpr z))).trans (hk' b ob (fun z => hb (List.mem_singleton.mpr z)) e)) hf (Nat.le_refl _) new
    refine ⟨.ref s.heap.objs.size, _, I1, rfl, ⟨_, q, k, v, hk, rfl, I.hok.fresh (Nat.le_refl _), hq, rfl⟩, ⟨_, _, he2⟩, fun b hb => ?_⟩
    obtain rfl : b = it := List.mem_singleton.mp hb
    rw [upd_ne (Nat.ne_of_lt hlt)]
    exact (hf b (List.mem_singleton.mpr rfl)).1
  done := by
    intro X hP hw hK hc i pins s σ H E I hf st hg
    subst hP hw hK
    obtain ⟨hd, hi⟩ := hg
    obtain ⟨f0, f1, f2, f3, f4, f5⟩ := hf it (List.mem_singleton.mpr rfl)
    obtain ⟨hs, es', ep', raw, hdt, hsz, ent⟩ := frzDT I hd
    obtain ⟨rfl, rfl⟩ := sameData hod hdt
    obtain ⟨ok, ov, he⟩ := st
    refine DT.endI (I.ok.hd hc) he raw (by omega) fun h' eb => ⟨rfl, ?_⟩
    exact I.turned (t' := s.toks) (fun b ob hb e => eb b ob hb e) f0 f1 f3 f4 f5
  self := fun A i s Q E ⟨_, _, e⟩ h => PySem.W.kcp_self e h
def iItemsT (td : TE) : TI := fun σ H R => td σ H fun x H1 => ∃ (d : Addr) (o : Obj) (kvs : List (List Key × V)), x = .ref d ∧ H1 d = some (.frz o (.dT kvs)) ∧ R (Itit d o kvs) H1
theorem pi_itemsT {X : Cx} {e : Expr} {td : TE} {apos cpos : Pos} {elts : List Expr} {kk : Nat} {tpos : Pos} (he : PE X e td) (hb : attributeBase e "items" X.env (eval e X.env) = eval e X.env := by rfl) (hl : (apos.endLine == cpos.line) = true := by rfl) :
    PI X (.Tuple elts kk tpos) (.Call (.Attribute e "items" apos) [] [] cpos) (iItemsT td) := by
  refine ⟨fun pins s σ H R I h => wpAny_Call_method (T := "dict") (id := "dict.items") hb rfl hl PySem.F.plainAttrs_dict PySem.F.slot_dict_items PySem.F.type_dict_items (thn (he.run pins s σ H _ I h) fun u s1 ⟨x, H1, I1, rx, d, o, kvs, ex, hd, q⟩ => ?_)⟩
  subst ex
  obtain rfl : u = Value.ref d := rx
  obtain ⟨hs, es, ep, raw, hdt, hsz, ent⟩ := frzDT I1 hd
  refine ⟨raw.typeIs, fun b z => ?_, ?_⟩
  · obtain rfl : d = b := by injection z
    obtain ⟨ob, h1, h2, _⟩ := raw
    exact ⟨ob, h1, h2.2.1⟩
  have I2 : Inv X pins σ H1 { s1 with heap := s1.heap.push { cls := .type "dict_items", data := .fields #[.ref d] } } := I1.kept (t' := s1.toks) fun b ob z => Heap.get?_push_of_some _ z
  have fin : wpAny (model X.prog X.w) X.A (pyIter (.ref s1.heap.objs.size)) (PIE X pins σ (.Tuple elts kk tpos) R) X.xe { s1 with heap := s1.heap.push { cls := .type "dict_items", data := .fields #[.ref d] } } :=
    DT.iterI (es := es) (ep := ep) ⟨_, Heap.get?_push_size _ rfl, rfl, rfl⟩ (raw.push _) (pi_one (tk := s1.toks) I2 _ (turn_itemsT _ hdt) ⟨.none, .none, Heap.get?_push_size _ rfl⟩ q)
  show wpAny _ _ (callWith cpos (.builtin "dict.items") [.ref d] [] []) _ X.xe s1
  exact method_meetsIn PySem.F.slot_dict_items PySem.F.entry_dict_items rfl (PySem.evalArgs_none ⟨rfl, raw.typeIs, PySem.F.args_dict_items_1 _, _, DT.meetsItems (es := es) (ep := ep) hs, ⟨raw, fin⟩⟩)
end K53
namespace K53
open PySem PySem.Spec PyProof.Rows L2
/-! ### len(set(xs)) of ints, some of them twice -/
theorem take_map_range (ns : List Int) : ∀ i, i ≤ ns.length → (List.range i).map (fun j => ns.getD j 0) = ns.take i
  | 0, _ => rfl
  | i + 1, h => by
    have hi : i < ns.length := h
    rw [List.range_succ, List.map_append, take_map_range ns i (Nat.le_of_lt hi), List.take_succ, List.getElem?_eq_getElem hi]
    show ns.take i ++ [ns.getD i 0] = ns.take i ++ [ns[i]]
    rw [List.getD_eq_getElem?_getD, List.getElem?_eq_getElem hi] <;> rfl
theorem met_full (ns : List Int) : ∀ i, i ≤ ns.length → (firstMet (fun j => ns.getD j 0) i).length = i → (ns.take i).Nodup
  | 0, _, _ => by simp
  | i + 1, h, e => by
    have hi : i < ns.length := h
    have le := firstMet_length_le (fun j => ns.getD j 0) i
    rw [firstMet_succ] at e
    unfold step_dedup at e
    by_cases a : (firstMet (fun j => ns.getD j 0) i).any (· == ns.getD i 0) = true
    · rw [if_pos a] at e; omega
    · rw [if_neg a, List.length_append, List.length_singleton] at e
      have nd := met_full ns i (Nat.le_of_lt hi) (by omega)
      rw [firstMet_any, take_map_range ns i (Nat.le_of_lt hi)] at a
      rw [List.take_succ, List.getElem?_eq_getElem hi]
      show (ns.take i ++ [ns[i]]).Nodup
      refine List.nodup_append.mpr ⟨nd, by simp, fun x hx y hy z => a (List.any_eq_true.mpr ⟨x, hx, ?_⟩)⟩
      rw [List.mem_singleton.mp hy] at z
      rw [List.getD_eq_getElem?_getD, List.getElem?_eq_getElem hi, z]
      simp
section
variable {X : Cx}
def tLenSetD (K : PySem.W.Frag) (ta : TE) : TE := fun σ H Q => ta σ H fun x H1 => ∃ (l : Addr) (ns : List Int), x = V.ref l ∧ SqL K H1 l (ns.map V.int) ∧ ns.length < 64 ∧ ∀ m : Nat, (m = ns.length ↔ ns.Nodup) → Q (.int (m : Int)) H1
theorem pe_lenSetD {a : Expr} {ta : TE} {p p2 q pos : Pos} (hc : X.calm = true) (hg : Gl X "len") (hm : X.mg "len" = none) (hg2 : Gl X "set") (hm2 : X.mg "set" = none) (ha : PE X a ta)
    (na : starEach [a] X.env = (false, eval a X.env) :: starEach [] X.env := by rfl) : PE X (.Call (.Name "len" p) [.Call (.Name "set" p2) [a] [] q] [] pos) (tLenSetD X.K ta) := by
  refine ⟨fun pins s σ H Q I h => Call_ (ld_blt I hg hm PySem.boot_len (PyProof.Rows.callWith_builtin1 (PyProof.Rows.args_cons ?_ rfl) rfl rfl))⟩
  refine Call_ (ld_blt I hg2 hm2 PyProof.Rows.boot_set (PyProof.Rows.callWith_type1 (PyProof.Rows.args_cons (thn (ha.run pins s σ H _ I h) fun v s1 ⟨x, H1, I1, r1, q1⟩ => PyProof.Rows.args_nil ?_) na) na rfl))
  obtain ⟨l, ns, rfl, hq, h1, q1⟩ := q1
  cases r1
  obtain ⟨its, r, pl, hz⟩ := I1.list hq
  have hl : its.toArray.size = ns.length := by rw [List.size_toArray, ← r.length, List.length_map]
  refine call_set_list (I1.ok.hd hc) pl.isList (ns := ns) (by simpa using r.ints) (by unfold scanBound; omega) fun h' tk hS hk => PyProof.Rows.args_nil ?_
  rw [hl] at hS
  have iff : (firstMet (fun i => ns.getD i 0) ns.length).length = ns.length ↔ ns.Nodup := ⟨fun e => by
    have z := met_full ns ns.length (Nat.le_refl _) e
    rwa [List.take_length] at z, fun nd => by rw [firstMet_nodup ns nd ns.length (Nat.le_refl _), List.take_length]⟩
  have le := firstMet_length_le (fun i => ns.getD i 0) ns.length
  obtain ⟨o, es, ep, t, ho, hex, hd, _, _, _, hf, hn⟩ := hS
  have I2 : Inv X pins σ H1 { s1 with heap := h', toks := tk } := I1.kept fun b o e => hk b o (Heap.lt_size e) e
  refine call_len_set ho hex hd hf (by rw [hn] <;> omega) ⟨.int ((firstMet (fun i => ns.getD i 0) ns.length).length : Nat), H1, I2.tok _, ⟨_, by rw [hn]⟩, q1 _ iff⟩
end
end K53
namespace K53
open PySem PySem.Spec PyProof.Rows L2
def topS (i : Nat) : Stmt := PySem.Challenge.pw_cherrystone_k53_whole_paths_or_papers.main.body.getD i (.Pass ⟨0, 0, 0, 0⟩)
abbrev s_is_integer : Stmt := topS 8
abbrev s_is_index : Stmt := topS 9
abbrev s_check_edges : Stmt := topS 11
abbrev s_Graph_init : Stmt := inClass (topS 12) 0
abbrev s_Graph_neighbours : Stmt := inClass (topS 12) 3
abbrev s_check_node : Stmt := topS 14
abbrev s_check_number : Stmt := topS 16
abbrev s_combinations_of : Stmt := topS 18
abbrev s_hopes : Stmt := topS 19
abbrev s_best_colour : Stmt := topS 20
abbrev s_colouring_for : Stmt := topS 21
abbrev s_family_of : Stmt := topS 22
abbrev s_check_sizes : Stmt := topS 27
abbrev s_is_colouring : Stmt := topS 28
abbrev s_is_separating : Stmt := topS 29
abbrev s_separating_family : Stmt := topS 30
abbrev s_check_colouring : Stmt := topS 31
abbrev s_layers : Stmt := topS 32
abbrev s_colourful_path : Stmt := topS 33
abbrev s_path_or_paper : Stmt := topS 34
abbrev s_refuses_path : Stmt := topS 35
abbrev s__law_mixed : Stmt := topS 37
abbrev s__law_numbers : Stmt := topS 38
abbrev s__law_draw : Stmt := topS 39
abbrev s__law_equal : Stmt := topS 40
abbrev s__law_all_equal : Stmt := topS 41
abbrev s__law_pairs : Stmt := topS 42
abbrev s__law_order : Stmt := topS 43
abbrev s__law_edges : Stmt := topS 44
abbrev s__law_near : Stmt := topS 45
abbrev s__law_is_path : Stmt := topS 46
abbrev s__law_longest : Stmt := topS 47
abbrev s__law_count : Stmt := topS 48
abbrev s__law_colourful : Stmt := topS 49
abbrev s__law_subsets : Stmt := topS 50
abbrev s__law_separates_one : Stmt := topS 52
abbrev s__law_separates : Stmt := topS 53
abbrev s__law_are_colourings : Stmt := topS 54
abbrev s__law_paper : Stmt := topS 55
abbrev s__law_same : Stmt := topS 56
abbrev s__law_planted : Stmt := topS 57
abbrev s__law_parted : Stmt := topS 58
abbrev s__law_right : Stmt := topS 59
abbrev s_law : Stmt := topS 60
abbrev FnP (K : PySem.W.Frag) (x q : Str) (st : Stmt) (f : Addr) (fd : FuncData) : Prop := FunD K x q (defArgs st) (defBody st) (defScope st) [] [] f fd
/-- what the top leaves of names that are not defs -/
structure Tx (mg : Str → Option Value) : Prop where
  isi : mg "isinstance" = none
  len : mg "len" = none
  range : mg "range" = none
  list : mg "list" = none
  tuple : mg "tuple" = none
  int : mg "int" = none
  bool : mg "bool" = none
  str : mg "str" = none
  sorted : mg "sorted" = none
  min : mg "min" = none
  max : mg "max" = none
  sum : mg "sum" = none
  set : mg "set" = none
  enum : mg "enumerate" = none
  most : ∃ t, mg "MOST" = some (.int 40 t)
  nodes : ∃ t, mg "NODES" = some (.int 40 t)
  longest : ∃ t, mg "LONGEST" = some (.int 7 t)
  subsets : ∃ t, mg "SUBSETS" = some (.int 2000 t)
/-- a def of the top that keeps its promise -/
def Own (P : Program) (w : World) (K : PySem.W.Frag) (mg : Str → Option Value) (base : Heap) (k : Nat) (x : Str) (sp : Sp) : Prop :=
  ∃ (f : Addr) (fd : FuncData) (ps : List Str), mg x = some (.ref f) ∧ PySem.W.keepIn K (.ref f) = true ∧ Binds K fd ps [] ∧ FnOk P w K mg base CX0 k f fd ps sp
section
variable {X : Cx} {x : Str} {p pos : Pos}
theorem pe_kint {i : Int} (h : ∃ t, X.mg x = some (.int i t)) (hg : Gl X x) (hd : (x == ("__debug__" : Str)) = false := by decide) : PE X (.Name x p) (tC (.int i)) := by
  obtain ⟨t, h⟩ := h
  exact pe_glob hg h ⟨t, rfl⟩ hd
theorem pe_own {k : Nat} {sp : Sp} {e : Expr} {es : List Expr} {t : TA} (D : Own X.prog X.w X.K X.mg X.base k x sp) (hr : Room k X.A) (hg : Gl X x) (ha : PA X (e :: es) t)
    (hdb : (x == ("__debug__" : Str)) = false := by decide) (he : starEach (e :: es) X.env = (false, eval e X.env) :: starEach es X.env := by rfl) (hpl : (backTo pos (starEach es X.env)).any (·.1) = false := by rfl) :
    PE X (.Call (.Name x p) (e :: es) [] pos) (tCall sp [] E0 t) := by
  obtain ⟨f, fd, ps, hm, hk, hb, F⟩ := D
  exact pe_call F hr hg hm hk hb .nil pass0 ha hdb he hpl
theorem Own.mono {P : Program} {w : World} {K : PySem.W.Frag} {mg : Str → Option Value} {base : Heap} {j k : Nat} {sp : Sp} (D : Own P w K mg base j x sp) (h : j ≤ k) : Own P w K mg base k x sp := by
  obtain ⟨f, fd, ps, hm, hk, hb, F⟩ := D
  exact ⟨f, fd, ps, hm, hk, hb, F.mono h⟩
theorem Own.imp {P : Program} {w : World} {K : PySem.W.Frag} {mg : Str → Option Value} {base : Heap} {k : Nat} {sp sp' : Sp} (D : Own P w K mg base k x sp) (h : ∀ vs H Q E, sp' vs H Q E → sp vs H Q E) : Own P w K mg base k x sp' := by
  obtain ⟨f, fd, ps, hm, hk, hb, F⟩ := D
  exact ⟨f, fd, ps, hm, hk, hb, F.imp h⟩
/-- THE RULE for a def: the body as a term, its reading -/
theorem own_ok {P : Program} {w : World} {K : PySem.W.Frag} {mg : Str → Option Value} {base : Heap} {k : Nat} {sp : Sp} {q : Str} {st : Stmt} {f : Addr} {fd : FuncData} {N ps : List Str} (F : FnP K x q st f fd) (hm : mg x = some (.ref f)) (S : FnScope N ps (defScope st))
    (hb : ∀ (kV doc pm : Value) (an : Option Addr) (cdv ct : Value) (us : List Value), us.length = ps.length → bindArgs (PySem.W.fnOf x q (defArgs st) (defBody st) (defScope st) .none kV doc pm an cdv ct) ⟨us, []⟩ = pure (ps.zip us))
    (len : ∀ vs H Q E, sp vs H Q E → vs.length = ps.length)
    (body : ∀ (cdv : Value) (A : Around) (outer : List Env) (s : Shared) (H : Hp) (vs : List V) (Q : VK) (E : XK), Room k (A.deeper (envOfC q (defScope st) s.heap.objs.size f cdv)) → sp vs H Q E →
      ∃ t, PSs (cxOf CX0 P w K mg base N q (defScope st) f cdv A outer s H E).nox (defBody st) t ∧ t { nx := fun _ H' => Q .non H', rt := Q } (start N vs) H) : Own P w K mg base (k + 1) x sp :=
  ⟨f, fd, ps, hm, F.kp, F.bindsN hb, F.ok S len fun cdv A outer s H vs Q E hr h => by
    obtain ⟨t, h1, h2⟩ := body cdv A outer s H vs Q E hr h
    exact ⟨t, h1.nox, h2⟩⟩
end
/-- a natural number as a value; lists of them -/
abbrev nv (x : Nat) : V := .int (x : Int)
abbrev nvs (ns : List Nat) : List V := ns.map nv
theorem bT {p : Prop} [Decidable p] (h : p) : V.bl (decide p) = V.bl true := congrArg V.bl (decide_eq_true h)
theorem bF {p : Prop} [Decidable p] (h : ¬ p) : V.bl (decide p) = V.bl false := congrArg V.bl (decide_eq_false h)
theorem bNF {p : Prop} [Decidable p] (h : ¬ p) : V.bl (!decide p) = V.bl true := by rw [decide_eq_false h] <;> rfl
theorem bNT {p : Prop} [Decidable p] (h : p) : V.bl (!decide p) = V.bl false := by rw [decide_eq_true h] <;> rfl
theorem qT {p : Prop} [Decidable p] {Q : V → Hp → Prop} {H : Hp} (h : p) (q : Q (.bl true) H) : Q (.bl (decide p)) H := by rw [decide_eq_true h]; exact q
theorem qF {p : Prop} [Decidable p] {Q : V → Hp → Prop} {H : Hp} (h : ¬ p) (q : Q (.bl false) H) : Q (.bl (decide p)) H := by rw [decide_eq_false h]; exact q
theorem qNT {p : Prop} [Decidable p] {Q : V → Hp → Prop} {H : Hp} (h : p) (q : Q (.bl false) H) : Q (.bl (!decide p)) H := by rw [decide_eq_true h]; exact q
theorem qNF {p : Prop} [Decidable p] {Q : V → Hp → Prop} {H : Hp} (h : ¬ p) (q : Q (.bl true) H) : Q (.bl (!decide p)) H := by rw [decide_eq_false h]; exact q
theorem ix_listK {X : Cx} (K : PySem.W.Frag) (h : X.K = K := by rfl) : IxR X (rIxL K) := by subst h; exact ix_list
theorem ix_tupK {X : Cx} (K : PySem.W.Frag) (h : X.K = K := by rfl) : IxR X (rIxT K) := by subst h; exact ix_tup
theorem cr_sortedIK {X : Cx} (K : PySem.W.Frag) (h : X.K = K := by rfl) : CallR X (.builtin "sorted") (rSortedI K) := by subst h; exact cr_sortedI
/-! ### heaps that grow -/
theorem Same.new {H : Hp} {p : Addr} {o : HO} (h : H p = none) : Same H (upd H p o) := fun b u e => by rw [upd_ne (ne_of_none e h)]; exact e
/-- an object that H does not know may change -/
theorem Same.mut {H H' : Hp} {p : Addr} {o : HO} (e : Same H H') (h : H p = none) : Same H (upd H' p o) := fun b u q => by rw [upd_ne (ne_of_none q h)]; exact e b u q
theorem Same.tup {K : PySem.W.Frag} {H H' : Hp} {a : Addr} {xs : List V} (e : Same H H') (h : SqT K H a xs) : SqT K H' a xs := by
  rcases h with (h | ⟨o, h⟩) | h
  · exact .inl (.inl (e _ _ h))
  · exact .inl (.inr ⟨o, e _ _ h⟩)
  · exact .inr h
end K53
namespace K53
open PySem PySem.Spec PyProof.Rows L2
section
variable {P : Program} {w : World} {K : PySem.W.Frag} {mg : Str → Option Value} {base : Heap}
def sp_is_integer : Sp := fun vs H Q _ => ∃ i : Int, vs = [.int i] ∧ Q (.bl true) H
theorem o_is_integer {f : Addr} {fd : FuncData} (F : FnP K "is_integer" "is_integer" s_is_integer f fd) (hm : mg "is_integer" = some (.ref f)) (T : Tx mg)   : Own P w K mg base 1 "is_integer" sp_is_integer := by
  have sc : FnScope ["value"] ["value"] (defScope s_is_integer) := ⟨rfl, rfl, rfl, by decide +kernel, rfl, by decide +kernel, by decide +kernel⟩
  refine own_ok F hm sc (fun _ _ _ _ _ _ us hl => match us, hl with | [_], _ => rfl) (fun vs H Q E h => ?_) (fun cdv A outer s H vs Q E hr h => ?_)
  · obtain ⟨i, rfl, _⟩ := h; rfl
  · obtain ⟨i, rfl, q⟩ := h
    have hu := hu_of hr
    refine ⟨_, (pss_one (ps_ret (pe_and (pe_callB call_isi (by rfl) T.isi (by decide +kernel) (pa_cons (pv 0) (pa_cons (pe_bltn (v := .ty "int") (by rfl) T.int (by decide +kernel) rfl) pa_nil))) (pe_one (pe_not (pe_callB call_isi (by rfl) T.isi (by decide +kernel) (pa_cons (pv 0) (pa_cons (pe_bltn (v := .ty "bool") (by rfl) T.bool (by decide +kernel) rfl) pa_nil)))))))), ?_⟩
    refine ⟨_, rfl, _, _, _, _, true, rfl, .ty _, .base (.int _), kit_ty (by decide +kernel), true, rfl, ?_⟩
    refine ⟨_, rfl, _, _, _, _, false, rfl, .ty _, .base (.int _), kit_ty (by decide +kernel), false, rfl, ?_⟩
    exact q
def sp_is_index : Sp := fun vs H Q _ => ∃ i b : Int, vs = [.int i, .int b] ∧ 0 ≤ i ∧ i < b ∧ Q (.bl true) H
theorem o_is_index {f : Addr} {fd : FuncData} (F : FnP K "is_index" "is_index" s_is_index f fd) (hm : mg "is_index" = some (.ref f)) (T : Tx mg) (D_is_integer : Own P w K mg base 1 "is_integer" sp_is_integer)  : Own P w K mg base 2 "is_index" sp_is_index := by
  have sc : FnScope ["value", "bound"] ["value", "bound"] (defScope s_is_index) := ⟨rfl, rfl, rfl, by decide +kernel, rfl, by decide +kernel, by decide +kernel⟩
  refine own_ok F hm sc (fun _ _ _ _ _ _ us hl => match us, hl with | [_, _], _ => rfl) (fun vs H Q E h => ?_) (fun cdv A outer s H vs Q E hr h => ?_)
  · obtain ⟨i, b, rfl, _⟩ := h; rfl
  · obtain ⟨i, b, rfl, h1, h2, q⟩ := h
    have hu := hu_of hr
    refine ⟨_, (pss_one (ps_ret (pe_and (pe_own D_is_integer (hr.mono (by decide)) (by rfl) (pa_cons (pv 0) pa_nil)) (pe_one (pe_chain op_le op_lt pe_int (pv 0) (pv 1)))))), ?_⟩
    refine ⟨_, rfl, _, rfl, true, rfl, _, rfl, _, _, rfl, rfl, true, bT h1, ?_⟩
    refine ⟨_, rfl, _, _, rfl, rfl, ?_⟩
    exact qT h2 q
def sp_check_number : Sp := fun vs H Q _ => ∃ i a b : Int, vs = [.int i, .int a, .int b] ∧ a ≤ i ∧ i ≤ b ∧ Q .non H
theorem o_check_number {f : Addr} {fd : FuncData} (F : FnP K "check_number" "check_number" s_check_number f fd) (hm : mg "check_number" = some (.ref f)) (T : Tx mg) (D_is_integer : Own P w K mg base 1 "is_integer" sp_is_integer)  : Own P w K mg base 2 "check_number" sp_check_number := by
  have sc : FnScope ["value", "least", "most"] ["value", "least", "most"] (defScope s_check_number) := ⟨rfl, rfl, rfl, by decide +kernel, rfl, by decide +kernel, by decide +kernel⟩
  refine own_ok F hm sc (fun _ _ _ _ _ _ us hl => match us, hl with | [_, _, _], _ => rfl) (fun vs H Q E h => ?_) (fun cdv A outer s H vs Q E hr h => ?_)
  · obtain ⟨i, a, b, rfl, _⟩ := h; rfl
  · obtain ⟨i, a, b, rfl, h1, h2, q⟩ := h
    have hu := hu_of hr
    refine ⟨_, (pss_one (ps_if (PW.pt (pw_or (pt_not (pt_val (pe_own D_is_integer (hr.mono (by decide)) (by rfl) (pa_cons (pv 0) pa_nil)))) (pw_or1 (pt_not (pt_chain op_le op_le (pv 1) (pv 0) (pv 2)))))) (pss_one ps_never) pss_nil)), ?_⟩
    refine ⟨_, rfl, _, rfl, true, rfl, ?_⟩
    refine ⟨_, rfl, _, rfl, _, _, rfl, rfl, true, bT h1, ?_⟩
    refine ⟨_, rfl, _, _, rfl, rfl, true, bT h2, ?_⟩
    exact q
end
end K53
namespace K53
/-! ### the sets of k of n nodes, as combinations_of makes them -/
def lst (n k : Nat) (c : List Nat) : Nat → Option Nat
  | 0 => none
  | j + 1 => if c.getD j 0 = n - k + j then lst n k c j else some j
def bmp (c : List Nat) (a : Nat) : Nat → List Nat
  | 0 => c.set a (c.getD a 0 + 1)
  | t + 1 => (bmp c a t).set (a + 1 + t) ((bmp c a t).getD (a + t) 0 + 1)
def run (n k : Nat) : Nat → List Nat → List (List Nat)
  | 0, _ => []
  | m + 1, c => c :: (match lst n k c k with
    | none => []
    | some a => run n k m (bmp c a (k - 1 - a)))
def combos (n k most : Nat) : List (List Nat) := if n < k then [] else run n k most (List.range k)
theorem lst_lt {n k : Nat} {c : List Nat} : ∀ {j a : Nat}, lst n k c j = some a → a < j
  | j + 1, a, h => by
    unfold lst at h
    split at h
    · exact Nat.lt_succ_of_lt (lst_lt h)
    · cases h; exact Nat.lt_succ_self _
theorem bmp_len (c : List Nat) (a : Nat) : ∀ t, (bmp c a t).length = c.length
  | 0 => by simp [bmp]
  | t + 1 => by simp [bmp, bmp_len c a t]
theorem run_len (n k : Nat) : ∀ m c, (run n k m c).length ≤ m
  | 0, _ => by simp [run]
  | m + 1, c => by
    unfold run
    rw [List.length_cons]
    split
    · simp
    · have := run_len n k m; exact Nat.succ_le_succ (this _)
/-- ascending lists of k nodes from lo to n - 1 -/
def Asc (n lo k : Nat) (S : List Nat) : Prop := S.length = k ∧ S.Pairwise (· < ·) ∧ ∀ x ∈ S, lo ≤ x ∧ x < n
def ascs (n : Nat) : Nat → Nat → List (List Nat)
  | 0, _ => [[]]
  | k + 1, lo => ((List.range n).filter fun v => decide (lo ≤ v)).flatMap fun v => (ascs n k (v + 1)).map (v :: ·)
theorem mem_ascs {n : Nat} : ∀ {k lo : Nat} {S : List Nat}, S ∈ ascs n k lo ↔ Asc n lo k S
  | 0, lo, S => by
    unfold ascs Asc
    rw [List.mem_singleton]
    constructor
    · rintro rfl; exact ⟨rfl, .nil, by simp⟩
    · rintro ⟨h, _⟩; exact List.eq_nil_of_length_eq_zero h
  | k + 1, lo, S => by
    unfold ascs
    simp only [List.mem_flatMap, List.mem_filter, List.mem_range, decide_eq_true_eq, List.mem_map]
    constructor
    · rintro ⟨v, ⟨hv, hlo⟩, S', hS', rfl⟩
      obtain ⟨h1, h2, h3⟩ := mem_ascs.mp hS'
      refine ⟨by simp [h1], List.pairwise_cons.mpr ⟨fun x hx => ?_, h2⟩, fun x hx => ?_⟩
      · have := (h3 x hx).1; omega
      · rcases List.mem_cons.mp hx with rfl | hx
        · exact ⟨hlo, hv⟩
        · have := h3 x hx; omega
    · rintro ⟨h1, h2, h3⟩
      cases S with
      | nil => simp at h1
      | cons v S' =>
        have hv := h3 v (by simp)
        obtain ⟨h4, h5⟩ := List.pairwise_cons.mp h2
        refine ⟨v, ⟨hv.2, hv.1⟩, S', mem_ascs.mpr ⟨by simpa using h1, h5, fun x hx => ?_⟩, rfl⟩
        have e1 := h3 x (List.mem_cons_of_mem _ hx)
        have e2 := h4 x hx
        omega
/-- the sizes that occur -/
def okNK (n k : Nat) : Bool := Nat.ble 1 k && (Nat.ble n 8 && Nat.ble k 7 || Nat.ble n 10 && Nat.ble k 5 || Nat.ble n 20 && Nat.ble k 3)
theorem combos_check : ((List.range 21).all fun n => (List.range 8).all fun k => !okNK n k || (combos n k 2001 == ascs n k 0 && combos n k 2000 == ascs n k 0 && Nat.ble (ascs n k 0).length 2000 && Nat.ble (n ^ k) 10000000)) = true := by
  decide +kernel
theorem okNK_bounds {n k : Nat} (h : okNK n k = true) : n ≤ 20 ∧ 1 ≤ k ∧ k ≤ 7 := by
  unfold okNK at h
  simp only [Bool.and_eq_true, Bool.or_eq_true, Nat.ble_eq] at h
  omega
theorem combos_all {n k : Nat} (h : okNK n k = true) : combos n k 2001 = ascs n k 0 ∧ combos n k 2000 = ascs n k 0 ∧ (ascs n k 0).length ≤ 2000 ∧ n ^ k ≤ 10000000 := by
  obtain ⟨h1, h2, h3⟩ := okNK_bounds h
  have z := List.all_eq_true.mp (List.all_eq_true.mp combos_check n (List.mem_range.mpr (by omega))) k (List.mem_range.mpr (by omega))
  rw [h] at z
  simp only [Bool.not_true, Bool.false_or, Bool.and_eq_true, beq_iff_eq, Nat.ble_eq] at z
  exact ⟨z.1.1.1, z.1.1.2, z.1.2, z.2⟩
theorem Asc.nodup {n lo k : Nat} {S : List Nat} (h : Asc n lo k S) : S.Nodup := h.2.1.imp fun h => Nat.ne_of_lt h
end K53
namespace K53
open PySem PySem.Spec PyProof.Rows L2
/-! ### lists of tuples of naturals -/
def TupsAt (H : Hp) (as : List Addr) (xss : List (List Nat)) : Prop := Paired (fun a ns => H a = some (.tup (nvs ns))) as xss
theorem TupsAt.mono {H H' : Hp} {as : List Addr} {xss : List (List Nat)} (t : TupsAt H as xss) (e : Same H H') : TupsAt H' as xss := Paired.mapP t fun _ _ q => e _ _ q
theorem TupsAt.snoc {H : Hp} : ∀ {as : List Addr} {xss : List (List Nat)} {a : Addr} {ns : List Nat}, TupsAt H as xss → H a = some (.tup (nvs ns)) → TupsAt H (as ++ [a]) (xss ++ [ns])
  | _, _, _, _, .nil, h => .cons h .nil
  | _, _, _, _, .cons q t, h => .cons q (TupsAt.snoc t h)
theorem TupsAt.length {H : Hp} {as : List Addr} {xss : List (List Nat)} (t : TupsAt H as xss) : as.length = xss.length := Paired.length t
theorem TupsAt.get {H : Hp} {as : List Addr} {xss : List (List Nat)} (t : TupsAt H as xss) {i : Nat} {a : Addr} (h : as[i]? = some a) : ∃ ns, xss[i]? = some ns ∧ H a = some (.tup (nvs ns)) := paired_get t h
theorem rgV_nat (k : Nat) : rgV 0 (k : Int) = nvs (List.range k) := by
  unfold rgV nvs nv
  rw [Int.sub_zero, Int.toNat_natCast]
  exact List.map_congr_left fun i _ => by rw [Int.zero_add]
theorem nvs_get {ns : List Nat} {i x : Nat} (h : ns[i]? = some x) : (nvs ns)[i]? = some (nv x) := by unfold nvs; rw [List.getElem?_map, h]; rfl
theorem nvs_set (ns : List Nat) (i x : Nat) : (nvs ns).set i (nv x) = nvs (ns.set i x) := by unfold nvs; rw [List.map_set]
theorem nvs_len (ns : List Nat) : (nvs ns).length = ns.length := List.length_map ..
theorem ixN_nat {n j : Nat} (h : j < n) : ixN n (j : Int) = some j := by
  unfold ixN
  rw [if_pos (by omega), if_pos (by omega)]; simp
theorem getD_of {ns : List Nat} {i : Nat} (h : i < ns.length) : ns[i]? = some (ns.getD i 0) := by
  rw [List.getD_eq_getElem?_getD, List.getElem?_eq_getElem h]; rfl
theorem sz5 {n : Nat} (h : n ≤ 100000) : n < sizeLine := Nat.lt_of_le_of_lt h (by decide)
theorem dt {p : Prop} [Decidable p] (h : decide p = true) : p := of_decide_eq_true h
theorem df {p : Prop} [Decidable p] (h : ¬ decide p = true) : ¬ p := fun q => h (decide_eq_true q)
section
variable {P : Program} {w : World} {K : PySem.W.Frag} {mg : Str → Option Value} {base : Heap}
def sp_combinations_of : Sp := fun vs H Q _ => ∃ n k m : Nat, vs = [nv n, nv k, nv m] ∧ n ≤ 40 ∧ k ≤ 40 ∧ m ≤ 50000 ∧
  ∀ (H' : Hp) (p : Addr) (as : List Addr), Same H H' → H p = none → H' p = some (.lst (as.map V.ref)) → TupsAt H' as (combos n k m) → Q (.ref p) H'
theorem o_combinations_of {f : Addr} {fd : FuncData} (F : FnP K "combinations_of" "combinations_of" s_combinations_of f fd) (hm : mg "combinations_of" = some (.ref f)) (T : Tx mg)   : Own P w K mg base 1 "combinations_of" sp_combinations_of := by
  have sc : FnScope ["n", "k", "most", "found", "chosen", "at", "place"] ["n", "k", "most"] (defScope s_combinations_of) := ⟨rfl, rfl, rfl, by decide +kernel, rfl, by decide +kernel, by decide +kernel⟩
  refine own_ok F hm sc (fun _ _ _ _ _ _ us hl => match us, hl with | [_, _, _], _ => rfl) (fun vs H Q E h => ?_) (fun cdv A outer s H vs Q E hr h => ?_)
  · obtain ⟨n, k, m, rfl, _⟩ := h; rfl
  · obtain ⟨n, k, m, rfl, hn, hk, hm2, q⟩ := h
    have hu := hu_of hr
    refine ⟨_, (pss_cons (ps_set (i := 3) sc.nd rfl (Or.inl rfl) (pe_lst pa_nil)) 
      (pss_cons (ps_set (i := 4) sc.nd rfl (Or.inl rfl) (pe_listRg rfl (by rfl) T.list (prg_1 (by rfl) T.range (pv 1)))) 
      (pss_cons (ps_if (pt_cmpR op_gt (pv 1) (pv 0) (nomark _)) (pss_one (ps_ret (pv 3))) pss_nil) 
      (pss_cons (ps_while PassesOwn.never (pt_cmpR op_lt (pe_callB call_len_seq (by rfl) T.len (by decide +kernel) (pa_cons (pv 3) pa_nil)) (pv 2) (nomark _)) (pss_cons (ps_expr (pe_bm PySem.F.plainAttrs_list PySem.F.slot_list_append PySem.F.type_list_append mt_append (pv 3) (pa_cons (pe_callTy call_tuple_of (by rfl) T.tuple (by decide +kernel) (pa_cons (pv 4) pa_nil)) pa_nil))) (pss_cons (ps_set (i := 5) sc.nd rfl (Or.inl rfl) (pe_op op_sub (pv 1) pe_int)) (pss_cons (ps_while PassesOwn.never (PW.pt (pw_and (pt_cmpR op_ge (pv 5) pe_int (nomark _)) (pw_and1 (pt_cmpR op_eq (pe_ix ix_list (pv 4) (pv 5) (fun _ _ => rfl)) (pe_op op_add (pe_op op_sub (pv 0) (pv 1)) (pv 5)) (nomark _))))) (pss_one (ps_aug (i := 5) sc.nd rfl (Or.inl rfl) pe_int iop_sub))) (pss_cons (ps_if (pt_cmpR op_lt (pv 5) pe_int (nomark _)) (pss_one (ps_ret (pv 3))) pss_nil) (pss_cons (ps_augS (pv 4) (pv 5) get_list pe_int iop_add set_list) (pss_one (ps_for PassesOwn.never rfl (pi_range2 (by rfl) T.range (pa_cons (pe_op op_add (pv 5) pe_int) (pa_cons (pv 1) pa_nil))) (pg_name (i := 6) sc.nd rfl (Or.inl rfl)) (pss_one (ps_asg (pe_op op_add (pe_ix ix_list (pv 4) (pe_op op_sub (pv 6) pe_int) (fun _ _ => rfl)) pe_int) (pg_sub (pv 4) (pv 6) set_list))))))))))) 
      (pss_one (ps_ret (pv 3))))))), ?_⟩
    refine ⟨Nat.zero_le _, fun l hl => ?_⟩
    refine ⟨_, rfl, _, rfl, RgOk.of_le (by decide) (by omega) (by decide) (by omega), fun c hc => ?_⟩
    have hcl : l ≠ c := ne_of_none upd_same hc
    have hc0 : H c = none := by rw [upd_ne hcl.symm] at hc; exact hc
    have s2 : Same H (upd (upd H l (.lst [])) c (.lst (rgV 0 (k : Int)))) := (Same.new hl).trans (Same.new hc)
    refine ⟨_, rfl, _, rfl, _, _, rfl, rfl, _, rfl, ?_⟩
    refine ite2 (fun h => ?_) (fun h => ?_)
    · have h' := dt h
      refine ⟨_, rfl, ?_⟩
      refine q _ l [] s2 hl (by rw [upd_ne hcl, upd_same]; rfl) ?_
      rw [show combos n k m = [] by unfold combos; rw [if_pos (by omega)]]
      exact .nil
    have hkn : k ≤ n := by have := df h; omega
    have ec : combos n k m = run n k m (List.range k) := by unfold combos; rw [if_neg (by omega)]
    refine ⟨fun d σ H' => ∃ (as : List Addr) (cs : List Nat) (v5 v6 : Option V) (done : List (List Nat)), σ = [some (nv n), some (nv k), some (nv m), some (.ref l), some (.ref c), v5, v6] ∧ Same H H' ∧
      H' l = some (.lst (as.map V.ref)) ∧ H' c = some (.lst (nvs cs)) ∧ cs.length = k ∧ TupsAt H' as done ∧ done ++ run n k d cs = combos n k m ∧ done.length + d = m,
      ⟨m, [], List.range k, none, none, [], rfl, s2, by rw [upd_ne hcl, upd_same]; rfl, by rw [upd_same, rgV_nat], List.length_range, .nil, by rw [ec]; rfl, by simp⟩, ?_⟩
    rintro d σ H1 ⟨as, cs, v5, v6, done, rfl, s1, eL, eC, lc, tps, er, ed⟩
    have la : as.length = done.length := tps.length
    refine ⟨_, rfl, _, _, rfl, .inl (SqL.of eL), _, rfl, _, _, rfl, rfl, _, rfl, ?_⟩
    refine ite2 (fun h => ?_) (fun h => ?_)
    · have h' := dt h
      rw [List.length_map] at h'
      obtain ⟨d', rfl⟩ : ∃ d', d = d' + 1 := ⟨d - 1, by omega⟩
      refine ⟨fun σ' H' => ∃ d2, d2 < d' + 1 ∧ ∃ (as : List Addr) (cs : List Nat) (v5 v6 : Option V) (done : List (List Nat)), σ' = [some (nv n), some (nv k), some (nv m), some (.ref l), some (.ref c), v5, v6] ∧ Same H H' ∧
        H' l = some (.lst (as.map V.ref)) ∧ H' c = some (.lst (nvs cs)) ∧ cs.length = k ∧ TupsAt H' as done ∧ done ++ run n k d2 cs = combos n k m ∧ done.length + d2 = m, fun σ' H' z => z, ?_⟩
      -- found.append(tuple(chosen))
      refine ⟨_, rfl, .inl ⟨rfl, _, SqL.of eL⟩, _, rfl, _, _, rfl, .inl ⟨SqL.of eC, fun t ht => ?_⟩⟩
      have nlt : l ≠ t := ne_of_none eL ht
      have nct : c ≠ t := ne_of_none eC ht
      have t0 : H t = none := s1.free ht
      refine ⟨l, _, _, rfl, rfl, by rw [upd_ne nlt]; exact eL, by rw [List.length_map]; exact sz5 (by omega), ?_⟩
      have s3 : Same H (upd (upd H1 t (.tup (nvs cs))) l (.lst (as.map V.ref ++ [V.ref t]))) := Same.mut (s1.trans (Same.new ht)) hl
      have e3L : (upd (upd H1 t (.tup (nvs cs))) l (.lst (as.map V.ref ++ [V.ref t]))) l = some (.lst ((as ++ [t]).map V.ref)) := by rw [upd_same, List.map_append]; rfl
      have e3C : (upd (upd H1 t (.tup (nvs cs))) l (.lst (as.map V.ref ++ [V.ref t]))) c = some (.lst (nvs cs)) := by rw [upd_ne hcl.symm, upd_ne nct]; exact eC
      have t3 : TupsAt (upd (upd H1 t (.tup (nvs cs))) l (.lst (as.map V.ref ++ [V.ref t]))) (as ++ [t]) (done ++ [cs]) := by
        refine TupsAt.snoc (Paired.mapP tps fun a ns e => ?_) (by rw [upd_ne nlt.symm, upd_same])
        rw [upd_ne (ne_of e eL (by intro z; cases z)), upd_ne (ne_of_none e ht)]
        exact e
      generalize upd (upd H1 t (.tup (nvs cs))) l (.lst (as.map V.ref ++ [V.ref t])) = H3 at s3 e3L e3C t3
      -- at = k - 1
      refine ⟨_, rfl, _, _, rfl, rfl, ?_⟩
      -- while at >= 0 and chosen[at] == n - k + at
      refine ⟨fun j σ H' => σ = [some (nv n), some (nv k), some (nv m), some (.ref l), some (.ref c), some (.int ((j : Int) - 1)), v6] ∧ H3 = H' ∧ j ≤ k ∧ lst n k cs k = lst n k cs j, ⟨k, rfl, rfl, Nat.le_refl _, rfl⟩, ?_⟩
      rintro j σ H' ⟨rfl, rfl, hj, ej⟩
      refine ⟨_, rfl, _, _, rfl, rfl, _, rfl, ?_⟩
      refine ite2 (fun h2 => ?_) (fun h2 => ?_)
      · have h2' := dt h2
        obtain ⟨j', rfl⟩ : ∃ j', j = j' + 1 := ⟨j - 1, by omega⟩
        have ej1 : ((j' + 1 : Nat) : Int) - 1 = ((j' : Nat) : Int) := by omega
        have gj := nvs_get (getD_of (ns := cs) (i := j') (by omega))
        refine ⟨_, rfl, _, rfl, _, _, _, _, rfl, rfl, SqL.of e3C, at_of ej1 gj, ?_⟩
        refine ⟨_, rfl, _, rfl, _, _, rfl, rfl, _, rfl, _, _, rfl, rfl, rfl, _, rfl, ?_⟩
        refine ite2 (fun h3 => ?_) (fun h3 => ?_)
        · have h3' := dt h3
          refine ⟨_, fun σ' H' z => z, ?_⟩
          refine ⟨_, rfl, _, _, rfl, rfl, ?_⟩
          refine ⟨j', Nat.lt_succ_self _, by rw [ej1]; rfl, rfl, by omega, ?_⟩
          rw [ej]
          show (if cs.getD j' 0 = n - k + j' then lst n k cs j' else some j') = _
          rw [if_pos]
          injection h3' with h4
          omega
        · have h3' := df h3
          -- the search stops at j'
          have el : lst n k cs k = some j' := by
            rw [ej]
            show (if cs.getD j' 0 = n - k + j' then lst n k cs j' else some j') = _
            rw [if_neg]
            intro z
            exact h3' (congrArg V.int (by omega))
          have hjk : j' < k := by omega
          refine ⟨_, rfl, _, _, rfl, rfl, _, rfl, ?_⟩
          rw [decide_eq_false (by omega)]
          refine iteF ?_
          -- chosen[at] += 1
          refine ⟨_, rfl, _, rfl, _, _, j', _, rfl, congrArg V.int ej1, SqL.of e3C, gj, ?_⟩
          refine ⟨_, _, rfl, rfl, ?_⟩
          refine ⟨c, _, _, j', rfl, rfl, e3C, by rw [ej1, nvs_len]; exact ixN_nat (by omega), ?_⟩
          have eb0 : ((nvs cs).set j' (V.int (((cs.getD j' 0 : Nat) : Int) + 1))) = nvs (bmp cs j' 0) := nvs_set cs j' _
          rw [eb0]
          -- for place in range(at + 1, k)
          refine ⟨_, rfl, _, _, rfl, rfl, _, rfl, _, _, rfl, ⟨by omega, by omega, by omega, by omega⟩, ?_⟩
          have el2 : ((k : Int) - (((j' + 1 : Nat) : Int) - 1 + 1)).toNat = k - 1 - j' := by omega
          rw [el2]
          have keep : ∀ o, Same H (upd H3 c o) := fun o => Same.mut s3 hc0
          refine for_range (lo := ((j' + 1 : Nat) : Int) - 1 + 1) (n := k - 1 - j') (fun i σ' H' => ∃ v, σ' = [some (nv n), some (nv k), some (nv m), some (.ref l), some (.ref c), some (.int (((j' + 1 : Nat) : Int) - 1)), v] ∧ H' = upd H3 c (.lst (nvs (bmp cs j' i))))
            ⟨v6, rfl, rfl⟩ ?_ ?_
          · rintro i σ' H' hi ⟨v, rfl, rfl⟩
            have ei : ((j' + 1 : Nat) : Int) - 1 + 1 + (i : Int) = ((j' + 1 + i : Nat) : Int) := by omega
            have ei2 : ((j' + 1 : Nat) : Int) - 1 + 1 + (i : Int) - 1 = ((j' + i : Nat) : Int) := by omega
            refine ⟨_, rfl, _, rfl, _, _, rfl, rfl, _, _, _, _, rfl, rfl, SqL.of upd_same, at_of ei2 (nvs_get (getD_of (i := j' + i) (by rw [bmp_len]; omega))), ?_⟩
            refine ⟨_, _, rfl, rfl, ?_⟩
            refine ⟨_, rfl, _, rfl, c, _, _, j' + 1 + i, rfl, rfl, upd_same, by rw [ei, nvs_len]; exact ixN_nat (by rw [bmp_len]; omega), ?_⟩
            refine ⟨_, rfl, ?_⟩
            rw [upd_upd]
            congr 2
            exact nvs_set (bmp cs j' i) (j' + 1 + i) _
          · rintro σ' H' ⟨v, rfl, rfl⟩
            have hnl : l ≠ c := hcl
            refine ⟨d', Nat.lt_succ_self _, as ++ [t], bmp cs j' (k - 1 - j'), _, v, done ++ [cs], rfl, keep _, by rw [upd_ne hnl]; exact e3L, upd_same, by rw [bmp_len]; exact lc, ?_, ?_, by rw [List.length_append, List.length_singleton]; omega⟩
            · refine Paired.mapP t3 fun a ns e => ?_
              rw [upd_ne (ne_of e e3C (by intro z; cases z))]
              exact e
            · rw [← er]
              show _ = done ++ (cs :: (match lst n k cs k with
                | none => []
                | some a => run n k d' (bmp cs a (k - 1 - a))))
              rw [el, List.append_assoc]
              rfl
      · have h2' := df h2
        have j0 : j = 0 := by omega
        subst j0
        refine ⟨_, rfl, _, _, rfl, rfl, _, rfl, ?_⟩
        rw [decide_eq_true (by omega)]
        refine iteT ?_
        refine ⟨_, rfl, ?_⟩
        refine q _ l _ s3 hl e3L ?_
        have er2 : done ++ [cs] = combos n k m := by
          rw [← er]
          show done ++ [cs] = done ++ (cs :: (match lst n k cs k with
                | none => []
                | some a => run n k d' (bmp cs a (k - 1 - a))))
          rw [ej]
          rfl
        rw [← er2]
        exact t3
    · have h' := df h
      rw [List.length_map] at h'
      have d0 : d = 0 := by omega
      subst d0
      refine ⟨_, rfl, ?_⟩
      refine q _ l _ s1 hl eL ?_
      rw [← er]
      show TupsAt H1 as (done ++ [])
      rw [List.append_nil]
      exact tps
end
end K53
namespace K53
/-! ### bits -/
theorem or_add {m c : Nat} (h : m.testBit c = false) : m ||| 2^c = m + 2^c := by
  have e1 : m = 2^(c+1) * (m / 2^(c+1)) + m % 2^(c+1) := (Nat.div_add_mod m (2^(c+1))).symm
  have h2 : m % 2^(c+1) < 2^c := by
    have h3 : (m % 2^(c+1)).testBit c = false := by
      rw [Nat.testBit_mod_two_pow]; simp [h]
    have h4 : m % 2^(c+1) < 2^(c+1) := Nat.mod_lt _ (Nat.two_pow_pos _)
    rcases Nat.lt_or_ge (m % 2^(c+1)) (2^c) with h5 | h5
    · exact h5
    · exfalso
      have := Nat.testBit_of_two_pow_le_and_two_pow_add_one_gt h5 h4
      rw [this] at h3; cases h3
  have e2 : m % 2^(c+1) + 2^c = 2^c ||| (m % 2^(c+1)) := by
    have q := Nat.two_pow_add_eq_or_of_lt h2 1
    rw [Nat.mul_one] at q
    omega
  have h5 : 2^c ||| (m % 2^(c+1)) < 2^(c+1) := by
    rw [← e2]; have : 2^(c+1) = 2^c + 2^c := by rw [Nat.pow_succ]; omega
    omega
  have e3 : 2^(c+1) * (m / 2^(c+1)) + m % 2^(c+1) = 2^(c+1) * (m / 2^(c+1)) ||| m % 2^(c+1) := Nat.two_pow_add_eq_or_of_lt (Nat.mod_lt _ (Nat.two_pow_pos _)) _
  have e4 : 2^(c+1) * (m / 2^(c+1)) + (2^c ||| (m % 2^(c+1))) = 2^(c+1) * (m / 2^(c+1)) ||| (2^c ||| m % 2^(c+1)) := Nat.two_pow_add_eq_or_of_lt h5 _
  calc m ||| 2^c = (2^(c+1) * (m / 2^(c+1)) ||| m % 2^(c+1)) ||| 2^c := by rw [← e3, ← e1]
    _ = 2^(c+1) * (m / 2^(c+1)) ||| (2^c ||| m % 2^(c+1)) := by rw [Nat.or_assoc, Nat.or_comm (m % 2^(c+1))]
    _ = 2^(c+1) * (m / 2^(c+1)) + (m % 2^(c+1) + 2^c) := by rw [← e4, e2]
    _ = m + 2^c := by omega
theorem and_zero_iff {m c : Nat} : m &&& 2^c = 0 ↔ m.testBit c = false := by
  constructor
  · intro h
    have := congrArg (fun x => x.testBit c) h
    simpa [Nat.testBit_and, Nat.testBit_two_pow_self] using this
  · intro h
    apply Nat.eq_of_testBit_eq
    intro i
    rw [Nat.testBit_and, Nat.testBit_two_pow, Nat.zero_testBit]
    by_cases e : c = i
    · subst e; simp [h]
    · simp [e]
theorem or_sub {m c : Nat} (h : m.testBit c = false) : (m ||| 2^c) - 2^c = m := by rw [or_add h]; omega
theorem or_bit {m c i : Nat} : (m ||| 2^c).testBit i = (m.testBit i || decide (c = i)) := by
  rw [Nat.testBit_or, Nat.testBit_two_pow]

/-! ### graphs by rows -/
abbrev Rows := List (List Nat)
def row (L : Rows) (v : Nat) : List Nat := L.getD v []
def Adj (L : Rows) (u v : Nat) : Prop := v ∈ row L u
structure GOk (n : Nat) (L : Rows) : Prop where
  len : L.length = n
  bnd : ∀ u v, Adj L u v → v < n
  sym : ∀ u v, Adj L u v → Adj L v u
theorem GOk.lt {n : Nat} {L : Rows} (g : GOk n L) {u v : Nat} (h : Adj L u v) : u < n := g.bnd v u (g.sym u v h)
/-- consecutive nodes are adjacent -/
def Ch (L : Rows) (p : List Nat) : Prop := ∀ (i a b : Nat), p[i]? = some a → p[i+1]? = some b → Adj L a b
theorem Ch.nil {L : Rows} : Ch L [] := fun i a b h => by simp at h
theorem Ch.one {L : Rows} (v : Nat) : Ch L [v] := fun i a b h h' => by simp at h'
theorem Ch.snoc {L : Rows} {p : List Nat} {a b : Nat} (h : Ch L (p ++ [a])) (e : Adj L a b) : Ch L (p ++ [a] ++ [b]) := by
  intro i x y hx hy
  by_cases hi : i + 1 < (p ++ [a]).length
  · rw [List.getElem?_append_left (by omega)] at hx
    rw [List.getElem?_append_left hi] at hy
    exact h i x y hx hy
  · have hl := (List.getElem?_eq_some_iff.mp hy).1
    simp only [List.length_append, List.length_singleton] at hi hl
    have e1 : i = p.length := by omega
    subst e1
    rw [List.append_assoc] at hx hy
    rw [List.getElem?_append_right (Nat.le_refl _)] at hx
    rw [List.getElem?_append_right (by omega)] at hy
    simp at hx hy
    subst hx hy
    exact e
theorem Ch.reverse {n : Nat} {L : Rows} (g : GOk n L) {p : List Nat} (h : Ch L p) : Ch L p.reverse := by
  intro i a b ha hb
  have hl := (List.getElem?_eq_some_iff.mp hb).1
  rw [List.length_reverse] at hl
  rw [List.getElem?_reverse (by omega)] at ha
  rw [List.getElem?_reverse hl] at hb
  have e : p.length - 1 - i = (p.length - 1 - (i + 1)) + 1 := by omega
  rw [e] at ha
  exact g.sym _ _ (h _ _ _ hb ha)
theorem Ch.tail {L : Rows} {a : Nat} {p : List Nat} (h : Ch L (a :: p)) : Ch L p := fun i x y hx hy => h (i + 1) x y (by simpa using hx) (by simpa using hy)
theorem Ch.left {L : Rows} {p q : List Nat} (h : Ch L (p ++ q)) : Ch L p := fun i x y hx hy => by
  have h1 := (List.getElem?_eq_some_iff.mp hx).1
  have h2 := (List.getElem?_eq_some_iff.mp hy).1
  exact h i x y (by rw [List.getElem?_append_left h1]; exact hx) (by rw [List.getElem?_append_left h2]; exact hy)

/-- a colourful path with k nodes (col = id: a path) -/
structure CP (n : Nat) (L : Rows) (col : Nat → Nat) (k : Nat) (p : List Nat) : Prop where
  len : p.length = k
  lt : ∀ v ∈ p, v < n
  nd : (p.map col).Nodup
  ch : Ch L p
theorem nd_of_map {col : Nat → Nat} : ∀ {p : List Nat}, (p.map col).Nodup → p.Nodup
  | [], _ => List.nodup_nil
  | a :: r, h => by
    rw [List.map_cons, List.nodup_cons] at h
    refine List.nodup_cons.mpr ⟨fun hm => h.1 (List.mem_map_of_mem hm), nd_of_map h.2⟩
theorem map_nd_inj {col : Nat → Nat} : ∀ {p : List Nat}, (p.map col).Nodup → ∀ a ∈ p, ∀ b ∈ p, col a = col b → a = b
  | [], _, a, ha, _, _, _ => by cases ha
  | x :: r, h, a, ha, b, hb, e => by
    rw [List.map_cons, List.nodup_cons] at h
    rcases List.mem_cons.mp ha with rfl | ha' <;> rcases List.mem_cons.mp hb with rfl | hb'
    · rfl
    · exact absurd (e ▸ List.mem_map_of_mem hb') h.1
    · exact absurd (e.symm ▸ List.mem_map_of_mem ha') h.1
    · exact map_nd_inj h.2 a ha' b hb' e
theorem CP.id {n : Nat} {L : Rows} {col : Nat → Nat} {k : Nat} {p : List Nat} (h : CP n L col k p) : CP n L (fun v => v) k p :=
  ⟨h.len, h.lt, by rw [List.map_id']; exact nd_of_map h.nd, h.ch⟩

/-- a colourful walk, last node first, and the mask of its colours -/
inductive CW (L : Rows) (col : Nat → Nat) : List Nat → Nat → Prop
  | one (v : Nat) : v < L.length → CW L col [v] (2 ^ col v)
  | step (u v : Nat) (r : List Nat) (m : Nat) : CW L col (u :: r) m → Adj L u v → m.testBit (col v) = false → CW L col (v :: u :: r) (m ||| 2 ^ col v)
section
variable {n k : Nat} {L : Rows} {col : Nat → Nat}
theorem CW.bits {q : List Nat} {m : Nat} (h : CW L col q m) : ∀ c, m.testBit c = true ↔ c ∈ q.map col := by
  induction h with
  | one v hv =>
    intro c
    rw [Nat.testBit_two_pow]
    simp [eq_comm]
  | step u v r m _ _ hb ih =>
    intro c
    rw [or_bit, Bool.or_eq_true, ih c]
    simp only [List.map_cons, List.mem_cons, decide_eq_true_eq]
    constructor
    · rintro (h | h)
      · exact .inr h
      · exact .inl h.symm
    · rintro (h | h)
      · exact .inr h.symm
      · exact .inl h
theorem CW.nd {q : List Nat} {m : Nat} (h : CW L col q m) : (q.map col).Nodup := by
  induction h with
  | one v hv => simp
  | step u v r m hw _ hb ih =>
    rw [List.map_cons, List.nodup_cons]
    refine ⟨fun hm => ?_, ih⟩
    rw [(hw.bits _).mpr hm] at hb
    cases hb
theorem CW.lt (g : GOk n L) {q : List Nat} {m : Nat} (h : CW L col q m) : ∀ v ∈ q, v < n := by
  induction h with
  | one v hv => intro x hx; rw [List.mem_singleton.mp hx, ← g.len]; exact hv
  | step u v r m hw ha hb ih =>
    intro x hx
    rcases List.mem_cons.mp hx with rfl | hx
    · exact g.bnd _ _ ha
    · exact ih x hx
theorem CW.ch (g : GOk n L) {q : List Nat} {m : Nat} (h : CW L col q m) : Ch L q := by
  induction h with
  | one v hv => exact .one v
  | step u v r m hw ha hb ih =>
    intro i a b h1 h2
    cases i with
    | zero =>
      simp at h1 h2
      subst h1 h2
      exact g.sym _ _ ha
    | succ i => exact ih i a b (by simpa using h1) (by simpa using h2)
theorem CW.cp (g : GOk n L) {q : List Nat} {m : Nat} (h : CW L col q m) : CP n L col q.length q := ⟨rfl, h.lt g, h.nd, h.ch g⟩
theorem CW.of_cp (g : GOk n L) : ∀ {q : List Nat}, q ≠ [] → CP n L col q.length q → ∃ m, CW L col q m
  | [], h, _ => absurd rfl h
  | [v], _, h => ⟨_, .one v (by rw [g.len]; exact h.lt v (by simp))⟩
  | v :: u :: r, _, h => by
    have h' : CP n L col (u :: r).length (u :: r) := ⟨rfl, fun x hx => h.lt x (List.mem_cons_of_mem _ hx), by
      have q := h.nd
      rw [List.map_cons, List.nodup_cons] at q
      exact q.2, h.ch.tail⟩
    obtain ⟨m, hm⟩ := CW.of_cp g (by simp) h'
    refine ⟨_, .step u v r m hm (g.sym _ _ (h.ch 0 v u rfl rfl)) ?_⟩
    cases e : m.testBit (col v) with
    | false => rfl
    | true =>
      have q := h.nd
      rw [List.map_cons, List.nodup_cons] at q
      exact absurd ((hm.bits _).mp e) q.1
theorem CW.ne {q : List Nat} {m : Nat} (h : CW L col q m) : q ≠ [] := by cases h <;> simp
/-- the layer j -/
def Lay (L : Rows) (col : Nat → Nat) (j v m : Nat) : Prop := ∃ r : List Nat, r.length = j ∧ CW L col (v :: r) m
theorem Lay.zero {v m : Nat} : Lay L col 0 v m ↔ v < L.length ∧ m = 2 ^ col v := by
  constructor
  · rintro ⟨r, hr, h⟩
    cases r with
    | nil => cases h; exact ⟨by assumption, rfl⟩
    | cons a r => simp at hr
  · rintro ⟨h, rfl⟩
    exact ⟨[], rfl, .one v h⟩
theorem Lay.succ {j v m : Nat} : Lay L col (j + 1) v m ↔ ∃ u m0, Lay L col j u m0 ∧ Adj L u v ∧ m0.testBit (col v) = false ∧ m = m0 ||| 2 ^ col v := by
  constructor
  · rintro ⟨r, hr, h⟩
    cases h with
    | one => simp at hr
    | step u _ r m0 hw ha hb => exact ⟨u, m0, ⟨r, by simpa using hr, hw⟩, ha, hb, rfl⟩
  · rintro ⟨u, m0, ⟨r, hr, hw⟩, ha, hb, rfl⟩
    exact ⟨u :: r, by simp [hr], .step u v r m0 hw ha hb⟩
theorem Lay.lt (g : GOk n L) {j v m : Nat} (h : Lay L col j v m) : v < n := by
  obtain ⟨r, _, hw⟩ := h
  exact hw.lt g v (by simp)
theorem Lay.cp (g : GOk n L) {j v m : Nat} (h : Lay L col j v m) : ∃ p, CP n L col (j + 1) p := by
  obtain ⟨r, hr, hw⟩ := h
  refine ⟨v :: r, ?_⟩
  have q := hw.cp g
  rw [List.length_cons, hr] at q
  exact q
theorem Lay.of_cp (g : GOk n L) {j : Nat} {p : List Nat} (h : CP n L col (j + 1) p) : ∃ v m, Lay L col j v m := by
  cases p with
  | nil => have := h.len; simp at this
  | cons v r =>
    have hr : r.length = j := by have := h.len; simpa using this
    have h' : CP n L col (v :: r).length (v :: r) := by rw [h.len]; exact h
    obtain ⟨m, hm⟩ := CW.of_cp g (by simp) h'
    exact ⟨v, m, r, hr, hm⟩
theorem Lay.pred {j : Nat} (h : ∃ v m, Lay L col (j + 1) v m) : ∃ v m, Lay L col j v m := by
  obtain ⟨v, m, h⟩ := h
  obtain ⟨u, m0, h, _⟩ := Lay.succ.mp h
  exact ⟨u, m0, h⟩
theorem Lay.pred_le {j : Nat} : ∀ {i : Nat}, i ≤ j → (∃ v m, Lay L col j v m) → ∃ v m, Lay L col i v m := by
  induction j with
  | zero => intro i hi h; rw [Nat.le_zero.mp hi]; exact h
  | succ j ih =>
    intro i hi h
    rcases Nat.lt_or_ge i (j + 1) with q | q
    · exact ih (by omega) (Lay.pred h)
    · rw [show i = j + 1 by omega]; exact h

/-! ### the way back -/
def WB (n : Nat) (L : Rows) (col : Nat → Nat) (j : Nat) (q : List Nat) (v M : Nat) : Prop :=
  ∃ q0 : List Nat, q = q0 ++ [v] ∧ Lay L col j v M ∧ (∀ x ∈ q0, x < n ∧ M.testBit (col x) = false) ∧ (q0.map col).Nodup ∧ Ch L q
theorem WB.start {j v M : Nat} (h : Lay L col j v M) : WB n L col j [v] v M := ⟨[], rfl, h, by simp, by simp, .one v⟩
theorem WB.sub (g : GOk n L) {j v M : Nat} {q : List Nat} (h : WB n L col (j + 1) q v M) : 2 ^ col v ≤ M := by
  obtain ⟨q0, rfl, hl, _⟩ := h
  obtain ⟨u, m0, hl0, ha, hb, rfl⟩ := Lay.succ.mp hl
  exact Nat.right_le_or
theorem WB.some (g : GOk n L) {j v M : Nat} {q : List Nat} (h : WB n L col (j + 1) q v M) : ∃ o, o ∈ row L v ∧ Lay L col j o (M - 2 ^ col v) := by
  obtain ⟨q0, rfl, hl, _⟩ := h
  obtain ⟨u, m0, hl0, ha, hb, rfl⟩ := Lay.succ.mp hl
  exact ⟨u, g.sym _ _ ha, by rw [or_sub hb]; exact hl0⟩
theorem WB.step (g : GOk n L) {j v M o : Nat} {q : List Nat} (h : WB n L col (j + 1) q v M) (ho : o ∈ row L v) (hl2 : Lay L col j o (M - 2 ^ col v)) : WB n L col j (q ++ [o]) o (M - 2 ^ col v) := by
  obtain ⟨q0, rfl, hl, hx, hn, hc⟩ := h
  have hv := hl.lt g
  obtain ⟨u, m0, hl0, ha, hb, rfl⟩ := Lay.succ.mp hl
  rw [or_sub hb] at hl2 ⊢
  refine ⟨q0 ++ [v], rfl, hl2, fun x hx' => ?_, ?_, hc.snoc ho⟩
  · rcases List.mem_append.mp hx' with hx' | hx'
    · obtain ⟨h1, h2⟩ := hx x hx'
      refine ⟨h1, ?_⟩
      rw [or_bit, Bool.or_eq_false_iff] at h2
      exact h2.1
    · rw [List.mem_singleton.mp hx']
      exact ⟨hv, hb⟩
  · rw [List.map_append, List.nodup_append]
    refine ⟨hn, by simp, fun a ha' b hb' => ?_⟩
    obtain ⟨x, hx', rfl⟩ := List.mem_map.mp ha'
    simp at hb'
    subst hb'
    intro e
    have h2 := (hx x hx').2
    rw [or_bit, e] at h2
    simp at h2
theorem WB.done (g : GOk n L) {v M : Nat} {q : List Nat} (h : WB n L col 0 q v M) : CP n L col q.length q.reverse := by
  obtain ⟨q0, rfl, hl, hx, hn, hc⟩ := h
  have hv := hl.lt g
  obtain ⟨_, rfl⟩ := Lay.zero.mp hl
  refine ⟨by simp, fun x hx' => ?_, ?_, hc.reverse g⟩
  · rw [List.mem_reverse] at hx'
    rcases List.mem_append.mp hx' with hx' | hx'
    · exact (hx x hx').1
    · rw [List.mem_singleton.mp hx']; exact hv
  · rw [List.map_reverse]
    unfold List.Nodup
    rw [List.pairwise_reverse]
    refine List.Pairwise.imp (fun h => Ne.symm h) ?_
    rw [List.map_append]
    refine List.nodup_append.mpr ⟨hn, by simp, fun a ha' b hb' => ?_⟩
    obtain ⟨x, hx', rfl⟩ := List.mem_map.mp ha'
    simp at hb'
    subst hb'
    intro e
    have h2 := (hx x hx').2
    rw [e, Nat.testBit_two_pow_self] at h2
    cases h2
end
end K53
namespace K53
/-! ### masks of colour lists -/
def stepM (o : Option Nat) (c : Nat) : Option Nat := match o with
  | none => none
  | some m => if m.testBit c = true then none else some (m ||| 2 ^ c)
def mkS (cols : List Nat) : Option Nat := cols.foldl stepM (some 0)
theorem mkS_snoc (cols : List Nat) (c : Nat) : mkS (cols ++ [c]) = stepM (mkS cols) c := by unfold mkS; rw [List.foldl_append]; rfl
theorem stepM_t {m c : Nat} (h : m.testBit c = true) : stepM (some m) c = none := by simp [stepM, h]
theorem stepM_f {m c : Nat} (h : m.testBit c = false) : stepM (some m) c = some (m ||| 2 ^ c) := by simp [stepM, h]
theorem fold_none : ∀ cols : List Nat, cols.foldl stepM none = none
  | [] => rfl
  | _ :: r => fold_none r
theorem fold_spec : ∀ (cols : List Nat) (m : Nat) (A : List Nat), (∀ c, m.testBit c = true ↔ c ∈ A) → A.Nodup →
    (∃ m', cols.foldl stepM (some m) = some m' ∧ (A ++ cols).Nodup ∧ ∀ c, m'.testBit c = true ↔ c ∈ A ++ cols) ∨ (cols.foldl stepM (some m) = none ∧ ¬ (A ++ cols).Nodup)
  | [], m, A, h, nd => .inl ⟨m, rfl, by rwa [List.append_nil], by rwa [List.append_nil]⟩
  | c :: r, m, A, h, nd => by
    rw [List.foldl_cons]
    by_cases hc : m.testBit c = true
    · refine .inr ⟨by rw [stepM_t hc]; exact fold_none r, fun z => ?_⟩
      have := (List.nodup_append.mp z).2.2 c ((h c).mp hc) c (by simp)
      exact this rfl
    · have e : A ++ c :: r = (A ++ [c]) ++ r := by simp
      have q := fold_spec r (m ||| 2 ^ c) (A ++ [c]) (fun x => by
        rw [or_bit, Bool.or_eq_true, h x, decide_eq_true_eq, List.mem_append, List.mem_singleton]
        exact or_congr Iff.rfl eq_comm) (List.nodup_append.mpr ⟨nd, by simp, fun a ha b hb z => by
          rw [List.mem_singleton] at hb
          subst z hb
          exact hc ((h a).mpr ha)⟩)
      rw [e]
      show (∃ m', r.foldl stepM (stepM (some m) c) = some m' ∧ _) ∨ (r.foldl stepM (stepM (some m) c) = none ∧ _)
      rw [stepM_f (by simpa using hc)]
      exact q
theorem mkS_spec (cols : List Nat) : (∃ m, mkS cols = some m ∧ cols.Nodup ∧ ∀ c, m.testBit c = true ↔ c ∈ cols) ∨ (mkS cols = none ∧ ¬ cols.Nodup) := by
  have q := fold_spec cols 0 [] (fun c => by simp) List.nodup_nil
  rwa [List.nil_append] at q
theorem mkS_nd {cols : List Nat} {m : Nat} (h : mkS cols = some m) : cols.Nodup := by
  rcases mkS_spec cols with ⟨m', e, nd, _⟩ | ⟨e, _⟩
  · exact nd
  · rw [h] at e; cases e
theorem mkS_bit {cols : List Nat} {m : Nat} (h : mkS cols = some m) (c : Nat) : m.testBit c = true ↔ c ∈ cols := by
  rcases mkS_spec cols with ⟨m', e, _, b⟩ | ⟨e, _⟩
  · rw [h] at e; cases e; exact b c
  · rw [h] at e; cases e
theorem mkS_of {cols : List Nat} (h : cols.Nodup) : ∃ m, mkS cols = some m := by
  rcases mkS_spec cols with ⟨m', e, _, b⟩ | ⟨_, n⟩
  · exact ⟨m', e⟩
  · exact absurd h n

/-! ### the hope of a set -/
def fct : Nat → Nat
  | 0 => 1
  | n + 1 => fct n * (n + 1)
def chn (k l : Nat) : Nat := fct l * k ^ (k - l)
theorem fct_pos : ∀ n, 0 < fct n
  | 0 => by decide
  | n + 1 => Nat.mul_pos (fct_pos n) (Nat.succ_pos n)
def pre (S : List Nat) (j : Nat) : List Nat := S.filter fun x => decide (x < j)
def colsOf (c S : List Nat) : List Nat := (pre S c.length).map fun x => c.getD x 0
def szOf (k : Nat) (c S : List Nat) : Nat := k - (pre S c.length).length
def mkOf (c S : List Nat) : Option Nat := mkS (colsOf c S)
def wt (k : Nat) (c S : List Nat) : Nat := match mkOf c S with
  | none => 0
  | some _ => chn k (szOf k c S)
theorem pre_notin {S : List Nat} {j : Nat} (h : j ∉ S) : pre S (j + 1) = pre S j := by
  unfold pre
  refine List.filter_congr fun x hx => ?_
  have : x ≠ j := fun e => h (e ▸ hx)
  exact decide_eq_decide.mpr (by omega)
theorem pre_in : ∀ {S : List Nat} {j : Nat}, S.Pairwise (· < ·) → j ∈ S → pre S (j + 1) = pre S j ++ [j]
  | a :: r, j, hp, hj => by
    obtain ⟨h1, h2⟩ := List.pairwise_cons.mp hp
    rcases List.mem_cons.mp hj with rfl | hj
    · have e1 : pre r j = [] := by
        unfold pre
        refine List.filter_eq_nil_iff.mpr fun x hx => ?_
        have := h1 x hx
        simp; omega
      have e2 : pre r (j + 1) = [] := by
        unfold pre
        refine List.filter_eq_nil_iff.mpr fun x hx => ?_
        have := h1 x hx
        simp; omega
      unfold pre at e1 e2 ⊢
      rw [List.filter_cons, List.filter_cons, e1, e2, if_pos (by simp), if_neg (by simp)]
      rfl
    · have := h1 j hj
      have ih := pre_in h2 hj
      unfold pre at ih ⊢
      rw [List.filter_cons, List.filter_cons, if_pos (by simp; omega), if_pos (by simp; omega), ih]
      rfl
theorem colsOf_ext (c S : List Nat) (b : Nat) : (pre S c.length).map (fun x => (c ++ [b]).getD x 0) = colsOf c S := by
  unfold colsOf
  refine List.map_congr_left fun x hx => ?_
  have : x < c.length := by unfold pre at hx; simpa using (List.mem_filter.mp hx).2
  rw [List.getD_eq_getElem?_getD, List.getD_eq_getElem?_getD, List.getElem?_append_left this]
section
variable {k : Nat} {c S : List Nat} {b : Nat}
theorem colsOf_notin (h : c.length ∉ S) : colsOf (c ++ [b]) S = colsOf c S := by
  show (pre S (c ++ [b]).length).map _ = _
  rw [List.length_append, List.length_singleton, pre_notin h]
  exact colsOf_ext c S b
theorem colsOf_in (hp : S.Pairwise (· < ·)) (h : c.length ∈ S) : colsOf (c ++ [b]) S = colsOf c S ++ [b] := by
  show (pre S (c ++ [b]).length).map _ = _
  rw [List.length_append, List.length_singleton, pre_in hp h, List.map_append, colsOf_ext c S b]
  simp
theorem szOf_notin (h : c.length ∉ S) : szOf k (c ++ [b]) S = szOf k c S := by unfold szOf; rw [List.length_append, List.length_singleton, pre_notin h]
theorem szOf_in (hp : S.Pairwise (· < ·)) (h : c.length ∈ S) : szOf k (c ++ [b]) S = szOf k c S - 1 := by
  unfold szOf; rw [List.length_append, List.length_singleton, pre_in hp h, List.length_append, List.length_singleton]; omega
theorem mkOf_notin (h : c.length ∉ S) : mkOf (c ++ [b]) S = mkOf c S := by unfold mkOf; rw [colsOf_notin h]
theorem mkOf_in (hp : S.Pairwise (· < ·)) (h : c.length ∈ S) : mkOf (c ++ [b]) S = stepM (mkOf c S) b := by unfold mkOf; rw [colsOf_in hp h, mkS_snoc]
theorem wt_notin (h : c.length ∉ S) : wt k (c ++ [b]) S = wt k c S := by unfold wt; rw [mkOf_notin h, szOf_notin h]
theorem szOf_pos (hp : S.Pairwise (· < ·)) (hl : S.length = k) (h : c.length ∈ S) : 1 ≤ szOf k c S ∧ szOf k c S ≤ k := by
  have e := pre_in hp h
  have l : (pre S (c.length + 1)).length ≤ S.length := List.length_filter_le _ _
  rw [e, List.length_append, List.length_singleton] at l
  unfold szOf
  omega
/-- what best_colour adds for a set and a colour -/
def addOf (k : Nat) (o : Option Nat) (sz b : Nat) : Nat := match o with
  | none => 0
  | some m => if m.testBit b = true then 0 else chn k (sz - 1)
theorem wt_in (hp : S.Pairwise (· < ·)) (h : c.length ∈ S) : wt k (c ++ [b]) S = addOf k (mkOf c S) (szOf k c S) b := by
  unfold wt addOf
  rw [mkOf_in hp h, szOf_in hp h]
  cases mkOf c S with
  | none => rfl
  | some m =>
    by_cases z : m.testBit b = true
    · simp [stepM, z]
    · simp [stepM, z]
end
/-! ### sums -/
theorem sum_if {p : Nat → Bool} {w : Nat} : ∀ l : List Nat, (l.map fun b => if p b = true then 0 else w).sum = (l.filter fun b => !p b).length * w
  | [] => by simp
  | a :: r => by
    rw [List.map_cons, List.sum_cons, sum_if r, List.filter_cons]
    by_cases h : p a = true
    · simp [h]
    · have h' : p a = false := by simpa using h
      simp [h', Nat.add_mul]; omega
theorem count_free (k : Nat) : ∀ l : List Nat, l.Nodup → (∀ x ∈ l, x < k) → ((List.range k).filter fun b => !l.contains b).length + l.length = k
  | [], _, _ => by
    have e : (List.range k).filter (fun b => !([] : List Nat).contains b) = List.range k := List.filter_eq_self.mpr fun x _ => rfl
    rw [e]
    simp
  | a :: r, nd, hl => by
    obtain ⟨h1, h2⟩ := List.nodup_cons.mp nd
    have ih := count_free k r h2 fun x hx => hl x (List.mem_cons_of_mem _ hx)
    have nd' : ((List.range k).filter fun b => !r.contains b).Nodup := List.Nodup.sublist List.filter_sublist List.nodup_range
    have ha : a ∈ (List.range k).filter fun b => !r.contains b := by
      rw [List.mem_filter]
      exact ⟨List.mem_range.mpr (hl a (by simp)), by simpa using h1⟩
    have e : ((List.range k).filter fun b => !(a :: r).contains b) = ((List.range k).filter fun b => !r.contains b).erase a := by
      rw [nd'.erase_eq_filter, List.filter_filter]
      refine List.filter_congr fun x hx => ?_
      rw [List.contains_cons]
      cases h3 : (x == a) <;> simp [bne, h3]
    rw [e, List.length_erase_of_mem ha, List.length_cons]
    have : 0 < ((List.range k).filter fun b => !r.contains b).length := List.length_pos_of_mem ha
    omega
theorem sum_add {α : Type} (f g : α → Nat) : ∀ l : List α, (l.map fun x => f x + g x).sum = (l.map f).sum + (l.map g).sum
  | [] => rfl
  | a :: r => by simp only [List.map_cons, List.sum_cons, sum_add f g r]; omega
theorem sum_mul {α : Type} (f : α → Nat) (k : Nat) : ∀ l : List α, (l.map fun x => k * f x).sum = k * (l.map f).sum
  | [] => rfl
  | a :: r => by simp only [List.map_cons, List.sum_cons, sum_mul f k r, Nat.mul_add]
theorem sum_zero {α : Type} : ∀ l : List α, (l.map fun _ => 0).sum = 0
  | [] => rfl
  | a :: r => by simp only [List.map_cons, List.sum_cons, sum_zero r]
theorem sum_swap {α β : Type} (f : α → β → Nat) (m : List β) : ∀ l : List α, (l.map fun x => (m.map fun y => f x y).sum).sum = (m.map fun y => (l.map fun x => f x y).sum).sum
  | [] => by simp only [List.map_nil, List.sum_nil]; exact (sum_zero m).symm
  | a :: r => by
    simp only [List.map_cons, List.sum_cons]
    rw [sum_swap f m r, ← sum_add]
theorem sum_le {α : Type} {f g : α → Nat} : ∀ {l : List α}, (∀ x ∈ l, f x ≤ g x) → (l.map f).sum ≤ (l.map g).sum
  | [], _ => Nat.le_refl _
  | a :: r, h => by
    simp only [List.map_cons, List.sum_cons]
    exact Nat.add_le_add (h a (by simp)) (sum_le fun x hx => h x (List.mem_cons_of_mem _ hx))
theorem sum_congr {α : Type} {f g : α → Nat} {l : List α} (h : ∀ x ∈ l, f x = g x) : (l.map f).sum = (l.map g).sum := by rw [List.map_congr_left h]
theorem sum_const_le {m : Nat} {f : Nat → Nat} : ∀ {l : List Nat}, (∀ x ∈ l, f x ≤ m) → (l.map f).sum ≤ l.length * m
  | [], _ => by simp
  | a :: r, h => by
    simp only [List.map_cons, List.sum_cons, List.length_cons, Nat.add_mul]
    have := sum_const_le (l := r) (f := f) fun x hx => h x (List.mem_cons_of_mem _ hx)
    have := h a (by simp)
    omega
theorem sum_split {α : Type} (f : α → Nat) (p : α → Bool) : ∀ l : List α, (l.map f).sum = ((l.filter p).map f).sum + ((l.filter fun x => !p x).map f).sum
  | [] => rfl
  | a :: r => by
    rw [List.map_cons, List.sum_cons, sum_split f p r, List.filter_cons, List.filter_cons]
    cases p a <;> simp <;> omega
theorem sum_pos_mem {α : Type} {f : α → Nat} : ∀ {l : List α}, 0 < (l.map f).sum → ∃ x ∈ l, 0 < f x
  | [], h => by simp at h
  | a :: r, h => by
    rw [List.map_cons, List.sum_cons] at h
    by_cases ha : 0 < f a
    · exact ⟨a, by simp, ha⟩
    · obtain ⟨x, hx, h'⟩ := sum_pos_mem (l := r) (f := f) (by omega)
      exact ⟨x, List.mem_cons_of_mem _ hx, h'⟩
theorem sum_mem_le {α : Type} {f : α → Nat} : ∀ {l : List α} {x : α}, x ∈ l → f x ≤ (l.map f).sum
  | a :: r, x, h => by
    rw [List.map_cons, List.sum_cons]
    rcases List.mem_cons.mp h with rfl | h
    · omega
    · have := sum_mem_le (f := f) h; omega

/-! ### the hope does not fall -/
theorem chn_succ {k s : Nat} (h : s + 1 ≤ k) : (s + 1) * chn k s = k * chn k (s + 1) := by
  unfold chn
  have e : k - s = (k - (s + 1)) + 1 := by omega
  rw [e, Nat.pow_succ]
  show (s + 1) * (fct s * (k ^ (k - (s + 1)) * k)) = k * ((fct s * (s + 1)) * k ^ (k - (s + 1)))
  generalize k ^ (k - (s + 1)) = z
  generalize fct s = y
  rw [Nat.mul_comm z k, Nat.mul_comm y (s + 1), Nat.mul_assoc (s + 1) y z, Nat.mul_left_comm y k z, Nat.mul_left_comm (s + 1) k]
section
variable {k : Nat} {c S : List Nat}
theorem wt_sum (hp : S.Pairwise (· < ·)) (hl : S.length = k) (hc : ∀ x ∈ c, x < k) (hk : 0 < k) (h : c.length ∈ S) : ((List.range k).map fun b => wt k (c ++ [b]) S).sum = k * wt k c S := by
  rw [sum_congr (g := fun b => addOf k (mkOf c S) (szOf k c S) b) fun b _ => wt_in hp h]
  unfold addOf wt
  cases e : mkOf c S with
  | none => simp only []; rw [sum_zero]; rfl
  | some m =>
    simp only []
    rw [sum_if (p := fun b => m.testBit b)]
    have nd := mkS_nd e
    have bits := mkS_bit e
    have lt : ∀ x ∈ colsOf c S, x < k := fun x hx => by
      unfold colsOf at hx
      obtain ⟨y, hy, rfl⟩ := List.mem_map.mp hx
      have : y < c.length := by unfold pre at hy; simpa using (List.mem_filter.mp hy).2
      rw [List.getD_eq_getElem?_getD, List.getElem?_eq_getElem this]
      exact hc _ (List.getElem_mem this)
    have ef : ((List.range k).filter fun b => !m.testBit b) = (List.range k).filter fun b => !(colsOf c S).contains b := by
      refine List.filter_congr fun x _ => ?_
      congr 1
      rw [Bool.eq_iff_iff, bits x]
      simp
    have cf := count_free k _ nd lt
    rw [ef]
    have el : (colsOf c S).length = (pre S c.length).length := List.length_map ..
    obtain ⟨s1, s2⟩ := szOf_pos (c := c) hp hl h
    have ez : ((List.range k).filter fun b => !(colsOf c S).contains b).length = szOf k c S := by unfold szOf; omega
    rw [ez]
    obtain ⟨s, es⟩ : ∃ s, szOf k c S = s + 1 := ⟨szOf k c S - 1, by omega⟩
    rw [es]
    exact chn_succ (by omega)
theorem wt_full (hn : ∀ x ∈ S, x < c.length) (h : 0 < wt k c S) : (S.map fun x => c.getD x 0).Nodup := by
  unfold wt at h
  cases e : mkOf c S with
  | none => rw [e] at h; simp at h
  | some m =>
    have nd := mkS_nd e
    have ep : pre S c.length = S := by unfold pre; exact List.filter_eq_self.mpr fun x hx => decide_eq_true (hn x hx)
    unfold colsOf at nd
    rwa [ep] at nd
theorem wt_start (hk : S.length = k) : wt k [] S = fct k := by
  have ep : pre S 0 = [] := by unfold pre; exact List.filter_eq_nil_iff.mpr fun x _ => by simp
  unfold wt mkOf colsOf szOf
  show (match mkS ((pre S 0).map _) with
    | none => 0
    | some _ => chn k (k - (pre S 0).length)) = _
  rw [ep]
  show fct k * k ^ (k - (k - 0)) = fct k
  rw [Nat.sub_zero, Nat.sub_self, Nat.pow_zero, Nat.mul_one]
end
/-- all sets -/
def Phi (k : Nat) (sets : List (List Nat)) (c : List Nat) : Nat := ((List.range sets.length).map fun i => wt k c (sets.getD i [])).sum
def rowOf (sets : List (List Nat)) (v t : Nat) : List Nat := (List.range t).filter fun i => (sets.getD i []).contains v
structure SetsOk (n k : Nat) (sets : List (List Nat)) : Prop where
  asc : ∀ S ∈ sets, S.Pairwise (· < ·)
  len : ∀ S ∈ sets, S.length = k
  lt : ∀ S ∈ sets, ∀ x ∈ S, x < n
theorem SetsOk.at_ {n k : Nat} {sets : List (List Nat)} (o : SetsOk n k sets) {i : Nat} (h : i < sets.length) : sets.getD i [] ∈ sets := by
  rw [List.getD_eq_getElem?_getD, List.getElem?_eq_getElem h]
  exact List.getElem_mem h
theorem Phi_step {n k : Nat} {sets : List (List Nat)} {c : List Nat} {b : Nat} (o : SetsOk n k sets) (hk : 0 < k) (hc : ∀ x ∈ c, x < k)
    (hb : ∀ b' < k, ((rowOf sets c.length sets.length).map fun i => addOf k (mkOf c (sets.getD i [])) (szOf k c (sets.getD i [])) b').sum ≤ ((rowOf sets c.length sets.length).map fun i => addOf k (mkOf c (sets.getD i [])) (szOf k c (sets.getD i [])) b).sum) :
    Phi k sets c ≤ Phi k sets (c ++ [b]) := by
  have hin : ∀ i ∈ rowOf sets c.length sets.length, i < sets.length ∧ c.length ∈ sets.getD i [] := fun i hi => by
    unfold rowOf at hi
    obtain ⟨h1, h2⟩ := List.mem_filter.mp hi
    exact ⟨List.mem_range.mp h1, by simpa using h2⟩
  have e1 : ∀ b', ((rowOf sets c.length sets.length).map fun i => addOf k (mkOf c (sets.getD i [])) (szOf k c (sets.getD i [])) b').sum = ((rowOf sets c.length sets.length).map fun i => wt k (c ++ [b']) (sets.getD i [])).sum := fun b' =>
    sum_congr fun i hi => (wt_in (o.asc _ (o.at_ (hin i hi).1)) (hin i hi).2).symm
  have e2 : ((List.range k).map fun b' => ((rowOf sets c.length sets.length).map fun i => wt k (c ++ [b']) (sets.getD i [])).sum).sum = k * ((rowOf sets c.length sets.length).map fun i => wt k c (sets.getD i [])).sum := by
    rw [sum_swap, ← sum_mul]
    exact sum_congr fun i hi => wt_sum (o.asc _ (o.at_ (hin i hi).1)) (o.len _ (o.at_ (hin i hi).1)) hc hk (hin i hi).2
  have e3 : k * ((rowOf sets c.length sets.length).map fun i => wt k c (sets.getD i [])).sum ≤ k * ((rowOf sets c.length sets.length).map fun i => wt k (c ++ [b]) (sets.getD i [])).sum := by
    rw [← e2]
    have := sum_const_le (l := List.range k) (m := ((rowOf sets c.length sets.length).map fun i => wt k (c ++ [b]) (sets.getD i [])).sum) (f := fun b' => ((rowOf sets c.length sets.length).map fun i => wt k (c ++ [b']) (sets.getD i [])).sum) fun x hx => by
      have := hb x (List.mem_range.mp hx)
      rwa [e1, e1] at this
    rwa [List.length_range] at this
  have e4 := Nat.le_of_mul_le_mul_left e3 hk
  unfold Phi
  rw [sum_split _ (fun i => (sets.getD i []).contains c.length), sum_split (fun i => wt k (c ++ [b]) (sets.getD i [])) (fun i => (sets.getD i []).contains c.length)]
  refine Nat.add_le_add e4 (sum_le fun i hi => ?_)
  have h2 := (List.mem_filter.mp hi).2
  rw [wt_notin (by simpa using h2)]
  exact Nat.le_refl _
theorem Phi_start {n k : Nat} {sets : List (List Nat)} (o : SetsOk n k sets) (h : sets ≠ []) : 0 < Phi k sets [] := by
  have h0 : 0 < sets.length := List.length_pos_iff.mpr h
  have e : wt k [] (sets.getD 0 []) = fct k := wt_start (o.len _ (o.at_ h0))
  have := sum_mem_le (f := fun i => wt k [] (sets.getD i [])) (List.mem_range.mpr h0)
  have := fct_pos k
  show 0 < ((List.range sets.length).map fun i => wt k [] (sets.getD i [])).sum
  omega
theorem Phi_end {n k : Nat} {sets : List (List Nat)} {c : List Nat} (o : SetsOk n k sets) (hc : c.length = n) (h : 0 < Phi k sets c) : ∃ i, i < sets.length ∧ ∃ m, mkOf c (sets.getD i []) = some m := by
  obtain ⟨i, hi, hw⟩ := sum_pos_mem h
  refine ⟨i, List.mem_range.mp hi, ?_⟩
  unfold wt at hw
  cases e : mkOf c (sets.getD i []) with
  | none => rw [e] at hw; simp at hw
  | some m => exact ⟨m, rfl⟩
theorem mkOf_full {c S : List Nat} (hn : ∀ x ∈ S, x < c.length) : (∃ m, mkOf c S = some m) ↔ (S.map fun x => c.getD x 0).Nodup := by
  have ep : pre S c.length = S := by unfold pre; exact List.filter_eq_self.mpr fun x hx => decide_eq_true (hn x hx)
  have e : mkOf c S = mkS (S.map fun x => c.getD x 0) := by unfold mkOf colsOf; rw [ep]
  rw [e]
  exact ⟨fun ⟨m, h⟩ => mkS_nd h, mkS_of⟩
end K53
namespace K53
open PySem PySem.Spec PyProof.Rows L2
/-! ### a store, told by what it leaves -/
theorem updI {G : Hp → Prop} {H : Hp} {p : Addr} {o : HO} (k : ∀ H' : Hp, H' p = some o → (∀ b, b ≠ p → H' b = H b) → G H') : G (upd H p o) := k _ upd_same fun _ h => upd_ne h
theorem Same.but {H H1 H2 : Hp} {p : Addr} (s : Same H H1) (h : H p = none) (k : ∀ b, b ≠ p → H2 b = H1 b) : Same H H2 := fun b o e => by rw [k b (ne_of_none e h)]; exact s b o e
theorem Same.step {H H2 : Hp} {p : Addr} (h : H p = none) (k : ∀ b, b ≠ p → H2 b = H b) : Same H H2 := fun b o e => by rw [k b (ne_of_none e h)]; exact e
/-! ### comprehensions: one value for each turn -/
def But (D : Addr) (H H' : Hp) : Prop := ∀ b o, b ≠ D → H b = some o → H' b = some o
theorem But.of {D : Addr} {H H' : Hp} (s : Same H H') : But D H H' := fun b o _ h => s b o h
theorem But.upd {D : Addr} {H : Hp} {o : HO} : But D H (upd H D o) := fun b u hb h => by rw [upd_ne hb]; exact h
theorem lc_map {J : It} {n : Nat} {G : Hp → Prop} {Y : Nat → Hp → V → Hp → Prop} (w : Walk J n G Y) {g : TG} {te : TE} {vs : List Nat} {σ : L2.St} {H1 : Hp} {D : Addr} {Qd : Hp → Prop} (R : Nat → V → Hp → Prop)
    (hn : n ≤ 100000) (hD : H1 D = none) (hG : ∀ H, Same H1 H → G H) (hR : ∀ i y H H', R i y H → But D H H' → R i y H') (hY : ∀ i H x H', Y i H x H' → Same H H')
    (hs : ∀ i x H H' (Q' : VK), i < n → Same H1 H → (∃ ys, H D = some (.lst ys)) → Y i H x H' → (∀ y H4, Same H' H4 → R i y H4 → Q' y H4) → g x (wipe σ vs) H' fun σ2 H2 => wipe σ2 vs = wipe σ vs ∧ te σ2 H2 Q')
    (hd : ∀ H ys, Same H1 H → H D = some (.lst ys) → ys.length = n → (∀ i y, ys[i]? = some y → R i y H) → Qd H) :
    ∃ W : Nat → Nat → Hp → Prop, (∃ m, W 0 m (L2.upd H1 D (.lst []))) ∧ ∀ i m H, W i m H →
      (J.stop i H ∧ Qd H) ∨ (J.go i H ∧ ∃ Nx : Hp → Prop, (∀ H', Nx H' → ∃ m', m' < m ∧ W (i + 1) m' H') ∧ ∀ x H', J.yld i H x H' → g x (wipe σ vs) H' fun σ2 H2 => wipe σ2 vs = wipe σ vs ∧ tYes σ2 H2 fun b H3 =>
        if b = true then te σ2 H3 fun y H4 => ∃ acc, H4 D = some (.lst acc) ∧ acc.length < sizeLine ∧ Nx (L2.upd H4 D (.lst (acc ++ [y]))) else Nx H3) := by
  refine lc_it w (fun i H => Same H1 H ∧ ∃ ys, H D = some (.lst ys) ∧ ys.length = i ∧ ∀ j y, ys[j]? = some y → R j y H)
    ⟨Same.new hD, [], upd_same, rfl, fun j y h => by simp at h⟩ (fun i H _ p => hG H p.1) ?_ (fun H ⟨s, ys, e, l, r⟩ => hd H ys s e l r)
  rintro i x H H' hi ⟨s, ys, e, l, r⟩ y
  have s' := hY i H x H' y
  refine hs i x H H' (fun z H4 => ∃ acc, H4 D = some (.lst acc) ∧ acc.length < sizeLine ∧ (Same H1 (L2.upd H4 D (.lst (acc ++ [z]))) ∧ ∃ ys, (L2.upd H4 D (.lst (acc ++ [z]))) D = some (.lst ys) ∧ ys.length = i + 1 ∧ ∀ j y, ys[j]? = some y → R j y (L2.upd H4 D (.lst (acc ++ [z])))))
    hi s ⟨ys, e⟩ y fun z H4 s4 r4 => ?_
  have e4 := s4 _ _ (s' _ _ e)
  refine ⟨ys, e4, by rw [l]; exact sz5 (by omega), Same.mut (fun b o h => s4 b o (s' b o (s b o h))) hD, ys ++ [z], upd_same, by rw [List.length_append, l]; rfl, fun j y' hj => ?_⟩
  rcases Nat.lt_or_ge j ys.length with h | h
  · rw [List.getElem?_append_left h] at hj
    exact hR j y' H _ (r j y' hj) fun b o hb h => by rw [upd_ne hb]; exact s4 b o (s' b o h)
  · rw [List.getElem?_append_right h] at hj
    have e0 : j = i := by
      have := (List.getElem?_eq_some_iff.mp hj).1
      simp at this; omega
    subst e0
    rw [l, Nat.sub_self] at hj
    cases hj
    exact hR _ _ H4 _ r4 But.upd
/-- .. pure values -/
theorem ext_fn {ys : List V} {n : Nat} {f : Nat → V} (l : ys.length = n) (h : ∀ (i : Nat) (y : V), ys[i]? = some y → y = f i) : ys = (List.range n).map f := by
  refine List.ext_getElem? fun i => ?_
  rcases Nat.lt_or_ge i n with hi | hi
  · rw [List.getElem?_map, List.getElem?_range hi, List.getElem?_eq_getElem (by omega)]
    exact congrArg some (h i _ (List.getElem?_eq_getElem (by omega)))
  · rw [List.getElem?_eq_none (by omega), List.getElem?_eq_none (by simp; omega)]
theorem ySame_at {xs : List V} : ∀ i H x H', YAt xs i H x H' → Same H H' := fun i H x H' y => by rw [y.1]; exact Same.refl H
theorem ySame_fn {f : Nat → V} : ∀ i H x H', YFn f i H x H' → Same H H' := fun i H x H' y => by rw [y.1]; exact Same.refl H
theorem ySame_pair {a b : Nat → Option V} : ∀ i H x H', YPair a b i H x H' → Same H H' := fun i H x H' ⟨T, u, v, _, hT, e, _⟩ => by rw [e]; exact Same.new hT
/-! ### lists over a range -/
theorem mapR_set {α : Type} (N : Nat) (g : Nat → α) (i : Nat) (x : α) : ((List.range N).map g).set i x = (List.range N).map fun l => if l = i then x else g l := by
  refine List.ext_getElem? fun j => ?_
  rw [List.getElem?_map]
  rcases Nat.lt_or_ge j N with hj | hj
  · rw [List.getElem?_range hj]
    by_cases e : i = j
    · subst e
      rw [List.getElem?_set_self (by simpa using hj)]; simp
    · rw [List.getElem?_set_ne e, List.getElem?_map, List.getElem?_range hj]
      simp [Ne.symm e]
  · rw [List.getElem?_eq_none (by simpa using hj), List.getElem?_eq_none (by simpa using hj)]; rfl
theorem mapR_get {α : Type} {N : Nat} {g : Nat → α} {i : Nat} (h : i < N) : ((List.range N).map g)[i]? = some (g i) := by rw [List.getElem?_map, List.getElem?_range h]; rfl
theorem mapR_congr {α : Type} {N : Nat} {f g : Nat → α} (h : ∀ i, i < N → f i = g i) : (List.range N).map f = (List.range N).map g := List.map_congr_left fun i hi => h i (List.mem_range.mp hi)
theorem nvs_mapR (N : Nat) (f : Nat → Nat) : nvs ((List.range N).map f) = (List.range N).map fun i => nv (f i) := by unfold nvs; rw [List.map_map]; rfl
def hopesL (k : Nat) : List Nat := (List.range (k + 1)).map (chn k)
/-- a mask, or -1 -/
def mkv : Option Nat → V
  | none => .int (-1)
  | some m => nv m
/-- bits of naturals -/
theorem pw_nat (c : Nat) : ((1 : Int) * 2 ^ ((c : Int)).toNat) = ((2 ^ c : Nat) : Int) := by
  rw [Int.toNat_natCast, Int.one_mul, Int.natCast_pow]; rfl
theorem band (m b : Nat) : Builtin.bitAnd (m : Int) (b : Int) = ((m &&& b : Nat) : Int) := by
  unfold Builtin.bitAnd
  rw [decide_eq_true (Int.natCast_nonneg m), decide_eq_true (Int.natCast_nonneg b)]
  rfl
theorem bor (m b : Nat) : Builtin.bitOr (m : Int) (b : Int) = ((m ||| b : Nat) : Int) := by
  rw [Bits.bitOr_pp (Int.natCast_nonneg m) (Int.natCast_nonneg b)]
  rfl
end K53
namespace K53
open PySem PySem.Spec PyProof.Rows L2
section
variable {P : Program} {w : World} {K : PySem.W.Frag} {mg : Str → Option Value} {base : Heap}
theorem fct_list (i : Nat) : nvs ((List.range (i + 1)).map fct) = nvs ((List.range i).map fct) ++ [nv (fct i)] := by
  rw [List.range_succ, List.map_append]; unfold nvs; rw [List.map_append]; rfl
def sp_hopes : Sp := fun vs H Q _ => ∃ k : Nat, vs = [nv k] ∧ k ≤ 7 ∧ ∀ (H' : Hp) (p : Addr), Same H H' → H p = none → H' p = some (.lst (nvs (hopesL k))) → Q (.ref p) H'
theorem o_hopes {f : Addr} {fd : FuncData} (F : FnP K "hopes" "hopes" s_hopes f fd) (hm : mg "hopes" = some (.ref f)) (T : Tx mg)   : Own P w K mg base 1 "hopes" sp_hopes := by
  have sc : FnScope ["k", "found", "left", "_"] ["k"] (defScope s_hopes) := ⟨rfl, rfl, rfl, by decide +kernel, rfl, by decide +kernel, by decide +kernel⟩
  refine own_ok F hm sc (fun _ _ _ _ _ _ us hl => match us, hl with | [_], _ => rfl) (fun vs H Q E h => ?_) (fun cdv A outer s H vs Q E hr h => ?_)
  · obtain ⟨k, rfl, _⟩ := h; rfl
  · obtain ⟨k, rfl, hk, q⟩ := h
    have hu := hu_of hr
    refine ⟨_, (pss_cons (ps_set (i := 1) sc.nd rfl (Or.inl rfl) (pe_lst (pa_cons pe_int pa_nil))) 
      (pss_cons (ps_for PassesOwn.never rfl (pi_range2 (by rfl) T.range (pa_cons pe_int (pa_cons (pe_op op_add (pv 0) pe_int) pa_nil))) (pg_name (i := 2) sc.nd rfl (Or.inl rfl)) (pss_one (ps_expr (pe_bm PySem.F.plainAttrs_list PySem.F.slot_list_append PySem.F.type_list_append mt_append (pv 1) (pa_cons (pe_op op_mul (pe_ix ix_list (pv 1) (pe_un un_neg pe_int) (fun _ _ => rfl)) (pv 2)) pa_nil))))) 
      (pss_cons (ps_for PassesOwn.never rfl (pi_range1 (by rfl) T.range (pa_cons (pe_op op_add (pv 0) pe_int) pa_nil)) (pg_name (i := 2) sc.nd rfl (Or.inl rfl)) (pss_one (ps_for PassesOwn.never rfl (pi_range1 (by rfl) T.range (pa_cons (pe_op op_sub (pv 0) (pv 2)) pa_nil)) (pg_name (i := 3) sc.nd rfl (Or.inl rfl)) (pss_one (ps_augS (pv 1) (pv 2) get_list (pv 0) iop_mul set_list))))) 
      (pss_one (ps_ret (pv 1)))))), ?_⟩
    refine ⟨by show 1 ≤ sizeLine; decide, fun l hl => ?_⟩
    have s1 : Same H (upd H l (.lst [.int 1])) := Same.new hl
    refine ⟨_, rfl, _, _, rfl, rfl, _, _, rfl, ⟨by omega, by omega, by omega, by omega⟩, ?_⟩
    rw [show ((k : Int) + 1 - 1).toNat = k by omega]
    refine for_range (lo := 1) (n := k) (fun i σ' H' => (∃ v1 v2, σ' = [some (nv k), some (.ref l), v1, v2]) ∧ H' = upd H l (.lst (nvs ((List.range (i + 1)).map fct))))
      ⟨⟨none, none, rfl⟩, rfl⟩ ?_ ?_
    · rintro i σ' H' hi ⟨⟨v1, v2, rfl⟩, rfl⟩
      refine ⟨_, rfl, .inl ⟨rfl, _, SqL.of upd_same⟩, _, rfl, _, rfl, _, _, _, nv (fct i), rfl, rfl, SqL.of upd_same, by rw [fct_list]; exact atI_last _ _, ?_⟩
      refine ⟨_, rfl, _, _, rfl, rfl, .inr ⟨by omega, by omega⟩, ?_⟩
      refine ⟨l, _, _, rfl, rfl, upd_same, by rw [nvs_len, List.length_map, List.length_range]; exact sz5 (by omega), ?_⟩
      refine ⟨⟨_, _, rfl⟩, ?_⟩
      rw [upd_upd, fct_list (i + 1)]
      congr 4
      show V.int _ = V.int ((fct i * (i + 1) : Nat) : Int)
      congr 1
      push_cast
      rw [Int.add_comm 1 (i : Int)]
    rintro σ' H' ⟨⟨v1, v2, rfl⟩, rfl⟩
    refine ⟨_, rfl, _, _, rfl, rfl, _, rfl, by omega, by omega, ?_⟩
    rw [show ((k : Int) + 1).toNat = k + 1 by omega]
    refine for_range (lo := 0) (n := k + 1) (fun i σ' H' => (∃ v1 v2, σ' = [some (nv k), some (.ref l), v1, v2]) ∧ H' = upd H l (.lst (nvs ((List.range (k + 1)).map fun x => if x < i then chn k x else fct x))))
      ⟨⟨_, _, rfl⟩, by congr 3⟩ ?_ ?_
    · rintro i σ' H' hi ⟨⟨v1, v2, rfl⟩, rfl⟩
      refine ⟨_, rfl, _, rfl, _, _, rfl, rfl, _, rfl, by omega, by omega, ?_⟩
      have ei : (0 : Int) + (i : Int) = ((i : Nat) : Int) := Int.zero_add _
      rw [show ((k : Int) - (0 + (i : Int))).toNat = k - i by omega]
      refine for_range (lo := 0) (n := k - i) (fun t σ' H' => (∃ v2, σ' = [some (nv k), some (.ref l), some (.int (0 + (i : Int))), v2]) ∧ H' = upd H l (.lst (nvs ((List.range (k + 1)).map fun x => if x < i then chn k x else if x = i then fct x * k ^ t else fct x))))
        ⟨⟨_, rfl⟩, ?_⟩ ?_ ?_
      · congr 3
        refine mapR_congr fun x _ => ?_
        by_cases h1 : x < i
        · simp [h1]
        · by_cases h2 : x = i
          · subst h2; simp
          · simp [h1, h2]
      · rintro t σ' H' ht ⟨⟨v2, rfl⟩, rfl⟩
        have g : ((List.range (k + 1)).map fun x => if x < i then chn k x else if x = i then fct x * k ^ t else fct x)[i]? = some (fct i * k ^ t) := by
          rw [mapR_get (by omega)]; simp
        refine ⟨_, rfl, _, rfl, _, _, i, _, rfl, congrArg V.int ei, SqL.of upd_same, nvs_get g, _, rfl, _, _, rfl, rfl, .inr ⟨by omega, by omega⟩, ?_⟩
        refine ⟨l, _, _, i, rfl, rfl, upd_same, by rw [ei]; exact ixN_nat (by rw [nvs_len, List.length_map, List.length_range]; omega), ?_⟩
        refine ⟨⟨_, rfl⟩, ?_⟩
        rw [upd_upd]
        congr 2
        have e1 : V.int (((fct i * k ^ t : Nat) : Int) * (k : Int)) = nv (fct i * k ^ (t + 1)) := by
          show V.int _ = V.int _
          congr 1
          rw [Nat.pow_succ, ← Nat.mul_assoc]
          exact (Int.natCast_mul _ _).symm
        show (nvs _).set i (V.int (((fct i * k ^ t : Nat) : Int) * (k : Int))) = _
        rw [e1, nvs_set, mapR_set]
        congr 1
        refine mapR_congr fun x _ => ?_
        by_cases h2 : x = i
        · subst h2; simp
        · simp [h2]
      · rintro σ' H' ⟨⟨v2, rfl⟩, rfl⟩
        refine ⟨⟨_, _, rfl⟩, ?_⟩
        congr 3
        refine mapR_congr fun x _ => ?_
        by_cases h1 : x < i
        · have : x < i + 1 := by omega
          simp [h1, this]
        · by_cases h2 : x = i
          · subst h2; simp [chn]
          · have : ¬ x < i + 1 := by omega
            simp [h1, h2, this]
    rintro σ' H' ⟨⟨v1, v2, rfl⟩, rfl⟩
    refine ⟨_, rfl, ?_⟩
    refine q _ l (Same.new hl) hl ?_
    rw [upd_same]
    congr 3
    refine mapR_congr fun x hx => ?_
    rw [if_pos hx]
end
end K53
namespace K53
open PySem PySem.Spec PyProof.Rows L2
theorem first_ix {m : Nat} : ∀ {L : List Nat}, m ∈ L → ∃ j : Nat, L[j]? = some m ∧ ∀ i : Nat, i < j → L[i]? ≠ some m
  | a :: r, h => by
    by_cases e : a = m
    · subst e; exact ⟨0, rfl, fun i hi => absurd hi (Nat.not_lt_zero i)⟩
    · obtain ⟨j, h1, h2⟩ := first_ix ((List.mem_cons.mp h).resolve_left (Ne.symm e))
      refine ⟨j + 1, by simpa using h1, fun i hi => ?_⟩
      cases i with
      | zero => simpa using e
      | succ i => simpa using h2 i (by omega)
theorem nvs_ints (L : List Nat) : nvs L = (L.map fun x : Nat => (x : Int)).map V.int := by unfold nvs; rw [List.map_map]; rfl
theorem flat_nvs (L : List Nat) : (nvs L).all flatV = true := List.all_eq_true.mpr fun x hx => by
  obtain ⟨y, _, rfl⟩ := List.mem_map.mp hx
  rfl
theorem eqV_nv (a b : Nat) : eqV (nv a) (nv b) = decide (a = b) := by
  show ((a : Int) == (b : Int)) = decide (a = b)
  by_cases h : a = b
  · subst h; simp
  · rw [decide_eq_false h, beq_eq_false_iff_ne]; omega
def totOf (k : Nat) (mks : List (Option Nat)) (szs row : List Nat) (b : Nat) : Nat := (row.map fun i => addOf k (mks.getD i none) (szs.getD i 0) b).sum
theorem totOf_snoc (k : Nat) (mks : List (Option Nat)) (szs row : List Nat) (i b : Nat) : totOf k mks szs (row ++ [i]) b = totOf k mks szs row b + addOf k (mks.getD i none) (szs.getD i 0) b := by
  unfold totOf; rw [List.map_append, List.sum_append]; simp
theorem take_snoc {α : Type} {l : List α} {t : Nat} {x : α} (h : l[t]? = some x) : l.take (t + 1) = l.take t ++ [x] := by rw [List.take_succ, h]; rfl
theorem getDo {mks : List (Option Nat)} {i : Nat} (h : i < mks.length) : (mks.map mkv)[i]? = some (mkv (mks.getD i none)) := by
  rw [List.getElem?_map, List.getElem?_eq_getElem h, List.getD_eq_getElem?_getD, List.getElem?_eq_getElem h]; rfl
theorem nvs_inv {ns : List Nat} {i : Nat} {x : V} (h : (nvs ns)[i]? = some x) : ∃ y, ns[i]? = some y ∧ x = nv y := by
  unfold nvs at h
  rw [List.getElem?_map] at h
  obtain ⟨y, hy, e⟩ := Option.map_eq_some_iff.mp h
  exact ⟨y, hy, e.symm⟩
theorem shl_ok {c : Nat} (h : c ≤ 1000) : CPow 1 ((c : Nat) : Int) := ⟨by omega, by omega, by decide⟩
section
variable {P : Program} {w : World} {K : PySem.W.Frag} {mg : Str → Option Value} {base : Heap}
def sp_best_colour (K : PySem.W.Frag) : Sp := fun vs H Q _ => ∃ (node k : Nat) (aMs aM aCh aSz a : Addr) (mks : List (Option Nat)) (szs row : List Nat) (xs : List V), vs = [nv node, .ref aMs, .ref aM, .ref aCh, nv k, .ref aSz] ∧
  SqL K H aMs (mks.map mkv) ∧ SqL K H aM xs ∧ xs[node]? = some (.ref a) ∧ SqL K H a (nvs row) ∧ SqL K H aCh (nvs (hopesL k)) ∧ SqL K H aSz (nvs szs) ∧ 1 ≤ k ∧ k ≤ 7 ∧
  (∀ i ∈ row, i < mks.length ∧ i < szs.length ∧ 1 ≤ szs.getD i 0 ∧ szs.getD i 0 ≤ k) ∧
  ∀ (H' : Hp) (b : Nat), Same H H' → b < k → (∀ b' < k, totOf k mks szs row b' ≤ totOf k mks szs row b) → Q (nv b) H'
theorem o_best_colour {f : Addr} {fd : FuncData} (F : FnP K "best_colour" "best_colour" s_best_colour f fd) (hm : mg "best_colour" = some (.ref f)) (T : Tx mg)   : Own P w K mg base 1 "best_colour" (sp_best_colour K) := by
  have sc : FnScope ["node", "masks", "members", "chances", "k", "sizes", "totals", "number", "mask", "weight", "colour", "_"] ["node", "masks", "members", "chances", "k", "sizes"] (defScope s_best_colour) := ⟨rfl, rfl, rfl, by decide +kernel, rfl, by decide +kernel, by decide +kernel⟩
  refine own_ok F hm sc (fun _ _ _ _ _ _ us hl => match us, hl with | [_, _, _, _, _, _], _ => rfl) (fun vs H Q E h => ?_) (fun cdv A outer s H vs Q E hr h => ?_)
  · obtain ⟨node, k, aMs, aM, aCh, aSz, a, mks, szs, row, xs, rfl, _⟩ := h; rfl
  · obtain ⟨node, k, aMs, aM, aCh, aSz, a, mks, szs, row, xs, rfl, hMs, hM, hx, hrow, hCh, hSz, hk1, hk7, hr2, q⟩ := h
    have hu := hu_of hr
    refine ⟨_, (pss_cons (ps_setLc (i := 6) (own := [("_", 11)]) (g := gName 11) (tt := tYes) rfl sc.nd rfl rfl (sw_true rfl rfl rfl (by decide +kernel)) (pi_range1 (by rfl) T.range (pa_cons (pv 4) pa_nil)) (blkOk_by (N := (["node", "masks", "members", "chances", "k", "sizes", "totals", "number", "mask", "weight", "colour", "_"] : List Str)) (sc := defScope s_best_colour) (by decide +kernel)) (fun _ _ _ _ _ => (pg_name (i := 11) sc.nd rfl (Or.inl rfl))) (fun _ _ _ _ _ => pts_nil) (fun _ _ _ _ _ => pe_int)) 
      (pss_cons (ps_for PassesOwn.never rfl (pi_list (pe_ix ix_list (pv 2) (pv 0) (fun _ _ => rfl))) (pg_name (i := 7) sc.nd rfl (Or.inl rfl)) (pss_cons (ps_set (i := 8) sc.nd rfl (Or.inl rfl) (pe_ix ix_list (pv 1) (pv 7) (fun _ _ => rfl))) (pss_one (ps_if (pt_cmpR op_ge (pv 8) pe_int (nomark _)) (pss_cons (ps_set (i := 9) sc.nd rfl (Or.inl rfl) (pe_ix ix_list (pv 3) (pe_op op_sub (pe_ix ix_list (pv 5) (pv 7) (fun _ _ => rfl)) pe_int) (fun _ _ => rfl))) (pss_one (ps_for PassesOwn.never rfl (pi_range1 (by rfl) T.range (pa_cons (pv 4) pa_nil)) (pg_name (i := 10) sc.nd rfl (Or.inl rfl)) (pss_one (ps_if (pt_cmpR op_eq (pe_op op_and (pv 8) (pe_op op_shl pe_int (pv 10))) pe_int (nomark _)) (pss_one (ps_augS (pv 6) (pv 10) get_list (pv 9) iop_add set_list)) pss_nil))))) pss_nil)))) 
      (pss_one (ps_ret (pe_bm PySem.F.plainAttrs_list PySem.F.slot_list_index PySem.F.type_list_index mt_index (pv 6) (pa_cons (pe_callB (cr_max rfl) (by rfl) T.max (by decide +kernel) (pa_cons (pv 6) pa_nil)) pa_nil)))))), ?_⟩
    refine ⟨_, rfl, _, rfl, by omega, by omega, fun D hD => ?_⟩
    rw [Int.toNat_natCast]
    refine lc_map walk_range (fun i y H => y = nv 0) (by omega) hD (fun _ _ => trivial) (fun _ _ _ _ h _ => h) ySame_fn ?_ ?_
    · rintro i x H1 H2 Q' hi s e ⟨rfl, rfl⟩ k
      exact ⟨rfl, k _ _ (Same.refl _) rfl⟩
    intro H1 ys s1 eD l r
    obtain rfl := ext_fn (f := fun _ => nv 0) l r
    rw [← nvs_mapR k (fun _ => 0)] at eD
    clear l r
    refine ⟨_, rfl, _, rfl, _, _, _, _, rfl, rfl, s1.seq hM, atI_nat hx, a, rfl, ⟨_, s1.seq hrow⟩, ?_⟩
    refine for_list (K := K) (a := a) (xs := nvs row) (fun t σ' H' => (∃ v7 v8 v9 v10, σ' = [some (nv node), some (.ref aMs), some (.ref aM), some (.ref aCh), some (nv k), some (.ref aSz), some (.ref D), v7, v8, v9, v10, none]) ∧ Same H H' ∧
      H' D = some (.lst (nvs ((List.range k).map (totOf k mks szs (row.take t)))))) ⟨⟨none, none, none, none, rfl⟩, s1, eD⟩ (fun i σ H _ p => p.2.1.seq hrow) ?_ ?_
    · rintro t x σ' H' hxt ⟨⟨v7, v8, v9, v10, rfl⟩, s, eD'⟩
      obtain ⟨i, hi, rfl⟩ := nvs_inv hxt
      obtain ⟨r1, r2, r3, r4⟩ := hr2 i (List.mem_of_getElem? hi)
      rw [take_snoc hi]
      have g1 := getDo r1
      refine ⟨_, rfl, _, rfl, _, _, _, _, rfl, rfl, s.seq hMs, atI_nat g1, ?_⟩
      have et : ∀ b, totOf k mks szs (row.take t ++ [i]) b = totOf k mks szs (row.take t) b + addOf k (mks.getD i none) (szs.getD i 0) b := totOf_snoc k mks szs (row.take t) i
      cases ho : mks.getD i none with
      | none =>
        refine ⟨_, rfl, _, _, rfl, rfl, _, rfl, ?_⟩
        refine iteF ?_
        refine ⟨⟨_, _, _, _, rfl⟩, s, ?_⟩
        rw [eD']
        congr 3
        refine mapR_congr fun b _ => ?_
        rw [et b, ho]; rfl
      | some m =>
        refine ⟨_, rfl, _, _, rfl, rfl, _, rfl, ?_⟩
        rw [decide_eq_true (by omega)]
        refine iteT ?_
        have g2 := nvs_get (getD_of (ns := szs) r2)
        have e3 : ((szs.getD i 0 : Nat) : Int) - 1 = ((szs.getD i 0 - 1 : Nat) : Int) := by omega
        have g3 : (hopesL k)[szs.getD i 0 - 1]? = some (chn k (szs.getD i 0 - 1)) := mapR_get (by omega)
        refine ⟨_, rfl, _, rfl, _, rfl, _, _, _, _, rfl, rfl, s.seq hSz, atI_nat g2, _, _, rfl, rfl, _, _, _, _, rfl, rfl, s.seq hCh, at_of e3 (nvs_get g3), ?_⟩
        refine ⟨_, rfl, _, rfl, by omega, by omega, ?_⟩
        rw [Int.toNat_natCast]
        refine for_range (lo := 0) (n := k) (fun c σ' H' => (∃ v10, σ' = [some (nv node), some (.ref aMs), some (.ref aM), some (.ref aCh), some (nv k), some (.ref aSz), some (.ref D), some (nv i), some (nv m), some (nv (chn k (szs.getD i 0 - 1))), v10, none]) ∧ Same H H' ∧
          H' D = some (.lst (nvs ((List.range k).map fun b => totOf k mks szs (row.take t) b + if b < c then addOf k (some m) (szs.getD i 0) b else 0)))) ⟨⟨_, rfl⟩, s, by simpa using eD'⟩ ?_ ?_
        · rintro c σ' H2 hc ⟨⟨v10, rfl⟩, s2, eD2⟩
          have ec : (0 : Int) + (c : Int) = ((c : Nat) : Int) := Int.zero_add _
          rw [ec]
          have gc : ((List.range k).map fun b => totOf k mks szs (row.take t) b + if b < c then addOf k (some m) (szs.getD i 0) b else 0)[c]? = some (totOf k mks szs (row.take t) c) := by
            rw [mapR_get hc]; simp
          refine ⟨_, rfl, _, rfl, _, _, rfl, rfl, shl_ok (by omega), _, _, rfl, rfl, rfl, _, rfl, ?_⟩
          refine ite2 (fun h => ?_) (fun h => ?_)
          · have h' : V.int (Builtin.bitAnd (m : Int) ((1 : Int) * 2 ^ ((c : Int)).toNat)) = V.int 0 := dt h
            rw [pw_nat, band] at h'
            have hz : m &&& 2 ^ c = 0 := by injection h' with h'; omega
            have hb := and_zero_iff.mp hz
            refine ⟨_, rfl, _, rfl, _, _, c, _, rfl, rfl, SqL.of eD2, nvs_get gc, _, rfl, _, _, rfl, rfl, ?_⟩
            refine ⟨D, _, _, c, rfl, rfl, eD2, ixN_nat (by rw [nvs_len, List.length_map, List.length_range]; exact hc), ?_⟩
            refine ⟨⟨_, rfl⟩, Same.mut s2 hD, ?_⟩
            rw [upd_same]
            congr 2
            refine (nvs_set _ c (totOf k mks szs (row.take t) c + chn k (szs.getD i 0 - 1))).trans ?_
            rw [mapR_set]
            congr 1
            refine mapR_congr fun b _ => ?_
            by_cases e : b = c
            · subst e
              simp [addOf, hb]
            · have : (b < c + 1) ↔ (b < c) := by omega
              simp [e, this]
          · have h' : ¬ V.int (Builtin.bitAnd (m : Int) ((1 : Int) * 2 ^ ((c : Int)).toNat)) = V.int 0 := df h
            rw [pw_nat, band] at h'
            have hz : ¬ (m &&& 2 ^ c = 0) := fun z => h' (by rw [z]; rfl)
            have hb : m.testBit c = true := by
              cases z : m.testBit c with
              | true => rfl
              | false => exact absurd (and_zero_iff.mpr z) hz
            refine ⟨⟨_, rfl⟩, s2, ?_⟩
            rw [eD2]
            congr 3
            refine mapR_congr fun b _ => ?_
            by_cases e : b = c
            · subst e
              simp [addOf, hb]
            · have : (b < c + 1) ↔ (b < c) := by omega
              simp [this]
        · rintro σ' H2 ⟨⟨v10, rfl⟩, s2, eD2⟩
          refine ⟨⟨_, _, _, _, rfl⟩, s2, ?_⟩
          rw [eD2]
          congr 3
          refine mapR_congr fun b hb => ?_
          rw [et b, ho, if_pos hb]
    · rintro σ' H' ⟨⟨v7, v8, v9, v10, rfl⟩, s, eD'⟩
      rw [nvs_len, List.take_length] at eD'
      have lne : 0 < (((List.range k).map (totOf k mks szs row)).map fun x : Nat => (x : Int)).length := by simp; omega
      refine ⟨_, rfl, .inl ⟨rfl, _, SqL.of eD'⟩, _, rfl, D, _, rfl, by rw [← nvs_ints]; exact SqL.of eD', lne, fun m hm hle => ?_⟩
      obtain ⟨m', hm', rfl⟩ := List.mem_map.mp hm
      obtain ⟨j, hj, hf⟩ := first_ix hm'
      have hjk : j < k := by have := (List.getElem?_eq_some_iff.mp hj).1; simpa using this
      have hjv : totOf k mks szs row j = m' := by
        rw [mapR_get hjk] at hj
        exact Option.some.inj hj
      refine ⟨D, _, _, j, _, rfl, rfl, SqL.of eD', rfl, flat_nvs _, nvs_get hj, by rw [eqV_nv]; exact decide_eq_true rfl, fun i z hi hz => ?_, ?_⟩
      · obtain ⟨y, hy, rfl⟩ := nvs_inv hz
        rw [eqV_nv]
        exact decide_eq_false fun e => hf i hi (by rw [hy, e])
      refine q H' j s hjk fun b' hb' => ?_
      rw [hjv]
      have := hle _ (List.mem_map_of_mem (f := fun x : Nat => (x : Int)) (List.mem_map_of_mem (List.mem_range.mpr hb')))
      omega
end
end K53
namespace K53
open PySem PySem.Spec PyProof.Rows L2
theorem filt_yes {p : Nat → Bool} {t : Nat} (h : p t = true) : (List.range (t + 1)).filter p = (List.range t).filter p ++ [t] := by rw [List.range_succ, List.filter_append, List.filter_cons, if_pos h]; rfl
theorem filt_no {p : Nat → Bool} {t : Nat} (h : p t = false) : (List.range (t + 1)).filter p = (List.range t).filter p := by rw [List.range_succ, List.filter_append, List.filter_cons, if_neg (by rw [h]; exact Bool.false_ne_true)]; exact List.append_nil _
theorem nvs_snoc (L : List Nat) (x : Nat) : nvs L ++ [nv x] = nvs (L ++ [x]) := by unfold nvs; rw [List.map_append]; rfl
/-! ### [[] for _ in range(n)] -/
theorem lc_emp {n : Nat} {vs : List Nat} {j : Nat} {σ : L2.St} {H1 : Hp} {D : Addr} {Qd : Hp → Prop} (hw : ∀ x, wipe ((wipe σ vs).set j (some x)) vs = wipe σ vs) (hn : n ≤ 100000) (hD : H1 D = none)
    (hd : ∀ (H : Hp) (as : List Addr), Same H1 H → H D = some (.lst (as.map V.ref)) → as.length = n → as.Nodup → (∀ a ∈ as, H1 a = none ∧ a ≠ D ∧ H a = some (.lst [])) → Qd H) :
    ∃ W : Nat → Nat → Hp → Prop, (∃ m, W 0 m (upd H1 D (.lst []))) ∧ ∀ i m H, W i m H →
      ((Itr 0 n).stop i H ∧ Qd H) ∨ ((Itr 0 n).go i H ∧ ∃ Nx : Hp → Prop, (∀ H', Nx H' → ∃ m', m' < m ∧ W (i + 1) m' H') ∧ ∀ x H', (Itr 0 n).yld i H x H' → gName j x (wipe σ vs) H' fun σ2 H2 => wipe σ2 vs = wipe σ vs ∧ tYes σ2 H2 fun b H3 =>
        if b = true then (tLst tNil) σ2 H3 fun y H4 => ∃ acc, H4 D = some (.lst acc) ∧ acc.length < sizeLine ∧ Nx (upd H4 D (.lst (acc ++ [y]))) else Nx H3) := by
  refine lc_it walk_range (fun i H => Same H1 H ∧ ∃ as : List Addr, H D = some (.lst (as.map V.ref)) ∧ as.length = i ∧ as.Nodup ∧ ∀ a ∈ as, H1 a = none ∧ a ≠ D ∧ H a = some (.lst []))
    ⟨Same.new hD, [], upd_same, rfl, .nil, by simp⟩ (fun _ _ _ _ => trivial) ?_ (fun H ⟨s, as, e, l, nd, r⟩ => hd H as s e l nd r)
  rintro i x H H' hi ⟨s, as, e, l, nd, r⟩ ⟨rfl, rfl⟩
  refine ⟨hw _, ?_⟩
  refine ⟨Nat.zero_le _, fun p hp => ?_⟩
  have np : p ≠ D := fun z => by rw [z, e] at hp; cases hp
  have nmem : ∀ a ∈ as, a ≠ p := fun a ha => ne_of_none (r a ha).2.2 hp
  have eD : upd H' p (.lst []) D = some (.lst (as.map V.ref)) := by rw [upd_ne np.symm]; exact e
  refine ⟨_, eD, by rw [List.length_map, l]; exact sz5 (by omega), Same.mut (s.trans (Same.new hp)) hD, as ++ [p], by rw [upd_same, List.map_append]; rfl, by rw [List.length_append, l]; rfl, ?_, fun a ha => ?_⟩
  · exact List.nodup_append.mpr ⟨nd, by simp, fun a ha b hb => by rw [List.mem_singleton.mp hb]; exact nmem a ha⟩
  · rcases List.mem_append.mp ha with ha | ha
    · obtain ⟨h1, h2, h3⟩ := r a ha
      exact ⟨h1, h2, by rw [upd_ne h2, upd_ne (nmem a ha)]; exact h3⟩
    · rw [List.mem_singleton.mp ha]
      exact ⟨s.free hp, np, by rw [upd_ne np, upd_same]⟩
/-- the lists at as hold the rows -/
def MemAt (H : Hp) (as : List Addr) (rows : Nat → List Nat) : Prop := ∀ (v : Nat) (a : Addr), as[v]? = some a → H a = some (.lst (nvs (rows v)))
theorem MemAt.upd {H : Hp} {as : List Addr} {rows : Nat → List Nat} (m : MemAt H as rows) (nd : as.Nodup) {v : Nat} {a : Addr} (h : as[v]? = some a) (r : List Nat) : MemAt (L2.upd H a (.lst (nvs r))) as (fun u => if u = v then r else rows u) := by
  intro u b hb
  by_cases e : u = v
  · subst e
    rw [h] at hb; cases hb
    show _ = some (HO.lst (nvs (if u = u then r else rows u)))
    rw [upd_same, if_pos rfl]
  · show _ = some (HO.lst (nvs (if u = v then r else rows u)))
    rw [if_neg e, upd_ne (fun z => e (nd_ix nd hb (by rw [z]; exact h)))]
    exact m u b hb
theorem MemAt.congr {H : Hp} {as : List Addr} {rows rows' : Nat → List Nat} (m : MemAt H as rows) (h : ∀ v, v < as.length → rows v = rows' v) : MemAt H as rows' := fun v a e => by
  rw [m v a e, h v (List.getElem?_eq_some_iff.mp e).1]
theorem rowOf_succ (sets : List (List Nat)) (v t : Nat) : rowOf sets v (t + 1) = if v ∈ sets.getD t [] then rowOf sets v t ++ [t] else rowOf sets v t := by
  unfold rowOf
  rw [List.range_succ, List.filter_append]
  by_cases h : v ∈ sets.getD t []
  · rw [if_pos h, List.filter_cons, if_pos (List.contains_iff_mem.mpr h)]; rfl
  · rw [if_neg h, List.filter_cons, if_neg (fun z => h (List.contains_iff_mem.mp z))]; exact List.append_nil _
theorem getD_get {sets : List (List Nat)} {i : Nat} {S : List Nat} (h : sets[i]? = some S) : sets.getD i [] = S := by rw [List.getD_eq_getElem?_getD, h]; rfl
theorem getD_mapR {α : Type} {N i : Nat} {g : Nat → α} {d : α} (h : i < N) : ((List.range N).map g).getD i d = g i := by rw [List.getD_eq_getElem?_getD, mapR_get h]; rfl
section
variable {P : Program} {w : World} {K : PySem.W.Frag} {mg : Str → Option Value} {base : Heap}
def sp_colouring_for (K : PySem.W.Frag) : Sp := fun vs H Q _ => ∃ (n k : Nat) (aS aCh : Addr) (as : List Addr) (sets : List (List Nat)), vs = [nv n, nv k, .ref aS, .ref aCh] ∧ SqL K H aS (as.map V.ref) ∧ TupsAt H as sets ∧ SetsOk n k sets ∧ sets ≠ [] ∧
  SqL K H aCh (nvs (hopesL k)) ∧ 1 ≤ k ∧ k ≤ 7 ∧ n ≤ 40 ∧ sets.length ≤ 50000 ∧
  ∀ (H' : Hp) (p pc ps : Addr) (c ix : List Nat), Same H H' → H p = none → H pc = none → H ps = none → H' p = some (.tup [.ref pc, .ref ps]) → H' pc = some (.lst (nvs c)) → H' ps = some (.lst (nvs ix)) → c.length = n → (∀ x ∈ c, x < k) →
    (∀ i, i ∈ ix ↔ i < sets.length ∧ ((sets.getD i []).map fun x => c.getD x 0).Nodup) → ix ≠ [] → ix.length ≤ 50000 → Q (.ref p) H'
theorem o_colouring_for {f : Addr} {fd : FuncData} (F : FnP K "colouring_for" "colouring_for" s_colouring_for f fd) (hm : mg "colouring_for" = some (.ref f)) (T : Tx mg) (D_best_colour : Own P w K mg base 1 "best_colour" (sp_best_colour K))  : Own P w K mg base 2 "colouring_for" (sp_colouring_for K) := by
  have sc : FnScope ["n", "k", "sets", "chances", "members", "number", "chosen", "node", "masks", "sizes", "colouring", "colour", "_", "mask"] ["n", "k", "sets", "chances"] (defScope s_colouring_for) := ⟨rfl, rfl, rfl, by decide +kernel, rfl, by decide +kernel, by decide +kernel⟩
  refine own_ok F hm sc (fun _ _ _ _ _ _ us hl => match us, hl with | [_, _, _, _], _ => rfl) (fun vs H Q E h => ?_) (fun cdv A outer s H vs Q E hr h => ?_)
  · obtain ⟨n, k, aS, aCh, as, sets, rfl, _⟩ := h; rfl
  · obtain ⟨n, k, aS, aCh, as, sets, rfl, hS, tps, so, hne, hCh, hk1, hk7, hn, hN, q⟩ := h
    have hu := hu_of hr
    refine ⟨_, (pss_cons (ps_setLc (i := 4) (own := [("_", 12)]) (g := gName 12) (tt := tYes) rfl sc.nd rfl rfl (sw_true rfl rfl rfl (by decide +kernel)) (pi_range1 (by rfl) T.range (pa_cons (pv 0) pa_nil)) (blkOk_by (N := (["n", "k", "sets", "chances", "members", "number", "chosen", "node", "masks", "sizes", "colouring", "colour", "_", "mask"] : List Str)) (sc := defScope s_colouring_for) (by decide +kernel)) (fun _ _ _ _ _ => (pg_name (i := 12) sc.nd rfl (Or.inl rfl))) (fun _ _ _ _ _ => pts_nil) (fun _ _ _ _ _ => (pe_lst pa_nil))) 
      (pss_cons (ps_for PassesOwn.never rfl (pi_enum (by rfl) T.enum (pa_cons (pv 2) pa_nil)) (pg_tup rfl (pgs_cons (pg_name (i := 5) sc.nd rfl (Or.inl rfl)) (pgs_cons (pg_name (i := 6) sc.nd rfl (Or.inl rfl)) pgs_nil))) (pss_one (ps_for PassesOwn.never rfl (pi_tup (pv 6)) (pg_name (i := 7) sc.nd rfl (Or.inl rfl)) (pss_one (ps_expr (pe_bm PySem.F.plainAttrs_list PySem.F.slot_list_append PySem.F.type_list_append mt_append (pe_ix ix_list (pv 4) (pv 7) (fun _ _ => rfl)) (pa_cons (pv 5) pa_nil))))))) 
      (pss_cons (ps_setLc (i := 8) (own := [("_", 12)]) (g := gName 12) (tt := tYes) rfl sc.nd rfl rfl (sw_true rfl rfl rfl (by decide +kernel)) (pi_list (pv 2)) (blkOk_by (N := (["n", "k", "sets", "chances", "members", "number", "chosen", "node", "masks", "sizes", "colouring", "colour", "_", "mask"] : List Str)) (sc := defScope s_colouring_for) (by decide +kernel)) (fun _ _ _ _ _ => (pg_name (i := 12) sc.nd rfl (Or.inl rfl))) (fun _ _ _ _ _ => pts_nil) (fun _ _ _ _ _ => pe_int)) 
      (pss_cons (ps_setLc (i := 9) (own := [("_", 12)]) (g := gName 12) (tt := tYes) rfl sc.nd rfl rfl (sw_true rfl rfl rfl (by decide +kernel)) (pi_list (pv 2)) (blkOk_by (N := (["n", "k", "sets", "chances", "members", "number", "chosen", "node", "masks", "sizes", "colouring", "colour", "_", "mask"] : List Str)) (sc := defScope s_colouring_for) (by decide +kernel)) (fun _ _ _ _ _ => (pg_name (i := 12) sc.nd rfl (Or.inl rfl))) (fun _ _ _ _ _ => pts_nil) (fun _ _ _ _ _ => (pv 1))) 
      (pss_cons (ps_set (i := 10) sc.nd rfl (Or.inl rfl) (pe_lst pa_nil)) 
      (pss_cons (ps_for PassesOwn.never rfl (pi_range1 (by rfl) T.range (pa_cons (pv 0) pa_nil)) (pg_name (i := 7) sc.nd rfl (Or.inl rfl)) (pss_cons (ps_set (i := 11) sc.nd rfl (Or.inl rfl) (pe_own D_best_colour (hr.mono (by decide)) (by rfl) (pa_cons (pv 7) (pa_cons (pv 8) (pa_cons (pv 4) (pa_cons (pv 3) (pa_cons (pv 1) (pa_cons (pv 9) pa_nil)))))))) (pss_cons (ps_for PassesOwn.never rfl (pi_list (pe_ix ix_list (pv 4) (pv 7) (fun _ _ => rfl))) (pg_name (i := 5) sc.nd rfl (Or.inl rfl)) (pss_cons (ps_augS (pv 9) (pv 5) get_list pe_int iop_sub set_list) (pss_one (ps_if (PW.pt (pw_and (pt_cmpR op_ge (pe_ix ix_list (pv 8) (pv 5) (fun _ _ => rfl)) pe_int (nomark _)) (pw_and1 (pt_cmpR op_eq (pe_op op_and (pe_ix ix_list (pv 8) (pv 5) (fun _ _ => rfl)) (pe_op op_shl pe_int (pv 11))) pe_int (nomark _))))) (pss_one (ps_augS (pv 8) (pv 5) get_list (pe_op op_shl pe_int (pv 11)) iop_or set_list)) (pss_one (ps_asg (pe_un un_neg pe_int) (pg_sub (pv 8) (pv 5) set_list))))))) (pss_one (ps_expr (pe_bm PySem.F.plainAttrs_list PySem.F.slot_list_append PySem.F.type_list_append mt_append (pv 10) (pa_cons (pv 11) pa_nil))))))) 
      (pss_one (ps_ret (pe_tup (pa_cons (pv 10) (pa_cons (pe_lc (own := [("number", 5), ("mask", 13)]) (g := gTup K 2 (gCons (gName 5) (gCons (gName 13) gNil))) rfl sc.nd (pi_enum (by rfl) T.enum (pa_cons (pv 8) pa_nil)) (blkOk_by (N := (["n", "k", "sets", "chances", "members", "number", "chosen", "node", "masks", "sizes", "colouring", "colour", "_", "mask"] : List Str)) (sc := defScope s_colouring_for) (by decide +kernel)) (fun _ _ _ _ _ => (pg_tup rfl (pgs_cons (pg_name (i := 5) sc.nd rfl (Or.inl rfl)) (pgs_cons (pg_name (i := 13) sc.nd rfl (Or.inl rfl)) pgs_nil)))) (fun _ _ _ _ _ => (pts_one (pt_cmpR op_ge (pv 13) pe_int (nomark _)))) (fun _ _ _ _ _ => (pv 5))) pa_nil))))))))))), ?_⟩
    have lN : (as.map V.ref).length = sets.length := by rw [List.length_map]; exact tps.length
    refine ⟨_, rfl, _, rfl, by omega, by omega, fun D hD => ?_⟩
    rw [Int.toNat_natCast]
    refine lc_emp (fun x => rfl) (by omega) hD ?_
    intro H1 ms s1 eD ml nd mm
    have mD : D ∉ ms := fun z => (mm D z).2.1 rfl
    have m0 : MemAt H1 ms (fun v => rowOf sets v 0) := fun v a h => by rw [(mm a (List.mem_of_getElem? h)).2.2]; rfl
    -- the members
    refine ⟨_, rfl, aS, _, rfl, s1.seq hS, ?_⟩
    refine for_it walk_enum (fun t σ' H' => (∃ v5 v6 v7, σ' = [some (nv n), some (nv k), some (.ref aS), some (.ref aCh), some (.ref D), v5, v6, v7, none, none, none, none, none, none]) ∧ Same H H' ∧ H' D = some (.lst (ms.map V.ref)) ∧ MemAt H' ms (fun v => rowOf sets v t))
      ⟨⟨none, none, none, rfl⟩, s1, eD, m0⟩ (fun i σ H _ p => p.2.1.seq hS) ?_ ?_
    · rintro t x σ' H2 H3 ht ⟨⟨v5, v6, v7, rfl⟩, s2, eD2, m2⟩ ⟨T0, x1, x2, rfl, hT, rfl, e1, e2⟩
      obtain rfl : V.int (t : Int) = x1 := Option.some.inj e1
      have e2 : (as.map V.ref)[t]? = some x2 := e2
      rw [List.getElem?_map] at e2
      obtain ⟨a, ha, rfl⟩ := Option.map_eq_some_iff.mp e2
      obtain ⟨S, hSt, hta⟩ := tps.get ha
      have hSt' := getD_get hSt
      have hSm : S ∈ sets := List.mem_of_getElem? hSt
      refine ⟨T0, _, rfl, SqT.of upd_same, rfl, _, _, rfl, _, _, rfl, rfl, ?_⟩
      have s3 : Same H (upd H2 T0 (.tup [.int (t : Int), .ref a])) := s2.trans (Same.new hT)
      refine ⟨_, rfl, a, rfl, ⟨_, SqT.of (s3 _ _ hta)⟩, ?_⟩
      refine for_tup (K := K) (a := a) (xs := nvs S) (fun u σ' H' => (∃ v7, σ' = [some (nv n), some (nv k), some (.ref aS), some (.ref aCh), some (.ref D), some (nv t), some (.ref a), v7, none, none, none, none, none, none]) ∧ Same H H' ∧ H' D = some (.lst (ms.map V.ref)) ∧
        MemAt H' ms (fun v => if v ∈ S.take u then rowOf sets v t ++ [t] else rowOf sets v t)) ⟨⟨_, rfl⟩, s3, by rw [upd_ne (ne_of_none eD2 hT)]; exact eD2, fun v b hb => ?_⟩ (fun i σ H _ p => SqT.of (p.2.1 _ _ hta)) ?_ ?_
      · rw [upd_ne (ne_of_none (m2 v b hb) hT), m2 v b hb]; simp
      · rintro u x σ' H4 hx ⟨⟨v7, rfl⟩, s4, eD4, m4⟩
        obtain ⟨v, hv, rfl⟩ := nvs_inv hx
        have hvS : v ∈ S := List.mem_of_getElem? hv
        have hvn : v < ms.length := by rw [ml]; exact so.lt S hSm v hvS
        have gv : ms[v]? = some (ms[v]) := List.getElem?_eq_getElem hvn
        have hb0 := mm _ (List.mem_of_getElem? gv)
        have hvnot : v ∉ S.take u := fun z => by
          have nd := (so.asc S hSm).imp fun h => Nat.ne_of_lt h
          obtain ⟨i, hi, e⟩ := List.getElem_of_mem z
          rw [List.length_take] at hi
          have e' : S[i]? = some v := by rw [List.getElem_take] at e; rw [← e]; exact List.getElem?_eq_getElem (by omega)
          have := nd_ix nd e' hv
          omega
        have e5 : H4 ms[v] = some (HO.lst (nvs (if v ∈ S.take u then rowOf sets v t ++ [t] else rowOf sets v t))) := m4 v _ gv
        rw [if_neg hvnot] at e5
        have rl : (rowOf sets v t).length ≤ t := by unfold rowOf; have := List.length_filter_le (fun i => (sets.getD i []).contains v) (List.range t); rwa [List.length_range] at this
        refine ⟨_, rfl, _, rfl, _, _, _, .ref (ms[v]), rfl, rfl, SqL.of eD4, atI_nat (by rw [List.getElem?_map, gv]; rfl), .inl ⟨rfl, _, SqL.of e5⟩, _, rfl, _, _, _, rfl, rfl, e5, by rw [nvs_len]; exact sz5 (by omega), ?_⟩
        refine ⟨⟨_, rfl⟩, Same.mut s4 ?_, ?_, ?_⟩
        · exact hb0.1
        · rw [upd_ne (Ne.symm hb0.2.1)]; exact eD4
        · have em : nvs (rowOf sets v t) ++ [nv t] = nvs (rowOf sets v t ++ [t]) := by unfold nvs; rw [List.map_append]; rfl
          rw [em]
          refine (m4.upd nd gv (rowOf sets v t ++ [t])).congr fun z _ => ?_
          rw [take_snoc hv]
          by_cases e : z = v
          · subst e; simp
          · simp [e]
      · rintro σ' H4 ⟨⟨v7, rfl⟩, s4, eD4, m4⟩
        refine ⟨⟨_, _, _, rfl⟩, s4, eD4, m4.congr fun z _ => ?_⟩
        rw [nvs_len, List.take_length, rowOf_succ, hSt']
    rintro σ' H2 ⟨⟨v5, v6, v7, rfl⟩, s2, eD2, m2⟩
    rw [lN] at m2
    -- masks, sizes
    refine ⟨_, rfl, aS, rfl, ⟨_, s2.seq hS⟩, fun M hM => ?_⟩
    refine lc_map walk_list (fun i y H => y = nv 0) (by rw [lN]; omega) hM (fun H' s' => (s2.trans s').seq hS) (fun _ _ _ _ h _ => h) ySame_at ?_ ?_
    · rintro i x H3 H4 Q' hi s e ⟨rfl, _⟩ k
      exact ⟨rfl, k _ _ (Same.refl _) rfl⟩
    intro H3 ys s3 eM l r
    obtain rfl := ext_fn (f := fun _ => nv 0) l r
    rw [lN] at eM
    have eM' : H3 M = some (.lst (((List.range sets.length).map fun i => mkOf [] (sets.getD i [])).map mkv)) := by
      rw [eM, List.map_map]
      congr 2
      refine mapR_congr fun i _ => ?_
      have : mkOf [] (sets.getD i []) = some 0 := by
        unfold mkOf colsOf pre
        rw [List.filter_eq_nil_iff.mpr fun x _ => by simp]; rfl
      show nv 0 = mkv (mkOf [] (sets.getD i []))
      rw [this]; rfl
    clear l r eM
    have s3' := s2.trans s3
    refine ⟨_, rfl, aS, rfl, ⟨_, s3'.seq hS⟩, fun Z hZ => ?_⟩
    refine lc_map walk_list (fun i y H => y = nv k) (by rw [lN]; omega) hZ (fun H' s' => (s3'.trans s').seq hS) (fun _ _ _ _ h _ => h) ySame_at ?_ ?_
    · rintro i x H4 H5 Q' hi s e ⟨rfl, _⟩ kk
      exact ⟨rfl, _, rfl, kk _ _ (Same.refl _) rfl⟩
    intro H4 ys s4 eZ l r
    obtain rfl := ext_fn (f := fun _ => nv k) l r
    rw [lN] at eZ
    have eZ' : H4 Z = some (.lst (nvs ((List.range sets.length).map fun i => szOf k [] (sets.getD i [])))) := by
      rw [eZ, nvs_mapR]
      congr 2
      refine mapR_congr fun i _ => ?_
      have : szOf k [] (sets.getD i []) = k := by
        unfold szOf pre
        rw [List.filter_eq_nil_iff.mpr fun x _ => by simp]; rfl
      rw [this]
    clear l r eZ
    refine ⟨Nat.zero_le _, fun C hC => ?_⟩
    have dMD : D ≠ M := ne_of_none eD2 hM
    have dmM : ∀ a ∈ ms, a ≠ M := fun a ha => by
      obtain ⟨i, hi, rfl⟩ := List.getElem_of_mem ha
      exact ne_of_none (m2 i _ (List.getElem?_eq_getElem hi)) hM
    have eM4 := s4 _ _ eM'
    have eD4 := s4 _ _ (s3 _ _ eD2)
    have m4 : MemAt H4 ms (fun v => rowOf sets v sets.length) := fun v a h => s4 _ _ (s3 _ _ (m2 v a h))
    have dZD : D ≠ Z := ne_of_none (s3 _ _ eD2) hZ
    have dZM : M ≠ Z := ne_of_none eM' hZ
    have dmZ : ∀ a ∈ ms, a ≠ Z := fun a ha => by
      obtain ⟨i, hi, rfl⟩ := List.getElem_of_mem ha
      exact ne_of_none (s3 _ _ (m2 i _ (List.getElem?_eq_getElem hi))) hZ
    have dCD : D ≠ C := ne_of_none eD4 hC
    have dCM : M ≠ C := ne_of_none eM4 hC
    have dCZ : Z ≠ C := ne_of_none eZ' hC
    have dmC : ∀ a ∈ ms, a ≠ C := fun a ha => by
      obtain ⟨i, hi, rfl⟩ := List.getElem_of_mem ha
      exact ne_of_none (m4 i _ (List.getElem?_eq_getElem hi)) hC
    have M0 : H M = none := s2.free hM
    have Z0 : H Z = none := s3'.free hZ
    have C0 : H C = none := (s3'.trans s4).free hC
    have nmem : ∀ {X : Addr}, (∀ a ∈ ms, a ≠ X) → ∀ {G : Hp} {o : HO} {rows : Nat → List Nat}, MemAt G ms rows → MemAt (upd G X o) ms rows := fun hX G o rows mm v a h => by
      rw [upd_ne (hX a (List.mem_of_getElem? h))]; exact mm v a h
    have s5 : Same H (upd H4 C (.lst [])) := Same.mut (s3'.trans s4) C0
    refine ⟨_, rfl, _, rfl, by omega, by omega, ?_⟩
    rw [Int.toNat_natCast]
    refine for_range (lo := 0) (n := n) (fun j σ' H' => (∃ v5 v6 v7 v11, σ' = [some (nv n), some (nv k), some (.ref aS), some (.ref aCh), some (.ref D), v5, v6, v7, some (.ref M), some (.ref Z), some (.ref C), v11, none, none]) ∧ Same H H' ∧ H' D = some (.lst (ms.map V.ref)) ∧
      MemAt H' ms (fun v => rowOf sets v sets.length) ∧ ∃ c : List Nat, c.length = j ∧ (∀ x ∈ c, x < k) ∧ 0 < Phi k sets c ∧ H' C = some (.lst (nvs c)) ∧
      H' M = some (.lst (((List.range sets.length).map fun i => mkOf c (sets.getD i [])).map mkv)) ∧ H' Z = some (.lst (nvs ((List.range sets.length).map fun i => szOf k c (sets.getD i [])))))
      ⟨⟨_, _, _, none, rfl⟩, s5, by rw [upd_ne dCD]; exact eD4, nmem dmC m4, [], rfl, by simp, Phi_start so hne, upd_same, by rw [upd_ne dCM]; exact eM4, by rw [upd_ne dCZ]; exact eZ'⟩ ?_ ?_
    · rintro j σ' H5 hj ⟨⟨v5, v6, v7, v11, rfl⟩, s5, eD5, m5, c, cl, clt, cphi, eC5, eM5, eZ5⟩
      have ej : (0 : Int) + (j : Int) = ((j : Nat) : Int) := Int.zero_add _
      rw [ej]
      have hjm : j < ms.length := by omega
      have gj : ms[j]? = some (ms[j]) := List.getElem?_eq_getElem hjm
      have gj' : (ms.map V.ref)[j]? = some (V.ref ms[j]) := by rw [List.getElem?_map, gj]; rfl
      have erow : H5 ms[j] = some (HO.lst (nvs (rowOf sets j sets.length))) := m5 j _ gj
      have hrow : ∀ i ∈ rowOf sets j sets.length, i < sets.length ∧ j ∈ sets.getD i [] := fun i hi => by
        obtain ⟨h1, h2⟩ := List.mem_filter.mp hi
        exact ⟨List.mem_range.mp h1, List.contains_iff_mem.mp h2⟩
      have ndrow : (rowOf sets j sets.length).Nodup := List.Nodup.sublist List.filter_sublist List.nodup_range
      have hin : ∀ i, i < sets.length → (i ∈ rowOf sets j sets.length ↔ j ∈ sets.getD i []) := fun i hi => by
        unfold rowOf
        rw [List.mem_filter, List.mem_range, List.contains_iff_mem]
        exact ⟨fun h => h.2, fun h => ⟨hi, h⟩⟩
      subst cl
      have szb : ∀ i ∈ rowOf sets c.length sets.length, 1 ≤ szOf k c (sets.getD i []) ∧ szOf k c (sets.getD i []) ≤ k := fun i hi => by
        obtain ⟨h1, h2⟩ := hrow i hi
        exact szOf_pos (so.asc _ (so.at_ h1)) (so.len _ (so.at_ h1)) h2
      refine ⟨_, rfl, _, rfl, _, rfl, _, rfl, _, rfl, _, rfl, c.length, k, M, D, aCh, Z, ms[c.length], (List.range sets.length).map fun i => mkOf c (sets.getD i []), (List.range sets.length).map fun i => szOf k c (sets.getD i []), rowOf sets c.length sets.length, ms.map V.ref, rfl,
        SqL.of eM5, SqL.of eD5, gj', SqL.of erow, s5.seq hCh, SqL.of eZ5, hk1, hk7, fun i hi => ?_, fun H6 b s6 hb hmax => ?_⟩
      · obtain ⟨h1, h2⟩ := hrow i hi
        rw [List.length_map, List.length_range, List.length_map, List.length_range, getD_mapR h1]
        exact ⟨h1, h1, szb i hi⟩
      have etot : ∀ b', totOf k ((List.range sets.length).map fun i => mkOf c (sets.getD i [])) ((List.range sets.length).map fun i => szOf k c (sets.getD i [])) (rowOf sets c.length sets.length) b' =
          ((rowOf sets c.length sets.length).map fun i => addOf k (mkOf c (sets.getD i [])) (szOf k c (sets.getD i [])) b').sum := fun b' => by
        unfold totOf
        refine sum_congr fun i hi => ?_
        rw [getD_mapR (hrow i hi).1, getD_mapR (hrow i hi).1]
      have hphi : Phi k sets c ≤ Phi k sets (c ++ [b]) := Phi_step so hk1 clt fun b' hb' => by
        have := hmax b' hb'
        rwa [etot, etot] at this
      clear hmax etot
      have e6D := s6 _ _ eD5
      have e6M := s6 _ _ eM5
      have e6Z := s6 _ _ eZ5
      have e6C := s6 _ _ eC5
      have m6 : MemAt H6 ms (fun v => rowOf sets v sets.length) := fun v a h => s6 _ _ (m5 v a h)
      have s6' := s5.trans s6
      have e6row := s6 _ _ erow
      clear eD5 eM5 eZ5 eC5 m5 s5 erow s6
      refine ⟨_, rfl, _, rfl, _, _, _, _, rfl, rfl, SqL.of e6D, atI_nat gj', ms[c.length], rfl, ⟨_, SqL.of e6row⟩, ?_⟩
      refine for_list (K := K) (a := ms[c.length]) (xs := nvs (rowOf sets c.length sets.length)) (fun u σ' H' => (∃ v5, σ' = [some (nv n), some (nv k), some (.ref aS), some (.ref aCh), some (.ref D), v5, v6, some (nv c.length), some (.ref M), some (.ref Z), some (.ref C), some (nv b), none, none]) ∧ Same H H' ∧
        H' D = some (.lst (ms.map V.ref)) ∧ MemAt H' ms (fun v => rowOf sets v sets.length) ∧ H' C = some (.lst (nvs c)) ∧
        H' M = some (.lst (((List.range sets.length).map fun i => if i ∈ (rowOf sets c.length sets.length).take u then mkOf (c ++ [b]) (sets.getD i []) else mkOf c (sets.getD i [])).map mkv)) ∧
        H' Z = some (.lst (nvs ((List.range sets.length).map fun i => if i ∈ (rowOf sets c.length sets.length).take u then szOf k (c ++ [b]) (sets.getD i []) else szOf k c (sets.getD i [])))))
        ⟨⟨_, rfl⟩, s6', e6D, m6, e6C, by simpa using e6M, by simpa using e6Z⟩ (fun i σ H' _ p => SqL.of (p.2.2.2.1 _ _ gj)) ?_ ?_
      · rintro u x σ' H7 hx ⟨⟨v5, rfl⟩, s7, e7D, m7, e7C, e7M, e7Z⟩
        obtain ⟨i, hi, rfl⟩ := nvs_inv hx
        have him := List.mem_of_getElem? hi
        obtain ⟨h1, h2⟩ := hrow i him
        obtain ⟨z1, z2⟩ := szb i him
        have hnot : i ∉ (rowOf sets c.length sets.length).take u := fun z => by
          obtain ⟨i', hi', e⟩ := List.getElem_of_mem z
          rw [List.length_take] at hi'
          have e' : (rowOf sets c.length sets.length)[i']? = some i := by rw [List.getElem_take] at e; rw [← e]; exact List.getElem?_eq_getElem (by omega)
          have := nd_ix ndrow e' hi
          omega
        have gZ : ((List.range sets.length).map fun i => if i ∈ (rowOf sets c.length sets.length).take u then szOf k (c ++ [b]) (sets.getD i []) else szOf k c (sets.getD i []))[i]? = some (szOf k c (sets.getD i [])) := by
          rw [mapR_get h1, if_neg hnot]
        have gM : (((List.range sets.length).map fun i => if i ∈ (rowOf sets c.length sets.length).take u then mkOf (c ++ [b]) (sets.getD i []) else mkOf c (sets.getD i [])).map mkv)[i]? = some (mkv (mkOf c (sets.getD i []))) := by
          rw [List.getElem?_map, mapR_get h1, if_neg hnot]; rfl
        have eszi : V.int (((szOf k c (sets.getD i []) : Nat) : Int) - 1) = nv (szOf k (c ++ [b]) (sets.getD i [])) := by
          rw [szOf_in (so.asc _ (so.at_ h1)) h2]
          show V.int _ = V.int _
          congr 1; omega
        have emki := mkOf_in (b := b) (so.asc _ (so.at_ h1)) h2
        refine ⟨_, rfl, _, rfl, Z, _, i, _, rfl, rfl, SqL.of e7Z, nvs_get gZ, _, _, rfl, rfl, Z, _, _, i, rfl, rfl, e7Z, ixN_nat (by rw [nvs_len, List.length_map, List.length_range]; exact h1), ?_⟩
        refine updI fun H8 e8 k8 => ?_
        have e8Z : H8 Z = some (.lst (nvs ((List.range sets.length).map fun i => if i ∈ (rowOf sets c.length sets.length).take (u + 1) then szOf k (c ++ [b]) (sets.getD i []) else szOf k c (sets.getD i [])))) := by
          rw [e8]
          refine congrArg (fun l => some (HO.lst l)) ?_
          refine (congrArg _ eszi).trans ?_
          rw [nvs_set, mapR_set, take_snoc hi]
          congr 1
          refine mapR_congr fun x _ => ?_
          by_cases e : x = i
          · subst e; simp
          · simp [e]
        have e8M := (k8 M dZM).trans e7M
        have e8D := (k8 D dZD).trans e7D
        have e8C := (k8 C dCZ.symm).trans e7C
        have m8 : MemAt H8 ms (fun v => rowOf sets v sets.length) := fun v a h => (k8 a (dmZ a (List.mem_of_getElem? h))).trans (m7 v a h)
        have s8 := Same.but s7 Z0 k8
        clear e8 k8 s7 e7D m7 e7C e7M e7Z gZ
        have lenM : ∀ g : Nat → Option Nat, i < (((List.range sets.length).map g).map mkv).length := fun g => by rw [List.length_map, List.length_map, List.length_range]; exact h1
        have setM : ∀ (o : Option Nat) (v : V), v = mkv o → o = mkOf (c ++ [b]) (sets.getD i []) → (((List.range sets.length).map fun i => if i ∈ (rowOf sets c.length sets.length).take u then mkOf (c ++ [b]) (sets.getD i []) else mkOf c (sets.getD i [])).map mkv).set i v =
            ((List.range sets.length).map fun i => if i ∈ (rowOf sets c.length sets.length).take (u + 1) then mkOf (c ++ [b]) (sets.getD i []) else mkOf c (sets.getD i [])).map mkv := fun o v ev eo => by
          rw [ev, ← List.map_set, mapR_set, take_snoc hi, eo]
          congr 1
          refine mapR_congr fun x _ => ?_
          by_cases e : x = i
          · subst e; simp
          · simp [e]
        have fin : ∀ (o : Option Nat) (v : V), v = mkv o → o = mkOf (c ++ [b]) (sets.getD i []) → ∀ H9 : Hp, H9 M = some (.lst ((((List.range sets.length).map fun i => if i ∈ (rowOf sets c.length sets.length).take u then mkOf (c ++ [b]) (sets.getD i []) else mkOf c (sets.getD i [])).map mkv).set i v)) → (∀ x, x ≠ M → H9 x = H8 x) →
            Same H H9 ∧ H9 D = some (.lst (ms.map V.ref)) ∧ MemAt H9 ms (fun v => rowOf sets v sets.length) ∧ H9 C = some (.lst (nvs c)) ∧
            H9 M = some (.lst (((List.range sets.length).map fun i => if i ∈ (rowOf sets c.length sets.length).take (u + 1) then mkOf (c ++ [b]) (sets.getD i []) else mkOf c (sets.getD i [])).map mkv)) ∧
            H9 Z = some (.lst (nvs ((List.range sets.length).map fun i => if i ∈ (rowOf sets c.length sets.length).take (u + 1) then szOf k (c ++ [b]) (sets.getD i []) else szOf k c (sets.getD i [])))) := fun o v ev eo H9 e9 k9 => by
          refine ⟨Same.but s8 M0 k9, (k9 D dMD).trans e8D, fun v a h => (k9 a (dmM a (List.mem_of_getElem? h))).trans (m8 v a h), (k9 C dCM.symm).trans e8C, ?_, (k9 Z dZM.symm).trans e8Z⟩
          rw [e9, setM o v ev eo]
        cases hm : mkOf c (sets.getD i []) with
        | none =>
          rw [hm] at gM emki
          refine ⟨_, rfl, _, rfl, _, _, _, _, rfl, rfl, SqL.of e8M, atI_nat gM, _, _, rfl, rfl, _, rfl, ?_⟩
          refine iteF ?_
          refine iteF ?_
          refine ⟨_, rfl, _, rfl, _, rfl, M, _, _, i, rfl, rfl, e8M, ixN_nat (lenM _), ?_⟩
          refine updI fun H9 e9 k9 => ?_
          exact ⟨⟨_, rfl⟩, fin none _ rfl emki.symm H9 e9 k9⟩
        | some m =>
          rw [hm] at gM emki
          refine ⟨_, rfl, _, rfl, _, _, _, _, rfl, rfl, SqL.of e8M, atI_nat gM, _, _, rfl, rfl, _, rfl, ?_⟩
          rw [decide_eq_true (by omega)]
          refine iteT ?_
          refine ⟨_, rfl, _, rfl, _, _, _, _, rfl, rfl, SqL.of e8M, atI_nat gM, _, rfl, _, _, rfl, rfl, shl_ok (by omega), _, _, rfl, rfl, rfl, _, rfl, ?_⟩
          refine ite2 (fun h => ?_) (fun h => ?_)
          · have h' : V.int (Builtin.bitAnd (m : Int) ((1 : Int) * 2 ^ ((b : Int)).toNat)) = V.int 0 := dt h
            rw [pw_nat, band] at h'
            have hz : m &&& 2 ^ b = 0 := by injection h' with h'; omega
            have hb' := and_zero_iff.mp hz
            refine ⟨_, rfl, _, rfl, M, _, i, _, rfl, rfl, SqL.of e8M, gM, _, rfl, _, _, rfl, rfl, shl_ok (by omega), _, _, rfl, rfl, M, _, _, i, rfl, rfl, e8M, ixN_nat (lenM _), ?_⟩
            refine updI fun H9 e9 k9 => ?_
            refine ⟨⟨_, rfl⟩, fin (some (m ||| 2 ^ b)) _ ?_ (by rw [emki, stepM_f hb']) H9 e9 k9⟩
            show V.int (Builtin.bitOr (m : Int) ((1 : Int) * 2 ^ ((b : Int)).toNat)) = V.int _
            rw [pw_nat, bor]
          · have h' : ¬ V.int (Builtin.bitAnd (m : Int) ((1 : Int) * 2 ^ ((b : Int)).toNat)) = V.int 0 := df h
            rw [pw_nat, band] at h'
            have hz : ¬ (m &&& 2 ^ b = 0) := fun z => h' (by rw [z]; rfl)
            have hb' : m.testBit b = true := by
              cases z : m.testBit b with
              | true => rfl
              | false => exact absurd (and_zero_iff.mpr z) hz
            refine ⟨_, rfl, _, rfl, _, rfl, M, _, _, i, rfl, rfl, e8M, ixN_nat (lenM _), ?_⟩
            refine updI fun H9 e9 k9 => ?_
            exact ⟨⟨_, rfl⟩, fin none _ rfl (by rw [emki, stepM_t hb']) H9 e9 k9⟩
      · rintro σ' H7 ⟨⟨v5, rfl⟩, s7, e7D, m7, e7C, e7M, e7Z⟩
        rw [nvs_len, List.take_length] at e7M e7Z
        refine ⟨_, rfl, .inl ⟨rfl, _, SqL.of e7C⟩, _, rfl, C, _, _, rfl, rfl, e7C, by rw [nvs_len]; exact sz5 (by omega), ?_⟩
        refine updI fun H8 e8 k8 => ?_
        refine ⟨⟨_, _, _, _, rfl⟩, Same.but s7 C0 k8, (k8 D dCD).trans e7D, fun v a h => (k8 a (dmC a (List.mem_of_getElem? h))).trans (m7 v a h), c ++ [b], by rw [List.length_append]; rfl, fun x hx => ?_, Nat.lt_of_lt_of_le cphi hphi, ?_, ?_, ?_⟩
        · rcases List.mem_append.mp hx with h | h
          · exact clt x h
          · rw [List.mem_singleton.mp h]; exact hb
        · rw [e8]; unfold nvs; rw [List.map_append]; rfl
        · rw [k8 M dCM, e7M]
          congr 3
          refine mapR_congr fun i hi => ?_
          by_cases e : i ∈ rowOf sets c.length sets.length
          · rw [if_pos e]
          · rw [if_neg e, mkOf_notin fun z => e ((hin i hi).mpr z)]
        · rw [k8 Z dCZ, e7Z]
          congr 3
          refine mapR_congr fun i hi => ?_
          by_cases e : i ∈ rowOf sets c.length sets.length
          · rw [if_pos e]
          · rw [if_neg e, szOf_notin fun z => e ((hin i hi).mpr z)]
    · rintro σ' H5 ⟨⟨v5, v6, v7, v11, rfl⟩, s5, eD5, m5, c, cl, clt, cphi, eC5, eM5, eZ5⟩
      refine ⟨_, rfl, _, rfl, M, _, rfl, SqL.of eM5, fun G hG => ?_⟩
      refine lc_it walk_enum (fun t H' => Same H5 H' ∧ H' G = some (.lst (nvs ((List.range t).filter fun i => (mkOf c (sets.getD i [])).isSome)))) ⟨Same.new hG, upd_same⟩ (fun i H' _ p => SqL.of (p.1 _ _ eM5)) ?_ ?_
      · rintro t x H6 H7 ht ⟨s6, e6⟩ ⟨T0, x1, x2, rfl, hT, rfl, e1, e2⟩
        obtain rfl : V.int (t : Int) = x1 := Option.some.inj e1
        have ht' : t < sets.length := by rw [List.length_map, List.length_map, List.length_range] at ht; exact ht
        have e2 : (((List.range sets.length).map fun i => mkOf c (sets.getD i [])).map mkv)[t]? = some x2 := e2
        rw [List.getElem?_map, mapR_get ht'] at e2
        obtain rfl : mkv (mkOf c (sets.getD t [])) = x2 := Option.some.inj e2
        have nG : G ≠ T0 := ne_of_none e6 hT
        have lt : (nvs ((List.range t).filter fun i => (mkOf c (sets.getD i [])).isSome)).length ≤ t := by
          rw [nvs_len]
          have := List.length_filter_le (fun i => (mkOf c (sets.getD i [])).isSome) (List.range t)
          rwa [List.length_range] at this
        refine ⟨T0, _, rfl, SqT.of upd_same, rfl, _, _, rfl, _, _, rfl, rfl, rfl, ?_⟩
        cases hm : mkOf c (sets.getD t []) with
        | none =>
          refine ⟨_, rfl, _, _, rfl, rfl, _, rfl, ?_⟩
          refine iteF ?_
          refine ⟨s6.trans (Same.new hT), ?_⟩
          rw [upd_ne nG, e6, filt_no (by rw [hm]; rfl)]
        | some m =>
          refine ⟨_, rfl, _, _, rfl, rfl, _, rfl, ?_⟩
          rw [decide_eq_true (by omega)]
          refine iteT ?_
          refine ⟨_, rfl, _, (upd_ne nG).trans e6, sz5 (by omega), ?_⟩
          refine ⟨Same.mut (s6.trans (Same.new hT)) hG, ?_⟩
          rw [upd_same, filt_yes (by rw [hm]; rfl), ← nvs_snoc]
      · rintro H6 ⟨s6, e6⟩
        rw [List.length_map, List.length_map, List.length_range] at e6
        refine ⟨by show 2 ≤ sizeLine; decide, fun p hp => ?_⟩
        have nC : C ≠ p := ne_of_none (s6 _ _ eC5) hp
        have nG : G ≠ p := ne_of_none e6 hp
        have sN := (s5.trans s6).trans (Same.new (o := .tup [.ref C, .ref G]) hp)
        have full : ∀ i, i < sets.length → ((mkOf c (sets.getD i [])).isSome = true ↔ ((sets.getD i []).map fun x => c.getD x 0).Nodup) := fun i hi => by
          rw [← mkOf_full (fun x hx => by rw [cl]; exact so.lt _ (so.at_ hi) x hx), Option.isSome_iff_exists]
        refine q _ p C G c _ sN ((s5.trans s6).free hp) C0 (s5.free hG) upd_same (by rw [upd_ne nC]; exact s6 _ _ eC5) (by rw [upd_ne nG]; exact e6) cl clt (fun i => ?_) (fun z => ?_) ?_
        · rw [List.mem_filter, List.mem_range]
          exact ⟨fun h => ⟨h.1, (full i h.1).mp h.2⟩, fun h => ⟨h.1, (full i h.1).mpr h.2⟩⟩
        · obtain ⟨i, hi, m, em⟩ := Phi_end so cl cphi
          have : i ∈ (List.range sets.length).filter fun i => (mkOf c (sets.getD i [])).isSome := List.mem_filter.mpr ⟨List.mem_range.mpr hi, by rw [em]; rfl⟩
          rw [z] at this
          cases this
        · have := List.length_filter_le (fun i => (mkOf c (sets.getD i [])).isSome) (List.range sets.length)
          rw [List.length_range] at this
          omega
end
end K53
namespace K53
open PySem PySem.Spec PyProof.Rows L2
/-! ### families of colourings -/
def ColsAt (H : Hp) (cs : List Addr) (fam : List (List Nat)) : Prop := Paired (fun a c => H a = some (.lst (nvs c))) cs fam
theorem ColsAt.mono {H H' : Hp} {cs : List Addr} {fam : List (List Nat)} (t : ColsAt H cs fam) (e : Same H H') : ColsAt H' cs fam := Paired.mapP t fun _ _ q => e _ _ q
theorem ColsAt.snoc {H : Hp} : ∀ {as : List Addr} {xss : List (List Nat)} {a : Addr} {ns : List Nat}, ColsAt H as xss → H a = some (.lst (nvs ns)) → ColsAt H (as ++ [a]) (xss ++ [ns])
  | _, _, _, _, .nil, h => .cons h .nil
  | _, _, _, _, .cons q t, h => .cons q (ColsAt.snoc t h)
theorem ColsAt.length {H : Hp} {as : List Addr} {xss : List (List Nat)} (t : ColsAt H as xss) : as.length = xss.length := Paired.length t
theorem ColsAt.get {H : Hp} {as : List Addr} {xss : List (List Nat)} (t : ColsAt H as xss) {i : Nat} {a : Addr} (h : as[i]? = some a) : ∃ ns, xss[i]? = some ns ∧ H a = some (.lst (nvs ns)) := paired_get t h
/-- .. where another object changed -/
theorem ColsAt.but {H H' : Hp} {p : Addr} {as : List Addr} {xss : List (List Nat)} (t : ColsAt H as xss) (hp : p ∉ as) (k : ∀ b, b ≠ p → H' b = H b) : ColsAt H' as xss := by
  induction t with
  | nil => exact .nil
  | @cons a x l r q t ih =>
    refine .cons ?_ (ih fun z => hp (List.mem_cons_of_mem _ z))
    rw [k a fun z => hp (by rw [z]; exact List.mem_cons_self)]; exact q
theorem TupsAt.fresh {H H' : Hp} {p : Addr} {as : List Addr} {xss : List (List Nat)} (t : TupsAt H as xss) {xs : List V} (hp : H p = some (.lst xs)) (k : ∀ b, b ≠ p → H' b = H b) : TupsAt H' as xss := Paired.mapP t fun a ns q => by
  rw [k a (ne_of q hp (by intro z; cases z))]; exact q
def Splits (c S : List Nat) : Prop := (S.map fun x => c.getD x 0).Nodup
structure Cols (n k : Nat) (fam : List (List Nat)) : Prop where
  len : ∀ c ∈ fam, c.length = n
  lt : ∀ c ∈ fam, ∀ x ∈ c, x < k
theorem paired_of {α β : Type} {F : α → β → Prop} {as : List α} {bs : List β} (l : as.length = bs.length) (h : ∀ (i : Nat) a b, as[i]? = some a → bs[i]? = some b → F a b) : Paired F as bs := by
  induction as generalizing bs with
  | nil =>
    cases bs with
    | nil => exact .nil
    | cons b r => simp at l
  | cons a r ih =>
    cases bs with
    | nil => simp at l
    | cons b r' => exact .cons (h 0 a b rfl rfl) (ih (by simpa using l) fun i x y hx hy => h (i + 1) x y (by simpa using hx) (by simpa using hy))
section
variable {P : Program} {w : World} {K : PySem.W.Frag} {mg : Str → Option Value} {base : Heap}
def sp_family_of : Sp := fun vs H Q _ => ∃ (n k : Nat) (aS : Addr) (as : List Addr) (sets : List (List Nat)), vs = [nv n, nv k, .ref aS] ∧ H aS = some (.lst (as.map V.ref)) ∧ TupsAt H as sets ∧ SetsOk n k sets ∧ 1 ≤ k ∧ k ≤ 7 ∧ n ≤ 40 ∧ sets.length ≤ 50000 ∧
  ∀ (H' : Hp) (p : Addr) (cs : List Addr) (fam : List (List Nat)), Same H H' → H p = none → H' p = some (.lst (cs.map V.ref)) → ColsAt H' cs fam → p ∉ cs → Cols n k fam → (∀ S ∈ sets, ∃ c ∈ fam, Splits c S) → fam.length ≤ 50000 → Q (.ref p) H'
theorem o_family_of {f : Addr} {fd : FuncData} (F : FnP K "family_of" "family_of" s_family_of f fd) (hm : mg "family_of" = some (.ref f)) (T : Tx mg) (D_hopes : Own P w K mg base 1 "hopes" sp_hopes) (D_colouring_for : Own P w K mg base 2 "colouring_for" (sp_colouring_for K))  : Own P w K mg base 3 "family_of" sp_family_of := by
  have sc : FnScope ["n", "k", "sets", "chances", "found", "colouring", "split", "done", "number", "chosen"] ["n", "k", "sets"] (defScope s_family_of) := ⟨rfl, rfl, rfl, by decide +kernel, rfl, by decide +kernel, by decide +kernel⟩
  refine own_ok F hm sc (fun _ _ _ _ _ _ us hl => match us, hl with | [_, _, _], _ => rfl) (fun vs H Q E h => ?_) (fun cdv A outer s H vs Q E hr h => ?_)
  · obtain ⟨n, k, aS, as, sets, rfl, _⟩ := h; rfl
  · obtain ⟨n, k, aS, as, sets, rfl, hS, tps, so, hk1, hk7, hn, hN, q⟩ := h
    have hu := hu_of hr
    refine ⟨_, (pss_cons (ps_set (i := 3) sc.nd rfl (Or.inl rfl) (pe_own D_hopes (hr.mono (by decide)) (by rfl) (pa_cons (pv 1) pa_nil))) 
      (pss_cons (ps_set (i := 4) sc.nd rfl (Or.inl rfl) (pe_lst pa_nil)) 
      (pss_cons (ps_while PassesOwn.never (pt_truth (pv 2) (by intro _; rfl)) (pss_cons (ps_asg (pe_own D_colouring_for (hr.mono (by decide)) (by rfl) (pa_cons (pv 0) (pa_cons (pv 1) (pa_cons (pv 2) (pa_cons (pv 3) pa_nil))))) (pg_tup rfl (pgs_cons (pg_name (i := 5) sc.nd rfl (Or.inl rfl)) (pgs_cons (pg_name (i := 6) sc.nd rfl (Or.inl rfl)) pgs_nil)))) (pss_cons (ps_expr (pe_bm PySem.F.plainAttrs_list PySem.F.slot_list_append PySem.F.type_list_append mt_append (pv 4) (pa_cons (pv 5) pa_nil))) (pss_cons (ps_set (i := 7) sc.nd rfl (Or.inr rfl) pe_dnewK) (pss_cons (ps_for PassesOwn.never rfl (pi_list (pv 6)) (pg_name (i := 8) sc.nd rfl (Or.inl rfl)) (pss_one (ps_dput hu (pv 7) (pv 8) pe_bl rfl))) (pss_one (ps_setLc (i := 2) (own := [("number", 8), ("chosen", 9)]) (g := gTup K 2 (gCons (gName 8) (gCons (gName 9) gNil))) rfl sc.nd rfl rfl (sw_true rfl rfl rfl (by decide +kernel)) (pi_enum (by rfl) T.enum (pa_cons (pv 2) pa_nil)) (blkOk_by (N := (["n", "k", "sets", "chances", "found", "colouring", "split", "done", "number", "chosen"] : List Str)) (sc := defScope s_family_of) (by decide +kernel)) (fun _ _ _ _ _ => (pg_tup rfl (pgs_cons (pg_name (i := 8) sc.nd rfl (Or.inl rfl)) (pgs_cons (pg_name (i := 9) sc.nd rfl (Or.inl rfl)) pgs_nil)))) (fun _ _ _ _ _ => (pts_one (pt_cmp (pc_dnotin hu (pv 8) (pv 7))))) (fun _ _ _ _ _ => (pv 9))))))))) 
      (pss_one (ps_ret (pv 4)))))), ?_⟩
    refine ⟨_, rfl, k, rfl, hk7, fun H1 ch s1 ch0 eCh => ?_⟩
    refine ⟨Nat.zero_le _, fun F hF => ?_⟩
    have F0 : H F = none := s1.free hF
    have dF : ch ≠ F := ne_of_none eCh hF
    have sF := Same.mut (o := .lst []) s1 F0
    let W : Nat → L2.St → Hp → Prop := fun d σ' H' => ∃ (aS : Addr) (as cs : List Addr) (cur fam : List (List Nat)), (∃ v5 v6 v7 v8, σ' = [some (nv n), some (nv k), some (.ref aS), some (.ref ch), some (.ref F), v5, v6, v7, v8, none]) ∧ d = cur.length ∧ Same H H' ∧ H' ch = some (.lst (nvs (hopesL k))) ∧
      H' aS = some (.lst (as.map V.ref)) ∧ aS ≠ F ∧ TupsAt H' as cur ∧ SetsOk n k cur ∧
      H' F = some (.lst (cs.map V.ref)) ∧ F ∉ cs ∧ ColsAt H' cs fam ∧ Cols n k fam ∧ (∀ S ∈ sets, S ∈ cur ∨ ∃ c ∈ fam, Splits c S) ∧ fam.length + cur.length ≤ sets.length
    refine ⟨W, ⟨sets.length, aS, as, [], sets, [], ⟨none, none, none, none, rfl⟩, rfl, sF, by rw [upd_ne dF]; exact eCh, sF _ _ hS, ne_of_none hS F0, tps.mono sF, so, upd_same, by simp, .nil, ⟨by simp, by simp⟩, fun S h => .inl h, by simp⟩, ?_⟩
    rintro d σ' H2 ⟨aS, as, cs, cur, fam, ⟨v5, v6, v7, v8, rfl⟩, rfl, s2, eC2, hS2, dS, tps2, so2, eF2, nF, cols2, cok, cov, ln⟩
    have la : as.length = cur.length := tps2.length
    refine ⟨_, rfl, _, .inl ⟨_, SqL.of hS2, rfl⟩, ?_⟩
    by_cases hcur : cur = []
    · have e0 : as = [] := List.eq_nil_of_length_eq_zero (by rw [la, hcur]; rfl)
      rw [e0]
      refine iteF ?_
      refine ⟨_, rfl, ?_⟩
      refine q H2 F cs fam s2 F0 eF2 cols2 nF cok (fun S hS => ?_) (by omega)
      rcases cov S hS with h | h
      · rw [hcur] at h; cases h
      · exact h
    have e1 : (!(as.map V.ref).isEmpty) = true := by
      cases as with
      | nil => exact absurd (List.eq_nil_of_length_eq_zero la.symm) hcur
      | cons a r => rfl
    rw [e1]
    refine iteT ?_
    refine ⟨fun σ' H' => ∃ m', m' < cur.length ∧ W m' σ' H', fun _ _ z => z, ?_⟩
    refine ⟨_, rfl, _, rfl, _, rfl, _, rfl, n, k, aS, ch, as, cur, rfl, SqL.of hS2, tps2, so2, hcur, SqL.of eC2, hk1, hk7, hn, by omega, fun H3 p pc ps c ix s3 p0 pc0 ps0 ep epc eps cl clt hix hne lix => ?_⟩
    refine ⟨p, _, rfl, SqT.of ep, rfl, _, _, rfl, _, _, rfl, rfl, ?_⟩
    have e3F := s3 _ _ eF2
    have lf : fam.length ≤ 50000 := by omega
    refine ⟨_, rfl, .inl ⟨rfl, _, SqL.of e3F⟩, _, rfl, F, _, _, rfl, rfl, e3F, by rw [List.length_map, cols2.length]; exact sz5 (by omega), ?_⟩
    refine updI fun H4 e4 k4 => ?_
    have dpcF : pc ≠ F := fun z => by rw [z, eF2] at pc0; cases pc0
    have dpsF : ps ≠ F := fun z => by rw [z, eF2] at ps0; cases ps0
    have dch : ch ≠ F := dF
    have cov3 : ∀ S ∈ sets, S ∈ cur ∨ ∃ c' ∈ fam, Splits c' S := cov
    have s4 : Same H H4 := Same.but (s2.trans s3) F0 k4
    have e4F : H4 F = some (.lst ((cs ++ [pc]).map V.ref)) := by rw [e4, List.map_append]; rfl
    have nF4 : F ∉ cs ++ [pc] := fun z => by
      rcases List.mem_append.mp z with z | z
      · exact nF z
      · exact dpcF (List.mem_singleton.mp z).symm
    have cols4 : ColsAt H4 (cs ++ [pc]) (fam ++ [c]) := ((cols2.mono s3).but nF k4).snoc (by rw [k4 pc dpcF]; exact epc)
    have e4ps := (k4 ps dpsF).trans eps
    have e4ch := (k4 ch dF).trans (s3 _ _ eC2)
    have e4S := (k4 aS dS).trans (s3 _ _ hS2)
    have tps4 : TupsAt H4 as cur := TupsAt.fresh (tps2.mono s3) e3F k4
    clear k4 e4 e3F cols2 tps2 hS2 eC2 epc eps ep s3
    refine fun dn hdn => ?_
    have dn0 : H dn = none := s4.free hdn
    refine updI fun H5 e5 k5 => ?_
    have st5 : ∀ b o, H4 b = some o → H5 b = some o := fun b o h => (k5 b (ne_of_none h hdn)).trans h
    refine ⟨_, rfl, ps, rfl, ⟨_, SqL.of (st5 _ _ e4ps)⟩, ?_⟩
    refine for_list (K := K) (a := ps) (xs := nvs ix) (fun t σ' H' => (∃ v8, σ' = [some (nv n), some (nv k), some (.ref aS), some (.ref ch), some (.ref F), some (.ref pc), some (.ref ps), some (.ref dn), v8, none]) ∧ (∀ b, b ≠ dn → H' b = H5 b) ∧ ∃ kvs : List (Key × V), H' dn = some (.dK kvs) ∧ kvs.length ≤ t ∧
      ∀ j : Nat, (valV kvs (.inl (j : Int))).isSome = true ↔ j ∈ ix.take t) ⟨⟨_, rfl⟩, fun _ _ => rfl, [], e5, Nat.le_refl _, fun j => by simp [valV]⟩ (fun i σ H' _ pp => SqL.of ((pp.2.1 ps (ne_of_none e4ps hdn)).trans (st5 _ _ e4ps))) ?_ ?_
    · rintro t x σ' H6 hx ⟨⟨v8, rfl⟩, k6, kvs, e6, l6, h6⟩
      obtain ⟨i, hi, rfl⟩ := nvs_inv hx
      have hlt := (List.getElem?_eq_some_iff.mp hi).1
      refine ⟨_, rfl, _, rfl, dn, _, rfl, DPut.k (k := .inl (i : Int)) e6 (sz5 (by omega)), ⟨_, rfl⟩, fun b hb => (upd_ne hb).trans (k6 b hb), _, upd_same, Nat.le_trans (length_putK _ _ _) (by omega), fun j => ?_⟩
      rw [valV_put, take_snoc hi, List.mem_append, List.mem_singleton, ← h6 j]
      by_cases e : j = i
      · subst e; simp
      · rw [if_neg (by intro z; injection z with z; omega)]
        exact ⟨fun h => .inl h, fun h => h.resolve_right e⟩
    rintro σ' H6 ⟨⟨v8, rfl⟩, k6, kvs, e6, l6, h6⟩
    rw [nvs_len, List.take_length] at h6
    have st6 : ∀ b o, H4 b = some o → H6 b = some o := fun b o h => (k6 b (ne_of_none h hdn)).trans (st5 b o h)
    have s6 : Same H H6 := s4.trans st6
    -- the sets that are left
    refine ⟨_, rfl, aS, _, rfl, SqL.of (st6 _ _ e4S), fun G hG => ?_⟩
    refine lc_it walk_enum (fun t H' => Same H6 H' ∧ H' G = some (.lst ((((List.range t).filter fun i => !decide (i ∈ ix)).map fun i => as.getD i 0).map V.ref))) ⟨Same.new hG, upd_same⟩ (fun i H' _ pp => SqL.of (pp.1 _ _ (st6 _ _ e4S))) ?_ ?_
    · rintro t x H7 H8 ht ⟨s7, e7⟩ ⟨T0, x1, x2, rfl, hT, rfl, f1, f2⟩
      obtain rfl : V.int (t : Int) = x1 := Option.some.inj f1
      rw [List.length_map] at ht
      have f2 : (as.map V.ref)[t]? = some x2 := f2
      rw [List.getElem?_map] at f2
      obtain ⟨a, ha, rfl⟩ := Option.map_eq_some_iff.mp f2
      have hga : as.getD t 0 = a := by rw [List.getD_eq_getElem?_getD, ha]; rfl
      have nG : G ≠ T0 := ne_of_none e7 hT
      have nd : dn ≠ T0 := ne_of_none (s7 _ _ e6) hT
      refine ⟨T0, _, rfl, SqT.of upd_same, rfl, _, _, rfl, _, _, rfl, rfl, rfl, ?_⟩
      refine ⟨_, rfl, _, rfl, dn, _, rfl, DGet.k (k := .inl (t : Int)) ((upd_ne nd).trans (s7 _ _ e6)), _, rfl, ?_⟩
      refine ite2 (fun h => ?_) (fun h => ?_)
      · have hnot : t ∉ ix := fun z => by
          rw [(h6 t).mpr z] at h; cases h
        refine ⟨_, rfl, _, (upd_ne nG).trans e7, ?_, Same.mut (s7.trans (Same.new hT)) hG, ?_⟩
        · rw [List.length_map, List.length_map]
          have := List.length_filter_le (fun i => !decide (i ∈ ix)) (List.range t)
          rw [List.length_range] at this
          exact sz5 (by omega)
        · rw [upd_same, filt_yes (by simp [hnot]), List.map_append, List.map_append, ← hga]; rfl
      · have hin : t ∈ ix := (h6 t).mp (by cases z : (valV kvs (.inl (t : Int))).isSome with
          | true => rfl
          | false => exact absurd (by rw [z]; rfl) h)
        refine ⟨s7.trans (Same.new hT), ?_⟩
        rw [upd_ne nG, e7, filt_no (by simp [hin])]
    · rintro H7 ⟨s7, e7⟩
      rw [List.length_map, la] at e7
      have s7' := s6.trans s7
      have G0 : H G = none := s6.free hG
      have dGF : G ≠ F := fun z => by rw [z, st6 _ _ e4F] at hG; cases hG
      have hlt : ((List.range cur.length).filter fun i => !decide (i ∈ ix)).length < cur.length := by
        obtain ⟨i0, hi0⟩ := List.exists_mem_of_ne_nil ix hne
        have hi1 := ((hix i0).mp hi0).1
        have hle := List.length_filter_le (fun i => !decide (i ∈ ix)) (List.range cur.length)
        rw [List.length_range] at hle
        rcases Nat.lt_or_ge ((List.range cur.length).filter fun i => !decide (i ∈ ix)).length cur.length with h | h
        · exact h
        · exfalso
          have hall := (List.length_filter_eq_length_iff (p := fun i => !decide (i ∈ ix)) (l := List.range cur.length)).mp (by rw [List.length_range]; omega) i0 (List.mem_range.mpr hi1)
          simp [hi0] at hall
      refine ⟨((List.range cur.length).filter fun i => !decide (i ∈ ix)).length, hlt, G, _, cs ++ [pc], ((List.range cur.length).filter fun i => !decide (i ∈ ix)).map fun i => cur.getD i [], fam ++ [c], ⟨_, _, _, _, rfl⟩, by rw [List.length_map], s7', s7 _ _ (st6 _ _ e4ch), e7, dGF, ?_, ?_, s7 _ _ (st6 _ _ e4F), nF4, cols4.mono (fun b o h => s7 _ _ (st6 _ _ h)), ?_, ?_, ?_⟩
      · refine paired_of (by rw [List.length_map, List.length_map]) fun j a S ha hS => ?_
        rw [List.getElem?_map] at ha hS
        obtain ⟨i, hi, rfl⟩ := Option.map_eq_some_iff.mp ha
        rw [hi] at hS
        obtain rfl := Option.some.inj hS
        have hi2 := List.mem_range.mp (List.mem_filter.mp (List.mem_of_getElem? hi)).1
        have ga : as[i]? = some (as.getD i 0) := by rw [List.getD_eq_getElem?_getD, List.getElem?_eq_getElem (by omega)]; rfl
        obtain ⟨S', hS', e⟩ := tps4.get ga
        show H7 (as.getD i 0) = some (HO.tup (nvs (cur.getD i [])))
        rw [getD_get hS']
        exact s7 _ _ (st6 _ _ e)
      · have sub : ∀ S ∈ ((List.range cur.length).filter fun i => !decide (i ∈ ix)).map (fun i => cur.getD i []), S ∈ cur := fun S hS => by
          obtain ⟨i, hi, rfl⟩ := List.mem_map.mp hS
          exact so2.at_ (List.mem_range.mp (List.mem_filter.mp hi).1)
        exact ⟨fun S h => so2.asc S (sub S h), fun S h => so2.len S (sub S h), fun S h => so2.lt S (sub S h)⟩
      · exact ⟨fun x hx => (List.mem_append.mp hx).elim (cok.len x) fun h => by rw [List.mem_singleton.mp h]; exact cl, fun x hx => (List.mem_append.mp hx).elim (cok.lt x) fun h => by rw [List.mem_singleton.mp h]; exact clt⟩
      · intro S hS
        rcases cov S hS with h | ⟨c', hc', h⟩
        · obtain ⟨i, hi, e⟩ := List.getElem_of_mem h
          have ge : cur.getD i [] = S := by rw [List.getD_eq_getElem?_getD, List.getElem?_eq_getElem hi, ← e]; rfl
          by_cases hx : i ∈ ix
          · have := ((hix i).mp hx).2
            rw [ge] at this
            exact .inr ⟨c, List.mem_append_right _ (by simp), this⟩
          · exact .inl (List.mem_map.mpr ⟨i, List.mem_filter.mpr ⟨List.mem_range.mpr hi, by simp [hx]⟩, ge⟩)
        · exact .inr ⟨c', List.mem_append_left _ hc', h⟩
      · rw [List.length_append, List.length_map]
        simp only [List.length_singleton]
        omega
end
end K53
namespace K53
open PySem PySem.Spec PyProof.Rows L2
theorem setsOk_combos {n k : Nat} (h : okNK n k = true) : SetsOk n k (combos n k 2000) := by
  have e := (combos_all h).2.1
  have m : ∀ S ∈ combos n k 2000, Asc n 0 k S := fun S hS => mem_ascs.mp (by rw [← e]; exact hS)
  exact ⟨fun S hS => (m S hS).2.1, fun S hS => (m S hS).1, fun S hS x hx => ((m S hS).2.2 x hx).2⟩
theorem ext_list {ys : List V} {L : List Nat} {f : Nat → V} (l : ys.length = L.length) (h : ∀ (i : Nat) (y : V), ys[i]? = some y → ∃ x, L[i]? = some x ∧ y = f x) : ys = L.map f := by
  refine List.ext_getElem? fun i => ?_
  rcases Nat.lt_or_ge i ys.length with hi | hi
  · obtain ⟨x, hx, e⟩ := h i _ (List.getElem?_eq_getElem hi)
    rw [List.getElem?_map, hx, List.getElem?_eq_getElem hi, e]; rfl
  · rw [List.getElem?_eq_none hi, List.getElem?_eq_none (by simp; omega)]
theorem nodup_ints (S : List Nat) (f : Nat → Nat) : (S.map fun x => ((f x : Nat) : Int)).Nodup ↔ (S.map f).Nodup := by
  unfold List.Nodup
  rw [List.pairwise_map, List.pairwise_map]
  exact ⟨fun h => h.imp fun z e => z (by rw [e]), fun h => h.imp fun z e => z (by omega)⟩
/-! ### graphs as objects -/
def gfs (n : Nat) (e l : Addr) : List (Str × V) := [("nodes", nv n), ("edges", .ref e), ("links", .ref l)]
theorem gfs_nodes (n : Nat) (e l : Addr) : (gfs n e l).lookup ("nodes" : Str) = some (nv n) := by
  unfold gfs; rw [List.lookup_cons_self]
theorem gfs_edges (n : Nat) (e l : Addr) : (gfs n e l).lookup ("edges" : Str) = some (.ref e) := by
  unfold gfs
  rw [List.lookup_cons, show (("edges" : Str) == ("nodes" : Str)) = false by decide +kernel]
  exact List.lookup_cons_self
theorem gfs_links (n : Nat) (e l : Addr) : (gfs n e l).lookup ("links" : Str) = some (.ref l) := by
  unfold gfs
  rw [List.lookup_cons, show (("links" : Str) == ("nodes" : Str)) = false by decide +kernel]
  show List.lookup ("links" : Str) [(("edges" : Str), V.ref e), (("links" : Str), V.ref l)] = some (.ref l)
  rw [List.lookup_cons, show (("links" : Str) == ("edges" : Str)) = false by decide +kernel]
  exact List.lookup_cons_self
theorem gfs_nb (n : Nat) (e l : Addr) : (gfs n e l).lookup ("neighbours" : Str) = none := by
  unfold gfs
  rw [List.lookup_cons, show (("neighbours" : Str) == ("nodes" : Str)) = false by decide +kernel]
  show List.lookup ("neighbours" : Str) [(("edges" : Str), V.ref e), (("links" : Str), V.ref l)] = none
  rw [List.lookup_cons, show (("neighbours" : Str) == ("edges" : Str)) = false by decide +kernel]
  show List.lookup ("neighbours" : Str) [(("links" : Str), V.ref l)] = none
  rw [List.lookup_cons, show (("neighbours" : Str) == ("links" : Str)) = false by decide +kernel]
  rfl
/-- pairs of naturals as tuples -/
def PrsAt (H : Hp) (as : List Addr) (es : List (Nat × Nat)) : Prop := Paired (fun a p => H a = some (.tup [nv p.1, nv p.2])) as es
theorem PrsAt.mono {H H' : Hp} {as : List Addr} {es : List (Nat × Nat)} (t : PrsAt H as es) (e : Same H H') : PrsAt H' as es := Paired.mapP t fun _ _ q => e _ _ q
theorem PrsAt.snoc {H : Hp} : ∀ {as : List Addr} {es : List (Nat × Nat)} {a : Addr} {p : Nat × Nat}, PrsAt H as es → H a = some (.tup [nv p.1, nv p.2]) → PrsAt H (as ++ [a]) (es ++ [p])
  | _, _, _, _, .nil, h => .cons h .nil
  | _, _, _, _, .cons q t, h => .cons q (PrsAt.snoc t h)
theorem PrsAt.length {H : Hp} {as : List Addr} {es : List (Nat × Nat)} (t : PrsAt H as es) : as.length = es.length := Paired.length t
theorem PrsAt.get {H : Hp} {as : List Addr} {es : List (Nat × Nat)} (t : PrsAt H as es) {i : Nat} {a : Addr} (h : as[i]? = some a) : ∃ p, es[i]? = some p ∧ H a = some (.tup [nv p.1, nv p.2]) := paired_get t h
/-- the graph at g: n nodes, the edges es, the rows L -/
def GraphAt (C : Addr) (H : Hp) (g : Addr) (n : Nat) (es : List (Nat × Nat)) (L : Rows) : Prop :=
  ∃ (dx e l : Addr) (eas las : List Addr), H g = some (.ins C dx (gfs n e l)) ∧ H e = some (.lst (eas.map V.ref)) ∧ PrsAt H eas es ∧ H l = some (.lst (las.map V.ref)) ∧ ColsAt H las L
theorem GraphAt.mono {C : Addr} {H H' : Hp} {g : Addr} {n : Nat} {es : List (Nat × Nat)} {L : Rows} (h : GraphAt C H g n es L) (s : Same H H') : GraphAt C H' g n es L := by
  obtain ⟨dx, e, l, eas, las, h1, h2, h3, h4, h5⟩ := h
  exact ⟨dx, e, l, eas, las, s _ _ h1, s _ _ h2, h3.mono s, s _ _ h4, h5.mono s⟩
structure Gx (K : PySem.W.Frag) (mg : Str → Option Value) (C : Addr) : Prop where
  cl : Cls K C
  nn : NoAttr K C "nodes"
  ne : NoAttr K C "edges"
  nl : NoAttr K C "links"
  mg : mg "Graph" = some (.ref C)
section
variable {P : Program} {w : World} {K : PySem.W.Frag} {mg : Str → Option Value} {base : Heap}
def sp_check_sizes : Sp := fun vs H Q _ => ∃ n k : Nat, vs = [nv n, nv k] ∧ okNK n k = true ∧ ∀ H', Same H H' → Q .non H'
theorem o_check_sizes {f : Addr} {fd : FuncData} (F : FnP K "check_sizes" "check_sizes" s_check_sizes f fd) (hm : mg "check_sizes" = some (.ref f)) (T : Tx mg) (D_check_number : Own P w K mg base 2 "check_number" sp_check_number) (D_combinations_of : Own P w K mg base 1 "combinations_of" sp_combinations_of)  : Own P w K mg base 3 "check_sizes" sp_check_sizes := by
  have sc : FnScope ["n", "k"] ["n", "k"] (defScope s_check_sizes) := ⟨rfl, rfl, rfl, by decide +kernel, rfl, by decide +kernel, by decide +kernel⟩
  refine own_ok F hm sc (fun _ _ _ _ _ _ us hl => match us, hl with | [_, _], _ => rfl) (fun vs H Q E h => ?_) (fun cdv A outer s H vs Q E hr h => ?_)
  · obtain ⟨n, k, rfl, _⟩ := h; rfl
  · obtain ⟨n, k, rfl, ok, q⟩ := h
    have hu := hu_of hr
    refine ⟨_, (pss_cons (ps_expr (pe_own D_check_number (hr.mono (by decide)) (by rfl) (pa_cons (pv 0) (pa_cons pe_int (pa_cons (pe_kint T.nodes rfl) pa_nil))))) 
      (pss_cons (ps_expr (pe_own D_check_number (hr.mono (by decide)) (by rfl) (pa_cons (pv 1) (pa_cons pe_int (pa_cons (pe_kint T.longest rfl) pa_nil))))) 
      (pss_one (ps_if (pt_cmpR op_gt (pe_callB call_len_seq (by rfl) T.len (by decide +kernel) (pa_cons (pe_own D_combinations_of (hr.mono (by decide)) (by rfl) (pa_cons (pv 0) (pa_cons (pv 1) (pa_cons (pe_op op_add (pe_kint T.subsets rfl) pe_int) pa_nil)))) pa_nil)) (pe_kint T.subsets rfl) (nomark _)) (pss_one ps_never) pss_nil)))), ?_⟩
    obtain ⟨b1, b2, b3⟩ := okNK_bounds ok
    refine ⟨_, rfl, _, _, _, rfl, by omega, by omega, ?_⟩
    refine ⟨_, rfl, _, _, _, rfl, by omega, by omega, ?_⟩
    refine ⟨_, rfl, _, rfl, _, _, rfl, rfl, n, k, 2001, rfl, by omega, by omega, by decide, fun H1 p as s1 p0 e t => ?_⟩
    refine ⟨p, _, rfl, .inl (SqL.of e), _, _, rfl, rfl, _, rfl, ?_⟩
    have hc := combos_all ok
    have hl : as.length ≤ 2000 := by rw [t.length, hc.1]; exact hc.2.2.1
    rw [decide_eq_false (by rw [List.length_map]; omega)]
    exact iteF (q H1 s1)
def sp_is_colouring : Sp := fun vs H Q _ => ∃ (n k : Nat) (a : Addr) (c : List Nat), vs = [nv n, nv k, .ref a] ∧ n ≤ 40 ∧ 1 ≤ k ∧ k ≤ 7 ∧ H a = some (.lst (nvs c)) ∧ c.length = n ∧ (∀ x ∈ c, x < k) ∧ Q (.bl true) H
theorem o_is_colouring {f : Addr} {fd : FuncData} (F : FnP K "is_colouring" "is_colouring" s_is_colouring f fd) (hm : mg "is_colouring" = some (.ref f)) (T : Tx mg) (D_check_number : Own P w K mg base 2 "check_number" sp_check_number) (D_is_index : Own P w K mg base 2 "is_index" sp_is_index)  : Own P w K mg base 3 "is_colouring" sp_is_colouring := by
  have sc : FnScope ["n", "k", "colouring", "colour"] ["n", "k", "colouring"] (defScope s_is_colouring) := ⟨rfl, rfl, rfl, by decide +kernel, rfl, by decide +kernel, by decide +kernel⟩
  refine own_ok F hm sc (fun _ _ _ _ _ _ us hl => match us, hl with | [_, _, _], _ => rfl) (fun vs H Q E h => ?_) (fun cdv A outer s H vs Q E hr h => ?_)
  · obtain ⟨n, k, a, c, rfl, _⟩ := h; rfl
  · obtain ⟨n, k, a, c, rfl, hn, hk1, hk7, ha, cl, clt, q⟩ := h
    have hu := hu_of hr
    refine ⟨_, (pss_cons (ps_expr (pe_own D_check_number (hr.mono (by decide)) (by rfl) (pa_cons (pv 0) (pa_cons pe_int (pa_cons (pe_kint T.nodes rfl) pa_nil))))) 
      (pss_cons (ps_expr (pe_own D_check_number (hr.mono (by decide)) (by rfl) (pa_cons (pv 1) (pa_cons pe_int (pa_cons (pe_kint T.longest rfl) pa_nil))))) 
      (pss_cons (ps_if (PW.pt (pw_or (pt_not (pt_val (pe_callB call_isi (by rfl) T.isi (by decide +kernel) (pa_cons (pv 2) (pa_cons (pe_bltn (v := .ty "list") (by rfl) T.list (by decide +kernel) rfl) pa_nil))))) (pw_or1 (pt_cmpR op_ne (pe_callB call_len_seq (by rfl) T.len (by decide +kernel) (pa_cons (pv 2) pa_nil)) (pv 0) (nomark _))))) (pss_one (ps_ret pe_bl)) pss_nil) 
      (pss_cons (ps_for PassesOwn.never rfl (pi_list (pv 2)) (pg_name (i := 3) sc.nd rfl (Or.inl rfl)) (pss_one (ps_if (pt_not (pt_val (pe_own D_is_index (hr.mono (by decide)) (by rfl) (pa_cons (pv 3) (pa_cons (pv 1) pa_nil))))) (pss_one (ps_ret pe_bl)) pss_nil))) 
      (pss_one (ps_ret pe_bl)))))), ?_⟩
    refine ⟨_, rfl, _, _, _, rfl, by omega, by omega, ?_⟩
    refine ⟨_, rfl, _, _, _, rfl, by omega, by omega, ?_⟩
    refine ⟨_, rfl, _, _, _, _, true, rfl, .ty _, .base (.lst ha), kit_ty (by decide +kernel), true, rfl, ?_⟩
    refine iteF ?_
    refine ⟨_, rfl, a, _, rfl, .inl (SqL.of ha), _, rfl, rfl, false, bNT (congrArg V.int (by rw [nvs_len, cl])), ?_⟩
    refine iteF ?_
    refine ⟨_, rfl, a, rfl, ⟨_, SqL.of ha⟩, ?_⟩
    refine for_list (K := K) (a := a) (xs := nvs c) (fun i σ' H' => (∃ v, σ' = [some (nv n), some (nv k), some (.ref a), v]) ∧ H' = H) ⟨⟨none, rfl⟩, rfl⟩ (fun _ _ _ _ p => by rw [p.2]; exact SqL.of ha) ?_ ?_
    · rintro i x σ' H' hx ⟨⟨v, rfl⟩, rfl⟩
      obtain ⟨y, hy, rfl⟩ := nvs_inv hx
      have := clt y (List.mem_of_getElem? hy)
      refine ⟨_, rfl, _, rfl, _, _, rfl, by omega, by omega, true, rfl, ?_⟩
      exact iteF ⟨⟨_, rfl⟩, rfl⟩
    · rintro σ' H' ⟨⟨v, rfl⟩, rfl⟩
      exact q
def sp_is_separating : Sp := fun vs H Q _ => ∃ (n k : Nat) (p : Addr) (cs : List Addr) (fam : List (List Nat)), vs = [nv n, nv k, .ref p] ∧ okNK n k = true ∧ H p = some (.lst (cs.map V.ref)) ∧ ColsAt H cs fam ∧ Cols n k fam ∧
  (∀ S, Asc n 0 k S → ∃ c ∈ fam, Splits c S) ∧ ∀ H', Same H H' → Q (.bl true) H'
theorem o_is_separating {f : Addr} {fd : FuncData} (F : FnP K "is_separating" "is_separating" s_is_separating f fd) (hm : mg "is_separating" = some (.ref f)) (T : Tx mg) (D_check_sizes : Own P w K mg base 3 "check_sizes" sp_check_sizes) (D_is_colouring : Own P w K mg base 3 "is_colouring" sp_is_colouring) (D_combinations_of : Own P w K mg base 1 "combinations_of" sp_combinations_of)  : Own P w K mg base 4 "is_separating" sp_is_separating := by
  have sc : FnScope ["n", "k", "family", "colouring", "chosen", "split", "node"] ["n", "k", "family"] (defScope s_is_separating) := ⟨rfl, rfl, rfl, by decide +kernel, rfl, by decide +kernel, by decide +kernel⟩
  refine own_ok F hm sc (fun _ _ _ _ _ _ us hl => match us, hl with | [_, _, _], _ => rfl) (fun vs H Q E h => ?_) (fun cdv A outer s H vs Q E hr h => ?_)
  · obtain ⟨n, k, p, cs, fam, rfl, _⟩ := h; rfl
  · obtain ⟨n, k, p, cs, fam, rfl, ok, hp, hcs, cok, cov, q⟩ := h
    have hu := hu_of hr
    refine ⟨_, (pss_cons (ps_expr (pe_own D_check_sizes (hr.mono (by decide)) (by rfl) (pa_cons (pv 0) (pa_cons (pv 1) pa_nil)))) 
      (pss_cons (ps_if (pt_not (pt_val (pe_callB call_isi (by rfl) T.isi (by decide +kernel) (pa_cons (pv 2) (pa_cons (pe_bltn (v := .ty "list") (by rfl) T.list (by decide +kernel) rfl) pa_nil))))) (pss_one (ps_ret pe_bl)) pss_nil) 
      (pss_cons (ps_for PassesOwn.never rfl (pi_list (pv 2)) (pg_name (i := 3) sc.nd rfl (Or.inr rfl)) (pss_one (ps_if (pt_not (pt_val (pe_own D_is_colouring (hr.mono (by decide)) (by rfl) (pa_cons (pv 0) (pa_cons (pv 1) (pa_cons (pv 3) pa_nil)))))) (pss_one (ps_ret pe_bl)) pss_nil))) 
      (pss_cons (ps_for PassesOwn.never rfl (pi_list (pe_own D_combinations_of (hr.mono (by decide)) (by rfl) (pa_cons (pv 0) (pa_cons (pv 1) (pa_cons (pe_kint T.subsets rfl) pa_nil))))) (pg_name (i := 4) sc.nd rfl (Or.inl rfl)) (pss_cons (ps_set (i := 5) sc.nd rfl (Or.inl rfl) pe_bl) (pss_cons (ps_for PassesOwn.never rfl (pi_list (pv 2)) (pg_name (i := 3) sc.nd rfl (Or.inr rfl)) (pss_one (ps_set (i := 5) sc.nd rfl (Or.inl rfl) (pe_or (pv 5) (pe_one (pe_cmpR op_eq (pe_lenSetD rfl (by rfl) T.len (by rfl) T.set (pe_lc (own := [("node", 6)]) (g := gName 6) (tt := tYes) rfl sc.nd (pi_tup (pv 4)) (blkOk_by (N := (["n", "k", "family", "colouring", "chosen", "split", "node"] : List Str)) (sc := defScope s_is_separating) (by decide +kernel)) (fun _ _ _ _ _ => (pg_name (i := 6) sc.nd rfl (Or.inl rfl))) (fun _ _ _ _ _ => pts_nil) (fun _ _ _ _ _ => (pe_ix (ix_listK K) (pv 3) (pv 6) (fun _ _ => rfl))))) (pv 1) (nomark _))))))) (pss_one (ps_if (pt_not (pt_val (pv 5))) (pss_one (ps_ret pe_bl)) pss_nil))))) 
      (pss_one (ps_ret pe_bl)))))), ?_⟩
    obtain ⟨b1, b2, b3⟩ := okNK_bounds ok
    refine ⟨_, rfl, _, rfl, n, k, rfl, ok, fun H1 s1 => ?_⟩
    refine ⟨_, rfl, _, _, _, _, true, rfl, .ty _, .base (.lst (s1 _ _ hp)), kit_ty (by decide +kernel), true, rfl, ?_⟩
    refine iteF ?_
    refine ⟨_, rfl, p, rfl, ⟨_, SqL.of (s1 _ _ hp)⟩, ?_⟩
    refine for_list (K := K) (a := p) (xs := cs.map V.ref) (fun i σ' H' => (∃ v, σ' = [some (nv n), some (nv k), some (.ref p), v, none, none, none]) ∧ H' = H1) ⟨⟨none, rfl⟩, rfl⟩ (fun _ _ _ _ z => by rw [z.2]; exact SqL.of (s1 _ _ hp)) ?_ ?_
    · rintro i x σ' H' hx ⟨⟨v, rfl⟩, rfl⟩
      rw [List.getElem?_map] at hx
      obtain ⟨a, ha, rfl⟩ := Option.map_eq_some_iff.mp hx
      obtain ⟨c, hc, e⟩ := hcs.get ha
      have hm := List.mem_of_getElem? hc
      refine ⟨_, rfl, _, rfl, _, rfl, n, k, a, c, rfl, by omega, b2, b3, s1 _ _ e, cok.len c hm, cok.lt c hm, true, rfl, ?_⟩
      exact iteF ⟨⟨_, rfl⟩, rfl⟩
    rintro σ' H' ⟨⟨v, rfl⟩, rfl⟩
    refine ⟨_, rfl, _, rfl, n, k, 2000, rfl, by omega, by omega, by decide, fun H2 o as s2 o0 eo t => ?_⟩
    refine ⟨o, rfl, ⟨_, SqL.of eo⟩, ?_⟩
    have s2' := s1.trans s2
    refine for_list (K := K) (a := o) (xs := as.map V.ref) (fun i σ' H' => (∃ v v4 v5, σ' = [some (nv n), some (nv k), some (.ref p), v, v4, v5, none]) ∧ Same H2 H') ⟨⟨_, none, none, rfl⟩, Same.refl _⟩ (fun _ _ _ _ z => SqL.of (z.2 _ _ eo)) ?_ ?_
    · rintro i x σ' H3 hx ⟨⟨v, v4, v5, rfl⟩, s3⟩
      rw [List.getElem?_map] at hx
      obtain ⟨a, ha, rfl⟩ := Option.map_eq_some_iff.mp hx
      obtain ⟨S, hS, e⟩ := t.get ha
      have hSm : S ∈ combos n k 2000 := List.mem_of_getElem? hS
      rw [(combos_all ok).2.1] at hSm
      have hA := mem_ascs.mp hSm
      have s3' := s2'.trans s3
      refine ⟨_, rfl, p, rfl, ⟨_, SqL.of (s3' _ _ hp)⟩, ?_⟩
      refine for_list (K := K) (a := p) (xs := cs.map V.ref) (fun u σ' H' => (∃ v b, σ' = [some (nv n), some (nv k), some (.ref p), v, some (.ref a), some (.bl b), none] ∧ (b = true ↔ ∃ c ∈ fam.take u, Splits c S)) ∧ Same H2 H') ⟨⟨_, false, rfl, by simp⟩, s3⟩ (fun _ _ _ _ z => SqL.of ((s2'.trans z.2) _ _ hp)) ?_ ?_
      · rintro u x σ' H4 hx ⟨⟨v, b, rfl, hb⟩, s4⟩
        rw [List.getElem?_map] at hx
        obtain ⟨ca, hca, rfl⟩ := Option.map_eq_some_iff.mp hx
        obtain ⟨c, hc, ec⟩ := hcs.get hca
        rw [take_snoc hc]
        refine ⟨_, rfl, b, rfl, ?_⟩
        cases b with
        | true =>
          refine iteT ⟨⟨_, _, rfl, ?_⟩, s4⟩
          obtain ⟨c', h1, h2⟩ := hb.mp rfl
          exact ⟨fun _ => ⟨c', List.mem_append_left _ h1, h2⟩, fun _ => rfl⟩
        | false =>
          refine iteF ?_
          have s4' := s2'.trans s4
          have ea := s4 _ _ e
          refine ⟨_, rfl, a, rfl, ⟨_, SqT.of ea⟩, fun D hD => ?_⟩
          refine lc_map walk_tup (fun i y H => ∃ x, S[i]? = some x ∧ y = nv (c.getD x 0)) (by rw [nvs_len, hA.1]; omega) hD (fun G g => SqT.of (g _ _ ea)) (fun _ _ _ _ h _ => h) ySame_at ?_ ?_
          · rintro i x G1 G2 Q' hi g1 ge ⟨rfl, hx⟩ kk
            obtain ⟨y, hy, rfl⟩ := nvs_inv hx
            have hyn := (hA.2.2 y (List.mem_of_getElem? hy)).2
            have gc : c[y]? = some (c.getD y 0) := getD_of (by rw [cok.len c (List.mem_of_getElem? hc)]; exact hyn)
            exact ⟨rfl, _, rfl, _, rfl, _, _, _, _, rfl, rfl, SqL.of ((s4'.trans g1) _ _ ec), atI_nat (nvs_get gc), kk _ _ (Same.refl _) ⟨y, hy, rfl⟩⟩
          intro G ys g eD l r
          obtain rfl := ext_list (f := fun x => nv (c.getD x 0)) (l.trans (nvs_len S)) r
          have eD' : G D = some (.lst ((S.map fun x => ((c.getD x 0 : Nat) : Int)).map V.int)) := by rw [eD, List.map_map]; rfl
          refine ⟨D, _, rfl, SqL.of eD', by rw [List.length_map, hA.1]; omega, fun m hm => ?_⟩
          rw [List.length_map, hA.1] at hm
          have hs : m = k ↔ Splits c S := by
            rw [hm]
            unfold Splits
            exact nodup_ints S _
          refine ⟨_, rfl, rfl, ?_⟩
          refine ⟨⟨_, _, rfl, ?_⟩, s4.trans g⟩
          rw [decide_eq_true_iff]
          constructor
          · intro z
            exact ⟨c, List.mem_append_right _ (by simp), hs.mp (by injection z with z; omega)⟩
          · rintro ⟨c', h1, h2⟩
            rcases List.mem_append.mp h1 with h1 | h1
            · exact absurd (hb.mpr ⟨c', h1, h2⟩) Bool.false_ne_true
            · rw [List.mem_singleton.mp h1] at h2
              rw [hs.mpr h2]
      · rintro σ' H4 ⟨⟨v, b, rfl, hb⟩, s4⟩
        rw [List.length_map, hcs.length, List.take_length] at hb
        have bt : b = true := hb.mpr (cov S hA)
        subst bt
        refine ⟨_, rfl, true, rfl, ?_⟩
        exact iteF ⟨⟨_, _, _, rfl⟩, s4⟩
    · rintro σ' H3 ⟨⟨v, v4, v5, rfl⟩, s3⟩
      exact q _ (s2'.trans s3)
def sp_separating_family : Sp := fun vs H Q _ => ∃ n k : Nat, vs = [nv n, nv k] ∧ okNK n k = true ∧
  ∀ (H' : Hp) (p : Addr) (cs : List Addr) (fam : List (List Nat)), Same H H' → H p = none → H' p = some (.lst (cs.map V.ref)) → ColsAt H' cs fam → p ∉ cs → Cols n k fam → (∀ S, Asc n 0 k S → ∃ c ∈ fam, Splits c S) → fam.length ≤ 50000 → Q (.ref p) H'
theorem o_separating_family {f : Addr} {fd : FuncData} (F : FnP K "separating_family" "separating_family" s_separating_family f fd) (hm : mg "separating_family" = some (.ref f)) (T : Tx mg) (D_check_sizes : Own P w K mg base 3 "check_sizes" sp_check_sizes) (D_combinations_of : Own P w K mg base 1 "combinations_of" sp_combinations_of) (D_family_of : Own P w K mg base 3 "family_of" sp_family_of)  : Own P w K mg base 4 "separating_family" sp_separating_family := by
  have sc : FnScope ["n", "k"] ["n", "k"] (defScope s_separating_family) := ⟨rfl, rfl, rfl, by decide +kernel, rfl, by decide +kernel, by decide +kernel⟩
  refine own_ok F hm sc (fun _ _ _ _ _ _ us hl => match us, hl with | [_, _], _ => rfl) (fun vs H Q E h => ?_) (fun cdv A outer s H vs Q E hr h => ?_)
  · obtain ⟨n, k, rfl, _⟩ := h; rfl
  · obtain ⟨n, k, rfl, ok, q⟩ := h
    have hu := hu_of hr
    refine ⟨_, (pss_cons (ps_expr (pe_own D_check_sizes (hr.mono (by decide)) (by rfl) (pa_cons (pv 0) (pa_cons (pv 1) pa_nil)))) 
      (pss_one (ps_ret (pe_own D_family_of (hr.mono (by decide)) (by rfl) (pa_cons (pv 0) (pa_cons (pv 1) (pa_cons (pe_own D_combinations_of (hr.mono (by decide)) (by rfl) (pa_cons (pv 0) (pa_cons (pv 1) (pa_cons (pe_kint T.subsets rfl) pa_nil)))) pa_nil))))))), ?_⟩
    obtain ⟨b1, b2, b3⟩ := okNK_bounds ok
    have hc := combos_all ok
    refine ⟨_, rfl, _, rfl, n, k, rfl, ok, fun H1 s1 => ?_⟩
    refine ⟨_, rfl, _, rfl, _, rfl, _, rfl, n, k, 2000, rfl, by omega, by omega, by decide, fun H2 o as s2 o0 eo t => ?_⟩
    refine ⟨n, k, o, as, _, rfl, eo, t, setsOk_combos ok, b2, b3, by omega, by rw [hc.2.1]; omega, fun H3 p cs fam s3 p0 ep hcs np cok cov lf => ?_⟩
    refine q H3 p cs fam ((s1.trans s2).trans s3) ((s1.trans s2).free p0) ep hcs np cok (fun S hS => cov S ?_) lf
    rw [hc.2.1]
    exact mem_ascs.mpr hS
def sp_check_colouring (C : Addr) : Sp := fun vs H Q _ => ∃ (g a : Addr) (n k : Nat) (es : List (Nat × Nat)) (L : Rows) (c : List Nat), vs = [.ref g, .ref a, nv k] ∧ GraphAt C H g n es L ∧ n ≤ 40 ∧ 1 ≤ k ∧ k ≤ 7 ∧ H a = some (.lst (nvs c)) ∧ c.length = n ∧ (∀ x ∈ c, x < k) ∧ Q .non H
theorem o_check_colouring {f : Addr} {fd : FuncData} (F : FnP K "check_colouring" "check_colouring" s_check_colouring f fd) (hm : mg "check_colouring" = some (.ref f)) (T : Tx mg) (D_check_number : Own P w K mg base 2 "check_number" sp_check_number) (D_is_colouring : Own P w K mg base 3 "is_colouring" sp_is_colouring) {C : Addr} (Y : Gx K mg C) : Own P w K mg base 4 "check_colouring" (sp_check_colouring C) := by
  have sc : FnScope ["graph", "colouring", "k"] ["graph", "colouring", "k"] (defScope s_check_colouring) := ⟨rfl, rfl, rfl, by decide +kernel, rfl, by decide +kernel, by decide +kernel⟩
  refine own_ok F hm sc (fun _ _ _ _ _ _ us hl => match us, hl with | [_, _, _], _ => rfl) (fun vs H Q E h => ?_) (fun cdv A outer s H vs Q E hr h => ?_)
  · obtain ⟨g, a, n, k, es, L, c, rfl, _⟩ := h; rfl
  · obtain ⟨g, a, n, k, es, L, c, rfl, hg, hn, hk1, hk7, ha, cl, clt, q⟩ := h
    have hu := hu_of hr
    refine ⟨_, (pss_cons (ps_expr (pe_own D_check_number (hr.mono (by decide)) (by rfl) (pa_cons (pv 2) (pa_cons pe_int (pa_cons (pe_kint T.longest rfl) pa_nil))))) 
      (pss_one (ps_if (pt_not (pt_val (pe_own D_is_colouring (hr.mono (by decide)) (by rfl) (pa_cons (pe_fld (pv 0) rfl) (pa_cons (pv 2) (pa_cons (pv 1) pa_nil)))))) (pss_one ps_never) pss_nil))), ?_⟩
    obtain ⟨dx, e, l, eas, las, h1, h2, h3, h4, h5⟩ := hg
    refine ⟨_, rfl, _, _, _, rfl, by omega, by omega, ?_⟩
    refine ⟨_, rfl, g, C, dx, _, _, rfl, h1, Y.cl, Y.nn, gfs_nodes n e l, _, rfl, _, rfl, n, k, a, c, rfl, hn, hk1, hk7, ha, cl, clt, true, rfl, ?_⟩
    exact iteF q
end
end K53
namespace K53
open PySem PySem.Spec PyProof.Rows L2
/-! ### dicts keyed by (node, mask) -/
def lk (v m : Nat) : List Key := [.inl (v : Int), .inl (m : Int)]
theorem lk_kV (v m : Nat) : (lk v m).map kV = [nv v, nv m] := rfl
theorem lk_inj {v m v' m' : Nat} (h : lk v m = lk v' m') : v = v' ∧ m = m' := by
  unfold lk at h
  injection h with h1 h2
  injection h2 with h2 _
  injection h1 with h1
  injection h2 with h2
  omega
def KOk (kvs : List (List Key × V)) : Prop := ∀ p ∈ kvs, ∃ (v m : Nat) (x : Int), p = (lk v m, V.int x)
theorem KOk.nil : KOk [] := fun p hp => by cases hp
theorem KOk.put {kvs : List (List Key × V)} (h : KOk kvs) (v m : Nat) (x : Int) : KOk (putK kvs (lk v m) (.int x)) := by
  unfold putK
  split
  · intro p hp
    obtain ⟨q, hq, rfl⟩ := List.mem_map.mp hp
    obtain ⟨v', m', x', rfl⟩ := h q hq
    by_cases e : lk v' m' = lk v m
    · exact ⟨v', m', x, by rw [if_pos e]⟩
    · exact ⟨v', m', x', by rw [if_neg e]⟩
  · intro p hp
    rcases List.mem_append.mp hp with hp | hp
    · exact h p hp
    · exact ⟨v, m, x, List.mem_singleton.mp hp⟩
theorem valV_mem {kvs : List (List Key × V)} {k : List Key} {v : V} (h : valV kvs k = some v) : (k, v) ∈ kvs := by
  unfold valV at h
  obtain ⟨p, hp, e⟩ := Option.map_eq_some_iff.mp h
  have h1 := List.find?_some hp
  have h2 := List.mem_of_find?_eq_some hp
  have h3 : p.1 = k := of_decide_eq_true h1
  rw [← h3, ← e]; exact h2
theorem KOk.int {kvs : List (List Key × V)} (h : KOk kvs) {k : List Key} {v : V} (e : valV kvs k = some v) : ∃ x, v = .int x := by
  obtain ⟨_, _, x, q⟩ := h _ (valV_mem e)
  injection q with _ q
  exact ⟨x, q⟩
theorem KOk.getD {kvs : List (List Key × V)} (h : KOk kvs) (k : List Key) : ∃ x : Int, (valV kvs k).getD (.int 0) = .int x := by
  cases e : valV kvs k with
  | none => exact ⟨0, rfl⟩
  | some v =>
    obtain ⟨x, rfl⟩ := h.int e
    exact ⟨x, rfl⟩
theorem mem_valV {kvs : List (List Key × V)} {k : List Key} {v : V} (h : (k, v) ∈ kvs) : (valV kvs k).isSome = true := by
  rw [← valV_any]
  exact List.any_eq_true.mpr ⟨_, h, decide_eq_true rfl⟩
/-- the layer j in the dict at d -/
def LayAt (H : Hp) (d : Addr) (n : Nat) (L : Rows) (col : Nat → Nat) (j : Nat) : Prop :=
  ∃ kvs : List (List Key × V), H d = some (.dT kvs) ∧ KOk kvs ∧ (∀ v m, (valV kvs (lk v m)).isSome = true ↔ Lay L col j v m) ∧ kvs.length ≤ n ^ (j + 1)
theorem LayAt.mono {H H' : Hp} {d : Addr} {n : Nat} {L : Rows} {col : Nat → Nat} {j : Nat} (h : LayAt H d n L col j) (s : ∀ o, H d = some o → H' d = some o) : LayAt H' d n L col j := by
  obtain ⟨kvs, e, r⟩ := h
  exact ⟨kvs, s _ e, r⟩
theorem walk_itemsT {d : Addr} {o : Obj} {kvs : List (List Key × V)} : Walk (Itit d o kvs) kvs.length (fun H => H d = some (.frz o (.dT kvs)))
    (fun i H x H' => ∃ (T q : Addr) (k : List Key) (v : V), kvs[i]? = some (k, v) ∧ x = .ref T ∧ H T = none ∧ H q = some (.tup (k.map kV)) ∧ H' = upd H T (.tup [.ref q, v])) :=
  ⟨fun _ _ hi q => ⟨q, hi⟩, fun _ q => ⟨q, Nat.le_refl _⟩, fun _ _ _ _ _ _ y => y⟩
structure GR (n : Nat) (L : Rows) : Prop where
  ok : GOk n L
  nd : ∀ v, (row L v).Nodup
theorem nodup_le {n : Nat} {l : List Nat} (nd : l.Nodup) (h : ∀ x ∈ l, x < n) : l.length ≤ n := by
  have := count_free n l nd h
  omega
theorem GR.row_le {n : Nat} {L : Rows} (g : GR n L) (v : Nat) : (row L v).length ≤ n := nodup_le (g.nd v) fun x hx => g.ok.bnd v x hx
theorem ColsAt.rowAt {H : Hp} {las : List Addr} {L : Rows} (h : ColsAt H las L) {v : Nat} (hv : v < L.length) : ∃ a, las[v]? = some a ∧ H a = some (.lst (nvs (row L v))) := by
  have hv' : v < las.length := by rw [h.length]; exact hv
  obtain ⟨r, hr, e⟩ := h.get (List.getElem?_eq_getElem hv')
  refine ⟨_, List.getElem?_eq_getElem hv', ?_⟩
  have : row L v = r := by unfold row; rw [List.getD_eq_getElem?_getD, hr]; rfl
  rw [this]; exact e
theorem refs_get {as : List Addr} {i : Nat} {a : Addr} (h : as[i]? = some a) : (as.map V.ref)[i]? = some (.ref a) := by rw [List.getElem?_map, h]; rfl
theorem refs_inv {as : List Addr} {i : Nat} {x : V} (h : (as.map V.ref)[i]? = some x) : ∃ a, as[i]? = some a ∧ x = .ref a := by
  rw [List.getElem?_map] at h
  obtain ⟨a, ha, e⟩ := Option.map_eq_some_iff.mp h
  exact ⟨a, ha, e.symm⟩
theorem iF {A B : Prop} {b : Bool} (e : b = false) (h : B) : if b = true then A else B := by rw [e]; exact iteF h
theorem iT {A B : Prop} {b : Bool} (e : b = true) (h : A) : if b = true then A else B := by rw [e]; exact iteT h
section
variable {P : Program} {w : World} {K : PySem.W.Frag} {mg : Str → Option Value} {base : Heap}
def sp_layers (C : Addr) : Sp := fun vs H Q _ => ∃ (g a : Addr) (n k : Nat) (es : List (Nat × Nat)) (L : Rows) (c : List Nat), vs = [.ref g, .ref a, nv k] ∧ GraphAt C H g n es L ∧ GR n L ∧ n ≤ 40 ∧ 1 ≤ k ∧ k ≤ 7 ∧ n ^ k ≤ 10000000 ∧ H a = some (.lst (nvs c)) ∧ c.length = n ∧ (∀ x ∈ c, x < k) ∧
  ∀ (H' : Hp) (F : Addr) (ds : List Addr), Same H H' → H F = none → H' F = some (.lst (ds.map V.ref)) → ds.length = k → (∀ j d, ds[j]? = some d → LayAt H' d n L (fun v => c.getD v 0) j) → Q (.ref F) H'
theorem o_layers {f : Addr} {fd : FuncData} (F : FnP K "layers" "layers" s_layers f fd) (hm : mg "layers" = some (.ref f)) (T : Tx mg)  {C : Addr} (Y : Gx K mg C) : Own P w K mg base 1 "layers" (sp_layers C) := by
  have sc : FnScope ["graph", "colouring", "k", "layer", "node", "found", "_", "after", "mask", "count", "other", "bit", "key"] ["graph", "colouring", "k"] (defScope s_layers) := ⟨rfl, rfl, rfl, by decide +kernel, rfl, by decide +kernel, by decide +kernel⟩
  refine own_ok F hm sc (fun _ _ _ _ _ _ us hl => match us, hl with | [_, _, _], _ => rfl) (fun vs H Q E h => ?_) (fun cdv A outer s H vs Q E hr h => ?_)
  · obtain ⟨g, a, n, k, es, L, c, rfl, _⟩ := h; rfl
  · obtain ⟨g, a, n, k, es, L, c, rfl, hg, gr, hn, hk1, hk7, hpow, ha, cl, clt, q⟩ := h
    have hu := hu_of hr
    refine ⟨_, (pss_cons (ps_set (i := 3) sc.nd rfl (Or.inl rfl) pe_dnewT) 
      (pss_cons (ps_for PassesOwn.never rfl (pi_range1 (by rfl) T.range (pa_cons (pe_fld (pv 0) rfl) pa_nil)) (pg_name (i := 4) sc.nd rfl (Or.inl rfl)) (pss_one (ps_dput hu (pv 3) (pe_tup (pa_cons (pv 4) (pa_cons (pe_op op_shl pe_int (pe_ix ix_list (pv 1) (pv 4) (fun _ _ => rfl))) pa_nil))) pe_int rfl))) 
      (pss_cons (ps_set (i := 5) sc.nd rfl (Or.inl rfl) (pe_lst (pa_cons (pv 3) pa_nil))) 
      (pss_cons (ps_for PassesOwn.never rfl (pi_range2 (by rfl) T.range (pa_cons pe_int (pa_cons (pv 2) pa_nil))) (pg_name (i := 6) sc.nd rfl (Or.inl rfl)) (pss_cons (ps_set (i := 7) sc.nd rfl (Or.inl rfl) pe_dnewT) (pss_cons (ps_lock (ps_for PassesOwn.never rfl (pi_itemsT (pv 3)) (pg_tup rfl (pgs_cons (pg_tup rfl (pgs_cons (pg_name (i := 4) sc.nd rfl (Or.inl rfl)) (pgs_cons (pg_name (i := 8) sc.nd rfl (Or.inl rfl)) pgs_nil))) (pgs_cons (pg_name (i := 9) sc.nd rfl (Or.inl rfl)) pgs_nil))) (pss_one (ps_for PassesOwn.never rfl (pi_list (pe_ix ix_list (pe_fld (pv 0) rfl) (pv 4) (fun _ _ => rfl))) (pg_name (i := 10) sc.nd rfl (Or.inl rfl)) (pss_cons (ps_set (i := 11) sc.nd rfl (Or.inl rfl) (pe_op op_shl pe_int (pe_ix ix_list (pv 1) (pv 10) (fun _ _ => rfl)))) (pss_one (ps_if (pt_cmpR op_eq (pe_op op_and (pv 8) (pv 11)) pe_int (nomark _)) (pss_cons (ps_set (i := 12) sc.nd rfl (Or.inl rfl) (pe_tup (pa_cons (pv 10) (pa_cons (pe_op op_or (pv 8) (pv 11)) pa_nil)))) (pss_one (ps_dput hu (pv 7) (pv 12) (pe_op op_add (pe_dget2 hu (pv 7) (pv 12) pe_int ⟨rfl, rfl, rfl, rfl⟩) (pv 9)) rfl))) pss_nil))))))) (pss_cons (ps_set (i := 3) sc.nd rfl (Or.inl rfl) (pv 7)) (pss_one (ps_expr (pe_bm PySem.F.plainAttrs_list PySem.F.slot_list_append PySem.F.type_list_append mt_append (pv 5) (pa_cons (pv 3) pa_nil)))))))) 
      (pss_one (ps_ret (pv 5))))))), ?_⟩
    obtain ⟨dx, e, l, eas, las, g1, g2, g3, g4, g5⟩ := hg
    have Ln : L.length = n := gr.ok.len
    refine fun d0 hd0 => ?_
    refine updI fun H1 e1 k1 => ?_
    have s1 : Same H H1 := Same.step hd0 k1
    refine ⟨_, rfl, g, C, dx, _, _, rfl, s1 _ _ g1, Y.cl, Y.nn, gfs_nodes n e l, _, rfl, by omega, by omega, ?_⟩
    rw [Int.toNat_natCast]
    refine for_range (lo := 0) (n := n) (fun i σ' H' => (∃ v4, σ' = [some (.ref g), some (.ref a), some (nv k), some (.ref d0), v4, none, none, none, none, none, none, none, none]) ∧ Same H H' ∧ ∃ kvs, H' d0 = some (.dT kvs) ∧ KOk kvs ∧
      (∀ v m, (valV kvs (lk v m)).isSome = true ↔ v < i ∧ m = 2 ^ c.getD v 0) ∧ kvs.length ≤ i) ⟨⟨none, rfl⟩, s1, [], e1, KOk.nil, fun v m => ⟨fun z => (by cases z), fun z => absurd z.1 (Nat.not_lt_zero _)⟩, Nat.le_refl _⟩ ?_ ?_
    · rintro i σ' H2 hi ⟨⟨v4, rfl⟩, s2, kvs, e2, ok2, sp2, l2⟩
      have ei : (0 : Int) + (i : Int) = ((i : Nat) : Int) := Int.zero_add _
      rw [ei]
      have gc : c[i]? = some (c.getD i 0) := getD_of (by omega)
      have hci := clt _ (List.mem_of_getElem? gc)
      refine ⟨_, rfl, _, rfl, _, rfl, _, rfl, _, _, _, _, rfl, rfl, SqL.of (s2 _ _ ha), atI_nat (nvs_get gc), _, _, rfl, rfl, shl_ok (by omega), by show 2 ≤ sizeLine; decide, fun t ht => ?_⟩
      have nt : d0 ≠ t := ne_of_none e2 ht
      have et : (upd H2 t (.tup [nv i, V.int ((1 : Int) * 2 ^ ((c.getD i 0 : Nat) : Int).toNat)])) t = some (.tup ((lk i (2 ^ c.getD i 0)).map kV)) := by rw [upd_same, lk_kV, pw_nat]
      refine ⟨d0, _, rfl, DPut.t ((upd_ne nt).trans e2) et (sz5 (by omega)), ⟨_, rfl⟩, Same.mut (s2.trans (Same.new ht)) hd0, _, upd_same, ok2.put _ _ _, fun v m => ?_, Nat.le_trans (length_putK _ _ _) (by omega)⟩
      rw [valV_put]
      by_cases ek : lk v m = lk i (2 ^ c.getD i 0)
      · obtain ⟨rfl, rfl⟩ := lk_inj ek
        rw [if_pos ek]
        exact ⟨fun _ => ⟨by omega, rfl⟩, fun _ => rfl⟩
      · rw [if_neg ek, sp2]
        refine ⟨fun z => ⟨by omega, z.2⟩, fun z => ⟨?_, z.2⟩⟩
        rcases Nat.lt_or_ge v i with h | h
        · exact h
        · have : v = i := by omega
          subst this
          exact absurd (by rw [z.2]) ek
    rintro σ' H2 ⟨⟨v4, rfl⟩, s2, kvs0, e2, ok2, sp2, l2⟩
    have lay0 : LayAt H2 d0 n L (fun v => c.getD v 0) 0 := ⟨kvs0, e2, ok2, fun v m => by rw [sp2, Lay.zero, Ln], by rw [Nat.pow_one]; exact l2⟩
    refine ⟨_, rfl, by show 1 ≤ sizeLine; decide, fun F hF => ?_⟩
    have F0 : H F = none := s2.free hF
    have nF0 : d0 ≠ F := ne_of_none e2 hF
    refine updI fun H3 e3 k3 => ?_
    refine ⟨_, rfl, _, _, rfl, ⟨by omega, by omega, by omega, by omega⟩, ?_⟩
    rw [show ((k : Int) - 1).toNat = k - 1 by omega]
    refine for_range (lo := 1) (n := k - 1) (fun i σ' H' => ∃ (ds : List Addr) (d : Addr), (∃ v4 v6 v7 v8 v9 v10 v11 v12, σ' = [some (.ref g), some (.ref a), some (nv k), some (.ref d), v4, some (.ref F), v6, v7, v8, v9, v10, v11, v12]) ∧ Same H H' ∧ H' F = some (.lst (ds.map V.ref)) ∧
      ds.length = i + 1 ∧ ds[i]? = some d ∧ F ∉ ds ∧ ∀ j d, ds[j]? = some d → H d = none ∧ LayAt H' d n L (fun v => c.getD v 0) j)
      ⟨[d0], d0, ⟨_, none, none, none, none, none, none, none, rfl⟩, Same.but s2 F0 k3, e3, rfl, rfl, fun z => nF0 (List.mem_singleton.mp z).symm, fun j d hj => ?_⟩ ?_ ?_
    · have hj0 : j = 0 := by have := (List.getElem?_eq_some_iff.mp hj).1; simp at this; exact this
      subst hj0
      obtain rfl : d0 = d := by simpa using hj
      exact ⟨hd0, lay0.mono fun o h => by rw [k3 _ nF0]; exact h⟩
    · rintro i σ' H4 hi ⟨ds, d, ⟨v4, v6, v7, v8, v9, v10, v11, v12, rfl⟩, s4, e4, ld, hd, nF, lay⟩
      obtain ⟨d0', kvs, ed, ok, sp, lkv⟩ := lay i d hd
      have dF : d ≠ F := fun z => nF (z ▸ List.mem_of_getElem? hd)
      refine fun aD haD => ?_
      refine updI fun H5 e5 k5 => ?_
      have aD0 : H aD = none := s4.free haD
      have nad : d ≠ aD := ne_of_none ed haD
      have naF : F ≠ aD := ne_of_none e4 haD
      have s5 : Same H H5 := Same.but s4 aD0 k5
      have ed5 : H5 d = some (.dT kvs) := (k5 d nad).trans ed
      refine ⟨d, _, ed5, trivial, fun od => ?_⟩
      refine ⟨_, rfl, d, od, kvs, rfl, upd_same, ?_⟩
      let cc : Nat → Nat := fun v => c.getD v 0
      let Ext : Nat → Nat → Nat → Nat → Prop := fun v m wn m' => wn ∈ row L v ∧ m.testBit (cc wn) = false ∧ m' = m ||| 2 ^ cc wn
      let Inv0 : Hp → List (List Key × V) → Prop := fun H' akvs => (∀ b o, b ≠ d → b ≠ aD → H5 b = some o → H' b = some o) ∧ H' d = some (.frz od (.dT kvs)) ∧ H' aD = some (.dT akvs) ∧ KOk akvs
      refine for_it walk_itemsT (fun t σ' H' => (∃ v4 v8 v9 v10 v11 v12, σ' = [some (.ref g), some (.ref a), some (nv k), some (.ref d), v4, some (.ref F), some (.int (1 + (i : Int))), some (.ref aD), v8, v9, v10, v11, v12]) ∧ ∃ akvs, Inv0 H' akvs ∧
        (∀ wn m', (valV akvs (lk wn m')).isSome = true ↔ ∃ v m x, (lk v m, x) ∈ kvs.take t ∧ Ext v m wn m') ∧ akvs.length ≤ t * n)
        ⟨⟨_, _, _, _, _, _, rfl⟩, [], ⟨fun b o hb _ h => by rw [upd_ne hb]; exact h, upd_same, by rw [upd_ne nad.symm]; exact e5, KOk.nil⟩, fun wn m' => ⟨fun z => (by cases z), fun ⟨v, m, x, z, _⟩ => (by simp at z)⟩, by simp⟩ (fun _ _ _ _ p => p.2.choose_spec.1.2.1) ?_ ?_
      · rintro t x σ' H6 H7 ht ⟨⟨v4, v8, v9, v10, v11, v12, rfl⟩, akvs, ⟨kb, ed6, ea6, oka⟩, spa, la⟩ ⟨T0, q0, key, val, hkv, rfl, hT, hq, rfl⟩
        obtain ⟨v, m, xx, ep⟩ := ok _ (List.mem_of_getElem? hkv)
        injection ep with ep1 ep2
        subst ep1 ep2
        have hlay : Lay L (fun v => c.getD v 0) i v m := (sp v m).mp (mem_valV (List.mem_of_getElem? hkv))
        have hvn := hlay.lt gr.ok
        have nqT : q0 ≠ T0 := ne_of_none hq hT
        have ndT : d ≠ T0 := ne_of_none ed6 hT
        have naT : aD ≠ T0 := ne_of_none ea6 hT
        have hi0 : Inv0 (upd H6 T0 (.tup [.ref q0, .int xx])) akvs := ⟨fun b o h1 h2 h3 => by
          have := kb b o h1 h2 h3
          rw [upd_ne (ne_of_none this hT)]; exact this, by rw [upd_ne ndT]; exact ed6, by rw [upd_ne naT]; exact ea6, oka⟩
        refine ⟨T0, _, rfl, SqT.of upd_same, rfl, _, _, rfl, q0, _, rfl, SqT.of ((upd_ne nqT).trans hq), rfl, _, _, rfl, _, _, rfl, rfl, _, _, rfl, rfl, ?_⟩
        clear hq hT ndT naT nqT kb ed6 ea6 oka
        generalize upd H6 T0 (.tup [.ref q0, .int xx]) = H7 at hi0 ⊢
        have sH : ∀ {H' : Hp} {ak : List (List Key × V)}, Inv0 H' ak → Same H H' := fun h b o hb => h.1 b o (ne_of_none hb d0') (ne_of_none hb aD0) (s5 b o hb)
        have s7 := sH hi0
        obtain ⟨ra, hra, era⟩ := g5.rowAt (v := v) (by rw [Ln]; exact hvn)
        refine ⟨_, rfl, g, C, dx, _, _, rfl, s7 _ _ g1, Y.cl, Y.nl, gfs_links n e l, _, rfl, l, _, _, .ref ra, rfl, rfl, SqL.of (s7 _ _ g4), atI_nat (refs_get hra), ra, rfl, ⟨_, SqL.of (s7 _ _ era)⟩, ?_⟩
        have rle := gr.row_le v
        refine for_list (K := K) (a := ra) (xs := nvs (row L v)) (fun u σ' H' => (∃ v10 v11 v12, σ' = [some (.ref g), some (.ref a), some (nv k), some (.ref d), some (nv v), some (.ref F), some (.int (1 + (i : Int))), some (.ref aD), some (nv m), some (.int xx), v10, v11, v12]) ∧ ∃ akvs, Inv0 H' akvs ∧
          (∀ wn m', (valV akvs (lk wn m')).isSome = true ↔ (∃ v m x, (lk v m, x) ∈ kvs.take t ∧ Ext v m wn m') ∨ (wn ∈ (row L v).take u ∧ m.testBit (cc wn) = false ∧ m' = m ||| 2 ^ cc wn)) ∧ akvs.length ≤ t * n + u)
          ⟨⟨_, _, _, rfl⟩, akvs, hi0, fun wn m' => by rw [spa]; simp, by omega⟩ (fun _ _ _ _ p => SqL.of ((sH p.2.choose_spec.1) _ _ era)) ?_ ?_
        · rintro u x σ' H8 hx ⟨⟨v10, v11, v12, rfl⟩, akvs, hi1, spa, la⟩
          obtain ⟨y, hy, rfl⟩ := nvs_inv hx
          have hyn := gr.ok.bnd v y (List.mem_of_getElem? hy)
          have hul := (List.getElem?_eq_some_iff.mp hy).1
          have gc : c[y]? = some (c.getD y 0) := getD_of (by omega)
          have hcy := clt _ (List.mem_of_getElem? gc)
          have s8 := sH hi1
          refine ⟨_, rfl, _, rfl, _, _, _, _, rfl, rfl, SqL.of (s8 _ _ ha), atI_nat (nvs_get gc), _, _, rfl, rfl, shl_ok (by omega), ?_⟩
          refine ⟨_, rfl, _, rfl, _, _, rfl, rfl, rfl, _, rfl, ?_⟩
          rw [take_snoc hy]
          refine ite2 (fun h => ?_) (fun h => ?_)
          · have h' : V.int (Builtin.bitAnd (m : Int) ((1 : Int) * 2 ^ ((c.getD y 0 : Nat) : Int).toNat)) = V.int 0 := dt h
            rw [pw_nat, band] at h'
            have hz : m &&& 2 ^ c.getD y 0 = 0 := by injection h' with h'; omega
            have hb := and_zero_iff.mp hz
            refine ⟨_, rfl, _, rfl, _, rfl, _, _, rfl, rfl, by show 2 ≤ sizeLine; decide, fun kt hkt => ?_⟩
            have nad2 : aD ≠ kt := ne_of_none hi1.2.2.1 hkt
            have ekt : (upd H8 kt (.tup [nv y, V.int (Builtin.bitOr (m : Int) ((1 : Int) * 2 ^ ((c.getD y 0 : Nat) : Int).toNat))])) kt = some (.tup ((lk y (m ||| 2 ^ c.getD y 0)).map kV)) := by rw [upd_same, lk_kV, pw_nat, bor]
            have ea9 : (upd H8 kt (.tup [nv y, V.int (Builtin.bitOr (m : Int) ((1 : Int) * 2 ^ ((c.getD y 0 : Nat) : Int).toNat))])) aD = some (.dT akvs) := (upd_ne nad2).trans hi1.2.2.1
            obtain ⟨x0, hx0⟩ := hi1.2.2.2.getD (lk y (m ||| 2 ^ c.getD y 0))
            have szb : akvs.length < sizeLine := by
              have h1 : (t + 1) * n ≤ kvs.length * n := Nat.mul_le_mul_right n ht
              have h2 : kvs.length * n ≤ n ^ (i + 1) * n := Nat.mul_le_mul_right n lkv
              have h3 : n ^ (i + 1) * n ≤ n ^ k := by rw [← Nat.pow_succ]; exact Nat.pow_le_pow_right (by omega) (by omega)
              have h4 : (t + 1) * n = t * n + n := Nat.succ_mul t n
              exact Nat.lt_of_le_of_lt (show akvs.length ≤ 10000000 by omega) (by decide)
            refine ⟨_, rfl, aD, rfl, .inr ⟨akvs, .inl ea9⟩, _, rfl, _, DGet.t ea9 ekt, _, rfl, x0, xx, hx0, rfl, _, rfl, _, rfl, aD, _, rfl, DPut.t ea9 ekt szb, ⟨_, _, _, rfl⟩, _, ⟨fun b o h1 h2 h3 => ?_, ?_, upd_same, hi1.2.2.2.put _ _ _⟩, fun wn m' => ?_, Nat.le_trans (length_putK _ _ _) (by omega)⟩
            · have := hi1.1 b o h1 h2 h3
              rw [upd_ne h2, upd_ne (ne_of_none this hkt)]; exact this
            · rw [upd_ne nad, upd_ne (ne_of_none hi1.2.1 hkt)]; exact hi1.2.1
            · rw [valV_put, List.mem_append, List.mem_singleton]
              by_cases ek : lk wn m' = lk y (m ||| 2 ^ c.getD y 0)
              · obtain ⟨rfl, rfl⟩ := lk_inj ek
                rw [if_pos ek]
                exact ⟨fun _ => .inr ⟨.inr rfl, hb, rfl⟩, fun _ => rfl⟩
              · rw [if_neg ek, spa]
                refine or_congr Iff.rfl ⟨fun z => ⟨.inl z.1, z.2⟩, fun z => ⟨z.1.resolve_right fun e => ek ?_, z.2⟩⟩
                rw [z.2.2, e]
          · have h' : ¬ V.int (Builtin.bitAnd (m : Int) ((1 : Int) * 2 ^ ((c.getD y 0 : Nat) : Int).toNat)) = V.int 0 := df h
            rw [pw_nat, band] at h'
            have hb : ¬ m.testBit (cc y) = false := fun z => h' (by rw [and_zero_iff.mpr z]; rfl)
            refine ⟨⟨_, _, _, rfl⟩, akvs, hi1, fun wn m' => ?_, by omega⟩
            rw [spa, List.mem_append, List.mem_singleton]
            refine or_congr Iff.rfl ⟨fun z => ⟨.inl z.1, z.2⟩, fun z => ⟨z.1.resolve_right fun e => hb ?_, z.2⟩⟩
            rw [← e]; exact z.2.1
        · rintro σ' H8 ⟨⟨v10, v11, v12, rfl⟩, akvs, hi1, spa, la⟩
          rw [nvs_len, List.take_length] at spa
          rw [nvs_len] at la
          refine ⟨⟨_, _, _, _, _, _, rfl⟩, akvs, hi1, fun wn m' => ?_, by rw [Nat.succ_mul]; omega⟩
          rw [spa, take_snoc hkv]
          constructor
          · rintro (⟨v', m0, x', h1, h2⟩ | h)
            · exact ⟨v', m0, x', List.mem_append_left _ h1, h2⟩
            · exact ⟨v, m, _, List.mem_append_right _ (List.mem_singleton.mpr rfl), h⟩
          · rintro ⟨v', m0, x', h1, h2⟩
            rcases List.mem_append.mp h1 with h1 | h1
            · exact .inl ⟨v', m0, x', h1, h2⟩
            · injection List.mem_singleton.mp h1 with h3 _
              obtain ⟨rfl, rfl⟩ := lk_inj h3
              exact .inr h2
      · rintro σ' H6 ⟨⟨v4, v8, v9, v10, v11, v12, rfl⟩, akvs, ⟨kb, ed6, ea6, oka⟩, spa, la⟩
        rw [List.take_length] at spa
        refine ⟨ed6, ?_⟩
        have e6F : H6 F = some (.lst (ds.map V.ref)) := kb F _ dF.symm naF ((k5 F naF).trans e4)
        refine updI fun H7 e7 k7 => ?_
        have e7F : H7 F = some (.lst (ds.map V.ref)) := (k7 F dF.symm).trans e6F
        have e7a : H7 aD = some (.dT akvs) := (k7 aD nad.symm).trans ea6
        refine ⟨_, rfl, _, rfl, .inl ⟨rfl, _, SqL.of e7F⟩, _, rfl, F, _, _, rfl, rfl, e7F, by rw [List.length_map]; exact sz5 (by omega), ?_⟩
        refine updI fun H8 e8 k8 => ?_
        have k87 : ∀ b o, b ≠ aD → H5 b = some o → b ≠ F → H8 b = some o := fun b o h1 h2 h3 => by
          rw [k8 b h3]
          by_cases e : b = d
          · rw [e, e7, ← ed5, ← e, h2]
          · rw [k7 b e]; exact kb b o e h1 h2
        have s8 : Same H H8 := fun b o hb => k87 b o (ne_of_none hb aD0) (s5 b o hb) (ne_of_none hb F0)
        refine ⟨ds ++ [aD], aD, ⟨_, _, _, _, _, _, _, _, rfl⟩, s8, by rw [e8, List.map_append]; rfl, by rw [List.length_append, ld]; rfl, by rw [List.getElem?_append_right (by omega), ld]; simp, fun z => ?_, fun j d' hj => ?_⟩
        · rcases List.mem_append.mp z with z | z
          · exact nF z
          · exact naF (List.mem_singleton.mp z)
        · rcases Nat.lt_or_ge j ds.length with h | h
          · rw [List.getElem?_append_left h] at hj
            obtain ⟨l1, l2⟩ := lay j d' hj
            refine ⟨l1, l2.mono fun o ho => ?_⟩
            have n1 : d' ≠ aD := ne_of_none ho haD
            exact k87 d' o n1 ((k5 d' n1).trans ho) fun z => nF (z ▸ List.mem_of_getElem? hj)
          · rw [List.getElem?_append_right h] at hj
            have ej : j = i + 1 := by
              have := (List.getElem?_eq_some_iff.mp hj).1
              simp at this; omega
            subst ej
            rw [ld, Nat.sub_self] at hj
            obtain rfl : aD = d' := by simpa using hj
            refine ⟨aD0, akvs, (k8 aD naF.symm).trans e7a, oka, fun wn m' => ?_, ?_⟩
            · rw [spa, Lay.succ]
              constructor
              · rintro ⟨v, m, x, h1, h2, h3, h4⟩
                exact ⟨v, m, (sp v m).mp (mem_valV h1), h2, h3, h4⟩
              · rintro ⟨v, m, h1, h2, h3, h4⟩
                obtain ⟨x, hx⟩ := Option.isSome_iff_exists.mp ((sp v m).mpr h1)
                exact ⟨v, m, x, valV_mem hx, h2, h3, h4⟩
            · rw [Nat.pow_succ]
              exact Nat.le_trans la (Nat.mul_le_mul_right n lkv)
    · rintro σ' H4 ⟨ds, d, ⟨v4, v6, v7, v8, v9, v10, v11, v12, rfl⟩, s4, e4, ld, hd, nF, lay⟩
      refine ⟨_, rfl, ?_⟩
      exact q H4 F ds s4 F0 e4 (by omega) fun j d hj => (lay j d hj).2
end
end K53
namespace K53
open PySem PySem.Spec PyProof.Rows L2
theorem atI_neg1 {α : Type} {xs : List α} {v : α} (h : xs[xs.length - 1]? = some v) : atI xs (-1) = some v := by
  have hl := (List.getElem?_eq_some_iff.mp h).1
  have e : ixN xs.length (-1) = some (xs.length - 1) := by
    unfold ixN
    rw [if_neg (by decide), if_pos (by omega)]
    congr 1; omega
  unfold atI
  rw [e]; exact h
theorem cut_init (xs : List V) : cutV xs none (some (-1)) = xs.take (xs.length - 1) := by
  unfold cutV
  show (xs.drop 0).take (((-1 : Int) + (xs.length : Int)).toNat - 0) = _
  rw [List.drop_zero]
  congr 1; omega
theorem st_eq {G : L2.St → Hp → Prop} {σ : L2.St} {i : Nat} {x y : V} {H : Hp} (e : x = y) (k : G (σ.set i (some y)) H) : G (σ.set i (some x)) H := by rw [e]; exact k
theorem nvs_rev (p : List Nat) : (nvs p).reverse = nvs p.reverse := by unfold nvs; rw [List.map_reverse]
section
variable {P : Program} {w : World} {K : PySem.W.Frag} {mg : Str → Option Value} {base : Heap} {C : Addr}
def sp_colourful_path (C : Addr) : Sp := fun vs H Q _ => ∃ (g a : Addr) (n k : Nat) (es : List (Nat × Nat)) (L : Rows) (c : List Nat), vs = [.ref g, .ref a, nv k] ∧ GraphAt C H g n es L ∧ GR n L ∧ n ≤ 40 ∧ 1 ≤ k ∧ k ≤ 7 ∧ n ^ k ≤ 10000000 ∧ H a = some (.lst (nvs c)) ∧ c.length = n ∧ (∀ x ∈ c, x < k) ∧
  (∀ H', Same H H' → (¬ ∃ p, CP n L (fun v => c.getD v 0) k p) → Q .non H') ∧
  ∀ (H' : Hp) (r : Addr) (p : List Nat), Same H H' → H r = none → H' r = some (.lst (nvs p)) → CP n L (fun v => c.getD v 0) k p → Q (.ref r) H'
theorem o_colourful_path {f : Addr} {fd : FuncData} (F : FnP K "colourful_path" "colourful_path" s_colourful_path f fd) (hm : mg "colourful_path" = some (.ref f)) (T : Tx mg) (D_check_colouring : Own P w K mg base 4 "check_colouring" (sp_check_colouring C)) (D_layers : Own P w K mg base 1 "layers" (sp_layers C)) (Y : Gx K mg C) : Own P w K mg base 5 "colourful_path" (sp_colourful_path C) := by
  have sc : FnScope ["graph", "colouring", "k", "found", "node", "mask", "path", "layer", "before", "other"] ["graph", "colouring", "k"] (defScope s_colourful_path) := ⟨rfl, rfl, rfl, by decide +kernel, rfl, by decide +kernel, by decide +kernel⟩
  refine own_ok F hm sc (fun _ _ _ _ _ _ us hl => match us, hl with | [_, _, _], _ => rfl) (fun vs H Q E h => ?_) (fun cdv A outer s H vs Q E hr h => ?_)
  · obtain ⟨g, a, n, k, es, L, c, rfl, _⟩ := h; rfl
  · obtain ⟨g, a, n, k, es, L, c, rfl, hg, gr, hn, hk1, hk7, hpow, ha, cl, clt, q0, q1⟩ := h
    have hu := hu_of hr
    refine ⟨_, (pss_cons (ps_expr (pe_own D_check_colouring (hr.mono (by decide)) (by rfl) (pa_cons (pv 0) (pa_cons (pv 1) (pa_cons (pv 2) pa_nil))))) 
      (pss_cons (ps_set (i := 3) sc.nd rfl (Or.inl rfl) (pe_own D_layers (hr.mono (by decide)) (by rfl) (pa_cons (pv 0) (pa_cons (pv 1) (pa_cons (pv 2) pa_nil))))) 
      (pss_cons (ps_if (pt_not (pt_truT (pe_ix ix_list (pv 3) (pe_un un_neg pe_int) (fun _ _ => rfl)))) (pss_one (ps_ret pe_non)) pss_nil) 
      (pss_cons (ps_asg (pe_callB (cr_minT rfl hu) (by rfl) T.min (by decide +kernel) (pa_cons (pe_ix ix_list (pv 3) (pe_un un_neg pe_int) (fun _ _ => rfl)) pa_nil)) (pg_tup rfl (pgs_cons (pg_name (i := 4) sc.nd rfl (Or.inl rfl)) (pgs_cons (pg_name (i := 5) sc.nd rfl (Or.inr rfl)) pgs_nil)))) 
      (pss_cons (ps_set (i := 6) sc.nd rfl (Or.inl rfl) (pe_lst (pa_cons (pv 4) pa_nil))) 
      (pss_cons (ps_for PassesOwn.never rfl (pi_list (pe_revL (pe_slice sl_list (pv 3) po_none (po_some (pe_un un_neg pe_int))))) (pg_name (i := 7) sc.nd rfl (Or.inr rfl)) (pss_cons (ps_aug (i := 5) sc.nd rfl (Or.inr rfl) (pe_op op_shl pe_int (pe_ix ix_list (pv 1) (pe_ix ix_list (pv 6) (pe_un un_neg pe_int) (fun _ _ => rfl)) (fun _ _ => rfl))) iop_sub) (pss_cons (ps_setLc (i := 8) (own := [("other", 9)]) (g := gName 9) rfl sc.nd rfl rfl (sw_true rfl rfl rfl (by decide +kernel)) (pi_list (pe_ix ix_list (pe_fld (pv 0) rfl) (pe_ix ix_list (pv 6) (pe_un un_neg pe_int) (fun _ _ => rfl)) (fun _ _ => rfl))) (blkOk_by (N := (["graph", "colouring", "k", "found", "node", "mask", "path", "layer", "before", "other"] : List Str)) (sc := defScope s_colourful_path) (by decide +kernel)) (fun _ _ _ _ _ => (pg_name (i := 9) sc.nd rfl (Or.inl rfl))) (fun _ _ _ _ _ => (pts_one (pt_cmp (pc_din hu (pe_tup (pa_cons (pv 9) (pa_cons (pv 5) pa_nil))) (pv 7))))) (fun _ _ _ _ _ => (pv 9))) (pss_one (ps_expr (pe_bm PySem.F.plainAttrs_list PySem.F.slot_list_append PySem.F.type_list_append mt_append (pv 6) (pa_cons (pe_ix ix_list (pv 8) pe_int (fun _ _ => rfl)) pa_nil))))))) 
      (pss_one (ps_ret (pe_revL (pv 6)))))))))), ?_⟩
    refine ⟨_, rfl, _, rfl, _, rfl, g, a, n, k, es, L, c, rfl, hg, hn, hk1, hk7, ha, cl, clt, ?_⟩
    refine ⟨_, rfl, _, rfl, _, rfl, g, a, n, k, es, L, c, rfl, hg, gr, hn, hk1, hk7, hpow, ha, cl, clt, fun H1 F ds s1 F0 eF ld lay => ?_⟩
    obtain ⟨dx, e, l, eas, las, g1, g2, g3, g4, g5⟩ := hg
    have Ln : L.length = n := gr.ok.len
    obtain ⟨d, hd⟩ : ∃ d, ds[k - 1]? = some d := ⟨ds[k - 1], List.getElem?_eq_getElem (by omega)⟩
    obtain ⟨kvs, ed, ok, sp, _⟩ := lay _ d hd
    have hlast : atI (ds.map V.ref) (-1) = some (.ref d) := atI_neg1 (by rw [List.length_map, ld]; exact refs_get hd)
    refine ⟨_, rfl, _, rfl, _, _, _, .ref d, rfl, rfl, SqL.of eF, hlast, d, kvs, rfl, ed, ?_⟩
    by_cases hk0 : kvs = []
    · subst hk0
      refine iteT ?_
      refine q0 H1 s1 ?_
      rintro ⟨p, hp⟩
      obtain ⟨v, m, h⟩ := Lay.of_cp gr.ok (j := k - 1) (p := p) (by rw [show k - 1 + 1 = k by omega]; exact hp)
      have := (sp v m).mpr h
      cases this
    have hne : (!(!kvs.isEmpty)) = false := by cases kvs with
      | nil => exact absurd rfl hk0
      | cons _ _ => rfl
    refine iF hne ?_
    refine ⟨_, rfl, _, rfl, _, _, _, .ref d, rfl, rfl, SqL.of eF, hlast, d, kvs, rfl, ed, hk0, fun p hp => ?_, fun key val q hmem hq => ?_⟩
    · obtain ⟨v, m, x, rfl⟩ := ok p hp
      exact ⟨[(v : Int), (m : Int)], rfl⟩
    obtain ⟨v0, m0, x0, ep⟩ := ok _ hmem
    injection ep with ep1 ep2
    subst ep1 ep2
    have hl0 : Lay L (fun v => c.getD v 0) (k - 1) v0 m0 := (sp v0 m0).mp (mem_valV hmem)
    refine ⟨q, _, rfl, SqT.of hq, rfl, _, _, rfl, _, _, rfl, rfl, ?_⟩
    refine ⟨_, rfl, by show 1 ≤ sizeLine; decide, fun pa hpa => ?_⟩
    refine updI fun H2 e2 k2 => ?_
    have st2 : ∀ b o, H1 b = some o → H2 b = some o := fun b o h => (k2 b (ne_of_none h hpa)).trans h
    have pa0 : H pa = none := s1.free hpa
    -- the layers, from the last but one
    refine ⟨_, rfl, _, rfl, _, rfl, F, _, rfl, SqL.of (st2 _ _ eF), fun f1 hf1 => ?_⟩
    refine ⟨f1, _, rfl, SqL.of upd_same, fun f2 hf2 => ?_⟩
    have st4 : ∀ b o, H1 b = some o → (upd (upd H2 f1 (.lst (cutV (ds.map V.ref) none (some (-1))))) f2 (.lst (cutV (ds.map V.ref) none (some (-1))).reverse)) b = some o := fun b o h => by
      rw [upd_ne (ne_of_none ((upd_ne (ne_of_none (st2 b o h) hf1)).trans (st2 b o h)) hf2), upd_ne (ne_of_none (st2 b o h) hf1)]; exact st2 b o h
    have npf1 : pa ≠ f1 := ne_of_none e2 hf1
    have npf2 : pa ≠ f2 := ne_of_none ((upd_ne npf1).trans e2) hf2
    have e4 : (upd (upd H2 f1 (.lst (cutV (ds.map V.ref) none (some (-1))))) f2 (.lst (cutV (ds.map V.ref) none (some (-1))).reverse)) pa = some (.lst (nvs [v0])) := by rw [upd_ne npf2, upd_ne npf1]; exact e2
    have e4f : (upd (upd H2 f1 (.lst (cutV (ds.map V.ref) none (some (-1))))) f2 (.lst (cutV (ds.map V.ref) none (some (-1))).reverse)) f2 = some (.lst ((ds.take (k - 1)).reverse.map V.ref)) := by
      rw [upd_same, cut_init, List.length_map, ld, ← List.map_take, ← List.map_reverse]
    refine ⟨f2, rfl, ⟨_, SqL.of upd_same⟩, ?_⟩
    show ∃ W, _
    generalize (upd (upd H2 f1 (.lst (cutV (ds.map V.ref) none (some (-1))))) f2 (.lst (cutV (ds.map V.ref) none (some (-1))).reverse)) = H4 at st4 e4 e4f ⊢
    have f20 : H1 f2 = none := by
      cases z : H1 f2 with
      | none => rfl
      | some o =>
        have z2 := st2 _ _ z
        rw [upd_ne (ne_of_none z2 hf1), z2] at hf2; cases hf2
    clear hf2 hf1 npf1 e2 k2 st2
    have s4 : Same H H4 := s1.trans st4
    have lrev : ((ds.take (k - 1)).reverse.map V.ref).length = k - 1 := by simp; omega
    refine for_list (K := K) (a := f2) (xs := (ds.take (k - 1)).reverse.map V.ref) (fun i σ' H' => ∃ (p : List Nat) (v M : Nat), (∃ v4 v7 v8, σ' = [some (.ref g), some (.ref a), some (nv k), some (.ref F), v4, some (nv M), some (.ref pa), v7, v8, none]) ∧ (∀ b o, b ≠ pa → H4 b = some o → H' b = some o) ∧ H' pa = some (.lst (nvs p)) ∧
      p.length = i + 1 ∧ p[i]? = some v ∧ WB n L (fun v => c.getD v 0) (k - 1 - i) p v M) ⟨[v0], v0, m0, ⟨_, none, none, rfl⟩, fun _ _ _ h => h, e4, rfl, rfl, WB.start hl0⟩ (fun _ _ _ _ z => ?_) ?_ ?_
    · obtain ⟨_, _, _, _, z, _⟩ := z
      exact SqL.of (z _ _ npf2.symm e4f)
    · rintro i x σ' H5 hx ⟨p, v, M, ⟨v4, v7, v8, rfl⟩, kb, ep, lp, hv, wb⟩
      obtain ⟨dd, hdd, rfl⟩ := refs_inv hx
      have hi : i < k - 1 := by
        have := (List.getElem?_eq_some_iff.mp hdd).1
        simp at this; omega
      have hdj : ds[k - 1 - 1 - i]? = some dd := by
        rw [List.getElem?_reverse (by simp; omega), List.length_take, ld] at hdd
        rw [List.getElem?_take] at hdd
        rw [if_pos (by omega)] at hdd
        rw [← hdd]; congr 1; omega
      obtain ⟨kv2, ed2, ok2, sp2, _⟩ := lay _ dd hdj
      obtain ⟨j, ej⟩ : ∃ j, k - 1 - i = j + 1 := ⟨k - 1 - 1 - i, by omega⟩
      have ej2 : k - 1 - 1 - i = j := by omega
      rw [ej2] at sp2
      rw [ej] at wb
      have keep : ∀ b o, H1 b = some o → H5 b = some o := fun b o h => kb b o (ne_of_none h hpa) (st4 b o h)
      have s5 : Same H H5 := s1.trans keep
      have hlastp : atI (nvs p) (-1) = some (nv v) := atI_neg1 (by rw [nvs_len, lp]; exact nvs_get hv)
      have hvn : v < n := by
        obtain ⟨q0, _, h, _⟩ := wb
        exact h.lt gr.ok
      have gc : c[v]? = some (c.getD v 0) := getD_of (by omega)
      have hcv := clt _ (List.mem_of_getElem? gc)
      have hsub := wb.sub gr.ok
      refine ⟨_, rfl, _, rfl, _, rfl, _, rfl, _, _, _, nv v, rfl, rfl, SqL.of ep, hlastp, _, _, _, _, rfl, rfl, SqL.of (s5 _ _ ha), atI_nat (nvs_get gc), _, _, rfl, rfl, shl_ok (by omega), _, _, rfl, rfl, ?_⟩
      refine st_eq (y := nv (M - 2 ^ c.getD v 0)) ?_ ?_
      · show V.int ((M : Int) - (1 : Int) * 2 ^ ((c.getD v 0 : Nat) : Int).toNat) = V.int _
        rw [pw_nat]
        congr 1
        exact (Int.natCast_sub hsub).symm
      obtain ⟨ra, hra, era⟩ := g5.rowAt (v := v) (by rw [Ln]; exact hvn)
      refine ⟨_, rfl, g, C, dx, _, _, rfl, s5 _ _ g1, Y.cl, Y.nl, gfs_links n e l, _, rfl, _, rfl, _, _, _, nv v, rfl, rfl, SqL.of ep, hlastp, l, _, _, .ref ra, rfl, rfl, SqL.of (s5 _ _ g4), atI_nat (refs_get hra), ra, rfl, ⟨_, SqL.of (s5 _ _ era)⟩, fun D hD => ?_⟩
      let pp : Nat → Bool := fun o => (valV kv2 (lk o (M - 2 ^ c.getD v 0))).isSome
      refine lc_it walk_list (fun t H' => Same H5 H' ∧ H' D = some (.lst (nvs (((row L v).take t).filter pp)))) ⟨Same.new hD, upd_same⟩ (fun t H' _ z => SqL.of (z.1 _ _ (s5 _ _ era))) ?_ ?_
      · rintro t x H6 H7 ht ⟨s6, e6⟩ ⟨rfl, hx⟩
        obtain ⟨o, ho, rfl⟩ := nvs_inv hx
        refine ⟨rfl, ?_⟩
        refine ⟨_, rfl, _, rfl, by show 2 ≤ sizeLine; decide, fun kt hkt => ?_⟩
        have edd : H7 dd = some (.dT kv2) := s6 _ _ (keep _ _ ed2)
        have nd : dd ≠ kt := ne_of_none edd hkt
        have nD : D ≠ kt := ne_of_none e6 hkt
        refine ⟨_, rfl, dd, _, rfl, DGet.t (k := lk o (M - 2 ^ c.getD v 0)) ((upd_ne nd).trans edd) (by rw [upd_same]; rfl), _, rfl, ?_⟩
        have lle : (nvs (((row L v).take t).filter pp)).length ≤ 100000 := by
          rw [nvs_len]
          have h1 := List.length_filter_le pp ((row L v).take t)
          have h2 := gr.row_le v
          have h3 : ((row L v).take t).length ≤ (row L v).length := by rw [List.length_take]; omega
          omega
        refine ite2 (fun h => ?_) (fun h => ?_)
        · refine ⟨_, rfl, _, (upd_ne nD).trans e6, sz5 lle, Same.mut (s6.trans (Same.new hkt)) hD, ?_⟩
          rw [upd_same, take_snoc ho, List.filter_append, List.filter_cons, if_pos h]
          exact congrArg (fun l => some (HO.lst l)) (nvs_snoc _ _)
        · refine ⟨s6.trans (Same.new hkt), ?_⟩
          rw [upd_ne nD, e6, take_snoc ho, List.filter_append, List.filter_cons, if_neg h]
          simp
      · rintro H6 ⟨s6, e6⟩
        rw [nvs_len, List.take_length] at e6
        have hmem : ∀ o, o ∈ (row L v).filter pp ↔ o ∈ row L v ∧ Lay L (fun v => c.getD v 0) j o (M - 2 ^ c.getD v 0) := fun o => by
          rw [List.mem_filter, ← sp2]
        obtain ⟨o1, h1, h2⟩ := wb.some gr.ok
        have hm1 := (hmem o1).mpr ⟨h1, h2⟩
        obtain ⟨o0, r0, er⟩ : ∃ o0 r0, (row L v).filter pp = o0 :: r0 := by
          cases z : (row L v).filter pp with
          | nil => rw [z] at hm1; cases hm1
          | cons o0 r0 => exact ⟨o0, r0, rfl⟩
        have hm0 := (hmem o0).mp (by rw [er]; exact List.mem_cons_self)
        have e6p : H6 pa = some (.lst (nvs p)) := s6 _ _ ep
        refine ⟨_, rfl, .inl ⟨rfl, _, SqL.of e6p⟩, _, rfl, D, _, _, nv o0, rfl, rfl, SqL.of e6, ?_, pa, _, _, rfl, rfl, e6p, by rw [nvs_len]; exact sz5 (by omega), ?_⟩
        · rw [er]; exact atI_nat (j := 0) rfl
        refine updI fun H7 e7 k7 => ?_
        refine ⟨p ++ [o0], o0, M - 2 ^ c.getD v 0, ⟨_, _, _, rfl⟩, fun b o hb h => (k7 b hb).trans (s6 _ _ (kb b o hb h)), by rw [e7, nvs_snoc], by rw [List.length_append, lp]; rfl, by rw [List.getElem?_append_right (by omega), lp]; simp, ?_⟩
        rw [show k - 1 - (i + 1) = j by omega]
        exact wb.step gr.ok hm0.1 hm0.2
    · rintro σ' H5 ⟨p, v, M, ⟨v4, v7, v8, rfl⟩, kb, ep, lp, hv, wb⟩
      rw [lrev] at lp hv wb
      rw [Nat.sub_self] at wb
      have cp := wb.done gr.ok
      rw [lp, show k - 1 + 1 = k by omega] at cp
      refine ⟨_, rfl, pa, _, rfl, SqL.of ep, fun r hr2 => ?_⟩
      have s5 : Same H H5 := s1.trans fun b o h => kb b o (ne_of_none h hpa) (st4 b o h)
      exact q1 _ r p.reverse (s5.trans (Same.new hr2)) (s5.free hr2) (by rw [upd_same, nvs_rev]) cp
end
end K53
namespace K53
open PySem PySem.Spec PyProof.Rows L2
theorem sort_asc {n k : Nat} {p : List Nat} (l : p.length = k) (lt : ∀ v ∈ p, v < n) (nd : p.Nodup) : ∃ S, Asc n 0 k S ∧ S.Perm p := by
  have hp := List.mergeSort_perm p (fun a b => decide (a ≤ b))
  have hs := List.pairwise_mergeSort (le := fun a b : Nat => decide (a ≤ b)) (fun a b c h1 h2 => by simp at *; omega) (fun a b => by simp; omega) p
  refine ⟨p.mergeSort (fun a b => decide (a ≤ b)), ⟨hp.length_eq.trans l, ?_, fun x hx => ⟨Nat.zero_le _, lt x (hp.mem_iff.mp hx)⟩⟩, hp⟩
  have nd' : (p.mergeSort (fun a b => decide (a ≤ b))).Nodup := hp.nodup_iff.mpr nd
  exact (hs.and nd').imp fun h => by
    obtain ⟨h1, h2⟩ := h
    have : _ ≤ _ := of_decide_eq_true h1
    omega
theorem cover_path {n k : Nat} {L : Rows} {fam : List (List Nat)} {p : List Nat} (cov : ∀ S, Asc n 0 k S → ∃ c ∈ fam, Splits c S) (h : CP n L (fun v => v) k p) : ∃ c ∈ fam, ∃ p, CP n L (fun v => c.getD v 0) k p := by
  have nd := h.nd
  rw [List.map_id'] at nd
  obtain ⟨S, hS, hp⟩ := sort_asc h.len h.lt nd
  obtain ⟨c, hc, sp⟩ := cov S hS
  exact ⟨c, hc, p, h.len, h.lt, (hp.map _).nodup_iff.mp sp, h.ch⟩
section
variable {P : Program} {w : World} {K : PySem.W.Frag} {mg : Str → Option Value} {base : Heap} {C : Addr}
/-- the family at q is a paper -/
structure Paper (H : Hp) (n : Nat) (L : Rows) (k : Nat) (q : Addr) (cs : List Addr) (fam : List (List Nat)) : Prop where
  at_ : H q = some (.lst (cs.map V.ref))
  cols : ColsAt H cs fam
  nq : q ∉ cs
  ok : Cols n k fam
  cov : ∀ S, Asc n 0 k S → ∃ c ∈ fam, Splits c S
  len : fam.length ≤ 50000
  no : ∀ c ∈ fam, ¬ ∃ p, CP n L (fun v => c.getD v 0) k p
theorem Paper.mono {H H' : Hp} {n : Nat} {L : Rows} {k : Nat} {q : Addr} {cs : List Addr} {fam : List (List Nat)} (h : Paper H n L k q cs fam) (s : Same H H') : Paper H' n L k q cs fam :=
  ⟨s _ _ h.at_, h.cols.mono s, h.nq, h.ok, h.cov, h.len, h.no⟩
def sp_path_or_paper (C : Addr) : Sp := fun vs H Q _ => ∃ (g : Addr) (n k : Nat) (es : List (Nat × Nat)) (L : Rows), vs = [.ref g, nv k] ∧ GraphAt C H g n es L ∧ GR n L ∧ okNK n k = true ∧
  (∀ (H' : Hp) (r q : Addr) (p : List Nat), Same H H' → H r = none → H q = none → r ≠ q → H' r = some (.tup [.str "path", .ref q]) → H' q = some (.lst (nvs p)) → CP n L (fun v => v) k p → Q (.ref r) H') ∧
  ∀ (H' : Hp) (r q : Addr) (cs : List Addr) (fam : List (List Nat)), Same H H' → H r = none → H q = none → r ≠ q → H' r = some (.tup [.str "paper", .ref q]) → Paper H' n L k q cs fam → Q (.ref r) H'
theorem o_path_or_paper {f : Addr} {fd : FuncData} (F : FnP K "path_or_paper" "path_or_paper" s_path_or_paper f fd) (hm : mg "path_or_paper" = some (.ref f)) (T : Tx mg) (D_check_number : Own P w K mg base 2 "check_number" sp_check_number) (D_separating_family : Own P w K mg base 4 "separating_family" sp_separating_family) (D_colourful_path : Own P w K mg base 5 "colourful_path" (sp_colourful_path C)) (Y : Gx K mg C) : Own P w K mg base 6 "path_or_paper" (sp_path_or_paper C) := by
  have sc : FnScope ["graph", "k", "family", "colouring", "path"] ["graph", "k"] (defScope s_path_or_paper) := ⟨rfl, rfl, rfl, by decide +kernel, rfl, by decide +kernel, by decide +kernel⟩
  refine own_ok F hm sc (fun _ _ _ _ _ _ us hl => match us, hl with | [_, _], _ => rfl) (fun vs H Q E h => ?_) (fun cdv A outer s H vs Q E hr h => ?_)
  · obtain ⟨g, n, k, es, L, rfl, _⟩ := h; rfl
  · obtain ⟨g, n, k, es, L, rfl, hg, gr, ok, q1, q2⟩ := h
    have hu := hu_of hr
    refine ⟨_, (pss_cons (ps_expr (pe_own D_check_number (hr.mono (by decide)) (by rfl) (pa_cons (pv 1) (pa_cons pe_int (pa_cons (pe_kint T.longest rfl) pa_nil))))) 
      (pss_cons (ps_set (i := 2) sc.nd rfl (Or.inl rfl) (pe_own D_separating_family (hr.mono (by decide)) (by rfl) (pa_cons (pe_fld (pv 0) rfl) (pa_cons (pv 1) pa_nil)))) 
      (pss_cons (ps_for PassesOwn.never rfl (pi_list (pv 2)) (pg_name (i := 3) sc.nd rfl (Or.inl rfl)) (pss_cons (ps_set (i := 4) sc.nd rfl (Or.inl rfl) (pe_own D_colourful_path (hr.mono (by decide)) (by rfl) (pa_cons (pv 0) (pa_cons (pv 3) (pa_cons (pv 1) pa_nil))))) (pss_one (ps_if (pt_cmp (pc_notN (pv 4))) (pss_one (ps_ret (pe_tup (pa_cons pe_str (pa_cons (pv 4) pa_nil))))) pss_nil)))) 
      (pss_one (ps_ret (pe_tup (pa_cons pe_str (pa_cons (pv 2) pa_nil)))))))), ?_⟩
    obtain ⟨b1, b2, b3⟩ := okNK_bounds ok
    have hg0 := hg
    obtain ⟨dx, e, l, eas, las, g1, g2, g3, g4, g5⟩ := hg
    refine ⟨_, rfl, _, _, _, rfl, by omega, by omega, ?_⟩
    refine ⟨_, rfl, g, C, dx, _, _, rfl, g1, Y.cl, Y.nn, gfs_nodes n e l, _, rfl, n, k, rfl, ok, fun H1 p cs fam s1 p0 ep hcs np cok cov lf => ?_⟩
    refine ⟨_, rfl, p, rfl, ⟨_, SqL.of ep⟩, ?_⟩
    refine for_list (K := K) (a := p) (xs := cs.map V.ref) (fun i σ' H' => (∃ v3 v4, σ' = [some (.ref g), some (nv k), some (.ref p), v3, v4]) ∧ Same H1 H' ∧ ∀ c ∈ fam.take i, ¬ ∃ p, CP n L (fun v => c.getD v 0) k p)
      ⟨⟨none, none, rfl⟩, Same.refl _, by simp⟩ (fun _ _ _ _ z => SqL.of (z.2.1 _ _ ep)) ?_ ?_
    · rintro i x σ' H2 hx ⟨⟨v3, v4, rfl⟩, s2, hno⟩
      obtain ⟨ca, hca, rfl⟩ := refs_inv hx
      obtain ⟨c, hc, ec⟩ := hcs.get hca
      have hm := List.mem_of_getElem? hc
      have s12 := s1.trans s2
      refine ⟨_, rfl, _, rfl, _, rfl, g, ca, n, k, es, L, c, rfl, hg0.mono s12, gr, by omega, b2, b3, (combos_all ok).2.2.2, s2 _ _ ec, cok.len c hm, cok.lt c hm, fun H3 s3 hn => ?_, fun H3 r pa s3 r0 er cp => ?_⟩
      · refine ⟨_, rfl, _, rfl, ?_⟩
        refine iteF ⟨⟨_, _, rfl⟩, s2.trans s3, fun c' hc' => ?_⟩
        rw [take_snoc hc] at hc'
        rcases List.mem_append.mp hc' with h | h
        · exact hno c' h
        · rw [List.mem_singleton.mp h]; exact hn
      · refine ⟨_, rfl, _, rfl, ?_⟩
        refine iteT ?_
        refine ⟨_, rfl, by show 2 ≤ sizeLine; decide, fun t ht => ?_⟩
        have nrt : r ≠ t := ne_of_none er ht
        have s13 := s12.trans s3
        exact q1 _ t r pa (s13.trans (Same.new ht)) (s13.free ht) (s12.free r0) nrt.symm upd_same ((upd_ne nrt).trans er) cp.id
    · rintro σ' H2 ⟨⟨v3, v4, rfl⟩, s2, hno⟩
      rw [List.length_map, hcs.length, List.take_length] at hno
      refine ⟨_, rfl, by show 2 ≤ sizeLine; decide, fun t ht => ?_⟩
      have s12 := s1.trans s2
      have npt : p ≠ t := ne_of_none (s2 _ _ ep) ht
      have s2t := s2.trans (Same.new (o := .tup [.str "paper", .ref p]) ht)
      exact q2 _ t p cs fam (s1.trans s2t) (s12.free ht) p0 npt.symm upd_same ⟨s2t _ _ ep, hcs.mono s2t, np, cok, cov, lf, hno⟩
def sp_refuses_path (C : Addr) : Sp := fun vs H Q _ => ∃ (g q : Addr) (n k : Nat) (es : List (Nat × Nat)) (L : Rows) (cs : List Addr) (fam : List (List Nat)), vs = [.ref g, nv k, .ref q] ∧ GraphAt C H g n es L ∧ GR n L ∧ okNK n k = true ∧ Paper H n L k q cs fam ∧
  ∀ H', Same H H' → Q (.bl true) H'
theorem o_refuses_path {f : Addr} {fd : FuncData} (F : FnP K "refuses_path" "refuses_path" s_refuses_path f fd) (hm : mg "refuses_path" = some (.ref f)) (T : Tx mg) (D_check_number : Own P w K mg base 2 "check_number" sp_check_number) (D_is_separating : Own P w K mg base 4 "is_separating" sp_is_separating) (D_colourful_path : Own P w K mg base 5 "colourful_path" (sp_colourful_path C)) (Y : Gx K mg C) : Own P w K mg base 6 "refuses_path" (sp_refuses_path C) := by
  have sc : FnScope ["graph", "k", "family", "colouring"] ["graph", "k", "family"] (defScope s_refuses_path) := ⟨rfl, rfl, rfl, by decide +kernel, rfl, by decide +kernel, by decide +kernel⟩
  refine own_ok F hm sc (fun _ _ _ _ _ _ us hl => match us, hl with | [_, _, _], _ => rfl) (fun vs H Q E h => ?_) (fun cdv A outer s H vs Q E hr h => ?_)
  · obtain ⟨g, q, n, k, es, L, cs, fam, rfl, _⟩ := h; rfl
  · obtain ⟨g, q, n, k, es, L, cs, fam, rfl, hg, gr, ok, pp, q1⟩ := h
    have hu := hu_of hr
    refine ⟨_, (pss_cons (ps_expr (pe_own D_check_number (hr.mono (by decide)) (by rfl) (pa_cons (pv 1) (pa_cons pe_int (pa_cons (pe_kint T.longest rfl) pa_nil))))) 
      (pss_cons (ps_if (pt_not (pt_val (pe_own D_is_separating (hr.mono (by decide)) (by rfl) (pa_cons (pe_fld (pv 0) rfl) (pa_cons (pv 1) (pa_cons (pv 2) pa_nil)))))) (pss_one (ps_ret pe_bl)) pss_nil) 
      (pss_cons (ps_for PassesOwn.never rfl (pi_list (pv 2)) (pg_name (i := 3) sc.nd rfl (Or.inl rfl)) (pss_one (ps_if (pt_cmp (pc_notN (pe_own D_colourful_path (hr.mono (by decide)) (by rfl) (pa_cons (pv 0) (pa_cons (pv 3) (pa_cons (pv 1) pa_nil)))))) (pss_one (ps_ret pe_bl)) pss_nil))) 
      (pss_one (ps_ret pe_bl))))), ?_⟩
    obtain ⟨b1, b2, b3⟩ := okNK_bounds ok
    have hg0 := hg
    obtain ⟨dx, e, l, eas, las, g1, g2, g3, g4, g5⟩ := hg
    refine ⟨_, rfl, _, _, _, rfl, by omega, by omega, ?_⟩
    refine ⟨_, rfl, g, C, dx, _, _, rfl, g1, Y.cl, Y.nn, gfs_nodes n e l, _, rfl, _, rfl, n, k, q, cs, fam, rfl, ok, pp.at_, pp.cols, pp.ok, pp.cov, fun H1 s1 => ⟨true, rfl, ?_⟩⟩
    refine iteF ?_
    refine ⟨_, rfl, q, rfl, ⟨_, SqL.of (s1 _ _ pp.at_)⟩, ?_⟩
    refine for_list (K := K) (a := q) (xs := cs.map V.ref) (fun i σ' H' => (∃ v3, σ' = [some (.ref g), some (nv k), some (.ref q), v3]) ∧ Same H H') ⟨⟨none, rfl⟩, s1⟩ (fun _ _ _ _ z => SqL.of (z.2 _ _ pp.at_)) ?_ ?_
    · rintro i x σ' H2 hx ⟨⟨v3, rfl⟩, s2⟩
      obtain ⟨ca, hca, rfl⟩ := refs_inv hx
      obtain ⟨c, hc, ec⟩ := pp.cols.get hca
      have hm := List.mem_of_getElem? hc
      refine ⟨_, rfl, _, rfl, _, rfl, g, ca, n, k, es, L, c, rfl, hg0.mono s2, gr, by omega, b2, b3, (combos_all ok).2.2.2, s2 _ _ ec, pp.ok.len c hm, pp.ok.lt c hm, fun H3 s3 hn => ?_, fun H3 r pa s3 r0 er cp => ?_⟩
      · exact ⟨_, rfl, iteF ⟨⟨_, rfl⟩, s2.trans s3⟩⟩
      · exact absurd ⟨pa, cp⟩ (pp.no c hm)
    · rintro σ' H2 ⟨⟨v3, rfl⟩, s2⟩
      exact q1 _ s2
end
end K53
namespace K53
/-! ### edges and rows -/
def LexLt (p q : Nat × Nat) : Prop := p.1 < q.1 ∨ p.1 = q.1 ∧ p.2 < q.2
structure EOk (n : Nat) (es : List (Nat × Nat)) : Prop where
  lt : ∀ e ∈ es, e.1 < e.2 ∧ e.2 < n
  srt : es.Pairwise LexLt
theorem LexLt.irrefl {p : Nat × Nat} (h : LexLt p p) : False := by rcases h with h | h <;> omega
theorem EOk.nd {n : Nat} {es : List (Nat × Nat)} (h : EOk n es) : es.Nodup := by
  refine List.Pairwise.imp ?_ h.srt
  intro a b hab e
  subst e
  exact hab.irrefl
def nb1 (v : Nat) (e : Nat × Nat) : Option Nat := if e.1 = v then some e.2 else if e.2 = v then some e.1 else none
def nbr (es : List (Nat × Nat)) (v : Nat) : List Nat := es.filterMap (nb1 v)
theorem nbr_snoc (es : List (Nat × Nat)) (e : Nat × Nat) (v : Nat) : nbr (es ++ [e]) v = nbr es v ++ (nb1 v e).toList := by
  unfold nbr
  rw [List.filterMap_append]
  cases h : nb1 v e with
  | none => simp [List.filterMap_cons, h]
  | some x => simp [List.filterMap_cons, h]
theorem nb1_some {v x : Nat} {e : Nat × Nat} (h : nb1 v e = some x) : e = (v, x) ∨ e = (x, v) := by
  unfold nb1 at h
  split at h
  · rename_i h1; cases h; exact .inl (by rw [← h1])
  · split at h
    · rename_i h2; cases h; exact .inr (by rw [← h2])
    · cases h
theorem mem_nbr {es : List (Nat × Nat)} {v x : Nat} (h : ∀ e ∈ es, e.1 < e.2) : x ∈ nbr es v ↔ (v, x) ∈ es ∨ (x, v) ∈ es := by
  unfold nbr
  rw [List.mem_filterMap]
  constructor
  · rintro ⟨e, he, hx⟩
    rcases nb1_some hx with rfl | rfl
    · exact .inl he
    · exact .inr he
  · rintro (he | he)
    · exact ⟨_, he, by unfold nb1; rw [if_pos rfl]⟩
    · have := h _ he
      refine ⟨_, he, ?_⟩
      unfold nb1
      rw [if_neg (by simp at this ⊢; omega), if_pos rfl]
theorem nbr_nd {v : Nat} : ∀ {es : List (Nat × Nat)}, (∀ e ∈ es, e.1 < e.2) → es.Nodup → (nbr es v).Nodup
  | [], _, _ => List.nodup_nil
  | e :: r, h, nd => by
    obtain ⟨h1, h2⟩ := List.nodup_cons.mp nd
    have hr : ∀ e ∈ r, e.1 < e.2 := fun x hx => h x (List.mem_cons_of_mem _ hx)
    have ih := nbr_nd (v := v) hr h2
    have he := h e (by simp)
    unfold nbr at ih ⊢
    rw [List.filterMap_cons]
    cases hx : nb1 v e with
    | none => exact ih
    | some x =>
      refine List.nodup_cons.mpr ⟨fun hm => ?_, ih⟩
      rcases (mem_nbr hr).mp hm with h3 | h3 <;> rcases nb1_some hx with rfl | rfl
      · exact h1 h3
      · have := hr _ h3; simp at he this; omega
      · have := hr _ h3; simp at he this; omega
      · exact h1 h3
def srt (l : List Nat) : List Nat := l.mergeSort (fun a b => decide (a ≤ b))
theorem srt_perm (l : List Nat) : (srt l).Perm l := List.mergeSort_perm _ _
theorem srt_le (l : List Nat) : (srt l).Pairwise (· ≤ ·) :=
  (List.pairwise_mergeSort (le := fun a b : Nat => decide (a ≤ b)) (fun a b c h1 h2 => by simp at *; omega) (fun a b => by simp; omega) l).imp fun h => of_decide_eq_true h
theorem sorted_unique : ∀ {a b : List Int}, a.Perm b → a.Pairwise (· ≤ ·) → b.Pairwise (· ≤ ·) → a = b
  | [], b, p, _, _ => (List.Perm.nil_eq p)
  | x :: r, [], p, _, _ => absurd p.length_eq (by simp)
  | x :: r, y :: s, p, ha, hb => by
    obtain ⟨h1, h2⟩ := List.pairwise_cons.mp ha
    obtain ⟨h3, h4⟩ := List.pairwise_cons.mp hb
    have e : x = y := by
      have hx : x ∈ y :: s := p.mem_iff.mp (by simp)
      have hy : y ∈ x :: r := p.mem_iff.mpr (by simp)
      rcases List.mem_cons.mp hx with h | h
      · exact h
      · rcases List.mem_cons.mp hy with h' | h'
        · exact h'.symm
        · have := h3 x h; have := h1 y h'; omega
    subst e
    rw [sorted_unique ((List.perm_cons x).mp p) h2 h4]
theorem srt_ints {l : List Nat} {ns : List Int} (p : ns.Perm (l.map fun x : Nat => (x : Int))) (h : ns.Pairwise (· ≤ ·)) : ns = (srt l).map fun x : Nat => (x : Int) := by
  refine sorted_unique (p.trans ((srt_perm l).map _).symm) h ?_
  rw [List.pairwise_map]
  exact (srt_le l).imp fun h => by omega
def linksOf (n : Nat) (es : List (Nat × Nat)) : Rows := (List.range n).map fun v => srt (nbr es v)
theorem row_links {n : Nat} {es : List (Nat × Nat)} {v : Nat} : row (linksOf n es) v = if v < n then srt (nbr es v) else [] := by
  unfold row linksOf
  rw [List.getD_eq_getElem?_getD, List.getElem?_map]
  by_cases h : v < n
  · rw [if_pos h, List.getElem?_range h]; rfl
  · rw [if_neg h, List.getElem?_eq_none (by simp; omega)]; rfl
theorem adj_links {n : Nat} {es : List (Nat × Nat)} (h : EOk n es) {u v : Nat} : Adj (linksOf n es) u v ↔ (u, v) ∈ es ∨ (v, u) ∈ es := by
  unfold Adj
  rw [row_links]
  by_cases hu : u < n
  · rw [if_pos hu, (srt_perm _).mem_iff, mem_nbr fun e he => (h.lt e he).1]
  · rw [if_neg hu]
    refine ⟨fun z => (by cases z), fun z => ?_⟩
    rcases z with z | z
    · have := h.lt _ z; simp at this; omega
    · have := h.lt _ z; simp at this; omega
theorem links_ok {n : Nat} {es : List (Nat × Nat)} (h : EOk n es) : GOk n (linksOf n es) where
  len := by unfold linksOf; simp
  bnd := fun u v a => by
    rcases (adj_links h).mp a with z | z
    · exact (h.lt _ z).2
    · have := h.lt _ z; simp at this; omega
  sym := fun u v a => (adj_links h).mpr ((adj_links h).mp a).symm
theorem links_nd {n : Nat} {es : List (Nat × Nat)} (h : EOk n es) (v : Nat) : (row (linksOf n es) v).Nodup := by
  rw [row_links]
  split
  · exact (srt_perm _).nodup_iff.mpr (nbr_nd (fun e he => (h.lt e he).1) h.nd)
  · exact List.nodup_nil
end K53
namespace K53
open PySem PySem.Spec PyProof.Rows L2
theorem links_gr {n : Nat} {es : List (Nat × Nat)} (h : EOk n es) : GR n (linksOf n es) := ⟨links_ok h, links_nd h⟩
theorem gp2 (n : Nat) (e : Addr) : putF "edges" (.ref e) [(("nodes" : Str), nv n)] = [(("nodes" : Str), nv n), (("edges" : Str), V.ref e)] := by
  show (if ("nodes" : Str) = "edges" then _ else _) = _
  rw [if_neg (by decide +kernel)]; rfl
theorem gp3 (n : Nat) (e l : Addr) : putF "links" (.ref l) [(("nodes" : Str), nv n), (("edges" : Str), V.ref e)] = gfs n e l := by
  show (if ("nodes" : Str) = "links" then _ else (("nodes" : Str), nv n) :: (if ("edges" : Str) = "links" then _ else _)) = _
  rw [if_neg (by decide +kernel), if_neg (by decide +kernel)]; rfl
theorem gp4 (n : Nat) (e l l' : Addr) : putF "links" (.ref l') (gfs n e l) = gfs n e l' := by
  show (if ("nodes" : Str) = "links" then _ else (("nodes" : Str), nv n) :: (if ("edges" : Str) = "links" then _ else (("edges" : Str), V.ref e) :: (if ("links" : Str) = "links" then (("links" : Str), V.ref l') :: [] else _))) = _
  rw [if_neg (by decide +kernel), if_neg (by decide +kernel), if_pos rfl]; rfl
theorem refs_of {F : Nat → Addr → Prop} {ys : List V} (h : ∀ (i : Nat) (y : V), ys[i]? = some y → ∃ a, y = .ref a ∧ F i a) : ∃ as : List Addr, ys = as.map V.ref ∧ ∀ i a, as[i]? = some a → F i a := by
  induction ys generalizing F with
  | nil => exact ⟨[], rfl, fun i a h => by simp at h⟩
  | cons y r ih =>
    obtain ⟨a, rfl, h0⟩ := h 0 y rfl
    obtain ⟨as, e, hf⟩ := ih (F := fun i a => F (i + 1) a) fun i y hy => h (i + 1) y (by simpa using hy)
    refine ⟨a :: as, by rw [e]; rfl, fun i b hb => ?_⟩
    cases i with
    | zero => simp at hb; rw [← hb]; exact h0
    | succ i => exact hf i b (by simpa using hb)
/-- [sorted(row) for row in rows] -/
theorem lc_sorted {K : PySem.W.Frag} {a : Addr} {las : List Addr} {rows : Nat → List Nat} {vs : List Nat} {j : Nat} {σ : L2.St} {H1 : Hp} {D : Addr} {Qd : Hp → Prop} (hw : ∀ x, wipe ((wipe σ vs).set j (some x)) vs = wipe σ vs) (hj : ∀ x, ((wipe σ vs).set j (some x))[j]? = some (some x))
    (hx : H1 a = some (.lst (las.map V.ref))) (hm : MemAt H1 las rows) (hl : las.length ≤ 100000) (hD : H1 D = none)
    (hd : ∀ (H : Hp) (las' : List Addr), Same H1 H → H D = some (.lst (las'.map V.ref)) → las'.length = las.length → D ∉ las' → (∀ i a, las'[i]? = some a → H a = some (.lst (nvs (srt (rows i))))) → Qd H) :
    ∃ W : Nat → Nat → Hp → Prop, (∃ m, W 0 m (upd H1 D (.lst []))) ∧ ∀ i m H, W i m H →
      ((Itl K a).stop i H ∧ Qd H) ∨ ((Itl K a).go i H ∧ ∃ Nx : Hp → Prop, (∀ H', Nx H' → ∃ m', m' < m ∧ W (i + 1) m' H') ∧ ∀ x H', (Itl K a).yld i H x H' → gName j x (wipe σ vs) H' fun σ2 H2 => wipe σ2 vs = wipe σ vs ∧ tYes σ2 H2 fun b H3 =>
        if b = true then (tCB (rSortedI K) (tCons (tVar j) tNil)) σ2 H3 fun y H4 => ∃ acc, H4 D = some (.lst acc) ∧ acc.length < sizeLine ∧ Nx (upd H4 D (.lst (acc ++ [y]))) else Nx H3) := by
  refine lc_map walk_list (fun i y H => ∃ b, y = .ref b ∧ b ≠ D ∧ H b = some (.lst (nvs (srt (rows i))))) (by rw [List.length_map]; exact hl) hD (fun H s => SqL.of (s _ _ hx)) (fun i y H H' ⟨b, e1, e2, e3⟩ k => ⟨b, e1, e2, k b _ e2 e3⟩) ySame_at ?_ ?_
  · rintro i x H H' Q' hi s ⟨ys, eD⟩ ⟨rfl, hxi⟩ kk
    obtain ⟨b, hb, rfl⟩ := refs_inv hxi
    refine ⟨hw _, ?_⟩
    have eb := s _ _ (hm i b hb)
    refine ⟨_, hj _, b, (rows i).map fun x : Nat => (x : Int), rfl, by rw [← nvs_ints]; exact SqL.of eb, fun ns' p hp hs hf => ?_⟩
    rw [srt_ints hp hs]
    refine kk _ _ (Same.new hf) ⟨p, rfl, fun z => ?_, by rw [upd_same, ← nvs_ints]⟩
    rw [z, eD] at hf; cases hf
  · intro H ys s eD l r
    obtain ⟨as, rfl, hf⟩ := refs_of r
    rw [List.length_map, List.length_map] at l
    exact hd H as s eD l (fun z => by
      obtain ⟨i, hi, e⟩ := List.getElem_of_mem z
      exact (hf i _ (List.getElem?_eq_getElem hi)).1 e) fun i a h => (hf i a h).2
theorem lex_no {u v : Nat} {p1 p2 : Int} (h : p1 < u ∨ p1 = u ∧ p2 < v) : Ob.lexAt (fun j => decide (([(u : Int), (v : Int)] : List Int).getD j 0 = ([p1, p2] : List Int).getD j 0)) (fun j => decide (([(u : Int), (v : Int)] : List Int).getD j 0 ≤ ([p1, p2] : List Int).getD j 0)) (decide (([(u : Int), (v : Int)] : List Int).length ≤ ([p1, p2] : List Int).length)) 0 (min ([(u : Int), (v : Int)] : List Int).length ([p1, p2] : List Int).length) = false := by
  show Ob.lexAt _ _ _ 0 2 = false
  rw [Ob.lexAt_succ, Ob.lexAt_succ, Ob.lexAt_zero]
  simp only [List.getD_cons_zero, List.getD_cons_succ, decide_eq_true_eq]
  by_cases e : (u : Int) = p1
  · have e2 : ¬ (v : Int) = p2 := by omega
    rw [if_pos e, if_neg e2]
    exact decide_eq_false (by omega)
  · rw [if_neg e]
    exact decide_eq_false (by omega)
section
variable {P : Program} {w : World} {K : PySem.W.Frag} {mg : Str → Option Value} {base : Heap} {C : Addr}
def sp_check_edges : Sp := fun vs H Q _ => ∃ (n : Nat) (a : Addr) (eas : List Addr) (es : List (Nat × Nat)), vs = [nv n, .ref a] ∧ n ≤ 40 ∧ H a = some (.lst (eas.map V.ref)) ∧ PrsAt H eas es ∧ EOk n es ∧ ∀ H', Same H H' → Q .non H'
theorem o_check_edges {f : Addr} {fd : FuncData} (F : FnP K "check_edges" "check_edges" s_check_edges f fd) (hm : mg "check_edges" = some (.ref f)) (T : Tx mg) (D_is_integer : Own P w K mg base 1 "is_integer" sp_is_integer) (D_is_index : Own P w K mg base 2 "is_index" sp_is_index)  : Own P w K mg base 3 "check_edges" sp_check_edges := by
  have sc : FnScope ["nodes", "edges", "last", "edge"] ["nodes", "edges"] (defScope s_check_edges) := ⟨rfl, rfl, rfl, by decide +kernel, rfl, by decide +kernel, by decide +kernel⟩
  refine own_ok F hm sc (fun _ _ _ _ _ _ us hl => match us, hl with | [_, _], _ => rfl) (fun vs H Q E h => ?_) (fun cdv A outer s H vs Q E hr h => ?_)
  · obtain ⟨n, a, eas, es, rfl, _⟩ := h; rfl
  · obtain ⟨n, a, eas, es, rfl, hn, ha, hp, eo, q⟩ := h
    have hu := hu_of hr
    refine ⟨_, (pss_cons (ps_if (PW.pt (pw_or (pt_not (pt_val (pe_own D_is_integer (hr.mono (by decide)) (by rfl) (pa_cons (pv 0) pa_nil)))) (pw_or1 (pt_not (pt_chain op_le op_le pe_int (pv 0) (pe_kint T.most rfl)))))) (pss_one ps_never) pss_nil) 
      (pss_cons (ps_if (pt_not (pt_val (pe_callB call_isi (by rfl) T.isi (by decide +kernel) (pa_cons (pv 1) (pa_cons (pe_bltn (v := .ty "list") (by rfl) T.list (by decide +kernel) rfl) pa_nil))))) (pss_one ps_never) pss_nil) 
      (pss_cons (ps_set (i := 2) sc.nd rfl (Or.inl rfl) (pe_tup (pa_cons (pe_un un_neg pe_int) (pa_cons (pe_un un_neg pe_int) pa_nil)))) 
      (pss_one (ps_for PassesOwn.never rfl (pi_list (pv 1)) (pg_name (i := 3) sc.nd rfl (Or.inl rfl)) (pss_cons (ps_if (PW.pt (pw_or (pt_not (pt_val (pe_callB call_isi (by rfl) T.isi (by decide +kernel) (pa_cons (pv 3) (pa_cons (pe_bltn (v := .ty "tuple") (by rfl) T.tuple (by decide +kernel) rfl) pa_nil))))) (pw_or1 (pt_cmpR op_ne (pe_callB call_len_seq (by rfl) T.len (by decide +kernel) (pa_cons (pv 3) pa_nil)) pe_int (nomark _))))) (pss_one ps_never) pss_nil) (pss_cons (ps_if (PW.pt (pw_or (pt_not (pt_val (pe_own D_is_index (hr.mono (by decide)) (by rfl) (pa_cons (pe_ix ix_tup (pv 3) pe_int (fun _ _ => rfl)) (pa_cons (pv 0) pa_nil))))) (pw_or1 (pt_not (pt_val (pe_own D_is_index (hr.mono (by decide)) (by rfl) (pa_cons (pe_ix ix_tup (pv 3) pe_int (fun _ _ => rfl)) (pa_cons (pv 0) pa_nil)))))))) (pss_one ps_never) pss_nil) (pss_cons (ps_if (PW.pt (pw_or (pt_cmpR op_ge (pe_ix ix_tup (pv 3) pe_int (fun _ _ => rfl)) (pe_ix ix_tup (pv 3) pe_int (fun _ _ => rfl)) (nomark _)) (pw_or1 (pt_cmpR (op_leT (Nat.lt_of_succ_lt hu)) (pv 3) (pv 2) (nomark _))))) (pss_one ps_never) pss_nil) (pss_one (ps_set (i := 2) sc.nd rfl (Or.inl rfl) (pv 3))))))))))), ?_⟩
    refine ⟨_, rfl, _, rfl, true, rfl, ?_⟩
    refine iteF ?_
    refine ⟨_, rfl, _, _, rfl, rfl, true, bT (by omega), ?_⟩
    refine ⟨_, _, rfl, rfl, true, bT (by omega), ?_⟩
    refine iteF ?_
    refine ⟨_, rfl, _, _, _, _, true, rfl, .ty _, .base (.lst ha), kit_ty (by decide +kernel), true, rfl, ?_⟩
    refine iteF ?_
    refine ⟨_, rfl, _, rfl, by show 2 ≤ sizeLine; decide, fun t0 ht0 => ?_⟩
    refine updI fun H1 e1 k1 => ?_
    have s1 : Same H H1 := Same.step ht0 k1
    refine ⟨_, rfl, a, rfl, ⟨_, SqL.of (s1 _ _ ha)⟩, ?_⟩
    refine for_list (K := K) (a := a) (xs := eas.map V.ref) (fun i σ' H' => ∃ (t : Addr) (p1 p2 : Int), (∃ v3, σ' = [some (nv n), some (.ref a), some (.ref t), v3]) ∧ H' = H1 ∧ H1 t = some (.tup [.int p1, .int p2]) ∧ ∀ j e, i ≤ j → es[j]? = some e → p1 < e.1 ∨ p1 = e.1 ∧ p2 < e.2)
      ⟨t0, -1, -1, ⟨none, rfl⟩, rfl, e1, fun j e _ _ => .inl (by omega)⟩ (fun _ _ _ _ z => by obtain ⟨_, _, _, _, rfl, _⟩ := z; exact SqL.of (s1 _ _ ha)) ?_ ?_
    · rintro i x σ' H2 hx ⟨t, p1, p2, ⟨v3, rfl⟩, rfl, et, hl⟩
      obtain ⟨ea, hea, rfl⟩ := refs_inv hx
      obtain ⟨⟨u, v⟩, hes, ee⟩ := hp.get hea
      have ee := s1 _ _ ee
      have huv := eo.lt _ (List.mem_of_getElem? hes)
      have huv1 : u < v := huv.1
      have huv2 : v < n := huv.2
      have hlt := hl i _ (Nat.le_refl _) hes
      have hlt' : p1 < (u : Int) ∨ p1 = (u : Int) ∧ p2 < (v : Int) := hlt
      refine ⟨_, rfl, _, _, _, _, true, rfl, .ty _, .base (.tup ee), kit_ty (by decide +kernel), true, rfl, ?_⟩
      refine iteF ?_
      refine ⟨_, rfl, ea, _, rfl, .inr (SqT.of ee), rfl, false, rfl, ?_⟩
      refine iteF ?_
      refine ⟨_, rfl, _, _, _, nv u, rfl, rfl, SqT.of ee, atI_nat (j := 0) rfl, _, rfl, _, _, rfl, by omega, by omega, true, rfl, ?_⟩
      refine iteF ?_
      refine ⟨_, rfl, _, _, _, nv v, rfl, rfl, SqT.of ee, atI_nat (j := 1) rfl, _, rfl, _, _, rfl, by omega, by omega, true, rfl, ?_⟩
      refine iteF ?_
      refine ⟨_, rfl, _, _, _, nv u, rfl, rfl, SqT.of ee, atI_nat (j := 0) rfl, _, rfl, _, _, _, nv v, rfl, rfl, SqT.of ee, atI_nat (j := 1) rfl, _, _, rfl, rfl, false, bF (by omega), ?_⟩
      refine iteF ?_
      refine ⟨_, rfl, _, rfl, _, _, [(u : Int), (v : Int)], [p1, p2], rfl, rfl, SqT.of ee, SqT.of et, false, congrArg V.bl (lex_no hlt'), ?_⟩
      refine iteF ?_
      refine ⟨_, rfl, ?_⟩
      refine ⟨ea, (u : Int), (v : Int), ⟨_, rfl⟩, rfl, ee, fun j e hj he => ?_⟩
      have hlex := List.pairwise_iff_getElem.mp eo.srt i j (List.getElem?_eq_some_iff.mp hes).1 (List.getElem?_eq_some_iff.mp he).1 (by omega)
      rw [(List.getElem?_eq_some_iff.mp hes).2, (List.getElem?_eq_some_iff.mp he).2] at hlex
      rcases hlex with h | h
      · have h' : u < e.1 := h
        exact .inl (by omega)
      · have h1 : u = e.1 := h.1
        have h2 : v < e.2 := h.2
        exact .inr ⟨by omega, by omega⟩
    · rintro σ' H2 ⟨t, p1, p2, ⟨v3, rfl⟩, rfl, _⟩
      exact q _ s1
end
end K53
namespace K53
open PySem PySem.Spec PyProof.Rows L2
/-- a method that keeps its promise -/
def OwnM (P : Program) (w : World) (K : PySem.W.Frag) (mg : Str → Option Value) (base : Heap) (k : Nat) (f : Addr) (sp : Sp) : Prop :=
  ∃ (fd : FuncData) (ps : List Str), Binds K fd ps [] ∧ FnOk P w K mg base CX0 k f fd ps sp
theorem ownM_ok {P : Program} {w : World} {K : PySem.W.Frag} {mg : Str → Option Value} {base : Heap} {k : Nat} {sp : Sp} {x q : Str} {st : Stmt} {f : Addr} {fd : FuncData} {N ps : List Str} (F : FnP K x q st f fd) (S : FnScope N ps (defScope st))
    (hb : ∀ (kV doc pm : Value) (an : Option Addr) (cdv ct : Value) (us : List Value), us.length = ps.length → bindArgs (PySem.W.fnOf x q (defArgs st) (defBody st) (defScope st) .none kV doc pm an cdv ct) ⟨us, []⟩ = pure (ps.zip us))
    (len : ∀ vs H Q E, sp vs H Q E → vs.length = ps.length)
    (body : ∀ (cdv : Value) (A : Around) (outer : List Env) (s : Shared) (H : Hp) (vs : List V) (Q : VK) (E : XK), Room k (A.deeper (envOfC q (defScope st) s.heap.objs.size f cdv)) → sp vs H Q E →
      ∃ t, PSs (cxOf CX0 P w K mg base N q (defScope st) f cdv A outer s H E).nox (defBody st) t ∧ t { nx := fun _ H' => Q .non H', rt := Q } (start N vs) H) : OwnM P w K mg base (k + 1) f sp :=
  ⟨fd, ps, F.bindsN hb, F.ok S len fun cdv A outer s H vs Q E hr h => by
    obtain ⟨t, h1, h2⟩ := body cdv A outer s H vs Q E hr h
    exact ⟨t, h1.nox, h2⟩⟩
section
variable {X : Cx} {x : Str} {p pos apos : Pos} {k : Nat} {sp : Sp} {e o : Expr} {es : List Expr} {ta : TE} {t : TA} {C f : Addr}
theorem pe_mkOwn (D : OwnM X.prog X.w X.K X.mg X.base k f sp) (M : Mk X.K C f) (hm : X.mg x = some (.ref C)) (hr : Room (k + 1) X.A) (hg : Gl X x) (ha : PA X (e :: es) t)
    (hdb : (x == ("__debug__" : Str)) = false := by decide) (he : starEach (e :: es) X.env = (false, eval e X.env) :: starEach es X.env := by rfl) (hpl : (backTo pos (starEach es X.env)).any (·.1) = false := by rfl) :
    PE X (.Call (.Name x p) (e :: es) [] pos) (tMake C sp [] E0 t) := by
  obtain ⟨fd, ps, hb, F⟩ := D
  exact pe_make M F hr hg hm hb .nil pass0 ha hdb he hpl
theorem pe_mtOwn {m : Str} {pl : Sem Bool} (D : OwnM X.prog X.w X.K X.mg X.base k f sp) (c : Cls X.K C) (hm : Meth X.K C m f) (hr : Room k X.A) (he : PE X o ta) (ha : PA X (e :: es) t)
    (hst : starEach (e :: es) X.env = (false, eval e X.env) :: starEach es X.env := by rfl) (hpl : (backTo pos (starEach es X.env)).any (·.1) = false := by rfl)
    (ht : eval (.Call (.Attribute o m apos) (e :: es) [] pos) X.env = (do
      let ov ← eval o X.env
      standAt apos.atName
      let (f, first) ← holding [ov] (getMethod ov m pl)
      callWith pos f first (backTo pos (starEach (e :: es) X.env)) (backToKw pos (keywordEach [] X.env))) := by rfl) :
    PE X (.Call (.Attribute o m apos) (e :: es) [] pos) (tMeth C m sp [] E0 ta t) := by
  obtain ⟨fd, ps, hb, F⟩ := D
  exact pe_meth he c hm F hr hb .nil pass0 ha hst hpl ht
end
theorem rows_step {es : List (Nat × Nat)} {i u v : Nat} (he : es[i]? = some (u, v)) (uv : u < v) (w : Nat) :
    (if w = v then (if v = u then nbr (es.take i) u ++ [v] else nbr (es.take i) v) ++ [u] else if w = u then nbr (es.take i) u ++ [v] else nbr (es.take i) w) = nbr (es.take (i + 1)) w := by
  rw [take_snoc he, nbr_snoc, if_neg (Nat.ne_of_gt uv)]
  unfold nb1
  by_cases h1 : w = v
  · subst h1
    rw [if_pos rfl, if_neg (Nat.ne_of_lt uv), if_pos rfl]; rfl
  · rw [if_neg h1]
    by_cases h2 : w = u
    · subst h2
      rw [if_pos rfl, if_pos rfl]; rfl
    · rw [if_neg h2, if_neg (fun z => h2 z.symm), if_neg (fun z => h1 z.symm)]
      simp
theorem cols_of {H : Hp} : ∀ {as : List Addr} {n : Nat} {f : Nat → List Nat}, as.length = n → (∀ i a, as[i]? = some a → H a = some (.lst (nvs (f i)))) → ColsAt H as ((List.range n).map f)
  | [], n, f, l, h => by subst l; exact .nil
  | a :: r, n, f, l, h => by
    subst l
    rw [List.length_cons, List.range_succ_eq_map, List.map_cons, List.map_map]
    exact .cons (h 0 a rfl) (cols_of (f := fun i => f (i + 1)) rfl fun i b hb => h (i + 1) b (by simpa using hb))
theorem nvs_app (a b : List Nat) : nvs (a ++ b) = nvs a ++ nvs b := List.map_append
theorem row_of_links {n v : Nat} {es : List (Nat × Nat)} (h : v < n) : row (linksOf n es) v = srt (nbr es v) := by rw [row_links, if_pos h]
/-- one edge more: what the two appends need and leave -/
theorem two_rows {H : Hp} {as : List Addr} {es : List (Nat × Nat)} {n i u v : Nat} (m : MemAt H as (nbr (es.take i))) (nd : as.Nodup) (al : as.length = n) (eo : EOk n es) (hes : es[i]? = some (u, v)) :
    ∃ a b, as[u]? = some a ∧ as[v]? = some b ∧ H a = some (.lst (nvs (nbr (es.take i) u))) ∧ ∀ H2 : Hp, H2 a = some (.lst (nvs (nbr (es.take i) u) ++ [nv v])) → (∀ x, x ≠ a → H2 x = H x) →
      H2 b = some (.lst (nvs (nbr (es.take i) v))) ∧ ∀ H3 : Hp, H3 b = some (.lst (nvs (nbr (es.take i) v) ++ [nv u])) → (∀ x, x ≠ b → H3 x = H2 x) → MemAt H3 as (nbr (es.take (i + 1))) := by
  have huv := eo.lt _ (List.mem_of_getElem? hes)
  have huv1 : u < v := huv.1
  have huv2 : v < n := huv.2
  have gu : as[u]? = some (as[u]'(by omega)) := List.getElem?_eq_getElem (by omega)
  have gv : as[v]? = some (as[v]'(by omega)) := List.getElem?_eq_getElem (by omega)
  have nab : (as[u]'(by omega)) ≠ (as[v]'(by omega)) := fun z => by
    have := nd_ix nd gu (gv.trans (congrArg some z.symm))
    omega
  refine ⟨_, _, gu, gv, m _ _ gu, fun H2 e2 k2 => ⟨by rw [k2 _ nab.symm]; exact m _ _ gv, fun H3 e3 k3 => ?_⟩⟩
  intro w a ha
  show H3 a = some (.lst (nvs (nbr (es.take (i + 1)) w)))
  rw [← rows_step hes huv1 w]
  by_cases hwv : w = v
  · subst hwv
    have : a = as[w] := by rw [gv] at ha; exact (Option.some.inj ha).symm
    rw [if_pos rfl, if_neg (Nat.ne_of_gt huv1), this, e3, nvs_app]; rfl
  · have nb : a ≠ as[v] := fun z => hwv (nd_ix nd ha (gv.trans (congrArg some z.symm)))
    rw [if_neg hwv, k3 a nb]
    by_cases hwu : w = u
    · subst hwu
      have : a = as[w] := by rw [gu] at ha; exact (Option.some.inj ha).symm
      rw [if_pos rfl, this, e2, nvs_app]; rfl
    · have na : a ≠ as[u] := fun z => hwu (nd_ix nd ha (gu.trans (congrArg some z.symm)))
      rw [if_neg hwu, k2 a na]
      exact m _ _ ha
section
variable {P : Program} {w : World} {K : PySem.W.Frag} {mg : Str → Option Value} {base : Heap} {C : Addr}
def sp_check_node (C : Addr) : Sp := fun vs H Q _ => ∃ (g : Addr) (n v : Nat) (es : List (Nat × Nat)) (L : Rows), vs = [.ref g, nv v] ∧ GraphAt C H g n es L ∧ v < n ∧ Q .non H
theorem o_check_node {f : Addr} {fd : FuncData} (F : FnP K "check_node" "check_node" s_check_node f fd) (hm : mg "check_node" = some (.ref f)) (T : Tx mg) (D_is_index : Own P w K mg base 2 "is_index" sp_is_index) (Y : Gx K mg C) : Own P w K mg base 3 "check_node" (sp_check_node C) := by
  have sc : FnScope ["graph", "v"] ["graph", "v"] (defScope s_check_node) := ⟨rfl, rfl, rfl, by decide +kernel, rfl, by decide +kernel, by decide +kernel⟩
  refine own_ok F hm sc (fun _ _ _ _ _ _ us hl => match us, hl with | [_, _], _ => rfl) (fun vs H Q E h => ?_) (fun cdv A outer s H vs Q E hr h => ?_)
  · obtain ⟨g, n, v, es, L, rfl, _⟩ := h; rfl
  · obtain ⟨g, n, v, es, L, rfl, hg, hv, q⟩ := h
    have hu := hu_of hr
    refine ⟨_, (pss_one (ps_if (pt_not (pt_val (pe_own D_is_index (hr.mono (by decide)) (by rfl) (pa_cons (pv 1) (pa_cons (pe_fld (pv 0) rfl) pa_nil))))) (pss_one ps_never) pss_nil)), ?_⟩
    obtain ⟨dx, e, l, eas, las, g1, g2, g3, g4, g5⟩ := hg
    refine ⟨_, rfl, _, rfl, g, C, dx, _, _, rfl, g1, Y.cl, Y.nn, gfs_nodes n e l, _, _, rfl, by omega, by omega, true, rfl, ?_⟩
    exact iteF q
def sp_Graph_neighbours (C : Addr) : Sp := fun vs H Q _ => ∃ (g : Addr) (n v : Nat) (es : List (Nat × Nat)) (L : Rows), vs = [.ref g, nv v] ∧ GraphAt C H g n es L ∧ L.length = n ∧ v < n ∧ ∀ p, H p = none → Q (.ref p) (upd H p (.lst (nvs (row L v))))
theorem o_Graph_neighbours {f : Addr} {fd : FuncData} (F : FnP K "neighbours" "Graph.neighbours" s_Graph_neighbours f fd) (T : Tx mg) (D_check_node : Own P w K mg base 3 "check_node" (sp_check_node C)) (Y : Gx K mg C) : OwnM P w K mg base 4 f (sp_Graph_neighbours C) := by
  have sc : FnScope ["self", "v"] ["self", "v"] (defScope s_Graph_neighbours) := ⟨rfl, rfl, rfl, by decide +kernel, rfl, by decide +kernel, by decide +kernel⟩
  refine ownM_ok F sc (fun _ _ _ _ _ _ us hl => match us, hl with | [_, _], _ => rfl) (fun vs H Q E h => ?_) (fun cdv A outer s H vs Q E hr h => ?_)
  · obtain ⟨g, n, v, es, L, rfl, _⟩ := h; rfl
  · obtain ⟨g, n, v, es, L, rfl, hg, hL, hv, q⟩ := h
    have hu := hu_of hr
    refine ⟨_, (pss_cons (ps_expr (pe_own D_check_node (hr.mono (by decide)) (by rfl) (pa_cons (pv 0) (pa_cons (pv 1) pa_nil)))) 
      (pss_one (ps_ret (pe_callTy call_list_of (by rfl) T.list (by decide +kernel) (pa_cons (pe_ix ix_list (pe_fld (pv 0) rfl) (pv 1) (fun _ _ => rfl)) pa_nil))))), ?_⟩
    have hg0 := hg
    obtain ⟨dx, e, l, eas, las, g1, g2, g3, g4, g5⟩ := hg
    refine ⟨_, rfl, _, rfl, g, n, v, es, L, rfl, hg0, hv, ?_⟩
    obtain ⟨ra, hra, era⟩ := g5.rowAt (v := v) (by omega)
    refine ⟨_, rfl, g, C, dx, _, _, rfl, g1, Y.cl, Y.nl, gfs_links n e l, _, rfl, _, _, _, _, rfl, rfl, SqL.of g4, atI_nat (refs_get hra), ra, _, rfl, .inl (SqL.of era), fun p hp => ?_⟩
    exact q p hp
def sp_Graph_init (C : Addr) : Sp := fun vs H Q _ => ∃ (g a dx : Addr) (n : Nat) (eas : List Addr) (es : List (Nat × Nat)), vs = [.ref g, nv n, .ref a] ∧ H g = some (.ins C dx []) ∧ n ≤ 40 ∧ H a = some (.lst (eas.map V.ref)) ∧ PrsAt H eas es ∧ EOk n es ∧
  ∀ H', (∀ b o, b ≠ g → H b = some o → H' b = some o) → GraphAt C H' g n es (linksOf n es) → Q .non H'
theorem o_Graph_init {f : Addr} {fd : FuncData} (F : FnP K "__init__" "Graph.__init__" s_Graph_init f fd) (T : Tx mg) (D_check_edges : Own P w K mg base 3 "check_edges" sp_check_edges) (Y : Gx K mg C) : OwnM P w K mg base 4 f (sp_Graph_init C) := by
  have sc : FnScope ["self", "nodes", "edges", "first", "second", "_", "row"] ["self", "nodes", "edges"] (defScope s_Graph_init) := ⟨rfl, rfl, rfl, by decide +kernel, rfl, by decide +kernel, by decide +kernel⟩
  refine ownM_ok F sc (fun _ _ _ _ _ _ us hl => match us, hl with | [_, _, _], _ => rfl) (fun vs H Q E h => ?_) (fun cdv A outer s H vs Q E hr h => ?_)
  · obtain ⟨g, a, dx, n, eas, es, rfl, _⟩ := h; rfl
  · obtain ⟨g, a, dx, n, eas, es, rfl, hg, hn, ha, hp, eo, q⟩ := h
    have hu := hu_of hr
    refine ⟨_, (pss_cons (ps_expr (pe_own D_check_edges (hr.mono (by decide)) (by rfl) (pa_cons (pv 1) (pa_cons (pv 2) pa_nil)))) 
      (pss_cons (ps_fld (pv 0) (pv 1) rfl) 
      (pss_cons (ps_fld (pv 0) (pe_callTy call_list_of (by rfl) T.list (by decide +kernel) (pa_cons (pv 2) pa_nil)) rfl) 
      (pss_cons (ps_fld (pv 0) (pe_lc (own := [("_", 5)]) (g := gName 5) (tt := tYes) rfl sc.nd (pi_range1 (by rfl) T.range (pa_cons (pv 1) pa_nil)) (blkOk_by (N := (["self", "nodes", "edges", "first", "second", "_", "row"] : List Str)) (sc := defScope s_Graph_init) (by decide +kernel)) (fun _ _ _ _ _ => (pg_name (i := 5) sc.nd rfl (Or.inl rfl))) (fun _ _ _ _ _ => pts_nil) (fun _ _ _ _ _ => (pe_lst pa_nil))) rfl) 
      (pss_cons (ps_for PassesOwn.never rfl (pi_list (pv 2)) (pg_tup rfl (pgs_cons (pg_name (i := 3) sc.nd rfl (Or.inl rfl)) (pgs_cons (pg_name (i := 4) sc.nd rfl (Or.inl rfl)) pgs_nil))) (pss_cons (ps_expr (pe_bm PySem.F.plainAttrs_list PySem.F.slot_list_append PySem.F.type_list_append mt_append (pe_ix ix_list (pe_fld (pv 0) rfl) (pv 3) (fun _ _ => rfl)) (pa_cons (pv 4) pa_nil))) (pss_one (ps_expr (pe_bm PySem.F.plainAttrs_list PySem.F.slot_list_append PySem.F.type_list_append mt_append (pe_ix ix_list (pe_fld (pv 0) rfl) (pv 4) (fun _ _ => rfl)) (pa_cons (pv 3) pa_nil)))))) 
      (pss_one (ps_fld (pv 0) (pe_lc (own := [("row", 6)]) (g := gName 6) (tt := tYes) rfl sc.nd (pi_list (pe_fld (pv 0) rfl)) (blkOk_by (N := (["self", "nodes", "edges", "first", "second", "_", "row"] : List Str)) (sc := defScope s_Graph_init) (by decide +kernel)) (fun _ _ _ _ _ => (pg_name (i := 6) sc.nd rfl (Or.inl rfl))) (fun _ _ _ _ _ => pts_nil) (fun _ _ _ _ _ => (pe_callB (cr_sortedIK K) (by rfl) T.sorted (by decide +kernel) (pa_cons (pv 6) pa_nil)))) rfl))))))), ?_⟩
    refine ⟨_, rfl, _, rfl, n, a, eas, es, rfl, hn, ha, hp, eo, fun H1 s1 => ?_⟩
    have nga : a ≠ g := fun z => by rw [z, hg] at ha; cases ha
    refine ⟨_, rfl, _, rfl, g, C, dx, _, rfl, s1 _ _ hg, Y.cl, Y.nn, by decide, ?_⟩
    refine updI fun H2 e2 k2 => ?_
    have e2 : H2 g = some (.ins C dx [(("nodes" : Str), nv n)]) := e2
    have b2 : ∀ b o, b ≠ g → H b = some o → H2 b = some o := fun b o hb h => by rw [k2 b hb]; exact s1 _ _ h
    refine ⟨_, rfl, a, _, rfl, .inl (SqL.of (b2 _ _ nga ha)), fun el hel => ?_⟩
    have nge : g ≠ el := ne_of_none e2 hel
    refine ⟨_, rfl, g, C, dx, _, rfl, (upd_ne nge).trans e2, Y.cl, Y.ne, by show 1 < 1000; decide, ?_⟩
    refine updI fun H3 e3 k3 => ?_
    rw [gp2] at e3
    have el3 : H3 el = some (.lst (eas.map V.ref)) := (k3 el nge.symm).trans upd_same
    have b3 : ∀ b o, b ≠ g → H b = some o → H3 b = some o := fun b o hb h => by
      have := b2 b o hb h
      rw [k3 b hb, upd_ne (ne_of_none this hel)]; exact this
    refine ⟨_, rfl, _, rfl, by omega, by omega, fun D hD => ?_⟩
    rw [Int.toNat_natCast]
    refine lc_emp (fun x => rfl) (by omega) hD ?_
    intro H4 as s4 eD al nd mm
    have ngD : g ≠ D := ne_of_none e3 hD
    refine ⟨_, rfl, g, C, dx, _, rfl, s4 _ _ e3, Y.cl, Y.nl, by show 2 < 1000; decide, ?_⟩
    refine updI fun H5 e5 k5 => ?_
    rw [gp3] at e5
    have b5 : ∀ b o, b ≠ g → H b = some o → H5 b = some o := fun b o hb h => by rw [k5 b hb]; exact s4 _ _ (b3 b o hb h)
    have el5 : H5 el = some (.lst (eas.map V.ref)) := (k5 el nge.symm).trans (s4 _ _ el3)
    have D5 : H5 D = some (.lst (as.map V.ref)) := (k5 D ngD.symm).trans eD
    have fr : ∀ x ∈ as, x ≠ g ∧ x ≠ D ∧ x ≠ el ∧ ∀ b o, b ≠ g → H b = some o → b ≠ x := fun x hx => by
      obtain ⟨h0, h1, _⟩ := mm x hx
      refine ⟨fun z => (by rw [z, e3] at h0; cases h0), h1, fun z => (by rw [z, el3] at h0; cases h0), fun b o hb h => ne_of_none (b3 b o hb h) h0⟩
    have m5 : MemAt H5 as (nbr (es.take 0)) := fun v x hx => by
      have hm := List.mem_of_getElem? hx
      rw [k5 x (fr x hm).1, (mm x hm).2.2]; rfl
    clear b2 b3 k2 k3 k5 e2 e3 eD el3
    refine ⟨_, rfl, a, rfl, ⟨_, SqL.of (b5 _ _ nga ha)⟩, ?_⟩
    refine for_list (K := K) (a := a) (xs := eas.map V.ref) (fun i σ' H' => (∃ v3 v4, σ' = [some (.ref g), some (nv n), some (.ref a), v3, v4, none, none]) ∧ (∀ b o, b ≠ g → H b = some o → H' b = some o) ∧ H' g = some (.ins C dx (gfs n el D)) ∧ H' el = some (.lst (eas.map V.ref)) ∧ H' D = some (.lst (as.map V.ref)) ∧ MemAt H' as (nbr (es.take i)))
      ⟨⟨none, none, rfl⟩, b5, e5, el5, D5, m5⟩ (fun _ _ _ _ z => SqL.of (z.2.1 _ _ nga ha)) ?_ ?_
    · rintro i x σ' H6 hx ⟨⟨v3, v4, rfl⟩, b6, g6, el6, D6, m6⟩
      obtain ⟨ea, hea, rfl⟩ := refs_inv hx
      obtain ⟨⟨u, v⟩, hes, ee⟩ := hp.get hea
      have nea : ea ≠ g := fun z => by rw [z, hg] at ee; cases ee
      have ee := b6 _ _ nea ee
      obtain ⟨r1, r2, hr1, hr2, er1, kk⟩ := two_rows m6 nd al eo hes
      refine ⟨ea, _, rfl, SqT.of ee, rfl, _, _, rfl, _, _, rfl, rfl, ?_⟩
      have f1 := fr r1 (List.mem_of_getElem? hr1)
      have f2 := fr r2 (List.mem_of_getElem? hr2)
      have rl : ∀ w, (nbr (es.take i) w).length < sizeLine := fun w => by
        have h1 : (nbr (es.take i) w).length ≤ n := nodup_le (nbr_nd (fun e he => (eo.lt e (List.mem_of_mem_take he)).1) (eo.nd.sublist (List.take_sublist _ _))) fun x hx => by
          rcases (mem_nbr (fun e he => (eo.lt e (List.mem_of_mem_take he)).1)).mp hx with h | h
          · exact (eo.lt _ (List.mem_of_mem_take h)).2
          · have := eo.lt _ (List.mem_of_mem_take h)
            simp at this; omega
        exact sz5 (by omega)
      refine ⟨_, rfl, g, C, dx, _, _, rfl, g6, Y.cl, Y.nl, gfs_links n el D, _, rfl, _, _, _, .ref r1, rfl, rfl, SqL.of D6, atI_nat (refs_get hr1), .inl ⟨rfl, _, SqL.of er1⟩, _, rfl, _, _, _, rfl, rfl, er1, by rw [nvs_len]; exact rl u, ?_⟩
      refine updI fun H7 e7 k7 => ?_
      obtain ⟨er2, kk⟩ := kk H7 e7 k7
      have g7 := (k7 g f1.1.symm).trans g6
      have D7 := (k7 D f1.2.1.symm).trans D6
      refine ⟨_, rfl, g, C, dx, _, _, rfl, g7, Y.cl, Y.nl, gfs_links n el D, _, rfl, _, _, _, .ref r2, rfl, rfl, SqL.of D7, atI_nat (refs_get hr2), .inl ⟨rfl, _, SqL.of er2⟩, _, rfl, _, _, _, rfl, rfl, er2, by rw [nvs_len]; exact rl v, ?_⟩
      refine updI fun H8 e8 k8 => ?_
      exact ⟨⟨_, _, rfl⟩, fun b o hb h => (k8 b (f2.2.2.2 b o hb h)).trans ((k7 b (f1.2.2.2 b o hb h)).trans (b6 b o hb h)), (k8 g f2.1.symm).trans g7, (k8 el f2.2.2.1.symm).trans ((k7 el f1.2.2.1.symm).trans el6), (k8 D f2.2.1.symm).trans D7, kk H8 e8 k8⟩
    rintro σ' H6 ⟨⟨v3, v4, rfl⟩, b6, g6, el6, D6, m6⟩
    rw [List.length_map, hp.length, List.take_length] at m6
    refine ⟨_, rfl, g, C, dx, _, _, rfl, g6, Y.cl, Y.nl, gfs_links n el D, D, rfl, ⟨_, SqL.of D6⟩, fun D2 hD2 => ?_⟩
    refine lc_sorted (fun x => rfl) (fun x => rfl) D6 m6 (by omega) hD2 ?_
    intro H7 las s7 e7 l7 n7 m7
    refine ⟨_, rfl, g, C, dx, _, rfl, s7 _ _ g6, Y.cl, Y.nl, by show 3 < 1000; decide, ?_⟩
    refine updI fun H8 e8 k8 => ?_
    rw [gp4] at e8
    have b8 : ∀ b o, b ≠ g → H b = some o → H8 b = some o := fun b o hb h => by rw [k8 b hb]; exact s7 _ _ (b6 b o hb h)
    have ngD2 : g ≠ D2 := ne_of_none g6 hD2
    have e8' : ∀ b, b ≠ g → ∀ o, H7 b = some o → H8 b = some o := fun b hb o h => by rw [k8 b hb]; exact h
    refine q H8 b8 ⟨dx, el, D2, eas, las, e8, e8' el nge.symm _ (s7 _ _ el6), Paired.mapP hp fun x p hx => b8 x _ (fun z => by rw [z, hg] at hx; cases hx) hx, e8' D2 ngD2.symm _ e7, ?_⟩
    refine cols_of (by rw [l7]; exact al) fun i x hx => e8' x (fun z => ?_) _ (m7 i x hx)
    have := m7 i x hx
    rw [z, s7 _ _ g6] at this; cases this
end
end K53
namespace K53
open PySem PySem.Spec PyProof.Rows L2
/-- the draws at d: the numbers and where we stand -/
def DrawsAt (H : Hp) (d p : Addr) : Prop := ∃ (ns : List Int) (i : Nat), H d = some (.lst [.ref p, .int (i : Int)]) ∧ H p = some (.lst (ns.map V.int)) ∧ ns.length ≤ 50000
theorem But.refl (D : Addr) (H : Hp) : But D H H := fun _ _ _ h => h
theorem But.trans {D : Addr} {H1 H2 H3 : Hp} (a : But D H1 H2) (b : But D H2 H3) : But D H1 H3 := fun x o h e => b x o h (a x o h e)
theorem But.tS {D : Addr} {H1 H2 H3 : Hp} (a : But D H1 H2) (b : Same H2 H3) : But D H1 H3 := fun x o h e => b x o (a x o h e)
section
variable {H H' : Hp} {d p b : Addr}
theorem DrawsAt.some (h : DrawsAt H d p) : ∃ o, H d = Option.some o := by obtain ⟨ns, i, e, _⟩ := h; exact ⟨_, e⟩
theorem DrawsAt.ne_new (h : DrawsAt H d p) (hb : H b = none) : b ≠ d := fun z => by obtain ⟨o, e⟩ := h.some; rw [z, e] at hb; cases hb
theorem DrawsAt.free (h : DrawsAt H d p) (k : But d H H') (hb : H' b = none) (dr : DrawsAt H' d p) : H b = none := by
  cases e : H b with
  | none => rfl
  | some o => rw [k b o (dr.ne_new hb) e] at hb; cases hb
theorem DrawsAt.ne_tup {xs : List V} (h : DrawsAt H d p) (hb : H b = Option.some (.tup xs)) : b ≠ d := fun z => by obtain ⟨_, i, e, _⟩ := h; rw [z, e] at hb; cases hb
theorem DrawsAt.ne_ins {C dx : Addr} {fs : List (Str × V)} (h : DrawsAt H d p) (hb : H b = Option.some (.ins C dx fs)) : b ≠ d := fun z => by obtain ⟨_, i, e, _⟩ := h; rw [z, e] at hb; cases hb
theorem DrawsAt.ne_nvs {ns : List Nat} (h : DrawsAt H d p) (hb : H b = Option.some (.lst (nvs ns))) : b ≠ d := fun z => by
  obtain ⟨_, i, e, _⟩ := h; rw [z, e] at hb
  have hb : [V.ref p, V.int (i : Int)] = nvs ns := by injection hb with hb; injection hb
  cases ns with
  | nil => cases hb
  | cons x r => injection hb with h1 h2; cases h1
theorem DrawsAt.ne_refs {as : List Addr} (h : DrawsAt H d p) (hb : H b = Option.some (.lst (as.map V.ref))) : b ≠ d := fun z => by
  obtain ⟨_, i, e, _⟩ := h; rw [z, e] at hb
  have hb : [V.ref p, V.int (i : Int)] = as.map V.ref := by injection hb with hb; injection hb
  match as, hb with
  | [], hb => cases hb
  | [x], hb => cases hb
  | x :: y :: r, hb => injection hb with h1 h2; injection h2 with h3 h4; cases h3
theorem DrawsAt.tup {xs : List V} (h : DrawsAt H d p) (k : But d H H') (hb : H b = Option.some (.tup xs)) : H' b = Option.some (.tup xs) := k _ _ (h.ne_tup hb) hb
theorem DrawsAt.nvs {ns : List Nat} (h : DrawsAt H d p) (k : But d H H') (hb : H b = Option.some (.lst (nvs ns))) : H' b = Option.some (.lst (K53.nvs ns)) := k _ _ (h.ne_nvs hb) hb
theorem DrawsAt.refs {as : List Addr} (h : DrawsAt H d p) (k : But d H H') (hb : H b = Option.some (.lst (as.map V.ref))) : H' b = Option.some (.lst (as.map V.ref)) := k _ _ (h.ne_refs hb) hb
theorem DrawsAt.prs {as : List Addr} {es : List (Nat × Nat)} (h : DrawsAt H d p) (k : But d H H') (t : PrsAt H as es) : PrsAt H' as es := Paired.mapP t fun _ _ q => h.tup k q
theorem DrawsAt.cols {as : List Addr} {fam : List (List Nat)} (h : DrawsAt H d p) (k : But d H H') (t : ColsAt H as fam) : ColsAt H' as fam := Paired.mapP t fun _ _ q => h.nvs k q
theorem DrawsAt.graph {C g : Addr} {n : Nat} {es : List (Nat × Nat)} {L : Rows} (h : DrawsAt H d p) (k : But d H H') (t : GraphAt C H g n es L) : GraphAt C H' g n es L := by
  obtain ⟨dx, e, l, eas, las, h1, h2, h3, h4, h5⟩ := t
  exact ⟨dx, e, l, eas, las, k _ _ (h.ne_ins h1) h1, h.refs k h2, h.prs k h3, h.refs k h4, h.cols k h5⟩
theorem DrawsAt.mono (h : DrawsAt H d p) (s : Same H H') : DrawsAt H' d p := by
  obtain ⟨ns, i, e1, e2, l⟩ := h
  exact ⟨ns, i, s _ _ e1, s _ _ e2, l⟩
theorem DrawsAt.nes {D : Addr} (h : DrawsAt H d p) (hD : H D = none) : D ≠ d ∧ D ≠ p := by
  obtain ⟨ns, i, e1, e2, l⟩ := h
  exact ⟨fun z => (by rw [z, e1] at hD; cases hD), fun z => (by rw [z, e2] at hD; cases hD)⟩
theorem DrawsAt.but {D : Addr} (h : DrawsAt H d p) (hD : D ≠ d ∧ D ≠ p) (k : ∀ b, b ≠ D → H' b = H b) : DrawsAt H' d p := by
  obtain ⟨ns, i, e1, e2, l⟩ := h
  exact ⟨ns, i, (k d hD.1.symm).trans e1, (k p hD.2.symm).trans e2, l⟩
end
section
variable {P : Program} {w : World} {K : PySem.W.Frag} {mg : Str → Option Value} {base : Heap}
def sp__law_mixed : Sp := fun vs H Q _ => ∃ a b : Int, vs = [.int a, .int b] ∧ ∀ z : Int, Q (.int z) H
theorem o__law_mixed {f : Addr} {fd : FuncData} (F : FnP K "_law_mixed" "_law_mixed" s__law_mixed f fd) (hm : mg "_law_mixed" = some (.ref f)) (T : Tx mg)   : Own P w K mg base 1 "_law_mixed" sp__law_mixed := by
  have sc : FnScope ["_law_number", "_law_k", "_law_step"] ["_law_number", "_law_k"] (defScope s__law_mixed) := ⟨rfl, rfl, rfl, by decide +kernel, rfl, by decide +kernel, by decide +kernel⟩
  refine own_ok F hm sc (fun _ _ _ _ _ _ us hl => match us, hl with | [_, _], _ => rfl) (fun vs H Q E h => ?_) (fun cdv A outer s H vs Q E hr h => ?_)
  · obtain ⟨a, b, rfl, _⟩ := h; rfl
  · obtain ⟨a, b, rfl, q⟩ := h
    have hu := hu_of hr
    refine ⟨_, (pss_cons (ps_set (i := 2) sc.nd rfl (Or.inl rfl) (pe_op op_mod (pe_op op_add (pe_op op_add (pe_op op_mul (pv 0) pe_int) (pe_op op_mul (pv 1) pe_int)) pe_int) pe_int)) 
      (pss_one (ps_ret (pe_op op_mod (pe_op op_add (pe_op op_mul (pv 2) (pe_op op_add (pe_op op_fdiv (pv 2) pe_int) pe_int)) (pv 1)) pe_int)))), ?_⟩
    have b1 : ∀ x : Int, 0 ≤ x % 2147483647 ∧ x % 2147483647 < 2147483647 := fun x => ⟨Int.emod_nonneg _ (by decide), Int.emod_lt_of_pos _ (by decide)⟩
    refine ⟨_, rfl, _, _, rfl, rfl, .inr ⟨by omega, by omega⟩, _, rfl, _, _, rfl, rfl, .inr ⟨by omega, by omega⟩, _, _, rfl, rfl, _, _, rfl, rfl, _, _, rfl, rfl, (show (0 : Int) < 2147483647 by decide), ?_⟩
    refine ⟨_, rfl, _, rfl, _, _, rfl, rfl, ⟨by decide, by decide⟩, _, _, rfl, rfl, _, _, rfl, rfl, .inl ?_, _, rfl, _, _, rfl, rfl, _, _, rfl, rfl, (show (0 : Int) < 2147483647 by decide), ?_⟩
    · have := b1 (a * 48271 + b * 69621 + 12345)
      exact ⟨by omega, by omega⟩
    exact q _
def sp__law_draw : Sp := fun vs H Q _ => ∃ d p : Addr, vs = [.ref d] ∧ DrawsAt H d p ∧ ∀ (z : Int) (H' : Hp), But d H H' → DrawsAt H' d p → Q (.int z) H'
theorem o__law_draw {f : Addr} {fd : FuncData} (F : FnP K "_law_draw" "_law_draw" s__law_draw f fd) (hm : mg "_law_draw" = some (.ref f)) (T : Tx mg) (D__law_mixed : Own P w K mg base 1 "_law_mixed" sp__law_mixed)  : Own P w K mg base 2 "_law_draw" sp__law_draw := by
  have sc : FnScope ["_law_draws", "_law_at", "_law_first"] ["_law_draws"] (defScope s__law_draw) := ⟨rfl, rfl, rfl, by decide +kernel, rfl, by decide +kernel, by decide +kernel⟩
  refine own_ok F hm sc (fun _ _ _ _ _ _ us hl => match us, hl with | [_], _ => rfl) (fun vs H Q E h => ?_) (fun cdv A outer s H vs Q E hr h => ?_)
  · obtain ⟨d, p, rfl, _⟩ := h; rfl
  · obtain ⟨d, p, rfl, ⟨ns, i, h1, h2, hl⟩, q⟩ := h
    have hu := hu_of hr
    refine ⟨_, (pss_cons (ps_set (i := 1) sc.nd rfl (Or.inl rfl) (pe_ix ix_list (pv 0) pe_int (fun _ _ => rfl))) 
      (pss_cons (ps_asg (pe_op op_add (pv 1) pe_int) (pg_sub (pv 0) pe_int set_list)) 
      (pss_cons (ps_if (pt_cmpR op_lt (pv 1) (pe_callB call_len_seq (by rfl) T.len (by decide +kernel) (pa_cons (pe_ix ix_list (pv 0) pe_int (fun _ _ => rfl)) pa_nil)) (nomark _)) (pss_one (ps_ret (pe_ix ix_list (pe_ix ix_list (pv 0) pe_int (fun _ _ => rfl)) (pv 1) (fun _ _ => rfl)))) pss_nil) 
      (pss_cons (ps_set (i := 2) sc.nd rfl (Or.inl rfl) (pe_op op_add pe_int (pv 1))) 
      (pss_cons (ps_if (pt_cmpR op_gt (pe_callB call_len_seq (by rfl) T.len (by decide +kernel) (pa_cons (pe_ix ix_list (pv 0) pe_int (fun _ _ => rfl)) pa_nil)) pe_int (nomark _)) (pss_one (ps_set (i := 2) sc.nd rfl (Or.inl rfl) (pe_op op_add (pv 2) (pe_op op_mul pe_int (pe_ix ix_list (pe_ix ix_list (pv 0) pe_int (fun _ _ => rfl)) pe_int (fun _ _ => rfl)))))) pss_nil) 
      (pss_one (ps_ret (pe_op op_mod (pe_own D__law_mixed (hr.mono (by decide)) (by rfl) (pa_cons (pe_own D__law_mixed (hr.mono (by decide)) (by rfl) (pa_cons (pv 2) (pa_cons (pv 1) pa_nil))) (pa_cons pe_int pa_nil))) pe_int)))))))), ?_⟩
    have npd : p ≠ d := fun z => by
      subst z; rw [h1] at h2
      have hb : [V.ref p, V.int (i : Int)] = ns.map V.int := by injection h2 with hb; injection hb
      cases ns with
      | nil => cases hb
      | cons x r => injection hb with h1 h2; cases h1
    refine ⟨_, rfl, _, _, _, _, rfl, rfl, SqL.of h1, atI_nat (j := 1) rfl, ?_⟩
    refine ⟨_, rfl, _, _, rfl, rfl, _, rfl, d, _, _, 1, rfl, rfl, h1, by rfl, ?_⟩
    refine updI fun H1 e1 k1 => ?_
    have b1 : But d H H1 := fun b o hb h => by rw [k1 b hb]; exact h
    have e2 : H1 p = some (.lst (ns.map V.int)) := (k1 p npd).trans h2
    have dr : DrawsAt H1 d p := ⟨ns, i + 1, e1, e2, hl⟩
    refine ⟨_, rfl, _, rfl, _, _, _, _, rfl, rfl, SqL.of e1, atI_nat (j := 0) rfl, _, _, rfl, .inl (SqL.of e2), _, _, rfl, rfl, _, rfl, ?_⟩
    refine ite2 (fun h => ?_) (fun h => ?_)
    · have h' := of_decide_eq_true h
      rw [List.length_map] at h'
      have hi : i < ns.length := by omega
      refine ⟨_, rfl, _, _, _, _, rfl, rfl, SqL.of e1, atI_nat (j := 0) rfl, _, rfl, _, _, _, .int (ns[i]), rfl, rfl, SqL.of e2, atI_nat (by rw [List.getElem?_map, List.getElem?_eq_getElem hi]; rfl), ?_⟩
      exact q _ _ b1 dr
    · refine ⟨_, rfl, _, _, rfl, rfl, ?_⟩
      refine ⟨_, rfl, _, _, _, _, rfl, rfl, SqL.of e1, atI_nat (j := 0) rfl, _, _, rfl, .inl (SqL.of e2), _, _, rfl, rfl, _, rfl, ?_⟩
      refine ite2 (fun h => ?_) (fun h => ?_)
      · have h' := of_decide_eq_true h
        rw [List.length_map] at h'
        have hi : 0 < ns.length := by omega
        refine ⟨_, rfl, _, rfl, _, _, _, _, rfl, rfl, SqL.of e1, atI_nat (j := 0) rfl, _, _, _, .int (ns[0]), rfl, rfl, SqL.of e2, atI_nat (j := 0) (by rw [List.getElem?_map, List.getElem?_eq_getElem hi]; rfl), _, _, rfl, rfl, .inl ⟨by omega, by omega⟩, _, _, rfl, rfl, ?_⟩
        refine ⟨_, rfl, _, rfl, _, _, rfl, fun z1 => ?_⟩
        refine ⟨_, _, rfl, fun z2 => ?_⟩
        refine ⟨_, _, rfl, rfl, (show (0 : Int) < 1000000 by decide), ?_⟩
        exact q _ _ b1 dr
      · refine ⟨_, rfl, _, rfl, _, _, rfl, fun z1 => ?_⟩
        refine ⟨_, _, rfl, fun z2 => ?_⟩
        refine ⟨_, _, rfl, rfl, (show (0 : Int) < 1000000 by decide), ?_⟩
        exact q _ _ b1 dr
def sp__law_numbers (K : PySem.W.Frag) : Sp := fun vs H Q _ => ∃ (a : Addr) (cs : List Int), vs = [.ref a] ∧ SqL K H a (cs.map V.int) ∧ cs.length ≤ 63 ∧
  ∀ (H' : Hp) (p : Addr) (ns : List Int), Same H H' → H p = none → H' p = some (.lst (ns.map V.int)) → ns.length ≤ 50000 → Q (.ref p) H'
theorem ints_app (a : List Int) (x : Int) : a.map V.int ++ [V.int x] = (a ++ [x]).map V.int := by rw [List.map_append]; rfl
theorem o__law_numbers {f : Addr} {fd : FuncData} (F : FnP K "_law_numbers" "_law_numbers" s__law_numbers f fd) (hm : mg "_law_numbers" = some (.ref f)) (T : Tx mg) (D__law_mixed : Own P w K mg base 1 "_law_mixed" sp__law_mixed)  : Own P w K mg base 2 "_law_numbers" (sp__law_numbers K) := by
  have sc : FnScope ["_law_script", "_law_numbers_here", "_law_cell", "_law_rest", "_law_k"] ["_law_script"] (defScope s__law_numbers) := ⟨rfl, rfl, rfl, by decide +kernel, rfl, by decide +kernel, by decide +kernel⟩
  refine own_ok F hm sc (fun _ _ _ _ _ _ us hl => match us, hl with | [_], _ => rfl) (fun vs H Q E h => ?_) (fun cdv A outer s H vs Q E hr h => ?_)
  · obtain ⟨a, cs, rfl, _⟩ := h; rfl
  · obtain ⟨a, cs, rfl, ha, hl, q⟩ := h
    have hu := hu_of hr
    refine ⟨_, (pss_cons (ps_set (i := 1) sc.nd rfl (Or.inl rfl) (pe_lst pa_nil)) 
      (pss_cons (ps_for PassesOwn.never rfl (pi_list (pv 0)) (pg_name (i := 2) sc.nd rfl (Or.inl rfl)) (pss_one (ps_if (pt_cmpR op_ge (pv 2) (pe_op op_pow pe_int pe_int) (nomark _)) (pss_cons (ps_set (i := 3) sc.nd rfl (Or.inl rfl) (pv 2)) (pss_one (ps_for PassesOwn.never rfl (pi_range1 (by rfl) T.range (pa_cons pe_int pa_nil)) (pg_name (i := 4) sc.nd rfl (Or.inl rfl)) (pss_one (ps_if (pt_cmpR op_gt (pv 3) pe_int (nomark _)) (pss_cons (ps_expr (pe_bm PySem.F.plainAttrs_list PySem.F.slot_list_append PySem.F.type_list_append mt_append (pv 1) (pa_cons (pe_op op_mod (pv 3) pe_int) pa_nil))) (pss_one (ps_set (i := 3) sc.nd rfl (Or.inl rfl) (pe_op op_fdiv (pv 3) pe_int)))) pss_nil))))) (pss_cons (ps_expr (pe_bm PySem.F.plainAttrs_list PySem.F.slot_list_append PySem.F.type_list_append mt_append (pv 1) (pa_cons (pe_op op_mod (pv 2) pe_int) pa_nil))) (pss_one (ps_for PassesOwn.never rfl (pi_range1 (by rfl) T.range (pa_cons pe_int pa_nil)) (pg_name (i := 4) sc.nd rfl (Or.inl rfl)) (pss_one (ps_expr (pe_bm PySem.F.plainAttrs_list PySem.F.slot_list_append PySem.F.type_list_append mt_append (pv 1) (pa_cons (pe_op op_mod (pe_own D__law_mixed (hr.mono (by decide)) (by rfl) (pa_cons (pe_own D__law_mixed (hr.mono (by decide)) (by rfl) (pa_cons (pe_op op_mod (pv 2) pe_int) (pa_cons (pv 4) pa_nil))) (pa_cons (pe_op op_add (pv 4) pe_int) pa_nil))) pe_int) pa_nil)))))))))) 
      (pss_one (ps_ret (pv 1))))), ?_⟩
    refine ⟨Nat.zero_le _, fun N hN => ?_⟩
    refine updI fun H1 e1 k1 => ?_
    have s1 : Same H H1 := Same.step hN k1
    have pm : (0 : Int) < 1000000 := by decide
    have pM : (0 : Int) < 2147483647 := by decide
    refine ⟨_, rfl, a, rfl, ⟨_, s1.seq ha⟩, ?_⟩
    refine for_list (K := K) (a := a) (xs := cs.map V.int) (fun i σ' H' => (∃ v2 v3 v4, σ' = [some (.ref a), some (.ref N), v2, v3, v4]) ∧ Same H H' ∧ ∃ ns : List Int, H' N = some (.lst (ns.map V.int)) ∧ ns.length ≤ 60 * i)
      ⟨⟨none, none, none, rfl⟩, s1, [], e1, Nat.zero_le _⟩ (fun _ _ _ _ z => z.2.1.seq ha) ?_ ?_
    · rintro i x σ' H2 hx ⟨⟨v2, v3, v4, rfl⟩, s2, ns, e2, l2⟩
      have hi : i < 63 := by have := (List.getElem?_eq_some_iff.mp hx).1; rw [List.length_map] at this; omega
      rw [List.getElem?_map] at hx
      obtain ⟨c, hc, rfl⟩ := Option.map_eq_some_iff.mp hx
      refine ⟨_, rfl, _, _, rfl, rfl, ⟨by omega, by omega, by decide⟩, _, _, rfl, rfl, _, rfl, ?_⟩
      refine ite2 (fun h => ?_) (fun h => ?_)
      · refine ⟨_, rfl, ?_⟩
        refine ⟨_, rfl, by decide, by decide, ?_⟩
        refine for_range (lo := 0) (n := 60) (fun j σ' H' => (∃ (r : Int) (v4 : Option V), σ' = [some (.ref a), some (.ref N), some (.int c), some (.int r), v4]) ∧ Same H H' ∧ ∃ ns : List Int, H' N = some (.lst (ns.map V.int)) ∧ ns.length ≤ 60 * i + j)
          ⟨⟨_, _, rfl⟩, s2, ns, e2, l2⟩ ?_ ?_
        · rintro j σ' H3 hj ⟨⟨r, v4, rfl⟩, s3, ns, e3, l3⟩
          refine ⟨_, rfl, _, _, rfl, rfl, _, rfl, ?_⟩
          refine ite2 (fun h => ?_) (fun h => ?_)
          · refine ⟨_, rfl, .inl ⟨rfl, _, SqL.of e3⟩, _, rfl, _, _, rfl, rfl, pm, N, _, _, rfl, rfl, e3, by rw [List.length_map]; exact sz5 (by omega), ?_⟩
            refine updI fun H4 e4 k4 => ?_
            rw [ints_app] at e4
            refine ⟨_, rfl, _, _, rfl, rfl, ⟨pm, by omega⟩, ?_⟩
            exact ⟨⟨_, _, rfl⟩, Same.but s3 hN k4, _, e4, by rw [List.length_append, List.length_singleton]; omega⟩
          · exact ⟨⟨_, _, rfl⟩, s3, ns, e3, by omega⟩
        · rintro σ' H3 ⟨⟨r, v4, rfl⟩, s3, ns, e3, l3⟩
          exact ⟨⟨_, _, _, rfl⟩, s3, ns, e3, by omega⟩
      · refine ⟨_, rfl, .inl ⟨rfl, _, SqL.of e2⟩, _, rfl, _, _, rfl, rfl, pm, N, _, _, rfl, rfl, e2, by rw [List.length_map]; exact sz5 (by omega), ?_⟩
        refine updI fun H3 e3 k3 => ?_
        rw [ints_app] at e3
        have s3 := Same.but s2 hN k3
        refine ⟨_, rfl, by decide, by decide, ?_⟩
        refine for_range (lo := 0) (n := 5) (fun j σ' H' => (∃ (v3 v4 : Option V), σ' = [some (.ref a), some (.ref N), some (.int c), v3, v4]) ∧ Same H H' ∧ ∃ ns : List Int, H' N = some (.lst (ns.map V.int)) ∧ ns.length ≤ 60 * i + 1 + j)
          ⟨⟨_, _, rfl⟩, s3, _, e3, by rw [List.length_append, List.length_singleton]; omega⟩ ?_ ?_
        · rintro j σ' H4 hj ⟨⟨v3, v4, rfl⟩, s4, ns, e4, l4⟩
          refine ⟨_, rfl, .inl ⟨rfl, _, SqL.of e4⟩, _, rfl, _, _, rfl, rfl, pM, _, rfl, _, _, rfl, fun z1 => ?_⟩
          refine ⟨_, rfl, _, _, rfl, rfl, _, _, rfl, fun z2 => ?_⟩
          refine ⟨_, _, rfl, rfl, pm, N, _, _, rfl, rfl, e4, by rw [List.length_map]; exact sz5 (by omega), ?_⟩
          refine updI fun H5 e5 k5 => ?_
          rw [ints_app] at e5
          exact ⟨⟨_, _, rfl⟩, Same.but s4 hN k5, _, e5, by rw [List.length_append, List.length_singleton]; omega⟩
        · rintro σ' H4 ⟨⟨v3, v4, rfl⟩, s4, ns, e4, l4⟩
          exact ⟨⟨_, _, _, rfl⟩, s4, ns, e4, by omega⟩
    · rintro σ' H2 ⟨⟨v2, v3, v4, rfl⟩, s2, ns, e2, l2⟩
      rw [List.length_map] at l2
      exact ⟨_, rfl, q _ N ns s2 hN e2 (by omega)⟩
end
end K53
namespace K53
open PySem PySem.Spec PyProof.Rows L2
/-! ### tests and numbers that may draw: whatever they give, G stands -/
def TAny (G : Hp → Prop) (t : TT) (σ : L2.St) : Prop := ∀ (H : Hp) (Q : Bool → Hp → Prop), G H → (∀ b H', G H' → Q b H') → t σ H Q
def TInt (G : Hp → Prop) (t : TE) (σ : L2.St) : Prop := ∀ (H : Hp) (Q : VK), G H → (∀ z H', G H' → Q (.int z) H') → t σ H Q
section
variable {G : Hp → Prop} {t u : TT} {ta tb : TE} {σ : L2.St} {H : Hp}
theorem any_and (h1 : TAny G t σ) (h2 : TAny G u σ) : TAny G (tAnd t u) σ := fun H Q g q => h1 H _ g fun b H' g' => by
  cases b
  · exact q _ _ g'
  · exact h2 H' Q g' q
theorem any_or (h1 : TAny G t σ) (h2 : TAny G u σ) : TAny G (tOr t u) σ := fun H Q g q => h1 H _ g fun b H' g' => by
  cases b
  · exact h2 H' Q g' q
  · exact q _ _ g'
theorem any_eq (h1 : TInt G ta σ) (h2 : TInt G tb σ) : TAny G (tTest (tOp rEq ta tb)) σ := fun H Q g q => h1 H _ g fun x H1 g1 => h2 H1 _ g1 fun y H2 g2 => ⟨rfl, _, rfl, q _ _ g2⟩
theorem any_ne (h1 : TInt G ta σ) (h2 : TInt G tb σ) : TAny G (tTest (tOp rNe ta tb)) σ := fun H Q g q => h1 H _ g fun x H1 g1 => h2 H1 _ g1 fun y H2 g2 => ⟨rfl, _, rfl, q _ _ g2⟩
theorem any_bl {f : Int → Int → Bool} (h1 : TInt G ta σ) (h2 : TInt G tb σ) : TAny G (tTest (tOp (rI0 fun i j => .bl (f i j)) ta tb)) σ := fun H Q g q => h1 H _ g fun x H1 g1 => h2 H1 _ g1 fun y H2 g2 => ⟨_, _, rfl, rfl, _, rfl, q _ _ g2⟩
theorem int_var {i : Nat} {z : Int} (h : σ[i]? = some (some (.int z))) : TInt G (tVar i) σ := fun H Q g q => ⟨_, h, q _ _ g⟩
theorem int_c {z : Int} : TInt G (tC (.int z)) σ := fun H Q g q => q _ _ g
theorem int_op {f : Int → Int → Int} (h1 : TInt G ta σ) (h2 : TInt G tb σ) : TInt G (tOp (rI0 fun i j => .int (f i j)) ta tb) σ := fun H Q g q => h1 H _ g fun x H1 g1 => h2 H1 _ g1 fun y H2 g2 => ⟨_, _, rfl, rfl, q _ _ g2⟩
theorem int_opc {C : Int → Int → Prop} {f : Int → Int → Int} {m : Int} (hm : ∀ x, C x m) (h1 : TInt G ta σ) : TInt G (tOp (rI C fun i j => .int (f i j)) ta (tC (.int m))) σ := fun H Q g q => h1 H _ g fun x H1 g1 => ⟨_, _, rfl, rfl, hm _, q _ _ g1⟩
theorem int_opv {C : Int → Int → Prop} {f : Int → Int → Int} {m : Int} {i : Nat} (hi : σ[i]? = some (some (.int m))) (hm : ∀ x, C x m) (h1 : TInt G ta σ) : TInt G (tOp (rI C fun i j => .int (f i j)) ta (tVar i)) σ := fun H Q g q => h1 H _ g fun x H1 g1 => ⟨_, hi, _, _, rfl, rfl, hm _, q _ _ g1⟩
theorem int_ix {K : PySem.W.Frag} {P : Addr} {xs : List Int} {i j k : Nat} (h1 : σ[i]? = some (some (.ref P))) (h2 : σ[j]? = some (some (nv k))) (hk : k < xs.length) (hG : ∀ H, G H → H P = some (.lst (xs.map V.int))) : TInt G (tOp (rIxL K) (tVar i) (tVar j)) σ := fun H Q g q => by
  refine ⟨_, h1, _, h2, _, _, _, .int (xs[k]), rfl, rfl, SqL.of (hG H g), atI_nat ?_, q _ _ g⟩
  rw [List.getElem?_map, List.getElem?_eq_getElem hk]; rfl
theorem int_draw {d p : Addr} {i : Nat} (h1 : σ[i]? = some (some (.ref d))) (hG : ∀ H, G H → DrawsAt H d p) (hB : ∀ H H', G H → But d H H' → DrawsAt H' d p → G H') : TInt G (tCall sp__law_draw [] E0 (tCons (tVar i) tNil)) σ :=
  fun H Q g q => ⟨_, h1, d, p, rfl, hG H g, fun z H' b dr => q z H' (hB H H' g b dr)⟩
theorem if_any {ts us : TS} {D : Ends} (h : G H) (ht : TAny G t σ) (ha : ∀ H', G H' → ts D σ H') (hb : ∀ H', G H' → us D σ H') : tIfS t ts us D σ H := ht H _ h fun b H' g => by
  cases b
  · exact hb H' g
  · exact ha H' g
end
theorem mod_ix (z : Int) {m : Nat} (h : 0 < m) : ∃ k : Nat, k < m ∧ z % (m : Int) = (k : Int) := by
  have h1 := Int.emod_nonneg z (by omega : (m : Int) ≠ 0)
  have h2 := Int.emod_lt_of_pos z (by omega : (0 : Int) < m)
  exact ⟨(z % (m : Int)).toNat, by omega, by omega⟩
/-! ### slices and pairs -/
theorem take_min' {α : Type} (xs : List α) (i : Nat) : xs.take (min i xs.length) = xs.take i := by
  rcases Nat.le_total i xs.length with h | h
  · rw [Nat.min_eq_left h]
  · rw [Nat.min_eq_right h, List.take_length, List.take_of_length_le h]
theorem nvs_take (r : List Nat) (i : Nat) : (nvs r).take i = nvs (r.take i) := by unfold nvs; rw [List.map_take]
theorem nvs_drop (r : List Nat) (i : Nat) : (nvs r).drop i = nvs (r.drop i) := by unfold nvs; rw [List.map_drop]
theorem cut_to (r : List Nat) (i : Nat) : cutV (nvs r) none (some (i : Int)) = nvs (r.take i) := by
  unfold cutV
  rw [HT.sIx_none, HT.sIx_nat, List.drop_zero, Nat.sub_zero, take_min', nvs_take]
theorem cut_mid (r : List Nat) {i : Nat} (j : Nat) (h : i ≤ r.length) : cutV (nvs r) (some (i : Int)) (some (j : Int)) = nvs ((r.drop i).take (j - i)) := by
  unfold cutV
  have e1 : min i (nvs r).length = i := Nat.min_eq_left (by rw [nvs_len]; exact h)
  rw [HT.sIx_nat, HT.sIx_nat, e1, show min j (nvs r).length - i = min (j - i) ((nvs r).drop i).length by rw [List.length_drop]; omega, take_min', nvs_drop, nvs_take]
theorem cut_from (r : List Nat) {i : Nat} (h : i ≤ r.length) : cutV (nvs r) (some (i : Int)) none = nvs (r.drop i) := by
  unfold cutV
  have e1 : min i (nvs r).length = i := Nat.min_eq_left (by rw [nvs_len]; exact h)
  rw [HT.sIx_nat, HT.sIx_none, e1, List.take_of_length_le (by rw [List.length_drop]; omega), nvs_drop]
theorem prs_of {H : Hp} : ∀ {as : List Addr} {es : List (Nat × Nat)}, as.length = es.length → (∀ (i : Nat) (a : Addr), as[i]? = some a → ∃ e : Nat × Nat, es[i]? = some e ∧ H a = some (.tup [nv e.1, nv e.2])) → PrsAt H as es
  | [], [], _, _ => .nil
  | [], _ :: _, l, _ => by cases l
  | _ :: _, [], l, _ => by cases l
  | a :: r, e :: q, l, h => by
    obtain ⟨e', h1, h2⟩ := h 0 a rfl
    cases h1
    exact .cons h2 (prs_of (Nat.succ.inj l) fun i b hb => h (i + 1) b hb)
/-- the pair at an address -/
def gk (H : Hp) (a : Addr) : Int × Int := match H a with
  | some (.tup [.int u, .int v]) => (u, v)
  | _ => (0, 0)
def gv (H : Hp) : V → Int × Int
  | .ref a => gk H a
  | _ => (0, 0)
theorem gk_of {H : Hp} {a : Addr} {u v : Int} (h : H a = some (.tup [.int u, .int v])) : gk H a = (u, v) := by unfold gk; rw [h]
def gn (H : Hp) (a : Addr) : Nat × Nat := ((gk H a).1.toNat, (gk H a).2.toNat)
theorem gn_of {H : Hp} {a : Addr} {e : Nat × Nat} (h : H a = some (.tup [nv e.1, nv e.2])) : gn H a = e := by unfold gn; rw [gk_of h]; rfl
theorem prs_map {H : Hp} {as : List Addr} {es : List (Nat × Nat)} (t : PrsAt H as es) : es = as.map (gn H) ∧ ∀ a ∈ as, H a = some (.tup [nv (gn H a).1, nv (gn H a).2]) := by
  induction t with
  | nil => exact ⟨rfl, fun a h => by cases h⟩
  | cons r t ih =>
    have e := gn_of r
    refine ⟨by rw [List.map_cons, e, ← ih.1], fun a h => ?_⟩
    rcases List.mem_cons.mp h with rfl | h
    · rw [e]; exact r
    · exact ih.2 a h
theorem prs_at {H : Hp} {as : List Addr} (h : ∀ a ∈ as, H a = some (.tup [nv (gn H a).1, nv (gn H a).2])) : PrsAt H as (as.map (gn H)) := by
  induction as with
  | nil => exact .nil
  | cons a r ih => exact .cons (h a (by simp)) (ih fun b hb => h b (List.mem_cons_of_mem _ hb))
theorem refs_perm {ys : List V} {as : List Addr} (h : ys.Perm (as.map V.ref)) : ∃ as' : List Addr, ys = as'.map V.ref ∧ as'.Perm as := by
  let f : V → Addr := fun y => match y with | .ref a => a | _ => default
  have hf : ∀ ys : List V, (∀ y ∈ ys, ∃ a, y = V.ref a) → (ys.map f).map V.ref = ys := fun ys => by
    induction ys with
    | nil => exact fun _ => rfl
    | cons y r ih =>
      intro h
      obtain ⟨a, rfl⟩ := h y (by simp)
      rw [List.map_cons, List.map_cons, ih fun z hz => h z (List.mem_cons_of_mem _ hz)]
  refine ⟨ys.map f, (hf ys fun y hy => ?_).symm, ?_⟩
  · obtain ⟨a, _, e⟩ := List.mem_map.mp (h.mem_iff.mp hy)
    exact ⟨a, e.symm⟩
  · have := h.map f
    rw [List.map_map] at this
    have e : as.map (f ∘ V.ref) = as := by
      have : (f ∘ V.ref) = id := rfl
      rw [this, List.map_id]
    rw [e] at this
    exact this
/-- sorted pairs that differ: strictly ascending -/
theorem sort_prs {H : Hp} {as : List Addr} {ps : List (Nat × Nat)} {ys : List V} (t : PrsAt H as ps) (nd : ps.Nodup) (hs : SrtO.Srtd (ltP (gv H)) ys) (hb : SrtO.Stb (ltP (gv H)) ys (as.map V.ref)) :
    ∃ (as' : List Addr) (es : List (Nat × Nat)), ys = as'.map V.ref ∧ PrsAt H as' es ∧ es.Perm ps ∧ es.Pairwise LexLt := by
  obtain ⟨as', rfl, hp⟩ := refs_perm hb.perm
  obtain ⟨e, hm⟩ := prs_map t
  have hm' : ∀ a ∈ as', H a = some (.tup [nv (gn H a).1, nv (gn H a).2]) := fun a ha => hm a (hp.mem_iff.mp ha)
  have pe : (as'.map (gn H)).Perm ps := by rw [e]; exact hp.map _
  refine ⟨as', as'.map (gn H), rfl, prs_at hm', pe, ?_⟩
  have nd' : (as'.map (gn H)).Nodup := pe.nodup_iff.mpr nd
  have hs' : as'.Pairwise fun x y => ltP (gv H) (V.ref y) (V.ref x) = false := List.pairwise_map.mp hs
  have h2 := List.pairwise_map.mp nd'
  rw [List.pairwise_map]
  refine ((hs'.and h2).imp_of_mem fun {x y} hx hy h => ?_)
  obtain ⟨h1, h3⟩ := h
  have hx' := gk_of (hm' x hx)
  have hy' := gk_of (hm' y hy)
  have h4 := SrtO.lexB_no.mp h1
  have e1 : gv H (V.ref x) = (((gn H x).1 : Int), ((gn H x).2 : Int)) := hx'
  have e2 : gv H (V.ref y) = (((gn H y).1 : Int), ((gn H y).2 : Int)) := hy'
  rw [e1, e2] at h4
  simp only [] at h4
  unfold LexLt
  have h5 : ¬ ((gn H x).1 = (gn H y).1 ∧ (gn H x).2 = (gn H y).2) := fun z => h3 (Prod.ext z.1 z.2)
  omega
/-- edges from pairs of places, the nodes in the order o -/
def mm (o : List Nat) (e : Nat × Nat) : Nat × Nat := (min (o.getD e.1 0) (o.getD e.2 0), max (o.getD e.1 0) (o.getD e.2 0))
theorem perm_nd {n : Nat} {o : List Nat} (h : o.Perm (List.range n)) : o.Nodup ∧ o.length = n ∧ ∀ x ∈ o, x < n := ⟨h.nodup_iff.mpr List.nodup_range, by rw [h.length_eq, List.length_range], fun x hx => List.mem_range.mp (h.mem_iff.mp hx)⟩
theorem getD_inj {o : List Nat} (nd : o.Nodup) {i j : Nat} (hi : i < o.length) (hj : j < o.length) (h : o.getD i 0 = o.getD j 0) : i = j := nd_ix nd (getD_of hi) (by rw [h]; exact getD_of hj)
theorem mm_ok {n : Nat} {o : List Nat} (h : o.Perm (List.range n)) {e : Nat × Nat} (he : e.1 < e.2 ∧ e.2 < n) : (mm o e).1 < (mm o e).2 ∧ (mm o e).2 < n := by
  obtain ⟨nd, l, b⟩ := perm_nd h
  have h1 := b _ (List.mem_of_getElem? (getD_of (ns := o) (i := e.1) (by omega)))
  have h2 := b _ (List.mem_of_getElem? (getD_of (ns := o) (i := e.2) (by omega)))
  have h3 : o.getD e.1 0 ≠ o.getD e.2 0 := fun z => by have := getD_inj nd (by omega) (by omega) z; omega
  show min _ _ < max _ _ ∧ max _ _ < n
  omega
theorem mm_inj {n : Nat} {o : List Nat} (h : o.Perm (List.range n)) {e f : Nat × Nat} (he : e.1 < e.2 ∧ e.2 < n) (hf : f.1 < f.2 ∧ f.2 < n) (z : mm o e = mm o f) : e = f := by
  obtain ⟨nd, l, b⟩ := perm_nd h
  have z1 : min (o.getD e.1 0) (o.getD e.2 0) = min (o.getD f.1 0) (o.getD f.2 0) := congrArg Prod.fst z
  have z2 : max (o.getD e.1 0) (o.getD e.2 0) = max (o.getD f.1 0) (o.getD f.2 0) := congrArg Prod.snd z
  have c : (o.getD e.1 0 = o.getD f.1 0 ∧ o.getD e.2 0 = o.getD f.2 0) ∨ (o.getD e.1 0 = o.getD f.2 0 ∧ o.getD e.2 0 = o.getD f.1 0) := by omega
  rcases c with ⟨c1, c2⟩ | ⟨c1, c2⟩
  · exact Prod.ext (getD_inj nd (by omega) (by omega) c1) (getD_inj nd (by omega) (by omega) c2)
  · have d1 := getD_inj nd (by omega) (by omega) c1
    have d2 := getD_inj nd (by omega) (by omega) c2
    omega
theorem mm_nd {n : Nat} {o : List Nat} (h : o.Perm (List.range n)) : ∀ {ps : List (Nat × Nat)}, ps.Nodup → (∀ e ∈ ps, e.1 < e.2 ∧ e.2 < n) → (ps.map (mm o)).Nodup
  | [], _, _ => List.nodup_nil
  | e :: r, nd, hb => by
    obtain ⟨h1, h2⟩ := List.nodup_cons.mp nd
    rw [List.map_cons, List.nodup_cons]
    refine ⟨fun z => ?_, mm_nd h h2 fun f hf => hb f (List.mem_cons_of_mem _ hf)⟩
    obtain ⟨f, hf, ef⟩ := List.mem_map.mp z
    rw [mm_inj h (hb f (List.mem_cons_of_mem _ hf)) (hb e (by simp)) ef] at hf
    exact h1 hf
section
variable {P : Program} {w : World} {K : PySem.W.Frag} {mg : Str → Option Value} {base : Heap}
def sp__law_order : Sp := fun vs H Q _ => ∃ (d p : Addr) (n : Nat), vs = [.ref d, nv n] ∧ DrawsAt H d p ∧ n ≤ 40 ∧
  ∀ (H' : Hp) (q : Addr) (o : List Nat), But d H H' → DrawsAt H' d p → H q = none → H' q = some (.lst (nvs o)) → o.Perm (List.range n) → Q (.ref q) H'
theorem o__law_order {f : Addr} {fd : FuncData} (F : FnP K "_law_order" "_law_order" s__law_order f fd) (hm : mg "_law_order" = some (.ref f)) (T : Tx mg) (D__law_draw : Own P w K mg base 2 "_law_draw" sp__law_draw)  : Own P w K mg base 3 "_law_order" sp__law_order := by
  have sc : FnScope ["_law_draws", "_law_n", "_law_rest", "_law_order_here", "_law_k", "_law_at"] ["_law_draws", "_law_n"] (defScope s__law_order) := ⟨rfl, rfl, rfl, by decide +kernel, rfl, by decide +kernel, by decide +kernel⟩
  refine own_ok F hm sc (fun _ _ _ _ _ _ us hl => match us, hl with | [_, _], _ => rfl) (fun vs H Q E h => ?_) (fun cdv A outer s H vs Q E hr h => ?_)
  · obtain ⟨d, p, n, rfl, _⟩ := h; rfl
  · obtain ⟨d, p, n, rfl, dr, hn, q⟩ := h
    have hu := hu_of hr
    refine ⟨_, (pss_cons (ps_set (i := 2) sc.nd rfl (Or.inl rfl) (pe_listRg rfl (by rfl) T.list (prg_1 (by rfl) T.range (pv 1)))) 
      (pss_cons (ps_set (i := 3) sc.nd rfl (Or.inl rfl) (pe_lst pa_nil)) 
      (pss_cons (ps_for PassesOwn.never rfl (pi_range1 (by rfl) T.range (pa_cons (pv 1) pa_nil)) (pg_name (i := 4) sc.nd rfl (Or.inl rfl)) (pss_cons (ps_set (i := 5) sc.nd rfl (Or.inl rfl) (pe_op op_mod (pe_own D__law_draw (hr.mono (by decide)) (by rfl) (pa_cons (pv 0) pa_nil)) (pe_callB call_len_seq (by rfl) T.len (by decide +kernel) (pa_cons (pv 2) pa_nil)))) (pss_cons (ps_expr (pe_bm PySem.F.plainAttrs_list PySem.F.slot_list_append PySem.F.type_list_append mt_append (pv 3) (pa_cons (pe_ix ix_list (pv 2) (pv 5) (fun _ _ => rfl)) pa_nil))) (pss_one (ps_set (i := 2) sc.nd rfl (Or.inl rfl) (pe_op op_cat (pe_slice sl_list (pv 2) po_none (po_some (pv 5))) (pe_slice sl_list (pv 2) (po_some (pe_op op_add (pv 5) pe_int)) po_none))))))) 
      (pss_one (ps_ret (pv 3)))))), ?_⟩
    refine ⟨_, rfl, _, rfl, RgOk.of_le (by decide) (by omega) (by decide) (by omega), fun c hc => ?_⟩
    refine ⟨Nat.zero_le _, fun l hl => ?_⟩
    have hcl : c ≠ l := ne_of_none upd_same hl
    have hl0 : H l = none := by rw [upd_ne hcl.symm] at hl; exact hl
    have s2 : Same H (upd (upd H c (.lst (rgV 0 (n : Int)))) l (.lst [])) := (Same.new hc).trans (Same.new hl)
    have e2 : (upd (upd H c (.lst (rgV 0 (n : Int)))) l (.lst [])) c = some (.lst (nvs (List.range n))) := by rw [upd_ne hcl, upd_same, rgV_nat]
    have e3 : (upd (upd H c (.lst (rgV 0 (n : Int)))) l (.lst [])) l = some (.lst (nvs [])) := upd_same
    generalize (upd (upd H c (.lst (rgV 0 (n : Int)))) l (.lst [])) = H1 at s2 e2 e3
    have dr1 := dr.mono s2
    have nl := dr.nes hl0
    refine ⟨_, rfl, _, rfl, by omega, by omega, ?_⟩
    rw [Int.toNat_natCast]
    refine for_range (lo := 0) (n := n) (fun i σ' H' => ∃ (r : Addr) (v4 v5 : Option V) (rs o : List Nat), σ' = [some (.ref d), some (nv n), some (.ref r), some (.ref l), v4, v5] ∧ But d H H' ∧ DrawsAt H' d p ∧ H' r = some (.lst (nvs rs)) ∧ H' l = some (.lst (nvs o)) ∧ r ≠ l ∧ r ≠ d ∧ o.length = i ∧ (o ++ rs).Perm (List.range n))
      ⟨c, none, none, List.range n, [], rfl, But.of s2, dr1, e2, e3, hcl, (dr.nes hc).1, rfl, List.Perm.refl _⟩ ?_ ?_
    · rintro i σ' H2 hi ⟨r, v4, v5, rs, o, rfl, b2, dr2, er, el, nrl, nrd, ol, pm⟩
      have rl : rs.length = n - i := by have := pm.length_eq; rw [List.length_append, List.length_range] at this; omega
      have pl : (0 : Int) < ((nvs rs).length : Int) := by rw [nvs_len]; omega
      refine ⟨_, rfl, d, p, rfl, dr2, fun z H3 b3 dr3 => ?_⟩
      have er3 := b3 _ _ nrd er
      have el3 := b3 _ _ nl.1 el
      refine ⟨_, rfl, _, _, rfl, .inl (SqL.of er3), _, _, rfl, rfl, pl, ?_⟩
      obtain ⟨k, hk, ek⟩ := mod_ix z (m := (nvs rs).length) (by rw [nvs_len]; omega)
      rw [nvs_len] at hk
      show gName 5 (V.int (z % ((nvs rs).length : Int))) _ _ _
      rw [ek]
      have gk' : rs[k]? = some (rs[k]) := List.getElem?_eq_getElem hk
      refine ⟨_, rfl, .inl ⟨rfl, _, SqL.of el3⟩, _, rfl, _, rfl, _, _, _, _, rfl, rfl, SqL.of er3, atI_nat (nvs_get gk'), l, _, _, rfl, rfl, el3, by rw [nvs_len]; exact sz5 (by omega), ?_⟩
      refine updI fun H4 e4 k4 => ?_
      have er4 := (k4 r nrl).trans er3
      refine ⟨_, rfl, _, rfl, _, rfl, r, _, rfl, SqL.of er4, fun f1 hf1 => ?_⟩
      have n1 : r ≠ f1 := ne_of_none er4 hf1
      refine ⟨_, rfl, _, rfl, _, _, rfl, rfl, _, rfl, r, _, rfl, SqL.of ((upd_ne n1).trans er4), fun f2 hf2 => ?_⟩
      have n2 : f1 ≠ f2 := ne_of_none upd_same hf2
      have hf2' : H4 f2 = none := by rw [upd_ne n2.symm] at hf2; exact hf2
      have ek1 : ((k : Int) + 1) = ((k + 1 : Nat) : Int) := rfl
      have ea : (upd (upd H4 f1 (.lst (cutV (nvs rs) none (some (k : Int))))) f2 (.lst (cutV (nvs rs) (some ((k : Int) + 1)) none))) f1 = some (.lst (nvs (rs.take k))) := by rw [upd_ne n2, upd_same, cut_to]
      have eb : (upd (upd H4 f1 (.lst (cutV (nvs rs) none (some (k : Int))))) f2 (.lst (cutV (nvs rs) (some ((k : Int) + 1)) none))) f2 = some (.lst (nvs (rs.drop (k + 1)))) := by rw [upd_same, ek1, cut_from _ (by omega)]
      refine ⟨f1, f2, nvs (rs.take k), nvs (rs.drop (k + 1)), rfl, rfl, ea, eb, by rw [nvs_len, nvs_len, List.length_take, List.length_drop]; exact Nat.le_of_lt (sz5 (by omega)), fun f3 hf3 => ?_⟩
      have n31 : f1 ≠ f3 := ne_of_none ea hf3
      have n32 : f2 ≠ f3 := ne_of_none eb hf3
      have hf3' : H4 f3 = none := by rw [upd_ne n32.symm, upd_ne n31.symm] at hf3; exact hf3
      have s4 : Same H4 (upd (upd (upd H4 f1 (.lst (cutV (nvs rs) none (some (k : Int))))) f2 (.lst (cutV (nvs rs) (some ((k : Int) + 1)) none))) f3 (.lst (nvs (rs.take k) ++ nvs (rs.drop (k + 1))))) := ((Same.new hf1).trans (Same.new hf2)).trans (Same.new hf3)
      have e4' : H4 l = some (.lst (nvs (o ++ [rs[k]]))) := by rw [e4, nvs_app]; rfl
      have dr4 : DrawsAt H4 d p := dr3.but nl k4
      refine ⟨f3, _, _, rs.take k ++ rs.drop (k + 1), o ++ [rs[k]], rfl, ?_, dr4.mono s4, by rw [upd_same, nvs_app], s4 _ _ e4', (ne_of_none e4' hf3').symm, (dr4.nes hf3').1, by rw [List.length_append, ol]; rfl, ?_⟩
      · intro b u hb h
        have h3 := b3 b u hb (b2 b u hb h)
        exact s4 _ _ ((k4 b (ne_of_none h hl0)).trans h3)
      · refine List.Perm.trans ?_ pm
        rw [List.append_assoc]
        refine List.Perm.append_left _ ?_
        have e : rs = rs.take k ++ rs[k] :: rs.drop (k + 1) := by rw [List.getElem_cons_drop, List.take_append_drop]
        refine List.Perm.trans ?_ (List.Perm.of_eq e.symm)
        show (rs[k] :: (List.take k rs ++ List.drop (k + 1) rs)).Perm _
        exact List.perm_middle.symm
    · rintro σ' H2 ⟨r, v4, v5, rs, o, rfl, b2, dr2, er, el, nrl, nrd, ol, pm⟩
      have rl : rs = [] := by
        have := pm.length_eq
        rw [List.length_append, List.length_range] at this
        exact List.eq_nil_of_length_eq_zero (by omega)
      rw [rl, List.append_nil] at pm
      exact ⟨_, rfl, q _ l o b2 dr2 hl0 el pm⟩
def sp__law_pairs : Sp := fun vs H Q _ => ∃ (d p : Addr) (n : Nat), vs = [.ref d, nv n] ∧ DrawsAt H d p ∧ n ≤ 40 ∧
  ∀ (H' : Hp) (q : Addr) (as : List Addr) (ps : List (Nat × Nat)), But d H H' → DrawsAt H' d p → H q = none → H' q = some (.lst (as.map V.ref)) → PrsAt H' as ps → (∀ e ∈ ps, e.1 < e.2 ∧ e.2 < n) → ps.Nodup → ps.length ≤ n * n → Q (.ref q) H'
theorem o__law_pairs {f : Addr} {fd : FuncData} (F : FnP K "_law_pairs" "_law_pairs" s__law_pairs f fd) (hm : mg "_law_pairs" = some (.ref f)) (T : Tx mg) (D__law_draw : Own P w K mg base 2 "_law_draw" sp__law_draw)  : Own P w K mg base 3 "_law_pairs" sp__law_pairs := by
  have sc : FnScope ["_law_draws", "_law_n", "_law_pick", "_law_dense", "_law_part", "_law_pairs_here", "_law_v", "_law_u"] ["_law_draws", "_law_n"] (defScope s__law_pairs) := ⟨rfl, rfl, rfl, by decide +kernel, rfl, by decide +kernel, by decide +kernel⟩
  refine own_ok F hm sc (fun _ _ _ _ _ _ us hl => match us, hl with | [_, _], _ => rfl) (fun vs H Q E h => ?_) (fun cdv A outer s H vs Q E hr h => ?_)
  · obtain ⟨d, p, n, rfl, _⟩ := h; rfl
  · obtain ⟨d, p, n, rfl, dr, hn, q⟩ := h
    have hu := hu_of hr
    refine ⟨_, (pss_cons (ps_set (i := 2) sc.nd rfl (Or.inl rfl) (pe_op op_mod (pe_own D__law_draw (hr.mono (by decide)) (by rfl) (pa_cons (pv 0) pa_nil)) pe_int)) 
      (pss_cons (ps_set (i := 3) sc.nd rfl (Or.inl rfl) (pe_op op_add pe_int (pe_op op_mod (pe_own D__law_draw (hr.mono (by decide)) (by rfl) (pa_cons (pv 0) pa_nil)) pe_int))) 
      (pss_cons (ps_setLc (i := 4) (own := [("_law_v", 6)]) (g := gName 6) (tt := tYes) rfl sc.nd rfl rfl (sw_true rfl rfl rfl (by decide +kernel)) (pi_range1 (by rfl) T.range (pa_cons (pv 1) pa_nil)) (blkOk_by (N := (["_law_draws", "_law_n", "_law_pick", "_law_dense", "_law_part", "_law_pairs_here", "_law_v", "_law_u"] : List Str)) (sc := defScope s__law_pairs) (by decide +kernel)) (fun _ _ _ _ _ => (pg_name (i := 6) sc.nd rfl (Or.inl rfl))) (fun _ _ _ _ _ => pts_nil) (fun _ _ _ _ _ => (pe_op op_mod (pe_own D__law_draw (hr.mono (by decide)) (by rfl) (pa_cons (pv 0) pa_nil)) pe_int))) 
      (pss_cons (ps_set (i := 5) sc.nd rfl (Or.inl rfl) (pe_lst pa_nil)) 
      (pss_cons (ps_for PassesOwn.never rfl (pi_range1 (by rfl) T.range (pa_cons (pv 1) pa_nil)) (pg_name (i := 6) sc.nd rfl (Or.inl rfl)) (pss_one (ps_for PassesOwn.never rfl (pi_range1 (by rfl) T.range (pa_cons (pv 6) pa_nil)) (pg_name (i := 7) sc.nd rfl (Or.inl rfl)) (pss_one (ps_if (PW.pt (pw_and (pt_cmpR op_eq (pv 2) pe_int (nomark _)) (pw_and1 (PW.pt (pw_or (pt_cmpR op_eq (pe_op op_add (pv 7) pe_int) (pv 6) (nomark _)) (pw_or (PW.pt (pw_and (pt_cmpR op_eq (pv 7) pe_int (nomark _)) (pw_and1 (pt_cmpR op_eq (pv 6) (pe_op op_sub (pv 1) pe_int) (nomark _))))) (pw_or1 (pt_cmpR op_eq (pe_op op_mod (pe_own D__law_draw (hr.mono (by decide)) (by rfl) (pa_cons (pv 0) pa_nil)) pe_int) pe_int (nomark _))))))))) (pss_one (ps_expr (pe_bm PySem.F.plainAttrs_list PySem.F.slot_list_append PySem.F.type_list_append mt_append (pv 5) (pa_cons (pe_tup (pa_cons (pv 7) (pa_cons (pv 6) pa_nil))) pa_nil)))) (pss_one (ps_if (PW.pt (pw_and (pt_cmpR op_eq (pv 2) pe_int (nomark _)) (pw_and1 (pt_cmpR op_eq (pv 7) (pe_op op_mod (pe_op op_add (pe_ix ix_list (pv 4) (pv 6) (fun _ _ => rfl)) (pe_op op_fdiv (pv 6) pe_int)) (pv 6)) (nomark _))))) (pss_one (ps_expr (pe_bm PySem.F.plainAttrs_list PySem.F.slot_list_append PySem.F.type_list_append mt_append (pv 5) (pa_cons (pe_tup (pa_cons (pv 7) (pa_cons (pv 6) pa_nil))) pa_nil)))) (pss_one (ps_if (PW.pt (pw_and (pt_cmpR op_eq (pv 2) pe_int (nomark _)) (pw_and1 (pt_cmpR op_eq (pe_ix ix_list (pv 4) (pv 7) (fun _ _ => rfl)) (pe_ix ix_list (pv 4) (pv 6) (fun _ _ => rfl)) (nomark _))))) (pss_one (ps_expr (pe_bm PySem.F.plainAttrs_list PySem.F.slot_list_append PySem.F.type_list_append mt_append (pv 5) (pa_cons (pe_tup (pa_cons (pv 7) (pa_cons (pv 6) pa_nil))) pa_nil)))) (pss_one (ps_if (PW.pt (pw_and (pt_cmpR op_eq (pv 2) pe_int (nomark _)) (pw_and (pt_cmpR op_ne (pe_ix ix_list (pv 4) (pv 7) (fun _ _ => rfl)) (pe_ix ix_list (pv 4) (pv 6) (fun _ _ => rfl)) (nomark _)) (pw_and1 (pt_cmpR op_lt (pe_op op_mod (pe_own D__law_draw (hr.mono (by decide)) (by rfl) (pa_cons (pv 0) pa_nil)) pe_int) (pv 3) (nomark _)))))) (pss_one (ps_expr (pe_bm PySem.F.plainAttrs_list PySem.F.slot_list_append PySem.F.type_list_append mt_append (pv 5) (pa_cons (pe_tup (pa_cons (pv 7) (pa_cons (pv 6) pa_nil))) pa_nil)))) (pss_one (ps_if (PW.pt (pw_and (pt_cmpR op_eq (pv 2) pe_int (nomark _)) (pw_and1 (PW.pt (pw_or (pt_cmpR op_eq (pv 6) (pe_op op_add (pv 7) pe_int) (nomark _)) (pw_or1 (PW.pt (pw_and (pt_cmpR op_eq (pv 6) (pe_op op_add (pv 7) pe_int) (nomark _)) (pw_and1 (pt_cmpR op_gt (pe_op op_mod (pv 6) pe_int) pe_int (nomark _))))))))))) (pss_one (ps_expr (pe_bm PySem.F.plainAttrs_list PySem.F.slot_list_append PySem.F.type_list_append mt_append (pv 5) (pa_cons (pe_tup (pa_cons (pv 7) (pa_cons (pv 6) pa_nil))) pa_nil)))) (pss_one (ps_if (PW.pt (pw_and (pt_cmpR op_gt (pv 2) pe_int (nomark _)) (pw_and1 (pt_cmpR op_lt (pe_op op_mod (pe_own D__law_draw (hr.mono (by decide)) (by rfl) (pa_cons (pv 0) pa_nil)) pe_int) (pv 3) (nomark _))))) (pss_one (ps_expr (pe_bm PySem.F.plainAttrs_list PySem.F.slot_list_append PySem.F.type_list_append mt_append (pv 5) (pa_cons (pe_tup (pa_cons (pv 7) (pa_cons (pv 6) pa_nil))) pa_nil)))) pss_nil))))))))))))))) 
      (pss_one (ps_ret (pv 5)))))))), ?_⟩
    refine ⟨_, rfl, d, p, rfl, dr, fun z1 H1 b1 dr1 => ?_⟩
    refine ⟨_, _, rfl, rfl, (show (0 : Int) < 7 by decide), ?_⟩
    refine ⟨_, rfl, d, p, rfl, dr1, fun z2 H2 b2 dr2 => ?_⟩
    refine ⟨_, _, rfl, rfl, (show (0 : Int) < 9 by decide), _, _, rfl, rfl, ?_⟩
    have b2' := b1.trans b2
    clear b1 dr1 b2
    refine ⟨_, rfl, _, rfl, by omega, by omega, fun D hD => ?_⟩
    rw [Int.toNat_natCast]
    have nD := dr2.nes hD
    have hD0 := dr.free b2' hD dr2
    refine lc_it walk_range (fun i H' => But d H2 H' ∧ DrawsAt H' d p ∧ ∃ zs : List Int, H' D = some (.lst (zs.map V.int)) ∧ zs.length = i)
      ⟨But.of (Same.new hD), dr2.mono (Same.new hD), [], upd_same, rfl⟩ (fun _ _ _ _ => trivial) ?_ ?_
    · rintro i x H3 H4 hi ⟨b3, dr3, zs, e3, l3⟩ ⟨rfl, rfl⟩
      refine ⟨rfl, _, rfl, d, p, rfl, dr3, fun z H5 b5 dr5 => ?_⟩
      refine ⟨_, _, rfl, rfl, (show (0 : Int) < 3 by decide), _, b5 _ _ nD.1 e3, by rw [List.length_map, l3]; exact sz5 (by omega), ?_⟩
      exact ⟨fun b u hb h => (upd_ne (ne_of_none h hD)).trans (b5 b u hb (b3 b u hb h)), dr5.but nD fun b hb => upd_ne hb, zs ++ [z % 3], by rw [upd_same, ← ints_app], by rw [List.length_append, l3]; rfl⟩
    rintro H3 ⟨b3, dr3, zs, e3, l3⟩
    refine ⟨Nat.zero_le _, fun A hA => ?_⟩
    have nA := dr3.nes hA
    have b23 := b2'.trans b3
    have hA0 := dr.free b23 hA dr3
    have nDA : D ≠ A := ne_of_none e3 hA
    refine ⟨_, rfl, _, rfl, by omega, by omega, ?_⟩
    rw [Int.toNat_natCast]
    refine for_range (lo := 0) (n := n) (fun v σ' H' => ∃ (v6 v7 : Option V) (as : List Addr) (ps : List (Nat × Nat)), σ' = [some (.ref d), some (nv n), some (.int (z1 % 7)), some (.int (1 + z2 % 9)), some (.ref D), some (.ref A), v6, v7] ∧ But d H H' ∧ DrawsAt H' d p ∧ H' D = some (.lst (zs.map V.int)) ∧
      H' A = some (.lst (as.map V.ref)) ∧ PrsAt H' as ps ∧ (∀ e ∈ ps, e.1 < e.2 ∧ e.2 < v) ∧ ps.Nodup ∧ ps.length ≤ v * n)
      ⟨none, none, [], [], rfl, b23.tS (Same.new hA), dr3.mono (Same.new hA), (upd_ne nDA).trans e3, upd_same, .nil, fun _ h => (by cases h), List.nodup_nil, Nat.zero_le _⟩ ?_ ?_
    · rintro v σ' H4 hv ⟨v6, v7, as, ps, rfl, b4, dr4, e4, A4, p4, lt4, nd4, l4⟩
      have ev : (0 : Int) + (v : Int) = ((v : Nat) : Int) := Int.zero_add _
      rw [ev]
      refine ⟨_, rfl, _, rfl, by omega, by omega, ?_⟩
      rw [Int.toNat_natCast]
      refine for_range (lo := 0) (n := v) (fun u σ' H' => ∃ (v7 : Option V) (as : List Addr) (ps : List (Nat × Nat)), σ' = [some (.ref d), some (nv n), some (.int (z1 % 7)), some (.int (1 + z2 % 9)), some (.ref D), some (.ref A), some (nv v), v7] ∧ But d H H' ∧ DrawsAt H' d p ∧ H' D = some (.lst (zs.map V.int)) ∧
        H' A = some (.lst (as.map V.ref)) ∧ PrsAt H' as ps ∧ (∀ e ∈ ps, e.1 < e.2 ∧ (e.2 < v ∨ e.2 = v ∧ e.1 < u)) ∧ ps.Nodup ∧ ps.length ≤ v * n + u)
        ⟨_, as, ps, rfl, b4, dr4, e4, A4, p4, fun e he => ⟨(lt4 e he).1, .inl (lt4 e he).2⟩, nd4, l4⟩ ?_ ?_
      · rintro u σ' H5 hu' ⟨v7, as, ps, rfl, b5, dr5, e5, A5, p5, lt5, nd5, l5⟩
        have eu : (0 : Int) + (u : Int) = ((u : Nat) : Int) := Int.zero_add _
        rw [eu]
        have hvn : v * n ≤ 40 * 40 := Nat.mul_le_mul (by omega) hn
        let G : Hp → Prop := fun H' => But d H H' ∧ DrawsAt H' d p ∧ H' D = some (.lst (zs.map V.int)) ∧ H' A = some (.lst (as.map V.ref)) ∧ PrsAt H' as ps
        have g5 : G H5 := ⟨b5, dr5, e5, A5, p5⟩
        have gB : ∀ H' H'', G H' → But d H' H'' → DrawsAt H'' d p → G H'' := fun H' H'' ⟨g1, g2, g3, g4, g5⟩ b dr => ⟨g1.trans b, dr, b _ _ nD.1 g3, b _ _ nA.1 g4, g2.prs b g5⟩
        have gdr : ∀ H', G H' → DrawsAt H' d p := fun H' g => g.2.1
        have gD : ∀ H', G H' → H' D = some (.lst (zs.map V.int)) := fun H' g => g.2.2.1
        have vpos : (0 : Int) < (v : Int) := by omega
        have dw : ∀ σ : L2.St, σ[0]? = some (some (.ref d)) → TInt G (tCall sp__law_draw [] E0 (tCons (tVar 0) tNil)) σ := fun σ h => int_draw h gdr gB
        refine if_any g5 ?t0 ?a0 fun H6 g6 => if_any g6 ?t1 ?a1 fun H7 g7 => if_any g7 ?t2 ?a2 fun H8 g8 => if_any g8 ?t3 ?a3 fun H9 g9 => if_any g9 ?t4 ?a4 fun H10 g10 => if_any g10 ?t5 ?a5 fun H11 g11 => ?no
        case t0 => exact any_and (any_eq (int_var rfl) int_c) (any_or (any_eq (int_op (int_var rfl) int_c) (int_var rfl)) (any_or (any_and (any_eq (int_var rfl) int_c) (any_eq (int_var rfl) (int_op (int_var rfl) int_c))) (any_eq (int_opc (fun _ => (show (0 : Int) < 12 by decide)) (dw _ rfl)) int_c)))
        case t1 => exact any_and (any_eq (int_var rfl) int_c) (any_eq (int_var rfl) (int_opv rfl (fun _ => vpos) (int_op (int_ix rfl rfl (by omega) gD) (int_opc (fun _ => ⟨by decide, by decide⟩) (int_var rfl)))))
        case t2 => exact any_and (any_eq (int_var rfl) int_c) (any_eq (int_ix rfl rfl (by omega) gD) (int_ix rfl rfl (by omega) gD))
        case t3 => exact any_and (any_eq (int_var rfl) int_c) (any_and (any_ne (int_ix rfl rfl (by omega) gD) (int_ix rfl rfl (by omega) gD)) (any_bl (int_opc (fun _ => (show (0 : Int) < 10 by decide)) (dw _ rfl)) (int_var rfl)))
        case t4 => exact any_and (any_eq (int_var rfl) int_c) (any_or (any_eq (int_var rfl) (int_op (int_var rfl) int_c)) (any_and (any_eq (int_var rfl) (int_op (int_var rfl) int_c)) (any_bl (int_opc (fun _ => (show (0 : Int) < 3 by decide)) (int_var rfl)) int_c)))
        case t5 => exact any_and (any_bl (int_var rfl) int_c) (any_bl (int_opc (fun _ => (show (0 : Int) < 10 by decide)) (dw _ rfl)) (int_var rfl))
        case no => exact ⟨_, as, ps, rfl, g11.1, g11.2.1, g11.2.2.1, g11.2.2.2.1, g11.2.2.2.2, fun e he => ⟨(lt5 e he).1, by have := (lt5 e he).2; omega⟩, nd5, by omega⟩
        all_goals
          intro H' ⟨g1, g2, g3, g4, g6⟩
          refine ⟨_, rfl, .inl ⟨rfl, _, SqL.of g4⟩, _, rfl, _, rfl, by show 2 ≤ sizeLine; decide, fun t ht => ?_⟩
          have ntA : A ≠ t := ne_of_none g4 ht
          have nDt : D ≠ t := ne_of_none g3 ht
          refine ⟨A, _, _, rfl, rfl, (upd_ne ntA).trans g4, by rw [List.length_map, p5.length]; exact sz5 (by omega), ?_⟩
          refine updI fun H6 e6 k6 => ?_
          have e6 : H6 A = some (.lst ((as ++ [t]).map V.ref)) := by rw [e6, List.map_append]; rfl
          have s6 : ∀ b, b ≠ A → ∀ o, H' b = some o → H6 b = some o := fun b hb o h => by rw [k6 b hb, upd_ne (ne_of_none h ht)]; exact h
          have t6 : H6 t = some (.tup [nv u, nv v]) := (k6 t ntA.symm).trans upd_same
          refine ⟨_, as ++ [t], ps ++ [(u, v)], rfl, fun b o hb h => s6 b (ne_of_none h hA0) o (g1 b o hb h), (g2.mono (Same.new ht)).but nA k6, s6 D nDA _ g3, e6, PrsAt.snoc (Paired.mapP g6 fun a e h => s6 a (fun z => by rw [z, g4] at h; cases h) _ h) t6, fun e he => ?_, ?_, by rw [List.length_append, List.length_singleton]; omega⟩
          · rcases List.mem_append.mp he with h | h
            · exact ⟨(lt5 e h).1, by have := (lt5 e h).2; omega⟩
            · rw [List.mem_singleton.mp h]
              exact ⟨hu', .inr ⟨rfl, Nat.lt_succ_self u⟩⟩
          · rw [List.nodup_append]
            refine ⟨nd5, by simp, fun a ha b hb => ?_⟩
            rw [List.mem_singleton.mp hb]
            intro z
            have := (lt5 a ha).2
            rw [z] at this
            simp at this
      · rintro σ' H5 ⟨v7, as, ps, rfl, b5, dr5, e5, A5, p5, lt5, nd5, l5⟩
        exact ⟨_, _, as, ps, rfl, b5, dr5, e5, A5, p5, fun e he => ⟨(lt5 e he).1, by have := (lt5 e he); omega⟩, nd5, by rw [Nat.succ_mul]; omega⟩
    · rintro σ' H4 ⟨v6, v7, as, ps, rfl, b4, dr4, e4, A4, p4, lt4, nd4, l4⟩
      exact ⟨_, rfl, q _ A as ps b4 dr4 hA0 A4 p4 lt4 nd4 l4⟩
end
end K53
namespace K53
open PySem PySem.Spec PyProof.Rows L2
section
variable {P : Program} {w : World} {K : PySem.W.Frag} {mg : Str → Option Value} {base : Heap}
def sp__law_edges : Sp := fun vs H Q _ => ∃ (d p : Addr) (n : Nat), vs = [.ref d, nv n] ∧ DrawsAt H d p ∧ n ≤ 40 ∧
  ∀ (H' : Hp) (q : Addr) (as : List Addr) (es : List (Nat × Nat)), But d H H' → DrawsAt H' d p → H q = none → H' q = some (.lst (as.map V.ref)) → PrsAt H' as es → EOk n es → es.length ≤ n * n → Q (.ref q) H'
theorem o__law_edges {f : Addr} {fd : FuncData} (F : FnP K "_law_edges" "_law_edges" s__law_edges f fd) (hm : mg "_law_edges" = some (.ref f)) (T : Tx mg) (D__law_order : Own P w K mg base 3 "_law_order" sp__law_order) (D__law_pairs : Own P w K mg base 3 "_law_pairs" sp__law_pairs)  : Own P w K mg base 4 "_law_edges" sp__law_edges := by
  have sc : FnScope ["_law_draws", "_law_n", "_law_order_here", "_law_pairs_here", "_law_u", "_law_v"] ["_law_draws", "_law_n"] (defScope s__law_edges) := ⟨rfl, rfl, rfl, by decide +kernel, rfl, by decide +kernel, by decide +kernel⟩
  refine own_ok F hm sc (fun _ _ _ _ _ _ us hl => match us, hl with | [_, _], _ => rfl) (fun vs H Q E h => ?_) (fun cdv A outer s H vs Q E hr h => ?_)
  · obtain ⟨d, p, n, rfl, _⟩ := h; rfl
  · obtain ⟨d, p, n, rfl, dr, hn, q⟩ := h
    have hu := hu_of hr
    refine ⟨_, (pss_cons (ps_set (i := 2) sc.nd rfl (Or.inr rfl) (pe_own D__law_order (hr.mono (by decide)) (by rfl) (pa_cons (pv 0) (pa_cons (pv 1) pa_nil)))) 
      (pss_cons (ps_setLc (i := 3) (own := [("_law_u", 4), ("_law_v", 5)]) (g := gTup K 2 (gCons (gName 4) (gCons (gName 5) gNil))) (tt := tYes) rfl sc.nd rfl rfl (sw_true rfl rfl rfl (by decide +kernel)) (pi_list (pe_own D__law_pairs (hr.mono (by decide)) (by rfl) (pa_cons (pv 0) (pa_cons (pv 1) pa_nil)))) (blkOk_by (N := (["_law_draws", "_law_n", "_law_order_here", "_law_pairs_here", "_law_u", "_law_v"] : List Str)) (sc := defScope s__law_edges) (by decide +kernel)) (fun _ _ _ _ _ => (pg_tup rfl (pgs_cons (pg_name (i := 4) sc.nd rfl (Or.inl rfl)) (pgs_cons (pg_name (i := 5) sc.nd rfl (Or.inl rfl)) pgs_nil)))) (fun _ _ _ _ _ => pts_nil) (fun _ _ _ _ _ => (pe_tup (pa_cons (pe_callB (call_min2 rfl) (by rfl) T.min (by decide +kernel) (pa_cons (pe_ix (ix_listK K) (pv 2) (pv 4) (fun _ _ => rfl)) (pa_cons (pe_ix (ix_listK K) (pv 2) (pv 5) (fun _ _ => rfl)) pa_nil))) (pa_cons (pe_callB (call_max2 rfl) (by rfl) T.max (by decide +kernel) (pa_cons (pe_ix (ix_listK K) (pv 2) (pv 4) (fun _ _ => rfl)) (pa_cons (pe_ix (ix_listK K) (pv 2) (pv 5) (fun _ _ => rfl)) pa_nil))) pa_nil))))) 
      (pss_one (ps_ret (pe_callB cr_sortedPO (by rfl) T.sorted (by decide +kernel) (pa_cons (pv 3) pa_nil)))))), ?_⟩
    refine ⟨_, rfl, _, rfl, d, p, n, rfl, dr, hn, fun H1 q1 o b1 dr1 f1 e1 pm => ?_⟩
    refine ⟨_, rfl, _, rfl, d, p, n, rfl, dr1, hn, fun H2 q2 as ps b2 dr2 f2 e2 pr lt nd pl => ⟨q2, rfl, ⟨_, SqL.of e2⟩, fun D hD => ?_⟩⟩
    obtain ⟨ond, ol, ob⟩ := perm_nd pm
    have e1' := dr1.nvs b2 e1
    have hnn : n * n ≤ 40 * 40 := Nat.mul_le_mul hn hn
    have asl : (as.map V.ref).length = ps.length := by rw [List.length_map]; exact pr.length
    refine lc_map walk_list (fun i y H => ∃ t e, ps[i]? = some e ∧ y = .ref t ∧ t ≠ D ∧ H t = some (.tup [nv (mm o e).1, nv (mm o e).2])) (by rw [asl]; omega) hD (fun H' s => SqL.of (s _ _ e2)) (fun i y H H' ⟨t, e, h0, h1, h2, h3⟩ k => ⟨t, e, h0, h1, h2, k t _ h2 h3⟩) ySame_at ?_ ?_
    · rintro i x H3 H4 Q' hi s ⟨ys, eD⟩ ⟨rfl, hx⟩ kk
      obtain ⟨a, ha, rfl⟩ := refs_inv hx
      obtain ⟨⟨u, v⟩, he, ea⟩ := pr.get ha
      have ea := s _ _ ea
      have eo := s _ _ e1'
      have huv := lt _ (List.mem_of_getElem? he)
      have hu1 : u < v := huv.1
      have hv1 : v < n := huv.2
      have gu := nvs_get (getD_of (ns := o) (i := u) (by omega))
      have gv := nvs_get (getD_of (ns := o) (i := v) (by omega))
      refine ⟨a, _, rfl, SqT.of ea, rfl, _, _, rfl, _, _, rfl, rfl, rfl, ?_⟩
      refine ⟨_, rfl, _, rfl, _, _, _, _, rfl, rfl, SqL.of eo, atI_nat gu, _, rfl, _, rfl, _, _, _, _, rfl, rfl, SqL.of eo, atI_nat gv, _, _, rfl, ?_⟩
      refine ⟨_, rfl, _, rfl, _, _, _, _, rfl, rfl, SqL.of eo, atI_nat gu, _, rfl, _, rfl, _, _, _, _, rfl, rfl, SqL.of eo, atI_nat gv, _, _, rfl, by show 2 ≤ sizeLine; decide, fun t ht => ?_⟩
      refine kk _ _ (Same.new ht) ⟨t, _, he, rfl, fun z => (by rw [z, eD] at ht; cases ht), ?_⟩
      rw [upd_same]
      have m1 : (if ((o.getD v 0 : Nat) : Int) < ((o.getD u 0 : Nat) : Int) then ((o.getD v 0 : Nat) : Int) else ((o.getD u 0 : Nat) : Int)) = ((min (o.getD u 0) (o.getD v 0) : Nat) : Int) := by split <;> omega
      have m2 : (if ((o.getD v 0 : Nat) : Int) > ((o.getD u 0 : Nat) : Int) then ((o.getD v 0 : Nat) : Int) else ((o.getD u 0 : Nat) : Int)) = ((max (o.getD u 0) (o.getD v 0) : Nat) : Int) := by split <;> omega
      exact congrArg some (congrArg HO.tup (by rw [m1, m2]; rfl))
    intro H3 ys s3 eD yl r
    obtain ⟨ts, rfl, hts⟩ := refs_of (F := fun i t => ∃ e, ps[i]? = some e ∧ t ≠ D ∧ H3 t = some (.tup [nv (mm o e).1, nv (mm o e).2])) (ys := ys) fun i y h => by
      obtain ⟨t, e, h0, h1, h2, h3⟩ := r i y h
      exact ⟨t, h1, e, h0, h2, h3⟩
    rw [List.length_map, asl] at yl
    have pm3 : PrsAt H3 ts (ps.map (mm o)) := prs_of (by rw [List.length_map]; exact yl) fun i t h => by
      obtain ⟨e, h0, h1, h2⟩ := hts i t h
      exact ⟨mm o e, by rw [List.getElem?_map, h0]; rfl, h2⟩
    have nd3 := mm_nd pm nd lt
    refine ⟨_, rfl, D, _, gv H3, rfl, SqL.of eD, fun x hx => ?_, fun ys q4 hs hb hq4 => ?_⟩
    · obtain ⟨t, ht, rfl⟩ := List.mem_map.mp hx
      have h := (prs_map pm3).2 t ht
      refine ⟨t, rfl, ?_⟩
      have e : gv H3 (V.ref t) = _ := gk_of h
      rw [e]; exact h
    obtain ⟨as', es, rfl, pe, hpe, hlt⟩ := sort_prs pm3 nd3 hs hb
    have b3 : But d H H3 := (b1.trans b2).tS s3
    have dr3 := dr2.mono s3
    refine q _ q4 as' es (b3.tS (Same.new hq4)) (dr3.mono (Same.new hq4)) (dr.free b3 hq4 dr3) upd_same (pe.mono (Same.new hq4)) ⟨fun e he => ?_, hlt⟩ ?_
    · obtain ⟨f, hf, rfl⟩ := List.mem_map.mp (hpe.mem_iff.mp he)
      exact mm_ok pm (lt f hf)
    · rw [hpe.length_eq, List.length_map]; exact pl
def sp__law_near : Sp := fun vs H Q _ => ∃ (n : Nat) (a : Addr) (eas : List Addr) (es : List (Nat × Nat)), vs = [nv n, .ref a] ∧ n ≤ 40 ∧ H a = some (.lst (eas.map V.ref)) ∧ PrsAt H eas es ∧ EOk n es ∧
  ∀ (H' : Hp) (q : Addr) (las : List Addr), Same H H' → H q = none → H' q = some (.lst (las.map V.ref)) → ColsAt H' las (linksOf n es) → Q (.ref q) H'
theorem o__law_near {f : Addr} {fd : FuncData} (F : FnP K "_law_near" "_law_near" s__law_near f fd) (hm : mg "_law_near" = some (.ref f)) (T : Tx mg)   : Own P w K mg base 1 "_law_near" sp__law_near := by
  have sc : FnScope ["_law_n", "_law_edges_here", "_law_near_here", "_law_edge", "_law_v", "_law_row"] ["_law_n", "_law_edges_here"] (defScope s__law_near) := ⟨rfl, rfl, rfl, by decide +kernel, rfl, by decide +kernel, by decide +kernel⟩
  refine own_ok F hm sc (fun _ _ _ _ _ _ us hl => match us, hl with | [_, _], _ => rfl) (fun vs H Q E h => ?_) (fun cdv A outer s H vs Q E hr h => ?_)
  · obtain ⟨n, a, eas, es, rfl, _⟩ := h; rfl
  · obtain ⟨n, a, eas, es, rfl, hn, ha, hp, eo, q⟩ := h
    have hu := hu_of hr
    refine ⟨_, (pss_cons (ps_setLc (i := 2) (own := [("_law_v", 4)]) (g := gName 4) (tt := tYes) rfl sc.nd rfl rfl (sw_true rfl rfl rfl (by decide +kernel)) (pi_range1 (by rfl) T.range (pa_cons (pv 0) pa_nil)) (blkOk_by (N := (["_law_n", "_law_edges_here", "_law_near_here", "_law_edge", "_law_v", "_law_row"] : List Str)) (sc := defScope s__law_near) (by decide +kernel)) (fun _ _ _ _ _ => (pg_name (i := 4) sc.nd rfl (Or.inl rfl))) (fun _ _ _ _ _ => pts_nil) (fun _ _ _ _ _ => (pe_lst pa_nil))) 
      (pss_cons (ps_for PassesOwn.never rfl (pi_list (pv 1)) (pg_name (i := 3) sc.nd rfl (Or.inl rfl)) (pss_cons (ps_expr (pe_bm PySem.F.plainAttrs_list PySem.F.slot_list_append PySem.F.type_list_append mt_append (pe_ix ix_list (pv 2) (pe_ix ix_tup (pv 3) pe_int (fun _ _ => rfl)) (fun _ _ => rfl)) (pa_cons (pe_ix ix_tup (pv 3) pe_int (fun _ _ => rfl)) pa_nil))) (pss_one (ps_expr (pe_bm PySem.F.plainAttrs_list PySem.F.slot_list_append PySem.F.type_list_append mt_append (pe_ix ix_list (pv 2) (pe_ix ix_tup (pv 3) pe_int (fun _ _ => rfl)) (fun _ _ => rfl)) (pa_cons (pe_ix ix_tup (pv 3) pe_int (fun _ _ => rfl)) pa_nil)))))) 
      (pss_one (ps_ret (pe_lc (own := [("_law_row", 5)]) (g := gName 5) (tt := tYes) rfl sc.nd (pi_list (pv 2)) (blkOk_by (N := (["_law_n", "_law_edges_here", "_law_near_here", "_law_edge", "_law_v", "_law_row"] : List Str)) (sc := defScope s__law_near) (by decide +kernel)) (fun _ _ _ _ _ => (pg_name (i := 5) sc.nd rfl (Or.inl rfl))) (fun _ _ _ _ _ => pts_nil) (fun _ _ _ _ _ => (pe_callB (cr_sortedIK K) (by rfl) T.sorted (by decide +kernel) (pa_cons (pv 5) pa_nil)))))))), ?_⟩
    refine ⟨_, rfl, _, rfl, by omega, by omega, fun D hD => ?_⟩
    rw [Int.toNat_natCast]
    refine lc_emp (fun x => rfl) (by omega) hD ?_
    intro H4 as s4 D4 al nd mm
    have fr : ∀ x ∈ as, x ≠ D ∧ H x = none := fun x hx => ⟨(mm x hx).2.1, (mm x hx).1⟩
    have m4 : MemAt H4 as (nbr (es.take 0)) := fun v x hx => (mm x (List.mem_of_getElem? hx)).2.2
    refine ⟨_, rfl, a, rfl, ⟨_, SqL.of (s4 _ _ ha)⟩, ?_⟩
    refine for_list (K := K) (a := a) (xs := eas.map V.ref) (fun i σ' H' => (∃ v3, σ' = [some (nv n), some (.ref a), some (.ref D), v3, none, none]) ∧ Same H H' ∧ H' D = some (.lst (as.map V.ref)) ∧ MemAt H' as (nbr (es.take i)))
      ⟨⟨_, rfl⟩, s4, D4, m4⟩ (fun _ _ _ _ z => SqL.of (z.2.1 _ _ ha)) ?_ ?_
    · rintro i x σ' H6 hx ⟨⟨v3, rfl⟩, b6, D6, m6⟩
      obtain ⟨ea, hea, rfl⟩ := refs_inv hx
      obtain ⟨⟨u, v⟩, hes, ee⟩ := hp.get hea
      have ee6 := b6 _ _ ee
      obtain ⟨r1, r2, hr1, hr2, er1, kk⟩ := two_rows m6 nd al eo hes
      have f1 := fr r1 (List.mem_of_getElem? hr1)
      have f2 := fr r2 (List.mem_of_getElem? hr2)
      have rl : ∀ w, (nbr (es.take i) w).length < sizeLine := fun w => by
        have h1 : (nbr (es.take i) w).length ≤ n := nodup_le (nbr_nd (fun e he => (eo.lt e (List.mem_of_mem_take he)).1) (eo.nd.sublist (List.take_sublist _ _))) fun x hx => by
          rcases (mem_nbr (fun e he => (eo.lt e (List.mem_of_mem_take he)).1)).mp hx with h | h
          · exact (eo.lt _ (List.mem_of_mem_take h)).2
          · have := eo.lt _ (List.mem_of_mem_take h)
            simp at this; omega
        exact sz5 (by omega)
      refine ⟨_, rfl, _, rfl, _, _, _, nv u, rfl, rfl, SqT.of ee6, atI_nat (j := 0) rfl, _, _, _, .ref r1, rfl, rfl, SqL.of D6, atI_nat (refs_get hr1), .inl ⟨rfl, _, SqL.of er1⟩, _, rfl, _, _, _, nv v, rfl, rfl, SqT.of ee6, atI_nat (j := 1) rfl, _, _, _, rfl, rfl, er1, by rw [nvs_len]; exact rl u, ?_⟩
      refine updI fun H7 e7 k7 => ?_
      obtain ⟨er2, kk⟩ := kk H7 e7 k7
      have D7 := (k7 D f1.1.symm).trans D6
      have s7 := Same.but b6 f1.2 k7
      have ee7 := s7 _ _ ee
      refine ⟨_, rfl, _, rfl, _, _, _, nv v, rfl, rfl, SqT.of ee7, atI_nat (j := 1) rfl, _, _, _, .ref r2, rfl, rfl, SqL.of D7, atI_nat (refs_get hr2), .inl ⟨rfl, _, SqL.of er2⟩, _, rfl, _, _, _, nv u, rfl, rfl, SqT.of ee7, atI_nat (j := 0) rfl, _, _, _, rfl, rfl, er2, by rw [nvs_len]; exact rl v, ?_⟩
      refine updI fun H8 e8 k8 => ?_
      exact ⟨⟨_, rfl⟩, Same.but s7 f2.2 k8, (k8 D f2.1.symm).trans D7, kk H8 e8 k8⟩
    rintro σ' H6 ⟨⟨v3, rfl⟩, b6, D6, m6⟩
    rw [List.length_map, hp.length, List.take_length] at m6
    refine ⟨_, rfl, D, rfl, ⟨_, SqL.of D6⟩, fun D2 hD2 => ?_⟩
    refine lc_sorted (fun x => rfl) (fun x => rfl) D6 m6 (by omega) hD2 ?_
    intro H7 las s7 e7 l7 n7 m7
    exact q H7 D2 las (b6.trans s7) (b6.free hD2) e7 (cols_of (by rw [l7]; exact al) m7)
end
end K53
namespace K53
open PySem PySem.Spec PyProof.Rows L2
theorem inV_nvs (x : Nat) (xs : List Nat) : inV (nv x) (nvs xs) = decide (x ∈ xs) := by
  rw [Bool.eq_iff_iff, decide_eq_true_eq]
  unfold inV nvs
  rw [List.any_map, List.any_eq_true]
  constructor
  · rintro ⟨y, hy, e⟩
    have : ((y : Int) == (x : Int)) = true := e
    have : (y : Int) = (x : Int) := by simpa using this
    have : y = x := by omega
    rw [← this]; exact hy
  · intro h
    refine ⟨x, h, ?_⟩
    show ((x : Int) == (x : Int)) = true
    simp
theorem not_take {p : List Nat} {i x : Nat} (nd : p.Nodup) (h : p[i]? = some x) : x ∉ p.take i := fun z => by
  obtain ⟨j, hj, e⟩ := List.getElem_of_mem z
  rw [List.length_take] at hj
  have e' : p[j]? = some x := by rw [List.getElem_take] at e; rw [← e]; exact List.getElem?_eq_getElem (by omega)
  have := nd_ix nd e' h
  omega
section
variable {P : Program} {w : World} {K : PySem.W.Frag} {mg : Str → Option Value} {base : Heap}
theorem own_no {x q : Str} {st : Stmt} {f : Addr} {fd : FuncData} {N ps : List Str} (F : FnP K x q st f fd) (hm : mg x = some (.ref f)) (S : FnScope N ps (defScope st))
    (hb : ∀ (kV doc pm : Value) (an : Option Addr) (cdv ct : Value) (us : List Value), us.length = ps.length → bindArgs (PySem.W.fnOf x q (defArgs st) (defBody st) (defScope st) .none kV doc pm an cdv ct) ⟨us, []⟩ = pure (ps.zip us)) : Own P w K mg base 1 x (fun _ _ _ _ => False) :=
  own_ok F hm S hb (fun _ _ _ _ h => h.elim) fun _ _ _ _ _ _ _ _ _ h => h.elim
def sp_eqI : Sp := fun vs H Q _ => ∃ i : Int, vs = [.int i, .int i] ∧ Q (.bl true) H
def sp_eqL : Sp := fun vs H Q _ => ∃ (a b : Addr) (ns : List Nat), vs = [.ref a, .ref b] ∧ H a = some (.lst (nvs ns)) ∧ H b = some (.lst (nvs ns)) ∧ ns.length ≤ 50000 ∧ Q (.bl true) H
def sp_eqT : Sp := fun vs H Q _ => ∃ (a b : Addr) (e : Nat × Nat), vs = [.ref a, .ref b] ∧ H a = some (.tup [nv e.1, nv e.2]) ∧ H b = some (.tup [nv e.1, nv e.2]) ∧ Q (.bl true) H
def sp_eqE : Sp := fun vs H Q _ => ∃ (a b : Addr) (as bs : List Addr) (es : List (Nat × Nat)), vs = [.ref a, .ref b] ∧ H a = some (.lst (as.map V.ref)) ∧ PrsAt H as es ∧ H b = some (.lst (bs.map V.ref)) ∧ PrsAt H bs es ∧ es.length ≤ 50000 ∧ Q (.bl true) H
theorem o_eqI {f : Addr} {fd : FuncData} (F : FnP K "_law_equal" "_law_equal" s__law_equal f fd) (hm : mg "_law_equal" = some (.ref f)) (T : Tx mg) (D__law_all_equal : Own P w K mg base 1 "_law_all_equal" (fun _ _ _ _ => False))  : Own P w K mg base 2 "_law_equal" sp_eqI := by
  have sc : FnScope ["_law_actual", "_law_due"] ["_law_actual", "_law_due"] (defScope s__law_equal) := ⟨rfl, rfl, rfl, by decide +kernel, rfl, by decide +kernel, by decide +kernel⟩
  refine own_ok F hm sc (fun _ _ _ _ _ _ us hl => match us, hl with | [_, _], _ => rfl) (fun vs H Q E h => ?_) (fun cdv A outer s H vs Q E hr h => ?_)
  · obtain ⟨i, rfl, _⟩ := h; rfl
  · obtain ⟨i, rfl, q⟩ := h
    have hu := hu_of hr
    refine ⟨_, (pss_cons (ps_if (pt_val (pe_callB call_isi (by rfl) T.isi (by decide +kernel) (pa_cons (pv 1) (pa_cons (pe_bltn (v := .ty "list") (by rfl) T.list (by decide +kernel) rfl) pa_nil)))) (pss_cons (ps_if (PW.pt (pw_or (pt_not (pt_val (pe_callB call_isi (by rfl) T.isi (by decide +kernel) (pa_cons (pv 0) (pa_cons (pe_bltn (v := .ty "list") (by rfl) T.list (by decide +kernel) rfl) pa_nil))))) (pw_or1 (pt_cmpR op_ne (pe_callB call_len_seq (by rfl) T.len (by decide +kernel) (pa_cons (pv 0) pa_nil)) (pe_callB call_len_seq (by rfl) T.len (by decide +kernel) (pa_cons (pv 1) pa_nil)) (nomark _))))) (pss_one (ps_ret pe_bl)) pss_nil) (pss_one (ps_ret (pe_own D__law_all_equal (hr.mono (by decide)) (by rfl) (pa_cons (pv 0) (pa_cons (pv 1) pa_nil)))))) pss_nil) 
      (pss_cons (ps_if (pt_val (pe_callB call_isi (by rfl) T.isi (by decide +kernel) (pa_cons (pv 1) (pa_cons (pe_bltn (v := .ty "tuple") (by rfl) T.tuple (by decide +kernel) rfl) pa_nil)))) (pss_cons (ps_if (PW.pt (pw_or (pt_not (pt_val (pe_callB call_isi (by rfl) T.isi (by decide +kernel) (pa_cons (pv 0) (pa_cons (pe_bltn (v := .ty "tuple") (by rfl) T.tuple (by decide +kernel) rfl) pa_nil))))) (pw_or1 (pt_cmpR op_ne (pe_callB call_len_seq (by rfl) T.len (by decide +kernel) (pa_cons (pv 0) pa_nil)) (pe_callB call_len_seq (by rfl) T.len (by decide +kernel) (pa_cons (pv 1) pa_nil)) (nomark _))))) (pss_one (ps_ret pe_bl)) pss_nil) (pss_one (ps_ret (pe_own D__law_all_equal (hr.mono (by decide)) (by rfl) (pa_cons (pv 0) (pa_cons (pv 1) pa_nil)))))) pss_nil) 
      (pss_cons (ps_if (pt_val (pe_callB call_isi (by rfl) T.isi (by decide +kernel) (pa_cons (pv 1) (pa_cons (pe_bltn (v := .ty "bool") (by rfl) T.bool (by decide +kernel) rfl) pa_nil)))) (pss_one (ps_ret (pe_and (pe_callB call_isi (by rfl) T.isi (by decide +kernel) (pa_cons (pv 0) (pa_cons (pe_bltn (v := .ty "bool") (by rfl) T.bool (by decide +kernel) rfl) pa_nil))) (pe_one (pe_cmpR op_eq (pv 0) (pv 1) (nomark _)))))) pss_nil) 
      (pss_cons (ps_if (pt_val (pe_callB call_isi (by rfl) T.isi (by decide +kernel) (pa_cons (pv 1) (pa_cons (pe_bltn (v := .ty "int") (by rfl) T.int (by decide +kernel) rfl) pa_nil)))) (pss_one (ps_ret (pe_and (pe_callB call_isi (by rfl) T.isi (by decide +kernel) (pa_cons (pv 0) (pa_cons (pe_bltn (v := .ty "int") (by rfl) T.int (by decide +kernel) rfl) pa_nil))) (pe_and (pe_not (pe_callB call_isi (by rfl) T.isi (by decide +kernel) (pa_cons (pv 0) (pa_cons (pe_bltn (v := .ty "bool") (by rfl) T.bool (by decide +kernel) rfl) pa_nil)))) (pe_one (pe_cmpR op_eq (pv 0) (pv 1) (nomark _))))))) pss_nil) 
      (pss_cons (ps_if (pt_val (pe_callB call_isi (by rfl) T.isi (by decide +kernel) (pa_cons (pv 1) (pa_cons (pe_bltn (v := .ty "str") (by rfl) T.str (by decide +kernel) rfl) pa_nil)))) (pss_one (ps_ret (pe_and (pe_callB call_isi (by rfl) T.isi (by decide +kernel) (pa_cons (pv 0) (pa_cons (pe_bltn (v := .ty "str") (by rfl) T.str (by decide +kernel) rfl) pa_nil))) (pe_one (pe_cmpR op_eq (pv 0) (pv 1) (nomark _)))))) pss_nil) 
      (pss_one (ps_ret (pe_cmp (pc_isN (pv 0)))))))))), ?_⟩
    refine ⟨_, rfl, _, _, _, _, false, rfl, .ty _, .base (.int _), kit_ty (by decide +kernel), false, rfl, ?_⟩
    refine iteF ?_
    refine ⟨_, rfl, _, _, _, _, false, rfl, .ty _, .base (.int _), kit_ty (by decide +kernel), false, rfl, ?_⟩
    refine iteF ?_
    refine ⟨_, rfl, _, _, _, _, false, rfl, .ty _, .base (.int _), kit_ty (by decide +kernel), false, rfl, ?_⟩
    refine iteF ?_
    refine ⟨_, rfl, _, _, _, _, true, rfl, .ty _, .base (.int _), kit_ty (by decide +kernel), true, rfl, ?_⟩
    refine iteT ?_
    refine ⟨_, rfl, _, _, _, _, true, rfl, .ty _, .base (.int _), kit_ty (by decide +kernel), true, rfl, ?_⟩
    refine ⟨_, rfl, _, _, _, _, false, rfl, .ty _, .base (.int _), kit_ty (by decide +kernel), false, rfl, true, rfl, ?_⟩
    refine ⟨_, rfl, _, rfl, rfl, ?_⟩
    exact qT rfl q
theorem o_aeL {f : Addr} {fd : FuncData} (F : FnP K "_law_all_equal" "_law_all_equal" s__law_all_equal f fd) (hm : mg "_law_all_equal" = some (.ref f)) (T : Tx mg) (D__law_equal : Own P w K mg base 2 "_law_equal" sp_eqI)  : Own P w K mg base 3 "_law_all_equal" sp_eqL := by
  have sc : FnScope ["_law_actual", "_law_due", "_law_k"] ["_law_actual", "_law_due"] (defScope s__law_all_equal) := ⟨rfl, rfl, rfl, by decide +kernel, rfl, by decide +kernel, by decide +kernel⟩
  refine own_ok F hm sc (fun _ _ _ _ _ _ us hl => match us, hl with | [_, _], _ => rfl) (fun vs H Q E h => ?_) (fun cdv A outer s H vs Q E hr h => ?_)
  · obtain ⟨a, b, ns, rfl, _⟩ := h; rfl
  · obtain ⟨a, b, ns, rfl, ha, hb, hl, q⟩ := h
    have hu := hu_of hr
    refine ⟨_, (pss_cons (ps_for PassesOwn.never rfl (pi_range1 (by rfl) T.range (pa_cons (pe_callB call_len_seq (by rfl) T.len (by decide +kernel) (pa_cons (pv 1) pa_nil)) pa_nil)) (pg_name (i := 2) sc.nd rfl (Or.inl rfl)) (pss_one (ps_if (pt_not (pt_val (pe_own D__law_equal (hr.mono (by decide)) (by rfl) (pa_cons (pe_ix ix_list (pv 0) (pv 2) (fun _ _ => rfl)) (pa_cons (pe_ix ix_list (pv 1) (pv 2) (fun _ _ => rfl)) pa_nil))))) (pss_one (ps_ret pe_bl)) pss_nil))) 
      (pss_one (ps_ret pe_bl))), ?_⟩
    refine ⟨_, rfl, _, _, rfl, .inl (SqL.of hb), _, rfl, by rw [nvs_len]; omega, by rw [nvs_len]; omega, ?_⟩
    rw [Int.toNat_natCast]
    refine for_range (lo := 0) (n := (nvs ns).length) (fun i σ' H' => (∃ v, σ' = [some (.ref a), some (.ref b), v]) ∧ H' = H) ⟨⟨_, rfl⟩, rfl⟩ ?_ ?_
    · rintro i σ' H' hi ⟨⟨v, rfl⟩, rfl⟩
      have ei : (0 : Int) + (i : Int) = ((i : Nat) : Int) := Int.zero_add _
      rw [ei]
      rw [nvs_len] at hi
      have g := nvs_get (getD_of (ns := ns) hi)
      refine ⟨_, rfl, _, rfl, _, _, _, _, rfl, rfl, SqL.of ha, atI_nat g, _, rfl, _, rfl, _, _, _, _, rfl, rfl, SqL.of hb, atI_nat g, _, rfl, true, rfl, ?_⟩
      exact iteF ⟨⟨_, rfl⟩, rfl⟩
    · rintro σ' H' ⟨⟨v, rfl⟩, rfl⟩
      exact q
theorem o_aeT {f : Addr} {fd : FuncData} (F : FnP K "_law_all_equal" "_law_all_equal" s__law_all_equal f fd) (hm : mg "_law_all_equal" = some (.ref f)) (T : Tx mg) (D__law_equal : Own P w K mg base 2 "_law_equal" sp_eqI)  : Own P w K mg base 3 "_law_all_equal" sp_eqT := by
  have sc : FnScope ["_law_actual", "_law_due", "_law_k"] ["_law_actual", "_law_due"] (defScope s__law_all_equal) := ⟨rfl, rfl, rfl, by decide +kernel, rfl, by decide +kernel, by decide +kernel⟩
  refine own_ok F hm sc (fun _ _ _ _ _ _ us hl => match us, hl with | [_, _], _ => rfl) (fun vs H Q E h => ?_) (fun cdv A outer s H vs Q E hr h => ?_)
  · obtain ⟨a, b, e, rfl, _⟩ := h; rfl
  · obtain ⟨a, b, e, rfl, ha, hb, q⟩ := h
    have hu := hu_of hr
    refine ⟨_, (pss_cons (ps_for PassesOwn.never rfl (pi_range1 (by rfl) T.range (pa_cons (pe_callB call_len_seq (by rfl) T.len (by decide +kernel) (pa_cons (pv 1) pa_nil)) pa_nil)) (pg_name (i := 2) sc.nd rfl (Or.inl rfl)) (pss_one (ps_if (pt_not (pt_val (pe_own D__law_equal (hr.mono (by decide)) (by rfl) (pa_cons (pe_ix ix_tup (pv 0) (pv 2) (fun _ _ => rfl)) (pa_cons (pe_ix ix_tup (pv 1) (pv 2) (fun _ _ => rfl)) pa_nil))))) (pss_one (ps_ret pe_bl)) pss_nil))) 
      (pss_one (ps_ret pe_bl))), ?_⟩
    refine ⟨_, rfl, _, _, rfl, .inr (SqT.of hb), _, rfl, by simp only [List.length_cons, List.length_nil]; omega, by simp only [List.length_cons, List.length_nil]; omega, ?_⟩
    refine for_range (lo := 0) (n := 2) (fun i σ' H' => (∃ v, σ' = [some (.ref a), some (.ref b), v]) ∧ H' = H) ⟨⟨_, rfl⟩, rfl⟩ ?_ ?_
    · rintro i σ' H' hi ⟨⟨v, rfl⟩, rfl⟩
      have ei : (0 : Int) + (i : Int) = ((i : Nat) : Int) := Int.zero_add _
      rw [ei]
      have g : ∃ x : Nat, [nv e.1, nv e.2][i]? = some (nv x) := by
        match i, hi with
        | 0, _ => exact ⟨_, rfl⟩
        | 1, _ => exact ⟨_, rfl⟩
      obtain ⟨x, g⟩ := g
      refine ⟨_, rfl, _, rfl, _, _, _, _, rfl, rfl, SqT.of ha, atI_nat g, _, rfl, _, rfl, _, _, _, _, rfl, rfl, SqT.of hb, atI_nat g, _, rfl, true, rfl, ?_⟩
      exact iteF ⟨⟨_, rfl⟩, rfl⟩
    · rintro σ' H' ⟨⟨v, rfl⟩, rfl⟩
      exact q
theorem o_eqL {f : Addr} {fd : FuncData} (F : FnP K "_law_equal" "_law_equal" s__law_equal f fd) (hm : mg "_law_equal" = some (.ref f)) (T : Tx mg) (D__law_all_equal : Own P w K mg base 3 "_law_all_equal" sp_eqL)  : Own P w K mg base 4 "_law_equal" sp_eqL := by
  have sc : FnScope ["_law_actual", "_law_due"] ["_law_actual", "_law_due"] (defScope s__law_equal) := ⟨rfl, rfl, rfl, by decide +kernel, rfl, by decide +kernel, by decide +kernel⟩
  refine own_ok F hm sc (fun _ _ _ _ _ _ us hl => match us, hl with | [_, _], _ => rfl) (fun vs H Q E h => ?_) (fun cdv A outer s H vs Q E hr h => ?_)
  · obtain ⟨a, b, ns, rfl, _⟩ := h; rfl
  · obtain ⟨a, b, ns, rfl, ha, hb, hl, q⟩ := h
    have hu := hu_of hr
    refine ⟨_, (pss_cons (ps_if (pt_val (pe_callB call_isi (by rfl) T.isi (by decide +kernel) (pa_cons (pv 1) (pa_cons (pe_bltn (v := .ty "list") (by rfl) T.list (by decide +kernel) rfl) pa_nil)))) (pss_cons (ps_if (PW.pt (pw_or (pt_not (pt_val (pe_callB call_isi (by rfl) T.isi (by decide +kernel) (pa_cons (pv 0) (pa_cons (pe_bltn (v := .ty "list") (by rfl) T.list (by decide +kernel) rfl) pa_nil))))) (pw_or1 (pt_cmpR op_ne (pe_callB call_len_seq (by rfl) T.len (by decide +kernel) (pa_cons (pv 0) pa_nil)) (pe_callB call_len_seq (by rfl) T.len (by decide +kernel) (pa_cons (pv 1) pa_nil)) (nomark _))))) (pss_one (ps_ret pe_bl)) pss_nil) (pss_one (ps_ret (pe_own D__law_all_equal (hr.mono (by decide)) (by rfl) (pa_cons (pv 0) (pa_cons (pv 1) pa_nil)))))) pss_nil) 
      (pss_cons (ps_if (pt_val (pe_callB call_isi (by rfl) T.isi (by decide +kernel) (pa_cons (pv 1) (pa_cons (pe_bltn (v := .ty "tuple") (by rfl) T.tuple (by decide +kernel) rfl) pa_nil)))) (pss_cons (ps_if (PW.pt (pw_or (pt_not (pt_val (pe_callB call_isi (by rfl) T.isi (by decide +kernel) (pa_cons (pv 0) (pa_cons (pe_bltn (v := .ty "tuple") (by rfl) T.tuple (by decide +kernel) rfl) pa_nil))))) (pw_or1 (pt_cmpR op_ne (pe_callB call_len_seq (by rfl) T.len (by decide +kernel) (pa_cons (pv 0) pa_nil)) (pe_callB call_len_seq (by rfl) T.len (by decide +kernel) (pa_cons (pv 1) pa_nil)) (nomark _))))) (pss_one (ps_ret pe_bl)) pss_nil) (pss_one (ps_ret (pe_own D__law_all_equal (hr.mono (by decide)) (by rfl) (pa_cons (pv 0) (pa_cons (pv 1) pa_nil)))))) pss_nil) 
      (pss_cons (ps_if (pt_val (pe_callB call_isi (by rfl) T.isi (by decide +kernel) (pa_cons (pv 1) (pa_cons (pe_bltn (v := .ty "bool") (by rfl) T.bool (by decide +kernel) rfl) pa_nil)))) (pss_one (ps_ret (pe_and (pe_callB call_isi (by rfl) T.isi (by decide +kernel) (pa_cons (pv 0) (pa_cons (pe_bltn (v := .ty "bool") (by rfl) T.bool (by decide +kernel) rfl) pa_nil))) (pe_one (pe_cmpR op_eq (pv 0) (pv 1) (nomark _)))))) pss_nil) 
      (pss_cons (ps_if (pt_val (pe_callB call_isi (by rfl) T.isi (by decide +kernel) (pa_cons (pv 1) (pa_cons (pe_bltn (v := .ty "int") (by rfl) T.int (by decide +kernel) rfl) pa_nil)))) (pss_one (ps_ret (pe_and (pe_callB call_isi (by rfl) T.isi (by decide +kernel) (pa_cons (pv 0) (pa_cons (pe_bltn (v := .ty "int") (by rfl) T.int (by decide +kernel) rfl) pa_nil))) (pe_and (pe_not (pe_callB call_isi (by rfl) T.isi (by decide +kernel) (pa_cons (pv 0) (pa_cons (pe_bltn (v := .ty "bool") (by rfl) T.bool (by decide +kernel) rfl) pa_nil)))) (pe_one (pe_cmpR op_eq (pv 0) (pv 1) (nomark _))))))) pss_nil) 
      (pss_cons (ps_if (pt_val (pe_callB call_isi (by rfl) T.isi (by decide +kernel) (pa_cons (pv 1) (pa_cons (pe_bltn (v := .ty "str") (by rfl) T.str (by decide +kernel) rfl) pa_nil)))) (pss_one (ps_ret (pe_and (pe_callB call_isi (by rfl) T.isi (by decide +kernel) (pa_cons (pv 0) (pa_cons (pe_bltn (v := .ty "str") (by rfl) T.str (by decide +kernel) rfl) pa_nil))) (pe_one (pe_cmpR op_eq (pv 0) (pv 1) (nomark _)))))) pss_nil) 
      (pss_one (ps_ret (pe_cmp (pc_isN (pv 0)))))))))), ?_⟩
    refine ⟨_, rfl, _, _, _, _, true, rfl, .ty _, .base (.lst hb), kit_ty (by decide +kernel), true, rfl, ?_⟩
    refine iteT ?_
    refine ⟨_, rfl, _, _, _, _, true, rfl, .ty _, .base (.lst ha), kit_ty (by decide +kernel), true, rfl, ?_⟩
    refine iteF ?_
    refine ⟨_, rfl, _, _, rfl, .inl (SqL.of ha), _, rfl, _, _, rfl, .inl (SqL.of hb), rfl, false, bNT rfl, ?_⟩
    refine iteF ?_
    exact ⟨_, rfl, _, rfl, a, b, ns, rfl, ha, hb, hl, q⟩
theorem o_eqT {f : Addr} {fd : FuncData} (F : FnP K "_law_equal" "_law_equal" s__law_equal f fd) (hm : mg "_law_equal" = some (.ref f)) (T : Tx mg) (D__law_all_equal : Own P w K mg base 3 "_law_all_equal" sp_eqT)  : Own P w K mg base 4 "_law_equal" sp_eqT := by
  have sc : FnScope ["_law_actual", "_law_due"] ["_law_actual", "_law_due"] (defScope s__law_equal) := ⟨rfl, rfl, rfl, by decide +kernel, rfl, by decide +kernel, by decide +kernel⟩
  refine own_ok F hm sc (fun _ _ _ _ _ _ us hl => match us, hl with | [_, _], _ => rfl) (fun vs H Q E h => ?_) (fun cdv A outer s H vs Q E hr h => ?_)
  · obtain ⟨a, b, e, rfl, _⟩ := h; rfl
  · obtain ⟨a, b, e, rfl, ha, hb, q⟩ := h
    have hu := hu_of hr
    refine ⟨_, (pss_cons (ps_if (pt_val (pe_callB call_isi (by rfl) T.isi (by decide +kernel) (pa_cons (pv 1) (pa_cons (pe_bltn (v := .ty "list") (by rfl) T.list (by decide +kernel) rfl) pa_nil)))) (pss_cons (ps_if (PW.pt (pw_or (pt_not (pt_val (pe_callB call_isi (by rfl) T.isi (by decide +kernel) (pa_cons (pv 0) (pa_cons (pe_bltn (v := .ty "list") (by rfl) T.list (by decide +kernel) rfl) pa_nil))))) (pw_or1 (pt_cmpR op_ne (pe_callB call_len_seq (by rfl) T.len (by decide +kernel) (pa_cons (pv 0) pa_nil)) (pe_callB call_len_seq (by rfl) T.len (by decide +kernel) (pa_cons (pv 1) pa_nil)) (nomark _))))) (pss_one (ps_ret pe_bl)) pss_nil) (pss_one (ps_ret (pe_own D__law_all_equal (hr.mono (by decide)) (by rfl) (pa_cons (pv 0) (pa_cons (pv 1) pa_nil)))))) pss_nil) 
      (pss_cons (ps_if (pt_val (pe_callB call_isi (by rfl) T.isi (by decide +kernel) (pa_cons (pv 1) (pa_cons (pe_bltn (v := .ty "tuple") (by rfl) T.tuple (by decide +kernel) rfl) pa_nil)))) (pss_cons (ps_if (PW.pt (pw_or (pt_not (pt_val (pe_callB call_isi (by rfl) T.isi (by decide +kernel) (pa_cons (pv 0) (pa_cons (pe_bltn (v := .ty "tuple") (by rfl) T.tuple (by decide +kernel) rfl) pa_nil))))) (pw_or1 (pt_cmpR op_ne (pe_callB call_len_seq (by rfl) T.len (by decide +kernel) (pa_cons (pv 0) pa_nil)) (pe_callB call_len_seq (by rfl) T.len (by decide +kernel) (pa_cons (pv 1) pa_nil)) (nomark _))))) (pss_one (ps_ret pe_bl)) pss_nil) (pss_one (ps_ret (pe_own D__law_all_equal (hr.mono (by decide)) (by rfl) (pa_cons (pv 0) (pa_cons (pv 1) pa_nil)))))) pss_nil) 
      (pss_cons (ps_if (pt_val (pe_callB call_isi (by rfl) T.isi (by decide +kernel) (pa_cons (pv 1) (pa_cons (pe_bltn (v := .ty "bool") (by rfl) T.bool (by decide +kernel) rfl) pa_nil)))) (pss_one (ps_ret (pe_and (pe_callB call_isi (by rfl) T.isi (by decide +kernel) (pa_cons (pv 0) (pa_cons (pe_bltn (v := .ty "bool") (by rfl) T.bool (by decide +kernel) rfl) pa_nil))) (pe_one (pe_cmpR op_eq (pv 0) (pv 1) (nomark _)))))) pss_nil) 
      (pss_cons (ps_if (pt_val (pe_callB call_isi (by rfl) T.isi (by decide +kernel) (pa_cons (pv 1) (pa_cons (pe_bltn (v := .ty "int") (by rfl) T.int (by decide +kernel) rfl) pa_nil)))) (pss_one (ps_ret (pe_and (pe_callB call_isi (by rfl) T.isi (by decide +kernel) (pa_cons (pv 0) (pa_cons (pe_bltn (v := .ty "int") (by rfl) T.int (by decide +kernel) rfl) pa_nil))) (pe_and (pe_not (pe_callB call_isi (by rfl) T.isi (by decide +kernel) (pa_cons (pv 0) (pa_cons (pe_bltn (v := .ty "bool") (by rfl) T.bool (by decide +kernel) rfl) pa_nil)))) (pe_one (pe_cmpR op_eq (pv 0) (pv 1) (nomark _))))))) pss_nil) 
      (pss_cons (ps_if (pt_val (pe_callB call_isi (by rfl) T.isi (by decide +kernel) (pa_cons (pv 1) (pa_cons (pe_bltn (v := .ty "str") (by rfl) T.str (by decide +kernel) rfl) pa_nil)))) (pss_one (ps_ret (pe_and (pe_callB call_isi (by rfl) T.isi (by decide +kernel) (pa_cons (pv 0) (pa_cons (pe_bltn (v := .ty "str") (by rfl) T.str (by decide +kernel) rfl) pa_nil))) (pe_one (pe_cmpR op_eq (pv 0) (pv 1) (nomark _)))))) pss_nil) 
      (pss_one (ps_ret (pe_cmp (pc_isN (pv 0)))))))))), ?_⟩
    refine ⟨_, rfl, _, _, _, _, false, rfl, .ty _, .base (.tup hb), kit_ty (by decide +kernel), false, rfl, ?_⟩
    refine iteF ?_
    refine ⟨_, rfl, _, _, _, _, true, rfl, .ty _, .base (.tup hb), kit_ty (by decide +kernel), true, rfl, ?_⟩
    refine iteT ?_
    refine ⟨_, rfl, _, _, _, _, true, rfl, .ty _, .base (.tup ha), kit_ty (by decide +kernel), true, rfl, ?_⟩
    refine iteF ?_
    refine ⟨_, rfl, _, _, rfl, .inr (SqT.of ha), _, rfl, _, _, rfl, .inr (SqT.of hb), rfl, false, bNT rfl, ?_⟩
    refine iteF ?_
    exact ⟨_, rfl, _, rfl, a, b, e, rfl, ha, hb, q⟩
theorem o_aeE {f : Addr} {fd : FuncData} (F : FnP K "_law_all_equal" "_law_all_equal" s__law_all_equal f fd) (hm : mg "_law_all_equal" = some (.ref f)) (T : Tx mg) (D__law_equal : Own P w K mg base 4 "_law_equal" sp_eqT)  : Own P w K mg base 5 "_law_all_equal" sp_eqE := by
  have sc : FnScope ["_law_actual", "_law_due", "_law_k"] ["_law_actual", "_law_due"] (defScope s__law_all_equal) := ⟨rfl, rfl, rfl, by decide +kernel, rfl, by decide +kernel, by decide +kernel⟩
  refine own_ok F hm sc (fun _ _ _ _ _ _ us hl => match us, hl with | [_, _], _ => rfl) (fun vs H Q E h => ?_) (fun cdv A outer s H vs Q E hr h => ?_)
  · obtain ⟨a, b, as, bs, es, rfl, _⟩ := h; rfl
  · obtain ⟨a, b, as, bs, es, rfl, ha, pa, hb, pb, hl, q⟩ := h
    have hu := hu_of hr
    refine ⟨_, (pss_cons (ps_for PassesOwn.never rfl (pi_range1 (by rfl) T.range (pa_cons (pe_callB call_len_seq (by rfl) T.len (by decide +kernel) (pa_cons (pv 1) pa_nil)) pa_nil)) (pg_name (i := 2) sc.nd rfl (Or.inl rfl)) (pss_one (ps_if (pt_not (pt_val (pe_own D__law_equal (hr.mono (by decide)) (by rfl) (pa_cons (pe_ix ix_list (pv 0) (pv 2) (fun _ _ => rfl)) (pa_cons (pe_ix ix_list (pv 1) (pv 2) (fun _ _ => rfl)) pa_nil))))) (pss_one (ps_ret pe_bl)) pss_nil))) 
      (pss_one (ps_ret pe_bl))), ?_⟩
    have lb : (bs.map V.ref).length = es.length := by rw [List.length_map]; exact pb.length
    refine ⟨_, rfl, _, _, rfl, .inl (SqL.of hb), _, rfl, by rw [lb]; omega, by rw [lb]; omega, ?_⟩
    rw [Int.toNat_natCast, lb]
    refine for_range (lo := 0) (n := es.length) (fun i σ' H' => (∃ v, σ' = [some (.ref a), some (.ref b), v]) ∧ H' = H) ⟨⟨_, rfl⟩, rfl⟩ ?_ ?_
    · rintro i σ' H' hi ⟨⟨v, rfl⟩, rfl⟩
      have ei : (0 : Int) + (i : Int) = ((i : Nat) : Int) := Int.zero_add _
      rw [ei]
      have ga : as[i]? = some (as[i]'(by rw [pa.length]; exact hi)) := List.getElem?_eq_getElem _
      have gb : bs[i]? = some (bs[i]'(by rw [pb.length]; exact hi)) := List.getElem?_eq_getElem _
      obtain ⟨e1, h1, t1⟩ := pa.get ga
      obtain ⟨e2, h2, t2⟩ := pb.get gb
      rw [h1] at h2; cases h2
      refine ⟨_, rfl, _, rfl, _, _, _, _, rfl, rfl, SqL.of ha, atI_nat (refs_get ga), _, rfl, _, rfl, _, _, _, _, rfl, rfl, SqL.of hb, atI_nat (refs_get gb), _, _, e1, rfl, t1, t2, true, rfl, ?_⟩
      exact iteF ⟨⟨_, rfl⟩, rfl⟩
    · rintro σ' H' ⟨⟨v, rfl⟩, rfl⟩
      exact q
theorem o_eqE {f : Addr} {fd : FuncData} (F : FnP K "_law_equal" "_law_equal" s__law_equal f fd) (hm : mg "_law_equal" = some (.ref f)) (T : Tx mg) (D__law_all_equal : Own P w K mg base 5 "_law_all_equal" sp_eqE)  : Own P w K mg base 6 "_law_equal" sp_eqE := by
  have sc : FnScope ["_law_actual", "_law_due"] ["_law_actual", "_law_due"] (defScope s__law_equal) := ⟨rfl, rfl, rfl, by decide +kernel, rfl, by decide +kernel, by decide +kernel⟩
  refine own_ok F hm sc (fun _ _ _ _ _ _ us hl => match us, hl with | [_, _], _ => rfl) (fun vs H Q E h => ?_) (fun cdv A outer s H vs Q E hr h => ?_)
  · obtain ⟨a, b, as, bs, es, rfl, _⟩ := h; rfl
  · obtain ⟨a, b, as, bs, es, rfl, ha, pa, hb, pb, hl, q⟩ := h
    have hu := hu_of hr
    refine ⟨_, (pss_cons (ps_if (pt_val (pe_callB call_isi (by rfl) T.isi (by decide +kernel) (pa_cons (pv 1) (pa_cons (pe_bltn (v := .ty "list") (by rfl) T.list (by decide +kernel) rfl) pa_nil)))) (pss_cons (ps_if (PW.pt (pw_or (pt_not (pt_val (pe_callB call_isi (by rfl) T.isi (by decide +kernel) (pa_cons (pv 0) (pa_cons (pe_bltn (v := .ty "list") (by rfl) T.list (by decide +kernel) rfl) pa_nil))))) (pw_or1 (pt_cmpR op_ne (pe_callB call_len_seq (by rfl) T.len (by decide +kernel) (pa_cons (pv 0) pa_nil)) (pe_callB call_len_seq (by rfl) T.len (by decide +kernel) (pa_cons (pv 1) pa_nil)) (nomark _))))) (pss_one (ps_ret pe_bl)) pss_nil) (pss_one (ps_ret (pe_own D__law_all_equal (hr.mono (by decide)) (by rfl) (pa_cons (pv 0) (pa_cons (pv 1) pa_nil)))))) pss_nil) 
      (pss_cons (ps_if (pt_val (pe_callB call_isi (by rfl) T.isi (by decide +kernel) (pa_cons (pv 1) (pa_cons (pe_bltn (v := .ty "tuple") (by rfl) T.tuple (by decide +kernel) rfl) pa_nil)))) (pss_cons (ps_if (PW.pt (pw_or (pt_not (pt_val (pe_callB call_isi (by rfl) T.isi (by decide +kernel) (pa_cons (pv 0) (pa_cons (pe_bltn (v := .ty "tuple") (by rfl) T.tuple (by decide +kernel) rfl) pa_nil))))) (pw_or1 (pt_cmpR op_ne (pe_callB call_len_seq (by rfl) T.len (by decide +kernel) (pa_cons (pv 0) pa_nil)) (pe_callB call_len_seq (by rfl) T.len (by decide +kernel) (pa_cons (pv 1) pa_nil)) (nomark _))))) (pss_one (ps_ret pe_bl)) pss_nil) (pss_one (ps_ret (pe_own D__law_all_equal (hr.mono (by decide)) (by rfl) (pa_cons (pv 0) (pa_cons (pv 1) pa_nil)))))) pss_nil) 
      (pss_cons (ps_if (pt_val (pe_callB call_isi (by rfl) T.isi (by decide +kernel) (pa_cons (pv 1) (pa_cons (pe_bltn (v := .ty "bool") (by rfl) T.bool (by decide +kernel) rfl) pa_nil)))) (pss_one (ps_ret (pe_and (pe_callB call_isi (by rfl) T.isi (by decide +kernel) (pa_cons (pv 0) (pa_cons (pe_bltn (v := .ty "bool") (by rfl) T.bool (by decide +kernel) rfl) pa_nil))) (pe_one (pe_cmpR op_eq (pv 0) (pv 1) (nomark _)))))) pss_nil) 
      (pss_cons (ps_if (pt_val (pe_callB call_isi (by rfl) T.isi (by decide +kernel) (pa_cons (pv 1) (pa_cons (pe_bltn (v := .ty "int") (by rfl) T.int (by decide +kernel) rfl) pa_nil)))) (pss_one (ps_ret (pe_and (pe_callB call_isi (by rfl) T.isi (by decide +kernel) (pa_cons (pv 0) (pa_cons (pe_bltn (v := .ty "int") (by rfl) T.int (by decide +kernel) rfl) pa_nil))) (pe_and (pe_not (pe_callB call_isi (by rfl) T.isi (by decide +kernel) (pa_cons (pv 0) (pa_cons (pe_bltn (v := .ty "bool") (by rfl) T.bool (by decide +kernel) rfl) pa_nil)))) (pe_one (pe_cmpR op_eq (pv 0) (pv 1) (nomark _))))))) pss_nil) 
      (pss_cons (ps_if (pt_val (pe_callB call_isi (by rfl) T.isi (by decide +kernel) (pa_cons (pv 1) (pa_cons (pe_bltn (v := .ty "str") (by rfl) T.str (by decide +kernel) rfl) pa_nil)))) (pss_one (ps_ret (pe_and (pe_callB call_isi (by rfl) T.isi (by decide +kernel) (pa_cons (pv 0) (pa_cons (pe_bltn (v := .ty "str") (by rfl) T.str (by decide +kernel) rfl) pa_nil))) (pe_one (pe_cmpR op_eq (pv 0) (pv 1) (nomark _)))))) pss_nil) 
      (pss_one (ps_ret (pe_cmp (pc_isN (pv 0)))))))))), ?_⟩
    refine ⟨_, rfl, _, _, _, _, true, rfl, .ty _, .base (.lst hb), kit_ty (by decide +kernel), true, rfl, ?_⟩
    refine iteT ?_
    refine ⟨_, rfl, _, _, _, _, true, rfl, .ty _, .base (.lst ha), kit_ty (by decide +kernel), true, rfl, ?_⟩
    refine iteF ?_
    refine ⟨_, rfl, _, _, rfl, .inl (SqL.of ha), _, rfl, _, _, rfl, .inl (SqL.of hb), rfl, false, bNT (by rw [List.length_map, List.length_map, pa.length, pb.length]), ?_⟩
    refine iteF ?_
    exact ⟨_, rfl, _, rfl, a, b, as, bs, es, rfl, ha, pa, hb, pb, hl, q⟩
def sp__law_is_path : Sp := fun vs H Q _ => ∃ (q a : Addr) (n k : Nat) (las : List Addr) (L : Rows) (p : List Nat), vs = [.ref q, .ref a] ∧ H q = some (.lst (las.map V.ref)) ∧ ColsAt H las L ∧ L.length = n ∧ H a = some (.lst (nvs p)) ∧ CP n L (fun v => v) k p ∧ 1 ≤ k ∧ k ≤ 100 ∧ ∀ H', Same H H' → Q (.bl true) H'
theorem o__law_is_path {f : Addr} {fd : FuncData} (F : FnP K "_law_is_path" "_law_is_path" s__law_is_path f fd) (hm : mg "_law_is_path" = some (.ref f)) (T : Tx mg)   : Own P w K mg base 1 "_law_is_path" sp__law_is_path := by
  have sc : FnScope ["_law_near_here", "_law_nodes", "_law_k"] ["_law_near_here", "_law_nodes"] (defScope s__law_is_path) := ⟨rfl, rfl, rfl, by decide +kernel, rfl, by decide +kernel, by decide +kernel⟩
  refine own_ok F hm sc (fun _ _ _ _ _ _ us hl => match us, hl with | [_, _], _ => rfl) (fun vs H Q E h => ?_) (fun cdv A outer s H vs Q E hr h => ?_)
  · obtain ⟨q, a, n, k, las, L, p, rfl, _⟩ := h; rfl
  · obtain ⟨qa, a, n, k, las, L, p, rfl, hq, cols, hL, ha, cp, hk, hk2, q⟩ := h
    have hu := hu_of hr
    refine ⟨_, (pss_cons (ps_if (PW.pt (pw_or (pt_not (pt_val (pe_callB call_isi (by rfl) T.isi (by decide +kernel) (pa_cons (pv 1) (pa_cons (pe_bltn (v := .ty "list") (by rfl) T.list (by decide +kernel) rfl) pa_nil))))) (pw_or1 (pt_cmpR op_lt (pe_callB call_len_seq (by rfl) T.len (by decide +kernel) (pa_cons (pv 1) pa_nil)) pe_int (nomark _))))) (pss_one (ps_ret pe_bl)) pss_nil) 
      (pss_cons (ps_for PassesOwn.never rfl (pi_range1 (by rfl) T.range (pa_cons (pe_callB call_len_seq (by rfl) T.len (by decide +kernel) (pa_cons (pv 1) pa_nil)) pa_nil)) (pg_name (i := 2) sc.nd rfl (Or.inl rfl)) (pss_cons (ps_if (PW.pt (pw_or (pt_not (pt_val (pe_callB call_isi (by rfl) T.isi (by decide +kernel) (pa_cons (pe_ix ix_list (pv 1) (pv 2) (fun _ _ => rfl)) (pa_cons (pe_bltn (v := .ty "int") (by rfl) T.int (by decide +kernel) rfl) pa_nil))))) (pw_or (pt_val (pe_callB call_isi (by rfl) T.isi (by decide +kernel) (pa_cons (pe_ix ix_list (pv 1) (pv 2) (fun _ _ => rfl)) (pa_cons (pe_bltn (v := .ty "bool") (by rfl) T.bool (by decide +kernel) rfl) pa_nil)))) (pw_or1 (pt_not (pt_chain op_le op_lt pe_int (pe_ix ix_list (pv 1) (pv 2) (fun _ _ => rfl)) (pe_callB call_len_seq (by rfl) T.len (by decide +kernel) (pa_cons (pv 0) pa_nil)))))))) (pss_one (ps_ret pe_bl)) pss_nil) (pss_one (ps_if (PW.pt (pw_or (pt_cmpR op_in_seq (pe_ix ix_list (pv 1) (pv 2) (fun _ _ => rfl)) (pe_slice sl_list (pv 1) po_none (po_some (pv 2))) (by rfl)) (pw_or1 (PW.pt (pw_and (pt_cmpR op_gt (pv 2) pe_int (nomark _)) (pw_and1 (pt_cmpR op_notIn_seq (pe_ix ix_list (pv 1) (pv 2) (fun _ _ => rfl)) (pe_ix ix_list (pv 0) (pe_ix ix_list (pv 1) (pe_op op_sub (pv 2) pe_int) (fun _ _ => rfl)) (fun _ _ => rfl)) (by rfl)))))))) (pss_one (ps_ret pe_bl)) pss_nil)))) 
      (pss_one (ps_ret pe_bl)))), ?_⟩
    have pl := cp.len
    have nd := nd_of_map cp.nd
    have ll : (las.map V.ref).length = n := by rw [List.length_map, cols.length, hL]
    refine ⟨_, rfl, _, _, _, _, true, rfl, .ty _, .base (.lst ha), kit_ty (by decide +kernel), true, rfl, ?_⟩
    refine iteF ?_
    refine ⟨_, rfl, _, _, rfl, .inl (SqL.of ha), _, _, rfl, rfl, false, bF (by rw [nvs_len]; omega), ?_⟩
    refine iteF ?_
    refine ⟨_, rfl, _, _, rfl, .inl (SqL.of ha), _, rfl, by rw [nvs_len]; omega, by rw [nvs_len]; omega, ?_⟩
    rw [Int.toNat_natCast]
    refine for_range (lo := 0) (n := (nvs p).length) (fun i σ' H' => (∃ v, σ' = [some (.ref qa), some (.ref a), v]) ∧ Same H H') ⟨⟨_, rfl⟩, Same.refl _⟩ ?_ ?_
    · rintro i σ' H' hi ⟨⟨v, rfl⟩, s⟩
      have ei : (0 : Int) + (i : Int) = ((i : Nat) : Int) := Int.zero_add _
      rw [ei]
      rw [nvs_len] at hi
      have gi : p[i]? = some (p.getD i 0) := getD_of hi
      have g := nvs_get gi
      have hlt := cp.lt _ (List.mem_of_getElem? gi)
      have ea := s _ _ ha
      have eq' := s _ _ hq
      refine ⟨_, rfl, _, rfl, _, _, _, _, rfl, rfl, SqL.of ea, atI_nat g, _, _, _, _, true, rfl, .ty _, .base (.int _), kit_ty (by decide +kernel), true, rfl, ?_⟩
      refine iteF ?_
      refine ⟨_, rfl, _, rfl, _, _, _, _, rfl, rfl, SqL.of ea, atI_nat g, _, _, _, _, false, rfl, .ty _, .base (.int _), kit_ty (by decide +kernel), false, rfl, ?_⟩
      refine iteF ?_
      refine ⟨_, rfl, _, rfl, _, _, _, _, rfl, rfl, SqL.of ea, atI_nat g, _, _, rfl, rfl, true, bT (by omega), ?_⟩
      refine ⟨_, rfl, _, _, rfl, .inl (SqL.of eq'), _, _, rfl, rfl, true, bT (by rw [ll]; omega), ?_⟩
      refine iteF ?_
      refine ⟨_, rfl, _, rfl, _, _, _, _, rfl, rfl, SqL.of ea, atI_nat g, _, rfl, _, rfl, _, rfl, a, _, rfl, SqL.of ea, fun f1 hf1 => ?_⟩
      have hin : inV (nv (p.getD i 0)) (cutV (nvs p) none (some (i : Int))) = false := by
        rw [cut_to, inV_nvs]
        exact decide_eq_false (not_take nd gi)
      refine ⟨f1, _, rfl, .inl (SqL.of upd_same), rfl, by rw [cut_to]; exact flat_nvs _, false, congrArg V.bl hin, ?_⟩
      have s1 : Same H (upd H' f1 (.lst (cutV (nvs p) none (some (i : Int))))) := s.trans (Same.new hf1)
      generalize (upd H' f1 (.lst (cutV (nvs p) none (some (i : Int))))) = H2 at s1
      have ea := s1 _ _ ha
      have eq' := s1 _ _ hq
      refine ⟨_, rfl, _, _, rfl, rfl, _, rfl, ?_⟩
      refine ite2 (fun h => ?_) (fun h => ?_)
      · have hi0 : (0 : Int) < (i : Int) := of_decide_eq_true h
        have ei1 : (i : Int) - 1 = ((i - 1 : Nat) : Int) := by omega
        have gj : p[i - 1]? = some (p.getD (i - 1) 0) := getD_of (by omega)
        have hj := cp.lt _ (List.mem_of_getElem? gj)
        obtain ⟨ra, hra, era⟩ := cols.rowAt (v := p.getD (i - 1) 0) (by omega)
        have era := s1 _ _ era
        have adj : p.getD i 0 ∈ row L (p.getD (i - 1) 0) := cp.ch (i - 1) _ _ gj (by rw [show i - 1 + 1 = i by omega]; exact gi)
        have hin2 : inV (nv (p.getD i 0)) (nvs (row L (p.getD (i - 1) 0))) = true := by rw [inV_nvs]; exact decide_eq_true adj
        refine ⟨_, rfl, _, rfl, _, _, _, _, rfl, rfl, SqL.of ea, atI_nat g, _, rfl, _, rfl, _, rfl, _, _, rfl, rfl, _, _, _, nv (p.getD (i - 1) 0), rfl, rfl, SqL.of ea, by rw [ei1]; exact atI_nat (nvs_get gj), _, _, _, .ref ra, rfl, rfl, SqL.of eq', atI_nat (refs_get hra), ra, _, rfl, .inl (SqL.of era), rfl, flat_nvs _, false, ?_, ?_⟩
        · show V.bl (!inV (nv (p.getD i 0)) (nvs (row L (p.getD (i - 1) 0)))) = V.bl false
          rw [hin2]; rfl
        · exact iteF ⟨⟨_, rfl⟩, s1⟩
      · exact iteF ⟨⟨_, rfl⟩, s1⟩
    · rintro σ' H' ⟨⟨v, rfl⟩, s⟩
      exact q _ s
end
end K53
namespace K53
open PySem PySem.Spec PyProof.Rows L2
theorem bit_of (m v : Nat) : (V.int (Builtin.bitAnd ((m : Int) / 2 ^ ((v : Int)).toNat) 1) = V.int 0) ↔ m.testBit v = false := by
  have e1 : (m : Int) / 2 ^ ((v : Int)).toNat = ((m / 2 ^ v : Nat) : Int) := by
    rw [Int.toNat_natCast, Int.natCast_ediv, Int.natCast_pow]; rfl
  have e2 : Builtin.bitAnd ((m : Int) / 2 ^ ((v : Int)).toNat) 1 = ((1 &&& m / 2 ^ v : Nat) : Int) := by rw [e1, Nat.and_comm]; exact band _ 1
  rw [e2]
  have e3 : m.testBit v = (1 &&& (m >>> v) != 0) := rfl
  rw [e3, Nat.shiftRight_eq_div_pow]
  constructor
  · intro h
    have h1 : ((1 &&& m / 2 ^ v : Nat) : Int) = 0 := by injection h
    have h2 : 1 &&& m / 2 ^ v = 0 := by omega
    rw [h2]; rfl
  · intro h
    have h2 : 1 &&& m / 2 ^ v = 0 := by simpa using h
    rw [h2]; rfl
/-! ### dicts of seen pairs -/
def un : List Key → Nat × Nat
  | [.inl a, .inl b] => (a.toNat, b.toNat)
  | _ => (0, 0)
theorem un_lk (v m : Nat) : un (lk v m) = (v, m) := rfl
def KP (kvs : List (List Key × V)) : Prop := ∀ p ∈ kvs, ∃ v m : Nat, p.1 = lk v m
theorem KP.put {kvs : List (List Key × V)} (h : KP kvs) (v m : Nat) (x : V) : KP (putK kvs (lk v m) x) := by
  unfold putK
  split
  · intro p hp
    obtain ⟨q, hq, rfl⟩ := List.mem_map.mp hp
    by_cases e : q.1 = lk v m
    · exact ⟨v, m, by rw [if_pos e]; exact e⟩
    · obtain ⟨v', m', e'⟩ := h q hq
      exact ⟨v', m', by rw [if_neg e]; exact e'⟩
  · intro p hp
    rcases List.mem_append.mp hp with hp | hp
    · exact h p hp
    · exact ⟨v, m, by rw [List.mem_singleton.mp hp]⟩
theorem kp_prs {H : Hp} {kvs : List (List Key × V)} {bs : List Addr} (k : IsKeys H kvs bs) (h : KP kvs) : PrsAt H bs (kvs.map fun p => un p.1) := by
  unfold IsKeys at k
  induction k with
  | nil => exact .nil
  | @cons p b _ _ r t ih =>
    obtain ⟨v, m, e⟩ := h p (by simp)
    rw [List.map_cons]
    refine .cons ?_ (ih fun q hq => h q (List.mem_cons_of_mem _ hq))
    rw [e] at r ⊢
    exact r
theorem kp_mem {kvs : List (List Key × V)} (h : KP kvs) (v m : Nat) : (v, m) ∈ (kvs.map fun p => un p.1) ↔ (valV kvs (lk v m)).isSome = true := by
  rw [List.mem_map]
  constructor
  · rintro ⟨p, hp, e⟩
    obtain ⟨v', m', e'⟩ := h p hp
    rw [e', un_lk] at e
    cases e
    have : (lk v m, p.2) ∈ kvs := by rw [← e']; exact hp
    exact mem_valV this
  · intro e
    obtain ⟨x, hx⟩ := Option.isSome_iff_exists.mp e
    exact ⟨_, valV_mem hx, un_lk v m⟩
theorem nodup_len {n k : Nat} {L : Rows} {p : List Nat} (h : CP n L (fun v => v) k p) : k ≤ n := by
  have := nodup_le (nd_of_map h.nd) h.lt
  rw [h.len] at this
  exact this
section
variable {P : Program} {w : World} {K : PySem.W.Frag} {mg : Str → Option Value} {base : Heap}
def sp__law_longest : Sp := fun vs H Q _ => ∃ (q : Addr) (n : Nat) (las : List Addr) (L : Rows), vs = [.ref q] ∧ H q = some (.lst (las.map V.ref)) ∧ ColsAt H las L ∧ GR n L ∧ n ≤ 7 ∧
  ∀ (H' : Hp) (b : Nat), Same H H' → (∀ k, 1 ≤ k → (k ≤ b ↔ ∃ p, CP n L (fun v => v) k p)) → Q (nv b) H'
theorem o__law_longest {f : Addr} {fd : FuncData} (F : FnP K "_law_longest" "_law_longest" s__law_longest f fd) (hm : mg "_law_longest" = some (.ref f)) (T : Tx mg)   : Own P w K mg base 1 "_law_longest" sp__law_longest := by
  have sc : FnScope ["_law_near_here", "_law_best", "_law_rows", "_law_size", "_law_seen", "_law_row", "_law_v"] ["_law_near_here"] (defScope s__law_longest) := ⟨rfl, rfl, rfl, by decide +kernel, rfl, by decide +kernel, by decide +kernel⟩
  refine own_ok F hm sc (fun _ _ _ _ _ _ us hl => match us, hl with | [_], _ => rfl) (fun vs H Q E h => ?_) (fun cdv A outer s H vs Q E hr h => ?_)
  · obtain ⟨q, n, las, L, rfl, _⟩ := h; rfl
  · obtain ⟨qa, n, las, L, rfl, hq, cols, gr, hn, q⟩ := h
    have hu := hu_of hr
    refine ⟨_, (pss_cons (ps_set (i := 1) sc.nd rfl (Or.inl rfl) pe_int) 
      (pss_cons (ps_setLc (i := 2) (own := [("_law_v", 6)]) (g := gName 6) (tt := tYes) rfl sc.nd rfl rfl (sw_true rfl rfl rfl (by decide +kernel)) (pi_range1 (by rfl) T.range (pa_cons (pe_callB call_len_seq (by rfl) T.len (by decide +kernel) (pa_cons (pv 0) pa_nil)) pa_nil)) (blkOk_by (N := (["_law_near_here", "_law_best", "_law_rows", "_law_size", "_law_seen", "_law_row", "_law_v"] : List Str)) (sc := defScope s__law_longest) (by decide +kernel)) (fun _ _ _ _ _ => (pg_name (i := 6) sc.nd rfl (Or.inl rfl))) (fun _ _ _ _ _ => pts_nil) (fun _ _ _ _ _ => (pe_tup (pa_cons (pv 6) (pa_cons (pe_op op_shl pe_int (pv 6)) pa_nil))))) 
      (pss_cons (ps_for PassesOwn.never rfl (pi_range1 (by rfl) T.range (pa_cons (pe_callB call_len_seq (by rfl) T.len (by decide +kernel) (pa_cons (pv 0) pa_nil)) pa_nil)) (pg_name (i := 3) sc.nd rfl (Or.inl rfl)) (pss_cons (ps_if (pt_cmpR op_gt (pe_callB call_len_seq (by rfl) T.len (by decide +kernel) (pa_cons (pv 2) pa_nil)) pe_int (nomark _)) (pss_one (ps_set (i := 1) sc.nd rfl (Or.inl rfl) (pe_op op_add (pv 3) pe_int))) pss_nil) (pss_cons (ps_set (i := 4) sc.nd rfl (Or.inl rfl) pe_dnewT) (pss_cons (ps_for PassesOwn.never rfl (pi_list (pv 2)) (pg_name (i := 5) sc.nd rfl (Or.inl rfl)) (pss_one (ps_for PassesOwn.never rfl (pi_list (pe_ix ix_list (pv 0) (pe_ix ix_tup (pv 5) pe_int (fun _ _ => rfl)) (fun _ _ => rfl))) (pg_name (i := 6) sc.nd rfl (Or.inl rfl)) (pss_one (ps_if (pt_cmpR op_eq (pe_op op_and (pe_op op_shr (pe_ix ix_tup (pv 5) pe_int (fun _ _ => rfl)) (pv 6)) pe_int) pe_int (nomark _)) (pss_one (ps_dput hu (pv 4) (pe_tup (pa_cons (pv 6) (pa_cons (pe_op op_or (pe_ix ix_tup (pv 5) pe_int (fun _ _ => rfl)) (pe_op op_shl pe_int (pv 6))) pa_nil))) pe_bl rfl)) pss_nil))))) (pss_one (ps_set (i := 2) sc.nd rfl (Or.inl rfl) (pe_callTy (call_list_dT rfl) (by rfl) T.list (by decide +kernel) (pa_cons (pv 4) pa_nil)))))))) 
      (pss_one (ps_ret (pv 1)))))), ?_⟩
    have Ln : L.length = n := gr.ok.len
    have ll : (las.map V.ref).length = n := by rw [List.length_map, cols.length, Ln]
    refine ⟨_, rfl, _, _, rfl, .inl (SqL.of hq), _, rfl, by rw [ll]; omega, by rw [ll]; omega, fun D hD => ?_⟩
    rw [Int.toNat_natCast, ll]
    refine lc_map walk_range (fun i y H => ∃ t, y = .ref t ∧ t ≠ D ∧ H t = some (.tup [nv i, nv (2 ^ i)])) (by omega) hD (fun _ _ => trivial) (fun i y H H' ⟨t, h1, h2, h3⟩ k => ⟨t, h1, h2, k t _ h2 h3⟩) ySame_fn ?_ ?_
    · rintro i x H3 H4 Q' hi s ⟨ys, eD⟩ ⟨rfl, rfl⟩ kk
      refine ⟨rfl, _, rfl, _, rfl, _, _, rfl, rfl, ⟨by omega, by omega, by decide⟩, by show 2 ≤ sizeLine; decide, fun t ht => ?_⟩
      have ei : (0 : Int) + (i : Int) = ((i : Nat) : Int) := Int.zero_add _
      refine kk _ _ (Same.new ht) ⟨t, rfl, fun z => (by rw [z, eD] at ht; cases ht), ?_⟩
      rw [upd_same]
      refine congrArg some (congrArg HO.tup ?_)
      show [V.int ((0 : Int) + (i : Int)), V.int ((1 : Int) * 2 ^ ((0 : Int) + (i : Int)).toNat)] = _
      rw [ei, pw_nat]
    intro H1 ys s1 eD yl r
    obtain ⟨ts, rfl, hts⟩ := refs_of (F := fun i t => t ≠ D ∧ H1 t = some (.tup [nv i, nv (2 ^ i)])) (ys := ys) fun i y h => by
      obtain ⟨t, h1, h2, h3⟩ := r i y h
      exact ⟨t, h1, h2, h3⟩
    rw [List.length_map] at yl
    have pr0 : PrsAt H1 ts ((List.range n).map fun v => (v, 2 ^ v)) := prs_of (by simpa using yl) fun i t h => by
      have hi : i < n := by have := (List.getElem?_eq_some_iff.mp h).1; omega
      exact ⟨(i, 2 ^ i), by rw [List.getElem?_map, List.getElem?_range hi]; rfl, (hts i t h).2⟩
    clear r hts
    refine ⟨_, rfl, _, _, rfl, .inl (SqL.of (s1 _ _ hq)), _, rfl, by rw [ll]; omega, by rw [ll]; omega, ?_⟩
    rw [Int.toNat_natCast, ll]
    refine for_range (lo := 0) (n := n) (fun j σ' H' => ∃ (b : Nat) (v3 v4 v5 v6 : Option V) (R : Addr) (rs : List Addr) (prs : List (Nat × Nat)), σ' = [some (.ref qa), some (nv b), some (.ref R), v3, v4, v5, v6] ∧ Same H H' ∧ H' R = some (.lst (rs.map V.ref)) ∧ PrsAt H' rs prs ∧
      (∀ v m, (v, m) ∈ prs ↔ Lay L (fun v => v) j v m) ∧ prs.length ≤ n ^ (j + 1) ∧ b ≤ j ∧ ∀ k, 1 ≤ k → k ≤ j → (k ≤ b ↔ ∃ p, CP n L (fun v => v) k p))
      ⟨0, none, none, none, _, D, ts, _, rfl, s1, eD, pr0, fun v m => ?_, by rw [List.length_map, List.length_range]; simp, Nat.le_refl _, fun k h1 h2 => by omega⟩ ?_ ?_
    · rw [Lay.zero, Ln, List.mem_map]
      constructor
      · rintro ⟨x, hx, e⟩
        cases e
        exact ⟨List.mem_range.mp hx, rfl⟩
      · rintro ⟨h1, rfl⟩
        exact ⟨v, List.mem_range.mpr h1, rfl⟩
    · rintro j σ' H2 hj ⟨b, v3, v4, v5, v6, R, rs, prs, rfl, s2, eR, pr, hlay, pl, hb, hbk⟩
      have ej : (0 : Int) + (j : Int) = ((j : Nat) : Int) := Int.zero_add _
      rw [ej]
      have rl : (rs.map V.ref).length = prs.length := by rw [List.length_map]; exact pr.length
      have hpow : n ^ (j + 1) * n ≤ 10000000 := by
        have h1 : n ^ (j + 1) * n ≤ 7 ^ (j + 1) * 7 := Nat.mul_le_mul (Nat.pow_le_pow_left hn _) hn
        have h2 : 7 ^ (j + 1) ≤ 7 ^ 7 := Nat.pow_le_pow_right (by omega) (by omega)
        have h3 : 7 ^ (j + 1) * 7 ≤ 7 ^ 7 * 7 := Nat.mul_le_mul_right 7 h2
        exact Nat.le_trans h1 (Nat.le_trans h3 (by decide))
      refine ⟨_, rfl, _, _, rfl, .inl (SqL.of eR), _, _, rfl, rfl, _, rfl, ?_⟩
      refine ite2 (fun h => ?c1) (fun h => ?c2)
      case' c1 =>
        have hp0 : 0 < prs.length := by have := of_decide_eq_true h; rw [rl] at this; omega
        have hex : ∃ v m, Lay L (fun v => v) j v m := ⟨_, _, (hlay _ _).mp (List.getElem_mem hp0)⟩
        refine ⟨_, rfl, _, _, rfl, rfl, ?_⟩
        obtain ⟨b', hx, hb1, hb2⟩ : ∃ b' : Nat, V.int ((j : Int) + 1) = nv b' ∧ b' ≤ j + 1 ∧ ∀ k, 1 ≤ k → k ≤ j + 1 → (k ≤ b' ↔ ∃ p, CP n L (fun v => v) k p) := by
          refine ⟨j + 1, rfl, Nat.le_refl _, fun k h1 h2 => ⟨fun _ => ?_, fun _ => h2⟩⟩
          obtain ⟨v, m, hl⟩ := Lay.pred_le (show k - 1 ≤ j by omega) hex
          obtain ⟨p, hp⟩ := hl.cp gr.ok
          exact ⟨p, by rw [show k - 1 + 1 = k by omega] at hp; exact hp⟩
        show gName 1 (V.int ((j : Int) + 1)) _ _ _
        rw [hx]
      case' c2 =>
        have hp0 : prs.length = 0 := by have := of_decide_eq_false (Bool.eq_false_iff.mpr h); rw [rl] at this; omega
        obtain ⟨b', hx, hb1, hb2⟩ : ∃ b' : Nat, nv b = nv b' ∧ b' ≤ j + 1 ∧ ∀ k, 1 ≤ k → k ≤ j + 1 → (k ≤ b' ↔ ∃ p, CP n L (fun v => v) k p) := by
          refine ⟨b, rfl, by omega, fun k h1 h2 => ?_⟩
          rcases Nat.lt_or_ge j k with h | h
          · have ek : k = j + 1 := by omega
            subst ek
            refine ⟨fun z => by omega, fun ⟨p, hp⟩ => ?_⟩
            obtain ⟨v, m, hl⟩ := Lay.of_cp gr.ok hp
            have := List.length_pos_of_mem ((hlay v m).mpr hl)
            omega
          · exact hbk k h1 h
        rw [hx]
      all_goals
        clear hx hbk hb hp0 h
        refine fun S hS => ?_
        refine updI fun H3 e3 k3 => ?_
        have S0 := s2.free hS
        have s3 : Same H2 H3 := Same.step hS k3
        have s3' := s2.trans s3
        refine ⟨_, rfl, R, rfl, ⟨_, SqL.of (s3 _ _ eR)⟩, ?_⟩
        let Ext : Nat → Nat → Nat → Nat → Prop := fun v m wn m' => wn ∈ row L v ∧ m.testBit wn = false ∧ m' = m ||| 2 ^ wn
        refine for_list (K := K) (a := R) (xs := rs.map V.ref) (fun t σ' H' => (∃ v5 v6, σ' = [some (.ref qa), some (nv b'), some (.ref R), some (nv j), some (.ref S), v5, v6]) ∧ Same H2 H' ∧ ∃ kvs, H' S = some (.dT kvs) ∧ KP kvs ∧
          (∀ wn m', (valV kvs (lk wn m')).isSome = true ↔ ∃ v m, (v, m) ∈ prs.take t ∧ Ext v m wn m') ∧ kvs.length ≤ t * n)
          ⟨⟨_, _, rfl⟩, s3, [], e3, fun p hp => (by cases hp), fun wn m' => ⟨fun z => (by cases z), fun ⟨v, m, z, _⟩ => (by simp at z)⟩, by simp⟩ (fun _ _ _ _ z => SqL.of (z.2.1 _ _ eR)) ?_ ?_
        · rintro t x σ' H4 hx ⟨⟨v5, v6, rfl⟩, s4, kvs, e4, kp, spa, la⟩
          obtain ⟨ra, hra, rfl⟩ := refs_inv hx
          obtain ⟨⟨v, m⟩, hvm, era⟩ := pr.get hra
          have ht := (List.getElem?_eq_some_iff.mp hvm).1
          have hl := (hlay v m).mp (List.mem_of_getElem? hvm)
          have hvn := hl.lt gr.ok
          obtain ⟨na, hna, ena⟩ := cols.rowAt (v := v) (by omega)
          have s24 := s2.trans s4
          refine ⟨_, rfl, _, rfl, _, _, _, nv v, rfl, rfl, SqT.of (s4 _ _ era), atI_nat (j := 0) rfl, _, _, _, .ref na, rfl, rfl, SqL.of (s24 _ _ hq), atI_nat (refs_get hna), na, rfl, ⟨_, SqL.of (s24 _ _ ena)⟩, ?_⟩
          have rle := gr.row_le v
          refine for_list (K := K) (a := na) (xs := nvs (row L v)) (fun u σ' H' => (∃ v6, σ' = [some (.ref qa), some (nv b'), some (.ref R), some (nv j), some (.ref S), some (.ref ra), v6]) ∧ Same H2 H' ∧ ∃ kvs, H' S = some (.dT kvs) ∧ KP kvs ∧
            (∀ wn m', (valV kvs (lk wn m')).isSome = true ↔ (∃ v m, (v, m) ∈ prs.take t ∧ Ext v m wn m') ∨ (wn ∈ (row L v).take u ∧ m.testBit wn = false ∧ m' = m ||| 2 ^ wn)) ∧ kvs.length ≤ t * n + u)
            ⟨⟨_, rfl⟩, s4, kvs, e4, kp, fun wn m' => by rw [spa]; simp, by omega⟩ (fun _ _ _ _ z => SqL.of ((s2.trans z.2.1) _ _ ena)) ?_ ?_
          · rintro u x σ' H5 hx ⟨⟨v6, rfl⟩, s5, kvs, e5, kp, spa, la⟩
            obtain ⟨y, hy, rfl⟩ := nvs_inv hx
            have hyn := gr.ok.bnd v y (List.mem_of_getElem? hy)
            have hul := (List.getElem?_eq_some_iff.mp hy).1
            refine ⟨_, rfl, _, _, _, nv m, rfl, rfl, SqT.of (s5 _ _ era), atI_nat (j := 1) rfl, _, rfl, _, _, rfl, rfl, (show (0 : Int) ≤ (y : Int) by omega), _, _, rfl, rfl, rfl, _, rfl, ?_⟩
            rw [take_snoc hy]
            refine ite2 (fun h => ?_) (fun h => ?_)
            · have hb := (bit_of m y).mp (dt h)
              refine ⟨_, rfl, _, rfl, _, rfl, _, _, _, nv m, rfl, rfl, SqT.of (s5 _ _ era), atI_nat (j := 1) rfl, _, rfl, _, _, rfl, rfl, ⟨by omega, by omega, by decide⟩, _, _, rfl, rfl, by show 2 ≤ sizeLine; decide, fun kt hkt => ?_⟩
              have nSk : S ≠ kt := ne_of_none e5 hkt
              have ekt : (upd H5 kt (.tup [nv y, V.int (Builtin.bitOr (m : Int) ((1 : Int) * 2 ^ ((y : Int)).toNat))])) kt = some (.tup ((lk y (m ||| 2 ^ y)).map kV)) := by rw [upd_same, lk_kV, pw_nat, bor]
              have szb : kvs.length < sizeLine := by
                have h1 : (t + 1) * n ≤ prs.length * n := Nat.mul_le_mul_right n ht
                have h2 : prs.length * n ≤ n ^ (j + 1) * n := Nat.mul_le_mul_right n pl
                have h4 : (t + 1) * n = t * n + n := Nat.succ_mul t n
                exact Nat.lt_of_le_of_lt (show kvs.length ≤ 10000000 by omega) (by decide)
              refine ⟨S, _, rfl, DPut.t ((upd_ne nSk).trans e5) ekt szb, ⟨_, rfl⟩, Same.mut (s5.trans (Same.new hkt)) hS, _, upd_same, kp.put _ _ _, fun wn m' => ?_, Nat.le_trans (length_putK _ _ _) (by omega)⟩
              rw [valV_put, List.mem_append, List.mem_singleton]
              by_cases ek : lk wn m' = lk y (m ||| 2 ^ y)
              · obtain ⟨rfl, rfl⟩ := lk_inj ek
                rw [if_pos ek]
                exact ⟨fun _ => .inr ⟨.inr rfl, hb, rfl⟩, fun _ => rfl⟩
              · rw [if_neg ek, spa]
                refine or_congr Iff.rfl ⟨fun z => ⟨.inl z.1, z.2⟩, fun z => ⟨z.1.resolve_right fun e => ek ?_, z.2⟩⟩
                rw [z.2.2, e]
            · have hb : ¬ m.testBit y = false := fun z => (df h) ((bit_of m y).mpr z)
              refine ⟨⟨_, rfl⟩, s5, kvs, e5, kp, fun wn m' => ?_, by omega⟩
              rw [spa, List.mem_append, List.mem_singleton]
              refine or_congr Iff.rfl ⟨fun z => ⟨.inl z.1, z.2⟩, fun z => ⟨z.1.resolve_right fun e => hb ?_, z.2⟩⟩
              rw [← e]; exact z.2.1
          · rintro σ' H5 ⟨⟨v6, rfl⟩, s5, kvs, e5, kp, spa, la⟩
            rw [nvs_len, List.take_length] at spa
            rw [nvs_len] at la
            refine ⟨⟨_, _, rfl⟩, s5, kvs, e5, kp, fun wn m' => ?_, by rw [Nat.succ_mul]; omega⟩
            rw [spa, take_snoc hvm]
            constructor
            · rintro (⟨v', m0, h1, h2⟩ | h)
              · exact ⟨v', m0, List.mem_append_left _ h1, h2⟩
              · exact ⟨v, m, List.mem_append_right _ (List.mem_singleton.mpr rfl), h⟩
            · rintro ⟨v', m0, h1, h2⟩
              rcases List.mem_append.mp h1 with h1 | h1
              · exact .inl ⟨v', m0, h1, h2⟩
              · cases List.mem_singleton.mp h1
                exact .inr h2
        · rintro σ' H4 ⟨⟨v5, v6, rfl⟩, s4, kvs, e4, kp, spa, la⟩
          rw [rl, List.take_length] at spa
          rw [rl] at la
          refine ⟨_, rfl, S, kvs, rfl, .inl e4, fun p bs hp keys => ?_⟩
          have sp4 : Same H4 (upd H4 p (.lst (bs.map V.ref))) := Same.new hp
          refine ⟨b', _, _, _, _, p, bs, kvs.map fun p => un p.1, rfl, (s2.trans s4).trans sp4, upd_same, (kp_prs keys kp).mono sp4, fun v m => ?_, ?_, hb1, hb2⟩
          · rw [kp_mem kp, spa, Lay.succ]
            constructor
            · rintro ⟨v0, m0, h1, h2, h3, h4⟩
              exact ⟨v0, m0, (hlay v0 m0).mp h1, h2, h3, h4⟩
            · rintro ⟨v0, m0, h1, h2, h3, h4⟩
              exact ⟨v0, m0, (hlay v0 m0).mpr h1, h2, h3, h4⟩
          · rw [List.length_map, Nat.pow_succ]
            exact Nat.le_trans la (Nat.mul_le_mul_right n pl)
    · rintro σ' H2 ⟨b, v3, v4, v5, v6, R, rs, prs, rfl, s2, eR, pr, hlay, pl, hb, hbk⟩
      refine ⟨_, rfl, q H2 b s2 fun k h1 => ?_⟩
      rcases Nat.lt_or_ge n k with h | h
      · exact ⟨fun z => by omega, fun ⟨p, hp⟩ => absurd (nodup_len hp) (by omega)⟩
      · exact hbk k h1 h
end
end K53
namespace K53
open PySem PySem.Spec PyProof.Rows L2
theorem cp_snoc {n i a v : Nat} {L : Rows} {col : Nat → Nat} {p : List Nat} (g : GR n L) (h : CP n L col i p) (ha : p[i - 1]? = some a) (hv : v ∈ row L a) (hc : col v ∉ p.map col) : CP n L col (i + 1) (p ++ [v]) := by
  have hl := h.len
  have hi := (List.getElem?_eq_some_iff.mp ha).1
  refine ⟨by rw [List.length_append, hl]; rfl, fun x hx => ?_, ?_, ?_⟩
  · rcases List.mem_append.mp hx with z | z
    · exact h.lt x z
    · rw [List.mem_singleton.mp z]; exact g.ok.bnd a v hv
  · rw [List.map_append, List.nodup_append]
    refine ⟨h.nd, by simp, fun x hx y hy => ?_⟩
    simp at hy
    intro e
    rw [e, hy] at hx
    exact hc hx
  · have e : p = p.take (i - 1) ++ [a] := by
      have h1 : p.take (i - 1 + 1) = p.take (i - 1) ++ [a] := take_snoc ha
      rw [show i - 1 + 1 = i by omega, ← hl, List.take_length] at h1
      rw [← hl]; exact h1
    rw [e]
    exact Ch.snoc (by rw [← e]; exact h.ch) hv
section
variable {P : Program} {w : World} {K : PySem.W.Frag} {mg : Str → Option Value} {base : Heap} {J : Nat}
/-- .. with at most J nodes to go -/
def sp_count (J : Nat) : Sp := fun vs H Q _ => ∃ (q a b : Addr) (n k i : Nat) (las : List Addr) (L : Rows) (c p : List Nat), vs = [.ref q, .ref a, nv k, .ref b] ∧ H q = some (.lst (las.map V.ref)) ∧ ColsAt H las L ∧ GR n L ∧ H a = some (.lst (nvs c)) ∧ c.length = n ∧
  H b = some (.lst (nvs p)) ∧ CP n L (fun v => c.getD v 0) i p ∧ 1 ≤ i ∧ i ≤ k ∧ k ≤ i + J ∧ k ≤ 7 ∧ n ≤ 40 ∧ (¬ ∃ p, CP n L (fun v => c.getD v 0) k p) ∧ ∀ H', Same H H' → Q (.int 0) H'
theorem o_count0 {f : Addr} {fd : FuncData} (F : FnP K "_law_count" "_law_count" s__law_count f fd) (hm : mg "_law_count" = some (.ref f)) : Own P w K mg base 1 "_law_count" (sp_count 0) := by
  have sc : FnScope ["_law_near_here", "_law_colouring", "_law_k", "_law_nodes", "_law_used", "_law_total", "_law_v"] ["_law_near_here", "_law_colouring", "_law_k", "_law_nodes"] (defScope s__law_count) := ⟨rfl, rfl, rfl, by decide +kernel, rfl, by decide +kernel, by decide +kernel⟩
  refine Own.imp (own_no F hm sc (fun _ _ _ _ _ _ us hl => match us, hl with | [_, _, _, _], _ => rfl)) ?_
  rintro vs H Q E ⟨q, a, b, n, k, i, las, L, c, p, _, _, _, _, _, _, _, cp, _, h1, h2, _, _, hno, _⟩
  exact hno ⟨p, by rw [show k = i by omega]; exact cp⟩
theorem o_countS {f : Addr} {fd : FuncData} (F : FnP K "_law_count" "_law_count" s__law_count f fd) (hm : mg "_law_count" = some (.ref f)) (T : Tx mg) (D__law_count : Own P w K mg base (J + 1) "_law_count" (sp_count J))  : Own P w K mg base (J + 2) "_law_count" (sp_count (J + 1)) := by
  have sc : FnScope ["_law_near_here", "_law_colouring", "_law_k", "_law_nodes", "_law_used", "_law_total", "_law_v"] ["_law_near_here", "_law_colouring", "_law_k", "_law_nodes"] (defScope s__law_count) := ⟨rfl, rfl, rfl, by decide +kernel, rfl, by decide +kernel, by decide +kernel⟩
  refine own_ok F hm sc (fun _ _ _ _ _ _ us hl => match us, hl with | [_, _, _, _], _ => rfl) (fun vs H Q E h => ?_) (fun cdv A outer s H vs Q E hr h => ?_)
  · obtain ⟨q, a, b, n, k, i, las, L, c, p, rfl, _⟩ := h; rfl
  · obtain ⟨qa, a, b, n, k, i, las, L, c, p, rfl, hq, cols, gr, ha, cl, hb, cp, hi1, hik, hkJ, hk7, hn, hno, q⟩ := h
    have hu := hu_of hr
    refine ⟨_, (pss_cons (ps_if (pt_cmpR op_eq (pe_callB call_len_seq (by rfl) T.len (by decide +kernel) (pa_cons (pv 3) pa_nil)) (pv 2) (nomark _)) (pss_one (ps_ret pe_int)) pss_nil) 
      (pss_cons (ps_setLc (i := 4) (own := [("_law_v", 6)]) (g := gName 6) (tt := tYes) rfl sc.nd rfl rfl (sw_true rfl rfl rfl (by decide +kernel)) (pi_list (pv 3)) (blkOk_by (N := (["_law_near_here", "_law_colouring", "_law_k", "_law_nodes", "_law_used", "_law_total", "_law_v"] : List Str)) (sc := defScope s__law_count) (by decide +kernel)) (fun _ _ _ _ _ => (pg_name (i := 6) sc.nd rfl (Or.inl rfl))) (fun _ _ _ _ _ => pts_nil) (fun _ _ _ _ _ => (pe_ix (ix_listK K) (pv 1) (pv 6) (fun _ _ => rfl)))) 
      (pss_cons (ps_set (i := 5) sc.nd rfl (Or.inl rfl) pe_int) 
      (pss_cons (ps_for PassesOwn.never rfl (pi_list (pe_ix ix_list (pv 0) (pe_ix ix_list (pv 3) (pe_op op_sub (pe_callB call_len_seq (by rfl) T.len (by decide +kernel) (pa_cons (pv 3) pa_nil)) pe_int) (fun _ _ => rfl)) (fun _ _ => rfl))) (pg_name (i := 6) sc.nd rfl (Or.inl rfl)) (pss_one (ps_if (pt_cmpR op_notIn_seq (pe_ix ix_list (pv 1) (pv 6) (fun _ _ => rfl)) (pv 4) (by rfl)) (pss_one (ps_set (i := 5) sc.nd rfl (Or.inl rfl) (pe_op op_add (pv 5) (pe_own D__law_count hr (by rfl) (pa_cons (pv 0) (pa_cons (pv 1) (pa_cons (pv 2) (pa_cons (pe_op op_cat (pv 3) (pe_lst (pa_cons (pv 6) pa_nil))) pa_nil)))))))) pss_nil))) 
      (pss_one (ps_ret (pv 5))))))), ?_⟩
    have Ln : L.length = n := gr.ok.len
    have pl := cp.len
    have hne : i ≠ k := fun e => hno ⟨p, by rw [← e]; exact cp⟩
    refine ⟨_, rfl, _, _, rfl, .inl (SqL.of hb), _, rfl, rfl, false, bF (fun z => by rw [nvs_len] at z; injection z with z; omega), ?_⟩
    refine iteF ?_
    refine ⟨_, rfl, b, rfl, ⟨_, SqL.of hb⟩, fun D hD => ?_⟩
    refine lc_map walk_list (fun t y H => ∃ x, p[t]? = some x ∧ y = nv (c.getD x 0)) (by rw [nvs_len]; omega) hD (fun H' s => SqL.of (s _ _ hb)) (fun _ _ _ _ h _ => h) ySame_at ?_ ?_
    · rintro t x H3 H4 Q' ht s _ ⟨rfl, hx⟩ kk
      obtain ⟨y, hy, rfl⟩ := nvs_inv hx
      have hyn := cp.lt _ (List.mem_of_getElem? hy)
      refine ⟨rfl, _, rfl, _, rfl, _, _, _, _, rfl, rfl, SqL.of (s _ _ ha), atI_nat (nvs_get (getD_of (by omega))), ?_⟩
      exact kk _ _ (Same.refl _) ⟨y, hy, rfl⟩
    intro H1 ys s1 eD yl r
    rw [nvs_len] at yl
    obtain rfl := ext_list (f := fun x => nv (c.getD x 0)) yl fun i y h => by
      obtain ⟨x, h1, h2⟩ := r i y h
      exact ⟨x, h1, h2⟩
    clear r yl
    have eD' : H1 D = some (.lst (nvs (p.map fun x => c.getD x 0))) := by rw [eD]; unfold nvs; rw [List.map_map]; rfl
    have gl : p[i - 1]? = some (p.getD (i - 1) 0) := getD_of (by omega)
    have hlt := cp.lt _ (List.mem_of_getElem? gl)
    obtain ⟨ra, hra, era⟩ := cols.rowAt (v := p.getD (i - 1) 0) (by omega)
    have ei : ((nvs p).length : Int) - 1 = ((i - 1 : Nat) : Int) := by rw [nvs_len]; omega
    refine ⟨_, rfl, _, rfl, _, rfl, _, _, rfl, .inl (SqL.of (s1 _ _ hb)), _, _, rfl, rfl, _, _, _, nv (p.getD (i - 1) 0), rfl, rfl, SqL.of (s1 _ _ hb), by rw [ei]; exact atI_nat (nvs_get gl), _, _, _, .ref ra, rfl, rfl, SqL.of (s1 _ _ hq), atI_nat (refs_get hra), ra, rfl, ⟨_, SqL.of (s1 _ _ era)⟩, ?_⟩
    refine for_list (K := K) (a := ra) (xs := nvs (row L (p.getD (i - 1) 0))) (fun t σ' H' => (∃ v6, σ' = [some (.ref qa), some (.ref a), some (nv k), some (.ref b), some (.ref D), some (.int 0), v6]) ∧ Same H1 H') ⟨⟨_, rfl⟩, Same.refl _⟩ (fun _ _ _ _ z => SqL.of (z.2 _ _ (s1 _ _ era))) ?_ ?_
    · rintro t x σ' H2 hx ⟨⟨v6, rfl⟩, s2⟩
      obtain ⟨y, hy, rfl⟩ := nvs_inv hx
      have hym := List.mem_of_getElem? hy
      have hyn := gr.ok.bnd _ y hym
      have s12 := s1.trans s2
      have gc : c[y]? = some (c.getD y 0) := getD_of (by omega)
      refine ⟨_, rfl, _, rfl, _, _, _, _, rfl, rfl, SqL.of (s12 _ _ ha), atI_nat (nvs_get gc), _, rfl, D, _, rfl, .inl (SqL.of (s2 _ _ eD')), rfl, flat_nvs _, _, rfl, ?_⟩
      refine ite2 (fun h => ?_) (fun h => ?_)
      · have h' : (!inV (nv (c.getD y 0)) (nvs (p.map fun x => c.getD x 0))) = true := h
        rw [inV_nvs] at h'
        have hnot : c.getD y 0 ∉ p.map fun x => c.getD x 0 := by simpa using h'
        have cp' := cp_snoc gr cp gl hym hnot
        refine ⟨_, rfl, _, rfl, _, rfl, _, rfl, _, rfl, _, rfl, by show 1 ≤ sizeLine; decide, fun l1 hl1 => ?_⟩
        have nbl : b ≠ l1 := ne_of_none (s12 _ _ hb) hl1
        refine ⟨b, l1, nvs p, [nv y], rfl, rfl, (upd_ne nbl).trans (s12 _ _ hb), upd_same, by rw [nvs_len]; exact Nat.le_of_lt (sz5 (by show p.length + 1 ≤ 100000; omega)), fun l2 hl2 => ?_⟩
        have s3 : Same H2 (upd (upd H2 l1 (.lst [nv y])) l2 (.lst (nvs p ++ [nv y]))) := (Same.new hl1).trans (Same.new hl2)
        have s13 := s12.trans s3
        refine ⟨qa, a, l2, n, k, i + 1, las, L, c, p ++ [y], rfl, s13 _ _ hq, cols.mono s13, gr, s13 _ _ ha, cl, by rw [upd_same, nvs_app]; rfl, cp', by omega, by omega, by omega, hk7, hn, hno, fun H5 s5 => ?_⟩
        exact ⟨_, _, rfl, rfl, ⟨_, rfl⟩, (s2.trans s3).trans s5⟩
      · exact ⟨⟨_, rfl⟩, s2⟩
    · rintro σ' H2 ⟨⟨v6, rfl⟩, s2⟩
      exact ⟨_, rfl, q _ (s1.trans s2)⟩
def sp__law_colourful : Sp := fun vs H Q _ => ∃ (q a : Addr) (n k : Nat) (las : List Addr) (L : Rows) (c : List Nat), vs = [.ref q, .ref a, nv k] ∧ H q = some (.lst (las.map V.ref)) ∧ ColsAt H las L ∧ GR n L ∧ H a = some (.lst (nvs c)) ∧ c.length = n ∧
  1 ≤ k ∧ k ≤ 7 ∧ n ≤ 40 ∧ (¬ ∃ p, CP n L (fun v => c.getD v 0) k p) ∧ ∀ H', Same H H' → Q (.int 0) H'
theorem o__law_colourful {f : Addr} {fd : FuncData} (F : FnP K "_law_colourful" "_law_colourful" s__law_colourful f fd) (hm : mg "_law_colourful" = some (.ref f)) (T : Tx mg) (D__law_count : Own P w K mg base 7 "_law_count" (sp_count 6))  : Own P w K mg base 8 "_law_colourful" sp__law_colourful := by
  have sc : FnScope ["_law_near_here", "_law_colouring", "_law_k", "_law_v"] ["_law_near_here", "_law_colouring", "_law_k"] (defScope s__law_colourful) := ⟨rfl, rfl, rfl, by decide +kernel, rfl, by decide +kernel, by decide +kernel⟩
  refine own_ok F hm sc (fun _ _ _ _ _ _ us hl => match us, hl with | [_, _, _], _ => rfl) (fun vs H Q E h => ?_) (fun cdv A outer s H vs Q E hr h => ?_)
  · obtain ⟨q, a, n, k, las, L, c, rfl, _⟩ := h; rfl
  · obtain ⟨qa, a, n, k, las, L, c, rfl, hq, cols, gr, ha, cl, hk1, hk7, hn, hno, q⟩ := h
    have hu := hu_of hr
    refine ⟨_, (pss_one (ps_ret (pe_callB (cr_sum rfl) (by rfl) T.sum (by decide +kernel) (pa_cons (pe_lc (own := [("_law_v", 3)]) (g := gName 3) (tt := tYes) rfl sc.nd (pi_range1 (by rfl) T.range (pa_cons (pe_callB call_len_seq (by rfl) T.len (by decide +kernel) (pa_cons (pv 0) pa_nil)) pa_nil)) (blkOk_by (N := (["_law_near_here", "_law_colouring", "_law_k", "_law_v"] : List Str)) (sc := defScope s__law_colourful) (by decide +kernel)) (fun _ _ _ _ _ => (pg_name (i := 3) sc.nd rfl (Or.inl rfl))) (fun _ _ _ _ _ => pts_nil) (fun _ _ _ _ _ => (pe_own D__law_count (hr.mono (by decide)) (by rfl) (pa_cons (pv 0) (pa_cons (pv 1) (pa_cons (pv 2) (pa_cons (pe_lst (pa_cons (pv 3) pa_nil)) pa_nil))))))) pa_nil)))), ?_⟩
    have Ln : L.length = n := gr.ok.len
    have ll : (las.map V.ref).length = n := by rw [List.length_map, cols.length, Ln]
    refine ⟨_, rfl, _, _, rfl, .inl (SqL.of hq), _, rfl, by rw [ll]; omega, by rw [ll]; omega, fun D hD => ?_⟩
    rw [Int.toNat_natCast, ll]
    refine lc_map walk_range (fun t y H => y = .int 0) (by omega) hD (fun _ _ => trivial) (fun _ _ _ _ h _ => h) ySame_fn ?_ ?_
    · rintro t x H3 H4 Q' ht s _ ⟨rfl, rfl⟩ kk
      have ei : (0 : Int) + (t : Int) = ((t : Nat) : Int) := Int.zero_add _
      show gName 3 (V.int ((0 : Int) + (t : Int))) _ _ _
      rw [ei]
      refine ⟨rfl, _, rfl, _, rfl, _, rfl, _, rfl, by show 1 ≤ sizeLine; decide, fun l1 hl1 => ?_⟩
      have s3 : Same H (upd H4 l1 (.lst [nv t])) := s.trans (Same.new hl1)
      refine ⟨qa, a, l1, n, k, 1, las, L, c, [t], rfl, s3 _ _ hq, cols.mono s3, gr, s3 _ _ ha, cl, upd_same, ⟨rfl, fun v hv => by rw [List.mem_singleton.mp hv]; exact ht, by simp, Ch.one t⟩, Nat.le_refl _, hk1, by omega, hk7, hn, hno, fun H5 s5 => ?_⟩
      exact kk _ _ ((Same.new hl1).trans s5) rfl
    intro H1 ys s1 eD yl r
    obtain rfl := ext_fn (f := fun _ => V.int 0) yl r
    have e0 : ((List.range n).map fun _ => V.int 0) = ((List.range n).map fun _ => (0 : Int)).map V.int := by rw [List.map_map]; rfl
    have sum0 : ∀ l : List Nat, (l.map fun _ => (0 : Int)).sum = 0 := fun l => by
      induction l with
      | nil => rfl
      | cons x r ih => rw [List.map_cons, List.sum_cons, ih]; rfl
    refine ⟨D, _, rfl, SqL.of (by rw [eD, e0]), ?_⟩
    show Q (V.int (((List.range n).map fun _ => (0 : Int)).sum)) H1
    rw [sum0]
    exact q _ s1
end
end K53
namespace K53
open PySem PySem.Spec PyProof.Rows L2
theorem asc_snoc {n j v lo : Nat} {S : List Nat} (h : Asc n 0 j S) (hlo : ∀ x ∈ S, x < lo) (h1 : lo ≤ v) (h2 : v < n) : Asc n 0 (j + 1) (S ++ [v]) := by
  refine ⟨by rw [List.length_append, h.1]; rfl, ?_, fun x hx => ?_⟩
  · rw [List.pairwise_append]
    refine ⟨h.2.1, by simp, fun a ha b hb => ?_⟩
    rw [List.mem_singleton.mp hb]
    have := hlo a ha
    omega
  · rcases List.mem_append.mp hx with z | z
    · exact h.2.2 x z
    · rw [List.mem_singleton.mp z]; exact ⟨Nat.zero_le _, h2⟩
theorem asc_last {n j : Nat} {S : List Nat} (h : Asc n 0 j S) (hj : 0 < j) : ∃ x, S[j - 1]? = some x ∧ x < n ∧ ∀ y ∈ S, y < x + 1 := by
  have hl := h.1
  refine ⟨S[j - 1]'(by omega), List.getElem?_eq_getElem _, (h.2.2 _ (List.getElem_mem _)).2, fun y hy => ?_⟩
  obtain ⟨i, hi, rfl⟩ := List.getElem_of_mem hy
  rcases Nat.lt_or_ge i (j - 1) with q | q
  · have := List.pairwise_iff_getElem.mp h.2.1 i (j - 1) hi (by omega) q
    omega
  · have : i = j - 1 := by omega
    subst this
    omega
section
variable {P : Program} {w : World} {K : PySem.W.Frag} {mg : Str → Option Value} {base : Heap}
def sp__law_subsets : Sp := fun vs H Q _ => ∃ n k : Nat, vs = [nv n, nv k] ∧ n ≤ 10 ∧ k ≤ 7 ∧
  ∀ (H' : Hp) (q : Addr) (as : List Addr) (xss : List (List Nat)), Same H H' → H' q = some (.lst (as.map V.ref)) → TupsAt H' as xss → (∀ S ∈ xss, Asc n 0 k S) → Q (.ref q) H'
theorem o__law_subsets {f : Addr} {fd : FuncData} (F : FnP K "_law_subsets" "_law_subsets" s__law_subsets f fd) (hm : mg "_law_subsets" = some (.ref f)) (T : Tx mg)   : Own P w K mg base 1 "_law_subsets" sp__law_subsets := by
  have sc : FnScope ["_law_n", "_law_k", "_law_found", "_law_size", "_law_grown", "_law_some", "_law_least", "_law_v"] ["_law_n", "_law_k"] (defScope s__law_subsets) := ⟨rfl, rfl, rfl, by decide +kernel, rfl, by decide +kernel, by decide +kernel⟩
  refine own_ok F hm sc (fun _ _ _ _ _ _ us hl => match us, hl with | [_, _], _ => rfl) (fun vs H Q E h => ?_) (fun cdv A outer s H vs Q E hr h => ?_)
  · obtain ⟨n, k, rfl, _⟩ := h; rfl
  · obtain ⟨n, k, rfl, hn, hk, q⟩ := h
    have hu := hu_of hr
    refine ⟨_, (pss_cons (ps_set (i := 2) sc.nd rfl (Or.inl rfl) (pe_lst (pa_cons (pe_tup pa_nil) pa_nil))) 
      (pss_cons (ps_for PassesOwn.never rfl (pi_range1 (by rfl) T.range (pa_cons (pv 1) pa_nil)) (pg_name (i := 3) sc.nd rfl (Or.inl rfl)) (pss_cons (ps_set (i := 4) sc.nd rfl (Or.inl rfl) (pe_lst pa_nil)) (pss_cons (ps_for PassesOwn.never rfl (pi_list (pv 2)) (pg_name (i := 5) sc.nd rfl (Or.inl rfl)) (pss_cons (ps_set (i := 6) sc.nd rfl (Or.inl rfl) pe_int) (pss_cons (ps_if (pt_cmpR op_gt (pe_callB call_len_seq (by rfl) T.len (by decide +kernel) (pa_cons (pv 5) pa_nil)) pe_int (nomark _)) (pss_one (ps_set (i := 6) sc.nd rfl (Or.inl rfl) (pe_op op_add (pe_ix ix_tup (pv 5) (pe_op op_sub (pe_callB call_len_seq (by rfl) T.len (by decide +kernel) (pa_cons (pv 5) pa_nil)) pe_int) (fun _ _ => rfl)) pe_int))) pss_nil) (pss_one (ps_for PassesOwn.never rfl (pi_range2 (by rfl) T.range (pa_cons (pv 6) (pa_cons (pv 0) pa_nil))) (pg_name (i := 7) sc.nd rfl (Or.inl rfl)) (pss_one (ps_expr (pe_bm PySem.F.plainAttrs_list PySem.F.slot_list_append PySem.F.type_list_append mt_append (pv 4) (pa_cons (pe_op op_catA (pv 5) (pe_tup (pa_cons (pv 7) pa_nil))) pa_nil))))))))) (pss_one (ps_set (i := 2) sc.nd rfl (Or.inl rfl) (pv 4)))))) 
      (pss_one (ps_ret (pv 2))))), ?_⟩
    refine ⟨by show 0 ≤ sizeLine; decide, fun t0 ht0 => ?_⟩
    refine ⟨by show 1 ≤ sizeLine; decide, fun D hD => ?_⟩
    have ntD : t0 ≠ D := ne_of_none upd_same hD
    have D0 : H D = none := by rw [upd_ne ntD.symm] at hD; exact hD
    have s1 : Same H (upd (upd H t0 (.tup [])) D (.lst [.ref t0])) := (Same.new ht0).trans (Same.new hD)
    have t1 : (upd (upd H t0 (.tup [])) D (.lst [.ref t0])) t0 = some (.tup (nvs [])) := by rw [upd_ne ntD, upd_same]; rfl
    have e1 : (upd (upd H t0 (.tup [])) D (.lst [.ref t0])) D = some (.lst ([t0].map V.ref)) := upd_same
    generalize (upd (upd H t0 (.tup [])) D (.lst [.ref t0])) = H1 at s1 t1 e1
    refine ⟨_, rfl, _, rfl, by omega, by omega, ?_⟩
    rw [Int.toNat_natCast]
    refine for_range (lo := 0) (n := k) (fun j σ' H' => ∃ (v3 v4 v5 v6 v7 : Option V) (R : Addr) (as : List Addr) (xss : List (List Nat)), σ' = [some (nv n), some (nv k), some (.ref R), v3, v4, v5, v6, v7] ∧ Same H H' ∧ H' R = some (.lst (as.map V.ref)) ∧ TupsAt H' as xss ∧ (∀ S ∈ xss, Asc n 0 j S) ∧ xss.length ≤ 10 ^ j)
      ⟨none, none, none, none, none, D, [t0], [[]], rfl, s1, e1, .cons t1 .nil, fun S hS => (by rw [List.mem_singleton.mp hS]; exact ⟨rfl, .nil, fun x hx => (by cases hx)⟩), Nat.le_refl _⟩ ?_ ?_
    · rintro j σ' H2 hj ⟨v3, v4, v5, v6, v7, R, as, xss, rfl, s2, eR, ta, hasc, xl⟩
      have hpow : 10 ^ j * 10 ≤ 10000000 := by
        have h2 : 10 ^ j ≤ 10 ^ 6 := Nat.pow_le_pow_right (by omega) (by omega)
        exact Nat.le_trans (Nat.mul_le_mul_right 10 h2) (by decide)
      refine ⟨Nat.zero_le _, fun S hS => ?_⟩
      refine updI fun H3 e3 k3 => ?_
      have S0 := s2.free hS
      have s3 : Same H2 H3 := Same.step hS k3
      have al : (as.map V.ref).length = xss.length := by rw [List.length_map]; exact ta.length
      refine ⟨_, rfl, R, rfl, ⟨_, SqL.of (s3 _ _ eR)⟩, ?_⟩
      refine for_list (K := K) (a := R) (xs := as.map V.ref) (fun t σ' H' => ∃ (v5 v6 v7 : Option V) (gs : List Addr) (gss : List (List Nat)), σ' = [some (nv n), some (nv k), some (.ref R), some (.int (0 + (j : Int))), some (.ref S), v5, v6, v7] ∧ Same H2 H' ∧ H' S = some (.lst (gs.map V.ref)) ∧ TupsAt H' gs gss ∧ (∀ S ∈ gss, Asc n 0 (j + 1) S) ∧ gss.length ≤ t * 10)
        ⟨_, _, _, [], [], rfl, s3, e3, .nil, fun S hS => (by cases hS), Nat.zero_le _⟩ (fun _ _ _ _ z => by obtain ⟨_, _, _, _, _, _, z, _⟩ := z; exact SqL.of (z _ _ eR)) ?_ ?_
      · rintro t x σ' H4 hx ⟨v5, v6, v7, gs, gss, rfl, s4, e4, tg, hg, gl⟩
        obtain ⟨ra, hra, rfl⟩ := refs_inv hx
        obtain ⟨xs, hxs, era⟩ := ta.get hra
        have ht := (List.getElem?_eq_some_iff.mp hxs).1
        have hA := hasc xs (List.mem_of_getElem? hxs)
        have era0 := era
        have era := s4 _ _ era
        refine ⟨_, rfl, _, _, rfl, .inr (SqT.of era), _, _, rfl, rfl, _, rfl, ?_⟩
        refine ite2 (fun h => ?c1) (fun h => ?c2)
        case' c1 =>
          have hj0 : 0 < j := by have := of_decide_eq_true h; rw [nvs_len, hA.1] at this; omega
          obtain ⟨x, hx1, hx2, hx3⟩ := asc_last hA hj0
          have ej : ((nvs xs).length : Int) - 1 = ((j - 1 : Nat) : Int) := by rw [nvs_len, hA.1]; omega
          refine ⟨_, rfl, _, rfl, _, _, rfl, .inr (SqT.of era), _, _, rfl, rfl, _, _, _, nv x, rfl, rfl, SqT.of era, by rw [ej]; exact atI_nat (nvs_get hx1), _, _, rfl, rfl, ?_⟩
          obtain ⟨lo, hlo, hlo2, hlo3⟩ : ∃ lo : Nat, V.int ((x : Int) + 1) = nv lo ∧ lo ≤ n ∧ ∀ y ∈ xs, y < lo := ⟨x + 1, rfl, hx2, hx3⟩
          show gName 6 (V.int ((x : Int) + 1)) _ _ _
          rw [hlo]
        case' c2 =>
          have hj0 : j = 0 := by have := of_decide_eq_false (Bool.eq_false_iff.mpr h); rw [nvs_len, hA.1] at this; omega
          obtain ⟨lo, hlo, hlo2, hlo3⟩ : ∃ lo : Nat, V.int 0 = nv lo ∧ lo ≤ n ∧ ∀ y ∈ xs, y < lo := ⟨0, rfl, Nat.zero_le _, fun y hy => by
            have := List.length_pos_of_mem hy
            rw [hA.1] at this; omega⟩
          rw [hlo]
        all_goals
          refine ⟨_, rfl, _, rfl, _, _, rfl, ⟨by omega, by omega, by omega, by omega⟩, ?_⟩
          rw [show (((n : Int) - (lo : Int))).toNat = n - lo by omega]
          refine for_range (lo := (lo : Int)) (n := n - lo) (fun u σ' H' => ∃ (v7 : Option V) (gs : List Addr) (gss : List (List Nat)), σ' = [some (nv n), some (nv k), some (.ref R), some (.int (0 + (j : Int))), some (.ref S), some (.ref ra), some (nv lo), v7] ∧ Same H2 H' ∧ H' S = some (.lst (gs.map V.ref)) ∧ TupsAt H' gs gss ∧ (∀ S ∈ gss, Asc n 0 (j + 1) S) ∧ gss.length ≤ t * 10 + u)
            ⟨_, gs, gss, rfl, s4, e4, tg, hg, gl⟩ ?_ ?_
          · rintro u σ' H5 hu ⟨v7, gs, gss, rfl, s5, e5, tg, hg, gl⟩
            have eu : (lo : Int) + (u : Int) = ((lo + u : Nat) : Int) := rfl
            rw [eu]
            have era5 := (s2.trans s5)
            have era' : H5 ra = some (.tup (nvs xs)) := s5 _ _ era0
            refine ⟨_, rfl, .inl ⟨rfl, _, SqL.of e5⟩, _, rfl, _, rfl, by show 1 ≤ sizeLine; decide, fun t1 ht1 => ?_⟩
            have n1 : S ≠ t1 := ne_of_none e5 ht1
            have nra : ra ≠ t1 := ne_of_none era' ht1
            have eS1 : (upd H5 t1 (.tup [nv (lo + u)])) S = some (.lst (gs.map V.ref)) := (upd_ne n1).trans e5
            have er1 : (upd H5 t1 (.tup [nv (lo + u)])) ra = some (.tup (nvs xs)) := (upd_ne nra).trans era'
            have et1 : (upd H5 t1 (.tup [nv (lo + u)])) t1 = some (.tup (nvs [lo + u])) := upd_same
            have s51 : Same H5 (upd H5 t1 (.tup [nv (lo + u)])) := Same.new ht1
            generalize (upd H5 t1 (.tup [nv (lo + u)])) = H6 at eS1 er1 et1 s51
            have hx' := asc_snoc hA hlo3 (Nat.le_add_right lo u) (show lo + u < n by omega)
            have hsz : gs.length < sizeLine := by
              rw [tg.length]
              have h1 : (t + 1) * 10 ≤ xss.length * 10 := Nat.mul_le_mul_right 10 ht
              have h2 : xss.length * 10 ≤ 10 ^ j * 10 := Nat.mul_le_mul_right 10 xl
              exact Nat.lt_of_le_of_lt (show gss.length ≤ 10000000 by omega) (by decide)
            have fin : ∀ (a : Addr) (H7 : Hp), Same H6 H7 → H7 a = some (.tup (nvs (xs ++ [lo + u]))) → ∃ (a_1 : Addr) (xs_1 : List V) (y : V), V.ref S = V.ref a_1 ∧ [V.ref a] = [y] ∧ H7 a_1 = some (.lst xs_1) ∧ xs_1.length < sizeLine ∧ ∃ (v7 : Option V) (gs : List Addr) (gss : List (List Nat)), ([some (nv n), some (nv k), some (.ref R), some (.int (0 + (j : Int))), some (.ref S), some (.ref ra), some (nv lo), some (nv (lo + u))] : L2.St) = [some (nv n), some (nv k), some (.ref R), some (.int (0 + (j : Int))), some (.ref S), some (.ref ra), some (nv lo), v7] ∧ Same H2 (upd H7 a_1 (.lst (xs_1 ++ [y]))) ∧ (upd H7 a_1 (.lst (xs_1 ++ [y]))) S = some (.lst (gs.map V.ref)) ∧ TupsAt (upd H7 a_1 (.lst (xs_1 ++ [y]))) gs gss ∧ (∀ S ∈ gss, Asc n 0 (j + 1) S) ∧ gss.length ≤ t * 10 + (u + 1) := fun a H7 s7 e7 => by
              have s57 := s51.trans s7
              refine ⟨S, _, _, rfl, rfl, s7 _ _ eS1, by rw [List.length_map]; exact hsz, _, gs ++ [a], gss ++ [xs ++ [lo + u]], rfl, Same.mut (s5.trans s57) hS, by rw [upd_same, List.map_append]; rfl, ?_, fun S' hS' => ?_, by rw [List.length_append, List.length_singleton]; omega⟩
              · refine TupsAt.snoc ?_ ((upd_ne fun z => ?_).trans e7)
                · exact Paired.mapP tg fun b ns h => (upd_ne fun z => by rw [z, e5] at h; cases h).trans (s57 _ _ h)
                · rw [z, s7 _ _ eS1] at e7; cases e7
              · rcases List.mem_append.mp hS' with h | h
                · exact hg S' h
                · rw [List.mem_singleton.mp h]; exact hx'
            refine ⟨ra, t1, nvs xs, nvs [lo + u], rfl, rfl, SqT.of er1, SqT.of et1, by rw [nvs_len, nvs_len, hA.1]; exact Nat.le_of_lt (sz5 (by show j + 1 ≤ 100000; omega)), fun z => ?_, fun _ z => (by cases z), fun _ _ p hp => ?_⟩
            · have hxs : xs = [] := List.map_eq_nil_iff.mp z
              exact fin t1 H6 (Same.refl _) (by rw [hxs]; exact et1)
            · exact fin p _ (Same.new hp) (by rw [upd_same, nvs_app])
          · rintro σ' H5 ⟨v7, gs, gss, rfl, s5, e5, tg, hg, gl⟩
            exact ⟨_, _, _, gs, gss, rfl, s5, e5, tg, hg, by omega⟩
      · rintro σ' H4 ⟨v5, v6, v7, gs, gss, rfl, s4, e4, tg, hg, gl⟩
        rw [al] at gl
        exact ⟨_, rfl, _, _, _, _, _, S, gs, gss, rfl, s2.trans s4, e4, tg, hg, by rw [Nat.pow_succ]; omega⟩
    · rintro σ' H2 ⟨v3, v4, v5, v6, v7, R, as, xss, rfl, s2, eR, ta, hasc, xl⟩
      exact ⟨_, rfl, q _ R as xss s2 eR ta hasc⟩
end
end K53
namespace K53
open PySem PySem.Spec PyProof.Rows L2
section
variable {P : Program} {w : World} {K : PySem.W.Frag} {mg : Str → Option Value} {base : Heap}
def sp__law_separates_one : Sp := fun vs H Q _ => ∃ (p t : Addr) (n k : Nat) (cs : List Addr) (fam : List (List Nat)) (S : List Nat), vs = [.ref p, .ref t, nv k] ∧ H p = some (.lst (cs.map V.ref)) ∧ ColsAt H cs fam ∧ Cols n k fam ∧ H t = some (.tup (nvs S)) ∧ Asc n 0 k S ∧ k ≤ 7 ∧
  (∃ c ∈ fam, Splits c S) ∧ ∀ H', Same H H' → Q (.bl true) H'
theorem o__law_separates_one {f : Addr} {fd : FuncData} (F : FnP K "_law_separates_one" "_law_separates_one" s__law_separates_one f fd) (hm : mg "_law_separates_one" = some (.ref f)) (T : Tx mg)   : Own P w K mg base 1 "_law_separates_one" sp__law_separates_one := by
  have sc : FnScope ["_law_family", "_law_some", "_law_k", "_law_colouring", "_law_v"] ["_law_family", "_law_some", "_law_k"] (defScope s__law_separates_one) := ⟨rfl, rfl, rfl, by decide +kernel, rfl, by decide +kernel, by decide +kernel⟩
  refine own_ok F hm sc (fun _ _ _ _ _ _ us hl => match us, hl with | [_, _, _], _ => rfl) (fun vs H Q E h => ?_) (fun cdv A outer s H vs Q E hr h => ?_)
  · obtain ⟨p, t, n, k, cs, fam, S, rfl, _⟩ := h; rfl
  · obtain ⟨p, t, n, k, cs, fam, S, rfl, hp, hcs, cok, ht, hA, hk, hex, q⟩ := h
    have hu := hu_of hr
    refine ⟨_, (pss_cons (ps_for PassesOwn.never rfl (pi_list (pv 0)) (pg_name (i := 3) sc.nd rfl (Or.inr rfl)) (pss_one (ps_if (pt_cmpR op_eq (pe_lenSetD rfl (by rfl) T.len (by rfl) T.set (pe_lc (own := [("_law_v", 4)]) (g := gName 4) (tt := tYes) rfl sc.nd (pi_tup (pv 1)) (blkOk_by (N := (["_law_family", "_law_some", "_law_k", "_law_colouring", "_law_v"] : List Str)) (sc := defScope s__law_separates_one) (by decide +kernel)) (fun _ _ _ _ _ => (pg_name (i := 4) sc.nd rfl (Or.inl rfl))) (fun _ _ _ _ _ => pts_nil) (fun _ _ _ _ _ => (pe_ix (ix_listK K) (pv 3) (pv 4) (fun _ _ => rfl))))) (pv 2) (nomark _)) (pss_one (ps_ret pe_bl)) pss_nil))) 
      (pss_one (ps_ret pe_bl))), ?_⟩
    refine ⟨_, rfl, p, rfl, ⟨_, SqL.of hp⟩, ?_⟩
    refine for_list (K := K) (a := p) (xs := cs.map V.ref) (fun i σ' H' => (∃ v, σ' = [some (.ref p), some (.ref t), some (nv k), v, none]) ∧ Same H H' ∧ ∀ c ∈ fam.take i, ¬ Splits c S) ⟨⟨none, rfl⟩, Same.refl _, by simp⟩ (fun _ _ _ _ z => SqL.of (z.2.1 _ _ hp)) ?_ ?_
    · rintro i x σ' H4 hx ⟨⟨v, rfl⟩, s4, hno⟩
      obtain ⟨ca, hca, rfl⟩ := refs_inv hx
      obtain ⟨c, hc, ec⟩ := hcs.get hca
      have ea := s4 _ _ ht
      refine ⟨_, rfl, t, rfl, ⟨_, SqT.of ea⟩, fun D hD => ?_⟩
      refine lc_map walk_tup (fun i y H => ∃ x, S[i]? = some x ∧ y = nv (c.getD x 0)) (by rw [nvs_len, hA.1]; omega) hD (fun G g => SqT.of (g _ _ ea)) (fun _ _ _ _ h _ => h) ySame_at ?_ ?_
      · rintro i x G1 G2 Q' hi g1 ge ⟨rfl, hx⟩ kk
        obtain ⟨y, hy, rfl⟩ := nvs_inv hx
        have hyn := (hA.2.2 y (List.mem_of_getElem? hy)).2
        have gc : c[y]? = some (c.getD y 0) := getD_of (by rw [cok.len c (List.mem_of_getElem? hc)]; exact hyn)
        exact ⟨rfl, _, rfl, _, rfl, _, _, _, _, rfl, rfl, SqL.of ((s4.trans g1) _ _ ec), atI_nat (nvs_get gc), kk _ _ (Same.refl _) ⟨y, hy, rfl⟩⟩
      intro G ys g eD l r
      obtain rfl := ext_list (f := fun x => nv (c.getD x 0)) (l.trans (nvs_len S)) r
      have eD' : G D = some (.lst ((S.map fun x => ((c.getD x 0 : Nat) : Int)).map V.int)) := by rw [eD, List.map_map]; rfl
      refine ⟨D, _, rfl, SqL.of eD', by rw [List.length_map, hA.1]; omega, fun m hm => ?_⟩
      rw [List.length_map, hA.1] at hm
      have hs : m = k ↔ Splits c S := by
        rw [hm]
        unfold Splits
        exact nodup_ints S _
      refine ⟨_, rfl, rfl, _, rfl, ?_⟩
      refine ite2 (fun h => ?_) (fun h => ?_)
      · exact q _ (s4.trans g)
      · refine ⟨⟨_, rfl⟩, s4.trans g, fun c' hc' => ?_⟩
        rw [take_snoc hc] at hc'
        rcases List.mem_append.mp hc' with z | z
        · exact hno c' z
        · rw [List.mem_singleton.mp z]
          intro z
          exact df h (by rw [hs.mpr z])
    · rintro σ' H4 ⟨⟨v, rfl⟩, s4, hno⟩
      rw [List.length_map, hcs.length, List.take_length] at hno
      obtain ⟨c, hc, hs⟩ := hex
      exact absurd hs (hno c hc)
def sp__law_separates : Sp := fun vs H Q _ => ∃ (p : Addr) (n k : Nat) (cs : List Addr) (fam : List (List Nat)), vs = [nv n, nv k, .ref p] ∧ n ≤ 10 ∧ k ≤ 7 ∧ H p = some (.lst (cs.map V.ref)) ∧ ColsAt H cs fam ∧ Cols n k fam ∧
  (∀ S, Asc n 0 k S → ∃ c ∈ fam, Splits c S) ∧ ∀ H', Same H H' → Q (.bl true) H'
theorem o__law_separates {f : Addr} {fd : FuncData} (F : FnP K "_law_separates" "_law_separates" s__law_separates f fd) (hm : mg "_law_separates" = some (.ref f)) (T : Tx mg) (D__law_subsets : Own P w K mg base 1 "_law_subsets" sp__law_subsets) (D__law_separates_one : Own P w K mg base 1 "_law_separates_one" sp__law_separates_one)  : Own P w K mg base 2 "_law_separates" sp__law_separates := by
  have sc : FnScope ["_law_n", "_law_k", "_law_family", "_law_some"] ["_law_n", "_law_k", "_law_family"] (defScope s__law_separates) := ⟨rfl, rfl, rfl, by decide +kernel, rfl, by decide +kernel, by decide +kernel⟩
  refine own_ok F hm sc (fun _ _ _ _ _ _ us hl => match us, hl with | [_, _, _], _ => rfl) (fun vs H Q E h => ?_) (fun cdv A outer s H vs Q E hr h => ?_)
  · obtain ⟨p, n, k, cs, fam, rfl, _⟩ := h; rfl
  · obtain ⟨p, n, k, cs, fam, rfl, hn, hk, hp, hcs, cok, cov, q⟩ := h
    have hu := hu_of hr
    refine ⟨_, (pss_cons (ps_for PassesOwn.never rfl (pi_list (pe_own D__law_subsets (hr.mono (by decide)) (by rfl) (pa_cons (pv 0) (pa_cons (pv 1) pa_nil)))) (pg_name (i := 3) sc.nd rfl (Or.inl rfl)) (pss_one (ps_if (pt_not (pt_val (pe_own D__law_separates_one (hr.mono (by decide)) (by rfl) (pa_cons (pv 2) (pa_cons (pv 3) (pa_cons (pv 1) pa_nil)))))) (pss_one (ps_ret pe_bl)) pss_nil))) 
      (pss_one (ps_ret pe_bl))), ?_⟩
    refine ⟨_, rfl, _, rfl, n, k, rfl, hn, hk, fun H1 o as xss s1 eo ta hA => ?_⟩
    refine ⟨o, rfl, ⟨_, SqL.of eo⟩, ?_⟩
    refine for_list (K := K) (a := o) (xs := as.map V.ref) (fun i σ' H' => (∃ v, σ' = [some (nv n), some (nv k), some (.ref p), v]) ∧ Same H1 H') ⟨⟨none, rfl⟩, Same.refl _⟩ (fun _ _ _ _ z => SqL.of (z.2 _ _ eo)) ?_ ?_
    · rintro i x σ' H3 hx ⟨⟨v, rfl⟩, s3⟩
      obtain ⟨a, ha, rfl⟩ := refs_inv hx
      obtain ⟨S, hS, e⟩ := ta.get ha
      have hSA := hA S (List.mem_of_getElem? hS)
      have s13 := s1.trans s3
      refine ⟨_, rfl, _, rfl, _, rfl, p, a, n, k, cs, fam, S, rfl, s13 _ _ hp, hcs.mono s13, cok, s3 _ _ e, hSA, hk, cov S hSA, fun H4 s4 => ⟨true, rfl, ?_⟩⟩
      exact iteF ⟨⟨_, rfl⟩, s3.trans s4⟩
    · rintro σ' H3 ⟨⟨v, rfl⟩, s3⟩
      exact q _ (s1.trans s3)
def sp__law_are_colourings : Sp := fun vs H Q _ => ∃ (p : Addr) (n k : Nat) (cs : List Addr) (fam : List (List Nat)), vs = [nv n, nv k, .ref p] ∧ H p = some (.lst (cs.map V.ref)) ∧ ColsAt H cs fam ∧ Cols n k fam ∧ Q (.bl true) H
theorem o__law_are_colourings {f : Addr} {fd : FuncData} (F : FnP K "_law_are_colourings" "_law_are_colourings" s__law_are_colourings f fd) (hm : mg "_law_are_colourings" = some (.ref f)) (T : Tx mg)   : Own P w K mg base 1 "_law_are_colourings" sp__law_are_colourings := by
  have sc : FnScope ["_law_n", "_law_k", "_law_family", "_law_colouring", "_law_colour"] ["_law_n", "_law_k", "_law_family"] (defScope s__law_are_colourings) := ⟨rfl, rfl, rfl, by decide +kernel, rfl, by decide +kernel, by decide +kernel⟩
  refine own_ok F hm sc (fun _ _ _ _ _ _ us hl => match us, hl with | [_, _, _], _ => rfl) (fun vs H Q E h => ?_) (fun cdv A outer s H vs Q E hr h => ?_)
  · obtain ⟨p, n, k, cs, fam, rfl, _⟩ := h; rfl
  · obtain ⟨p, n, k, cs, fam, rfl, hp, hcs, cok, q⟩ := h
    have hu := hu_of hr
    refine ⟨_, (pss_cons (ps_if (pt_not (pt_val (pe_callB call_isi (by rfl) T.isi (by decide +kernel) (pa_cons (pv 2) (pa_cons (pe_bltn (v := .ty "list") (by rfl) T.list (by decide +kernel) rfl) pa_nil))))) (pss_one (ps_ret pe_bl)) pss_nil) 
      (pss_cons (ps_for PassesOwn.never rfl (pi_list (pv 2)) (pg_name (i := 3) sc.nd rfl (Or.inl rfl)) (pss_cons (ps_if (PW.pt (pw_or (pt_not (pt_val (pe_callB call_isi (by rfl) T.isi (by decide +kernel) (pa_cons (pv 3) (pa_cons (pe_bltn (v := .ty "list") (by rfl) T.list (by decide +kernel) rfl) pa_nil))))) (pw_or1 (pt_cmpR op_ne (pe_callB call_len_seq (by rfl) T.len (by decide +kernel) (pa_cons (pv 3) pa_nil)) (pv 0) (nomark _))))) (pss_one (ps_ret pe_bl)) pss_nil) (pss_one (ps_for PassesOwn.never rfl (pi_list (pv 3)) (pg_name (i := 4) sc.nd rfl (Or.inl rfl)) (pss_one (ps_if (PW.pt (pw_or (pt_not (pt_val (pe_callB call_isi (by rfl) T.isi (by decide +kernel) (pa_cons (pv 4) (pa_cons (pe_bltn (v := .ty "int") (by rfl) T.int (by decide +kernel) rfl) pa_nil))))) (pw_or (pt_val (pe_callB call_isi (by rfl) T.isi (by decide +kernel) (pa_cons (pv 4) (pa_cons (pe_bltn (v := .ty "bool") (by rfl) T.bool (by decide +kernel) rfl) pa_nil)))) (pw_or1 (pt_not (pt_chain op_le op_lt pe_int (pv 4) (pv 1))))))) (pss_one (ps_ret pe_bl)) pss_nil)))))) 
      (pss_one (ps_ret pe_bl)))), ?_⟩
    refine ⟨_, rfl, _, _, _, _, true, rfl, .ty _, .base (.lst hp), kit_ty (by decide +kernel), true, rfl, ?_⟩
    refine iteF ?_
    refine ⟨_, rfl, p, rfl, ⟨_, SqL.of hp⟩, ?_⟩
    refine for_list (K := K) (a := p) (xs := cs.map V.ref) (fun i σ' H' => (∃ v3 v4, σ' = [some (nv n), some (nv k), some (.ref p), v3, v4]) ∧ H' = H) ⟨⟨none, none, rfl⟩, rfl⟩ (fun _ _ _ _ z => by rw [z.2]; exact SqL.of hp) ?_ ?_
    · rintro i x σ' H' hx ⟨⟨v3, v4, rfl⟩, rfl⟩
      obtain ⟨a, ha, rfl⟩ := refs_inv hx
      obtain ⟨c, hc, e⟩ := hcs.get ha
      have hm := List.mem_of_getElem? hc
      refine ⟨_, rfl, _, _, _, _, true, rfl, .ty _, .base (.lst e), kit_ty (by decide +kernel), true, rfl, ?_⟩
      refine iteF ?_
      refine ⟨_, rfl, _, _, rfl, .inl (SqL.of e), _, rfl, rfl, false, bNT (congrArg V.int (by rw [nvs_len, cok.len c hm])), ?_⟩
      refine iteF ?_
      refine ⟨_, rfl, a, rfl, ⟨_, SqL.of e⟩, ?_⟩
      refine for_list (K := K) (a := a) (xs := nvs c) (fun i σ' H'' => (∃ v, σ' = [some (nv n), some (nv k), some (.ref p), some (.ref a), v]) ∧ H'' = H') ⟨⟨_, rfl⟩, rfl⟩ (fun _ _ _ _ z => by rw [z.2]; exact SqL.of e) ?_ ?_
      · rintro u x σ' H'' hx ⟨⟨v, rfl⟩, rfl⟩
        obtain ⟨y, hy, rfl⟩ := nvs_inv hx
        have hyk := cok.lt c hm y (List.mem_of_getElem? hy)
        refine ⟨_, rfl, _, _, _, _, true, rfl, .ty _, .base (.int _), kit_ty (by decide +kernel), true, rfl, ?_⟩
        refine iteF ?_
        refine ⟨_, rfl, _, _, _, _, false, rfl, .ty _, .base (.int _), kit_ty (by decide +kernel), false, rfl, ?_⟩
        refine iteF ?_
        refine ⟨_, rfl, _, _, rfl, rfl, true, bT (by omega), ?_⟩
        refine ⟨_, rfl, _, _, rfl, rfl, true, bT (by omega), ?_⟩
        exact iteF ⟨⟨_, rfl⟩, rfl⟩
      · rintro σ' H'' ⟨⟨v, rfl⟩, rfl⟩
        exact ⟨⟨_, _, rfl⟩, rfl⟩
    · rintro σ' H' ⟨⟨v3, v4, rfl⟩, rfl⟩
      exact q
def sp__law_paper : Sp := fun vs H Q _ => ∃ (q p : Addr) (n k : Nat) (las : List Addr) (L : Rows) (cs : List Addr) (fam : List (List Nat)), vs = [.ref q, nv n, nv k, .ref p] ∧ H q = some (.lst (las.map V.ref)) ∧ ColsAt H las L ∧ GR n L ∧ n ≤ 10 ∧ 1 ≤ k ∧ k ≤ 7 ∧ Paper H n L k p cs fam ∧ ∀ H', Same H H' → Q (.bl true) H'
theorem o__law_paper {f : Addr} {fd : FuncData} (F : FnP K "_law_paper" "_law_paper" s__law_paper f fd) (hm : mg "_law_paper" = some (.ref f)) (T : Tx mg) (D__law_are_colourings : Own P w K mg base 1 "_law_are_colourings" sp__law_are_colourings) (D__law_separates : Own P w K mg base 2 "_law_separates" sp__law_separates) (D__law_colourful : Own P w K mg base 8 "_law_colourful" sp__law_colourful)  : Own P w K mg base 9 "_law_paper" sp__law_paper := by
  have sc : FnScope ["_law_near_here", "_law_n", "_law_k", "_law_family", "_law_colouring"] ["_law_near_here", "_law_n", "_law_k", "_law_family"] (defScope s__law_paper) := ⟨rfl, rfl, rfl, by decide +kernel, rfl, by decide +kernel, by decide +kernel⟩
  refine own_ok F hm sc (fun _ _ _ _ _ _ us hl => match us, hl with | [_, _, _, _], _ => rfl) (fun vs H Q E h => ?_) (fun cdv A outer s H vs Q E hr h => ?_)
  · obtain ⟨q, p, n, k, las, L, cs, fam, rfl, _⟩ := h; rfl
  · obtain ⟨qa, p, n, k, las, L, cs, fam, rfl, hq, cols, gr, hn, hk1, hk, pp, q⟩ := h
    have hu := hu_of hr
    refine ⟨_, (pss_cons (ps_if (PW.pt (pw_or (pt_not (pt_val (pe_own D__law_are_colourings (hr.mono (by decide)) (by rfl) (pa_cons (pv 1) (pa_cons (pv 2) (pa_cons (pv 3) pa_nil)))))) (pw_or1 (pt_not (pt_val (pe_own D__law_separates (hr.mono (by decide)) (by rfl) (pa_cons (pv 1) (pa_cons (pv 2) (pa_cons (pv 3) pa_nil))))))))) (pss_one (ps_ret pe_bl)) pss_nil) 
      (pss_cons (ps_for PassesOwn.never rfl (pi_list (pv 3)) (pg_name (i := 4) sc.nd rfl (Or.inl rfl)) (pss_one (ps_if (pt_cmpR op_gt (pe_own D__law_colourful (hr.mono (by decide)) (by rfl) (pa_cons (pv 0) (pa_cons (pv 4) (pa_cons (pv 2) pa_nil)))) pe_int (nomark _)) (pss_one (ps_ret pe_bl)) pss_nil))) 
      (pss_one (ps_ret pe_bl)))), ?_⟩
    refine ⟨_, rfl, _, rfl, _, rfl, p, n, k, cs, fam, rfl, pp.at_, pp.cols, pp.ok, true, rfl, ?_⟩
    refine iteF ?_
    refine ⟨_, rfl, _, rfl, _, rfl, p, n, k, cs, fam, rfl, hn, hk, pp.at_, pp.cols, pp.ok, pp.cov, fun H1 s1 => ⟨true, rfl, ?_⟩⟩
    refine iteF ?_
    refine ⟨_, rfl, p, rfl, ⟨_, SqL.of (s1 _ _ pp.at_)⟩, ?_⟩
    refine for_list (K := K) (a := p) (xs := cs.map V.ref) (fun i σ' H' => (∃ v, σ' = [some (.ref qa), some (nv n), some (nv k), some (.ref p), v]) ∧ Same H H') ⟨⟨none, rfl⟩, s1⟩ (fun _ _ _ _ z => SqL.of (z.2 _ _ pp.at_)) ?_ ?_
    · rintro i x σ' H2 hx ⟨⟨v, rfl⟩, s2⟩
      obtain ⟨a, ha, rfl⟩ := refs_inv hx
      obtain ⟨c, hc, e⟩ := pp.cols.get ha
      have hm := List.mem_of_getElem? hc
      refine ⟨_, rfl, _, rfl, _, rfl, qa, a, n, k, las, L, c, rfl, s2 _ _ hq, cols.mono s2, gr, s2 _ _ e, pp.ok.len c hm, hk1, hk, by omega, pp.no c hm, fun H3 s3 => ?_⟩
      refine ⟨_, _, rfl, rfl, false, bF (by decide), ?_⟩
      exact iteF ⟨⟨_, rfl⟩, s2.trans s3⟩
    · rintro σ' H2 ⟨⟨v, rfl⟩, s2⟩
      exact q _ s2
end
end K53
namespace K53
open PySem PySem.Spec PyProof.Rows L2
theorem ok7 : ∀ n, n < 8 → ∀ k, k < 8 → 1 ≤ k → okNK n k = true := by decide +kernel
/-- what path_or_paper tells -/
def Told (H : Hp) (n : Nat) (L : Rows) (k : Nat) (r q : Addr) : Prop :=
  (∃ p : List Nat, H r = some (.tup [.str "path", .ref q]) ∧ H q = some (.lst (nvs p)) ∧ CP n L (fun v => v) k p) ∨
  ∃ (cs : List Addr) (fam : List (List Nat)), H r = some (.tup [.str "paper", .ref q]) ∧ Paper H n L k q cs fam
theorem Told.mono {H H' : Hp} {n k : Nat} {L : Rows} {r q : Addr} (h : Told H n L k r q) (s : Same H H') : Told H' n L k r q := by
  rcases h with ⟨p, h1, h2, h3⟩ | ⟨cs, fam, h1, h2⟩
  · exact .inl ⟨p, s _ _ h1, s _ _ h2, h3⟩
  · exact .inr ⟨cs, fam, s _ _ h1, h2.mono s⟩
theorem Paper.none {H : Hp} {n k : Nat} {L : Rows} {q : Addr} {cs : List Addr} {fam : List (List Nat)} (h : Paper H n L k q cs fam) : ¬ ∃ p, CP n L (fun v => v) k p := fun ⟨p, hp⟩ => by
  obtain ⟨c, hc, p', hp'⟩ := cover_path h.cov hp
  exact h.no c hc ⟨p', hp'⟩
section
variable {P : Program} {w : World} {K : PySem.W.Frag} {mg : Str → Option Value} {base : Heap} {C fm : Addr}
def sp__law_same (C : Addr) : Sp := fun vs H Q _ => ∃ (g e : Addr) (n : Nat) (eas : List Addr) (es : List (Nat × Nat)), vs = [.ref g, nv n, .ref e] ∧ GraphAt C H g n es (linksOf n es) ∧ H e = some (.lst (eas.map V.ref)) ∧ PrsAt H eas es ∧ EOk n es ∧ n ≤ 40 ∧ es.length ≤ 50000 ∧ ∀ H', Same H H' → Q (.bl true) H'
theorem o__law_same {f : Addr} {fd : FuncData} (F : FnP K "_law_same" "_law_same" s__law_same f fd) (hm : mg "_law_same" = some (.ref f)) (T : Tx mg) (D__law_near : Own P w K mg base 1 "_law_near" sp__law_near) (Y : Gx K mg C) (D_eqI : Own P w K mg base 2 "_law_equal" sp_eqI) (D_eqL : Own P w K mg base 4 "_law_equal" sp_eqL) (D_eqE : Own P w K mg base 6 "_law_equal" sp_eqE) (D_nb : OwnM P w K mg base 4 fm (sp_Graph_neighbours C)) (Mm : Meth K C "neighbours" fm) : Own P w K mg base 7 "_law_same" (sp__law_same C) := by
  have sc : FnScope ["_law_graph", "_law_n", "_law_edges_here", "_law_near_here", "_law_v"] ["_law_graph", "_law_n", "_law_edges_here"] (defScope s__law_same) := ⟨rfl, rfl, rfl, by decide +kernel, rfl, by decide +kernel, by decide +kernel⟩
  refine own_ok F hm sc (fun _ _ _ _ _ _ us hl => match us, hl with | [_, _, _], _ => rfl) (fun vs H Q E h => ?_) (fun cdv A outer s H vs Q E hr h => ?_)
  · obtain ⟨g, e, n, eas, es, rfl, _⟩ := h; rfl
  · obtain ⟨g, e, n, eas, es, rfl, hg, he, pr, eo, hn, hl, q⟩ := h
    have hu := hu_of hr
    refine ⟨_, (pss_cons (ps_if (PW.pt (pw_or (pt_not (pt_val (pe_own D_eqI (hr.mono (by decide)) (by rfl) (pa_cons (pe_fld (pv 0) rfl) (pa_cons (pv 1) pa_nil))))) (pw_or1 (pt_not (pt_val (pe_own D_eqE (hr.mono (by decide)) (by rfl) (pa_cons (pe_fld (pv 0) rfl) (pa_cons (pv 2) pa_nil)))))))) (pss_one (ps_ret pe_bl)) pss_nil) 
      (pss_cons (ps_set (i := 3) sc.nd rfl (Or.inl rfl) (pe_own D__law_near (hr.mono (by decide)) (by rfl) (pa_cons (pv 1) (pa_cons (pv 2) pa_nil)))) 
      (pss_cons (ps_for PassesOwn.never rfl (pi_range1 (by rfl) T.range (pa_cons (pv 1) pa_nil)) (pg_name (i := 4) sc.nd rfl (Or.inl rfl)) (pss_one (ps_if (pt_not (pt_val (pe_own D_eqL (hr.mono (by decide)) (by rfl) (pa_cons (pe_mtOwn D_nb Y.cl Mm (hr.mono (by decide)) (pv 0) (pa_cons (pv 4) pa_nil)) (pa_cons (pe_ix ix_list (pv 3) (pv 4) (fun _ _ => rfl)) pa_nil))))) (pss_one (ps_ret pe_bl)) pss_nil))) 
      (pss_one (ps_ret pe_bl))))), ?_⟩
    have hg0 := hg
    obtain ⟨dx, ge, l, geas, las, g1, g2, g3, g4, g5⟩ := hg
    refine ⟨_, rfl, g, C, dx, _, _, rfl, g1, Y.cl, Y.nn, gfs_nodes n ge l, _, rfl, _, rfl, true, rfl, ?_⟩
    refine iteF ?_
    refine ⟨_, rfl, g, C, dx, _, _, rfl, g1, Y.cl, Y.ne, gfs_edges n ge l, _, rfl, ge, e, geas, eas, es, rfl, g2, g3, he, pr, hl, true, rfl, ?_⟩
    refine iteF ?_
    refine ⟨_, rfl, _, rfl, n, e, eas, es, rfl, hn, he, pr, eo, fun H1 nq nas s1 n0 en nc => ?_⟩
    refine ⟨_, rfl, _, rfl, by omega, by omega, ?_⟩
    rw [Int.toNat_natCast]
    have Ln := (links_ok eo).len
    refine for_range (lo := 0) (n := n) (fun i σ' H' => (∃ v, σ' = [some (.ref g), some (nv n), some (.ref e), some (.ref nq), v]) ∧ Same H1 H') ⟨⟨_, rfl⟩, Same.refl _⟩ ?_ ?_
    · rintro i σ' H2 hi ⟨⟨v, rfl⟩, s2⟩
      have ei : (0 : Int) + (i : Int) = ((i : Nat) : Int) := Int.zero_add _
      rw [ei]
      have s12 := s1.trans s2
      obtain ⟨ra, hra, era⟩ := nc.rowAt (v := i) (by omega)
      refine ⟨_, rfl, g, dx, _, rfl, s12 _ _ g1, gfs_nb n ge l, _, rfl, g, n, i, es, linksOf n es, rfl, hg0.mono s12, Ln, hi, fun p hp => ?_⟩
      have s3 : Same H2 (upd H2 p (.lst (nvs (row (linksOf n es) i)))) := Same.new hp
      have hrl : (row (linksOf n es) i).length ≤ 50000 := by have := (links_gr eo).row_le i; omega
      refine ⟨_, rfl, _, rfl, _, _, _, .ref ra, rfl, rfl, SqL.of (s3 _ _ (s2 _ _ en)), atI_nat (refs_get hra), p, ra, _, rfl, upd_same, s3 _ _ (s2 _ _ era), hrl, true, rfl, ?_⟩
      exact iteF ⟨⟨_, rfl⟩, s2.trans s3⟩
    · rintro σ' H2 ⟨⟨v, rfl⟩, s2⟩
      exact q _ (s1.trans s2)
def sp__law_right (C : Addr) : Sp := fun vs H Q _ => ∃ (g nr r q : Addr) (n k : Nat) (es : List (Nat × Nat)) (L : Rows) (las : List Addr), vs = [.ref g, .ref nr, nv n, nv k, .ref r] ∧ GraphAt C H g n es L ∧ GR n L ∧ H nr = some (.lst (las.map V.ref)) ∧ ColsAt H las L ∧ n ≤ 7 ∧ 1 ≤ k ∧ k ≤ 7 ∧ Told H n L k r q ∧ ∀ H', Same H H' → Q (.bl true) H'
theorem o__law_right {f : Addr} {fd : FuncData} (F : FnP K "_law_right" "_law_right" s__law_right f fd) (hm : mg "_law_right" = some (.ref f)) (T : Tx mg) (D__law_longest : Own P w K mg base 1 "_law_longest" sp__law_longest) (D__law_is_path : Own P w K mg base 1 "_law_is_path" sp__law_is_path) (D__law_paper : Own P w K mg base 9 "_law_paper" sp__law_paper) (D_refuses_path : Own P w K mg base 6 "refuses_path" (sp_refuses_path C))  : Own P w K mg base 10 "_law_right" (sp__law_right C) := by
  have sc : FnScope ["_law_graph", "_law_near_here", "_law_n", "_law_k", "_law_told"] ["_law_graph", "_law_near_here", "_law_n", "_law_k", "_law_told"] (defScope s__law_right) := ⟨rfl, rfl, rfl, by decide +kernel, rfl, by decide +kernel, by decide +kernel⟩
  refine own_ok F hm sc (fun _ _ _ _ _ _ us hl => match us, hl with | [_, _, _, _, _], _ => rfl) (fun vs H Q E h => ?_) (fun cdv A outer s H vs Q E hr h => ?_)
  · obtain ⟨g, nr, r, q, n, k, es, L, las, rfl, _⟩ := h; rfl
  · obtain ⟨g, nr, r, qa, n, k, es, L, las, rfl, hg, gr, hnr, cols, hn, hk1, hk, told, q⟩ := h
    have hu := hu_of hr
    refine ⟨_, (pss_cons (ps_if (PW.pt (pw_or (pt_not (pt_val (pe_callB call_isi (by rfl) T.isi (by decide +kernel) (pa_cons (pv 4) (pa_cons (pe_bltn (v := .ty "tuple") (by rfl) T.tuple (by decide +kernel) rfl) pa_nil))))) (pw_or1 (pt_cmpR op_ne (pe_callB call_len_seq (by rfl) T.len (by decide +kernel) (pa_cons (pv 4) pa_nil)) pe_int (nomark _))))) (pss_one (ps_ret pe_bl)) pss_nil) 
      (pss_cons (ps_if (pt_cmpR op_ge (pe_own D__law_longest (hr.mono (by decide)) (by rfl) (pa_cons (pv 1) pa_nil)) (pv 3) (nomark _)) (pss_one (ps_ret (pe_and (pe_cmpR op_eq (pe_ix ix_tup (pv 4) pe_int (fun _ _ => rfl)) pe_str (nomark _)) (pe_and (pe_own D__law_is_path (hr.mono (by decide)) (by rfl) (pa_cons (pv 1) (pa_cons (pe_ix ix_tup (pv 4) pe_int (fun _ _ => rfl)) pa_nil))) (pe_one (pe_cmpR op_eq (pe_callB call_len_seq (by rfl) T.len (by decide +kernel) (pa_cons (pe_ix ix_tup (pv 4) pe_int (fun _ _ => rfl)) pa_nil)) (pv 3) (nomark _))))))) pss_nil) 
      (pss_cons (ps_if (PW.pt (pw_or (pt_cmpR op_ne (pe_ix ix_tup (pv 4) pe_int (fun _ _ => rfl)) pe_str (nomark _)) (pw_or1 (pt_not (pt_val (pe_own D__law_paper (hr.mono (by decide)) (by rfl) (pa_cons (pv 1) (pa_cons (pv 2) (pa_cons (pv 3) (pa_cons (pe_ix ix_tup (pv 4) pe_int (fun _ _ => rfl)) pa_nil)))))))))) (pss_one (ps_ret pe_bl)) pss_nil) 
      (pss_one (ps_ret (pe_cmpR op_is_bl (pe_own D_refuses_path (hr.mono (by decide)) (by rfl) (pa_cons (pv 0) (pa_cons (pv 3) (pa_cons (pe_ix ix_tup (pv 4) pe_int (fun _ _ => rfl)) pa_nil)))) pe_bl (nomark _))))))), ?_⟩
    have ok := ok7 n (by omega) k (by omega) hk1
    rcases told with ⟨p, hr1, hp, cp⟩ | ⟨cs, fam, hr1, pp⟩
    · refine ⟨_, rfl, _, _, _, _, true, rfl, .ty _, .base (.tup hr1), kit_ty (by decide +kernel), true, rfl, ?_⟩
      refine iteF ?_
      refine ⟨_, rfl, _, _, rfl, .inr (SqT.of hr1), rfl, false, rfl, ?_⟩
      refine iteF ?_
      refine ⟨_, rfl, nr, n, las, L, rfl, hnr, cols, gr, hn, fun H1 b s1 hb => ?_⟩
      have hkb := (hb k hk1).mpr ⟨p, cp⟩
      refine ⟨_, rfl, _, _, rfl, rfl, true, bT (by omega), ?_⟩
      refine iteT ?_
      have e1 := s1 _ _ hr1
      refine ⟨_, rfl, _, _, _, .str "path", rfl, rfl, SqT.of e1, atI_nat (j := 0) rfl, rfl, true, bT rfl, ?_⟩
      refine ⟨_, rfl, _, rfl, _, _, _, .ref qa, rfl, rfl, SqT.of e1, atI_nat (j := 1) rfl, nr, qa, n, k, las, L, p, rfl, s1 _ _ hnr, cols.mono s1, gr.ok.len, s1 _ _ hp, cp, hk1, by omega, fun H2 s2 => ⟨true, rfl, ?_⟩⟩
      have s12 := s1.trans s2
      refine ⟨_, rfl, _, _, _, .ref qa, rfl, rfl, SqT.of (s12 _ _ hr1), atI_nat (j := 1) rfl, _, _, rfl, .inl (SqL.of (s12 _ _ hp)), _, rfl, rfl, ?_⟩
      exact qT (congrArg V.int (by rw [nvs_len, cp.len])) (q _ s12)
    · refine ⟨_, rfl, _, _, _, _, true, rfl, .ty _, .base (.tup hr1), kit_ty (by decide +kernel), true, rfl, ?_⟩
      refine iteF ?_
      refine ⟨_, rfl, _, _, rfl, .inr (SqT.of hr1), rfl, false, rfl, ?_⟩
      refine iteF ?_
      refine ⟨_, rfl, nr, n, las, L, rfl, hnr, cols, gr, hn, fun H1 b s1 hb => ?_⟩
      have hkb : ¬ k ≤ b := fun z => pp.none ((hb k hk1).mp z)
      refine ⟨_, rfl, _, _, rfl, rfl, false, bF (by omega), ?_⟩
      refine iteF ?_
      have e1 := s1 _ _ hr1
      refine ⟨_, rfl, _, _, _, .str "paper", rfl, rfl, SqT.of e1, atI_nat (j := 0) rfl, rfl, false, bNT rfl, ?_⟩
      refine iteF ?_
      refine ⟨_, rfl, _, rfl, _, rfl, _, rfl, _, _, _, .ref qa, rfl, rfl, SqT.of e1, atI_nat (j := 1) rfl, nr, qa, n, k, las, L, cs, fam, rfl, s1 _ _ hnr, cols.mono s1, gr, by omega, hk1, hk, pp.mono s1, fun H2 s2 => ⟨true, rfl, ?_⟩⟩
      refine iteF ?_
      have s12 := s1.trans s2
      refine ⟨_, rfl, _, rfl, _, rfl, _, _, _, .ref qa, rfl, rfl, SqT.of (s12 _ _ hr1), atI_nat (j := 1) rfl, g, qa, n, k, es, L, cs, fam, rfl, hg.mono s12, gr, ok, pp.mono s12, fun H3 s3 => ?_⟩
      refine ⟨_, _, rfl, rfl, ?_⟩
      exact qT rfl (q _ (s12.trans s3))
end
end K53
namespace K53
open PySem PySem.Spec PyProof.Rows L2
/-- an order along edges is a path -/
theorem order_path {n k : Nat} {o : List Nat} {es : List (Nat × Nat)} (eo : EOk n es) (pm : o.Perm (List.range n)) (hk : k ≤ n) (h : ∀ i, i + 1 < n → mm o (i, i + 1) ∈ es) : CP n (linksOf n es) (fun v => v) k (o.take k) := by
  obtain ⟨nd, ol, ob⟩ := perm_nd pm
  refine ⟨by rw [List.length_take]; omega, fun v hv => ob v (List.mem_of_mem_take hv), by rw [List.map_id']; exact nd.sublist (List.take_sublist _ _), ?_⟩
  intro i a b ha hb
  have hl := (List.getElem?_eq_some_iff.mp hb).1
  rw [List.length_take] at hl
  rw [List.getElem?_take] at ha hb
  rw [if_pos (by omega)] at ha hb
  have ea : o.getD i 0 = a := by rw [List.getD_eq_getElem?_getD, ha]; rfl
  have eb : o.getD (i + 1) 0 = b := by rw [List.getD_eq_getElem?_getD, hb]; rfl
  have hm := h i (by omega)
  unfold mm at hm
  rw [ea, eb] at hm
  refine (adj_links eo).mpr ?_
  rcases Nat.le_total a b with q | q
  · rw [Nat.min_eq_left q, Nat.max_eq_right q] at hm; exact .inl hm
  · rw [Nat.min_eq_right q, Nat.max_eq_left q] at hm; exact .inr hm
/-- parts of three: no path of four nodes -/
theorem parts_none {n : Nat} {es : List (Nat × Nat)} {cls : Nat → Nat} (eo : EOk n es) (hE : ∀ e ∈ es, cls e.1 = cls e.2) (hc : ∀ (t : Nat) (l : List Nat), l.Nodup → (∀ v ∈ l, v < n ∧ cls v = t) → l.length ≤ 3) :
    ¬ ∃ p, CP n (linksOf n es) (fun v => v) 4 p := by
  rintro ⟨p, cp⟩
  have nd := nd_of_map cp.nd
  have pl := cp.len
  have same : ∀ i, i < 4 → cls (p.getD i 0) = cls (p.getD 0 0) := by
    intro i
    induction i with
    | zero => exact fun _ => rfl
    | succ i ih =>
      intro hi
      rw [← ih (by omega)]
      have a := cp.ch i _ _ (getD_of (by omega)) (getD_of (by omega))
      rcases (adj_links eo).mp a with q | q
      · exact (hE _ q).symm
      · exact hE _ q
  have := hc (cls (p.getD 0 0)) p nd fun v hv => ⟨cp.lt v hv, by
    obtain ⟨i, hi, rfl⟩ := List.getElem_of_mem hv
    have h := same i (by omega)
    rw [List.getD_eq_getElem?_getD, List.getElem?_eq_getElem hi] at h
    exact h⟩
  omega
theorem idx_get {o : List Nat} (nd : o.Nodup) {i x : Nat} (h : o[i]? = some x) : o.idxOf x = i := by
  have hm := List.mem_of_getElem? h
  have hl := List.idxOf_lt_length_of_mem hm
  have e : o[o.idxOf x]? = some x := by rw [List.getElem?_eq_getElem hl, List.getElem_idxOf]
  exact nd_ix nd e h
theorem few3 {n : Nat} {o : List Nat} (pm : o.Perm (List.range n)) (t : Nat) (l : List Nat) (nd : l.Nodup) (h : ∀ v ∈ l, v < n ∧ o.idxOf v / 3 = t) : l.length ≤ 3 := by
  have inj : ∀ a ∈ l, ∀ b ∈ l, o.idxOf a = o.idxOf b → a = b := fun a ha b hb e => by
    have ma : a ∈ o := pm.mem_iff.mpr (List.mem_range.mpr (h a ha).1)
    have mb : b ∈ o := pm.mem_iff.mpr (List.mem_range.mpr (h b hb).1)
    have e1 : o[o.idxOf a]? = some a := by rw [List.getElem?_eq_getElem (List.idxOf_lt_length_of_mem ma), List.getElem_idxOf]
    have e2 : o[o.idxOf b]? = some b := by rw [List.getElem?_eq_getElem (List.idxOf_lt_length_of_mem mb), List.getElem_idxOf]
    rw [e, e2] at e1
    exact (Option.some.inj e1).symm
  have nd2 : (l.map fun v => o.idxOf v - 3 * t).Nodup := by
    unfold List.Nodup
    rw [List.pairwise_map]
    refine List.Pairwise.imp_of_mem ?_ nd
    intro a b ha hb hab e
    have h1 := (h a ha).2
    have h2 := (h b hb).2
    exact hab (inj a ha b hb (by omega))
  have := nodup_le (n := 3) nd2 fun x hx => by
    obtain ⟨v, hv, rfl⟩ := List.mem_map.mp hx
    have h1 := (h v hv).2
    omega
  rwa [List.length_map] at this
/-- sorted(set(pairs)) -/
def ksOf (H : Hp) (as : List Addr) : List (Addr × List Int) := as.map fun a => (a, [(gn H a).1, (gn H a).2].map fun x : Nat => (x : Int))
theorem sort_set {H : Hp} {as : List Addr} {ps : List (Nat × Nat)} {n : Nat} {L L' : List (Addr × List Int)} (t : PrsAt H as ps) (hlt : ∀ e ∈ ps, e.1 < e.2 ∧ e.2 < n) (hn : n ≤ 40) (h1 : ∀ p ∈ L, p ∈ ksOf H as) (h2 : ∀ p ∈ ksOf H as, p.2 ∈ L.map (·.2))
    (hp : L'.Perm L) (nd : (L'.map (·.2)).Nodup) (hs : L'.Pairwise fun q r => TS.code 64 q.2 ≤ TS.code 64 r.2) :
    ∃ es, PrsAt H (L'.map (·.1)) es ∧ EOk n es ∧ ∀ e ∈ ps, e ∈ es := by
  obtain ⟨e0, hm⟩ := prs_map t
  have mem : ∀ p ∈ L', p.1 ∈ as ∧ p.2 = [((gn H p.1).1 : Int), ((gn H p.1).2 : Int)] := fun p hp' => by
    obtain ⟨a, ha, rfl⟩ := List.mem_map.mp (h1 p (hp.mem_iff.mp hp'))
    exact ⟨ha, rfl⟩
  have hb : ∀ p ∈ L', (gn H p.1).1 < (gn H p.1).2 ∧ (gn H p.1).2 < n := fun p hp' => hlt _ (by rw [e0]; exact List.mem_map_of_mem (mem p hp').1)
  refine ⟨(L'.map (·.1)).map (gn H), prs_at fun a ha => ?_, ⟨fun e he => ?_, ?_⟩, fun e he => ?_⟩
  · obtain ⟨p, hp', rfl⟩ := List.mem_map.mp ha
    exact hm _ (mem p hp').1
  · obtain ⟨a, ha, rfl⟩ := List.mem_map.mp he
    obtain ⟨p, hp', rfl⟩ := List.mem_map.mp ha
    exact hb p hp'
  · rw [List.pairwise_map, List.pairwise_map]
    have nd2 := List.pairwise_map.mp nd
    refine (hs.and nd2).imp_of_mem fun {p q} hp' hq' h => ?_
    obtain ⟨h3, h4⟩ := h
    rw [(mem p hp').2, (mem q hq').2] at h3 h4
    have b1 := hb p hp'
    have b2 := hb q hq'
    have r := pair_lt h3 h4 ⟨by omega, by omega⟩ ⟨by omega, by omega⟩ ⟨by omega, by omega⟩ ⟨by omega, by omega⟩
    unfold LexLt
    omega
  · rw [e0] at he
    obtain ⟨a, ha, rfl⟩ := List.mem_map.mp he
    have := h2 (a, [((gn H a).1 : Int), ((gn H a).2 : Int)]) (List.mem_map.mpr ⟨a, ha, rfl⟩)
    obtain ⟨p, hp', e⟩ := List.mem_map.mp this
    have hpL := hp.mem_iff.mpr hp'
    refine List.mem_map.mpr ⟨p.1, List.mem_map_of_mem hpL, ?_⟩
    rw [(mem p hpL).2] at e
    injection e with e1 e2
    injection e2 with e2 _
    exact Prod.ext (by omega) (by omega)
/-- a new graph leaves what was there -/
theorem made {H H' : Hp} {l x dx : Addr} {o q r : HO} (hl : H l = none) (hx : upd H l o x = none) (hdx : upd H l o dx = none) (k : ∀ b u, b ≠ x → (upd (upd (upd H l o) dx q) x r) b = some u → H' b = some u) : Same H H' := fun b u h => by
  have e1 : upd H l o b = some u := (upd_ne (ne_of_none h hl)).trans h
  have n1 := ne_of_none e1 hx
  exact k b u n1 ((upd_ne n1).trans ((upd_ne (ne_of_none e1 hdx)).trans e1))
end K53
namespace K53
open PySem PySem.Spec PyProof.Rows L2
theorem okNK_of {n k : Nat} (h1 : 1 ≤ k) (h : n ≤ 8 ∧ k ≤ 7 ∨ n ≤ 10 ∧ k ≤ 5 ∨ n ≤ 20 ∧ k ≤ 3) : okNK n k = true := by
  unfold okNK
  simp only [Bool.and_eq_true, Bool.or_eq_true, Nat.ble_eq]
  omega
/-- a pair more -/
theorem add_pair {H H' H6 : Hp} {d p A t : Addr} {as : List Addr} {ps : List (Nat × Nat)} {u v : Nat} (dr : DrawsAt H' d p) (nA : A ≠ d ∧ A ≠ p) (A0 : H A = none) (b : But d H H') (eA : H' A = some (.lst (as.map V.ref))) (pr : PrsAt H' as ps) (ht : H' t = none)
    (e6 : H6 A = some (.lst (as.map V.ref ++ [.ref t]))) (k6 : ∀ x, x ≠ A → H6 x = upd H' t (.tup [nv u, nv v]) x) :
    But d H H6 ∧ DrawsAt H6 d p ∧ H6 A = some (.lst ((as ++ [t]).map V.ref)) ∧ PrsAt H6 (as ++ [t]) (ps ++ [(u, v)]) ∧ ∀ x, x ≠ A → ∀ o, H' x = some o → H6 x = some o := by
  have ntA : A ≠ t := ne_of_none eA ht
  have s6 : ∀ x, x ≠ A → ∀ o, H' x = some o → H6 x = some o := fun x hx o h => by rw [k6 x hx, upd_ne (ne_of_none h ht)]; exact h
  have t6 : H6 t = some (.tup [nv u, nv v]) := (k6 t ntA.symm).trans upd_same
  refine ⟨fun x o hx h => s6 x (ne_of_none h A0) o (b x o hx h), (dr.mono (Same.new ht)).but nA k6, by rw [e6, List.map_append]; rfl, PrsAt.snoc (Paired.mapP pr fun a e h => s6 a (fun z => by rw [z, eA] at h; cases h) _ h) t6, s6⟩
section
variable {P : Program} {w : World} {K : PySem.W.Frag} {mg : Str → Option Value} {base : Heap} {C fi : Addr}
def sp__law_planted : Sp := fun vs H Q _ => ∃ d p : Addr, vs = [.ref d] ∧ DrawsAt H d p ∧ ∀ H', But d H H' → DrawsAt H' d p → Q (.bl true) H'
theorem o__law_planted {f : Addr} {fd : FuncData} (F : FnP K "_law_planted" "_law_planted" s__law_planted f fd) (hm : mg "_law_planted" = some (.ref f)) (T : Tx mg) (D__law_draw : Own P w K mg base 2 "_law_draw" sp__law_draw) (D__law_order : Own P w K mg base 3 "_law_order" sp__law_order) (D__law_near : Own P w K mg base 1 "_law_near" sp__law_near) (D__law_is_path : Own P w K mg base 1 "_law_is_path" sp__law_is_path) (D_path_or_paper : Own P w K mg base 6 "path_or_paper" (sp_path_or_paper C)) (D__law_same : Own P w K mg base 7 "_law_same" (sp__law_same C)) (Y : Gx K mg C) (D_init : OwnM P w K mg base 4 fi (sp_Graph_init C)) (Mi : Mk K C fi) : Own P w K mg base 8 "_law_planted" sp__law_planted := by
  have sc : FnScope ["_law_draws", "_law_n", "_law_order_here", "_law_pairs_here", "_law_k", "_law_u", "_law_v", "_law_edges_here", "_law_graph", "_law_told", "_law_i"] ["_law_draws"] (defScope s__law_planted) := ⟨rfl, rfl, rfl, by decide +kernel, rfl, by decide +kernel, by decide +kernel⟩
  refine own_ok F hm sc (fun _ _ _ _ _ _ us hl => match us, hl with | [_], _ => rfl) (fun vs H Q E h => ?_) (fun cdv A outer s H vs Q E hr h => ?_)
  · obtain ⟨d, p, rfl, _⟩ := h; rfl
  · obtain ⟨d, p, rfl, dr, q⟩ := h
    have hu := hu_of hr
    refine ⟨_, (pss_cons (ps_set (i := 1) sc.nd rfl (Or.inl rfl) (pe_op op_add pe_int (pe_op op_mod (pe_own D__law_draw (hr.mono (by decide)) (by rfl) (pa_cons (pv 0) pa_nil)) pe_int))) 
      (pss_cons (ps_set (i := 2) sc.nd rfl (Or.inr rfl) (pe_own D__law_order (hr.mono (by decide)) (by rfl) (pa_cons (pv 0) (pa_cons (pv 1) pa_nil)))) 
      (pss_cons (ps_setLc (i := 3) (own := [("_law_i", 10)]) (g := gName 10) (tt := tYes) rfl sc.nd rfl rfl (sw_true rfl rfl rfl (by decide +kernel)) (pi_range1 (by rfl) T.range (pa_cons (pe_op op_sub (pv 1) pe_int) pa_nil)) (blkOk_by (N := (["_law_draws", "_law_n", "_law_order_here", "_law_pairs_here", "_law_k", "_law_u", "_law_v", "_law_edges_here", "_law_graph", "_law_told", "_law_i"] : List Str)) (sc := defScope s__law_planted) (by decide +kernel)) (fun _ _ _ _ _ => (pg_name (i := 10) sc.nd rfl (Or.inl rfl))) (fun _ _ _ _ _ => pts_nil) (fun _ _ _ _ _ => (pe_tup (pa_cons (pe_callB (call_min2 rfl) (by rfl) T.min (by decide +kernel) (pa_cons (pe_ix (ix_listK K) (pv 2) (pv 10) (fun _ _ => rfl)) (pa_cons (pe_ix (ix_listK K) (pv 2) (pe_op op_add (pv 10) pe_int) (fun _ _ => rfl)) pa_nil))) (pa_cons (pe_callB (call_max2 rfl) (by rfl) T.max (by decide +kernel) (pa_cons (pe_ix (ix_listK K) (pv 2) (pv 10) (fun _ _ => rfl)) (pa_cons (pe_ix (ix_listK K) (pv 2) (pe_op op_add (pv 10) pe_int) (fun _ _ => rfl)) pa_nil))) pa_nil))))) 
      (pss_cons (ps_for PassesOwn.never rfl (pi_range1 (by rfl) T.range (pa_cons (pe_op op_mod (pe_own D__law_draw (hr.mono (by decide)) (by rfl) (pa_cons (pv 0) pa_nil)) pe_int) pa_nil)) (pg_name (i := 4) sc.nd rfl (Or.inl rfl)) (pss_cons (ps_set (i := 5) sc.nd rfl (Or.inl rfl) (pe_op op_mod (pe_own D__law_draw (hr.mono (by decide)) (by rfl) (pa_cons (pv 0) pa_nil)) (pv 1))) (pss_cons (ps_set (i := 6) sc.nd rfl (Or.inl rfl) (pe_op op_mod (pe_own D__law_draw (hr.mono (by decide)) (by rfl) (pa_cons (pv 0) pa_nil)) (pv 1))) (pss_one (ps_if (pt_cmpR op_lt (pv 5) (pv 6) (nomark _)) (pss_one (ps_expr (pe_bm PySem.F.plainAttrs_list PySem.F.slot_list_append PySem.F.type_list_append mt_append (pv 3) (pa_cons (pe_tup (pa_cons (pv 5) (pa_cons (pv 6) pa_nil))) pa_nil)))) pss_nil))))) 
      (pss_cons (ps_set (i := 7) sc.nd rfl (Or.inl rfl) (pe_callB (cr_sortedT rfl) (by rfl) T.sorted (by decide +kernel) (pa_cons (pe_callTy (cr_setOfT rfl hr.units) (by rfl) T.set (by decide +kernel) (pa_cons (pv 3) pa_nil)) pa_nil))) 
      (pss_cons (ps_set (i := 8) sc.nd rfl (Or.inl rfl) (pe_mkOwn D_init Mi Y.mg (hr.mono (by decide)) (by rfl) (pa_cons (pv 1) (pa_cons (pe_callTy call_list_of (by rfl) T.list (by decide +kernel) (pa_cons (pv 7) pa_nil)) pa_nil)))) 
      (pss_cons (ps_set (i := 4) sc.nd rfl (Or.inl rfl) (pe_op op_add pe_int (pe_op op_mod (pe_own D__law_draw (hr.mono (by decide)) (by rfl) (pa_cons (pv 0) pa_nil)) pe_int))) 
      (pss_cons (ps_if (pt_cmpR op_gt (pv 1) pe_int (nomark _)) (pss_one (ps_set (i := 4) sc.nd rfl (Or.inl rfl) (pe_op op_add pe_int (pe_op op_mod (pv 4) (pe_ix ix_list (pe_lst (pa_cons pe_int (pa_cons pe_int pa_nil))) (pe_callTy call_int1 (by rfl) T.int (by decide +kernel) (pa_cons (pe_cmpR op_lt (pv 1) pe_int (nomark _)) pa_nil)) (fun _ _ => rfl)))))) pss_nil) 
      (pss_cons (ps_set (i := 9) sc.nd rfl (Or.inl rfl) (pe_own D_path_or_paper (hr.mono (by decide)) (by rfl) (pa_cons (pv 8) (pa_cons (pv 4) pa_nil)))) 
      (pss_cons (ps_if (PW.pt (pw_or (pt_not (pt_val (pe_callB call_isi (by rfl) T.isi (by decide +kernel) (pa_cons (pv 9) (pa_cons (pe_bltn (v := .ty "tuple") (by rfl) T.tuple (by decide +kernel) rfl) pa_nil))))) (pw_or (pt_cmpR op_ne (pe_callB call_len_seq (by rfl) T.len (by decide +kernel) (pa_cons (pv 9) pa_nil)) pe_int (nomark _)) (pw_or (pt_cmpR op_ne (pe_ix ix_tup (pv 9) pe_int (fun _ _ => rfl)) pe_str (nomark _)) (pw_or1 (pt_not (pt_val (pe_own D__law_same (hr.mono (by decide)) (by rfl) (pa_cons (pv 8) (pa_cons (pv 1) (pa_cons (pv 7) pa_nil))))))))))) (pss_one (ps_ret pe_bl)) pss_nil) 
      (pss_one (ps_ret (pe_and (pe_own D__law_is_path (hr.mono (by decide)) (by rfl) (pa_cons (pe_own D__law_near (hr.mono (by decide)) (by rfl) (pa_cons (pv 1) (pa_cons (pv 7) pa_nil))) (pa_cons (pe_ix ix_tup (pv 9) pe_int (fun _ _ => rfl)) pa_nil))) (pe_one (pe_cmpR op_eq (pe_callB call_len_seq (by rfl) T.len (by decide +kernel) (pa_cons (pe_ix ix_tup (pv 9) pe_int (fun _ _ => rfl)) pa_nil)) (pv 4) (nomark _)))))))))))))))), ?_⟩
    refine ⟨_, rfl, d, p, rfl, dr, fun z1 H1 b1 dr1 => ?_⟩
    refine ⟨_, _, rfl, rfl, (show (0 : Int) < 13 by decide), _, _, rfl, rfl, ?_⟩
    obtain ⟨n, en, hn8, hn20⟩ : ∃ n : Nat, V.int (8 + z1 % 13) = nv n ∧ 8 ≤ n ∧ n ≤ 20 := by
      obtain ⟨k, hk, ek⟩ := mod_ix z1 (m := 13) (by omega)
      have ek : z1 % 13 = (k : Int) := ek
      exact ⟨8 + k, by rw [ek]; rfl, by omega, by omega⟩
    show gName 1 (V.int (8 + z1 % 13)) _ _ _
    rw [en]
    refine ⟨_, rfl, _, rfl, d, p, n, rfl, dr1, by omega, fun H2 qo o b2 dr2 f2 e2 pm => ?_⟩
    obtain ⟨ond, ol, ob⟩ := perm_nd pm
    have b12 := b1.trans b2
    clear b1 dr1 b2 f2
    refine ⟨_, rfl, _, _, rfl, rfl, _, rfl, by omega, by omega, fun D hD => ?_⟩
    rw [show ((n : Int) - 1).toNat = n - 1 by omega]
    have nD := dr2.nes hD
    have D0 := dr.free b12 hD dr2
    refine lc_map walk_range (fun i y H => ∃ t, y = .ref t ∧ t ≠ D ∧ H t = some (.tup [nv (mm o (i, i + 1)).1, nv (mm o (i, i + 1)).2])) (by omega) hD (fun _ _ => trivial) (fun i y H H' ⟨t, h1, h2, h3⟩ k => ⟨t, h1, h2, k t _ h2 h3⟩) ySame_fn ?_ ?_
    · rintro i x H3 H4 Q' hi s ⟨ys, eD⟩ ⟨rfl, rfl⟩ kk
      have ei : (0 : Int) + (i : Int) = ((i : Nat) : Int) := Int.zero_add _
      have ei1 : (i : Int) + 1 = ((i + 1 : Nat) : Int) := rfl
      show gName 10 (V.int ((0 : Int) + (i : Int))) _ _ _
      rw [ei]
      have eo := s _ _ e2
      have gu := nvs_get (getD_of (ns := o) (i := i) (by omega))
      have gv := nvs_get (getD_of (ns := o) (i := i + 1) (by omega))
      refine ⟨rfl, ?_⟩
      refine ⟨_, rfl, _, rfl, _, _, _, _, rfl, rfl, SqL.of eo, atI_nat gu, _, rfl, _, rfl, _, _, rfl, rfl, _, _, _, _, rfl, rfl, SqL.of eo, by rw [ei1]; exact atI_nat gv, _, _, rfl, ?_⟩
      refine ⟨_, rfl, _, rfl, _, _, _, _, rfl, rfl, SqL.of eo, atI_nat gu, _, rfl, _, rfl, _, _, rfl, rfl, _, _, _, _, rfl, rfl, SqL.of eo, by rw [ei1]; exact atI_nat gv, _, _, rfl, by show 2 ≤ sizeLine; decide, fun t ht => ?_⟩
      refine kk _ _ (Same.new ht) ⟨t, rfl, fun z => (by rw [z, eD] at ht; cases ht), ?_⟩
      rw [upd_same]
      have m1 : (if ((o.getD (i + 1) 0 : Nat) : Int) < ((o.getD i 0 : Nat) : Int) then ((o.getD (i + 1) 0 : Nat) : Int) else ((o.getD i 0 : Nat) : Int)) = ((min (o.getD i 0) (o.getD (i + 1) 0) : Nat) : Int) := by split <;> omega
      have m2 : (if ((o.getD (i + 1) 0 : Nat) : Int) > ((o.getD i 0 : Nat) : Int) then ((o.getD (i + 1) 0 : Nat) : Int) else ((o.getD i 0 : Nat) : Int)) = ((max (o.getD i 0) (o.getD (i + 1) 0) : Nat) : Int) := by split <;> omega
      exact congrArg some (congrArg HO.tup (by rw [m1, m2]; rfl))
    intro H3 ys s3 eD yl r
    obtain ⟨ts, rfl, hts⟩ := refs_of (F := fun i t => t ≠ D ∧ H3 t = some (.tup [nv (mm o (i, i + 1)).1, nv (mm o (i, i + 1)).2])) (ys := ys) fun i y h => by
      obtain ⟨t, h1, h2, h3⟩ := r i y h
      exact ⟨t, h1, h2, h3⟩
    rw [List.length_map] at yl
    have pr3 : PrsAt H3 ts ((List.range (n - 1)).map fun i => mm o (i, i + 1)) := prs_of (by simpa using yl) fun i t h => by
      have hi : i < n - 1 := by have := (List.getElem?_eq_some_iff.mp h).1; omega
      exact ⟨_, by rw [List.getElem?_map, List.getElem?_range hi]; rfl, (hts i t h).2⟩
    clear r hts
    have lt3 : ∀ e ∈ (List.range (n - 1)).map fun i => mm o (i, i + 1), e.1 < e.2 ∧ e.2 < n := fun e he => by
      obtain ⟨i, hi, rfl⟩ := List.mem_map.mp he
      have := List.mem_range.mp hi
      exact mm_ok pm (e := (i, i + 1)) ⟨Nat.lt_succ_self i, by show i + 1 < n; omega⟩
    have dr3 := dr2.mono s3
    have b3 : But d H H3 := b12.tS s3
    have e3 := s3 _ _ e2
    refine ⟨_, rfl, d, p, rfl, dr3, fun z4 H4 b4 dr4 => ⟨_, _, rfl, rfl, (show (0 : Int) < 6 by decide), _, rfl, ?lb, ?ub, ?_⟩⟩
    case lb => have := Int.emod_nonneg z4 (show (6 : Int) ≠ 0 by decide); show _ ≤ z4 % 6; omega
    case ub => have := Int.emod_lt_of_pos z4 (show (0 : Int) < 6 by decide); show z4 % 6 < _; omega
    have hz6 : (z4 % 6).toNat ≤ 5 := by have := Int.emod_lt_of_pos z4 (show (0 : Int) < 6 by decide); omega
    refine for_range (lo := 0) (n := (z4 % 6).toNat) (fun i σ' H' => ∃ (v4 v5 v6 : Option V) (as : List Addr) (ps : List (Nat × Nat)), σ' = [some (.ref d), some (nv n), some (.ref qo), some (.ref D), v4, v5, v6, none, none, none, none] ∧ But d H H' ∧ DrawsAt H' d p ∧ H' D = some (.lst (as.map V.ref)) ∧ PrsAt H' as ps ∧
      (∀ e ∈ ps, e.1 < e.2 ∧ e.2 < n) ∧ (∀ i, i + 1 < n → mm o (i, i + 1) ∈ ps) ∧ ps.length ≤ 20 + i)
      ⟨none, none, none, ts, _, rfl, b3.trans b4, dr4, b4 _ _ nD.1 eD, dr3.prs b4 pr3, lt3, fun i hi => List.mem_map.mpr ⟨i, List.mem_range.mpr (by omega), rfl⟩, by rw [List.length_map, List.length_range]; omega⟩ ?_ ?_
    · rintro i σ' H5 hi ⟨v4, v5, v6, as, ps, rfl, b5, dr5, eD5, pr5, lt5, in5, l5⟩
      refine ⟨_, rfl, d, p, rfl, dr5, fun z6 H6 b6 dr6 => ⟨_, rfl, _, _, rfl, rfl, (show (0 : Int) < (n : Int) by omega), ?_⟩⟩
      obtain ⟨u, hu', eu⟩ := mod_ix z6 (m := n) (by omega)
      show gName 5 (V.int (z6 % (n : Int))) _ _ _
      rw [eu]
      refine ⟨_, rfl, d, p, rfl, dr6, fun z7 H7 b7 dr7 => ⟨_, rfl, _, _, rfl, rfl, (show (0 : Int) < (n : Int) by omega), ?_⟩⟩
      obtain ⟨v, hv', ev⟩ := mod_ix z7 (m := n) (by omega)
      show gName 6 (V.int (z7 % (n : Int))) _ _ _
      rw [ev]
      have b57 := b6.trans b7
      have b7' := b5.trans b57
      have eD7 := b57 _ _ nD.1 eD5
      have pr7 := dr5.prs b57 pr5
      clear b6 dr6 b7 b5 eD5 eu ev
      refine ⟨_, rfl, _, rfl, _, _, rfl, rfl, _, rfl, ?_⟩
      refine ite2 (fun h => ?_) (fun h => ?_)
      · have huv : (u : Int) < (v : Int) := of_decide_eq_true h
        refine ⟨_, rfl, .inl ⟨rfl, _, SqL.of eD7⟩, _, rfl, _, rfl, by show 2 ≤ sizeLine; decide, fun t ht => ?_⟩
        have ntD : D ≠ t := ne_of_none eD7 ht
        refine ⟨D, _, _, rfl, rfl, (upd_ne ntD).trans eD7, by rw [List.length_map, pr7.length]; exact sz5 (by omega), ?_⟩
        refine updI fun H8 e8 k8 => ?_
        obtain ⟨a1, a2, a3, a4, a5⟩ := add_pair dr7 nD D0 b7' eD7 pr7 ht e8 k8
        refine ⟨_, _, _, as ++ [t], ps ++ [(u, v)], rfl, a1, a2, a3, a4, fun e he => ?_, fun j hj => List.mem_append_left _ (in5 j hj), by rw [List.length_append, List.length_singleton]; omega⟩
        rcases List.mem_append.mp he with h | h
        · exact lt5 e h
        · rw [List.mem_singleton.mp h]; exact ⟨by show u < v; omega, hv'⟩
      · exact ⟨_, _, _, as, ps, rfl, b7', dr7, eD7, pr7, lt5, in5, by omega⟩
    rintro σ' H5 ⟨v4, v5, v6, as, ps, rfl, b5, dr5, eD5, pr5, lt5, in5, l5⟩
    obtain ⟨_, hm5⟩ := prs_map pr5
    refine ⟨_, rfl, D, ksOf H5 as, rfl, ?s1, ?s2, ?s3, fun a L ha h1 h2 => ?_⟩
    case s1 =>
      have : (ksOf H5 as).map (fun p => V.ref p.1) = as.map V.ref := by unfold ksOf; rw [List.map_map]; rfl
      rw [this]; exact SqL.of eD5
    case s2 =>
      intro x hx
      obtain ⟨b, hb, rfl⟩ := List.mem_map.mp hx
      exact SqT.of (hm5 b hb)
    case s3 => unfold ksOf; rw [List.length_map, pr5.length]; omega
    have s6 : Same H5 (upd H5 a (SetTO P w a L)) := Same.new ha
    have hL : ∀ x ∈ L, x.1 ∈ as ∧ x.2 = [((gn H5 x.1).1 : Int), ((gn H5 x.1).2 : Int)] := fun x hx => by
      obtain ⟨b, hb, rfl⟩ := List.mem_map.mp (h1 x hx)
      exact ⟨hb, rfl⟩
    refine ⟨a, L, 2, 64, rfl, upd_same, fun x hx => ?_, by decide, fun x hx => ?_, fun L' e pmL nd l64 hs he => ?_⟩
    · rw [(hL x hx).2]
      exact SqT.of (s6 _ _ (hm5 _ (hL x hx).1))
    · rw [(hL x hx).2]
      refine ⟨rfl, fun y hy => ?_⟩
      have hb : (gn H5 x.1).1 < (gn H5 x.1).2 ∧ (gn H5 x.1).2 < n := lt5 _ (by rw [(prs_map pr5).1]; exact List.mem_map_of_mem (hL x hx).1)
      rcases List.mem_cons.mp hy with rfl | hy
      · omega
      · rw [List.mem_singleton.mp hy]; omega
    obtain ⟨es, pre, eo, hin⟩ := sort_set pr5 lt5 (by omega) h1 h2 pmL nd hs
    refine updI fun H7 ee7 k7 => ?_
    have s7 : Same H5 H7 := s6.trans (Same.step he k7)
    have ee7 : H7 e = some (.lst ((L'.map (·.1)).map V.ref)) := by rw [ee7, List.map_map]; rfl
    have pr7 := pre.mono s7
    have esl : es.length ≤ 64 := by rw [← pre.length, List.length_map]; omega
    generalize L'.map (·.1) = eas at pr7 ee7
    have dr7 := dr5.mono s7
    have b7 : But d H H7 := b5.tS s7
    have cpk : ∀ k, k ≤ n → CP n (linksOf n es) (fun v => v) k (o.take k) := fun k hk => order_path eo pm hk fun i hi => hin _ (in5 i hi)
    clear hL h1 h2 pmL nd l64 hs he s6 hin pre s7 k7 pr5 hm5 eD5 dr5 b5 lt5 in5
    refine ⟨_, rfl, _, rfl, e, _, rfl, .inl (SqL.of ee7), fun l hl x dx hx hdx hne => ?_⟩
    have sx : Same H7 (upd (upd (upd H7 l (.lst (eas.map V.ref))) dx (.own x)) x (.ins C dx [])) := ((Same.new hl).trans (Same.new hdx)).trans (Same.new ((upd_ne hne.symm).trans hx))
    refine ⟨x, l, dx, n, eas, es, rfl, upd_same, by omega, (upd_ne (ne_of_none upd_same hx)).trans ((upd_ne (ne_of_none upd_same hdx)).trans upd_same), pr7.mono sx, eo, fun H8 k8 gA => ⟨rfl, ?_⟩⟩
    have s8 := made hl hx hdx k8
    clear k8 sx hx hdx hl
    have ee8 := s8 _ _ ee7
    have pr8 := pr7.mono s8
    have dr8 := dr7.mono s8
    have b8 : But d H H8 := b7.tS s8
    clear ee7 pr7 dr7 b7 s8
    refine ⟨_, rfl, d, p, rfl, dr8, fun z9 H9 b9 dr9 => ⟨_, _, rfl, rfl, (show (0 : Int) < 7 by decide), _, _, rfl, rfl, ?_⟩⟩
    obtain ⟨k0, ek0, hk1, hk7⟩ : ∃ k : Nat, V.int (1 + z9 % 7) = nv k ∧ 1 ≤ k ∧ k ≤ 7 := by
      obtain ⟨k, hk, ek⟩ := mod_ix z9 (m := 7) (by omega)
      have ek : z9 % 7 = (k : Int) := ek
      exact ⟨1 + k, by rw [ek]; rfl, by omega, by omega⟩
    show gName 4 (V.int (1 + z9 % 7)) _ _ _
    rw [ek0]
    have gA9 := dr8.graph b9 gA
    have ee9 := dr8.refs b9 ee8
    have pr9 := dr8.prs b9 pr8
    have b9' := b8.trans b9
    clear gA ee8 pr8 b8 b9 dr8
    refine ⟨_, rfl, _, _, rfl, rfl, _, rfl, ?_⟩
    refine ite2 (fun h => ?c1) (fun h => ?c2)
    case' c1 =>
      have hn9 : (8 : Int) < (n : Int) := of_decide_eq_true h
      obtain ⟨m, hm, hm2⟩ : ∃ m : Nat, atI [V.int 3, V.int 5] (if decide ((n : Int) < 11) = true then 1 else 0) = some (nv m) ∧ (n < 11 ∧ m = 5 ∨ m = 3) := by
        by_cases h11 : (n : Int) < 11
        · refine ⟨5, ?_, .inl ⟨by omega, rfl⟩⟩
          rw [decide_eq_true h11]; rfl
        · refine ⟨3, ?_, .inr rfl⟩
          rw [decide_eq_false h11]; rfl
      have hm0 : (0 : Int) < (m : Int) := by omega
      refine ⟨_, rfl, by show 2 ≤ sizeLine; decide, fun l5 hl5 => ?_⟩
      have s10 : Same H9 (upd H9 l5 (.lst [.int 3, .int 5])) := Same.new hl5
      refine ⟨_, rfl, _, _, rfl, rfl, .inr ⟨_, rfl, l5, _, _, _, rfl, rfl, SqL.of upd_same, hm, ?_⟩⟩
      refine ⟨_, _, rfl, rfl, hm0, _, _, rfl, rfl, ?_⟩
      obtain ⟨k, ek, hk1', okk, hkn⟩ : ∃ k : Nat, V.int (1 + (k0 : Int) % (m : Int)) = nv k ∧ 1 ≤ k ∧ okNK n k = true ∧ k ≤ n := by
        have h1 := Nat.mod_lt k0 (show 0 < m by omega)
        exact ⟨1 + k0 % m, by show V.int _ = V.int _; congr 1, by omega, okNK_of (by omega) (by omega), by omega⟩
      show gName 4 (V.int (1 + (k0 : Int) % (m : Int))) _ _ _
      rw [ek]
      generalize (upd H9 l5 (.lst [.int 3, .int 5])) = H10 at s10
    case' c2 =>
      have hn9 : ¬ (8 : Int) < (n : Int) := df h
      obtain ⟨H10, e10, s10⟩ : ∃ H10, H9 = H10 ∧ Same H9 H10 := ⟨_, rfl, Same.refl _⟩
      obtain ⟨k, ek, hk1', okk, hkn⟩ : ∃ k : Nat, nv k0 = nv k ∧ 1 ≤ k ∧ okNK n k = true ∧ k ≤ n := ⟨k0, rfl, hk1, okNK_of hk1 (.inl ⟨by omega, hk7⟩), by omega⟩
      rw [ek, e10]
    all_goals
      have gA10 := gA9.mono s10
      have ee10 := s10 _ _ ee9
      have pr10 := pr9.mono s10
      have dr10 := dr9.mono s10
      have b10 := b9'.tS s10
      clear gA9 ee9 pr9 dr9 b9' s10 hn9 h
      have hk7' := (okNK_bounds okk).2.2
      refine ⟨_, rfl, _, rfl, x, n, k, es, linksOf n es, rfl, gA10, links_gr eo, okk, fun H11 r q1 pth s11 r0 q0 nrq er eq1 cp => ?_, fun H11 r q1 cs fam s11 r0 q0 nrq er pp => absurd ⟨_, cpk k hkn⟩ pp.none⟩
      refine ⟨_, rfl, _, _, _, _, true, rfl, .ty _, .base (.tup er), kit_ty (by decide +kernel), true, rfl, ?_⟩
      refine iteF ?_
      refine ⟨_, rfl, _, _, rfl, .inr (SqT.of er), rfl, false, rfl, ?_⟩
      refine iteF ?_
      refine ⟨_, rfl, _, _, _, .str "path", rfl, rfl, SqT.of er, atI_nat (j := 0) rfl, rfl, false, bNT rfl, ?_⟩
      refine iteF ?_
      refine ⟨_, rfl, _, rfl, _, rfl, x, e, n, eas, es, rfl, gA10.mono s11, s11 _ _ ee10, pr10.mono s11, eo, by omega, by omega, fun H12 s12 => ⟨true, rfl, ?_⟩⟩
      refine iteF ?_
      have s1012 := s11.trans s12
      refine ⟨_, rfl, _, rfl, n, e, eas, es, rfl, by omega, s1012 _ _ ee10, pr10.mono s1012, eo, fun H13 nq nas s13 n0 en nc => ?_⟩
      have s113 := s12.trans s13
      refine ⟨_, rfl, _, _, _, .ref q1, rfl, rfl, SqT.of (s113 _ _ er), atI_nat (j := 1) rfl, nq, q1, n, k, nas, linksOf n es, pth, rfl, en, nc, (links_ok eo).len, s113 _ _ eq1, cp, hk1', by omega, fun H14 s14 => ⟨true, rfl, ?_⟩⟩
      have s114 := s113.trans s14
      refine ⟨_, rfl, _, _, _, .ref q1, rfl, rfl, SqT.of (s114 _ _ er), atI_nat (j := 1) rfl, _, _, rfl, .inl (SqL.of (s114 _ _ eq1)), _, rfl, rfl, ?_⟩
      exact qT (congrArg V.int (by rw [nvs_len, cp.len])) (q _ (b10.tS (s11.trans s114)) (dr10.mono (s11.trans s114)))
end
end K53
namespace K53
open PySem PySem.Spec PyProof.Rows L2
theorem range3 {n : Nat} (h1 : 9 ≤ n) (h2 : n ≤ 10) : ∃ m : Nat, RgC 0 (n : Int) 3 m ∧ m ≤ 4 ∧ ∀ i, i < m → 3 * i < n := by
  have e : n = 9 ∨ n = 10 := by omega
  rcases e with rfl | rfl
  · exact ⟨3, ⟨by decide, by decide, by decide +kernel, by decide +kernel⟩, by decide, fun i hi => by omega⟩
  · exact ⟨4, ⟨by decide, by decide, by decide +kernel, by decide +kernel⟩, by decide, fun i hi => by omega⟩
theorem part_ok {n t : Nat} {o : List Nat} (pm : o.Perm (List.range n)) : (srt ((o.drop (3 * t)).take 3)).Nodup ∧ (srt ((o.drop (3 * t)).take 3)).length ≤ 3 ∧ ∀ x ∈ srt ((o.drop (3 * t)).take 3), x < n ∧ o.idxOf x / 3 = t := by
  obtain ⟨nd, ol, ob⟩ := perm_nd pm
  have p := srt_perm ((o.drop (3 * t)).take 3)
  refine ⟨p.nodup_iff.mpr ((nd.sublist (List.drop_sublist _ _)).sublist (List.take_sublist _ _)), by rw [p.length_eq, List.length_take]; omega, fun x hx => ?_⟩
  have hx' := p.mem_iff.mp hx
  obtain ⟨i, hi, e⟩ := List.getElem_of_mem hx'
  rw [List.length_take] at hi
  have e' : o[3 * t + i]? = some x := by
    have h1 : ((o.drop (3 * t)).take 3)[i]? = some x := by rw [← e]; exact List.getElem?_eq_getElem _
    rw [List.getElem?_take, if_pos (by omega), List.getElem?_drop] at h1
    exact h1
  exact ⟨ob x (List.mem_of_getElem? e'), by rw [idx_get nd e']; omega⟩
theorem srt_lt {l : List Nat} (nd : (srt l).Nodup) {i j : Nat} {x y : Nat} (hx : (srt l)[i]? = some x) (hy : (srt l)[j]? = some y) (h : i < j) : x < y := by
  obtain ⟨h1, e1⟩ := List.getElem?_eq_some_iff.mp hx
  obtain ⟨h2, e2⟩ := List.getElem?_eq_some_iff.mp hy
  have a := List.pairwise_iff_getElem.mp (srt_le l) i j h1 h2 h
  rw [e1, e2] at a
  have b : x ≠ y := fun z => by
    have := nd_ix nd hx (hy.trans (congrArg some z.symm))
    omega
  omega
section
variable {P : Program} {w : World} {K : PySem.W.Frag} {mg : Str → Option Value} {base : Heap} {C fi : Addr}
theorem o__law_parted {f : Addr} {fd : FuncData} (F : FnP K "_law_parted" "_law_parted" s__law_parted f fd) (hm : mg "_law_parted" = some (.ref f)) (T : Tx mg) (D__law_draw : Own P w K mg base 2 "_law_draw" sp__law_draw) (D__law_order : Own P w K mg base 3 "_law_order" sp__law_order) (D__law_near : Own P w K mg base 1 "_law_near" sp__law_near) (D__law_paper : Own P w K mg base 9 "_law_paper" sp__law_paper) (D_path_or_paper : Own P w K mg base 6 "path_or_paper" (sp_path_or_paper C)) (D_refuses_path : Own P w K mg base 6 "refuses_path" (sp_refuses_path C)) (D__law_same : Own P w K mg base 7 "_law_same" (sp__law_same C)) (Y : Gx K mg C) (D_init : OwnM P w K mg base 4 fi (sp_Graph_init C)) (Mi : Mk K C fi) : Own P w K mg base 10 "_law_parted" sp__law_planted := by
  have sc : FnScope ["_law_draws", "_law_n", "_law_order_here", "_law_pairs_here", "_law_at", "_law_part", "_law_i", "_law_j", "_law_edges_here", "_law_graph", "_law_told"] ["_law_draws"] (defScope s__law_parted) := ⟨rfl, rfl, rfl, by decide +kernel, rfl, by decide +kernel, by decide +kernel⟩
  refine own_ok F hm sc (fun _ _ _ _ _ _ us hl => match us, hl with | [_], _ => rfl) (fun vs H Q E h => ?_) (fun cdv A outer s H vs Q E hr h => ?_)
  · obtain ⟨d, p, rfl, _⟩ := h; rfl
  · obtain ⟨d, p, rfl, dr, q⟩ := h
    have hu := hu_of hr
    refine ⟨_, (pss_cons (ps_set (i := 1) sc.nd rfl (Or.inl rfl) (pe_op op_add pe_int (pe_op op_mod (pe_own D__law_draw (hr.mono (by decide)) (by rfl) (pa_cons (pv 0) pa_nil)) pe_int))) 
      (pss_cons (ps_set (i := 2) sc.nd rfl (Or.inl rfl) (pe_own D__law_order (hr.mono (by decide)) (by rfl) (pa_cons (pv 0) (pa_cons (pv 1) pa_nil)))) 
      (pss_cons (ps_set (i := 3) sc.nd rfl (Or.inl rfl) (pe_lst pa_nil)) 
      (pss_cons (ps_for PassesOwn.never rfl (pi_range3 (by rfl) T.range (pa_cons pe_int (pa_cons (pv 1) (pa_cons pe_int pa_nil)))) (pg_name (i := 4) sc.nd rfl (Or.inl rfl)) (pss_cons (ps_set (i := 5) sc.nd rfl (Or.inl rfl) (pe_callB cr_sortedI (by rfl) T.sorted (by decide +kernel) (pa_cons (pe_slice sl_list (pv 2) (po_some (pv 4)) (po_some (pe_op op_add (pv 4) pe_int))) pa_nil))) (pss_one (ps_for PassesOwn.never rfl (pi_range1 (by rfl) T.range (pa_cons (pe_callB call_len_seq (by rfl) T.len (by decide +kernel) (pa_cons (pv 5) pa_nil)) pa_nil)) (pg_name (i := 6) sc.nd rfl (Or.inl rfl)) (pss_one (ps_for PassesOwn.never rfl (pi_range1 (by rfl) T.range (pa_cons (pv 6) pa_nil)) (pg_name (i := 7) sc.nd rfl (Or.inl rfl)) (pss_one (ps_if (pt_cmpR op_gt (pe_op op_mod (pe_own D__law_draw (hr.mono (by decide)) (by rfl) (pa_cons (pv 0) pa_nil)) pe_int) pe_int (nomark _)) (pss_one (ps_expr (pe_bm PySem.F.plainAttrs_list PySem.F.slot_list_append PySem.F.type_list_append mt_append (pv 3) (pa_cons (pe_tup (pa_cons (pe_ix ix_list (pv 5) (pv 7) (fun _ _ => rfl)) (pa_cons (pe_ix ix_list (pv 5) (pv 6) (fun _ _ => rfl)) pa_nil))) pa_nil)))) pss_nil)))))))) 
      (pss_cons (ps_set (i := 8) sc.nd rfl (Or.inl rfl) (pe_callB cr_sortedPO (by rfl) T.sorted (by decide +kernel) (pa_cons (pv 3) pa_nil))) 
      (pss_cons (ps_set (i := 9) sc.nd rfl (Or.inl rfl) (pe_mkOwn D_init Mi Y.mg (hr.mono (by decide)) (by rfl) (pa_cons (pv 1) (pa_cons (pe_callTy call_list_of (by rfl) T.list (by decide +kernel) (pa_cons (pv 8) pa_nil)) pa_nil)))) 
      (pss_cons (ps_set (i := 10) sc.nd rfl (Or.inl rfl) (pe_own D_path_or_paper (hr.mono (by decide)) (by rfl) (pa_cons (pv 9) (pa_cons pe_int pa_nil)))) 
      (pss_cons (ps_if (PW.pt (pw_or (pt_not (pt_val (pe_callB call_isi (by rfl) T.isi (by decide +kernel) (pa_cons (pv 10) (pa_cons (pe_bltn (v := .ty "tuple") (by rfl) T.tuple (by decide +kernel) rfl) pa_nil))))) (pw_or (pt_cmpR op_ne (pe_callB call_len_seq (by rfl) T.len (by decide +kernel) (pa_cons (pv 10) pa_nil)) pe_int (nomark _)) (pw_or (pt_cmpR op_ne (pe_ix ix_tup (pv 10) pe_int (fun _ _ => rfl)) pe_str (nomark _)) (pw_or1 (pt_not (pt_val (pe_own D__law_same (hr.mono (by decide)) (by rfl) (pa_cons (pv 9) (pa_cons (pv 1) (pa_cons (pv 8) pa_nil))))))))))) (pss_one (ps_ret pe_bl)) pss_nil) 
      (pss_one (ps_ret (pe_and (pe_own D__law_paper (hr.mono (by decide)) (by rfl) (pa_cons (pe_own D__law_near (hr.mono (by decide)) (by rfl) (pa_cons (pv 1) (pa_cons (pv 8) pa_nil))) (pa_cons (pv 1) (pa_cons pe_int (pa_cons (pe_ix ix_tup (pv 10) pe_int (fun _ _ => rfl)) pa_nil))))) (pe_one (pe_cmpR op_is_bl (pe_own D_refuses_path (hr.mono (by decide)) (by rfl) (pa_cons (pv 9) (pa_cons pe_int (pa_cons (pe_ix ix_tup (pv 10) pe_int (fun _ _ => rfl)) pa_nil)))) pe_bl (nomark _)))))))))))))), ?_⟩
    refine ⟨_, rfl, d, p, rfl, dr, fun z1 H1 b1 dr1 => ?_⟩
    refine ⟨_, _, rfl, rfl, (show (0 : Int) < 2 by decide), _, _, rfl, rfl, ?_⟩
    obtain ⟨n, en, hn8, hn20⟩ : ∃ n : Nat, V.int (9 + z1 % 2) = nv n ∧ 9 ≤ n ∧ n ≤ 10 := by
      obtain ⟨k, hk, ek⟩ := mod_ix z1 (m := 2) (by omega)
      have ek : z1 % 2 = (k : Int) := ek
      exact ⟨9 + k, by rw [ek]; rfl, by omega, by omega⟩
    show gName 1 (V.int (9 + z1 % 2)) _ _ _
    rw [en]
    refine ⟨_, rfl, _, rfl, d, p, n, rfl, dr1, by omega, fun H2 qo o b2 dr2 f2 e2 pm => ?_⟩
    obtain ⟨ond, ol, ob⟩ := perm_nd pm
    have b12 := b1.trans b2
    have qo0 : H qo = none := dr.free b1 f2 dr1
    clear b1 dr1 b2 f2
    refine ⟨Nat.zero_le _, fun D hD => ?_⟩
    have nD := dr2.nes hD
    have D0 := dr.free b12 hD dr2
    have nqD : qo ≠ D := ne_of_none e2 hD
    refine updI fun H3 e3 k3 => ?_
    have s3 : Same H2 H3 := Same.step hD k3
    obtain ⟨m, hm, hm4, hm3⟩ := range3 hn8 hn20
    refine ⟨_, rfl, _, _, _, m, rfl, hm, ?_⟩
    refine for_rangeC (lo := 0) (c := 3) (n := m) (fun t σ' H' => ∃ (v4 v5 v6 v7 : Option V) (as : List Addr) (ps : List (Nat × Nat)), σ' = [some (.ref d), some (nv n), some (.ref qo), some (.ref D), v4, v5, v6, v7, none, none, none] ∧ But d H H' ∧ DrawsAt H' d p ∧ H' qo = some (.lst (nvs o)) ∧ H' D = some (.lst (as.map V.ref)) ∧ PrsAt H' as ps ∧
      (∀ e ∈ ps, e.1 < e.2 ∧ e.2 < n ∧ o.idxOf e.1 / 3 = o.idxOf e.2 / 3 ∧ o.idxOf e.2 / 3 < t) ∧ ps.Nodup ∧ ps.length ≤ 9 * t)
      ⟨none, none, none, none, [], [], rfl, b12.tS s3, dr2.mono s3, s3 _ _ e2, e3, .nil, fun e he => (by cases he), List.nodup_nil, Nat.zero_le _⟩ ?_ ?_
    · rintro t σ' H4 ht ⟨v4, v5, v6, v7, as, ps, rfl, b4, dr4, eo4, eD4, pr4, lt4, nd4, l4⟩
      have h3t := hm3 t ht
      have et : (0 : Int) + (t : Int) * 3 = ((3 * t : Nat) : Int) := by omega
      have et3 : ((3 * t : Nat) : Int) + 3 = ((3 * t + 3 : Nat) : Int) := rfl
      show gName 4 (V.int ((0 : Int) + (t : Int) * 3)) _ _ _
      rw [et]
      refine ⟨_, rfl, _, rfl, _, rfl, _, rfl, _, _, rfl, rfl, _, rfl, qo, _, rfl, SqL.of eo4, fun f hf => ?_⟩
      have ecut : cutV (nvs o) (some ((3 * t : Nat) : Int)) (some (((3 * t : Nat) : Int) + 3)) = (((o.drop (3 * t)).take 3).map fun x : Nat => (x : Int)).map V.int := by
        rw [et3, cut_mid o _ (by omega), show 3 * t + 3 - 3 * t = 3 by omega]
        unfold nvs
        rw [List.map_map]; rfl
      refine ⟨f, ((o.drop (3 * t)).take 3).map fun x : Nat => (x : Int), rfl, SqL.of (by rw [upd_same]; exact congrArg some (congrArg HO.lst ecut)), fun ns' pa hpm hs hpa => ?_⟩
      obtain rfl := srt_ints hpm hs
      refine updI fun H5 e5 k5 => ?_
      have s5 : Same H4 H5 := (Same.new hf).trans (Same.step hpa k5)
      have e5 : H5 pa = some (.lst (nvs (srt ((o.drop (3 * t)).take 3)))) := by rw [e5, List.map_map]; rfl
      obtain ⟨pnd, pl, pin⟩ := part_ok (t := t) pm
      generalize hpart : srt ((o.drop (3 * t)).take 3) = part at e5 pnd pl pin
      have nDpa : D ≠ pa := by
        have h1 : (upd H4 f (.lst (cutV (nvs o) (some ((3 * t : Nat) : Int)) (some (((3 * t : Nat) : Int) + 3))))) D = some (.lst (as.map V.ref)) := (Same.new hf) _ _ eD4
        exact ne_of_none h1 hpa
      have pa4 : H4 pa = none := (Same.new hf).free hpa
      have npa := dr4.nes pa4
      refine ⟨_, rfl, _, _, rfl, .inl (SqL.of e5), _, rfl, by rw [nvs_len]; omega, by rw [nvs_len]; omega, ?_⟩
      rw [Int.toNat_natCast, nvs_len]
      refine for_range (lo := 0) (n := part.length) (fun a σ' H' => ∃ (v6 v7 : Option V) (as : List Addr) (ps : List (Nat × Nat)), σ' = [some (.ref d), some (nv n), some (.ref qo), some (.ref D), some (nv (3 * t)), some (.ref pa), v6, v7, none, none, none] ∧ But d H H' ∧ DrawsAt H' d p ∧ H' qo = some (.lst (nvs o)) ∧ H' pa = some (.lst (nvs part)) ∧ H' D = some (.lst (as.map V.ref)) ∧ PrsAt H' as ps ∧
        (∀ e ∈ ps, e.1 < e.2 ∧ e.2 < n ∧ o.idxOf e.1 / 3 = o.idxOf e.2 / 3 ∧ (o.idxOf e.2 / 3 < t ∨ ∃ a' b', b' < a' ∧ part[a']? = some e.2 ∧ part[b']? = some e.1 ∧ a' < a)) ∧ ps.Nodup ∧ ps.length ≤ 9 * t + 3 * a)
        ⟨_, _, as, ps, rfl, b4.tS s5, dr4.mono s5, s5 _ _ eo4, e5, s5 _ _ eD4, pr4.mono s5, fun e he => ⟨(lt4 e he).1, (lt4 e he).2.1, (lt4 e he).2.2.1, .inl (lt4 e he).2.2.2⟩, nd4, by omega⟩ ?_ ?_
      · rintro a σ' H6 ha ⟨v6, v7, as, ps, rfl, b6, dr6, eo6, ep6, eD6, pr6, lt6, nd6, l6⟩
        have ea : (0 : Int) + (a : Int) = ((a : Nat) : Int) := Int.zero_add _
        rw [ea]
        refine ⟨_, rfl, _, rfl, by omega, by omega, ?_⟩
        rw [Int.toNat_natCast]
        refine for_range (lo := 0) (n := a) (fun c σ' H' => ∃ (v7 : Option V) (as : List Addr) (ps : List (Nat × Nat)), σ' = [some (.ref d), some (nv n), some (.ref qo), some (.ref D), some (nv (3 * t)), some (.ref pa), some (nv a), v7, none, none, none] ∧ But d H H' ∧ DrawsAt H' d p ∧ H' qo = some (.lst (nvs o)) ∧ H' pa = some (.lst (nvs part)) ∧ H' D = some (.lst (as.map V.ref)) ∧ PrsAt H' as ps ∧
          (∀ e ∈ ps, e.1 < e.2 ∧ e.2 < n ∧ o.idxOf e.1 / 3 = o.idxOf e.2 / 3 ∧ (o.idxOf e.2 / 3 < t ∨ ∃ a' b', b' < a' ∧ part[a']? = some e.2 ∧ part[b']? = some e.1 ∧ (a' < a ∨ a' = a ∧ b' < c))) ∧ ps.Nodup ∧ ps.length ≤ 9 * t + 3 * a + c)
          ⟨_, as, ps, rfl, b6, dr6, eo6, ep6, eD6, pr6, fun e he => ⟨(lt6 e he).1, (lt6 e he).2.1, (lt6 e he).2.2.1, (lt6 e he).2.2.2.imp id fun ⟨a', b', h1, h2, h3, h4⟩ => ⟨a', b', h1, h2, h3, .inl h4⟩⟩, nd6, by omega⟩ ?_ ?_
        · rintro c σ' H7 hc ⟨v7, as, ps, rfl, b7, dr7, eo7, ep7, eD7, pr7, lt7, nd7, l7⟩
          have ec : (0 : Int) + (c : Int) = ((c : Nat) : Int) := Int.zero_add _
          rw [ec]
          refine ⟨_, rfl, d, p, rfl, dr7, fun z8 H8 b8 dr8 => ⟨_, _, rfl, rfl, (show (0 : Int) < 4 by decide), _, _, rfl, rfl, _, rfl, ?_⟩⟩
          have eo8 := dr7.nvs b8 eo7
          have ep8 := dr7.nvs b8 ep7
          have eD8 := dr7.refs b8 eD7
          have pr8 := dr7.prs b8 pr7
          have b78 := b7.trans b8
          have mono : ∀ e ∈ ps, e.1 < e.2 ∧ e.2 < n ∧ o.idxOf e.1 / 3 = o.idxOf e.2 / 3 ∧ (o.idxOf e.2 / 3 < t ∨ ∃ a' b', b' < a' ∧ part[a']? = some e.2 ∧ part[b']? = some e.1 ∧ (a' < a ∨ a' = a ∧ b' < c + 1)) := fun e he => by
            obtain ⟨h1, h2, h3, h4⟩ := lt7 e he
            exact ⟨h1, h2, h3, h4.imp id fun ⟨a', b', h1, h2, h3, h4⟩ => ⟨a', b', h1, h2, h3, by omega⟩⟩
          refine ite2 (fun h => ?_) (fun h => ?_)
          · have gu : part[c]? = some (part.getD c 0) := getD_of (by omega)
            have gw : part[a]? = some (part.getD a 0) := getD_of ha
            refine ⟨_, rfl, .inl ⟨rfl, _, SqL.of eD8⟩, _, rfl, _, rfl, _, _, _, _, rfl, rfl, SqL.of ep8, atI_nat (nvs_get gu), _, rfl, _, rfl, _, _, _, _, rfl, rfl, SqL.of ep8, atI_nat (nvs_get gw), by show 2 ≤ sizeLine; decide, fun x hx => ?_⟩
            have nDx : D ≠ x := ne_of_none eD8 hx
            refine ⟨D, _, _, rfl, rfl, (upd_ne nDx).trans eD8, by rw [List.length_map, pr8.length]; exact sz5 (by omega), ?_⟩
            refine updI fun H9 e9 k9 => ?_
            obtain ⟨a1, a2, a3, a4, a5⟩ := add_pair dr8 nD D0 b78 eD8 pr8 hx e9 k9
            obtain ⟨iu1, iu2⟩ := pin _ (List.mem_of_getElem? gu)
            obtain ⟨iw1, iw2⟩ := pin _ (List.mem_of_getElem? gw)
            refine ⟨_, as ++ [x], ps ++ [(part.getD c 0, part.getD a 0)], rfl, a1, a2, a5 _ nqD _ eo8, a5 _ nDpa.symm _ ep8, a3, a4, fun e he => ?_, ?_, by rw [List.length_append, List.length_singleton]; omega⟩
            · rcases List.mem_append.mp he with h | h
              · exact mono e h
              · rw [List.mem_singleton.mp h]
                exact ⟨by subst hpart; exact srt_lt pnd gu gw hc, iw1, by show _ / 3 = _ / 3; rw [iu2, iw2], .inr ⟨a, c, hc, gw, gu, .inr ⟨rfl, Nat.lt_succ_self c⟩⟩⟩
            · rw [List.nodup_append]
              refine ⟨nd7, by simp, fun e he f hf z => ?_⟩
              rw [List.mem_singleton.mp hf] at z
              obtain ⟨_, _, _, h4⟩ := lt7 e he
              rw [z] at h4
              rcases h4 with h4 | ⟨a', b', h5, h6, h7, h8⟩
              · have h4 : o.idxOf (part.getD a 0) / 3 < t := h4
                omega
              · have := nd_ix pnd h6 gw
                have := nd_ix pnd h7 gu
                omega
          · exact ⟨_, as, ps, rfl, b78, dr8, eo8, ep8, eD8, pr8, mono, nd7, by omega⟩
        · rintro σ' H7 ⟨v7, as, ps, rfl, b7, dr7, eo7, ep7, eD7, pr7, lt7, nd7, l7⟩
          exact ⟨_, _, as, ps, rfl, b7, dr7, eo7, ep7, eD7, pr7, fun e he => ⟨(lt7 e he).1, (lt7 e he).2.1, (lt7 e he).2.2.1, (lt7 e he).2.2.2.imp id fun ⟨a', b', h1, h2, h3, h4⟩ => ⟨a', b', h1, h2, h3, by omega⟩⟩, nd7, by omega⟩
      · rintro σ' H6 ⟨v6, v7, as, ps, rfl, b6, dr6, eo6, ep6, eD6, pr6, lt6, nd6, l6⟩
        refine ⟨_, _, _, _, as, ps, rfl, b6, dr6, eo6, eD6, pr6, fun e he => ?_, nd6, by omega⟩
        obtain ⟨h1, h2, h3, h4⟩ := lt6 e he
        refine ⟨h1, h2, h3, ?_⟩
        rcases h4 with h4 | ⟨a', b', h5, h6, h7, h8⟩
        · omega
        · have := (pin _ (List.mem_of_getElem? h6)).2
          omega
    rintro σ' H5 ⟨v4, v5, v6, v7, as, ps, rfl, b5, dr5, eo5, eD5, pr5, lt5, nd5, l5⟩
    refine ⟨_, rfl, D, _, gv H5, rfl, SqL.of eD5, fun x hx => ?_, fun ys e hs hb he => ?_⟩
    · obtain ⟨t, ht, rfl⟩ := List.mem_map.mp hx
      have h := (prs_map pr5).2 t ht
      refine ⟨t, rfl, ?_⟩
      have e : gv H5 (V.ref t) = _ := gk_of h
      rw [e]; exact h
    obtain ⟨eas, es, rfl, pre, hpe, hlt⟩ := sort_prs pr5 nd5 hs hb
    have eo : EOk n es := ⟨fun e he => ⟨(lt5 e (hpe.mem_iff.mp he)).1, (lt5 e (hpe.mem_iff.mp he)).2.1⟩, hlt⟩
    have hno := parts_none eo (fun e he => (lt5 e (hpe.mem_iff.mp he)).2.2.1) (few3 pm)
    have esl : es.length ≤ 100 := by rw [hpe.length_eq]; omega
    have s7 : Same H5 (upd H5 e (.lst (eas.map V.ref))) := Same.new he
    have ee7 : (upd H5 e (.lst (eas.map V.ref))) e = some (.lst (eas.map V.ref)) := upd_same
    generalize (upd H5 e (.lst (eas.map V.ref))) = H7 at s7 ee7
    have pr7 := pre.mono s7
    have dr7 := dr5.mono s7
    have b7 : But d H H7 := b5.tS s7
    clear s7 he hs hb pre hpe hlt lt5 nd5 l5 pr5 eD5 eo5 dr5 b5
    refine ⟨_, rfl, _, rfl, e, _, rfl, .inl (SqL.of ee7), fun l hl x dx hx hdx hne => ?_⟩
    have sx : Same H7 (upd (upd (upd H7 l (.lst (eas.map V.ref))) dx (.own x)) x (.ins C dx [])) := ((Same.new hl).trans (Same.new hdx)).trans (Same.new ((upd_ne hne.symm).trans hx))
    refine ⟨x, l, dx, n, eas, es, rfl, upd_same, by omega, (upd_ne (ne_of_none upd_same hx)).trans ((upd_ne (ne_of_none upd_same hdx)).trans upd_same), pr7.mono sx, eo, fun H8 k8 gA => ⟨rfl, ?_⟩⟩
    have s8 := made hl hx hdx k8
    clear k8 sx hx hdx hl
    have ee8 := s8 _ _ ee7
    have pr8 := pr7.mono s8
    have dr8 := dr7.mono s8
    have b8 : But d H H8 := b7.tS s8
    clear ee7 pr7 dr7 b7 s8
    have okk : okNK n 4 = true := okNK_of (by decide) (.inr (.inl ⟨hn20, by decide⟩))
    have gr := links_gr eo
    refine ⟨_, rfl, x, n, 4, es, linksOf n es, rfl, gA, gr, okk, fun H11 r q1 pth s11 r0 q0 nrq er eq1 cp => absurd ⟨_, cp⟩ hno, fun H11 r q1 cs fam s11 r0 q0 nrq er pp => ?_⟩
    refine ⟨_, rfl, _, _, _, _, true, rfl, .ty _, .base (.tup er), kit_ty (by decide +kernel), true, rfl, ?_⟩
    refine iteF ?_
    refine ⟨_, rfl, _, _, rfl, .inr (SqT.of er), rfl, false, rfl, ?_⟩
    refine iteF ?_
    refine ⟨_, rfl, _, _, _, .str "paper", rfl, rfl, SqT.of er, atI_nat (j := 0) rfl, rfl, false, bNT rfl, ?_⟩
    refine iteF ?_
    refine ⟨_, rfl, _, rfl, _, rfl, x, e, n, eas, es, rfl, gA.mono s11, s11 _ _ ee8, pr8.mono s11, eo, by omega, by omega, fun H12 s12 => ⟨true, rfl, ?_⟩⟩
    refine iteF ?_
    have s1012 := s11.trans s12
    refine ⟨_, rfl, _, rfl, n, e, eas, es, rfl, by omega, s1012 _ _ ee8, pr8.mono s1012, eo, fun H13 nq nas s13 n0 en nc => ?_⟩
    have s113 := s12.trans s13
    refine ⟨_, rfl, _, rfl, _, _, _, .ref q1, rfl, rfl, SqT.of (s113 _ _ er), atI_nat (j := 1) rfl, nq, q1, n, 4, nas, linksOf n es, cs, fam, rfl, en, nc, gr, hn20, by decide, by decide, pp.mono s113, fun H14 s14 => ⟨true, rfl, ?_⟩⟩
    have s114 := s113.trans s14
    refine ⟨_, rfl, _, rfl, _, _, _, .ref q1, rfl, rfl, SqT.of (s114 _ _ er), atI_nat (j := 1) rfl, x, q1, n, 4, es, linksOf n es, cs, fam, rfl, gA.mono (s11.trans s114), gr, okk, pp.mono s114, fun H15 s15 => ?_⟩
    refine ⟨_, _, rfl, rfl, ?_⟩
    have sf := (s11.trans s114).trans s15
    exact qT rfl (q _ (b8.tS sf) (dr8.mono sf))
end
end K53
namespace K53
open PySem PySem.Spec PyProof.Rows L2
/-- a test that is not passed, whatever it draws -/
def TNo (G : Hp → Prop) (t : TT) (σ : L2.St) : Prop := ∀ (H : Hp) (Q : Bool → Hp → Prop), G H → (∀ H', G H' → Q false H') → t σ H Q
theorem no_and {G : Hp → Prop} {t u : TT} {σ : L2.St} (h1 : TAny G t σ) (h2 : TNo G u σ) : TNo G (tAnd t u) σ := fun H Q g q => h1 H _ g fun b H' g' => by
  cases b
  · exact q _ g'
  · exact h2 H' Q g' q
theorem seq_no {G : Hp → Prop} {t : TT} {ts u : TS} {D : Ends} {σ : L2.St} {H : Hp} (h : G H) (ht : TNo G t σ) (hu : ∀ H', G H' → u D σ H') : tSeq (tIfS t ts tNext) u D σ H := ht H _ h fun H' g => hu H' g
theorem no_planted {d p : Addr} {σ : L2.St} {i : Nat} (h : σ[i]? = some (some (.ref d))) : TNo (fun H => DrawsAt H d p) (tNot (tB (tCall sp__law_planted [] E0 (tCons (tVar i) tNil)))) σ := fun H Q g q =>
  ⟨_, h, d, p, rfl, g, fun H' _ dr => ⟨true, rfl, q _ dr⟩⟩
theorem CP.len_le {n k : Nat} {L : Rows} {p : List Nat} (h : CP n L (fun v => v) k p) : p.length ≤ n := by rw [h.len]; exact nodup_len h
section
variable {P : Program} {w : World} {K : PySem.W.Frag} {mg : Str → Option Value} {base : Heap} {C fi : Addr}
/-- path_or_paper, both ends told as one -/
def sp_told (C : Addr) : Sp := fun vs H Q _ => ∃ (g : Addr) (n k : Nat) (es : List (Nat × Nat)) (L : Rows), vs = [.ref g, nv k] ∧ GraphAt C H g n es L ∧ GR n L ∧ okNK n k = true ∧
  ∀ (H' : Hp) (r q : Addr) (s : Str) (xs : List V), Same H H' → H r = none → H q = none → H' r = some (.tup [.str s, .ref q]) → H' q = some (.lst xs) → xs.length ≤ 50000 → Told H' n L k r q → Q (.ref r) H'
theorem told_of {k : Nat} (D : Own P w K mg base k "path_or_paper" (sp_path_or_paper C)) : Own P w K mg base k "path_or_paper" (sp_told C) := by
  refine D.imp ?_
  rintro vs H Q E ⟨g, n, k, es, L, rfl, hg, gr, ok, q⟩
  have b := okNK_bounds ok
  refine ⟨g, n, k, es, L, rfl, hg, gr, ok, fun H' r qa p s h1 h2 h3 h4 h5 cp => ?_, fun H' r qa cs fam s h1 h2 h3 h4 pp => ?_⟩
  · exact q H' r qa _ _ s h1 h2 h4 h5 (by rw [nvs_len]; have := cp.len_le; omega) (.inl ⟨p, h4, h5, cp⟩)
  · exact q H' r qa _ _ s h1 h2 h4 pp.at_ (by rw [List.length_map, pp.cols.length]; exact pp.len) (.inr ⟨cs, fam, h4, pp⟩)
theorem law_ok {k : Nat} {sp : Sp} {x q : Str} {st : Stmt} {f : Addr} {fd : FuncData} {N ps : List Str} (F : FnP K x q st f fd) (S : FnScope N ps (defScope st))
    (len : ∀ vs H Q E, sp vs H Q E → vs.length = ps.length)
    (body : ∀ (cdv : Value) (A : Around) (outer : List Env) (s : Shared) (H : Hp) (vs : List V) (Q : VK) (E : XK), Room k (A.deeper (envOfC q (defScope st) s.heap.objs.size f cdv)) → sp vs H Q E →
      ∃ t, PSs (cxOf CX0 P w K mg base N q (defScope st) f cdv A outer s H E).nox (defBody st) t ∧ t { nx := fun _ H' => Q .non H', rt := Q } (start N vs) H) : FnOk P w K mg base CX0 (k + 1) f fd ps sp :=
  F.ok S len fun cdv A outer s H vs Q E hr h => by
    obtain ⟨t, h1, h2⟩ := body cdv A outer s H vs Q E hr h
    exact ⟨t, h1.nox, h2⟩
def sp_law (K : PySem.W.Frag) : Sp := fun vs H Q _ => ∃ (a : Addr) (ns : List Int), vs = [.ref a] ∧ SqL K H a (ns.map V.int) ∧ ns.length ≤ 63 ∧ ∀ H', Q (.bl true) H'
theorem o_law {f : Addr} {fd : FuncData} (F : FnP K "law" "law" s_law f fd) (T : Tx mg) (D__law_numbers : Own P w K mg base 2 "_law_numbers" (sp__law_numbers K)) (D__law_draw : Own P w K mg base 2 "_law_draw" sp__law_draw) (D__law_planted : Own P w K mg base 8 "_law_planted" sp__law_planted) (D__law_parted : Own P w K mg base 10 "_law_parted" sp__law_planted) (D__law_edges : Own P w K mg base 4 "_law_edges" sp__law_edges) (D__law_near : Own P w K mg base 1 "_law_near" sp__law_near) (D_path_or_paper : Own P w K mg base 6 "path_or_paper" (sp_told C)) (D__law_right : Own P w K mg base 10 "_law_right" (sp__law_right C)) (D__law_same : Own P w K mg base 7 "_law_same" (sp__law_same C)) (Y : Gx K mg C) (D_init : OwnM P w K mg base 4 fi (sp_Graph_init C)) (Mi : Mk K C fi) : FnOk P w K mg base CX0 11 f fd ["_law_script"] (sp_law K) := by
  have sc : FnScope ["_law_script", "_law_draws", "_law_turn", "_law_n", "_law_edges_here", "_law_near_here", "_law_graph", "_law_again", "_law_k", "_law_told"] ["_law_script"] (defScope s_law) := ⟨rfl, rfl, rfl, by decide +kernel, rfl, by decide +kernel, by decide +kernel⟩
  refine law_ok F sc (fun vs H Q E h => ?_) (fun cdv A outer s H vs Q E hr h => ?_)
  · obtain ⟨a, ns, rfl, _⟩ := h; rfl
  · obtain ⟨a, ns, rfl, ha, hl, q⟩ := h
    have hu := hu_of hr
    refine ⟨_, (pss_cons (ps_set (i := 1) sc.nd rfl (Or.inl rfl) (pe_lst (pa_cons (pe_own D__law_numbers (hr.mono (by decide)) (by rfl) (pa_cons (pv 0) pa_nil)) (pa_cons pe_int pa_nil)))) 
      (pss_cons (ps_if (PW.pt (pw_and (pt_cmpR op_eq (pe_op op_mod (pe_own D__law_draw (hr.mono (by decide)) (by rfl) (pa_cons (pv 1) pa_nil)) pe_int) pe_int (nomark _)) (pw_and1 (pt_not (pt_val (pe_own D__law_planted (hr.mono (by decide)) (by rfl) (pa_cons (pv 1) pa_nil))))))) (pss_one (ps_ret pe_bl)) pss_nil) 
      (pss_cons (ps_if (PW.pt (pw_and (pt_cmpR op_eq (pe_op op_mod (pe_own D__law_draw (hr.mono (by decide)) (by rfl) (pa_cons (pv 1) pa_nil)) pe_int) pe_int (nomark _)) (pw_and1 (pt_not (pt_val (pe_own D__law_parted (hr.mono (by decide)) (by rfl) (pa_cons (pv 1) pa_nil))))))) (pss_one (ps_ret pe_bl)) pss_nil) 
      (pss_cons (ps_for PassesOwn.never rfl (pi_range1 (by rfl) T.range (pa_cons pe_int pa_nil)) (pg_name (i := 2) sc.nd rfl (Or.inl rfl)) (pss_cons (ps_set (i := 3) sc.nd rfl (Or.inl rfl) (pe_op op_mod (pe_own D__law_draw (hr.mono (by decide)) (by rfl) (pa_cons (pv 1) pa_nil)) pe_int)) (pss_cons (ps_set (i := 4) sc.nd rfl (Or.inl rfl) (pe_own D__law_edges (hr.mono (by decide)) (by rfl) (pa_cons (pv 1) (pa_cons (pv 3) pa_nil)))) (pss_cons (ps_set (i := 5) sc.nd rfl (Or.inl rfl) (pe_own D__law_near (hr.mono (by decide)) (by rfl) (pa_cons (pv 3) (pa_cons (pv 4) pa_nil)))) (pss_cons (ps_set (i := 6) sc.nd rfl (Or.inl rfl) (pe_mkOwn D_init Mi Y.mg (hr.mono (by decide)) (by rfl) (pa_cons (pv 3) (pa_cons (pe_callTy call_list_of (by rfl) T.list (by decide +kernel) (pa_cons (pv 4) pa_nil)) pa_nil)))) (pss_cons (ps_for PassesOwn.never rfl (pi_range1 (by rfl) T.range (pa_cons pe_int pa_nil)) (pg_name (i := 7) sc.nd rfl (Or.inl rfl)) (pss_cons (ps_set (i := 8) sc.nd rfl (Or.inl rfl) (pe_op op_add pe_int (pe_op op_mod (pe_own D__law_draw (hr.mono (by decide)) (by rfl) (pa_cons (pv 1) pa_nil)) pe_int))) (pss_cons (ps_set (i := 9) sc.nd rfl (Or.inl rfl) (pe_own D_path_or_paper (hr.mono (by decide)) (by rfl) (pa_cons (pv 6) (pa_cons (pv 8) pa_nil)))) (pss_one (ps_if (pt_not (pt_val (pe_own D__law_right (hr.mono (by decide)) (by rfl) (pa_cons (pv 6) (pa_cons (pv 5) (pa_cons (pv 3) (pa_cons (pv 8) (pa_cons (pv 9) pa_nil)))))))) (pss_one (ps_ret pe_bl)) pss_nil))))) (pss_cons (ps_expr (pe_bm PySem.F.plainAttrs_list PySem.F.slot_list_append PySem.F.type_list_append mt_append (pe_ix ix_tup (pv 9) pe_int (fun _ _ => rfl)) (pa_cons pe_int pa_nil))) (pss_one (ps_if (PW.pt (pw_or (pt_not (pt_val (pe_own D__law_right (hr.mono (by decide)) (by rfl) (pa_cons (pv 6) (pa_cons (pv 5) (pa_cons (pv 3) (pa_cons (pv 8) (pa_cons (pe_own D_path_or_paper (hr.mono (by decide)) (by rfl) (pa_cons (pv 6) (pa_cons (pv 8) pa_nil))) pa_nil)))))))) (pw_or1 (pt_not (pt_val (pe_own D__law_same (hr.mono (by decide)) (by rfl) (pa_cons (pv 6) (pa_cons (pv 3) (pa_cons (pv 4) pa_nil))))))))) (pss_one (ps_ret pe_bl)) pss_nil))))))))) 
      (pss_one (ps_ret pe_bl)))))), ?_⟩
    refine ⟨_, rfl, a, ns, rfl, ha, hl, fun H1 p zs s1 p0 e1 l1 => ?_⟩
    refine ⟨by show 2 ≤ sizeLine; decide, fun d hd => ?_⟩
    refine updI fun H2 e2 k2 => ?_
    have dr2 : DrawsAt H2 d p := ⟨zs, 0, e2, (k2 p (ne_of_none e1 hd)).trans e1, l1⟩
    clear e2 k2 e1 hd s1 p0 l1 ha hl
    have dw : ∀ (σ : L2.St), σ[1]? = some (some (.ref d)) → TInt (fun H => DrawsAt H d p) (tCall sp__law_draw [] E0 (tCons (tVar 1) tNil)) σ := fun σ h => int_draw h (fun _ g => g) (fun _ _ _ _ dr => dr)
    refine seq_no dr2 (no_and (any_eq (int_opc (fun _ => (show (0 : Int) < 4 by decide)) (dw _ rfl)) int_c) (no_planted rfl)) fun H3 dr3 => ?_
    refine seq_no dr3 (no_and (any_eq (int_opc (fun _ => (show (0 : Int) < 16 by decide)) (dw _ rfl)) int_c) (no_planted rfl)) fun H4 dr4 => ?_
    clear dr2 dr3 dw
    refine ⟨_, rfl, by decide, by decide, ?_⟩
    refine for_range (lo := 0) (n := 2) (fun i σ' H' => (∃ v2 v3 v4 v5 v6 v7 v8 v9, σ' = [some (.ref a), some (.ref d), v2, v3, v4, v5, v6, v7, v8, v9]) ∧ DrawsAt H' d p)
      ⟨⟨_, _, _, _, _, _, _, _, rfl⟩, dr4⟩ ?_ ?_
    · rintro i0 σ' H5 _ ⟨⟨v2, v3, v4, v5, v6, v7, v8, v9, rfl⟩, dr5⟩
      clear dr4
      refine ⟨_, rfl, d, p, rfl, dr5, fun z6 H6 b6 dr6 => ⟨_, _, rfl, rfl, (show (0 : Int) < 8 by decide), ?_⟩⟩
      obtain ⟨n, hn8, en⟩ := mod_ix z6 (m := 8) (by omega)
      show gName 3 (V.int (z6 % ((8 : Nat) : Int))) _ _ _
      rw [en]
      refine ⟨_, rfl, _, rfl, d, p, n, rfl, dr6, by omega, fun H7 e eas es b7 dr7 e0 ee7 pr7 eo el => ?_⟩
      clear dr5 b6 dr6 b7 e0 en
      have hnn : n * n ≤ 7 * 7 := Nat.mul_le_mul (by omega) (by omega)
      refine ⟨_, rfl, _, rfl, n, e, eas, es, rfl, by omega, ee7, pr7, eo, fun H8 nq nas s8 n0 en8 nc8 => ?_⟩
      have ee8 := s8 _ _ ee7
      have pr8 := pr7.mono s8
      have dr8 := dr7.mono s8
      clear ee7 pr7 dr7 s8 n0
      refine ⟨_, rfl, _, rfl, e, _, rfl, .inl (SqL.of ee8), fun l hl x dx hx hdx hne => ?_⟩
      have sx : Same H8 (upd (upd (upd H8 l (.lst (eas.map V.ref))) dx (.own x)) x (.ins C dx [])) := ((Same.new hl).trans (Same.new hdx)).trans (Same.new ((upd_ne hne.symm).trans hx))
      refine ⟨x, l, dx, n, eas, es, rfl, upd_same, by omega, (upd_ne (ne_of_none upd_same hx)).trans ((upd_ne (ne_of_none upd_same hdx)).trans upd_same), pr8.mono sx, eo, fun H9 k9 gA => ⟨rfl, ?_⟩⟩
      have s9 := made hl hx hdx k9
      clear k9 sx hx hdx hl
      have ee := s9 _ _ ee8
      have pr := pr8.mono s9
      have dr := dr8.mono s9
      have en := s9 _ _ en8
      have nc := nc8.mono s9
      have gr := links_gr eo
      clear ee8 pr8 dr8 s9 en8 nc8
      refine ⟨_, rfl, by decide, by decide, ?_⟩
      refine for_range (lo := 0) (n := 3) (fun i σ' H' => (∃ v7 v8 v9, σ' = [some (.ref a), some (.ref d), some (.int (0 + (i0 : Int))), some (nv n), some (.ref e), some (.ref nq), some (.ref x), v7, v8, v9] ∧
        (0 < i → ∃ (k : Nat) (r q : Addr) (s : Str) (xs : List V), v8 = some (nv k) ∧ v9 = some (.ref r) ∧ 1 ≤ k ∧ k ≤ 7 ∧ H' r = some (.tup [.str s, .ref q]) ∧ H' q = some (.lst xs) ∧ xs.length ≤ 50000 ∧ H9 q = none)) ∧ But d H9 H' ∧ DrawsAt H' d p)
        ⟨⟨_, _, _, rfl, fun h => absurd h (Nat.lt_irrefl 0)⟩, But.refl _ _, dr⟩ ?_ ?_
      · rintro i σ' H10 _ ⟨⟨v7, v8, v9, rfl, _⟩, b10, dr10⟩
        refine ⟨_, rfl, d, p, rfl, dr10, fun z11 H11 b11 dr11 => ⟨_, _, rfl, rfl, (show (0 : Int) < 7 by decide), _, _, rfl, rfl, ?_⟩⟩
        obtain ⟨k, ek, hk1, hk7⟩ : ∃ k : Nat, V.int (1 + z11 % 7) = nv k ∧ 1 ≤ k ∧ k ≤ 7 := by
          obtain ⟨k, hk, ek⟩ := mod_ix z11 (m := 7) (by omega)
          have ek : z11 % 7 = (k : Int) := ek
          exact ⟨1 + k, by rw [ek]; rfl, by omega, by omega⟩
        show gName 8 (V.int (1 + z11 % 7)) _ _ _
        rw [ek]
        have b911 := b10.trans b11
        have okk := ok7 n (by omega) k (by omega) hk1
        have gA11 := dr.graph b911 gA
        refine ⟨_, rfl, _, rfl, x, n, k, es, linksOf n es, rfl, gA11, gr, okk, fun H12 r q1 s xs s12 r0 q0 er eq lq told => ?_⟩
        have q9 : H9 q1 = none := dr.free b911 q0 dr11
        refine ⟨_, rfl, _, rfl, _, rfl, _, rfl, _, rfl, x, nq, r, q1, n, k, es, linksOf n es, nas, rfl, gA11.mono s12, gr, s12 _ _ (dr.refs b911 en), (dr.cols b911 nc).mono s12, by omega, hk1, hk7, told, fun H13 s13 => ⟨true, rfl, ?_⟩⟩
        refine iteF ?_
        have s1113 := s12.trans s13
        exact ⟨⟨_, _, _, rfl, fun _ => ⟨k, r, q1, s, xs, rfl, rfl, hk1, hk7, s13 _ _ er, s13 _ _ eq, lq, q9⟩⟩, b911.tS s1113, dr11.mono s1113⟩
      · rintro σ' H10 ⟨⟨v7, v8, v9, rfl, hlast⟩, b10, dr10⟩
        obtain ⟨k, r, q1, s, xs, rfl, rfl, hk1, hk7, er, eq, lq, q9⟩ := hlast (by decide)
        have nq1 := dr.nes q9
        refine ⟨_, rfl, _, _, _, .ref q1, rfl, rfl, SqT.of er, atI_nat (j := 1) rfl, .inl ⟨rfl, _, SqL.of eq⟩, q1, _, _, rfl, rfl, eq, sz5 (by omega), ?_⟩
        refine updI fun H11 e11 k11 => ?_
        have b11 : But d H9 H11 := fun b o hb h => (k11 b (ne_of_none h q9)).trans (b10 b o hb h)
        have dr11 : DrawsAt H11 d p := dr10.but nq1 k11
        have okk := ok7 n (by omega) k (by omega) hk1
        have gA11 := dr.graph b11 gA
        refine ⟨_, rfl, _, rfl, _, rfl, _, rfl, _, rfl, _, rfl, x, n, k, es, linksOf n es, rfl, gA11, gr, okk, fun H12 r2 q2 s2 xs2 s12 r0 q0 er2 eq2 lq2 told => ?_⟩
        refine ⟨x, nq, r2, q2, n, k, es, linksOf n es, nas, rfl, gA11.mono s12, gr, s12 _ _ (dr.refs b11 en), (dr.cols b11 nc).mono s12, by omega, hk1, hk7, told, fun H13 s13 => ⟨true, rfl, ?_⟩⟩
        refine iteF ?_
        have s1113 := s12.trans s13
        refine ⟨_, rfl, _, rfl, _, rfl, x, e, n, eas, es, rfl, gA11.mono s1113, s1113 _ _ (dr.refs b11 ee), (dr.prs b11 pr).mono s1113, eo, by omega, by omega, fun H14 s14 => ⟨true, rfl, ?_⟩⟩
        refine iteF ?_
        exact ⟨⟨_, _, _, _, _, _, _, _, rfl⟩, dr11.mono (s1113.trans s14)⟩
    · rintro σ' H5 ⟨⟨v2, v3, v4, v5, v6, v7, v8, v9, rfl⟩, dr5⟩
      exact q _
end
end K53
namespace K53
open PySem PySem.Spec PyProof.Rows L2
def d_is_integer : He.DefD := ⟨("is_integer", none), "is_integer", "is_integer", defArgs s_is_integer, defBody s_is_integer, defScope s_is_integer, [], []⟩
def d_is_index : He.DefD := ⟨("is_index", none), "is_index", "is_index", defArgs s_is_index, defBody s_is_index, defScope s_is_index, [], []⟩
def d_check_edges : He.DefD := ⟨("check_edges", none), "check_edges", "check_edges", defArgs s_check_edges, defBody s_check_edges, defScope s_check_edges, [], []⟩
def d_Graph_init : He.DefD := ⟨("Graph", some "__init__"), "__init__", "Graph.__init__", defArgs s_Graph_init, defBody s_Graph_init, defScope s_Graph_init, [], []⟩
def d_Graph_neighbours : He.DefD := ⟨("Graph", some "neighbours"), "neighbours", "Graph.neighbours", defArgs s_Graph_neighbours, defBody s_Graph_neighbours, defScope s_Graph_neighbours, [], []⟩
def d_check_node : He.DefD := ⟨("check_node", none), "check_node", "check_node", defArgs s_check_node, defBody s_check_node, defScope s_check_node, [], []⟩
def d_check_number : He.DefD := ⟨("check_number", none), "check_number", "check_number", defArgs s_check_number, defBody s_check_number, defScope s_check_number, [], []⟩
def d_combinations_of : He.DefD := ⟨("combinations_of", none), "combinations_of", "combinations_of", defArgs s_combinations_of, defBody s_combinations_of, defScope s_combinations_of, [], []⟩
def d_hopes : He.DefD := ⟨("hopes", none), "hopes", "hopes", defArgs s_hopes, defBody s_hopes, defScope s_hopes, [], []⟩
def d_best_colour : He.DefD := ⟨("best_colour", none), "best_colour", "best_colour", defArgs s_best_colour, defBody s_best_colour, defScope s_best_colour, [], []⟩
def d_colouring_for : He.DefD := ⟨("colouring_for", none), "colouring_for", "colouring_for", defArgs s_colouring_for, defBody s_colouring_for, defScope s_colouring_for, [], []⟩
def d_family_of : He.DefD := ⟨("family_of", none), "family_of", "family_of", defArgs s_family_of, defBody s_family_of, defScope s_family_of, [], []⟩
def d_check_sizes : He.DefD := ⟨("check_sizes", none), "check_sizes", "check_sizes", defArgs s_check_sizes, defBody s_check_sizes, defScope s_check_sizes, [], []⟩
def d_is_colouring : He.DefD := ⟨("is_colouring", none), "is_colouring", "is_colouring", defArgs s_is_colouring, defBody s_is_colouring, defScope s_is_colouring, [], []⟩
def d_is_separating : He.DefD := ⟨("is_separating", none), "is_separating", "is_separating", defArgs s_is_separating, defBody s_is_separating, defScope s_is_separating, [], []⟩
def d_separating_family : He.DefD := ⟨("separating_family", none), "separating_family", "separating_family", defArgs s_separating_family, defBody s_separating_family, defScope s_separating_family, [], []⟩
def d_check_colouring : He.DefD := ⟨("check_colouring", none), "check_colouring", "check_colouring", defArgs s_check_colouring, defBody s_check_colouring, defScope s_check_colouring, [], []⟩
def d_layers : He.DefD := ⟨("layers", none), "layers", "layers", defArgs s_layers, defBody s_layers, defScope s_layers, [], []⟩
def d_colourful_path : He.DefD := ⟨("colourful_path", none), "colourful_path", "colourful_path", defArgs s_colourful_path, defBody s_colourful_path, defScope s_colourful_path, [], []⟩
def d_path_or_paper : He.DefD := ⟨("path_or_paper", none), "path_or_paper", "path_or_paper", defArgs s_path_or_paper, defBody s_path_or_paper, defScope s_path_or_paper, [], []⟩
def d_refuses_path : He.DefD := ⟨("refuses_path", none), "refuses_path", "refuses_path", defArgs s_refuses_path, defBody s_refuses_path, defScope s_refuses_path, [], []⟩
def d__law_mixed : He.DefD := ⟨("_law_mixed", none), "_law_mixed", "_law_mixed", defArgs s__law_mixed, defBody s__law_mixed, defScope s__law_mixed, [], []⟩
def d__law_numbers : He.DefD := ⟨("_law_numbers", none), "_law_numbers", "_law_numbers", defArgs s__law_numbers, defBody s__law_numbers, defScope s__law_numbers, [], []⟩
def d__law_draw : He.DefD := ⟨("_law_draw", none), "_law_draw", "_law_draw", defArgs s__law_draw, defBody s__law_draw, defScope s__law_draw, [], []⟩
def d__law_equal : He.DefD := ⟨("_law_equal", none), "_law_equal", "_law_equal", defArgs s__law_equal, defBody s__law_equal, defScope s__law_equal, [], []⟩
def d__law_all_equal : He.DefD := ⟨("_law_all_equal", none), "_law_all_equal", "_law_all_equal", defArgs s__law_all_equal, defBody s__law_all_equal, defScope s__law_all_equal, [], []⟩
def d__law_pairs : He.DefD := ⟨("_law_pairs", none), "_law_pairs", "_law_pairs", defArgs s__law_pairs, defBody s__law_pairs, defScope s__law_pairs, [], []⟩
def d__law_order : He.DefD := ⟨("_law_order", none), "_law_order", "_law_order", defArgs s__law_order, defBody s__law_order, defScope s__law_order, [], []⟩
def d__law_edges : He.DefD := ⟨("_law_edges", none), "_law_edges", "_law_edges", defArgs s__law_edges, defBody s__law_edges, defScope s__law_edges, [], []⟩
def d__law_near : He.DefD := ⟨("_law_near", none), "_law_near", "_law_near", defArgs s__law_near, defBody s__law_near, defScope s__law_near, [], []⟩
def d__law_is_path : He.DefD := ⟨("_law_is_path", none), "_law_is_path", "_law_is_path", defArgs s__law_is_path, defBody s__law_is_path, defScope s__law_is_path, [], []⟩
def d__law_longest : He.DefD := ⟨("_law_longest", none), "_law_longest", "_law_longest", defArgs s__law_longest, defBody s__law_longest, defScope s__law_longest, [], []⟩
def d__law_count : He.DefD := ⟨("_law_count", none), "_law_count", "_law_count", defArgs s__law_count, defBody s__law_count, defScope s__law_count, [], []⟩
def d__law_colourful : He.DefD := ⟨("_law_colourful", none), "_law_colourful", "_law_colourful", defArgs s__law_colourful, defBody s__law_colourful, defScope s__law_colourful, [], []⟩
def d__law_subsets : He.DefD := ⟨("_law_subsets", none), "_law_subsets", "_law_subsets", defArgs s__law_subsets, defBody s__law_subsets, defScope s__law_subsets, [], []⟩
def d__law_separates_one : He.DefD := ⟨("_law_separates_one", none), "_law_separates_one", "_law_separates_one", defArgs s__law_separates_one, defBody s__law_separates_one, defScope s__law_separates_one, [], []⟩
def d__law_separates : He.DefD := ⟨("_law_separates", none), "_law_separates", "_law_separates", defArgs s__law_separates, defBody s__law_separates, defScope s__law_separates, [], []⟩
def d__law_are_colourings : He.DefD := ⟨("_law_are_colourings", none), "_law_are_colourings", "_law_are_colourings", defArgs s__law_are_colourings, defBody s__law_are_colourings, defScope s__law_are_colourings, [], []⟩
def d__law_paper : He.DefD := ⟨("_law_paper", none), "_law_paper", "_law_paper", defArgs s__law_paper, defBody s__law_paper, defScope s__law_paper, [], []⟩
def d__law_same : He.DefD := ⟨("_law_same", none), "_law_same", "_law_same", defArgs s__law_same, defBody s__law_same, defScope s__law_same, [], []⟩
def d__law_planted : He.DefD := ⟨("_law_planted", none), "_law_planted", "_law_planted", defArgs s__law_planted, defBody s__law_planted, defScope s__law_planted, [], []⟩
def d__law_parted : He.DefD := ⟨("_law_parted", none), "_law_parted", "_law_parted", defArgs s__law_parted, defBody s__law_parted, defScope s__law_parted, [], []⟩
def d__law_right : He.DefD := ⟨("_law_right", none), "_law_right", "_law_right", defArgs s__law_right, defBody s__law_right, defScope s__law_right, [], []⟩
def d_law : He.DefD := ⟨("law", none), "law", "law", defArgs s_law, defBody s_law, defScope s_law, [], []⟩
def fn : List He.DefD := [d_is_integer, d_is_index, d_check_edges, d_Graph_init, d_Graph_neighbours, d_check_node, d_check_number, d_combinations_of, d_hopes, d_best_colour, d_colouring_for, d_family_of, d_check_sizes, d_is_colouring, d_is_separating, d_separating_family, d_check_colouring, d_layers, d_colourful_path, d_path_or_paper, d_refuses_path, d__law_mixed, d__law_numbers, d__law_draw, d__law_equal, d__law_all_equal, d__law_pairs, d__law_order, d__law_edges, d__law_near, d__law_is_path, d__law_longest, d__law_count, d__law_colourful, d__law_subsets, d__law_separates_one, d__law_separates, d__law_are_colourings, d__law_paper, d__law_same, d__law_planted, d__law_parted, d__law_right, d_law]
def fa : List He.Fa := [.glo "is_integer", .glo "is_index", .glo "check_edges", .glo "check_node", .glo "check_number", .glo "combinations_of", .glo "hopes", .glo "best_colour", .glo "colouring_for", .glo "family_of", .glo "check_sizes", .glo "is_colouring", .glo "is_separating", .glo "separating_family", .glo "check_colouring", .glo "layers", .glo "colourful_path", .glo "path_or_paper", .glo "refuses_path", .glo "_law_mixed", .glo "_law_numbers", .glo "_law_draw", .glo "_law_equal", .glo "_law_all_equal", .glo "_law_pairs", .glo "_law_order", .glo "_law_edges", .glo "_law_near", .glo "_law_is_path", .glo "_law_longest", .glo "_law_count", .glo "_law_colourful", .glo "_law_subsets", .glo "_law_separates_one", .glo "_law_separates", .glo "_law_are_colourings", .glo "_law_paper", .glo "_law_same", .glo "_law_planted", .glo "_law_parted", .glo "_law_right", .glo "law", .glo "Graph", .free "isinstance", .free "len", .free "range", .free "list", .free "tuple", .free "int", .free "bool", .free "str", .free "sorted", .free "min", .free "max", .free "sum", .free "set", .free "enumerate", .int "MOST" 40, .int "NODES" 40, .int "LONGEST" 7, .int "SUBSETS" 2000, .cls "Graph", .mkr "Graph", .meth "Graph" "neighbours", .noat "Graph" "nodes", .noat "Graph" "edges", .noat "Graph" "links"]
def loose : List Str := (["_wall", "__name__", "CherrystoneError", "BadGraph", "BadArgument", "TooLarge", "MOST", "is_integer", "is_index", "is_rising", "check_edges", "Graph", "is_list", "check_node", "check_list", "check_number", "combinations_of", "hopes", "best_colour", "colouring_for", "family_of", "NODES", "LONGEST", "SUBSETS", "check_sizes", "is_colouring", "is_separating", "separating_family", "check_colouring", "layers"] : List Str) ++ (["colourful_path", "path_or_paper", "refuses_path", "_law_mixed", "_law_numbers", "_law_draw", "_law_equal", "_law_all_equal", "_law_pairs", "_law_order", "_law_edges", "_law_near", "_law_is_path", "_law_longest", "_law_count", "_law_colourful", "_law_subsets", "_law_choose", "_law_separates_one", "_law_separates", "_law_are_colourings", "_law_paper", "_law_same", "_law_planted", "_law_parted", "_law_right"] : List Str)
abbrev R : PySem.W.OpenRow := PySem.W.OpenLaw.row PySem.Challenge.rw_cherrystone_k53_whole_paths_or_papers
abbrev hk : PySem.W.Hook := He.hookD 5 fa fn
def ob (s : PySem.W.SharedT) : He.AlD := He.obsDG 5 fa fn (HandSHeadRun.getT s)
theorem ob_eq (s : PySem.W.SharedT) : ob s = hk.obs s.abs := He.obsDG_eq (HandSHeadRun.getT_eq s)
theorem headRun (w : World) : HandSHeadRun.RunEq R (PySem.W.view R.prog [60]) hk ob 4000 loose w := by
  intro os
  kernel_rfl
end K53
namespace K53
open PySem PySem.Spec PyProof.Rows L2
theorem facts {P : Program} {w : World} {K : PySem.W.Frag} {h : Heap} {mg : Str → Option Value} {f : Addr} (X : K.In h) (G : h.Ns mainGlobals mg) (hfa : mg ("law" : Str) = some (.ref f)) (c : He.SaysD fa fn K) :
    ∃ fd : FuncData, (∀ (s : Shared) (v : Value), BindsTo s fd ⟨[v], []⟩ [("_law_script", v)]) ∧ ∀ base : Heap, K.In base → base.Ns mainGlobals mg → FnOk P w K mg base CX0 11 f fd ["_law_script"] (sp_law K) := by
  have T : Tx mg := ⟨He.free_ok X G (c.fact 43 (f := .free "isinstance") rfl),
    He.free_ok X G (c.fact 44 (f := .free "len") rfl),
    He.free_ok X G (c.fact 45 (f := .free "range") rfl),
    He.free_ok X G (c.fact 46 (f := .free "list") rfl),
    He.free_ok X G (c.fact 47 (f := .free "tuple") rfl),
    He.free_ok X G (c.fact 48 (f := .free "int") rfl),
    He.free_ok X G (c.fact 49 (f := .free "bool") rfl),
    He.free_ok X G (c.fact 50 (f := .free "str") rfl),
    He.free_ok X G (c.fact 51 (f := .free "sorted") rfl),
    He.free_ok X G (c.fact 52 (f := .free "min") rfl),
    He.free_ok X G (c.fact 53 (f := .free "max") rfl),
    He.free_ok X G (c.fact 54 (f := .free "sum") rfl),
    He.free_ok X G (c.fact 55 (f := .free "set") rfl),
    He.free_ok X G (c.fact 56 (f := .free "enumerate") rfl),
    He.int_ok X G (c.fact 57 (f := .int "MOST" 40) rfl),
    He.int_ok X G (c.fact 58 (f := .int "NODES" 40) rfl),
    He.int_ok X G (c.fact 59 (f := .int "LONGEST" 7) rfl),
    He.int_ok X G (c.fact 60 (f := .int "SUBSETS" 2000) rfl)⟩
  have Y := Gx.mk (He.cls_ok (c.fact 61 (f := .cls "Graph") rfl)) (He.noat_ok (c.fact 64 (f := .noat "Graph" "nodes") rfl)) (He.noat_ok (c.fact 65 (f := .noat "Graph" "edges") rfl)) (He.noat_ok (c.fact 66 (f := .noat "Graph" "links") rfl)) (He.glo_ok X G (c.fact 42 (f := .glo "Graph") rfl))
  have Mi := He.mkr_ok (c.fact 62 (f := .mkr "Graph") rfl)
  have Mm := He.meth_ok (c.fact 63 (f := .meth "Graph" "neighbours") rfl)
  obtain ⟨f_is_integer, F_is_integer⟩ := c.def_ 0 (d := d_is_integer) rfl
  obtain ⟨f_is_index, F_is_index⟩ := c.def_ 1 (d := d_is_index) rfl
  obtain ⟨f_check_edges, F_check_edges⟩ := c.def_ 2 (d := d_check_edges) rfl
  obtain ⟨f_Graph_init, F_Graph_init⟩ := c.def_ 3 (d := d_Graph_init) rfl
  obtain ⟨f_Graph_neighbours, F_Graph_neighbours⟩ := c.def_ 4 (d := d_Graph_neighbours) rfl
  obtain ⟨f_check_node, F_check_node⟩ := c.def_ 5 (d := d_check_node) rfl
  obtain ⟨f_check_number, F_check_number⟩ := c.def_ 6 (d := d_check_number) rfl
  obtain ⟨f_combinations_of, F_combinations_of⟩ := c.def_ 7 (d := d_combinations_of) rfl
  obtain ⟨f_hopes, F_hopes⟩ := c.def_ 8 (d := d_hopes) rfl
  obtain ⟨f_best_colour, F_best_colour⟩ := c.def_ 9 (d := d_best_colour) rfl
  obtain ⟨f_colouring_for, F_colouring_for⟩ := c.def_ 10 (d := d_colouring_for) rfl
  obtain ⟨f_family_of, F_family_of⟩ := c.def_ 11 (d := d_family_of) rfl
  obtain ⟨f_check_sizes, F_check_sizes⟩ := c.def_ 12 (d := d_check_sizes) rfl
  obtain ⟨f_is_colouring, F_is_colouring⟩ := c.def_ 13 (d := d_is_colouring) rfl
  obtain ⟨f_is_separating, F_is_separating⟩ := c.def_ 14 (d := d_is_separating) rfl
  obtain ⟨f_separating_family, F_separating_family⟩ := c.def_ 15 (d := d_separating_family) rfl
  obtain ⟨f_check_colouring, F_check_colouring⟩ := c.def_ 16 (d := d_check_colouring) rfl
  obtain ⟨f_layers, F_layers⟩ := c.def_ 17 (d := d_layers) rfl
  obtain ⟨f_colourful_path, F_colourful_path⟩ := c.def_ 18 (d := d_colourful_path) rfl
  obtain ⟨f_path_or_paper, F_path_or_paper⟩ := c.def_ 19 (d := d_path_or_paper) rfl
  obtain ⟨f_refuses_path, F_refuses_path⟩ := c.def_ 20 (d := d_refuses_path) rfl
  obtain ⟨f__law_mixed, F__law_mixed⟩ := c.def_ 21 (d := d__law_mixed) rfl
  obtain ⟨f__law_numbers, F__law_numbers⟩ := c.def_ 22 (d := d__law_numbers) rfl
  obtain ⟨f__law_draw, F__law_draw⟩ := c.def_ 23 (d := d__law_draw) rfl
  obtain ⟨f__law_equal, F__law_equal⟩ := c.def_ 24 (d := d__law_equal) rfl
  obtain ⟨f__law_all_equal, F__law_all_equal⟩ := c.def_ 25 (d := d__law_all_equal) rfl
  obtain ⟨f__law_pairs, F__law_pairs⟩ := c.def_ 26 (d := d__law_pairs) rfl
  obtain ⟨f__law_order, F__law_order⟩ := c.def_ 27 (d := d__law_order) rfl
  obtain ⟨f__law_edges, F__law_edges⟩ := c.def_ 28 (d := d__law_edges) rfl
  obtain ⟨f__law_near, F__law_near⟩ := c.def_ 29 (d := d__law_near) rfl
  obtain ⟨f__law_is_path, F__law_is_path⟩ := c.def_ 30 (d := d__law_is_path) rfl
  obtain ⟨f__law_longest, F__law_longest⟩ := c.def_ 31 (d := d__law_longest) rfl
  obtain ⟨f__law_count, F__law_count⟩ := c.def_ 32 (d := d__law_count) rfl
  obtain ⟨f__law_colourful, F__law_colourful⟩ := c.def_ 33 (d := d__law_colourful) rfl
  obtain ⟨f__law_subsets, F__law_subsets⟩ := c.def_ 34 (d := d__law_subsets) rfl
  obtain ⟨f__law_separates_one, F__law_separates_one⟩ := c.def_ 35 (d := d__law_separates_one) rfl
  obtain ⟨f__law_separates, F__law_separates⟩ := c.def_ 36 (d := d__law_separates) rfl
  obtain ⟨f__law_are_colourings, F__law_are_colourings⟩ := c.def_ 37 (d := d__law_are_colourings) rfl
  obtain ⟨f__law_paper, F__law_paper⟩ := c.def_ 38 (d := d__law_paper) rfl
  obtain ⟨f__law_same, F__law_same⟩ := c.def_ 39 (d := d__law_same) rfl
  obtain ⟨f__law_planted, F__law_planted⟩ := c.def_ 40 (d := d__law_planted) rfl
  obtain ⟨f__law_parted, F__law_parted⟩ := c.def_ 41 (d := d__law_parted) rfl
  obtain ⟨f__law_right, F__law_right⟩ := c.def_ 42 (d := d__law_right) rfl
  obtain ⟨f_law, F_law⟩ := c.def_ 43 (d := d_law) rfl
  have e := hfa.symm.trans (He.glo_ok X G (c.fact 41 (f := .glo "law") rfl))
  cases e
  have b := FunD.bindsA (ps := ["_law_script"]) F_law fun _ _ _ _ _ _ us hl => match us, hl with | [_], _ => rfl
  refine ⟨f_law, fun s v => b s [v] rfl, fun base _ _ => ?_⟩
  have D_is_integer := o_is_integer (P := P) (w := w) (K := K) (mg := mg) (base := base) F_is_integer (He.glo_ok X G (c.fact 0 (f := .glo "is_integer") rfl)) T
  have D_is_index := o_is_index (P := P) (w := w) (K := K) (mg := mg) (base := base) F_is_index (He.glo_ok X G (c.fact 1 (f := .glo "is_index") rfl)) T D_is_integer
  have D_check_number := o_check_number (P := P) (w := w) (K := K) (mg := mg) (base := base) F_check_number (He.glo_ok X G (c.fact 4 (f := .glo "check_number") rfl)) T D_is_integer
  have D_check_edges := o_check_edges (P := P) (w := w) (K := K) (mg := mg) (base := base) F_check_edges (He.glo_ok X G (c.fact 2 (f := .glo "check_edges") rfl)) T D_is_integer D_is_index
  have D_check_node := o_check_node (P := P) (w := w) (K := K) (mg := mg) (base := base) F_check_node (He.glo_ok X G (c.fact 3 (f := .glo "check_node") rfl)) T D_is_index Y
  have D_init := o_Graph_init (P := P) (w := w) (K := K) (mg := mg) (base := base) F_Graph_init T D_check_edges Y
  have D_nb := o_Graph_neighbours (P := P) (w := w) (K := K) (mg := mg) (base := base) F_Graph_neighbours T D_check_node Y
  have D_combinations_of := o_combinations_of (P := P) (w := w) (K := K) (mg := mg) (base := base) F_combinations_of (He.glo_ok X G (c.fact 5 (f := .glo "combinations_of") rfl)) T
  have D_hopes := o_hopes (P := P) (w := w) (K := K) (mg := mg) (base := base) F_hopes (He.glo_ok X G (c.fact 6 (f := .glo "hopes") rfl)) T
  have D_best_colour := o_best_colour (P := P) (w := w) (K := K) (mg := mg) (base := base) F_best_colour (He.glo_ok X G (c.fact 7 (f := .glo "best_colour") rfl)) T
  have D_colouring_for := o_colouring_for (P := P) (w := w) (K := K) (mg := mg) (base := base) F_colouring_for (He.glo_ok X G (c.fact 8 (f := .glo "colouring_for") rfl)) T D_best_colour
  have D_family_of := o_family_of (P := P) (w := w) (K := K) (mg := mg) (base := base) F_family_of (He.glo_ok X G (c.fact 9 (f := .glo "family_of") rfl)) T D_hopes D_colouring_for
  have D_check_sizes := o_check_sizes (P := P) (w := w) (K := K) (mg := mg) (base := base) F_check_sizes (He.glo_ok X G (c.fact 10 (f := .glo "check_sizes") rfl)) T D_check_number D_combinations_of
  have D_is_colouring := o_is_colouring (P := P) (w := w) (K := K) (mg := mg) (base := base) F_is_colouring (He.glo_ok X G (c.fact 11 (f := .glo "is_colouring") rfl)) T D_check_number D_is_index
  have D_is_separating := o_is_separating (P := P) (w := w) (K := K) (mg := mg) (base := base) F_is_separating (He.glo_ok X G (c.fact 12 (f := .glo "is_separating") rfl)) T D_check_sizes D_is_colouring D_combinations_of
  have D_separating_family := o_separating_family (P := P) (w := w) (K := K) (mg := mg) (base := base) F_separating_family (He.glo_ok X G (c.fact 13 (f := .glo "separating_family") rfl)) T D_check_sizes D_combinations_of D_family_of
  have D_check_colouring := o_check_colouring (P := P) (w := w) (K := K) (mg := mg) (base := base) F_check_colouring (He.glo_ok X G (c.fact 14 (f := .glo "check_colouring") rfl)) T D_check_number D_is_colouring Y
  have D_layers := o_layers (P := P) (w := w) (K := K) (mg := mg) (base := base) F_layers (He.glo_ok X G (c.fact 15 (f := .glo "layers") rfl)) T Y
  have D_colourful_path := o_colourful_path (P := P) (w := w) (K := K) (mg := mg) (base := base) F_colourful_path (He.glo_ok X G (c.fact 16 (f := .glo "colourful_path") rfl)) T D_check_colouring D_layers Y
  have D_path_or_paper := o_path_or_paper (P := P) (w := w) (K := K) (mg := mg) (base := base) F_path_or_paper (He.glo_ok X G (c.fact 17 (f := .glo "path_or_paper") rfl)) T D_check_number D_separating_family D_colourful_path Y
  have D_refuses_path := o_refuses_path (P := P) (w := w) (K := K) (mg := mg) (base := base) F_refuses_path (He.glo_ok X G (c.fact 18 (f := .glo "refuses_path") rfl)) T D_check_number D_is_separating D_colourful_path Y
  have D__law_mixed := o__law_mixed (P := P) (w := w) (K := K) (mg := mg) (base := base) F__law_mixed (He.glo_ok X G (c.fact 19 (f := .glo "_law_mixed") rfl)) T
  have D__law_numbers := o__law_numbers (P := P) (w := w) (K := K) (mg := mg) (base := base) F__law_numbers (He.glo_ok X G (c.fact 20 (f := .glo "_law_numbers") rfl)) T D__law_mixed
  have D__law_draw := o__law_draw (P := P) (w := w) (K := K) (mg := mg) (base := base) F__law_draw (He.glo_ok X G (c.fact 21 (f := .glo "_law_draw") rfl)) T D__law_mixed
  have D__law_pairs := o__law_pairs (P := P) (w := w) (K := K) (mg := mg) (base := base) F__law_pairs (He.glo_ok X G (c.fact 24 (f := .glo "_law_pairs") rfl)) T D__law_draw
  have D__law_order := o__law_order (P := P) (w := w) (K := K) (mg := mg) (base := base) F__law_order (He.glo_ok X G (c.fact 25 (f := .glo "_law_order") rfl)) T D__law_draw
  have D__law_edges := o__law_edges (P := P) (w := w) (K := K) (mg := mg) (base := base) F__law_edges (He.glo_ok X G (c.fact 26 (f := .glo "_law_edges") rfl)) T D__law_order D__law_pairs
  have D__law_near := o__law_near (P := P) (w := w) (K := K) (mg := mg) (base := base) F__law_near (He.glo_ok X G (c.fact 27 (f := .glo "_law_near") rfl)) T
  have D__law_is_path := o__law_is_path (P := P) (w := w) (K := K) (mg := mg) (base := base) F__law_is_path (He.glo_ok X G (c.fact 28 (f := .glo "_law_is_path") rfl)) T
  have D__law_longest := o__law_longest (P := P) (w := w) (K := K) (mg := mg) (base := base) F__law_longest (He.glo_ok X G (c.fact 29 (f := .glo "_law_longest") rfl)) T
  have sc : FnScope ["_law_actual", "_law_due", "_law_k"] ["_law_actual", "_law_due"] (defScope s__law_all_equal) := ⟨rfl, rfl, rfl, by decide +kernel, rfl, by decide +kernel, by decide +kernel⟩
  have D_no := own_no (P := P) (w := w) (K := K) (mg := mg) (base := base) F__law_all_equal (He.glo_ok X G (c.fact 23 (f := .glo "_law_all_equal") rfl)) sc fun _ _ _ _ _ _ us hl => match us, hl with | [_, _], _ => rfl
  have D_eqI := o_eqI (P := P) (w := w) (K := K) (mg := mg) (base := base) F__law_equal (He.glo_ok X G (c.fact 22 (f := .glo "_law_equal") rfl)) T D_no
  have D_aeL := o_aeL (P := P) (w := w) (K := K) (mg := mg) (base := base) F__law_all_equal (He.glo_ok X G (c.fact 23 (f := .glo "_law_all_equal") rfl)) T D_eqI
  have D_aeT := o_aeT (P := P) (w := w) (K := K) (mg := mg) (base := base) F__law_all_equal (He.glo_ok X G (c.fact 23 (f := .glo "_law_all_equal") rfl)) T D_eqI
  have D_eqL := o_eqL (P := P) (w := w) (K := K) (mg := mg) (base := base) F__law_equal (He.glo_ok X G (c.fact 22 (f := .glo "_law_equal") rfl)) T D_aeL
  have D_eqT := o_eqT (P := P) (w := w) (K := K) (mg := mg) (base := base) F__law_equal (He.glo_ok X G (c.fact 22 (f := .glo "_law_equal") rfl)) T D_aeT
  have D_aeE := o_aeE (P := P) (w := w) (K := K) (mg := mg) (base := base) F__law_all_equal (He.glo_ok X G (c.fact 23 (f := .glo "_law_all_equal") rfl)) T D_eqT
  have D_eqE := o_eqE (P := P) (w := w) (K := K) (mg := mg) (base := base) F__law_equal (He.glo_ok X G (c.fact 22 (f := .glo "_law_equal") rfl)) T D_aeE
  have D_c0 := o_count0 (P := P) (w := w) (K := K) (mg := mg) (base := base) F__law_count (He.glo_ok X G (c.fact 30 (f := .glo "_law_count") rfl))
  have D_c1 := o_countS (P := P) (w := w) (K := K) (mg := mg) (base := base) F__law_count (He.glo_ok X G (c.fact 30 (f := .glo "_law_count") rfl)) T D_c0
  have D_c2 := o_countS (P := P) (w := w) (K := K) (mg := mg) (base := base) F__law_count (He.glo_ok X G (c.fact 30 (f := .glo "_law_count") rfl)) T D_c1
  have D_c3 := o_countS (P := P) (w := w) (K := K) (mg := mg) (base := base) F__law_count (He.glo_ok X G (c.fact 30 (f := .glo "_law_count") rfl)) T D_c2
  have D_c4 := o_countS (P := P) (w := w) (K := K) (mg := mg) (base := base) F__law_count (He.glo_ok X G (c.fact 30 (f := .glo "_law_count") rfl)) T D_c3
  have D_c5 := o_countS (P := P) (w := w) (K := K) (mg := mg) (base := base) F__law_count (He.glo_ok X G (c.fact 30 (f := .glo "_law_count") rfl)) T D_c4
  have D_c6 := o_countS (P := P) (w := w) (K := K) (mg := mg) (base := base) F__law_count (He.glo_ok X G (c.fact 30 (f := .glo "_law_count") rfl)) T D_c5
  have D__law_count := D_c6
  have D__law_colourful := o__law_colourful (P := P) (w := w) (K := K) (mg := mg) (base := base) F__law_colourful (He.glo_ok X G (c.fact 31 (f := .glo "_law_colourful") rfl)) T D__law_count
  have D__law_subsets := o__law_subsets (P := P) (w := w) (K := K) (mg := mg) (base := base) F__law_subsets (He.glo_ok X G (c.fact 32 (f := .glo "_law_subsets") rfl)) T
  have D__law_separates_one := o__law_separates_one (P := P) (w := w) (K := K) (mg := mg) (base := base) F__law_separates_one (He.glo_ok X G (c.fact 33 (f := .glo "_law_separates_one") rfl)) T
  have D__law_separates := o__law_separates (P := P) (w := w) (K := K) (mg := mg) (base := base) F__law_separates (He.glo_ok X G (c.fact 34 (f := .glo "_law_separates") rfl)) T D__law_subsets D__law_separates_one
  have D__law_are_colourings := o__law_are_colourings (P := P) (w := w) (K := K) (mg := mg) (base := base) F__law_are_colourings (He.glo_ok X G (c.fact 35 (f := .glo "_law_are_colourings") rfl)) T
  have D__law_paper := o__law_paper (P := P) (w := w) (K := K) (mg := mg) (base := base) F__law_paper (He.glo_ok X G (c.fact 36 (f := .glo "_law_paper") rfl)) T D__law_are_colourings D__law_separates D__law_colourful
  have D__law_same := o__law_same (P := P) (w := w) (K := K) (mg := mg) (base := base) F__law_same (He.glo_ok X G (c.fact 37 (f := .glo "_law_same") rfl)) T D__law_near Y D_eqI D_eqL D_eqE D_nb Mm
  have D__law_right := o__law_right (P := P) (w := w) (K := K) (mg := mg) (base := base) F__law_right (He.glo_ok X G (c.fact 40 (f := .glo "_law_right") rfl)) T D__law_longest D__law_is_path D__law_paper D_refuses_path
  have D__law_planted := o__law_planted (P := P) (w := w) (K := K) (mg := mg) (base := base) F__law_planted (He.glo_ok X G (c.fact 38 (f := .glo "_law_planted") rfl)) T D__law_draw D__law_order D__law_near D__law_is_path D_path_or_paper D__law_same Y D_init Mi
  have D__law_parted := o__law_parted (P := P) (w := w) (K := K) (mg := mg) (base := base) F__law_parted (He.glo_ok X G (c.fact 39 (f := .glo "_law_parted") rfl)) T D__law_draw D__law_order D__law_near D__law_paper D_path_or_paper D_refuses_path D__law_same Y D_init Mi
  have D_told := told_of D_path_or_paper
  exact o_law (P := P) (w := w) (K := K) (mg := mg) (base := base) F_law T D__law_numbers D__law_draw D__law_planted D__law_parted D__law_edges D__law_near D_told D__law_right D__law_same Y D_init Mi
end K53
open PySem PySem.W PySem.Calls PyProof.Rows
theorem PySem.Challenge.cw_cherrystone_k53_whole_paths_or_papers_holds : PySem.Challenge.rw_cherrystone_k53_whole_paths_or_papers.Holds := by
  w_on; o_law
  refine HandSHeadRun.head_any (r := K53.R) (q := view K53.R.prog [60]) (H := K53.hk) (ob := K53.ob) (M := 4000) (loose := K53.loose) (d := HandSHeadRun.topDef K53.R.prog 60) (kwd := []) K53.ob_eq
    (by kernel_rfl) (fun s => by kernel_rfl) K53.headRun (by kernel_rfl) (by kernel_rfl) (by kernel_rfl) (by rfl) (by first | assumption | decide +kernel) (by decide +kernel) ⟨rfl, rfl, rfl, rfl, rfl, by decide +kernel⟩ ?hw ?hc
  case hw => w_witness2
  case hc =>
    refine L2.walk_ofE (l := PySem.Challenge.rw_cherrystone_k53_whole_paths_or_papers) (n := 63) (k := 11) (x := "_law_script") (CX := L2.CX0) rfl (by decide) (by kernel_rfl) ⟨rfl, by decide, by decide⟩ ?F (fun _ _ _ _ z => z)
    intro w mg fa h Yh Gh hmg0
    obtain ⟨K, KX, c⟩ := Yh
    have hmg : mg ("law" : PySem.Str) = some (.ref fa) := by
      have e : (HandSHeadRun.topDef K53.R.prog 60).name = ("law" : PySem.Str) := by kernel_rfl
      rw [← e]
      exact hmg0
    obtain ⟨fd, hb, hF⟩ := K53.facts (P := (PySem.Challenge.rw_cherrystone_k53_whole_paths_or_papers).prog) (w := w) KX Gh hmg c
    exact ⟨K, fd, K53.sp_law K, KX, hb, fun H a ns hl _ hS => ⟨a, ns, rfl, hS, hl, fun _ => rfl⟩, hF⟩
