import PyProof.Rows.All
import Wide.All
import OpenK.AllK
import Wide.FinOn
import HandS.ForMost
import HandS.ForExc
import HandS.Wide
import HandS.SortRule
import HandS.TupAny
import KE.KDictPairs
import HandS.Zip
import HandS.SortInts
import HandS.IsInst
import HandS.DictComp
import HandS.ExcOwn
import HandS.Property
import HandS.Text
import HandS.FStr
import HandS.WordsDict
import HandS.More
import HandS.Deep
import HandS.TupLe
import HandS.ExcInit
import HandS.ClsMeth
import HandS.TryMany
import HandS.TryOnly
import HandS.OwnEq
import HandS.HeadHook2
import HandS.HeadHook4
import HandS.Head0
import HandS.Head1
import HandS.Head2
import HandS.HeadEnd
import HandS.TupSets
import HandS.SetFor
import HandS.Strs
import HandS.DictEq
import HandS.DeepEq
import PySem.Challenge.RW_tossroads_k01_games_refused
set_option Elab.async false
set_option linter.all false
set_option maxRecDepth 100000
set_option maxHeartbeats 0
/-! TD0: tuples whose object is known to be plain; dict(t). -/
namespace L2
open PySem PySem.Spec PyProof.Rows
def PlainT (o : Obj) : Prop := o.cls = .type "tuple" ∧ o.dict = none
section
variable {X : Cx} {pins : List (Addr × Obj)} {σ : St} {H : Hp} {s : Shared} {es : List Expr} {t : TA} {pos : Pos}
theorem laidP {hp : Heap} {t' : Nat} {us : List Value} {xs : List V} (I : Inv X pins σ H { s with heap := hp }) (r : Vals xs us) (z : xs.length ≤ sizeLine) :
    Inv X pins σ (upd H hp.objs.size (.frz { cls := .type "tuple", data := .seq us.toArray } (.tup xs))) { s with heap := hp.push { cls := .type "tuple", data := .seq us.toArray }, toks := t' } := by
  refine I.laid (s := { s with heap := hp }) (t' := t') (fun b u e => Heap.get?_push_of_some _ e) (Nat.le_refl _) ⟨Heap.get?_push_size _ rfl, z, us, r, ⟨_, Heap.get?_push_size _ rfl, rfl, _, rfl⟩⟩
def tTupP (t : TA) : TE := fun σ H Q => t σ H fun xs H1 => xs.length ≤ sizeLine ∧ ∀ p o, H1 p = none → PlainT o → Q (.ref p) (upd H1 p (.frz o (.tup xs)))
theorem pe_tupP {x1} (h : PA X es t) : PE X (.Tuple es x1 pos) (tTupP t) := by
  refine ⟨fun pins s σ H Q I hq => ?_⟩
  refine wpAny_Tuple_spliced (thn (h.run pos pins s σ H _ I hq) fun us s1 ⟨xs, H1, I1, r, z, q⟩ => ⟨by rw [← r.length]; exact z, ?_⟩)
  have hf : H1 s1.heap.objs.size = none := I1.hok.fresh (Nat.le_refl _)
  exact ⟨.ref s1.heap.objs.size, _, laidP (t' := s1.toks) I1 r z, rfl, q _ _ hf ⟨rfl, rfl⟩⟩
theorem call_tuple_ofP : CallR X (.type "tuple") (fun xs H Q => ∃ p ys, xs = [.ref p] ∧ SqL X.K H p ys ∧ ∀ l o, H l = none → PlainT o → Q (.ref l) (upd H l (.frz o (.tup ys)))) := by
  intro pins s σ H xs us Q I r h
  obtain ⟨p, ys, rfl, hq, q⟩ := h
  obtain ⟨u, rfl, rx⟩ := vals1 r
  cases rx
  obtain ⟨its, r', pl, hz⟩ := I.list hq
  have hlen := r'.length
  refine call_tuple_list pl.isList (fun h' kp => ?_) (by simp only [List.size_toArray] <;> omega)
  have I1 : Inv X pins σ H { s with heap := h' } := I.kept (t' := s.toks) kp
  exact ⟨.ref h'.objs.size, _, laidP (t' := s.toks) I1 r' hz, rfl, q _ _ (I1.hok.fresh (Nat.le_refl _)) ⟨rfl, rfl⟩⟩
def rCatP (K : PySem.W.Frag) : R2 := fun x y H Q => ∃ a b xs ys, x = .ref a ∧ y = .ref b ∧ SqT K H a xs ∧ SqT K H b ys ∧ xs.length + ys.length ≤ sizeLine ∧
  (xs = [] → Q (.ref b) H) ∧ (xs ≠ [] → ys = [] → Q (.ref a) H) ∧ (xs ≠ [] → ys ≠ [] → ∀ p o, H p = none → PlainT o → Q (.ref p) (upd H p (.frz o (.tup (xs ++ ys)))))
theorem op_catP : OpR X (binaryOp .Add) (rCatP X.K) := by
  intro pins s σ H x y v u Q I rx ry h
  obtain ⟨a, b, xs, ys, rfl, rfl, ha, hb, hz, q0, q1, q2⟩ := h
  cases rx
  cases ry
  obtain ⟨its, r1, p1, _⟩ := I.tuple ha
  obtain ⟨its2, r2, p2, _⟩ := I.tuple hb
  by_cases hx : xs = []
  · subst hx
    cases r1
    exact cat_tup0 p1 p2 ⟨.ref b, H, I, rfl, q0 rfl⟩
  · refine HT.cat_tup p1 p2 (fun z => hx (r1.nil_iff.mp z)) (fun z => ⟨.ref a, H, I, rfl, q1 hx (r2.nil_iff.mp z)⟩) (fun z => ?_) (by rw [← r1.length, ← r2.length]; exact hz)
    exact ⟨.ref s.heap.objs.size, _, laidP (t' := s.toks) I (r1.append r2) (by rw [List.length_append]; exact hz), rfl, q2 hx (fun w => z (r2.nil_iff.mpr w)) _ _ (I.hok.fresh (Nat.le_refl _)) ⟨rfl, rfl⟩⟩
/-- t[lo:hi] -/
def rSlP (K : PySem.W.Frag) : V → Option Int → Option Int → Hp → VK → Prop := fun x lo hi H Q => ∃ a xs, x = .ref a ∧ SqT K H a xs ∧
  (HT.sIx xs.length 0 lo = 0 ∧ HT.sIx xs.length xs.length hi = xs.length → Q (.ref a) H) ∧ (¬ (HT.sIx xs.length 0 lo = 0 ∧ HT.sIx xs.length xs.length hi = xs.length) → ∀ p o, H p = none → PlainT o → Q (.ref p) (upd H p (.frz o (.tup (cutV xs lo hi)))))
theorem sl_tupP : SlR X (rSlP X.K) := by
  intro pins s σ H x v vl vu lo hi sl Q I rx hs pl pu h
  obtain ⟨a, xs, rfl, hx, q1, q2⟩ := h
  cases rx
  obtain ⟨its, r, ht, hz⟩ := I.tuple hx
  have hlen : its.toArray.size = xs.length := by rw [List.size_toArray]; exact r.length.symm
  refine ⟨"tuple", _, PyProof.Rows.slot_tuple_getitem.lookup, ht.typeIs, ?_⟩
  by_cases hw : HT.sIx xs.length 0 lo = 0 ∧ HT.sIx xs.length xs.length hi = xs.length
  · exact getItem_tuple_whole ht hs pl pu (by rw [hlen]; exact hw) ⟨.ref a, H, I, rfl, q1 hw⟩
  · refine HT.getItem_tuple_cut ht hs pl pu (by rw [hlen]; exact hw) ?_ (by rw [hlen]; exact hz)
    rw [hlen]
    exact ⟨.ref s.heap.objs.size, _, laidP (t' := s.toks) I ((r.drop (HT.sIx xs.length 0 lo)).take (HT.sIx xs.length xs.length hi - HT.sIx xs.length 0 lo)) (Nat.le_trans (cutV_length xs lo hi) hz), rfl, q2 hw _ _ (I.hok.fresh (Nat.le_refl _)) ⟨rfl, rfl⟩⟩
/-- sorted(xs), xs a list of pairs of ints -/
def rSortedPQ (K : PySem.W.Frag) : List V → Hp → VK → Prop := fun vs H Q => ∃ (a : Addr) (xs : List V) (k : V → Int × Int), vs = [V.ref a] ∧ SqL K H a xs ∧ (∀ x ∈ xs, ∃ t, x = V.ref t ∧ SqT K H t [.int (k x).1, .int (k x).2]) ∧
  ∀ ys p, SrtO.Srtd (ltP k) ys → SrtO.Stb (ltP k) ys xs → H p = none → Q (.ref p) (upd H p (.lst ys))
theorem cr_sortedPQ : CallR X (.builtin "sorted") (rSortedPQ X.K) := by
  intro pins s σ H vs us Q I r h
  obtain ⟨a, xs, k, rfl, hs, hx, q⟩ := h
  obtain ⟨its, rv, hl, hz⟩ := I.list hs
  obtain ⟨u, rfl, ru⟩ := vals1 r
  obtain rfl : u = Value.ref a := ru
  obtain ⟨e1, e2⟩ := refs_back rv fun x m => by
    obtain ⟨t, e, _⟩ := hx x m
    exact ⟨t, e⟩
  refine SrtO.sorted_pairsO (k := fun u => k (backV u)) hl.isList (by rw [← rv.length]; exact hz) (fun v hv => ?_) fun h' d out h1 h2 kp hd hn => ?_
  · obtain ⟨t, rfl⟩ := e2 v hv
    have hm : V.ref t ∈ xs := by rw [e1]; exact List.mem_map.mpr ⟨_, hv, rfl⟩
    obtain ⟨t', e, ht⟩ := hx _ hm
    cases e
    obtain ⟨its2, r2, ⟨o, ho, hc, n, hd⟩, _⟩ := I.tuple ht
    obtain ⟨u1, u2, rfl, ri, rj⟩ := vals2 r2
    obtain ⟨t1, rfl⟩ := ri
    obtain ⟨t2, rfl⟩ := rj
    exact ⟨t, o, t1, t2, n, rfl, ho, hc, hd⟩
  · have h3 : ∀ u ∈ out, ∃ a, u = Value.ref a := fun u hu => e2 u (h2.perm.mem_iff.mp hu)
    obtain ⟨n, hn⟩ := hn
    have hb : SrtO.Stb (ltP k) (out.map backV) xs := by
      rw [e1]
      exact SrtO.Stb.map (ltP_swo k) backV h2
    refine ⟨.ref d, upd H d (.lst (out.map backV)), I.laid (t' := s.toks) kp hd ⟨?_, out, n, vals_back h3, hn⟩, rfl, q _ d (SrtO.srtd_map h1) hb (I.hok.fresh hd)⟩
    rw [hb.len]
    exact hz
/-- dict(t), t a plain tuple of pairs -/
theorem call_dictTP (hcalm : X.calm = true) : CallR X (.type "dict") (fun xs H Q => ∃ (a : Addr) (o : Obj) (ps : List Addr) (kvs : List (Key × V)), xs = [.ref a] ∧ H a = some (.frz o (.tup (ps.map V.ref))) ∧ PlainT o ∧ Paired (fun p kv => SqT X.K H p [kV kv.1, kv.2]) ps kvs ∧
    ∀ p, H p = none → Q (.ref p) (upd H p (.dK (mergeK [] kvs)))) := by
  intro pins s σ H xs us Q I r q
  obtain ⟨a, o, ps, kvs, ex, hq, hpl, hp, q⟩ := q
  subst ex
  obtain ⟨u, eu, rx⟩ := vals1 r
  subst eu
  cases rx
  obtain ⟨ho, hz, its, rv, ⟨o2, ho2, hc, n, hdat⟩⟩ := (show ObjOk X.prog X.w H s.heap a (.frz o (.tup (ps.map V.ref))) from I.hok a _ hq)
  rw [ho] at ho2
  cases ho2
  have ei := refs_at rv
  subst ei
  rw [List.length_map] at hz
  obtain ⟨prs, rel, hl, hpr⟩ := pairs_of I hp
  -- the pairs as the library tells them
  have key : ∃ qs : List (Value × Value), qs.length = ps.length ∧ ∀ (j : Nat) (u v : Value), qs[j]? = some (u, v) → ∃ k, prs[j]? = some (k, v) ∧ keyIs k u = true ∧ ∃ b, ps[j]? = some b ∧ IsTup s.heap b #[u, v] := by
    clear hpl hq ho hdat hc q hz
    have : ∀ (prs : List (Key × Value)) (ps : List Addr), prs.length = ps.length → (∀ (j : Nat) (q : Key × Value), prs[j]? = some q → ∃ (b : Addr) (u : Value), ps[j]? = some b ∧ IsTup s.heap b #[u, q.2] ∧ keyIs q.1 u = true) →
        ∃ qs : List (Value × Value), qs.length = ps.length ∧ ∀ (j : Nat) (u v : Value), qs[j]? = some (u, v) → ∃ k, prs[j]? = some (k, v) ∧ keyIs k u = true ∧ ∃ b, ps[j]? = some b ∧ IsTup s.heap b #[u, v] := by
      intro prs
      induction prs with
      | nil => intro ps h _; exact ⟨[], h, fun j u v e => by simp at e⟩
      | cons p prs ih =>
        intro ps h hh
        cases ps with
        | nil => simp at h
        | cons b ps =>
          obtain ⟨qs, h1, h2⟩ := ih ps (by simpa using h) fun j q e => by
            have := hh (j + 1) q (by simpa using e)
            simpa using this
          obtain ⟨b', u, e1, e2, e3⟩ := hh 0 p rfl
          simp at e1
          subst e1
          refine ⟨(u, p.2) :: qs, by simp [h1], fun j u' v' e => ?_⟩
          cases j with
          | zero => simp at e; obtain ⟨rfl, rfl⟩ := e; exact ⟨p.1, rfl, e3, b, rfl, e2⟩
          | succ j =>
            have := h2 j u' v' (by simpa using e)
            simpa using this
    exact this prs ps hl hpr
  obtain ⟨qs, hql, hqs⟩ := key
  have hk : PairsHave (mixKind X.prog X.w) qs.length (PairRel qs) prs := ⟨by rw [hl, hql], fun i u v e => by
    obtain ⟨k, h1, h2, _⟩ := hqs i u v e
    exact ⟨k, h1, h2⟩⟩
  refine PySem.call_dict_pairs (P := PairArg.tuple (prog := X.prog) (w := X.w) a (ps.map Value.ref).toArray (fun j => ps.getD j 0) qs) (I.ok.hd hcalm) ⟨⟨o, n, ho, hpl.1, hpl.2, hdat⟩, by simp [hql], fun j u v e => ?_⟩ hk (by rw [hql]; exact hz) fun h' tk hd' k => ?_
  · obtain ⟨k, h1, h2, b, h3, h4⟩ := hqs j u v e
    refine ⟨by simp [h3], .inl ?_⟩
    show s.heap.IsTuple (ps.getD j 0) #[u, v]
    rw [show ps.getD j 0 = b by rw [List.getD_eq_getElem?_getD, h3]; rfl]
    exact h4
  · have hm : (s.heap.objs.size == sysModules) = false := beq_eq_false_iff_ne.mpr (Nat.ne_of_gt I.big)
    have hlen : (mergeK [] kvs).length ≤ sizeLine := by
      refine Nat.le_trans (length_mergeK kvs []) ?_
      rw [List.length_nil, Nat.zero_add, rel.length, hl]
      exact hz
    exact ⟨.ref s.heap.objs.size, upd H s.heap.objs.size (.dK (mergeK [] kvs)), I.laid (t' := tk) (fun b o e => k b o (by simp) e) (Nat.le_refl _) (show ObjOk X.prog X.w _ _ _ (.dK (mergeK [] kvs)) from ⟨hlen, hm, merged [] prs, KV.merge rel .nil, hd'⟩), rfl, q _ (I.hok.fresh (Nat.le_refl _))⟩
end
end L2
/-! TD1: data without a heap (D), what holds of a state (StR), expressions and statements by data. -/
namespace TD
open PySem PySem.Spec PyProof.Rows L2
/-- data -/
inductive D where
  | non | bl (b : Bool) | int (i : Int) | str (x : Str) | ty (n : String) | ref (a : Addr)
  | scr (ns : List Int) | ktup (ds : List D) | tup (ds : List D) | wtup (ds : List D) | lst (ds : List D) | dic (ks : List Key) (ds : List D) | ins (C : Addr) (ns : List Str) (ds : List D)
  deriving Inhabited
section
variable (K : PySem.W.Frag) (F : Hp)
mutual
/-- the value v is the data d, read off the frozen part F -/
def Rep : D → V → Prop
  | .non, v => v = .non
  | .bl b, v => v = .bl b
  | .int i, v => v = .int i
  | .str x, v => v = .str x
  | .ty n, v => v = .ty n
  | .ref a, v => v = .ref a
  | .scr ns, v => ∃ a, v = .ref a ∧ SqL K F a (ns.map V.int)
  | .ktup ds, v => ∃ a vs, v = .ref a ∧ SqT K F a vs ∧ RepL ds vs
  | .tup ds, v => ∃ a vs o, v = .ref a ∧ F a = some (.frz o (.tup vs)) ∧ PlainT o ∧ RepL ds vs
  | .wtup ds, v => ∃ a vs, v = .ref a ∧ F a = some (.tup vs) ∧ RepL ds vs
  | .lst ds, v => ∃ a vs, v = .ref a ∧ F a = some (.lst vs) ∧ RepL ds vs
  | .dic ks ds, v => ∃ a vs, v = .ref a ∧ F a = some (.dK (ks.zip vs)) ∧ ks.length = ds.length ∧ RepL ds vs
  | .ins C ns ds, v => ∃ a dx vs, v = .ref a ∧ F a = some (.ins C dx (ns.zip vs)) ∧ F dx = some (.own a) ∧ ns.length = ds.length ∧ RepL ds vs
def RepL : List D → List V → Prop
  | [], vs => vs = []
  | d :: ds, vs => ∃ v r, vs = v :: r ∧ Rep d v ∧ RepL ds r
end
end
theorem Same.sqt {K : PySem.W.Frag} {H H' : Hp} {a : Addr} {xs : List V} (e : Same H H') (h : SqT K H a xs) : SqT K H' a xs := by
  rcases h with (h | ⟨o, h⟩) | h
  · exact .inl (.inl (e _ _ h))
  · exact .inl (.inr ⟨o, e _ _ h⟩)
  · exact .inr h
section
variable {K : PySem.W.Frag} {F F' : Hp}
mutual
theorem Rep.mono (e : Same F F') : ∀ (d : D) (v : V), Rep K F d v → Rep K F' d v
  | .non, _, h => h
  | .bl _, _, h => h
  | .int _, _, h => h
  | .str _, _, h => h
  | .ty _, _, h => h
  | .ref _, _, h => h
  | .ktup ds, _, h => by
    simp only [Rep] at h ⊢
    obtain ⟨a, vs, h1, h2, h3⟩ := h
    exact ⟨a, vs, h1, Same.sqt e h2, RepL.mono e ds vs h3⟩
  | .tup ds, _, h => by
    simp only [Rep] at h ⊢
    obtain ⟨a, vs, o, h1, h2, hp, h3⟩ := h
    exact ⟨a, vs, o, h1, e _ _ h2, hp, RepL.mono e ds vs h3⟩
  | .wtup ds, _, h => by
    simp only [Rep] at h ⊢
    obtain ⟨a, vs, h1, h2, h3⟩ := h
    exact ⟨a, vs, h1, e _ _ h2, RepL.mono e ds vs h3⟩
  | .scr ns, _, h => by
    simp only [Rep] at h ⊢
    obtain ⟨a, h1, h2⟩ := h
    exact ⟨a, h1, Same.seq e h2⟩
  | .lst ds, _, h => by
    simp only [Rep] at h ⊢
    obtain ⟨a, vs, h1, h2, h3⟩ := h
    exact ⟨a, vs, h1, e _ _ h2, RepL.mono e ds vs h3⟩
  | .dic ks ds, _, h => by
    simp only [Rep] at h ⊢
    obtain ⟨a, vs, h1, h2, h3, h4⟩ := h
    exact ⟨a, vs, h1, e _ _ h2, h3, RepL.mono e ds vs h4⟩
  | .ins C ns ds, _, h => by
    simp only [Rep] at h ⊢
    obtain ⟨a, dx, vs, h1, h2, h3, h4, h5⟩ := h
    exact ⟨a, dx, vs, h1, e _ _ h2, e _ _ h3, h4, RepL.mono e ds vs h5⟩
theorem RepL.mono (e : Same F F') : ∀ (ds : List D) (vs : List V), RepL K F ds vs → RepL K F' ds vs
  | [], _, h => h
  | d :: ds, _, h => by
    simp only [RepL] at h ⊢
    obtain ⟨v, r, h1, h2, h3⟩ := h
    exact ⟨v, r, h1, Rep.mono e d v h2, RepL.mono e ds r h3⟩
end
theorem RepL.length : ∀ {ds : List D} {vs : List V}, RepL K F ds vs → vs.length = ds.length
  | [], _, h => by simp only [RepL] at h; subst h; rfl
  | d :: ds, _, h => by
    simp only [RepL] at h
    obtain ⟨v, r, rfl, _, h3⟩ := h
    rw [List.length_cons, List.length_cons, RepL.length h3]
theorem RepL.get : ∀ {ds : List D} {vs : List V} {i : Nat} {d : D}, RepL K F ds vs → ds[i]? = some d → ∃ v, vs[i]? = some v ∧ Rep K F d v
  | [], _, _, _, _, e => by simp at e
  | d :: ds, _, 0, _, h, e => by
    simp only [RepL] at h
    obtain ⟨v, r, rfl, h2, _⟩ := h
    simp at e; subst e
    exact ⟨v, rfl, h2⟩
  | d :: ds, _, i + 1, x, h, e => by
    simp only [RepL] at h
    obtain ⟨v, r, rfl, _, h3⟩ := h
    obtain ⟨u, h1, h2⟩ := RepL.get (i := i) (d := x) h3 (by simpa using e)
    exact ⟨u, by simpa using h1, h2⟩
theorem RepL.get' {ds : List D} {vs : List V} {i : Nat} {v : V} (h : RepL K F ds vs) (e : vs[i]? = some v) : ∃ d, ds[i]? = some d ∧ Rep K F d v := by
  have hl := h.length
  have hi : i < ds.length := by
    have := (List.getElem?_eq_some_iff.mp e).1
    omega
  obtain ⟨u, h1, h2⟩ := h.get (List.getElem?_eq_getElem hi)
  rw [e] at h1; cases h1
  exact ⟨_, List.getElem?_eq_getElem hi, h2⟩
theorem RepL.append : ∀ {ds es : List D} {vs ws : List V}, RepL K F ds vs → RepL K F es ws → RepL K F (ds ++ es) (vs ++ ws)
  | [], _, _, _, h, h' => by simp only [RepL] at h; subst h; exact h'
  | d :: ds, _, _, _, h, h' => by
    simp only [RepL] at h
    obtain ⟨v, r, rfl, h2, h3⟩ := h
    exact ⟨v, _, rfl, h2, RepL.append h3 h'⟩
theorem RepL.one {d : D} {v : V} (h : Rep K F d v) : RepL K F [d] [v] := ⟨v, [], rfl, h, rfl⟩
theorem RepL.cons {d : D} {v : V} {ds : List D} {vs : List V} (h : Rep K F d v) (h' : RepL K F ds vs) : RepL K F (d :: ds) (v :: vs) := ⟨v, vs, rfl, h, h'⟩
theorem RepL.set : ∀ {ds : List D} {vs : List V} {d : D} {v : V} (i : Nat), RepL K F ds vs → Rep K F d v → RepL K F (ds.set i d) (vs.set i v)
  | [], _, _, _, _, h, _ => by simp only [RepL] at h; subst h; exact rfl
  | d :: ds, _, _, _, 0, h, q => by
    simp only [RepL] at h
    obtain ⟨v, r, rfl, h2, h3⟩ := h
    exact ⟨_, r, rfl, q, h3⟩
  | d :: ds, _, _, _, i + 1, h, q => by
    simp only [RepL] at h
    obtain ⟨v, r, rfl, h2, h3⟩ := h
    exact ⟨v, _, rfl, h2, RepL.set i h3 q⟩
theorem RepL.take : ∀ {ds : List D} {vs : List V} (n : Nat), RepL K F ds vs → RepL K F (ds.take n) (vs.take n)
  | _, _, 0, _ => by simp only [List.take_zero]; exact rfl
  | [], _, n + 1, h => by simp only [RepL] at h; subst h; exact rfl
  | d :: ds, _, n + 1, h => by
    simp only [RepL] at h
    obtain ⟨v, r, rfl, h2, h3⟩ := h
    exact ⟨v, _, rfl, h2, RepL.take n h3⟩
theorem RepL.drop : ∀ {ds : List D} {vs : List V} (n : Nat), RepL K F ds vs → RepL K F (ds.drop n) (vs.drop n)
  | _, _, 0, h => h
  | [], _, n + 1, h => by simp only [RepL] at h; subst h; exact rfl
  | d :: ds, _, n + 1, h => by
    simp only [RepL] at h
    obtain ⟨v, r, rfl, h2, h3⟩ := h
    exact RepL.drop n h3
theorem RepL.reverse : ∀ {ds : List D} {vs : List V}, RepL K F ds vs → RepL K F ds.reverse vs.reverse
  | [], _, h => by simp only [RepL] at h; subst h; exact rfl
  | d :: ds, _, h => by
    simp only [RepL] at h
    obtain ⟨v, r, rfl, h2, h3⟩ := h
    rw [List.reverse_cons, List.reverse_cons]
    exact (RepL.reverse h3).append (.one h2)
end
/-- what an owned (mutable) object holds -/
inductive CC where
  | lst (ds : List D) | dic (ks : List Key) (ds : List D) | ins (C : Addr) (ns : List Str) (ds : List D)
/-- what a name holds: data, or the k-th owned object -/
inductive SV where
  | fr (d : D) | cell (k : Nat)
structure DS where
  ρ : List (Option SV)
  μ : List (Option CC)
/-- how a def was entered: the frozen part, the heap, the owned objects that were handed in -/
structure Base where
  F0 : Hp
  H0 : Hp
  P0 : List Addr
def CellR (K : PySem.W.Frag) (F H : Hp) (a : Addr) : CC → Prop
  | .lst ds => ∃ vs, H a = some (.lst vs) ∧ RepL K F ds vs
  | .dic ks ds => ∃ vs, H a = some (.dK (ks.zip vs)) ∧ ks.length = ds.length ∧ RepL K F ds vs
  | .ins C ns ds => ∃ dx vs, H a = some (.ins C dx (ns.zip vs)) ∧ H dx = some (.own a) ∧ ns.length = ds.length ∧ RepL K F ds vs
theorem CellR.there {K : PySem.W.Frag} {F H : Hp} {a : Addr} {c : CC} (h : CellR K F H a c) : ∃ o, H a = some o ∧ Mut (some o) := by
  cases c with
  | lst ds => obtain ⟨vs, h, _⟩ := h; exact ⟨_, h, trivial⟩
  | dic ks ds => obtain ⟨vs, h, _⟩ := h; exact ⟨_, h, trivial⟩
  | ins C ns ds => obtain ⟨dx, vs, h, _⟩ := h; exact ⟨_, h, trivial⟩
theorem CellR.stay {K : PySem.W.Frag} {F H F' H' : Hp} {a : Addr} {c : CC} (h : CellR K F H a c) (e : Same F F') (k : ∀ b o, H b = some o → (b = a ∨ ¬ Mut (some o)) → H' b = some o) : CellR K F' H' a c := by
  cases c with
  | lst ds => obtain ⟨vs, h, r⟩ := h; exact ⟨vs, k _ _ h (.inl rfl), r.mono e⟩
  | dic ks ds => obtain ⟨vs, h, l, r⟩ := h; exact ⟨vs, k _ _ h (.inl rfl), l, r.mono e⟩
  | ins C ns ds => obtain ⟨dx, vs, h, hd, l, r⟩ := h; exact ⟨dx, vs, k _ _ h (.inl rfl), k _ _ hd (.inr fun z => z), l, r.mono e⟩
def RepV (K : PySem.W.Frag) (F : Hp) (α : Nat → Addr) : SV → V → Prop
  | .fr d, v => Rep K F d v
  | .cell k, v => v = .ref (α k)
/-- a value of an earlier state; cells only where they were -/
def InR (S : DS) : SV → Prop
  | .fr _ => True
  | .cell k => k < S.μ.length
/-- the state σ, H is as the data S tell -/
structure StR (K : PySem.W.Frag) (B : Base) (S : DS) (α : Nat → Addr) (F : Hp) (σ : L2.St) (H : Hp) : Prop where
  len : σ.length = S.ρ.length
  slot : ∀ (i : Nat) (r : SV), S.ρ[i]? = some (some r) → ∃ v, σ[i]? = some (some v) ∧ RepV K F α r v ∧ InR S r
  sub : Same F H
  grow : Same B.F0 F
  new : ∀ p o, F p = some o → B.F0 p = some o ∨ B.H0 p = none
  keep : ∀ b o, B.H0 b = some o → b ∉ B.P0 → H b = some o
  dom : ∀ b o, B.H0 b = some o → ∃ o', H b = some o'
  np : B.P0.length ≤ S.μ.length
  cells : ∀ (k : Nat) (c : CC), S.μ[k]? = some (some c) → F (α k) = none ∧ CellR K F H (α k) c
  own : ∀ (k : Nat) (c : CC), S.μ[k]? = some (some c) → B.P0.length ≤ k → B.H0 (α k) = none ∧ ∀ C dx fs, H (α k) = some (.ins C dx fs) → B.H0 dx = none
  pas : ∀ (k : Nat) (a : Addr), B.P0[k]? = some a → α k = a
  inj : ∀ (i j : Nat) (ci cj : CC), S.μ[i]? = some (some ci) → S.μ[j]? = some (some cj) → α i = α j → i = j
  p0 : ∀ a, a ∈ B.P0 → ∃ o, B.H0 a = some o
  pdx : ∀ a, a ∈ B.P0 → ∀ C dx fs, H a = some (.ins C dx fs) → ∃ C0 fs0, B.H0 a = some (.ins C0 dx fs0)
/-- from one state of data to a later one -/
structure Grow (S : DS) (α : Nat → Addr) (F : Hp) (S' : DS) (α' : Nat → Addr) (F' : Hp) : Prop where
  sub : Same F F'
  len : S.μ.length ≤ S'.μ.length
  al : ∀ k, k < S.μ.length → α' k = α k
theorem Grow.refl (S : DS) (α : Nat → Addr) (F : Hp) : Grow S α F S α F := ⟨Same.refl _, Nat.le_refl _, fun _ _ => rfl⟩
theorem Grow.trans {S S1 S2 : DS} {α α1 α2 : Nat → Addr} {F F1 F2 : Hp} (a : Grow S α F S1 α1 F1) (b : Grow S1 α1 F1 S2 α2 F2) : Grow S α F S2 α2 F2 :=
  ⟨a.sub.trans b.sub, Nat.le_trans a.len b.len, fun k h => (b.al k (Nat.lt_of_lt_of_le h a.len)).trans (a.al k h)⟩
theorem RepV.grow {K : PySem.W.Frag} {S S' : DS} {α α' : Nat → Addr} {F F' : Hp} (g : Grow S α F S' α' F') {r : SV} {v : V} (hr : InR S r) (h : RepV K F α r v) : RepV K F' α' r v := by
  cases r with
  | fr d => exact Rep.mono g.sub d v h
  | cell k => exact h.trans (by rw [g.al k hr])
abbrev DTE := DS → (DS → SV → Prop) → Prop
abbrev DTT := DS → (DS → Bool → Prop) → Prop
abbrev DTA := DS → (DS → List SV → Prop) → Prop
structure DEnds where
  nx : DS → Prop
  rt : DS → SV → Prop
  bk : DS → Prop := fun _ => False
  ct : DS → Prop := fun _ => False
abbrev DTS := DEnds → DS → Prop
/-- cells that S names are S's own -/
def liftE (K : PySem.W.Frag) (B : Base) (td : DTE) : TE := fun σ H Q => ∃ S P α F, StR K B S α F σ H ∧ td S P ∧
  ∀ S' r α' F' H' v, P S' r → Grow S α F S' α' F' → StR K B S' α' F' σ H' → InR S' r → RepV K F' α' r v → Q v H'
def liftT (K : PySem.W.Frag) (B : Base) (td : DTT) : TT := fun σ H Q => ∃ S P α F, StR K B S α F σ H ∧ td S P ∧
  ∀ S' b α' F' H', P S' b → Grow S α F S' α' F' → StR K B S' α' F' σ H' → Q b H'
def RepVs (K : PySem.W.Frag) (F : Hp) (α : Nat → Addr) : List SV → List V → Prop
  | [], vs => vs = []
  | r :: rs, vs => ∃ v us, vs = v :: us ∧ RepV K F α r v ∧ RepVs K F α rs us
def liftA (K : PySem.W.Frag) (B : Base) (td : DTA) : TA := fun σ H Q => ∃ S P α F, StR K B S α F σ H ∧ td S P ∧
  ∀ S' rs α' F' H' vs, P S' rs → Grow S α F S' α' F' → StR K B S' α' F' σ H' → (∀ r ∈ rs, InR S' r) → RepVs K F' α' rs vs → Q vs H'
def liftS (K : PySem.W.Frag) (B : Base) (td : DTS) : TS := fun D σ H => ∃ S P α F, StR K B S α F σ H ∧ td P S ∧
  (∀ S' α' F' σ' H', P.nx S' → Grow S α F S' α' F' → StR K B S' α' F' σ' H' → D.nx σ' H') ∧
  (∀ S' r α' F' σ' H' v, P.rt S' r → Grow S α F S' α' F' → StR K B S' α' F' σ' H' → InR S' r → RepV K F' α' r v → D.rt v H') ∧
  (∀ S' α' F' σ' H', P.bk S' → Grow S α F S' α' F' → StR K B S' α' F' σ' H' → D.bk σ' H') ∧
  (∀ S' α' F' σ' H', P.ct S' → Grow S α F S' α' F' → StR K B S' α' F' σ' H' → D.ct σ' H')
abbrev DE (X : Cx) (B : Base) (e : Expr) (td : DTE) : Prop := PE X e (liftE X.K B td)
abbrev DT (X : Cx) (B : Base) (e : Expr) (td : DTT) : Prop := PT X e (liftT X.K B td)
abbrev DW (X : Cx) (B : Base) (e : Expr) (td : DTT) : Prop := PW X e (liftT X.K B td)
abbrev DA (X : Cx) (B : Base) (es : List Expr) (td : DTA) : Prop := PA X es (liftA X.K B td)
abbrev DSt (X : Cx) (B : Base) (s : Stmt) (td : DTS) : Prop := PS X s (liftS X.K B td)
abbrev DSs (X : Cx) (B : Base) (s : List Stmt) (td : DTS) : Prop := PSs X s (liftS X.K B td)
theorem _root_.L2.PE.weak {X : Cx} {e : Expr} {t t' : TE} (h : PE X e t) (w : ∀ σ H Q, t' σ H Q → t σ H Q) : PE X e t' := ⟨fun pins s σ H Q I q => h.run pins s σ H Q I (w σ H Q q)⟩
theorem _root_.L2.PT.weak {X : Cx} {e : Expr} {t t' : TT} (h : PT X e t) (w : ∀ σ H Q, t' σ H Q → t σ H Q) : PT X e t' := ⟨fun pins s σ H Q I q => h.run pins s σ H Q I (w σ H Q q)⟩
theorem _root_.L2.PW.weak {X : Cx} {e : Expr} {t t' : TT} (h : PW X e t) (w : ∀ σ H Q, t' σ H Q → t σ H Q) : PW X e t' := ⟨fun wh pins s σ H Q I q => h.run wh pins s σ H Q I (w σ H Q q)⟩
theorem _root_.L2.PA.weak {X : Cx} {es : List Expr} {t t' : TA} (h : PA X es t) (w : ∀ σ H Q, t' σ H Q → t σ H Q) : PA X es t' := ⟨fun pos pins s σ H Q I q => h.run pos pins s σ H Q I (w σ H Q q)⟩
theorem _root_.L2.PS.weak {X : Cx} {st : Stmt} {t t' : TS} (h : PS X st t) (w : ∀ D σ H, t' D σ H → t D σ H) : PS X st t' := ⟨fun pins s σ H D I q => h.run pins s σ H D I (w D σ H q)⟩
theorem _root_.L2.PSs.weak {X : Cx} {st : List Stmt} {t t' : TS} (h : PSs X st t) (w : ∀ D σ H, t' D σ H → t D σ H) : PSs X st t' := ⟨fun pins s σ H D I q => h.run pins s σ H D I (w D σ H q)⟩
section
variable {X : Cx} {B : Base} {a b c e : Expr} {ta tb tc : DTE} {pos : Pos}
/-! ### names, constants -/
def dVar (i : Nat) : DTE := fun S P => ∃ r, S.ρ[i]? = some (some r) ∧ P S r
theorem de_var {i : Nat} {x : Str} (h : PE X (.Name x pos) (tVar i)) : DE X B (.Name x pos) (dVar i) :=
  h.weak fun σ H Q ⟨S, P, α, F, R, ⟨r, e, p⟩, q⟩ => by
    obtain ⟨v, ev, rv, ir⟩ := R.slot i r e
    exact ⟨v, ev, q S r α F H v p (.refl _ _ _) R ir rv⟩
def dC (d : D) : DTE := fun S P => P S (.fr d)
theorem de_const {v : V} {d : D} (h : PE X e (tC v)) (hd : ∀ K F, Rep K F d v) : DE X B e (dC d) :=
  h.weak fun σ H Q ⟨S, P, α, F, R, p, q⟩ => q S (.fr d) α F H v p (.refl _ _ _) R trivial (hd _ _)
theorem de_int {i : Int} {j : Nat} : DE X B (.Constant (.int i) j pos) (dC (.int i)) := de_const pe_int fun _ _ => rfl
theorem de_bl {i : Bool} {j : Nat} : DE X B (.Constant (.bool i) j pos) (dC (.bl i)) := de_const pe_bl fun _ _ => rfl
theorem de_non {j : Nat} : DE X B (.Constant .none j pos) (dC .non) := de_const pe_non fun _ _ => rfl
theorem de_str {x : Str} {j : Nat} : DE X B (.Constant (.str x) j pos) (dC (.str x)) := de_const pe_str fun _ _ => rfl
/-! ### primitives on values -/
/-- what a two-place primitive does with data -/
abbrev D2 := SV → SV → DTE
def Link2 (X : Cx) (B : Base) (r : R2) (t : D2) : Prop := ∀ x y S P α F σ H v u Q, StR X.K B S α F σ H → RepV X.K F α x v → RepV X.K F α y u → InR S x → InR S y → t x y S P →
  (∀ S' z α' F' H' w, P S' z → Grow S α F S' α' F' → StR X.K B S' α' F' σ H' → InR S' z → RepV X.K F' α' z w → Q w H') → r v u H Q
def dOp (t : D2) (ta tb : DTE) : DTE := fun S P => ta S fun S1 x => tb S1 fun S2 y => t x y S2 P
theorem op_weak {r : R2} {t : D2} (l : Link2 X B r t) : ∀ σ H Q, liftE X.K B (dOp t ta tb) σ H Q → tOp r (liftE X.K B ta) (liftE X.K B tb) σ H Q := by
  rintro σ H Q ⟨S, P, α, F, R, p, q⟩
  refine ⟨S, _, α, F, R, p, fun S1 x α1 F1 H1 v p1 g1 R1 i1 r1 => ?_⟩
  refine ⟨S1, _, α1, F1, R1, p1, fun S2 y α2 F2 H2 u p2 g2 R2 i2 r2 => ?_⟩
  refine l x y S2 P α2 F2 σ H2 v u Q R2 (r1.grow g2 i1) r2 ?_ i2 p2 fun S' z α' F' H' w pz g R' iz rz => q S' z α' F' H' w pz ((g1.trans g2).trans g) R' iz rz
  cases x with
  | fr d => trivial
  | cell k => exact Nat.lt_of_lt_of_le i1 g2.len
theorem de_op {op : Operator} {r : R2} {t : D2} (ho : OpR X (binaryOp op) r) (l : Link2 X B r t) (ha : DE X B a ta) (hb : DE X B b tb) : DE X B (.BinOp a op b pos) (dOp t ta tb) :=
  (pe_op ho ha hb).weak (op_weak l)
theorem de_cmp {op : CmpOp} {r : R2} {t : D2} (ho : OpR X (compareOp op) r) (l : Link2 X B r t) (hm : behindInMarks op b = false) (ha : DE X B a ta) (hb : DE X B b tb) : DE X B (.Compare a [op] [b] pos) (dOp t ta tb) :=
  (pe_cmpR ho ha hb hm).weak (op_weak l)
abbrev D1 := SV → DTE
def Link1 (X : Cx) (B : Base) (r : V → Hp → VK → Prop) (t : D1) : Prop := ∀ x S P α F σ H v Q, StR X.K B S α F σ H → RepV X.K F α x v → InR S x → t x S P →
  (∀ S' z α' F' H' w, P S' z → Grow S α F S' α' F' → StR X.K B S' α' F' σ H' → InR S' z → RepV X.K F' α' z w → Q w H') → r v H Q
def dUn (t : D1) (ta : DTE) : DTE := fun S P => ta S fun S1 x => t x S1 P
theorem un_weak {r : V → Hp → VK → Prop} {t : D1} (l : Link1 X B r t) : ∀ σ H Q, liftE X.K B (dUn t ta) σ H Q → tUn r (liftE X.K B ta) σ H Q := by
  rintro σ H Q ⟨S, P, α, F, R, p, q⟩
  refine ⟨S, _, α, F, R, p, fun S1 x α1 F1 H1 v p1 g1 R1 i1 r1 => ?_⟩
  exact l x S1 P α1 F1 σ H1 v Q R1 r1 i1 p1 fun S' z α' F' H' w pz g R' iz rz => q S' z α' F' H' w pz (g1.trans g) R' iz rz
theorem de_un {op : UnaryOp} {r : V → Hp → VK → Prop} {t : D1} (ho : UnR X (unaryOp op) r) (l : Link1 X B r t) (ha : DE X B a ta) : DE X B (.UnaryOp op a pos) (dUn t ta) :=
  (pe_un ho ha).weak (un_weak l)
/-- flat data -/
def fl : D → Option V
  | .non => some .non
  | .bl b => some (.bl b)
  | .int i => some (.int i)
  | .str x => some (.str x)
  | .ty n => some (.ty n)
  | .ref a => some (.ref a)
  | _ => none
theorem Rep.fl {K : PySem.W.Frag} {F : Hp} {d : D} {v w : V} (h : fl d = some v) (r : Rep K F d w) : w = v := by
  cases d <;> simp only [TD.fl, Option.some.injEq, reduceCtorEq] at h <;> (simp only [Rep] at r; rw [r, ← h])
theorem Rep.of_fl {K : PySem.W.Frag} {F : Hp} {d : D} {v : V} (h : TD.fl d = some v) : Rep K F d v := by
  cases d <;> simp only [TD.fl, Option.some.injEq, reduceCtorEq] at h <;> (simp only [Rep]; exact h.symm)
/-- ints to flat data -/
def dII (C : Int → Int → Prop) (g : Int → Int → D) : D2 := fun x y S P => ∃ i j, x = .fr (.int i) ∧ y = .fr (.int j) ∧ C i j ∧ P S (.fr (g i j))
def dII0 (g : Int → Int → D) : D2 := fun x y S P => ∃ i j, x = .fr (.int i) ∧ y = .fr (.int j) ∧ P S (.fr (g i j))
theorem link_II {C : Int → Int → Prop} {g : Int → Int → V} {g' : Int → Int → D} (hg : ∀ i j, fl (g' i j) = some (g i j)) : Link2 X B (rI C g) (dII C g') := by
  rintro x y S P α F σ H v u Q R rx ry _ _ ⟨i, j, rfl, rfl, c, p⟩ k
  have e1 : v = .int i := rx
  have e2 : u = .int j := ry
  subst e1 e2
  exact ⟨i, j, rfl, rfl, c, k S _ α F H _ p (.refl _ _ _) R trivial (Rep.of_fl (hg i j))⟩
theorem link_II0 {g : Int → Int → V} {g' : Int → Int → D} (hg : ∀ i j, fl (g' i j) = some (g i j)) : Link2 X B (rI0 g) (dII0 g') := by
  rintro x y S P α F σ H v u Q R rx ry _ _ ⟨i, j, rfl, rfl, p⟩ k
  have e1 : v = .int i := rx
  have e2 : u = .int j := ry
  subst e1 e2
  exact ⟨i, j, rfl, rfl, k S _ α F H _ p (.refl _ _ _) R trivial (Rep.of_fl (hg i j))⟩
def dI (g : Int → D) : D1 := fun x S P => ∃ i, x = .fr (.int i) ∧ P S (.fr (g i))
theorem link_U {g : Int → V} {g' : Int → D} (hg : ∀ i, fl (g' i) = some (g i)) : Link1 X B (rU g) (dI g') := by
  rintro x S P α F σ H v Q R rx _ ⟨i, rfl, p⟩ k
  have e1 : v = .int i := rx
  subst e1
  exact ⟨i, rfl, k S _ α F H _ p (.refl _ _ _) R trivial (Rep.of_fl (hg i))⟩
abbrev dAdd : DTE → DTE → DTE := dOp (dII0 fun i j => .int (i + j))
abbrev dSub : DTE → DTE → DTE := dOp (dII0 fun i j => .int (i - j))
abbrev dMul : DTE → DTE → DTE := dOp (dII CMulW fun i j => .int (i * j))
abbrev dDiv : DTE → DTE → DTE := dOp (dII CDiv fun i j => .int (i / j))
abbrev dDivW : DTE → DTE → DTE := dOp (dII CDivW fun i j => .int (i / j))
abbrev dMod : DTE → DTE → DTE := dOp (dII (fun _ j => 0 < j) fun i j => .int (i % j))
abbrev dPow : DTE → DTE → DTE := dOp (dII CPow fun i j => .int (i ^ j.toNat))
abbrev dNeg : DTE → DTE := dUn (dI fun i => .int (-i))
theorem de_add (ha : DE X B a ta) (hb : DE X B b tb) : DE X B (.BinOp a .Add b pos) (dAdd ta tb) := de_op op_add (link_II0 fun _ _ => rfl) ha hb
theorem de_sub (ha : DE X B a ta) (hb : DE X B b tb) : DE X B (.BinOp a .Sub b pos) (dSub ta tb) := de_op op_sub (link_II0 fun _ _ => rfl) ha hb
theorem de_mul (ha : DE X B a ta) (hb : DE X B b tb) : DE X B (.BinOp a .Mult b pos) (dMul ta tb) := de_op op_mulW (link_II fun _ _ => rfl) ha hb
theorem de_div (ha : DE X B a ta) (hb : DE X B b tb) : DE X B (.BinOp a .FloorDiv b pos) (dDiv ta tb) := de_op op_fdiv (link_II fun _ _ => rfl) ha hb
theorem de_divW (ha : DE X B a ta) (hb : DE X B b tb) : DE X B (.BinOp a .FloorDiv b pos) (dDivW ta tb) := de_op op_fdivW (link_II fun _ _ => rfl) ha hb
theorem de_mod (ha : DE X B a ta) (hb : DE X B b tb) : DE X B (.BinOp a .Mod b pos) (dMod ta tb) := de_op op_mod (link_II fun _ _ => rfl) ha hb
theorem de_pow (ha : DE X B a ta) (hb : DE X B b tb) : DE X B (.BinOp a .Pow b pos) (dPow ta tb) := de_op op_pow (link_II fun _ _ => rfl) ha hb
theorem de_neg (ha : DE X B a ta) : DE X B (.UnaryOp .USub a pos) (dNeg ta) := de_un un_neg (link_U fun _ => rfl) ha
abbrev dLt : DTE → DTE → DTE := dOp (dII0 fun i j => .bl (decide (i < j)))
abbrev dLe : DTE → DTE → DTE := dOp (dII0 fun i j => .bl (decide (i ≤ j)))
abbrev dGt : DTE → DTE → DTE := dOp (dII0 fun i j => .bl (decide (j < i)))
abbrev dGe : DTE → DTE → DTE := dOp (dII0 fun i j => .bl (decide (j ≤ i)))
theorem de_lt (ha : DE X B a ta) (hb : DE X B b tb) : DE X B (.Compare a [.Lt] [b] pos) (dLt ta tb) := de_cmp op_lt (link_II0 fun _ _ => rfl) (nomark _) ha hb
theorem de_le (ha : DE X B a ta) (hb : DE X B b tb) : DE X B (.Compare a [.LtE] [b] pos) (dLe ta tb) := de_cmp op_le (link_II0 fun _ _ => rfl) (nomark _) ha hb
theorem de_gt (ha : DE X B a ta) (hb : DE X B b tb) : DE X B (.Compare a [.Gt] [b] pos) (dGt ta tb) := de_cmp op_gt (link_II0 fun _ _ => rfl) (nomark _) ha hb
theorem de_ge (ha : DE X B a ta) (hb : DE X B b tb) : DE X B (.Compare a [.GtE] [b] pos) (dGe ta tb) := de_cmp op_ge (link_II0 fun _ _ => rfl) (nomark _) ha hb
end
end TD
/-! TD2: tests, statements, loops. -/
namespace TD
open PySem PySem.Spec PyProof.Rows L2
section
variable {X : Cx} {B : Base} {a b c e : Expr} {rest : List Expr} {ta tb tc : DTE} {tA tB tC : DTT} {pos : Pos}
/-! ### tests -/
def dB (t : DTE) : DTT := fun S P => t S fun S1 r => ∃ k, r = .fr (.bl k) ∧ P S1 k
theorem liftB {σ : L2.St} {H : Hp} {Q : Bool → Hp → Prop} : liftT X.K B (dB ta) σ H Q → liftE X.K B ta σ H (fun x H' => ∃ k, x = .bl k ∧ Q k H') := by
  rintro ⟨S, P, α, F, R, p, q⟩
  refine ⟨S, _, α, F, R, p, fun S' r α' F' H' v ⟨k, e, pk⟩ g R' _ rv => ?_⟩
  subst e
  exact ⟨k, rv, q S' k α' F' H' pk g R'⟩
theorem dt_val (h : DE X B e ta) (he : ∀ whole, isTrue e X.env whole = (do let v ← whole; standAt e.pos; holding [v] (truthy v)) := by intro _; rfl) : DT X B e (dB ta) :=
  (pt_val h he).weak fun _ _ _ q => liftB q
theorem dt_cmp {op : CmpOp} {r : R2} {t : D2} (ho : OpR X (compareOp op) r) (l : Link2 X B r t) (hm : behindInMarks op b = false) (ha : DE X B a ta) (hb : DE X B b tb) : DT X B (.Compare a [op] [b] pos) (dB (dOp t ta tb)) :=
  (pt_cmpR ho ha hb hm).weak fun _ _ _ q => op_weak l _ _ _ (liftB q)
theorem dt_lt (ha : DE X B a ta) (hb : DE X B b tb) : DT X B (.Compare a [.Lt] [b] pos) (dB (dLt ta tb)) := dt_cmp op_lt (link_II0 fun _ _ => rfl) (nomark _) ha hb
theorem dt_le (ha : DE X B a ta) (hb : DE X B b tb) : DT X B (.Compare a [.LtE] [b] pos) (dB (dLe ta tb)) := dt_cmp op_le (link_II0 fun _ _ => rfl) (nomark _) ha hb
theorem dt_gt (ha : DE X B a ta) (hb : DE X B b tb) : DT X B (.Compare a [.Gt] [b] pos) (dB (dGt ta tb)) := dt_cmp op_gt (link_II0 fun _ _ => rfl) (nomark _) ha hb
theorem dt_ge (ha : DE X B a ta) (hb : DE X B b tb) : DT X B (.Compare a [.GtE] [b] pos) (dB (dGe ta tb)) := dt_cmp op_ge (link_II0 fun _ _ => rfl) (nomark _) ha hb
def dAnd (t u : DTT) : DTT := fun S P => t S fun S1 k => if k = true then u S1 P else P S1 false
def dOr (t u : DTT) : DTT := fun S P => t S fun S1 k => if k = true then P S1 true else u S1 P
def dNot (t : DTT) : DTT := fun S P => t S fun S1 k => P S1 (!k)
theorem dw_and1 (ha : DT X B a tA) : DW X B (.BoolOp .And [a] pos) tA := pw_and1 ha
theorem dw_or1 (ha : DT X B a tA) : DW X B (.BoolOp .Or [a] pos) tA := pw_or1 ha
theorem dw_and (ha : DT X B a tA) (hb : DW X B (.BoolOp .And (b :: rest) pos) tB) : DW X B (.BoolOp .And (a :: b :: rest) pos) (dAnd tA tB) :=
  (pw_and ha hb).weak fun σ H Q ⟨S, P, α, F, R, p, q⟩ => ⟨S, _, α, F, R, p, fun S1 k α1 F1 H1 p1 g1 R1 => by
    cases k with
    | true => rw [if_pos rfl] at p1 ⊢; exact ⟨S1, P, α1, F1, R1, p1, fun S' b α' F' H' pb g R' => q S' b α' F' H' pb (g1.trans g) R'⟩
    | false => rw [if_neg Bool.false_ne_true] at p1 ⊢; exact q S1 false α1 F1 H1 p1 g1 R1⟩
theorem dw_or (ha : DT X B a tA) (hb : DW X B (.BoolOp .Or (b :: rest) pos) tB) : DW X B (.BoolOp .Or (a :: b :: rest) pos) (dOr tA tB) :=
  (pw_or ha hb).weak fun σ H Q ⟨S, P, α, F, R, p, q⟩ => ⟨S, _, α, F, R, p, fun S1 k α1 F1 H1 p1 g1 R1 => by
    cases k with
    | true => rw [if_pos rfl] at p1 ⊢; exact q S1 true α1 F1 H1 p1 g1 R1
    | false => rw [if_neg Bool.false_ne_true] at p1 ⊢; exact ⟨S1, P, α1, F1, R1, p1, fun S' b α' F' H' pb g R' => q S' b α' F' H' pb (g1.trans g) R'⟩⟩
theorem dt_not (ha : DT X B a tA) : DT X B (.UnaryOp .Not a pos) (dNot tA) :=
  (pt_not ha).weak fun σ H Q ⟨S, P, α, F, R, p, q⟩ => ⟨S, _, α, F, R, p, fun S1 k α1 F1 H1 p1 g1 R1 => q S1 (!k) α1 F1 H1 p1 g1 R1⟩
theorem dt_and (h : DW X B (.BoolOp .And rest pos) tA) : DT X B (.BoolOp .And rest pos) tA := PW.pt h
theorem dt_or (h : DW X B (.BoolOp .Or rest pos) tA) : DT X B (.BoolOp .Or rest pos) tA := PW.pt h
/-- as values -/
def dAndV (t u : DTE) : DTE := fun S P => t S fun S1 r => ∃ k, r = .fr (.bl k) ∧ if k = true then u S1 P else P S1 (.fr (.bl false))
def dOrV (t u : DTE) : DTE := fun S P => t S fun S1 r => ∃ k, r = .fr (.bl k) ∧ if k = true then P S1 (.fr (.bl true)) else u S1 P
def dNotV (t : DTE) : DTE := fun S P => t S fun S1 r => ∃ k, r = .fr (.bl k) ∧ P S1 (.fr (.bl (!k)))
theorem de_one {op} (h : DE X B a ta) : DE X B (.BoolOp op [a] pos) ta := pe_one h
theorem de_and (ha : DE X B a ta) (hb : DE X B (.BoolOp .And (b :: rest) pos) tb) : DE X B (.BoolOp .And (a :: b :: rest) pos) (dAndV ta tb) :=
  (pe_and ha hb).weak fun σ H Q ⟨S, P, α, F, R, p, q⟩ => ⟨S, _, α, F, R, p, fun S1 r α1 F1 H1 v ⟨k, e, p1⟩ g1 R1 _ rv => by
    subst e
    refine ⟨k, rv, ?_⟩
    cases k with
    | true => rw [if_pos rfl] at p1 ⊢; exact ⟨S1, P, α1, F1, R1, p1, fun S' b α' F' H' w pb g R' => q S' b α' F' H' w pb (g1.trans g) R'⟩
    | false => rw [if_neg Bool.false_ne_true] at p1 ⊢; exact q S1 _ α1 F1 H1 _ p1 g1 R1 trivial rfl⟩
theorem de_or (ha : DE X B a ta) (hb : DE X B (.BoolOp .Or (b :: rest) pos) tb) : DE X B (.BoolOp .Or (a :: b :: rest) pos) (dOrV ta tb) :=
  (pe_or ha hb).weak fun σ H Q ⟨S, P, α, F, R, p, q⟩ => ⟨S, _, α, F, R, p, fun S1 r α1 F1 H1 v ⟨k, e, p1⟩ g1 R1 _ rv => by
    subst e
    refine ⟨k, rv, ?_⟩
    cases k with
    | true => rw [if_pos rfl] at p1 ⊢; exact q S1 _ α1 F1 H1 _ p1 g1 R1 trivial rfl
    | false => rw [if_neg Bool.false_ne_true] at p1 ⊢; exact ⟨S1, P, α1, F1, R1, p1, fun S' b α' F' H' w pb g R' => q S' b α' F' H' w pb (g1.trans g) R'⟩⟩
theorem de_not (ha : DE X B a ta) : DE X B (.UnaryOp .Not a pos) (dNotV ta) :=
  (pe_not ha).weak fun σ H Q ⟨S, P, α, F, R, p, q⟩ => ⟨S, _, α, F, R, p, fun S1 r α1 F1 H1 v ⟨k, e, p1⟩ g1 R1 _ rv => by
    subst e
    exact ⟨k, rv, q S1 _ α1 F1 H1 _ p1 g1 R1 trivial rfl⟩⟩
def dIf (t : DTT) (u w : DTE) : DTE := fun S P => t S fun S1 k => if k = true then u S1 P else w S1 P
theorem de_ifExp (hc : DT X B c tA) (ha : DE X B a ta) (hb : DE X B b tb) : DE X B (.IfExp c a b pos) (dIf tA ta tb) :=
  (pe_ifExp hc ha hb).weak fun σ H Q ⟨S, P, α, F, R, p, q⟩ => ⟨S, _, α, F, R, p, fun S1 k α1 F1 H1 p1 g1 R1 => by
    cases k with
    | true => rw [if_pos rfl] at p1 ⊢; exact ⟨S1, P, α1, F1, R1, p1, fun S' b α' F' H' w pb g R' => q S' b α' F' H' w pb (g1.trans g) R'⟩
    | false => rw [if_neg Bool.false_ne_true] at p1 ⊢; exact ⟨S1, P, α1, F1, R1, p1, fun S' b α' F' H' w pb g R' => q S' b α' F' H' w pb (g1.trans g) R'⟩⟩
/-- a < b < c -/
def dChain (t t' : D2) (ta tb tc : DTE) : DTE := fun S P => ta S fun S1 x => tb S1 fun S2 y => t x y S2 fun S3 z => ∃ k, z = .fr (.bl k) ∧ if k = true then tc S3 fun S4 w => t' y w S4 P else P S3 (.fr (.bl false))
/-! ### statements -/
variable {st : Stmt} {sts : List Stmt} {t u : DTS}
def dNext : DTS := fun P S => P.nx S
def dSeq (t u : DTS) : DTS := fun P S => t { nx := fun S1 => u P S1, rt := P.rt, bk := P.bk, ct := P.ct } S
theorem dss_nil : DSs X B [] dNext := pss_nil.weak fun D σ H ⟨S, P, α, F, R, p, q1, _⟩ => q1 S α F σ H p (.refl _ _ _) R
theorem dss_cons (h1 : DSt X B st t) (h2 : DSs X B sts u) : DSs X B (st :: sts) (dSeq t u) :=
  (pss_cons h1 h2).weak fun D σ H ⟨S, P, α, F, R, p, q1, q2, q3, q4⟩ => ⟨S, _, α, F, R, p,
    fun S1 α1 F1 σ1 H1 p1 g1 R1 => ⟨S1, P, α1, F1, R1, p1, fun S' α' F' σ' H' p' g R' => q1 S' α' F' σ' H' p' (g1.trans g) R',
      fun S' r α' F' σ' H' v p' g R' => q2 S' r α' F' σ' H' v p' (g1.trans g) R', fun S' α' F' σ' H' p' g R' => q3 S' α' F' σ' H' p' (g1.trans g) R', fun S' α' F' σ' H' p' g R' => q4 S' α' F' σ' H' p' (g1.trans g) R'⟩, q2, q3, q4⟩
theorem dss_one (h : DSt X B st t) : DSs X B [st] t := pss_one h
def dBreak : DTS := fun P S => P.bk S
def dCont : DTS := fun P S => P.ct S
theorem ds_pass : DSt X B (.Pass pos) dNext := ps_pass.weak fun D σ H ⟨S, P, α, F, R, p, q1, _⟩ => q1 S α F σ H p (.refl _ _ _) R
theorem ds_break : DSt X B (.Break pos) dBreak := ps_break.weak fun D σ H ⟨S, P, α, F, R, p, _, _, q3, _⟩ => q3 S α F σ H p (.refl _ _ _) R
theorem ds_continue : DSt X B (.Continue pos) dCont := ps_continue.weak fun D σ H ⟨S, P, α, F, R, p, _, _, _, q4⟩ => q4 S α F σ H p (.refl _ _ _) R
def dDrop (te : DTE) : DTS := fun P S => te S fun S1 _ => P.nx S1
theorem ds_expr (he : DE X B e ta) (hs : swapsWith e none pos.line X.env = pure false := by rfl) : DSt X B (.Expr e pos) (dDrop ta) :=
  (ps_expr he hs).weak fun D σ H ⟨S, P, α, F, R, p, q1, _⟩ => ⟨S, _, α, F, R, p, fun S1 r α1 F1 H1 v p1 g1 R1 _ _ => q1 S1 α1 F1 σ H1 p1 g1 R1⟩
def dRet (te : DTE) : DTS := fun P S => te S P.rt
theorem ds_ret (he : DE X B e ta) : DSt X B (.Return (some e) pos) (dRet ta) :=
  (ps_ret he).weak fun D σ H ⟨S, P, α, F, R, p, _, q2, _⟩ => ⟨S, _, α, F, R, p, fun S1 r α1 F1 H1 v p1 g1 R1 ir rv => q2 S1 r α1 F1 σ H1 v p1 g1 R1 ir rv⟩
def dRetN : DTS := fun P S => P.rt S (.fr .non)
theorem ds_retN : DSt X B (.Return none pos) dRetN := ps_retN.weak fun D σ H ⟨S, P, α, F, R, p, _, q2, _⟩ => q2 S _ α F σ H _ p (.refl _ _ _) R trivial rfl
def dIfS (c : DTT) (t u : DTS) : DTS := fun P S => c S fun S1 k => if k = true then t P S1 else u P S1
theorem ds_if {as bs : List Stmt} (hc : DT X B c tA) (ha : DSs X B as t) (hb : DSs X B bs u) : DSt X B (.If c as bs pos) (dIfS tA t u) :=
  (ps_if hc ha hb).weak fun D σ H ⟨S, P, α, F, R, p, q1, q2, q3, q4⟩ => ⟨S, _, α, F, R, p, fun S1 k α1 F1 H1 p1 g1 R1 => by
    have go : ∀ {w : DTS}, w P S1 → liftS X.K B w D σ H1 := fun {w} pw => ⟨S1, P, α1, F1, R1, pw, fun S' α' F' σ' H' p' g R' => q1 S' α' F' σ' H' p' (g1.trans g) R',
      fun S' r α' F' σ' H' v p' g R' => q2 S' r α' F' σ' H' v p' (g1.trans g) R', fun S' α' F' σ' H' p' g R' => q3 S' α' F' σ' H' p' (g1.trans g) R', fun S' α' F' σ' H' p' g R' => q4 S' α' F' σ' H' p' (g1.trans g) R'⟩
    cases k with
    | true => rw [if_pos rfl] at p1; exact iteT (go p1)
    | false => rw [if_neg Bool.false_ne_true] at p1; exact iteF (go p1)⟩
theorem StR.set {K : PySem.W.Frag} {S : DS} {α : Nat → Addr} {F : Hp} {σ : L2.St} {H : Hp} {r : SV} {v : V} (R : StR K B S α F σ H) (i : Nat) (rv : RepV K F α r v) (ir : InR S r) : StR K B ⟨S.ρ.set i (some r), S.μ⟩ α F (σ.set i (some v)) H := by
  refine ⟨by simp only [List.length_set]; exact R.len, fun j r' e => ?_, R.sub, R.grow, R.new, R.keep, R.dom, R.np, R.cells, R.own, R.pas, R.inj, R.p0, R.pdx⟩
  by_cases h : i = j
  · subst h
    have e' : (S.ρ.set i (some r))[i]? = some (some r') := e
    by_cases hl : i < S.ρ.length
    · rw [List.getElem?_set_self hl] at e'
      cases e'
      exact ⟨v, List.getElem?_set_self (by rw [R.len]; exact hl), rv, ir⟩
    · rw [List.getElem?_eq_none (by simpa using hl)] at e'; cases e'
  · have e' : (S.ρ.set i (some r))[j]? = some (some r') := e
    rw [List.getElem?_set_ne h] at e'
    obtain ⟨w, h1, h2⟩ := R.slot j r' e'
    exact ⟨w, by rw [List.getElem?_set_ne h]; exact h1, h2⟩
theorem StR.unset {K : PySem.W.Frag} {S : DS} {α : Nat → Addr} {F : Hp} {σ : L2.St} {H : Hp} (R : StR K B S α F σ H) (i : Nat) : StR K B ⟨S.ρ.set i none, S.μ⟩ α F (σ.set i none) H := by
  refine ⟨by simp only [List.length_set]; exact R.len, fun j r' e => ?_, R.sub, R.grow, R.new, R.keep, R.dom, R.np, R.cells, R.own, R.pas, R.inj, R.p0, R.pdx⟩
  by_cases h : i = j
  · subst h
    have e' : (S.ρ.set i none)[i]? = some (some r') := e
    by_cases hl : i < S.ρ.length
    · rw [List.getElem?_set_self hl] at e'
      cases e'
    · rw [List.getElem?_eq_none (by simpa using hl)] at e'; cases e'
  · have e' : (S.ρ.set i none)[j]? = some (some r') := e
    rw [List.getElem?_set_ne h] at e'
    obtain ⟨w, h1, h2⟩ := R.slot j r' e'
    exact ⟨w, by rw [List.getElem?_set_ne h]; exact h1, h2⟩
/-- forgetting slots -/
theorem StR.forget {K : PySem.W.Frag} {S : DS} {ρ : List (Option SV)} {α : Nat → Addr} {F : Hp} {σ : L2.St} {H : Hp} (R : StR K B S α F σ H) (hl : ρ.length = S.ρ.length) (h : ∀ (i : Nat) r, ρ[i]? = some (some r) → S.ρ[i]? = some (some r)) : StR K B ⟨ρ, S.μ⟩ α F σ H :=
  ⟨R.len.trans hl.symm, fun i r e => R.slot i r (h i r e), R.sub, R.grow, R.new, R.keep, R.dom, R.np, R.cells, R.own, R.pas, R.inj, R.p0, R.pdx⟩
def setS (S : DS) (i : Nat) (r : SV) : DS := ⟨S.ρ.set i (some r), S.μ⟩
theorem Grow.set {S S' : DS} {α α' : Nat → Addr} {F F' : Hp} {i : Nat} {r : SV} (g : Grow S α F S' α' F') : Grow S α F (setS S' i r) α' F' := ⟨g.sub, g.len, g.al⟩
def dSet (i : Nat) (te : DTE) : DTS := fun P S => te S fun S1 r => P.nx (setS S1 i r)
theorem ds_set {i : Nat} {x : Str} {pos' : Pos} (hN : X.N.Nodup) (he : DE X B e ta) (hi : X.N[i]? = some x := by rfl) (hx : Loc X.env.scope x := by first | exact Or.inl rfl | exact Or.inr rfl) (hs : swapsWith e (some (.Name x pos')) pos.line X.env = pure false := by rfl) (hf : X.fn x = true ∨ X.env.scope.names.lookup x = some .local := by first | exact .inl rfl | exact .inr rfl | assumption) :
    DSt X B (.Assign [.Name x pos'] e pos) (dSet i ta) :=
  (ps_set hN hi hx he hs hf).weak fun D σ H ⟨S, P, α, F, R, p, q1, _⟩ => ⟨S, _, α, F, R, p, fun S1 r α1 F1 H1 v p1 g1 R1 ir rv => q1 _ α1 F1 _ H1 p1 g1.set (R1.set i rv ir)⟩
/-! ### argument lists -/
def aNil : DTA := fun S P => P S []
def aCons (ta : DTE) (tr : DTA) : DTA := fun S P => ta S fun S1 x => tr S1 fun S2 xs => P S2 (x :: xs)
theorem da_nil : DA X B [] aNil := pa_nil.weak fun σ H Q ⟨S, P, α, F, R, p, q⟩ => q S [] α F H [] p (.refl _ _ _) R (fun _ h => by cases h) rfl
variable {es : List Expr} {tr : DTA}
theorem InR.up {S S' : DS} {α α' : Nat → Addr} {F F' : Hp} {r : SV} (g : Grow S α F S' α' F') (h : InR S r) : InR S' r := by
  cases r with
  | fr d => trivial
  | cell k => exact Nat.lt_of_lt_of_le h g.len
theorem da_cons (ha : DE X B e ta) (hr : DA X B es tr) (hs : starEach (e :: es) X.env = (false, eval e X.env) :: starEach es X.env := by rfl) : DA X B (e :: es) (aCons ta tr) :=
  (pa_cons ha hr hs).weak fun σ H Q ⟨S, P, α, F, R, p, q⟩ => ⟨S, _, α, F, R, p, fun S1 x α1 F1 H1 v p1 g1 R1 i1 r1 => ⟨S1, _, α1, F1, R1, p1, fun S2 xs α2 F2 H2 vs p2 g2 R2 i2 r2 =>
    q S2 (x :: xs) α2 F2 H2 (v :: vs) p2 (g1.trans g2) R2 (fun r h => by
      rcases List.mem_cons.mp h with e | h
      · subst e; exact i1.up g2
      · exact i2 r h) ⟨v, vs, rfl, r1.grow g2 i1, r2⟩⟩⟩
/-- a, b = x, y with plain local names -/
def dPar (i j : Nat) (t : DTA) : DTS := fun P S => t S fun S1 rs => ∃ r q, rs = [r, q] ∧ P.nx (setS (setS S1 i r) j q)
theorem ds_par {i j : Nat} {x y : Str} {px py pt : Pos} {kt k2 pt2} {t : DTA} (hN : X.N.Nodup) (ha : DA X B [a, b] t) (hc : X.calm = true := by rfl) (hi : X.N[i]? = some x := by rfl) (hj : X.N[j]? = some y := by rfl) (hij : i ≠ j := by decide)
    (hx : X.env.scope.names.lookup x = some .local := by rfl) (hy : X.env.scope.names.lookup y = some .local := by rfl)
    (hw : swappedStores [.Tuple [.Name x px, .Name y py] kt pt] (.Tuple [a, b] k2 pt2) X.env = pure (some [x, y]) := by rfl)
    (hs : swapsWithSole [.Tuple [.Name x px, .Name y py] kt pt] (.Tuple [a, b] k2 pt2) pos.line X.env = pure false := by rfl) :
    DSt X B (.Assign [.Tuple [.Name x px, .Name y py] kt pt] (.Tuple [a, b] k2 pt2) pos) (dPar i j t) :=
  (ps_par hc hN hi hj hij hx hy ha hw hs).weak fun D σ H ⟨S, P, α, F, R, p, q1, _⟩ => ⟨S, _, α, F, R, p, fun S1 rs α1 F1 H1 vs ⟨r, q, e, p1⟩ g1 R1 ir rv => by
    subst e
    obtain ⟨v, us, e, r1, w, us', e', r2, e''⟩ := rv
    subst e'' e' e
    exact ⟨v, w, rfl, q1 _ α1 F1 _ H1 p1 g1.set.set ((R1.set i r1 (ir r (by simp))).set j r2 (ir q (by simp)))⟩⟩
/-- builtins that are called -/
abbrev DL := List SV → DTE
def LinkL (X : Cx) (B : Base) (r : List V → Hp → VK → Prop) (t : DL) : Prop := ∀ xs S P α F σ H vs Q, StR X.K B S α F σ H → RepVs X.K F α xs vs → (∀ x ∈ xs, InR S x) → t xs S P →
  (∀ S' z α' F' H' w, P S' z → Grow S α F S' α' F' → StR X.K B S' α' F' σ H' → InR S' z → RepV X.K F' α' z w → Q w H') → r vs H Q
def dCB (t : DL) (ta : DTA) : DTE := fun S P => ta S fun S1 xs => t xs S1 P
theorem cb_weak {r : List V → Hp → VK → Prop} {t : DL} {ta : DTA} (l : LinkL X B r t) : ∀ σ H Q, liftE X.K B (dCB t ta) σ H Q → tCB r (liftA X.K B ta) σ H Q := by
  rintro σ H Q ⟨S, P, α, F, R, p, q⟩
  refine ⟨S, _, α, F, R, p, fun S1 xs α1 F1 H1 vs p1 g1 R1 i1 r1 => ?_⟩
  exact l xs S1 P α1 F1 σ H1 vs Q R1 r1 i1 p1 fun S' z α' F' H' w pz g R' iz rz => q S' z α' F' H' w pz (g1.trans g) R' iz rz
theorem de_callB {x : Str} {id : String} {p : Pos} {r : List V → Hp → VK → Prop} {t : DL} (hc : CallR X (.builtin id) r) (l : LinkL X B r t) (hg : Gl X x) (hm : X.mg x = none) (hv : bootBuiltins x = some (.builtin id)) (ha : DA X B (e :: es) tr) (hn : x ≠ "__name__" := by decide) (hdb : (x == ("__debug__" : Str)) = false := by decide)
    (he : starEach (e :: es) X.env = (false, eval e X.env) :: starEach es X.env := by rfl) (hpl : (backTo pos (starEach es X.env)).any (·.1) = false := by rfl) : DE X B (.Call (.Name x p) (e :: es) [] pos) (dCB t tr) :=
  (pe_callB hc hg hm hv ha hn hdb he hpl).weak (cb_weak l)
theorem de_callTy {x : Str} {T : String} {p : Pos} {r : List V → Hp → VK → Prop} {t : DL} (hc : CallR X (.type T) r) (l : LinkL X B r t) (hg : Gl X x) (hm : X.mg x = none) (hv : bootBuiltins x = some (.type T)) (ha : DA X B (e :: es) tr) (hn : x ≠ "__name__" := by decide) (hdb : (x == ("__debug__" : Str)) = false := by decide)
    (he : starEach (e :: es) X.env = (false, eval e X.env) :: starEach es X.env := by rfl) (hpl : (backTo pos (starEach es X.env)).any (·.1) = false := by rfl) : DE X B (.Call (.Name x p) (e :: es) [] pos) (dCB t tr) :=
  (pe_callTy hc hg hm hv ha hn hdb he hpl).weak (cb_weak l)
end
end TD
/-! TD3: promises of defs by data, calls. -/
namespace TD
open PySem PySem.Spec PyProof.Rows L2
/-- an argument: data, or an owned object that is handed in -/
inductive Arg where
  | fr (d : D) | own (c : CC)
/-- an exception: its class, its fields -/
structure Exn where
  C : Addr
  ns : List Str := []
  ds : List D := []
/-- a promise by data: the arguments; what holds behind, of the handed-in objects and the value; the same of an exception -/
abbrev DSp := List Arg → (List CC → Arg → Prop) → (List CC → Exn → Prop) → Prop
def ArgsR (K : PySem.W.Frag) (F H : Hp) : List Arg → List V → List Addr → Prop
  | [], vs, al => vs = [] ∧ al = []
  | .fr d :: as, vs, al => ∃ v r, vs = v :: r ∧ Rep K F d v ∧ ArgsR K F H as r al
  | .own c :: as, vs, al => ∃ a r l, vs = .ref a :: r ∧ al = a :: l ∧ CellR K F H a c ∧ F a = none ∧ ArgsR K F H as r l
def OutsR (K : PySem.W.Frag) (F H : Hp) : List CC → List Addr → Prop
  | [], al => al = []
  | c :: cs, al => ∃ a l, al = a :: l ∧ CellR K F H a c ∧ F a = none ∧ OutsR K F H cs l
structure ExtF (F H : Hp) (al : List Addr) (F' H' : Hp) : Prop where
  sub : Same F F'
  inn : Same F' H'
  keep : ∀ b o, H b = some o → b ∉ al → H' b = some o
  dom : ∀ b o, H b = some o → ∃ o', H' b = some o'
  new : ∀ p o, F' p = some o → F p = some o ∨ H p = none
  dxs : ∀ a, a ∈ al → ∀ C dx fs, H' a = some (.ins C dx fs) → ∃ C0 fs0, H a = some (.ins C0 dx fs0)
/-- an exception of the class e.C with its fields -/
def ExR (K : PySem.W.Frag) (F H : Hp) (cls : Value) (d : Option Addr) (e : Exn) : Prop :=
  cls = .ref e.C ∧ ((e.ns = [] ∧ e.ds = [] ∧ d = none) ∨ ∃ dd vs fs, d = some dd ∧ H dd = some (.xd fs) ∧ RepL K F e.ds vs ∧ e.ns.length = e.ds.length ∧ ∀ f, fs.lookup f = (e.ns.zip vs).lookup f)
/-- a result: data, or a new owned object -/
def ResR (K : PySem.W.Frag) (H F' H' : Hp) : Arg → V → Prop
  | .fr d, v => Rep K F' d v
  | .own c, v => ∃ a, v = .ref a ∧ CellR K F' H' a c ∧ F' a = none ∧ H a = none ∧ ∀ C dx fs, H' a = some (.ins C dx fs) → H dx = none
def spD (K : PySem.W.Frag) (dsp : DSp) : Sp := fun vs H Q E => ∃ args F al Pc Xc, Same F H ∧ ArgsR K F H args vs al ∧ al.Nodup ∧ dsp args Pc Xc ∧
  (∀ outs r F' H' v, Pc outs r → ExtF F H al F' H' → OutsR K F' H' outs al → ResR K H F' H' r v → Q v H') ∧
  (∀ outs x F' H' cls d, Xc outs x → ExtF F H al F' H' → OutsR K F' H' outs al → ExR K F' H' cls d x → E cls d H')
abbrev PXT := DS → Exn → Prop
/-- what is wanted of an exception, by data -/
def wOf (K : PySem.W.Frag) (B : Base) (PX : PXT) : WX := fun cls d σ H => ∃ S e α F, PX S e ∧ StR K B S α F σ H ∧ ExR K F H cls d e
theorem takesF {X : Cx} {B : Base} : Takes X (wOf X.K B fun _ _ => False) := takes0.imp fun _ _ _ _ ⟨_, _, _, _, h, _⟩ => h
/-! ### a def's entry -/
def startD : List Arg → Nat → List (Option SV)
  | [], _ => []
  | .fr d :: as, k => some (.fr d) :: startD as k
  | .own _ :: as, k => some (.cell k) :: startD as (k + 1)
def cellsD : List Arg → List (Option CC)
  | [] => []
  | .fr _ :: as => cellsD as
  | .own c :: as => some c :: cellsD as
def S0 (n : Nat) (args : List Arg) : DS := ⟨startD args 0 ++ List.replicate (n - args.length) none, cellsD args⟩
theorem startD_length : ∀ (as : List Arg) (k : Nat), (startD as k).length = as.length
  | [], _ => rfl
  | .fr d :: as, k => by simp only [startD, List.length_cons, startD_length as k]
  | .own c :: as, k => by simp only [startD, List.length_cons, startD_length as (k + 1)]
section
variable {K : PySem.W.Frag} {F H : Hp}
theorem ArgsR.length : ∀ {as : List Arg} {vs : List V} {al : List Addr}, ArgsR K F H as vs al → vs.length = as.length ∧ (cellsD as).length = al.length
  | [], _, _, h => by obtain ⟨rfl, rfl⟩ := h; exact ⟨rfl, rfl⟩
  | .fr d :: as, _, _, h => by
    obtain ⟨v, r, rfl, _, h3⟩ := h
    obtain ⟨h1, h2⟩ := ArgsR.length h3
    exact ⟨by simp [h1], h2⟩
  | .own c :: as, _, _, h => by
    obtain ⟨a, r, l, rfl, rfl, _, _, h3⟩ := h
    obtain ⟨h1, h2⟩ := ArgsR.length h3
    exact ⟨by simp [h1], by simp [cellsD, h2]⟩
theorem ArgsR.slots : ∀ {as : List Arg} {vs : List V} {pre al : List Addr} {α : Nat → Addr}, ArgsR K F H as vs al → (∀ j, j < (pre ++ al).length → α j = (pre ++ al).getD j 0) →
    ∀ (i : Nat) r, (startD as pre.length)[i]? = some (some r) → ∃ v, vs[i]? = some v ∧ RepV K F α r v ∧ (∀ k, r = .cell k → k < (pre ++ al).length)
  | [], _, _, _, _, _, _, i, r, e => by simp [startD] at e
  | .fr d :: as, _, pre, al, α, h, ha, 0, r, e => by
    obtain ⟨v, rr, rfl, h2, h3⟩ := h
    simp [startD] at e; subst e
    exact ⟨v, rfl, h2, fun k z => by cases z⟩
  | .fr d :: as, _, pre, al, α, h, ha, i + 1, r, e => by
    obtain ⟨v, rr, rfl, h2, h3⟩ := h
    obtain ⟨w, h4, h5⟩ := ArgsR.slots (pre := pre) h3 ha i r (by simpa [startD] using e)
    exact ⟨w, by simpa using h4, h5⟩
  | .own c :: as, _, pre, al, α, h, ha, 0, r, e => by
    obtain ⟨a, rr, l, rfl, rfl, _, _, h3⟩ := h
    simp [startD] at e; subst e
    refine ⟨_, rfl, ?_, fun k z => by cases z; simp⟩
    show V.ref a = V.ref (α pre.length)
    rw [ha pre.length (by simp)]
    simp
  | .own c :: as, _, pre, al, α, h, ha, i + 1, r, e => by
    obtain ⟨a, rr, l, rfl, rfl, _, _, h3⟩ := h
    obtain ⟨w, h4, h5, h6⟩ := ArgsR.slots (pre := pre ++ [a]) (α := α) h3 (by simpa using ha) i r (by simpa [startD] using e)
    exact ⟨w, by simpa using h4, h5, by simpa using h6⟩
theorem ArgsR.cell : ∀ {as : List Arg} {vs : List V} {al : List Addr}, ArgsR K F H as vs al → ∀ (k : Nat) c, (cellsD as)[k]? = some (some c) → ∃ a, al[k]? = some a ∧ CellR K F H a c ∧ F a = none
  | [], _, _, _, k, c, e => by simp [cellsD] at e
  | .fr d :: as, _, _, h, k, c, e => by
    obtain ⟨v, rr, rfl, h2, h3⟩ := h
    exact ArgsR.cell h3 k c e
  | .own c' :: as, _, _, h, 0, c, e => by
    obtain ⟨a, rr, l, rfl, rfl, h1, h2, h3⟩ := h
    simp [cellsD] at e; subst e
    exact ⟨a, rfl, h1, h2⟩
  | .own c' :: as, _, _, h, k + 1, c, e => by
    obtain ⟨a, rr, l, rfl, rfl, h1, h2, h3⟩ := h
    obtain ⟨a', h4, h5⟩ := ArgsR.cell h3 k c (by simpa [cellsD] using e)
    exact ⟨a', by simpa using h4, h5⟩
theorem ArgsR.there : ∀ {as : List Arg} {vs : List V} {al : List Addr}, ArgsR K F H as vs al → ∀ a ∈ al, ∃ o, H a = some o
  | [], _, _, h, a, ha => by obtain ⟨_, rfl⟩ := h; cases ha
  | .fr d :: as, _, _, h, a, ha => by
    obtain ⟨v, rr, _, _, h3⟩ := h
    exact ArgsR.there h3 a ha
  | .own c :: as, _, _, h, a, ha => by
    obtain ⟨b, rr, l, _, rfl, h1, _, h3⟩ := h
    rcases List.mem_cons.mp ha with e | ha
    · subst e
      obtain ⟨o, h, _⟩ := h1.there
      exact ⟨o, h⟩
    · exact ArgsR.there h3 a ha
theorem getD_inj {al : List Addr} (nd : al.Nodup) {i j : Nat} {a b : Addr} (hi : al[i]? = some a) (hj : al[j]? = some b) (e : a = b) : i = j := by
  subst e
  obtain ⟨h1, e1⟩ := List.getElem?_eq_some_iff.mp hi
  obtain ⟨h2, e2⟩ := List.getElem?_eq_some_iff.mp hj
  exact (List.getElem_inj nd).mp (e1.trans e2.symm)
theorem StR.start {as : List Arg} {vs : List V} {al : List Addr} {N : List Str} (hs : Same F H) (h : ArgsR K F H as vs al) (nd : al.Nodup) : StR K ⟨F, H, al⟩ (S0 N.length as) (fun k => al.getD k 0) F (start N vs) H := by
  obtain ⟨l1, l2⟩ := h.length
  have at_ : ∀ {k : Nat} {a : Addr}, al[k]? = some a → al.getD k 0 = a := fun {k a} e => by rw [List.getD_eq_getElem?_getD, e]; rfl
  refine ⟨?_, fun i r e => ?_, hs, .refl _, fun p o e => .inl e, fun b o e _ => e, fun b o e => ⟨o, e⟩, Nat.le_of_eq l2.symm, fun k c e => ?_, fun k c e hk => ?_, fun k a e => at_ e, fun i j ci cj e1 e2 q => ?_, fun a ha => ?_, fun a _ C dx fs e => ⟨C, fs, e⟩⟩
  · unfold L2.start S0
    simp only [List.length_append, List.length_map, List.length_replicate, startD_length, l1]
  · have hi : i < as.length := by
      by_cases hi : i < as.length
      · exact hi
      · unfold S0 at e
        simp only at e
        rw [List.getElem?_append_right (by rw [startD_length]; omega), List.getElem?_replicate] at e
        split at e <;> simp at e
    unfold S0 at e
    simp only at e
    rw [List.getElem?_append_left (by rw [startD_length]; exact hi)] at e
    obtain ⟨v, h1, h2, h3⟩ := h.slots (pre := []) (α := fun k => al.getD k 0) (fun j _ => rfl) i r e
    refine ⟨v, ?_, h2, ?_⟩
    rotate_left
    · cases r with
      | fr d => trivial
      | cell k =>
        show k < (cellsD as).length
        rw [l2]
        exact h3 k rfl
    unfold L2.start
    rw [List.getElem?_append_left (by rw [List.length_map, l1]; exact hi), List.getElem?_map, h1]
    rfl
  · obtain ⟨a, h1, h2, h3⟩ := h.cell k c e
    rw [at_ h1]
    exact ⟨h3, h2⟩
  · have : k < (cellsD as).length := (List.getElem?_eq_some_iff.mp e).1
    have hk' : al.length ≤ k := hk
    omega
  · obtain ⟨a, h1, _⟩ := h.cell i ci e1
    obtain ⟨b, h2, _⟩ := h.cell j cj e2
    rw [at_ h1, at_ h2] at q
    exact getD_inj nd h1 h2 q
  · exact h.there a ha
/-- what stands at the handed-in objects behind -/
def outsOf (n : Nat) (S : DS) (outs : List CC) : Prop := S.μ.take n = outs.map some ∧ outs.length = n
theorem OutsR.of {K : PySem.W.Frag} {F H : Hp} : ∀ {outs : List CC} {al : List Addr}, outs.length = al.length → (∀ (k : Nat) c a, outs[k]? = some c → al[k]? = some a → CellR K F H a c ∧ F a = none) → OutsR K F H outs al
  | [], [], _, _ => rfl
  | [], _ :: _, h, _ => by simp at h
  | _ :: _, [], h, _ => by simp at h
  | c :: cs, a :: al, h, q => by
    obtain ⟨h1, h2⟩ := q 0 c a rfl rfl
    exact ⟨a, al, rfl, h1, h2, OutsR.of (by simpa using h) fun k c' a' e1 e2 => q (k + 1) c' a' (by simpa using e1) (by simpa using e2)⟩
theorem OutsR.get {K : PySem.W.Frag} {F H : Hp} : ∀ {outs : List CC} {al : List Addr}, OutsR K F H outs al → outs.length = al.length ∧ ∀ (k : Nat) c a, outs[k]? = some c → al[k]? = some a → CellR K F H a c ∧ F a = none
  | [], _, h => by have h' : _ = _ := h; subst h'; exact ⟨rfl, fun k c a e => by simp at e⟩
  | c :: cs, _, h => by
    obtain ⟨a, l, rfl, h1, h2, h3⟩ := h
    obtain ⟨h4, h5⟩ := OutsR.get h3
    refine ⟨by simp [h4], fun k c' a' e1 e2 => ?_⟩
    cases k with
    | zero => simp at e1 e2; subst e1 e2; exact ⟨h1, h2⟩
    | succ k => exact h5 k c' a' (by simpa using e1) (by simpa using e2)
theorem StR.ends {B : Base} {S : DS} {α : Nat → Addr} {F : Hp} {σ : L2.St} {H : Hp} {outs : List CC} (R : StR K B S α F σ H) (h : outsOf B.P0.length S outs) : ExtF B.F0 B.H0 B.P0 F H ∧ OutsR K F H outs B.P0 := by
  refine ⟨⟨R.grow, R.sub, R.keep, R.dom, R.new, R.pdx⟩, .of h.2 fun k c a e1 e2 => ?_⟩
  have hk : k < B.P0.length := (List.getElem?_eq_some_iff.mp e2).1
  have e3 : S.μ[k]? = some (some c) := by
    have : (S.μ.take B.P0.length)[k]? = some (some c) := by rw [h.1, List.getElem?_map, e1]; rfl
    rwa [List.getElem?_take_of_lt hk] at this
  have := R.cells k c e3
  rw [R.pas k a e2] at this
  exact ⟨this.2, this.1⟩
end
/-! ### THE RULE for a def -/
def resS (n : Nat) (S : DS) (r : SV) : Arg → Prop
  | .fr d => r = .fr d
  | .own c => ∃ k, r = .cell k ∧ n ≤ k ∧ S.μ[k]? = some (some c)
def rtOf (n : Nat) (Pc : List CC → Arg → Prop) : DS → SV → Prop := fun S r => ∃ outs x, resS n S r x ∧ outsOf n S outs ∧ Pc outs x
def pxOf (n : Nat) (Xc : List CC → Exn → Prop) : PXT := fun S e => ∃ outs, outsOf n S outs ∧ Xc outs e
def endsOf (n : Nat) (Pc : List CC → Arg → Prop) : DEnds := { nx := fun S => rtOf n Pc S (.fr .non), rt := rtOf n Pc }
section
variable {P : Program} {w : World} {K : PySem.W.Frag} {mg : Str → Option Value} {base : Heap}
theorem okD {x qual : Str} {st : Stmt} {f : Addr} {fd : FuncData} {N ps : List Str} {k : Nat} {dsp : DSp} (np : Nat) (Fu : Fun K x qual st f fd) (S : FnScope N ps (defScope st)) (len : ∀ as Pc Xc, dsp as Pc Xc → as.length = ps.length ∧ (cellsD as).length = np)
    (h : ∀ (cdv : Value) (A : Around) (outer : List Env) (s : Shared) (H : Hp) (E : XK) (B : Base) (as : List Arg) (Pc : List CC → Arg → Prop) (Xc : List CC → Exn → Prop), dsp as Pc Xc → B.P0.length = np → Room k (A.deeper (envOfC qual (defScope st) s.heap.objs.size f cdv)) →
        Takes (cxOf (L2.CX P w) P w K mg base N qual (defScope st) f cdv A outer s H E) (wOf K B (pxOf np Xc)) →
        ∃ td, DSs (cxOf (L2.CX P w) P w K mg base N qual (defScope st) f cdv A outer s H E) B (defBody st) td ∧ td (endsOf np Pc) (S0 N.length as)) :
    FnOk P w K mg base (L2.CX P w) (k + 1) f fd ps (spD K dsp) := by
  refine Fu.okX S (fun vs H Q E ⟨as, F, al, Pc, Xc, _, a, _, d, _⟩ => by rw [a.length.1]; exact (len as Pc Xc d).1) fun cdv A outer s H vs Q E hr ⟨as, F, al, Pc, Xc, hs, a, nd, d, q1, q2⟩ => ?_
  have l2 : np = al.length := (len as Pc Xc d).2.symm.trans a.length.2
  have tk : Takes (cxOf (L2.CX P w) P w K mg base N qual (defScope st) f cdv A outer s H E) (wOf K ⟨F, H, al⟩ (pxOf np Xc)) :=
    (takes_of rfl rfl rfl rfl).imp fun cls dd σ' H' ⟨S', x, α', F', ⟨outs, ho, hx⟩, R', ex⟩ => by
      obtain ⟨e1, e2⟩ := R'.ends (outs := outs) (by rw [l2] at ho; exact ho)
      exact q2 outs x F' H' cls dd hx e1 e2 ex
  obtain ⟨td, h1, h2⟩ := h cdv A outer s H E ⟨F, H, al⟩ as Pc Xc d l2.symm hr tk
  refine ⟨_, h1, S0 N.length as, _, fun k => al.getD k 0, F, StR.start hs a nd, h2, fun S' α' F' σ' H' ⟨outs, x, e, ho, hp⟩ g R' => ?_, fun S' r α' F' σ' H' v ⟨outs, x, e, ho, hp⟩ g R' _ rv => ?_, fun _ _ _ _ _ z => z.elim, fun _ _ _ _ _ z => z.elim⟩
  · obtain ⟨e1, e2⟩ := R'.ends (outs := outs) (by rw [l2] at ho; exact ho)
    cases x with
    | fr d => cases e; exact q1 outs (.fr .non) F' H' .non hp e1 e2 rfl
    | own c => obtain ⟨k, e, _⟩ := e; cases e
  · obtain ⟨e1, e2⟩ := R'.ends (outs := outs) (by rw [l2] at ho; exact ho)
    cases x with
    | fr d => cases e; exact q1 outs (.fr d) F' H' v hp e1 e2 rv
    | own c =>
      obtain ⟨k, er, hk, hc⟩ := e
      subst er
      have ev : v = .ref (α' k) := rv
      subst ev
      obtain ⟨c1, c2⟩ := R'.cells k c hc
      obtain ⟨c3, c4⟩ := R'.own k c hc (by show al.length ≤ k; omega)
      exact q1 outs (.own c) F' H' _ hp e1 e2 ⟨_, rfl, c2, c1, c3, c4⟩
end
/-! ### calls -/
def argsOf (μ : List (Option CC)) : List SV → Option (List Arg × List Nat)
  | [] => some ([], [])
  | .fr d :: rs => match argsOf μ rs with
    | some (as, ks) => some (.fr d :: as, ks)
    | none => none
  | .cell k :: rs => match μ[k]? with
    | some (some c) => (match argsOf μ rs with
      | some (as, ks) => some (.own c :: as, k :: ks)
      | none => none)
    | _ => none
def putC (μ : List (Option CC)) : List Nat → List CC → List (Option CC)
  | k :: ks, c :: cs => putC (μ.set k (some c)) ks cs
  | _, _ => μ
theorem putC_length : ∀ (ks : List Nat) (cs : List CC) (μ : List (Option CC)), (putC μ ks cs).length = μ.length
  | [], _, _ => rfl
  | _ :: _, [], _ => rfl
  | k :: ks, c :: cs, μ => by unfold putC; rw [putC_length ks cs, List.length_set]
theorem putC_out : ∀ {ks : List Nat} {cs : List CC} {μ : List (Option CC)} {j : Nat}, j ∉ ks → (putC μ ks cs)[j]? = μ[j]?
  | [], _, _, _, _ => rfl
  | _ :: _, [], _, _, _ => rfl
  | k :: ks, c :: cs, μ, j, h => by
    simp only [List.mem_cons, not_or] at h
    unfold putC
    rw [putC_out h.2, List.getElem?_set_ne (Ne.symm h.1)]
theorem putC_in : ∀ {ks : List Nat} {cs : List CC} {μ : List (Option CC)} {i j : Nat}, ks.Nodup → ks.length = cs.length → (∀ k ∈ ks, k < μ.length) → ks[i]? = some j → ∃ c, cs[i]? = some c ∧ (putC μ ks cs)[j]? = some (some c)
  | [], _, _, _, _, _, _, _, e => by simp at e
  | _ :: _, [], _, _, _, _, h, _, _ => by simp at h
  | k :: ks, c :: cs, μ, 0, j, nd, hl, hm, e => by
    simp at e; subst e
    refine ⟨c, rfl, ?_⟩
    unfold putC
    rw [putC_out (List.nodup_cons.mp nd).1, List.getElem?_set_self (hm _ List.mem_cons_self)]
  | k :: ks, c :: cs, μ, i + 1, j, nd, hl, hm, e => by
    obtain ⟨c', h1, h2⟩ := putC_in (cs := cs) (μ := μ.set k (some c)) (i := i) (j := j) (List.nodup_cons.mp nd).2 (by simpa using hl) (fun q hq => by rw [List.length_set]; exact hm q (List.mem_cons_of_mem _ hq)) (by simpa using e)
    exact ⟨c', by simpa using h1, h2⟩
theorem argsOf_live {μ : List (Option CC)} : ∀ {rs : List SV} {as : List Arg} {ks : List Nat}, argsOf μ rs = some (as, ks) → ∀ k ∈ ks, ∃ c, μ[k]? = some (some c)
  | [], _, _, h, k, hk => by simp [argsOf] at h; rw [h.2] at hk; cases hk
  | .fr d :: rs, as, ks, h, k, hk => by
    unfold argsOf at h
    split at h
    · rename_i as' ks' e
      simp at h
      exact argsOf_live e k (by rw [h.2]; exact hk)
    · cases h
  | .cell j :: rs, as, ks, h, k, hk => by
    unfold argsOf at h
    split at h
    · rename_i c ec
      split at h
      · rename_i as' ks' e
        simp at h
        rw [← h.2] at hk
        rcases List.mem_cons.mp hk with z | z
        · subst z; exact ⟨c, ec⟩
        · exact argsOf_live e k z
      · cases h
    · cases h
theorem argsOf_R {K : PySem.W.Frag} {B : Base} {S : DS} {α : Nat → Addr} {F : Hp} {σ : L2.St} {H : Hp} (R : StR K B S α F σ H) : ∀ {rs : List SV} {vs : List V} {as : List Arg} {ks : List Nat}, argsOf S.μ rs = some (as, ks) → RepVs K F α rs vs → ArgsR K F H as vs (ks.map α)
  | [], _, _, _, h, r => by
    simp [argsOf] at h
    obtain ⟨rfl, rfl⟩ := h
    exact ⟨r, rfl⟩
  | .fr d :: rs, _, as, ks, h, r => by
    obtain ⟨v, us, rfl, r1, r2⟩ := r
    unfold argsOf at h
    split at h
    · rename_i as' ks' e
      simp at h
      obtain ⟨rfl, rfl⟩ := h
      exact ⟨v, us, rfl, r1, argsOf_R R e r2⟩
    · cases h
  | .cell j :: rs, _, as, ks, h, r => by
    obtain ⟨v, us, rfl, r1, r2⟩ := r
    unfold argsOf at h
    split at h
    · rename_i c ec
      split at h
      · rename_i as' ks' e
        simp at h
        obtain ⟨rfl, rfl⟩ := h
        have e1 : v = .ref (α j) := r1
        subst e1
        obtain ⟨c1, c2⟩ := R.cells j c ec
        exact ⟨α j, us, ks'.map α, rfl, rfl, c2, c1, argsOf_R R e r2⟩
      · cases h
    · cases h
/-- what stands behind a call -/
def gotD (ρ : List (Option SV)) (μ : List (Option CC)) (P : DS → SV → Prop) : Arg → Prop
  | .fr d => P ⟨ρ, μ⟩ (.fr d)
  | .own c => P ⟨ρ, μ ++ [some c]⟩ (.cell μ.length)
def callD (dsp : DSp) (PX : PXT) : DL := fun rs S P => ∃ as ks, argsOf S.μ rs = some (as, ks) ∧ ks.Nodup ∧
  dsp as (fun outs x => gotD S.ρ (putC S.μ ks outs) P x) (fun outs x => PX ⟨S.ρ, putC S.μ ks outs⟩ x)
theorem nodup_map {K : PySem.W.Frag} {B : Base} {S : DS} {α : Nat → Addr} {F : Hp} {σ : L2.St} {H : Hp} (R : StR K B S α F σ H) : ∀ {ks : List Nat}, ks.Nodup → (∀ k ∈ ks, ∃ c, S.μ[k]? = some (some c)) → (ks.map α).Nodup
  | [], _, _ => List.nodup_nil
  | k :: ks, nd, h => by
    rw [List.map_cons]
    refine List.nodup_cons.mpr ⟨fun hm => ?_, nodup_map R (List.nodup_cons.mp nd).2 fun q hq => h q (List.mem_cons_of_mem _ hq)⟩
    obtain ⟨j, hj, e⟩ := List.mem_map.mp hm
    obtain ⟨c, hc⟩ := h k List.mem_cons_self
    obtain ⟨c', hc'⟩ := h j (List.mem_cons_of_mem _ hj)
    have := R.inj j k c' c hc' hc e
    subst this
    exact (List.nodup_cons.mp nd).1 hj
theorem StR.call {K : PySem.W.Frag} {B : Base} {S : DS} {α : Nat → Addr} {F F' : Hp} {σ : L2.St} {H H' : Hp} {ks : List Nat} {outs : List CC} (R : StR K B S α F σ H) (nd : ks.Nodup) (hl : ∀ k ∈ ks, ∃ c, S.μ[k]? = some (some c))
    (x : ExtF F H (ks.map α) F' H') (o : OutsR K F' H' outs (ks.map α)) : StR K B ⟨S.ρ, putC S.μ ks outs⟩ α F' σ H' := by
  obtain ⟨ol, og⟩ := o.get
  have ol' : ks.length = outs.length := by rw [ol, List.length_map]
  have hlt : ∀ k ∈ ks, k < S.μ.length := fun k hk => by obtain ⟨c, e⟩ := hl k hk; exact (List.getElem?_eq_some_iff.mp e).1
  -- a cell of the later state
  have key : ∀ (k : Nat) (c : CC), (putC S.μ ks outs)[k]? = some (some c) → (k ∈ ks ∧ CellR K F' H' (α k) c ∧ F' (α k) = none) ∨ (k ∉ ks ∧ S.μ[k]? = some (some c)) := fun k c e => by
    by_cases hk : k ∈ ks
    · obtain ⟨i, hi⟩ := List.getElem?_of_mem hk
      obtain ⟨c', h1, h2⟩ := putC_in (cs := outs) (μ := S.μ) nd ol' hlt hi
      rw [e] at h2; cases h2
      have := og i c (α k) h1 (by rw [List.getElem?_map, hi]; rfl)
      exact .inl ⟨hk, this.1, this.2⟩
    · rw [putC_out hk] at e
      exact .inr ⟨hk, e⟩
  have live : ∀ (k : Nat) (c : CC), (putC S.μ ks outs)[k]? = some (some c) → ∃ c0, S.μ[k]? = some (some c0) := fun k c e => by
    rcases key k c e with ⟨hk, _⟩ | ⟨_, e⟩
    · exact hl k hk
    · exact ⟨c, e⟩
  have out : ∀ (k : Nat) c, S.μ[k]? = some (some c) → k ∉ ks → α k ∉ ks.map α := fun k c e hk hm => by
    obtain ⟨j, hj, q⟩ := List.mem_map.mp hm
    obtain ⟨c', hc'⟩ := hl j hj
    have := R.inj j k c' c hc' e q
    subst this
    exact hk hj
  refine ⟨R.len, fun i r e => ?_, x.inn, R.grow.trans x.sub, fun p o e => ?_, fun b o e hb => ?_, fun b o e => ?_, by show _ ≤ (putC S.μ ks outs).length; rw [putC_length]; exact R.np, fun k c e => ?_, fun k c e hk => ?_, R.pas, fun i j ci cj e1 e2 q => ?_, R.p0, fun a ha C dx fs e => ?_⟩
  · obtain ⟨v, h1, h2, h3⟩ := R.slot i r e
    refine ⟨v, h1, ?_, ?_⟩
    · cases r with
      | fr d => exact Rep.mono x.sub d v h2
      | cell k => exact h2
    · cases r with
      | fr d => trivial
      | cell k =>
        show k < (putC S.μ ks outs).length
        rw [putC_length]
        exact h3
  · rcases x.new p o e with z | z
    · exact R.new p o z
    · right
      cases q : B.H0 p with
      | none => rfl
      | some u =>
        obtain ⟨o', h⟩ := R.dom p u q
        rw [z] at h; cases h
  · refine x.keep b o (R.keep b o e hb) fun hm => ?_
    obtain ⟨j, hj, q⟩ := List.mem_map.mp hm
    obtain ⟨c', hc'⟩ := hl j hj
    by_cases hp : j < B.P0.length
    · have := R.pas j _ (List.getElem?_eq_getElem hp)
      rw [this] at q
      exact hb (by rw [← q]; exact List.getElem_mem hp)
    · have := (R.own j c' hc' (by omega)).1
      rw [q, e] at this; cases this
  · obtain ⟨o', h⟩ := R.dom b o e
    exact x.dom b o' h
  · rcases key k c e with ⟨hk, h1, h2⟩ | ⟨hk, e⟩
    · exact ⟨h2, h1⟩
    · obtain ⟨c1, c2⟩ := R.cells k c e
      have ho := out k c e hk
      refine ⟨?_, c2.stay x.sub fun b ob hb hq => x.keep b ob hb ?_⟩
      · cases q : F' (α k) with
        | none => rfl
        | some u =>
          rcases x.new _ _ q with z | z
          · rw [c1] at z; cases z
          · obtain ⟨ob, hb, _⟩ := c2.there
            rw [z] at hb; cases hb
      · rcases hq with rfl | hq
        · exact ho
        · intro hm
          obtain ⟨j, hj, z⟩ := List.mem_map.mp hm
          obtain ⟨c', hc'⟩ := hl j hj
          obtain ⟨ob', hb', mu⟩ := (R.cells j c' hc').2.there
          rw [z, hb] at hb'; cases hb'
          exact hq mu
  · obtain ⟨c0, e0⟩ := live k c e
    obtain ⟨h1, h2⟩ := R.own k c0 e0 hk
    refine ⟨h1, fun C dx fs q => ?_⟩
    by_cases hm : k ∈ ks
    · obtain ⟨C0, fs0, z⟩ := x.dxs (α k) (List.mem_map_of_mem hm) C dx fs q
      exact h2 C0 dx fs0 z
    · obtain ⟨ob, hb, _⟩ := (R.cells k c0 e0).2.there
      have := x.keep _ _ hb (out k c0 e0 hm)
      rw [q] at this; cases this
      exact h2 C dx fs hb
  · obtain ⟨ci', h1⟩ := live i ci e1
    obtain ⟨cj', h2⟩ := live j cj e2
    exact R.inj i j ci' cj' h1 h2 q
  · by_cases hm : a ∈ ks.map α
    · obtain ⟨C0, fs0, z⟩ := x.dxs a hm C dx fs e
      exact R.pdx a ha C0 dx fs0 z
    · obtain ⟨u, q⟩ := R.p0 a ha
      obtain ⟨o', h⟩ := R.dom a u q
      have h' := x.keep a o' h hm
      rw [e] at h'; cases h'
      exact R.pdx a ha C dx fs h
/-- a new object that a call has made -/
theorem StR.adopt {K : PySem.W.Frag} {B : Base} {S0 S : DS} {α0 α : Nat → Addr} {F0 F : Hp} {σ : L2.St} {H0 H : Hp} {a : Addr} {c : CC} (R0 : StR K B S0 α0 F0 σ H0) (R : StR K B S α F σ H) (ha : H0 a = none) (hd : ∀ C dx fs, H a = some (.ins C dx fs) → H0 dx = none) (hF : F a = none) (hc : CellR K F H a c)
    (lv : ∀ (k : Nat) (c : CC), S.μ[k]? = some (some c) → ∃ o, H0 (α k) = some o) : StR K B ⟨S.ρ, S.μ ++ [some c]⟩ (fun k => if k = S.μ.length then a else α k) F σ H := by
  have hB : ∀ {q : Addr}, H0 q = none → B.H0 q = none := fun {q} hq => by
    cases z : B.H0 q with
    | none => rfl
    | some w =>
      obtain ⟨o', ho⟩ := R0.dom q w z
      rw [hq] at ho; cases ho
  have old : ∀ (k : Nat) (c' : CC), (S.μ ++ [some c])[k]? = some (some c') → (k = S.μ.length ∧ c' = c) ∨ (k ≠ S.μ.length ∧ S.μ[k]? = some (some c')) := fun k c' h => by
    by_cases hk : k < S.μ.length
    · rw [List.getElem?_append_left hk] at h
      exact .inr ⟨by omega, h⟩
    · by_cases hk2 : k = S.μ.length
      · subst hk2
        simp at h
        exact .inl ⟨rfl, h.symm⟩
      · rw [List.getElem?_eq_none (by simp; omega)] at h; cases h
  refine ⟨R.len, fun i r e => ?_, R.sub, R.grow, R.new, R.keep, R.dom, by show _ ≤ (S.μ ++ [some c]).length; simp; have := R.np; omega, fun k c' h => ?_, fun k c' h hk => ?_, fun k a' h => ?_, fun i j ci cj h1 h2 hq => ?_, R.p0, R.pdx⟩
  · obtain ⟨v, h1, h2, h3⟩ := R.slot i r e
    refine ⟨v, h1, ?_, ?_⟩
    · cases r with
      | fr d => exact h2
      | cell k =>
        have h3' : k < S.μ.length := h3
        show v = .ref (if k = S.μ.length then a else α k)
        rw [if_neg (by omega)]; exact h2
    · cases r with
      | fr d => trivial
      | cell k =>
        have h3' : k < S.μ.length := h3
        show k < (S.μ ++ [some c]).length
        simp; omega
  · rcases old k c' h with ⟨rfl, rfl⟩ | ⟨hk, h⟩
    · simp only [if_pos]; exact ⟨hF, hc⟩
    · simp only [if_neg hk]; exact R.cells k c' h
  · rcases old k c' h with ⟨rfl, rfl⟩ | ⟨hk', h⟩
    · simp only [if_pos]
      exact ⟨hB ha, fun C dx fs q => hB (hd C dx fs q)⟩
    · simp only [if_neg hk']; exact R.own k c' h hk
  · have hk : k < B.P0.length := (List.getElem?_eq_some_iff.mp h).1
    have := R.np
    simp only [if_neg (show k ≠ S.μ.length by omega)]
    exact R.pas k a' h
  · rcases old i ci h1 with ⟨e1, _⟩ | ⟨hi, k1⟩
    · rcases old j cj h2 with ⟨e2, _⟩ | ⟨hj, k2⟩
      · exact e1.trans e2.symm
      · simp only [if_pos e1, if_neg hj] at hq
        obtain ⟨ob, hob⟩ := lv j cj k2
        rw [← hq, ha] at hob; cases hob
    · rcases old j cj h2 with ⟨e2, _⟩ | ⟨hj, k2⟩
      · simp only [if_pos e2, if_neg hi] at hq
        obtain ⟨ob, hob⟩ := lv i ci k1
        rw [hq, ha] at hob; cases hob
      · simp only [if_neg hi, if_neg hj] at hq
        exact R.inj i j ci cj k1 k2 hq
theorem putC_live {ks : List Nat} {cs : List CC} {μ : List (Option CC)} (hl : ∀ k ∈ ks, ∃ c, μ[k]? = some (some c)) {k : Nat} {c : CC} (e : (putC μ ks cs)[k]? = some (some c)) : ∃ c0, μ[k]? = some (some c0) := by
  by_cases hk : k ∈ ks
  · exact hl k hk
  · rw [putC_out hk] at e; exact ⟨c, e⟩
section
variable {X : Cx} {B : Base} {e : Expr} {es : List Expr} {tr : DTA} {pos p : Pos} {x : Str} {k : Nat} {f : Addr} {fd : FuncData} {ps : List Str} {dsp : DSp} {PX : PXT}
theorem call_core {S1 : DS} {α1 : Nat → Addr} {F1 : Hp} {σ : L2.St} {H1 : Hp} {rs : List SV} {vs : List V} {P : DS → SV → Prop} {Q : VK} (R1 : StR X.K B S1 α1 F1 σ H1) (r1 : RepVs X.K F1 α1 rs vs) (p1 : callD dsp PX rs S1 P)
    (q : ∀ S' r α' F' H' v, P S' r → Grow S1 α1 F1 S' α' F' → StR X.K B S' α' F' σ H' → InR S' r → RepV X.K F' α' r v → Q v H') : spD X.K dsp vs H1 Q (WE (wOf X.K B PX) σ) := by
  obtain ⟨as, ks, ea, nd, p1⟩ := p1
  have hl := argsOf_live ea
  refine ⟨as, F1, ks.map α1, _, _, R1.sub, argsOf_R R1 ea r1, nodup_map R1 nd hl, p1, fun outs d F' H' v pd xt ot rv => ?_, fun outs y F' H' cls dd px xt ot ex => ?_⟩
  · have R2 := R1.call nd hl xt ot
    have g2 : Grow S1 α1 F1 ⟨S1.ρ, putC S1.μ ks outs⟩ α1 F' := ⟨xt.sub, by show _ ≤ (putC S1.μ ks outs).length; rw [putC_length]; exact Nat.le_refl _, fun _ _ => rfl⟩
    cases d with
    | fr d => exact q _ (.fr d) α1 F' H' v pd g2 R2 trivial rv
    | own c =>
      obtain ⟨a, rfl, hc, hF, ha, hd⟩ := rv
      have R3 := R1.adopt R2 ha hd hF hc fun k c' e => by
        obtain ⟨c0, e0⟩ := putC_live hl e
        obtain ⟨o, ho, _⟩ := (R1.cells k c0 e0).2.there
        exact ⟨o, ho⟩
      have hlen : (putC S1.μ ks outs).length = S1.μ.length := putC_length _ _ _
      refine q _ _ _ _ _ _ pd ⟨xt.sub, by show _ ≤ (putC S1.μ ks outs ++ [some c]).length; simp [hlen], fun k hk => if_neg (by rw [hlen]; omega)⟩ R3 (by show (putC S1.μ ks outs).length < (putC S1.μ ks outs ++ [some c]).length; simp) (by show V.ref a = V.ref (if _ then _ else _); rw [if_pos rfl])
  · exact ⟨_, y, α1, F', px, R1.call nd hl xt ot, ex⟩
theorem call_weak {ta : DTA} : ∀ σ H Q, liftE X.K B (dCB (callD dsp PX) ta) σ H Q → tCallS (spD X.K dsp) (WE (wOf X.K B PX)) (liftA X.K B ta) σ H Q := by
  rintro σ H Q ⟨S, P, α, F, R, p, q⟩
  exact ⟨S, _, α, F, R, p, fun S1 rs α1 F1 H1 vs p1 g1 R1 i1 r1 => call_core R1 r1 p1 fun S' r α' F' H' v p g => q S' r α' F' H' v p (g1.trans g)⟩
/-- f(e, ..), f a def of the module -/
theorem de_call (Fo : FnOk X.prog X.w X.K X.mg X.base (L2.CX X.prog X.w) k f fd ps (spD X.K dsp)) (hr : Room k X.A) (hm : X.mg x = some (.ref f)) (hk : PySem.W.keepIn X.K (.ref f) = true) (hb : Binds X.K fd ps []) (tk : Takes X (wOf X.K B PX)) (hg : Gl X x)
    (ha : DA X B (e :: es) tr) (hdb : (x == ("__debug__" : Str)) = false := by decide) (he : starEach (e :: es) X.env = (false, eval e X.env) :: starEach es X.env := by rfl) (hpl : (backTo pos (starEach es X.env)).any (·.1) = false := by rfl) :
    DE X B (.Call (.Name x p) (e :: es) [] pos) (dCB (callD dsp PX) tr) :=
  (pe_callS Fo hr hg hm hk hb (fun σ => passAt tk σ) ha hdb he hpl).weak call_weak
end
end TD
/-! TD4: while, what is walked, for, comprehensions. -/
namespace TD
open PySem PySem.Spec PyProof.Rows L2
section
variable {X : Cx} {B : Base} {a b c e : Expr} {ta tb : DTE} {tA : DTT} {t : DTS} {pos : Pos}
/-! ### while -/
def dWhile (c : DTT) (tb : DTS) : DTS := fun P S => ∃ W : Nat → DS → Prop, (∃ m, W m S) ∧ ∀ m S1, W m S1 →
  c S1 fun S2 k => if k = true then tb { nx := fun S3 => ∃ m', m' < m ∧ W m' S3, ct := fun S3 => ∃ m', m' < m ∧ W m' S3, rt := P.rt, bk := P.nx } S2 else P.nx S2
theorem ds_while {body : List Stmt} (hp : PassesOwn (model X.prog X.w) X.A X.env X.xe) (hc : DT X B c tA) (hb : DSs X B body t) : DSt X B (.While c body [] pos) (dWhile tA t) :=
  (ps_while hp hc hb).weak fun D σ H ⟨S, P, α, F, R, ⟨W, ⟨m0, w0⟩, turn⟩, q1, q2, q3, q4⟩ => by
    refine ⟨fun m σ' H' => ∃ S' α' F', W m S' ∧ Grow S α F S' α' F' ∧ StR X.K B S' α' F' σ' H', ⟨m0, S, α, F, w0, .refl _ _ _, R⟩, ?_⟩
    rintro m σ1 H1 ⟨S1, α1, F1, w1, g1, R1⟩
    refine ⟨S1, _, α1, F1, R1, turn m S1 w1, fun S2 k α2 F2 H2 p2 g2 R2 => ?_⟩
    cases k with
    | false => rw [if_neg Bool.false_ne_true] at p2; exact iteF (q1 S2 α2 F2 σ1 H2 p2 (g1.trans g2) R2)
    | true =>
      rw [if_pos rfl] at p2
      refine iteT ⟨fun σ' H' => ∃ S3 α3 F3, (∃ m', m' < m ∧ W m' S3) ∧ Grow S α F S3 α3 F3 ∧ StR X.K B S3 α3 F3 σ' H', fun σ' H' ⟨S3, α3, F3, ⟨m', hm, w3⟩, g3, R3⟩ => ⟨m', hm, S3, α3, F3, w3, g3, R3⟩, S2, _, α2, F2, R2, p2, ?_, ?_, ?_, ?_⟩
      · exact fun S3 α3 F3 σ3 H3 p3 g3 R3 => ⟨S3, α3, F3, p3, (g1.trans g2).trans g3, R3⟩
      · exact fun S3 r α3 F3 σ3 H3 v p3 g3 R3 => q2 S3 r α3 F3 σ3 H3 v p3 ((g1.trans g2).trans g3) R3
      · exact fun S3 α3 F3 σ3 H3 p3 g3 R3 => q1 S3 α3 F3 σ3 H3 p3 ((g1.trans g2).trans g3) R3
      · exact fun S3 α3 F3 σ3 H3 p3 g3 R3 => ⟨S3, α3, F3, p3, (g1.trans g2).trans g3, R3⟩
/-! ### what is walked -/
/-- a new frozen object -/
theorem StR.newF {S : DS} {α : Nat → Addr} {F : Hp} {σ : L2.St} {H : Hp} {p : Addr} {o : HO} (R : StR X.K B S α F σ H) (hp : H p = none) : StR X.K B S α (upd F p o) σ (upd H p o) ∧ Same F (upd F p o) := by
  have hF : F p = none := R.sub.free hp
  have sm : Same F (upd F p o) := fun b u h => by rw [upd_ne (ne_of_none h hF)]; exact h
  have hb : ∀ b u, H b = some u → upd H p o b = some u := fun b u h => by rw [upd_ne (ne_of_none h hp)]; exact h
  refine ⟨⟨R.len, fun i r e => ?_, fun b u h => ?_, R.grow.trans sm, fun q u h => ?_, fun b u h hn => hb b u (R.keep b u h hn), fun b u h => ?_, R.np, fun k c h => ?_, fun k c h hk => ?_, R.pas, R.inj, R.p0, fun a ha C dx fs h => ?_⟩, sm⟩
  · obtain ⟨v, h1, h2, h3⟩ := R.slot i r e
    refine ⟨v, h1, ?_, h3⟩
    cases r with
    | fr d => exact Rep.mono sm d v h2
    | cell k => exact h2
  · by_cases hh : b = p
    · subst hh; rw [upd_same] at h ⊢; exact h
    · rw [upd_ne hh] at h ⊢; exact R.sub b u h
  · by_cases hh : q = p
    · subst hh
      right
      cases z : B.H0 q with
      | none => rfl
      | some w =>
        obtain ⟨o', ho⟩ := R.dom q w z
        rw [hp] at ho; cases ho
    · rw [upd_ne hh] at h; exact R.new q u h
  · obtain ⟨o', ho⟩ := R.dom b u h
    exact ⟨o', hb b o' ho⟩
  · obtain ⟨h1, h2⟩ := R.cells k c h
    obtain ⟨ob, hob, _⟩ := h2.there
    have hk : α k ≠ p := ne_of_none hob hp
    exact ⟨by rw [upd_ne hk]; exact h1, h2.stay sm fun b u z _ => hb b u z⟩
  · obtain ⟨h1, h2⟩ := R.own k c h hk
    refine ⟨h1, fun C dx fs q => h2 C dx fs ?_⟩
    obtain ⟨ob, hob, _⟩ := (R.cells k c h).2.there
    rw [upd_ne (ne_of_none hob hp)] at q
    exact q
  · obtain ⟨w, hw⟩ := R.p0 a ha
    obtain ⟨o', ho⟩ := R.dom a w hw
    rw [upd_ne (ne_of_none ho hp)] at h
    exact R.pdx a ha C dx fs h
/-- an iterator that yields the data ds one after another -/
structure Iter (K : PySem.W.Frag) (J : It) (ds : List D) (F0 : Hp) : Prop where
  go : ∀ i F H, i < ds.length → Same F0 F → Same F H → J.go i H
  stop : ∀ F H, Same F0 F → Same F H → J.stop ds.length H
  yld : ∀ i F H x H' d, ds[i]? = some d → Same F0 F → Same F H → J.yld i H x H' → (H' = H ∧ Rep K F d x) ∨ (∃ p xs es, H p = none ∧ H' = upd H p (.tup xs) ∧ d = .wtup es ∧ x = .ref p ∧ RepL K F es xs)
abbrev DTI := DS → (DS → List D → Prop) → Prop
def liftI (K : PySem.W.Frag) (B : Base) (ti : DTI) : TI := fun σ H R => ∃ S P α F, StR K B S α F σ H ∧ ti S P ∧
  ∀ S' ds α' F' H' J, P S' ds → Grow S α F S' α' F' → StR K B S' α' F' σ H' → Iter K J ds F' → R J H'
abbrev DI (X : Cx) (B : Base) (tg iter : Expr) (ti : DTI) : Prop := PI X tg iter (liftI X.K B ti)
theorem _root_.L2.PI.weak {tg iter : Expr} {w w' : TI} (h : PI X tg iter w) (k : ∀ σ H R, w' σ H R → w σ H R) : PI X tg iter w' := ⟨fun pins s σ H R I q => h.run pins s σ H R I (k σ H R q)⟩
def iSeqL (td : DTE) : DTI := fun S P => td S fun S1 r => ∃ ds, r = .fr (.lst ds) ∧ P S1 ds
def iSeqT (td : DTE) : DTI := fun S P => td S fun S1 r => ∃ ds, r = .fr (.tup ds) ∧ P S1 ds
theorem iter_list' {K : PySem.W.Frag} {a : Addr} {F0 : Hp} {ds : List D} {vs : List V} (hs : SqL K F0 a vs) (r : RepL K F0 ds vs) : Iter K (Itl K a) ds F0 where
  go := fun i F H hi h1 h2 => ⟨vs, vs[i]'(by rw [r.length]; exact hi), Same.seq h2 (Same.seq h1 hs), List.getElem?_eq_getElem _⟩
  stop := fun F H h1 h2 => ⟨vs, Same.seq h2 (Same.seq h1 hs), Nat.le_of_eq r.length⟩
  yld := fun i F H x H' d hd h1 h2 ⟨e, y⟩ => by
    obtain ⟨v, hv, rv⟩ := r.get hd
    have := y vs (Same.seq h2 (Same.seq h1 hs))
    rw [hv] at this; cases this
    exact .inl ⟨e, Rep.mono h1 d _ rv⟩
theorem iter_tup {K : PySem.W.Frag} {a : Addr} {F0 : Hp} {ds : List D} {vs : List V} (hs : SqT K F0 a vs) (r : RepL K F0 ds vs) : Iter K (Itt K a) ds F0 where
  go := fun i F H hi h1 h2 => ⟨vs, vs[i]'(by rw [r.length]; exact hi), Same.sqt h2 (Same.sqt h1 hs), List.getElem?_eq_getElem _⟩
  stop := fun F H h1 h2 => ⟨vs, Same.sqt h2 (Same.sqt h1 hs), Nat.le_of_eq r.length⟩
  yld := fun i F H x H' d hd h1 h2 ⟨e, y⟩ => by
    obtain ⟨v, hv, rv⟩ := r.get hd
    have := y vs (Same.sqt h2 (Same.sqt h1 hs))
    rw [hv] at this; cases this
    exact .inl ⟨e, Rep.mono h1 d _ rv⟩
theorem di_list {tg : Expr} (h : DE X B e ta) : DI X B tg e (iSeqL ta) :=
  (pi_list h).weak fun σ H R ⟨S, P, α, F, R0, p, q⟩ => ⟨S, _, α, F, R0, p, fun S1 r α1 F1 H1 v ⟨ds, er, p1⟩ g1 R1 _ rv => by
    subst er
    obtain ⟨a, vs, rfl, hs, rl⟩ := rv
    exact ⟨a, rfl, ⟨vs, .of (R1.sub _ _ hs)⟩, q S1 ds α1 F1 H1 _ p1 g1 R1 (iter_list' (.of hs) rl)⟩⟩
theorem sqt_frz {K : PySem.W.Frag} {F : Hp} {a : Addr} {vs : List V} {o : Obj} (h : F a = some (.frz o (.tup vs))) : SqT K F a vs := .inl (.inr ⟨o, h⟩)
theorem di_tup {tg : Expr} (h : DE X B e ta) : DI X B tg e (iSeqT ta) :=
  (pi_tup h).weak fun σ H R ⟨S, P, α, F, R0, p, q⟩ => ⟨S, _, α, F, R0, p, fun S1 r α1 F1 H1 v ⟨ds, er, p1⟩ g1 R1 _ rv => by
    subst er
    obtain ⟨a, vs, o, rfl, hs, _, rl⟩ := rv
    exact ⟨a, rfl, ⟨vs, sqt_frz (R1.sub _ _ hs)⟩, q S1 ds α1 F1 H1 _ p1 g1 R1 (iter_tup (sqt_frz hs) rl)⟩⟩
def rngD (lo : Int) (n : Nat) : List D := (List.range n).map fun i => .int (lo + (i : Nat))
theorem rngD_length (lo : Int) (n : Nat) : (rngD lo n).length = n := by simp [rngD]
theorem rngD_get {lo : Int} {n i : Nat} {d : D} (h : (rngD lo n)[i]? = some d) : i < n ∧ d = .int (lo + (i : Nat)) := by
  unfold rngD at h
  rw [List.getElem?_map] at h
  cases e : (List.range n)[i]? with
  | none => rw [e] at h; cases h
  | some j =>
    rw [e] at h
    obtain ⟨h1, h2⟩ := List.getElem?_eq_some_iff.mp e
    simp at h1 h2
    subst h2
    cases h
    exact ⟨h1, rfl⟩
theorem iter_rng {K : PySem.W.Frag} {lo : Int} {n : Nat} {F0 : Hp} : Iter K (Itr lo n) (rngD lo n) F0 where
  go := fun i F H hi _ _ => by rw [rngD_length] at hi; exact hi
  stop := fun F H _ _ => by show n ≤ (rngD lo n).length; rw [rngD_length]; exact Nat.le_refl _
  yld := fun i F H x H' d hd _ _ ⟨e, y⟩ => by
    obtain ⟨_, rfl⟩ := rngD_get hd
    exact .inl ⟨e, y⟩
def iRange1 (tr : DTA) : DTI := fun S P => tr S fun S1 rs => ∃ j : Int, rs = [.fr (.int j)] ∧ -(2 ^ 62) ≤ j ∧ j < 2 ^ 62 ∧ P S1 (rngD 0 j.toNat)
def iRange2 (tr : DTA) : DTI := fun S P => tr S fun S1 rs => ∃ i j : Int, rs = [.fr (.int i), .fr (.int j)] ∧ (-(2 ^ 62) ≤ i ∧ i < 2 ^ 62 ∧ -(2 ^ 62) ≤ j ∧ j < 2 ^ 62) ∧ P S1 (rngD i (j - i).toNat)
theorem di_range1 {tg : Expr} {tr : DTA} {p : Pos} (hm : X.mg "range" = none) (ha : DA X B [a] tr) (hg : Gl X "range" := by rfl) (hs : starEach [a] X.env = [(false, eval a X.env)] := by rfl) : DI X B tg (.Call (.Name "range" p) [a] [] pos) (iRange1 tr) :=
  (pi_range1 hg hm ha hs).weak fun σ H R ⟨S, P, α, F, R0, p, q⟩ => ⟨S, _, α, F, R0, p, fun S1 rs α1 F1 H1 vs ⟨j, er, h1, h2, p1⟩ g1 R1 _ rv => by
    subst er
    obtain ⟨v, us, rfl, r1, rfl⟩ := rv
    cases (show v = .int j from r1)
    exact ⟨j, rfl, h1, h2, q S1 _ α1 F1 H1 _ p1 g1 R1 iter_rng⟩⟩
theorem di_range2 {tg : Expr} {tr : DTA} {p : Pos} (hm : X.mg "range" = none) (ha : DA X B [a, b] tr) (hg : Gl X "range" := by rfl) (hs : starEach [a, b] X.env = [(false, eval a X.env), (false, eval b X.env)] := by rfl) (hs2 : starEach [b] X.env = [(false, eval b X.env)] := by rfl) :
    DI X B tg (.Call (.Name "range" p) [a, b] [] pos) (iRange2 tr) :=
  (pi_range2 hg hm ha hs hs2).weak fun σ H R ⟨S, P, α, F, R0, p, q⟩ => ⟨S, _, α, F, R0, p, fun S1 rs α1 F1 H1 vs ⟨i, j, er, h1, p1⟩ g1 R1 _ rv => by
    subst er
    obtain ⟨v, us, rfl, r1, w, ws, rfl, r2, rfl⟩ := rv
    cases (show v = .int i from r1)
    cases (show w = .int j from r2)
    exact ⟨i, j, rfl, h1, q S1 _ α1 F1 H1 _ p1 g1 R1 iter_rng⟩⟩
/-- pairs -/
def zipD (xs ys : List D) : List D := (xs.zip ys).map fun p => .wtup [p.1, p.2]
theorem zipD_length (xs ys : List D) : (zipD xs ys).length = min xs.length ys.length := by simp [zipD]
theorem zipD_get {xs ys : List D} {i : Nat} {d : D} (h : (zipD xs ys)[i]? = some d) : ∃ x y, xs[i]? = some x ∧ ys[i]? = some y ∧ d = .wtup [x, y] := by
  unfold zipD at h
  rw [List.getElem?_map] at h
  cases e : (xs.zip ys)[i]? with
  | none => rw [e] at h; cases h
  | some q =>
    rw [e] at h
    rw [List.getElem?_zip_eq_some] at e
    cases h
    exact ⟨_, _, e.1, e.2, rfl⟩
theorem iter_zip {K : PySem.W.Frag} {a b : Addr} {F0 : Hp} {ds es : List D} {vs ws : List V} (h1 : SqL K F0 a vs) (r1 : RepL K F0 ds vs) (h2 : SqL K F0 b ws) (r2 : RepL K F0 es ws) : Iter K (Itz K a b) (zipD ds es) F0 where
  go := fun i F H hi k1 k2 => by
    rw [zipD_length] at hi
    exact ⟨vs, ws, vs[i]'(by rw [r1.length]; omega), ws[i]'(by rw [r2.length]; omega), Same.seq k2 (Same.seq k1 h1), Same.seq k2 (Same.seq k1 h2), List.getElem?_eq_getElem _, List.getElem?_eq_getElem _⟩
  stop := fun F H k1 k2 => ⟨vs, ws, Same.seq k2 (Same.seq k1 h1), Same.seq k2 (Same.seq k1 h2), by rw [zipD_length, r1.length, r2.length]; omega⟩
  yld := fun i F H x H' d hd k1 k2 ⟨T, u, v, e, hT, eH, y1, y2⟩ => by
    obtain ⟨d1, d2, e1, e2, rfl⟩ := zipD_get hd
    obtain ⟨u', hu, ru⟩ := r1.get e1
    obtain ⟨v', hv, rv⟩ := r2.get e2
    have q1 := y1 vs (Same.seq k2 (Same.seq k1 h1))
    have q2 := y2 ws (Same.seq k2 (Same.seq k1 h2))
    rw [hu] at q1; cases q1
    rw [hv] at q2; cases q2
    exact .inr ⟨T, _, [d1, d2], hT, eH, rfl, e, .cons (Rep.mono k1 _ _ ru) (.one (Rep.mono k1 _ _ rv))⟩
theorem iter_zipT {K : PySem.W.Frag} {a b : Addr} {F0 : Hp} {ds es : List D} {vs ws : List V} (h1 : SqT K F0 a vs) (r1 : RepL K F0 ds vs) (h2 : SqT K F0 b ws) (r2 : RepL K F0 es ws) : Iter K (RZ.ItzT K a b) (zipD ds es) F0 where
  go := fun i F H hi k1 k2 => by
    rw [zipD_length] at hi
    exact ⟨vs, ws, vs[i]'(by rw [r1.length]; omega), ws[i]'(by rw [r2.length]; omega), Same.sqt k2 (Same.sqt k1 h1), Same.sqt k2 (Same.sqt k1 h2), List.getElem?_eq_getElem _, List.getElem?_eq_getElem _⟩
  stop := fun F H k1 k2 => ⟨vs, ws, Same.sqt k2 (Same.sqt k1 h1), Same.sqt k2 (Same.sqt k1 h2), by rw [zipD_length, r1.length, r2.length]; omega⟩
  yld := fun i F H x H' d hd k1 k2 ⟨T, u, v, e, hT, eH, y1, y2⟩ => by
    obtain ⟨d1, d2, e1, e2, rfl⟩ := zipD_get hd
    obtain ⟨u', hu, ru⟩ := r1.get e1
    obtain ⟨v', hv, rv⟩ := r2.get e2
    have q1 := y1 vs (Same.sqt k2 (Same.sqt k1 h1))
    have q2 := y2 ws (Same.sqt k2 (Same.sqt k1 h2))
    rw [hu] at q1; cases q1
    rw [hv] at q2; cases q2
    exact .inr ⟨T, _, [d1, d2], hT, eH, rfl, e, .cons (Rep.mono k1 _ _ ru) (.one (Rep.mono k1 _ _ rv))⟩
def iZipD (tr : DTA) : DTI := fun S P => tr S fun S1 rs => ∃ xs ys, (rs = [.fr (.lst xs), .fr (.lst ys)] ∨ rs = [.fr (.tup xs), .fr (.tup ys)]) ∧ P S1 (zipD xs ys)
theorem di_zip {tr : DTA} {p tpos : Pos} {elts : List Expr} {kk : Nat} (hm : X.mg "zip" = none) (ha : DA X B [a, b] tr) (hg : Gl X "zip" := by rfl)
    (hs : starEach [a, b] X.env = (false, eval a X.env) :: starEach [b] X.env := by rfl) (hpl : (backTo pos (starEach [b] X.env)).any (·.1) = false := by rfl) :
    DI X B (.Tuple elts kk tpos) (.Call (.Name "zip" p) [a, b] [] pos) (iZipD tr) :=
  (RZ.pi_zipA hg hm ha hs hpl).weak fun σ H R ⟨S, P, α, F, R0, p, q⟩ => ⟨S, _, α, F, R0, p, fun S1 rs α1 F1 H1 vs ⟨xs, ys, er, p1⟩ g1 R1 _ rv => by
    rcases er with er | er
    · subst er
      obtain ⟨v, us, rfl, r1, w, ws, rfl, r2, rfl⟩ := rv
      obtain ⟨a1, v1, rfl, s1, l1⟩ := r1
      obtain ⟨a2, v2, rfl, s2, l2⟩ := r2
      exact ⟨a1, a2, v1, v2, rfl, .inl ⟨.of (R1.sub _ _ s1), .of (R1.sub _ _ s2), q S1 _ α1 F1 H1 _ p1 g1 R1 (iter_zip (.of s1) l1 (.of s2) l2)⟩⟩
    · subst er
      obtain ⟨v, us, rfl, r1, w, ws, rfl, r2, rfl⟩ := rv
      obtain ⟨a1, v1, _, rfl, s1, _, l1⟩ := r1
      obtain ⟨a2, v2, _, rfl, s2, _, l2⟩ := r2
      exact ⟨a1, a2, v1, v2, rfl, .inr ⟨sqt_frz (R1.sub _ _ s1), sqt_frz (R1.sub _ _ s2), q S1 _ α1 F1 H1 _ p1 g1 R1 (iter_zipT (sqt_frz s1) l1 (sqt_frz s2) l2)⟩⟩⟩
/-! ### targets -/
abbrev DTG := D → DS → (DS → Prop) → Prop
abbrev DTGs := List D → DS → (DS → Prop) → Prop
/-- only the slots ns are stored -/
def SlotsBut (ns : List Nat) (σ σ' : L2.St) : Prop := σ'.length = σ.length ∧ ∀ j, j ∉ ns → σ'[j]? = σ[j]?
def liftG (K : PySem.W.Frag) (B : Base) (ns : List Nat) (g : DTG) : TG := fun v σ H Q => ∃ S d P α F, StR K B S α F σ H ∧ Rep K F d v ∧ g d S P ∧
  ∀ S' α' F' σ' H', P S' → Grow S α F S' α' F' → StR K B S' α' F' σ' H' → SlotsBut ns σ σ' → Q σ' H'
def liftGs (K : PySem.W.Frag) (B : Base) (ns : List Nat) (g : DTGs) : TGs := fun vs σ H Q => ∃ S ds P α F, StR K B S α F σ H ∧ RepL K F ds vs ∧ g ds S P ∧
  ∀ S' α' F' σ' H', P S' → Grow S α F S' α' F' → StR K B S' α' F' σ' H' → SlotsBut ns σ σ' → Q σ' H'
abbrev DG (X : Cx) (B : Base) (tg : Expr) (ns : List Nat) (g : DTG) : Prop := PG X tg (liftG X.K B ns g)
abbrev DGs (X : Cx) (B : Base) (tg : List Expr) (ns : List Nat) (g : DTGs) : Prop := PGs X tg (liftGs X.K B ns g)
theorem _root_.L2.PG.weak {tg : Expr} {w w' : TG} (h : PG X tg w) (k : ∀ v σ H Q, w' v σ H Q → w v σ H Q) : PG X tg w' := ⟨fun pins s σ H v u Q I r q => h.run pins s σ H v u Q I r (k v σ H Q q)⟩
theorem _root_.L2.PGs.weak {tg : List Expr} {w w' : TGs} (h : PGs X tg w) (k : ∀ v σ H Q, w' v σ H Q → w v σ H Q) : PGs X tg w' := ⟨fun pins s σ H v u Q I r q => h.run pins s σ H v u Q I r (k v σ H Q q)⟩
def gNm (i : Nat) : DTG := fun d S P => P (setS S i (.fr d))
theorem dg_name (i : Nat) {x : Str} (hN : X.N.Nodup) (hi : X.N[i]? = some x := by rfl) (hx : Loc X.env.scope x := by first | exact Or.inl rfl | exact Or.inr rfl) (hf : X.fn x = true ∨ X.env.scope.names.lookup x = some .local := by first | exact .inl rfl | exact .inr rfl | assumption) : DG X B (.Name x pos) [i] (gNm i) :=
  (pg_name hN hi hx hf).weak fun v σ H Q ⟨S, d, P, α, F, R, rd, p, q⟩ => q _ α F _ H p ⟨Same.refl _, Nat.le_refl _, fun _ _ => rfl⟩ (R.set i (r := .fr d) rd trivial) ⟨List.length_set .., fun j hj => List.getElem?_set_ne (by simpa [eq_comm] using hj)⟩
def gsN : DTGs := fun ds S P => ds = [] ∧ P S
def gsC (g : DTG) (u : DTGs) : DTGs := fun ds S P => ∃ d r, ds = d :: r ∧ g d S fun S1 => u r S1 P
theorem dgs_nil : DGs X B [] [] gsN := pgs_nil.weak fun v σ H Q ⟨S, ds, P, α, F, R, rd, ⟨e, p⟩, q⟩ => by
  subst e
  exact ⟨rd, q S α F σ H p (.refl _ _ _) R ⟨rfl, fun _ _ => rfl⟩⟩
theorem dgs_cons {es : List Expr} {ns ms : List Nat} {g : DTG} {u} (h1 : DG X B e ns g) (h2 : DGs X B es ms u) (hs : (assignEach (e :: es) X.env).map (·.2) = assign e X.env :: (assignEach es X.env).map (·.2) := by rfl) : DGs X B (e :: es) (ns ++ ms) (gsC g u) := (pgs_cons h1 h2 hs).weak fun v σ H Q ⟨S, ds, P, α, F, R, rd, ⟨d, r, e, p⟩, q⟩ => by
  subst e
  obtain ⟨w, ws, rfl, r1, r2⟩ := rd
  exact ⟨w, ws, rfl, S, d, _, α, F, R, r1, p, fun S1 α1 F1 σ1 H1 p1 g1 R1 b1 => ⟨S1, r, P, α1, F1, R1, r2.mono g1.sub, p1, fun S' α' F' σ' H' p' g' R' b2 => q S' α' F' σ' H' p' (g1.trans g') R'
    ⟨b2.1.trans b1.1, fun j hj => by
      simp only [List.mem_append, not_or] at hj
      exact (b2.2 j hj.2).trans (b1.2 j hj.1)⟩⟩⟩
def tupOf : D → Option (List D)
  | .tup ds => some ds
  | .wtup ds => some ds
  | _ => none
theorem tup_at {K : PySem.W.Frag} {F : Hp} {d : D} {v : V} {ds : List D} (h : Rep K F d v) (e : tupOf d = some ds) : ∃ a vs, v = .ref a ∧ SqT K F a vs ∧ RepL K F ds vs := by
  cases d <;> simp only [tupOf, Option.some.injEq, reduceCtorEq] at e
  · subst e
    obtain ⟨a, vs, o, rfl, h1, _, h2⟩ := h
    exact ⟨a, vs, rfl, sqt_frz h1, h2⟩
  · subst e
    obtain ⟨a, vs, rfl, h1, h2⟩ := h
    exact ⟨a, vs, rfl, .of h1, h2⟩
def gTp (n : Nat) (u : DTGs) : DTG := fun d S P => ∃ ds, tupOf d = some ds ∧ ds.length = n ∧ u ds S P
theorem dg_tup {es : List Expr} {k : Nat} {ns : List Nat} {u} (h : DGs X B es ns u) (hc : X.calm = true := by rfl) (hn : (assignEach es X.env).length = es.length := by rfl) (hst : (assignEach es X.env).findIdx? (·.1) = none := by rfl) : DG X B (.Tuple es k pos) ns (gTp es.length u) :=
  (pg_tup hc h hn hst).weak fun v σ H Q ⟨S, d, P, α, F, R, rd, ⟨ds, e, hl, p⟩, q⟩ => by
    obtain ⟨a, vs, rfl, s1, rl⟩ := tup_at rd e
    exact ⟨a, vs, rfl, Same.sqt R.sub s1, by rw [rl.length]; exact hl, S, ds, P, α, F, R, rl, p, q⟩
end
end TD
/-! TD5: for, owned objects made, written, frozen; comprehensions. -/
namespace TD
open PySem PySem.Spec PyProof.Rows L2
section
variable {X : Cx} {B : Base} {K : PySem.W.Frag} {a b c e : Expr} {ta tb : DTE} {tA : DTT} {t : DTS} {pos : Pos} {S : DS} {α : Nat → Addr} {F : Hp} {σ : L2.St} {H : Hp}
/-! ### for -/
def dLoop (ds : List D) (g : DTG) (tb : DTS) : DTS := fun P S => ∃ I : Nat → DS → Prop, I 0 S ∧
  (∀ i d S1, ds[i]? = some d → I i S1 → g d S1 fun S2 => tb { nx := I (i + 1), ct := I (i + 1), rt := P.rt, bk := P.nx } S2) ∧ ∀ S1, I ds.length S1 → P.nx S1
def dFor (ti : DTI) (g : DTG) (tb : DTS) : DTS := fun P S => ti S fun S1 ds => dLoop ds g tb P S1
theorem StR.turn {F0 : Hp} {J : It} {ds : List D} {i : Nat} {d : D} {x : V} {H' : Hp} (R : StR X.K B S α F σ H) (It : Iter X.K J ds F0) (hs : Same F0 F) (hd : ds[i]? = some d) (y : J.yld i H x H') :
    ∃ F', StR X.K B S α F' σ H' ∧ Same F F' ∧ Rep X.K F' d x := by
  rcases It.yld i F H x H' d hd hs R.sub y with ⟨e, r⟩ | ⟨p, xs, es, hp, e, ed, ex, r⟩
  · subst e; exact ⟨F, R, .refl _, r⟩
  · subst e ed ex
    obtain ⟨R', sm⟩ := R.newF (o := .tup xs) hp
    exact ⟨_, R', sm, p, xs, rfl, upd_same, r.mono sm⟩
theorem ds_for {tg iter : Expr} {body : List Stmt} {ti : DTI} {ns : List Nat} {g : DTG} (hp : PassesOwn (model X.prog X.w) X.A X.env X.xe) (hi : DI X B tg iter ti) (hg : DG X B tg ns g) (hb : DSs X B body t) (hc : X.calm = true := by rfl)
    (hs : ∀ x, foldedSetIterable iter X.env x = pure x := by intro _; rfl) : DSt X B (.For tg iter body [] pos) (dFor ti g t) :=
  (ps_for hp hc hi hg hb hs).weak fun D σ H ⟨S, P, α, F, R, p, q1, q2, q3, q4⟩ => by
    refine ⟨S, _, α, F, R, p, fun S1 ds α1 F1 H1 J ⟨I, i0, step, fin⟩ g1 R1 It => ?_⟩
    refine ⟨fun i m σ' H' => m = ds.length - i ∧ i ≤ ds.length ∧ ∃ S' α' F', I i S' ∧ Grow S1 α1 F1 S' α' F' ∧ StR X.K B S' α' F' σ' H', ⟨ds.length, by simp, Nat.zero_le _, S1, α1, F1, i0, .refl _ _ _, R1⟩, ?_⟩
    rintro i m σ2 H2 ⟨rfl, hi, S2, α2, F2, i2, g2, R2⟩
    by_cases hlt : i < ds.length
    · refine .inr ⟨It.go i F2 H2 hlt g2.sub R2.sub, fun σ' H' => ∃ S' α' F', I (i + 1) S' ∧ Grow S1 α1 F1 S' α' F' ∧ StR X.K B S' α' F' σ' H', fun σ' H' h => ⟨_, by omega, rfl, hlt, h⟩, fun x H' y => ?_⟩
      obtain ⟨F3, R3, sm, rx⟩ := R2.turn It g2.sub (List.getElem?_eq_getElem hlt) y
      have g3 : Grow S1 α1 F1 S2 α2 F3 := ⟨g2.sub.trans sm, g2.len, g2.al⟩
      refine ⟨S2, _, _, α2, F3, R3, rx, step i _ S2 (List.getElem?_eq_getElem hlt) i2, fun S4 α4 F4 σ4 H4 p4 g4 R4 _ => ⟨S4, _, α4, F4, R4, p4, ?_, ?_, ?_, ?_⟩⟩
      · exact fun S5 α5 F5 σ5 H5 p5 g5 R5 => ⟨S5, α5, F5, p5, (g3.trans g4).trans g5, R5⟩
      · exact fun S5 r α5 F5 σ5 H5 v p5 g5 R5 => q2 S5 r α5 F5 σ5 H5 v p5 (((g1.trans g3).trans g4).trans g5) R5
      · exact fun S5 α5 F5 σ5 H5 p5 g5 R5 => q1 S5 α5 F5 σ5 H5 p5 (((g1.trans g3).trans g4).trans g5) R5
      · exact fun S5 α5 F5 σ5 H5 p5 g5 R5 => ⟨S5, α5, F5, p5, (g3.trans g4).trans g5, R5⟩
    · have e : i = ds.length := by omega
      subst e
      exact .inl ⟨It.stop F2 H2 g2.sub R2.sub, q1 S2 α2 F2 σ2 H2 (fin S2 i2) (g1.trans g2) R2⟩
/-! ### owned objects -/
/-- a new owned object -/
theorem StR.newC {p : Addr} {o : HO} {cc : CC} (R : StR K B S α F σ H) (hp : H p = none) (hc : CellR K F (upd H p o) p cc) (ho : ∀ C dx fs, o = .ins C dx fs → B.H0 dx = none) :
    StR K B ⟨S.ρ, S.μ ++ [some cc]⟩ (fun k => if k = S.μ.length then p else α k) F σ (upd H p o) ∧ Grow S α F ⟨S.ρ, S.μ ++ [some cc]⟩ (fun k => if k = S.μ.length then p else α k) F := by
  have hF : F p = none := R.sub.free hp
  have hb : ∀ b u, H b = some u → upd H p o b = some u := fun b u h => by rw [upd_ne (ne_of_none h hp)]; exact h
  have hB : B.H0 p = none := by
    cases z : B.H0 p with
    | none => rfl
    | some w =>
      obtain ⟨o', ho⟩ := R.dom p w z
      rw [hp] at ho; cases ho
  have old : ∀ (k : Nat) (c : CC), (S.μ ++ [some cc])[k]? = some (some c) → (k = S.μ.length ∧ c = cc) ∨ (k ≠ S.μ.length ∧ S.μ[k]? = some (some c)) := fun k c h => by
    by_cases hk : k < S.μ.length
    · rw [List.getElem?_append_left hk] at h
      exact .inr ⟨by omega, h⟩
    · by_cases hk2 : k = S.μ.length
      · subst hk2
        simp at h
        exact .inl ⟨rfl, h.symm⟩
      · rw [List.getElem?_eq_none (by simp; omega)] at h; cases h
  refine ⟨⟨R.len, fun i r e => ?_, fun b u h => hb b u (R.sub b u h), R.grow, R.new, fun b u h hn => hb b u (R.keep b u h hn), fun b u h => ?_, by simp; have := R.np; omega, fun k c h => ?_, fun k c h hk => ?_, fun k a h => ?_, fun i j ci cj h1 h2 hq => ?_, R.p0, fun a ha C dx fs h => ?_⟩,
    .refl _, by simp, fun k hk => if_neg (by omega)⟩
  · obtain ⟨v, h1, h2, h3⟩ := R.slot i r e
    refine ⟨v, h1, ?_, ?_⟩
    · cases r with
      | fr d => exact h2
      | cell k =>
        have h3' : k < S.μ.length := h3
        show v = V.ref (if k = S.μ.length then p else α k)
        rw [if_neg (by omega)]; exact h2
    · cases r with
      | fr d => trivial
      | cell k =>
        have h3' : k < S.μ.length := h3
        show k < (S.μ ++ [some cc]).length
        simp; omega
  · obtain ⟨o', ho⟩ := R.dom b u h
    exact ⟨o', hb b o' ho⟩
  · rcases old k c h with ⟨rfl, rfl⟩ | ⟨hk, h⟩
    · simp only [if_pos]; exact ⟨hF, hc⟩
    · simp only [if_neg hk]
      obtain ⟨h1, h2⟩ := R.cells k c h
      exact ⟨h1, h2.stay (.refl _) fun b u z _ => hb b u z⟩
  · rcases old k c h with ⟨rfl, rfl⟩ | ⟨hk', h⟩
    · simp only [if_pos]
      refine ⟨hB, fun C dx fs q => ?_⟩
      rw [upd_same] at q
      exact ho C dx fs (Option.some.inj q)
    · simp only [if_neg hk']
      obtain ⟨h1, h2⟩ := R.own k c h hk
      refine ⟨h1, fun C dx fs q => h2 C dx fs ?_⟩
      obtain ⟨ob, hob, _⟩ := (R.cells k c h).2.there
      rw [upd_ne (ne_of_none hob hp)] at q
      exact q
  · have hk : k < B.P0.length := (List.getElem?_eq_some_iff.mp h).1
    have := R.np
    simp only [if_neg (show k ≠ S.μ.length by omega)]
    exact R.pas k a h
  · rcases old i ci h1 with ⟨e1, _⟩ | ⟨hi, k1⟩
    · rcases old j cj h2 with ⟨e2, _⟩ | ⟨hj, k2⟩
      · exact e1.trans e2.symm
      · simp only [if_pos e1, if_neg hj] at hq
        obtain ⟨ob, hob, _⟩ := (R.cells j cj k2).2.there
        rw [← hq, hp] at hob; cases hob
    · rcases old j cj h2 with ⟨e2, _⟩ | ⟨hj, k2⟩
      · simp only [if_pos e2, if_neg hi] at hq
        obtain ⟨ob, hob, _⟩ := (R.cells i ci k1).2.there
        rw [hq, hp] at hob; cases hob
      · simp only [if_neg hi, if_neg hj] at hq
        exact R.inj i j ci cj k1 k2 hq
  · obtain ⟨w, hw⟩ := R.p0 a ha
    obtain ⟨o', ho⟩ := R.dom a w hw
    rw [upd_ne (ne_of_none ho hp)] at h
    exact R.pdx a ha C dx fs h
/-- an owned object is written -/
theorem StR.write {k : Nat} {o : HO} {c0 cc : CC} (R : StR K B S α F σ H) (hk : S.μ[k]? = some (some c0)) (hc : CellR K F (upd H (α k) o) (α k) cc) (ho : ∀ C dx fs, o = .ins C dx fs → ∃ C0 fs0, H (α k) = some (.ins C0 dx fs0)) :
    StR K B ⟨S.ρ, S.μ.set k (some cc)⟩ α F σ (upd H (α k) o) ∧ Grow S α F ⟨S.ρ, S.μ.set k (some cc)⟩ α F := by
  obtain ⟨hF, hcr⟩ := R.cells k c0 hk
  obtain ⟨ok, hok, mk⟩ := hcr.there
  have hkl : k < S.μ.length := (List.getElem?_eq_some_iff.mp hk).1
  have hb : ∀ b u, b ≠ α k → H b = some u → upd H (α k) o b = some u := fun b u h e => by rw [upd_ne h]; exact e
  have old : ∀ (j : Nat) (c : CC), (S.μ.set k (some cc))[j]? = some (some c) → (j = k ∧ c = cc) ∨ (j ≠ k ∧ S.μ[j]? = some (some c)) := fun j c h => by
    by_cases hj : k = j
    · subst hj
      rw [List.getElem?_set_self hkl] at h
      simp at h
      exact .inl ⟨rfl, h.symm⟩
    · rw [List.getElem?_set_ne hj] at h
      exact .inr ⟨Ne.symm hj, h⟩
  refine ⟨⟨R.len, fun i r e => ?_, fun b u h => ?_, R.grow, R.new, fun b u h hn => ?_, fun b u h => ?_, by show _ ≤ (S.μ.set k (some cc)).length; rw [List.length_set]; exact R.np, fun j c h => ?_, fun j c h hj => ?_, R.pas, fun i j ci cj h1 h2 hq => ?_, R.p0, fun a ha C dx fs h => ?_⟩,
    .refl _, by show _ ≤ (S.μ.set k (some cc)).length; rw [List.length_set]; exact Nat.le_refl _, fun _ _ => rfl⟩
  · obtain ⟨v, h1, h2, h3⟩ := R.slot i r e
    refine ⟨v, h1, h2, ?_⟩
    cases r with
    | fr d => trivial
    | cell j => show j < (S.μ.set k (some cc)).length; rw [List.length_set]; exact h3
  · exact hb b u (fun z => by rw [z, hF] at h; cases h) (R.sub b u h)
  · refine hb b u (fun z => ?_) (R.keep b u h hn)
    by_cases hp : k < B.P0.length
    · have := R.pas k _ (List.getElem?_eq_getElem hp)
      rw [z, this] at hn
      exact hn (List.getElem_mem hp)
    · have := (R.own k c0 hk (by omega)).1
      rw [z, this] at h; cases h
  · by_cases z : b = α k
    · exact ⟨o, by rw [z, upd_same]⟩
    · obtain ⟨o', ho⟩ := R.dom b u h
      exact ⟨o', hb b o' z ho⟩
  · rcases old j c h with ⟨rfl, rfl⟩ | ⟨hj, h⟩
    · exact ⟨hF, hc⟩
    · obtain ⟨h1, h2⟩ := R.cells j c h
      refine ⟨h1, h2.stay (.refl _) fun b u z hq => hb b u (fun e => ?_) z⟩
      rcases hq with q | q
      · exact hj (R.inj j k c c0 h hk (q.symm.trans e))
      · rw [e, hok] at z; cases z; exact q mk
  · rcases old j c h with ⟨rfl, rfl⟩ | ⟨hjk, h⟩
    · obtain ⟨h1, h2⟩ := R.own j c0 hk hj
      refine ⟨h1, fun C dx fs q => ?_⟩
      rw [upd_same] at q
      obtain ⟨C0, fs0, z⟩ := ho C dx fs (Option.some.inj q)
      exact h2 C0 dx fs0 z
    · obtain ⟨h1, h2⟩ := R.own j c h hj
      refine ⟨h1, fun C dx fs q => h2 C dx fs ?_⟩
      rw [upd_ne (fun e => hjk (R.inj j k c c0 h hk e))] at q
      exact q
  · rcases old i ci h1 with ⟨e1, _⟩ | ⟨hi, k1⟩
    · rcases old j cj h2 with ⟨e2, _⟩ | ⟨hj, k2⟩
      · exact e1.trans e2.symm
      · exact R.inj i j c0 cj (by rw [e1]; exact hk) k2 hq
    · rcases old j cj h2 with ⟨e2, _⟩ | ⟨hj, k2⟩
      · exact R.inj i j ci c0 k1 (by rw [e2]; exact hk) hq
      · exact R.inj i j ci cj k1 k2 hq
  · by_cases z : a = α k
    · rw [z, upd_same] at h
      obtain ⟨C0, fs0, q⟩ := ho C dx fs (Option.some.inj h)
      exact R.pdx a ha C0 dx fs0 (by rw [z]; exact q)
    · rw [upd_ne z] at h
      exact R.pdx a ha C dx fs h
/-- an owned object is given up: from now on data -/
def frzD : CC → D
  | .lst ds => .lst ds
  | .dic ks ds => .dic ks ds
  | .ins C ns ds => .ins C ns ds
theorem StR.freeze {k : Nat} {cc : CC} (R : StR K B S α F σ H) (hk : S.μ[k]? = some (some cc)) (hp : B.P0.length ≤ k) :
    ∃ F', StR K B ⟨S.ρ, S.μ.set k none⟩ α F' σ H ∧ Grow S α F ⟨S.ρ, S.μ.set k none⟩ α F' ∧ Rep K F' (frzD cc) (.ref (α k)) := by
  obtain ⟨hF, hcr⟩ := R.cells k cc hk
  obtain ⟨hB, hdx⟩ := R.own k cc hk hp
  have old : ∀ (j : Nat) (c : CC), (S.μ.set k none)[j]? = some (some c) → j ≠ k ∧ S.μ[j]? = some (some c) := fun j c h => by
    by_cases hj : k = j
    · subst hj
      rw [List.getElem?_set_self (List.getElem?_eq_some_iff.mp hk).1] at h
      simp at h
    · rw [List.getElem?_set_ne hj] at h
      exact ⟨Ne.symm hj, h⟩
  -- with a larger frozen part that holds what H has at fresh places
  have core : ∀ F' : Hp, Same F F' → Same F' H → (∀ p o, F' p = some o → F p = some o ∨ B.H0 p = none) → (∀ j c, j ≠ k → S.μ[j]? = some (some c) → F' (α j) = none) → StR K B ⟨S.ρ, S.μ.set k none⟩ α F' σ H ∧ Grow S α F ⟨S.ρ, S.μ.set k none⟩ α F' := fun F' sm sH nw no =>
    ⟨⟨R.len, fun i r e => by
        obtain ⟨v, h1, h2, h3⟩ := R.slot i r e
        refine ⟨v, h1, ?_, ?_⟩
        · cases r with
          | fr d => exact Rep.mono sm d v h2
          | cell j => exact h2
        · cases r with
          | fr d => trivial
          | cell j => show j < (S.μ.set k none).length; rw [List.length_set]; exact h3,
      sH, R.grow.trans sm, fun p o e => by
        rcases nw p o e with z | z
        · exact R.new p o z
        · exact .inr z,
      R.keep, R.dom, by show _ ≤ (S.μ.set k none).length; rw [List.length_set]; exact R.np, fun j c h => by
        obtain ⟨hj, h⟩ := old j c h
        exact ⟨no j c hj h, (R.cells j c h).2.stay sm fun _ _ z _ => z⟩,
      fun j c h hj => R.own j c (old j c h).2 hj, R.pas, fun i j ci cj h1 h2 hq => R.inj i j ci cj (old i ci h1).2 (old j cj h2).2 hq, R.p0, R.pdx⟩,
      sm, by show _ ≤ (S.μ.set k none).length; rw [List.length_set]; exact Nat.le_refl _, fun _ _ => rfl⟩
  have nak : ∀ j c, j ≠ k → S.μ[j]? = some (some c) → α j ≠ α k := fun j c hj h e => hj (R.inj j k c cc h hk e)
  have one : ∀ o, H (α k) = some o → Same F (upd F (α k) o) ∧ Same (upd F (α k) o) H ∧ (∀ p u, upd F (α k) o p = some u → F p = some u ∨ B.H0 p = none) ∧ ∀ j c, j ≠ k → S.μ[j]? = some (some c) → upd F (α k) o (α j) = none := fun o ho =>
    ⟨fun b u h => by rw [upd_ne (ne_of_none h hF)]; exact h, fun b u h => by
      by_cases z : b = α k
      · rw [z, upd_same] at h; rw [z, ho]; exact h
      · rw [upd_ne z] at h; exact R.sub b u h, fun p u h => by
      by_cases z : p = α k
      · rw [z]; exact .inr hB
      · rw [upd_ne z] at h; exact .inl h, fun j c hj h => by
      rw [upd_ne (nak j c hj h)]; exact (R.cells j c h).1⟩
  cases cc with
  | lst ds =>
    obtain ⟨vs, h, r⟩ := hcr
    obtain ⟨h1, h2, h3, h4⟩ := one _ h
    obtain ⟨R', g⟩ := core _ h1 h2 h3 h4
    exact ⟨_, R', g, _, vs, rfl, upd_same, r.mono h1⟩
  | dic ks ds =>
    obtain ⟨vs, h, l, r⟩ := hcr
    obtain ⟨h1, h2, h3, h4⟩ := one _ h
    obtain ⟨R', g⟩ := core _ h1 h2 h3 h4
    exact ⟨_, R', g, _, vs, rfl, upd_same, l, r.mono h1⟩
  | ins C ns ds =>
    obtain ⟨dx, vs, h, hd, l, r⟩ := hcr
    obtain ⟨h1, h2, h3, h4⟩ := one _ h
    have hB2 := hdx C dx _ h
    have ndx : dx ≠ α k := fun z => by rw [z, h] at hd; cases hd
    -- the dict of the instance too
    have sm2 : Same (upd F (α k) (.ins C dx (ns.zip vs))) (upd (upd F (α k) (.ins C dx (ns.zip vs))) dx (.own (α k))) := fun b u e => by
      by_cases z : b = dx
      · subst z
        have := h2 b u e
        rw [hd] at this; cases this
        exact upd_same
      · rw [upd_ne z]; exact e
    obtain ⟨R', g⟩ := core (upd (upd F (α k) (.ins C dx (ns.zip vs))) dx (.own (α k))) (h1.trans sm2) (fun b u e => by
        by_cases z : b = dx
        · subst z; rw [upd_same] at e; cases e; exact hd
        · rw [upd_ne z] at e; exact h2 b u e) (fun p u e => by
        by_cases z : p = dx
        · subst z; exact .inr hB2
        · rw [upd_ne z] at e; exact h3 p u e) (fun j c hj hm => by
        have : α j ≠ dx := fun z => by
          obtain ⟨ob, hob, mu⟩ := (R.cells j c hm).2.there
          rw [z, hd] at hob; cases hob; exact mu
        rw [upd_ne this]; exact h4 j c hj hm)
    exact ⟨_, R', g, _, dx, vs, rfl, by rw [upd_ne (Ne.symm ndx)]; exact upd_same, upd_same, l, r.mono (h1.trans sm2)⟩
/-- the last cell, unused, is dropped -/
theorem StR.drop {μ : List (Option CC)} {x : Option CC} {ρ ρ' : List (Option SV)} {σ' : L2.St} (R : StR K B ⟨ρ, μ ++ [x]⟩ α F σ H) (hn : B.P0.length ≤ μ.length) {S2 : DS} {α2 : Nat → Addr} {F2 : Hp} {H2 : Hp} (R2 : StR K B ⟨ρ', S2.μ⟩ α2 F2 σ' H2) (sm : Same F2 F) (al : ∀ k, k < S2.μ.length → α k = α2 k) (hl : S2.μ.length ≤ μ.length) :
    StR K B ⟨ρ', μ⟩ α F σ' H := by
  have up : ∀ (k : Nat) (c : CC), μ[k]? = some (some c) → (μ ++ [x])[k]? = some (some c) := fun k c h => by
    rw [List.getElem?_append_left (List.getElem?_eq_some_iff.mp h).1]; exact h
  refine ⟨R2.len, fun i r e => ?_, R.sub, R.grow, R.new, R.keep, R.dom, hn, fun k c h => R.cells k c (up k c h), fun k c h hk => R.own k c (up k c h) hk, R.pas, fun i j ci cj h1 h2 hq => R.inj i j ci cj (up i ci h1) (up j cj h2) hq, R.p0, R.pdx⟩
  obtain ⟨v, h1, h2, h3⟩ := R2.slot i r e
  refine ⟨v, h1, ?_, ?_⟩
  · cases r with
    | fr d => exact Rep.mono sm d v h2
    | cell k => exact h2.trans (by rw [al k h3])
  · cases r with
    | fr d => trivial
    | cell k => exact Nat.lt_of_lt_of_le h3 hl
end
end TD
/-! TD6: displays, reading of sequences, equality, lists that grow. -/
namespace TD
open PySem PySem.Spec PyProof.Rows L2
section
variable {X : Cx} {B : Base} {K : PySem.W.Frag} {a b c e : Expr} {es : List Expr} {ta tb : DTE} {tr : DTA} {tA : DTT} {t : DTS} {pos : Pos} {S : DS} {α : Nat → Addr} {F : Hp} {σ : L2.St} {H : Hp}
/-! ### views -/
/-- an owned object's data at the time -/
def svD (S : DS) : SV → Option D
  | .fr d => some d
  | .cell k => match S.μ[k]? with
    | some (some c) => some (frzD c)
    | _ => none
theorem view (R : StR K B S α F σ H) {r : SV} {v : V} {d : D} (h : RepV K F α r v) (e : svD S r = some d) : Rep K H d v := by
  cases r with
  | fr d' =>
    cases e
    exact Rep.mono R.sub _ v h
  | cell k =>
    simp only [svD] at e
    split at e
    · rename_i c hc
      cases e
      have hv : v = .ref (α k) := h
      subst hv
      have hcr := (R.cells k c hc).2
      cases c with
      | lst ds => obtain ⟨vs, h1, h2⟩ := hcr; exact ⟨_, vs, rfl, h1, h2.mono R.sub⟩
      | dic ks ds => obtain ⟨vs, h1, l, h2⟩ := hcr; exact ⟨_, vs, rfl, h1, l, h2.mono R.sub⟩
      | ins C ns ds => obtain ⟨dx, vs, h1, hd, l, h2⟩ := hcr; exact ⟨_, dx, vs, rfl, h1, hd, l, h2.mono R.sub⟩
    · cases e
/-- a list that stands by itself (frozen, or owned) -/
def lstOf (S : DS) : SV → Option (List D)
  | .fr (.lst ds) => some ds
  | .cell k => match S.μ[k]? with
    | some (some (.lst ds)) => some ds
    | _ => none
  | _ => none
theorem lst_at (R : StR K B S α F σ H) {r : SV} {v : V} {ds : List D} (h : RepV K F α r v) (e : lstOf S r = some ds) : ∃ a vs, v = .ref a ∧ H a = some (.lst vs) ∧ RepL K F ds vs := by
  cases r with
  | fr d =>
    cases d <;> simp only [lstOf, Option.some.injEq, reduceCtorEq] at e
    subst e
    obtain ⟨a, vs, e1, h1, h2⟩ := h
    exact ⟨a, vs, e1, R.sub _ _ h1, h2⟩
  | cell k =>
    simp only [lstOf] at e
    split at e
    · rename_i ds' hc
      cases e
      obtain ⟨vs, h1, h2⟩ := (R.cells k _ hc).2
      exact ⟨_, vs, h, h1, h2⟩
    · cases e
/-- a list, a tuple, the script -/
def seqOf (S : DS) : SV → Option (List D)
  | .fr (.tup ds) => some ds
  | .fr (.ktup ds) => some ds
  | .fr (.scr ns) => some (ns.map .int)
  | r => lstOf S r
theorem repL_ints (K : PySem.W.Frag) (F : Hp) : ∀ ns : List Int, RepL K F (ns.map D.int) (ns.map V.int)
  | [] => rfl
  | n :: ns => ⟨_, _, rfl, rfl, repL_ints K F ns⟩
theorem seq_at (R : StR K B S α F σ H) {r : SV} {v : V} {ds : List D} (h : RepV K F α r v) (e : seqOf S r = some ds) : ∃ a vs, v = .ref a ∧ (SqL K H a vs ∨ SqT K H a vs) ∧ RepL K F ds vs := by
  unfold seqOf at e
  split at e
  · cases e
    obtain ⟨a, vs, o, e1, h1, _, h2⟩ := h
    exact ⟨a, vs, e1, .inr (sqt_frz (R.sub _ _ h1)), h2⟩
  · cases e
    obtain ⟨a, vs, e1, h1, h2⟩ := h
    exact ⟨a, vs, e1, .inr (Same.sqt R.sub h1), h2⟩
  · cases e
    obtain ⟨a, e1, h1⟩ := h
    exact ⟨a, _, e1, .inl (Same.seq R.sub h1), repL_ints _ _ _⟩
  · obtain ⟨a, vs, e1, h1, h2⟩ := lst_at R h e
    exact ⟨a, vs, e1, .inl (.of h1), h2⟩
/-! ### displays -/
/-- the values as data: none of them an owned object -/
def allFr : List SV → Option (List D)
  | [] => some []
  | .fr d :: rs => (allFr rs).map (d :: ·)
  | .cell _ :: _ => none
theorem allFr_rep : ∀ {rs : List SV} {vs : List V} {ds : List D}, allFr rs = some ds → RepVs K F α rs vs → RepL K F ds vs
  | [], _, _, h, r => by cases h; exact r
  | .fr d :: rs, _, ds, h, r => by
    obtain ⟨v, us, rfl, r1, r2⟩ := r
    unfold allFr at h
    obtain ⟨ds', h', rfl⟩ := Option.map_eq_some_iff.mp h
    exact ⟨v, us, rfl, r1, allFr_rep h' r2⟩
  | .cell _ :: _, _, _, h, _ => by cases h
def dTup (t : DTA) : DTE := fun S P => t S fun S1 rs => ∃ ds, allFr rs = some ds ∧ ds.length ≤ 1000 ∧ P S1 (.fr (.tup ds))
theorem le1000 {n : Nat} (h : n ≤ 1000) : n ≤ sizeLine := Nat.le_of_lt (small1000 h)
theorem de_tup {k : Nat} (h : DA X B es tr) : DE X B (.Tuple es k pos) (dTup tr) :=
  (pe_tupP h).weak fun σ H Q ⟨S, P, α, F, R, p, q⟩ => ⟨S, _, α, F, R, p, fun S1 rs α1 F1 H1 vs ⟨ds, e, hl, p1⟩ g1 R1 _ rv => by
    have rl := allFr_rep e rv
    refine ⟨by rw [rl.length]; exact le1000 hl, fun p o hp ho => ?_⟩
    obtain ⟨R2, sm⟩ := R1.newF (o := .frz o (.tup vs)) hp
    exact q S1 _ α1 _ _ _ p1 ⟨g1.sub.trans sm, g1.len, g1.al⟩ R2 trivial ⟨p, vs, o, rfl, upd_same, ho, rl.mono sm⟩⟩
/-- a list that stays as it is -/
def dLst (t : DTA) : DTE := fun S P => t S fun S1 rs => ∃ ds, allFr rs = some ds ∧ ds.length ≤ 1000 ∧ P S1 (.fr (.lst ds))
theorem de_lst (h : DA X B es tr) : DE X B (.List es pos) (dLst tr) :=
  (pe_lst h).weak fun σ H Q ⟨S, P, α, F, R, p, q⟩ => ⟨S, _, α, F, R, p, fun S1 rs α1 F1 H1 vs ⟨ds, e, hl, p1⟩ g1 R1 _ rv => by
    have rl := allFr_rep e rv
    refine ⟨by rw [rl.length]; exact le1000 hl, fun p hp => ?_⟩
    obtain ⟨R2, sm⟩ := R1.newF (o := .lst vs) hp
    exact q S1 _ α1 _ _ _ p1 ⟨g1.sub.trans sm, g1.len, g1.al⟩ R2 trivial ⟨p, vs, rfl, upd_same, rl.mono sm⟩⟩
/-- a list that will change -/
def dLstO (t : DTA) : DTE := fun S P => t S fun S1 rs => ∃ ds, allFr rs = some ds ∧ ds.length ≤ 1000 ∧ P ⟨S1.ρ, S1.μ ++ [some (.lst ds)]⟩ (.cell S1.μ.length)
theorem de_lstO (h : DA X B es tr) : DE X B (.List es pos) (dLstO tr) :=
  (pe_lst h).weak fun σ H Q ⟨S, P, α, F, R, p, q⟩ => ⟨S, _, α, F, R, p, fun S1 rs α1 F1 H1 vs ⟨ds, e, hl, p1⟩ g1 R1 _ rv => by
    have rl := allFr_rep e rv
    refine ⟨by rw [rl.length]; exact le1000 hl, fun p hp => ?_⟩
    obtain ⟨R2, g2⟩ := R1.newC (o := .lst vs) (cc := .lst ds) hp ⟨vs, upd_same, rl⟩ (fun _ _ _ z => by cases z)
    exact q _ _ _ _ _ _ p1 (g1.trans g2) R2 (by show S1.μ.length < (S1.μ ++ [some (CC.lst ds)]).length; simp) (by show V.ref p = V.ref (if _ then _ else _); rw [if_pos rfl])⟩
/-- an owned object of one's own, read and given up (n: how many objects were handed in) -/
def dFrz (n : Nat) (ta : DTE) : DTE := fun S P => ta S fun S1 r => ∃ k cc, r = .cell k ∧ n ≤ k ∧ S1.μ[k]? = some (some cc) ∧ P ⟨S1.ρ, S1.μ.set k none⟩ (.fr (frzD cc))
theorem de_frz {n : Nat} (hB : B.P0.length = n) (h : DE X B e ta) : DE X B e (dFrz n ta) :=
  h.weak fun σ H Q ⟨S, P, α, F, R, p, q⟩ => ⟨S, _, α, F, R, p, fun S1 r α1 F1 H1 v ⟨k, cc, er, hk, hc, p1⟩ g1 R1 _ rv => by
    subst er
    have hv : v = .ref (α1 k) := rv
    subst hv
    obtain ⟨F', R2, g2, rp⟩ := R1.freeze hc (by rw [hB]; exact hk)
    exact q _ _ _ _ _ _ p1 (g1.trans g2) R2 trivial rp⟩
/-! ### reading -/
def lenL : DL := fun xs S P => ∃ x ds, xs = [x] ∧ seqOf S x = some ds ∧ P S (.fr (.int (ds.length : Nat)))
theorem link_len : LinkL X B (fun xs H Q => ∃ p ys, xs = [.ref p] ∧ (SqL X.K H p ys ∨ SqT X.K H p ys) ∧ Q (.int ys.length) H) lenL := by
  rintro xs S P α F σ H vs Q R rv _ ⟨x, ds, rfl, e, p⟩ q
  obtain ⟨v, us, rfl, r1, rfl⟩ := rv
  obtain ⟨a, ws, rfl, h1, rl⟩ := seq_at R r1 e
  exact ⟨a, ws, rfl, h1, q S _ α F H _ p (.refl _ _ _) R trivial (by show V.int _ = V.int _; rw [rl.length])⟩
theorem atI_rep {ds : List D} {vs : List V} {i : Int} {d : D} (r : RepL K F ds vs) (h : atI ds i = some d) : ∃ v, atI vs i = some v ∧ Rep K F d v := by
  unfold atI at h ⊢
  rw [r.length]
  cases e : ixN ds.length i with
  | none => rw [e] at h; cases h
  | some j =>
    rw [e] at h
    exact r.get h
def ixD : D2 := fun x y S P => ∃ ds i d, seqOf S x = some ds ∧ y = .fr (.int i) ∧ atI ds i = some d ∧ P S (.fr d)
theorem link_ix : Link2 X B (fun x y H Q => rIxL X.K x y H Q ∨ rIxT X.K x y H Q ∨ rIxS x y H Q) ixD := by
  rintro x y S P α F σ H v u Q R rx ry _ _ ⟨ds, i, d, e, rfl, hd, p⟩ q
  have hu : u = .int i := ry
  subst hu
  obtain ⟨a, ws, rfl, h1, rl⟩ := seq_at R rx e
  obtain ⟨w, hw, rw'⟩ := atI_rep rl hd
  have z := q S _ α F H w p (.refl _ _ _) R trivial rw'
  rcases h1 with h1 | h1
  · exact .inl ⟨a, ws, i, w, rfl, rfl, h1, hw, z⟩
  · exact .inr (.inl ⟨a, ws, i, w, rfl, rfl, h1, hw, z⟩)
theorem de_ix (ha : DE X B a ta) (hb : DE X B b tb) (hs : PlainIx b := by intro _ _; rfl) : DE X B (.Subscript a b pos) (dOp ixD ta tb) := (pe_ix ix_seq ha hb hs).weak (op_weak link_ix)
/-! ### == -/
mutual
def pyD : D → Option PyData
  | .non => some .none
  | .bl b => some (.bool b)
  | .int i => some (.int i)
  | .str x => some (.str x)
  | .tup ds => (pyDs ds).map .tuple
  | .ktup ds => (pyDs ds).map .tuple
  | .lst ds => (pyDs ds).map .list
  | .scr ns => some (.list (ns.map .int))
  | _ => none
def pyDs : List D → Option (List PyData)
  | [] => some []
  | d :: ds => match pyD d, pyDs ds with
    | some x, some xs => some (x :: xs)
    | _, _ => none
end
theorem dpAll_ints (K : PySem.W.Frag) (H : Hp) : ∀ ns : List Int, DpAll K H (ns.map V.int) (ns.map PyData.int)
  | [] => .nil
  | n :: ns => .cons (.int n) (dpAll_ints K H ns)
mutual
theorem pyD_dp : ∀ (d : D) (v : V) (x : PyData), Rep K H d v → pyD d = some x → Dp K H v x
  | .non, v, x, r, e => by simp only [pyD, Option.some.injEq] at e; subst e; cases (show v = .non from r); exact .non
  | .bl b, v, x, r, e => by simp only [pyD, Option.some.injEq] at e; subst e; cases (show v = .bl b from r); exact .bl b
  | .int i, v, x, r, e => by simp only [pyD, Option.some.injEq] at e; subst e; cases (show v = .int i from r); exact .int i
  | .str s, v, x, r, e => by simp only [pyD, Option.some.injEq] at e; subst e; cases (show v = .str s from r); exact .str s
  | .tup ds, v, x, r, e => by
    simp only [pyD] at e
    obtain ⟨xs, e1, rfl⟩ := Option.map_eq_some_iff.mp e
    obtain ⟨a, vs, o, rfl, h1, _, h2⟩ := (show ∃ a vs o, v = .ref a ∧ H a = some (.frz o (.tup vs)) ∧ PlainT o ∧ RepL K H ds vs by simpa only [Rep] using r)
    exact .tup (sqt_frz h1) (pyDs_dp ds vs xs h2 e1)
  | .ktup ds, v, x, r, e => by
    simp only [pyD] at e
    obtain ⟨xs, e1, rfl⟩ := Option.map_eq_some_iff.mp e
    obtain ⟨a, vs, rfl, h1, h2⟩ := (show ∃ a vs, v = .ref a ∧ SqT K H a vs ∧ RepL K H ds vs by simpa only [Rep] using r)
    exact .tup h1 (pyDs_dp ds vs xs h2 e1)
  | .lst ds, v, x, r, e => by
    simp only [pyD] at e
    obtain ⟨xs, e1, rfl⟩ := Option.map_eq_some_iff.mp e
    obtain ⟨a, vs, rfl, h1, h2⟩ := (show ∃ a vs, v = .ref a ∧ H a = some (.lst vs) ∧ RepL K H ds vs by simpa only [Rep] using r)
    exact .lst (.of h1) (pyDs_dp ds vs xs h2 e1)
  | .scr ns, v, x, r, e => by
    simp only [pyD, Option.some.injEq] at e
    subst e
    obtain ⟨a, rfl, h1⟩ := (show ∃ a, v = .ref a ∧ SqL K H a (ns.map V.int) by simpa only [Rep] using r)
    exact .lst h1 (dpAll_ints K H ns)
  | .ty _, _, _, _, e => by simp only [pyD, reduceCtorEq] at e
  | .ref _, _, _, _, e => by simp only [pyD, reduceCtorEq] at e
  | .wtup _, _, _, _, e => by simp only [pyD, reduceCtorEq] at e
  | .dic _ _, _, _, _, e => by simp only [pyD, reduceCtorEq] at e
  | .ins _ _ _, _, _, _, e => by simp only [pyD, reduceCtorEq] at e
theorem pyDs_dp : ∀ (ds : List D) (vs : List V) (xs : List PyData), RepL K H ds vs → pyDs ds = some xs → DpAll K H vs xs
  | [], vs, xs, r, e => by
    simp only [pyDs, Option.some.injEq] at e
    subst e
    simp only [RepL] at r
    subst r
    exact .nil
  | d :: ds, vs, xs, r, e => by
    simp only [RepL] at r
    obtain ⟨v, us, rfl, r1, r2⟩ := r
    simp only [pyDs] at e
    split at e
    · rename_i x ys e1 e2
      cases e
      exact .cons (pyD_dp d v x r1 e1) (pyDs_dp ds us ys r2 e2)
    · cases e
end
def eqX (neg : Bool) : D2 := fun x y S P => ∃ dx dy px py, svD S x = some dx ∧ svD S y = some dy ∧ pyD dx = some px ∧ pyD dy = some py ∧ SeqAt.shaped px = true ∧ SeqAt.shaped py = true ∧ P S (.fr (.bl (if neg then !PyData.eqv px py else PyData.eqv px py)))
theorem link_eq : Link2 X B (rEqD X.K) (eqX false) := by
  rintro x y S P α F σ H v u Q R rx ry _ _ ⟨dx, dy, px, py, h1, h2, h3, h4, h5, h6, p⟩ q
  exact ⟨px, py, pyD_dp _ _ _ (view R rx h1) h3, pyD_dp _ _ _ (view R ry h2) h4, h5, h6, q S _ α F H _ p (.refl _ _ _) R trivial rfl⟩
theorem link_ne : Link2 X B (rNeD X.K) (eqX true) := by
  rintro x y S P α F σ H v u Q R rx ry _ _ ⟨dx, dy, px, py, h1, h2, h3, h4, h5, h6, p⟩ q
  exact ⟨px, py, pyD_dp _ _ _ (view R rx h1) h3, pyD_dp _ _ _ (view R ry h2) h4, h5, h6, q S _ α F H _ p (.refl _ _ _) R trivial rfl⟩
theorem de_eq (hu : X.A.units + 64 < cLine) (ha : DE X B a ta) (hb : DE X B b tb) : DE X B (.Compare a [.Eq] [b] pos) (dOp (eqX false) ta tb) := de_cmp (op_eqD hu) link_eq (nomark _) ha hb
theorem de_ne (hu : X.A.units + 64 < cLine) (ha : DE X B a ta) (hb : DE X B b tb) : DE X B (.Compare a [.NotEq] [b] pos) (dOp (eqX true) ta tb) := de_cmp (op_neD hu) link_ne (nomark _) ha hb
theorem dt_eq (hu : X.A.units + 64 < cLine) (ha : DE X B a ta) (hb : DE X B b tb) : DT X B (.Compare a [.Eq] [b] pos) (dB (dOp (eqX false) ta tb)) := dt_cmp (op_eqD hu) link_eq (nomark _) ha hb
theorem dt_ne (hu : X.A.units + 64 < cLine) (ha : DE X B a ta) (hb : DE X B b tb) : DT X B (.Compare a [.NotEq] [b] pos) (dB (dOp (eqX true) ta tb)) := dt_cmp (op_neD hu) link_ne (nomark _) ha hb
/-! ### in, of flat things -/
def eqF (d e : D) : Option Bool := match fl d, fl e with
  | some x, some y => if flatV x && flatV y then some (eqV x y) else none
  | _, _ => none
/-- x in ds -/
def inD (x : D) : List D → Option Bool
  | [] => match fl x with
    | some v => if flatV v then some false else none
    | none => none
  | d :: ds => match eqF d x, inD x ds with
    | some k, some m => some (k || m)
    | _, _ => none
theorem inD_rep {x : D} {v : V} : ∀ {ds : List D} {vs : List V} {k : Bool}, inD x ds = some k → Rep K F x v → RepL K F ds vs → flatV v = true ∧ vs.all flatV = true ∧ inV v vs = k
  | [], vs, k, h, rx, r => by
    simp only [RepL] at r; subst r
    unfold inD at h
    split at h
    · rename_i w hw
      have := Rep.fl hw rx
      subst this
      split at h
      · cases h; exact ⟨by assumption, rfl, rfl⟩
      · cases h
    · cases h
  | d :: ds, vs, k, h, rx, r => by
    simp only [RepL] at r
    obtain ⟨u, us, rfl, r1, r2⟩ := r
    unfold inD at h
    split at h
    · rename_i m n h1 h2
      cases h
      obtain ⟨q1, q2, q3⟩ := inD_rep h2 rx r2
      unfold eqF at h1
      cases hy : fl d with
      | none => rw [hy] at h1; cases h1
      | some y =>
        cases hz : fl x with
        | none => rw [hy, hz] at h1; cases h1
        | some z =>
          rw [hy, hz] at h1
          have e1 := Rep.fl hy r1
          have e2 := Rep.fl hz rx
          subst e1 e2
          simp only at h1
          split at h1
          · rename_i hf
            cases h1
            rw [Bool.and_eq_true] at hf
            refine ⟨q1, by rw [List.all_cons, hf.1, q2]; rfl, ?_⟩
            rw [← q3]
            rfl
          · cases h1
    · cases h
def inX (neg : Bool) : D2 := fun x y S P => ∃ d ds k, x = .fr d ∧ seqOf S y = some ds ∧ inD d ds = some k ∧ P S (.fr (.bl (if neg then !k else k)))
theorem link_in (neg : Bool) : Link2 X B (rIn X.K neg) (inX neg) := by
  rintro x y S P α F σ H v u Q R rx ry _ _ ⟨d, ds, k, rfl, e, hk, p⟩ q
  obtain ⟨a, ws, rfl, h1, rl⟩ := seq_at R ry e
  obtain ⟨q1, q2, q3⟩ := inD_rep hk rx rl
  exact ⟨a, ws, rfl, h1, q1, q2, by rw [q3]; exact q S _ α F H _ p (.refl _ _ _) R trivial rfl⟩
theorem de_in (ha : DE X B a ta) (hb : DE X B b tb) (hm : behindInMarks .In b = false := by rfl) : DE X B (.Compare a [.In] [b] pos) (dOp (inX false) ta tb) := de_cmp op_in_seq (link_in false) hm ha hb
theorem de_notin (ha : DE X B a ta) (hb : DE X B b tb) (hm : behindInMarks .NotIn b = false := by rfl) : DE X B (.Compare a [.NotIn] [b] pos) (dOp (inX true) ta tb) := de_cmp op_notIn_seq (link_in true) hm ha hb
theorem dt_in (ha : DE X B a ta) (hb : DE X B b tb) (hm : behindInMarks .In b = false := by rfl) : DT X B (.Compare a [.In] [b] pos) (dB (dOp (inX false) ta tb)) := dt_cmp op_in_seq (link_in false) hm ha hb
theorem dt_notin (ha : DE X B a ta) (hb : DE X B b tb) (hm : behindInMarks .NotIn b = false := by rfl) : DT X B (.Compare a [.NotIn] [b] pos) (dB (dOp (inX true) ta tb)) := dt_cmp op_notIn_seq (link_in true) hm ha hb
end
end TD
/-! TD7: built-ins by name, objects that are written. -/
namespace TD
open PySem PySem.Spec PyProof.Rows L2
section
variable {X : Cx} {B : Base} {K : PySem.W.Frag} {a b c e : Expr} {es : List Expr} {ta tb : DTE} {tr : DTA} {tA : DTT} {t : DTS} {pos p : Pos} {S : DS} {α : Nat → Addr} {F : Hp} {σ : L2.St} {H : Hp}
/-! ### built-ins -/
def absL : DL := fun xs S P => ∃ i, xs = [.fr (.int i)] ∧ P S (.fr (.int (if i < 0 then -i else i)))
theorem link_abs : LinkL X B (fun xs H Q => ∃ i, xs = [.int i] ∧ Q (.int (if i < 0 then -i else i)) H) absL := by
  rintro xs S P α F σ H vs Q R rv _ ⟨i, rfl, p⟩ q
  obtain ⟨v, us, rfl, r1, rfl⟩ := rv
  cases (show v = .int i from r1)
  exact ⟨i, rfl, q S _ α F H _ p (.refl _ _ _) R trivial rfl⟩
theorem de_abs (hm : X.mg "abs" = none) (ha : DA X B (e :: es) tr) (hg : Gl X "abs" := by rfl) (he : starEach (e :: es) X.env = (false, eval e X.env) :: starEach es X.env := by rfl) (hpl : (backTo pos (starEach es X.env)).any (·.1) = false := by rfl) : DE X B (.Call (.Name "abs" p) (e :: es) [] pos) (dCB absL tr) :=
  de_callB call_abs link_abs hg hm (by decide +kernel) ha (by decide) (by decide) he hpl
theorem de_len (hm : X.mg "len" = none) (ha : DA X B (e :: es) tr) (hg : Gl X "len" := by rfl) (he : starEach (e :: es) X.env = (false, eval e X.env) :: starEach es X.env := by rfl) (hpl : (backTo pos (starEach es X.env)).any (·.1) = false := by rfl) : DE X B (.Call (.Name "len" p) (e :: es) [] pos) (dCB lenL tr) :=
  de_callB call_len_seq link_len hg hm PySem.boot_len ha (by decide) (by decide) he hpl
/-! ### lists of ints, of truth values -/
theorem ints_inv : ∀ {ns : List Int} {vs : List V}, RepL K F (ns.map D.int) vs → vs = ns.map V.int
  | [], _, h => h
  | n :: ns, _, h => by
    obtain ⟨v, r, rfl, h1, h2⟩ := h
    cases (show v = .int n from h1)
    rw [ints_inv h2]
    rfl
theorem bls_inv : ∀ {ns : List Bool} {vs : List V}, RepL K F (ns.map D.bl) vs → vs = ns.map V.bl
  | [], _, h => h
  | n :: ns, _, h => by
    obtain ⟨v, r, rfl, h1, h2⟩ := h
    cases (show v = .bl n from h1)
    rw [bls_inv h2]
    rfl
theorem strs_inv : ∀ {ns : List Str} {vs : List V}, RepL K F (ns.map D.str) vs → vs = ns.map V.str
  | [], _, h => h
  | n :: ns, _, h => by
    obtain ⟨v, r, rfl, h1, h2⟩ := h
    cases (show v = .str n from h1)
    rw [strs_inv h2]
    rfl
def maxL : DL := fun xs S P => ∃ x, ∃ ns : List Int, xs = [x] ∧ lstOf S x = some (ns.map D.int) ∧ 0 < ns.length ∧ ∀ m, m ∈ ns → (∀ y, y ∈ ns → y ≤ m) → P S (.fr (.int m))
theorem link_max : LinkL X B (rMax X.K) maxL := by
  rintro xs S P α F σ H vs Q R rv _ ⟨x, ns, rfl, e, h0, p⟩ q
  obtain ⟨v, us, rfl, r1, rfl⟩ := rv
  obtain ⟨a, ws, rfl, h1, rl⟩ := lst_at R r1 e
  rw [ints_inv rl] at h1
  exact ⟨a, ns, rfl, .of h1, h0, fun m hm hle => q S _ α F H _ (p m hm hle) (.refl _ _ _) R trivial rfl⟩
theorem de_max (hm : X.mg "max" = none) (ha : DA X B (e :: es) tr) (hc : X.calm = true := by rfl) (hg : Gl X "max" := by rfl) (he : starEach (e :: es) X.env = (false, eval e X.env) :: starEach es X.env := by rfl) (hpl : (backTo pos (starEach es X.env)).any (·.1) = false := by rfl) : DE X B (.Call (.Name "max" p) (e :: es) [] pos) (dCB maxL tr) :=
  de_callB (cr_max hc) link_max hg hm (by decide +kernel) ha (by decide) (by decide) he hpl
def max2L : DL := fun xs S P => ∃ i j, xs = [.fr (.int i), .fr (.int j)] ∧ P S (.fr (.int (if j > i then j else i)))
def min2L : DL := fun xs S P => ∃ i j, xs = [.fr (.int i), .fr (.int j)] ∧ P S (.fr (.int (if j < i then j else i)))
theorem de_max2 (hm : X.mg "max" = none) (ha : DA X B (e :: es) tr) (hc : X.calm = true := by rfl) (hg : Gl X "max" := by rfl) (he : starEach (e :: es) X.env = (false, eval e X.env) :: starEach es X.env := by rfl) (hpl : (backTo pos (starEach es X.env)).any (·.1) = false := by rfl) : DE X B (.Call (.Name "max" p) (e :: es) [] pos) (dCB max2L tr) :=
  de_callB (call_max2 hc) (by
    rintro xs S P α F σ H vs Q R rv _ ⟨i, j, rfl, p⟩ q
    obtain ⟨v, us, rfl, r1, w, ws, rfl, r2, rfl⟩ := rv
    cases (show v = .int i from r1)
    cases (show w = .int j from r2)
    exact ⟨i, j, rfl, q S _ α F H _ p (.refl _ _ _) R trivial rfl⟩) hg hm (by decide +kernel) ha (by decide) (by decide) he hpl
theorem de_min2 (hm : X.mg "min" = none) (ha : DA X B (e :: es) tr) (hc : X.calm = true := by rfl) (hg : Gl X "min" := by rfl) (he : starEach (e :: es) X.env = (false, eval e X.env) :: starEach es X.env := by rfl) (hpl : (backTo pos (starEach es X.env)).any (·.1) = false := by rfl) : DE X B (.Call (.Name "min" p) (e :: es) [] pos) (dCB min2L tr) :=
  de_callB (call_min2 hc) (by
    rintro xs S P α F σ H vs Q R rv _ ⟨i, j, rfl, p⟩ q
    obtain ⟨v, us, rfl, r1, w, ws, rfl, r2, rfl⟩ := rv
    cases (show v = .int i from r1)
    cases (show w = .int j from r2)
    exact ⟨i, j, rfl, q S _ α F H _ p (.refl _ _ _) R trivial rfl⟩) hg hm (by decide +kernel) ha (by decide) (by decide) he hpl
def allL : DL := fun xs S P => ∃ x, ∃ bs : List Bool, xs = [x] ∧ lstOf S x = some (bs.map D.bl) ∧ P S (.fr (.bl (bs.all id)))
def anyL : DL := fun xs S P => ∃ x, ∃ bs : List Bool, xs = [x] ∧ lstOf S x = some (bs.map D.bl) ∧ P S (.fr (.bl (bs.any id)))
theorem de_all (hm : X.mg "all" = none) (ha : DA X B (e :: es) tr) (hc : X.calm = true := by rfl) (hg : Gl X "all" := by rfl) (he : starEach (e :: es) X.env = (false, eval e X.env) :: starEach es X.env := by rfl) (hpl : (backTo pos (starEach es X.env)).any (·.1) = false := by rfl) : DE X B (.Call (.Name "all" p) (e :: es) [] pos) (dCB allL tr) :=
  de_callB (cr_all hc) (by
    rintro xs S P α F σ H vs Q R rv _ ⟨x, bs, rfl, e, p⟩ q
    obtain ⟨v, us, rfl, r1, rfl⟩ := rv
    obtain ⟨a, ws, rfl, h1, rl⟩ := lst_at R r1 e
    rw [bls_inv rl] at h1
    exact ⟨a, bs, rfl, .of h1, q S _ α F H _ p (.refl _ _ _) R trivial rfl⟩) hg hm (by decide +kernel) ha (by decide) (by decide) he hpl
theorem de_any (hm : X.mg "any" = none) (ha : DA X B (e :: es) tr) (hc : X.calm = true := by rfl) (hg : Gl X "any" := by rfl) (he : starEach (e :: es) X.env = (false, eval e X.env) :: starEach es X.env := by rfl) (hpl : (backTo pos (starEach es X.env)).any (·.1) = false := by rfl) : DE X B (.Call (.Name "any" p) (e :: es) [] pos) (dCB anyL tr) :=
  de_callB (cr_any hc) (by
    rintro xs S P α F σ H vs Q R rv _ ⟨x, bs, rfl, e, p⟩ q
    obtain ⟨v, us, rfl, r1, rfl⟩ := rv
    obtain ⟨a, ws, rfl, h1, rl⟩ := lst_at R r1 e
    rw [bls_inv rl] at h1
    exact ⟨a, bs, rfl, .of h1, q S _ α F H _ p (.refl _ _ _) R trivial rfl⟩) hg hm (by decide +kernel) ha (by decide) (by decide) he hpl
/-- int(n), int(flag) -/
def intL : DL := fun xs S P => ∃ d, xs = [.fr d] ∧ match d with
  | .int i => P S (.fr (.int i))
  | .bl k => P S (.fr (.int (if k then 1 else 0)))
  | _ => False
theorem de_int1 (hm : X.mg "int" = none) (ha : DA X B (e :: es) tr) (hg : Gl X "int" := by rfl) (he : starEach (e :: es) X.env = (false, eval e X.env) :: starEach es X.env := by rfl) (hpl : (backTo pos (starEach es X.env)).any (·.1) = false := by rfl) : DE X B (.Call (.Name "int" p) (e :: es) [] pos) (dCB intL tr) :=
  de_callTy call_int1 (by
    rintro xs S P α F σ H vs Q R rv _ ⟨d, rfl, p⟩ q
    obtain ⟨v, us, rfl, r1, rfl⟩ := rv
    cases d with
    | int i => cases (show v = .int i from r1); exact .inl ⟨i, rfl, q S _ α F H _ p (.refl _ _ _) R trivial rfl⟩
    | bl k => cases (show v = .bl k from r1); exact .inr ⟨k, rfl, q S _ α F H _ p (.refl _ _ _) R trivial rfl⟩
    | _ => exact False.elim p) hg hm (by decide +kernel) ha (by decide) (by decide) he hpl
/-- str(n) -/
def strL : DL := fun xs S P => ∃ i, xs = [.fr (.int i)] ∧ i.natAbs.log2 < 1920 ∧ P S (.fr (.str (toString i)))
theorem de_str1 (hm : X.mg "str" = none) (ha : DA X B (e :: es) tr) (hg : Gl X "str" := by rfl) (he : starEach (e :: es) X.env = (false, eval e X.env) :: starEach es X.env := by rfl) (hpl : (backTo pos (starEach es X.env)).any (·.1) = false := by rfl) : DE X B (.Call (.Name "str" p) (e :: es) [] pos) (dCB strL tr) :=
  de_callTy call_str_int (by
    rintro xs S P α F σ H vs Q R rv _ ⟨i, rfl, hl, p⟩ q
    obtain ⟨v, us, rfl, r1, rfl⟩ := rv
    cases (show v = .int i from r1)
    exact ⟨i, rfl, hl, q S _ α F H _ p (.refl _ _ _) R trivial rfl⟩) hg hm (by decide +kernel) ha (by decide) (by decide) he hpl
/-- list(xs), tuple(xs): new, staying as it is -/
def listL : DL := fun xs S P => ∃ x ds, xs = [x] ∧ seqOf S x = some ds ∧ P S (.fr (.lst ds))
theorem de_list (hm : X.mg "list" = none) (ha : DA X B (e :: es) tr) (hg : Gl X "list" := by rfl) (he : starEach (e :: es) X.env = (false, eval e X.env) :: starEach es X.env := by rfl) (hpl : (backTo pos (starEach es X.env)).any (·.1) = false := by rfl) : DE X B (.Call (.Name "list" p) (e :: es) [] pos) (dCB listL tr) :=
  de_callTy call_list_of (by
    rintro xs S P α F σ H vs Q R rv _ ⟨x, ds, rfl, e, p⟩ q
    obtain ⟨v, us, rfl, r1, rfl⟩ := rv
    obtain ⟨a, ws, rfl, h1, rl⟩ := seq_at R r1 e
    refine ⟨a, ws, rfl, h1, fun l hl => ?_⟩
    obtain ⟨R2, sm⟩ := R.newF (o := .lst ws) hl
    exact q S _ α _ _ _ p ⟨sm, Nat.le_refl _, fun _ _ => rfl⟩ R2 trivial ⟨l, ws, rfl, upd_same, rl.mono sm⟩) hg hm (by decide +kernel) ha (by decide) (by decide) he hpl
def tupL : DL := fun xs S P => ∃ x ds, xs = [x] ∧ lstOf S x = some ds ∧ P S (.fr (.tup ds))
theorem de_tuple (hm : X.mg "tuple" = none) (ha : DA X B (e :: es) tr) (hg : Gl X "tuple" := by rfl) (he : starEach (e :: es) X.env = (false, eval e X.env) :: starEach es X.env := by rfl) (hpl : (backTo pos (starEach es X.env)).any (·.1) = false := by rfl) : DE X B (.Call (.Name "tuple" p) (e :: es) [] pos) (dCB tupL tr) :=
  de_callTy call_tuple_ofP (by
    rintro xs S P α F σ H vs Q R rv _ ⟨x, ds, rfl, e, p⟩ q
    obtain ⟨v, us, rfl, r1, rfl⟩ := rv
    obtain ⟨a, ws, rfl, h1, rl⟩ := lst_at R r1 e
    refine ⟨a, ws, rfl, .of h1, fun l o hl ho => ?_⟩
    obtain ⟨R2, sm⟩ := R.newF (o := .frz o (.tup ws)) hl
    exact q S _ α _ _ _ p ⟨sm, Nat.le_refl _, fun _ _ => rfl⟩ R2 trivial ⟨l, ws, o, rfl, upd_same, ho, rl.mono sm⟩) hg hm (by decide +kernel) ha (by decide) (by decide) he hpl
/-- sorted(ints) -/
def sortL : DL := fun xs S P => ∃ x, ∃ ns : List Int, xs = [x] ∧ lstOf S x = some (ns.map D.int) ∧ ∀ ns' : List Int, ns'.Perm ns → ns'.Pairwise (· ≤ ·) → P S (.fr (.lst (ns'.map D.int)))
theorem de_sorted (hm : X.mg "sorted" = none) (ha : DA X B (e :: es) tr) (hg : Gl X "sorted" := by rfl) (he : starEach (e :: es) X.env = (false, eval e X.env) :: starEach es X.env := by rfl) (hpl : (backTo pos (starEach es X.env)).any (·.1) = false := by rfl) : DE X B (.Call (.Name "sorted" p) (e :: es) [] pos) (dCB sortL tr) :=
  de_callB cr_sortedI (by
    rintro xs S P α F σ H vs Q R rv _ ⟨x, ns, rfl, e, p⟩ q
    obtain ⟨v, us, rfl, r1, rfl⟩ := rv
    obtain ⟨a, ws, rfl, h1, rl⟩ := lst_at R r1 e
    rw [ints_inv rl] at h1
    refine ⟨a, ns, rfl, .of h1, fun ns' l hp hs hl => ?_⟩
    obtain ⟨R2, sm⟩ := R.newF (o := .lst (ns'.map V.int)) hl
    exact q S _ α _ _ _ (p ns' hp hs) ⟨sm, Nat.le_refl _, fun _ _ => rfl⟩ R2 trivial ⟨l, _, rfl, upd_same, repL_ints _ _ _⟩) hg hm (by decide +kernel) ha (by decide) (by decide) he hpl
/-- isinstance(x, T), T a built-in type -/
def tyD : D → Option String
  | .non => some "NoneType"
  | .bl _ => some "bool"
  | .int _ => some "int"
  | .str _ => some "str"
  | .tup _ => some "tuple"
  | .lst _ => some "list"
  | .dic _ _ => some "dict"
  | _ => none
def isiL (T : String) : DL := fun xs S P => ∃ d t b, xs = [.fr d, .fr (.ty T)] ∧ tyD d = some t ∧ kitB t T = some b ∧ P S (.fr (.bl b))
theorem link_isi {T : String} : LinkL X B (rIsi X.K) (isiL T) := by
  rintro xs S P α F σ H vs Q R rv hin ⟨d, t, b, rfl, ht, hk, p⟩ q
  clear hin
  obtain ⟨v, us, rfl, r1, w, ws, rfl, r2, rfl⟩ := rv
  cases (show w = .ty T from r2)
  refine ⟨v, _, .type t, .type T, b, rfl, .ty T, ?_, kit_ty hk, q S _ α F H _ p (.refl _ _ _) R trivial rfl⟩
  cases d <;> simp only [tyD, Option.some.injEq, reduceCtorEq] at ht <;> subst ht
  case non => cases (show v = .non from r1); exact .base .non
  case bl k => cases (show v = .bl k from r1); exact .base (.bl k)
  case int i => cases (show v = .int i from r1); exact .base (.int i)
  case str x => cases (show v = .str x from r1); exact .base (.str x)
  case tup => obtain ⟨a, vs, o, rfl, h, _⟩ := r1; exact .fTuple (R.sub _ _ h)
  case lst => obtain ⟨a, vs, rfl, h, _⟩ := r1; exact .base (.lst (R.sub _ _ h))
  case dic => obtain ⟨a, vs, rfl, h, _⟩ := r1; exact .base (.dK (R.sub _ _ h))
theorem de_ty {T : String} {x : Str} (hm : X.mg x = none) (hv : bootBuiltins x = some (.type T) := by decide +kernel) (hg : Gl X x := by rfl) (hn : x ≠ "__name__" := by decide) (hd : (x == ("__debug__" : Str)) = false := by decide) : DE X B (.Name x pos) (dC (.ty T)) :=
  de_const (pe_bltn (v := .ty T) hg hm hv rfl hn hd) fun _ _ => rfl
theorem de_isi (T : String) (hm : X.mg "isinstance" = none) (ha : DA X B (e :: es) tr) (hg : Gl X "isinstance" := by rfl) (he : starEach (e :: es) X.env = (false, eval e X.env) :: starEach es X.env := by rfl) (hpl : (backTo pos (starEach es X.env)).any (·.1) = false := by rfl) : DE X B (.Call (.Name "isinstance" p) (e :: es) [] pos) (dCB (isiL T) tr) :=
  de_callB call_isi link_isi hg hm (by decide +kernel) ha (by decide) (by decide) he hpl
/-- the module's constants -/
theorem de_gint {x : Str} {i : Int} (hm : ∃ t, X.mg x = some (.int i t)) (hg : Gl X x := by rfl) (hd : (x == ("__debug__" : Str)) = false := by decide) : DE X B (.Name x pos) (dC (.int i)) := by
  obtain ⟨t, h⟩ := hm
  exact de_const (pe_glob (v := .int i) hg h ⟨t, rfl⟩ hd) fun _ _ => rfl
theorem de_gstr {x z : Str} (hm : ∃ t, X.mg x = some (.str z t)) (hg : Gl X x := by rfl) (hd : (x == ("__debug__" : Str)) = false := by decide) : DE X B (.Name x pos) (dC (.str z)) := by
  obtain ⟨t, h⟩ := hm
  exact de_const (pe_glob (v := .str z) hg h ⟨t, rfl⟩ hd) fun _ _ => rfl
def isNon : D → Bool
  | .non => true
  | _ => false
theorem isNon_ok {d : D} {v : V} (r : Rep K F d v) : decide (v = .non) = isNon d := by
  cases d <;> simp only [Rep] at r
  case non => subst r; rfl
  case bl => subst r; rfl
  case int => subst r; rfl
  case str => subst r; rfl
  case ty => subst r; rfl
  case ref => subst r; rfl
  case scr => obtain ⟨a, rfl, _⟩ := r; rfl
  case ins => obtain ⟨a, dx, vs, rfl, _⟩ := r; rfl
  case tup => obtain ⟨a, vs, o, rfl, _⟩ := r; rfl
  all_goals (obtain ⟨a, vs, rfl, _⟩ := r; rfl)
def isNX (neg : Bool) : D1 := fun x S P => ∃ d, x = .fr d ∧ P S (.fr (.bl (if neg then !isNon d else isNon d)))
theorem isN_weak (neg : Bool) {t : TE} (h : ∀ σ H Q, ta = ta → liftE X.K B ta σ H (fun x H1 => Q (.bl (if neg then !decide (x = .non) else decide (x = .non))) H1) → t σ H Q) : ∀ σ H Q, liftE X.K B (dUn (isNX neg) ta) σ H Q → t σ H Q := by
  rintro σ H Q ⟨S, P, α, F, R, p, q⟩
  refine h σ H Q rfl ⟨S, _, α, F, R, p, fun S1 r α1 F1 H1 v ⟨d, er, p1⟩ g1 R1 _ rv => ?_⟩
  subst er
  have e := isNon_ok (show Rep X.K F1 d v from rv)
  rw [e]
  exact q S1 _ α1 F1 H1 _ p1 g1 R1 trivial rfl
theorem de_isN {j : Nat} {p' : Pos} (ha : DE X B a ta) : DE X B (.Compare a [.Is] [.Constant .none j p'] pos) (dUn (isNX false) ta) :=
  (pe_cmp (pc_isN ha) rfl).weak (isN_weak false fun σ H Q _ h => h)
theorem de_notN {j : Nat} {p' : Pos} (ha : DE X B a ta) : DE X B (.Compare a [.IsNot] [.Constant .none j p'] pos) (dUn (isNX true) ta) :=
  (pe_cmp (pc_notN ha) rfl).weak (isN_weak true fun σ H Q _ h => h)
/-! ### lists that are written -/
variable {o : Expr} {apos cpos : Pos}
/-- xs.append(e) -/
def dApp (to : DTE) (t : DTA) : DTE := fun S P => to S fun S1 x => ∃ k ds0, x = .cell k ∧ S1.μ[k]? = some (some (.lst ds0)) ∧ t S1 fun S2 rs => ∃ ds d, rs = [.fr d] ∧ S2.μ[k]? = some (some (.lst ds)) ∧ ds.length < 1000000 ∧ P ⟨S2.ρ, S2.μ.set k (some (.lst (ds ++ [d])))⟩ (.fr .non)
theorem lt_line {n : Nat} (h : n < 1000000) : n < sizeLine := by rw [sizeLine_eq]; omega
theorem de_append (ho : DE X B o ta) (ha : DA X B [e] tr) (hbase : attributeBase o "append" X.env (eval o X.env) = eval o X.env := by rfl)
    (hfew : ((backTo cpos (starEach [e] X.env)).all (fun x => !x.1) && (backToKw cpos (keywordEach [] X.env)).all (fun x => x.1.isSome)
      && decide (([e] : List Expr).length + ([] : List Keyword).length + (if ([] : List Keyword).isEmpty then 0 else 1) < 30)) = true := by rfl)
    (hline : (apos.endLine == cpos.line) = true := by rfl) (hs : starEach [e] X.env = (false, eval e X.env) :: starEach [] X.env := by rfl) (hplain : (backTo cpos (starEach [] X.env)).any (·.1) = false := by rfl) :
    DE X B (.Call (.Attribute o "append" apos) [e] [] cpos) (dApp ta tr) :=
  (pe_bm PySem.F.plainAttrs_list PySem.F.slot_list_append PySem.F.type_list_append mt_append ho ha hbase hfew hline hs hplain).weak fun σ H Q ⟨S, P, α, F, R, p, q⟩ => ⟨S, _, α, F, R, p, fun S1 x α1 F1 H1 v ⟨k, ds0, ex, h0, p1⟩ g1 R1 i1 r1 => by
    subst ex
    have hv : v = .ref (α1 k) := r1
    subst hv
    obtain ⟨vs0, hl0, _⟩ := (R1.cells k _ h0).2
    refine ⟨.inl ⟨rfl, _, .inl (.inl hl0)⟩, S1, _, α1, F1, R1, p1, fun S2 rs α2 F2 H2 vs ⟨ds, d, er, h2, hl, p2⟩ g2 R2 _ r2 => ?_⟩
    subst er
    obtain ⟨w, us, rfl, rw', rfl⟩ := r2
    obtain ⟨vs2, hl2, rl⟩ := (R2.cells k _ h2).2
    have hk : α2 k = α1 k := g2.al k i1
    refine ⟨α2 k, vs2, w, by rw [hk], rfl, hl2, by rw [rl.length]; exact lt_line hl, ?_⟩
    obtain ⟨R3, g3⟩ := R2.write (o := .lst (vs2 ++ [w])) (cc := .lst (ds ++ [d])) h2 ⟨_, upd_same, rl.append (.one rw')⟩ (fun _ _ _ z => by cases z)
    exact q _ _ _ _ _ _ p2 ((g1.trans g2).trans g3) R3 trivial rfl⟩
end
end TD
namespace TD
open PySem PySem.Spec PyProof.Rows L2
/-- the text's def st stands at the module's name x -/
structure Defd (K : PySem.W.Frag) (mg : Str → Option Value) (x : Str) (st : Stmt) (ps : List Str) : Prop where
  ex : ∃ f fd, mg x = some (.ref f) ∧ Fun K x x st f fd ∧ Binds K fd ps []
/-- the def x of the module keeps the promise dsp -/
structure DefOk (P : Program) (w : World) (K : PySem.W.Frag) (mg : Str → Option Value) (base : Heap) (k : Nat) (x : Str) (ps : List Str) (dsp : DSp) : Prop where
  ex : ∃ f fd, mg x = some (.ref f) ∧ PySem.W.keepIn K (.ref f) = true ∧ Binds K fd ps [] ∧ FnOk P w K mg base (L2.CX P w) k f fd ps (spD K dsp)
section
variable {P : Program} {w : World} {K : PySem.W.Frag} {mg : Str → Option Value} {base : Heap}
theorem Defd.ok {x : Str} {st : Stmt} {N ps : List Str} {k : Nat} {dsp : DSp} (Df : Defd K mg x st ps) (S : FnScope N ps (defScope st)) (np : Nat) (len : ∀ as Pc Xc, dsp as Pc Xc → as.length = ps.length ∧ (cellsD as).length = np)
    (h : ∀ (f : Addr) (cdv : Value) (A : Around) (outer : List Env) (s : Shared) (H : Hp) (E : XK) (B : Base) (as : List Arg) (Pc : List CC → Arg → Prop) (Xc : List CC → Exn → Prop), dsp as Pc Xc → B.P0.length = np → Room k (A.deeper (envOfC x (defScope st) s.heap.objs.size f cdv)) →
        Takes (cxOf (L2.CX P w) P w K mg base N x (defScope st) f cdv A outer s H E) (wOf K B (pxOf np Xc)) →
        PassesOwn (model P w) (A.deeper (envOfC x (defScope st) s.heap.objs.size f cdv)) (envOfC x (defScope st) s.heap.objs.size f cdv) (cxOf (L2.CX P w) P w K mg base N x (defScope st) f cdv A outer s H E).xe →
        ∃ td, DSs (cxOf (L2.CX P w) P w K mg base N x (defScope st) f cdv A outer s H E) B (defBody st) td ∧ td (endsOf np Pc) (S0 N.length as)) : DefOk P w K mg base (k + 1) x ps dsp := by
  obtain ⟨f, fd, e, Fu, b⟩ := Df.ex
  exact ⟨f, fd, e, Fu.kp, b, okD np Fu S len fun cdv A outer s H E B as Pc Xc d hB hr tk => h f cdv A outer s H E B as Pc Xc d hB hr tk (passes_of (X := cxOf (L2.CX P w) P w K mg base N x (defScope st) f cdv A outer s H E) rfl)⟩
theorem DefOk.mono {x : Str} {ps : List Str} {k j : Nat} {dsp : DSp} (h : DefOk P w K mg base k x ps dsp) (hj : k ≤ j) : DefOk P w K mg base j x ps dsp :=
  let ⟨f, fd, e, kp, b, F⟩ := h.ex
  ⟨f, fd, e, kp, b, F.mono hj⟩
end
section
variable {X : Cx} {B : Base} {e : Expr} {es : List Expr} {tr : DTA} {pos p : Pos} {x : Str} {k : Nat} {ps : List Str} {dsp : DSp} {PX : PXT}
theorem de_callD (Fo : DefOk X.prog X.w X.K X.mg X.base k x ps dsp) (hr : Room k X.A) (tk : Takes X (wOf X.K B PX))
    (ha : DA X B (e :: es) tr) (hg : Gl X x := by rfl) (hdb : (x == ("__debug__" : Str)) = false := by decide) (he : starEach (e :: es) X.env = (false, eval e X.env) :: starEach es X.env := by rfl) (hpl : (backTo pos (starEach es X.env)).any (·.1) = false := by rfl) :
    DE X B (.Call (.Name x p) (e :: es) [] pos) (dCB (callD dsp PX) tr) := by
  obtain ⟨f, fd, h1, h2, h3, h4⟩ := Fo.ex
  exact de_call h4 hr h1 h2 h3 tk hg ha hdb he hpl
end
/-- the name in slot i -/
theorem dv {X : Cx} {B : Base} (i : Nat) {x : Str} {pos : Pos} (hN : X.N[i]? = some x := by rfl) (hv : Vis X.env.scope x := by first | exact Or.inl rfl | exact Or.inr (Or.inl rfl) | exact Or.inr (Or.inr rfl)) (hd : (x == ("__debug__" : Str)) = false := by decide)
    (hcd : (x == ("__classdict__" : Str)) = false := by decide) : DE X B (.Name x pos) (dVar i) := de_var (pe_var hN hv hd hcd)
end TD
/-! TD8: pop, items stored, dicts. -/
namespace TD
open PySem PySem.Spec PyProof.Rows L2
section
variable {X : Cx} {B : Base} {K : PySem.W.Frag} {a b c e o i : Expr} {es : List Expr} {ta tb tc : DTE} {tr : DTA} {tA : DTT} {t : DTS} {pos p apos cpos : Pos} {S : DS} {α : Nat → Addr} {F : Hp} {σ : L2.St} {H : Hp}
theorem RepL.dropLast : ∀ {ds : List D} {vs : List V}, RepL K F ds vs → RepL K F ds.dropLast vs.dropLast := fun {ds vs} h => by
  rw [List.dropLast_eq_take, List.dropLast_eq_take, h.length]
  exact h.take _
theorem RepL.eraseIdx : ∀ {ds : List D} {vs : List V} (i : Nat), RepL K F ds vs → RepL K F (ds.eraseIdx i) (vs.eraseIdx i) := fun {ds vs} i h => by
  rw [List.eraseIdx_eq_take_drop_succ, List.eraseIdx_eq_take_drop_succ]
  exact (h.take _).append (h.drop _)
/-- xs.pop() -/
def dPop (to : DTE) : DTE := fun S P => to S fun S1 x => ∃ k ds d, x = .cell k ∧ S1.μ[k]? = some (some (.lst ds)) ∧ ds[ds.length - 1]? = some d ∧ P ⟨S1.ρ, S1.μ.set k (some (.lst ds.dropLast))⟩ (.fr d)
theorem de_pop (ho : DE X B o ta) (hbase : attributeBase o "pop" X.env (eval o X.env) = eval o X.env := by rfl) (hline : (apos.endLine == cpos.line) = true := by rfl) : DE X B (.Call (.Attribute o "pop" apos) [] [] cpos) (dPop ta) :=
  (pe_bm0 PySem.F.plainAttrs_list PySem.F.slot_list_pop PySem.F.type_list_pop mt_pop ho hbase hline).weak fun σ H Q ⟨S, P, α, F, R, p, q⟩ => ⟨S, _, α, F, R, p, fun S1 x α1 F1 H1 v ⟨k, ds, d, ex, h0, hd, p1⟩ g1 R1 i1 r1 => by
    subst ex
    have hv : v = .ref (α1 k) := r1
    subst hv
    obtain ⟨vs, hl, rl⟩ := (R1.cells k _ h0).2
    obtain ⟨w, hw, rw'⟩ := rl.get hd
    refine ⟨.inl ⟨rfl, _, .inl (.inl hl)⟩, α1 k, vs, w, rfl, rfl, hl, by rw [rl.length]; exact hw, ?_⟩
    obtain ⟨R3, g3⟩ := R1.write (o := .lst vs.dropLast) (cc := .lst ds.dropLast) h0 ⟨_, upd_same, rl.dropLast⟩ (fun _ _ _ z => by cases z)
    exact q _ _ _ _ _ _ p1 (g1.trans g3) R3 trivial rw'⟩
/-- xs.pop(0) -/
def dPop0 (to : DTE) (t : DTA) : DTE := fun S P => to S fun S1 x => ∃ k ds0, x = .cell k ∧ S1.μ[k]? = some (some (.lst ds0)) ∧ t S1 fun S2 rs => ∃ d ds, rs = [.fr (.int 0)] ∧ S2.μ[k]? = some (some (.lst (d :: ds))) ∧ P ⟨S2.ρ, S2.μ.set k (some (.lst ds))⟩ (.fr d)
theorem de_pop0 (ho : DE X B o ta) (ha : DA X B [e] tr) (hbase : attributeBase o "pop" X.env (eval o X.env) = eval o X.env := by rfl)
    (hfew : ((backTo cpos (starEach [e] X.env)).all (fun x => !x.1) && (backToKw cpos (keywordEach [] X.env)).all (fun x => x.1.isSome)
      && decide (([e] : List Expr).length + ([] : List Keyword).length + (if ([] : List Keyword).isEmpty then 0 else 1) < 30)) = true := by rfl)
    (hline : (apos.endLine == cpos.line) = true := by rfl) (hs : starEach [e] X.env = (false, eval e X.env) :: starEach [] X.env := by rfl) (hplain : (backTo cpos (starEach [] X.env)).any (·.1) = false := by rfl) :
    DE X B (.Call (.Attribute o "pop" apos) [e] [] cpos) (dPop0 ta tr) :=
  (pe_bm PySem.F.plainAttrs_list PySem.F.slot_list_pop PySem.F.type_list_pop mt_popAt ho ha hbase hfew hline hs hplain).weak fun σ H Q ⟨S, P, α, F, R, p, q⟩ => ⟨S, _, α, F, R, p, fun S1 x α1 F1 H1 v ⟨k, ds0, ex, h0, p1⟩ g1 R1 i1 r1 => by
    subst ex
    have hv : v = .ref (α1 k) := r1
    subst hv
    obtain ⟨vs0, hl0, _⟩ := (R1.cells k _ h0).2
    refine ⟨.inl ⟨rfl, _, .inl (.inl hl0)⟩, S1, _, α1, F1, R1, p1, fun S2 rs α2 F2 H2 vs ⟨d, ds, er, h2, p2⟩ g2 R2 _ r2 => ?_⟩
    subst er
    obtain ⟨w, us, rfl, rw', rfl⟩ := r2
    cases (show w = .int 0 from rw')
    obtain ⟨vs2, hl2, rl⟩ := (R2.cells k _ h2).2
    obtain ⟨u, vs3, rfl, ru, rl3⟩ := rl
    have hk : α2 k = α1 k := g2.al k i1
    refine ⟨α2 k, u :: vs3, 0, 0, u, by rw [hk], rfl, hl2, by decide, by decide, ?_, rfl, ?_⟩
    · unfold seqIndex?
      simp
    · obtain ⟨R3, g3⟩ := R2.write (o := .lst vs3) (cc := .lst ds) h2 ⟨_, upd_same, rl3⟩ (fun _ _ _ z => by cases z)
      exact q _ _ _ _ _ _ p2 ((g1.trans g2).trans g3) R3 trivial ru⟩
/-- xs[i] = e -/
def dSetIx (te to ti : DTE) : DTS := fun P S => te S fun S1 r => to S1 fun S2 x => ti S2 fun S3 y => ∃ d k ds n j, r = .fr d ∧ x = .cell k ∧ y = .fr (.int n) ∧ S3.μ[k]? = some (some (.lst ds)) ∧ ixN ds.length n = some j ∧ P.nx ⟨S3.ρ, S3.μ.set k (some (.lst (ds.set j d)))⟩
theorem ds_setIx {tpos : Pos} (he : DE X B e tc) (ho : DE X B o ta) (hi : DE X B i tb) (hs : swapsWithSole [.Subscript o i tpos] e pos.line X.env = pure false := by rfl) (hw : swappedStores [.Subscript o i tpos] e X.env = pure none := by rfl) (hst : ∀ v, assign (.Subscript o i tpos) X.env v = (do
      let ov ← holding [v] (eval o X.env)
      let iv ← holding [v, ov] (eval i X.env)
      standAt tpos
      holding [v, ov, iv] (setItem ov iv v)
      release [v, ov, iv] []) := by intro _; rfl) :
    DSt X B (.Assign [.Subscript o i tpos] e pos) (dSetIx tc ta tb) :=
  (ps_asg he (pg_sub ho hi set_list hst) hs hw).weak fun D σ H ⟨S, P, α, F, R, p, q1, _⟩ => ⟨S, _, α, F, R, p, fun S1 r α1 F1 H1 v p1 g1 R1 i1 r1 =>
    ⟨S1, _, α1, F1, R1, p1, fun S2 x α2 F2 H2 u p2 g2 R2 i2 r2 => ⟨S2, _, α2, F2, R2, p2, fun S3 y α3 F3 H3 w ⟨d, k, ds, n, j, er, ex, ey, h3, hj, p3⟩ g3 R3 _ r3 => by
      subst er ex ey
      have hu : u = .ref (α2 k) := r2
      subst hu
      cases (show w = .int n from r3)
      obtain ⟨vs, hl, rl⟩ := (R3.cells k _ h3).2
      have hk : α3 k = α2 k := g3.al k i2
      have rd : Rep X.K F3 d v := Rep.mono (g2.sub.trans g3.sub) _ _ r1
      refine ⟨α3 k, vs, n, j, by rw [hk], rfl, hl, by rw [rl.length]; exact hj, ?_⟩
      obtain ⟨R4, g4⟩ := R3.write (o := .lst (vs.set j v)) (cc := .lst (ds.set j d)) h3 ⟨_, upd_same, rl.set j rd⟩ (fun _ _ _ z => by cases z)
      exact q1 _ _ _ _ _ p3 (((g1.trans g2).trans g3).trans g4) R4⟩⟩⟩
/-! ### dicts -/
def getD' (ks : List Key) (ds : List D) (k : Key) : Option D := match ks, ds with
  | q :: ks, d :: ds => if q = k then some d else getD' ks ds k
  | _, _ => none
def hasK (ks : List Key) (k : Key) : Bool := ks.any fun q => decide (q = k)
def putKs (ks : List Key) (k : Key) : List Key := if hasK ks k then ks else ks ++ [k]
def putDs {β : Type} (ks : List Key) (ds : List β) (k : Key) (d : β) : List β := if hasK ks k then (ks.zip ds).map (fun q => if q.1 = k then d else q.2) else ds ++ [d]
def keyD : D → Option Key
  | .int i => some (.inl i)
  | .str x => some (.inr x)
  | _ => none
theorem keyD_rep {d : D} {k : Key} {v : V} (h : keyD d = some k) (r : Rep K F d v) : v = kV k := by
  cases d <;> simp only [keyD, Option.some.injEq, reduceCtorEq] at h <;> subst h <;> exact r
theorem valV_rep {k : Key} : ∀ {ks : List Key} {ds : List D} {vs : List V}, ks.length = ds.length → RepL K F ds vs → (match getD' ks ds k with
    | some d => ∃ v, valV (ks.zip vs) k = some v ∧ Rep K F d v
    | none => valV (ks.zip vs) k = none)
  | [], [], _, _, h => by simp only [RepL] at h; subst h; rfl
  | q :: ks, d :: ds, _, hl, h => by
    obtain ⟨v, r, rfl, h2, h3⟩ := h
    unfold getD'
    by_cases e : q = k
    · rw [if_pos e]
      exact ⟨v, valV_pos (p := (q, v)) e, h2⟩
    · rw [if_neg e, List.zip_cons_cons, valV_neg (p := (q, v)) e]
      exact valV_rep (by simpa using hl) h3
  | [], _ :: _, _, hl, _ => by simp at hl
  | _ :: _, [], _, hl, _ => by simp at hl
theorem zip_any {β : Type} {k : Key} : ∀ {ks : List Key} {vs : List β}, ks.length = vs.length → ((ks.zip vs).any fun kv => decide (kv.1 = k)) = hasK ks k
  | [], [], _ => rfl
  | q :: ks, v :: vs, hl => by
    rw [List.zip_cons_cons, List.any_cons, zip_any (by simpa using hl)]
    rfl
  | [], _ :: _, hl => by simp at hl
  | _ :: _, [], hl => by simp at hl
theorem zip_map {β : Type} {k : Key} {v : β} : ∀ {ks : List Key} {vs : List β}, ks.length = vs.length → (ks.zip vs).map (fun kv => if kv.1 = k then (kv.1, v) else kv) = ks.zip ((ks.zip vs).map fun q => if q.1 = k then v else q.2)
  | [], [], _ => rfl
  | q :: ks, u :: vs, hl => by
    simp only [List.zip_cons_cons, List.map_cons]
    rw [zip_map (by simpa using hl)]
    by_cases e : q = k <;> simp [e]
  | [], _ :: _, hl => by simp at hl
  | _ :: _, [], hl => by simp at hl
theorem putK_zip {k : Key} {v : V} {ks : List Key} {vs : List V} (hl : ks.length = vs.length) : putK (ks.zip vs) k v = (putKs ks k).zip (putDs ks vs k v) := by
  unfold putK putKs putDs
  rw [zip_any hl]
  by_cases h : hasK ks k = true
  · rw [if_pos h, if_pos h, if_pos h]
    exact zip_map hl
  · rw [if_neg h, if_neg h, if_neg h]
    rw [List.zip_append hl]
    rfl
theorem repL_map {k : Key} {d : D} {v : V} (r : Rep K F d v) : ∀ {ks : List Key} {ds : List D} {vs : List V}, ks.length = ds.length → RepL K F ds vs → RepL K F ((ks.zip ds).map fun q => if q.1 = k then d else q.2) ((ks.zip vs).map fun q => if q.1 = k then v else q.2)
  | [], [], _, _, h => by simp only [RepL] at h; subst h; exact rfl
  | q :: ks, e :: ds, _, hl, h => by
    obtain ⟨u, us, rfl, h2, h3⟩ := h
    simp only [List.zip_cons_cons, List.map_cons]
    refine RepL.cons ?_ (repL_map r (by simpa using hl) h3)
    by_cases z : q = k <;> simp [z, r, h2]
  | [], _ :: _, _, hl, _ => by simp at hl
  | _ :: _, [], _, hl, _ => by simp at hl
theorem putDs_rep {k : Key} {d : D} {v : V} {ks : List Key} {ds : List D} {vs : List V} (hl : ks.length = ds.length) (h : RepL K F ds vs) (r : Rep K F d v) : RepL K F (putDs ks ds k d) (putDs ks vs k v) := by
  unfold putDs
  by_cases z : hasK ks k = true
  · rw [if_pos z, if_pos z]; exact repL_map r hl h
  · rw [if_neg z, if_neg z]; exact h.append (.one r)
theorem putDs_length {β : Type} {k : Key} {d : β} {ks : List Key} {ds : List β} (hl : ks.length = ds.length) : (putKs ks k).length = (putDs ks ds k d).length := by
  unfold putKs putDs
  by_cases z : hasK ks k = true
  · rw [if_pos z, if_pos z]; simp [hl]
  · rw [if_neg z, if_neg z]; simp [hl]
/-- a dict: data, or owned -/
def dicOf (S : DS) : SV → Option (List Key × List D)
  | .fr (.dic ks ds) => some (ks, ds)
  | .cell k => match S.μ[k]? with
    | some (some (.dic ks ds)) => some (ks, ds)
    | _ => none
  | _ => none
theorem dic_at (R : StR K B S α F σ H) {r : SV} {v : V} {ks : List Key} {ds : List D} (h : RepV K F α r v) (e : dicOf S r = some (ks, ds)) : ∃ a vs, v = .ref a ∧ H a = some (.dK (ks.zip vs)) ∧ ks.length = ds.length ∧ RepL K F ds vs := by
  cases r with
  | fr d =>
    cases d <;> simp only [dicOf, Option.some.injEq, reduceCtorEq, Prod.mk.injEq] at e
    obtain ⟨rfl, rfl⟩ := e
    obtain ⟨a, vs, e1, h1, l, h2⟩ := h
    exact ⟨a, vs, e1, R.sub _ _ h1, l, h2⟩
  | cell k =>
    simp only [dicOf] at e
    split at e
    · rename_i ks' ds' hc
      simp only [Option.some.injEq, Prod.mk.injEq] at e
      obtain ⟨rfl, rfl⟩ := e
      obtain ⟨vs, h1, l, h2⟩ := (R.cells k _ hc).2
      exact ⟨_, vs, h, h1, l, h2⟩
    · cases e
/-- d[k], there -/
def dDget (to ti : DTE) : DTE := fun S P => to S fun S1 x => ti S1 fun S2 y => ∃ ks ds q k d, dicOf S2 x = some (ks, ds) ∧ y = .fr q ∧ keyD q = some k ∧ getD' ks ds k = some d ∧ P S2 (.fr d)
theorem de_dget (hu : X.A.units + 1 < cLine) (ho : DE X B o ta) (hi : DE X B i tb) (hs : NoSl i := by intro _ _; rfl) : DE X B (.Subscript o i pos) (dDget ta tb) :=
  (pe_dget hu ho hi hs).weak fun σ H Q ⟨S, P, α, F, R, p, q⟩ => ⟨S, _, α, F, R, p, fun S1 x α1 F1 H1 v p1 g1 R1 i1 r1 => ⟨S1, _, α1, F1, R1, p1, fun S2 y α2 F2 H2 u ⟨ks, ds, z, k, d, hd, ey, hk, hg, p2⟩ g2 R2 _ r2 => by
    subst ey
    have e1 := keyD_rep hk r2
    subst e1
    obtain ⟨a, vs, rfl, h1, l, rl⟩ := dic_at R2 (r1.grow g2 i1) hd
    have := valV_rep (k := k) l rl
    rw [hg] at this
    obtain ⟨w, hw, rw'⟩ := this
    exact ⟨a, w, rfl, by rw [← hw]; exact DGet.k h1, q _ _ _ _ _ _ p2 (g1.trans g2) R2 trivial rw'⟩⟩⟩
/-- k in d -/
def dDin (neg : Bool) (ti to : DTE) : DTE := fun S P => ti S fun S1 y => to S1 fun S2 x => ∃ ks ds q k, dicOf S2 x = some (ks, ds) ∧ y = .fr q ∧ keyD q = some k ∧ P S2 (.fr (.bl (if neg then !hasK ks k else hasK ks k)))
theorem getD_some {k : Key} : ∀ {ks : List Key} {ds : List D}, ks.length = ds.length → (getD' ks ds k).isSome = hasK ks k
  | [], [], _ => rfl
  | q :: ks, d :: ds, hl => by
    unfold getD'
    by_cases e : q = k
    · simp [e, hasK]
    · rw [if_neg e, getD_some (by simpa using hl)]; simp [hasK, e]
  | [], _ :: _, hl => by simp at hl
  | _ :: _, [], hl => by simp at hl
theorem valV_some {k : Key} {ks : List Key} {ds : List D} {vs : List V} (l : ks.length = ds.length) (rl : RepL K F ds vs) : (valV (ks.zip vs) k).isSome = hasK ks k := by
  have := valV_rep (k := k) l rl
  rw [← getD_some l]
  cases e : getD' ks ds k with
  | none => rw [e] at this; rw [this]; rfl
  | some d => rw [e] at this; obtain ⟨w, hw, _⟩ := this; rw [hw]; rfl
theorem din_weak {σ : L2.St} {H : Hp} {Q : VK} (neg : Bool) {Q' : V → Hp → V → Hp → Prop} (hQ : ∀ y H1 a H2 k kvs, Q (.bl (if neg then !(valV kvs k).isSome else (valV kvs k).isSome)) H2 → y = kV k → H2 a = some (.dK kvs) → Q' y H1 (.ref a) H2) :
    liftE X.K B (dDin neg tb ta) σ H Q → liftE X.K B tb σ H fun y H1 => liftE X.K B ta σ H1 fun x H2 => Q' y H1 x H2 := fun ⟨S, P, α, F, R, p, q⟩ => ⟨S, _, α, F, R, p, fun S1 y α1 F1 H1 u p1 g1 R1 i1 r1 => ⟨S1, _, α1, F1, R1, p1, fun S2 x α2 F2 H2 v ⟨ks, ds, z, k, hd, ey, hk, p2⟩ g2 R2 _ r2 => by
    subst ey
    have e1 := keyD_rep hk r1
    subst e1
    obtain ⟨a, vs, rfl, h1, l, rl⟩ := dic_at R2 r2 hd
    refine hQ _ _ a _ k _ ?_ rfl h1
    rw [valV_some l rl]
    exact q _ _ _ _ _ _ p2 (g1.trans g2) R2 trivial rfl⟩⟩
theorem de_din (hu : X.A.units + 1 < cLine) (hi : DE X B i tb) (ho : DE X B o ta) (hm : behindInMarks .In o = false := by rfl) : DE X B (.Compare i [.In] [o] pos) (dDin false tb ta) :=
  (pe_cmp (pc_din hu hi ho) hm).weak fun σ H Q h => din_weak false (Q' := fun y _ x H2 => ∃ a o, x = .ref a ∧ DGet H2 a y o ∧ Q (.bl o.isSome) H2) (fun y H1 a H2 k kvs h1 h2 h3 => ⟨a, _, rfl, by rw [h2]; exact DGet.k h3, h1⟩) h
theorem de_dnotin (hu : X.A.units + 1 < cLine) (hi : DE X B i tb) (ho : DE X B o ta) (hm : behindInMarks .NotIn o = false := by rfl) : DE X B (.Compare i [.NotIn] [o] pos) (dDin true tb ta) :=
  (pe_cmp (pc_dnotin hu hi ho) hm).weak fun σ H Q h => din_weak true (Q' := fun y _ x H2 => ∃ a o, x = .ref a ∧ DGet H2 a y o ∧ Q (.bl (!o.isSome)) H2) (fun y H1 a H2 k kvs h1 h2 h3 => ⟨a, _, rfl, by rw [h2]; exact DGet.k h3, h1⟩) h
theorem dt_din (hu : X.A.units + 1 < cLine) (hi : DE X B i tb) (ho : DE X B o ta) (hm : behindInMarks .In o = false := by rfl) : DT X B (.Compare i [.In] [o] pos) (dB (dDin false tb ta)) :=
  (pt_cmp (pc_din hu hi ho) hm).weak fun σ H Q h => din_weak false (Q' := fun y _ x H2 => ∃ a o, x = .ref a ∧ DGet H2 a y o ∧ ∃ c, V.bl o.isSome = .bl c ∧ Q c H2) (fun y H1 a H2 k kvs ⟨c, e, h1⟩ h2 h3 => ⟨a, _, rfl, by rw [h2]; exact DGet.k h3, c, e, h1⟩) (liftB h)
theorem dt_dnotin (hu : X.A.units + 1 < cLine) (hi : DE X B i tb) (ho : DE X B o ta) (hm : behindInMarks .NotIn o = false := by rfl) : DT X B (.Compare i [.NotIn] [o] pos) (dB (dDin true tb ta)) :=
  (pt_cmp (pc_dnotin hu hi ho) hm).weak fun σ H Q h => din_weak true (Q' := fun y _ x H2 => ∃ a o, x = .ref a ∧ DGet H2 a y o ∧ ∃ c, V.bl (!o.isSome) = .bl c ∧ Q c H2) (fun y H1 a H2 k kvs ⟨c, e, h1⟩ h2 h3 => ⟨a, _, rfl, by rw [h2]; exact DGet.k h3, c, e, h1⟩) (liftB h)
/-- d[k] = e, d owned -/
def dDput (te to ti : DTE) : DTS := fun P S => te S fun S1 r => to S1 fun S2 x => ti S2 fun S3 y => ∃ d n ks ds q k, r = .fr d ∧ x = .cell n ∧ y = .fr q ∧ keyD q = some k ∧ S3.μ[n]? = some (some (.dic ks ds)) ∧ ks.length < 1000000 ∧ P.nx ⟨S3.ρ, S3.μ.set n (some (.dic (putKs ks k) (putDs ks ds k d)))⟩
theorem ds_dput {tpos : Pos} (hu : X.A.units + 1 < cLine) (he : DE X B e tc) (ho : DE X B o ta) (hi : DE X B i tb) (hs : swapsWith e (some (.Subscript o i tpos)) pos.line X.env = pure false := by rfl) :
    DSt X B (.Assign [.Subscript o i tpos] e pos) (dDput tc ta tb) :=
  (ps_dput hu ho hi he hs).weak fun D σ H ⟨S, P, α, F, R, p, q1, _⟩ => ⟨S, _, α, F, R, p, fun S1 r α1 F1 H1 v p1 g1 R1 i1 r1 =>
    ⟨S1, _, α1, F1, R1, p1, fun S2 x α2 F2 H2 u p2 g2 R2 i2 r2 => ⟨S2, _, α2, F2, R2, p2, fun S3 y α3 F3 H3 w ⟨d, n, ks, ds, z, k, er, ex, ey, hk, h3, hz, p3⟩ g3 R3 _ r3 => by
      subst er ex ey
      have hu : u = .ref (α2 n) := r2
      subst hu
      have e1 := keyD_rep hk r3
      subst e1
      obtain ⟨vs, hl, l, rl⟩ := (R3.cells n _ h3).2
      have hk' : α3 n = α2 n := g3.al n i2
      have rd : Rep X.K F3 d v := Rep.mono (g2.sub.trans g3.sub) _ _ r1
      have l2 : ks.length = vs.length := by rw [rl.length]; exact l
      refine ⟨α3 n, _, by rw [hk'], DPut.k hl (by rw [List.length_zip]; exact Nat.lt_of_le_of_lt (Nat.min_le_left _ _) (lt_line hz)), ?_⟩
      rw [putK_zip l2]
      obtain ⟨R4, g4⟩ := R3.write (o := .dK ((putKs ks k).zip (putDs ks vs k v))) (cc := .dic (putKs ks k) (putDs ks ds k d)) h3 ⟨_, upd_same, putDs_length l, putDs_rep l rl rd⟩ (fun _ _ _ z => by cases z)
      exact q1 _ _ _ _ _ p3 (((g1.trans g2).trans g3).trans g4) R4⟩⟩⟩
end
end TD
/-! TD9: comprehensions. -/
namespace TD
open PySem PySem.Spec PyProof.Rows L2
section
variable {X : Cx} {B : Base} {K : PySem.W.Frag} {a b c e o i : Expr} {es : List Expr} {ta tb tc : DTE} {tr : DTA} {tA : DTT} {t : DTS} {pos p apos cpos : Pos} {S : DS} {α : Nat → Addr} {F : Hp} {σ : L2.St} {H : Hp}
/-- the tests of a comprehension -/
abbrev DTs (X : Cx) (B : Base) (ifs : List Expr) (td : DTT) : Prop := PTs X ifs (liftT X.K B td)
def dYes : DTT := fun S P => P S true
theorem dts_nil : DTs X B [] dYes := ⟨fun pins s σ H Q I ⟨S, P, α, F, R, p, q⟩ => pts_nil.run pins s σ H Q I (q S true α F H p (.refl _ _ _) R)⟩
theorem dts_one (h : DT X B c tA) : DTs X B [c] tA := pts_one h
/-- the slots vs forgotten -/
def wipeD (ρ : List (Option SV)) : List Nat → List (Option SV)
  | [] => ρ
  | v :: vs => (wipeD ρ vs).set v none
theorem wipe_get {β : Type} {i : Nat} : ∀ {vs : List Nat} {ρ : List (Option SV)}, True := fun {_ _} => trivial
theorem StR.wipe (R : StR K B S α F σ H) : ∀ vs : List Nat, StR K B ⟨wipeD S.ρ vs, S.μ⟩ α F (L2.wipe σ vs) H
  | [] => R
  | v :: vs => (StR.wipe R vs).unset v
theorem wipe_in {σ : L2.St} {j : Nat} : ∀ {vs : List Nat}, (wipe σ vs)[j]? = if j ∈ vs then (σ[j]?).map (fun _ => none) else σ[j]?
  | [] => by simp [L2.wipe]
  | v :: vs => by
    unfold L2.wipe
    by_cases h : v = j
    · subst h
      by_cases hl : v < (wipe σ vs).length
      · rw [List.getElem?_set_self hl]
        rw [wipe_length] at hl
        simp [List.getElem?_eq_getElem hl]
      · rw [List.getElem?_eq_none (by rw [List.length_set]; omega)]
        rw [wipe_length] at hl
        simp [List.getElem?_eq_none (Nat.le_of_not_lt hl)]
    · rw [List.getElem?_set_ne h, wipe_in]
      simp [List.mem_cons, Ne.symm h]
theorem wipe_but {σ σ2 : L2.St} {ns vs : List Nat} (h : SlotsBut ns (wipe σ vs) σ2) (hs : ∀ n ∈ ns, n ∈ vs) : wipe σ2 vs = wipe σ vs := by
  refine List.ext_getElem? fun j => ?_
  rw [wipe_in]
  by_cases hj : j ∈ vs
  · rw [if_pos hj, wipe_in, if_pos hj]
    have hl : σ2.length = σ.length := by rw [h.1, wipe_length]
    by_cases hl2 : j < σ.length
    · rw [List.getElem?_eq_getElem hl2, List.getElem?_eq_getElem (by omega)]; rfl
    · rw [List.getElem?_eq_none (by omega), List.getElem?_eq_none (by omega)]
  · rw [if_neg hj]
    exact h.2 j fun hm => hj (hs j hm)
/-- the slots of an earlier state, the rest of a later one -/
theorem StR.reslot {S2 : DS} {α2 : Nat → Addr} {F2 : Hp} {H2 : Hp} {σ' : L2.St} {ρ' : List (Option SV)} (R : StR K B S α F σ H) (R2 : StR K B ⟨ρ', S2.μ⟩ α2 F2 σ' H2) (sm : Same F2 F) (al : ∀ k, k < S2.μ.length → α k = α2 k) (hl : S2.μ.length ≤ S.μ.length) :
    StR K B ⟨ρ', S.μ⟩ α F σ' H := by
  refine ⟨R2.len, fun i r e => ?_, R.sub, R.grow, R.new, R.keep, R.dom, R.np, R.cells, R.own, R.pas, R.inj, R.p0, R.pdx⟩
  obtain ⟨v, h1, h2, h3⟩ := R2.slot i r e
  refine ⟨v, h1, ?_, ?_⟩
  · cases r with
    | fr d => exact Rep.mono sm d v h2
    | cell k => exact h2.trans (by rw [al k h3])
  · cases r with
    | fr d => trivial
    | cell k => exact Nat.lt_of_lt_of_le h3 hl
/-- [e for g in ds if t] -/
def dLcI (g : DTG) (tt : DTT) (te : DTE) (vs : List Nat) (P : DS → SV → Prop) (S1 : DS) (ds : List D) : Prop := ds.length < 1000000 ∧ ∃ I : Nat → List D → List (Option CC) → Prop, I 0 [] S1.μ ∧
  (∀ i d acc μ, ds[i]? = some d → acc.length ≤ i → μ.length = S1.μ.length → I i acc μ → g d ⟨wipeD S1.ρ vs, μ ++ [some (.lst acc)]⟩ fun S2 => tt S2 fun S3 b =>
    if b = true then te S3 fun S4 r => ∃ d' μ', r = .fr d' ∧ S4.μ = μ' ++ [some (.lst acc)] ∧ μ'.length = S1.μ.length ∧ I (i + 1) (acc ++ [d']) μ'
    else ∃ μ', S3.μ = μ' ++ [some (.lst acc)] ∧ μ'.length = S1.μ.length ∧ I (i + 1) acc μ') ∧
  ∀ acc μ, μ.length = S1.μ.length → I ds.length acc μ → P ⟨S1.ρ, μ⟩ (.fr (.lst acc))
def dLc (ti : DTI) (g : DTG) (tt : DTT) (te : DTE) (vs : List Nat) : DTE := fun S P => ti S fun S1 ds => dLcI g tt te vs P S1 ds
theorem lc_weak {ti : DTI} {ns : List Nat} {g : DTG} {tt : DTT} {te : DTE} {vs : List Nat} (hvs : ∀ n ∈ ns, n ∈ vs) : ∀ σ H Q, liftE X.K B (dLc ti g tt te vs) σ H Q → tLc (liftI X.K B ti) (liftG X.K B ns g) (liftT X.K B tt) (liftE X.K B te) vs σ H Q := by
  rintro σ H Q ⟨S, P, α, F, R, p, q⟩
  refine ⟨S, _, α, F, R, p, fun S1 ds α1 F1 H1 J ⟨hsz, I, i0, step, fin⟩ g1 R1 It => ?_⟩
  intro Dp hD
  obtain ⟨R2, g2⟩ := R1.newC (o := .lst []) (cc := .lst []) hD ⟨[], upd_same, rfl⟩ (fun _ _ _ z => by cases z)
  refine ⟨fun i m H' => m = ds.length - i ∧ i ≤ ds.length ∧ ∃ acc μ α' F', acc.length ≤ i ∧ μ.length = S1.μ.length ∧ I i acc μ ∧ (∀ k, k < S1.μ.length → α' k = α1 k) ∧ α' S1.μ.length = Dp ∧ Same F1 F' ∧ StR X.K B ⟨S1.ρ, μ ++ [some (.lst acc)]⟩ α' F' σ H',
    ⟨ds.length, by simp, Nat.zero_le _, [], S1.μ, (fun k => if k = S1.μ.length then Dp else α1 k), F1, Nat.le_refl _, rfl, i0, fun k hk => if_neg (by omega), if_pos rfl, .refl _, R2⟩, ?_⟩
  rintro i m H3 ⟨rfl, hi, acc, μ, α3, F3, hacc, hμ, inv, hα, hαD, sm3, R3⟩
  by_cases hlt : i < ds.length
  · refine .inr ⟨It.go i F3 H3 hlt sm3 R3.sub, fun H' => ∃ acc μ α' F', acc.length ≤ i + 1 ∧ μ.length = S1.μ.length ∧ I (i + 1) acc μ ∧ (∀ k, k < S1.μ.length → α' k = α1 k) ∧ α' S1.μ.length = Dp ∧ Same F1 F' ∧ StR X.K B ⟨S1.ρ, μ ++ [some (.lst acc)]⟩ α' F' σ H', fun H' h => ⟨_, by omega, rfl, hlt, h⟩, fun x H' y => ?_⟩
    obtain ⟨F4, R4, sm4, rx⟩ := R3.turn It sm3 (List.getElem?_eq_getElem hlt) y
    have Rw := R4.wipe vs
    refine ⟨_, _, _, α3, F4, Rw, rx, step i _ acc μ (List.getElem?_eq_getElem hlt) hacc hμ inv, fun S5 α5 F5 σ5 H5 p5 g5 R5 bt => ⟨wipe_but bt hvs, ?_⟩⟩
    refine ⟨S5, _, α5, F5, R5, p5, fun S6 b α6 F6 H6 p6 g6 R6 => ?_⟩
    have l5 : S1.μ.length + 1 ≤ S5.μ.length := by have := g5.len; simp only [List.length_append, List.length_cons, List.length_nil, hμ] at this; exact this
    have l6 := Nat.le_trans l5 g6.len
    cases b with
    | false =>
      rw [if_neg Bool.false_ne_true] at p6
      refine iteF ?_
      obtain ⟨μ', e6, hl6, i6⟩ := p6
      have a6 : ∀ k, k < S1.μ.length + 1 → α6 k = α3 k := fun k hk => (g6.al k (by omega)).trans (g5.al k (by simp only [List.length_append, List.length_cons, List.length_nil, hμ]; exact hk))
      refine ⟨acc, μ', α6, F6, by omega, hl6, i6, fun k hk => (a6 k (by omega)).trans (hα k hk), (a6 _ (by omega)).trans hαD, ((sm3.trans sm4).trans g5.sub).trans g6.sub, ?_⟩
      have R6' : StR X.K B ⟨S6.ρ, μ' ++ [some (.lst acc)]⟩ α6 F6 σ5 H6 := by rw [← e6]; exact R6
      refine R6'.reslot (S2 := ⟨S1.ρ, μ ++ [some (.lst acc)]⟩) R4 (g5.sub.trans g6.sub) (fun k hk => a6 k (by simpa only [List.length_append, List.length_cons, List.length_nil, hμ] using hk)) (by simp [hμ, hl6])
    | true =>
      rw [if_pos rfl] at p6
      refine iteT ?_
      refine ⟨S6, _, α6, F6, R6, p6, fun S7 r α7 F7 H7 v ⟨d', μ', er, e7, hl7, i7⟩ g7 R7 _ rv => ?_⟩
      subst er
      have a7 : ∀ k, k < S1.μ.length + 1 → α7 k = α3 k := fun k hk => ((g7.al k (by omega)).trans (g6.al k (by omega))).trans (g5.al k (by simp only [List.length_append, List.length_cons, List.length_nil, hμ]; exact hk))
      have R7' : StR X.K B ⟨S7.ρ, μ' ++ [some (.lst acc)]⟩ α7 F7 σ5 H7 := by rw [← e7]; exact R7
      have hk7 : (μ' ++ [some (CC.lst acc)])[S1.μ.length]? = some (some (.lst acc)) := by rw [← hl7]; simp
      obtain ⟨ws, hw, rl⟩ := (R7'.cells _ _ hk7).2
      have hDp : α7 S1.μ.length = Dp := (a7 _ (by omega)).trans hαD
      rw [hDp] at hw
      refine ⟨ws, hw, by rw [rl.length]; exact lt_line (by omega), ?_⟩
      obtain ⟨R8, g8⟩ := R7'.write (o := .lst (ws ++ [v])) (cc := .lst (acc ++ [d'])) hk7 ⟨_, upd_same, rl.append (.one rv)⟩ (fun _ _ _ z => by cases z)
      rw [hDp] at R8
      have eS : (μ' ++ [some (CC.lst acc)]).set S1.μ.length (some (.lst (acc ++ [d']))) = μ' ++ [some (.lst (acc ++ [d']))] := by rw [← hl7]; simp
      have R8' : StR X.K B ⟨S7.ρ, μ' ++ [some (.lst (acc ++ [d']))]⟩ α7 F7 σ5 (upd H7 Dp (.lst (ws ++ [v]))) := by rw [← eS]; exact R8
      refine ⟨acc ++ [d'], μ', α7, F7, by simp only [List.length_append, List.length_cons, List.length_nil]; omega, hl7, i7, fun k hk => (a7 k (by omega)).trans (hα k hk), hDp, (((sm3.trans sm4).trans g5.sub).trans g6.sub).trans g7.sub, ?_⟩
      refine R8'.reslot (S2 := ⟨S1.ρ, μ ++ [some (.lst acc)]⟩) R4 ((g5.sub.trans g6.sub).trans g7.sub) (fun k hk => a7 k (by simpa only [List.length_append, List.length_cons, List.length_nil, hμ] using hk)) (by simp [hμ, hl7])
  · have e : i = ds.length := by omega
    subst e
    refine .inl ⟨It.stop F3 H3 sm3 R3.sub, ?_⟩
    have hk : (μ ++ [some (CC.lst acc)])[S1.μ.length]? = some (some (.lst acc)) := by rw [← hμ]; simp
    obtain ⟨F5, R5, g5, rp⟩ := R3.freeze hk (R1.np)
    rw [hαD] at rp
    have R5' : StR X.K B ⟨S1.ρ, μ ++ [none]⟩ α3 F5 σ H3 := by
      have : (μ ++ [some (CC.lst acc)]).set S1.μ.length none = μ ++ [none] := by rw [← hμ]; simp
      rw [← this]; exact R5
    refine q _ _ α3 F5 H3 _ (fin acc μ hμ inv) (g1.trans ⟨sm3.trans g5.sub, by show _ ≤ μ.length; omega, fun k hk => hα k hk⟩) ?_ trivial rp
    exact R5'.drop (by rw [hμ]; exact R1.np) R1 (sm3.trans g5.sub) hα (by omega)
theorem de_lc {elt tg iter : Expr} {ifs : List Expr} {scope : Scope} {ns : List Nat} {pos : Pos} {ti : DTI} {g : DTG} {tt : DTT} {te : DTE} (hN : X.N.Nodup) (own : List (Str × Nat)) (hi : DI X B tg iter ti)
    (hg : ∀ (s : Shared) (H : Hp) (C : Addr) (cl : List (Str × Addr)) (fp : List Addr), DG (X.blk s H scope (compEnvC scope cl C X.env) fp) B tg ns g) (ht : ∀ (s : Shared) (H : Hp) (C : Addr) (cl : List (Str × Addr)) (fp : List Addr), DTs (X.blk s H scope (compEnvC scope cl C X.env) fp) B ifs tt)
    (he : ∀ (s : Shared) (H : Hp) (C : Addr) (cl : List (Str × Addr)) (fp : List Addr), DE (X.blk s H scope (compEnvC scope cl C X.env) fp) B elt te) (ok : blkC X.N X.env.scope scope own = true := by first | kernel_rfl | rfl) (hc : X.calm = true := by rfl) (hvs : ∀ n ∈ ns, n ∈ own.map (·.2) := by decide) (hs : ∀ x, foldedSetIterable iter X.env x = pure x := by intro _; rfl) :
    DE X B (.ListComp elt [⟨tg, iter, ifs, 0⟩] scope pos) (dLc ti g tt te (own.map (·.2))) :=
  (pe_lc hc hN hi (blkOk_by ok) hg ht he hs).weak (lc_weak hvs)
/-- y = [..] on one line, y a local -/
theorem ds_setLc {i : Nat} {y : Str} {py : Pos} {elt tg iter : Expr} {ifs : List Expr} {scope : Scope} {ns : List Nat} {pos spos : Pos} {ti : DTI} {g : DTG} {tt : DTT} {te : DTE} (hN : X.N.Nodup) (own : List (Str × Nat)) (hi : DI X B tg iter ti)
    (hg : ∀ (s : Shared) (H : Hp) (C : Addr) (cl : List (Str × Addr)) (fp : List Addr), DG (X.blk s H scope (compEnvC scope cl C X.env) fp) B tg ns g) (ht : ∀ (s : Shared) (H : Hp) (C : Addr) (cl : List (Str × Addr)) (fp : List Addr), DTs (X.blk s H scope (compEnvC scope cl C X.env) fp) B ifs tt)
    (he : ∀ (s : Shared) (H : Hp) (C : Addr) (cl : List (Str × Addr)) (fp : List Addr), DE (X.blk s H scope (compEnvC scope cl C X.env) fp) B elt te) (hy : X.N[i]? = some y := by rfl) (hyl : X.env.scope.names.lookup y = some .local := by rfl) (hsw : swapsWith (.ListComp elt [⟨tg, iter, ifs, 0⟩] scope pos) (some (.Name y py)) spos.line X.env = pure true := by exact sw_true rfl rfl rfl (by decide +kernel)) (ok : blkC X.N X.env.scope scope own = true := by first | kernel_rfl | rfl) (hc : X.calm = true := by rfl) (hvs : ∀ n ∈ ns, n ∈ own.map (·.2) := by decide) (hs : ∀ x, foldedSetIterable iter X.env x = pure x := by intro _; rfl) :
    DSt X B (.Assign [.Name y py] (.ListComp elt [⟨tg, iter, ifs, 0⟩] scope pos) spos) (dSet i (dLc ti g tt te (own.map (·.2)))) :=
  (ps_setLc hc hN hy hyl hsw hi (blkOk_by ok) hg ht he hs).weak fun D σ H ⟨S, P, α, F, R, p, q1, _⟩ => lc_weak hvs _ _ _ ⟨S, _, α, F, R, p, fun S1 r α1 F1 H1 v p1 g1 R1 ir rv => q1 _ α1 F1 _ H1 p1 g1.set (R1.set i rv ir)⟩
/-! readings -/
/-- without tests, each element a function of its item -/
theorem lc_map {g : DTG} {te : DTE} {vs : List Nat} {S1 : DS} {ds : List D} {P : DS → SV → Prop} (f : D → D) (hl : ds.length < 1000000)
    (h : ∀ d acc Q, d ∈ ds → (∀ S4 : DS, S4.μ = S1.μ ++ [some (.lst acc)] → Q S4 (.fr (f d))) → g d ⟨wipeD S1.ρ vs, S1.μ ++ [some (.lst acc)]⟩ fun S2 => te S2 Q)
    (q : P S1 (.fr (.lst (ds.map f)))) :
    dLcI g dYes te vs P S1 ds := by
  refine ⟨hl, fun i acc μ => acc = (ds.take i).map f ∧ μ = S1.μ, ⟨by simp, rfl⟩, ?_, ?_⟩
  · rintro i d acc μ hd _ _ ⟨rfl, rfl⟩
    simp only [dYes, if_true]
    refine h d _ _ (List.mem_of_getElem? hd) fun S4 e => ⟨f d, S1.μ, rfl, e, rfl, ?_, rfl⟩
    rw [List.take_add_one, hd]; simp
  · rintro acc μ _ ⟨rfl, rfl⟩
    rw [List.take_length]; exact q
/-- with a test -/
theorem lc_filter {g : DTG} {tt : DTT} {te : DTE} {vs : List Nat} {S1 : DS} {ds : List D} {P : DS → SV → Prop} (f : D → Option D) (hl : ds.length < 1000000)
    (h : ∀ d acc (Q : DS → SV → Prop) (Q' : DS → Prop), d ∈ ds → (∀ S4 : DS, S4.μ = S1.μ ++ [some (.lst acc)] → (∀ d', f d = some d' → Q S4 (.fr d')) ∧ (f d = none → Q' S4)) → g d ⟨wipeD S1.ρ vs, S1.μ ++ [some (.lst acc)]⟩ fun S2 => tt S2 fun S3 b => if b = true then te S3 Q else Q' S3)
    (q : P S1 (.fr (.lst (ds.filterMap f)))) :
    dLcI g tt te vs P S1 ds := by
  refine ⟨hl, fun i acc μ => acc = (ds.take i).filterMap f ∧ μ = S1.μ, ⟨by simp, rfl⟩, ?_, ?_⟩
  · rintro i d acc μ hd _ _ ⟨rfl, rfl⟩
    refine h d _ _ _ (List.mem_of_getElem? hd) fun S4 e => ⟨fun d' hf => ⟨d', S1.μ, rfl, e, rfl, ?_, rfl⟩, fun hf => ⟨S1.μ, e, rfl, ?_, rfl⟩⟩
    · rw [List.take_add_one, hd]; simp [List.filterMap_append, hf]
    · rw [List.take_add_one, hd]; simp [List.filterMap_append, hf]
  · rintro acc μ _ ⟨rfl, rfl⟩
    rw [List.take_length]; exact q
end
end TD
/-! TD10: instances: attributes, methods, making. -/
namespace TD
open PySem PySem.Spec PyProof.Rows L2
section
variable {X : Cx} {B : Base} {K : PySem.W.Frag} {a b c e o i value : Expr} {es : List Expr} {ta tb tc : DTE} {tr : DTA} {tA : DTT} {t : DTS} {pos p apos cpos : Pos} {S : DS} {α : Nat → Addr} {F : Hp} {σ : L2.St} {H : Hp} {f m : Str} {C : Addr}
/-- an instance, frozen or owned -/
def insOf (S : DS) : SV → Option (Addr × List Str × List D)
  | .fr (.ins C ns ds) => some (C, ns, ds)
  | .cell k => match S.μ[k]? with
    | some (some (.ins C ns ds)) => some (C, ns, ds)
    | _ => none
  | _ => none
theorem ins_at (R : StR K B S α F σ H) {r : SV} {v : V} {ns : List Str} {ds : List D} (h : RepV K F α r v) (e : insOf S r = some (C, ns, ds)) : ∃ a dx vs, v = .ref a ∧ H a = some (.ins C dx (ns.zip vs)) ∧ ns.length = ds.length ∧ RepL K F ds vs := by
  cases r with
  | fr d =>
    cases d <;> simp only [insOf, Option.some.injEq, reduceCtorEq, Prod.mk.injEq] at e
    obtain ⟨rfl, rfl, rfl⟩ := e
    obtain ⟨a, dx, vs, e1, h1, _, l, h2⟩ := h
    exact ⟨a, dx, vs, e1, R.sub _ _ h1, l, h2⟩
  | cell k =>
    simp only [insOf] at e
    split at e
    · rename_i C' ns' ds' hc
      simp only [Option.some.injEq, Prod.mk.injEq] at e
      obtain ⟨rfl, rfl, rfl⟩ := e
      obtain ⟨dx, vs, h1, _, l, h2⟩ := (R.cells k _ hc).2
      exact ⟨_, dx, vs, h, h1, l, h2⟩
    · cases e
/-- the field f -/
def getF : List Str → List D → Str → Option D
  | n :: ns, d :: ds, f => if f == n then some d else getF ns ds f
  | _, _, _ => none
theorem getF_rep : ∀ {ns : List Str} {ds : List D} {vs : List V} {d : D}, RepL K F ds vs → getF ns ds f = some d → ∃ v, (ns.zip vs).lookup f = some v ∧ Rep K F d v
  | [], _, _, _, _, e => by unfold getF at e; cases e
  | _ :: _, [], _, _, _, e => by unfold getF at e; cases e
  | n :: ns, d0 :: ds, _, d, h, e => by
    obtain ⟨v, r, rfl, h2, h3⟩ := h
    unfold getF at e
    by_cases q : (f == n) = true
    · rw [if_pos q] at e
      cases e
      exact ⟨v, by rw [List.zip_cons_cons, List.lookup_cons, q], h2⟩
    · rw [if_neg q] at e
      obtain ⟨w, h4, h5⟩ := getF_rep h3 e
      refine ⟨w, ?_, h5⟩
      rw [List.zip_cons_cons, List.lookup_cons, (Bool.not_eq_true _).mp q]
      exact h4
def hasF (ns : List Str) (f : Str) : Bool := ns.any fun n => f == n
theorem hasF_none {vs : List V} : ∀ {ns : List Str} {vs : List V}, hasF ns f = false → (ns.zip vs).lookup f = none
  | [], _, _ => rfl
  | _ :: _, [], _ => rfl
  | n :: ns, v :: vs, h => by
    simp only [hasF, List.any_cons, Bool.or_eq_false_iff] at h
    rw [List.zip_cons_cons, List.lookup_cons, h.1]
    exact hasF_none (vs := vs) h.2
/-- o.f -/
def dFld (C : Addr) (f : Str) (ta : DTE) : DTE := fun S P => ta S fun S1 r => ∃ ns ds d, insOf S1 r = some (C, ns, ds) ∧ getF ns ds f = some d ∧ P S1 (.fr d)
theorem de_fld (c : Cls X.K C) (n : NoAttr X.K C f) (ho : DE X B o ta) (hb : attributeBase o f X.env (eval o X.env) = eval o X.env := by rfl) : DE X B (.Attribute o f pos) (dFld C f ta) :=
  (pe_fld ho hb).weak fun σ H Q ⟨S, P, α, F, R, p, q⟩ => ⟨S, _, α, F, R, p, fun S1 r α1 F1 H1 v ⟨ns, ds, d, ei, eg, p1⟩ g1 R1 _ rv => by
    obtain ⟨a, dx, vs, rfl, h1, l, rl⟩ := ins_at R1 rv ei
    obtain ⟨w, hw, rw'⟩ := getF_rep rl eg
    exact ⟨a, C, dx, _, w, rfl, h1, c, n, hw, q _ _ _ _ _ _ p1 g1 R1 trivial rw'⟩⟩
def putN : List Str → Str → List Str
  | [], f => [f]
  | g :: r, f => if g = f then g :: r else g :: putN r f
def putV {β : Type} : List Str → List β → Str → β → List β
  | g :: r, x :: xs, f, v => if g = f then v :: xs else x :: putV r xs f v
  | _, _, _, v => [v]
theorem putF_zip {v : V} : ∀ {ns : List Str} {vs : List V}, ns.length = vs.length → putF f v (ns.zip vs) = (putN ns f).zip (putV ns vs f v)
  | [], [], _ => rfl
  | g :: ns, x :: vs, h => by
    rw [List.zip_cons_cons]
    unfold putF putN putV
    by_cases q : g = f
    · rw [if_pos q, if_pos q, if_pos q, List.zip_cons_cons]
    · rw [if_neg q, if_neg q, if_neg q, List.zip_cons_cons, putF_zip (by simpa using h)]
  | [], _ :: _, h => by simp at h
  | _ :: _, [], h => by simp at h
theorem putV_rep {d : D} {v : V} (r : Rep K F d v) : ∀ {ns : List Str} {ds : List D} {vs : List V}, ns.length = ds.length → RepL K F ds vs → RepL K F (putV ns ds f d) (putV ns vs f v)
  | [], [], _, _, h => by simp only [RepL] at h; subst h; exact .one r
  | g :: ns, e :: ds, _, hl, h => by
    obtain ⟨u, us, rfl, h2, h3⟩ := h
    unfold putV
    by_cases q : g = f
    · rw [if_pos q, if_pos q]; exact .cons r h3
    · rw [if_neg q, if_neg q]; exact .cons h2 (putV_rep r (by simpa using hl) h3)
  | [], _ :: _, _, h, _ => by simp at h
  | _ :: _, [], _, h, _ => by simp at h
theorem putV_length {β : Type} {d : β} : ∀ {ns : List Str} {ds : List β}, ns.length = ds.length → (putN ns f).length = (putV ns ds f d).length
  | [], [], _ => rfl
  | g :: ns, e :: ds, h => by
    unfold putN putV
    by_cases q : g = f
    · rw [if_pos q, if_pos q]; exact h
    · rw [if_neg q, if_neg q, List.length_cons, List.length_cons, putV_length (ns := ns) (ds := ds) (by simpa using h)]
  | [], _ :: _, h => by simp at h
  | _ :: _, [], h => by simp at h
/-- o.f = e, o owned -/
def dFldS (C : Addr) (f : Str) (tv to : DTE) : DTS := fun P S => tv S fun S1 r => to S1 fun S2 x => ∃ d k ns ds, r = .fr d ∧ x = .cell k ∧ S2.μ[k]? = some (some (.ins C ns ds)) ∧ ns.length < 900 ∧ P.nx ⟨S2.ρ, S2.μ.set k (some (.ins C (putN ns f) (putV ns ds f d)))⟩
theorem StR.setF {k : Nat} {ns : List Str} {ds : List D} {vs : List V} {dx : Addr} {d : D} {v : V} (R : StR K B S α F σ H) (hk : S.μ[k]? = some (some (.ins C ns ds))) (hl : H (α k) = some (.ins C dx (ns.zip vs))) (hd : H dx = some (.own (α k))) (l : ns.length = ds.length) (rl : RepL K F ds vs) (rd : Rep K F d v) :
    StR K B ⟨S.ρ, S.μ.set k (some (.ins C (putN ns f) (putV ns ds f d)))⟩ α F σ (upd H (α k) (.ins C dx (putF f v (ns.zip vs)))) ∧ Grow S α F ⟨S.ρ, S.μ.set k (some (.ins C (putN ns f) (putV ns ds f d)))⟩ α F := by
  have l2 : ns.length = vs.length := by rw [rl.length]; exact l
  rw [putF_zip l2]
  refine R.write hk ⟨dx, _, upd_same, ?_, putV_length l, putV_rep rd l rl⟩ (fun C' dx' fs' z => by cases z; exact ⟨_, _, hl⟩)
  rw [upd_ne]
  · exact hd
  · intro z
    rw [z, hl] at hd; cases hd
theorem ds_fld {pos' : Pos} (c : Cls X.K C) (n : NoAttr X.K C f) (hv : DE X B value tb) (ho : DE X B o ta) (hs : swapsWith value (some (.Attribute o f pos')) pos.line X.env = pure false := by rfl) : DSt X B (.Assign [.Attribute o f pos'] value pos) (dFldS C f tb ta) :=
  (ps_fld ho hv hs).weak fun D σ H ⟨S, P, α, F, R, p, q1, _⟩ => ⟨S, _, α, F, R, p, fun S1 r α1 F1 H1 v p1 g1 R1 _ rv => ⟨S1, _, α1, F1, R1, p1, fun S2 x α2 F2 H2 u ⟨d, k, ns, ds, er, ex, hk, hz, p2⟩ g2 R2 _ r2 => by
    subst er ex
    have hu : u = .ref (α2 k) := r2
    subst hu
    obtain ⟨dx, vs, hl, hd, l, rl⟩ := (R2.cells k _ hk).2
    obtain ⟨R3, g3⟩ := R2.setF (f := f) hk hl hd l rl (Rep.mono g2.sub _ _ rv)
    exact ⟨α2 k, C, dx, _, rfl, hl, c, n, by rw [List.length_zip]; have := rl.length; omega, q1 _ _ _ _ _ p2 ((g1.trans g2).trans g3) R3⟩⟩⟩
/-- o.f += e -/
def dFldA (C : Addr) (f : Str) (g : Int → Int → Int) (to tv : DTE) : DTS := fun P S => to S fun S1 x => ∃ k ns ds i, x = .cell k ∧ S1.μ[k]? = some (some (.ins C ns ds)) ∧ getF ns ds f = some (.int i) ∧ tv S1 fun S2 r => ∃ j ns' ds', r = .fr (.int j) ∧ S2.μ[k]? = some (some (.ins C ns' ds')) ∧ ns'.length < 900 ∧
  P.nx ⟨S2.ρ, S2.μ.set k (some (.ins C (putN ns' f) (putV ns' ds' f (.int (g i j)))))⟩
theorem ds_flda {op : Operator} {rd : V → V → Hp → VK → Prop} {g : Int → Int → Int} {tpos : Pos} (hop : InOp X op rd) (hrd : ∀ i j H Q, Q (.int (g i j)) H → rd (.int i) (.int j) H Q) (c : Cls X.K C) (n : NoAttr X.K C f) (ho : DE X B o ta) (hv : DE X B value tb) :
    DSt X B (.AugAssign (.Attribute o f tpos) op value pos) (dFldA C f g ta tb) :=
  (ps_fldaug ho hv hop).weak fun D σ H ⟨S, P, α, F, R, p, q1, _⟩ => ⟨S, _, α, F, R, p, fun S1 x α1 F1 H1 v ⟨k, ns, ds, i, ex, hk, hg, p1⟩ g1 R1 i1 rv => by
    subst ex
    have hv : v = .ref (α1 k) := rv
    subst hv
    obtain ⟨dx, vs, hl, hd, l, rl⟩ := (R1.cells k _ hk).2
    obtain ⟨w, hw, rw'⟩ := getF_rep rl hg
    cases (show w = .int i from rw')
    refine ⟨α1 k, C, dx, _, _, rfl, hl, c, n, hw, S1, _, α1, F1, R1, p1, fun S2 r α2 F2 H2 u ⟨j, ns', ds', er, hk2, hz, p2⟩ g2 R2 _ r2 => ?_⟩
    subst er
    cases (show u = .int j from r2)
    obtain ⟨dx2, vs2, hl2, hd2, l2, rl2⟩ := (R2.cells k _ hk2).2
    have hkk : α2 k = α1 k := g2.al k i1
    obtain ⟨R3, g3⟩ := R2.setF (f := f) (d := .int (g i j)) (v := .int (g i j)) hk2 hl2 hd2 l2 rl2 rfl
    rw [hkk] at R3 hl2
    exact hrd _ _ _ _ ⟨dx2, _, hl2, by rw [List.length_zip]; have := rl2.length; omega, q1 _ _ _ _ _ p2 ((g1.trans g2).trans g3) R3⟩⟩
theorem ds_fldadd {tpos : Pos} (c : Cls X.K C) (n : NoAttr X.K C f) (ho : DE X B o ta) (hv : DE X B value tb) : DSt X B (.AugAssign (.Attribute o f tpos) .Add value pos) (dFldA C f (fun i j => i + j) ta tb) :=
  ds_flda in_add (fun i j H Q q => ⟨i, j, rfl, rfl, q⟩) c n ho hv
end
/-! ### methods -/
def tMethS (C : Addr) (m : Str) (sp : Sp) (E : L2.St → XK) (ta : TE) (t : TA) : TE := fun σ H Q => ta σ H fun x H1 => ∃ a dx fs, x = .ref a ∧ H1 a = some (.ins C dx fs) ∧ fs.lookup m = none ∧ t σ H1 fun vs H2 => sp (x :: vs) H2 Q (E σ)
section
variable {X : Cx} {CX : CXT} {k : Nat} {f C : Addr} {fd : FuncData} {ps : List Str} {sp : Sp} {E : L2.St → XK} {x m : Str} {p pos apos : Pos} {e o : Expr} {es : List Expr} {ta : TE} {t : TA}
theorem pe_methS {pl : Sem Bool} (he : PE X o ta) (c : Cls X.K C) (hm : Meth X.K C m f) (F : FnOk X.prog X.w X.K X.mg X.base CX k f fd ps sp) (hr : Room k X.A) (hb : Binds X.K fd ps []) (hx : ∀ σ, PassesAt CX X σ (E σ)) (ha : PA X (e :: es) t)
    (hst : starEach (e :: es) X.env = (false, eval e X.env) :: starEach es X.env := by rfl) (hpl : (backTo pos (starEach es X.env)).any (·.1) = false := by rfl)
    (ht : eval (.Call (.Attribute o m apos) (e :: es) [] pos) X.env = (do
      let ov ← eval o X.env
      standAt apos.atName
      let (f, first) ← holding [ov] (getMethod ov m pl)
      callWith pos f first (backTo pos (starEach (e :: es) X.env)) (backToKw pos (keywordEach [] X.env))) := by rfl) :
    PE X (.Call (.Attribute o m apos) (e :: es) [] pos) (tMethS C m sp E ta t) := by
  refine ⟨fun pins s σ H Q I h => ?_⟩
  refine PySem.W.methodCall_KW (pl := pl) (thn (he.run pins s σ H _ I h) fun u s1 ⟨x, H1, I1, rx, a, dx, fs, ex, ea, l, q⟩ => ?_) ht
  subst ex
  obtain rfl : u = Value.ref a := rx
  refine getmeth_ok I1 ea c hm l ?_
  refine PySem.W.callWith_K (first := [.ref a]) (h₀ := X.base) I.ok.mod.kin hm.kp (thn (ha.run pos pins s1 σ H1 _ I1 q) fun us s2 ⟨vs, H2, I2, r, q2⟩ => ⟨I2.kIn, ?_⟩) hst hpl
  exact run_fnS (us := .ref a :: us) (vs := .ref a :: vs) F hr hb (hx σ) I2 (.cons rfl r) q2
theorem pe_methS0 {pl : Sem Bool} (he : PE X o ta) (c : Cls X.K C) (hm : Meth X.K C m f) (F : FnOk X.prog X.w X.K X.mg X.base CX k f fd ps sp) (hr : Room k X.A) (hb : Binds X.K fd ps []) (hx : ∀ σ, PassesAt CX X σ (E σ))
    (ht : eval (.Call (.Attribute o m apos) [] [] pos) X.env = (do
      let ov ← eval o X.env
      standAt apos.atName
      let (f, first) ← holding [ov] (getMethod ov m pl)
      callWith pos f first (backTo pos (starEach [] X.env)) (backToKw pos (keywordEach [] X.env))) := by rfl) :
    PE X (.Call (.Attribute o m apos) [] [] pos) (tMethS C m sp E ta tNil) := by
  refine ⟨fun pins s σ H Q I h => ?_⟩
  refine PySem.W.methodCall_KW (pl := pl) (thn (he.run pins s σ H _ I h) fun u s1 ⟨x, H1, I1, rx, a, dx, fs, ex, ea, l, q⟩ => ?_) ht
  subst ex
  obtain rfl : u = Value.ref a := rx
  refine getmeth_ok I1 ea c hm l ?_
  exact PySem.W.callWith_K0 (first := [.ref a]) I1.kIn hm.kp (run_fnS (us := [.ref a]) (vs := [.ref a]) F hr hb (hx σ) I1 (.cons rfl .nil) q)
theorem pe_callS0 (F : FnOk X.prog X.w X.K X.mg X.base CX k f fd ps sp) (hr : Room k X.A) (hg : Gl X x) (hm : X.mg x = some (.ref f)) (hk : PySem.W.keepIn X.K (.ref f) = true) (hb : Binds X.K fd ps []) (hx : ∀ σ, PassesAt CX X σ (E σ))
    (hdb : (x == ("__debug__" : Str)) = false := by decide) : PE X (.Call (.Name x p) [] [] pos) (tCallS sp E tNil) := by
  refine ⟨fun pins s σ H Q I h => ?_⟩
  refine wpAny_Call_Name_kw (ld_glob I hg hm ?_ hdb)
  exact PySem.W.callWith_K0 I.kIn hk (run_fnS (us := []) F hr hb (hx σ) I .nil h)
/-- C(..) -/
def tMakeS (C : Addr) (sp : Sp) (E : L2.St → XK) (t : TA) : TE := fun σ H Q => t σ H fun vs H1 => ∀ x dx, H1 x = none → H1 dx = none → dx ≠ x →
  sp (.ref x :: vs) (upd (upd H1 dx (.own x)) x (.ins C dx [])) (fun v H2 => v = .non ∧ Q (.ref x) H2) (E σ)
theorem run_makeS {pins : List (Addr × Obj)} {σ : L2.St} {H : Hp} {s : Shared} {Q : VK} {us : List Value} {vs : List V} (M : Mk X.K C f) (F : FnOk X.prog X.w X.K X.mg X.base CX k f fd ps sp) (hr : Room (k + 1) X.A) (hb : Binds X.K fd ps [])
    (hx : PassesAt CX X σ (E σ)) (I : Inv X pins σ H s) (r : Vals vs us)
    (h : ∀ x dx, H x = none → H dx = none → dx ≠ x → sp (.ref x :: vs) (upd (upd H dx (.own x)) x (.ins C dx [])) (fun v H2 => v = .non ∧ Q (.ref x) H2) (E σ)) :
    wpAny (model X.prog X.w) X.A (call (.ref C) us) (EP X pins σ Q) X.xe s := by
  have hq := h (s.heap.objs.size + 1) s.heap.objs.size (I.hok.fresh (Nat.le_succ _)) (I.hok.fresh (Nat.le_refl _)) (Nat.ne_of_lt (Nat.lt_succ_self _))
  have I2 := Inv.made (C := C) I
  have r2 : Vals (V.ref (s.heap.objs.size + 1) :: vs) (Value.ref (s.heap.objs.size + 1) :: us) := .cons rfl r
  have hl : (Value.ref (s.heap.objs.size + 1) :: us).length = ps.length := by
    have e := r2.length
    rw [F.len _ _ _ _ hq] at e
    exact e.symm
  have bb := hb _ (Value.ref (s.heap.objs.size + 1) :: us) I2.kIn (by rw [List.append_nil]; exact hl)
  rw [List.append_nil] at bb
  refine wpAny_call (make_map (f := f) I.kIn M.makes M.init (beq_iff_eq.mp M.fn) (codeAny_mono (F.run _ X.stack _ _ ⟨Value.ref (s.heap.objs.size + 1) :: us, []⟩ (Value.ref (s.heap.objs.size + 1) :: us) _ _ (E σ) (hr.make C us [])
    (I2.env0.make C us []) bb r2 hq) fun r s' hq' => ?_))
  cases r with
  | error e => exact hx pins _ _ e s' I2 hq'
  | ok fl =>
    cases fl with
    | ret u =>
      obtain ⟨v, H', I3, rv, ev, q3⟩ := I2.after hq'
      subst ev
      exact ⟨rv, ⟨V.ref (s.heap.objs.size + 1), H', I3, rfl, q3⟩⟩
    | next => exact False.elim hq'
    | brk => exact False.elim hq'
    | cont => exact False.elim hq'
theorem pe_makeS (M : Mk X.K C f) (F : FnOk X.prog X.w X.K X.mg X.base CX k f fd ps sp) (hr : Room (k + 1) X.A) (hg : Gl X x) (hm : X.mg x = some (.ref C)) (hb : Binds X.K fd ps []) (hx : ∀ σ, PassesAt CX X σ (E σ))
    (ha : PA X (e :: es) t) (hdb : (x == ("__debug__" : Str)) = false := by decide) (he : starEach (e :: es) X.env = (false, eval e X.env) :: starEach es X.env := by rfl) (hpl : (backTo pos (starEach es X.env)).any (·.1) = false := by rfl) :
    PE X (.Call (.Name x p) (e :: es) [] pos) (tMakeS C sp E t) := by
  refine ⟨fun pins s σ H Q I h => ?_⟩
  refine wpAny_Call_Name_kw (ld_glob I hg hm ?_ hdb)
  refine PySem.W.callWith_K (h₀ := X.base) I.ok.mod.kin M.kp (thn (ha.run pos pins s σ H _ I h) fun us s1 ⟨vs, H1, I1, r, q⟩ => ⟨I1.kIn, ?_⟩) he hpl
  exact run_makeS M F hr hb (hx σ) I1 r q
end
/-! ### by data -/
/-- the method m of the class y of the module keeps the promise -/
structure MethOk (P : Program) (w : World) (K : PySem.W.Frag) (mg : Str → Option Value) (base : Heap) (k : Nat) (C : Addr) (m : Str) (ps : List Str) (dsp : DSp) : Prop where
  ex : ∃ f fd, Meth K C m f ∧ Binds K fd ps [] ∧ FnOk P w K mg base (L2.CX P w) k f fd ps (spD K dsp)
structure MakeOk (P : Program) (w : World) (K : PySem.W.Frag) (mg : Str → Option Value) (base : Heap) (k : Nat) (C : Addr) (ps : List Str) (dsp : DSp) : Prop where
  ex : ∃ f fd, Mk K C f ∧ Binds K fd ps [] ∧ FnOk P w K mg base (L2.CX P w) k f fd ps (spD K dsp)
structure Methd (K : PySem.W.Frag) (C : Addr) (m qual : Str) (st : Stmt) (ps : List Str) : Prop where
  ex : ∃ f fd, Meth K C m f ∧ Fun K m qual st f fd ∧ Binds K fd ps []
theorem MethOk.mono {P : Program} {w : World} {K : PySem.W.Frag} {mg : Str → Option Value} {base : Heap} {C : Addr} {m : Str} {ps : List Str} {k j : Nat} {dsp : DSp} (h : MethOk P w K mg base k C m ps dsp) (hj : k ≤ j) : MethOk P w K mg base j C m ps dsp :=
  let ⟨f, fd, e, b, F⟩ := h.ex
  ⟨f, fd, e, b, F.mono hj⟩
theorem MakeOk.mono {P : Program} {w : World} {K : PySem.W.Frag} {mg : Str → Option Value} {base : Heap} {C : Addr} {ps : List Str} {k j : Nat} {dsp : DSp} (h : MakeOk P w K mg base k C ps dsp) (hj : k ≤ j) : MakeOk P w K mg base j C ps dsp :=
  let ⟨f, fd, e, b, F⟩ := h.ex
  ⟨f, fd, e, b, F.mono hj⟩
theorem MethOk.make {P : Program} {w : World} {K : PySem.W.Frag} {mg : Str → Option Value} {base : Heap} {C f0 : Addr} {ps : List Str} {k : Nat} {dsp : DSp} (h : MethOk P w K mg base k C "__init__" ps dsp) (M : Mk K C f0) : MakeOk P w K mg base k C ps dsp := by
  obtain ⟨f, fd, e, b, F⟩ := h.ex
  have : f = f0 := by
    have h1 := e.at_
    rw [M.init] at h1
    cases h1; rfl
  subst this
  exact ⟨f, fd, M, b, F⟩
section
variable {P : Program} {w : World} {K : PySem.W.Frag} {mg : Str → Option Value} {base : Heap}
theorem Methd.ok {C : Addr} {m qual : Str} {st : Stmt} {N ps : List Str} {k : Nat} {dsp : DSp} (Df : Methd K C m qual st ps) (S : FnScope N ps (defScope st)) (np : Nat) (len : ∀ as Pc Xc, dsp as Pc Xc → as.length = ps.length ∧ (cellsD as).length = np)
    (h : ∀ (f : Addr) (cdv : Value) (A : Around) (outer : List Env) (s : Shared) (H : Hp) (E : XK) (B : Base) (as : List Arg) (Pc : List CC → Arg → Prop) (Xc : List CC → Exn → Prop), dsp as Pc Xc → B.P0.length = np → Room k (A.deeper (envOfC qual (defScope st) s.heap.objs.size f cdv)) →
        Takes (cxOf (L2.CX P w) P w K mg base N qual (defScope st) f cdv A outer s H E) (wOf K B (pxOf np Xc)) →
        PassesOwn (model P w) (A.deeper (envOfC qual (defScope st) s.heap.objs.size f cdv)) (envOfC qual (defScope st) s.heap.objs.size f cdv) (cxOf (L2.CX P w) P w K mg base N qual (defScope st) f cdv A outer s H E).xe →
        ∃ td, DSs (cxOf (L2.CX P w) P w K mg base N qual (defScope st) f cdv A outer s H E) B (defBody st) td ∧ td (endsOf np Pc) (S0 N.length as)) : MethOk P w K mg base (k + 1) C m ps dsp := by
  obtain ⟨f, fd, e, Fu, b⟩ := Df.ex
  exact ⟨f, fd, e, b, okD np Fu S len fun cdv A outer s H E B as Pc Xc d hB hr tk => h f cdv A outer s H E B as Pc Xc d hB hr tk (passes_of (X := cxOf (L2.CX P w) P w K mg base N qual (defScope st) f cdv A outer s H E) rfl)⟩
end
section
variable {X : Cx} {B : Base} {e o : Expr} {es : List Expr} {tr : DTA} {ta : DTE} {pos p apos : Pos} {x m : Str} {k : Nat} {ps : List Str} {dsp : DSp} {PX : PXT} {C : Addr}
def dMeth (C : Addr) (m : Str) (dsp : DSp) (PX : PXT) (ta : DTE) (tr : DTA) : DTE := fun S P => ta S fun S1 x => (∃ ns ds, insOf S1 x = some (C, ns, ds) ∧ hasF ns m = false) ∧ tr S1 fun S2 rs => callD dsp PX (x :: rs) S2 P
theorem meth_weak {ta : DTE} {tr : DTA} : ∀ σ H Q, liftE X.K B (dMeth C m dsp PX ta tr) σ H Q → tMethS C m (spD X.K dsp) (WE (wOf X.K B PX)) (liftE X.K B ta) (liftA X.K B tr) σ H Q := by
  rintro σ H Q ⟨S, P, α, F, R, p, q⟩
  refine ⟨S, _, α, F, R, p, fun S1 x α1 F1 H1 v ⟨⟨ns, ds, ei, hn⟩, p1⟩ g1 R1 i1 rv => ?_⟩
  obtain ⟨a, dx, vs, rfl, h1, l, rl⟩ := ins_at R1 rv ei
  refine ⟨a, dx, _, rfl, h1, hasF_none (vs := vs) hn, S1, _, α1, F1, R1, p1, fun S2 rs α2 F2 H2 us p2 g2 R2 i2 r2 => ?_⟩
  have rx : RepV X.K F2 α2 x (.ref a) := rv.grow g2 i1
  exact call_core R2 (rs := x :: rs) (vs := .ref a :: us) ⟨_, _, rfl, rx, r2⟩ p2 fun S' r α' F' H' w pz g R' ir rw' => q S' r α' F' H' w pz ((g1.trans g2).trans g) R' ir rw'
theorem de_meth (M : MethOk X.prog X.w X.K X.mg X.base k C m ps dsp) (c : Cls X.K C) (hr : Room k X.A) (tk : Takes X (wOf X.K B PX)) (ho : DE X B o ta) (ha : DA X B (e :: es) tr)
    (hst : starEach (e :: es) X.env = (false, eval e X.env) :: starEach es X.env := by rfl) (hpl : (backTo pos (starEach es X.env)).any (·.1) = false := by rfl) {pl : Sem Bool}
    (ht : eval (.Call (.Attribute o m apos) (e :: es) [] pos) X.env = (do
      let ov ← eval o X.env
      standAt apos.atName
      let (f, first) ← holding [ov] (getMethod ov m pl)
      callWith pos f first (backTo pos (starEach (e :: es) X.env)) (backToKw pos (keywordEach [] X.env))) := by rfl) :
    DE X B (.Call (.Attribute o m apos) (e :: es) [] pos) (dMeth C m dsp PX ta tr) := by
  obtain ⟨f, fd, hm, hb, Fo⟩ := M.ex
  exact (pe_methS ho c hm Fo hr hb (fun σ => passAt tk σ) ha hst hpl ht).weak meth_weak
theorem tnil_weak {σ : L2.St} {H : Hp} {Q : List V → Hp → Prop} : liftA X.K B aNil σ H Q → tNil σ H Q := fun ⟨S, P, α, F, R, p, q⟩ => q S [] α F H [] p (.refl _ _ _) R (fun _ h => by cases h) rfl
theorem de_meth0 (M : MethOk X.prog X.w X.K X.mg X.base k C m ps dsp) (c : Cls X.K C) (hr : Room k X.A) (tk : Takes X (wOf X.K B PX)) (ho : DE X B o ta) {pl : Sem Bool}
    (ht : eval (.Call (.Attribute o m apos) [] [] pos) X.env = (do
      let ov ← eval o X.env
      standAt apos.atName
      let (f, first) ← holding [ov] (getMethod ov m pl)
      callWith pos f first (backTo pos (starEach [] X.env)) (backToKw pos (keywordEach [] X.env))) := by rfl) :
    DE X B (.Call (.Attribute o m apos) [] [] pos) (dMeth C m dsp PX ta aNil) := by
  obtain ⟨f, fd, hm, hb, Fo⟩ := M.ex
  refine (pe_methS0 ho c hm Fo hr hb (fun σ => passAt tk σ) ht).weak fun σ H Q h => ?_
  obtain ⟨S, P, α, F, R, p, q⟩ := meth_weak (ta := ta) (tr := aNil) σ H Q h
  exact ⟨S, P, α, F, R, p, fun S1 x α1 F1 H1 v p1 g1 R1 i1 rv => by
    obtain ⟨a, dx, fs, e1, e2, e3, e4⟩ := q S1 x α1 F1 H1 v p1 g1 R1 i1 rv
    exact ⟨a, dx, fs, e1, e2, e3, tnil_weak e4⟩⟩
/-- f() -/
theorem de_callD0 (Fo : DefOk X.prog X.w X.K X.mg X.base k x ps dsp) (hr : Room k X.A) (tk : Takes X (wOf X.K B PX)) (hg : Gl X x := by rfl) (hdb : (x == ("__debug__" : Str)) = false := by decide) :
    DE X B (.Call (.Name x p) [] [] pos) (dCB (callD dsp PX) aNil) := by
  obtain ⟨f, fd, h1, h2, h3, h4⟩ := Fo.ex
  refine (pe_callS0 h4 hr hg h1 h2 h3 (fun σ => passAt tk σ) hdb).weak fun σ H Q h => ?_
  exact tnil_weak (call_weak (ta := aNil) σ H Q h)
/-! ### making -/
theorem StR.junk {K : PySem.W.Frag} {S : DS} {α : Nat → Addr} {F : Hp} {σ : L2.St} {H : Hp} {p : Addr} {o : HO} (R : StR K B S α F σ H) (hp : H p = none) : StR K B S α F σ (upd H p o) := by
  have hb : ∀ b u, H b = some u → upd H p o b = some u := fun b u h => by rw [upd_ne (ne_of_none h hp)]; exact h
  refine ⟨R.len, R.slot, fun b u h => hb b u (R.sub b u h), R.grow, R.new, fun b u h hn => hb b u (R.keep b u h hn), fun b u h => ?_, R.np, fun k c h => ?_, fun k c h hk => ?_, R.pas, R.inj, R.p0, fun a ha C dx fs h => ?_⟩
  · obtain ⟨o', ho⟩ := R.dom b u h
    exact ⟨o', hb b o' ho⟩
  · obtain ⟨h1, h2⟩ := R.cells k c h
    exact ⟨h1, h2.stay (.refl _) fun b u z _ => hb b u z⟩
  · obtain ⟨h1, h2⟩ := R.own k c h hk
    refine ⟨h1, fun C dx fs q => h2 C dx fs ?_⟩
    obtain ⟨ob, hob, _⟩ := (R.cells k c h).2.there
    rw [upd_ne (ne_of_none hob hp)] at q
    exact q
  · obtain ⟨w, hw⟩ := R.p0 a ha
    obtain ⟨o', ho⟩ := R.dom a w hw
    rw [upd_ne (ne_of_none ho hp)] at h
    exact R.pdx a ha C dx fs h
/-- C(..): C's __init__ keeps dsp -/
def dMake (C : Addr) (dsp : DSp) (PX : PXT) (tr : DTA) : DTE := fun S P => tr S fun S1 rs => callD dsp PX (.cell S1.μ.length :: rs) ⟨S1.ρ, S1.μ ++ [some (.ins C [] [])]⟩ fun S2 r => r = .fr .non ∧ S1.μ.length < S2.μ.length ∧ P S2 (.cell S1.μ.length)
theorem make_weak {tr : DTA} : ∀ σ H Q, liftE X.K B (dMake C dsp PX tr) σ H Q → tMakeS C (spD X.K dsp) (WE (wOf X.K B PX)) (liftA X.K B tr) σ H Q := by
  rintro σ H Q ⟨S, P, α, F, R, p, q⟩
  refine ⟨S, _, α, F, R, p, fun S1 rs α1 F1 H1 vs p1 g1 R1 i1 r1 => ?_⟩
  intro x dx hx hdx hne
  have R2 := R1.junk (o := .own x) hdx
  have hx2 : upd H1 dx (.own x) x = none := by rw [upd_ne (Ne.symm hne)]; exact hx
  have hB : B.H0 dx = none := by
    cases z : B.H0 dx with
    | none => rfl
    | some w =>
      obtain ⟨o', ho⟩ := R1.dom dx w z
      rw [hdx] at ho; cases ho
  obtain ⟨R3, g3⟩ := R2.newC (o := .ins C dx []) (cc := .ins C [] []) hx2 ⟨dx, [], upd_same, by rw [upd_ne hne]; exact upd_same, rfl, rfl⟩ (fun _ _ _ z => by cases z; exact hB)
  have r3 : RepVs X.K F1 (fun k => if k = S1.μ.length then x else α1 k) (.cell S1.μ.length :: rs) (.ref x :: vs) := by
    refine ⟨_, _, rfl, (by show V.ref x = V.ref (if _ then _ else _); rw [if_pos rfl]), ?_⟩
    have : ∀ {rs : List SV} {vs : List V}, (∀ r ∈ rs, InR S1 r) → RepVs X.K F1 α1 rs vs → RepVs X.K F1 (fun k => if k = S1.μ.length then x else α1 k) rs vs := by
      intro rs
      induction rs with
      | nil => intro vs _ h; exact h
      | cons r rs ih =>
        intro vs hi ⟨v, us, e, h1, h2⟩
        exact ⟨v, us, e, h1.grow g3 (hi r List.mem_cons_self), ih (fun z hz => hi z (List.mem_cons_of_mem _ hz)) h2⟩
    exact this i1 r1
  refine call_core R3 r3 p1 fun S' r α' F' H' v ⟨er, hlt, pz⟩ g R' ir rv => ?_
  subst er
  refine ⟨rv, q _ _ _ _ _ _ pz ((g1.trans g3).trans g) R' hlt ?_⟩
  have := g.al S1.μ.length (by show S1.μ.length < (S1.μ ++ [some (CC.ins C [] [])]).length; simp)
  show V.ref x = V.ref (α' S1.μ.length)
  rw [this]
  simp
theorem de_make (M : MakeOk X.prog X.w X.K X.mg X.base k C ps dsp) (hm : X.mg x = some (.ref C)) (hr : Room (k + 1) X.A) (tk : Takes X (wOf X.K B PX)) (ha : DA X B (e :: es) tr) (hg : Gl X x := by rfl)
    (hdb : (x == ("__debug__" : Str)) = false := by decide) (he : starEach (e :: es) X.env = (false, eval e X.env) :: starEach es X.env := by rfl) (hpl : (backTo pos (starEach es X.env)).any (·.1) = false := by rfl) :
    DE X B (.Call (.Name x p) (e :: es) [] pos) (dMake C dsp PX tr) := by
  obtain ⟨f, fd, Mk, hb, Fo⟩ := M.ex
  exact (pe_makeS Mk Fo hr hg hm hb (fun σ => passAt tk σ) ha hdb he hpl).weak make_weak
/-- the last cell, one's own, is frozen and dropped -/
def dFrzL (ta : DTE) : DTE := fun S P => ta S fun S1 r => ∃ μ cc, S1.μ = μ ++ [some cc] ∧ S.μ.length ≤ μ.length ∧ r = .cell μ.length ∧ P ⟨S.ρ, μ⟩ (.fr (frzD cc))
theorem de_frzL (h : DE X B e ta) : DE X B e (dFrzL ta) :=
  h.weak fun σ H Q ⟨S, P, α, F, R, p, q⟩ => ⟨S, _, α, F, R, p, fun S1 r α1 F1 H1 v ⟨μ, cc, e1, hl, er, p1⟩ g1 R1 _ rv => by
    subst er
    have hv : v = .ref (α1 μ.length) := rv
    subst hv
    have R1' : StR X.K B ⟨S1.ρ, μ ++ [some cc]⟩ α1 F1 σ H1 := by rw [← e1]; exact R1
    have hk : (μ ++ [some cc])[μ.length]? = some (some cc) := by simp
    have hnp : B.P0.length ≤ μ.length := Nat.le_trans R.np hl
    obtain ⟨F2, R2, g2, rp⟩ := R1'.freeze hk hnp
    have R3 : StR X.K B ⟨S1.ρ, μ ++ [none]⟩ α1 F2 σ H1 := by
      have : (μ ++ [some cc]).set μ.length none = μ ++ [none] := by simp
      rw [← this]; exact R2
    have R4 : StR X.K B ⟨S.ρ, μ⟩ α1 F2 σ H1 := R3.drop hnp R (g1.sub.trans g2.sub) g1.al hl
    exact q _ _ _ _ _ _ p1 ⟨g1.sub.trans g2.sub, hl, g1.al⟩ R4 trivial rp⟩
/-! ### gc -/
def gcS (n : Nat) (S : DS) : DS := ⟨S.ρ.map fun r => match r with
  | some (.cell j) => if j < n then some (.cell j) else none
  | r => r, S.μ.take n⟩
/-- behind a block its own new cells are forgotten -/
def dGc (t : DTS) : DTS := fun P S => t { nx := fun S1 => P.nx (gcS S.μ.length S1), ct := fun S1 => P.ct (gcS S.μ.length S1), bk := fun S1 => P.bk (gcS S.μ.length S1), rt := P.rt } S
theorem StR.gc {K : PySem.W.Frag} {S : DS} {α : Nat → Addr} {F : Hp} {σ : L2.St} {H : Hp} {n : Nat} (R : StR K B S α F σ H) (hn : B.P0.length ≤ n) (hl : n ≤ S.μ.length) : StR K B (gcS n S) α F σ H := by
  have up : ∀ (k : Nat) (c : CC), (S.μ.take n)[k]? = some (some c) → S.μ[k]? = some (some c) := fun k c h => by
    have hk := (List.getElem?_eq_some_iff.mp h).1
    rw [List.length_take] at hk
    rwa [List.getElem?_take_of_lt (by omega)] at h
  refine ⟨by rw [R.len]; simp [gcS], fun i r e => ?_, R.sub, R.grow, R.new, R.keep, R.dom, by show _ ≤ (S.μ.take n).length; rw [List.length_take]; omega, fun k c h => R.cells k c (up k c h), fun k c h hk => R.own k c (up k c h) hk, R.pas, fun i j ci cj h1 h2 hq => R.inj i j ci cj (up i ci h1) (up j cj h2) hq, R.p0, R.pdx⟩
  simp only [gcS, List.getElem?_map] at e
  cases z : S.ρ[i]? with
  | none => rw [z] at e; simp at e
  | some r0 =>
    rw [z] at e
    cases r0 with
    | none => simp at e
    | some r1 =>
      cases r1 with
      | fr d =>
        simp at e
        subst e
        obtain ⟨v, h1, h2, _⟩ := R.slot i _ z
        exact ⟨v, h1, h2, trivial⟩
      | cell j =>
        simp only [Option.map_some, Option.some.injEq] at e
        split at e
        · cases e
          rename_i hj
          obtain ⟨v, h1, h2, _⟩ := R.slot i _ z
          exact ⟨v, h1, h2, by show j < (S.μ.take n).length; rw [List.length_take]; omega⟩
        · cases e
theorem dss_gc {ss : List Stmt} {t : DTS} (h : DSs X B ss t) : DSs X B ss (dGc t) :=
  h.weak fun D σ H ⟨S, P, α, F, R, p, q1, q2, q3, q4⟩ => by
    have key : ∀ {S' α' F' σ' H'}, Grow S α F S' α' F' → StR X.K B S' α' F' σ' H' → Grow S α F (gcS S.μ.length S') α' F' ∧ StR X.K B (gcS S.μ.length S') α' F' σ' H' := fun g R' => ⟨⟨g.sub, by show _ ≤ (List.take _ _).length; rw [List.length_take]; have := g.len; omega, g.al⟩, R'.gc R.np g.len⟩
    exact ⟨S, _, α, F, R, p, fun S' α' F' σ' H' p' g R' => q1 _ _ _ _ _ p' (key g R').1 (key g R').2, q2, fun S' α' F' σ' H' p' g R' => q3 _ _ _ _ _ p' (key g R').1 (key g R').2, fun S' α' F' σ' H' p' g R' => q4 _ _ _ _ _ p' (key g R').1 (key g R').2⟩
/-! ### properties -/
/-- o.f, a property that hands out the field g -/
def dProp (C : Addr) (g : Str) (ta : DTE) : DTE := fun S P => ta S fun S1 r => ∃ ns ds d, insOf S1 r = some (C, ns, ds) ∧ getF ns ds g = some d ∧ P S1 (.fr d)
end
end TD
/-! TD11: chains, texts, sequences put together, slices, sorting. -/
namespace TD
open PySem PySem.Spec PyProof.Rows L2
section
variable {X : Cx} {B : Base} {K : PySem.W.Frag} {a b c e o i value : Expr} {es : List Expr} {ta tb tc : DTE} {tr : DTA} {tA : DTT} {t : DTS} {pos p p2 apos cpos : Pos} {S : DS} {α : Nat → Addr} {F : Hp} {σ : L2.St} {H : Hp} {f m : Str} {C : Addr}
/-! ### a < b < c -/
theorem chain_weak {r r' : R2} {t t' : D2} (l : Link2 X B r t) (l' : Link2 X B r' t') : ∀ σ H Q, liftE X.K B (dChain t t' ta tb tc) σ H Q → tChain r r' (liftE X.K B ta) (liftE X.K B tb) (liftE X.K B tc) σ H Q := by
  rintro σ H Q ⟨S, P, α, F, R, p, q⟩
  refine ⟨S, _, α, F, R, p, fun S1 x α1 F1 H1 v p1 g1 R1 i1 r1 => ⟨S1, _, α1, F1, R1, p1, fun S2 y α2 F2 H2 u p2 g2 R2 i2 r2 => ?_⟩⟩
  refine l x y S2 _ α2 F2 σ H2 v u _ R2 (r1.grow g2 i1) r2 (i1.up g2) i2 p2 fun S3 z α3 F3 H3 w ⟨k, ez, p3⟩ g3 R3 _ rz => ?_
  subst ez
  refine ⟨k, rz, ?_⟩
  cases k with
  | true =>
    rw [if_pos rfl] at p3 ⊢
    refine ⟨S3, _, α3, F3, R3, p3, fun S4 w' α4 F4 H4 v4 p4 g4 R4 i4 r4 => ?_⟩
    exact l' y w' S4 P α4 F4 σ H4 u v4 Q R4 (r2.grow (g3.trans g4) i2) r4 (i2.up (g3.trans g4)) i4 p4 fun S' z' α' F' H' w2 pz g R' iz rz' => q S' z' α' F' H' w2 pz ((((g1.trans g2).trans g3).trans g4).trans g) R' iz rz'
  | false =>
    rw [if_neg Bool.false_ne_true] at p3 ⊢
    exact q S3 _ α3 F3 H3 _ p3 ((g1.trans g2).trans g3) R3 trivial rfl
theorem de_lele (ha : DE X B a ta) (hb : DE X B b tb) (hc : DE X B c tc) (hm : lastMarks [.LtE, .LtE] [b, c] = false := by with_unfolding_all rfl) : DE X B (.Compare a [.LtE, .LtE] [b, c] pos) (dChain (dII0 fun i j => .bl (decide (i ≤ j))) (dII0 fun i j => .bl (decide (i ≤ j))) ta tb tc) :=
  (pe_chain op_le op_le ha hb hc hm).weak (chain_weak (link_II0 fun _ _ => rfl) (link_II0 fun _ _ => rfl))
theorem de_lelt (ha : DE X B a ta) (hb : DE X B b tb) (hc : DE X B c tc) (hm : lastMarks [.LtE, .Lt] [b, c] = false := by with_unfolding_all rfl) : DE X B (.Compare a [.LtE, .Lt] [b, c] pos) (dChain (dII0 fun i j => .bl (decide (i ≤ j))) (dII0 fun i j => .bl (decide (i < j))) ta tb tc) :=
  (pe_chain op_le op_lt ha hb hc hm).weak (chain_weak (link_II0 fun _ _ => rfl) (link_II0 fun _ _ => rfl))
theorem dt_lele (ha : DE X B a ta) (hb : DE X B b tb) (hc : DE X B c tc) (hm : lastMarks [.LtE, .LtE] [b, c] = false := by with_unfolding_all rfl) : DT X B (.Compare a [.LtE, .LtE] [b, c] pos) (dB (dChain (dII0 fun i j => .bl (decide (i ≤ j))) (dII0 fun i j => .bl (decide (i ≤ j))) ta tb tc)) :=
  (pt_chain op_le op_le ha hb hc hm).weak fun _ _ _ q => chain_weak (link_II0 fun _ _ => rfl) (link_II0 fun _ _ => rfl) _ _ _ (liftB q)
theorem dt_lelt (ha : DE X B a ta) (hb : DE X B b tb) (hc : DE X B c tc) (hm : lastMarks [.LtE, .Lt] [b, c] = false := by with_unfolding_all rfl) : DT X B (.Compare a [.LtE, .Lt] [b, c] pos) (dB (dChain (dII0 fun i j => .bl (decide (i ≤ j))) (dII0 fun i j => .bl (decide (i < j))) ta tb tc)) :=
  (pt_chain op_le op_lt ha hb hc hm).weak fun _ _ _ q => chain_weak (link_II0 fun _ _ => rfl) (link_II0 fun _ _ => rfl) _ _ _ (liftB q)
/-! ### + on texts, lists, tuples -/
def strX : D2 := fun x y S P => ∃ i j : Str, x = .fr (.str i) ∧ y = .fr (.str j) ∧ i.length + j.length ≤ 1000000 ∧ P S (.fr (.str (i ++ j)))
theorem le_line {n : Nat} (h : n ≤ 1000000) : n ≤ sizeLine := by rw [sizeLine_eq]; omega
theorem de_sadd (ha : DE X B a ta) (hb : DE X B b tb) : DE X B (.BinOp a .Add b pos) (dOp strX ta tb) :=
  de_op op_add_str (by
    rintro x y S P α F σ H v u Q R rx ry _ _ ⟨i, j, rfl, rfl, hl, p⟩ q
    cases (show v = .str i from rx)
    cases (show u = .str j from ry)
    exact ⟨i, j, rfl, rfl, le_line hl, q S _ α F H _ p (.refl _ _ _) R trivial rfl⟩) ha hb
def catX : D2 := fun x y S P => ∃ xs ys, lstOf S x = some xs ∧ lstOf S y = some ys ∧ xs.length + ys.length ≤ 1000000 ∧ P S (.fr (.lst (xs ++ ys)))
theorem de_cat (ha : DE X B a ta) (hb : DE X B b tb) : DE X B (.BinOp a .Add b pos) (dOp catX ta tb) :=
  de_op op_cat (by
    rintro x y S P α F σ H v u Q R rx ry _ _ ⟨xs, ys, e1, e2, hl, p⟩ q
    obtain ⟨a1, v1, rfl, h1, l1⟩ := lst_at R rx e1
    obtain ⟨a2, v2, rfl, h2, l2⟩ := lst_at R ry e2
    refine ⟨a1, a2, v1, v2, rfl, rfl, h1, h2, by rw [l1.length, l2.length]; exact le_line hl, fun p0 hp => ?_⟩
    obtain ⟨R2, sm⟩ := R.newF (o := .lst (v1 ++ v2)) hp
    exact q S _ α _ _ _ p ⟨sm, Nat.le_refl _, fun _ _ => rfl⟩ R2 trivial ⟨p0, _, rfl, upd_same, (l1.append l2).mono sm⟩) ha hb
def catTX : D2 := fun x y S P => ∃ xs ys, x = .fr (.tup xs) ∧ y = .fr (.tup ys) ∧ xs.length + ys.length ≤ 1000000 ∧ P S (.fr (.tup (xs ++ ys)))
theorem de_catT (ha : DE X B a ta) (hb : DE X B b tb) : DE X B (.BinOp a .Add b pos) (dOp catTX ta tb) :=
  de_op op_catP (by
    rintro x y S P α F σ H v u Q R rx ry _ _ ⟨xs, ys, rfl, rfl, hl, p⟩ q
    obtain ⟨a1, v1, o1, rfl, h1, hp1, l1⟩ := rx
    obtain ⟨a2, v2, o2, rfl, h2, hp2, l2⟩ := ry
    refine ⟨a1, a2, v1, v2, rfl, rfl, sqt_frz (R.sub _ _ h1), sqt_frz (R.sub _ _ h2), by rw [l1.length, l2.length]; exact le_line hl, fun e1 => ?_, fun e1 e2 => ?_, fun e1 e2 p0 o hp ho => ?_⟩
    · have z : xs = [] := by
        have := l1.length; rw [e1] at this; exact List.length_eq_zero_iff.mp this.symm
      subst z
      exact q S _ α F H _ p (.refl _ _ _) R trivial ⟨a2, v2, o2, rfl, h2, hp2, l2⟩
    · have z : ys = [] := by
        have := l2.length; rw [e2] at this; exact List.length_eq_zero_iff.mp this.symm
      subst z
      refine q S _ α F H _ p (.refl _ _ _) R trivial ?_
      rw [List.append_nil]
      exact ⟨a1, v1, o1, rfl, h1, hp1, l1⟩
    · obtain ⟨R2, sm⟩ := R.newF (o := .frz o (.tup (v1 ++ v2))) hp
      exact q S _ α _ _ _ p ⟨sm, Nat.le_refl _, fun _ _ => rfl⟩ R2 trivial ⟨p0, _, o, rfl, upd_same, ho, (l1.append l2).mono sm⟩) ha hb
/-- a list times an int -/
def repX : D2 := fun x y S P => ∃ xs k, lstOf S x = some xs ∧ y = .fr (.int k) ∧ k < 1000 ∧ 0 ≤ k ∧ xs.length < 1000 ∧ P S (.fr (.lst (List.replicate k.toNat xs).flatten))
theorem flat_rep : ∀ (n : Nat) {ds : List D} {vs : List V}, RepL K F ds vs → RepL K F (List.replicate n ds).flatten (List.replicate n vs).flatten
  | 0, _, _, _ => rfl
  | n + 1, _, _, h => by
    rw [List.replicate_succ, List.replicate_succ, List.flatten_cons, List.flatten_cons]
    exact h.append (flat_rep n h)
theorem de_rep (ha : DE X B a ta) (hb : DE X B b tb) : DE X B (.BinOp a .Mult b pos) (dOp repX ta tb) :=
  de_op op_rep (by
    rintro x y S P α F σ H v u Q R rx ry _ _ ⟨xs, k, e1, rfl, hk, hk0, hl, p⟩ q
    obtain ⟨a1, v1, rfl, h1, l1⟩ := lst_at R rx e1
    cases (show u = .int k from ry)
    refine ⟨a1, k, v1, rfl, rfl, h1, by omega, by omega, ?_, fun p0 hp => ?_⟩
    · rw [l1.length]
      have : k.toNat < 1000 := by omega
      have := Nat.mul_le_mul (Nat.le_of_lt hl) (Nat.le_of_lt this)
      exact le_line (by omega)
    · obtain ⟨R2, sm⟩ := R.newF (o := .lst (List.replicate k.toNat v1).flatten) hp
      exact q S _ α _ _ _ p ⟨sm, Nat.le_refl _, fun _ _ => rfl⟩ R2 trivial ⟨p0, _, rfl, upd_same, (flat_rep k.toNat l1).mono sm⟩) ha hb
/-- a text times an int -/
theorem foldl_rep (a : Array Nat) : ∀ (n : Nat) (acc : Array Nat), ((List.replicate n a).foldl (· ++ ·) acc).size = acc.size + n * a.size
  | 0, acc => by simp
  | n + 1, acc => by
    rw [List.replicate_succ, List.foldl_cons, foldl_rep a n, Array.size_append, Nat.succ_mul]
    omega
def strRep (x : Str) (n : Nat) : Str := ⟨(List.replicate n x.cps).foldl (· ++ ·) #[]⟩
def smulX : D2 := fun x y S P => ∃ z k, x = .fr (.str z) ∧ y = .fr (.int k) ∧ 0 ≤ k ∧ k < 1000 ∧ z.length < 1000 ∧ P S (.fr (.str (if k < 1 then Str.empty else if (k == 1 || z.length == 0) = true then z else strRep z k.toNat)))
theorem op_smul : OpR X (binaryOp .Mult) (fun x y H Q => ∃ z k, x = V.str z ∧ y = V.int k ∧ 0 ≤ k ∧ k < 1000 ∧ z.length < 1000 ∧ Q (.str (if k < 1 then Str.empty else if (k == 1 || z.length == 0) = true then z else strRep z k.toNat)) H) := by
  intro pins s σ H x y v u Q I rx ry ⟨z, k, ex, ey, h0, h1, h2, q⟩
  subst ex ey
  obtain ⟨t, rfl⟩ := rx
  obtain ⟨t', rfl⟩ := ry
  refine PySem.P.mul_str (by
      have h3 : ¬ k < -(2 ^ 63 : Int) := by omega
      have h4 : ¬ k ≥ 2 ^ 63 := by omega
      rw [decide_eq_false h3, decide_eq_false h4]; rfl) (fun hk _ => ?_) (fun hk _ => ?_) ?_
  · have h5 : (9223372036854775 : Int) ≤ (2 ^ 63 - 1) / k := by
      refine (Int.le_ediv_iff_mul_le (by omega)).mpr ?_
      have : k ≤ 1000 := by omega
      have := Int.mul_le_mul_of_nonneg_left (c := 9223372036854775) this (by decide)
      omega
    omega
  · have h5 : z.length * k.toNat ≤ 1000 * 1000 := Nat.mul_le_mul (Nat.le_of_lt h2) (by omega)
    have h6 : ¬ z.length * k.toNat > sizeLine := by rw [sizeLine_eq]; omega
    exact decide_eq_false h6
  · by_cases hk : k < 1
    · rw [if_pos hk] at q ⊢
      exact ⟨by decide, .str Str.empty, H, I.tok _, ⟨_, rfl⟩, q⟩
    · rw [if_neg hk] at q ⊢
      by_cases hk2 : (k == 1 || z.length == 0) = true
      · rw [if_pos hk2] at q ⊢
        exact ⟨.str z, H, I, ⟨_, rfl⟩, q⟩
      · rw [if_neg hk2] at q ⊢
        refine ⟨?_, .str (strRep z k.toNat), H, I.tok _, ⟨_, rfl⟩, q⟩
        have h5 : k.toNat * z.cps.size ≤ 1000 * 1000 := Nat.mul_le_mul (by omega) (Nat.le_of_lt h2)
        have h6 : ((List.replicate k.toNat z.cps).foldl (· ++ ·) #[]).size = (#[] : Array Nat).size + k.toNat * z.cps.size := foldl_rep z.cps k.toNat #[]
        show ((List.replicate k.toNat z.cps).foldl (· ++ ·) #[]).size ≤ sizeLine
        rw [h6, sizeLine_eq]
        simp only [List.size_toArray, List.length_nil]
        omega
theorem de_smul (ha : DE X B a ta) (hb : DE X B b tb) : DE X B (.BinOp a .Mult b pos) (dOp smulX ta tb) :=
  de_op op_smul (by
    rintro x y S P α F σ H v u Q R rx ry _ _ ⟨z, k, rfl, rfl, h0, h1, h2, p⟩ q
    cases (show v = .str z from rx)
    cases (show u = .int k from ry)
    exact ⟨z, k, rfl, rfl, h0, h1, h2, q S _ α F H _ p (.refl _ _ _) R trivial rfl⟩) ha hb
/-! ### slices -/
abbrev DTO := DS → (DS → Option Int → Prop) → Prop
def liftO (K : PySem.W.Frag) (B : Base) (td : DTO) : TO := fun σ H Q => ∃ S P α F, StR K B S α F σ H ∧ td S P ∧
  ∀ S' b α' F' H', P S' b → Grow S α F S' α' F' → StR K B S' α' F' σ H' → Q b H'
abbrev DO (X : Cx) (B : Base) (e : Option Expr) (td : DTO) : Prop := PO X e (liftO X.K B td)
def oNo : DTO := fun S P => P S none
def oPart (t : DTE) : DTO := fun S P => t S fun S1 r => ∃ i, r = .fr (.int i) ∧ P S1 (some i)
theorem do_none : DO X B none oNo := ⟨fun pins s σ H Q I ⟨S, P, α, F, R, p, q⟩ => po_none.run pins s σ H Q I (q S none α F H p (.refl _ _ _) R)⟩
theorem do_some (h : DE X B e ta) : DO X B (some e) (oPart ta) := ⟨fun pins s σ H Q I ⟨S, P, α, F, R, p, q⟩ => (po_some h).run pins s σ H Q I ⟨S, _, α, F, R, p, fun S1 r α1 F1 H1 v ⟨i, er, p1⟩ g1 R1 _ rv => by
  subst er
  exact ⟨i, rv, q S1 (some i) α1 F1 H1 p1 g1 R1⟩⟩⟩
/-- the part [lo:hi] -/
def cutD (xs : List D) (lo hi : Option Int) : List D := (xs.drop (HT.sIx xs.length 0 lo)).take (HT.sIx xs.length xs.length hi - HT.sIx xs.length 0 lo)
theorem cut_rep {ds : List D} {vs : List V} {lo hi : Option Int} (h : RepL K F ds vs) : RepL K F (cutD ds lo hi) (cutV vs lo hi) := by
  unfold cutD cutV
  rw [h.length]
  exact (h.drop _).take _
def dSl (td : DTE) (tl th : DTO) : DTE := fun S P => td S fun S1 x => tl S1 fun S2 lo => th S2 fun S3 hi => (∃ xs, lstOf S3 x = some xs ∧ P S3 (.fr (.lst (cutD xs lo hi)))) ∨ ∃ xs, x = .fr (.tup xs) ∧ P S3 (.fr (.tup (cutD xs lo hi)))
theorem sIx_le {n : Nat} {lo : Option Int} {d : Nat} (hd : d ≤ n) : HT.sIx n d lo ≤ n := by
  unfold HT.sIx
  split <;> (try split) <;> omega
theorem de_sl {lo hi : Option Expr} {tl th : DTO} (he : DE X B e ta) (hl : DO X B lo tl) (hu : DO X B hi th) : DE X B (.Subscript e (.Slice lo hi none p2) pos) (dSl ta tl th) :=
  (pe_slice (SlR.or sl_list sl_tupP) he hl hu).weak fun σ H Q ⟨S, P, α, F, R, p, q⟩ => ⟨S, _, α, F, R, p, fun S1 x α1 F1 H1 v p1 g1 R1 i1 r1 => ⟨S1, _, α1, F1, R1, p1, fun S2 l α2 F2 H2 p2 g2 R2 => ⟨S2, _, α2, F2, R2, p2, fun S3 u α3 F3 H3 p3 g3 R3 => by
    have r3 := r1.grow (g2.trans g3) i1
    rcases p3 with ⟨xs, e, p3⟩ | ⟨xs, rfl, p3⟩
    · obtain ⟨a, vs, rfl, h1, rl⟩ := lst_at R3 r3 e
      refine .inl ⟨a, vs, rfl, .of h1, fun p0 hp => ?_⟩
      obtain ⟨R4, sm⟩ := R3.newF (o := .lst (cutV vs l u)) hp
      exact q S3 _ α3 _ _ _ p3 (((g1.trans g2).trans g3).trans ⟨sm, Nat.le_refl _, fun _ _ => rfl⟩) R4 trivial ⟨p0, _, rfl, upd_same, (cut_rep rl).mono sm⟩
    · obtain ⟨a, vs, o0, rfl, h1, hp0, rl⟩ := r3
      refine .inr ⟨a, vs, rfl, sqt_frz (R3.sub _ _ h1), fun hw => ?_, fun hw p0 o hp ho => ?_⟩
      · have e : cutD xs l u = xs := by
          unfold cutD
          rw [← rl.length, hw.1, hw.2]
          rw [rl.length]
          simp
        rw [e] at p3
        exact q S3 _ α3 F3 H3 _ p3 ((g1.trans g2).trans g3) R3 trivial ⟨a, vs, o0, rfl, h1, hp0, rl⟩
      · obtain ⟨R4, sm⟩ := R3.newF (o := .frz o (.tup (cutV vs l u))) hp
        exact q S3 _ α3 _ _ _ p3 (((g1.trans g2).trans g3).trans ⟨sm, Nat.le_refl _, fun _ _ => rfl⟩) R4 trivial ⟨p0, _, o, rfl, upd_same, ho, (cut_rep rl).mono sm⟩⟩⟩⟩
/-! ### texts -/
theorem repL_strs (K : PySem.W.Frag) (F : Hp) : ∀ ns : List Str, RepL K F (ns.map D.str) (ns.map V.str)
  | [] => rfl
  | n :: ns => ⟨_, _, rfl, rfl, repL_strs K F ns⟩
def dSplit (to te : DTE) : DTE := fun S P => to S fun S1 x => ∃ a : Str, x = .fr (.str a) ∧ te S1 fun S2 y => ∃ b : Str, y = .fr (.str b) ∧ (b.length == 0) = false ∧ a.length ≤ 1000000 ∧ P S2 (.fr (.lst ((Txt.split a b).map .str)))
theorem de_split (ho : DE X B o ta) (he : DE X B e tb) (hs : starEach [e] X.env = [(false, eval e X.env)] := by rfl) (hbase : attributeBase o "split" X.env (eval o X.env) = eval o X.env := by rfl) (hline : (apos.endLine == pos.line) = true := by rfl) :
    DE X B (.Call (.Attribute o "split" apos) [e] [] pos) (dSplit ta tb) :=
  (pe_split ho he hs hbase hline).weak fun σ H Q ⟨S, P, α, F, R, p, q⟩ => ⟨S, _, α, F, R, p, fun S1 x α1 F1 H1 v ⟨a, ex, p1⟩ g1 R1 i1 r1 => by
    subst ex
    cases (show v = .str a from r1)
    refine ⟨⟨a, rfl⟩, S1, _, α1, F1, R1, p1, fun S2 y α2 F2 H2 u ⟨b, ey, h0, hz, p2⟩ g2 R2 _ r2 => ?_⟩
    subst ey
    cases (show u = .str b from r2)
    refine ⟨a, b, rfl, rfl, h0, by rw [sizeLine_eq]; omega, fun p0 hp => ?_⟩
    obtain ⟨R4, sm⟩ := R2.newF (o := .lst ((Txt.split a b).map V.str)) hp
    exact q S2 _ α2 _ _ _ p2 ((g1.trans g2).trans ⟨sm, Nat.le_refl _, fun _ _ => rfl⟩) R4 trivial ⟨p0, _, rfl, upd_same, repL_strs _ _ _⟩⟩
def dJoin (to te : DTE) : DTE := fun S P => to S fun S1 x => ∃ a : Str, x = .fr (.str a) ∧ te S1 fun S2 y => ∃ ys : List Str, lstOf S2 y = some (ys.map .str) ∧ (ys.map (·.length)).sum + ys.length * a.length ≤ 16777216 ∧ P S2 (.fr (.str (Txt.join a ys)))
theorem de_join (ho : DE X B o ta) (he : DE X B e tb) (hs : starEach [e] X.env = [(false, eval e X.env)] := by rfl) (hbase : attributeBase o "join" X.env (eval o X.env) = eval o X.env := by rfl) (hline : (apos.endLine == pos.line) = true := by rfl) :
    DE X B (.Call (.Attribute o "join" apos) [e] [] pos) (dJoin ta tb) :=
  (pe_join ho he hs hbase hline).weak fun σ H Q ⟨S, P, α, F, R, p, q⟩ => ⟨S, _, α, F, R, p, fun S1 x α1 F1 H1 v ⟨a, ex, p1⟩ g1 R1 i1 r1 => by
    subst ex
    cases (show v = .str a from r1)
    refine ⟨⟨a, rfl⟩, S1, _, α1, F1, R1, p1, fun S2 y α2 F2 H2 u ⟨ys, el, hz, p2⟩ g2 R2 _ r2 => ?_⟩
    obtain ⟨l, vs, rfl, h1, rl⟩ := lst_at R2 r2 el
    rw [strs_inv rl] at h1
    exact ⟨a, l, ys, rfl, rfl, .inl (.of h1), hz, q S2 _ α2 F2 H2 _ p2 (g1.trans g2) R2 trivial rfl⟩⟩
/-- int(text) -/
def intSL : DL := fun xs S P => ∃ a n, xs = [.fr (.str a)] ∧ PySem.intText? a = some n ∧ a.length ≤ 640 ∧ P S (.fr (.int n))
theorem de_intS (hm : X.mg "int" = none) (ha : DA X B (e :: es) tr) (hg : Gl X "int" := by rfl) (he : starEach (e :: es) X.env = (false, eval e X.env) :: starEach es X.env := by rfl) (hpl : (backTo pos (starEach es X.env)).any (·.1) = false := by rfl) : DE X B (.Call (.Name "int" p) (e :: es) [] pos) (dCB intSL tr) :=
  de_callTy call_int_str (by
    rintro xs S P α F σ H vs Q R rv _ ⟨a, n, rfl, h1, h2, p⟩ q
    obtain ⟨v, us, rfl, r1, rfl⟩ := rv
    cases (show v = .str a from r1)
    exact ⟨a, n, rfl, h1, h2, q S _ α F H _ p (.refl _ _ _) R trivial rfl⟩) hg hm (by decide +kernel) ha (by decide) (by decide) he hpl
/-- {x} in a text -/
def dFmt (te : DTE) : DTE := fun S P => te S fun S1 x => (∃ y : Str, x = .fr (.str y) ∧ y.length ≤ 1000000 ∧ P S1 (.fr (.str y))) ∨ ∃ i : Int, x = .fr (.int i) ∧ i.natAbs.log2 < 1920 ∧ P S1 (.fr (.str (toString i)))
theorem de_fmt (he : DE X B e ta) : DE X B (.FormattedValue e (-1) none pos) (dFmt ta) :=
  (pe_fmt he).weak fun σ H Q ⟨S, P, α, F, R, p, q⟩ => ⟨S, _, α, F, R, p, fun S1 x α1 F1 H1 v p1 g1 R1 i1 r1 => by
    rcases p1 with ⟨y, rfl, hl, p1⟩ | ⟨i, rfl, hl, p1⟩
    · cases (show v = .str y from r1)
      exact .inl ⟨y, rfl, le_line hl, q S1 _ α1 F1 H1 _ p1 g1 R1 trivial rfl⟩
    · cases (show v = .int i from r1)
      exact .inr ⟨i, rfl, hl, q S1 _ α1 F1 H1 _ p1 g1 R1 trivial rfl⟩⟩
inductive DJ (X : Cx) (B : Base) : List Expr → List DTE → Prop where
  | nil : DJ X B [] []
  | cons {e : Expr} {t : DTE} {es : List Expr} {ts : List DTE} (h : DE X B e t) (r : DJ X B es ts) : DJ X B (e :: es) (t :: ts)
theorem DJ.pj {es : List Expr} {ts : List DTE} (h : DJ X B es ts) : PJ X es (ts.map (liftE X.K B)) := by
  induction h with
  | nil => exact .nil
  | cons h _ ih => exact .cons h ih
def dJs : List DTE → Str → DS → (DS → SV → Prop) → Prop
  | [], acc, S, P => P S (.fr (.str acc))
  | t :: ts, acc, S, P => t S fun S1 x => ∃ y : Str, x = .fr (.str y) ∧ acc.length + y.length ≤ 1000000 ∧ dJs ts (acc ++ y) S1 P
theorem Str_len_append (a b : Str) : (a ++ b).length = a.length + b.length := by
  show (a.cps ++ b.cps).size = _
  rw [Array.size_append]; rfl
theorem dJs_weak {Q : VK} : ∀ (ts : List DTE) (acc : Str) (S : DS) (P : DS → SV → Prop) (α : Nat → Addr) (F : Hp) (H : Hp), StR X.K B S α F σ H → dJs ts acc S P →
    (∀ S' r α' F' H' v, P S' r → Grow S α F S' α' F' → StR X.K B S' α' F' σ H' → InR S' r → RepV X.K F' α' r v → Q v H') → tJs (ts.map (liftE X.K B)) acc σ H fun out H1 => Q (.str out) H1
  | [], acc, S, P, α, F, H, R, p, q => q S (.fr (.str acc)) α F H _ p (.refl _ _ _) R trivial rfl
  | t :: ts, acc, S, P, α, F, H, R, p, q => ⟨S, _, α, F, R, p, fun S1 x α1 F1 H1 v ⟨y, ex, hl, p1⟩ g1 R1 _ r1 => by
    subst ex
    cases (show v = .str y from r1)
    exact ⟨y, rfl, le_line (by rw [Str_len_append]; exact hl), dJs_weak ts (acc ++ y) S1 P α1 F1 H1 R1 p1 fun S' r α' F' H' v p g => q S' r α' F' H' v p (g1.trans g)⟩⟩
theorem de_joined {v1 v2 : Expr} {rest : List Expr} {ts : List DTE} (h : DJ X B (v1 :: v2 :: rest) ts) : DE X B (.JoinedStr (v1 :: v2 :: rest) pos) (dJs ts Str.empty) :=
  (pe_joined h.pj).weak fun σ H Q ⟨S, P, α, F, R, p, q⟩ => dJs_weak ts _ S P α F H R p q
/-! ### sorted pairs -/
/-- a before b -/
def ltPr (a b : Int × Int) : Bool := SrtO.lexB a b
def prD (q : Int × Int) : D := .tup [.int q.1, .int q.2]
def sortPL : DL := fun xs S P => ∃ x, ∃ ps : List (Int × Int), xs = [x] ∧ lstOf S x = some (ps.map prD) ∧ ∀ qs : List (Int × Int), qs.Perm ps → qs.Pairwise (fun a b => ltPr b a = false) → P S (.fr (.lst (qs.map prD)))
def kOf (F : Hp) : V → Int × Int
  | .ref t => match F t with
    | some (.frz _ (.tup [.int i, .int j])) => (i, j)
    | _ => (0, 0)
  | _ => (0, 0)
theorem kOf_rep {q : Int × Int} {v : V} (h : Rep K F (prD q) v) : kOf F v = q ∧ ∃ t o, v = .ref t ∧ F t = some (.frz o (.tup [.int q.1, .int q.2])) := by
  obtain ⟨a, vs, o, rfl, h1, _, h2⟩ := h
  obtain ⟨x, r, rfl, hx, y, r', rfl, hy, rfl⟩ := h2
  cases (show x = .int q.1 from hx)
  cases (show y = .int q.2 from hy)
  exact ⟨by simp only [kOf, h1], a, o, rfl, h1⟩
theorem prs_rep : ∀ {ps : List (Int × Int)} {vs : List V}, RepL K F (ps.map prD) vs → vs.map (kOf F) = ps ∧ ∀ v ∈ vs, Rep K F (prD (kOf F v)) v
  | [], vs, h => by simp only [List.map_nil, RepL] at h; subst h; exact ⟨rfl, fun v hv => by cases hv⟩
  | p :: ps, _, h => by
    obtain ⟨v, r, rfl, h2, h3⟩ := h
    obtain ⟨e1, e2⟩ := prs_rep h3
    obtain ⟨e3, _⟩ := kOf_rep h2
    refine ⟨by rw [List.map_cons, e1, e3], fun u hu => ?_⟩
    rcases List.mem_cons.mp hu with rfl | hu
    · rw [e3]; exact h2
    · exact e2 u hu
theorem rep_prs : ∀ {vs : List V}, (∀ v ∈ vs, Rep K F (prD (kOf F v)) v) → RepL K F ((vs.map (kOf F)).map prD) vs
  | [], _ => rfl
  | v :: vs, h => ⟨v, vs, rfl, h v List.mem_cons_self, rep_prs fun u hu => h u (List.mem_cons_of_mem _ hu)⟩
theorem de_sortedP (hm : X.mg "sorted" = none) (ha : DA X B (e :: es) tr) (hg : Gl X "sorted" := by rfl) (he : starEach (e :: es) X.env = (false, eval e X.env) :: starEach es X.env := by rfl) (hpl : (backTo pos (starEach es X.env)).any (·.1) = false := by rfl) : DE X B (.Call (.Name "sorted" p) (e :: es) [] pos) (dCB sortPL tr) :=
  de_callB cr_sortedPQ (by
    rintro xs S P α F σ H vs Q R rv _ ⟨x, ps, rfl, e, p⟩ q
    obtain ⟨v, us, rfl, r1, rfl⟩ := rv
    obtain ⟨a, ws, rfl, h1, rl⟩ := lst_at R r1 e
    obtain ⟨k1, k2⟩ := prs_rep rl
    refine ⟨a, ws, kOf F, rfl, .of h1, fun v hv => ?_, fun ys l hs hst hl => ?_⟩
    · obtain ⟨_, t, o, e1, e2⟩ := kOf_rep (k2 v hv)
      exact ⟨t, e1, sqt_frz (R.sub _ _ e2)⟩
    · obtain ⟨R2, sm⟩ := R.newF (o := .lst ys) hl
      refine q S _ α _ _ _ (p (ys.map (kOf F)) ?_ ?_) ⟨sm, Nat.le_refl _, fun _ _ => rfl⟩ R2 trivial ⟨l, _, rfl, upd_same, RepL.mono sm _ _ (rep_prs fun v hv => k2 v (hst.perm.mem_iff.mp hv))⟩
      · rw [← k1]; exact hst.perm.map _
      · exact List.pairwise_map.mpr hs) hg hm (by decide +kernel) ha (by decide) (by decide) he hpl
/-! ### targets that are unpacked -/
def dAsg (te : DTE) (g : DTG) : DTS := fun P S => te S fun S1 r => ∃ d, r = .fr d ∧ g d S1 P.nx
theorem ds_asg {tg : Expr} {ns : List Nat} {g : DTG} (he : DE X B e ta) (hg : DG X B tg ns g) (hs : swapsWithSole [tg] e pos.line X.env = pure false := by rfl) (hw : swappedStores [tg] e X.env = pure none := by rfl)
    (h1 : (assignEach [tg] X.env).map (·.2) = [assign tg X.env] := by rfl) : DSt X B (.Assign [tg] e pos) (dAsg ta g) :=
  (ps_asg he hg hs hw h1).weak fun D σ H ⟨S, P, α, F, R, p, q1, _⟩ => ⟨S, _, α, F, R, p, fun S1 r α1 F1 H1 v ⟨d, er, p1⟩ g1 R1 _ rv => by
    subst er
    exact ⟨S1, d, _, α1, F1, R1, rv, p1, fun S' α' F' σ' H' p' g' R' _ => q1 S' α' F' σ' H' p' (g1.trans g') R'⟩⟩
/-! ### == and in of nested data: ∈ -/
def inDX (neg : Bool) : D2 := fun x y S P => ∃ dx dy px py, svD S x = some dx ∧ svD S y = some dy ∧ pyD dx = some px ∧ pyD dy = some (.list py) ∧ SeqAt.shaped px = true ∧ SeqAt.shaped (.list py) = true ∧ P S (.fr (.bl (if neg then !py.any (fun z => PyData.eqv z px) else py.any (fun z => PyData.eqv z px))))
theorem link_inD : Link2 X B (rInD X.K) (inDX false) := by
  rintro x y S P α F σ H v u Q R rx ry _ _ ⟨dx, dy, px, py, h1, h2, h3, h4, h5, h6, p⟩ q
  exact ⟨px, py, pyD_dp _ _ _ (view R rx h1) h3, pyD_dp _ _ _ (view R ry h2) h4, h5, h6, q S _ α F H _ p (.refl _ _ _) R trivial rfl⟩
theorem link_ninD : Link2 X B (rNotInD X.K) (inDX true) := by
  rintro x y S P α F σ H v u Q R rx ry _ _ ⟨dx, dy, px, py, h1, h2, h3, h4, h5, h6, p⟩ q
  exact ⟨px, py, pyD_dp _ _ _ (view R rx h1) h3, pyD_dp _ _ _ (view R ry h2) h4, h5, h6, q S _ α F H _ p (.refl _ _ _) R trivial rfl⟩
theorem dt_inDD (hu : X.A.units + 65 < cLine) (ha : DE X B a ta) (hb : DE X B b tb) (hm : behindInMarks .In b = false := by rfl) : DT X B (.Compare a [.In] [b] pos) (dB (dOp (inDX false) ta tb)) := dt_cmp (op_inD hu) link_inD hm ha hb
theorem dt_notinDD (hu : X.A.units + 65 < cLine) (ha : DE X B a ta) (hb : DE X B b tb) (hm : behindInMarks .NotIn b = false := by rfl) : DT X B (.Compare a [.NotIn] [b] pos) (dB (dOp (inDX true) ta tb)) := dt_cmp (op_notInD hu) link_ninD hm ha hb
end
end TD
/-! TD12: dicts built. -/
namespace TD
open PySem PySem.Spec PyProof.Rows L2
section
variable {X : Cx} {B : Base} {K : PySem.W.Frag} {a b c e o i value : Expr} {es : List Expr} {ta tb tc : DTE} {tr : DTA} {tA : DTT} {t : DTS} {pos p p2 apos cpos : Pos} {S : DS} {α : Nat → Addr} {F : Hp} {σ : L2.St} {H : Hp} {f m : Str} {C : Addr}
/-- pairs put in one after another -/
def mkKs : List Key → List (Key × D) → List Key
  | ks, [] => ks
  | ks, (k, _) :: r => mkKs (putKs ks k) r
def mkDs : List Key → List D → List (Key × D) → List D
  | _, ds, [] => ds
  | ks, ds, (k, d) :: r => mkDs (putKs ks k) (putDs ks ds k d) r
def PrR (K : PySem.W.Frag) (F : Hp) : List (Key × D) → List (Key × V) → Prop
  | [], vs => vs = []
  | (k, d) :: ps, vs => ∃ v r, vs = (k, v) :: r ∧ Rep K F d v ∧ PrR K F ps r
theorem PrR.mono {F' : Hp} (s : Same F F') : ∀ {ps : List (Key × D)} {vs : List (Key × V)}, PrR K F ps vs → PrR K F' ps vs
  | [], _, h => h
  | (k, d) :: ps, _, ⟨v, r, e, h1, h2⟩ => ⟨v, r, e, Rep.mono s _ _ h1, PrR.mono s h2⟩
theorem PrR.length : ∀ {ps : List (Key × D)} {vs : List (Key × V)}, PrR K F ps vs → vs.length = ps.length
  | [], _, h => by have h' : _ = _ := h; subst h'; rfl
  | (k, d) :: ps, _, ⟨v, r, e, h1, h2⟩ => by subst e; simp [PrR.length h2]
theorem merge_rep : ∀ {ps : List (Key × D)} {kvs : List (Key × V)} {ks : List Key} {ds : List D} {vs : List V}, PrR K F ps kvs → ks.length = ds.length → RepL K F ds vs →
    ∃ ws, mergeK (ks.zip vs) kvs = (mkKs ks ps).zip ws ∧ (mkKs ks ps).length = (mkDs ks ds ps).length ∧ RepL K F (mkDs ks ds ps) ws
  | [], _, ks, ds, vs, h, hl, r => by have h' : _ = _ := h; subst h'; exact ⟨vs, rfl, hl, r⟩
  | (k, d) :: ps, _, ks, ds, vs, ⟨v, q, e, h1, h2⟩, hl, r => by
    subst e
    have l2 : ks.length = vs.length := by rw [r.length]; exact hl
    obtain ⟨ws, h3, h4, h5⟩ := merge_rep (ks := putKs ks k) (ds := putDs ks ds k d) (vs := putDs ks vs k v) h2 (putDs_length hl) (putDs_rep hl r h1)
    refine ⟨ws, ?_, h4, h5⟩
    show mergeK (putK (ks.zip vs) k v) q = (mkKs (putKs ks k) ps).zip ws
    rw [putK_zip l2, h3]
theorem merge_dic {ps : List (Key × D)} {kvs : List (Key × V)} (h : PrR K F ps kvs) : ∃ ws, mergeK [] kvs = (mkKs [] ps).zip ws ∧ (mkKs [] ps).length = (mkDs [] [] ps).length ∧ RepL K F (mkDs [] [] ps) ws :=
  merge_rep (ks := []) (ds := []) (vs := []) h rfl rfl
/-! ### displays -/
inductive DPs (X : Cx) (B : Base) : List (Option Expr) → List Expr → List (DTE × DTE) → Prop where
  | nil : DPs X B [] [] []
  | cons {k v : Expr} {ks : List (Option Expr)} {vs : List Expr} {tk tv : DTE} {r : List (DTE × DTE)} (hk : DE X B k tk) (hv : DE X B v tv) (h : DPs X B ks vs r) : DPs X B (some k :: ks) (v :: vs) ((tk, tv) :: r)
theorem DPs.pps {ks : List (Option Expr)} {vs : List Expr} {r : List (DTE × DTE)} (h : DPs X B ks vs r) : PPs X pos ks vs (r.map fun q => (liftE X.K B q.1, liftE X.K B q.2)) := by
  induction h with
  | nil => exact pps_nil
  | cons hk hv _ ih => exact pps_cons hk hv ih
def dPrs : List (DTE × DTE) → DS → (DS → List (Key × D) → Prop) → Prop
  | [], S, P => P S []
  | (tk, tv) :: r, S, P => tk S fun S1 x => ∃ q k, x = .fr q ∧ keyD q = some k ∧ tv S1 fun S2 y => ∃ d, y = .fr d ∧ dPrs r S2 fun S3 ps => P S3 ((k, d) :: ps)
theorem dPrs_weak {Q : List (V × V) → Hp → Prop} : ∀ (r : List (DTE × DTE)) (S : DS) (P : DS → List (Key × D) → Prop) (α : Nat → Addr) (F : Hp) (H : Hp), StR X.K B S α F σ H → dPrs r S P →
    (∀ S' ps α' F' H' kvs, P S' ps → Grow S α F S' α' F' → StR X.K B S' α' F' σ H' → PrR X.K F' ps kvs → Q (kvs.map fun kv => (kV kv.1, kv.2)) H') → tPairs (r.map fun q => (liftE X.K B q.1, liftE X.K B q.2)) σ H Q
  | [], S, P, α, F, H, R, p, q => q S [] α F H [] p (.refl _ _ _) R rfl
  | (tk, tv) :: r, S, P, α, F, H, R, p, q => ⟨S, _, α, F, R, p, fun S1 x α1 F1 H1 v ⟨z, k, ex, hk, p1⟩ g1 R1 _ r1 => ⟨S1, _, α1, F1, R1, p1, fun S2 y α2 F2 H2 u ⟨d, ey, p2⟩ g2 R2 _ r2 => by
    subst ex ey
    have e1 := keyD_rep hk r1
    subst e1
    refine dPrs_weak r S2 _ α2 F2 H2 R2 p2 fun S' ps α' F' H' kvs pz g R' rp => ?_
    exact q S' ((k, d) :: ps) α' F' H' ((k, u) :: kvs) pz ((g1.trans g2).trans g) R' ⟨u, kvs, rfl, Rep.mono g.sub _ _ r2, rp⟩⟩⟩
/-- {k: v, ..}, owned -/
def dDisp (r : List (DTE × DTE)) : DTE := fun S P => dPrs r ⟨S.ρ, S.μ ++ [some (.dic [] [])]⟩ fun S2 ps => ∃ μ', S2.μ = μ' ++ [some (.dic [] [])] ∧ μ'.length = S.μ.length ∧ ps.length ≤ 15 ∧ P ⟨S.ρ, μ' ++ [some (.dic (mkKs [] ps) (mkDs [] [] ps))]⟩ (.cell S.μ.length)
theorem de_disp {keys : List (Option Expr)} {values : List Expr} {r : List (DTE × DTE)} (h : DPs X B keys values r) (hall : keys.all (·.isSome) = true := by rfl) (hl : keys.length = values.length := by rfl) (h0 : keys ≠ [] := by intro z; cases z)
    (h15 : keys.length ≤ 15 := by decide) : DE X B (.Dict keys values pos) (dDisp r) :=
  (pe_disp h.pps hall hl h0 h15).weak fun σ H Q ⟨S, P, α, F, R, p, q⟩ => by
    intro p0 hp
    obtain ⟨R2, g2⟩ := R.newC (o := .dK []) (cc := .dic [] []) hp ⟨[], upd_same, rfl, rfl⟩ (fun _ _ _ z => by cases z)
    refine dPrs_weak r _ _ _ _ _ R2 p fun S' ps α' F' H' kvs ⟨μ', e1, hl', h15', pz⟩ g R' rp => ?_
    have ha : α' S.μ.length = p0 := (g.al S.μ.length (by show _ < (S.μ ++ [some (CC.dic [] [])]).length; simp)).trans (by simp)
    have R3 : StR X.K B ⟨S'.ρ, μ' ++ [some (.dic [] [])]⟩ α' F' σ H' := by rw [← e1]; exact R'
    have hk : (μ' ++ [some (CC.dic [] [])])[S.μ.length]? = some (some (.dic [] [])) := by rw [← hl']; simp
    obtain ⟨ws, hw, _, rl⟩ := (R3.cells _ _ hk).2
    rw [ha] at hw
    refine ⟨hw, kvs, rfl, by rw [rp.length]; exact h15', ?_⟩
    obtain ⟨us, e2, l2, r2⟩ := merge_dic rp
    obtain ⟨R4, g4⟩ := R3.write (o := .dK (mergeK [] kvs)) (cc := .dic (mkKs [] ps) (mkDs [] [] ps)) hk ⟨us, by rw [upd_same, e2], l2, r2⟩ (fun _ _ _ z => by cases z)
    rw [ha] at R4
    have eS : (μ' ++ [some (CC.dic [] [])]).set S.μ.length (some (.dic (mkKs [] ps) (mkDs [] [] ps))) = μ' ++ [some (.dic (mkKs [] ps) (mkDs [] [] ps))] := by rw [← hl']; simp
    have R4' : StR X.K B ⟨S'.ρ, μ' ++ [some (.dic (mkKs [] ps) (mkDs [] [] ps))]⟩ α' F' σ (upd H' p0 (.dK (mergeK [] kvs))) := by rw [← eS]; exact R4
    have R5 := R4'.reslot (S2 := ⟨S.ρ, S.μ⟩) R ((g2.sub).trans g.sub) (fun k hk => (g.al k (by show _ < (S.μ ++ [some (CC.dic [] [])]).length; simp; have : k < S.μ.length := hk; omega)).trans (if_neg (by have : k < S.μ.length := hk; omega))) (by show S.μ.length ≤ (μ' ++ [_]).length; simp [hl'])
    exact q _ _ α' F' _ _ pz ⟨g2.sub.trans g.sub, by show S.μ.length ≤ (μ' ++ [_]).length; simp [hl'], fun k hk => (g.al k (by show _ < (S.μ ++ [some (CC.dic [] [])]).length; simp; omega)).trans (if_neg (by omega))⟩ R5 (by show S.μ.length < (μ' ++ [_]).length; simp [hl']) (by show V.ref p0 = V.ref _; rw [ha])
/-- {}: owned -/
theorem de_dnew : DE X B (.Dict [] [] pos) (fun S P => P ⟨S.ρ, S.μ ++ [some (.dic [] [])]⟩ (.cell S.μ.length)) :=
  pe_dnewK.weak fun σ H Q ⟨S, P, α, F, R, p, q⟩ => fun p0 hp => by
    obtain ⟨R2, g2⟩ := R.newC (o := .dK []) (cc := .dic [] []) hp ⟨[], upd_same, rfl, rfl⟩ (fun _ _ _ z => by cases z)
    exact q _ _ _ _ _ _ p g2 R2 (by show S.μ.length < (S.μ ++ [_]).length; simp) (by show V.ref p0 = V.ref (if _ then _ else _); rw [if_pos rfl])
/-! ### dict(pairs), dict(d), len(d) -/
/-- items that are pairs with keys -/
def prsOf : List D → Option (List (Key × D))
  | [] => some []
  | .tup [q, d] :: ds => match keyD q, prsOf ds with
    | some k, some r => some ((k, d) :: r)
    | _, _ => none
  | _ :: _ => none
theorem prsOf_rep : ∀ {ds : List D} {vs : List V} {ps : List (Key × D)}, prsOf ds = some ps → RepL K F ds vs → ∃ as kvs, vs = as.map V.ref ∧ Paired (fun p kv => SqT K F p [kV kv.1, kv.2]) as kvs ∧ PrR K F ps kvs
  | [], vs, ps, h, r => by
    have h' : _ = _ := r
    subst h'
    simp only [prsOf, Option.some.injEq] at h
    subst h
    exact ⟨[], [], rfl, .nil, rfl⟩
  | d0 :: ds, vs, ps, h, r => by
    obtain ⟨v, us, rfl, h1, h2⟩ := r
    unfold prsOf at h
    split at h
    · cases ‹d0 :: ds = []›
    · rename_i q d ds' e
      cases e
      split at h
      · rename_i k r' hk hr
        cases h
        obtain ⟨as, kvs, rfl, h4, h5⟩ := prsOf_rep hr h2
        obtain ⟨a, ws, o, rfl, s1, _, rl⟩ := h1
        obtain ⟨x, u1, rfl, rx, y, u2, rfl, ry, rfl⟩ := rl
        have := keyD_rep hk rx
        subst this
        exact ⟨a :: as, (k, y) :: kvs, rfl, .cons (sqt_frz s1) h4, y, kvs, rfl, ry, h5⟩
      · cases h
    · cases h
def dictTL : DL := fun xs S P => ∃ ds ps, xs = [.fr (.tup ds)] ∧ prsOf ds = some ps ∧ P S (.fr (.dic (mkKs [] ps) (mkDs [] [] ps)))
theorem Paired.imp {α β : Type} {R R' : α → β → Prop} (h : ∀ a b, R a b → R' a b) : ∀ {xs : List α} {ys : List β}, Paired R xs ys → Paired R' xs ys
  | _, _, .nil => .nil
  | _, _, .cons a t => .cons (h _ _ a) (Paired.imp h t)
theorem de_dictT (hm : X.mg "dict" = none) (ha : DA X B (e :: es) tr) (hc : X.calm = true := by rfl) (hg : Gl X "dict" := by rfl) (he : starEach (e :: es) X.env = (false, eval e X.env) :: starEach es X.env := by rfl) (hpl : (backTo pos (starEach es X.env)).any (·.1) = false := by rfl) : DE X B (.Call (.Name "dict" p) (e :: es) [] pos) (dCB dictTL tr) :=
  de_callTy (call_dictTP hc) (by
    rintro xs S P α F σ H vs Q R rv _ ⟨ds, ps, rfl, hp, p⟩ q
    obtain ⟨v, us, rfl, r1, rfl⟩ := rv
    obtain ⟨a, ws, o, rfl, s1, hpl, rl⟩ := r1
    obtain ⟨as, kvs, rfl, h4, h5⟩ := prsOf_rep hp rl
    refine ⟨a, o, as, kvs, rfl, R.sub _ _ s1, hpl, Paired.imp (fun _ _ z => Same.sqt R.sub z) h4, fun l hl => ?_⟩
    obtain ⟨us, e2, l2, r2⟩ := merge_dic h5
    obtain ⟨R2, sm⟩ := R.newF (o := .dK (mergeK [] kvs)) hl
    exact q S _ α _ _ _ p ⟨sm, Nat.le_refl _, fun _ _ => rfl⟩ R2 trivial ⟨l, us, rfl, by rw [upd_same, e2], l2, r2.mono sm⟩) hg hm (by decide +kernel) ha (by decide) (by decide) he hpl
/-- dict(d): a copy, owned -/
def dictCL : DL := fun xs S P => ∃ x ks ds, xs = [x] ∧ dicOf S x = some (ks, ds) ∧ P ⟨S.ρ, S.μ ++ [some (.dic ks ds)]⟩ (.cell S.μ.length)
theorem de_dictC (hm : X.mg "dict" = none) (ha : DA X B (e :: es) tr) (hg : Gl X "dict" := by rfl) (he : starEach (e :: es) X.env = (false, eval e X.env) :: starEach es X.env := by rfl) (hpl : (backTo pos (starEach es X.env)).any (·.1) = false := by rfl) : DE X B (.Call (.Name "dict" p) (e :: es) [] pos) (dCB dictCL tr) :=
  de_callTy call_dictD (by
    rintro xs S P α F σ H vs Q R rv _ ⟨x, ks, ds, rfl, hd, p⟩ q
    obtain ⟨v, us, rfl, r1, rfl⟩ := rv
    obtain ⟨a, ws, rfl, h1, l, rl⟩ := dic_at R r1 hd
    refine ⟨a, _, rfl, .of h1, fun p0 hp => ?_⟩
    obtain ⟨R2, g2⟩ := R.newC (o := .dK (ks.zip ws)) (cc := .dic ks ds) hp ⟨ws, upd_same, l, rl⟩ (fun _ _ _ z => by cases z)
    exact q _ _ _ _ _ _ p g2 R2 (by show S.μ.length < (S.μ ++ [_]).length; simp) (by show V.ref p0 = V.ref (if _ then _ else _); rw [if_pos rfl])) hg hm (by decide +kernel) ha (by decide) (by decide) he hpl
def lenDL : DL := fun xs S P => ∃ x ks ds, xs = [x] ∧ dicOf S x = some (ks, ds) ∧ P S (.fr (.int (ks.length : Nat)))
theorem de_lenD (hm : X.mg "len" = none) (ha : DA X B (e :: es) tr) (hg : Gl X "len" := by rfl) (he : starEach (e :: es) X.env = (false, eval e X.env) :: starEach es X.env := by rfl) (hpl : (backTo pos (starEach es X.env)).any (·.1) = false := by rfl) : DE X B (.Call (.Name "len" p) (e :: es) [] pos) (dCB lenDL tr) :=
  de_callB call_lenD (by
    rintro xs S P α F σ H vs Q R rv _ ⟨x, ks, ds, rfl, hd, p⟩ q
    obtain ⟨v, us, rfl, r1, rfl⟩ := rv
    obtain ⟨a, ws, rfl, h1, l, rl⟩ := dic_at R r1 hd
    exact ⟨a, _, rfl, h1, q S _ α F H _ p (.refl _ _ _) R trivial (by show V.int _ = V.int _; rw [List.length_zip, rl.length, ← l, Nat.min_self])⟩) hg hm PySem.boot_len ha (by decide) (by decide) he hpl
/-! ### {k: v for ..} -/
def dDcI (g : DTG) (tt : DTT) (tk tv : DTE) (vs : List Nat) (P : DS → SV → Prop) (S1 : DS) (ds : List D) : Prop := ds.length < 1000000 ∧ ∃ I : Nat → List Key → List D → List (Option CC) → Prop, I 0 [] [] S1.μ ∧
  (∀ i d ks es μ, ds[i]? = some d → ks.length ≤ i → μ.length = S1.μ.length → I i ks es μ → g d ⟨wipeD S1.ρ vs, μ ++ [some (.dic ks es)]⟩ fun S2 => tt S2 fun S3 b =>
    if b = true then tk S3 fun S4 x => tv S4 fun S5 r => ∃ q k d' μ', x = .fr q ∧ keyD q = some k ∧ r = .fr d' ∧ S5.μ = μ' ++ [some (.dic ks es)] ∧ μ'.length = S1.μ.length ∧ I (i + 1) (putKs ks k) (putDs ks es k d') μ'
    else ∃ μ', S3.μ = μ' ++ [some (.dic ks es)] ∧ μ'.length = S1.μ.length ∧ I (i + 1) ks es μ') ∧
  ∀ ks es μ, μ.length = S1.μ.length → I ds.length ks es μ → P ⟨S1.ρ, μ⟩ (.fr (.dic ks es))
def dDc (ti : DTI) (g : DTG) (tt : DTT) (tk tv : DTE) (vs : List Nat) : DTE := fun S P => ti S fun S1 ds => dDcI g tt tk tv vs P S1 ds
theorem putKs_length (ks : List Key) (k : Key) : (putKs ks k).length ≤ ks.length + 1 := by
  unfold putKs
  split <;> simp
theorem dc_weak {ti : DTI} {ns : List Nat} {g : DTG} {tt : DTT} {tk tv : DTE} {vs : List Nat} (hvs : ∀ n ∈ ns, n ∈ vs) : ∀ σ H Q, liftE X.K B (dDc ti g tt tk tv vs) σ H Q → tDc (liftI X.K B ti) (liftG X.K B ns g) (liftT X.K B tt) (liftE X.K B tk) (liftE X.K B tv) vs σ H Q := by
  rintro σ H Q ⟨S, P, α, F, R, p, q⟩
  refine ⟨S, _, α, F, R, p, fun S1 ds α1 F1 H1 J ⟨hsz, I, i0, step, fin⟩ g1 R1 It => ?_⟩
  intro Dp hD
  obtain ⟨R2, g2⟩ := R1.newC (o := .dK []) (cc := .dic [] []) hD ⟨[], upd_same, rfl, rfl⟩ (fun _ _ _ z => by cases z)
  refine ⟨fun i m H' => m = ds.length - i ∧ i ≤ ds.length ∧ ∃ ks es μ α' F', ks.length ≤ i ∧ μ.length = S1.μ.length ∧ I i ks es μ ∧ (∀ k, k < S1.μ.length → α' k = α1 k) ∧ α' S1.μ.length = Dp ∧ Same F1 F' ∧ StR X.K B ⟨S1.ρ, μ ++ [some (.dic ks es)]⟩ α' F' σ H',
    ⟨ds.length, by simp, Nat.zero_le _, [], [], S1.μ, (fun k => if k = S1.μ.length then Dp else α1 k), F1, Nat.le_refl _, rfl, i0, fun k hk => if_neg (by omega), if_pos rfl, .refl _, R2⟩, ?_⟩
  rintro i m H3 ⟨rfl, hi, ks, es, μ, α3, F3, hacc, hμ, inv, hα, hαD, sm3, R3⟩
  by_cases hlt : i < ds.length
  · refine .inr ⟨It.go i F3 H3 hlt sm3 R3.sub, fun H' => ∃ ks es μ α' F', ks.length ≤ i + 1 ∧ μ.length = S1.μ.length ∧ I (i + 1) ks es μ ∧ (∀ k, k < S1.μ.length → α' k = α1 k) ∧ α' S1.μ.length = Dp ∧ Same F1 F' ∧ StR X.K B ⟨S1.ρ, μ ++ [some (.dic ks es)]⟩ α' F' σ H', fun H' h => ⟨_, by omega, rfl, hlt, h⟩, fun x H' y => ?_⟩
    obtain ⟨F4, R4, sm4, rx⟩ := R3.turn It sm3 (List.getElem?_eq_getElem hlt) y
    have Rw := R4.wipe vs
    refine ⟨_, _, _, α3, F4, Rw, rx, step i _ ks es μ (List.getElem?_eq_getElem hlt) hacc hμ inv, fun S5 α5 F5 σ5 H5 p5 g5 R5 bt => ⟨wipe_but bt hvs, ?_⟩⟩
    refine ⟨S5, _, α5, F5, R5, p5, fun S6 b α6 F6 H6 p6 g6 R6 => ?_⟩
    have l5 : S1.μ.length + 1 ≤ S5.μ.length := by have := g5.len; simp only [List.length_append, List.length_cons, List.length_nil, hμ] at this; exact this
    have l6 := Nat.le_trans l5 g6.len
    cases b with
    | false =>
      rw [if_neg Bool.false_ne_true] at p6
      refine iteF ?_
      obtain ⟨μ', e6, hl6, i6⟩ := p6
      have a6 : ∀ k, k < S1.μ.length + 1 → α6 k = α3 k := fun k hk => (g6.al k (by omega)).trans (g5.al k (by simp only [List.length_append, List.length_cons, List.length_nil, hμ]; exact hk))
      refine ⟨ks, es, μ', α6, F6, by omega, hl6, i6, fun k hk => (a6 k (by omega)).trans (hα k hk), (a6 _ (by omega)).trans hαD, ((sm3.trans sm4).trans g5.sub).trans g6.sub, ?_⟩
      have R6' : StR X.K B ⟨S6.ρ, μ' ++ [some (.dic ks es)]⟩ α6 F6 σ5 H6 := by rw [← e6]; exact R6
      refine R6'.reslot (S2 := ⟨S1.ρ, μ ++ [some (.dic ks es)]⟩) R4 (g5.sub.trans g6.sub) (fun k hk => a6 k (by simpa only [List.length_append, List.length_cons, List.length_nil, hμ] using hk)) (by simp [hμ, hl6])
    | true =>
      rw [if_pos rfl] at p6
      refine iteT ?_
      refine ⟨S6, _, α6, F6, R6, p6, fun S7 x7 α7 F7 H7 v7 p7 g7 R7 _ r7 => ⟨S7, _, α7, F7, R7, p7, fun S8 r α8 F8 H8 v ⟨q8, k, d', μ', ex, hk, er, e8, hl8, i8⟩ g8 R8 _ rv => ?_⟩⟩
      subst ex er
      have ek := keyD_rep hk r7
      subst ek
      have l7 := Nat.le_trans l6 g7.len
      have a8 : ∀ k, k < S1.μ.length + 1 → α8 k = α3 k := fun k hk => (((g8.al k (by omega)).trans (g7.al k (by omega))).trans (g6.al k (by omega))).trans (g5.al k (by simp only [List.length_append, List.length_cons, List.length_nil, hμ]; exact hk))
      have R8' : StR X.K B ⟨S8.ρ, μ' ++ [some (.dic ks es)]⟩ α8 F8 σ5 H8 := by rw [← e8]; exact R8
      have hk8 : (μ' ++ [some (CC.dic ks es)])[S1.μ.length]? = some (some (.dic ks es)) := by rw [← hl8]; simp
      obtain ⟨ws, hw, l, rl⟩ := (R8'.cells _ _ hk8).2
      have hDp : α8 S1.μ.length = Dp := (a8 _ (by omega)).trans hαD
      rw [hDp] at hw
      have l2 : ks.length = ws.length := by rw [rl.length]; exact l
      refine ⟨_, k, rfl, hw, lt_line (by rw [List.length_zip]; omega), ?_⟩
      obtain ⟨R9, g9⟩ := R8'.write (o := .dK (putK (ks.zip ws) k v)) (cc := .dic (putKs ks k) (putDs ks es k d')) hk8 ⟨putDs ks ws k v, by rw [upd_same, putK_zip l2], putDs_length l, putDs_rep l rl rv⟩ (fun _ _ _ z => by cases z)
      rw [hDp] at R9
      have eS : (μ' ++ [some (CC.dic ks es)]).set S1.μ.length (some (.dic (putKs ks k) (putDs ks es k d'))) = μ' ++ [some (.dic (putKs ks k) (putDs ks es k d'))] := by rw [← hl8]; simp
      have R9' : StR X.K B ⟨S8.ρ, μ' ++ [some (.dic (putKs ks k) (putDs ks es k d'))]⟩ α8 F8 σ5 (upd H8 Dp (.dK (putK (ks.zip ws) k v))) := by rw [← eS]; exact R9
      refine ⟨putKs ks k, putDs ks es k d', μ', α8, F8, by have := putKs_length ks k; omega, hl8, i8, fun k hk => (a8 k (by omega)).trans (hα k hk), hDp, ((((sm3.trans sm4).trans g5.sub).trans g6.sub).trans g7.sub).trans g8.sub, ?_⟩
      refine R9'.reslot (S2 := ⟨S1.ρ, μ ++ [some (.dic ks es)]⟩) R4 (((g5.sub.trans g6.sub).trans g7.sub).trans g8.sub) (fun k hk => a8 k (by simpa only [List.length_append, List.length_cons, List.length_nil, hμ] using hk)) (by simp [hμ, hl8])
  · have e : i = ds.length := by omega
    subst e
    refine .inl ⟨It.stop F3 H3 sm3 R3.sub, ?_⟩
    have hk : (μ ++ [some (CC.dic ks es)])[S1.μ.length]? = some (some (.dic ks es)) := by rw [← hμ]; simp
    obtain ⟨F5, R5, g5, rp⟩ := R3.freeze hk (R1.np)
    rw [hαD] at rp
    have R5' : StR X.K B ⟨S1.ρ, μ ++ [none]⟩ α3 F5 σ H3 := by
      have : (μ ++ [some (CC.dic ks es)]).set S1.μ.length none = μ ++ [none] := by rw [← hμ]; simp
      rw [← this]; exact R5
    refine q _ _ α3 F5 H3 _ (fin ks es μ hμ inv) (g1.trans ⟨sm3.trans g5.sub, by show _ ≤ μ.length; omega, fun k hk => hα k hk⟩) ?_ trivial rp
    exact R5'.drop (by rw [hμ]; exact R1.np) R1 (sm3.trans g5.sub) hα (by omega)
theorem de_dc {kx vx tg iter : Expr} {ifs : List Expr} {scope : Scope} {ns : List Nat} {ti : DTI} {g : DTG} {tt : DTT} {tk tv : DTE} (hN : X.N.Nodup) (own : List (Str × Nat)) (hi : DI X B tg iter ti)
    (hg : ∀ (s : Shared) (H : Hp) (C : Addr) (cl : List (Str × Addr)) (fp : List Addr), DG (X.blk s H scope (compEnvC scope cl C X.env) fp) B tg ns g) (ht : ∀ (s : Shared) (H : Hp) (C : Addr) (cl : List (Str × Addr)) (fp : List Addr), DTs (X.blk s H scope (compEnvC scope cl C X.env) fp) B ifs tt)
    (hk : ∀ (s : Shared) (H : Hp) (C : Addr) (cl : List (Str × Addr)) (fp : List Addr), DE (X.blk s H scope (compEnvC scope cl C X.env) fp) B kx tk)
    (he : ∀ (s : Shared) (H : Hp) (C : Addr) (cl : List (Str × Addr)) (fp : List Addr), DE (X.blk s H scope (compEnvC scope cl C X.env) fp) B vx tv) (ok : blkC X.N X.env.scope scope own = true := by first | kernel_rfl | rfl) (hc : X.calm = true := by rfl) (hvs : ∀ n ∈ ns, n ∈ own.map (·.2) := by decide) (hs : ∀ x, foldedSetIterable iter X.env x = pure x := by intro _; rfl) :
    DE X B (.DictComp kx vx [⟨tg, iter, ifs, 0⟩] scope pos) (dDc ti g tt tk tv (own.map (·.2))) :=
  (pe_dc hc hN hi (blkOk_by ok) hg ht hk he hs).weak (dc_weak hvs)
end
end TD
/-! TD13: own exceptions over an own base: made, raised. -/
namespace L2
open PySem PySem.Spec PyProof.Rows
section
variable {X : Cx} {e : Expr} {es : List Expr} {ta : TA} {p p1 p2 pos : Pos} {x : Str} {C0 : Addr} {mc : Value}
/-- Base.__init__(self, ..), Base an own class without one over ValueError -/
theorem pe_clsinit {pl : Sem Bool} (hg : Gl X x) (hm : X.mg x = some (.ref C0)) (r : ClX.CRead X.K C0 mc) (vV : PySem.W.findCls X.K (.ref C0) mc "__init__" = some (.val (.builtin "ValueError.__init__"))) (ha : PA X (e :: es) ta)
    (hdb : (x == ("__debug__" : Str)) = false := by decide)
    (hc : eval (.Call (.Attribute (.Name x p1) "__init__" p2) (e :: es) [] pos) X.env = (do
      let ov ← eval (.Name x p1) X.env
      standAt p2.atName
      let (f, first) ← holding [ov] (getMethod ov "__init__" pl)
      callWith pos f first (backTo pos (starEach (e :: es) X.env)) (backToKw pos (keywordEach [] X.env))) := by rfl)
    (he : starEach (e :: es) X.env = (false, eval e X.env) :: starEach es X.env := by rfl) (hpl : (backTo pos (starEach es X.env)).any (·.1) = false := by rfl) :
    PE X (.Call (.Attribute (.Name x p1) "__init__" p2) (e :: es) [] pos) (tVeI X.K ta) := by
  refine ⟨fun pins s σ H Q I h => ?_⟩
  refine PySem.W.methodCall_KW (ld_glob I hg hm ?_ hdb) hc
  refine PySem.W.method_cls I.kIn r.ga (PySem.W.cls_value I.kIn r.rd vV (by decide +kernel) ?_)
  show wpAny _ _ (callWith pos (Value.builtin "ValueError.__init__") [] (backTo pos (starEach (e :: es) X.env)) []) _ _ _
  refine PyProof.Rows.callWith_method1 (thn (ha.run pos pins _ σ H _ (I.tok _) h) fun us s1 ⟨vs, H1, I1, r1, a, C, ws, ev, hl, T, ea, q⟩ => ?_) he hpl
  subst ev
  cases r1 with
  | @cons _ u0 _ ur ra rw' =>
    obtain rfl : u0 = Value.ref a := ra
    have hlen : ur.length ≤ sizeLine := by
      rw [← Paired.length rw', sizeLine_eq]
      omega
    exact oinit_ok T I1 ea hlen fun s' J => ⟨.non, H1, J, rfl, q⟩
end
section
variable {X : Cx}
/-- as mk_end0, without a dict -/
theorem mk_end0N {pins : List (Addr × Obj)} {σ : St} {H1 H2 : Hp} {hp hp2 h2 : Heap} {g1 g2 : Array GenState} {d1 d2 : Drawn} {t1 t2 : Nat} {os1 os2 : OsState} {a C : Addr} (I1 : Inv X pins σ H1 ⟨hp, g1, d1, t1, os1⟩)
    (ha : hp.objs.size ≤ a) (k : ∀ b o, hp.get? b = some o → hp2.get? b = some o) (un : Un (frs X.stack) [] (upd H1 a (exo a C none)) H2 hp2 h2) (hok : HOk X.prog X.w H2 h2) (ho : os2 = os1) (hb : AllBare g2)
    (ea : H2 a = some (exo a C none)) :
    ∃ (t0 : Addr) (G : Heap), Inv X pins σ (del H2 a) ⟨G, g2, d2, t2, os2⟩ ∧ (∀ b o, G.get? b = some o → h2.get? b = some o) ∧ G.get? a = none ∧
      h2.get? a = some ({ cls := .ref C, dict := none, data := .fields #[.ref t0, .none, .none, .none, .bool false, .none] } : Obj) := by
  obtain ⟨t0, hoe⟩ := exo_at hok ea
  have hn : H1 a = none := I1.hok.fresh ha
  obtain ⟨G, g1', g2'⟩ := restrict h2 fun b => decide (b ≠ a)
  have gk : ∀ b, b ≠ a → G.get? b = h2.get? b := fun b hb => g1' b (decide_eq_true hb)
  have ge : G.get? a = none := g2' a (by simp)
  have nha : ∀ {b : Addr} {o : Obj}, hp.get? b = some o → b ≠ a := fun {b o} z => Nat.ne_of_lt (Nat.lt_of_lt_of_le (Heap.lt_size z) ha)
  have up : ∀ {b : Addr}, b ≠ a → H1 b = none → upd H1 a (exo a C none) b = none := fun {b} hb n => by rw [upd_ne hb]; exact n
  have U : Un (frs X.stack) [] H1 (del H2 a) hp G := {
    keep := fun b o z n hf hx => by
      rw [gk b (nha z)]
      exact un.keep b o (k b o z) (up (nha z) n) hf hx
    slot := fun b o z n hf hx => by
      rw [gk b (nha z)]
      exact un.slot b o (k b o z) (up (nha z) n) hf hx
    free := fun b o z n hx => by
      rw [del_ne (nha z)]
      exact un.free b o (k b o z) (up (nha z) n) hx
    there := fun b o z hx => by
      rw [gk b (nha z)]
      exact un.there b o (k b o z) hx
    tups := fun b xs z => by
      rw [del_ne (ne_of_none z hn)]
      exact un.tups b xs (by rw [upd_ne (ne_of_none z hn)]; exact z)
    frzs := fun b o v z => by
      rw [del_ne (ne_of_none z hn)]
      exact un.frzs b o v (by rw [upd_ne (ne_of_none z hn)]; exact z)
    tbls := fun b ps z => by
      rw [del_ne (ne_of_none z hn)]
      exact un.tbls b ps (by rw [upd_ne (ne_of_none z hn)]; exact z) }
  have hok3 : HOk X.prog X.w (del H2 a) G := fun b o z => by
    have hba : b ≠ a := fun e => by
      rw [e, del_same] at z
      cases z
    rw [del_ne hba] at z
    have noa : ∀ {c : Addr}, H2 c = some (.own b) → c ≠ a := fun {c} hc => at_ne ea hc exo_own
    exact (hok b o z).stay (fun c v hc y => by
        have hca : c ≠ a := by
          rcases hc with hc | hc
          · rw [hc]
            exact hba
          · exact noa hc
        rw [gk c hca]
        exact y)
      (fun c hc => by rw [del_ne (noa hc)]; exact hc) (fun c xs hc => by rw [del_ne (at_ne ea hc exo_tup)]; exact hc)
  have J : Inv X pins σ (del H2 a) ⟨G, g2, d2, t2, os2⟩ := I1.call' (ch := []) ho U hok3 hb (fun b z => absurd z (by simp))
  refine ⟨t0, G, J, fun b o z => ?_, ge, hoe⟩
  by_cases hba : b = a
  · rw [hba, ge] at z
    cases z
  · exact (gk b hba).symm.trans z
/-- the end of C(..), with a dict or without -/
def exEnd (C a : Addr) (H1 H2 : Hp) (Q : XK) : Prop := (H2 a = some (exo a C none) ∧ Q (.ref C) none (del H2 a)) ∨
  ∃ (d : Addr) (fs : List (Str × V)), H2 a = some (exo a C (some d)) ∧ H2 d = some (exd d fs) ∧ H1 d = none ∧ Q (.ref C) (some d) (upd (del H2 a) d (.xd fs))
theorem mk_endX {pins : List (Addr × Obj)} {σ : St} {H1 H2 : Hp} {Q : XK} {hp hp2 h2 : Heap} {g1 g2 : Array GenState} {d1 d2 : Drawn} {t1 t2 : Nat} {os1 os2 : OsState} {a C : Addr} (T : Raises X (.ref C)) (I1 : Inv X pins σ H1 ⟨hp, g1, d1, t1, os1⟩)
    (ha : hp.objs.size ≤ a) (k : ∀ b o, hp.get? b = some o → hp2.get? b = some o) (un : Un (frs X.stack) [] (upd H1 a (exo a C none)) H2 hp2 h2) (hok : HOk X.prog X.w H2 h2) (ho : os2 = os1) (hb : AllBare g2)
    (q : exEnd C a H1 H2 Q) : MkP X pins σ Q (.ref a) ⟨h2, g2, d2, t2, os2⟩ := by
  rcases q with ⟨ea, q⟩ | ⟨d, fs, ea, ed, hd1, q⟩
  · obtain ⟨t0, G, J, kG, ge, hoe⟩ := mk_end0N (d2 := d2) (t2 := t2) I1 ha k un hok ho hb ea
    exact ⟨a, _, _, ⟨G, g2, d2, t2, os2⟩, _, .ref C, none, rfl, J, kG, ge, hoe, ⟨rfl, rfl⟩, rfl, rfl, del_same, rfl, hb, T, q⟩
  · exact mk_end T I1 ha k un hok ho hb ea ed hd1 q
def tMkX (C : Addr) (sp : Sp) (ta : TA) : St → Hp → XK → Prop := fun σ H Q => ta σ H fun vs H1 => vs.length ≤ 1000 ∧ ∀ a, H1 a = none → sp (.ref a :: vs) (upd H1 a (exo a C none)) (fun v H2 => v = .non ∧ exEnd C a H1 H2 Q) (fun _ _ _ => False)
theorem run_mkx {CX : CXT} {C fI : Addr} {k : Nat} {fd : FuncData} {ps : List Str} {sp : Sp} (T : OexC X.K C) (iC : PySem.W.findIn X.K (.ref C) "__init__" = some (some (.ref fI))) (tI : PySem.W.typeIn X.K (.ref fI) = some (.type "function"))
    (F1 : FnOk X.prog X.w X.K X.mg X.base CX k fI fd ps sp) (hr : Room (k + 1) X.A) (hb : Binds X.K fd ps []) (hx : Passes CX X (fun _ _ _ => False)) {pins : List (Addr × Obj)} {σ : St} {H1 : Hp} {s1 : Shared} {Q : XK} {us : List Value} {vs : List V}
    (I1 : Inv X pins σ H1 s1) (r1 : Vals vs us) (hz : vs.length ≤ 1000) (q1 : ∀ a, H1 a = none → sp (.ref a :: vs) (upd H1 a (exo a C none)) (fun v H2 => v = .non ∧ exEnd C a H1 H2 Q) (fun _ _ _ => False)) :
    wpAny (model X.prog X.w) X.A (call (.ref C) us) (MkP X pins σ Q) X.xe s1 := by
  obtain ⟨nm, q, N, bs, bm, sn, sub, ab, col, dd, k0, k1, k2, k3, k5, hC, hbm⟩ := T.cls
  obtain ⟨hp, g, dr, tk, os⟩ := s1
  have hsz : hp.objs.size ≤ hp.objs.size + 1 := Nat.le_succ _
  have hn : H1 (hp.objs.size + 1) = none := I1.hok.fresh hsz
  have hq := q1 (hp.objs.size + 1) hn
  have kk : ∀ b o, hp.get? b = some o → ((hp.push (PySem.W.kdv_tup us)).push (PySem.HandSPX.excO C hp.objs.size)).get? b = some o := fun b o e => Heap.get?_push_of_some _ (Heap.get?_push_of_some _ e)
  have hget : ((hp.push (PySem.W.kdv_tup us)).push (PySem.HandSPX.excO C hp.objs.size)).get? (hp.objs.size + 1) = some (PySem.HandSPX.excO C hp.objs.size) := by heap_get
  have I2 : Inv X pins σ (upd H1 (hp.objs.size + 1) (exo (hp.objs.size + 1) C none)) ⟨(hp.push (PySem.W.kdv_tup us)).push (PySem.HandSPX.excO C hp.objs.size), g, dr, tk, os⟩ :=
    I1.laid (t' := tk) (a := hp.objs.size + 1) (o := exo (hp.objs.size + 1) C none) (h' := (hp.push (PySem.W.kdv_tup us)).push (PySem.HandSPX.excO C hp.objs.size)) kk hsz (exo_ok hget)
  have r2 : Vals (V.ref (hp.objs.size + 1) :: vs) (Value.ref (hp.objs.size + 1) :: us) := .cons rfl r1
  have hl : (Value.ref (hp.objs.size + 1) :: us).length = ps.length := by
    have e := r2.length
    rw [F1.len _ _ _ _ hq] at e
    exact e.symm
  have hus : us.length ≤ sizeLine := by
    rw [← Paired.length r1, sizeLine_eq]
    omega
  have bb := hb _ (Value.ref (hp.objs.size + 1) :: us) I2.kIn (by rw [List.append_nil]; exact hl)
  rw [List.append_nil] at bb
  refine wpAny_call (PySem.HandSPX.call_own F.excBase_ValueError (fun Y => PySem.HandSPX.refsVE_contains Y bm hbm) (I1.kIn _ _ hC) (PySem.W.looks_findIn I1.kIn iC) (fun self => PySem.W.bind_fn I1.kIn self tI) hus
    (codeAny_mono (F1.run _ X.stack _ _ ⟨Value.ref (hp.objs.size + 1) :: us, []⟩ (Value.ref (hp.objs.size + 1) :: us) _ _ (fun _ _ _ => False) (hr.make C us []) (I2.env0.make C us []) bb r2 hq) fun r s' hq' => ?_))
  cases r with
  | error er => exact hx pins σ _ _ er s' I2 hq'
  | ok fl =>
    cases fl with
    | ret u =>
      obtain ⟨v, H2, os2, bare2, un2, hok2, rv, ev, q2⟩ := hq'
      subst ev
      obtain ⟨h2, g2, d2, t2, os'⟩ := s'
      exact ⟨rv, mk_endX (raises_own T.exC T.tyC) I1 hsz kk un2 hok2 os2 bare2 q2⟩
    | next => exact False.elim hq'
    | brk => exact False.elim hq'
    | cont => exact False.elim hq'
theorem pmk_ox {e : Expr} {es : List Expr} {ta : TA} {p pos : Pos} {CX : CXT} {x : Str} {C fI : Addr} {k : Nat} {fd : FuncData} {ps : List Str} {sp : Sp} (T : OexC X.K C) (iC : PySem.W.findIn X.K (.ref C) "__init__" = some (some (.ref fI))) (tI : PySem.W.typeIn X.K (.ref fI) = some (.type "function"))
    (F1 : FnOk X.prog X.w X.K X.mg X.base CX k fI fd ps sp) (hr : Room (k + 1) X.A) (hb : Binds X.K fd ps []) (hx : Passes CX X (fun _ _ _ => False)) (hg : Gl X x) (hm : X.mg x = some (.ref C)) (ha : PA X (e :: es) ta)
    (hdb : (x == ("__debug__" : Str)) = false := by decide) (he : starEach (e :: es) X.env = (false, eval e X.env) :: starEach es X.env := by rfl) (hpl : (backTo pos (starEach es X.env)).any (·.1) = false := by rfl) :
    PMk X (.Call (.Name x p) (e :: es) [] pos) (tMkX C sp ta) := by
  intro pins s σ H Q I h
  refine wpAny_Call_Name_kw (ld_glob I hg hm ?_ hdb)
  exact PySem.W.callWith_K (h₀ := X.base) I.ok.mod.kin T.kC (thn (ha.run pos pins s σ H _ I h) fun us s1 ⟨vs, H1, I1, r1, hz, q1⟩ => ⟨I1.kIn, run_mkx T iC tI F1 hr hb hx I1 r1 hz q1⟩) he hpl
theorem pmk_ox0 {p pos : Pos} {CX : CXT} {x : Str} {C fI : Addr} {k : Nat} {fd : FuncData} {ps : List Str} {sp : Sp} (T : OexC X.K C) (iC : PySem.W.findIn X.K (.ref C) "__init__" = some (some (.ref fI))) (tI : PySem.W.typeIn X.K (.ref fI) = some (.type "function"))
    (F1 : FnOk X.prog X.w X.K X.mg X.base CX k fI fd ps sp) (hr : Room (k + 1) X.A) (hb : Binds X.K fd ps []) (hx : Passes CX X (fun _ _ _ => False)) (hg : Gl X x) (hm : X.mg x = some (.ref C)) (hdb : (x == ("__debug__" : Str)) = false := by decide) :
    PMk X (.Call (.Name x p) [] [] pos) (tMkX C sp tNil) := by
  intro pins s σ H Q I h
  refine wpAny_Call_Name_kw (ld_glob I hg hm ?_ hdb)
  obtain ⟨hz, q1⟩ := (show _ ∧ _ from h)
  exact PySem.W.callWith_K0 I.kIn T.kC (run_mkx (us := []) (vs := []) T iC tI F1 hr hb hx I .nil (Nat.zero_le _) q1)
end
end L2
/-! TD14: raise, try, by data. -/
namespace TD
open PySem PySem.Spec PyProof.Rows L2
/-- the promise of an __init__ without fields -/
def spX0 (K : PySem.W.Frag) (C : Addr) : Sp := fun vs H Q _ => ∃ a, vs = [.ref a] ∧ OexC K C ∧ H a = some (exo a C none) ∧ Q .non H
/-- .. of one that stores its two parameters -/
def spX2 (K : PySem.W.Frag) (C : Addr) (f g : Str) : Sp := fun vs H Q _ => ∃ a x y, vs = [.ref a, x, y] ∧ OexC K C ∧ H a = some (exo a C none) ∧ ∀ dx, H dx = none → dx ≠ a → Q .non (upd (upd (upd H dx (exd dx [(f, x)])) a (exo a C (some dx))) dx (exd dx [(g, y), (f, x)]))
structure ExcOk (P : Program) (w : World) (K : PySem.W.Frag) (mg : Str → Option Value) (base : Heap) (k : Nat) (x : Str) (C : Addr) (ps : List Str) (sp : Sp) : Prop where
  ex : ∃ fI fd, mg x = some (.ref C) ∧ OexC K C ∧ PySem.W.findIn K (.ref C) "__init__" = some (some (.ref fI)) ∧ PySem.W.typeIn K (.ref fI) = some (.type "function") ∧ Binds K fd ps [] ∧ FnOk P w K mg base (L2.CX P w) k fI fd ps sp
theorem ExcOk.mono {P : Program} {w : World} {K : PySem.W.Frag} {mg : Str → Option Value} {base : Heap} {k j : Nat} {x : Str} {C : Addr} {ps : List Str} {sp : Sp} (h : ExcOk P w K mg base k x C ps sp) (hj : k ≤ j) : ExcOk P w K mg base j x C ps sp :=
  let ⟨f, fd, a, b, c, d, e, F⟩ := h.ex
  ⟨f, fd, a, b, c, d, e, F.mono hj⟩
theorem passes0 {X : Cx} : Passes (L2.CX X.prog X.w) X (fun _ _ _ => False) := fun _ _ _ _ _ _ _ c => by
  obtain ⟨a, B, H', cls, d, _, _, _, _, _, _, _, z⟩ := c
  exact z.elim
theorem del_upd {H : Hp} {a : Addr} {o : HO} (h : H a = none) : del (upd H a o) a = H := funext fun b => by
  by_cases e : b = a
  · rw [e, del_same, h]
  · rw [del_ne e, upd_ne e]
section
variable {X : Cx} {B : Base} {p pos pos' : Pos} {x : Str} {C : Addr} {k : Nat} {ps : List Str} {PX : PXT} {e1 e2 : Expr} {t1 t2 : DTE} {f g : Str}
def dRaise0 (C : Addr) (PX : PXT) : DTS := fun _ S => PX S ⟨C, [], []⟩
theorem ds_raise0 (Ex : ExcOk X.prog X.w X.K X.mg X.base k x C ps (spX0 X.K C)) (hr : Room (k + 1) X.A) (tk : Takes X (wOf X.K B PX)) (hg : Gl X x := by rfl) (hc : X.calm = true := by rfl) (hdb : (x == ("__debug__" : Str)) = false := by decide) :
    DSt X B (.Raise (some (.Call (.Name x p) [] [] pos')) none pos) (dRaise0 C PX) := by
  obtain ⟨fI, fd, hm, T, iC, tI, hb, Fo⟩ := Ex.ex
  refine (ps_raise hc tk (pmk_ox0 T iC tI Fo hr hb passes0 hg hm hdb)).weak fun D σ H ⟨S, P, α, F, R, p, _⟩ => ?_
  refine ⟨Nat.zero_le _, fun a ha => ⟨a, rfl, T, upd_same, rfl, .inl ⟨upd_same, ?_⟩⟩⟩
  rw [del_upd ha]
  exact ⟨S, ⟨C, [], []⟩, α, F, p, R, rfl, .inl ⟨rfl, rfl, rfl⟩⟩
def dRaise2 (C : Addr) (f g : Str) (PX : PXT) (t : DTA) : DTS := fun _ S => t S fun S2 rs => ∃ d1 d2, rs = [.fr d1, .fr d2] ∧ PX S2 ⟨C, [g, f], [d2, d1]⟩
theorem ds_raise2 {t : DTA} (Ex : ExcOk X.prog X.w X.K X.mg X.base k x C ps (spX2 X.K C f g)) (hr : Room (k + 1) X.A) (tk : Takes X (wOf X.K B PX)) (ha : DA X B [e1, e2] t) (hg : Gl X x := by rfl) (hc : X.calm = true := by rfl) (hdb : (x == ("__debug__" : Str)) = false := by decide)
    (he : starEach [e1, e2] X.env = (false, eval e1 X.env) :: starEach [e2] X.env := by rfl) (hpl : (backTo pos' (starEach [e2] X.env)).any (·.1) = false := by rfl) :
    DSt X B (.Raise (some (.Call (.Name x p) [e1, e2] [] pos')) none pos) (dRaise2 C f g PX t) := by
  obtain ⟨fI, fd, hm, T, iC, tI, hb, Fo⟩ := Ex.ex
  refine (ps_raise hc tk (pmk_ox T iC tI Fo hr hb passes0 hg hm ha hdb he hpl)).weak fun D σ H ⟨S, P, α, F, R, p, _⟩ => ?_
  refine ⟨S, _, α, F, R, p, fun S1 rs α1 F1 H1 vs ⟨d1, d2, er, px⟩ g1 R1 _ rv => ?_⟩
  subst er
  obtain ⟨v, us, rfl, r1, u, ws, rfl, r2, rfl⟩ := rv
  refine ⟨by simp, fun a ha => ⟨a, v, u, rfl, T, upd_same, fun dx hdx hne => ⟨rfl, .inr ⟨dx, [(g, u), (f, v)], ?_, upd_same, ?_, ?_⟩⟩⟩⟩
  · rw [upd_ne (Ne.symm hne)]; exact upd_same
  · rw [upd_ne hne] at hdx; exact hdx
  · have hdx1 : H1 dx = none := by rw [upd_ne hne] at hdx; exact hdx
    have eH : upd (del (upd (upd (upd (upd H1 a (exo a C none)) dx (exd dx [(f, v)])) a (exo a C (some dx))) dx (exd dx [(g, u), (f, v)])) a) dx (.xd [(g, u), (f, v)]) = upd H1 dx (.xd [(g, u), (f, v)]) := funext fun b => by
      by_cases e : b = dx
      · rw [e, upd_same, upd_same]
      · rw [upd_ne e, upd_ne e]
        by_cases e2 : b = a
        · rw [e2, del_same, ha]
        · rw [del_ne e2, upd_ne e, upd_ne e2, upd_ne e, upd_ne e2]
    rw [eH]
    obtain ⟨R2, sm⟩ := R1.newF (o := .xd [(g, u), (f, v)]) hdx1
    exact ⟨S1, _, α1, _, px, R2, rfl, .inr ⟨dx, [u, v], _, rfl, upd_same, .cons (Rep.mono sm _ _ r2) (.one (Rep.mono sm _ _ r1)), rfl, fun q => rfl⟩⟩
/-! ### statements at the top of a def: what stood before is not remembered -/
def liftS0 (K : PySem.W.Frag) (B : Base) (td : DTS) : TS := fun D σ H => ∃ S P α F, StR K B S α F σ H ∧ td P S ∧
  (∀ S' α' F' σ' H', P.nx S' → StR K B S' α' F' σ' H' → D.nx σ' H') ∧
  (∀ S' r α' F' σ' H' v, P.rt S' r → StR K B S' α' F' σ' H' → InR S' r → RepV K F' α' r v → D.rt v H') ∧
  (∀ S' α' F' σ' H', P.bk S' → StR K B S' α' F' σ' H' → D.bk σ' H') ∧
  (∀ S' α' F' σ' H', P.ct S' → StR K B S' α' F' σ' H' → D.ct σ' H')
abbrev DSt0 (X : Cx) (B : Base) (s : Stmt) (td : DTS) : Prop := PS X s (liftS0 X.K B td)
abbrev DSs0 (X : Cx) (B : Base) (s : List Stmt) (td : DTS) : Prop := PSs X s (liftS0 X.K B td)
theorem lift0 {K : PySem.W.Frag} {t : DTS} : ∀ D σ H, liftS0 K B t D σ H → liftS K B t D σ H := fun D σ H ⟨S, P, α, F, R, p, q1, q2, q3, q4⟩ => ⟨S, P, α, F, R, p, fun S' α' F' σ' H' p _ => q1 S' α' F' σ' H' p, fun S' r α' F' σ' H' v p _ => q2 S' r α' F' σ' H' v p, fun S' α' F' σ' H' p _ => q3 S' α' F' σ' H' p, fun S' α' F' σ' H' p _ => q4 S' α' F' σ' H' p⟩
variable {st : Stmt} {sts : List Stmt} {t u : DTS}
theorem ds0 (h : DSt X B st t) : DSt0 X B st t := h.weak lift0
theorem dss0 (h : DSs X B sts t) : DSs0 X B sts t := h.weak lift0
theorem dss0_cons (h1 : DSt0 X B st t) (h2 : DSs0 X B sts u) : DSs0 X B (st :: sts) (dSeq t u) :=
  (pss_cons h1 h2).weak fun D σ H ⟨S, P, α, F, R, p, q1, q2, q3, q4⟩ => ⟨S, _, α, F, R, p,
    fun S1 α1 F1 σ1 H1 p1 R1 => ⟨S1, P, α1, F1, R1, p1, q1, q2, q3, q4⟩, q2, q3, q4⟩
theorem dss0_one (h : DSt0 X B st t) : DSs0 X B [st] t := pss_one h
/-! ### try -/
def dMany (K : PySem.W.Frag) (PXo : PXT) (P : DEnds) : List (Addr × DTS) → PXT
  | [], S, e => PXo S e
  | (c, ts) :: r, S, e => ∃ b, PySem.W.exmOne K (.ref e.C) (.ref c) = some b ∧ if b = true then ts P S else dMany K PXo P r S e
def dTry (K : PySem.W.Frag) (PXo : PXT) (td : PXT → DTS) (l : List (Addr × DTS)) : DTS := fun P S => td (dMany K PXo P l) P S
inductive DHds (X : Cx) (B : Base) : List ExceptHandler → List (Addr × DTS) → Prop
  | nil : DHds X B [] []
  | cons {x : Str} {c : Addr} {ts : DTS} {b₀ : Stmt} {suite : List Stmt} {np pos' : Pos} {hds : List ExceptHandler} {l : List (Addr × DTS)} (hc : Names X x (.ref c))
      (hsu : ∀ (a : Addr) (pn : List (Addr × Obj)), DSs (X.suite a pn) B (b₀ :: suite) ts) (r : DHds X B hds l) : DHds X B (.ExceptHandler (some (.Name x np)) none (b₀ :: suite) pos' :: hds) ((c, ts) :: l)
theorem DHds.ok {hds : List ExceptHandler} {l : List (Addr × DTS)} (h : DHds X B hds l) : HdsOk X hds (l.map fun q => (.ref q.1, fun _ _ _ => liftS0 X.K B q.2)) := by
  induction h with
  | nil => exact .nil
  | cons hc hsu _ ih => exact .cons hc (fun a oe cls d pn _ _ => dss0 (hsu a ((a, oe) :: pn))) ih
theorem names_of (hm : X.mg x = some (.ref C)) (hg : Gl X x := by rfl) (hdb : (x == ("__debug__" : Str)) = false := by decide) : Names X x (.ref C) := ⟨hg, hdb, .inl hm⟩
theorem ds_try {body : List Stmt} {h₀ : ExceptHandler} {hds : List ExceptHandler} {l : List (Addr × DTS)} {td : PXT → DTS} (hs : X.stack = X.env :: X.outer) (tk : Takes X (wOf X.K B PX))
    (hb : ∀ (PX' : PXT) (pn : List (Addr × Obj)) (xe : Value → Shared → Prop), Takes (X.tr pn xe) (wOf X.K B PX') → PassesOwn (model X.prog X.w) X.A X.env xe → DSs (X.tr pn xe) B body (td PX'))
    (hh : DHds X B (h₀ :: hds) l) (hf : X.env.frame = some X.env.locals := by rfl) : DSt0 X B (.Try body (h₀ :: hds) [] [] pos) (dTry X.K PX td l) := by
  refine PS.weak (ps_try_many (tb := fun W D σ H => ∃ PX' : PXT, (∀ cls d σ' H', wOf X.K B PX' cls d σ' H' → W cls d σ' H') ∧ liftS0 X.K B (td PX') D σ H) hs hf tk (fun W pn xe tkW po => ⟨fun pins s σ H D I ⟨PX', hi, q⟩ => (hb PX' pn xe (tkW.imp hi) po).run pins s σ H D I (lift0 _ _ _ q)⟩) hh.ok) ?_
  rintro D σ H ⟨S, P, α, F, R, p, q1, q2, q3, q4⟩
  refine ⟨dMany X.K PX P l, ?_, S, P, α, F, R, p, q1, q2, q3, q4⟩
  have key : ∀ (l : List (Addr × DTS)) cls d σ' H', wOf X.K B (dMany X.K PX P l) cls d σ' H' → wMany X.K (wOf X.K B PX) D (l.map fun q => (.ref q.1, fun _ _ _ => liftS0 X.K B q.2)) cls d σ' H' := by
    intro l
    induction l with
    | nil => intro cls d σ' H' h; exact h
    | cons c l ih =>
      rintro cls d σ' H' ⟨S', e, α', F', ⟨b, hb1, hx⟩, R', ex⟩
      have ec : cls = .ref e.C := ex.1
      refine ⟨b, by rw [ec]; exact hb1, fun hbt a _ => ?_, fun hbf => ?_⟩
      · rw [if_pos hbt] at hx
        exact ⟨S', P, α', F', R', hx, q1, q2, q3, q4⟩
      · rw [if_neg (by rw [hbf]; exact Bool.false_ne_true)] at hx
        exact ih cls d σ' H' ⟨S', e, α', F', hx, R', ex⟩
  exact key l
end
/-! ### the rule for a def, its body told at the top -/
section
variable {P : Program} {w : World} {K : PySem.W.Frag} {mg : Str → Option Value} {base : Heap}
theorem okD0 {x qual : Str} {st : Stmt} {f : Addr} {fd : FuncData} {N ps : List Str} {k : Nat} {dsp : DSp} (np : Nat) (Fu : Fun K x qual st f fd) (S : FnScope N ps (defScope st)) (len : ∀ as Pc Xc, dsp as Pc Xc → as.length = ps.length ∧ (cellsD as).length = np)
    (h : ∀ (cdv : Value) (A : Around) (outer : List Env) (s : Shared) (H : Hp) (E : XK) (B : Base) (as : List Arg) (Pc : List CC → Arg → Prop) (Xc : List CC → Exn → Prop), dsp as Pc Xc → B.P0.length = np → Room k (A.deeper (envOfC qual (defScope st) s.heap.objs.size f cdv)) →
        Takes (cxOf (L2.CX P w) P w K mg base N qual (defScope st) f cdv A outer s H E) (wOf K B (pxOf np Xc)) →
        ∃ td, DSs0 (cxOf (L2.CX P w) P w K mg base N qual (defScope st) f cdv A outer s H E) B (defBody st) td ∧ td (endsOf np Pc) (S0 N.length as)) :
    FnOk P w K mg base (L2.CX P w) (k + 1) f fd ps (spD K dsp) := by
  refine Fu.okX S (fun vs H Q E ⟨as, F, al, Pc, Xc, _, a, _, d, _⟩ => by rw [a.length.1]; exact (len as Pc Xc d).1) fun cdv A outer s H vs Q E hr ⟨as, F, al, Pc, Xc, hs, a, nd, d, q1, q2⟩ => ?_
  have l2 : np = al.length := (len as Pc Xc d).2.symm.trans a.length.2
  have tk : Takes (cxOf (L2.CX P w) P w K mg base N qual (defScope st) f cdv A outer s H E) (wOf K ⟨F, H, al⟩ (pxOf np Xc)) :=
    (takes_of rfl rfl rfl rfl).imp fun cls dd σ' H' ⟨S', x, α', F', ⟨outs, ho, hx⟩, R', ex⟩ => by
      obtain ⟨e1, e2⟩ := R'.ends (outs := outs) (by rw [l2] at ho; exact ho)
      exact q2 outs x F' H' cls dd hx e1 e2 ex
  obtain ⟨td, h1, h2⟩ := h cdv A outer s H E ⟨F, H, al⟩ as Pc Xc d l2.symm hr tk
  refine ⟨_, h1, S0 N.length as, _, fun k => al.getD k 0, F, StR.start hs a nd, h2, fun S' α' F' σ' H' ⟨outs, x, e, ho, hp⟩ R' => ?_, fun S' r α' F' σ' H' v ⟨outs, x, e, ho, hp⟩ R' _ rv => ?_, fun _ _ _ _ _ z => z.elim, fun _ _ _ _ _ z => z.elim⟩
  · obtain ⟨e1, e2⟩ := R'.ends (outs := outs) (by rw [l2] at ho; exact ho)
    cases x with
    | fr d => cases e; exact q1 outs (.fr .non) F' H' .non hp e1 e2 rfl
    | own c => obtain ⟨k, e, _⟩ := e; cases e
  · obtain ⟨e1, e2⟩ := R'.ends (outs := outs) (by rw [l2] at ho; exact ho)
    cases x with
    | fr d => cases e; exact q1 outs (.fr d) F' H' v hp e1 e2 rv
    | own c =>
      obtain ⟨k, er, hk, hc⟩ := e
      subst er
      have ev : v = .ref (α' k) := rv
      subst ev
      obtain ⟨c1, c2⟩ := R'.cells k c hc
      obtain ⟨c3, c4⟩ := R'.own k c hc (by show al.length ≤ k; omega)
      exact q1 outs (.own c) F' H' _ hp e1 e2 ⟨_, rfl, c2, c1, c3, c4⟩
theorem Defd.ok0 {x : Str} {st : Stmt} {N ps : List Str} {k : Nat} {dsp : DSp} (Df : Defd K mg x st ps) (S : FnScope N ps (defScope st)) (np : Nat) (len : ∀ as Pc Xc, dsp as Pc Xc → as.length = ps.length ∧ (cellsD as).length = np)
    (h : ∀ (f : Addr) (cdv : Value) (A : Around) (outer : List Env) (s : Shared) (H : Hp) (E : XK) (B : Base) (as : List Arg) (Pc : List CC → Arg → Prop) (Xc : List CC → Exn → Prop), dsp as Pc Xc → B.P0.length = np → Room k (A.deeper (envOfC x (defScope st) s.heap.objs.size f cdv)) →
        Takes (cxOf (L2.CX P w) P w K mg base N x (defScope st) f cdv A outer s H E) (wOf K B (pxOf np Xc)) →
        PassesOwn (model P w) (A.deeper (envOfC x (defScope st) s.heap.objs.size f cdv)) (envOfC x (defScope st) s.heap.objs.size f cdv) (cxOf (L2.CX P w) P w K mg base N x (defScope st) f cdv A outer s H E).xe →
        ∃ td, DSs0 (cxOf (L2.CX P w) P w K mg base N x (defScope st) f cdv A outer s H E) B (defBody st) td ∧ td (endsOf np Pc) (S0 N.length as)) : DefOk P w K mg base (k + 1) x ps dsp := by
  obtain ⟨f, fd, e, Fu, b⟩ := Df.ex
  exact ⟨f, fd, e, Fu.kp, b, okD0 np Fu S len fun cdv A outer s H E B as Pc Xc d hB hr tk => h f cdv A outer s H E B as Pc Xc d hB hr tk (passes_of (X := cxOf (L2.CX P w) P w K mg base N x (defScope st) f cdv A outer s H E) rfl)⟩
end
end TD
/-! TD15: own ==, freezing reads, classes, small helps. -/
namespace TDK
open PySem PySem.Spec PyProof.Rows PySem.SeqAt PySem.W
section
variable {M : Model} {prog : Program} {w : World} {A : Around} {E : Value → Shared → Prop} {s : Shared} {K : PySem.W.Frag} {x C f : Addr} {ox : Obj} {od : Option Obj} {b tb : Value} {h₀ : Heap} {L : Addr} {m : Str → Option Value}
theorem ifBound_objNe {args : List Value} {Q : Option Value → Shared → Prop} (X : K.In s.heap) (I : PySem.W.InstAt s.heap x ox C od) (hs : PySem.W.findIn K (.ref C) "__ne__" = some (some (.builtin "object.__ne__")))
    (h : wpAny M A (call (.builtin "object.__ne__") (.ref x :: args)) (fun v => Q (some v)) E s) : wpAny M A (callSpecialIfBound? (.ref x) "__ne__" args) Q E s := by
  simp only [callSpecialIfBound?, bindSpecialIfBound?]
  refine wpAny_holding (wpAny_bind (wpAny_bind (wpAny_bind (I.type.here ((PySem.W.looks_findIn X hs).here ?_)))))
  refine wpAny_bind (wpAny_askSetting (wpAny_ite ?_))
  have fin : wpAny M A (call (.builtin "object.__ne__") ([.ref x] ++ args) >>= fun v => pure (some v)) Q E s := wpAny_bind (wpAny_mono h (fun v s' h' => wpAny_pure h') fun _ _ h' => h')
  split
  · exact wpAny_bind (wpAny_of_eq (F.cmp_object.ne.bind _) (wpAny_pure (by exact fin)))
  · exact wpAny_tryCatch (wpAny_bind (wpAny_of_eq (F.cmp_object.ne.bind _) (wpAny_pure (by exact fin))))
theorem ne_entry {Q : Fin → Shared → Prop} (hu : A.units < cLine) (X : K.In s.heap) (I : InstAt s.heap x ox C od) (hs : findIn K (.ref C) "__eq__" = some (some (.ref f))) (hf : isFn K (.ref f) = true)
    (h : wpAny M A (call (.ref f) [.ref x, b]) (fun v s' => ∃ k, v = .bool k ∧ Q (.done (.ret (.bool (!k)))) s') E s) : wpAny M A (Builtin.«object.__ne__» ⟨[.ref x, b], []⟩) Q E s := by
  unfold Builtin.«object.__ne__»
  repeat (first
    | with_reducible refine wpAny_cRoomFor hu ?_
    | (refine wpAny_bind (m := callSpecialIfBound? (.ref x) (Str.ofString "__eq__") [b])
        (ifBound_K X I hs hf (wpAny_mono h (fun r s' hr => by
          obtain ⟨k, rfl, hq⟩ := hr
          repeat (first | exact hq | exact wpAny_pure hq | exact wpAny_truthy_bool hq | (refine wpAny_bind (m := truthy (.bool _)) (wpAny_truthy_bool ?_)) | wp_step)) fun _ _ e => e)))
    | wp_step)
theorem ne_K {Q : Value → Shared → Prop} (hu : A.units + 1 < cLine) (X : K.In s.heap) (I : InstAt s.heap x ox C od) (hb : Looks (model prog w) s.heap (typeOf b) tb) (hn : notFirst K C tb = true) (hm : mroIn K C (.type "object") = some true)
    (hne : findIn K (.ref C) "__ne__" = some (some (.builtin "object.__ne__"))) (hs : findIn K (.ref C) "__eq__" = some (some (.ref f))) (hf : isFn K (.ref f) = true)
    (h : wpAny (model prog w) A.in1 (call (.ref f) [.ref x, b]) (fun v s' => ∃ k, v = .bool k ∧ Q (.bool (!k)) s') E s) : wpAny (model prog w) A (richCompare .NotEq (.ref x) b) Q E s := by
  have one : wpAny (model prog w) A (tryCompare (.ref x) "__ne__" b) (fun r s' => ∃ v, r = some v ∧ Q v s') E s := by
    unfold tryCompare
    refine wpAny_bind (ifBound_objNe X I hne (wpAny_call (codeAny_call_builtin F.cmp_object.ne.plain F.cmpEntry_ne (PySem.W.check_slot F.cmpKind_ne F.cmpSplit_ne (I.type.andThen (PySem.W.looks_mroIn X hm)) (F.cmpArgs_ne _ _)
      (ne_entry (A := A.in1) hu X I hs hf (wpAny_mono h (fun v s' hv => ?_) fun _ _ e => e))))))
    obtain ⟨k, rfl, hq⟩ := hv
    first | exact ⟨k, rfl, wpAny_pure ⟨_, rfl, hq⟩⟩ | exact ⟨k, rfl, wpAny_pure (wpAny_pure ⟨_, rfl, hq⟩)⟩ | exact ⟨k, rfl, ⟨_, rfl, hq⟩⟩
  unfold richCompare
  simp only [oneThing_ref]
  rw [cmpInfo_NotEq]
  dsimp only
  refine wpAny_holding (wpAny_bind (wpAny_cRoomFor (Nat.lt_of_succ_lt hu) ?_))
  refine wpAny_bind (I.type.here (wpAny_bind (hb.here ?_)))
  split
  · rename_i q
    have e : subIn K tb (.ref C) = some false := by
      rcases Bool.or_eq_true_iff.mp hn with e | e
      · rw [beq_iff_eq.mp e] at q; simp at q
      · exact beq_iff_eq.mp e
    refine wpAny_bind ((looks_subIn X e).here ?_)
    simp only [Bool.false_eq_true, if_false]
    refine wpAny_bind (wpAny_mono one (fun r s' z => ?_) fun _ _ e => e)
    obtain ⟨v, rfl, hq⟩ := z
    exact wpAny_pure hq
  · refine wpAny_bind (wpAny_pure ?_)
    simp only [Bool.false_eq_true, if_false]
    refine wpAny_bind (wpAny_mono one (fun r s' z => ?_) fun _ _ e => e)
    obtain ⟨v, rfl, hq⟩ := z
    exact wpAny_pure hq
end
end TDK
namespace TD
open PySem PySem.Spec PyProof.Rows L2
theorem hu64 {k : Nat} {A : Around} (r : Room k A) : A.units + 64 < cLine := by have := r.un; omega
theorem hu65 {k : Nat} {A : Around} (r : Room k A) : A.units + 65 < cLine := by have := r.un; omega
theorem hu1 {k : Nat} {A : Around} (r : Room k A) : A.units + 1 < cLine := by have := r.un; omega
/-- what the class must have for its own == -/
structure EqOf (K : PySem.W.Frag) (C f : Addr) : Prop where
  eq_ : PySem.W.findIn K (.ref C) "__eq__" = some (some (.ref f))
  fn : PySem.W.isFn K (.ref f) = true
  ne_ : PySem.W.findIn K (.ref C) "__ne__" = some (some (.builtin "object.__ne__"))
  mro : PySem.W.mroIn K C (.type "object") = some true
  dic : PySem.W.notFirst K C (.type "dict") = true
def rOwn (K : PySem.W.Frag) (C : Addr) (sp : Sp) (neg : Bool) : R2 := fun x y H Q => ∃ a b dx fs, x = .ref a ∧ y = .ref b ∧ H a = some (.ins C dx fs) ∧ ((∃ dy gs, H b = some (.ins C dy gs)) ∨ ∃ kvs, H b = some (.dK kvs)) ∧
  sp [x, y] H (fun v H' => ∃ k, v = .bl k ∧ Q (.bl (if neg then !k else k)) H') (fun _ _ _ => False)
section
variable {X : Cx} {C f : Addr} {fd : FuncData} {ps : List Str} {sp : Sp} {n : Nat}
theorem typ_of {pins : List (Addr × Obj)} {σ : L2.St} {H : Hp} {s : Shared} {b : Addr} (I : Inv X pins σ H s) (E : EqOf X.K C f) (h : (∃ dy gs, H b = some (.ins C dy gs)) ∨ ∃ kvs, H b = some (.dK kvs)) :
    ∃ tb, PySem.W.Looks (model X.prog X.w) s.heap (typeOf (.ref b)) tb ∧ PySem.W.notFirst X.K C tb = true := by
  rcases h with ⟨dy, gs, hb⟩ | ⟨kvs, hb⟩
  · obtain ⟨mB, J', _⟩ := ins_get I.hok hb
    obtain ⟨od', J', _⟩ := J'.look
    exact ⟨_, J'.type, by simp [PySem.W.notFirst]⟩
  · obtain ⟨_, _, vs, _, o, es, ep, h1, h2, _⟩ := (show ObjOk X.prog X.w H s.heap b (.dK kvs) from I.hok b _ hb)
    exact ⟨.type "dict", fun A Q E s' k q => wpAny_typeOf_ref (k _ _ h1) (by rw [h2.1]; exact q), E.dic⟩
theorem op_oeq (F : FnOk X.prog X.w X.K X.mg X.base (L2.CX X.prog X.w) n f fd ps sp) (E : EqOf X.K C f) (hr : Room n X.A) (hb : Binds X.K fd ps []) : OpR X (compareOp .Eq) (rOwn X.K C sp false) := by
  intro pins s σ H x y v u Q I rx ry h
  obtain ⟨a, b, dx, fs, rfl, rfl, ha, hy, hq⟩ := h
  cases rx
  cases ry
  obtain ⟨mA, J, _⟩ := ins_get I.hok ha
  obtain ⟨od, J, _⟩ := J.look
  obtain ⟨tb, hT, hn⟩ := typ_of I E hy
  obtain ⟨m, hF⟩ := I.fr
  show wpAny (model X.prog X.w) X.A (richCompare .Eq (.ref a) (.ref b)) (EP X pins σ Q) X.xe s
  refine PySem.W.cmp_K (op := .Eq) (tb := tb) hr.units0 hF I.ok.mod.kin J hT hn E.eq_ E.fn ?_
  refine wpAny_mono (run_fn (dvs := []) (vs := [V.ref a, V.ref b]) F hr hb .nil passes0 I (.cons rfl (.cons rfl .nil)) hq) (fun r s' z => ?_) fun _ _ e => e
  obtain ⟨w, H', I', rw', k, ew, q⟩ := z
  subst ew
  cases rw'
  exact ⟨.bl k, H', I', rfl, q⟩
theorem op_one (F : FnOk X.prog X.w X.K X.mg X.base (L2.CX X.prog X.w) n f fd ps sp) (E : EqOf X.K C f) (hr : Room (n + 1) X.A) (hb : Binds X.K fd ps []) : OpR X (compareOp .NotEq) (rOwn X.K C sp true) := by
  intro pins s σ H x y v u Q I rx ry h
  obtain ⟨a, b, dx, fs, rfl, rfl, ha, hy, hq⟩ := h
  cases rx
  cases ry
  obtain ⟨mA, J, _⟩ := ins_get I.hok ha
  obtain ⟨od, J, _⟩ := J.look
  obtain ⟨tb, hT, hn⟩ := typ_of I E hy
  show wpAny (model X.prog X.w) X.A (richCompare .NotEq (.ref a) (.ref b)) (EP X pins σ Q) X.xe s
  refine TDK.ne_K (tb := tb) (hu1 hr) I.kIn J hT hn E.mro E.ne_ E.eq_ E.fn ?_
  have r2 : Vals [V.ref a, V.ref b] [Value.ref a, Value.ref b] := .cons rfl (.cons rfl .nil)
  have hl : [Value.ref a, Value.ref b].length = ps.length := F.len _ _ _ _ hq
  have bb := hb s [Value.ref a, Value.ref b] I.kIn (by simpa using hl)
  rw [List.append_nil] at bb
  refine wpAny_call (codeAny_mono (F.run X.A.in1 X.stack s H ⟨[Value.ref a, Value.ref b], []⟩ [Value.ref a, Value.ref b] [V.ref a, V.ref b] _ _ hr.in1 I.env0.in1 bb r2 hq) fun r s' z => ?_)
  cases r with
  | error e => exact (passes0 pins σ H s e s' I z : X.xe e s')
  | ok fl =>
    cases fl with
    | ret w =>
      obtain ⟨v, H', I', rv, k, ev, q⟩ := I.after z
      subst ev
      cases rv
      exact ⟨k, rfl, .bl (!k), H', I', rfl, q⟩
    | next => exact False.elim z
    | brk => exact False.elim z
    | cont => exact False.elim z
end
theorem spD_mono {K : PySem.W.Frag} {dsp : DSp} {vs : List V} {H : Hp} {Q : VK} {E E' : XK} (h : spD K dsp vs H Q E) (e : ∀ c d H, E c d H → E' c d H) : spD K dsp vs H Q E' := by
  obtain ⟨as, F, al, Pc, Xc, h1, h2, h3, h4, h5, h6⟩ := h
  exact ⟨as, F, al, Pc, Xc, h1, h2, h3, h4, h5, fun outs x F' H' cls d a b c dd => e _ _ _ (h6 outs x F' H' cls d a b c dd)⟩
section
variable {X : Cx} {B : Base} {K : PySem.W.Frag} {a b c e o i value : Expr} {es : List Expr} {ta tb tc : DTE} {tr : DTA} {pos p p2 : Pos} {S : DS} {α : Nat → Addr} {F : Hp} {σ : L2.St} {H : Hp} {C f : Addr} {k : Nat} {ps : List Str} {dsp : DSp} {x : Str}
def oeX (C : Addr) (dsp : DSp) (neg : Bool) : D2 := fun x y S P => (∃ ns ds, insOf S x = some (C, ns, ds)) ∧ ((∃ ns ds, insOf S y = some (C, ns, ds)) ∨ ∃ ks ds, dicOf S y = some (ks, ds)) ∧
  callD dsp (fun _ _ => False) [x, y] S fun S' r => ∃ b, r = .fr (.bl b) ∧ P S' (.fr (.bl (if neg then !b else b)))
theorem link_oe (neg : Bool) : Link2 X B (rOwn X.K C (spD X.K dsp) neg) (oeX C dsp neg) := by
  rintro x y S P α F σ H v u Q R rx ry _ _ ⟨⟨ns, ds, h1⟩, h2, h3⟩ q
  obtain ⟨a, dx, vs, rfl, ha, _⟩ := ins_at R rx h1
  have key : ∃ b, u = .ref b ∧ ((∃ dy gs, H b = some (.ins C dy gs)) ∨ ∃ kvs, H b = some (.dK kvs)) := by
    rcases h2 with ⟨ns', ds', h2⟩ | ⟨ks, ds', h2⟩
    · obtain ⟨b, dy, ws, e, hb, _⟩ := ins_at R ry h2
      exact ⟨b, e, .inl ⟨dy, _, hb⟩⟩
    · obtain ⟨b, ws, e, hb, _⟩ := dic_at R ry h2
      exact ⟨b, e, .inr ⟨_, hb⟩⟩
  obtain ⟨b, rfl, hb⟩ := key
  refine ⟨a, b, dx, _, rfl, rfl, ha, hb, spD_mono (call_core R (rs := [x, y]) (vs := [.ref a, .ref b]) ⟨_, _, rfl, rx, _, _, rfl, ry, rfl⟩ h3 fun S' r α' F' H' w ⟨k, er, p⟩ g R' ir rw' => ?_) fun c d H h => ?_⟩
  · subst er
    exact ⟨k, rw', q S' _ α' F' H' _ p g R' trivial rfl⟩
  · obtain ⟨_, _, _, _, z, _⟩ := h
    exact z
theorem de_oeq (M : MethOk X.prog X.w X.K X.mg X.base k C "__eq__" ps dsp) (E : EqOf X.K C f) (hr : Room k X.A) (ha : DE X B a ta) (hb : DE X B b tb) : DE X B (.Compare a [.Eq] [b] pos) (dOp (oeX C dsp false) ta tb) := by
  obtain ⟨f', fd, hm, hbi, Fo⟩ := M.ex
  have : f' = f := by have := hm.at_; rw [E.eq_] at this; cases this; rfl
  subst this
  exact de_cmp (op_oeq Fo E hr hbi) (link_oe false) (nomark _) ha hb
theorem dt_oeq (M : MethOk X.prog X.w X.K X.mg X.base k C "__eq__" ps dsp) (E : EqOf X.K C f) (hr : Room k X.A) (ha : DE X B a ta) (hb : DE X B b tb) : DT X B (.Compare a [.Eq] [b] pos) (dB (dOp (oeX C dsp false) ta tb)) := by
  obtain ⟨f', fd, hm, hbi, Fo⟩ := M.ex
  have : f' = f := by have := hm.at_; rw [E.eq_] at this; cases this; rfl
  subst this
  exact dt_cmp (op_oeq Fo E hr hbi) (link_oe false) (nomark _) ha hb
theorem de_one' (M : MethOk X.prog X.w X.K X.mg X.base k C "__eq__" ps dsp) (E : EqOf X.K C f) (hr : Room (k + 1) X.A) (ha : DE X B a ta) (hb : DE X B b tb) : DE X B (.Compare a [.NotEq] [b] pos) (dOp (oeX C dsp true) ta tb) := by
  obtain ⟨f', fd, hm, hbi, Fo⟩ := M.ex
  have : f' = f := by have := hm.at_; rw [E.eq_] at this; cases this; rfl
  subst this
  exact de_cmp (op_one Fo E hr hbi) (link_oe true) (nomark _) ha hb
theorem dt_one' (M : MethOk X.prog X.w X.K X.mg X.base k C "__eq__" ps dsp) (E : EqOf X.K C f) (hr : Room (k + 1) X.A) (ha : DE X B a ta) (hb : DE X B b tb) : DT X B (.Compare a [.NotEq] [b] pos) (dB (dOp (oeX C dsp true) ta tb)) := by
  obtain ⟨f', fd, hm, hbi, Fo⟩ := M.ex
  have : f' = f := by have := hm.at_; rw [E.eq_] at this; cases this; rfl
  subst this
  exact dt_cmp (op_one Fo E hr hbi) (link_oe true) (nomark _) ha hb
/-! ### a name read, its object given up: from now on data wherever it is named -/
def frzS (k : Nat) (d : D) : Option SV → Option SV
  | some (.cell j) => if j = k then some (.fr d) else some (.cell j)
  | r => r
def dVarF (n i : Nat) : DTE := fun S P => ∃ k cc, S.ρ[i]? = some (some (.cell k)) ∧ n ≤ k ∧ S.μ[k]? = some (some cc) ∧ P ⟨S.ρ.map (frzS k (frzD cc)), S.μ.set k none⟩ (.fr (frzD cc))
theorem StR.frzS {k : Nat} {cc : CC} {F' : Hp} (R : StR K B ⟨S.ρ, S.μ.set k none⟩ α F' σ H) (rp : Rep K F' (frzD cc) (.ref (α k))) : StR K B ⟨S.ρ.map (frzS k (frzD cc)), S.μ.set k none⟩ α F' σ H := by
  refine ⟨by rw [R.len]; simp, fun j r e => ?_, R.sub, R.grow, R.new, R.keep, R.dom, R.np, R.cells, R.own, R.pas, R.inj, R.p0, R.pdx⟩
  simp only [List.getElem?_map] at e
  cases z : S.ρ[j]? with
  | none => rw [z] at e; simp at e
  | some r0 =>
    rw [z] at e
    cases r0 with
    | none => simp [TD.frzS] at e
    | some r1 =>
      obtain ⟨v, h1, h2, h3⟩ := R.slot j r1 z
      cases r1 with
      | fr d => simp [TD.frzS] at e; subst e; exact ⟨v, h1, h2, trivial⟩
      | cell m =>
        simp only [TD.frzS, Option.map_some, Option.some.injEq] at e
        split at e
        · rename_i hm
          cases e
          subst hm
          have hv : v = .ref (α m) := h2
          subst hv
          exact ⟨_, h1, rp, trivial⟩
        · cases e
          exact ⟨v, h1, h2, h3⟩
theorem de_varF {n i : Nat} {x : Str} (hB : B.P0.length = n) (h : PE X (.Name x pos) (tVar i)) : DE X B (.Name x pos) (dVarF n i) :=
  h.weak fun σ H Q ⟨S, P, α, F, R, ⟨k, cc, e, hk, hc, p⟩, q⟩ => by
    obtain ⟨v, ev, rv, ir⟩ := R.slot i _ e
    obtain ⟨F', R2, g2, rp⟩ := R.freeze hc (by rw [hB]; exact hk)
    have hv : v = .ref (α k) := rv
    subst hv
    exact ⟨_, ev, q _ _ α F' H _ p ⟨g2.sub, by show _ ≤ (S.μ.set k none).length; simp, fun _ _ => rfl⟩ (R2.frzS rp) trivial rp⟩
theorem dvf {n : Nat} (hB : B.P0.length = n) (i : Nat) {x : Str} {pos : Pos} (hN : X.N[i]? = some x := by rfl) (hv : Vis X.env.scope x := by first | exact Or.inl rfl | exact Or.inr (Or.inl rfl) | exact Or.inr (Or.inr rfl)) (hd : (x == ("__debug__" : Str)) = false := by decide)
    (hcd : (x == ("__classdict__" : Str)) = false := by decide) : DE X B (.Name x pos) (dVarF n i) := de_varF hB (pe_var hN hv hd hcd)
/-! ### a class, a module's tuple -/
theorem de_gref {x : Str} {A : Addr} (hm : X.mg x = some (.ref A)) (hg : Gl X x := by rfl) (hd : (x == ("__debug__" : Str)) = false := by decide) : DE X B (.Name x pos) (dC (.ref A)) :=
  de_const (pe_glob (v := .ref A) hg hm rfl hd) fun _ _ => rfl
/-- the module's tuple at x -/
def dCK (d : Hp → Prop) : DTE := fun S P => False
theorem de_gtup {x : Str} {ds : List D} (hm : ∃ A vs, X.mg x = some (.ref A) ∧ (∀ H, SqT X.K H A vs) ∧ ∀ F, RepL X.K F ds vs) (hg : Gl X x := by rfl) (hd : (x == ("__debug__" : Str)) = false := by decide) : DE X B (.Name x pos) (dC (.ktup ds)) := by
  obtain ⟨A, vs, hm, hs, hr⟩ := hm
  exact (pe_glob (v := .ref A) hg hm rfl hd).weak fun σ H Q ⟨S, P, α, F, R, p, q⟩ => q S _ α F H _ p (.refl _ _ _) R trivial ⟨A, vs, rfl, hs F, hr F⟩
/-- tuples of ints, one before the other -/
def ltTX : D2 := fun x y S P => ∃ ns ms : List Int, x = .fr (.tup (ns.map D.int)) ∧ y = .fr (.tup (ms.map D.int)) ∧ P S (.fr (.bl (HT.lexLt ns ms)))
theorem link_ltT : Link2 X B (rLtT X.K) ltTX := by
  rintro x y S P α F σ H v u Q R rx ry _ _ ⟨ns, ms, rfl, rfl, p⟩ q
  obtain ⟨a, vs, o, rfl, h1, _, l1⟩ := rx
  obtain ⟨b, ws, o2, rfl, h2, _, l2⟩ := ry
  have e1 := ints_inv l1
  have e2 := ints_inv l2
  subst e1 e2
  exact ⟨a, b, ns, ms, rfl, rfl, sqt_frz (R.sub _ _ h1), sqt_frz (R.sub _ _ h2), q S _ α F H _ p (.refl _ _ _) R trivial rfl⟩
theorem de_ltT (hu : X.A.units < cLine) (ha : DE X B a ta) (hb : DE X B b tb) : DE X B (.Compare a [.Lt] [b] pos) (dOp ltTX ta tb) := de_cmp (op_ltT hu) link_ltT (nomark _) ha hb
theorem dt_ltT (hu : X.A.units < cLine) (ha : DE X B a ta) (hb : DE X B b tb) : DT X B (.Compare a [.Lt] [b] pos) (dB (dOp ltTX ta tb)) := dt_cmp (op_ltT hu) link_ltT (nomark _) ha hb
theorem hu0 {k : Nat} {A : Around} (r : Room k A) : A.units < cLine := by have := r.un; omega
/-- what isinstance(x, C) asks of the text, C an own class -/
structure IsC (K : PySem.W.Frag) (C : Addr) : Prop where
  cl : Cls K C
  ha : PySem.W.findIn K (.ref C) "__class__" = some (some (.builtin "object.__class__"))
  hn : PySem.W.specialIn K (.builtin "object.__class__") "__get__" = some (some (.builtin "getset_descriptor.__get__"))
  htk : PySem.W.takesIn K (.builtin "object.__class__") = some true
  hm : PySem.W.mroIn K C (.type "object") = some true
  self : PySem.W.kitOne K (.ref C) (.ref C) = some true
  other : ∀ d t, tyD d = some t → PySem.W.kitOne K (.type t) (.ref C) = some false
def isiCL (C : Addr) : DL := fun xs S P => ∃ x b, xs = [x, .fr (.ref C)] ∧ ((∃ ns ds, insOf S x = some (C, ns, ds) ∧ b = true) ∨ ∃ d t, svD S x = some d ∧ tyD d = some t ∧ b = false) ∧ P S (.fr (.bl b))
theorem tyX_of {d : D} {t : String} {v : V} (h : tyD d = some t) (r : Rep K H d v) : TyX K H v (.type t) := by
  cases d <;> simp only [tyD, Option.some.injEq, reduceCtorEq] at h <;> subst h
  case non => cases (show v = .non from r); exact .base .non
  case bl k => cases (show v = .bl k from r); exact .base (.bl k)
  case int i => cases (show v = .int i from r); exact .base (.int i)
  case str x => cases (show v = .str x from r); exact .base (.str x)
  case tup => obtain ⟨a, vs, o, rfl, h, _⟩ := r; exact .fTuple h
  case lst => obtain ⟨a, vs, rfl, h, _⟩ := r; exact .base (.lst h)
  case dic => obtain ⟨a, vs, rfl, h, _⟩ := r; exact .base (.dK h)
theorem link_isiC (I : IsC X.K C) : LinkL X B (rIsi X.K) (isiCL C) := by
  rintro xs S P α F σ H vs Q R rv hin ⟨x, b, rfl, hx, p⟩ q
  obtain ⟨v, us, rfl, r1, w, ws, rfl, r2, rfl⟩ := rv
  cases (show w = .ref C from r2)
  rcases hx with ⟨ns, ds, hx, rfl⟩ | ⟨d, t, hx, ht, rfl⟩
  · obtain ⟨a, dx, us, rfl, h1, _⟩ := ins_at R r1 hx
    exact ⟨_, _, .ref C, .ref C, true, rfl, .own C, .base (.ins h1 I.cl I.ha I.hn I.htk I.hm), I.self, q S _ α F H _ p (.refl _ _ _) R trivial rfl⟩
  · exact ⟨v, _, .type t, .ref C, false, rfl, .own C, tyX_of ht (view R r1 hx), I.other d t ht, q S _ α F H _ p (.refl _ _ _) R trivial rfl⟩
theorem de_isiC (hm : X.mg "isinstance" = none) (I : IsC X.K C) (ha : DA X B (e :: es) tr) (hg : Gl X "isinstance" := by rfl) (he : starEach (e :: es) X.env = (false, eval e X.env) :: starEach es X.env := by rfl) (hpl : (backTo pos (starEach es X.env)).any (·.1) = false := by rfl) : DE X B (.Call (.Name "isinstance" p) (e :: es) [] pos) (dCB (isiCL C) tr) :=
  de_callB call_isi (link_isiC I) hg hm (by decide +kernel) ha (by decide) (by decide) he hpl
end
end TD
/-! TD16: a walk over a list or a tuple. -/
namespace L2
open PySem PySem.Spec PyProof.Rows
section
variable {X : Cx} {tg : Expr}
def iSeqV (K : PySem.W.Frag) (tl : TE) : TI := fun σ H R => tl σ H fun x H1 => ∃ a, x = .ref a ∧ (((∃ xs, SqL K H1 a xs) ∧ R (Itl K a) H1) ∨ ((∃ xs, SqT K H1 a xs) ∧ R (Itt K a) H1))
theorem pi_seqV {l : Expr} {tl : TE} (hl : PE X l tl) : PI X tg l (iSeqV X.K tl) := by
  refine ⟨fun pins s σ H R I h => ?_⟩
  refine thn (hl.run pins s σ H _ I h) fun v s1 ⟨x, H1, I1, r1, q1⟩ => ?_
  obtain ⟨a, e, q1⟩ := q1
  subst e
  cases r1
  rcases q1 with ⟨⟨xs, hq⟩, q⟩ | ⟨⟨xs, hq⟩, q⟩
  · obtain ⟨its, rv, p, hz⟩ := I1.list hq
    refine wpAny_pyIter_list p.isList ?_
    refine ⟨s1.heap.objs.size, [s1.heap.objs.size], _, _, H1, rfl, I1.kept (t' := s1.toks) fun b o e => Heap.get?_push_of_some _ e, turn_list a _, ⟨_, Heap.get?_push_size _ rfl, rfl, rfl⟩, fun b hb => ?_, q⟩
    have e : b = s1.heap.objs.size := by simpa using hb
    subst e
    exact I1.fpOk (Nat.le_refl _) (I1.hok.fresh (Nat.le_refl _))
  · obtain ⟨its, rv, p, hz⟩ := I1.tuple hq
    refine wpAny_pyIter_tuple (show s1.heap.IsTuple a its.toArray from p) ?_
    refine ⟨s1.heap.objs.size, [s1.heap.objs.size], _, _, H1, rfl, I1.kept (t' := s1.toks) fun b o e => Heap.get?_push_of_some _ e, turn_tuple a _, ⟨_, Heap.get?_push_size _ rfl, rfl, rfl⟩, fun b hb => ?_, q⟩
    have e : b = s1.heap.objs.size := by simpa using hb
    subst e
    exact I1.fpOk (Nat.le_refl _) (I1.hok.fresh (Nat.le_refl _))
end
end L2
namespace TD
open PySem PySem.Spec PyProof.Rows L2
section
variable {X : Cx} {B : Base} {e : Expr} {ta : DTE}
def iSeqLT (td : DTE) : DTI := fun S P => td S fun S1 r => ∃ ds, (r = .fr (.lst ds) ∨ r = .fr (.tup ds)) ∧ P S1 ds
theorem di_seq {tg : Expr} (h : DE X B e ta) : DI X B tg e (iSeqLT ta) :=
  (pi_seqV h).weak fun σ H R ⟨S, P, α, F, R0, p, q⟩ => ⟨S, _, α, F, R0, p, fun S1 r α1 F1 H1 v ⟨ds, er, p1⟩ g1 R1 _ rv => by
    rcases er with er | er
    · subst er
      obtain ⟨a, vs, rfl, hs, rl⟩ := rv
      exact ⟨a, rfl, .inl ⟨⟨vs, .of (R1.sub _ _ hs)⟩, q S1 ds α1 F1 H1 _ p1 g1 R1 (iter_list' (.of hs) rl)⟩⟩
    · subst er
      obtain ⟨a, vs, o, rfl, hs, _, rl⟩ := rv
      exact ⟨a, rfl, .inr ⟨⟨vs, sqt_frz (R1.sub _ _ hs)⟩, q S1 ds α1 F1 H1 _ p1 g1 R1 (iter_tup (sqt_frz hs) rl)⟩⟩⟩
end
end TD
/-! TD17: == of flat data. -/
namespace TD
open PySem PySem.Spec PyProof.Rows L2
section
variable {X : Cx} {B : Base} {a b : Expr} {ta tb : DTE} {pos : Pos}
def eqSX (neg : Bool) : D2 := fun x y S P => ∃ d e v u, x = .fr d ∧ y = .fr e ∧ fl d = some v ∧ fl e = some u ∧ scal v u = true ∧ P S (.fr (.bl (if neg then !decide (v = u) else decide (v = u))))
theorem link_eqS : Link2 X B rEq (eqSX false) := by
  rintro x y S P α F σ H v u Q R rx ry _ _ ⟨d, e, v', u', rfl, rfl, hd, he, hs, p⟩ k
  have e1 := Rep.fl hd rx
  have e2 := Rep.fl he ry
  subst e1 e2
  exact ⟨hs, k S _ α F H _ p (.refl _ _ _) R trivial rfl⟩
theorem link_neS : Link2 X B rNe (eqSX true) := by
  rintro x y S P α F σ H v u Q R rx ry _ _ ⟨d, e, v', u', rfl, rfl, hd, he, hs, p⟩ k
  have e1 := Rep.fl hd rx
  have e2 := Rep.fl he ry
  subst e1 e2
  exact ⟨hs, k S _ α F H _ p (.refl _ _ _) R trivial rfl⟩
theorem de_eqS (ha : DE X B a ta) (hb : DE X B b tb) : DE X B (.Compare a [.Eq] [b] pos) (dOp (eqSX false) ta tb) := de_cmp op_eq link_eqS (nomark _) ha hb
theorem de_neS (ha : DE X B a ta) (hb : DE X B b tb) : DE X B (.Compare a [.NotEq] [b] pos) (dOp (eqSX true) ta tb) := de_cmp op_ne link_neS (nomark _) ha hb
theorem dt_eqS (ha : DE X B a ta) (hb : DE X B b tb) : DT X B (.Compare a [.Eq] [b] pos) (dB (dOp (eqSX false) ta tb)) := dt_cmp op_eq link_eqS (nomark _) ha hb
theorem dt_neS (ha : DE X B a ta) (hb : DE X B b tb) : DT X B (.Compare a [.NotEq] [b] pos) (dB (dOp (eqSX true) ta tb)) := dt_cmp op_ne link_neS (nomark _) ha hb
/-! ### a state told anew between two statements -/
inductive Nrm (S : DS) (p : DS → Prop) : Prop where
  | mk (h : p S)
  | no (h : False)
theorem Nrm.of {S : DS} {p : DS → Prop} (S' : DS) (e : S = S') (h : p S') : Nrm S p := .mk (e ▸ h)
theorem Nrm.eq (S : DS) (p : DS → Prop) : Nrm S p = p S := propext ⟨fun h => by
  cases h with
  | mk h => exact h
  | no h => exact h.elim, .mk⟩
def dSeqN (t u : DTS) : DTS := fun P S => t { nx := fun S1 => Nrm S1 (u P), rt := P.rt, bk := P.bk, ct := P.ct } S
theorem dSeqN_eq (t u : DTS) : dSeqN t u = dSeq t u := by
  funext P S
  unfold dSeqN dSeq
  rw [show (fun S1 => Nrm S1 (u P)) = fun S1 => u P S1 from funext fun S1 => Nrm.eq S1 (u P)]
theorem dss_consN {st : Stmt} {sts : List Stmt} {t u : DTS} (h1 : DSt X B st t) (h2 : DSs X B sts u) : DSs X B (st :: sts) (dSeqN t u) := by
  rw [dSeqN_eq]
  exact dss_cons h1 h2
end
end TD
/-! TD18: what the head tells, as tests; own exceptions' promises. -/
namespace TD
open PySem PySem.Spec PyProof.Rows L2 He
section
variable {K : PySem.W.Frag} {C : Addr}
def eqB (K : PySem.W.Frag) (C : Addr) : Bool := eqO (PySem.W.findIn K (.ref C) "__eq__") (some (some (.ref (ma K C "__eq__")))) && (PySem.W.isFn K (.ref (ma K C "__eq__")) && (eqO (PySem.W.findIn K (.ref C) "__ne__") (some (some (.builtin "object.__ne__"))) &&
  (decide (PySem.W.mroIn K C (.type "object") = some true) && PySem.W.notFirst K C (.type "dict"))))
theorem eqB_ok (h : eqB K C = true) : EqOf K C (ma K C "__eq__") := by
  obtain ⟨h1, h⟩ := ba h
  obtain ⟨h2, h⟩ := ba h
  obtain ⟨h3, h⟩ := ba h
  obtain ⟨h4, h5⟩ := ba h
  exact ⟨eqO_ok h1, h2, eqO_ok h3, of_decide_eq_true h4, h5⟩
def kTypes : List String := ["NoneType", "bool", "int", "str", "tuple", "list", "dict"]
theorem tyD_in {d : D} {t : String} (h : tyD d = some t) : t ∈ kTypes := by
  cases d <;> simp only [tyD, Option.some.injEq, reduceCtorEq] at h <;> (subst h; decide)
def clB (K : PySem.W.Frag) (C : Addr) : Bool := PySem.W.plainGet K C Str.empty && (PySem.W.hasDictIn K C && (PySem.W.plainOver K C && eqO (PySem.W.findIn K (.ref C) "__setattr__") (some (some (.builtin "object.__setattr__")))))
theorem clB_ok (h : clB K C = true) : Cls K C := by
  obtain ⟨h1, h⟩ := ba h
  obtain ⟨h2, h⟩ := ba h
  obtain ⟨h3, h4⟩ := ba h
  exact ⟨h1, h2, h3, eqO_ok h4⟩
def isB (K : PySem.W.Frag) (C : Addr) : Bool := clB K C && (eqO (PySem.W.findIn K (.ref C) "__class__") (some (some (.builtin "object.__class__"))) && (eqO (PySem.W.specialIn K (.builtin "object.__class__") "__get__") (some (some (.builtin "getset_descriptor.__get__"))) &&
  (decide (PySem.W.takesIn K (.builtin "object.__class__") = some true) && (decide (PySem.W.mroIn K C (.type "object") = some true) && (decide (PySem.W.kitOne K (.ref C) (.ref C) = some true) && kTypes.all fun t => decide (PySem.W.kitOne K (.type t) (.ref C) = some false))))))
theorem isB_ok (h : isB K C = true) : IsC K C := by
  obtain ⟨h0, h⟩ := ba h
  obtain ⟨h1, h⟩ := ba h
  obtain ⟨h2, h⟩ := ba h
  obtain ⟨h3, h⟩ := ba h
  obtain ⟨h4, h⟩ := ba h
  obtain ⟨h5, h6⟩ := ba h
  exact ⟨clB_ok h0, eqO_ok h1, eqO_ok h2, of_decide_eq_true h3, of_decide_eq_true h4, of_decide_eq_true h5, fun d t e => of_decide_eq_true (List.all_eq_true.mp h6 t (tyD_in e))⟩
def oexB (K : PySem.W.Frag) (C : Addr) : Bool := (match K.lookup C with
  | some ⟨.type "type", _, .cls cd, sl⟩ => (match cd.mro, sl.toList with
    | .ref C' :: bm, [_, _, _, _, some (.builtin n), _] => C' == C && (n == "ValueError.__new__" && (!cd.hasDel && (cd.hasDict && PySem.HandSPX.refsVE bm)))
    | _, _ => false)
  | _ => false) && (eqO (PySem.W.findIn K (.ref C) "__setattr__") (some (some (.builtin "object.__setattr__"))) && (decide (PySem.W.subIn K (.ref C) (.type "BaseException") = some true) && (decide (PySem.W.typeIn K (.ref C) = some (.type "type")) && PySem.W.keepIn K (.ref C))))
theorem oexB_ok (h : oexB K C = true) : OexC K C := by
  obtain ⟨h1, h⟩ := ba h
  obtain ⟨h2, h⟩ := ba h
  obtain ⟨h3, h⟩ := ba h
  obtain ⟨h4, h5⟩ := ba h
  refine ⟨?_, eqO_ok h2, of_decide_eq_true h3, of_decide_eq_true h4, h5⟩
  clear h h2 h3 h4 h5
  split at h1
  · rename_i dd cd sl ho
    split at h1
    · rename_i C' bm k0 k1 k2 k3 n k5 hm hs
      obtain ⟨e1, h1⟩ := ba h1
      obtain ⟨e2, h1⟩ := ba h1
      obtain ⟨e3, h1⟩ := ba h1
      obtain ⟨e4, e5⟩ := ba h1
      have e1' := eq_of_beq e1
      have e2' := eq_of_beq e2
      subst e1' e2'
      obtain ⟨nm, bs, mro, ns, qn, hd, sn, sub, ab, col, del⟩ := cd
      simp only [Bool.not_eq_true'] at e3
      dsimp only at hm e4
      subst hm e3 e4
      have hsl : sl = #[k0, k1, k2, k3, some (.builtin "ValueError.__new__"), k5] := by
        obtain ⟨l⟩ := sl
        simp only at hs
        rw [hs]
      subst hsl
      exact ⟨nm, qn, ns, bs, bm, sn, sub, ab, col, dd, k0, k1, k2, k3, k5, ho, e5⟩
    · cases h1
  · cases h1
/-- the base class's __init__ is ValueError's -/
structure BaseX (K : PySem.W.Frag) (C : Addr) : Prop where
  cr : ClX.CRead K C (.type "type")
  ini : PySem.W.findCls K (.ref C) (.type "type") "__init__" = some (.val (.builtin "ValueError.__init__"))
def baseB (K : PySem.W.Frag) (C : Addr) : Bool := PySem.W.readsIn K C (.type "type") && (eqO (PySem.W.specialIn K (.ref C) "__getattribute__") (some (some (.builtin "type.__getattribute__"))) && (match PySem.W.findCls K (.ref C) (.type "type") "__init__" with
  | some (.val (.builtin n)) => decide (n = "ValueError.__init__")
  | _ => false))
theorem baseB_ok (h : baseB K C = true) : BaseX K C := by
  obtain ⟨h1, h⟩ := ba h
  obtain ⟨h2, h3⟩ := ba h
  refine ⟨⟨h1, eqO_ok h2⟩, ?_⟩
  split at h3
  · rename_i n e
    rw [e, of_decide_eq_true h3]
  · cases h3
def iniB (K : PySem.W.Frag) (C : Addr) : Bool := eqO (PySem.W.findIn K (.ref C) "__init__") (some (some (.ref (ma K C "__init__")))) && decide (PySem.W.typeIn K (.ref (ma K C "__init__")) = some (.type "function"))
/-- an own exception's __init__ as it stands -/
structure Initd (K : PySem.W.Frag) (mg : Str → Option Value) (x qual : Str) (st : Stmt) (ps : List Str) : Prop where
  ex : ∃ fI fd, mg x = some (.ref (ga K x)) ∧ OexC K (ga K x) ∧ PySem.W.findIn K (.ref (ga K x)) "__init__" = some (some (.ref fI)) ∧ PySem.W.typeIn K (.ref fI) = some (.type "function") ∧ Fun K "__init__" qual st fI fd ∧ Binds K fd ps []
theorem fun_of {x qual : Str} {st : Stmt} {f : Addr} {fd : FuncData} (F : FunD K x qual (defArgs st) (defBody st) (defScope st) [] [] f fd) : Fun K x qual st f fd := by
  obtain ⟨oc, od, dV, kV, doc, pm, an, cdv, ct, osl, rfl, lk, hcd, hD, hK⟩ := F.ex
  rcases hD with ⟨_, rfl⟩ | ⟨e, _⟩
  · exact ⟨⟨oc, od, kV, doc, pm, an, cdv, ct, osl, rfl, lk, hcd⟩, F.kp⟩
  · exact absurd rfl e
end
/-! ### the head's Hook: the objects at the first n addresses -/
def frY (n : Nat) (g : Addr → Option Obj) : PySem.W.Frag := frG g (List.range n)
abbrev AlY : Type := AlD × Bool
def obsY (n : Nat) (fa : List Fa) (fn : List DefD) (ex : PySem.W.Frag → Bool) (g : Addr → Option Obj) : AlY := (obsD fa fn (frY n g), ex (frY n g))
structure SaysY (fa : List Fa) (fn : List DefD) (ex : PySem.W.Frag → Bool) (K : PySem.W.Frag) : Prop where
  d : SaysD fa fn K
  more : ex K = true
def hookY (n : Nat) (fa : List Fa) (fn : List DefD) (ex : PySem.W.Frag → Bool) : PySem.W.Hook where
  α := AlY
  obs := fun s => obsY n fa fn ex s.heap.get?
  val := fun _ => (valD fn, true)
  says := fun _ h => ∃ K : PySem.W.Frag, K.In h ∧ SaysY fa fn ex K
  of := fun _ _ e => ⟨_, frG_in, ⟨congrArg (fun z : AlY => z.1) e, congrArg (fun z : AlY => z.2) e⟩⟩
  keeps := fun _ _ _ ⟨K, hK, c⟩ k => ⟨K, PySem.W.Frag.In.keeps hK k, c⟩
theorem obsY_eq {n : Nat} {fa : List Fa} {fn : List DefD} {ex : PySem.W.Frag → Bool} {g : Addr → Option Obj} {s : Shared} (h : ∀ a, g a = s.heap.get? a) : obsY n fa fn ex g = (hookY n fa fn ex).obs s := by
  have e : g = s.heap.get? := funext h
  rw [e] <;> rfl
/-- the run's equation in three parts, each run by itself (memory) -/
theorem run_join {σ α β : Type} {o : Option σ} {f1 : σ → α} {f2 : σ → β} {a : α} {b : β} {fa : List Fa} {fn : List DefD} {ex : PySem.W.Frag → Bool} {K : σ → PySem.W.Frag} {ob : σ → AlY} (hob : ∀ s, ob s = (obsD fa fn (K s), ex (K s)))
    (h1 : o.map (fun s => (f1 s, f2 s)) = some (a, b)) (h2 : o.map (fun s => (fa.all fun x => x.ok (K s)) && ex (K s)) = some true)
    (h3 : o.map (fun s => ((fn.all fun d => d.ok (K s)), fn.map fun d => fnW (K s) d.at_)) = some (true, fn.map DefD.val)) : o.map (fun s => (f1 s, f2 s, ob s)) = some (a, b, (valD fn, true)) := by
  cases o with
  | none => cases h1
  | some s =>
    simp only [Option.map_some, Option.some.injEq, Prod.mk.injEq] at h1 h2 h3 ⊢
    obtain ⟨e1, e2⟩ := ba h2
    refine ⟨h1.1, h1.2, ?_⟩
    rw [hob s]
    unfold obsD valD
    rw [e1, e2, h3.1, h3.2]
    rfl
/-! ### the law's own def -/
section
variable {P : Program} {w : World} {K : PySem.W.Frag} {mg : Str → Option Value} {base : Heap}
theorem okF {x : Str} {st : Stmt} {f : Addr} {fd : FuncData} {N ps : List Str} {k : Nat} {dsp : DSp} (Fu : Fun K x x st f fd) (S : FnScope N ps (defScope st)) (np : Nat) (len : ∀ as Pc Xc, dsp as Pc Xc → as.length = ps.length ∧ (cellsD as).length = np)
    (h : ∀ (f : Addr) (cdv : Value) (A : Around) (outer : List Env) (s : Shared) (H : Hp) (E : XK) (B : Base) (as : List Arg) (Pc : List CC → Arg → Prop) (Xc : List CC → Exn → Prop), dsp as Pc Xc → B.P0.length = np → Room k (A.deeper (envOfC x (defScope st) s.heap.objs.size f cdv)) →
        Takes (cxOf (L2.CX P w) P w K mg base N x (defScope st) f cdv A outer s H E) (wOf K B (pxOf np Xc)) →
        PassesOwn (model P w) (A.deeper (envOfC x (defScope st) s.heap.objs.size f cdv)) (envOfC x (defScope st) s.heap.objs.size f cdv) (cxOf (L2.CX P w) P w K mg base N x (defScope st) f cdv A outer s H E).xe →
        ∃ td, DSs (cxOf (L2.CX P w) P w K mg base N x (defScope st) f cdv A outer s H E) B (defBody st) td ∧ td (endsOf np Pc) (S0 N.length as)) : FnOk P w K mg base (L2.CX P w) (k + 1) f fd ps (spD K dsp) :=
  okD np Fu S len fun cdv A outer s H E B as Pc Xc d hB hr tk => h f cdv A outer s H E B as Pc Xc d hB hr tk (passes_of (X := cxOf (L2.CX P w) P w K mg base N x (defScope st) f cdv A outer s H E) rfl)
end
/-- the promise of a law: of the script, True -/
def d_law : DSp := fun as Pc _ => ∃ ns : List Int, ns.length ≤ 63 ∧ as = [.fr (.scr ns)] ∧ Pc [] (.fr (.bl true))
theorem binds_law {K : PySem.W.Frag} {x qual y : Str} {st : Stmt} {f : Addr} {fd : FuncData} (F : Fun K x qual st f fd)
    (h : ∀ (kV doc pm : Value) (an : Option Addr) (cdv ct : Value) (us : List Value), us.length = [y].length → bindArgs (PySem.W.fnOf x qual (defArgs st) (defBody st) (defScope st) .none kV doc pm an cdv ct) ⟨us, []⟩ = pure ([y].zip us)) (s : Shared) (u : Value) : BindsTo s fd ⟨[u], []⟩ [(y, u)] := by
  obtain ⟨oc, od, kV, doc, pm, an, cdv, ct, osl, rfl, lk, hcd⟩ := F.ex
  exact .of_eq (h kV doc pm an cdv ct [u] rfl)
/-- the end: the head's facts, and the law's own promise over every base -/
theorem walk_law {l : PySem.W.OpenLaw} {k : Nat} {q : Program} {loose : List Str} {XP : (Str → Option Value) → Heap → Prop} {YP : World → Heap → Prop} {d : DefRec} {x : Str}
    (hn : l.most = some 63) (hdf : d.params.defaults = []) (hr : Room k callerA)
    (F : ∀ (w : World) (mg : Str → Option Value) (fa : Addr) (h : Heap), YP w h → h.Ns mainGlobals mg → mg d.name = some (.ref fa) →
      ∃ (K : PySem.W.Frag) (fd : FuncData), K.In h ∧ (∀ (s : Shared) (u : Value), BindsTo s fd ⟨[u], []⟩ [(x, u)]) ∧ ∀ base : Heap, K.In base → base.Ns mainGlobals mg → FnOk l.prog w K mg base (L2.CX l.prog w) k fa fd [x] (spD K d_law)) :
    PySem.W.WalkO q loose XP YP l.row.toRowW d [] (fun f vs => PySem.call f vs) := by
  refine Att.attach_call hn hdf fun w s₀ s₁ mg mb fa o pm cd doc a vs ns G Y ho hd hcd hmg hobj hints hlen hg => ?_
  obtain ⟨K, fd, KX, hb, hF⟩ := F w mg fa _ Y G.T.g hmg
  refine law_call KX G.T.g G.T.b G.T.builtins G.T.nolimit hg hobj hints (Nat.le_trans hlen (by decide)) hr hF hb (fun H hO hS => ?_) fun H e s' c => ?_
  · refine ⟨[.fr (.scr ns)], H, [], fun outs r => r = .fr (.bl true), fun _ _ => False, Same.refl _, ⟨_, [], rfl, ⟨a, rfl, hS⟩, rfl, rfl⟩, List.nodup_nil, ⟨ns, hlen, rfl, rfl⟩, fun outs r F' H' v e _ _ rv => ?_, fun outs x F' H' cls dd z => z.elim⟩
    subst e
    exact rv
  · obtain ⟨a, B, H', cls, d, _, _, _, _, _, _, _, z⟩ := c
    exact z
end TD
/-! TD19: what is never reached; raise C(x); d.get(k, x). -/
namespace TD
open PySem PySem.Spec PyProof.Rows L2 He
section
variable {X : Cx} {B : Base} {a b c e o : Expr} {ta tb tc : DTE} {pos p pos' apos cpos : Pos}
/-- never reached: nothing is promised -/
def dNevS : DTS := fun _ _ => False
def dNevE : DTE := fun _ _ => False
def dNevT : DTT := fun _ _ => False
theorem dss_nev {sts : List Stmt} : DSs X B sts dNevS := ⟨fun pins s σ H D I ⟨S, P, α, F, R, p, _⟩ => p.elim⟩
theorem ds_nev {st : Stmt} : DSt X B st dNevS := ⟨fun pins s σ H D I ⟨S, P, α, F, R, p, _⟩ => p.elim⟩
theorem de_nev {e : Expr} : DE X B e dNevE := ⟨fun pins s σ H Q I ⟨S, P, α, F, R, p, _⟩ => p.elim⟩
theorem dt_nev {e : Expr} : DT X B e dNevT := ⟨fun pins s σ H Q I ⟨S, P, α, F, R, p, _⟩ => p.elim⟩
theorem dw_nev {e : Expr} : DW X B e dNevT := ⟨fun wh pins s σ H Q I ⟨S, P, α, F, R, p, _⟩ => p.elim⟩
/-! ### d.get(k, x) -/
def dGet2 (to ti tx : DTE) : DTE := fun S P => to S fun S1 x => (∃ ks ds, dicOf S1 x = some (ks, ds)) ∧ ti S1 fun S2 y => tx S2 fun S3 z => ∃ ks ds q k dz, dicOf S3 x = some (ks, ds) ∧ y = .fr q ∧ keyD q = some k ∧ z = .fr dz ∧ P S3 (.fr ((getD' ks ds k).getD dz))
theorem de_get2 (hu : X.A.units + 1 < cLine) (ho : DE X B o ta) (hi : DE X B a tb) (hx : DE X B b tc) (m : M2 X o "get" apos a b cpos) : DE X B (.Call (.Attribute o "get" apos) [a, b] [] cpos) (dGet2 ta tb tc) :=
  (pe_dget2 hu ho hi hx m).weak fun σ H Q ⟨S, P, α, F, R, p, q⟩ => ⟨S, _, α, F, R, p, fun S1 x α1 F1 H1 v ⟨⟨ks0, ds0, hd0⟩, p1⟩ g1 R1 i1 r1 => by
    obtain ⟨a0, vs0, rfl, h0, _, _⟩ := dic_at R1 r1 hd0
    refine ⟨a0, rfl, .inl ⟨_, .inl h0⟩, S1, _, α1, F1, R1, p1, fun S2 y α2 F2 H2 u p2 g2 R2 i2 r2 => ⟨S2, _, α2, F2, R2, p2, fun S3 z α3 F3 H3 w ⟨ks, ds, q', k, dz, hd, ey, hk, ez, p3⟩ g3 R3 _ r3 => ?_⟩⟩
    subst ey ez
    have e1 := keyD_rep hk (Rep.mono g3.sub _ _ r2)
    subst e1
    obtain ⟨a1, vs, ea, h1, l, rl⟩ := dic_at R3 (r1.grow (g2.trans g3) i1) hd
    have ea' := V.ref.inj ea
    subst ea'
    refine ⟨_, DGet.k h1, ?_⟩
    have := valV_rep (k := k) l rl
    cases hg : getD' ks ds k with
    | some d =>
      rw [hg] at this p3
      obtain ⟨w', hw, rw'⟩ := this
      rw [hw]
      exact q _ _ _ _ _ _ p3 ((g1.trans g2).trans g3) R3 trivial rw'
    | none =>
      rw [hg] at this p3
      have hn : valV (ks.zip vs) k = none := this
      rw [hn]
      exact q _ _ _ _ _ _ p3 ((g1.trans g2).trans g3) R3 trivial r3⟩
/-! ### raise C(x) -/
variable {x : Str} {C : Addr} {k : Nat} {ps : List Str} {PX : PXT} {e1 : Expr} {f : Str}
/-- the promise of an __init__ that stores its one parameter -/
def spX1 (K : PySem.W.Frag) (C : Addr) (f : Str) : Sp := fun vs H Q _ => ∃ a x, vs = [.ref a, x] ∧ OexC K C ∧ H a = some (exo a C none) ∧ ∀ dx, H dx = none → dx ≠ a → Q .non (upd (upd H dx (exd dx [(f, x)])) a (exo a C (some dx)))
def dRaise1 (C : Addr) (f : Str) (PX : PXT) (t : DTA) : DTS := fun _ S => t S fun S2 rs => ∃ d1, rs = [.fr d1] ∧ PX S2 ⟨C, [f], [d1]⟩
theorem ds_raise1 {t : DTA} (Ex : ExcOk X.prog X.w X.K X.mg X.base k x C ps (spX1 X.K C f)) (hr : Room (k + 1) X.A) (tk : Takes X (wOf X.K B PX)) (ha : DA X B [e1] t) (hg : Gl X x := by rfl) (hc : X.calm = true := by rfl) (hdb : (x == ("__debug__" : Str)) = false := by decide)
    (he : starEach [e1] X.env = (false, eval e1 X.env) :: starEach [] X.env := by rfl) (hpl : (backTo pos' (starEach [] X.env)).any (·.1) = false := by rfl) :
    DSt X B (.Raise (some (.Call (.Name x p) [e1] [] pos')) none pos) (dRaise1 C f PX t) := by
  obtain ⟨fI, fd, hm, T, iC, tI, hb, Fo⟩ := Ex.ex
  refine (ps_raise hc tk (pmk_ox T iC tI Fo hr hb passes0 hg hm ha hdb he hpl)).weak fun D σ H ⟨S, P, α, F, R, p, _⟩ => ?_
  refine ⟨S, _, α, F, R, p, fun S1 rs α1 F1 H1 vs ⟨d1, er, px⟩ g1 R1 _ rv => ?_⟩
  subst er
  obtain ⟨v, us, rfl, r1, rfl⟩ := rv
  refine ⟨by simp, fun a ha => ⟨a, v, rfl, T, upd_same, fun dx hdx hne => ⟨rfl, .inr ⟨dx, [(f, v)], ?_, ?_, ?_, ?_⟩⟩⟩⟩
  · exact upd_same
  · rw [upd_ne hne]; exact upd_same
  · rw [upd_ne hne] at hdx; exact hdx
  · have hdx1 : H1 dx = none := by rw [upd_ne hne] at hdx; exact hdx
    have eH : upd (del (upd (upd (upd H1 a (exo a C none)) dx (exd dx [(f, v)])) a (exo a C (some dx))) a) dx (.xd [(f, v)]) = upd H1 dx (.xd [(f, v)]) := funext fun b => by
      by_cases e : b = dx
      · rw [e, upd_same, upd_same]
      · rw [upd_ne e, upd_ne e]
        by_cases e2 : b = a
        · rw [e2, del_same, ha]
        · rw [del_ne e2, upd_ne e2, upd_ne e, upd_ne e2]
    rw [eH]
    obtain ⟨R2, sm⟩ := R1.newF (o := .xd [(f, v)]) hdx1
    exact ⟨S1, _, α1, _, px, R2, rfl, .inr ⟨dx, [v], _, rfl, upd_same, .one (Rep.mono sm _ _ r1), rfl, fun q => rfl⟩⟩
/-! ### tests of None -/
def isNX2 (neg : Bool) : D2 := fun x y S P => ∃ d, x = .fr d ∧ y = .fr .non ∧ P S (.fr (.bl (if neg then !isNon d else isNon d)))
theorem link_isN2 : Link2 X B (fun x y H Q => y = .non ∧ Q (.bl (decide (x = .non))) H) (isNX2 false) := by
  rintro x y S P α F σ H v u Q R rx ry _ _ ⟨d, rfl, rfl, p⟩ k
  have e := isNon_ok (show Rep X.K F d v from rx)
  refine ⟨ry, ?_⟩
  rw [e]
  exact k S _ α F H _ p (.refl _ _ _) R trivial rfl
theorem link_notN2 : Link2 X B (fun x y H Q => y = .non ∧ Q (.bl (!decide (x = .non))) H) (isNX2 true) := by
  rintro x y S P α F σ H v u Q R rx ry _ _ ⟨d, rfl, rfl, p⟩ k
  have e := isNon_ok (show Rep X.K F d v from rx)
  refine ⟨ry, ?_⟩
  rw [e]
  exact k S _ α F H _ p (.refl _ _ _) R trivial rfl
theorem dt_isN {j : Nat} {p' : Pos} (ha : DE X B a ta) : DT X B (.Compare a [.Is] [.Constant .none j p'] pos) (dB (dOp (isNX2 false) ta (dC .non))) := dt_cmp op_isN link_isN2 rfl ha de_non
theorem dt_notN {j : Nat} {p' : Pos} (ha : DE X B a ta) : DT X B (.Compare a [.IsNot] [.Constant .none j p'] pos) (dB (dOp (isNX2 true) ta (dC .non))) := dt_cmp op_notN link_notN2 rfl ha de_non
end
end TD
/-! ### properties: the getter walked as a def -/
namespace TD
open PySem PySem.Spec PyProof.Rows L2 He
/-- the getter of the property p.2 of the class p.1 -/
def pAd (K : PySem.W.Frag) (p : Str × Str) : Addr := match PySem.W.recIn K (ma K (ga K p.1) p.2) "property" with
  | some (.ref g :: _) => g
  | _ => 0
/-- a property: its class, its name, its getter's text -/
structure PrD where
  cls : Str
  name : Str
  qual : Str
  params : Arguments
  body : List Stmt
  scope : Scope
def fnP (K : PySem.W.Frag) (a : Addr) : FnW := match K.lookup a with
  | some ⟨_, _, .func fd, _⟩ => some (fd.name, fd.qualname, fd.params, fd.body, fd.scope, fd.globals, fd.closure, fd.builtins)
  | _ => none
def PrD.val (d : PrD) : FnW := some (d.name, d.qual, d.params, .stmts d.body, d.scope, mainGlobals, [], builtinsNs)
def PrD.ok (K : PySem.W.Frag) (d : PrD) : Bool := (eqO (PySem.W.findIn K (.ref (ga K d.cls)) d.name) (some (some (.ref (ma K (ga K d.cls) d.name)))) && (eqO (PySem.W.specialIn K (.ref (ma K (ga K d.cls) d.name)) "__get__") (some (some (.builtin "property.__get__"))) &&
  (decide (PySem.W.takesIn K (.ref (ma K (ga K d.cls) d.name)) = some true) && (match PySem.W.recIn K (ma K (ga K d.cls) d.name) "property" with
    | some (.ref _ :: _) => true
    | _ => false)))) && (PySem.W.keepIn K (.ref (pAd K (d.cls, d.name))) && (match K.lookup (pAd K (d.cls, d.name)) with
  | some ⟨_, _, .func fd, _⟩ => PySem.W.codeIn K fd.code d.qual && dflB K fd.defaults []
  | _ => false))
/-- a property of a class and its getter as it stands -/
structure Propd (K : PySem.W.Frag) (C : Addr) (f qual : Str) (st : Stmt) (ps : List Str) : Prop where
  ex : ∃ p g fd, PropOf K C f p g ∧ Fun K f qual st g fd ∧ Binds K fd ps []
theorem PrD.funD {K : PySem.W.Frag} {d : PrD} (e : fnP K (pAd K (d.cls, d.name)) = d.val) (c : d.ok K = true) : PropOf K (ga K d.cls) d.name (ma K (ga K d.cls) d.name) (pAd K (d.cls, d.name)) ∧ ∃ fd, FunD K d.name d.qual d.params d.body d.scope [] [] (pAd K (d.cls, d.name)) fd := by
  obtain ⟨c1, c2⟩ := ba c
  obtain ⟨a1, c1⟩ := ba c1
  obtain ⟨a2, c1⟩ := ba c1
  obtain ⟨a3, a4⟩ := ba c1
  refine ⟨⟨eqO_ok a1, eqO_ok a2, of_decide_eq_true a3, ?_⟩, ?_⟩
  · unfold pAd
    split at a4
    · rename_i g r hr
      exact ⟨r, by rw [hr]⟩
    · cases a4
  · obtain ⟨kp, c3⟩ := ba c2
    unfold fnP at e
    cases q : K.lookup (pAd K (d.cls, d.name)) with
    | none => rw [q] at c3; cases c3
    | some o =>
      obtain ⟨oc, od, dt, osl⟩ := o
      rw [q] at c3 e
      cases dt with
      | func fd =>
        obtain ⟨n1, n2, n3, n4, n5, n6, n7, n8, n9, n10, n11, n12, n13, n14, n15⟩ := fd
        have e2 : (some (n1, n2, n3, n4, n5, n6, n7, n15) : FnW) = some (d.name, d.qual, d.params, .stmts d.body, d.scope, mainGlobals, [], builtinsNs) := e
        simp only [Option.some.injEq, Prod.mk.injEq] at e2
        obtain ⟨h1, h2, h3, h4, h5, h6, h7, h8⟩ := e2
        subst h1 h2 h3 h4 h5 h6 h7 h8
        obtain ⟨k1, k2⟩ := ba (show (PySem.W.codeIn K n13 d.qual && dflB K n8 []) = true from c3)
        exact ⟨_, ⟨oc, od, n8, n9, n10, n11, n12, n13, n14, osl, rfl, q, k1, dflB_ok k2, .inl rfl⟩, kp⟩
      | _ => cases c3
section
variable {P : Program} {w : World} {K : PySem.W.Frag} {mg : Str → Option Value} {base : Heap}
structure PropOk (P : Program) (w : World) (K : PySem.W.Frag) (mg : Str → Option Value) (base : Heap) (k : Nat) (C : Addr) (f : Str) (dsp : DSp) : Prop where
  ex : ∃ p g fd, PropOf K C f p g ∧ Binds K fd ["self"] [] ∧ FnOk P w K mg base (L2.CX P w) k g fd ["self"] (spD K dsp)
theorem Propd.ok {C : Addr} {m qual : Str} {st : Stmt} {N : List Str} {k : Nat} {dsp : DSp} (Df : Propd K C m qual st ["self"]) (S : FnScope N ["self"] (defScope st)) (np : Nat) (len : ∀ as Pc Xc, dsp as Pc Xc → as.length = 1 ∧ (cellsD as).length = np)
    (h : ∀ (f : Addr) (cdv : Value) (A : Around) (outer : List Env) (s : Shared) (H : Hp) (E : XK) (B : Base) (as : List Arg) (Pc : List CC → Arg → Prop) (Xc : List CC → Exn → Prop), dsp as Pc Xc → B.P0.length = np → Room k (A.deeper (envOfC qual (defScope st) s.heap.objs.size f cdv)) →
        Takes (cxOf (L2.CX P w) P w K mg base N qual (defScope st) f cdv A outer s H E) (wOf K B (pxOf np Xc)) →
        PassesOwn (model P w) (A.deeper (envOfC qual (defScope st) s.heap.objs.size f cdv)) (envOfC qual (defScope st) s.heap.objs.size f cdv) (cxOf (L2.CX P w) P w K mg base N qual (defScope st) f cdv A outer s H E).xe →
        ∃ td, DSs (cxOf (L2.CX P w) P w K mg base N qual (defScope st) f cdv A outer s H E) B (defBody st) td ∧ td (endsOf np Pc) (S0 N.length as)) : PropOk P w K mg base (k + 1) C m dsp := by
  obtain ⟨p, f, fd, e, Fu, b⟩ := Df.ex
  exact ⟨p, f, fd, e, b, okD np Fu S len fun cdv A outer s H E B as Pc Xc d hB hr tk => h f cdv A outer s H E B as Pc Xc d hB hr tk (passes_of (X := cxOf (L2.CX P w) P w K mg base N qual (defScope st) f cdv A outer s H E) rfl)⟩
end
section
variable {X : Cx} {B : Base} {o : Expr} {ta : DTE} {pos : Pos} {f : Str} {k : Nat} {dsp : DSp} {C : Addr}
/-- o.f, f a property -/
def dPropM (C : Addr) (dsp : DSp) (ta : DTE) : DTE := fun S P => ta S fun S1 x => (∃ ns ds, insOf S1 x = some (C, ns, ds)) ∧ callD dsp (fun _ _ => False) [x] S1 P
theorem de_propM (M : PropOk X.prog X.w X.K X.mg X.base k C f dsp) (c : Cls X.K C) (hr : Room (k + 1) X.A) (ho : DE X B o ta) (hab : attributeBase o f X.env (eval o X.env) = eval o X.env := by rfl) : DE X B (.Attribute o f pos) (dPropM C dsp ta) := by
  obtain ⟨p, g, fd, hp, hb, Fo⟩ := M.ex
  refine (pe_prop (dvs := []) (ds := []) (E := fun _ _ _ => False) ho c hp Fo hr hb .nil passes0 hab).weak ?_
  rintro σ H Q ⟨S, P, α, F, R, p, q⟩
  refine ⟨S, _, α, F, R, p, fun S1 x α1 F1 H1 v ⟨⟨ns, ds, ei⟩, p1⟩ g1 R1 i1 rv => ?_⟩
  obtain ⟨a, dx, vs, rfl, h1, l, rl⟩ := ins_at R1 rv ei
  refine ⟨a, dx, _, rfl, h1, ?_⟩
  refine spD_mono (call_core (PX := fun _ _ => False) (rs := [x]) R1 ⟨_, _, rfl, rv, rfl⟩ p1 fun S' r α' F' H' v p g => q S' r α' F' H' v p (g1.trans g)) fun c d H h => ?_
  obtain ⟨_, _, _, _, z, _⟩ := h
  exact z
end
/-! ### the head's Hook with properties -/
abbrev AlP : Type := AlY × (Bool × List FnW)
def obsP (n : Nat) (fa : List Fa) (fn : List DefD) (pn : List PrD) (ex : PySem.W.Frag → Bool) (g : Addr → Option Obj) : AlP := (obsY n fa fn ex g, ((pn.all fun d => d.ok (frY n g)), pn.map fun d => fnP (frY n g) (pAd (frY n g) (d.cls, d.name))))
structure SaysP (fa : List Fa) (fn : List DefD) (pn : List PrD) (ex : PySem.W.Frag → Bool) (K : PySem.W.Frag) : Prop where
  y : SaysY fa fn ex K
  pr : ∀ (i : Nat) {d : PrD}, pn[i]? = some d → fnP K (pAd K (d.cls, d.name)) = d.val ∧ d.ok K = true
theorem saysP_of {fa : List Fa} {fn : List DefD} {pn : List PrD} {ex : PySem.W.Frag → Bool} {K : PySem.W.Frag} (e1 : (obsD fa fn K, ex K) = (valD fn, true)) (e2 : (pn.all fun d => d.ok K) = true) (e3 : (pn.map fun d => fnP K (pAd K (d.cls, d.name))) = pn.map PrD.val) : SaysP fa fn pn ex K := by
  refine ⟨⟨congrArg (fun z : AlY => z.1) e1, congrArg (fun z : AlY => z.2) e1⟩, fun i d h => ?_⟩
  have e4 : (pn.map fun d => fnP K (pAd K (d.cls, d.name)))[i]? = (pn.map PrD.val)[i]? := by rw [e3]
  rw [List.getElem?_map, List.getElem?_map, h] at e4
  exact ⟨Option.some.inj e4, List.all_eq_true.mp e2 d (List.mem_of_getElem? h)⟩
def hookP (n : Nat) (fa : List Fa) (fn : List DefD) (pn : List PrD) (ex : PySem.W.Frag → Bool) : PySem.W.Hook where
  α := AlP
  obs := fun s => obsP n fa fn pn ex s.heap.get?
  val := fun _ => ((valD fn, true), (true, pn.map PrD.val))
  says := fun _ h => ∃ K : PySem.W.Frag, K.In h ∧ SaysP fa fn pn ex K
  of := fun _ _ e => ⟨_, frG_in, saysP_of (congrArg (fun z : AlP => z.1) e) (congrArg (fun z : AlP => z.2.1) e) (congrArg (fun z : AlP => z.2.2) e)⟩
  keeps := fun _ _ _ ⟨K, hK, c⟩ k => ⟨K, PySem.W.Frag.In.keeps hK k, c⟩
theorem obsP_eq {n : Nat} {fa : List Fa} {fn : List DefD} {pn : List PrD} {ex : PySem.W.Frag → Bool} {g : Addr → Option Obj} {s : Shared} (h : ∀ a, g a = s.heap.get? a) : obsP n fa fn pn ex g = (hookP n fa fn pn ex).obs s := by
  have e : g = s.heap.get? := funext h
  rw [e] <;> rfl
theorem run_joinP {σ α β : Type} {o : Option σ} {f1 : σ → α} {f2 : σ → β} {a : α} {b : β} {fa : List Fa} {fn : List DefD} {pn : List PrD} {ex : PySem.W.Frag → Bool} {K : σ → PySem.W.Frag} {ob : σ → AlP}
    (hob : ∀ s, ob s = ((obsD fa fn (K s), ex (K s)), ((pn.all fun d => d.ok (K s)), pn.map fun d => fnP (K s) (pAd (K s) (d.cls, d.name)))))
    (h1 : o.map (fun s => (f1 s, f2 s)) = some (a, b)) (h2 : o.map (fun s => (fa.all fun x => x.ok (K s)) && ex (K s)) = some true)
    (h3 : o.map (fun s => ((fn.all fun d => d.ok (K s)), fn.map fun d => fnW (K s) d.at_)) = some (true, fn.map DefD.val))
    (h4 : o.map (fun s => ((pn.all fun d => d.ok (K s)), pn.map fun d => fnP (K s) (pAd (K s) (d.cls, d.name)))) = some (true, pn.map PrD.val)) : o.map (fun s => (f1 s, f2 s, ob s)) = some (a, b, ((valD fn, true), (true, pn.map PrD.val))) := by
  cases o with
  | none => cases h1
  | some s =>
    simp only [Option.map_some, Option.some.injEq, Prod.mk.injEq] at h1 h2 h3 h4 ⊢
    obtain ⟨e1, e2⟩ := ba h2
    refine ⟨h1.1, h1.2, ?_⟩
    rw [hob s]
    unfold obsD valD
    rw [e1, e2, h3.1, h3.2, h4.1, h4.2]
    rfl
end TD
/-! TD20: sorted(set(xs)). -/
namespace SetG
open PySem PySem.Spec PyProof.Rows L2
/-- a set as it is made -/
def newSet (w : World) : Obj := { cls := .type "set", dict := none, data := .set #[] 0 (.fresh 0 0 (!w.params.followText "set-order")) }
section
variable {P : Program} {w : World} {A : Around} {E : Value → Shared → Prop} {s : Shared} {l : Addr} {items : Array Value}
/-- set(xs), xs a list or a tuple: what its loop does is left to `loop` -/
theorem call_set_gen (tup : Bool) {Fin : Heap → Prop} {Q : Value → Shared → Prop} (hh : A.handled = none) (hl : if tup = true then s.heap.IsTuple l items else s.heap.IsList l items)
    (loop : ∀ (It : Addr) (B : Around) (s1 : Shared) (R : Result → Shared → Prop), It = s.heap.objs.size + 1 → B.handled = none → B.units ≤ A.units + 2 →
      (∃ (o : Obj), s1 = { s with heap := (s.heap.push (newSet w)).push o } ∧ if tup = true then (o = { cls := .type "tuple_iterator", data := .fields #[.ref l, .int 0 0] } ∧ s1.heap.IsTuple l items) else (o = { cls := .type "list_iterator", data := .fields #[.ref l, .int 0 0] } ∧ s1.heap.IsList l items)) →
      (∀ (h' : Heap) (tk : Nat), Fin h' → R (.ok (.ret .none)) { s with heap := h', toks := tk }) → codeAny (model P w) B (.builtin "set.update.loop" ⟨[.ref s.heap.objs.size, .ref It], []⟩) R s1)
    (h : ∀ (h' : Heap) (tk : Nat), Fin h' → Q (.ref s.heap.objs.size) { s with heap := h', toks := tk }) : wpAny (model P w) A (call (.type "set") [.ref l]) Q E s := by
  obtain ⟨c, tl, hmro⟩ := F.called_set.mro
  obtain ⟨hmade, hsub⟩ := And.intro F.called_set.made F.called_set.sub
  refine wpAny_call (codeAny_of_tree (?_ : wpAny _ _ (callAny (.type "set") _) _ _ _))
  refine wpAny_pure ⟨Code.quiet_builtin _ (by decide +kernel), (codeAny_builtin F.entry_type_call (?_))⟩
  rw [Around.under_plain (weight_type_call_type "set" [Value.ref l] []) rfl]
  obtain ⟨h1, h2⟩ := And.intro F.called_set.notType F.called_set.canCreate
  have hct := F.typeCall_set_1 (Value.ref l)
  repeat (any_goals (first | wp_step | assumption))
  refine codeAny_mono (code_set_led1 (Value.ref l) (E := E) (Q₁ := fun ob t => ob = .ref s.heap.objs.size ∧ t = { s with heap := s.heap.push (newSet w) }) ⟨rfl, rfl⟩) fun r t hr => ?_
  rcases r with e | fl
  · exact hr
  cases fl with
  | ret ob =>
    obtain ⟨rfl, rfl⟩ := hr
    have hS : (s.heap.push (newSet w)).get? s.heap.objs.size = some (newSet w) := Heap.get?_push_size _ rfl
    have hT : Shared.TypeIs { s with heap := s.heap.push (newSet w) } (.ref s.heap.objs.size) "set" := ⟨_, hS, rfl⟩
    obtain ⟨hli, hbi⟩ := And.intro F.called_set.init.lookup (F.called_set.init.bind (Value.ref s.heap.objs.size))
    repeat (any_goals (first | wp_step | assumption))
    refine codeAny_mono (codeAny_call_builtin (R := wants (fun v t => v = .none ∧ ∃ h' tk, t = { s with heap := h', toks := tk } ∧ Fin h') E) F.called_set.init.plain F.entry_set_init (check_set_init_1 hT ?_)) fun v t hv => ?_
    · have hg : ∀ {o : Obj}, s.heap.get? l = some o → l < s.heap.objs.size := fun e => Heap.lt_size e
      cases tup with
      | true =>
        rw [if_pos rfl] at hl
        obtain ⟨⟨oc, od, dt, osl⟩, ho, hc, nl, hd⟩ := hl
        dsimp only at hc hd
        subst hc hd
        have hL : (s.heap.push (newSet w)).get? l = some ⟨.type "tuple", od, .seq items nl, osl⟩ := Heap.get?_push_of_some _ ho
        have q1 := F.sub_tuple_set
        have q2 := F.sub_tuple_frozenset
        have q3 : (Value.type "tuple" == Value.type "dict") = false := by decide
        have hT2 : (s.heap.push (newSet w)).IsTuple l items := ⟨_, hL, rfl, nl, rfl⟩
        unfold Builtin.«set.__init__» noKeywords Builtin.Frozenset.updateFrom
        generalize hPI : pyIter = PI
        wp_walk
        subst hPI
        refine wpAny_pyIter_tuple hT2 (wpAny_bind (wpAny_runValue ?_))
        refine loop _ A.in1.in1 _ _ (Heap.size_push ..) (by simp [hh]) (Nat.le_refl _) ⟨{ cls := .type "tuple_iterator", data := .fields #[.ref l, .int 0 0] }, rfl, ?_⟩ fun h' tk hf => ?_
        · rw [if_pos rfl]
          exact ⟨rfl, hT2.push _⟩
        · show wpAny _ _ _ _ _ _
          refine wpAny_pure (show wpAny _ _ (ret Value.none) _ _ _ from ?_)
          exact wpAny_pure ⟨rfl, h', tk, rfl, hf⟩
      | false =>
        rw [if_neg Bool.false_ne_true] at hl
        obtain ⟨⟨oc, od, dt, osl⟩, ho, hc, nl, hd⟩ := hl
        dsimp only at hc hd
        subst hc hd
        have hL : (s.heap.push (newSet w)).get? l = some ⟨.type "list", od, .seq items nl, osl⟩ := Heap.get?_push_of_some _ ho
        have q1 := F.sub_list_set
        have q2 := F.sub_list_frozenset
        have q3 : (Value.type "list" == Value.type "dict") = false := by decide
        have hT2 : (s.heap.push (newSet w)).IsList l items := ⟨_, hL, rfl, nl, rfl⟩
        unfold Builtin.«set.__init__» noKeywords Builtin.Frozenset.updateFrom
        generalize hPI : pyIter = PI
        wp_walk
        subst hPI
        refine wpAny_pyIter_list hT2 (wpAny_bind (wpAny_runValue ?_))
        refine loop _ A.in1.in1 _ _ (Heap.size_push ..) (by simp [hh]) (Nat.le_refl _) ⟨{ cls := .type "list_iterator", data := .fields #[.ref l, .int 0 0] }, rfl, ?_⟩ fun h' tk hf => ?_
        · rw [if_neg Bool.false_ne_true]
          exact ⟨rfl, hT2.push _⟩
        · show wpAny _ _ _ _ _ _
          refine wpAny_pure (show wpAny _ _ (ret Value.none) _ _ _ from ?_)
          exact wpAny_pure ⟨rfl, h', tk, rfl, hf⟩
    · rcases v with e | fl
      · exact hv
      cases fl with
      | ret v =>
        obtain ⟨rfl, h', tk, rfl, hf⟩ := hv
        repeat (any_goals (first | wp_step | assumption))
        exact h h' tk hf
      | _ => exact hv
  | _ => exact hr
end
end SetG
/-! TD21: sorted(set(xs)), by data. -/
namespace SetG
open PySem PySem.Spec PyProof.Rows L2
section
variable {P : Program} {w : World} {A : Around} {E : Value → Shared → Prop} {s : Shared} {l : Addr} {items : Array Value}
theorem none_at {h : Heap} {b : Addr} (hb : h.objs.size ≤ b) : h.get? b = none := by
  cases q : h.get? b with
  | none => rfl
  | some o => exact absurd (Nat.lt_of_lt_of_le (Heap.lt_size q) hb) (Nat.lt_irrefl _)
/-- set(t), t a tuple of tuples of ints -/
theorem set_tt (ks : List (Addr × List Int)) {Q : Value → Shared → Prop} (hh : A.handled = none) (hl : s.heap.IsTuple l items) (hit : items.toList = ks.map fun p => Value.ref p.1) (hk : ∀ p ∈ ks, IsT P w s.heap p.2 p.1) (few : ks.length < 64) (hu : A.units + 3 < cLine)
    (h : ∀ (h' : Heap) (tk : Nat) L es ep t, SetTR P w h' s.heap.objs.size L es ep t → Got ks ks.length L → (∀ b o, s.heap.get? b = some o → h'.get? b = some o) → Q (.ref s.heap.objs.size) { s with heap := h', toks := tk }) :
    wpAny (model P w) A (call (.type "set") [.ref l]) Q E s := by
  have hn : items.size = ks.length := by
    have q := congrArg List.length hit
    rwa [Array.length_toList, List.length_map] at q
  obtain ⟨ol, hol, _⟩ := id hl
  have hlt : l < s.heap.objs.size := Heap.lt_size hol
  refine call_set_gen true (Fin := fun h' => ∃ L es ep t, SetTR P w h' s.heap.objs.size L es ep t ∧ Got ks ks.length L ∧ ∀ b o, s.heap.get? b = some o → h'.get? b = some o) hh hl ?_ (fun h' tk ⟨L, es, ep, t, a, b, c⟩ => h h' tk L es ep t a b c)
  rintro It B s1 R rfl hB hU ⟨o, rfl, ho⟩ fin
  rw [if_pos rfl] at ho
  obtain ⟨rfl, hT⟩ := ho
  have hS : (s.heap.push (newSet w)).get? s.heap.objs.size = some (newSet w) := Heap.get?_push_size _ rfl
  have hz : (s.heap.push (newSet w)).objs.size = s.heap.objs.size + 1 := Heap.size_push ..
  have hI : ((s.heap.push (newSet w)).push { cls := .type "tuple_iterator", data := .fields #[.ref l, .int 0 0] }).get? (s.heap.objs.size + 1) = some { cls := .type "tuple_iterator", data := .fields #[.ref l, .int 0 0] } := by
    rw [← hz]
    exact Heap.get?_push_size _ rfl
  have hv : ∀ (i : Nat) (v : Value), items[i]? = some v → ∃ p, ks[i]? = some p ∧ v = .ref p.1 := fun i v e => by
    have q : items.toList[i]? = some v := by rw [Array.getElem?_toList]; exact e
    rw [hit, List.getElem?_map] at q
    cases z : ks[i]? with
    | none => rw [z] at q; cases q
    | some p => rw [z] at q; exact ⟨p, rfl, (Option.some.inj q).symm⟩
  have hSf : s.heap.objs.size ∉ [s.heap.objs.size + 1, l] := by
    simp only [List.mem_cons, List.not_mem_nil, or_false, not_or]
    exact ⟨Nat.ne_of_lt (Nat.lt_succ_self _), Nat.ne_of_gt hlt⟩
  refine set_update_tups ((Walks.tuple (by simp [hB]) _ l (Nat.ne_of_lt (Nat.lt_succ_of_lt hlt) : l ≠ s.heap.objs.size + 1) items).toS) s.heap.objs.size hSf ks hn few hv s.heap hk (none_at (Nat.le_refl _)) (fun b hb => none_at (by rw [List.mem_singleton.mp hb]; omega)) (by show B.units + 1 < cLine; omega)
    (items.size - 0) 0 _ (by omega) (Nat.zero_le _) ⟨⟨_, hI, rfl, rfl⟩, hT⟩ (fun b o e => Heap.get?_push_of_some _ (Heap.get?_push_of_some _ e)) ⟨[], #[], 0, _, setTR_fresh (Heap.get?_push_of_some _ hS), Got.zero ks⟩ ?_
  intro s' L es ep t hm hS' g' hkp
  obtain ⟨h', g2, d', tk', os'⟩ := s'
  obtain ⟨e1, e2, e3⟩ : g2 = s.gens ∧ d' = s.drawn ∧ os' = s.os := ⟨hm.gens, hm.drawn, hm.os⟩
  subst e1 e2 e3
  rw [hn] at g'
  exact fin h' tk' ⟨L, es, ep, t, hS', g', hkp⟩
/-- set(xs), xs a list of ints -/
theorem set_li (ns : List Int) {Q : Value → Shared → Prop} (hh : A.handled = none) (hl : s.heap.IsList l items) (hit : IntsAre items.toList ns) (hb : ns.length + 1 < scanBound)
    (h : ∀ (h' : Heap) (tk c : Nat), SetR w h' s.heap.objs.size (fun j => decide (j ∈ ns)) c → c ≤ ns.length → (∀ b o, s.heap.get? b = some o → h'.get? b = some o) → Q (.ref s.heap.objs.size) { s with heap := h', toks := tk }) :
    wpAny (model P w) A (call (.type "set") [.ref l]) Q E s := by
  have hn : items.size = ns.length := by
    have q := IntsAre.length hit
    rwa [Array.length_toList] at q
  obtain ⟨ol, hol, _⟩ := id hl
  have hlt : l < s.heap.objs.size := Heap.lt_size hol
  refine call_set_gen false (Fin := fun h' => ∃ c, SetR w h' s.heap.objs.size (fun j => decide (j ∈ ns)) c ∧ c ≤ ns.length ∧ ∀ b o, s.heap.get? b = some o → h'.get? b = some o) hh hl ?_ (fun h' tk ⟨c, a, b, d⟩ => h h' tk c a b d)
  rintro It B s1 R rfl hB hU ⟨o, rfl, ho⟩ fin
  rw [if_neg Bool.false_ne_true] at ho
  obtain ⟨rfl, hT⟩ := ho
  have hS : (s.heap.push (newSet w)).get? s.heap.objs.size = some (newSet w) := Heap.get?_push_size _ rfl
  have hz : (s.heap.push (newSet w)).objs.size = s.heap.objs.size + 1 := Heap.size_push ..
  have hI : ((s.heap.push (newSet w)).push { cls := .type "list_iterator", data := .fields #[.ref l, .int 0 0] }).get? (s.heap.objs.size + 1) = some { cls := .type "list_iterator", data := .fields #[.ref l, .int 0 0] } := by
    rw [← hz]
    exact Heap.get?_push_size _ rfl
  have hv : ∀ (i : Nat) (v : Value), items[i]? = some v → ∃ k t, ns[i]? = some k ∧ v = .int k t := fun i v e => by
    have hi : i < ns.length := by rw [← hn]; exact (Array.getElem?_eq_some_iff.mp e).1
    obtain ⟨t, e2⟩ := PyProof.Rows.IntsAre.int_at hit i v (by rw [Array.getElem?_toList]; exact e)
    exact ⟨ns[i], t, List.getElem?_eq_getElem hi, by rw [e2, List.getD_eq_getElem?_getD, List.getElem?_eq_getElem hi] <;> rfl⟩
  have hSf : s.heap.objs.size ∉ [s.heap.objs.size + 1, l] := by
    simp only [List.mem_cons, List.not_mem_nil, or_false, not_or]
    exact ⟨Nat.ne_of_lt (Nat.lt_succ_self _), Nat.ne_of_gt hlt⟩
  refine set_update_ints ((Walks.list (by simp [hB]) _ l (Nat.ne_of_lt (Nat.lt_succ_of_lt hlt) : l ≠ s.heap.objs.size + 1) items).toS) s.heap.objs.size hSf ns hn hb hv
    (items.size - 0) 0 _ (by omega) (Nat.zero_le _) ⟨⟨_, hI, rfl, rfl⟩, hT⟩ ⟨0, Nat.le_refl 0, setR_new_at (Heap.get?_push_of_some _ hS)⟩ ?_
  intro s' c' hm hc' hS'
  obtain ⟨h', g2, d', tk', os'⟩ := s'
  obtain ⟨e1, e2, e3⟩ : g2 = s.gens ∧ d' = s.drawn ∧ os' = s.os := ⟨hm.gens, hm.drawn, hm.os⟩
  subst e1 e2 e3
  rw [hn] at hc'
  refine fin h' tk' ⟨c', hS', hc', fun b o e => ?_⟩
  have hb0 : b < s.heap.objs.size := Heap.lt_size e
  refine hm.heap b o ?_ (Heap.get?_push_of_some _ (Heap.get?_push_of_some _ e))
  simp only [List.mem_cons, List.not_mem_nil, or_false, not_or]
  exact ⟨Nat.ne_of_lt hb0, Nat.ne_of_lt (Nat.lt_succ_of_lt hb0)⟩
end
end SetG
namespace L2
open PySem PySem.Spec PyProof.Rows
section
variable {X : Cx}
def rSetTT (K : PySem.W.Frag) (P : Program) (w : World) : List V → Hp → VK → Prop := fun xs H Q => ∃ (l : Addr) (ks : List (Addr × List Int)), xs = [V.ref l] ∧ SqT K H l (ks.map fun p => V.ref p.1) ∧ (∀ p ∈ ks, SqT K H p.1 (p.2.map V.int)) ∧ ks.length < 64 ∧
  ∀ a L, H a = none → (∀ p ∈ L, p ∈ ks) → (∀ p ∈ ks, p.2 ∈ L.map (·.2)) → Q (.ref a) (upd H a (SetTO P w a L))
theorem cr_setTT (hc : X.calm = true) (hu : X.A.units + 64 < cLine) : CallR X (.type "set") (rSetTT X.K X.prog X.w) := by
  intro pins s σ H xs us Q I r h
  obtain ⟨l, ks, rfl, hl, hk, few, q⟩ := h
  rw [Vals.ref1 r]
  obtain ⟨its, rv, pl, hz⟩ := I.tuple hl
  refine SetG.set_tt (P := X.prog) (w := X.w) ks (I.ok.hd hc) (show s.heap.IsTuple l its.toArray from pl) (by simpa using refs_of_vals rv) (fun p hp => I.isT (hk p hp)) few (by omega) fun h' tk L es ep t R g k => ?_
  exact ⟨.ref s.heap.objs.size, upd H s.heap.objs.size (SetTO X.prog X.w s.heap.objs.size L), I.laid (t' := tk) k (Nat.le_refl _) (setTO_new R.t0), rfl, q _ L (I.hok.fresh (Nat.le_refl _)) (fun p hp => List.mem_of_mem_take (g.sub p hp)) fun p hp => g.all p (by rw [List.take_length]; exact hp)⟩
def rSetLI (K : PySem.W.Frag) (w : World) : List V → Hp → VK → Prop := fun xs H Q => ∃ (l : Addr) (ns : List Int), xs = [V.ref l] ∧ SqL K H l (ns.map V.int) ∧ ns.length + 1 < scanBound ∧
  ∀ a c, H a = none → c ≤ ns.length → Q (.ref a) (upd H a (SetO w a (fun j => decide (j ∈ ns)) c))
theorem cr_setLI (hc : X.calm = true) : CallR X (.type "set") (rSetLI X.K X.w) := by
  intro pins s σ H xs us Q I r h
  obtain ⟨l, ns, rfl, hl, few, q⟩ := h
  rw [Vals.ref1 r]
  obtain ⟨its, rv, pl, hz⟩ := I.list hl
  refine SetG.set_li (P := X.prog) (w := X.w) ns (I.ok.hd hc) pl.isList (by simpa using ints_of_vals rv) few fun h' tk c R g k => ?_
  exact ⟨.ref s.heap.objs.size, upd H s.heap.objs.size (SetO X.w s.heap.objs.size (fun j => decide (j ∈ ns)) c), I.laid (t' := tk) k (Nat.le_refl _) (setO_new R), rfl, q _ c (I.hok.fresh (Nat.le_refl _)) g⟩
end
end L2
namespace TD
open PySem PySem.Spec PyProof.Rows L2
def adr : V → Addr
  | .ref t => t
  | _ => 0
def pq : List Int → Int × Int
  | [i, j] => (i, j)
  | _ => (0, 0)
/-- strictly before, as pairs -/
def LtP (p q : Int × Int) : Prop := p.1 < q.1 ∨ (p.1 = q.1 ∧ p.2 < q.2)
section
variable {X : Cx} {B : Base} {e : Expr} {ta : DTE} {p p2 pos pos2 : Pos}
/-- sorted(set(e)), e a tuple of small pairs or a list of ints -/
def dSS (ta : DTE) : DTE := fun S P => ta S fun S1 x =>
  (∃ ps : List (Int × Int), x = .fr (.tup (ps.map prD)) ∧ ps.length < 64 ∧ (∀ q ∈ ps, (0 ≤ q.1 ∧ q.1 < 64) ∧ 0 ≤ q.2 ∧ q.2 < 64) ∧ ∀ qs : List (Int × Int), qs.Pairwise LtP → (∀ q, q ∈ qs ↔ q ∈ ps) → P S1 (.fr (.lst (qs.map prD)))) ∨
  ∃ ns : List Int, lstOf S1 x = some (ns.map D.int) ∧ ns.length < 63 ∧ ∀ ms : List Int, ms.Pairwise (· < ·) → (∀ k, k ∈ ms ↔ k ∈ ns) → P S1 (.fr (.lst (ms.map D.int)))
theorem repL_of {K : PySem.W.Frag} {F : Hp} {α : Type} {f : α → D} {g : α → V} : ∀ {xs : List α}, (∀ x ∈ xs, Rep K F (f x) (g x)) → RepL K F (xs.map f) (xs.map g)
  | [], _ => rfl
  | x :: xs, h => ⟨_, _, rfl, h x List.mem_cons_self, repL_of fun y hy => h y (List.mem_cons_of_mem _ hy)⟩
theorem repL_int {K : PySem.W.Frag} {F : Hp} : ∀ {ns : List Int} {vs : List V}, RepL K F (ns.map D.int) vs → vs = ns.map V.int
  | [], _, h => h
  | n :: ns, _, h => by
    obtain ⟨v, r, rfl, h1, h2⟩ := h
    cases (show v = .int n from h1)
    rw [List.map_cons, repL_int h2]
theorem de_ss (hm : X.mg "sorted" = none) (hm2 : X.mg "set" = none) (hu : X.A.units + 64 < cLine) (h : DE X B e ta) (hc : X.calm = true := by rfl) (hg : Gl X "sorted" := by rfl) (hg2 : Gl X "set" := by rfl)
    (hs1 : starEach [e] X.env = (false, eval e X.env) :: starEach [] X.env := by rfl) (hp1 : (backTo pos2 (starEach [] X.env)).any (·.1) = false := by rfl)
    (hs2 : starEach [.Call (.Name "set" p2) [e] [] pos2] X.env = (false, eval (.Call (.Name "set" p2) [e] [] pos2) X.env) :: starEach [] X.env := by rfl) (hp2 : (backTo pos (starEach [] X.env)).any (·.1) = false := by rfl) :
    DE X B (.Call (.Name "sorted" p) [.Call (.Name "set" p2) [e] [] pos2] [] pos) (dSS ta) := by
  have inner := pe_callTy (x := "set") (p := p2) ((cr_setTT hc hu).or (cr_setLI hc)) hg2 hm2 (by decide +kernel) (pa_cons h pa_nil hs1) (by decide) (by decide) hs1 hp1
  refine (pe_callB (x := "sorted") (p := p) ((cr_sortedT hc).or (cr_sortedSet hc)) hg hm (by decide +kernel) (pa_cons inner pa_nil hs2) (by decide) (by decide) hs2 hp2).weak ?_
  rintro σ H Q ⟨S, P, α, F, R, p, q⟩
  refine ⟨S, _, α, F, R, p, fun S1 x α1 F1 H1 v p1 g1 R1 i1 r1 => ?_⟩
  rcases p1 with ⟨ps, rfl, hl, hb, k⟩ | ⟨ns, hx, hl, k⟩
  · obtain ⟨a, vs, o, rfl, ha, hpl, rl⟩ := r1
    obtain ⟨k1, k2⟩ := prs_rep rl
    have hv : ∀ u ∈ vs, ∃ t o, u = .ref t ∧ F1 t = some (.frz o (.tup [.int (kOf F1 u).1, .int (kOf F1 u).2])) := fun u hu => (kOf_rep (k2 u hu)).2
    refine .inl ⟨a, vs.map fun u => (adr u, [(kOf F1 u).1, (kOf F1 u).2]), rfl, ?_, ?_, ?_, fun sa L hn sub all => ?_⟩
    · have e1 : (vs.map fun u => (adr u, [(kOf F1 u).1, (kOf F1 u).2])).map (fun p => V.ref p.1) = vs := by
        rw [List.map_map]
        conv => rhs; rw [← List.map_id vs]
        refine List.map_congr_left fun u hu => ?_
        obtain ⟨t, o, rfl, _⟩ := hv u hu
        rfl
      rw [e1]
      exact sqt_frz (R1.sub _ _ ha)
    · intro z hz
      obtain ⟨u, hu, rfl⟩ := List.mem_map.mp hz
      obtain ⟨t, o, e2, ht⟩ := hv u hu
      have : adr u = t := by rw [e2]; rfl
      show SqT X.K H1 (adr u) [.int (kOf F1 u).1, .int (kOf F1 u).2]
      rw [this]
      exact sqt_frz (R1.sub _ _ ht)
    · rw [List.length_map, ← List.length_map (f := kOf F1), k1]; exact hl
    · have R2 := R1.junk (o := SetTO X.prog X.w sa L) hn
      have hL : ∀ z ∈ L, ∃ u ∈ vs, z = (adr u, [(kOf F1 u).1, (kOf F1 u).2]) := fun z hz => by
        obtain ⟨u, hu, e⟩ := List.mem_map.mp (sub z hz)
        exact ⟨u, hu, e.symm⟩
      have hb' : ∀ u ∈ vs, (0 ≤ (kOf F1 u).1 ∧ (kOf F1 u).1 < 64) ∧ 0 ≤ (kOf F1 u).2 ∧ (kOf F1 u).2 < 64 := fun u hu => hb _ (by rw [← k1]; exact List.mem_map_of_mem hu)
      refine .inl ⟨sa, L, 2, 64, rfl, upd_same, ?_, by decide, ?_, fun L' p' perm nd few pw hn' => ?_⟩
      · intro z hz
        obtain ⟨u, hu, rfl⟩ := hL z hz
        obtain ⟨t, o, e2, ht⟩ := hv u hu
        have : adr u = t := by rw [e2]; rfl
        show SqT X.K _ (adr u) [.int (kOf F1 u).1, .int (kOf F1 u).2]
        rw [this]
        exact sqt_frz (R2.sub _ _ ht)
      · intro z hz
        obtain ⟨u, hu, rfl⟩ := hL z hz
        refine ⟨rfl, ?_⟩
        have := hb' u hu
        intro x hx
        rcases List.mem_cons.mp hx with rfl | hx
        · exact this.1
        · rw [List.mem_singleton.mp hx]; exact this.2
      · have hL' : ∀ z ∈ L', ∃ u ∈ vs, z = (adr u, [(kOf F1 u).1, (kOf F1 u).2]) := fun z hz => hL z (perm.mem_iff.mp hz)
        have R3 := R2.newF (o := .lst (L'.map fun q => V.ref q.1)) hn'
        obtain ⟨R4, sm⟩ := R3
        have e1 : L'.map (fun z => prD (pq z.2)) = (L'.map fun z => pq z.2).map prD := by rw [List.map_map]; rfl
        refine q S1 _ α1 _ _ _ (k (L'.map fun z => pq z.2) ?_ fun z => ⟨fun hz => ?_, fun hz => ?_⟩) (g1.trans ⟨sm, Nat.le_refl _, fun _ _ => rfl⟩) R4 trivial ⟨p', _, rfl, upd_same, ?_⟩
        · rw [List.pairwise_map]
          have both := List.Pairwise.and pw (List.pairwise_map.mp nd)
          refine List.Pairwise.imp_of_mem (fun {x y} hx hy hxy => ?_) both
          obtain ⟨u, hu, rfl⟩ := hL' x hx
          obtain ⟨u', hu', rfl⟩ := hL' y hy
          exact pair_lt hxy.1 hxy.2 (hb' u hu).1 (hb' u hu).2 (hb' u' hu').1 (hb' u' hu').2
        · obtain ⟨x, hx, rfl⟩ := List.mem_map.mp hz
          obtain ⟨u, hu, rfl⟩ := hL' x hx
          rw [← k1]
          exact List.mem_map.mpr ⟨u, hu, rfl⟩
        · rw [← k1] at hz
          obtain ⟨u, hu, rfl⟩ := List.mem_map.mp hz
          obtain ⟨y, hy, e⟩ := List.mem_map.mp (all _ (List.mem_map.mpr ⟨u, hu, rfl⟩))
          refine List.mem_map.mpr ⟨y, perm.mem_iff.mpr hy, ?_⟩
          rw [e]
          rfl
        · rw [← e1]
          refine RepL.mono sm _ _ (repL_of fun z hz => ?_)
          obtain ⟨u, hu, rfl⟩ := hL' z hz
          have h2 := k2 u hu
          obtain ⟨t, o, e2, ht⟩ := hv u hu
          have : V.ref (adr u) = u := by rw [e2]; rfl
          show Rep X.K F1 (prD ((kOf F1 u).1, (kOf F1 u).2)) (.ref (adr u))
          rw [this]
          exact h2
  · obtain ⟨a, ws, rfl, ha, rl⟩ := lst_at R1 r1 hx
    have ew := repL_int rl
    subst ew
    refine .inr ⟨a, ns, rfl, .of ha, by have : scanBound = 4096 := rfl; omega, fun sa c hn hc' => ?_⟩
    have R2 := R1.junk (o := SetO X.w sa (fun j => decide (j ∈ ns)) c) hn
    refine .inr ⟨sa, _, c, rfl, upd_same, by omega, fun ms p' hs hm' hl' hn' => ?_⟩
    obtain ⟨R4, sm⟩ := R2.newF (o := .lst (ms.map V.int)) hn'
    exact q S1 _ α1 _ _ _ (k ms hs fun j => by rw [hm' j, decide_eq_true_eq]) (g1.trans ⟨sm, Nat.le_refl _, fun _ _ => rfl⟩) R4 trivial ⟨p', _, rfl, upd_same, repL_ints _ _ ms⟩
end
end TD
/-! TD22: dicts compared, their values told as data. -/
namespace L2
open PySem PySem.Spec PyProof.Rows
inductive HitsD (K : PySem.W.Frag) (H : Hp) (ls : List (Key × V)) : List (Key × V) → Bool → Prop
  | nil : HitsD K H ls [] true
  | miss {k : Key} {v : V} {r : List (Key × V)} (h : valV ls k = none) : HitsD K H ls ((k, v) :: r) false
  | hit {k : Key} {v u : V} {d e : PyData} {r : List (Key × V)} {b : Bool} (h : valV ls k = some u) (hd : Dp K H v d) (he : Dp K H u e) (sd : SeqAt.shaped d = true) (se : SeqAt.shaped e = true) (t : HitsD K H ls r b) : HitsD K H ls ((k, v) :: r) (PyData.eqv d e && b)
section
variable {X : Cx} {pins : List (Addr × Obj)} {σ : St} {H : Hp} {s : Shared}
theorem hitsD_run (I : Inv X pins σ H s) {A : Around} (hu : A.units + 64 < cLine) {ls : List (Key × V)} {vb : List (Key × Value)} (rb : KV ls vb) {ks : List (Key × V)} {va : List (Key × Value)} (ra : KV ks va) :
    ∀ {b : Bool}, HitsD X.K H ls ks b → PySem.W.KeqHitsP X.prog X.w A s vb va b := by
  unfold KV at ra
  induction ra with
  | nil => intro b h; cases h; exact .nil
  | @cons p q ps qs h t ih =>
    intro b hb
    obtain ⟨h1, h2⟩ := h
    obtain ⟨key, v⟩ := q
    obtain ⟨k, pv⟩ := p
    have e1 : k = key := h1
    subst e1
    cases hb with
    | miss hn =>
      have rr : RelO (valV ls k) (valueAt vb k) := rb.val k
      rw [hn] at rr
      cases hy : valueAt vb k with
      | none => exact .miss hy
      | some y => rw [hy] at rr; exact (show False from rr).elim
    | hit hv hd he sd se ht =>
      have rr : RelO _ (valueAt vb k) := rb.val k
      rw [hv] at rr
      obtain ⟨y, hy, ry⟩ := rr.some_of
      obtain ⟨as, r1⟩ := Dp.reads I _ _ _ hd h2
      obtain ⟨bs, r2⟩ := Dp.reads I _ _ _ he ry
      exact .hit hy (SeqAt.eqAt_reads _ _ A s _ _ _ _ r1 r2 (SeqAt.canLay_of_shaped sd) (SeqAt.canLay_of_shaped se) (SeqAt.room_of_shaped sd hu)).eqP (ih ht)
/-- d == e, two dicts -/
def rEqDic (K : PySem.W.Frag) : R2 := fun x y H Q => ∃ a b ks ls r, x = .ref a ∧ y = .ref b ∧ H a = some (.dK ks) ∧ H b = some (.dK ls) ∧ HitsD K H ls ks r ∧ Q (.bl (decide (ks.length = ls.length) && r)) H
theorem op_eqDic (hu : X.A.units + 65 < cLine) : OpR X (compareOp .Eq) (rEqDic X.K) := by
  intro pins s σ H x y v u Q I rx ry h
  obtain ⟨a, b, ks, ls, r, rfl, rfl, ha, hb, hh, q⟩ := h
  obtain rfl : v = Value.ref a := rx
  obtain rfl : u = Value.ref b := ry
  obtain ⟨_, ya, va, ra, da⟩ := (show ObjOk X.prog X.w H s.heap a (.dK ks) from I.hok a _ ha)
  obtain ⟨_, yb, vb, rb, db⟩ := (show ObjOk X.prog X.w H s.heap b (.dK ls) from I.hok b _ hb)
  refine PySem.W.rcP_dicts (knd := mixKind X.prog X.w) (r := r) ya yb da db (by omega) (fun _ => hitsD_run I (by show X.A.units + 1 + 64 < cLine; omega) rb ra hh) _ _ ⟨.bl (decide (ks.length = ls.length) && r), H, I, ?_, q⟩
  have e1 : ks.length = va.length := ra.length
  have e2 : ls.length = vb.length := rb.length
  show Value.bool _ = .bool _
  rw [e1, e2]
  congr 2
end
end L2
namespace TD
open PySem PySem.Spec PyProof.Rows L2
def getP (ks : List Key) (ps : List PyData) (k : Key) : Option PyData := match ks, ps with
  | q :: ks, p :: ps => if q = k then some p else getP ks ps k
  | _, _ => none
def hitP (ls : List Key) (pe : List PyData) : List Key → List PyData → Bool
  | k :: ks, p :: ps => match getP ls pe k with
    | some e => PyData.eqv p e && hitP ls pe ks ps
    | none => false
  | _, _ => true
/-- are two dicts equal -/
def dicEqB (ks ls : List Key) (pd pe : List PyData) : Bool := decide (ks.length = ls.length) && hitP ls pe ks pd
section
variable {X : Cx} {B : Base} {a b : Expr} {ta tb : DTE} {pos : Pos}
def eqDicX : D2 := fun x y S P => ∃ ks ds ls es pd pe, dicOf S x = some (ks, ds) ∧ dicOf S y = some (ls, es) ∧ pyDs ds = some pd ∧ pyDs es = some pe ∧ (∀ p ∈ pd, SeqAt.shaped p = true) ∧ (∀ p ∈ pe, SeqAt.shaped p = true) ∧ P S (.fr (.bl (dicEqB ks ls pd pe)))
theorem pyDs_cons {d : D} {ds : List D} {pd : List PyData} (h : pyDs (d :: ds) = some pd) : ∃ p ps, pd = p :: ps ∧ pyD d = some p ∧ pyDs ds = some ps := by
  unfold pyDs at h
  split at h
  · rename_i x xs h1 h2
    cases h
    exact ⟨_, _, rfl, h1, h2⟩
  · cases h
theorem getP_val {K : PySem.W.Frag} {H : Hp} {k : Key} : ∀ {ls : List Key} {es : List D} {ws : List V} {pe : List PyData}, ls.length = es.length → RepL K H es ws → pyDs es = some pe → (∀ p ∈ pe, SeqAt.shaped p = true) →
    match getP ls pe k with
    | some e => ∃ u, valV (ls.zip ws) k = some u ∧ Dp K H u e ∧ SeqAt.shaped e = true
    | none => valV (ls.zip ws) k = none
  | [], [], _, _, _, _, _, _ => by unfold getP; rfl
  | [], _ :: _, _, _, l, _, _, _ => by simp at l
  | _ :: _, [], _, _, l, _, _, _ => by simp at l
  | q :: ls, d :: es, _, _, l, ⟨w, ws, rfl, rw', rr⟩, he, hs => by
    obtain ⟨p, ps, rfl, hp, hps⟩ := pyDs_cons he
    have ih := getP_val (K := K) (H := H) (k := k) (ls := ls) (by simpa using l) rr hps fun z hz => hs z (List.mem_cons_of_mem _ hz)
    unfold getP
    rw [List.zip_cons_cons]
    by_cases e : q = k
    · rw [if_pos e]
      refine ⟨w, ?_, pyD_dp _ _ _ rw' hp, hs _ List.mem_cons_self⟩
      unfold valV
      simp [e]
    · rw [if_neg e]
      have e2 : valV ((q, w) :: ls.zip ws) k = valV (ls.zip ws) k := by
        unfold valV
        simp [e]
      rw [e2]
      exact ih
theorem link_eqDic : Link2 X B (rEqDic X.K) eqDicX := by
  rintro x y S P α F σ H v u Q R rx ry _ _ ⟨ks, ds, ls, es, pd, pe, hx, hy, hd, he, sd, se, p⟩ k
  obtain ⟨a, vs, rfl, h1, l1, r1⟩ := dic_at R rx hx
  obtain ⟨b, ws, rfl, h2, l2, r2⟩ := dic_at R ry hy
  have r1' := RepL.mono R.sub _ _ r1
  have r2' := RepL.mono R.sub _ _ r2
  have hh : ∀ {ks : List Key} {ds : List D} {vs : List V} {pd : List PyData}, ks.length = ds.length → RepL X.K H ds vs → pyDs ds = some pd → (∀ p ∈ pd, SeqAt.shaped p = true) → HitsD X.K H (ls.zip ws) (ks.zip vs) (hitP ls pe ks pd) := by
    intro ks
    induction ks with
    | nil =>
      intro ds vs pd l r e s
      exact .nil
    | cons k ks ih =>
      intro ds vs pd l r e s
      cases ds with
      | nil => simp at l
      | cons d ds =>
        obtain ⟨v, r0, rfl, rv, rr⟩ := r
        obtain ⟨q, qs, rfl, hq, hqs⟩ := pyDs_cons e
        have ih' := ih (by simpa using l) rr hqs fun z hz => s z (List.mem_cons_of_mem _ hz)
        have g := getP_val (K := X.K) (H := H) (k := k) l2 r2' he se
        rw [List.zip_cons_cons]
        unfold hitP
        cases hg : getP ls pe k with
        | none =>
          rw [hg] at g
          exact .miss g
        | some e' =>
          rw [hg] at g
          obtain ⟨u, hu, du, su⟩ := g
          exact .hit hu (pyD_dp _ _ _ rv hq) du (s _ List.mem_cons_self) su ih'
  refine ⟨a, b, _, _, _, rfl, rfl, h1, h2, hh l1 r1' hd sd, ?_⟩
  have e1 : (ks.zip vs).length = ks.length := by rw [List.length_zip, r1.length, ← l1]; omega
  have e2 : (ls.zip ws).length = ls.length := by rw [List.length_zip, r2.length, ← l2]; omega
  rw [e1, e2]
  exact k S _ α F H _ p (.refl _ _ _) R trivial rfl
theorem de_eqDic (hu : X.A.units + 65 < cLine) (ha : DE X B a ta) (hb : DE X B b tb) : DE X B (.Compare a [.Eq] [b] pos) (dOp eqDicX ta tb) := de_cmp (op_eqDic hu) link_eqDic (nomark _) ha hb
theorem dt_eqDic (hu : X.A.units + 65 < cLine) (ha : DE X B a ta) (hb : DE X B b tb) : DT X B (.Compare a [.Eq] [b] pos) (dB (dOp eqDicX ta tb)) := dt_cmp (op_eqDic hu) link_eqDic (nomark _) ha hb
end
end TD
namespace Toss
open PySem PySem.Spec PyProof.Rows L2 TD He
def top (i : Nat) : Stmt := PySem.Challenge.pw_tossroads_k01_games_refused.main.body.getD i (.Pass ⟨0, 0, 0, 0⟩)
def inner (s : Stmt) (i : Nat) : Stmt := match s with
  | .ClassDef _ _ _ b _ _ _ _ _ _ _ => b.getD i (.Pass ⟨0, 0, 0, 0⟩)
  | _ => .Pass ⟨0, 0, 0, 0⟩
abbrev s_is_whole : Stmt := top 7
abbrev s_is_within : Stmt := top 8
abbrev s_is_pair : Stmt := top 14
abbrev s_come_to : Stmt := top 15
abbrev s_are_paths : Stmt := top 16
abbrev s_are_pays : Stmt := top 17
abbrev s_next_to : Stmt := top 19
abbrev s__law_taken : Stmt := top 21
abbrev s__law_paths : Stmt := top 22
abbrev s__law_drawn : Stmt := top 23
abbrev s__law_with : Stmt := top 24
abbrev s__law_made : Stmt := top 25
abbrev s__law_parts : Stmt := top 26
abbrev s__law_refused : Stmt := top 27
abbrev s__law_whole : Stmt := top 28
abbrev s__law_pair : Stmt := top 29
abbrev s__law_joined : Stmt := top 30
abbrev s__law_wrong : Stmt := top 31
abbrev s__law_odd : Stmt := top 32
abbrev s_law : Stmt := top 33
abbrev s_InvalidCoin___init__ : Stmt := inner (top 2) 0
abbrev s_InvalidPaths___init__ : Stmt := inner (top 3) 0
abbrev s_InvalidPays___init__ : Stmt := inner (top 4) 0
abbrev s_InvalidRoad___init__ : Stmt := inner (top 5) 0
abbrev s_Game___init__ : Stmt := inner (top 18) 0
abbrev s_Game_coin : Stmt := inner (top 18) 1
abbrev s_Game_paths : Stmt := inner (top 18) 2
abbrev s_Game_pays : Stmt := inner (top 18) 3
abbrev s_Game_road : Stmt := inner (top 18) 4
abbrev s_Game_places : Stmt := inner (top 18) 5
abbrev s_Game___eq__ : Stmt := inner (top 18) 6
theorem sc_is_whole : FnScope ["value"] ["value"] (defScope s_is_whole) := ⟨rfl, rfl, rfl, by decide +kernel, rfl, by decide +kernel, by decide +kernel⟩
theorem sc_is_within : FnScope ["value", "low", "high"] ["value", "low", "high"] (defScope s_is_within) := ⟨rfl, rfl, rfl, by decide +kernel, rfl, by decide +kernel, by decide +kernel⟩
theorem sc_is_pair : FnScope ["value", "low", "high", "least", "most"] ["value", "low", "high", "least", "most"] (defScope s_is_pair) := ⟨rfl, rfl, rfl, by decide +kernel, rfl, by decide +kernel, by decide +kernel⟩
theorem sc_come_to : FnScope ["paths", "begin", "found", "waiting", "here", "one", "other", "there"] ["paths", "begin"] (defScope s_come_to) := ⟨rfl, rfl, rfl, by decide +kernel, rfl, by decide +kernel, by decide +kernel⟩
theorem sc_are_paths : FnScope ["value", "pair", "one", "other"] ["value"] (defScope s_are_paths) := ⟨rfl, rfl, rfl, by decide +kernel, rfl, by decide +kernel, by decide +kernel⟩
theorem sc_are_pays : FnScope ["value", "places", "one", "other", "pair"] ["value", "places"] (defScope s_are_pays) := ⟨rfl, rfl, rfl, by decide +kernel, rfl, by decide +kernel, by decide +kernel⟩
theorem sc_next_to : FnScope ["paths", "door", "place", "found", "one", "other"] ["paths", "door", "place"] (defScope s_next_to) := ⟨rfl, rfl, rfl, by decide +kernel, rfl, by decide +kernel, by decide +kernel⟩
theorem sc__law_taken : FnScope ["_law_row", "_law_many", "_law_cell", "_law_found"] ["_law_row", "_law_many"] (defScope s__law_taken) := ⟨rfl, rfl, rfl, by decide +kernel, rfl, by decide +kernel, by decide +kernel⟩
theorem sc__law_paths : FnScope ["_law_row", "_law_many", "_law_found", "_law_place", "_law_turn", "_law_one", "_law_mate"] ["_law_row", "_law_many"] (defScope s__law_paths) := ⟨rfl, rfl, rfl, by decide +kernel, rfl, by decide +kernel, by decide +kernel⟩
theorem sc__law_drawn : FnScope ["_law_row", "_law_many", "_law_coin", "_law_door", "_law_pays", "_law_place", "_law_road"] ["_law_row"] (defScope s__law_drawn) := ⟨rfl, rfl, rfl, by decide +kernel, rfl, by decide +kernel, by decide +kernel⟩
theorem sc__law_with : FnScope ["_law_d", "_law_pairs", "_law_found", "_law_part", "_law_value"] ["_law_d", "_law_pairs"] (defScope s__law_with) := ⟨rfl, rfl, rfl, by decide +kernel, rfl, by decide +kernel, by decide +kernel⟩
theorem sc__law_made : FnScope ["_law_d"] ["_law_d"] (defScope s__law_made) := ⟨rfl, rfl, rfl, by decide +kernel, rfl, by decide +kernel, by decide +kernel⟩
theorem sc__law_parts : FnScope [] [] (defScope s__law_parts) := ⟨rfl, rfl, rfl, by decide +kernel, rfl, by decide +kernel, by decide +kernel⟩
theorem sc__law_refused : FnScope ["_law_d", "_law_told"] ["_law_d"] (defScope s__law_refused) := ⟨rfl, rfl, rfl, by decide +kernel, rfl, by decide +kernel, by decide +kernel⟩
theorem sc__law_whole : FnScope ["_law_thing", "_law_low", "_law_high"] ["_law_thing", "_law_low", "_law_high"] (defScope s__law_whole) := ⟨rfl, rfl, rfl, by decide +kernel, rfl, by decide +kernel, by decide +kernel⟩
theorem sc__law_pair : FnScope ["_law_thing", "_law_most"] ["_law_thing", "_law_most"] (defScope s__law_pair) := ⟨rfl, rfl, rfl, by decide +kernel, rfl, by decide +kernel, by decide +kernel⟩
theorem sc__law_joined : FnScope ["_law_paths_here", "_law_found", "_law_turn", "_law_one", "_law_mate", "_law_here"] ["_law_paths_here"] (defScope s__law_joined) := ⟨rfl, rfl, rfl, by decide +kernel, rfl, by decide +kernel, by decide +kernel⟩
theorem sc__law_wrong : FnScope ["_law_d", "_law_coin", "_law_paths_here", "_law_pays", "_law_road", "_law_pair_here", "_law_most", "_law_one", "_law_mate"] ["_law_d"] (defScope s__law_wrong) := ⟨rfl, rfl, rfl, by decide +kernel, rfl, by decide +kernel, by decide +kernel⟩
theorem sc__law_odd : FnScope ["_law_row", "_law_d", "_law_odd_here"] ["_law_row", "_law_d"] (defScope s__law_odd) := ⟨rfl, rfl, rfl, by decide +kernel, rfl, by decide +kernel, by decide +kernel⟩
theorem sc_law : FnScope ["_law_script", "_law_row", "_law_turn", "_law_d", "_law_game", "_law_e", "_law_k", "_law_part"] ["_law_script"] (defScope s_law) := ⟨rfl, rfl, rfl, by decide +kernel, rfl, by decide +kernel, by decide +kernel⟩
theorem sc_InvalidCoin___init__ : FnScope ["self"] ["self"] (defScope s_InvalidCoin___init__) := ⟨rfl, rfl, rfl, by decide +kernel, rfl, by decide +kernel, by decide +kernel⟩
theorem sc_InvalidPaths___init__ : FnScope ["self"] ["self"] (defScope s_InvalidPaths___init__) := ⟨rfl, rfl, rfl, by decide +kernel, rfl, by decide +kernel, by decide +kernel⟩
theorem sc_InvalidPays___init__ : FnScope ["self"] ["self"] (defScope s_InvalidPays___init__) := ⟨rfl, rfl, rfl, by decide +kernel, rfl, by decide +kernel, by decide +kernel⟩
theorem sc_InvalidRoad___init__ : FnScope ["self"] ["self"] (defScope s_InvalidRoad___init__) := ⟨rfl, rfl, rfl, by decide +kernel, rfl, by decide +kernel, by decide +kernel⟩
theorem sc_Game___init__ : FnScope ["self", "coin", "paths", "pays", "road", "many", "pay_of", "place", "pair"] ["self", "coin", "paths", "pays", "road"] (defScope s_Game___init__) := ⟨rfl, rfl, rfl, by decide +kernel, rfl, by decide +kernel, by decide +kernel⟩
theorem sc_Game_coin : FnScope ["self"] ["self"] (defScope s_Game_coin) := ⟨rfl, rfl, rfl, by decide +kernel, rfl, by decide +kernel, by decide +kernel⟩
theorem sc_Game_paths : FnScope ["self"] ["self"] (defScope s_Game_paths) := ⟨rfl, rfl, rfl, by decide +kernel, rfl, by decide +kernel, by decide +kernel⟩
theorem sc_Game_pays : FnScope ["self"] ["self"] (defScope s_Game_pays) := ⟨rfl, rfl, rfl, by decide +kernel, rfl, by decide +kernel, by decide +kernel⟩
theorem sc_Game_road : FnScope ["self"] ["self"] (defScope s_Game_road) := ⟨rfl, rfl, rfl, by decide +kernel, rfl, by decide +kernel, by decide +kernel⟩
theorem sc_Game_places : FnScope ["self"] ["self"] (defScope s_Game_places) := ⟨rfl, rfl, rfl, by decide +kernel, rfl, by decide +kernel, by decide +kernel⟩
theorem sc_Game___eq__ : FnScope ["self", "other"] ["self", "other"] (defScope s_Game___eq__) := ⟨rfl, rfl, rfl, by decide +kernel, rfl, by decide +kernel, by decide +kernel⟩
structure Ev (K : PySem.W.Frag) (mg : Str → Option Value) : Prop where
  c_MOST_PAY : ∃ t, mg "MOST_PAY" = some (.int 20 t)
  c_MOST_PLACE : ∃ t, mg "MOST_PLACE" = some (.int 5 t)
  c_MOST_WEIGHT : ∃ t, mg "MOST_WEIGHT" = some (.int 9 t)
  c_ROAD : ∃ t, mg "ROAD" = some (.int (-1) t)
  cl_Game : Cls K (ga K "Game")
  eq_Game : EqOf K (ga K "Game") (ma K (ga K "Game") "__eq__")
  g_all : mg "all" = none
  g_any : mg "any" = none
  g_bool : mg "bool" = none
  g_dict : mg "dict" = none
  g_int : mg "int" = none
  g_isinstance : mg "isinstance" = none
  g_len : mg "len" = none
  g_list : mg "list" = none
  g_max : mg "max" = none
  g_min : mg "min" = none
  g_range : mg "range" = none
  g_set : mg "set" = none
  g_sorted : mg "sorted" = none
  g_tuple : mg "tuple" = none
  g_zip : mg "zip" = none
  is_Game : IsC K (ga K "Game")
  n_Game : mg "Game" = some (.ref (ga K "Game"))
  n_InvalidCoin : mg "InvalidCoin" = some (.ref (ga K "InvalidCoin"))
  n_InvalidPaths : mg "InvalidPaths" = some (.ref (ga K "InvalidPaths"))
  n_InvalidPays : mg "InvalidPays" = some (.ref (ga K "InvalidPays"))
  n_InvalidRoad : mg "InvalidRoad" = some (.ref (ga K "InvalidRoad"))
  na_Game_ends : NoAttr K (ga K "Game") "ends"
  na_Game_lane : NoAttr K (ga K "Game") "lane"
  na_Game_many : NoAttr K (ga K "Game") "many"
  na_Game_near : NoAttr K (ga K "Game") "near"
  na_Game_pay_of : NoAttr K (ga K "Game") "pay_of"
  na_Game_ways : NoAttr K (ga K "Game") "ways"
  na_Game_weights : NoAttr K (ga K "Game") "weights"
  mk_Game : Mk K (ga K "Game") (ma K (ga K "Game") "__init__")
  n_TossError : mg "TossError" = some (.ref (ga K "TossError"))
  b_TossError : BaseX K (ga K "TossError")
  xm : ∀ x ∈ (["InvalidCoin", "InvalidPaths", "InvalidPays", "InvalidRoad"] : List Str), ∀ y ∈ (["InvalidCoin", "InvalidPaths", "InvalidPays", "InvalidRoad"] : List Str), PySem.W.exmOne K (.ref (ga K x)) (.ref (ga K y)) = some (decide (x = y))
  xb : ∀ x ∈ (["InvalidCoin", "InvalidPaths", "InvalidPays", "InvalidRoad"] : List Str), PySem.W.exmOne K (.ref (ga K x)) (.ref (ga K "TossError")) = some true
  I_InvalidCoin : Initd K mg "InvalidCoin" "InvalidCoin.__init__" s_InvalidCoin___init__ ["self"]
  I_InvalidPaths : Initd K mg "InvalidPaths" "InvalidPaths.__init__" s_InvalidPaths___init__ ["self"]
  I_InvalidPays : Initd K mg "InvalidPays" "InvalidPays.__init__" s_InvalidPays___init__ ["self"]
  I_InvalidRoad : Initd K mg "InvalidRoad" "InvalidRoad.__init__" s_InvalidRoad___init__ ["self"]
  D_is_whole : Defd K mg "is_whole" s_is_whole ["value"]
  D_is_within : Defd K mg "is_within" s_is_within ["value", "low", "high"]
  D_is_pair : Defd K mg "is_pair" s_is_pair ["value", "low", "high", "least", "most"]
  D_come_to : Defd K mg "come_to" s_come_to ["paths", "begin"]
  D_are_paths : Defd K mg "are_paths" s_are_paths ["value"]
  D_are_pays : Defd K mg "are_pays" s_are_pays ["value", "places"]
  D_next_to : Defd K mg "next_to" s_next_to ["paths", "door", "place"]
  D__law_taken : Defd K mg "_law_taken" s__law_taken ["_law_row", "_law_many"]
  D__law_paths : Defd K mg "_law_paths" s__law_paths ["_law_row", "_law_many"]
  D__law_drawn : Defd K mg "_law_drawn" s__law_drawn ["_law_row"]
  D__law_with : Defd K mg "_law_with" s__law_with ["_law_d", "_law_pairs"]
  D__law_made : Defd K mg "_law_made" s__law_made ["_law_d"]
  D__law_parts : Defd K mg "_law_parts" s__law_parts []
  D__law_refused : Defd K mg "_law_refused" s__law_refused ["_law_d"]
  D__law_whole : Defd K mg "_law_whole" s__law_whole ["_law_thing", "_law_low", "_law_high"]
  D__law_pair : Defd K mg "_law_pair" s__law_pair ["_law_thing", "_law_most"]
  D__law_joined : Defd K mg "_law_joined" s__law_joined ["_law_paths_here"]
  D__law_wrong : Defd K mg "_law_wrong" s__law_wrong ["_law_d"]
  D__law_odd : Defd K mg "_law_odd" s__law_odd ["_law_row", "_law_d"]
  D_law : Defd K mg "law" s_law ["_law_script"]
  M_Game___init__ : Methd K (ga K "Game") "__init__" "Game.__init__" s_Game___init__ ["self", "coin", "paths", "pays", "road"]
  M_Game___eq__ : Methd K (ga K "Game") "__eq__" "Game.__eq__" s_Game___eq__ ["self", "other"]
  P_Game_coin : Propd K (ga K "Game") "coin" "Game.coin" s_Game_coin ["self"]
  P_Game_paths : Propd K (ga K "Game") "paths" "Game.paths" s_Game_paths ["self"]
  P_Game_pays : Propd K (ga K "Game") "pays" "Game.pays" s_Game_pays ["self"]
  P_Game_road : Propd K (ga K "Game") "road" "Game.road" s_Game_road ["self"]
  P_Game_places : Propd K (ga K "Game") "places" "Game.places" s_Game_places ["self"]
section
variable {P : Program} {w : World} {K : PySem.W.Frag} {mg : Str → Option Value} {base : Heap}
theorem x_InvalidCoin (V : Ev K mg) : ExcOk P w K mg base 1 "InvalidCoin" (ga K "InvalidCoin") ["self"] (spX0 K (ga K "InvalidCoin")) := by
  obtain ⟨fI, fd, hm, T, iC, tI, Fu, b⟩ := V.I_InvalidCoin.ex
  refine ⟨fI, fd, hm, T, iC, tI, b, Fu.okX sc_InvalidCoin___init__ (fun vs H Q E ⟨a, e, _⟩ => by subst e; rfl) fun cdv A outer s H vs Q E hr h => ⟨_, pss_one (ps_expr (pe_clsinit rfl V.n_TossError V.b_TossError.cr V.b_TossError.ini (pa_cons (pv 0) (pa_cons pe_str pa_nil)))), ?_⟩⟩
  obtain ⟨a, rfl, T2, ha, q⟩ := h
  exact ⟨_, rfl, a, _, _, rfl, by decide, T2, ha, q⟩
theorem x_InvalidPaths (V : Ev K mg) : ExcOk P w K mg base 1 "InvalidPaths" (ga K "InvalidPaths") ["self"] (spX0 K (ga K "InvalidPaths")) := by
  obtain ⟨fI, fd, hm, T, iC, tI, Fu, b⟩ := V.I_InvalidPaths.ex
  refine ⟨fI, fd, hm, T, iC, tI, b, Fu.okX sc_InvalidPaths___init__ (fun vs H Q E ⟨a, e, _⟩ => by subst e; rfl) fun cdv A outer s H vs Q E hr h => ⟨_, pss_one (ps_expr (pe_clsinit rfl V.n_TossError V.b_TossError.cr V.b_TossError.ini (pa_cons (pv 0) (pa_cons pe_str pa_nil)))), ?_⟩⟩
  obtain ⟨a, rfl, T2, ha, q⟩ := h
  exact ⟨_, rfl, a, _, _, rfl, by decide, T2, ha, q⟩
theorem x_InvalidPays (V : Ev K mg) : ExcOk P w K mg base 1 "InvalidPays" (ga K "InvalidPays") ["self"] (spX0 K (ga K "InvalidPays")) := by
  obtain ⟨fI, fd, hm, T, iC, tI, Fu, b⟩ := V.I_InvalidPays.ex
  refine ⟨fI, fd, hm, T, iC, tI, b, Fu.okX sc_InvalidPays___init__ (fun vs H Q E ⟨a, e, _⟩ => by subst e; rfl) fun cdv A outer s H vs Q E hr h => ⟨_, pss_one (ps_expr (pe_clsinit rfl V.n_TossError V.b_TossError.cr V.b_TossError.ini (pa_cons (pv 0) (pa_cons pe_str pa_nil)))), ?_⟩⟩
  obtain ⟨a, rfl, T2, ha, q⟩ := h
  exact ⟨_, rfl, a, _, _, rfl, by decide, T2, ha, q⟩
theorem x_InvalidRoad (V : Ev K mg) : ExcOk P w K mg base 1 "InvalidRoad" (ga K "InvalidRoad") ["self"] (spX0 K (ga K "InvalidRoad")) := by
  obtain ⟨fI, fd, hm, T, iC, tI, Fu, b⟩ := V.I_InvalidRoad.ex
  refine ⟨fI, fd, hm, T, iC, tI, b, Fu.okX sc_InvalidRoad___init__ (fun vs H Q E ⟨a, e, _⟩ => by subst e; rfl) fun cdv A outer s H vs Q E hr h => ⟨_, pss_one (ps_expr (pe_clsinit rfl V.n_TossError V.b_TossError.cr V.b_TossError.ini (pa_cons (pv 0) (pa_cons pe_str pa_nil)))), ?_⟩⟩
  obtain ⟨a, rfl, T2, ha, q⟩ := h
  exact ⟨_, rfl, a, _, _, rfl, by decide, T2, ha, q⟩
end
end Toss
namespace Toss
open PySem PySem.Spec PyProof.Rows L2 TD He
theorem repL_strs (K : PySem.W.Frag) (F : Hp) : ∀ ws : List Str, RepL K F (ws.map D.str) (ws.map V.str)
  | [] => rfl
  | w :: ws => ⟨_, _, rfl, rfl, repL_strs K F ws⟩
theorem repL_lit {K : PySem.W.Frag} {F : Hp} (ws : List Str) : RepL K F (ws.map D.str) (ws.map V.str) := repL_strs K F ws
def excN : List Str := ["InvalidCoin", "InvalidPaths", "InvalidPays", "InvalidRoad"]
def fa : List Fa := [.int "MOST_PAY" (20), .int "MOST_PLACE" (5), .int "MOST_WEIGHT" (9), .int "ROAD" (-1), .cls "Game", .free "all", .free "any", .free "bool", .free "dict", .free "int", .free "isinstance", .free "len", .free "list", .free "max", .free "min", .free "range", .free "set", .free "sorted", .free "tuple", .free "zip", .glo "Game", .glo "InvalidCoin", .glo "InvalidPaths", .glo "InvalidPays", .glo "InvalidRoad", .noat "Game" "ends", .noat "Game" "lane", .noat "Game" "many", .noat "Game" "near", .noat "Game" "pay_of", .noat "Game" "ways", .noat "Game" "weights", .mkr "Game", .glo "TossError", .glo "is_whole", .glo "is_within", .glo "is_pair", .glo "come_to", .glo "are_paths", .glo "are_pays", .glo "next_to", .glo "_law_taken", .glo "_law_paths", .glo "_law_drawn", .glo "_law_with", .glo "_law_made", .glo "_law_parts", .glo "_law_refused", .glo "_law_whole", .glo "_law_pair", .glo "_law_joined", .glo "_law_wrong", .glo "_law_odd", .glo "law", .meth "Game" "__init__", .meth "Game" "__eq__"]
def fn : List DefD := [⟨("InvalidCoin", some "__init__"), "__init__", "InvalidCoin.__init__", defArgs s_InvalidCoin___init__, defBody s_InvalidCoin___init__, defScope s_InvalidCoin___init__, [], []⟩, ⟨("InvalidPaths", some "__init__"), "__init__", "InvalidPaths.__init__", defArgs s_InvalidPaths___init__, defBody s_InvalidPaths___init__, defScope s_InvalidPaths___init__, [], []⟩, ⟨("InvalidPays", some "__init__"), "__init__", "InvalidPays.__init__", defArgs s_InvalidPays___init__, defBody s_InvalidPays___init__, defScope s_InvalidPays___init__, [], []⟩, ⟨("InvalidRoad", some "__init__"), "__init__", "InvalidRoad.__init__", defArgs s_InvalidRoad___init__, defBody s_InvalidRoad___init__, defScope s_InvalidRoad___init__, [], []⟩, ⟨("is_whole", none), "is_whole", "is_whole", defArgs s_is_whole, defBody s_is_whole, defScope s_is_whole, [], []⟩, ⟨("is_within", none), "is_within", "is_within", defArgs s_is_within, defBody s_is_within, defScope s_is_within, [], []⟩, ⟨("is_pair", none), "is_pair", "is_pair", defArgs s_is_pair, defBody s_is_pair, defScope s_is_pair, [], []⟩, ⟨("come_to", none), "come_to", "come_to", defArgs s_come_to, defBody s_come_to, defScope s_come_to, [], []⟩, ⟨("are_paths", none), "are_paths", "are_paths", defArgs s_are_paths, defBody s_are_paths, defScope s_are_paths, [], []⟩, ⟨("are_pays", none), "are_pays", "are_pays", defArgs s_are_pays, defBody s_are_pays, defScope s_are_pays, [], []⟩, ⟨("next_to", none), "next_to", "next_to", defArgs s_next_to, defBody s_next_to, defScope s_next_to, [], []⟩, ⟨("_law_taken", none), "_law_taken", "_law_taken", defArgs s__law_taken, defBody s__law_taken, defScope s__law_taken, [], []⟩, ⟨("_law_paths", none), "_law_paths", "_law_paths", defArgs s__law_paths, defBody s__law_paths, defScope s__law_paths, [], []⟩, ⟨("_law_drawn", none), "_law_drawn", "_law_drawn", defArgs s__law_drawn, defBody s__law_drawn, defScope s__law_drawn, [], []⟩, ⟨("_law_with", none), "_law_with", "_law_with", defArgs s__law_with, defBody s__law_with, defScope s__law_with, [], []⟩, ⟨("_law_made", none), "_law_made", "_law_made", defArgs s__law_made, defBody s__law_made, defScope s__law_made, [], []⟩, ⟨("_law_parts", none), "_law_parts", "_law_parts", defArgs s__law_parts, defBody s__law_parts, defScope s__law_parts, [], []⟩, ⟨("_law_refused", none), "_law_refused", "_law_refused", defArgs s__law_refused, defBody s__law_refused, defScope s__law_refused, [], []⟩, ⟨("_law_whole", none), "_law_whole", "_law_whole", defArgs s__law_whole, defBody s__law_whole, defScope s__law_whole, [], []⟩, ⟨("_law_pair", none), "_law_pair", "_law_pair", defArgs s__law_pair, defBody s__law_pair, defScope s__law_pair, [], []⟩, ⟨("_law_joined", none), "_law_joined", "_law_joined", defArgs s__law_joined, defBody s__law_joined, defScope s__law_joined, [], []⟩, ⟨("_law_wrong", none), "_law_wrong", "_law_wrong", defArgs s__law_wrong, defBody s__law_wrong, defScope s__law_wrong, [], []⟩, ⟨("_law_odd", none), "_law_odd", "_law_odd", defArgs s__law_odd, defBody s__law_odd, defScope s__law_odd, [], []⟩, ⟨("law", none), "law", "law", defArgs s_law, defBody s_law, defScope s_law, [], []⟩, ⟨("Game", some "__init__"), "__init__", "Game.__init__", defArgs s_Game___init__, defBody s_Game___init__, defScope s_Game___init__, [], []⟩, ⟨("Game", some "__eq__"), "__eq__", "Game.__eq__", defArgs s_Game___eq__, defBody s_Game___eq__, defScope s_Game___eq__, [], []⟩]
def ex (K : PySem.W.Frag) : Bool := (eqB K (ga K "Game")) && ((isB K (ga K "Game")) && ((baseB K (ga K "TossError")) && ((excN.all fun x => excN.all fun y => decide (PySem.W.exmOne K (.ref (ga K x)) (.ref (ga K y)) = some (decide (x = y)))) && ((excN.all fun x => decide (PySem.W.exmOne K (.ref (ga K x)) (.ref (ga K "TossError")) = some true)) && ((oexB K (ga K "InvalidCoin")) && ((iniB K (ga K "InvalidCoin")) && ((oexB K (ga K "InvalidPaths")) && ((iniB K (ga K "InvalidPaths")) && ((oexB K (ga K "InvalidPays")) && ((iniB K (ga K "InvalidPays")) && ((oexB K (ga K "InvalidRoad")) && ((iniB K (ga K "InvalidRoad"))))))))))))))
def pn : List PrD := [⟨"Game", "coin", "Game.coin", defArgs s_Game_coin, defBody s_Game_coin, defScope s_Game_coin⟩, ⟨"Game", "paths", "Game.paths", defArgs s_Game_paths, defBody s_Game_paths, defScope s_Game_paths⟩, ⟨"Game", "pays", "Game.pays", defArgs s_Game_pays, defBody s_Game_pays, defScope s_Game_pays⟩, ⟨"Game", "road", "Game.road", defArgs s_Game_road, defBody s_Game_road, defScope s_Game_road⟩, ⟨"Game", "places", "Game.places", defArgs s_Game_places, defBody s_Game_places, defScope s_Game_places⟩]
theorem ev {h : Heap} {K : PySem.W.Frag} {mg : Str → Option Value} (X : K.In h) (G : h.Ns mainGlobals mg) (cP : SaysP fa fn pn ex K) : Ev K mg :=
  have c := cP.y
  {
  c_MOST_PAY := int_ok X G (c.d.fact 0 rfl)
  c_MOST_PLACE := int_ok X G (c.d.fact 1 rfl)
  c_MOST_WEIGHT := int_ok X G (c.d.fact 2 rfl)
  c_ROAD := int_ok X G (c.d.fact 3 rfl)
  cl_Game := cls_ok (c.d.fact 4 rfl)
  eq_Game := eqB_ok ((ba c.more).1)
  g_all := free_ok X G (c.d.fact 5 rfl)
  g_any := free_ok X G (c.d.fact 6 rfl)
  g_bool := free_ok X G (c.d.fact 7 rfl)
  g_dict := free_ok X G (c.d.fact 8 rfl)
  g_int := free_ok X G (c.d.fact 9 rfl)
  g_isinstance := free_ok X G (c.d.fact 10 rfl)
  g_len := free_ok X G (c.d.fact 11 rfl)
  g_list := free_ok X G (c.d.fact 12 rfl)
  g_max := free_ok X G (c.d.fact 13 rfl)
  g_min := free_ok X G (c.d.fact 14 rfl)
  g_range := free_ok X G (c.d.fact 15 rfl)
  g_set := free_ok X G (c.d.fact 16 rfl)
  g_sorted := free_ok X G (c.d.fact 17 rfl)
  g_tuple := free_ok X G (c.d.fact 18 rfl)
  g_zip := free_ok X G (c.d.fact 19 rfl)
  is_Game := isB_ok ((ba (ba c.more).2).1)
  n_Game := glo_ok X G (c.d.fact 20 rfl)
  n_InvalidCoin := glo_ok X G (c.d.fact 21 rfl)
  n_InvalidPaths := glo_ok X G (c.d.fact 22 rfl)
  n_InvalidPays := glo_ok X G (c.d.fact 23 rfl)
  n_InvalidRoad := glo_ok X G (c.d.fact 24 rfl)
  na_Game_ends := noat_ok (c.d.fact 25 rfl)
  na_Game_lane := noat_ok (c.d.fact 26 rfl)
  na_Game_many := noat_ok (c.d.fact 27 rfl)
  na_Game_near := noat_ok (c.d.fact 28 rfl)
  na_Game_pay_of := noat_ok (c.d.fact 29 rfl)
  na_Game_ways := noat_ok (c.d.fact 30 rfl)
  na_Game_weights := noat_ok (c.d.fact 31 rfl)
  mk_Game := mkr_ok (c.d.fact 32 rfl)
  n_TossError := glo_ok X G (c.d.fact 33 rfl)
  b_TossError := baseB_ok ((ba (ba (ba c.more).2).2).1)
  xm := fun x hx y hy => of_decide_eq_true (List.all_eq_true.mp (List.all_eq_true.mp ((ba (ba (ba (ba c.more).2).2).2).1) x hx) y hy)
  xb := fun x hx => of_decide_eq_true (List.all_eq_true.mp ((ba (ba (ba (ba (ba c.more).2).2).2).2).1) x hx)
  I_InvalidCoin := let ⟨_, FD⟩ := c.d.def_ 0 rfl; ⟨ma K (ga K "InvalidCoin") "__init__", _, glo_ok X G (c.d.fact 21 rfl), oexB_ok ((ba (ba (ba (ba (ba (ba c.more).2).2).2).2).2).1), eqO_ok (ba ((ba (ba (ba (ba (ba (ba (ba c.more).2).2).2).2).2).2).1)).1, of_decide_eq_true (ba ((ba (ba (ba (ba (ba (ba (ba c.more).2).2).2).2).2).2).1)).2, fun_of FD, FunD.bindsN FD (fun _ _ _ _ _ _ us hl => match us, hl with | [_], _ => rfl)⟩
  I_InvalidPaths := let ⟨_, FD⟩ := c.d.def_ 1 rfl; ⟨ma K (ga K "InvalidPaths") "__init__", _, glo_ok X G (c.d.fact 22 rfl), oexB_ok ((ba (ba (ba (ba (ba (ba (ba (ba c.more).2).2).2).2).2).2).2).1), eqO_ok (ba ((ba (ba (ba (ba (ba (ba (ba (ba (ba c.more).2).2).2).2).2).2).2).2).1)).1, of_decide_eq_true (ba ((ba (ba (ba (ba (ba (ba (ba (ba (ba c.more).2).2).2).2).2).2).2).2).1)).2, fun_of FD, FunD.bindsN FD (fun _ _ _ _ _ _ us hl => match us, hl with | [_], _ => rfl)⟩
  I_InvalidPays := let ⟨_, FD⟩ := c.d.def_ 2 rfl; ⟨ma K (ga K "InvalidPays") "__init__", _, glo_ok X G (c.d.fact 23 rfl), oexB_ok ((ba (ba (ba (ba (ba (ba (ba (ba (ba (ba c.more).2).2).2).2).2).2).2).2).2).1), eqO_ok (ba ((ba (ba (ba (ba (ba (ba (ba (ba (ba (ba (ba c.more).2).2).2).2).2).2).2).2).2).2).1)).1, of_decide_eq_true (ba ((ba (ba (ba (ba (ba (ba (ba (ba (ba (ba (ba c.more).2).2).2).2).2).2).2).2).2).2).1)).2, fun_of FD, FunD.bindsN FD (fun _ _ _ _ _ _ us hl => match us, hl with | [_], _ => rfl)⟩
  I_InvalidRoad := let ⟨_, FD⟩ := c.d.def_ 3 rfl; ⟨ma K (ga K "InvalidRoad") "__init__", _, glo_ok X G (c.d.fact 24 rfl), oexB_ok ((ba (ba (ba (ba (ba (ba (ba (ba (ba (ba (ba (ba c.more).2).2).2).2).2).2).2).2).2).2).2).1), eqO_ok (ba ((ba (ba (ba (ba (ba (ba (ba (ba (ba (ba (ba (ba c.more).2).2).2).2).2).2).2).2).2).2).2).2)).1, of_decide_eq_true (ba ((ba (ba (ba (ba (ba (ba (ba (ba (ba (ba (ba (ba c.more).2).2).2).2).2).2).2).2).2).2).2).2)).2, fun_of FD, FunD.bindsN FD (fun _ _ _ _ _ _ us hl => match us, hl with | [_], _ => rfl)⟩
  D_is_whole := let ⟨_, FD⟩ := c.d.def_ 4 rfl; ⟨_, _, glo_ok X G (c.d.fact 34 rfl), fun_of FD, FunD.bindsN FD (fun _ _ _ _ _ _ us hl => match us, hl with | [_], _ => rfl)⟩
  D_is_within := let ⟨_, FD⟩ := c.d.def_ 5 rfl; ⟨_, _, glo_ok X G (c.d.fact 35 rfl), fun_of FD, FunD.bindsN FD (fun _ _ _ _ _ _ us hl => match us, hl with | [_, _, _], _ => rfl)⟩
  D_is_pair := let ⟨_, FD⟩ := c.d.def_ 6 rfl; ⟨_, _, glo_ok X G (c.d.fact 36 rfl), fun_of FD, FunD.bindsN FD (fun _ _ _ _ _ _ us hl => match us, hl with | [_, _, _, _, _], _ => rfl)⟩
  D_come_to := let ⟨_, FD⟩ := c.d.def_ 7 rfl; ⟨_, _, glo_ok X G (c.d.fact 37 rfl), fun_of FD, FunD.bindsN FD (fun _ _ _ _ _ _ us hl => match us, hl with | [_, _], _ => rfl)⟩
  D_are_paths := let ⟨_, FD⟩ := c.d.def_ 8 rfl; ⟨_, _, glo_ok X G (c.d.fact 38 rfl), fun_of FD, FunD.bindsN FD (fun _ _ _ _ _ _ us hl => match us, hl with | [_], _ => rfl)⟩
  D_are_pays := let ⟨_, FD⟩ := c.d.def_ 9 rfl; ⟨_, _, glo_ok X G (c.d.fact 39 rfl), fun_of FD, FunD.bindsN FD (fun _ _ _ _ _ _ us hl => match us, hl with | [_, _], _ => rfl)⟩
  D_next_to := let ⟨_, FD⟩ := c.d.def_ 10 rfl; ⟨_, _, glo_ok X G (c.d.fact 40 rfl), fun_of FD, FunD.bindsN FD (fun _ _ _ _ _ _ us hl => match us, hl with | [_, _, _], _ => rfl)⟩
  D__law_taken := let ⟨_, FD⟩ := c.d.def_ 11 rfl; ⟨_, _, glo_ok X G (c.d.fact 41 rfl), fun_of FD, FunD.bindsN FD (fun _ _ _ _ _ _ us hl => match us, hl with | [_, _], _ => rfl)⟩
  D__law_paths := let ⟨_, FD⟩ := c.d.def_ 12 rfl; ⟨_, _, glo_ok X G (c.d.fact 42 rfl), fun_of FD, FunD.bindsN FD (fun _ _ _ _ _ _ us hl => match us, hl with | [_, _], _ => rfl)⟩
  D__law_drawn := let ⟨_, FD⟩ := c.d.def_ 13 rfl; ⟨_, _, glo_ok X G (c.d.fact 43 rfl), fun_of FD, FunD.bindsN FD (fun _ _ _ _ _ _ us hl => match us, hl with | [_], _ => rfl)⟩
  D__law_with := let ⟨_, FD⟩ := c.d.def_ 14 rfl; ⟨_, _, glo_ok X G (c.d.fact 44 rfl), fun_of FD, FunD.bindsN FD (fun _ _ _ _ _ _ us hl => match us, hl with | [_, _], _ => rfl)⟩
  D__law_made := let ⟨_, FD⟩ := c.d.def_ 15 rfl; ⟨_, _, glo_ok X G (c.d.fact 45 rfl), fun_of FD, FunD.bindsN FD (fun _ _ _ _ _ _ us hl => match us, hl with | [_], _ => rfl)⟩
  D__law_parts := let ⟨_, FD⟩ := c.d.def_ 16 rfl; ⟨_, _, glo_ok X G (c.d.fact 46 rfl), fun_of FD, FunD.bindsN FD (fun _ _ _ _ _ _ us hl => match us, hl with | [], _ => rfl)⟩
  D__law_refused := let ⟨_, FD⟩ := c.d.def_ 17 rfl; ⟨_, _, glo_ok X G (c.d.fact 47 rfl), fun_of FD, FunD.bindsN FD (fun _ _ _ _ _ _ us hl => match us, hl with | [_], _ => rfl)⟩
  D__law_whole := let ⟨_, FD⟩ := c.d.def_ 18 rfl; ⟨_, _, glo_ok X G (c.d.fact 48 rfl), fun_of FD, FunD.bindsN FD (fun _ _ _ _ _ _ us hl => match us, hl with | [_, _, _], _ => rfl)⟩
  D__law_pair := let ⟨_, FD⟩ := c.d.def_ 19 rfl; ⟨_, _, glo_ok X G (c.d.fact 49 rfl), fun_of FD, FunD.bindsN FD (fun _ _ _ _ _ _ us hl => match us, hl with | [_, _], _ => rfl)⟩
  D__law_joined := let ⟨_, FD⟩ := c.d.def_ 20 rfl; ⟨_, _, glo_ok X G (c.d.fact 50 rfl), fun_of FD, FunD.bindsN FD (fun _ _ _ _ _ _ us hl => match us, hl with | [_], _ => rfl)⟩
  D__law_wrong := let ⟨_, FD⟩ := c.d.def_ 21 rfl; ⟨_, _, glo_ok X G (c.d.fact 51 rfl), fun_of FD, FunD.bindsN FD (fun _ _ _ _ _ _ us hl => match us, hl with | [_], _ => rfl)⟩
  D__law_odd := let ⟨_, FD⟩ := c.d.def_ 22 rfl; ⟨_, _, glo_ok X G (c.d.fact 52 rfl), fun_of FD, FunD.bindsN FD (fun _ _ _ _ _ _ us hl => match us, hl with | [_, _], _ => rfl)⟩
  D_law := let ⟨_, FD⟩ := c.d.def_ 23 rfl; ⟨_, _, glo_ok X G (c.d.fact 53 rfl), fun_of FD, FunD.bindsN FD (fun _ _ _ _ _ _ us hl => match us, hl with | [_], _ => rfl)⟩
  M_Game___init__ := let ⟨_, FD⟩ := c.d.def_ 24 rfl; ⟨_, _, meth_ok (c.d.fact 54 rfl), fun_of FD, FunD.bindsN FD (fun _ _ _ _ _ _ us hl => match us, hl with | [_, _, _, _, _], _ => rfl)⟩
  M_Game___eq__ := let ⟨_, FD⟩ := c.d.def_ 25 rfl; ⟨_, _, meth_ok (c.d.fact 55 rfl), fun_of FD, FunD.bindsN FD (fun _ _ _ _ _ _ us hl => match us, hl with | [_, _], _ => rfl)⟩
  P_Game_coin := let ⟨PO, _, FD⟩ := PrD.funD (cP.pr 0 rfl).1 (cP.pr 0 rfl).2; ⟨_, _, _, PO, fun_of FD, FunD.bindsN FD (fun _ _ _ _ _ _ us hl => match us, hl with | [_], _ => rfl)⟩
  P_Game_paths := let ⟨PO, _, FD⟩ := PrD.funD (cP.pr 1 rfl).1 (cP.pr 1 rfl).2; ⟨_, _, _, PO, fun_of FD, FunD.bindsN FD (fun _ _ _ _ _ _ us hl => match us, hl with | [_], _ => rfl)⟩
  P_Game_pays := let ⟨PO, _, FD⟩ := PrD.funD (cP.pr 2 rfl).1 (cP.pr 2 rfl).2; ⟨_, _, _, PO, fun_of FD, FunD.bindsN FD (fun _ _ _ _ _ _ us hl => match us, hl with | [_], _ => rfl)⟩
  P_Game_road := let ⟨PO, _, FD⟩ := PrD.funD (cP.pr 3 rfl).1 (cP.pr 3 rfl).2; ⟨_, _, _, PO, fun_of FD, FunD.bindsN FD (fun _ _ _ _ _ _ us hl => match us, hl with | [_], _ => rfl)⟩
  P_Game_places := let ⟨PO, _, FD⟩ := PrD.funD (cP.pr 4 rfl).1 (cP.pr 4 rfl).2; ⟨_, _, _, PO, fun_of FD, FunD.bindsN FD (fun _ _ _ _ _ _ us hl => match us, hl with | [_], _ => rfl)⟩
  }
def loose0 : List Str := ["TossError", "InvalidCoin", "InvalidPaths", "InvalidPays", "InvalidRoad", "is_whole", "is_within", "is_pair", "come_to", "are_paths", "are_pays", "Game", "next_to", "_law_taken", "_law_paths", "_law_drawn", "_law_with", "_law_made", "_law_parts", "_law_refused", "_law_whole", "_law_pair", "_law_joined", "_law_wrong", "_law_odd", "MOST_WEIGHT", "MOST_PLACE", "MOST_PAY", "ROAD"]
def loose : List Str := loose0
abbrev R : PySem.W.OpenRow := PySem.W.OpenLaw.row PySem.Challenge.rw_tossroads_k01_games_refused
abbrev hkX : PySem.W.Hook := hookP 1200 fa fn pn ex
def obH (s : PySem.W.SharedT) : AlP := obsP 1200 fa fn pn ex (HandSHeadRun.getT s)
theorem obH_eq (s : PySem.W.SharedT) : obH s = hkX.obs s.abs := obsP_eq (HandSHeadRun.getT_eq s)
end Toss
namespace Toss
open PySem PySem.Spec PyProof.Rows L2 TD He
theorem run1 (w : World) (os : OsState) : (HandSHeadRun.endF (HandSHeadRun.stepQ (HandSHeadRun.denQ HandSHeadRun.tabQ) R.prog w) 9000 R.prog w os).map (fun s => (HandSHeadRun.looksF R.prog (PySem.W.boot_heap w.params) s.abs, HandSHeadRun.seenQ (PySem.W.view R.prog [33]) loose (importedModules R.prog.main.body) (fun s => PySem.W.xlAt (PySem.W.view R.prog [33]) [] s && PySem.W.recOk R.toRowW.records s) s.abs)) = some (true, PySem.W.openGood (PySem.W.view R.prog [33]) loose) := by
  kernel_rfl
theorem run2 (w : World) (os : OsState) : (HandSHeadRun.endF (HandSHeadRun.stepQ (HandSHeadRun.denQ HandSHeadRun.tabQ) R.prog w) 9000 R.prog w os).map (fun s => (fa.all fun x => x.ok (frY 1200 (HandSHeadRun.getT s))) && ex (frY 1200 (HandSHeadRun.getT s))) = some true := by
  kernel_rfl
theorem run3 (w : World) (os : OsState) : (HandSHeadRun.endF (HandSHeadRun.stepQ (HandSHeadRun.denQ HandSHeadRun.tabQ) R.prog w) 9000 R.prog w os).map (fun s => ((fn.all fun d => d.ok (frY 1200 (HandSHeadRun.getT s))), fn.map fun d => fnW (frY 1200 (HandSHeadRun.getT s)) d.at_)) = some (true, fn.map DefD.val) := by
  kernel_rfl
theorem run4 (w : World) (os : OsState) : (HandSHeadRun.endF (HandSHeadRun.stepQ (HandSHeadRun.denQ HandSHeadRun.tabQ) R.prog w) 9000 R.prog w os).map (fun s => ((pn.all fun d => d.ok (frY 1200 (HandSHeadRun.getT s))), pn.map fun d => fnP (frY 1200 (HandSHeadRun.getT s)) (pAd (frY 1200 (HandSHeadRun.getT s)) (d.cls, d.name)))) = some (true, pn.map PrD.val) := by
  kernel_rfl
theorem run (w : World) : HandSHeadRun.RunEq R (PySem.W.view R.prog [33]) hkX obH 9000 loose w :=
  fun os => run_joinP (fun _ => rfl) (run1 w os) (run2 w os) (run3 w os) (run4 w os)
end Toss
namespace Toss
open PySem PySem.Spec PyProof.Rows L2 TD He
theorem kb_NoneType_int : kitB "NoneType" "int" = some false := by decide +kernel
theorem kb_bool_int : kitB "bool" "int" = some true := by decide +kernel
theorem kb_int_int : kitB "int" "int" = some true := by decide +kernel
theorem kb_str_int : kitB "str" "int" = some false := by decide +kernel
theorem kb_tuple_int : kitB "tuple" "int" = some false := by decide +kernel
theorem kb_list_int : kitB "list" "int" = some false := by decide +kernel
theorem kb_dict_int : kitB "dict" "int" = some false := by decide +kernel
theorem kb_NoneType_bool : kitB "NoneType" "bool" = some false := by decide +kernel
theorem kb_bool_bool : kitB "bool" "bool" = some true := by decide +kernel
theorem kb_int_bool : kitB "int" "bool" = some false := by decide +kernel
theorem kb_str_bool : kitB "str" "bool" = some false := by decide +kernel
theorem kb_tuple_bool : kitB "tuple" "bool" = some false := by decide +kernel
theorem kb_list_bool : kitB "list" "bool" = some false := by decide +kernel
theorem kb_dict_bool : kitB "dict" "bool" = some false := by decide +kernel
theorem kb_NoneType_tuple : kitB "NoneType" "tuple" = some false := by decide +kernel
theorem kb_bool_tuple : kitB "bool" "tuple" = some false := by decide +kernel
theorem kb_int_tuple : kitB "int" "tuple" = some false := by decide +kernel
theorem kb_str_tuple : kitB "str" "tuple" = some false := by decide +kernel
theorem kb_tuple_tuple : kitB "tuple" "tuple" = some true := by decide +kernel
theorem kb_list_tuple : kitB "list" "tuple" = some false := by decide +kernel
theorem kb_dict_tuple : kitB "dict" "tuple" = some false := by decide +kernel
theorem rt0 {Pc : List CC → TD.Arg → Prop} {S : DS} {d : D} (h : Pc [] (.fr d)) : rtOf 0 Pc S (.fr d) := ⟨[], .fr d, rfl, ⟨by simp, rfl⟩, h⟩
theorem rt1 {Pc : List CC → TD.Arg → Prop} {ρ : List (Option SV)} {c : CC} {μ : List (Option CC)} {d : D} (h : Pc [c] (.fr d)) : rtOf 1 Pc ⟨ρ, some c :: μ⟩ (.fr d) := ⟨[c], .fr d, rfl, ⟨by simp, rfl⟩, h⟩
/-! ### sizes -/
def Wide (n : Nat) (i : Int) : Prop := i.natAbs < 2 ^ n
theorem Wide.mono {n m : Nat} {i : Int} (h : Wide n i) (hm : n ≤ m) : Wide m i := Nat.lt_of_lt_of_le h (Nat.pow_le_pow_right (by decide) hm)
theorem Wide.mul {n m : Nat} {i j : Int} (h : Wide n i) (h' : Wide m j) : Wide (n + m) (i * j) := wide_lt h h'
theorem Wide.cm {n m : Nat} {i j : Int} (h : Wide n i) (h' : Wide m j) (h0 : 0 < n) (h1 : 0 < m) (hs : n + m ≤ 1000000) : CMulW i j := wide_mul h h' h0 h1 hs
section
variable {P : Program} {w : World} {K : PySem.W.Frag} {mg : Str → Option Value} {base : Heap}
/-- is it a whole number -/
def wholeD : D → Option Bool
  | .int _ => some true
  | .bl _ => some false
  | .non => some false
  | .str _ => some false
  | .tup _ => some false
  | .lst _ => some false
  | .dic _ _ => some false
  | _ => none
def d_is_whole : DSp := fun as Pc _ => ∃ d k, as = [.fr d] ∧ wholeD d = some k ∧ Pc [] (.fr (.bl k))
theorem ok_is_whole (V : Ev K mg) : DefOk P w K mg base 1 "is_whole" ["value"] d_is_whole := by
  refine V.D_is_whole.ok sc_is_whole 0 (fun as Pc Xc ⟨d, k, e, _⟩ => by subst e; exact ⟨rfl, rfl⟩) ?_
  intro f cdv A outer s H E B as Pc Xc h hB hr tk hp
  refine ⟨_, ((dss_one (ds_ret (de_and (de_isi "int" V.g_isinstance (da_cons (dv 0) (da_cons (de_ty (T := "int") V.g_int) da_nil))) (de_one (de_not (de_isi "bool" V.g_isinstance (da_cons (dv 0) (da_cons (de_ty (T := "bool") V.g_bool) da_nil))))))))), ?_⟩
  obtain ⟨d, k, rfl, hk, h⟩ := h
  cases d <;> cases hk <;> (repeat (first | refine ⟨_, rfl, Nat.le_of_ble_eq_true rfl, ?_⟩ | refine ⟨_, rfl, ?_⟩ | refine ⟨_, _, rfl, ?_⟩ | refine ⟨_, _, rfl, rfl, ?_⟩ | refine ⟨_, _, _, rfl, rfl, rfl, ?_⟩ | refine ⟨_, _, _, rfl, rfl, by (first | exact kb_NoneType_int | exact kb_bool_int | exact kb_int_int | exact kb_str_int | exact kb_tuple_int | exact kb_list_int | exact kb_dict_int | exact kb_NoneType_bool | exact kb_bool_bool | exact kb_int_bool | exact kb_str_bool | exact kb_tuple_bool | exact kb_list_bool | exact kb_dict_bool | exact kb_NoneType_tuple | exact kb_bool_tuple | exact kb_int_tuple | exact kb_str_tuple | exact kb_tuple_tuple | exact kb_list_tuple | exact kb_dict_tuple), ?_⟩ | refine ⟨_, _, _, _, _, rfl, rfl, rfl, rfl, rfl, ?_⟩ | refine iteT ?_ | refine iteF ?_ | refine ⟨(by decide : List.Nodup _), ?_⟩ | refine ⟨rfl, ?_⟩)) <;> (first | exact rt0 h | exact rt1 h)
def d_is_within : DSp := fun as Pc _ => ∃ d lo hi k, as = [.fr d, .fr (.int lo), .fr (.int hi)] ∧ wholeD d = some k ∧ Pc [] (.fr (.bl (match d with | .int i => decide (lo ≤ i) && decide (i ≤ hi) | _ => false)))
theorem ok_is_within (V : Ev K mg) (o_is_whole : DefOk P w K mg base 1 "is_whole" ["value"] d_is_whole) : DefOk P w K mg base 2 "is_within" ["value", "low", "high"] d_is_within := by
  refine V.D_is_within.ok sc_is_within 0 (fun as Pc Xc ⟨d, lo, hi, k, e, _⟩ => by subst e; exact ⟨rfl, rfl⟩) ?_
  intro f cdv A outer s H E B as Pc Xc h hB hr tk hp
  refine ⟨_, ((dss_one (ds_ret (de_and (de_callD o_is_whole (L2.Room.mono hr (by decide)) tk (da_cons (dv 0) da_nil)) (de_one (de_lele (dv 1) (dv 0) (dv 2))))))), ?_⟩
  obtain ⟨d, lo, hi, k, rfl, hk, h⟩ := h
  refine ⟨_, rfl, [_], [], rfl, List.nodup_nil, d, k, rfl, hk, ?_⟩
  refine ⟨k, rfl, ?_⟩
  cases k with
  | false =>
    refine iteF ?_
    cases d <;> cases hk <;> (first | exact rt0 h | exact rt1 h)
  | true =>
    refine iteT ?_
    cases d <;> cases hk
    rename_i i
    refine ⟨_, rfl, _, rfl, _, _, rfl, rfl, _, rfl, ?_⟩
    refine ite2 (fun hc => ?_) (fun hc => ?_)
    · refine ⟨_, rfl, _, _, rfl, rfl, ?_⟩
      have h' := h
      simp only [hc, Bool.true_and] at h'
      (first | exact rt0 h' | exact rt1 h')
    · have hc' := (Bool.not_eq_true _).mp hc
      have h' := h
      simp only [hc', Bool.false_and] at h'
      (first | exact rt0 h' | exact rt1 h')
end
end Toss
/-! plain facts on data: pairs of ints -/
namespace Toss
open PySem PySem.Spec PyProof.Rows L2 TD He
/-- pairs of ints as data that are compared -/
def prP (q : Int × Int) : PyData := .tuple [.int q.1, .int q.2]
theorem pyD_pr (q : Int × Int) : pyD (prD q) = some (prP q) := rfl
theorem pyDs_prs : ∀ ps : List (Int × Int), pyDs (ps.map prD) = some (ps.map prP)
  | [] => rfl
  | q :: ps => by
    rw [List.map_cons, List.map_cons]
    unfold pyDs
    rw [pyD_pr, pyDs_prs ps]
theorem pyD_prs (ps : List (Int × Int)) : pyD (.lst (ps.map prD)) = some (.list (ps.map prP)) := by
  unfold pyD
  rw [pyDs_prs]
  rfl
theorem pyD_prsT (ps : List (Int × Int)) : pyD (.tup (ps.map prD)) = some (.tuple (ps.map prP)) := by
  unfold pyD
  rw [pyDs_prs]
  rfl
theorem lay_prs : ∀ ps : List (Int × Int), PyData.canLayAll0 (ps.map prP) = true
  | [] => rfl
  | q :: ps => by
    rw [List.map_cons]
    unfold PyData.canLayAll0
    rw [lay_prs ps]
    rfl
theorem depth_prs : ∀ ps : List (Int × Int), PyData.depthAll (ps.map prP) ≤ 1
  | [] => by simp [PyData.depthAll]
  | q :: ps => by
    rw [List.map_cons]
    unfold PyData.depthAll
    have h1 : (prP q).depth = 1 := by simp [prP, PyData.depth, PyData.depthAll]
    have := depth_prs ps
    omega
theorem shaped_prs (ps : List (Int × Int)) : SeqAt.shaped (.list (ps.map prP)) = true := by
  unfold SeqAt.shaped PyData.canLay0 PyData.depth
  rw [lay_prs]
  have := depth_prs ps
  simp
  omega
theorem shaped_prsT (ps : List (Int × Int)) : SeqAt.shaped (.tuple (ps.map prP)) = true := by
  unfold SeqAt.shaped PyData.canLay0 PyData.depth
  rw [lay_prs]
  have := depth_prs ps
  simp
  omega
theorem shaped_pr (q : Int × Int) : SeqAt.shaped (prP q) = true := by
  simp [SeqAt.shaped, prP, PyData.canLay0, PyData.canLayAll0, PyData.depth, PyData.depthAll]
theorem eqv_int (a b : Int) : PyData.eqv (.int a) (.int b) = decide (a = b) := by
  simp [PyData.eqv]
  rw [Bool.eq_iff_iff]; simp
theorem eqv_pr (p q : Int × Int) : PyData.eqv (prP p) (prP q) = decide (p = q) := by
  simp only [prP, PyData.eqv, PyData.eqvAll, Bool.and_true]
  rw [Bool.eq_iff_iff]
  simp [Prod.ext_iff]
theorem any_pr (ps : List (Int × Int)) (q : Int × Int) : (ps.map prP).any (fun z => PyData.eqv z (prP q)) = decide (q ∈ ps) := by
  rw [Bool.eq_iff_iff]
  simp only [List.any_map, List.any_eq_true, Function.comp, eqv_pr, decide_eq_true_eq]
  exact ⟨fun ⟨x, h, e⟩ => e ▸ h, fun h => ⟨q, h, rfl⟩⟩
end Toss
namespace Toss
open PySem PySem.Spec PyProof.Rows L2 TD He
section
variable {P : Program} {w : World} {K : PySem.W.Frag} {mg : Str → Option Value} {base : Heap}
/-! ### numbers drawn -/
def rowC (ns : List Int) (a b c : Int) : CC := .lst [.scr ns, .int a, .int b, .int c]
structure RowOk (a b : Int) : Prop where
  a0 : 0 ≤ a
  b0 : 0 ≤ b
  b1 : b < 2147483648
theorem atI_ints {ns : List Int} {i : Int} (h0 : 0 ≤ i) (h1 : i < ns.length) : ∃ n, atI (ns.map D.int) i = some (.int n) := by
  have hn : ixN (ns.map D.int).length i = some i.toNat := by
    unfold ixN
    rw [List.length_map]
    simp [h0, h1]
  refine ⟨ns[i.toNat]'(by omega), ?_⟩
  unfold atI
  rw [hn]
  simp
def d_taken : DSp := fun as Pc _ => ∃ ns a b c m, as = [.own (rowC ns a b c), .fr (.int m)] ∧ RowOk a b ∧ 0 < m ∧ m < 1000000 ∧ ∀ a' b' c' r, RowOk a' b' → 0 ≤ r → r < m → Pc [rowC ns a' b' c'] (.fr (.int r))
theorem ok_taken (V : Ev K mg) : DefOk P w K mg base 1 "_law_taken" ["_law_row", "_law_many"] d_taken := by
  refine V.D__law_taken.ok sc__law_taken 1 (fun as Pc Xc ⟨ns, a, b, c, m, e, _⟩ => by subst e; exact ⟨rfl, rfl⟩) ?_
  intro f cdv A outer s H E B as Pc Xc h hB hr tk hp
  refine ⟨_, ((dss_cons (ds_if (dt_gt (de_ix (dv 0) de_int) de_int) (dss_cons (ds_set (i := 3) sc__law_taken.nd (de_mod (de_int1 V.g_int (da_cons (de_ix (dv 0) de_int) da_nil)) (dv 1))) (dss_cons (ds_setIx (de_div (de_ix (dv 0) de_int) (dv 1)) (dv 0) de_int) (dss_one (ds_ret (dv 3))))) dss_nil) (dss_cons (ds_setIx (de_add (de_ix (dv 0) de_int) de_int) (dv 0) de_int) (dss_cons (ds_if (dt_gt (de_ix (dv 0) de_int) (de_len V.g_len (da_cons (de_ix (dv 0) de_int) da_nil))) (dss_cons (ds_setIx (de_mod (de_int1 V.g_int (da_cons (de_add (de_mul (de_ix (dv 0) de_int) de_int) de_int) da_nil)) de_int) (dv 0) de_int) (dss_one (ds_ret (de_mod (de_int1 V.g_int (da_cons (de_div (de_ix (dv 0) de_int) de_int) da_nil)) (dv 1))))) dss_nil) (dss_cons (ds_set (i := 2) sc__law_taken.nd (de_ix (de_ix (dv 0) de_int) (de_sub (de_ix (dv 0) de_int) de_int))) (dss_cons (ds_setIx (de_mod (de_int1 V.g_int (da_cons (de_add (de_add (de_mul (de_ix (dv 0) de_int) de_int) (dv 2)) de_int) da_nil)) de_int) (dv 0) de_int) (dss_cons (ds_if (dt_ge (dv 2) (de_pow de_int de_int)) (dss_one (ds_setIx (de_div (dv 2) (dv 1)) (dv 0) de_int)) dss_nil) (dss_one (ds_ret (de_mod (de_int1 V.g_int (da_cons (dv 2) da_nil)) (dv 1))))))))))), ?_⟩
  obtain ⟨ns, a, b, c, m, rfl, hw, hm, hm2, h⟩ := h
  have hdiv : ∀ i, CDiv i m := fun i => ⟨hm, by omega⟩
  have hmul : CMulW b 48271 := Wide.cm (n := 31) (m := 16) (by have := hw.b0; have := hw.b1; unfold Wide; omega) (by unfold Wide; decide) (by decide) (by decide) (by decide)
  have h31 : (0 : Int) < 2147483647 := by decide
  -- the first test
  (repeat (first | refine ⟨_, rfl, Nat.le_of_ble_eq_true rfl, ?_⟩ | refine ⟨_, rfl, ?_⟩ | refine ⟨_, _, rfl, ?_⟩ | refine ⟨_, _, rfl, rfl, ?_⟩ | refine ⟨_, _, _, rfl, rfl, rfl, ?_⟩ | refine ⟨_, _, _, rfl, rfl, by (first | exact kb_NoneType_int | exact kb_bool_int | exact kb_int_int | exact kb_str_int | exact kb_tuple_int | exact kb_list_int | exact kb_dict_int | exact kb_NoneType_bool | exact kb_bool_bool | exact kb_int_bool | exact kb_str_bool | exact kb_tuple_bool | exact kb_list_bool | exact kb_dict_bool | exact kb_NoneType_tuple | exact kb_bool_tuple | exact kb_int_tuple | exact kb_str_tuple | exact kb_tuple_tuple | exact kb_list_tuple | exact kb_dict_tuple), ?_⟩ | refine ⟨_, _, _, _, _, rfl, rfl, rfl, rfl, rfl, ?_⟩ | refine iteT ?_ | refine iteF ?_ | refine ⟨(by decide : List.Nodup _), ?_⟩ | refine ⟨rfl, ?_⟩))
  refine ite2 (fun hc => ?_) (fun hc => ?_)
  · (repeat (first | refine ⟨_, rfl, Nat.le_of_ble_eq_true rfl, ?_⟩ | refine ⟨_, rfl, ?_⟩ | refine ⟨_, _, rfl, ?_⟩ | refine ⟨_, _, rfl, rfl, ?_⟩ | refine ⟨_, _, _, rfl, rfl, rfl, ?_⟩ | refine ⟨_, _, _, rfl, rfl, by (first | exact kb_NoneType_int | exact kb_bool_int | exact kb_int_int | exact kb_str_int | exact kb_tuple_int | exact kb_list_int | exact kb_dict_int | exact kb_NoneType_bool | exact kb_bool_bool | exact kb_int_bool | exact kb_str_bool | exact kb_tuple_bool | exact kb_list_bool | exact kb_dict_bool | exact kb_NoneType_tuple | exact kb_bool_tuple | exact kb_int_tuple | exact kb_str_tuple | exact kb_tuple_tuple | exact kb_list_tuple | exact kb_dict_tuple), ?_⟩ | refine ⟨_, _, _, _, _, rfl, rfl, rfl, rfl, rfl, ?_⟩ | refine iteT ?_ | refine iteF ?_ | refine ⟨(by decide : List.Nodup _), ?_⟩ | refine ⟨rfl, ?_⟩))
    refine ⟨hm, ?_⟩
    (repeat (first | refine ⟨_, rfl, Nat.le_of_ble_eq_true rfl, ?_⟩ | refine ⟨_, rfl, ?_⟩ | refine ⟨_, _, rfl, ?_⟩ | refine ⟨_, _, rfl, rfl, ?_⟩ | refine ⟨_, _, _, rfl, rfl, rfl, ?_⟩ | refine ⟨_, _, _, rfl, rfl, by (first | exact kb_NoneType_int | exact kb_bool_int | exact kb_int_int | exact kb_str_int | exact kb_tuple_int | exact kb_list_int | exact kb_dict_int | exact kb_NoneType_bool | exact kb_bool_bool | exact kb_int_bool | exact kb_str_bool | exact kb_tuple_bool | exact kb_list_bool | exact kb_dict_bool | exact kb_NoneType_tuple | exact kb_bool_tuple | exact kb_int_tuple | exact kb_str_tuple | exact kb_tuple_tuple | exact kb_list_tuple | exact kb_dict_tuple), ?_⟩ | refine ⟨_, _, _, _, _, rfl, rfl, rfl, rfl, rfl, ?_⟩ | refine iteT ?_ | refine iteF ?_ | refine ⟨(by decide : List.Nodup _), ?_⟩ | refine ⟨rfl, ?_⟩))
    refine ⟨hdiv _, ?_⟩
    (repeat (first | refine ⟨_, rfl, Nat.le_of_ble_eq_true rfl, ?_⟩ | refine ⟨_, rfl, ?_⟩ | refine ⟨_, _, rfl, ?_⟩ | refine ⟨_, _, rfl, rfl, ?_⟩ | refine ⟨_, _, _, rfl, rfl, rfl, ?_⟩ | refine ⟨_, _, _, rfl, rfl, by (first | exact kb_NoneType_int | exact kb_bool_int | exact kb_int_int | exact kb_str_int | exact kb_tuple_int | exact kb_list_int | exact kb_dict_int | exact kb_NoneType_bool | exact kb_bool_bool | exact kb_int_bool | exact kb_str_bool | exact kb_tuple_bool | exact kb_list_bool | exact kb_dict_bool | exact kb_NoneType_tuple | exact kb_bool_tuple | exact kb_int_tuple | exact kb_str_tuple | exact kb_tuple_tuple | exact kb_list_tuple | exact kb_dict_tuple), ?_⟩ | refine ⟨_, _, _, _, _, rfl, rfl, rfl, rfl, rfl, ?_⟩ | refine iteT ?_ | refine iteF ?_ | refine ⟨(by decide : List.Nodup _), ?_⟩ | refine ⟨rfl, ?_⟩))
    exact rt1 (h a b (c / m) (c % m) hw (Int.emod_nonneg _ (by omega)) (Int.emod_lt_of_pos _ hm))
  · (repeat (first | refine ⟨_, rfl, Nat.le_of_ble_eq_true rfl, ?_⟩ | refine ⟨_, rfl, ?_⟩ | refine ⟨_, _, rfl, ?_⟩ | refine ⟨_, _, rfl, rfl, ?_⟩ | refine ⟨_, _, _, rfl, rfl, rfl, ?_⟩ | refine ⟨_, _, _, rfl, rfl, by (first | exact kb_NoneType_int | exact kb_bool_int | exact kb_int_int | exact kb_str_int | exact kb_tuple_int | exact kb_list_int | exact kb_dict_int | exact kb_NoneType_bool | exact kb_bool_bool | exact kb_int_bool | exact kb_str_bool | exact kb_tuple_bool | exact kb_list_bool | exact kb_dict_bool | exact kb_NoneType_tuple | exact kb_bool_tuple | exact kb_int_tuple | exact kb_str_tuple | exact kb_tuple_tuple | exact kb_list_tuple | exact kb_dict_tuple), ?_⟩ | refine ⟨_, _, _, _, _, rfl, rfl, rfl, rfl, rfl, ?_⟩ | refine iteT ?_ | refine iteF ?_ | refine ⟨(by decide : List.Nodup _), ?_⟩ | refine ⟨rfl, ?_⟩))
    refine ite2 (fun hc2 => ?_) (fun hc2 => ?_)
    · (repeat (first | refine ⟨_, rfl, Nat.le_of_ble_eq_true rfl, ?_⟩ | refine ⟨_, rfl, ?_⟩ | refine ⟨_, _, rfl, ?_⟩ | refine ⟨_, _, rfl, rfl, ?_⟩ | refine ⟨_, _, _, rfl, rfl, rfl, ?_⟩ | refine ⟨_, _, _, rfl, rfl, by (first | exact kb_NoneType_int | exact kb_bool_int | exact kb_int_int | exact kb_str_int | exact kb_tuple_int | exact kb_list_int | exact kb_dict_int | exact kb_NoneType_bool | exact kb_bool_bool | exact kb_int_bool | exact kb_str_bool | exact kb_tuple_bool | exact kb_list_bool | exact kb_dict_bool | exact kb_NoneType_tuple | exact kb_bool_tuple | exact kb_int_tuple | exact kb_str_tuple | exact kb_tuple_tuple | exact kb_list_tuple | exact kb_dict_tuple), ?_⟩ | refine ⟨_, _, _, _, _, rfl, rfl, rfl, rfl, rfl, ?_⟩ | refine iteT ?_ | refine iteF ?_ | refine ⟨(by decide : List.Nodup _), ?_⟩ | refine ⟨rfl, ?_⟩))
      refine ⟨?_, ?_⟩
      · exact hmul
      · (repeat (first | refine ⟨_, rfl, Nat.le_of_ble_eq_true rfl, ?_⟩ | refine ⟨_, rfl, ?_⟩ | refine ⟨_, _, rfl, ?_⟩ | refine ⟨_, _, rfl, rfl, ?_⟩ | refine ⟨_, _, _, rfl, rfl, rfl, ?_⟩ | refine ⟨_, _, _, rfl, rfl, by (first | exact kb_NoneType_int | exact kb_bool_int | exact kb_int_int | exact kb_str_int | exact kb_tuple_int | exact kb_list_int | exact kb_dict_int | exact kb_NoneType_bool | exact kb_bool_bool | exact kb_int_bool | exact kb_str_bool | exact kb_tuple_bool | exact kb_list_bool | exact kb_dict_bool | exact kb_NoneType_tuple | exact kb_bool_tuple | exact kb_int_tuple | exact kb_str_tuple | exact kb_tuple_tuple | exact kb_list_tuple | exact kb_dict_tuple), ?_⟩ | refine ⟨_, _, _, _, _, rfl, rfl, rfl, rfl, rfl, ?_⟩ | refine iteT ?_ | refine iteF ?_ | refine ⟨(by decide : List.Nodup _), ?_⟩ | refine ⟨rfl, ?_⟩))
        refine ⟨h31, ?_⟩
        (repeat (first | refine ⟨_, rfl, Nat.le_of_ble_eq_true rfl, ?_⟩ | refine ⟨_, rfl, ?_⟩ | refine ⟨_, _, rfl, ?_⟩ | refine ⟨_, _, rfl, rfl, ?_⟩ | refine ⟨_, _, _, rfl, rfl, rfl, ?_⟩ | refine ⟨_, _, _, rfl, rfl, by (first | exact kb_NoneType_int | exact kb_bool_int | exact kb_int_int | exact kb_str_int | exact kb_tuple_int | exact kb_list_int | exact kb_dict_int | exact kb_NoneType_bool | exact kb_bool_bool | exact kb_int_bool | exact kb_str_bool | exact kb_tuple_bool | exact kb_list_bool | exact kb_dict_bool | exact kb_NoneType_tuple | exact kb_bool_tuple | exact kb_int_tuple | exact kb_str_tuple | exact kb_tuple_tuple | exact kb_list_tuple | exact kb_dict_tuple), ?_⟩ | refine ⟨_, _, _, _, _, rfl, rfl, rfl, rfl, rfl, ?_⟩ | refine iteT ?_ | refine iteF ?_ | refine ⟨(by decide : List.Nodup _), ?_⟩ | refine ⟨rfl, ?_⟩))
        refine ⟨⟨by decide, by decide⟩, ?_⟩
        (repeat (first | refine ⟨_, rfl, Nat.le_of_ble_eq_true rfl, ?_⟩ | refine ⟨_, rfl, ?_⟩ | refine ⟨_, _, rfl, ?_⟩ | refine ⟨_, _, rfl, rfl, ?_⟩ | refine ⟨_, _, _, rfl, rfl, rfl, ?_⟩ | refine ⟨_, _, _, rfl, rfl, by (first | exact kb_NoneType_int | exact kb_bool_int | exact kb_int_int | exact kb_str_int | exact kb_tuple_int | exact kb_list_int | exact kb_dict_int | exact kb_NoneType_bool | exact kb_bool_bool | exact kb_int_bool | exact kb_str_bool | exact kb_tuple_bool | exact kb_list_bool | exact kb_dict_bool | exact kb_NoneType_tuple | exact kb_bool_tuple | exact kb_int_tuple | exact kb_str_tuple | exact kb_tuple_tuple | exact kb_list_tuple | exact kb_dict_tuple), ?_⟩ | refine ⟨_, _, _, _, _, rfl, rfl, rfl, rfl, rfl, ?_⟩ | refine iteT ?_ | refine iteF ?_ | refine ⟨(by decide : List.Nodup _), ?_⟩ | refine ⟨rfl, ?_⟩))
        refine ⟨hm, ?_⟩
        (repeat (first | refine ⟨_, rfl, Nat.le_of_ble_eq_true rfl, ?_⟩ | refine ⟨_, rfl, ?_⟩ | refine ⟨_, _, rfl, ?_⟩ | refine ⟨_, _, rfl, rfl, ?_⟩ | refine ⟨_, _, _, rfl, rfl, rfl, ?_⟩ | refine ⟨_, _, _, rfl, rfl, by (first | exact kb_NoneType_int | exact kb_bool_int | exact kb_int_int | exact kb_str_int | exact kb_tuple_int | exact kb_list_int | exact kb_dict_int | exact kb_NoneType_bool | exact kb_bool_bool | exact kb_int_bool | exact kb_str_bool | exact kb_tuple_bool | exact kb_list_bool | exact kb_dict_bool | exact kb_NoneType_tuple | exact kb_bool_tuple | exact kb_int_tuple | exact kb_str_tuple | exact kb_tuple_tuple | exact kb_list_tuple | exact kb_dict_tuple), ?_⟩ | refine ⟨_, _, _, _, _, rfl, rfl, rfl, rfl, rfl, ?_⟩ | refine iteT ?_ | refine iteF ?_ | refine ⟨(by decide : List.Nodup _), ?_⟩ | refine ⟨rfl, ?_⟩))
        exact rt1 (h (a + 1) ((b * 48271 + 11) % 2147483647) c _ ⟨by have := hw.a0; omega, by omega, by omega⟩ (Int.emod_nonneg _ (by omega)) (Int.emod_lt_of_pos _ hm))
    · have hl : a + 1 ≤ (ns.length : Int) := by simpa using hc2
      obtain ⟨n, hn⟩ := atI_ints (ns := ns) (i := a + 1 - 1) (by have := hw.a0; omega) (by omega)
      (repeat (first | refine ⟨_, rfl, Nat.le_of_ble_eq_true rfl, ?_⟩ | refine ⟨_, rfl, ?_⟩ | refine ⟨_, _, rfl, ?_⟩ | refine ⟨_, _, rfl, rfl, ?_⟩ | refine ⟨_, _, _, rfl, rfl, rfl, ?_⟩ | refine ⟨_, _, _, rfl, rfl, by (first | exact kb_NoneType_int | exact kb_bool_int | exact kb_int_int | exact kb_str_int | exact kb_tuple_int | exact kb_list_int | exact kb_dict_int | exact kb_NoneType_bool | exact kb_bool_bool | exact kb_int_bool | exact kb_str_bool | exact kb_tuple_bool | exact kb_list_bool | exact kb_dict_bool | exact kb_NoneType_tuple | exact kb_bool_tuple | exact kb_int_tuple | exact kb_str_tuple | exact kb_tuple_tuple | exact kb_list_tuple | exact kb_dict_tuple), ?_⟩ | refine ⟨_, _, _, _, _, rfl, rfl, rfl, rfl, rfl, ?_⟩ | refine iteT ?_ | refine iteF ?_ | refine ⟨(by decide : List.Nodup _), ?_⟩ | refine ⟨rfl, ?_⟩))
      refine ⟨_, _, .int n, rfl, rfl, hn, ?_⟩
      (repeat (first | refine ⟨_, rfl, Nat.le_of_ble_eq_true rfl, ?_⟩ | refine ⟨_, rfl, ?_⟩ | refine ⟨_, _, rfl, ?_⟩ | refine ⟨_, _, rfl, rfl, ?_⟩ | refine ⟨_, _, _, rfl, rfl, rfl, ?_⟩ | refine ⟨_, _, _, rfl, rfl, by (first | exact kb_NoneType_int | exact kb_bool_int | exact kb_int_int | exact kb_str_int | exact kb_tuple_int | exact kb_list_int | exact kb_dict_int | exact kb_NoneType_bool | exact kb_bool_bool | exact kb_int_bool | exact kb_str_bool | exact kb_tuple_bool | exact kb_list_bool | exact kb_dict_bool | exact kb_NoneType_tuple | exact kb_bool_tuple | exact kb_int_tuple | exact kb_str_tuple | exact kb_tuple_tuple | exact kb_list_tuple | exact kb_dict_tuple), ?_⟩ | refine ⟨_, _, _, _, _, rfl, rfl, rfl, rfl, rfl, ?_⟩ | refine iteT ?_ | refine iteF ?_ | refine ⟨(by decide : List.Nodup _), ?_⟩ | refine ⟨rfl, ?_⟩))
      refine ⟨hmul, ?_⟩
      (repeat (first | refine ⟨_, rfl, Nat.le_of_ble_eq_true rfl, ?_⟩ | refine ⟨_, rfl, ?_⟩ | refine ⟨_, _, rfl, ?_⟩ | refine ⟨_, _, rfl, rfl, ?_⟩ | refine ⟨_, _, _, rfl, rfl, rfl, ?_⟩ | refine ⟨_, _, _, rfl, rfl, by (first | exact kb_NoneType_int | exact kb_bool_int | exact kb_int_int | exact kb_str_int | exact kb_tuple_int | exact kb_list_int | exact kb_dict_int | exact kb_NoneType_bool | exact kb_bool_bool | exact kb_int_bool | exact kb_str_bool | exact kb_tuple_bool | exact kb_list_bool | exact kb_dict_bool | exact kb_NoneType_tuple | exact kb_bool_tuple | exact kb_int_tuple | exact kb_str_tuple | exact kb_tuple_tuple | exact kb_list_tuple | exact kb_dict_tuple), ?_⟩ | refine ⟨_, _, _, _, _, rfl, rfl, rfl, rfl, rfl, ?_⟩ | refine iteT ?_ | refine iteF ?_ | refine ⟨(by decide : List.Nodup _), ?_⟩ | refine ⟨rfl, ?_⟩))
      refine ⟨h31, ?_⟩
      (repeat (first | refine ⟨_, rfl, Nat.le_of_ble_eq_true rfl, ?_⟩ | refine ⟨_, rfl, ?_⟩ | refine ⟨_, _, rfl, ?_⟩ | refine ⟨_, _, rfl, rfl, ?_⟩ | refine ⟨_, _, _, rfl, rfl, rfl, ?_⟩ | refine ⟨_, _, _, rfl, rfl, by (first | exact kb_NoneType_int | exact kb_bool_int | exact kb_int_int | exact kb_str_int | exact kb_tuple_int | exact kb_list_int | exact kb_dict_int | exact kb_NoneType_bool | exact kb_bool_bool | exact kb_int_bool | exact kb_str_bool | exact kb_tuple_bool | exact kb_list_bool | exact kb_dict_bool | exact kb_NoneType_tuple | exact kb_bool_tuple | exact kb_int_tuple | exact kb_str_tuple | exact kb_tuple_tuple | exact kb_list_tuple | exact kb_dict_tuple), ?_⟩ | refine ⟨_, _, _, _, _, rfl, rfl, rfl, rfl, rfl, ?_⟩ | refine iteT ?_ | refine iteF ?_ | refine ⟨(by decide : List.Nodup _), ?_⟩ | refine ⟨rfl, ?_⟩))
      refine ⟨⟨by decide, by decide, by decide⟩, ?_⟩
      have hok : RowOk (a + 1) ((b * 48271 + n + 11) % 2147483647) := ⟨by have := hw.a0; omega, by omega, by omega⟩
      (repeat (first | refine ⟨_, rfl, Nat.le_of_ble_eq_true rfl, ?_⟩ | refine ⟨_, rfl, ?_⟩ | refine ⟨_, _, rfl, ?_⟩ | refine ⟨_, _, rfl, rfl, ?_⟩ | refine ⟨_, _, _, rfl, rfl, rfl, ?_⟩ | refine ⟨_, _, _, rfl, rfl, by (first | exact kb_NoneType_int | exact kb_bool_int | exact kb_int_int | exact kb_str_int | exact kb_tuple_int | exact kb_list_int | exact kb_dict_int | exact kb_NoneType_bool | exact kb_bool_bool | exact kb_int_bool | exact kb_str_bool | exact kb_tuple_bool | exact kb_list_bool | exact kb_dict_bool | exact kb_NoneType_tuple | exact kb_bool_tuple | exact kb_int_tuple | exact kb_str_tuple | exact kb_tuple_tuple | exact kb_list_tuple | exact kb_dict_tuple), ?_⟩ | refine ⟨_, _, _, _, _, rfl, rfl, rfl, rfl, rfl, ?_⟩ | refine iteT ?_ | refine iteF ?_ | refine ⟨(by decide : List.Nodup _), ?_⟩ | refine ⟨rfl, ?_⟩))
      refine ite2 (fun hc3 => ?_) (fun hc3 => ?_)
      · (repeat (first | refine ⟨_, rfl, Nat.le_of_ble_eq_true rfl, ?_⟩ | refine ⟨_, rfl, ?_⟩ | refine ⟨_, _, rfl, ?_⟩ | refine ⟨_, _, rfl, rfl, ?_⟩ | refine ⟨_, _, _, rfl, rfl, rfl, ?_⟩ | refine ⟨_, _, _, rfl, rfl, by (first | exact kb_NoneType_int | exact kb_bool_int | exact kb_int_int | exact kb_str_int | exact kb_tuple_int | exact kb_list_int | exact kb_dict_int | exact kb_NoneType_bool | exact kb_bool_bool | exact kb_int_bool | exact kb_str_bool | exact kb_tuple_bool | exact kb_list_bool | exact kb_dict_bool | exact kb_NoneType_tuple | exact kb_bool_tuple | exact kb_int_tuple | exact kb_str_tuple | exact kb_tuple_tuple | exact kb_list_tuple | exact kb_dict_tuple), ?_⟩ | refine ⟨_, _, _, _, _, rfl, rfl, rfl, rfl, rfl, ?_⟩ | refine iteT ?_ | refine iteF ?_ | refine ⟨(by decide : List.Nodup _), ?_⟩ | refine ⟨rfl, ?_⟩))
        refine ⟨hdiv _, ?_⟩
        (repeat (first | refine ⟨_, rfl, Nat.le_of_ble_eq_true rfl, ?_⟩ | refine ⟨_, rfl, ?_⟩ | refine ⟨_, _, rfl, ?_⟩ | refine ⟨_, _, rfl, rfl, ?_⟩ | refine ⟨_, _, _, rfl, rfl, rfl, ?_⟩ | refine ⟨_, _, _, rfl, rfl, by (first | exact kb_NoneType_int | exact kb_bool_int | exact kb_int_int | exact kb_str_int | exact kb_tuple_int | exact kb_list_int | exact kb_dict_int | exact kb_NoneType_bool | exact kb_bool_bool | exact kb_int_bool | exact kb_str_bool | exact kb_tuple_bool | exact kb_list_bool | exact kb_dict_bool | exact kb_NoneType_tuple | exact kb_bool_tuple | exact kb_int_tuple | exact kb_str_tuple | exact kb_tuple_tuple | exact kb_list_tuple | exact kb_dict_tuple), ?_⟩ | refine ⟨_, _, _, _, _, rfl, rfl, rfl, rfl, rfl, ?_⟩ | refine iteT ?_ | refine iteF ?_ | refine ⟨(by decide : List.Nodup _), ?_⟩ | refine ⟨rfl, ?_⟩))
        refine ⟨hm, ?_⟩
        exact rt1 (h (a + 1) ((b * 48271 + n + 11) % 2147483647) (n / m) _ hok (Int.emod_nonneg _ (by omega)) (Int.emod_lt_of_pos _ hm))
      · (repeat (first | refine ⟨_, rfl, Nat.le_of_ble_eq_true rfl, ?_⟩ | refine ⟨_, rfl, ?_⟩ | refine ⟨_, _, rfl, ?_⟩ | refine ⟨_, _, rfl, rfl, ?_⟩ | refine ⟨_, _, _, rfl, rfl, rfl, ?_⟩ | refine ⟨_, _, _, rfl, rfl, by (first | exact kb_NoneType_int | exact kb_bool_int | exact kb_int_int | exact kb_str_int | exact kb_tuple_int | exact kb_list_int | exact kb_dict_int | exact kb_NoneType_bool | exact kb_bool_bool | exact kb_int_bool | exact kb_str_bool | exact kb_tuple_bool | exact kb_list_bool | exact kb_dict_bool | exact kb_NoneType_tuple | exact kb_bool_tuple | exact kb_int_tuple | exact kb_str_tuple | exact kb_tuple_tuple | exact kb_list_tuple | exact kb_dict_tuple), ?_⟩ | refine ⟨_, _, _, _, _, rfl, rfl, rfl, rfl, rfl, ?_⟩ | refine iteT ?_ | refine iteF ?_ | refine ⟨(by decide : List.Nodup _), ?_⟩ | refine ⟨rfl, ?_⟩))
        refine ⟨hm, ?_⟩
        exact rt1 (h (a + 1) ((b * 48271 + n + 11) % 2147483647) c _ hok (Int.emod_nonneg _ (by omega)) (Int.emod_lt_of_pos _ hm))
end
end Toss
namespace Toss
open PySem PySem.Spec PyProof.Rows L2 TD He
section
variable {P : Program} {w : World} {K : PySem.W.Frag} {mg : Str → Option Value} {base : Heap}
/-! ### paths drawn -/
/-- pairs that may stand as paths of the places below n, before they are put in order -/
structure PreOk (n : Int) (ps : List (Int × Int)) : Prop where
  rng : ∀ q ∈ ps, 0 ≤ q.1 ∧ q.1 < q.2 ∧ q.2 < n
  nd : ps.Nodup
  up : ∀ v : Int, 1 ≤ v → v < n → ∃ u, (u, v) ∈ ps
  len : ps.length < 20
def d_paths : DSp := fun as Pc _ => ∃ ns a b c m, as = [.own (rowC ns a b c), .fr (.int m)] ∧ RowOk a b ∧ 2 ≤ m ∧ m ≤ 6 ∧ ∀ a' b' c' ps, RowOk a' b' → PreOk m ps → ps.Pairwise (fun p q => ltPr q p = false) → Pc [rowC ns a' b' c'] (.fr (.tup (ps.map prD)))
theorem ok_paths (V : Ev K mg) (o__law_taken : DefOk P w K mg base 1 "_law_taken" ["_law_row", "_law_many"] d_taken) : DefOk P w K mg base 2 "_law_paths" ["_law_row", "_law_many"] d_paths := by
  refine V.D__law_paths.ok sc__law_paths 1 (fun as Pc Xc ⟨ns, a, b, c, m, e, _⟩ => by subst e; exact ⟨rfl, rfl⟩) ?_
  intro f cdv A outer s H E B as Pc Xc h hB hr tk hp
  refine ⟨_, ((dss_cons (ds_set (i := 2) sc__law_paths.nd (de_lstO da_nil)) (dss_cons (ds_for hp (di_range2 V.g_range (da_cons de_int (da_cons (dv 1) da_nil))) (dg_name 3 sc__law_paths.nd) (dss_gc (dss_one (ds_expr (de_append (dv 2) (da_cons (de_tup (da_cons (de_callD o__law_taken (L2.Room.mono hr (by decide)) tk (da_cons (dv 0) (da_cons (dv 3) da_nil))) (da_cons (dv 3) da_nil))) da_nil)))))) (dss_cons (ds_for hp (di_range1 V.g_range (da_cons (de_callD o__law_taken (L2.Room.mono hr (by decide)) tk (da_cons (dv 0) (da_cons de_int da_nil))) da_nil)) (dg_name 4 sc__law_paths.nd) (dss_gc (dss_cons (ds_par (i := 5) (j := 6) sc__law_paths.nd (da_cons (de_callD o__law_taken (L2.Room.mono hr (by decide)) tk (da_cons (dv 0) (da_cons (dv 1) da_nil))) (da_cons (de_callD o__law_taken (L2.Room.mono hr (by decide)) tk (da_cons (dv 0) (da_cons (dv 1) da_nil))) da_nil))) (dss_one (ds_if (dt_and (dw_and (dt_ne (hu64 hr) (dv 5) (dv 6)) (dw_and1 (dt_notinDD (hu65 hr) (de_tup (da_cons (de_min2 V.g_min (da_cons (dv 5) (da_cons (dv 6) da_nil))) (da_cons (de_max2 V.g_max (da_cons (dv 5) (da_cons (dv 6) da_nil))) da_nil))) (dv 2))))) (dss_one (ds_expr (de_append (dv 2) (da_cons (de_tup (da_cons (de_min2 V.g_min (da_cons (dv 5) (da_cons (dv 6) da_nil))) (da_cons (de_max2 V.g_max (da_cons (dv 5) (da_cons (dv 6) da_nil))) da_nil))) da_nil)))) dss_nil))))) (dss_one (ds_ret (de_tuple V.g_tuple (da_cons (de_sortedP V.g_sorted (da_cons (dv 2) da_nil)) da_nil)))))))), ?_⟩
  obtain ⟨ns, a, b, c, m, rfl, hw, hm, hm2, h⟩ := h
  (repeat (first | refine ⟨_, rfl, Nat.le_of_ble_eq_true rfl, ?_⟩ | refine ⟨_, rfl, ?_⟩ | refine ⟨_, _, rfl, ?_⟩ | refine ⟨_, _, rfl, rfl, ?_⟩ | refine ⟨_, _, _, rfl, rfl, rfl, ?_⟩ | refine ⟨_, _, _, rfl, rfl, by (first | exact kb_NoneType_int | exact kb_bool_int | exact kb_int_int | exact kb_str_int | exact kb_tuple_int | exact kb_list_int | exact kb_dict_int | exact kb_NoneType_bool | exact kb_bool_bool | exact kb_int_bool | exact kb_str_bool | exact kb_tuple_bool | exact kb_list_bool | exact kb_dict_bool | exact kb_NoneType_tuple | exact kb_bool_tuple | exact kb_int_tuple | exact kb_str_tuple | exact kb_tuple_tuple | exact kb_list_tuple | exact kb_dict_tuple), ?_⟩ | refine ⟨_, _, _, _, _, rfl, rfl, rfl, rfl, rfl, ?_⟩ | refine iteT ?_ | refine iteF ?_ | refine ⟨(by decide : List.Nodup _), ?_⟩ | refine ⟨rfl, ?_⟩))
  refine ⟨⟨by omega, by omega, by omega, by omega⟩, ?_⟩
  refine ⟨fun i S => ∃ a b c ps s3, S = ⟨[some (.cell 0), some (.fr (.int m)), some (.cell 1), s3, none, none, none], [some (rowC ns a b c), some (.lst (ps.map prD))]⟩ ∧ RowOk a b ∧ PreOk (i + 1) ps ∧ ps.length = i,
    ⟨a, b, c, [], none, rfl, hw, ⟨by simp, List.nodup_nil, fun v h1 h2 => by omega, by decide⟩, rfl⟩, ?_, ?_⟩
  · rintro i d S1 hd ⟨a, b, c, ps, s3, rfl, hw, hp1, hl⟩
    obtain ⟨hi, rfl⟩ := rngD_get hd
    have hi' : (i : Int) < m - 1 := by omega
    (repeat (first | refine ⟨_, rfl, Nat.le_of_ble_eq_true rfl, ?_⟩ | refine ⟨_, rfl, ?_⟩ | refine ⟨_, _, rfl, ?_⟩ | refine ⟨_, _, rfl, rfl, ?_⟩ | refine ⟨_, _, _, rfl, rfl, rfl, ?_⟩ | refine ⟨_, _, _, rfl, rfl, by (first | exact kb_NoneType_int | exact kb_bool_int | exact kb_int_int | exact kb_str_int | exact kb_tuple_int | exact kb_list_int | exact kb_dict_int | exact kb_NoneType_bool | exact kb_bool_bool | exact kb_int_bool | exact kb_str_bool | exact kb_tuple_bool | exact kb_list_bool | exact kb_dict_bool | exact kb_NoneType_tuple | exact kb_bool_tuple | exact kb_int_tuple | exact kb_str_tuple | exact kb_tuple_tuple | exact kb_list_tuple | exact kb_dict_tuple), ?_⟩ | refine ⟨_, _, _, _, _, rfl, rfl, rfl, rfl, rfl, ?_⟩ | refine iteT ?_ | refine iteF ?_ | refine ⟨(by decide : List.Nodup _), ?_⟩ | refine ⟨rfl, ?_⟩))
    refine ⟨ns, a, b, c, _, rfl, hw, by omega, by omega, fun a' b' c' r hw' h0 h1 => ?_⟩
    (repeat (first | refine ⟨_, rfl, Nat.le_of_ble_eq_true rfl, ?_⟩ | refine ⟨_, rfl, ?_⟩ | refine ⟨_, _, rfl, ?_⟩ | refine ⟨_, _, rfl, rfl, ?_⟩ | refine ⟨_, _, _, rfl, rfl, rfl, ?_⟩ | refine ⟨_, _, _, rfl, rfl, by (first | exact kb_NoneType_int | exact kb_bool_int | exact kb_int_int | exact kb_str_int | exact kb_tuple_int | exact kb_list_int | exact kb_dict_int | exact kb_NoneType_bool | exact kb_bool_bool | exact kb_int_bool | exact kb_str_bool | exact kb_tuple_bool | exact kb_list_bool | exact kb_dict_bool | exact kb_NoneType_tuple | exact kb_bool_tuple | exact kb_int_tuple | exact kb_str_tuple | exact kb_tuple_tuple | exact kb_list_tuple | exact kb_dict_tuple), ?_⟩ | refine ⟨_, _, _, _, _, rfl, rfl, rfl, rfl, rfl, ?_⟩ | refine iteT ?_ | refine iteF ?_ | refine ⟨(by decide : List.Nodup _), ?_⟩ | refine ⟨rfl, ?_⟩))
    refine ⟨by simp; omega, ?_⟩
    refine ⟨a', b', c', ps ++ [(r, 1 + (i : Int))], some (.fr (.int (1 + (i : Int)))), ?_, hw', ?_, by simp [hl]⟩
    · rw [List.map_append]; rfl
    · refine ⟨fun q hq => ?_, ?_, fun v h1' h2 => ?_, by simp [hl]; omega⟩
      · rcases List.mem_append.mp hq with hq | hq
        · have := hp1.rng q hq; omega
        · rw [List.mem_singleton.mp hq]; simp; omega
      · refine List.nodup_append.mpr ⟨hp1.nd, by simp, fun x hx y hy e => ?_⟩
        rw [List.mem_singleton.mp hy] at e
        have := (hp1.rng x hx).2.2
        rw [e] at this
        simp at this
        omega
      · by_cases hv : v < i + 1
        · obtain ⟨u, hu⟩ := hp1.up v h1' hv
          exact ⟨u, List.mem_append_left _ hu⟩
        · have : v = 1 + (i : Int) := by omega
          exact ⟨r, List.mem_append_right _ (by rw [this]; simp)⟩
  · rintro S1 ⟨a, b, c, ps, s3, rfl, hw, hp1, hl⟩
    rw [rngD_length] at hp1 hl
    have hn : ((m - 1).toNat : Int) + 1 = m := by omega
    rw [hn] at hp1
    (repeat (first | refine ⟨_, rfl, Nat.le_of_ble_eq_true rfl, ?_⟩ | refine ⟨_, rfl, ?_⟩ | refine ⟨_, _, rfl, ?_⟩ | refine ⟨_, _, rfl, rfl, ?_⟩ | refine ⟨_, _, _, rfl, rfl, rfl, ?_⟩ | refine ⟨_, _, _, rfl, rfl, by (first | exact kb_NoneType_int | exact kb_bool_int | exact kb_int_int | exact kb_str_int | exact kb_tuple_int | exact kb_list_int | exact kb_dict_int | exact kb_NoneType_bool | exact kb_bool_bool | exact kb_int_bool | exact kb_str_bool | exact kb_tuple_bool | exact kb_list_bool | exact kb_dict_bool | exact kb_NoneType_tuple | exact kb_bool_tuple | exact kb_int_tuple | exact kb_str_tuple | exact kb_tuple_tuple | exact kb_list_tuple | exact kb_dict_tuple), ?_⟩ | refine ⟨_, _, _, _, _, rfl, rfl, rfl, rfl, rfl, ?_⟩ | refine iteT ?_ | refine iteF ?_ | refine ⟨(by decide : List.Nodup _), ?_⟩ | refine ⟨rfl, ?_⟩))
    refine ⟨ns, a, b, c, _, rfl, hw, by omega, by omega, fun a b c r hw h0 h1 => ?_⟩
    (repeat (first | refine ⟨_, rfl, Nat.le_of_ble_eq_true rfl, ?_⟩ | refine ⟨_, rfl, ?_⟩ | refine ⟨_, _, rfl, ?_⟩ | refine ⟨_, _, rfl, rfl, ?_⟩ | refine ⟨_, _, _, rfl, rfl, rfl, ?_⟩ | refine ⟨_, _, _, rfl, rfl, by (first | exact kb_NoneType_int | exact kb_bool_int | exact kb_int_int | exact kb_str_int | exact kb_tuple_int | exact kb_list_int | exact kb_dict_int | exact kb_NoneType_bool | exact kb_bool_bool | exact kb_int_bool | exact kb_str_bool | exact kb_tuple_bool | exact kb_list_bool | exact kb_dict_bool | exact kb_NoneType_tuple | exact kb_bool_tuple | exact kb_int_tuple | exact kb_str_tuple | exact kb_tuple_tuple | exact kb_list_tuple | exact kb_dict_tuple), ?_⟩ | refine ⟨_, _, _, _, _, rfl, rfl, rfl, rfl, rfl, ?_⟩ | refine iteT ?_ | refine iteF ?_ | refine ⟨(by decide : List.Nodup _), ?_⟩ | refine ⟨rfl, ?_⟩))
    refine ⟨by omega, by omega, ?_⟩
    refine ⟨fun i S => ∃ a b c ps ds s3 s4 s5 s6, S = ⟨[some (.cell 0), some (.fr (.int m)), some (.cell 1), s3, s4, s5, s6], [some (rowC ns a b c), some (.lst ds)]⟩ ∧ ds = ps.map prD ∧ RowOk a b ∧ PreOk m ps ∧ ps.length ≤ 5 + i,
      ⟨a, b, c, ps, _, s3, none, none, none, rfl, rfl, hw, hp1, by omega⟩, ?_, ?_⟩
    · rintro i d S1 hd ⟨a, b, c, ps, _, s3, s4, s5, s6, rfl, rfl, hw, hp1, hl⟩
      obtain ⟨hi, rfl⟩ := rngD_get hd
      have hi' : i < 4 := by omega
      (repeat (first | refine ⟨_, rfl, Nat.le_of_ble_eq_true rfl, ?_⟩ | refine ⟨_, rfl, ?_⟩ | refine ⟨_, _, rfl, ?_⟩ | refine ⟨_, _, rfl, rfl, ?_⟩ | refine ⟨_, _, _, rfl, rfl, rfl, ?_⟩ | refine ⟨_, _, _, rfl, rfl, by (first | exact kb_NoneType_int | exact kb_bool_int | exact kb_int_int | exact kb_str_int | exact kb_tuple_int | exact kb_list_int | exact kb_dict_int | exact kb_NoneType_bool | exact kb_bool_bool | exact kb_int_bool | exact kb_str_bool | exact kb_tuple_bool | exact kb_list_bool | exact kb_dict_bool | exact kb_NoneType_tuple | exact kb_bool_tuple | exact kb_int_tuple | exact kb_str_tuple | exact kb_tuple_tuple | exact kb_list_tuple | exact kb_dict_tuple), ?_⟩ | refine ⟨_, _, _, _, _, rfl, rfl, rfl, rfl, rfl, ?_⟩ | refine iteT ?_ | refine iteF ?_ | refine ⟨(by decide : List.Nodup _), ?_⟩ | refine ⟨rfl, ?_⟩))
      refine ⟨ns, a, b, c, _, rfl, hw, by omega, by omega, fun a b c x hw hx0 hx1 => ?_⟩
      (repeat (first | refine ⟨_, rfl, Nat.le_of_ble_eq_true rfl, ?_⟩ | refine ⟨_, rfl, ?_⟩ | refine ⟨_, _, rfl, ?_⟩ | refine ⟨_, _, rfl, rfl, ?_⟩ | refine ⟨_, _, _, rfl, rfl, rfl, ?_⟩ | refine ⟨_, _, _, rfl, rfl, by (first | exact kb_NoneType_int | exact kb_bool_int | exact kb_int_int | exact kb_str_int | exact kb_tuple_int | exact kb_list_int | exact kb_dict_int | exact kb_NoneType_bool | exact kb_bool_bool | exact kb_int_bool | exact kb_str_bool | exact kb_tuple_bool | exact kb_list_bool | exact kb_dict_bool | exact kb_NoneType_tuple | exact kb_bool_tuple | exact kb_int_tuple | exact kb_str_tuple | exact kb_tuple_tuple | exact kb_list_tuple | exact kb_dict_tuple), ?_⟩ | refine ⟨_, _, _, _, _, rfl, rfl, rfl, rfl, rfl, ?_⟩ | refine iteT ?_ | refine iteF ?_ | refine ⟨(by decide : List.Nodup _), ?_⟩ | refine ⟨rfl, ?_⟩))
      refine ⟨ns, a, b, c, _, rfl, hw, by omega, by omega, fun a b c y hw hy0 hy1 => ?_⟩
      (repeat (first | refine ⟨_, rfl, Nat.le_of_ble_eq_true rfl, ?_⟩ | refine ⟨_, rfl, ?_⟩ | refine ⟨_, _, rfl, ?_⟩ | refine ⟨_, _, rfl, rfl, ?_⟩ | refine ⟨_, _, _, rfl, rfl, rfl, ?_⟩ | refine ⟨_, _, _, rfl, rfl, by (first | exact kb_NoneType_int | exact kb_bool_int | exact kb_int_int | exact kb_str_int | exact kb_tuple_int | exact kb_list_int | exact kb_dict_int | exact kb_NoneType_bool | exact kb_bool_bool | exact kb_int_bool | exact kb_str_bool | exact kb_tuple_bool | exact kb_list_bool | exact kb_dict_bool | exact kb_NoneType_tuple | exact kb_bool_tuple | exact kb_int_tuple | exact kb_str_tuple | exact kb_tuple_tuple | exact kb_list_tuple | exact kb_dict_tuple), ?_⟩ | refine ⟨_, _, _, _, _, rfl, rfl, rfl, rfl, rfl, ?_⟩ | refine iteT ?_ | refine iteF ?_ | refine ⟨(by decide : List.Nodup _), ?_⟩ | refine ⟨rfl, ?_⟩))
      refine ⟨_, _, _, _, rfl, rfl, rfl, rfl, rfl, rfl, _, rfl, ?_⟩
      refine ite2 (fun hc => ?_) (fun hc => ?_)
      · have hxy : x ≠ y := by
          intro e
          subst e
          simp [eqv_int] at hc
        have hq : ∀ q : Int × Int, q = ((if y < x then y else x), (if y > x then y else x)) → 0 ≤ q.1 ∧ q.1 < q.2 ∧ q.2 < m := by
          rintro q rfl
          refine ⟨?_, ?_, ?_⟩ <;> (dsimp only; split <;> (try split) <;> omega)
        (repeat (first | refine ⟨_, rfl, Nat.le_of_ble_eq_true rfl, ?_⟩ | refine ⟨_, rfl, ?_⟩ | refine ⟨_, _, rfl, ?_⟩ | refine ⟨_, _, rfl, rfl, ?_⟩ | refine ⟨_, _, _, rfl, rfl, rfl, ?_⟩ | refine ⟨_, _, _, rfl, rfl, by (first | exact kb_NoneType_int | exact kb_bool_int | exact kb_int_int | exact kb_str_int | exact kb_tuple_int | exact kb_list_int | exact kb_dict_int | exact kb_NoneType_bool | exact kb_bool_bool | exact kb_int_bool | exact kb_str_bool | exact kb_tuple_bool | exact kb_list_bool | exact kb_dict_bool | exact kb_NoneType_tuple | exact kb_bool_tuple | exact kb_int_tuple | exact kb_str_tuple | exact kb_tuple_tuple | exact kb_list_tuple | exact kb_dict_tuple), ?_⟩ | refine ⟨_, _, _, _, _, rfl, rfl, rfl, rfl, rfl, ?_⟩ | refine iteT ?_ | refine iteF ?_ | refine ⟨(by decide : List.Nodup _), ?_⟩ | refine ⟨rfl, ?_⟩))
        refine ⟨_, _, _, _, rfl, rfl, pyD_pr ((if y < x then y else x), (if y > x then y else x)), pyD_prs ps, shaped_pr _, shaped_prs ps, _, rfl, ?_⟩
        refine ite2 (fun hc2 => ?_) (fun hc2 => ?_)
        · have hn : ((if y < x then y else x), (if y > x then y else x)) ∉ ps := by
            intro hm'
            rw [if_pos rfl, any_pr] at hc2
            simp [hm'] at hc2
          (repeat (first | refine ⟨_, rfl, Nat.le_of_ble_eq_true rfl, ?_⟩ | refine ⟨_, rfl, ?_⟩ | refine ⟨_, _, rfl, ?_⟩ | refine ⟨_, _, rfl, rfl, ?_⟩ | refine ⟨_, _, _, rfl, rfl, rfl, ?_⟩ | refine ⟨_, _, _, rfl, rfl, by (first | exact kb_NoneType_int | exact kb_bool_int | exact kb_int_int | exact kb_str_int | exact kb_tuple_int | exact kb_list_int | exact kb_dict_int | exact kb_NoneType_bool | exact kb_bool_bool | exact kb_int_bool | exact kb_str_bool | exact kb_tuple_bool | exact kb_list_bool | exact kb_dict_bool | exact kb_NoneType_tuple | exact kb_bool_tuple | exact kb_int_tuple | exact kb_str_tuple | exact kb_tuple_tuple | exact kb_list_tuple | exact kb_dict_tuple), ?_⟩ | refine ⟨_, _, _, _, _, rfl, rfl, rfl, rfl, rfl, ?_⟩ | refine iteT ?_ | refine iteF ?_ | refine ⟨(by decide : List.Nodup _), ?_⟩ | refine ⟨rfl, ?_⟩))
          refine ⟨by simp; omega, ?_⟩
          refine ⟨a, b, c, ps ++ [((if y < x then y else x), (if y > x then y else x))], _, _, _, _, _, rfl, ?_, hw, ⟨fun q hm' => ?_, ?_, fun v h1' h2 => ?_, by simp; omega⟩, by simp; omega⟩
          rotate_left
          · rcases List.mem_append.mp hm' with hm' | hm'
            · exact hp1.rng q hm'
            · exact hq q (List.mem_singleton.mp hm')
          · refine List.nodup_append.mpr ⟨hp1.nd, by simp, fun z hz w' hw' e => ?_⟩
            rw [List.mem_singleton.mp hw'] at e
            rw [e] at hz
            exact hn hz
          · obtain ⟨u, hu⟩ := hp1.up v h1' h2
            exact ⟨u, List.mem_append_left _ hu⟩
          · rw [List.map_append]; rfl
        · exact ⟨a, b, c, ps, _, _, _, _, _, rfl, rfl, hw, hp1, by omega⟩
      · refine iteF ?_
        exact ⟨a, b, c, ps, _, _, _, _, _, rfl, rfl, hw, hp1, by omega⟩
    · rintro S1 ⟨a, b, c, ps, _, s3, s4, s5, s6, rfl, rfl, hw, hp1, hl⟩
      (repeat (first | refine ⟨_, rfl, Nat.le_of_ble_eq_true rfl, ?_⟩ | refine ⟨_, rfl, ?_⟩ | refine ⟨_, _, rfl, ?_⟩ | refine ⟨_, _, rfl, rfl, ?_⟩ | refine ⟨_, _, _, rfl, rfl, rfl, ?_⟩ | refine ⟨_, _, _, rfl, rfl, by (first | exact kb_NoneType_int | exact kb_bool_int | exact kb_int_int | exact kb_str_int | exact kb_tuple_int | exact kb_list_int | exact kb_dict_int | exact kb_NoneType_bool | exact kb_bool_bool | exact kb_int_bool | exact kb_str_bool | exact kb_tuple_bool | exact kb_list_bool | exact kb_dict_bool | exact kb_NoneType_tuple | exact kb_bool_tuple | exact kb_int_tuple | exact kb_str_tuple | exact kb_tuple_tuple | exact kb_list_tuple | exact kb_dict_tuple), ?_⟩ | refine ⟨_, _, _, _, _, rfl, rfl, rfl, rfl, rfl, ?_⟩ | refine iteT ?_ | refine iteF ?_ | refine ⟨(by decide : List.Nodup _), ?_⟩ | refine ⟨rfl, ?_⟩))
      intro qs hperm hsort
      (repeat (first | refine ⟨_, rfl, Nat.le_of_ble_eq_true rfl, ?_⟩ | refine ⟨_, rfl, ?_⟩ | refine ⟨_, _, rfl, ?_⟩ | refine ⟨_, _, rfl, rfl, ?_⟩ | refine ⟨_, _, _, rfl, rfl, rfl, ?_⟩ | refine ⟨_, _, _, rfl, rfl, by (first | exact kb_NoneType_int | exact kb_bool_int | exact kb_int_int | exact kb_str_int | exact kb_tuple_int | exact kb_list_int | exact kb_dict_int | exact kb_NoneType_bool | exact kb_bool_bool | exact kb_int_bool | exact kb_str_bool | exact kb_tuple_bool | exact kb_list_bool | exact kb_dict_bool | exact kb_NoneType_tuple | exact kb_bool_tuple | exact kb_int_tuple | exact kb_str_tuple | exact kb_tuple_tuple | exact kb_list_tuple | exact kb_dict_tuple), ?_⟩ | refine ⟨_, _, _, _, _, rfl, rfl, rfl, rfl, rfl, ?_⟩ | refine iteT ?_ | refine iteF ?_ | refine ⟨(by decide : List.Nodup _), ?_⟩ | refine ⟨rfl, ?_⟩))
      refine rt1 (h a b c qs hw ⟨fun q hq => hp1.rng q (hperm.mem_iff.mp hq), hperm.nodup_iff.mpr hp1.nd, fun v h1 h2 => ?_, by rw [hperm.length_eq]; exact hp1.len⟩ hsort)
      obtain ⟨u, hu⟩ := hp1.up v h1 h2
      exact ⟨u, hperm.mem_iff.mpr hu⟩
end
end Toss
namespace Toss
open PySem PySem.Spec PyProof.Rows L2 TD He
/-! ### games drawn -/
structure Gm where
  coin : Int × Int
  paths : List (Int × Int)
  pays : List (Int × Int)
  road : Int × Int
  many : Int
def dKeys : List Key := [.inr "coin", .inr "paths", .inr "pays", .inr "road", .inr "many"]
def Gm.d (g : Gm) : D := .dic dKeys [prD g.coin, .tup (g.paths.map prD), .tup (g.pays.map prD), prD g.road, .int g.many]
structure Gm.Ok (g : Gm) : Prop where
  m2 : 2 ≤ g.many
  m6 : g.many ≤ 6
  coin : 1 ≤ g.coin.1 ∧ g.coin.1 ≤ 9 ∧ 1 ≤ g.coin.2 ∧ g.coin.2 ≤ 9
  paths : PreOk g.many g.paths
  srt : g.paths.Pairwise (fun p q => ltPr q p = false)
  pays : ∀ q ∈ g.pays, 0 ≤ q.1 ∧ q.1 < g.many ∧ -20 ≤ q.2 ∧ q.2 ≤ 20
  pSrt : g.pays.Pairwise (fun p q => p.1 < q.1)
  pLen : g.pays.length ≤ 6
  road : 0 ≤ g.road.1 ∧ g.road.1 < g.many ∧ -20 ≤ g.road.2 ∧ g.road.2 ≤ 20
  free : ∀ q ∈ g.pays, q.1 ≠ g.road.1
def d_drawn : DSp := fun as Pc _ => ∃ ns a b c, as = [.own (rowC ns a b c)] ∧ RowOk a b ∧ ∀ a' b' c' g, RowOk a' b' → Gm.Ok g → Pc [rowC ns a' b' c'] (.fr g.d)
theorem coin_at {r : Int} (h0 : 0 ≤ r) (h1 : r < 6) : ∃ p : Int × Int, atI [D.tup [.int 1, .int 1], .tup [.int 2, .int 1], .tup [.int 1, .int 2], .tup [.int 3, .int 1], .tup [.int 2, .int 3], .tup [.int 3, .int 2]] r = some (prD p) ∧ (1 ≤ p.1 ∧ p.1 ≤ 9 ∧ 1 ≤ p.2 ∧ p.2 ≤ 9) := by
  have : r = 0 ∨ r = 1 ∨ r = 2 ∨ r = 3 ∨ r = 4 ∨ r = 5 := by omega
  rcases this with rfl | rfl | rfl | rfl | rfl | rfl
  · exact ⟨(1, 1), rfl, by decide⟩
  · exact ⟨(2, 1), rfl, by decide⟩
  · exact ⟨(1, 2), rfl, by decide⟩
  · exact ⟨(3, 1), rfl, by decide⟩
  · exact ⟨(2, 3), rfl, by decide⟩
  · exact ⟨(3, 2), rfl, by decide⟩
theorem pay_at {r : Int} (h0 : 0 ≤ r) (h1 : r < 7) : ∃ p : Int, atI [D.int 0, .int 12, .int 5, .int (0 - 6), .int 1, .int 20, .int (0 - 20)] r = some (.int p) ∧ -20 ≤ p ∧ p ≤ 20 := by
  have : r = 0 ∨ r = 1 ∨ r = 2 ∨ r = 3 ∨ r = 4 ∨ r = 5 ∨ r = 6 := by omega
  rcases this with rfl | rfl | rfl | rfl | rfl | rfl | rfl
  · exact ⟨0, rfl, by decide⟩
  · exact ⟨12, rfl, by decide⟩
  · exact ⟨5, rfl, by decide⟩
  · exact ⟨-6, rfl, by decide⟩
  · exact ⟨1, rfl, by decide⟩
  · exact ⟨20, rfl, by decide⟩
  · exact ⟨-20, rfl, by decide⟩
theorem road_at {r : Int} (h0 : 0 ≤ r) (h1 : r < 6) : ∃ p : Int, atI [D.int 12, .int 0, .int (0 - 4), .int 20, .int 3, .int (0 - 20)] r = some (.int p) ∧ -20 ≤ p ∧ p ≤ 20 := by
  have : r = 0 ∨ r = 1 ∨ r = 2 ∨ r = 3 ∨ r = 4 ∨ r = 5 := by omega
  rcases this with rfl | rfl | rfl | rfl | rfl | rfl
  · exact ⟨12, rfl, by decide⟩
  · exact ⟨0, rfl, by decide⟩
  · exact ⟨-4, rfl, by decide⟩
  · exact ⟨20, rfl, by decide⟩
  · exact ⟨3, rfl, by decide⟩
  · exact ⟨-20, rfl, by decide⟩
section
variable {P : Program} {w : World} {K : PySem.W.Frag} {mg : Str → Option Value} {base : Heap}
theorem ok_drawn (V : Ev K mg) (o__law_taken : DefOk P w K mg base 1 "_law_taken" ["_law_row", "_law_many"] d_taken) (o__law_paths : DefOk P w K mg base 2 "_law_paths" ["_law_row", "_law_many"] d_paths) : DefOk P w K mg base 3 "_law_drawn" ["_law_row"] d_drawn := by
  refine V.D__law_drawn.ok sc__law_drawn 1 (fun as Pc Xc ⟨ns, a, b, c, e, _⟩ => by subst e; exact ⟨rfl, rfl⟩) ?_
  intro f cdv A outer s H E B as Pc Xc h hB hr tk hp
  refine ⟨_, ((dss_cons (ds_set (i := 1) sc__law_drawn.nd (de_add de_int (de_callD o__law_taken (L2.Room.mono hr (by decide)) tk (da_cons (dv 0) (da_cons de_int da_nil))))) (dss_cons (ds_set (i := 2) sc__law_drawn.nd (de_ix (de_lst (da_cons (de_tup (da_cons de_int (da_cons de_int da_nil))) (da_cons (de_tup (da_cons de_int (da_cons de_int da_nil))) (da_cons (de_tup (da_cons de_int (da_cons de_int da_nil))) (da_cons (de_tup (da_cons de_int (da_cons de_int da_nil))) (da_cons (de_tup (da_cons de_int (da_cons de_int da_nil))) (da_cons (de_tup (da_cons de_int (da_cons de_int da_nil))) da_nil))))))) (de_callD o__law_taken (L2.Room.mono hr (by decide)) tk (da_cons (dv 0) (da_cons de_int da_nil))))) (dss_cons (ds_par (i := 3) (j := 4) sc__law_drawn.nd (da_cons (de_callD o__law_taken (L2.Room.mono hr (by decide)) tk (da_cons (dv 0) (da_cons (dv 1) da_nil))) (da_cons (de_lstO da_nil) da_nil))) (dss_cons (ds_for hp (di_range1 V.g_range (da_cons (dv 1) da_nil)) (dg_name 5 sc__law_drawn.nd) (dss_gc (dss_one (ds_if (dt_and (dw_and (dt_ne (hu64 hr) (dv 5) (dv 3)) (dw_and1 (dt_eq (hu64 hr) (de_callD o__law_taken (L2.Room.mono hr (by decide)) tk (da_cons (dv 0) (da_cons de_int da_nil))) de_int)))) (dss_one (ds_expr (de_append (dv 4) (da_cons (de_tup (da_cons (dv 5) (da_cons (de_ix (de_lst (da_cons de_int (da_cons de_int (da_cons de_int (da_cons (de_sub de_int de_int) (da_cons de_int (da_cons de_int (da_cons (de_sub de_int de_int) da_nil)))))))) (de_callD o__law_taken (L2.Room.mono hr (by decide)) tk (da_cons (dv 0) (da_cons de_int da_nil)))) da_nil))) da_nil)))) dss_nil)))) (dss_cons (ds_set (i := 6) sc__law_drawn.nd (de_tup (da_cons (dv 3) (da_cons (de_ix (de_lst (da_cons de_int (da_cons de_int (da_cons (de_sub de_int de_int) (da_cons de_int (da_cons de_int (da_cons (de_sub de_int de_int) da_nil))))))) (de_callD o__law_taken (L2.Room.mono hr (by decide)) tk (da_cons (dv 0) (da_cons de_int da_nil)))) da_nil)))) (dss_one (ds_ret (de_frzL (de_disp (.cons de_str (dv 2) (.cons de_str (de_callD o__law_paths (L2.Room.mono hr (by decide)) tk (da_cons (dv 0) (da_cons (dv 1) da_nil))) (.cons de_str (de_tuple V.g_tuple (da_cons (dv 4) da_nil)) (.cons de_str (dv 6) (.cons de_str (dv 1) .nil))))))))))))))), ?_⟩
  obtain ⟨ns, a, b, c, rfl, hw, h⟩ := h
  (repeat (first | refine ⟨_, rfl, Nat.le_of_ble_eq_true rfl, ?_⟩ | refine ⟨_, rfl, ?_⟩ | refine ⟨_, _, rfl, ?_⟩ | refine ⟨_, _, rfl, rfl, ?_⟩ | refine ⟨_, _, _, rfl, rfl, rfl, ?_⟩ | refine ⟨_, _, _, rfl, rfl, by (first | exact kb_NoneType_int | exact kb_bool_int | exact kb_int_int | exact kb_str_int | exact kb_tuple_int | exact kb_list_int | exact kb_dict_int | exact kb_NoneType_bool | exact kb_bool_bool | exact kb_int_bool | exact kb_str_bool | exact kb_tuple_bool | exact kb_list_bool | exact kb_dict_bool | exact kb_NoneType_tuple | exact kb_bool_tuple | exact kb_int_tuple | exact kb_str_tuple | exact kb_tuple_tuple | exact kb_list_tuple | exact kb_dict_tuple), ?_⟩ | refine ⟨_, _, _, _, _, rfl, rfl, rfl, rfl, rfl, ?_⟩ | refine iteT ?_ | refine iteF ?_ | refine ⟨(by decide : List.Nodup _), ?_⟩ | refine ⟨rfl, ?_⟩))
  refine ⟨ns, a, b, c, _, rfl, hw, by omega, by omega, fun a b c m0 hw hm0 hm1 => ?_⟩
  (repeat (first | refine ⟨_, rfl, Nat.le_of_ble_eq_true rfl, ?_⟩ | refine ⟨_, rfl, ?_⟩ | refine ⟨_, _, rfl, ?_⟩ | refine ⟨_, _, rfl, rfl, ?_⟩ | refine ⟨_, _, _, rfl, rfl, rfl, ?_⟩ | refine ⟨_, _, _, rfl, rfl, by (first | exact kb_NoneType_int | exact kb_bool_int | exact kb_int_int | exact kb_str_int | exact kb_tuple_int | exact kb_list_int | exact kb_dict_int | exact kb_NoneType_bool | exact kb_bool_bool | exact kb_int_bool | exact kb_str_bool | exact kb_tuple_bool | exact kb_list_bool | exact kb_dict_bool | exact kb_NoneType_tuple | exact kb_bool_tuple | exact kb_int_tuple | exact kb_str_tuple | exact kb_tuple_tuple | exact kb_list_tuple | exact kb_dict_tuple), ?_⟩ | refine ⟨_, _, _, _, _, rfl, rfl, rfl, rfl, rfl, ?_⟩ | refine iteT ?_ | refine iteF ?_ | refine ⟨(by decide : List.Nodup _), ?_⟩ | refine ⟨rfl, ?_⟩))
  refine ⟨ns, a, b, c, _, rfl, hw, by omega, by omega, fun a b c r hw h0 h1 => ?_⟩
  (repeat (first | refine ⟨_, rfl, Nat.le_of_ble_eq_true rfl, ?_⟩ | refine ⟨_, rfl, ?_⟩ | refine ⟨_, _, rfl, ?_⟩ | refine ⟨_, _, rfl, rfl, ?_⟩ | refine ⟨_, _, _, rfl, rfl, rfl, ?_⟩ | refine ⟨_, _, _, rfl, rfl, by (first | exact kb_NoneType_int | exact kb_bool_int | exact kb_int_int | exact kb_str_int | exact kb_tuple_int | exact kb_list_int | exact kb_dict_int | exact kb_NoneType_bool | exact kb_bool_bool | exact kb_int_bool | exact kb_str_bool | exact kb_tuple_bool | exact kb_list_bool | exact kb_dict_bool | exact kb_NoneType_tuple | exact kb_bool_tuple | exact kb_int_tuple | exact kb_str_tuple | exact kb_tuple_tuple | exact kb_list_tuple | exact kb_dict_tuple), ?_⟩ | refine ⟨_, _, _, _, _, rfl, rfl, rfl, rfl, rfl, ?_⟩ | refine iteT ?_ | refine iteF ?_ | refine ⟨(by decide : List.Nodup _), ?_⟩ | refine ⟨rfl, ?_⟩))
  obtain ⟨co, hco, hco2⟩ := coin_at h0 h1
  refine ⟨_, _, prD co, rfl, rfl, hco, ?_⟩
  (repeat (first | refine ⟨_, rfl, Nat.le_of_ble_eq_true rfl, ?_⟩ | refine ⟨_, rfl, ?_⟩ | refine ⟨_, _, rfl, ?_⟩ | refine ⟨_, _, rfl, rfl, ?_⟩ | refine ⟨_, _, _, rfl, rfl, rfl, ?_⟩ | refine ⟨_, _, _, rfl, rfl, by (first | exact kb_NoneType_int | exact kb_bool_int | exact kb_int_int | exact kb_str_int | exact kb_tuple_int | exact kb_list_int | exact kb_dict_int | exact kb_NoneType_bool | exact kb_bool_bool | exact kb_int_bool | exact kb_str_bool | exact kb_tuple_bool | exact kb_list_bool | exact kb_dict_bool | exact kb_NoneType_tuple | exact kb_bool_tuple | exact kb_int_tuple | exact kb_str_tuple | exact kb_tuple_tuple | exact kb_list_tuple | exact kb_dict_tuple), ?_⟩ | refine ⟨_, _, _, _, _, rfl, rfl, rfl, rfl, rfl, ?_⟩ | refine iteT ?_ | refine iteF ?_ | refine ⟨(by decide : List.Nodup _), ?_⟩ | refine ⟨rfl, ?_⟩))
  refine ⟨ns, a, b, c, _, rfl, hw, by omega, by omega, fun a b c door hw hd0 hd1 => ?_⟩
  (repeat (first | refine ⟨_, rfl, Nat.le_of_ble_eq_true rfl, ?_⟩ | refine ⟨_, rfl, ?_⟩ | refine ⟨_, _, rfl, ?_⟩ | refine ⟨_, _, rfl, rfl, ?_⟩ | refine ⟨_, _, _, rfl, rfl, rfl, ?_⟩ | refine ⟨_, _, _, rfl, rfl, by (first | exact kb_NoneType_int | exact kb_bool_int | exact kb_int_int | exact kb_str_int | exact kb_tuple_int | exact kb_list_int | exact kb_dict_int | exact kb_NoneType_bool | exact kb_bool_bool | exact kb_int_bool | exact kb_str_bool | exact kb_tuple_bool | exact kb_list_bool | exact kb_dict_bool | exact kb_NoneType_tuple | exact kb_bool_tuple | exact kb_int_tuple | exact kb_str_tuple | exact kb_tuple_tuple | exact kb_list_tuple | exact kb_dict_tuple), ?_⟩ | refine ⟨_, _, _, _, _, rfl, rfl, rfl, rfl, rfl, ?_⟩ | refine iteT ?_ | refine iteF ?_ | refine ⟨(by decide : List.Nodup _), ?_⟩ | refine ⟨rfl, ?_⟩))
  refine ⟨by omega, by omega, ?_⟩
  refine ⟨fun (i : Nat) S => ∃ a b c ps ds s5, S = ⟨[some (.cell 0), some (.fr (.int (2 + m0))), some (.fr (prD co)), some (.fr (.int door)), some (.cell 1), s5, none], [some (rowC ns a b c), some (.lst ds)]⟩ ∧ ds = ps.map prD ∧ RowOk a b ∧
      (∀ q ∈ ps, 0 ≤ q.1 ∧ q.1 < (i : Int) ∧ -20 ≤ q.2 ∧ q.2 ≤ 20 ∧ q.1 ≠ door) ∧ ps.Pairwise (fun p q => p.1 < q.1) ∧ ps.length ≤ i,
    ⟨a, b, c, [], _, none, rfl, rfl, hw, by simp, List.Pairwise.nil, by decide⟩, ?_, ?_⟩
  · rintro i d S1 hd ⟨a, b, c, ps, _, s5, rfl, rfl, hw, hp1, hs1, hl1⟩
    obtain ⟨hi, rfl⟩ := rngD_get hd
    have hi' : (i : Int) < 2 + m0 := by omega
    (repeat (first | refine ⟨_, rfl, Nat.le_of_ble_eq_true rfl, ?_⟩ | refine ⟨_, rfl, ?_⟩ | refine ⟨_, _, rfl, ?_⟩ | refine ⟨_, _, rfl, rfl, ?_⟩ | refine ⟨_, _, _, rfl, rfl, rfl, ?_⟩ | refine ⟨_, _, _, rfl, rfl, by (first | exact kb_NoneType_int | exact kb_bool_int | exact kb_int_int | exact kb_str_int | exact kb_tuple_int | exact kb_list_int | exact kb_dict_int | exact kb_NoneType_bool | exact kb_bool_bool | exact kb_int_bool | exact kb_str_bool | exact kb_tuple_bool | exact kb_list_bool | exact kb_dict_bool | exact kb_NoneType_tuple | exact kb_bool_tuple | exact kb_int_tuple | exact kb_str_tuple | exact kb_tuple_tuple | exact kb_list_tuple | exact kb_dict_tuple), ?_⟩ | refine ⟨_, _, _, _, _, rfl, rfl, rfl, rfl, rfl, ?_⟩ | refine iteT ?_ | refine iteF ?_ | refine ⟨(by decide : List.Nodup _), ?_⟩ | refine ⟨rfl, ?_⟩))
    refine ⟨_, _, _, _, rfl, rfl, rfl, rfl, rfl, rfl, _, rfl, ?_⟩
    have stay : ∀ q ∈ ps, 0 ≤ q.1 ∧ q.1 < ((i + 1 : Nat) : Int) ∧ -20 ≤ q.2 ∧ q.2 ≤ 20 ∧ q.1 ≠ door := fun q hq => by have := hp1 q hq; omega
    refine ite2 (fun hc => ?_) (fun hc => ?_)
    · have hne : (0 : Int) + (i : Nat) ≠ door := by
        intro e
        rw [if_pos rfl, eqv_int, e] at hc
        simp at hc
      (repeat (first | refine ⟨_, rfl, Nat.le_of_ble_eq_true rfl, ?_⟩ | refine ⟨_, rfl, ?_⟩ | refine ⟨_, _, rfl, ?_⟩ | refine ⟨_, _, rfl, rfl, ?_⟩ | refine ⟨_, _, _, rfl, rfl, rfl, ?_⟩ | refine ⟨_, _, _, rfl, rfl, by (first | exact kb_NoneType_int | exact kb_bool_int | exact kb_int_int | exact kb_str_int | exact kb_tuple_int | exact kb_list_int | exact kb_dict_int | exact kb_NoneType_bool | exact kb_bool_bool | exact kb_int_bool | exact kb_str_bool | exact kb_tuple_bool | exact kb_list_bool | exact kb_dict_bool | exact kb_NoneType_tuple | exact kb_bool_tuple | exact kb_int_tuple | exact kb_str_tuple | exact kb_tuple_tuple | exact kb_list_tuple | exact kb_dict_tuple), ?_⟩ | refine ⟨_, _, _, _, _, rfl, rfl, rfl, rfl, rfl, ?_⟩ | refine iteT ?_ | refine iteF ?_ | refine ⟨(by decide : List.Nodup _), ?_⟩ | refine ⟨rfl, ?_⟩))
      refine ⟨ns, a, b, c, _, rfl, hw, by omega, by omega, fun a b c x hw hx0 hx1 => ?_⟩
      (repeat (first | refine ⟨_, rfl, Nat.le_of_ble_eq_true rfl, ?_⟩ | refine ⟨_, rfl, ?_⟩ | refine ⟨_, _, rfl, ?_⟩ | refine ⟨_, _, rfl, rfl, ?_⟩ | refine ⟨_, _, _, rfl, rfl, rfl, ?_⟩ | refine ⟨_, _, _, rfl, rfl, by (first | exact kb_NoneType_int | exact kb_bool_int | exact kb_int_int | exact kb_str_int | exact kb_tuple_int | exact kb_list_int | exact kb_dict_int | exact kb_NoneType_bool | exact kb_bool_bool | exact kb_int_bool | exact kb_str_bool | exact kb_tuple_bool | exact kb_list_bool | exact kb_dict_bool | exact kb_NoneType_tuple | exact kb_bool_tuple | exact kb_int_tuple | exact kb_str_tuple | exact kb_tuple_tuple | exact kb_list_tuple | exact kb_dict_tuple), ?_⟩ | refine ⟨_, _, _, _, _, rfl, rfl, rfl, rfl, rfl, ?_⟩ | refine iteT ?_ | refine iteF ?_ | refine ⟨(by decide : List.Nodup _), ?_⟩ | refine ⟨rfl, ?_⟩))
      refine ⟨_, _, _, _, rfl, rfl, rfl, rfl, rfl, rfl, _, rfl, ?_⟩
      refine ite2 (fun hc2 => ?_) (fun hc2 => ?_)
      · (repeat (first | refine ⟨_, rfl, Nat.le_of_ble_eq_true rfl, ?_⟩ | refine ⟨_, rfl, ?_⟩ | refine ⟨_, _, rfl, ?_⟩ | refine ⟨_, _, rfl, rfl, ?_⟩ | refine ⟨_, _, _, rfl, rfl, rfl, ?_⟩ | refine ⟨_, _, _, rfl, rfl, by (first | exact kb_NoneType_int | exact kb_bool_int | exact kb_int_int | exact kb_str_int | exact kb_tuple_int | exact kb_list_int | exact kb_dict_int | exact kb_NoneType_bool | exact kb_bool_bool | exact kb_int_bool | exact kb_str_bool | exact kb_tuple_bool | exact kb_list_bool | exact kb_dict_bool | exact kb_NoneType_tuple | exact kb_bool_tuple | exact kb_int_tuple | exact kb_str_tuple | exact kb_tuple_tuple | exact kb_list_tuple | exact kb_dict_tuple), ?_⟩ | refine ⟨_, _, _, _, _, rfl, rfl, rfl, rfl, rfl, ?_⟩ | refine iteT ?_ | refine iteF ?_ | refine ⟨(by decide : List.Nodup _), ?_⟩ | refine ⟨rfl, ?_⟩))
        refine ⟨ns, a, b, c, _, rfl, hw, by omega, by omega, fun a b c y hw hy0 hy1 => ?_⟩
        (repeat (first | refine ⟨_, rfl, Nat.le_of_ble_eq_true rfl, ?_⟩ | refine ⟨_, rfl, ?_⟩ | refine ⟨_, _, rfl, ?_⟩ | refine ⟨_, _, rfl, rfl, ?_⟩ | refine ⟨_, _, _, rfl, rfl, rfl, ?_⟩ | refine ⟨_, _, _, rfl, rfl, by (first | exact kb_NoneType_int | exact kb_bool_int | exact kb_int_int | exact kb_str_int | exact kb_tuple_int | exact kb_list_int | exact kb_dict_int | exact kb_NoneType_bool | exact kb_bool_bool | exact kb_int_bool | exact kb_str_bool | exact kb_tuple_bool | exact kb_list_bool | exact kb_dict_bool | exact kb_NoneType_tuple | exact kb_bool_tuple | exact kb_int_tuple | exact kb_str_tuple | exact kb_tuple_tuple | exact kb_list_tuple | exact kb_dict_tuple), ?_⟩ | refine ⟨_, _, _, _, _, rfl, rfl, rfl, rfl, rfl, ?_⟩ | refine iteT ?_ | refine iteF ?_ | refine ⟨(by decide : List.Nodup _), ?_⟩ | refine ⟨rfl, ?_⟩))
        obtain ⟨p, hp, hp2⟩ := pay_at hy0 hy1
        refine ⟨_, _, .int p, rfl, rfl, hp, ?_⟩
        (repeat (first | refine ⟨_, rfl, Nat.le_of_ble_eq_true rfl, ?_⟩ | refine ⟨_, rfl, ?_⟩ | refine ⟨_, _, rfl, ?_⟩ | refine ⟨_, _, rfl, rfl, ?_⟩ | refine ⟨_, _, _, rfl, rfl, rfl, ?_⟩ | refine ⟨_, _, _, rfl, rfl, by (first | exact kb_NoneType_int | exact kb_bool_int | exact kb_int_int | exact kb_str_int | exact kb_tuple_int | exact kb_list_int | exact kb_dict_int | exact kb_NoneType_bool | exact kb_bool_bool | exact kb_int_bool | exact kb_str_bool | exact kb_tuple_bool | exact kb_list_bool | exact kb_dict_bool | exact kb_NoneType_tuple | exact kb_bool_tuple | exact kb_int_tuple | exact kb_str_tuple | exact kb_tuple_tuple | exact kb_list_tuple | exact kb_dict_tuple), ?_⟩ | refine ⟨_, _, _, _, _, rfl, rfl, rfl, rfl, rfl, ?_⟩ | refine iteT ?_ | refine iteF ?_ | refine ⟨(by decide : List.Nodup _), ?_⟩ | refine ⟨rfl, ?_⟩))
        refine ⟨by simp; omega, ?_⟩
        refine ⟨a, b, c, ps ++ [((0 : Int) + (i : Nat), p)], _, _, rfl, ?_, hw, fun q hq => ?_, ?_, by simp; omega⟩
        · rw [List.map_append]; rfl
        · rcases List.mem_append.mp hq with hq | hq
          · exact stay q hq
          · rw [List.mem_singleton.mp hq]
            exact ⟨by simp, by simp; omega, hp2.1, hp2.2, hne⟩
        · refine List.pairwise_append.mpr ⟨hs1, by simp, fun q hq r hr => ?_⟩
          rw [List.mem_singleton.mp hr]
          have := hp1 q hq
          simp; omega
      · exact ⟨a, b, c, ps, _, _, rfl, rfl, hw, stay, hs1, by omega⟩
    · refine iteF ?_
      exact ⟨a, b, c, ps, _, _, rfl, rfl, hw, stay, hs1, by omega⟩
  · rintro S1 ⟨a, b, c, ps, _, s5, rfl, rfl, hw, hp1, hs1, hl1⟩
    rw [rngD_length] at hp1 hl1
    have hn : ((2 + m0).toNat : Int) = 2 + m0 := by omega
    rw [hn] at hp1
    (repeat (first | refine ⟨_, rfl, Nat.le_of_ble_eq_true rfl, ?_⟩ | refine ⟨_, rfl, ?_⟩ | refine ⟨_, _, rfl, ?_⟩ | refine ⟨_, _, rfl, rfl, ?_⟩ | refine ⟨_, _, _, rfl, rfl, rfl, ?_⟩ | refine ⟨_, _, _, rfl, rfl, by (first | exact kb_NoneType_int | exact kb_bool_int | exact kb_int_int | exact kb_str_int | exact kb_tuple_int | exact kb_list_int | exact kb_dict_int | exact kb_NoneType_bool | exact kb_bool_bool | exact kb_int_bool | exact kb_str_bool | exact kb_tuple_bool | exact kb_list_bool | exact kb_dict_bool | exact kb_NoneType_tuple | exact kb_bool_tuple | exact kb_int_tuple | exact kb_str_tuple | exact kb_tuple_tuple | exact kb_list_tuple | exact kb_dict_tuple), ?_⟩ | refine ⟨_, _, _, _, _, rfl, rfl, rfl, rfl, rfl, ?_⟩ | refine iteT ?_ | refine iteF ?_ | refine ⟨(by decide : List.Nodup _), ?_⟩ | refine ⟨rfl, ?_⟩))
    refine ⟨ns, a, b, c, _, rfl, hw, by omega, by omega, fun a b c y hw hy0 hy1 => ?_⟩
    (repeat (first | refine ⟨_, rfl, Nat.le_of_ble_eq_true rfl, ?_⟩ | refine ⟨_, rfl, ?_⟩ | refine ⟨_, _, rfl, ?_⟩ | refine ⟨_, _, rfl, rfl, ?_⟩ | refine ⟨_, _, _, rfl, rfl, rfl, ?_⟩ | refine ⟨_, _, _, rfl, rfl, by (first | exact kb_NoneType_int | exact kb_bool_int | exact kb_int_int | exact kb_str_int | exact kb_tuple_int | exact kb_list_int | exact kb_dict_int | exact kb_NoneType_bool | exact kb_bool_bool | exact kb_int_bool | exact kb_str_bool | exact kb_tuple_bool | exact kb_list_bool | exact kb_dict_bool | exact kb_NoneType_tuple | exact kb_bool_tuple | exact kb_int_tuple | exact kb_str_tuple | exact kb_tuple_tuple | exact kb_list_tuple | exact kb_dict_tuple), ?_⟩ | refine ⟨_, _, _, _, _, rfl, rfl, rfl, rfl, rfl, ?_⟩ | refine iteT ?_ | refine iteF ?_ | refine ⟨(by decide : List.Nodup _), ?_⟩ | refine ⟨rfl, ?_⟩))
    obtain ⟨p, hp, hp2⟩ := road_at hy0 hy1
    refine ⟨_, _, .int p, rfl, rfl, hp, ?_⟩
    (repeat (first | refine ⟨_, rfl, Nat.le_of_ble_eq_true rfl, ?_⟩ | refine ⟨_, rfl, ?_⟩ | refine ⟨_, _, rfl, ?_⟩ | refine ⟨_, _, rfl, rfl, ?_⟩ | refine ⟨_, _, _, rfl, rfl, rfl, ?_⟩ | refine ⟨_, _, _, rfl, rfl, by (first | exact kb_NoneType_int | exact kb_bool_int | exact kb_int_int | exact kb_str_int | exact kb_tuple_int | exact kb_list_int | exact kb_dict_int | exact kb_NoneType_bool | exact kb_bool_bool | exact kb_int_bool | exact kb_str_bool | exact kb_tuple_bool | exact kb_list_bool | exact kb_dict_bool | exact kb_NoneType_tuple | exact kb_bool_tuple | exact kb_int_tuple | exact kb_str_tuple | exact kb_tuple_tuple | exact kb_list_tuple | exact kb_dict_tuple), ?_⟩ | refine ⟨_, _, _, _, _, rfl, rfl, rfl, rfl, rfl, ?_⟩ | refine iteT ?_ | refine iteF ?_ | refine ⟨(by decide : List.Nodup _), ?_⟩ | refine ⟨rfl, ?_⟩))
    refine ⟨ns, a, b, c, _, rfl, hw, by omega, by omega, fun a b c qs hw hq1 hq2 => ?_⟩
    (repeat (first | refine ⟨_, rfl, Nat.le_of_ble_eq_true rfl, ?_⟩ | refine ⟨_, rfl, ?_⟩ | refine ⟨_, _, rfl, ?_⟩ | refine ⟨_, _, rfl, rfl, ?_⟩ | refine ⟨_, _, _, rfl, rfl, rfl, ?_⟩ | refine ⟨_, _, _, rfl, rfl, by (first | exact kb_NoneType_int | exact kb_bool_int | exact kb_int_int | exact kb_str_int | exact kb_tuple_int | exact kb_list_int | exact kb_dict_int | exact kb_NoneType_bool | exact kb_bool_bool | exact kb_int_bool | exact kb_str_bool | exact kb_tuple_bool | exact kb_list_bool | exact kb_dict_bool | exact kb_NoneType_tuple | exact kb_bool_tuple | exact kb_int_tuple | exact kb_str_tuple | exact kb_tuple_tuple | exact kb_list_tuple | exact kb_dict_tuple), ?_⟩ | refine ⟨_, _, _, _, _, rfl, rfl, rfl, rfl, rfl, ?_⟩ | refine iteT ?_ | refine iteF ?_ | refine ⟨(by decide : List.Nodup _), ?_⟩ | refine ⟨rfl, ?_⟩))
    refine ⟨[some (rowC ns a b c), some (.lst (ps.map prD))], rfl, rfl, Nat.le_of_ble_eq_true rfl, ?_⟩
    refine ⟨[some (rowC ns a b c), some (.lst (ps.map prD))], _, rfl, Nat.le_of_ble_eq_true rfl, rfl, ?_⟩
    refine rt1 (h a b c ⟨co, qs, ps, (door, p), 2 + m0⟩ hw ⟨by dsimp only; omega, by dsimp only; omega, hco2, hq1, hq2, fun q hq => ?_, hs1, by dsimp only; omega, ?_, fun q hq => ?_⟩)
    · exact ⟨(hp1 q hq).1, (hp1 q hq).2.1, (hp1 q hq).2.2.1, (hp1 q hq).2.2.2.1⟩
    · exact ⟨hd0, hd1, hp2.1, hp2.2⟩
    · exact (hp1 q hq).2.2.2.2
end
end Toss
namespace Toss
open PySem PySem.Spec PyProof.Rows L2 TD He
def withinB (d : D) (lo hi : Int) : Bool := match d with
  | .int i => decide (lo ≤ i) && decide (i ≤ hi)
  | _ => false
def isPairB (d : D) (lo hi le mo : Int) : Bool := match d with
  | .tup [x, y] => withinB x lo hi && withinB y le mo
  | _ => false
/-- a value whose type can be asked; a tuple's items can be asked whether they are whole -/
structure GoodD (d : D) : Prop where
  ty : ∃ k, wholeD d = some k
  it : ∀ ds, d = .tup ds → ∀ x ∈ ds, ∃ k, wholeD x = some k
section
variable {P : Program} {w : World} {K : PySem.W.Frag} {mg : Str → Option Value} {base : Heap}
def d_is_pair : DSp := fun as Pc _ => ∃ d lo hi le mo, as = [.fr d, .fr (.int lo), .fr (.int hi), .fr (.int le), .fr (.int mo)] ∧ GoodD d ∧ Pc [] (.fr (.bl (isPairB d lo hi le mo)))
theorem ok_is_pair (V : Ev K mg) (o_is_within : DefOk P w K mg base 2 "is_within" ["value", "low", "high"] d_is_within) : DefOk P w K mg base 3 "is_pair" ["value", "low", "high", "least", "most"] d_is_pair := by
  refine V.D_is_pair.ok sc_is_pair 0 (fun as Pc Xc ⟨d, lo, hi, le, mo, e, _⟩ => by subst e; exact ⟨rfl, rfl⟩) ?_
  intro f cdv A outer s H E B as Pc Xc h hB hr tk hp
  refine ⟨_, ((dss_cons (ds_if (dt_or (dw_or (dt_not (dt_val (de_isi "tuple" V.g_isinstance (da_cons (dv 0) (da_cons (de_ty (T := "tuple") V.g_tuple) da_nil))))) (dw_or1 (dt_ne (hu64 hr) (de_len V.g_len (da_cons (dv 0) da_nil)) de_int)))) (dss_one (ds_ret de_bl)) dss_nil) (dss_one (ds_ret (de_and (de_callD o_is_within (L2.Room.mono hr (by decide)) tk (da_cons (de_ix (dv 0) de_int) (da_cons (dv 1) (da_cons (dv 2) da_nil)))) (de_one (de_callD o_is_within (L2.Room.mono hr (by decide)) tk (da_cons (de_ix (dv 0) de_int) (da_cons (dv 3) (da_cons (dv 4) da_nil)))))))))), ?_⟩
  obtain ⟨d, lo, hi, le, mo, rfl, hg, h⟩ := h
  cases d with
  | tup ds =>
    (repeat (first | refine ⟨_, rfl, Nat.le_of_ble_eq_true rfl, ?_⟩ | refine ⟨_, rfl, ?_⟩ | refine ⟨_, _, rfl, ?_⟩ | refine ⟨_, _, rfl, rfl, ?_⟩ | refine ⟨_, _, _, rfl, rfl, rfl, ?_⟩ | refine ⟨_, _, _, rfl, rfl, by (first | exact kb_NoneType_int | exact kb_bool_int | exact kb_int_int | exact kb_str_int | exact kb_tuple_int | exact kb_list_int | exact kb_dict_int | exact kb_NoneType_bool | exact kb_bool_bool | exact kb_int_bool | exact kb_str_bool | exact kb_tuple_bool | exact kb_list_bool | exact kb_dict_bool | exact kb_NoneType_tuple | exact kb_bool_tuple | exact kb_int_tuple | exact kb_str_tuple | exact kb_tuple_tuple | exact kb_list_tuple | exact kb_dict_tuple), ?_⟩ | refine ⟨_, _, _, _, _, rfl, rfl, rfl, rfl, rfl, ?_⟩ | refine iteT ?_ | refine iteF ?_ | refine ⟨(by decide : List.Nodup _), ?_⟩ | refine ⟨rfl, ?_⟩))
    refine ⟨_, _, _, _, rfl, rfl, rfl, rfl, rfl, rfl, _, rfl, ?_⟩
    refine ite2 (fun hc => ?_) (fun hc => ?_)
    · have hne : ∀ x y, ds ≠ [x, y] := by
        rintro x y rfl
        rw [if_pos rfl, eqv_int] at hc
        simp at hc
      (repeat (first | refine ⟨_, rfl, Nat.le_of_ble_eq_true rfl, ?_⟩ | refine ⟨_, rfl, ?_⟩ | refine ⟨_, _, rfl, ?_⟩ | refine ⟨_, _, rfl, rfl, ?_⟩ | refine ⟨_, _, _, rfl, rfl, rfl, ?_⟩ | refine ⟨_, _, _, rfl, rfl, by (first | exact kb_NoneType_int | exact kb_bool_int | exact kb_int_int | exact kb_str_int | exact kb_tuple_int | exact kb_list_int | exact kb_dict_int | exact kb_NoneType_bool | exact kb_bool_bool | exact kb_int_bool | exact kb_str_bool | exact kb_tuple_bool | exact kb_list_bool | exact kb_dict_bool | exact kb_NoneType_tuple | exact kb_bool_tuple | exact kb_int_tuple | exact kb_str_tuple | exact kb_tuple_tuple | exact kb_list_tuple | exact kb_dict_tuple), ?_⟩ | refine ⟨_, _, _, _, _, rfl, rfl, rfl, rfl, rfl, ?_⟩ | refine iteT ?_ | refine iteF ?_ | refine ⟨(by decide : List.Nodup _), ?_⟩ | refine ⟨rfl, ?_⟩))
      have : isPairB (.tup ds) lo hi le mo = false := by
        unfold isPairB
        split
        · rename_i x y e
          cases e
          exact absurd rfl (hne x y)
        · rfl
      rw [this] at h
      exact rt0 h
    · have hl : ds.length = 2 := by
        rw [if_pos rfl, eqv_int] at hc
        simp at hc
        omega
      obtain ⟨x, y, rfl⟩ : ∃ x y, ds = [x, y] := by
        match ds, hl with
        | [x, y], _ => exact ⟨x, y, rfl⟩
      obtain ⟨k1, hk1⟩ := hg.it _ rfl x (by simp)
      obtain ⟨k2, hk2⟩ := hg.it _ rfl y (by simp)
      (repeat (first | refine ⟨_, rfl, Nat.le_of_ble_eq_true rfl, ?_⟩ | refine ⟨_, rfl, ?_⟩ | refine ⟨_, _, rfl, ?_⟩ | refine ⟨_, _, rfl, rfl, ?_⟩ | refine ⟨_, _, _, rfl, rfl, rfl, ?_⟩ | refine ⟨_, _, _, rfl, rfl, by (first | exact kb_NoneType_int | exact kb_bool_int | exact kb_int_int | exact kb_str_int | exact kb_tuple_int | exact kb_list_int | exact kb_dict_int | exact kb_NoneType_bool | exact kb_bool_bool | exact kb_int_bool | exact kb_str_bool | exact kb_tuple_bool | exact kb_list_bool | exact kb_dict_bool | exact kb_NoneType_tuple | exact kb_bool_tuple | exact kb_int_tuple | exact kb_str_tuple | exact kb_tuple_tuple | exact kb_list_tuple | exact kb_dict_tuple), ?_⟩ | refine ⟨_, _, _, _, _, rfl, rfl, rfl, rfl, rfl, ?_⟩ | refine iteT ?_ | refine iteF ?_ | refine ⟨(by decide : List.Nodup _), ?_⟩ | refine ⟨rfl, ?_⟩))
      refine ⟨x, lo, hi, k1, rfl, hk1, ?_⟩
      refine ⟨_, rfl, ?_⟩
      refine ite2 (fun hc2 => ?_) (fun hc2 => ?_)
      · (repeat (first | refine ⟨_, rfl, Nat.le_of_ble_eq_true rfl, ?_⟩ | refine ⟨_, rfl, ?_⟩ | refine ⟨_, _, rfl, ?_⟩ | refine ⟨_, _, rfl, rfl, ?_⟩ | refine ⟨_, _, _, rfl, rfl, rfl, ?_⟩ | refine ⟨_, _, _, rfl, rfl, by (first | exact kb_NoneType_int | exact kb_bool_int | exact kb_int_int | exact kb_str_int | exact kb_tuple_int | exact kb_list_int | exact kb_dict_int | exact kb_NoneType_bool | exact kb_bool_bool | exact kb_int_bool | exact kb_str_bool | exact kb_tuple_bool | exact kb_list_bool | exact kb_dict_bool | exact kb_NoneType_tuple | exact kb_bool_tuple | exact kb_int_tuple | exact kb_str_tuple | exact kb_tuple_tuple | exact kb_list_tuple | exact kb_dict_tuple), ?_⟩ | refine ⟨_, _, _, _, _, rfl, rfl, rfl, rfl, rfl, ?_⟩ | refine iteT ?_ | refine iteF ?_ | refine ⟨(by decide : List.Nodup _), ?_⟩ | refine ⟨rfl, ?_⟩))
        refine ⟨y, le, mo, k2, rfl, hk2, ?_⟩
        have e : isPairB (.tup [x, y]) lo hi le mo = withinB y le mo := by
          show (withinB x lo hi && withinB y le mo) = _
          rw [show withinB x lo hi = true from hc2]; rfl
        rw [e] at h
        exact rt0 h
      · have e : isPairB (.tup [x, y]) lo hi le mo = false := by
          show (withinB x lo hi && withinB y le mo) = _
          rw [show withinB x lo hi = false from (Bool.not_eq_true _).mp hc2]; rfl
        rw [e] at h
        exact rt0 h
  | _ =>
    obtain ⟨k, hk⟩ := hg.ty
    first
    | (cases hk; done)
    | ((repeat (first | refine ⟨_, rfl, Nat.le_of_ble_eq_true rfl, ?_⟩ | refine ⟨_, rfl, ?_⟩ | refine ⟨_, _, rfl, ?_⟩ | refine ⟨_, _, rfl, rfl, ?_⟩ | refine ⟨_, _, _, rfl, rfl, rfl, ?_⟩ | refine ⟨_, _, _, rfl, rfl, by (first | exact kb_NoneType_int | exact kb_bool_int | exact kb_int_int | exact kb_str_int | exact kb_tuple_int | exact kb_list_int | exact kb_dict_int | exact kb_NoneType_bool | exact kb_bool_bool | exact kb_int_bool | exact kb_str_bool | exact kb_tuple_bool | exact kb_list_bool | exact kb_dict_bool | exact kb_NoneType_tuple | exact kb_bool_tuple | exact kb_int_tuple | exact kb_str_tuple | exact kb_tuple_tuple | exact kb_list_tuple | exact kb_dict_tuple), ?_⟩ | refine ⟨_, _, _, _, _, rfl, rfl, rfl, rfl, rfl, ?_⟩ | refine iteT ?_ | refine iteF ?_ | refine ⟨(by decide : List.Nodup _), ?_⟩ | refine ⟨rfl, ?_⟩)); exact rt0 h)
end
end Toss
namespace Toss
open PySem PySem.Spec PyProof.Rows L2 TD He
/-! ### what is reached -/
def Adj (ps : List (Int × Int)) (u v : Int) : Prop := (u, v) ∈ ps ∨ (v, u) ∈ ps
inductive Reach (ps : List (Int × Int)) (b : Int) : Int → Prop
  | refl : Reach ps b b
  | step {u v : Int} (h : Reach ps b u) (a : Adj ps u v) : Reach ps b v
theorem nodup_len : ∀ {l m : List Int}, l.Nodup → (∀ x ∈ l, x ∈ m) → l.length ≤ m.length
  | [], _, _, _ => Nat.zero_le _
  | x :: l, m, nd, h => by
    have hx := h x List.mem_cons_self
    have nd' := List.nodup_cons.mp nd
    have := nodup_len (l := l) (m := m.erase x) nd'.2 fun y hy => (List.mem_erase_of_ne (fun e => nd'.1 (by rw [← e]; exact hy))).mpr (h y (List.mem_cons_of_mem _ hy))
    rw [List.length_erase_of_mem hx] at this
    have : 0 < m.length := List.length_pos_of_mem hx
    simp only [List.length_cons]
    omega
theorem reach_in {ps : List (Int × Int)} {b v : Int} (h : Reach ps b v) : v ∈ b :: (ps.map (·.1) ++ ps.map (·.2)) := by
  cases h with
  | refl => exact List.mem_cons_self
  | step _ a =>
    refine List.mem_cons_of_mem _ (List.mem_append.mpr ?_)
    rcases a with a | a
    · exact .inr (List.mem_map.mpr ⟨_, a, rfl⟩)
    · exact .inl (List.mem_map.mpr ⟨_, a, rfl⟩)
/-- while the paths are walked for the place here -/
structure Ct (ps : List (Int × Int)) (b here : Int) (i : Nat) (ks wait : List Int) (M : Nat) : Prop where
  nd : ks.Nodup
  bm : b ∈ ks
  re : ∀ v ∈ ks, Reach ps b v
  wm : ∀ v ∈ wait, v ∈ ks
  hm : here ∈ ks
  clo : ∀ u v, u ∈ ks → u ∉ wait → u ≠ here → Adj ps u v → v ∈ ks
  don : ∀ j x y, j < i → ps[j]? = some (x, y) → (x = here → y ∈ ks) ∧ (y = here → x ∈ ks)
  me : (2 * ps.length + 1 - ks.length) + wait.length = M
theorem Ct.len {ps : List (Int × Int)} {b here : Int} {i M : Nat} {ks wait : List Int} (c : Ct ps b here i ks wait M) : ks.length ≤ 2 * ps.length + 1 := by
  have := nodup_len c.nd (m := b :: (ps.map (·.1) ++ ps.map (·.2))) fun v hv => reach_in (c.re v hv)
  simp at this
  omega
theorem Ct.add {ps : List (Int × Int)} {b here t : Int} {i M : Nat} {ks wait : List Int} (c : Ct ps b here i ks wait M) (ht : t ∉ ks) (a : Adj ps here t) : Ct ps b here i (ks ++ [t]) (wait ++ [t]) M := by
  have rt : Reach ps b t := .step (c.re here c.hm) a
  have nd' : (ks ++ [t]).Nodup := List.nodup_append.mpr ⟨c.nd, by simp, fun x hx y hy e => ht (by rw [List.mem_singleton.mp hy] at e; rw [← e]; exact hx)⟩
  have re' : ∀ v ∈ ks ++ [t], Reach ps b v := fun v hv => by
    rcases List.mem_append.mp hv with h | h
    · exact c.re v h
    · rw [List.mem_singleton.mp h]; exact rt
  have hl : (ks ++ [t]).length ≤ 2 * ps.length + 1 := by
    have := nodup_len nd' (m := b :: (ps.map (·.1) ++ ps.map (·.2))) fun v hv => reach_in (re' v hv)
    simp at this ⊢
    omega
  refine ⟨nd', List.mem_append_left _ c.bm, re', fun v hv => ?_, List.mem_append_left _ c.hm, fun u v hu hw hne ha => ?_, fun j x y hj e => ?_, ?_⟩
  · rcases List.mem_append.mp hv with h | h
    · exact List.mem_append_left _ (c.wm v h)
    · exact List.mem_append_right _ h
  · simp only [List.mem_append, not_or] at hw
    rcases List.mem_append.mp hu with h | h
    · exact List.mem_append_left _ (c.clo u v h hw.1 hne ha)
    · exact absurd h hw.2
  · obtain ⟨h1, h2⟩ := c.don j x y hj e
    exact ⟨fun q => List.mem_append_left _ (h1 q), fun q => List.mem_append_left _ (h2 q)⟩
  · have := c.me
    simp at hl ⊢
    omega
theorem Ct.next {ps : List (Int × Int)} {b here x y : Int} {i M : Nat} {ks wait : List Int} (c : Ct ps b here i ks wait M) (e : ps[i]? = some (x, y)) (h1 : x = here → y ∈ ks) (h2 : y = here → x ∈ ks) : Ct ps b here (i + 1) ks wait M := by
  refine ⟨c.nd, c.bm, c.re, c.wm, c.hm, c.clo, fun j x' y' hj e' => ?_, c.me⟩
  by_cases hji : j = i
  · subst hji
    rw [e] at e'
    cases e'
    exact ⟨h1, h2⟩
  · exact c.don j x' y' (by omega) e'
theorem hasK_inl (ks : List Int) (v : Int) : hasK (ks.map Sum.inl) (.inl v : Key) = decide (v ∈ ks) := by
  unfold hasK
  rw [Bool.eq_iff_iff]
  simp only [List.any_map, List.any_eq_true, Function.comp, decide_eq_true_eq]
  constructor
  · rintro ⟨x, h, e⟩
    cases e
    exact h
  · exact fun h => ⟨v, h, rfl⟩
/-- the state of come_to -/
def ctS (ps : List (Int × Int)) (b : Int) (ks wait : List Int) (s4 : Option SV) (S : DS) : Prop := ∃ ds es fs s5 s6 s7, S = ⟨[some (.fr (.tup (ps.map prD))), some (.fr (.int b)), some (.cell 0), some (.cell 1), s4, s5, s6, s7], [some (.dic ds es), some (.lst fs)]⟩ ∧
  ds = ks.map Sum.inl ∧ es = ks.map (fun _ => D.bl true) ∧ fs = wait.map D.int
theorem ctS.gc {ps : List (Int × Int)} {b here : Int} {ks wait : List Int} {S : DS} (h : ctS ps b ks wait (some (.fr (.int here))) S) : ctS ps b ks wait (some (.fr (.int here))) (gcS 2 S) := by
  obtain ⟨_, _, _, s5, s6, s7, rfl, h1, h2, h3⟩ := h
  exact ⟨_, _, _, _, _, _, rfl, h1, h2, h3⟩
def ctBody : DTS := dGc (dIfS (dB (dDin true (dVar 7) (dVar 2))) (dSeq (dDput (dC (.bl true)) (dVar 2) (dVar 7)) (dDrop (dApp (dVar 3) (aCons (dVar 7) aNil)))) dNext)
theorem ct_inner {ps : List (Int × Int)} {b here : Int} {i M : Nat} {P : DEnds} (hps : ps.length < 1000) (hM : M < 10000) : ∀ (ts : List Int) (ks wait : List Int) (S : DS), (∀ t ∈ ts, Adj ps here t) → ctS ps b ks wait (some (.fr (.int here))) S → Ct ps b here i ks wait M →
    (∀ S' ks' wait', ctS ps b ks' wait' (some (.fr (.int here))) S' → Ct ps b here i ks' wait' M → (∀ t ∈ ts, t ∈ ks') → (∀ v ∈ ks, v ∈ ks') → P.nx S') → dLoop (ts.map D.int) (gNm 7) ctBody P S := by
  intro ts ks wait S hts hS hc fin
  refine ⟨fun j S' => ∃ ks' wait', ctS ps b ks' wait' (some (.fr (.int here))) S' ∧ Ct ps b here i ks' wait' M ∧ (∀ t ∈ ts.take j, t ∈ ks') ∧ (∀ v ∈ ks, v ∈ ks'),
    ⟨ks, wait, hS, hc, by simp, fun _ h => h⟩, ?_, ?_⟩
  · rintro j d S1 hd ⟨ks', wait', ⟨_, _, _, s5, s6, s7, rfl, rfl, rfl, rfl⟩, hc', htk, hsub⟩
    obtain ⟨t, ht, rfl⟩ : ∃ t, ts[j]? = some t ∧ D.int t = d := by
      rw [List.getElem?_map] at hd
      cases e : ts[j]? with
      | none => rw [e] at hd; cases hd
      | some t => rw [e] at hd; cases hd; exact ⟨t, rfl, rfl⟩
    have htm : t ∈ ts := List.mem_of_getElem? ht
    have htk' : ∀ ks'' : List Int, (∀ v ∈ ks', v ∈ ks'') → t ∈ ks'' → ∀ z ∈ ts.take (j + 1), z ∈ ks'' := fun ks'' h1 h2 z hz => by
      rw [List.take_add_one, ht] at hz
      rcases List.mem_append.mp hz with hz | hz
      · exact h1 z (htk z hz)
      · simp at hz; rw [hz]; exact h2
    (repeat (first | refine ⟨_, rfl, Nat.le_of_ble_eq_true rfl, ?_⟩ | refine ⟨_, rfl, ?_⟩ | refine ⟨_, _, rfl, ?_⟩ | refine ⟨_, _, rfl, rfl, ?_⟩ | refine ⟨_, _, _, rfl, rfl, rfl, ?_⟩ | refine ⟨_, _, _, rfl, rfl, by (first | exact kb_NoneType_int | exact kb_bool_int | exact kb_int_int | exact kb_str_int | exact kb_tuple_int | exact kb_list_int | exact kb_dict_int | exact kb_NoneType_bool | exact kb_bool_bool | exact kb_int_bool | exact kb_str_bool | exact kb_tuple_bool | exact kb_list_bool | exact kb_dict_bool | exact kb_NoneType_tuple | exact kb_bool_tuple | exact kb_int_tuple | exact kb_str_tuple | exact kb_tuple_tuple | exact kb_list_tuple | exact kb_dict_tuple), ?_⟩ | refine ⟨_, _, _, _, _, rfl, rfl, rfl, rfl, rfl, ?_⟩ | refine iteT ?_ | refine iteF ?_ | refine ⟨(by decide : List.Nodup _), ?_⟩ | refine ⟨rfl, ?_⟩))
    refine ⟨_, _, _, _, rfl, rfl, rfl, _, rfl, ?_⟩
    refine ite2 (fun hc2 => ?_) (fun hc2 => ?_)
    · have hnt : t ∉ ks' := by
        rw [if_pos rfl, hasK_inl] at hc2
        simpa using hc2
      have hl1 := hc'.len
      have hl2 : wait'.length ≤ M := by have := hc'.me; omega
      have hk : hasK (ks'.map Sum.inl) (.inl t : Key) = false := by rw [hasK_inl]; simp [hnt]
      (repeat (first | refine ⟨_, rfl, Nat.le_of_ble_eq_true rfl, ?_⟩ | refine ⟨_, rfl, ?_⟩ | refine ⟨_, _, rfl, ?_⟩ | refine ⟨_, _, rfl, rfl, ?_⟩ | refine ⟨_, _, _, rfl, rfl, rfl, ?_⟩ | refine ⟨_, _, _, rfl, rfl, by (first | exact kb_NoneType_int | exact kb_bool_int | exact kb_int_int | exact kb_str_int | exact kb_tuple_int | exact kb_list_int | exact kb_dict_int | exact kb_NoneType_bool | exact kb_bool_bool | exact kb_int_bool | exact kb_str_bool | exact kb_tuple_bool | exact kb_list_bool | exact kb_dict_bool | exact kb_NoneType_tuple | exact kb_bool_tuple | exact kb_int_tuple | exact kb_str_tuple | exact kb_tuple_tuple | exact kb_list_tuple | exact kb_dict_tuple), ?_⟩ | refine ⟨_, _, _, _, _, rfl, rfl, rfl, rfl, rfl, ?_⟩ | refine iteT ?_ | refine iteF ?_ | refine ⟨(by decide : List.Nodup _), ?_⟩ | refine ⟨rfl, ?_⟩))
      refine ⟨_, _, _, _, _, _, rfl, rfl, rfl, rfl, rfl, by simp; omega, ?_⟩
      (repeat (first | refine ⟨_, rfl, Nat.le_of_ble_eq_true rfl, ?_⟩ | refine ⟨_, rfl, ?_⟩ | refine ⟨_, _, rfl, ?_⟩ | refine ⟨_, _, rfl, rfl, ?_⟩ | refine ⟨_, _, _, rfl, rfl, rfl, ?_⟩ | refine ⟨_, _, _, rfl, rfl, by (first | exact kb_NoneType_int | exact kb_bool_int | exact kb_int_int | exact kb_str_int | exact kb_tuple_int | exact kb_list_int | exact kb_dict_int | exact kb_NoneType_bool | exact kb_bool_bool | exact kb_int_bool | exact kb_str_bool | exact kb_tuple_bool | exact kb_list_bool | exact kb_dict_bool | exact kb_NoneType_tuple | exact kb_bool_tuple | exact kb_int_tuple | exact kb_str_tuple | exact kb_tuple_tuple | exact kb_list_tuple | exact kb_dict_tuple), ?_⟩ | refine ⟨_, _, _, _, _, rfl, rfl, rfl, rfl, rfl, ?_⟩ | refine iteT ?_ | refine iteF ?_ | refine ⟨(by decide : List.Nodup _), ?_⟩ | refine ⟨rfl, ?_⟩))
      refine ⟨by simp; omega, ?_⟩
      refine ⟨ks' ++ [t], wait' ++ [t], ⟨_, _, _, _, _, _, rfl, ?_, ?_, ?_⟩, hc'.add hnt (hts t htm), htk' _ (fun v hv => List.mem_append_left _ hv) (by simp), fun v hv => List.mem_append_left _ (hsub v hv)⟩
      · unfold putKs
        rw [hk, List.map_append]
        rfl
      · unfold putDs
        rw [hk, List.map_append]
        rfl
      · rw [List.map_append]; rfl
    · have hnt : t ∈ ks' := by
        rw [if_pos rfl, hasK_inl] at hc2
        simpa using hc2
      exact ⟨ks', wait', ⟨_, _, _, _, _, _, rfl, rfl, rfl, rfl⟩, hc', htk' _ (fun v hv => hv) hnt, hsub⟩
  · rintro S1 ⟨ks', wait', hS', hc', htk, hsub⟩
    rw [List.length_map, List.take_length] at htk
    exact fin S1 ks' wait' hS' hc' htk hsub
end Toss
namespace Toss
open PySem PySem.Spec PyProof.Rows L2 TD He
section
variable {P : Program} {w : World} {K : PySem.W.Frag} {mg : Str → Option Value} {base : Heap}
/-- keys: what is reached from b, each once -/
def d_come_to : DSp := fun as Pc _ => ∃ ps b, as = [.fr (.tup (ps.map prD)), .fr (.int b)] ∧ ps.length < 1000 ∧ ∀ ks : List Int, ks.Nodup → (∀ v, v ∈ ks ↔ Reach ps b v) → Pc [] (.fr (.dic (ks.map Sum.inl) (ks.map fun _ => .bl true)))
theorem pyDs_ints : ∀ ns : List Int, pyDs (ns.map D.int) = some (ns.map PyData.int)
  | [] => rfl
  | n :: ns => by
    rw [List.map_cons, List.map_cons]
    unfold pyDs
    rw [pyDs_ints ns]
    rfl
theorem pyD_ints (ns : List Int) : pyD (.lst (ns.map D.int)) = some (.list (ns.map PyData.int)) := by
  unfold pyD
  rw [pyDs_ints]
  rfl
theorem lay_ints : ∀ ns : List Int, PyData.canLayAll0 (ns.map PyData.int) = true
  | [] => rfl
  | n :: ns => by
    rw [List.map_cons]
    unfold PyData.canLayAll0
    rw [lay_ints ns]
    rfl
theorem depth_ints : ∀ ns : List Int, PyData.depthAll (ns.map PyData.int) = 0
  | [] => by simp [PyData.depthAll]
  | n :: ns => by
    rw [List.map_cons]
    unfold PyData.depthAll
    rw [depth_ints ns]
    simp [PyData.depth]
theorem shaped_ints (ns : List Int) : SeqAt.shaped (.list (ns.map PyData.int)) = true := by
  unfold SeqAt.shaped PyData.canLay0 PyData.depth
  rw [lay_ints, depth_ints]
  simp
theorem eqv_nil (ns : List Int) : PyData.eqv (.list (ns.map PyData.int)) (.list []) = decide (ns = []) := by
  cases ns <;> simp [PyData.eqv, PyData.eqvAll]
/-- between two turns -/
structure Cw (ps : List (Int × Int)) (b : Int) (ks wait : List Int) (M : Nat) : Prop where
  nd : ks.Nodup
  bm : b ∈ ks
  re : ∀ v ∈ ks, Reach ps b v
  wm : ∀ v ∈ wait, v ∈ ks
  clo : ∀ u v, u ∈ ks → u ∉ wait → Adj ps u v → v ∈ ks
  me : (2 * ps.length + 1 - ks.length) + wait.length = M
theorem ok_come_to (V : Ev K mg) : DefOk P w K mg base 1 "come_to" ["paths", "begin"] d_come_to := by
  refine V.D_come_to.ok sc_come_to 0 (fun as Pc Xc ⟨ps, b, e, _⟩ => by subst e; exact ⟨rfl, rfl⟩) ?_
  intro f cdv A outer s H E B as Pc Xc h hB hr tk hp
  refine ⟨_, ((dss_cons (ds_par (i := 2) (j := 3) sc_come_to.nd (da_cons (de_disp (.cons (dv 1) de_bl .nil)) (da_cons (de_lstO (da_cons (dv 1) da_nil)) da_nil))) (dss_cons (ds_while hp (dt_ne (hu64 hr) (dv 3) (de_lst da_nil)) (dss_gc (dss_cons (ds_set (i := 4) sc_come_to.nd (de_pop (dv 3))) (dss_one (ds_for hp (di_tup (dv 0)) (dg_tup (dgs_cons (dg_name 5 sc_come_to.nd) (dgs_cons (dg_name 6 sc_come_to.nd) dgs_nil))) (dss_gc (dss_one (ds_for hp (di_list (de_ifExp (dt_eq (hu64 hr) (dv 5) (dv 4)) (de_lst (da_cons (dv 6) da_nil)) (de_ifExp (dt_eq (hu64 hr) (dv 6) (dv 4)) (de_lst (da_cons (dv 5) da_nil)) (de_lst da_nil)))) (dg_name 7 sc_come_to.nd) (dss_gc (dss_one (ds_if (dt_dnotin (hu1 hr) (dv 7) (dv 2)) (dss_cons (ds_dput (hu1 hr) de_bl (dv 2) (dv 7)) (dss_one (ds_expr (de_append (dv 3) (da_cons (dv 7) da_nil))))) dss_nil))))))))))) (dss_one (ds_ret (de_frz hB (dv 2))))))), ?_⟩
  obtain ⟨ps, b, rfl, hps, h⟩ := h
  (repeat (first | refine ⟨_, rfl, Nat.le_of_ble_eq_true rfl, ?_⟩ | refine ⟨_, rfl, ?_⟩ | refine ⟨_, _, rfl, ?_⟩ | refine ⟨_, _, rfl, rfl, ?_⟩ | refine ⟨_, _, _, rfl, rfl, rfl, ?_⟩ | refine ⟨_, _, _, rfl, rfl, by (first | exact kb_NoneType_int | exact kb_bool_int | exact kb_int_int | exact kb_str_int | exact kb_tuple_int | exact kb_list_int | exact kb_dict_int | exact kb_NoneType_bool | exact kb_bool_bool | exact kb_int_bool | exact kb_str_bool | exact kb_tuple_bool | exact kb_list_bool | exact kb_dict_bool | exact kb_NoneType_tuple | exact kb_bool_tuple | exact kb_int_tuple | exact kb_str_tuple | exact kb_tuple_tuple | exact kb_list_tuple | exact kb_dict_tuple), ?_⟩ | refine ⟨_, _, _, _, _, rfl, rfl, rfl, rfl, rfl, ?_⟩ | refine iteT ?_ | refine iteF ?_ | refine ⟨(by decide : List.Nodup _), ?_⟩ | refine ⟨rfl, ?_⟩))
  refine ⟨Nat.le_of_ble_eq_true rfl, ?_⟩
  (repeat (first | refine ⟨_, rfl, Nat.le_of_ble_eq_true rfl, ?_⟩ | refine ⟨_, rfl, ?_⟩ | refine ⟨_, _, rfl, ?_⟩ | refine ⟨_, _, rfl, rfl, ?_⟩ | refine ⟨_, _, _, rfl, rfl, rfl, ?_⟩ | refine ⟨_, _, _, rfl, rfl, by (first | exact kb_NoneType_int | exact kb_bool_int | exact kb_int_int | exact kb_str_int | exact kb_tuple_int | exact kb_list_int | exact kb_dict_int | exact kb_NoneType_bool | exact kb_bool_bool | exact kb_int_bool | exact kb_str_bool | exact kb_tuple_bool | exact kb_list_bool | exact kb_dict_bool | exact kb_NoneType_tuple | exact kb_bool_tuple | exact kb_int_tuple | exact kb_str_tuple | exact kb_tuple_tuple | exact kb_list_tuple | exact kb_dict_tuple), ?_⟩ | refine ⟨_, _, _, _, _, rfl, rfl, rfl, rfl, rfl, ?_⟩ | refine iteT ?_ | refine iteF ?_ | refine ⟨(by decide : List.Nodup _), ?_⟩ | refine ⟨rfl, ?_⟩))
  refine ⟨fun M S => M < 10000 ∧ ∃ ks wait s4, ctS ps b ks wait s4 S ∧ Cw ps b ks wait M, ⟨2 * ps.length + 1, by omega, [b], [b], none, ⟨_, _, _, none, none, none, rfl, rfl, rfl, rfl⟩, ?_⟩, ?_⟩
  · refine ⟨by simp, by simp, fun v hv => by rw [List.mem_singleton.mp hv]; exact .refl, fun v hv => hv, fun u v hu hw _ => absurd hu hw, by simp⟩
  rintro M S1 ⟨hM, ks, wait, s4, ⟨_, _, _, s5, s6, s7, rfl, rfl, rfl, rfl⟩, hc⟩
  (repeat (first | refine ⟨_, rfl, Nat.le_of_ble_eq_true rfl, ?_⟩ | refine ⟨_, rfl, ?_⟩ | refine ⟨_, _, rfl, ?_⟩ | refine ⟨_, _, rfl, rfl, ?_⟩ | refine ⟨_, _, _, rfl, rfl, rfl, ?_⟩ | refine ⟨_, _, _, rfl, rfl, by (first | exact kb_NoneType_int | exact kb_bool_int | exact kb_int_int | exact kb_str_int | exact kb_tuple_int | exact kb_list_int | exact kb_dict_int | exact kb_NoneType_bool | exact kb_bool_bool | exact kb_int_bool | exact kb_str_bool | exact kb_tuple_bool | exact kb_list_bool | exact kb_dict_bool | exact kb_NoneType_tuple | exact kb_bool_tuple | exact kb_int_tuple | exact kb_str_tuple | exact kb_tuple_tuple | exact kb_list_tuple | exact kb_dict_tuple), ?_⟩ | refine ⟨_, _, _, _, _, rfl, rfl, rfl, rfl, rfl, ?_⟩ | refine iteT ?_ | refine iteF ?_ | refine ⟨(by decide : List.Nodup _), ?_⟩ | refine ⟨rfl, ?_⟩))
  refine ⟨_, _, _, _, rfl, rfl, pyD_ints wait, rfl, shaped_ints wait, rfl, _, rfl, ?_⟩
  refine ite2 (fun hc2 => ?_) (fun hc2 => ?_)
  · have hne : wait ≠ [] := by
      intro e
      subst e
      rw [if_pos rfl] at hc2
      simp [PyData.eqv, PyData.eqvAll] at hc2
    obtain ⟨here, hh⟩ : ∃ here, wait[wait.length - 1]? = some here := ⟨wait[wait.length - 1]'(by have := List.length_pos_iff.mpr hne; omega), List.getElem?_eq_getElem _⟩
    have hsplit : wait = wait.dropLast ++ [here] := by
      have e1 := List.dropLast_concat_getLast hne
      have e2 : wait.getLast hne = here := by
        rw [List.getLast_eq_getElem]
        have := List.getElem?_eq_some_iff.mp hh
        exact this.2
      rw [e2] at e1
      exact e1.symm
    have hlen : wait.length = wait.dropLast.length + 1 := by
      have := congrArg List.length hsplit
      simpa using this
    have hMpos : 0 < M := by have := hc.me; have := List.length_pos_iff.mpr hne; omega
    have hhw : here ∈ wait := List.mem_of_getElem? hh
    (repeat (first | refine ⟨_, rfl, Nat.le_of_ble_eq_true rfl, ?_⟩ | refine ⟨_, rfl, ?_⟩ | refine ⟨_, _, rfl, ?_⟩ | refine ⟨_, _, rfl, rfl, ?_⟩ | refine ⟨_, _, _, rfl, rfl, rfl, ?_⟩ | refine ⟨_, _, _, rfl, rfl, by (first | exact kb_NoneType_int | exact kb_bool_int | exact kb_int_int | exact kb_str_int | exact kb_tuple_int | exact kb_list_int | exact kb_dict_int | exact kb_NoneType_bool | exact kb_bool_bool | exact kb_int_bool | exact kb_str_bool | exact kb_tuple_bool | exact kb_list_bool | exact kb_dict_bool | exact kb_NoneType_tuple | exact kb_bool_tuple | exact kb_int_tuple | exact kb_str_tuple | exact kb_tuple_tuple | exact kb_list_tuple | exact kb_dict_tuple), ?_⟩ | refine ⟨_, _, _, _, _, rfl, rfl, rfl, rfl, rfl, ?_⟩ | refine iteT ?_ | refine iteF ?_ | refine ⟨(by decide : List.Nodup _), ?_⟩ | refine ⟨rfl, ?_⟩))
    refine ⟨_, _, .int here, rfl, rfl, by rw [List.length_map, List.getElem?_map, hh]; rfl, ?_⟩
    (repeat (first | refine ⟨_, rfl, Nat.le_of_ble_eq_true rfl, ?_⟩ | refine ⟨_, rfl, ?_⟩ | refine ⟨_, _, rfl, ?_⟩ | refine ⟨_, _, rfl, rfl, ?_⟩ | refine ⟨_, _, _, rfl, rfl, rfl, ?_⟩ | refine ⟨_, _, _, rfl, rfl, by (first | exact kb_NoneType_int | exact kb_bool_int | exact kb_int_int | exact kb_str_int | exact kb_tuple_int | exact kb_list_int | exact kb_dict_int | exact kb_NoneType_bool | exact kb_bool_bool | exact kb_int_bool | exact kb_str_bool | exact kb_tuple_bool | exact kb_list_bool | exact kb_dict_bool | exact kb_NoneType_tuple | exact kb_bool_tuple | exact kb_int_tuple | exact kb_str_tuple | exact kb_tuple_tuple | exact kb_list_tuple | exact kb_dict_tuple), ?_⟩ | refine ⟨_, _, _, _, _, rfl, rfl, rfl, rfl, rfl, ?_⟩ | refine iteT ?_ | refine iteF ?_ | refine ⟨(by decide : List.Nodup _), ?_⟩ | refine ⟨rfl, ?_⟩))
    refine ⟨fun i S => ∃ ks wait, ctS ps b ks wait (some (.fr (.int here))) S ∧ Ct ps b here i ks wait (M - 1), ⟨ks, wait.dropLast, ⟨_, _, _, _, _, _, rfl, rfl, rfl, by rw [List.map_dropLast]⟩, ?_⟩, ?_, ?_⟩
    · refine ⟨hc.nd, hc.bm, hc.re, fun v hv => hc.wm v ((List.dropLast_sublist _).subset hv), hc.wm here hhw, fun u v hu hw hn ha => hc.clo u v hu (fun hm => ?_) ha, fun j x y hj => by omega, ?_⟩
      · rw [hsplit] at hm
        rcases List.mem_append.mp hm with hm | hm
        · exact hw hm
        · exact hn (List.mem_singleton.mp hm)
      · have := hc.me
        omega
    · rintro i d S1 hd ⟨ks, wait, ⟨_, _, _, s5, s6, s7, rfl, rfl, rfl, rfl⟩, hc⟩
      obtain ⟨q, hq, rfl⟩ : ∃ q, ps[i]? = some q ∧ prD q = d := by
        rw [List.getElem?_map] at hd
        cases e : ps[i]? with
        | none => rw [e] at hd; cases hd
        | some t => rw [e] at hd; cases hd; exact ⟨t, rfl, rfl⟩
      obtain ⟨x, y⟩ := q
      have hqm : (x, y) ∈ ps := List.mem_of_getElem? hq
      (repeat (first | refine ⟨_, rfl, Nat.le_of_ble_eq_true rfl, ?_⟩ | refine ⟨_, rfl, ?_⟩ | refine ⟨_, _, rfl, ?_⟩ | refine ⟨_, _, rfl, rfl, ?_⟩ | refine ⟨_, _, _, rfl, rfl, rfl, ?_⟩ | refine ⟨_, _, _, rfl, rfl, by (first | exact kb_NoneType_int | exact kb_bool_int | exact kb_int_int | exact kb_str_int | exact kb_tuple_int | exact kb_list_int | exact kb_dict_int | exact kb_NoneType_bool | exact kb_bool_bool | exact kb_int_bool | exact kb_str_bool | exact kb_tuple_bool | exact kb_list_bool | exact kb_dict_bool | exact kb_NoneType_tuple | exact kb_bool_tuple | exact kb_int_tuple | exact kb_str_tuple | exact kb_tuple_tuple | exact kb_list_tuple | exact kb_dict_tuple), ?_⟩ | refine ⟨_, _, _, _, _, rfl, rfl, rfl, rfl, rfl, ?_⟩ | refine iteT ?_ | refine iteF ?_ | refine ⟨(by decide : List.Nodup _), ?_⟩ | refine ⟨rfl, ?_⟩))
      refine ⟨_, _, _, _, rfl, rfl, rfl, rfl, rfl, rfl, _, rfl, ?_⟩
      refine ite2 (fun hx => ?_) (fun hx => ?_)
      · have hx' : x = here := by
          rw [if_neg Bool.false_ne_true, eqv_int] at hx
          simpa using hx
        (repeat (first | refine ⟨_, rfl, Nat.le_of_ble_eq_true rfl, ?_⟩ | refine ⟨_, rfl, ?_⟩ | refine ⟨_, _, rfl, ?_⟩ | refine ⟨_, _, rfl, rfl, ?_⟩ | refine ⟨_, _, _, rfl, rfl, rfl, ?_⟩ | refine ⟨_, _, _, rfl, rfl, by (first | exact kb_NoneType_int | exact kb_bool_int | exact kb_int_int | exact kb_str_int | exact kb_tuple_int | exact kb_list_int | exact kb_dict_int | exact kb_NoneType_bool | exact kb_bool_bool | exact kb_int_bool | exact kb_str_bool | exact kb_tuple_bool | exact kb_list_bool | exact kb_dict_bool | exact kb_NoneType_tuple | exact kb_bool_tuple | exact kb_int_tuple | exact kb_str_tuple | exact kb_tuple_tuple | exact kb_list_tuple | exact kb_dict_tuple), ?_⟩ | refine ⟨_, _, _, _, _, rfl, rfl, rfl, rfl, rfl, ?_⟩ | refine iteT ?_ | refine iteF ?_ | refine ⟨(by decide : List.Nodup _), ?_⟩ | refine ⟨rfl, ?_⟩))
        refine ct_inner hps (by omega) [y] ks wait _ (fun t ht => by rw [List.mem_singleton.mp ht]; exact .inl (hx' ▸ hqm)) ⟨_, _, _, _, _, _, rfl, rfl, rfl, rfl⟩ hc fun S' ks' wait' hS' hc' htk hsub => ?_
        exact ⟨ks', wait', hS'.gc, hc'.next hq (fun _ => htk y (by simp)) (fun e => by rw [hx']; exact hc'.hm)⟩
      · have hx' : x ≠ here := by
          rw [if_neg Bool.false_ne_true, eqv_int] at hx
          simpa using hx
        (repeat (first | refine ⟨_, rfl, Nat.le_of_ble_eq_true rfl, ?_⟩ | refine ⟨_, rfl, ?_⟩ | refine ⟨_, _, rfl, ?_⟩ | refine ⟨_, _, rfl, rfl, ?_⟩ | refine ⟨_, _, _, rfl, rfl, rfl, ?_⟩ | refine ⟨_, _, _, rfl, rfl, by (first | exact kb_NoneType_int | exact kb_bool_int | exact kb_int_int | exact kb_str_int | exact kb_tuple_int | exact kb_list_int | exact kb_dict_int | exact kb_NoneType_bool | exact kb_bool_bool | exact kb_int_bool | exact kb_str_bool | exact kb_tuple_bool | exact kb_list_bool | exact kb_dict_bool | exact kb_NoneType_tuple | exact kb_bool_tuple | exact kb_int_tuple | exact kb_str_tuple | exact kb_tuple_tuple | exact kb_list_tuple | exact kb_dict_tuple), ?_⟩ | refine ⟨_, _, _, _, _, rfl, rfl, rfl, rfl, rfl, ?_⟩ | refine iteT ?_ | refine iteF ?_ | refine ⟨(by decide : List.Nodup _), ?_⟩ | refine ⟨rfl, ?_⟩))
        refine ⟨_, _, _, _, rfl, rfl, rfl, rfl, rfl, rfl, _, rfl, ?_⟩
        refine ite2 (fun hy => ?_) (fun hy => ?_)
        · have hy' : y = here := by
            rw [if_neg Bool.false_ne_true, eqv_int] at hy
            simpa using hy
          (repeat (first | refine ⟨_, rfl, Nat.le_of_ble_eq_true rfl, ?_⟩ | refine ⟨_, rfl, ?_⟩ | refine ⟨_, _, rfl, ?_⟩ | refine ⟨_, _, rfl, rfl, ?_⟩ | refine ⟨_, _, _, rfl, rfl, rfl, ?_⟩ | refine ⟨_, _, _, rfl, rfl, by (first | exact kb_NoneType_int | exact kb_bool_int | exact kb_int_int | exact kb_str_int | exact kb_tuple_int | exact kb_list_int | exact kb_dict_int | exact kb_NoneType_bool | exact kb_bool_bool | exact kb_int_bool | exact kb_str_bool | exact kb_tuple_bool | exact kb_list_bool | exact kb_dict_bool | exact kb_NoneType_tuple | exact kb_bool_tuple | exact kb_int_tuple | exact kb_str_tuple | exact kb_tuple_tuple | exact kb_list_tuple | exact kb_dict_tuple), ?_⟩ | refine ⟨_, _, _, _, _, rfl, rfl, rfl, rfl, rfl, ?_⟩ | refine iteT ?_ | refine iteF ?_ | refine ⟨(by decide : List.Nodup _), ?_⟩ | refine ⟨rfl, ?_⟩))
          refine ct_inner hps (by omega) [x] ks wait _ (fun t ht => by rw [List.mem_singleton.mp ht]; exact .inr (hy' ▸ hqm)) ⟨_, _, _, _, _, _, rfl, rfl, rfl, rfl⟩ hc fun S' ks' wait' hS' hc' htk hsub => ?_
          exact ⟨ks', wait', hS'.gc, hc'.next hq (fun e => absurd e hx') (fun _ => htk x (by simp))⟩
        · have hy' : y ≠ here := by
            rw [if_neg Bool.false_ne_true, eqv_int] at hy
            simpa using hy
          (repeat (first | refine ⟨_, rfl, Nat.le_of_ble_eq_true rfl, ?_⟩ | refine ⟨_, rfl, ?_⟩ | refine ⟨_, _, rfl, ?_⟩ | refine ⟨_, _, rfl, rfl, ?_⟩ | refine ⟨_, _, _, rfl, rfl, rfl, ?_⟩ | refine ⟨_, _, _, rfl, rfl, by (first | exact kb_NoneType_int | exact kb_bool_int | exact kb_int_int | exact kb_str_int | exact kb_tuple_int | exact kb_list_int | exact kb_dict_int | exact kb_NoneType_bool | exact kb_bool_bool | exact kb_int_bool | exact kb_str_bool | exact kb_tuple_bool | exact kb_list_bool | exact kb_dict_bool | exact kb_NoneType_tuple | exact kb_bool_tuple | exact kb_int_tuple | exact kb_str_tuple | exact kb_tuple_tuple | exact kb_list_tuple | exact kb_dict_tuple), ?_⟩ | refine ⟨_, _, _, _, _, rfl, rfl, rfl, rfl, rfl, ?_⟩ | refine iteT ?_ | refine iteF ?_ | refine ⟨(by decide : List.Nodup _), ?_⟩ | refine ⟨rfl, ?_⟩))
          refine ct_inner hps (by omega) [] ks wait _ (fun t ht => by cases ht) ⟨_, _, _, _, _, _, rfl, rfl, rfl, rfl⟩ hc fun S' ks' wait' hS' hc' htk hsub => ?_
          exact ⟨ks', wait', hS'.gc, hc'.next hq (fun e => absurd e hx') (fun e => absurd e hy')⟩
    · rintro S1 ⟨ks, wait, hS, hc⟩
      rw [List.length_map] at hc
      have hMM := hc.me
      refine ⟨M - 1, ?_, by omega, ks, wait, _, hS.gc, ⟨hc.nd, hc.bm, hc.re, hc.wm, fun u v hu hw ha => ?_, hc.me⟩⟩
      · omega
      · by_cases hu' : u = here
        · subst hu'
          rcases ha with ha | ha
          · obtain ⟨j, hj⟩ := List.getElem?_of_mem ha
            exact (hc.don j _ _ (List.getElem?_eq_some_iff.mp hj).1 hj).1 rfl
          · obtain ⟨j, hj⟩ := List.getElem?_of_mem ha
            exact (hc.don j _ _ (List.getElem?_eq_some_iff.mp hj).1 hj).2 rfl
        · exact hc.clo u v hu hw hu' ha
  · have he : wait = [] := by
      rw [if_pos rfl] at hc2
      have hc3 : PyData.eqv (.list (wait.map PyData.int)) (.list []) = true := by simpa using hc2
      rw [eqv_nil] at hc3
      simpa using hc3
    subst he
    (repeat (first | refine ⟨_, rfl, Nat.le_of_ble_eq_true rfl, ?_⟩ | refine ⟨_, rfl, ?_⟩ | refine ⟨_, _, rfl, ?_⟩ | refine ⟨_, _, rfl, rfl, ?_⟩ | refine ⟨_, _, _, rfl, rfl, rfl, ?_⟩ | refine ⟨_, _, _, rfl, rfl, by (first | exact kb_NoneType_int | exact kb_bool_int | exact kb_int_int | exact kb_str_int | exact kb_tuple_int | exact kb_list_int | exact kb_dict_int | exact kb_NoneType_bool | exact kb_bool_bool | exact kb_int_bool | exact kb_str_bool | exact kb_tuple_bool | exact kb_list_bool | exact kb_dict_bool | exact kb_NoneType_tuple | exact kb_bool_tuple | exact kb_int_tuple | exact kb_str_tuple | exact kb_tuple_tuple | exact kb_list_tuple | exact kb_dict_tuple), ?_⟩ | refine ⟨_, _, _, _, _, rfl, rfl, rfl, rfl, rfl, ?_⟩ | refine iteT ?_ | refine iteF ?_ | refine ⟨(by decide : List.Nodup _), ?_⟩ | refine ⟨rfl, ?_⟩))
    refine ⟨_, _, rfl, Nat.zero_le _, rfl, ?_⟩
    refine rt0 (h ks hc.nd fun v => ⟨hc.re v, fun hv => ?_⟩)
    induction hv with
    | refl => exact hc.bm
    | step _ a ih => exact hc.clo _ _ ih (by simp) a
end
end Toss
namespace Toss
open PySem PySem.Spec PyProof.Rows L2 TD He
/-! ### next_to -/
def nb (place : Int) (q : Int × Int) : Option Int := if q.1 = place ∨ q.2 = place then some (q.1 + q.2 - place) else none
def srt (ns : List Int) : List Int := ns.mergeSort fun a b => decide (a ≤ b)
def nextTo (ps : List (Int × Int)) (door place : Int) : List Int := (if place = door then [-1] else []) ++ srt (ps.filterMap (nb place))
theorem srt_uniq {ns ns' : List Int} (hp : ns'.Perm ns) (hs : ns'.Pairwise (· ≤ ·)) : ns' = srt ns := by
  have h1 : (srt ns).Pairwise (· ≤ ·) := by
    have := List.pairwise_mergeSort (le := fun a b : Int => decide (a ≤ b)) (fun a b c h1 h2 => by simp at *; omega) (fun a b => by simp; omega) ns
    exact this.imp fun h => by simpa using h
  have h2 : (srt ns).Perm ns := List.mergeSort_perm ns _
  exact List.Perm.eq_of_pairwise (fun a b _ _ h1 h2 => Int.le_antisymm h1 h2) hs h1 (hp.trans h2.symm)
theorem inD2 (p a b : Int) : inD (.int p) [.int a, .int b] = some (decide (a = p) || decide (b = p)) := by
  simp [inD, eqF, fl, flatV, eqV]
  rw [Bool.eq_iff_iff]
  simp
def nbD (place : Int) (d : D) : Option D := match d with
  | D.tup [D.int a, D.int b] => (nb place (a, b)).map D.int
  | _ => none
theorem nbD_pr (place : Int) (q : Int × Int) : nbD place (TD.prD q) = (nb place q).map D.int := rfl
theorem nbD_all (place : Int) : ∀ ps : List (Int × Int), (ps.map TD.prD).filterMap (nbD place) = (ps.filterMap (nb place)).map D.int
  | [] => rfl
  | q :: ps => by
    rw [List.map_cons]
    simp only [List.filterMap_cons, nbD_pr]
    cases e : nb place q with
    | none => simp only [Option.map_none, nbD_all place ps]
    | some n => simp only [Option.map_some, nbD_all place ps, List.map_cons]
section
variable {P : Program} {w : World} {K : PySem.W.Frag} {mg : Str → Option Value} {base : Heap}
def d_next_to : DSp := fun as Pc _ => ∃ ps door place, as = [.fr (.tup (ps.map TD.prD)), .fr (.int door), .fr (.int place)] ∧ ps.length < 1000 ∧ Pc [] (.fr (.lst ((nextTo ps door place).map .int)))
theorem ok_next_to (V : Ev K mg) : DefOk P w K mg base 1 "next_to" ["paths", "door", "place"] d_next_to := by
  refine V.D_next_to.ok sc_next_to 0 (fun as Pc Xc ⟨ps, door, place, e, _⟩ => by subst e; exact ⟨rfl, rfl⟩) ?_
  intro f cdv A outer s H E B as Pc Xc h hB hr tk hp
  refine ⟨_, ((dss_cons (ds_set (i := 3) sc_next_to.nd (de_ifExp (dt_eq (hu64 hr) (dv 2) (dv 1)) (de_lst (da_cons (de_gint V.c_ROAD) da_nil)) (de_lst da_nil))) (dss_one (ds_ret (de_cat (dv 3) (de_sorted V.g_sorted (da_cons (de_lc sc_next_to.nd [("one", 4), ("other", 5)] (di_tup (dv 0)) (fun _ _ _ _ _ => (dg_tup (dgs_cons (dg_name 4 sc_next_to.nd) (dgs_cons (dg_name 5 sc_next_to.nd) dgs_nil)))) (fun _ _ _ _ _ => (dts_one (dt_in (dv 2) (de_tup (da_cons (dv 4) (da_cons (dv 5) da_nil)))))) (fun _ _ _ _ _ => (de_sub (de_add (dv 4) (dv 5)) (dv 2)))) da_nil))))))), ?_⟩
  obtain ⟨ps, door, place, rfl, hps, h⟩ := h
  have hl : (ps.filterMap (nb place)).length < 1000 := Nat.lt_of_le_of_lt (List.length_filterMap_le _ _) hps
  (repeat (first | refine ⟨_, rfl, Nat.le_of_ble_eq_true rfl, ?_⟩ | refine ⟨_, rfl, ?_⟩ | refine ⟨_, _, rfl, ?_⟩ | refine ⟨_, _, rfl, rfl, ?_⟩ | refine ⟨_, _, _, rfl, rfl, rfl, ?_⟩ | refine ⟨_, _, _, rfl, rfl, by (first | exact kb_NoneType_int | exact kb_bool_int | exact kb_int_int | exact kb_str_int | exact kb_tuple_int | exact kb_list_int | exact kb_dict_int | exact kb_NoneType_bool | exact kb_bool_bool | exact kb_int_bool | exact kb_str_bool | exact kb_tuple_bool | exact kb_list_bool | exact kb_dict_bool | exact kb_NoneType_tuple | exact kb_bool_tuple | exact kb_int_tuple | exact kb_str_tuple | exact kb_tuple_tuple | exact kb_list_tuple | exact kb_dict_tuple), ?_⟩ | refine ⟨_, _, _, _, _, rfl, rfl, rfl, rfl, rfl, ?_⟩ | refine iteT ?_ | refine iteF ?_ | refine ⟨(by decide : List.Nodup _), ?_⟩ | refine ⟨rfl, ?_⟩))
  refine ⟨_, _, _, _, rfl, rfl, rfl, rfl, rfl, rfl, _, rfl, ?_⟩
  refine ite2 (fun hc => ?_) (fun hc => ?_)
  all_goals
    (repeat (first | refine ⟨_, rfl, Nat.le_of_ble_eq_true rfl, ?_⟩ | refine ⟨_, rfl, ?_⟩ | refine ⟨_, _, rfl, ?_⟩ | refine ⟨_, _, rfl, rfl, ?_⟩ | refine ⟨_, _, _, rfl, rfl, rfl, ?_⟩ | refine ⟨_, _, _, rfl, rfl, by (first | exact kb_NoneType_int | exact kb_bool_int | exact kb_int_int | exact kb_str_int | exact kb_tuple_int | exact kb_list_int | exact kb_dict_int | exact kb_NoneType_bool | exact kb_bool_bool | exact kb_int_bool | exact kb_str_bool | exact kb_tuple_bool | exact kb_list_bool | exact kb_dict_bool | exact kb_NoneType_tuple | exact kb_bool_tuple | exact kb_int_tuple | exact kb_str_tuple | exact kb_tuple_tuple | exact kb_list_tuple | exact kb_dict_tuple), ?_⟩ | refine ⟨_, _, _, _, _, rfl, rfl, rfl, rfl, rfl, ?_⟩ | refine iteT ?_ | refine iteF ?_ | refine ⟨(by decide : List.Nodup _), ?_⟩ | refine ⟨rfl, ?_⟩))
    refine lc_filter (nbD place) (by show (ps.map TD.prD).length < 1000000; rw [List.length_map]; omega) (fun d acc Q Q' hd hQ => ?_) ?_
    · obtain ⟨⟨x, y⟩, hq, rfl⟩ := List.mem_map.mp hd
      (repeat (first | refine ⟨_, rfl, Nat.le_of_ble_eq_true rfl, ?_⟩ | refine ⟨_, rfl, ?_⟩ | refine ⟨_, _, rfl, ?_⟩ | refine ⟨_, _, rfl, rfl, ?_⟩ | refine ⟨_, _, _, rfl, rfl, rfl, ?_⟩ | refine ⟨_, _, _, rfl, rfl, by (first | exact kb_NoneType_int | exact kb_bool_int | exact kb_int_int | exact kb_str_int | exact kb_tuple_int | exact kb_list_int | exact kb_dict_int | exact kb_NoneType_bool | exact kb_bool_bool | exact kb_int_bool | exact kb_str_bool | exact kb_tuple_bool | exact kb_list_bool | exact kb_dict_bool | exact kb_NoneType_tuple | exact kb_bool_tuple | exact kb_int_tuple | exact kb_str_tuple | exact kb_tuple_tuple | exact kb_list_tuple | exact kb_dict_tuple), ?_⟩ | refine ⟨_, _, _, _, _, rfl, rfl, rfl, rfl, rfl, ?_⟩ | refine iteT ?_ | refine iteF ?_ | refine ⟨(by decide : List.Nodup _), ?_⟩ | refine ⟨rfl, ?_⟩))
      have hk := Option.some.inj (inD2 place x y)
      refine ite2 (fun hin0 => ?_) (fun hin0 => ?_)
      · have hn : nbD place (TD.prD (x, y)) = some (.int (x + y - place)) := by
          rw [nbD_pr]
          unfold nb
          have hin : (decide (x = place) || decide (y = place)) = true := hk.symm.trans hin0
          have : x = place ∨ y = place := by simpa using hin
          rw [if_pos this]
          rfl
        (repeat (first | refine ⟨_, rfl, Nat.le_of_ble_eq_true rfl, ?_⟩ | refine ⟨_, rfl, ?_⟩ | refine ⟨_, _, rfl, ?_⟩ | refine ⟨_, _, rfl, rfl, ?_⟩ | refine ⟨_, _, _, rfl, rfl, rfl, ?_⟩ | refine ⟨_, _, _, rfl, rfl, by (first | exact kb_NoneType_int | exact kb_bool_int | exact kb_int_int | exact kb_str_int | exact kb_tuple_int | exact kb_list_int | exact kb_dict_int | exact kb_NoneType_bool | exact kb_bool_bool | exact kb_int_bool | exact kb_str_bool | exact kb_tuple_bool | exact kb_list_bool | exact kb_dict_bool | exact kb_NoneType_tuple | exact kb_bool_tuple | exact kb_int_tuple | exact kb_str_tuple | exact kb_tuple_tuple | exact kb_list_tuple | exact kb_dict_tuple), ?_⟩ | refine ⟨_, _, _, _, _, rfl, rfl, rfl, rfl, rfl, ?_⟩ | refine iteT ?_ | refine iteF ?_ | refine ⟨(by decide : List.Nodup _), ?_⟩ | refine ⟨rfl, ?_⟩))
        exact (hQ _ rfl).1 _ hn
      · have hn : nbD place (TD.prD (x, y)) = none := by
          rw [nbD_pr]
          unfold nb
          have hin : ¬ (decide (x = place) || decide (y = place)) = true := fun z => hin0 (hk.trans z)
          have : ¬ (x = place ∨ y = place) := by simpa using hin
          rw [if_neg this]
          rfl
        exact (hQ _ rfl).2 hn
    · rw [nbD_all]
      (repeat (first | refine ⟨_, rfl, Nat.le_of_ble_eq_true rfl, ?_⟩ | refine ⟨_, rfl, ?_⟩ | refine ⟨_, _, rfl, ?_⟩ | refine ⟨_, _, rfl, rfl, ?_⟩ | refine ⟨_, _, _, rfl, rfl, rfl, ?_⟩ | refine ⟨_, _, _, rfl, rfl, by (first | exact kb_NoneType_int | exact kb_bool_int | exact kb_int_int | exact kb_str_int | exact kb_tuple_int | exact kb_list_int | exact kb_dict_int | exact kb_NoneType_bool | exact kb_bool_bool | exact kb_int_bool | exact kb_str_bool | exact kb_tuple_bool | exact kb_list_bool | exact kb_dict_bool | exact kb_NoneType_tuple | exact kb_bool_tuple | exact kb_int_tuple | exact kb_str_tuple | exact kb_tuple_tuple | exact kb_list_tuple | exact kb_dict_tuple), ?_⟩ | refine ⟨_, _, _, _, _, rfl, rfl, rfl, rfl, rfl, ?_⟩ | refine iteT ?_ | refine iteF ?_ | refine ⟨(by decide : List.Nodup _), ?_⟩ | refine ⟨rfl, ?_⟩))
      intro ns' hp hs
      have e := srt_uniq hp hs
      subst e
      have hsl : (srt (ps.filterMap (nb place))).length = (ps.filterMap (nb place)).length := List.length_mergeSort _
      first
      | (have hd' : place = door := by
           rw [if_neg Bool.false_ne_true, eqv_int] at hc
           simpa using hc
         have e2 : nextTo ps door place = [-1] ++ srt (ps.filterMap (nb place)) := by unfold nextTo; rw [if_pos hd']
         rw [e2, List.map_append] at h
         refine ⟨_, _, rfl, rfl, by simp; omega, ?_⟩
         exact rt0 h)
      | (have hd' : place ≠ door := by
           rw [if_neg Bool.false_ne_true, eqv_int] at hc
           simpa using hc
         have e2 : nextTo ps door place = [] ++ srt (ps.filterMap (nb place)) := by unfold nextTo; rw [if_neg hd']
         rw [e2, List.map_append] at h
         refine ⟨_, _, rfl, rfl, by simp; omega, ?_⟩
         exact rt0 h)
end
end Toss
namespace Toss
open PySem PySem.Spec PyProof.Rows L2 TD He
/-! ### are_pays -/
def fstI : D → Int
  | .tup (.int a :: _) => a
  | _ => 0
def upB (ds : List D) : Bool := (ds.zip (ds.drop 1)).all fun p => decide (fstI p.1 < fstI p.2)
def arePaysB (d : D) (n : Int) : Bool := match d with
  | .tup ds => ds.all (fun x => isPairB x 0 (n - 1) (-20) 20) && upB ds
  | _ => false
/-- a value whose parts can be asked -/
structure GoodP (d : D) : Prop where
  ty : ∃ k, wholeD d = some k
  it : ∀ ds, d = .tup ds → ds.length < 1000 ∧ ∀ x ∈ ds, GoodD x
theorem isPair_form {x : D} {lo hi le mo : Int} (h : isPairB x lo hi le mo = true) : ∃ i j, x = TD.prD (i, j) ∧ lo ≤ i ∧ i ≤ hi ∧ le ≤ j ∧ j ≤ mo := by
  unfold isPairB at h
  split at h
  · rename_i a b
    rw [Bool.and_eq_true] at h
    obtain ⟨h1, h2⟩ := h
    cases a <;> simp [withinB] at h1
    cases b <;> simp [withinB] at h2
    rename_i i j
    exact ⟨i, j, rfl, h1.1, h1.2, h2.1, h2.2⟩
  · cases h
def ltW : D → D
  | .wtup [a, b] => .bl (decide (fstI a < fstI b))
  | _ => .non
theorem ltW_all (xs ys : List D) : (zipD xs ys).map ltW = ((xs.zip ys).map fun p => decide (fstI p.1 < fstI p.2)).map D.bl := by
  unfold zipD
  rw [List.map_map, List.map_map]
  rfl
theorem cut1 (ds : List D) : TD.cutD ds (some 1) none = ds.drop 1 := by
  unfold TD.cutD
  cases ds with
  | nil => rfl
  | cons d ds =>
    have h1 : HT.sIx (d :: ds).length 0 (some 1) = 1 := by
      unfold HT.sIx
      simp
    have h2 : HT.sIx (d :: ds).length (d :: ds).length none = (d :: ds).length := by
      unfold HT.sIx
      simp
    rw [h1, h2]
    simp
section
variable {P : Program} {w : World} {K : PySem.W.Frag} {mg : Str → Option Value} {base : Heap}
def d_are_pays : DSp := fun as Pc _ => ∃ d n, as = [.fr d, .fr (.int n)] ∧ GoodP d ∧ Pc [] (.fr (.bl (arePaysB d n)))
theorem ok_are_pays (V : Ev K mg) (o_is_pair : DefOk P w K mg base 3 "is_pair" ["value", "low", "high", "least", "most"] d_is_pair) : DefOk P w K mg base 4 "are_pays" ["value", "places"] d_are_pays := by
  refine V.D_are_pays.ok sc_are_pays 0 (fun as Pc Xc ⟨d, n, e, _⟩ => by subst e; exact ⟨rfl, rfl⟩) ?_
  intro f cdv A outer s H E B as Pc Xc h hB hr tk hp
  refine ⟨_, ((dss_cons (ds_if (dt_not (dt_val (de_isi "tuple" V.g_isinstance (da_cons (dv 0) (da_cons (de_ty (T := "tuple") V.g_tuple) da_nil))))) (dss_one (ds_ret de_bl)) dss_nil) (dss_cons (ds_if (dt_not (dt_val (de_all V.g_all (da_cons (de_lc sc_are_pays.nd [("pair", 4)] (di_tup (dv 0)) (fun _ _ _ _ _ => (dg_name 4 sc_are_pays.nd)) (fun _ _ _ _ _ => dts_nil) (fun _ _ _ _ _ => (de_callD o_is_pair (L2.Room.mono hr (by decide)) takesF (da_cons (dv 4) (da_cons de_int (da_cons (de_sub (dv 1) de_int) (da_cons (de_neg (de_gint V.c_MOST_PAY)) (da_cons (de_gint V.c_MOST_PAY) da_nil)))))))) da_nil)))) (dss_one (ds_ret de_bl)) dss_nil) (dss_one (ds_ret (de_all V.g_all (da_cons (de_lc sc_are_pays.nd [("one", 2), ("other", 3)] (di_zip V.g_zip (da_cons (dv 0) (da_cons (de_sl (dv 0) (do_some de_int) do_none) da_nil))) (fun _ _ _ _ _ => (dg_tup (dgs_cons (dg_name 2 sc_are_pays.nd) (dgs_cons (dg_name 3 sc_are_pays.nd) dgs_nil)))) (fun _ _ _ _ _ => dts_nil) (fun _ _ _ _ _ => (de_lt (de_ix (dv 2) de_int) (de_ix (dv 3) de_int)))) da_nil))))))), ?_⟩
  obtain ⟨d, n, rfl, hg, h⟩ := h
  cases d with
  | tup ds =>
    obtain ⟨hl, hi⟩ := hg.it ds rfl
    (repeat (first | refine ⟨_, rfl, Nat.le_of_ble_eq_true rfl, ?_⟩ | refine ⟨_, rfl, ?_⟩ | refine ⟨_, _, rfl, ?_⟩ | refine ⟨_, _, rfl, rfl, ?_⟩ | refine ⟨_, _, _, rfl, rfl, rfl, ?_⟩ | refine ⟨_, _, _, rfl, rfl, by (first | exact kb_NoneType_int | exact kb_bool_int | exact kb_int_int | exact kb_str_int | exact kb_tuple_int | exact kb_list_int | exact kb_dict_int | exact kb_NoneType_bool | exact kb_bool_bool | exact kb_int_bool | exact kb_str_bool | exact kb_tuple_bool | exact kb_list_bool | exact kb_dict_bool | exact kb_NoneType_tuple | exact kb_bool_tuple | exact kb_int_tuple | exact kb_str_tuple | exact kb_tuple_tuple | exact kb_list_tuple | exact kb_dict_tuple), ?_⟩ | refine ⟨_, _, _, _, _, rfl, rfl, rfl, rfl, rfl, ?_⟩ | refine iteT ?_ | refine iteF ?_ | refine ⟨(by decide : List.Nodup _), ?_⟩ | refine ⟨rfl, ?_⟩))
    refine lc_map (fun x => .bl (isPairB x 0 (n - 1) (-20) 20)) (by show ds.length < 1000000; omega) (fun x acc Q hx hQ => ?_) ?_
    · (repeat (first | refine ⟨_, rfl, Nat.le_of_ble_eq_true rfl, ?_⟩ | refine ⟨_, rfl, ?_⟩ | refine ⟨_, _, rfl, ?_⟩ | refine ⟨_, _, rfl, rfl, ?_⟩ | refine ⟨_, _, _, rfl, rfl, rfl, ?_⟩ | refine ⟨_, _, _, rfl, rfl, by (first | exact kb_NoneType_int | exact kb_bool_int | exact kb_int_int | exact kb_str_int | exact kb_tuple_int | exact kb_list_int | exact kb_dict_int | exact kb_NoneType_bool | exact kb_bool_bool | exact kb_int_bool | exact kb_str_bool | exact kb_tuple_bool | exact kb_list_bool | exact kb_dict_bool | exact kb_NoneType_tuple | exact kb_bool_tuple | exact kb_int_tuple | exact kb_str_tuple | exact kb_tuple_tuple | exact kb_list_tuple | exact kb_dict_tuple), ?_⟩ | refine ⟨_, _, _, _, _, rfl, rfl, rfl, rfl, rfl, ?_⟩ | refine iteT ?_ | refine iteF ?_ | refine ⟨(by decide : List.Nodup _), ?_⟩ | refine ⟨rfl, ?_⟩))
      refine ⟨x, 0, n - 1, -20, 20, rfl, hi x hx, ?_⟩
      exact hQ _ rfl
    · (repeat (first | refine ⟨_, rfl, Nat.le_of_ble_eq_true rfl, ?_⟩ | refine ⟨_, rfl, ?_⟩ | refine ⟨_, _, rfl, ?_⟩ | refine ⟨_, _, rfl, rfl, ?_⟩ | refine ⟨_, _, _, rfl, rfl, rfl, ?_⟩ | refine ⟨_, _, _, rfl, rfl, by (first | exact kb_NoneType_int | exact kb_bool_int | exact kb_int_int | exact kb_str_int | exact kb_tuple_int | exact kb_list_int | exact kb_dict_int | exact kb_NoneType_bool | exact kb_bool_bool | exact kb_int_bool | exact kb_str_bool | exact kb_tuple_bool | exact kb_list_bool | exact kb_dict_bool | exact kb_NoneType_tuple | exact kb_bool_tuple | exact kb_int_tuple | exact kb_str_tuple | exact kb_tuple_tuple | exact kb_list_tuple | exact kb_dict_tuple), ?_⟩ | refine ⟨_, _, _, _, _, rfl, rfl, rfl, rfl, rfl, ?_⟩ | refine iteT ?_ | refine iteF ?_ | refine ⟨(by decide : List.Nodup _), ?_⟩ | refine ⟨rfl, ?_⟩))
      refine ⟨_, ds.map (fun x => isPairB x 0 (n - 1) (-20) 20), rfl, by rw [List.map_map]; rfl, ?_⟩
      (repeat (first | refine ⟨_, rfl, Nat.le_of_ble_eq_true rfl, ?_⟩ | refine ⟨_, rfl, ?_⟩ | refine ⟨_, _, rfl, ?_⟩ | refine ⟨_, _, rfl, rfl, ?_⟩ | refine ⟨_, _, _, rfl, rfl, rfl, ?_⟩ | refine ⟨_, _, _, rfl, rfl, by (first | exact kb_NoneType_int | exact kb_bool_int | exact kb_int_int | exact kb_str_int | exact kb_tuple_int | exact kb_list_int | exact kb_dict_int | exact kb_NoneType_bool | exact kb_bool_bool | exact kb_int_bool | exact kb_str_bool | exact kb_tuple_bool | exact kb_list_bool | exact kb_dict_bool | exact kb_NoneType_tuple | exact kb_bool_tuple | exact kb_int_tuple | exact kb_str_tuple | exact kb_tuple_tuple | exact kb_list_tuple | exact kb_dict_tuple), ?_⟩ | refine ⟨_, _, _, _, _, rfl, rfl, rfl, rfl, rfl, ?_⟩ | refine iteT ?_ | refine iteF ?_ | refine ⟨(by decide : List.Nodup _), ?_⟩ | refine ⟨rfl, ?_⟩))
      refine ite2 (fun hc => ?_) (fun hc => ?_)
      · have ha : ds.all (fun x => isPairB x 0 (n - 1) (-20) 20) = false := by
          simpa [List.all_map, Function.comp_def] using hc
        have e : arePaysB (.tup ds) n = false := by
          show (ds.all (fun x => isPairB x 0 (n - 1) (-20) 20) && upB ds) = false
          rw [ha]; rfl
        rw [e] at h
        (repeat (first | refine ⟨_, rfl, Nat.le_of_ble_eq_true rfl, ?_⟩ | refine ⟨_, rfl, ?_⟩ | refine ⟨_, _, rfl, ?_⟩ | refine ⟨_, _, rfl, rfl, ?_⟩ | refine ⟨_, _, _, rfl, rfl, rfl, ?_⟩ | refine ⟨_, _, _, rfl, rfl, by (first | exact kb_NoneType_int | exact kb_bool_int | exact kb_int_int | exact kb_str_int | exact kb_tuple_int | exact kb_list_int | exact kb_dict_int | exact kb_NoneType_bool | exact kb_bool_bool | exact kb_int_bool | exact kb_str_bool | exact kb_tuple_bool | exact kb_list_bool | exact kb_dict_bool | exact kb_NoneType_tuple | exact kb_bool_tuple | exact kb_int_tuple | exact kb_str_tuple | exact kb_tuple_tuple | exact kb_list_tuple | exact kb_dict_tuple), ?_⟩ | refine ⟨_, _, _, _, _, rfl, rfl, rfl, rfl, rfl, ?_⟩ | refine iteT ?_ | refine iteF ?_ | refine ⟨(by decide : List.Nodup _), ?_⟩ | refine ⟨rfl, ?_⟩))
        exact rt0 h
      · have ha : ds.all (fun x => isPairB x 0 (n - 1) (-20) 20) = true := by
          have : ¬ _ := hc
          cases q : ds.all (fun x => isPairB x 0 (n - 1) (-20) 20) with
          | true => rfl
          | false =>
            exfalso
            refine this ?_
            simp only [List.all_map, Function.comp_def, id]
            rw [q]; rfl
        have hpr : ∀ x ∈ ds, ∃ i j, x = TD.prD (i, j) := fun x hx => by
          have := List.all_eq_true.mp ha x hx
          obtain ⟨i, j, e, _⟩ := isPair_form this
          exact ⟨i, j, e⟩
        have e : arePaysB (.tup ds) n = upB ds := by
          show (ds.all (fun x => isPairB x 0 (n - 1) (-20) 20) && upB ds) = _
          rw [ha]; rfl
        rw [e] at h
        (repeat (first | refine ⟨_, rfl, Nat.le_of_ble_eq_true rfl, ?_⟩ | refine ⟨_, rfl, ?_⟩ | refine ⟨_, _, rfl, ?_⟩ | refine ⟨_, _, rfl, rfl, ?_⟩ | refine ⟨_, _, _, rfl, rfl, rfl, ?_⟩ | refine ⟨_, _, _, rfl, rfl, by (first | exact kb_NoneType_int | exact kb_bool_int | exact kb_int_int | exact kb_str_int | exact kb_tuple_int | exact kb_list_int | exact kb_dict_int | exact kb_NoneType_bool | exact kb_bool_bool | exact kb_int_bool | exact kb_str_bool | exact kb_tuple_bool | exact kb_list_bool | exact kb_dict_bool | exact kb_NoneType_tuple | exact kb_bool_tuple | exact kb_int_tuple | exact kb_str_tuple | exact kb_tuple_tuple | exact kb_list_tuple | exact kb_dict_tuple), ?_⟩ | refine ⟨_, _, _, _, _, rfl, rfl, rfl, rfl, rfl, ?_⟩ | refine iteT ?_ | refine iteF ?_ | refine ⟨(by decide : List.Nodup _), ?_⟩ | refine ⟨rfl, ?_⟩))
        refine .inr ⟨ds, rfl, ?_⟩
        (repeat (first | refine ⟨_, rfl, Nat.le_of_ble_eq_true rfl, ?_⟩ | refine ⟨_, rfl, ?_⟩ | refine ⟨_, _, rfl, ?_⟩ | refine ⟨_, _, rfl, rfl, ?_⟩ | refine ⟨_, _, _, rfl, rfl, rfl, ?_⟩ | refine ⟨_, _, _, rfl, rfl, by (first | exact kb_NoneType_int | exact kb_bool_int | exact kb_int_int | exact kb_str_int | exact kb_tuple_int | exact kb_list_int | exact kb_dict_int | exact kb_NoneType_bool | exact kb_bool_bool | exact kb_int_bool | exact kb_str_bool | exact kb_tuple_bool | exact kb_list_bool | exact kb_dict_bool | exact kb_NoneType_tuple | exact kb_bool_tuple | exact kb_int_tuple | exact kb_str_tuple | exact kb_tuple_tuple | exact kb_list_tuple | exact kb_dict_tuple), ?_⟩ | refine ⟨_, _, _, _, _, rfl, rfl, rfl, rfl, rfl, ?_⟩ | refine iteT ?_ | refine iteF ?_ | refine ⟨(by decide : List.Nodup _), ?_⟩ | refine ⟨rfl, ?_⟩))
        refine ⟨ds, TD.cutD ds (some 1) none, .inr rfl, ?_⟩
        refine lc_map ltW (by show (zipD _ _).length < 1000000; rw [zipD_length]; omega) (fun x acc Q hx hQ => ?_) ?_
        · unfold zipD at hx
          obtain ⟨⟨a, b⟩, hab, rfl⟩ := List.mem_map.mp hx
          obtain ⟨h1, h2⟩ := List.of_mem_zip hab
          rw [cut1] at h2
          obtain ⟨i, j, rfl⟩ := hpr a h1
          obtain ⟨k, l, rfl⟩ := hpr b (List.mem_of_mem_drop h2)
          (repeat (first | refine ⟨_, rfl, Nat.le_of_ble_eq_true rfl, ?_⟩ | refine ⟨_, rfl, ?_⟩ | refine ⟨_, _, rfl, ?_⟩ | refine ⟨_, _, rfl, rfl, ?_⟩ | refine ⟨_, _, _, rfl, rfl, rfl, ?_⟩ | refine ⟨_, _, _, rfl, rfl, by (first | exact kb_NoneType_int | exact kb_bool_int | exact kb_int_int | exact kb_str_int | exact kb_tuple_int | exact kb_list_int | exact kb_dict_int | exact kb_NoneType_bool | exact kb_bool_bool | exact kb_int_bool | exact kb_str_bool | exact kb_tuple_bool | exact kb_list_bool | exact kb_dict_bool | exact kb_NoneType_tuple | exact kb_bool_tuple | exact kb_int_tuple | exact kb_str_tuple | exact kb_tuple_tuple | exact kb_list_tuple | exact kb_dict_tuple), ?_⟩ | refine ⟨_, _, _, _, _, rfl, rfl, rfl, rfl, rfl, ?_⟩ | refine iteT ?_ | refine iteF ?_ | refine ⟨(by decide : List.Nodup _), ?_⟩ | refine ⟨rfl, ?_⟩))
          exact hQ _ rfl
        · (repeat (first | refine ⟨_, rfl, Nat.le_of_ble_eq_true rfl, ?_⟩ | refine ⟨_, rfl, ?_⟩ | refine ⟨_, _, rfl, ?_⟩ | refine ⟨_, _, rfl, rfl, ?_⟩ | refine ⟨_, _, _, rfl, rfl, rfl, ?_⟩ | refine ⟨_, _, _, rfl, rfl, by (first | exact kb_NoneType_int | exact kb_bool_int | exact kb_int_int | exact kb_str_int | exact kb_tuple_int | exact kb_list_int | exact kb_dict_int | exact kb_NoneType_bool | exact kb_bool_bool | exact kb_int_bool | exact kb_str_bool | exact kb_tuple_bool | exact kb_list_bool | exact kb_dict_bool | exact kb_NoneType_tuple | exact kb_bool_tuple | exact kb_int_tuple | exact kb_str_tuple | exact kb_tuple_tuple | exact kb_list_tuple | exact kb_dict_tuple), ?_⟩ | refine ⟨_, _, _, _, _, rfl, rfl, rfl, rfl, rfl, ?_⟩ | refine iteT ?_ | refine iteF ?_ | refine ⟨(by decide : List.Nodup _), ?_⟩ | refine ⟨rfl, ?_⟩))
          refine ⟨_, _, rfl, by rw [ltW_all]; rfl, ?_⟩
          refine rt0 ?_
          have e3 : ((ds.zip (TD.cutD ds (some 1) none)).map fun p => decide (fstI p.1 < fstI p.2)).all id = upB ds := by
            rw [cut1, List.all_map]
            rfl
          rw [e3]
          exact h
  | _ =>
    obtain ⟨k, hk⟩ := hg.ty
    first
    | (cases hk; done)
    | ((repeat (first | refine ⟨_, rfl, Nat.le_of_ble_eq_true rfl, ?_⟩ | refine ⟨_, rfl, ?_⟩ | refine ⟨_, _, rfl, ?_⟩ | refine ⟨_, _, rfl, rfl, ?_⟩ | refine ⟨_, _, _, rfl, rfl, rfl, ?_⟩ | refine ⟨_, _, _, rfl, rfl, by (first | exact kb_NoneType_int | exact kb_bool_int | exact kb_int_int | exact kb_str_int | exact kb_tuple_int | exact kb_list_int | exact kb_dict_int | exact kb_NoneType_bool | exact kb_bool_bool | exact kb_int_bool | exact kb_str_bool | exact kb_tuple_bool | exact kb_list_bool | exact kb_dict_bool | exact kb_NoneType_tuple | exact kb_bool_tuple | exact kb_int_tuple | exact kb_str_tuple | exact kb_tuple_tuple | exact kb_list_tuple | exact kb_dict_tuple), ?_⟩ | refine ⟨_, _, _, _, _, rfl, rfl, rfl, rfl, rfl, ?_⟩ | refine iteT ?_ | refine iteF ?_ | refine ⟨(by decide : List.Nodup _), ?_⟩ | refine ⟨rfl, ?_⟩)); exact rt0 h)
end
end Toss
namespace Toss
open PySem PySem.Spec PyProof.Rows L2 TD He
/-! ### are_paths -/
def ltL (ps : List (Int × Int)) : Bool := (ps.zip (ps.drop 1)).all fun p => HT.lexLt [p.1.1, p.1.2] [p.2.1, p.2.2]
structure PathsOk (ps : List (Int × Int)) : Prop where
  ne : ps ≠ []
  rng : ∀ q ∈ ps, 0 ≤ q.1 ∧ q.1 < q.2 ∧ q.2 ≤ 5
  srt : ltL ps = true
  con : ∀ v, 0 ≤ v → (∃ q ∈ ps, v ≤ q.2) → Reach ps 0 v
def upTo (m : Int) : List Int := (List.range (m + 1).toNat).map fun n : Nat => (n : Int)
theorem mem_upTo {m v : Int} (hm : 0 ≤ m) : v ∈ upTo m ↔ 0 ≤ v ∧ v ≤ m := by
  unfold upTo
  simp only [List.mem_map, List.mem_range]
  constructor
  · rintro ⟨n, h, rfl⟩; omega
  · rintro ⟨h1, h2⟩; exact ⟨v.toNat, by omega, by omega⟩
theorem nodup_upTo (m : Int) : (upTo m).Nodup := by
  unfold upTo
  refine List.pairwise_map.mpr (List.nodup_range.imp fun h e => h ?_)
  omega
theorem len_upTo {m : Int} (hm : 0 ≤ m) : ((upTo m).length : Int) = m + 1 := by
  unfold upTo
  simp
  omega
theorem reach_count {ps : List (Int × Int)} {m : Int} {ks : List Int} (hr : ∀ q ∈ ps, 0 ≤ q.1 ∧ q.1 < q.2) (hm : ∃ q ∈ ps, q.2 = m) (hle : ∀ q ∈ ps, q.2 ≤ m) (nd : ks.Nodup) (hk : ∀ v, v ∈ ks ↔ Reach ps 0 v) :
    (ks.length : Int) = m + 1 ↔ ∀ v, 0 ≤ v → (∃ q ∈ ps, v ≤ q.2) → Reach ps 0 v := by
  obtain ⟨q0, hq0, e0⟩ := hm
  have h0 : 0 ≤ m := by have := hr q0 hq0; omega
  have hin : ∀ v ∈ ks, v ∈ upTo m := fun v hv => by
    rw [mem_upTo h0]
    have := reach_in ((hk v).mp hv)
    rcases List.mem_cons.mp this with e | h
    · subst e; exact ⟨Int.le_refl _, h0⟩
    · rcases List.mem_append.mp h with h | h
      · obtain ⟨q, hq, rfl⟩ := List.mem_map.mp h
        have := hr q hq; have := hle q hq; omega
      · obtain ⟨q, hq, rfl⟩ := List.mem_map.mp h
        have := hr q hq; have := hle q hq; omega
  have hl := len_upTo h0
  constructor
  · intro hlen v hv ⟨q, hq, hvq⟩
    by_cases hvk : v ∈ ks
    · exact (hk v).mp hvk
    · exfalso
      have := nodup_len (l := v :: ks) (m := upTo m) (List.nodup_cons.mpr ⟨hvk, nd⟩) fun x hx => by
        rcases List.mem_cons.mp hx with e | hx
        · rw [e, mem_upTo h0]; have := hle q hq; omega
        · exact hin x hx
      simp at this
      omega
  · intro hall
    have h1 := nodup_len nd hin
    have h2 := nodup_len (nodup_upTo m) (m := ks) fun v hv => by
      rw [mem_upTo h0] at hv
      exact (hk v).mpr (hall v hv.1 ⟨q0, hq0, by omega⟩)
    omega
def sndI : D → Int
  | .tup [_, .int b] => b
  | _ => 0
def okP (x : D) : Bool := isPairB x 0 5 0 5 && decide (fstI x < sndI x)
def ltT : D → D
  | .wtup [.tup [.int a, .int b], .tup [.int c, .int d]] => .bl (HT.lexLt [a, b] [c, d])
  | _ => .non
theorem ltT_all (ps : List (Int × Int)) : (zipD (ps.map TD.prD) ((ps.map TD.prD).drop 1)).map ltT = ((ps.zip (ps.drop 1)).map fun p => HT.lexLt [p.1.1, p.1.2] [p.2.1, p.2.2]).map D.bl := by
  unfold zipD
  rw [← List.map_drop, List.zip_map, List.map_map, List.map_map, List.map_map]
  rfl
theorem pairs_of_ok : ∀ {ds : List D}, (∀ x ∈ ds, okP x = true) → ∃ ps : List (Int × Int), ds = ps.map TD.prD ∧ ∀ q ∈ ps, 0 ≤ q.1 ∧ q.1 < q.2 ∧ q.2 ≤ 5
  | [], _ => ⟨[], rfl, by simp⟩
  | x :: ds, h => by
    obtain ⟨ps, e, hr⟩ := pairs_of_ok (ds := ds) fun y hy => h y (List.mem_cons_of_mem _ hy)
    have hx := h x List.mem_cons_self
    unfold okP at hx
    rw [Bool.and_eq_true] at hx
    obtain ⟨i, j, ex, h1, h2, h3, h4⟩ := isPair_form hx.1
    subst ex
    have h5 : i < j := of_decide_eq_true (show decide (i < j) = true from hx.2)
    refine ⟨(i, j) :: ps, by rw [List.map_cons, e], fun q hq => ?_⟩
    rcases List.mem_cons.mp hq with rfl | hq
    · exact ⟨h1, h5, h4⟩
    · exact hr q hq
theorem ok_of_pairs {ps : List (Int × Int)} (h : ∀ q ∈ ps, 0 ≤ q.1 ∧ q.1 < q.2 ∧ q.2 ≤ 5) : ∀ x ∈ ps.map TD.prD, okP x = true := fun x hx => by
  obtain ⟨q, hq, rfl⟩ := List.mem_map.mp hx
  have := h q hq
  have e : okP (TD.prD q) = ((decide (0 ≤ q.1) && decide (q.1 ≤ 5)) && (decide (0 ≤ q.2) && decide (q.2 ≤ 5)) && decide (q.1 < q.2)) := rfl
  rw [e]
  simp
  omega
theorem prD_inj {p q : Int × Int} (h : TD.prD p = TD.prD q) : p = q := by
  unfold TD.prD at h
  simp at h
  exact Prod.ext h.1 h.2
theorem prs_inj : ∀ {ps qs : List (Int × Int)}, ps.map TD.prD = qs.map TD.prD → ps = qs
  | [], [], _ => rfl
  | p :: ps, q :: qs, h => by
    simp only [List.map_cons, List.cons.injEq] at h
    rw [prD_inj h.1, prs_inj h.2]
  | [], _ :: _, h => by simp at h
  | _ :: _, [], h => by simp at h
end Toss
namespace Toss
open PySem PySem.Spec PyProof.Rows L2 TD He
section
variable {P : Program} {w : World} {K : PySem.W.Frag} {mg : Str → Option Value} {base : Heap}
def d_are_paths : DSp := fun as Pc _ => ∃ d, as = [.fr d] ∧ GoodP d ∧ ∀ k : Bool, (k = true ↔ ∃ ps : List (Int × Int), d = .tup (ps.map TD.prD) ∧ PathsOk ps) → Pc [] (.fr (.bl k))
theorem ok_are_paths (V : Ev K mg) (o_is_pair : DefOk P w K mg base 3 "is_pair" ["value", "low", "high", "least", "most"] d_is_pair) (o_come_to : DefOk P w K mg base 1 "come_to" ["paths", "begin"] d_come_to) : DefOk P w K mg base 4 "are_paths" ["value"] d_are_paths := by
  refine V.D_are_paths.ok sc_are_paths 0 (fun as Pc Xc ⟨d, e, _⟩ => by subst e; exact ⟨rfl, rfl⟩) ?_
  intro f cdv A outer s H E B as Pc Xc h hB hr tk hp
  refine ⟨_, ((dss_cons (ds_if (dt_or (dw_or (dt_not (dt_val (de_isi "tuple" V.g_isinstance (da_cons (dv 0) (da_cons (de_ty (T := "tuple") V.g_tuple) da_nil))))) (dw_or1 (dt_eq (hu64 hr) (de_len V.g_len (da_cons (dv 0) da_nil)) de_int)))) (dss_one (ds_ret de_bl)) dss_nil) (dss_cons (ds_if (dt_not (dt_val (de_all V.g_all (da_cons (de_lc sc_are_paths.nd [("pair", 1)] (di_tup (dv 0)) (fun _ _ _ _ _ => (dg_name 1 sc_are_paths.nd)) (fun _ _ _ _ _ => dts_nil) (fun _ _ _ _ _ => (de_and (de_callD o_is_pair (L2.Room.mono hr (by decide)) takesF (da_cons (dv 1) (da_cons de_int (da_cons (de_gint V.c_MOST_PLACE) (da_cons de_int (da_cons (de_gint V.c_MOST_PLACE) da_nil)))))) (de_one (de_lt (de_ix (dv 1) de_int) (de_ix (dv 1) de_int)))))) da_nil)))) (dss_one (ds_ret de_bl)) dss_nil) (dss_cons (ds_if (dt_not (dt_val (de_all V.g_all (da_cons (de_lc sc_are_paths.nd [("one", 2), ("other", 3)] (di_zip V.g_zip (da_cons (dv 0) (da_cons (de_sl (dv 0) (do_some de_int) do_none) da_nil))) (fun _ _ _ _ _ => (dg_tup (dgs_cons (dg_name 2 sc_are_paths.nd) (dgs_cons (dg_name 3 sc_are_paths.nd) dgs_nil)))) (fun _ _ _ _ _ => dts_nil) (fun _ _ _ _ _ => (de_ltT (hu0 hr) (dv 2) (dv 3)))) da_nil)))) (dss_one (ds_ret de_bl)) dss_nil) (dss_one (ds_ret (de_eq (hu64 hr) (de_lenD V.g_len (da_cons (de_callD o_come_to (L2.Room.mono hr (by decide)) tk (da_cons (dv 0) (da_cons de_int da_nil))) da_nil)) (de_add (de_max V.g_max (da_cons (de_lc sc_are_paths.nd [("pair", 1)] (di_tup (dv 0)) (fun _ _ _ _ _ => (dg_name 1 sc_are_paths.nd)) (fun _ _ _ _ _ => dts_nil) (fun _ _ _ _ _ => (de_ix (dv 1) de_int))) da_nil)) de_int)))))))), ?_⟩
  obtain ⟨d, rfl, hg, h⟩ := h
  cases d with
  | tup ds =>
    obtain ⟨hl, hi⟩ := hg.it ds rfl
    (repeat (first | refine ⟨_, rfl, Nat.le_of_ble_eq_true rfl, ?_⟩ | refine ⟨_, rfl, ?_⟩ | refine ⟨_, _, rfl, ?_⟩ | refine ⟨_, _, rfl, rfl, ?_⟩ | refine ⟨_, _, _, rfl, rfl, rfl, ?_⟩ | refine ⟨_, _, _, rfl, rfl, by (first | exact kb_NoneType_int | exact kb_bool_int | exact kb_int_int | exact kb_str_int | exact kb_tuple_int | exact kb_list_int | exact kb_dict_int | exact kb_NoneType_bool | exact kb_bool_bool | exact kb_int_bool | exact kb_str_bool | exact kb_tuple_bool | exact kb_list_bool | exact kb_dict_bool | exact kb_NoneType_tuple | exact kb_bool_tuple | exact kb_int_tuple | exact kb_str_tuple | exact kb_tuple_tuple | exact kb_list_tuple | exact kb_dict_tuple), ?_⟩ | refine ⟨_, _, _, _, _, rfl, rfl, rfl, rfl, rfl, ?_⟩ | refine iteT ?_ | refine iteF ?_ | refine ⟨(by decide : List.Nodup _), ?_⟩ | refine ⟨rfl, ?_⟩))
    refine ⟨_, _, _, _, rfl, rfl, rfl, rfl, rfl, rfl, _, rfl, ?_⟩
    refine ite2 (fun hc => ?_) (fun hc => ?_)
    · have h0 : ds = [] := by
        rw [if_neg Bool.false_ne_true, eqv_int] at hc
        simp at hc
        cases ds with
        | nil => rfl
        | cons a l => simp at hc
      (repeat (first | refine ⟨_, rfl, Nat.le_of_ble_eq_true rfl, ?_⟩ | refine ⟨_, rfl, ?_⟩ | refine ⟨_, _, rfl, ?_⟩ | refine ⟨_, _, rfl, rfl, ?_⟩ | refine ⟨_, _, _, rfl, rfl, rfl, ?_⟩ | refine ⟨_, _, _, rfl, rfl, by (first | exact kb_NoneType_int | exact kb_bool_int | exact kb_int_int | exact kb_str_int | exact kb_tuple_int | exact kb_list_int | exact kb_dict_int | exact kb_NoneType_bool | exact kb_bool_bool | exact kb_int_bool | exact kb_str_bool | exact kb_tuple_bool | exact kb_list_bool | exact kb_dict_bool | exact kb_NoneType_tuple | exact kb_bool_tuple | exact kb_int_tuple | exact kb_str_tuple | exact kb_tuple_tuple | exact kb_list_tuple | exact kb_dict_tuple), ?_⟩ | refine ⟨_, _, _, _, _, rfl, rfl, rfl, rfl, rfl, ?_⟩ | refine iteT ?_ | refine iteF ?_ | refine ⟨(by decide : List.Nodup _), ?_⟩ | refine ⟨rfl, ?_⟩))
      refine rt0 (h false ⟨fun z => (nomatch z), fun ⟨ps, e, hp⟩ => ?_⟩)
      rw [h0] at e
      cases ps with
      | nil => exact absurd rfl hp.ne
      | cons a l => exact absurd (D.tup.inj e) (by simp)
    · have h0 : ds ≠ [] := by
        rintro rfl
        rw [if_neg Bool.false_ne_true, eqv_int] at hc
        simp at hc
      (repeat (first | refine ⟨_, rfl, Nat.le_of_ble_eq_true rfl, ?_⟩ | refine ⟨_, rfl, ?_⟩ | refine ⟨_, _, rfl, ?_⟩ | refine ⟨_, _, rfl, rfl, ?_⟩ | refine ⟨_, _, _, rfl, rfl, rfl, ?_⟩ | refine ⟨_, _, _, rfl, rfl, by (first | exact kb_NoneType_int | exact kb_bool_int | exact kb_int_int | exact kb_str_int | exact kb_tuple_int | exact kb_list_int | exact kb_dict_int | exact kb_NoneType_bool | exact kb_bool_bool | exact kb_int_bool | exact kb_str_bool | exact kb_tuple_bool | exact kb_list_bool | exact kb_dict_bool | exact kb_NoneType_tuple | exact kb_bool_tuple | exact kb_int_tuple | exact kb_str_tuple | exact kb_tuple_tuple | exact kb_list_tuple | exact kb_dict_tuple), ?_⟩ | refine ⟨_, _, _, _, _, rfl, rfl, rfl, rfl, rfl, ?_⟩ | refine iteT ?_ | refine iteF ?_ | refine ⟨(by decide : List.Nodup _), ?_⟩ | refine ⟨rfl, ?_⟩))
      refine lc_map (fun x => .bl (okP x)) (by show ds.length < 1000000; omega) (fun x acc Q hx hQ => ?_) ?_
      · (repeat (first | refine ⟨_, rfl, Nat.le_of_ble_eq_true rfl, ?_⟩ | refine ⟨_, rfl, ?_⟩ | refine ⟨_, _, rfl, ?_⟩ | refine ⟨_, _, rfl, rfl, ?_⟩ | refine ⟨_, _, _, rfl, rfl, rfl, ?_⟩ | refine ⟨_, _, _, rfl, rfl, by (first | exact kb_NoneType_int | exact kb_bool_int | exact kb_int_int | exact kb_str_int | exact kb_tuple_int | exact kb_list_int | exact kb_dict_int | exact kb_NoneType_bool | exact kb_bool_bool | exact kb_int_bool | exact kb_str_bool | exact kb_tuple_bool | exact kb_list_bool | exact kb_dict_bool | exact kb_NoneType_tuple | exact kb_bool_tuple | exact kb_int_tuple | exact kb_str_tuple | exact kb_tuple_tuple | exact kb_list_tuple | exact kb_dict_tuple), ?_⟩ | refine ⟨_, _, _, _, _, rfl, rfl, rfl, rfl, rfl, ?_⟩ | refine iteT ?_ | refine iteF ?_ | refine ⟨(by decide : List.Nodup _), ?_⟩ | refine ⟨rfl, ?_⟩))
        refine ⟨x, 0, 5, 0, 5, rfl, hi x hx, ?_⟩
        refine ⟨_, rfl, ?_⟩
        refine ite2 (fun h1 => ?_) (fun h1 => ?_)
        · have hpq : isPairB x 0 5 0 5 = true := h1
          obtain ⟨i, j, rfl, _⟩ := isPair_form hpq
          (repeat (first | refine ⟨_, rfl, Nat.le_of_ble_eq_true rfl, ?_⟩ | refine ⟨_, rfl, ?_⟩ | refine ⟨_, _, rfl, ?_⟩ | refine ⟨_, _, rfl, rfl, ?_⟩ | refine ⟨_, _, _, rfl, rfl, rfl, ?_⟩ | refine ⟨_, _, _, rfl, rfl, by (first | exact kb_NoneType_int | exact kb_bool_int | exact kb_int_int | exact kb_str_int | exact kb_tuple_int | exact kb_list_int | exact kb_dict_int | exact kb_NoneType_bool | exact kb_bool_bool | exact kb_int_bool | exact kb_str_bool | exact kb_tuple_bool | exact kb_list_bool | exact kb_dict_bool | exact kb_NoneType_tuple | exact kb_bool_tuple | exact kb_int_tuple | exact kb_str_tuple | exact kb_tuple_tuple | exact kb_list_tuple | exact kb_dict_tuple), ?_⟩ | refine ⟨_, _, _, _, _, rfl, rfl, rfl, rfl, rfl, ?_⟩ | refine iteT ?_ | refine iteF ?_ | refine ⟨(by decide : List.Nodup _), ?_⟩ | refine ⟨rfl, ?_⟩))
          have e : okP (TD.prD (i, j)) = decide (i < j) := by
            unfold okP
            rw [hpq]
            rfl
          simp only [e] at hQ
          exact hQ _ rfl
        · have hpq : isPairB x 0 5 0 5 = false := (Bool.not_eq_true _).mp h1
          have e : okP x = false := by
            unfold okP
            rw [hpq]
            rfl
          simp only [e] at hQ
          exact hQ _ rfl
      · (repeat (first | refine ⟨_, rfl, Nat.le_of_ble_eq_true rfl, ?_⟩ | refine ⟨_, rfl, ?_⟩ | refine ⟨_, _, rfl, ?_⟩ | refine ⟨_, _, rfl, rfl, ?_⟩ | refine ⟨_, _, _, rfl, rfl, rfl, ?_⟩ | refine ⟨_, _, _, rfl, rfl, by (first | exact kb_NoneType_int | exact kb_bool_int | exact kb_int_int | exact kb_str_int | exact kb_tuple_int | exact kb_list_int | exact kb_dict_int | exact kb_NoneType_bool | exact kb_bool_bool | exact kb_int_bool | exact kb_str_bool | exact kb_tuple_bool | exact kb_list_bool | exact kb_dict_bool | exact kb_NoneType_tuple | exact kb_bool_tuple | exact kb_int_tuple | exact kb_str_tuple | exact kb_tuple_tuple | exact kb_list_tuple | exact kb_dict_tuple), ?_⟩ | refine ⟨_, _, _, _, _, rfl, rfl, rfl, rfl, rfl, ?_⟩ | refine iteT ?_ | refine iteF ?_ | refine ⟨(by decide : List.Nodup _), ?_⟩ | refine ⟨rfl, ?_⟩))
        refine ⟨_, ds.map okP, rfl, by rw [List.map_map]; rfl, ?_⟩
        (repeat (first | refine ⟨_, rfl, Nat.le_of_ble_eq_true rfl, ?_⟩ | refine ⟨_, rfl, ?_⟩ | refine ⟨_, _, rfl, ?_⟩ | refine ⟨_, _, rfl, rfl, ?_⟩ | refine ⟨_, _, _, rfl, rfl, rfl, ?_⟩ | refine ⟨_, _, _, rfl, rfl, by (first | exact kb_NoneType_int | exact kb_bool_int | exact kb_int_int | exact kb_str_int | exact kb_tuple_int | exact kb_list_int | exact kb_dict_int | exact kb_NoneType_bool | exact kb_bool_bool | exact kb_int_bool | exact kb_str_bool | exact kb_tuple_bool | exact kb_list_bool | exact kb_dict_bool | exact kb_NoneType_tuple | exact kb_bool_tuple | exact kb_int_tuple | exact kb_str_tuple | exact kb_tuple_tuple | exact kb_list_tuple | exact kb_dict_tuple), ?_⟩ | refine ⟨_, _, _, _, _, rfl, rfl, rfl, rfl, rfl, ?_⟩ | refine iteT ?_ | refine iteF ?_ | refine ⟨(by decide : List.Nodup _), ?_⟩ | refine ⟨rfl, ?_⟩))
        refine ite2 (fun hc => ?_) (fun hc => ?_)
        · have ha : (ds.map okP).all id = false := by simpa using hc
          (repeat (first | refine ⟨_, rfl, Nat.le_of_ble_eq_true rfl, ?_⟩ | refine ⟨_, rfl, ?_⟩ | refine ⟨_, _, rfl, ?_⟩ | refine ⟨_, _, rfl, rfl, ?_⟩ | refine ⟨_, _, _, rfl, rfl, rfl, ?_⟩ | refine ⟨_, _, _, rfl, rfl, by (first | exact kb_NoneType_int | exact kb_bool_int | exact kb_int_int | exact kb_str_int | exact kb_tuple_int | exact kb_list_int | exact kb_dict_int | exact kb_NoneType_bool | exact kb_bool_bool | exact kb_int_bool | exact kb_str_bool | exact kb_tuple_bool | exact kb_list_bool | exact kb_dict_bool | exact kb_NoneType_tuple | exact kb_bool_tuple | exact kb_int_tuple | exact kb_str_tuple | exact kb_tuple_tuple | exact kb_list_tuple | exact kb_dict_tuple), ?_⟩ | refine ⟨_, _, _, _, _, rfl, rfl, rfl, rfl, rfl, ?_⟩ | refine iteT ?_ | refine iteF ?_ | refine ⟨(by decide : List.Nodup _), ?_⟩ | refine ⟨rfl, ?_⟩))
          refine rt0 (h false ⟨fun z => (nomatch z), fun ⟨ps, e, hp⟩ => ?_⟩)
          cases e
          have : ((ps.map TD.prD).map okP).all id = true := by
            rw [List.all_map]
            exact List.all_eq_true.mpr (ok_of_pairs hp.rng)
          rw [this] at ha
          cases ha
        · have ha : (ds.map okP).all id = true := by
            cases q : (ds.map okP).all id with
            | true => rfl
            | false => exact absurd (by rw [q]; rfl) hc
          rw [List.all_map] at ha
          obtain ⟨ps, rfl, hrng⟩ := pairs_of_ok (List.all_eq_true.mp ha)
          have hne : ps ≠ [] := fun e => h0 (by rw [e]; rfl)
          rw [List.length_map] at hl
          (repeat (first | refine ⟨_, rfl, Nat.le_of_ble_eq_true rfl, ?_⟩ | refine ⟨_, rfl, ?_⟩ | refine ⟨_, _, rfl, ?_⟩ | refine ⟨_, _, rfl, rfl, ?_⟩ | refine ⟨_, _, _, rfl, rfl, rfl, ?_⟩ | refine ⟨_, _, _, rfl, rfl, by (first | exact kb_NoneType_int | exact kb_bool_int | exact kb_int_int | exact kb_str_int | exact kb_tuple_int | exact kb_list_int | exact kb_dict_int | exact kb_NoneType_bool | exact kb_bool_bool | exact kb_int_bool | exact kb_str_bool | exact kb_tuple_bool | exact kb_list_bool | exact kb_dict_bool | exact kb_NoneType_tuple | exact kb_bool_tuple | exact kb_int_tuple | exact kb_str_tuple | exact kb_tuple_tuple | exact kb_list_tuple | exact kb_dict_tuple), ?_⟩ | refine ⟨_, _, _, _, _, rfl, rfl, rfl, rfl, rfl, ?_⟩ | refine iteT ?_ | refine iteF ?_ | refine ⟨(by decide : List.Nodup _), ?_⟩ | refine ⟨rfl, ?_⟩))
          refine .inr ⟨_, rfl, ?_⟩
          (repeat (first | refine ⟨_, rfl, Nat.le_of_ble_eq_true rfl, ?_⟩ | refine ⟨_, rfl, ?_⟩ | refine ⟨_, _, rfl, ?_⟩ | refine ⟨_, _, rfl, rfl, ?_⟩ | refine ⟨_, _, _, rfl, rfl, rfl, ?_⟩ | refine ⟨_, _, _, rfl, rfl, by (first | exact kb_NoneType_int | exact kb_bool_int | exact kb_int_int | exact kb_str_int | exact kb_tuple_int | exact kb_list_int | exact kb_dict_int | exact kb_NoneType_bool | exact kb_bool_bool | exact kb_int_bool | exact kb_str_bool | exact kb_tuple_bool | exact kb_list_bool | exact kb_dict_bool | exact kb_NoneType_tuple | exact kb_bool_tuple | exact kb_int_tuple | exact kb_str_tuple | exact kb_tuple_tuple | exact kb_list_tuple | exact kb_dict_tuple), ?_⟩ | refine ⟨_, _, _, _, _, rfl, rfl, rfl, rfl, rfl, ?_⟩ | refine iteT ?_ | refine iteF ?_ | refine ⟨(by decide : List.Nodup _), ?_⟩ | refine ⟨rfl, ?_⟩))
          refine ⟨_, TD.cutD (ps.map TD.prD) (some 1) none, .inr rfl, ?_⟩
          refine lc_map ltT (by show (zipD _ _).length < 1000000; rw [zipD_length, List.length_map]; omega) (fun x acc Q hx hQ => ?_) ?_
          · unfold zipD at hx
            obtain ⟨⟨a, b⟩, hab, rfl⟩ := List.mem_map.mp hx
            obtain ⟨h1, h2⟩ := List.of_mem_zip hab
            rw [cut1] at h2
            obtain ⟨⟨i, j⟩, _, rfl⟩ := List.mem_map.mp h1
            obtain ⟨⟨k, l⟩, _, rfl⟩ := List.mem_map.mp (List.mem_of_mem_drop h2)
            (repeat (first | refine ⟨_, rfl, Nat.le_of_ble_eq_true rfl, ?_⟩ | refine ⟨_, rfl, ?_⟩ | refine ⟨_, _, rfl, ?_⟩ | refine ⟨_, _, rfl, rfl, ?_⟩ | refine ⟨_, _, _, rfl, rfl, rfl, ?_⟩ | refine ⟨_, _, _, rfl, rfl, by (first | exact kb_NoneType_int | exact kb_bool_int | exact kb_int_int | exact kb_str_int | exact kb_tuple_int | exact kb_list_int | exact kb_dict_int | exact kb_NoneType_bool | exact kb_bool_bool | exact kb_int_bool | exact kb_str_bool | exact kb_tuple_bool | exact kb_list_bool | exact kb_dict_bool | exact kb_NoneType_tuple | exact kb_bool_tuple | exact kb_int_tuple | exact kb_str_tuple | exact kb_tuple_tuple | exact kb_list_tuple | exact kb_dict_tuple), ?_⟩ | refine ⟨_, _, _, _, _, rfl, rfl, rfl, rfl, rfl, ?_⟩ | refine iteT ?_ | refine iteF ?_ | refine ⟨(by decide : List.Nodup _), ?_⟩ | refine ⟨rfl, ?_⟩))
            refine ⟨[i, j], [k, l], rfl, rfl, ?_⟩
            exact hQ _ rfl
          · (repeat (first | refine ⟨_, rfl, Nat.le_of_ble_eq_true rfl, ?_⟩ | refine ⟨_, rfl, ?_⟩ | refine ⟨_, _, rfl, ?_⟩ | refine ⟨_, _, rfl, rfl, ?_⟩ | refine ⟨_, _, _, rfl, rfl, rfl, ?_⟩ | refine ⟨_, _, _, rfl, rfl, by (first | exact kb_NoneType_int | exact kb_bool_int | exact kb_int_int | exact kb_str_int | exact kb_tuple_int | exact kb_list_int | exact kb_dict_int | exact kb_NoneType_bool | exact kb_bool_bool | exact kb_int_bool | exact kb_str_bool | exact kb_tuple_bool | exact kb_list_bool | exact kb_dict_bool | exact kb_NoneType_tuple | exact kb_bool_tuple | exact kb_int_tuple | exact kb_str_tuple | exact kb_tuple_tuple | exact kb_list_tuple | exact kb_dict_tuple), ?_⟩ | refine ⟨_, _, _, _, _, rfl, rfl, rfl, rfl, rfl, ?_⟩ | refine iteT ?_ | refine iteF ?_ | refine ⟨(by decide : List.Nodup _), ?_⟩ | refine ⟨rfl, ?_⟩))
            refine ⟨_, _, rfl, by rw [cut1, ltT_all]; rfl, ?_⟩
            (repeat (first | refine ⟨_, rfl, Nat.le_of_ble_eq_true rfl, ?_⟩ | refine ⟨_, rfl, ?_⟩ | refine ⟨_, _, rfl, ?_⟩ | refine ⟨_, _, rfl, rfl, ?_⟩ | refine ⟨_, _, _, rfl, rfl, rfl, ?_⟩ | refine ⟨_, _, _, rfl, rfl, by (first | exact kb_NoneType_int | exact kb_bool_int | exact kb_int_int | exact kb_str_int | exact kb_tuple_int | exact kb_list_int | exact kb_dict_int | exact kb_NoneType_bool | exact kb_bool_bool | exact kb_int_bool | exact kb_str_bool | exact kb_tuple_bool | exact kb_list_bool | exact kb_dict_bool | exact kb_NoneType_tuple | exact kb_bool_tuple | exact kb_int_tuple | exact kb_str_tuple | exact kb_tuple_tuple | exact kb_list_tuple | exact kb_dict_tuple), ?_⟩ | refine ⟨_, _, _, _, _, rfl, rfl, rfl, rfl, rfl, ?_⟩ | refine iteT ?_ | refine iteF ?_ | refine ⟨(by decide : List.Nodup _), ?_⟩ | refine ⟨rfl, ?_⟩))
            have e3 : ((ps.zip (ps.drop 1)).map fun p => HT.lexLt [p.1.1, p.1.2] [p.2.1, p.2.2]).all id = ltL ps := by
              rw [List.all_map]; rfl
            refine ite2 (fun hc => ?_) (fun hc => ?_)
            · have hs : ltL ps = false := by
                rw [← e3]
                simpa using hc
              (repeat (first | refine ⟨_, rfl, Nat.le_of_ble_eq_true rfl, ?_⟩ | refine ⟨_, rfl, ?_⟩ | refine ⟨_, _, rfl, ?_⟩ | refine ⟨_, _, rfl, rfl, ?_⟩ | refine ⟨_, _, _, rfl, rfl, rfl, ?_⟩ | refine ⟨_, _, _, rfl, rfl, by (first | exact kb_NoneType_int | exact kb_bool_int | exact kb_int_int | exact kb_str_int | exact kb_tuple_int | exact kb_list_int | exact kb_dict_int | exact kb_NoneType_bool | exact kb_bool_bool | exact kb_int_bool | exact kb_str_bool | exact kb_tuple_bool | exact kb_list_bool | exact kb_dict_bool | exact kb_NoneType_tuple | exact kb_bool_tuple | exact kb_int_tuple | exact kb_str_tuple | exact kb_tuple_tuple | exact kb_list_tuple | exact kb_dict_tuple), ?_⟩ | refine ⟨_, _, _, _, _, rfl, rfl, rfl, rfl, rfl, ?_⟩ | refine iteT ?_ | refine iteF ?_ | refine ⟨(by decide : List.Nodup _), ?_⟩ | refine ⟨rfl, ?_⟩))
              refine rt0 (h false ⟨fun z => (nomatch z), fun ⟨qs, e, hp⟩ => ?_⟩)
              have := prs_inj (D.tup.inj e)
              subst this
              rw [hp.srt] at hs
              cases hs
            · have hs : ltL ps = true := by
                rw [← e3]
                cases q : ((ps.zip (ps.drop 1)).map fun p => HT.lexLt [p.1.1, p.1.2] [p.2.1, p.2.2]).all id with
                | true => rfl
                | false => exact absurd (by rw [q]; rfl) hc
              (repeat (first | refine ⟨_, rfl, Nat.le_of_ble_eq_true rfl, ?_⟩ | refine ⟨_, rfl, ?_⟩ | refine ⟨_, _, rfl, ?_⟩ | refine ⟨_, _, rfl, rfl, ?_⟩ | refine ⟨_, _, _, rfl, rfl, rfl, ?_⟩ | refine ⟨_, _, _, rfl, rfl, by (first | exact kb_NoneType_int | exact kb_bool_int | exact kb_int_int | exact kb_str_int | exact kb_tuple_int | exact kb_list_int | exact kb_dict_int | exact kb_NoneType_bool | exact kb_bool_bool | exact kb_int_bool | exact kb_str_bool | exact kb_tuple_bool | exact kb_list_bool | exact kb_dict_bool | exact kb_NoneType_tuple | exact kb_bool_tuple | exact kb_int_tuple | exact kb_str_tuple | exact kb_tuple_tuple | exact kb_list_tuple | exact kb_dict_tuple), ?_⟩ | refine ⟨_, _, _, _, _, rfl, rfl, rfl, rfl, rfl, ?_⟩ | refine iteT ?_ | refine iteF ?_ | refine ⟨(by decide : List.Nodup _), ?_⟩ | refine ⟨rfl, ?_⟩))
              refine ⟨hl, fun ks nd hk => ?_⟩
              refine ⟨_, _, _, rfl, rfl, ?_⟩
              (repeat (first | refine ⟨_, rfl, Nat.le_of_ble_eq_true rfl, ?_⟩ | refine ⟨_, rfl, ?_⟩ | refine ⟨_, _, rfl, ?_⟩ | refine ⟨_, _, rfl, rfl, ?_⟩ | refine ⟨_, _, _, rfl, rfl, rfl, ?_⟩ | refine ⟨_, _, _, rfl, rfl, by (first | exact kb_NoneType_int | exact kb_bool_int | exact kb_int_int | exact kb_str_int | exact kb_tuple_int | exact kb_list_int | exact kb_dict_int | exact kb_NoneType_bool | exact kb_bool_bool | exact kb_int_bool | exact kb_str_bool | exact kb_tuple_bool | exact kb_list_bool | exact kb_dict_bool | exact kb_NoneType_tuple | exact kb_bool_tuple | exact kb_int_tuple | exact kb_str_tuple | exact kb_tuple_tuple | exact kb_list_tuple | exact kb_dict_tuple), ?_⟩ | refine ⟨_, _, _, _, _, rfl, rfl, rfl, rfl, rfl, ?_⟩ | refine iteT ?_ | refine iteF ?_ | refine ⟨(by decide : List.Nodup _), ?_⟩ | refine ⟨rfl, ?_⟩))
              refine lc_map (fun x => .int (sndI x)) (by show (ps.map TD.prD).length < 1000000; rw [List.length_map]; omega) (fun x acc Q hx hQ => ?_) ?_
              · obtain ⟨⟨i, j⟩, _, rfl⟩ := List.mem_map.mp hx
                (repeat (first | refine ⟨_, rfl, Nat.le_of_ble_eq_true rfl, ?_⟩ | refine ⟨_, rfl, ?_⟩ | refine ⟨_, _, rfl, ?_⟩ | refine ⟨_, _, rfl, rfl, ?_⟩ | refine ⟨_, _, _, rfl, rfl, rfl, ?_⟩ | refine ⟨_, _, _, rfl, rfl, by (first | exact kb_NoneType_int | exact kb_bool_int | exact kb_int_int | exact kb_str_int | exact kb_tuple_int | exact kb_list_int | exact kb_dict_int | exact kb_NoneType_bool | exact kb_bool_bool | exact kb_int_bool | exact kb_str_bool | exact kb_tuple_bool | exact kb_list_bool | exact kb_dict_bool | exact kb_NoneType_tuple | exact kb_bool_tuple | exact kb_int_tuple | exact kb_str_tuple | exact kb_tuple_tuple | exact kb_list_tuple | exact kb_dict_tuple), ?_⟩ | refine ⟨_, _, _, _, _, rfl, rfl, rfl, rfl, rfl, ?_⟩ | refine iteT ?_ | refine iteF ?_ | refine ⟨(by decide : List.Nodup _), ?_⟩ | refine ⟨rfl, ?_⟩))
                exact hQ _ rfl
              · (repeat (first | refine ⟨_, rfl, Nat.le_of_ble_eq_true rfl, ?_⟩ | refine ⟨_, rfl, ?_⟩ | refine ⟨_, _, rfl, ?_⟩ | refine ⟨_, _, rfl, rfl, ?_⟩ | refine ⟨_, _, _, rfl, rfl, rfl, ?_⟩ | refine ⟨_, _, _, rfl, rfl, by (first | exact kb_NoneType_int | exact kb_bool_int | exact kb_int_int | exact kb_str_int | exact kb_tuple_int | exact kb_list_int | exact kb_dict_int | exact kb_NoneType_bool | exact kb_bool_bool | exact kb_int_bool | exact kb_str_bool | exact kb_tuple_bool | exact kb_list_bool | exact kb_dict_bool | exact kb_NoneType_tuple | exact kb_bool_tuple | exact kb_int_tuple | exact kb_str_tuple | exact kb_tuple_tuple | exact kb_list_tuple | exact kb_dict_tuple), ?_⟩ | refine ⟨_, _, _, _, _, rfl, rfl, rfl, rfl, rfl, ?_⟩ | refine iteT ?_ | refine iteF ?_ | refine ⟨(by decide : List.Nodup _), ?_⟩ | refine ⟨rfl, ?_⟩))
                refine ⟨_, ps.map (·.2), rfl, by rw [List.map_map, List.map_map]; rfl, by rw [List.length_map]; exact List.length_pos_iff.mpr hne, fun m hm hle => ?_⟩
                (repeat (first | refine ⟨_, rfl, Nat.le_of_ble_eq_true rfl, ?_⟩ | refine ⟨_, rfl, ?_⟩ | refine ⟨_, _, rfl, ?_⟩ | refine ⟨_, _, rfl, rfl, ?_⟩ | refine ⟨_, _, _, rfl, rfl, rfl, ?_⟩ | refine ⟨_, _, _, rfl, rfl, by (first | exact kb_NoneType_int | exact kb_bool_int | exact kb_int_int | exact kb_str_int | exact kb_tuple_int | exact kb_list_int | exact kb_dict_int | exact kb_NoneType_bool | exact kb_bool_bool | exact kb_int_bool | exact kb_str_bool | exact kb_tuple_bool | exact kb_list_bool | exact kb_dict_bool | exact kb_NoneType_tuple | exact kb_bool_tuple | exact kb_int_tuple | exact kb_str_tuple | exact kb_tuple_tuple | exact kb_list_tuple | exact kb_dict_tuple), ?_⟩ | refine ⟨_, _, _, _, _, rfl, rfl, rfl, rfl, rfl, ?_⟩ | refine iteT ?_ | refine iteF ?_ | refine ⟨(by decide : List.Nodup _), ?_⟩ | refine ⟨rfl, ?_⟩))
                refine ⟨_, _, _, _, rfl, rfl, rfl, rfl, rfl, rfl, ?_⟩
                refine rt0 ?_
                rw [if_neg Bool.false_ne_true, eqv_int]
                refine h _ ?_
                rw [decide_eq_true_eq]
                obtain ⟨q0, hq0, e0⟩ := List.mem_map.mp hm
                have key := reach_count (m := m) (fun q hq => ⟨(hrng q hq).1, (hrng q hq).2.1⟩) ⟨q0, hq0, e0⟩ (fun q hq => hle q.2 (List.mem_map.mpr ⟨q, hq, rfl⟩)) nd hk
                have hlen : (((ks.map Sum.inl : List Key).length : Nat) : Int) = (ks.length : Int) := by rw [List.length_map]
                rw [hlen, key]
                constructor
                · exact fun hc => ⟨ps, rfl, hne, hrng, hs, hc⟩
                · rintro ⟨qs, e, hp⟩
                  have := prs_inj (D.tup.inj e)
                  subst this
                  exact hp.con
  | _ =>
    obtain ⟨k, hk⟩ := hg.ty
    first
    | (cases hk; done)
    | ((repeat (first | refine ⟨_, rfl, Nat.le_of_ble_eq_true rfl, ?_⟩ | refine ⟨_, rfl, ?_⟩ | refine ⟨_, _, rfl, ?_⟩ | refine ⟨_, _, rfl, rfl, ?_⟩ | refine ⟨_, _, _, rfl, rfl, rfl, ?_⟩ | refine ⟨_, _, _, rfl, rfl, by (first | exact kb_NoneType_int | exact kb_bool_int | exact kb_int_int | exact kb_str_int | exact kb_tuple_int | exact kb_list_int | exact kb_dict_int | exact kb_NoneType_bool | exact kb_bool_bool | exact kb_int_bool | exact kb_str_bool | exact kb_tuple_bool | exact kb_list_bool | exact kb_dict_bool | exact kb_NoneType_tuple | exact kb_bool_tuple | exact kb_int_tuple | exact kb_str_tuple | exact kb_tuple_tuple | exact kb_list_tuple | exact kb_dict_tuple), ?_⟩ | refine ⟨_, _, _, _, _, rfl, rfl, rfl, rfl, rfl, ?_⟩ | refine iteT ?_ | refine iteF ?_ | refine ⟨(by decide : List.Nodup _), ?_⟩ | refine ⟨rfl, ?_⟩)); exact rt0 (h false ⟨fun z => (nomatch z), fun ⟨ps, e, _⟩ => by cases e⟩))
end
end Toss
namespace Toss
open PySem PySem.Spec PyProof.Rows L2 TD He
/-! ### Game(..) -/
def IsMx (ps : List (Int × Int)) (m : Int) : Prop := (∃ q ∈ ps, q.2 = m) ∧ ∀ q ∈ ps, q.2 ≤ m
def gN : List Str := ["weights", "ways", "ends", "lane", "many", "pay_of", "near"]
def payP (qs : List (Int × Int)) : List (Key × D) := qs.map fun q => ((.inl q.1 : Key), D.int q.2)
def payD (qs : List (Int × Int)) : D := .dic (mkKs [] (payP qs)) (mkDs [] [] (payP qs))
def nearD (ps : List (Int × Int)) (door m : Int) : D := .dic ((upTo m).map Sum.inl) ((upTo m).map fun v => .lst ((nextTo ps door v).map D.int))
def gameC (C : Addr) (co : Int × Int) (ps qs : List (Int × Int)) (rd : Int × Int) (m : Int) : CC := .ins C gN [TD.prD co, .tup (ps.map TD.prD), .tup (qs.map TD.prD), TD.prD rd, .int (m + 1), payD qs, nearD ps rd.1 m]
theorem prsOf_prs : ∀ qs : List (Int × Int), prsOf (qs.map TD.prD) = some (payP qs)
  | [] => rfl
  | q :: qs => by
    rw [List.map_cons]
    show (match keyD (.int q.1), prsOf (qs.map TD.prD) with
      | some k, some r => some ((k, D.int q.2) :: r)
      | _, _ => none) = _
    rw [prsOf_prs qs]
    rfl
theorem hasK_rng (i : Nat) : hasK ((List.range i).map fun n : Nat => (.inl ((n : Int)) : Key)) (.inl ((0 : Int) + (i : Nat))) = false := by
  unfold hasK
  rw [List.any_map, List.any_eq_false]
  intro x hx
  have := List.mem_range.mp hx
  simp
  omega
theorem dc_rng {j : Nat} {tk tv : DTE} {vs : List Nat} {S1 : DS} {P : DS → SV → Prop} {n : Nat} (f : Int → D) (hn : n < 1000000)
    (h : ∀ (i : Nat) ks es (Q : DS → SV → SV → Prop), i < n → (∀ S5 : DS, S5.μ = S1.μ ++ [some (.dic ks es)] → Q S5 (.fr (.int ((0 : Int) + (i : Nat)))) (.fr (f ((0 : Int) + (i : Nat))))) →
      tk (setS ⟨wipeD S1.ρ vs, S1.μ ++ [some (.dic ks es)]⟩ j (.fr (.int ((0 : Int) + (i : Nat))))) fun S4 x => tv S4 fun S5 r => Q S5 x r)
    (q : P S1 (.fr (.dic ((List.range n).map fun n : Nat => (.inl ((n : Int)) : Key)) ((List.range n).map fun n : Nat => f n)))) : dDcI (gNm j) dYes tk tv vs P S1 (rngD 0 n) := by
  refine ⟨by rw [rngD_length]; exact hn, fun i ks es μ => ks = ((List.range i).map fun n : Nat => (.inl ((n : Int)) : Key)) ∧ es = ((List.range i).map fun n : Nat => f n) ∧ μ = S1.μ, ⟨rfl, rfl, rfl⟩, ?_, ?_⟩
  · rintro i d ks es μ hd _ _ ⟨rfl, rfl, rfl⟩
    obtain ⟨hi, rfl⟩ := rngD_get hd
    simp only [dYes, if_true, gNm]
    refine h i _ _ _ hi fun S5 e => ⟨_, _, _, S1.μ, rfl, rfl, rfl, e, rfl, ?_, ?_, rfl⟩
    · unfold putKs
      rw [hasK_rng, if_neg Bool.false_ne_true, List.range_succ, List.map_append, Int.zero_add]
      rfl
    · unfold putDs
      rw [hasK_rng, if_neg Bool.false_ne_true, List.range_succ, List.map_append, Int.zero_add]
      rfl
  · rintro ks es μ _ ⟨rfl, rfl, rfl⟩
    rw [rngD_length]
    exact q
theorem hasK_put (ks : List Key) (k' k : Key) : hasK (putKs ks k') k = (hasK ks k || decide (k' = k)) := by
  unfold putKs
  split
  · rename_i h
    by_cases e : k' = k
    · subst e; simp [h]
    · simp [e]
  · unfold hasK
    rw [List.any_append]
    simp
theorem hasK_mk : ∀ (ps : List (Key × D)) (ks : List Key) (k : Key), hasK (mkKs ks ps) k = (hasK ks k || ps.any fun p => decide (p.1 = k))
  | [], ks, k => by simp [mkKs]
  | (k', d) :: ps, ks, k => by
    unfold mkKs
    rw [hasK_mk ps, hasK_put, List.any_cons, Bool.or_assoc]
theorem hasK_pay (qs : List (Int × Int)) (v : Int) : hasK (mkKs [] (payP qs)) (.inl v) = true ↔ ∃ q ∈ qs, q.1 = v := by
  rw [hasK_mk]
  simp [hasK, payP, List.any_map, Function.comp_def]
def d_game (K : PySem.W.Frag) : DSp := fun as Pc Xc => ∃ c p y r, as = [.own (.ins (ga K "Game") [] []), .fr c, .fr p, .fr y, .fr r] ∧ GoodD c ∧ GoodP p ∧ GoodP y ∧ GoodD r ∧
  (isPairB c 1 9 1 9 = false → Xc [.ins (ga K "Game") [] []] ⟨ga K "InvalidCoin", [], []⟩) ∧
  (isPairB c 1 9 1 9 = true → (¬ ∃ ps : List (Int × Int), p = .tup (ps.map TD.prD) ∧ PathsOk ps) → Xc [.ins (ga K "Game") [] []] ⟨ga K "InvalidPaths", [], []⟩) ∧
  (isPairB c 1 9 1 9 = true → ∀ ps m, p = .tup (ps.map TD.prD) → PathsOk ps → IsMx ps m →
    (arePaysB y (m + 1) = false → Xc [.ins (ga K "Game") [] []] ⟨ga K "InvalidPays", [], []⟩) ∧
    (arePaysB y (m + 1) = true → ∀ qs : List (Int × Int), y = .tup (qs.map TD.prD) →
      (isPairB r 0 m (-20) 20 = false → Xc [.ins (ga K "Game") [] []] ⟨ga K "InvalidRoad", [], []⟩) ∧
      ∀ rd, r = TD.prD rd → isPairB r 0 m (-20) 20 = true → ((∃ q ∈ qs, q.1 = rd.1) → Xc [.ins (ga K "Game") [] []] ⟨ga K "InvalidRoad", [], []⟩) ∧
        ((∀ q ∈ qs, q.1 ≠ rd.1) → ∀ co, c = TD.prD co → Pc [gameC (ga K "Game") co ps qs rd m] (.fr .non))))
section
variable {P : Program} {w : World} {K : PySem.W.Frag} {mg : Str → Option Value} {base : Heap}
theorem px1 {Xc : List CC → Exn → Prop} {ρ : List (Option SV)} {c : CC} {μ : List (Option CC)} {e : Exn} (h : Xc [c] e) : pxOf 1 Xc ⟨ρ, some c :: μ⟩ e := ⟨[c], ⟨by simp, rfl⟩, h⟩
theorem ok_game (V : Ev K mg) (o_is_pair : DefOk P w K mg base 3 "is_pair" ["value", "low", "high", "least", "most"] d_is_pair) (o_are_paths : DefOk P w K mg base 4 "are_paths" ["value"] d_are_paths) (o_are_pays : DefOk P w K mg base 4 "are_pays" ["value", "places"] d_are_pays)
    (o_next_to : DefOk P w K mg base 1 "next_to" ["paths", "door", "place"] d_next_to) (x_InvalidCoin : ExcOk P w K mg base 1 "InvalidCoin" (ga K "InvalidCoin") ["self"] (spX0 K (ga K "InvalidCoin"))) (x_InvalidPaths : ExcOk P w K mg base 1 "InvalidPaths" (ga K "InvalidPaths") ["self"] (spX0 K (ga K "InvalidPaths")))
    (x_InvalidPays : ExcOk P w K mg base 1 "InvalidPays" (ga K "InvalidPays") ["self"] (spX0 K (ga K "InvalidPays"))) (x_InvalidRoad : ExcOk P w K mg base 1 "InvalidRoad" (ga K "InvalidRoad") ["self"] (spX0 K (ga K "InvalidRoad"))) :
    MethOk P w K mg base 5 (ga K "Game") "__init__" ["self", "coin", "paths", "pays", "road"] (d_game K) := by
  refine V.M_Game___init__.ok sc_Game___init__ 1 (fun as Pc Xc ⟨c, p, y, r, e, _⟩ => by subst e; exact ⟨rfl, rfl⟩) ?_
  intro f cdv A outer s H E B as Pc Xc h hB hr tk hp
  refine ⟨_, ((dss_cons (ds_if (dt_not (dt_val (de_callD o_is_pair (L2.Room.mono hr (by decide)) tk (da_cons (dv 1) (da_cons de_int (da_cons (de_gint V.c_MOST_WEIGHT) (da_cons de_int (da_cons (de_gint V.c_MOST_WEIGHT) da_nil)))))))) (dss_one (ds_raise0 x_InvalidCoin (L2.Room.mono hr (by decide)) tk)) dss_nil) (dss_cons (ds_if (dt_not (dt_val (de_callD o_are_paths (L2.Room.mono hr (by decide)) tk (da_cons (dv 2) da_nil)))) (dss_one (ds_raise0 x_InvalidPaths (L2.Room.mono hr (by decide)) tk)) dss_nil) (dss_cons (ds_set (i := 5) sc_Game___init__.nd (de_add (de_max V.g_max (da_cons (de_lc sc_Game___init__.nd [("pair", 8)] (di_tup (dv 2)) (fun _ _ _ _ _ => (dg_name 8 sc_Game___init__.nd)) (fun _ _ _ _ _ => dts_nil) (fun _ _ _ _ _ => (de_ix (dv 8) de_int))) da_nil)) de_int)) (dss_cons (ds_if (dt_not (dt_val (de_callD o_are_pays (L2.Room.mono hr (by decide)) tk (da_cons (dv 3) (da_cons (dv 5) da_nil))))) (dss_one (ds_raise0 x_InvalidPays (L2.Room.mono hr (by decide)) tk)) dss_nil) (dss_cons (ds_set (i := 6) sc_Game___init__.nd (de_dictT V.g_dict (da_cons (dv 3) da_nil))) (dss_cons (ds_if (dt_or (dw_or (dt_not (dt_val (de_callD o_is_pair (L2.Room.mono hr (by decide)) tk (da_cons (dv 4) (da_cons de_int (da_cons (de_sub (dv 5) de_int) (da_cons (de_neg (de_gint V.c_MOST_PAY)) (da_cons (de_gint V.c_MOST_PAY) da_nil)))))))) (dw_or1 (dt_din (hu1 hr) (de_ix (dv 4) de_int) (dv 6))))) (dss_one (ds_raise0 x_InvalidRoad (L2.Room.mono hr (by decide)) tk)) dss_nil) (dss_cons (ds_fld V.cl_Game V.na_Game_weights (dv 1) (dv 0)) (dss_cons (ds_fld V.cl_Game V.na_Game_ways (dv 2) (dv 0)) (dss_cons (ds_fld V.cl_Game V.na_Game_ends (dv 3) (dv 0)) (dss_cons (ds_fld V.cl_Game V.na_Game_lane (dv 4) (dv 0)) (dss_cons (ds_fld V.cl_Game V.na_Game_many (dv 5) (dv 0)) (dss_cons (ds_fld V.cl_Game V.na_Game_pay_of (dv 6) (dv 0)) (dss_one (ds_fld V.cl_Game V.na_Game_near (de_dc sc_Game___init__.nd [("place", 7)] (di_range1 V.g_range (da_cons (dv 5) da_nil)) (fun _ _ _ _ _ => (dg_name 7 sc_Game___init__.nd)) (fun _ _ _ _ _ => dts_nil) (fun _ _ _ _ _ => (dv 7)) (fun _ _ _ _ _ => (de_callD o_next_to (L2.Room.mono hr (by decide)) takesF (da_cons (dv 2) (da_cons (de_ix (dv 4) de_int) (da_cons (dv 7) da_nil)))))) (dv 0)))))))))))))))), ?_⟩
  obtain ⟨c, p, y, r, rfl, gc, gp, gy, gr, hX1, hX2, h⟩ := h
  (repeat (first | refine ⟨_, rfl, Nat.le_of_ble_eq_true rfl, ?_⟩ | refine ⟨_, rfl, ?_⟩ | refine ⟨_, _, rfl, ?_⟩ | refine ⟨_, _, rfl, rfl, ?_⟩ | refine ⟨_, _, _, rfl, rfl, rfl, ?_⟩ | refine ⟨_, _, _, rfl, rfl, by (first | exact kb_NoneType_int | exact kb_bool_int | exact kb_int_int | exact kb_str_int | exact kb_tuple_int | exact kb_list_int | exact kb_dict_int | exact kb_NoneType_bool | exact kb_bool_bool | exact kb_int_bool | exact kb_str_bool | exact kb_tuple_bool | exact kb_list_bool | exact kb_dict_bool | exact kb_NoneType_tuple | exact kb_bool_tuple | exact kb_int_tuple | exact kb_str_tuple | exact kb_tuple_tuple | exact kb_list_tuple | exact kb_dict_tuple), ?_⟩ | refine ⟨_, _, _, _, _, rfl, rfl, rfl, rfl, rfl, ?_⟩ | refine iteT ?_ | refine iteF ?_ | refine ⟨(by decide : List.Nodup _), ?_⟩ | refine ⟨rfl, ?_⟩))
  refine ⟨c, 1, 9, 1, 9, rfl, gc, ?_⟩
  refine ⟨_, rfl, ?_⟩
  refine ite2 (fun hc => ?_) (fun hc => ?_)
  · exact px1 (hX1 (by simpa using hc))
  have hco : isPairB c 1 9 1 9 = true := by simpa using hc
  (repeat (first | refine ⟨_, rfl, Nat.le_of_ble_eq_true rfl, ?_⟩ | refine ⟨_, rfl, ?_⟩ | refine ⟨_, _, rfl, ?_⟩ | refine ⟨_, _, rfl, rfl, ?_⟩ | refine ⟨_, _, _, rfl, rfl, rfl, ?_⟩ | refine ⟨_, _, _, rfl, rfl, by (first | exact kb_NoneType_int | exact kb_bool_int | exact kb_int_int | exact kb_str_int | exact kb_tuple_int | exact kb_list_int | exact kb_dict_int | exact kb_NoneType_bool | exact kb_bool_bool | exact kb_int_bool | exact kb_str_bool | exact kb_tuple_bool | exact kb_list_bool | exact kb_dict_bool | exact kb_NoneType_tuple | exact kb_bool_tuple | exact kb_int_tuple | exact kb_str_tuple | exact kb_tuple_tuple | exact kb_list_tuple | exact kb_dict_tuple), ?_⟩ | refine ⟨_, _, _, _, _, rfl, rfl, rfl, rfl, rfl, ?_⟩ | refine iteT ?_ | refine iteF ?_ | refine ⟨(by decide : List.Nodup _), ?_⟩ | refine ⟨rfl, ?_⟩))
  refine ⟨gp, fun k hk => ?_⟩
  refine ⟨_, rfl, ?_⟩
  refine ite2 (fun hc2 => ?_) (fun hc2 => ?_)
  · refine px1 (hX2 hco fun z => ?_)
    rw [hk.mpr z] at hc2
    cases hc2
  obtain ⟨ps, rfl, hps⟩ := hk.mp (by simpa using hc2)
  (repeat (first | refine ⟨_, rfl, Nat.le_of_ble_eq_true rfl, ?_⟩ | refine ⟨_, rfl, ?_⟩ | refine ⟨_, _, rfl, ?_⟩ | refine ⟨_, _, rfl, rfl, ?_⟩ | refine ⟨_, _, _, rfl, rfl, rfl, ?_⟩ | refine ⟨_, _, _, rfl, rfl, by (first | exact kb_NoneType_int | exact kb_bool_int | exact kb_int_int | exact kb_str_int | exact kb_tuple_int | exact kb_list_int | exact kb_dict_int | exact kb_NoneType_bool | exact kb_bool_bool | exact kb_int_bool | exact kb_str_bool | exact kb_tuple_bool | exact kb_list_bool | exact kb_dict_bool | exact kb_NoneType_tuple | exact kb_bool_tuple | exact kb_int_tuple | exact kb_str_tuple | exact kb_tuple_tuple | exact kb_list_tuple | exact kb_dict_tuple), ?_⟩ | refine ⟨_, _, _, _, _, rfl, rfl, rfl, rfl, rfl, ?_⟩ | refine iteT ?_ | refine iteF ?_ | refine ⟨(by decide : List.Nodup _), ?_⟩ | refine ⟨rfl, ?_⟩))
  have hpl : (ps.map TD.prD).length < 1000 := (gp.it _ rfl).1
  have hpl' : ps.length < 1000 := by rw [List.length_map] at hpl; exact hpl
  refine lc_map (fun x => .int (sndI x)) (by show (ps.map TD.prD).length < 1000000; omega) (fun x acc Q hx hQ => ?_) ?_
  · obtain ⟨⟨i, j⟩, _, rfl⟩ := List.mem_map.mp hx
    (repeat (first | refine ⟨_, rfl, Nat.le_of_ble_eq_true rfl, ?_⟩ | refine ⟨_, rfl, ?_⟩ | refine ⟨_, _, rfl, ?_⟩ | refine ⟨_, _, rfl, rfl, ?_⟩ | refine ⟨_, _, _, rfl, rfl, rfl, ?_⟩ | refine ⟨_, _, _, rfl, rfl, by (first | exact kb_NoneType_int | exact kb_bool_int | exact kb_int_int | exact kb_str_int | exact kb_tuple_int | exact kb_list_int | exact kb_dict_int | exact kb_NoneType_bool | exact kb_bool_bool | exact kb_int_bool | exact kb_str_bool | exact kb_tuple_bool | exact kb_list_bool | exact kb_dict_bool | exact kb_NoneType_tuple | exact kb_bool_tuple | exact kb_int_tuple | exact kb_str_tuple | exact kb_tuple_tuple | exact kb_list_tuple | exact kb_dict_tuple), ?_⟩ | refine ⟨_, _, _, _, _, rfl, rfl, rfl, rfl, rfl, ?_⟩ | refine iteT ?_ | refine iteF ?_ | refine ⟨(by decide : List.Nodup _), ?_⟩ | refine ⟨rfl, ?_⟩))
    exact hQ _ rfl
  (repeat (first | refine ⟨_, rfl, Nat.le_of_ble_eq_true rfl, ?_⟩ | refine ⟨_, rfl, ?_⟩ | refine ⟨_, _, rfl, ?_⟩ | refine ⟨_, _, rfl, rfl, ?_⟩ | refine ⟨_, _, _, rfl, rfl, rfl, ?_⟩ | refine ⟨_, _, _, rfl, rfl, by (first | exact kb_NoneType_int | exact kb_bool_int | exact kb_int_int | exact kb_str_int | exact kb_tuple_int | exact kb_list_int | exact kb_dict_int | exact kb_NoneType_bool | exact kb_bool_bool | exact kb_int_bool | exact kb_str_bool | exact kb_tuple_bool | exact kb_list_bool | exact kb_dict_bool | exact kb_NoneType_tuple | exact kb_bool_tuple | exact kb_int_tuple | exact kb_str_tuple | exact kb_tuple_tuple | exact kb_list_tuple | exact kb_dict_tuple), ?_⟩ | refine ⟨_, _, _, _, _, rfl, rfl, rfl, rfl, rfl, ?_⟩ | refine iteT ?_ | refine iteF ?_ | refine ⟨(by decide : List.Nodup _), ?_⟩ | refine ⟨rfl, ?_⟩))
  refine ⟨_, ps.map (·.2), rfl, by rw [List.map_map, List.map_map]; rfl, by rw [List.length_map]; exact List.length_pos_iff.mpr hps.ne, fun m hm hle => ?_⟩
  obtain ⟨q0, hq0, e0⟩ := List.mem_map.mp hm
  have hmx : IsMx ps m := ⟨⟨q0, hq0, e0⟩, fun q hq => hle q.2 (List.mem_map.mpr ⟨q, hq, rfl⟩)⟩
  obtain ⟨hX3, h⟩ := h hco ps m rfl hps hmx
  (repeat (first | refine ⟨_, rfl, Nat.le_of_ble_eq_true rfl, ?_⟩ | refine ⟨_, rfl, ?_⟩ | refine ⟨_, _, rfl, ?_⟩ | refine ⟨_, _, rfl, rfl, ?_⟩ | refine ⟨_, _, _, rfl, rfl, rfl, ?_⟩ | refine ⟨_, _, _, rfl, rfl, by (first | exact kb_NoneType_int | exact kb_bool_int | exact kb_int_int | exact kb_str_int | exact kb_tuple_int | exact kb_list_int | exact kb_dict_int | exact kb_NoneType_bool | exact kb_bool_bool | exact kb_int_bool | exact kb_str_bool | exact kb_tuple_bool | exact kb_list_bool | exact kb_dict_bool | exact kb_NoneType_tuple | exact kb_bool_tuple | exact kb_int_tuple | exact kb_str_tuple | exact kb_tuple_tuple | exact kb_list_tuple | exact kb_dict_tuple), ?_⟩ | refine ⟨_, _, _, _, _, rfl, rfl, rfl, rfl, rfl, ?_⟩ | refine iteT ?_ | refine iteF ?_ | refine ⟨(by decide : List.Nodup _), ?_⟩ | refine ⟨rfl, ?_⟩))
  refine ⟨gy, ?_⟩
  refine ⟨_, rfl, ?_⟩
  refine ite2 (fun hc3 => ?_) (fun hc3 => ?_)
  · exact px1 (hX3 (by simpa using hc3))
  have hy : arePaysB y (m + 1) = true := by simpa using hc3
  have hqs : ∃ qs : List (Int × Int), y = .tup (qs.map TD.prD) := by
    have fm : ∀ (l : List D), (∀ x ∈ l, isPairB x 0 (m + 1 - 1) (-20) 20 = true) → ∃ qs : List (Int × Int), l = qs.map TD.prD := by
      intro l
      induction l with
      | nil => exact fun _ => ⟨[], rfl⟩
      | cons x l ih =>
        intro hl
        obtain ⟨qs, e⟩ := ih fun z hz => hl z (List.mem_cons_of_mem _ hz)
        obtain ⟨i, j, ex, _⟩ := isPair_form (hl x List.mem_cons_self)
        exact ⟨(i, j) :: qs, by rw [List.map_cons, ← e, ex]⟩
    clear h hX3 gy
    cases y with
    | tup ds =>
      have hy2 : (ds.all (fun x => isPairB x 0 (m + 1 - 1) (-20) 20) && upB ds) = true := hy
      rw [Bool.and_eq_true] at hy2
      obtain ⟨qs, e⟩ := fm ds (List.all_eq_true.mp hy2.1)
      exact ⟨qs, by rw [e]⟩
    | _ => cases hy
  obtain ⟨qs, rfl⟩ := hqs
  obtain ⟨hX4, h⟩ := h hy qs rfl
  (repeat (first | refine ⟨_, rfl, Nat.le_of_ble_eq_true rfl, ?_⟩ | refine ⟨_, rfl, ?_⟩ | refine ⟨_, _, rfl, ?_⟩ | refine ⟨_, _, rfl, rfl, ?_⟩ | refine ⟨_, _, _, rfl, rfl, rfl, ?_⟩ | refine ⟨_, _, _, rfl, rfl, by (first | exact kb_NoneType_int | exact kb_bool_int | exact kb_int_int | exact kb_str_int | exact kb_tuple_int | exact kb_list_int | exact kb_dict_int | exact kb_NoneType_bool | exact kb_bool_bool | exact kb_int_bool | exact kb_str_bool | exact kb_tuple_bool | exact kb_list_bool | exact kb_dict_bool | exact kb_NoneType_tuple | exact kb_bool_tuple | exact kb_int_tuple | exact kb_str_tuple | exact kb_tuple_tuple | exact kb_list_tuple | exact kb_dict_tuple), ?_⟩ | refine ⟨_, _, _, _, _, rfl, rfl, rfl, rfl, rfl, ?_⟩ | refine iteT ?_ | refine iteF ?_ | refine ⟨(by decide : List.Nodup _), ?_⟩ | refine ⟨rfl, ?_⟩))
  refine ⟨_, _, rfl, prsOf_prs qs, ?_⟩
  (repeat (first | refine ⟨_, rfl, Nat.le_of_ble_eq_true rfl, ?_⟩ | refine ⟨_, rfl, ?_⟩ | refine ⟨_, _, rfl, ?_⟩ | refine ⟨_, _, rfl, rfl, ?_⟩ | refine ⟨_, _, _, rfl, rfl, rfl, ?_⟩ | refine ⟨_, _, _, rfl, rfl, by (first | exact kb_NoneType_int | exact kb_bool_int | exact kb_int_int | exact kb_str_int | exact kb_tuple_int | exact kb_list_int | exact kb_dict_int | exact kb_NoneType_bool | exact kb_bool_bool | exact kb_int_bool | exact kb_str_bool | exact kb_tuple_bool | exact kb_list_bool | exact kb_dict_bool | exact kb_NoneType_tuple | exact kb_bool_tuple | exact kb_int_tuple | exact kb_str_tuple | exact kb_tuple_tuple | exact kb_list_tuple | exact kb_dict_tuple), ?_⟩ | refine ⟨_, _, _, _, _, rfl, rfl, rfl, rfl, rfl, ?_⟩ | refine iteT ?_ | refine iteF ?_ | refine ⟨(by decide : List.Nodup _), ?_⟩ | refine ⟨rfl, ?_⟩))
  have em : m + 1 - 1 = m := by omega
  refine ⟨r, 0, m + 1 - 1, -20, 20, rfl, gr, ?_⟩
  rw [em]
  refine ⟨_, rfl, ?_⟩
  refine ite2 (fun hc4 => ?_) (fun hc4 => ?_)
  · (repeat (first | refine ⟨_, rfl, Nat.le_of_ble_eq_true rfl, ?_⟩ | refine ⟨_, rfl, ?_⟩ | refine ⟨_, _, rfl, ?_⟩ | refine ⟨_, _, rfl, rfl, ?_⟩ | refine ⟨_, _, _, rfl, rfl, rfl, ?_⟩ | refine ⟨_, _, _, rfl, rfl, by (first | exact kb_NoneType_int | exact kb_bool_int | exact kb_int_int | exact kb_str_int | exact kb_tuple_int | exact kb_list_int | exact kb_dict_int | exact kb_NoneType_bool | exact kb_bool_bool | exact kb_int_bool | exact kb_str_bool | exact kb_tuple_bool | exact kb_list_bool | exact kb_dict_bool | exact kb_NoneType_tuple | exact kb_bool_tuple | exact kb_int_tuple | exact kb_str_tuple | exact kb_tuple_tuple | exact kb_list_tuple | exact kb_dict_tuple), ?_⟩ | refine ⟨_, _, _, _, _, rfl, rfl, rfl, rfl, rfl, ?_⟩ | refine iteT ?_ | refine iteF ?_ | refine ⟨(by decide : List.Nodup _), ?_⟩ | refine ⟨rfl, ?_⟩))
    exact px1 (hX4 (by simpa using hc4))
  have hr4 : isPairB r 0 m (-20) 20 = true := by simpa using hc4
  obtain ⟨r1, r2, rfl, _⟩ := isPair_form hr4
  obtain ⟨hX5, hfin⟩ := h (r1, r2) rfl hr4
  (repeat (first | refine ⟨_, rfl, Nat.le_of_ble_eq_true rfl, ?_⟩ | refine ⟨_, rfl, ?_⟩ | refine ⟨_, _, rfl, ?_⟩ | refine ⟨_, _, rfl, rfl, ?_⟩ | refine ⟨_, _, _, rfl, rfl, rfl, ?_⟩ | refine ⟨_, _, _, rfl, rfl, by (first | exact kb_NoneType_int | exact kb_bool_int | exact kb_int_int | exact kb_str_int | exact kb_tuple_int | exact kb_list_int | exact kb_dict_int | exact kb_NoneType_bool | exact kb_bool_bool | exact kb_int_bool | exact kb_str_bool | exact kb_tuple_bool | exact kb_list_bool | exact kb_dict_bool | exact kb_NoneType_tuple | exact kb_bool_tuple | exact kb_int_tuple | exact kb_str_tuple | exact kb_tuple_tuple | exact kb_list_tuple | exact kb_dict_tuple), ?_⟩ | refine ⟨_, _, _, _, _, rfl, rfl, rfl, rfl, rfl, ?_⟩ | refine iteT ?_ | refine iteF ?_ | refine ⟨(by decide : List.Nodup _), ?_⟩ | refine ⟨rfl, ?_⟩))
  refine ⟨_, _, _, _, rfl, rfl, rfl, _, rfl, ?_⟩
  refine ite2 (fun hc5 => ?_) (fun hc5 => ?_)
  · exact px1 (hX5 ((hasK_pay qs r1).mp hc5))
  have hfree : ∀ q ∈ qs, q.1 ≠ r1 := fun q hq e => hc5 ((hasK_pay qs r1).mpr ⟨q, hq, e⟩)
  obtain ⟨c1, c2, rfl, _⟩ := isPair_form hco
  have hm5 : 0 ≤ m ∧ m ≤ 5 := by have := hps.rng q0 hq0; omega
  (repeat (first | refine ⟨_, rfl, Nat.le_of_ble_eq_true rfl, ?_⟩ | refine ⟨_, rfl, ?_⟩ | refine ⟨_, _, rfl, ?_⟩ | refine ⟨_, _, rfl, rfl, ?_⟩ | refine ⟨_, _, _, rfl, rfl, rfl, ?_⟩ | refine ⟨_, _, _, rfl, rfl, by (first | exact kb_NoneType_int | exact kb_bool_int | exact kb_int_int | exact kb_str_int | exact kb_tuple_int | exact kb_list_int | exact kb_dict_int | exact kb_NoneType_bool | exact kb_bool_bool | exact kb_int_bool | exact kb_str_bool | exact kb_tuple_bool | exact kb_list_bool | exact kb_dict_bool | exact kb_NoneType_tuple | exact kb_bool_tuple | exact kb_int_tuple | exact kb_str_tuple | exact kb_tuple_tuple | exact kb_list_tuple | exact kb_dict_tuple), ?_⟩ | refine ⟨_, _, _, _, _, rfl, rfl, rfl, rfl, rfl, ?_⟩ | refine iteT ?_ | refine iteF ?_ | refine ⟨(by decide : List.Nodup _), ?_⟩ | refine ⟨rfl, ?_⟩))
  refine ⟨_, _, _, _, rfl, rfl, rfl, Nat.le_of_ble_eq_true rfl, ?_⟩
  (repeat (first | refine ⟨_, rfl, Nat.le_of_ble_eq_true rfl, ?_⟩ | refine ⟨_, rfl, ?_⟩ | refine ⟨_, _, rfl, ?_⟩ | refine ⟨_, _, rfl, rfl, ?_⟩ | refine ⟨_, _, _, rfl, rfl, rfl, ?_⟩ | refine ⟨_, _, _, rfl, rfl, by (first | exact kb_NoneType_int | exact kb_bool_int | exact kb_int_int | exact kb_str_int | exact kb_tuple_int | exact kb_list_int | exact kb_dict_int | exact kb_NoneType_bool | exact kb_bool_bool | exact kb_int_bool | exact kb_str_bool | exact kb_tuple_bool | exact kb_list_bool | exact kb_dict_bool | exact kb_NoneType_tuple | exact kb_bool_tuple | exact kb_int_tuple | exact kb_str_tuple | exact kb_tuple_tuple | exact kb_list_tuple | exact kb_dict_tuple), ?_⟩ | refine ⟨_, _, _, _, _, rfl, rfl, rfl, rfl, rfl, ?_⟩ | refine iteT ?_ | refine iteF ?_ | refine ⟨(by decide : List.Nodup _), ?_⟩ | refine ⟨rfl, ?_⟩))
  refine ⟨_, _, _, _, rfl, rfl, rfl, Nat.le_of_ble_eq_true rfl, ?_⟩
  (repeat (first | refine ⟨_, rfl, Nat.le_of_ble_eq_true rfl, ?_⟩ | refine ⟨_, rfl, ?_⟩ | refine ⟨_, _, rfl, ?_⟩ | refine ⟨_, _, rfl, rfl, ?_⟩ | refine ⟨_, _, _, rfl, rfl, rfl, ?_⟩ | refine ⟨_, _, _, rfl, rfl, by (first | exact kb_NoneType_int | exact kb_bool_int | exact kb_int_int | exact kb_str_int | exact kb_tuple_int | exact kb_list_int | exact kb_dict_int | exact kb_NoneType_bool | exact kb_bool_bool | exact kb_int_bool | exact kb_str_bool | exact kb_tuple_bool | exact kb_list_bool | exact kb_dict_bool | exact kb_NoneType_tuple | exact kb_bool_tuple | exact kb_int_tuple | exact kb_str_tuple | exact kb_tuple_tuple | exact kb_list_tuple | exact kb_dict_tuple), ?_⟩ | refine ⟨_, _, _, _, _, rfl, rfl, rfl, rfl, rfl, ?_⟩ | refine iteT ?_ | refine iteF ?_ | refine ⟨(by decide : List.Nodup _), ?_⟩ | refine ⟨rfl, ?_⟩))
  refine ⟨_, _, _, _, rfl, rfl, rfl, Nat.le_of_ble_eq_true rfl, ?_⟩
  (repeat (first | refine ⟨_, rfl, Nat.le_of_ble_eq_true rfl, ?_⟩ | refine ⟨_, rfl, ?_⟩ | refine ⟨_, _, rfl, ?_⟩ | refine ⟨_, _, rfl, rfl, ?_⟩ | refine ⟨_, _, _, rfl, rfl, rfl, ?_⟩ | refine ⟨_, _, _, rfl, rfl, by (first | exact kb_NoneType_int | exact kb_bool_int | exact kb_int_int | exact kb_str_int | exact kb_tuple_int | exact kb_list_int | exact kb_dict_int | exact kb_NoneType_bool | exact kb_bool_bool | exact kb_int_bool | exact kb_str_bool | exact kb_tuple_bool | exact kb_list_bool | exact kb_dict_bool | exact kb_NoneType_tuple | exact kb_bool_tuple | exact kb_int_tuple | exact kb_str_tuple | exact kb_tuple_tuple | exact kb_list_tuple | exact kb_dict_tuple), ?_⟩ | refine ⟨_, _, _, _, _, rfl, rfl, rfl, rfl, rfl, ?_⟩ | refine iteT ?_ | refine iteF ?_ | refine ⟨(by decide : List.Nodup _), ?_⟩ | refine ⟨rfl, ?_⟩))
  refine ⟨_, _, _, _, rfl, rfl, rfl, Nat.le_of_ble_eq_true rfl, ?_⟩
  (repeat (first | refine ⟨_, rfl, Nat.le_of_ble_eq_true rfl, ?_⟩ | refine ⟨_, rfl, ?_⟩ | refine ⟨_, _, rfl, ?_⟩ | refine ⟨_, _, rfl, rfl, ?_⟩ | refine ⟨_, _, _, rfl, rfl, rfl, ?_⟩ | refine ⟨_, _, _, rfl, rfl, by (first | exact kb_NoneType_int | exact kb_bool_int | exact kb_int_int | exact kb_str_int | exact kb_tuple_int | exact kb_list_int | exact kb_dict_int | exact kb_NoneType_bool | exact kb_bool_bool | exact kb_int_bool | exact kb_str_bool | exact kb_tuple_bool | exact kb_list_bool | exact kb_dict_bool | exact kb_NoneType_tuple | exact kb_bool_tuple | exact kb_int_tuple | exact kb_str_tuple | exact kb_tuple_tuple | exact kb_list_tuple | exact kb_dict_tuple), ?_⟩ | refine ⟨_, _, _, _, _, rfl, rfl, rfl, rfl, rfl, ?_⟩ | refine iteT ?_ | refine iteF ?_ | refine ⟨(by decide : List.Nodup _), ?_⟩ | refine ⟨rfl, ?_⟩))
  refine ⟨_, _, _, _, rfl, rfl, rfl, Nat.le_of_ble_eq_true rfl, ?_⟩
  (repeat (first | refine ⟨_, rfl, Nat.le_of_ble_eq_true rfl, ?_⟩ | refine ⟨_, rfl, ?_⟩ | refine ⟨_, _, rfl, ?_⟩ | refine ⟨_, _, rfl, rfl, ?_⟩ | refine ⟨_, _, _, rfl, rfl, rfl, ?_⟩ | refine ⟨_, _, _, rfl, rfl, by (first | exact kb_NoneType_int | exact kb_bool_int | exact kb_int_int | exact kb_str_int | exact kb_tuple_int | exact kb_list_int | exact kb_dict_int | exact kb_NoneType_bool | exact kb_bool_bool | exact kb_int_bool | exact kb_str_bool | exact kb_tuple_bool | exact kb_list_bool | exact kb_dict_bool | exact kb_NoneType_tuple | exact kb_bool_tuple | exact kb_int_tuple | exact kb_str_tuple | exact kb_tuple_tuple | exact kb_list_tuple | exact kb_dict_tuple), ?_⟩ | refine ⟨_, _, _, _, _, rfl, rfl, rfl, rfl, rfl, ?_⟩ | refine iteT ?_ | refine iteF ?_ | refine ⟨(by decide : List.Nodup _), ?_⟩ | refine ⟨rfl, ?_⟩))
  refine ⟨_, _, _, _, rfl, rfl, rfl, Nat.le_of_ble_eq_true rfl, ?_⟩
  (repeat (first | refine ⟨_, rfl, Nat.le_of_ble_eq_true rfl, ?_⟩ | refine ⟨_, rfl, ?_⟩ | refine ⟨_, _, rfl, ?_⟩ | refine ⟨_, _, rfl, rfl, ?_⟩ | refine ⟨_, _, _, rfl, rfl, rfl, ?_⟩ | refine ⟨_, _, _, rfl, rfl, by (first | exact kb_NoneType_int | exact kb_bool_int | exact kb_int_int | exact kb_str_int | exact kb_tuple_int | exact kb_list_int | exact kb_dict_int | exact kb_NoneType_bool | exact kb_bool_bool | exact kb_int_bool | exact kb_str_bool | exact kb_tuple_bool | exact kb_list_bool | exact kb_dict_bool | exact kb_NoneType_tuple | exact kb_bool_tuple | exact kb_int_tuple | exact kb_str_tuple | exact kb_tuple_tuple | exact kb_list_tuple | exact kb_dict_tuple), ?_⟩ | refine ⟨_, _, _, _, _, rfl, rfl, rfl, rfl, rfl, ?_⟩ | refine iteT ?_ | refine iteF ?_ | refine ⟨(by decide : List.Nodup _), ?_⟩ | refine ⟨rfl, ?_⟩))
  refine ⟨by omega, by omega, ?_⟩
  refine dc_rng (fun v => .lst ((nextTo ps r1 v).map D.int)) (by omega) (fun i ks es Q hi hQ => ?_) ?_
  · (repeat (first | refine ⟨_, rfl, Nat.le_of_ble_eq_true rfl, ?_⟩ | refine ⟨_, rfl, ?_⟩ | refine ⟨_, _, rfl, ?_⟩ | refine ⟨_, _, rfl, rfl, ?_⟩ | refine ⟨_, _, _, rfl, rfl, rfl, ?_⟩ | refine ⟨_, _, _, rfl, rfl, by (first | exact kb_NoneType_int | exact kb_bool_int | exact kb_int_int | exact kb_str_int | exact kb_tuple_int | exact kb_list_int | exact kb_dict_int | exact kb_NoneType_bool | exact kb_bool_bool | exact kb_int_bool | exact kb_str_bool | exact kb_tuple_bool | exact kb_list_bool | exact kb_dict_bool | exact kb_NoneType_tuple | exact kb_bool_tuple | exact kb_int_tuple | exact kb_str_tuple | exact kb_tuple_tuple | exact kb_list_tuple | exact kb_dict_tuple), ?_⟩ | refine ⟨_, _, _, _, _, rfl, rfl, rfl, rfl, rfl, ?_⟩ | refine iteT ?_ | refine iteF ?_ | refine ⟨(by decide : List.Nodup _), ?_⟩ | refine ⟨rfl, ?_⟩))
    refine ⟨ps, r1, _, rfl, hpl', ?_⟩
    exact hQ _ rfl
  (repeat (first | refine ⟨_, rfl, Nat.le_of_ble_eq_true rfl, ?_⟩ | refine ⟨_, rfl, ?_⟩ | refine ⟨_, _, rfl, ?_⟩ | refine ⟨_, _, rfl, rfl, ?_⟩ | refine ⟨_, _, _, rfl, rfl, rfl, ?_⟩ | refine ⟨_, _, _, rfl, rfl, by (first | exact kb_NoneType_int | exact kb_bool_int | exact kb_int_int | exact kb_str_int | exact kb_tuple_int | exact kb_list_int | exact kb_dict_int | exact kb_NoneType_bool | exact kb_bool_bool | exact kb_int_bool | exact kb_str_bool | exact kb_tuple_bool | exact kb_list_bool | exact kb_dict_bool | exact kb_NoneType_tuple | exact kb_bool_tuple | exact kb_int_tuple | exact kb_str_tuple | exact kb_tuple_tuple | exact kb_list_tuple | exact kb_dict_tuple), ?_⟩ | refine ⟨_, _, _, _, _, rfl, rfl, rfl, rfl, rfl, ?_⟩ | refine iteT ?_ | refine iteF ?_ | refine ⟨(by decide : List.Nodup _), ?_⟩ | refine ⟨rfl, ?_⟩))
  refine ⟨_, _, _, _, rfl, rfl, rfl, Nat.le_of_ble_eq_true rfl, ?_⟩
  have e1 : nearD ps r1 m = .dic ((List.range (m + 1).toNat).map fun n : Nat => (.inl ((n : Int)) : Key)) ((List.range (m + 1).toNat).map fun n : Nat => .lst ((nextTo ps r1 (n : Int)).map D.int)) := by
    unfold nearD upTo
    rw [List.map_map, List.map_map]
    rfl
  have hend := hfin hfree (c1, c2) rfl
  unfold gameC at hend
  rw [show nearD ps (r1, r2).1 m = nearD ps r1 m from rfl, e1] at hend
  exact rt1 hend
end
end Toss
namespace Toss
open PySem PySem.Spec PyProof.Rows L2 TD He
/-! ### a drawn game is one -/
theorem Gm.Ok.reach {g : Gm} (h : g.Ok) : ∀ (n : Nat) (v : Int), v.toNat ≤ n → 0 ≤ v → v < g.many → Reach g.paths 0 v
  | 0, v, h1, h2, h3 => by
    have : v = 0 := by omega
    subst this
    exact .refl
  | n + 1, v, h1, h2, h3 => by
    by_cases h0 : v = 0
    · subst h0; exact .refl
    · obtain ⟨u, hu⟩ := h.paths.up v (by omega) h3
      have := h.paths.rng _ hu
      exact .step (h.reach n u (by simp at this; omega) (by simp at this; omega) (by simp at this; omega)) (.inl hu)
theorem Gm.Ok.mx {g : Gm} (h : g.Ok) : IsMx g.paths (g.many - 1) := by
  obtain ⟨u, hu⟩ := h.paths.up (g.many - 1) (by have := h.m2; omega) (by omega)
  exact ⟨⟨_, hu, rfl⟩, fun q hq => by have := h.paths.rng q hq; omega⟩
theorem ltL_of {ps : List (Int × Int)} : ps.Pairwise (fun p q => ltPr q p = false) → ps.Nodup → ltL ps = true := by
  induction ps with
  | nil => exact fun _ _ => rfl
  | cons p ps ih =>
    intro hs hn
    cases ps with
    | nil => rfl
    | cons q ps =>
      have hs' := List.pairwise_cons.mp hs
      have hn' := List.nodup_cons.mp hn
      have h1 := ih hs'.2 hn'.2
      have h2 := hs'.1 q List.mem_cons_self
      have h3 : p ≠ q := fun e => hn'.1 (by rw [e]; exact List.mem_cons_self)
      have h4 : HT.lexLt [p.1, p.2] [q.1, q.2] = true := by
        have h5 := SrtO.lexB_no.mp h2
        have h6 : ¬ (p.1 = q.1 ∧ p.2 = q.2) := fun e => h3 (Prod.ext e.1 e.2)
        rw [HT.lexLt_cons, HT.lexLt_cons]
        by_cases e : p.1 = q.1
        · rw [if_pos e, if_neg (fun z => h6 ⟨e, z⟩)]
          exact decide_eq_true (by have : ¬ p.2 = q.2 := fun z => h6 ⟨e, z⟩; omega)
        · rw [if_neg e]
          exact decide_eq_true (by omega)
      unfold ltL at h1 ⊢
      simp only [List.drop_succ_cons, List.drop_zero, List.zip_cons_cons, List.all_cons, h4, Bool.true_and] at h1 ⊢
      exact h1
theorem Gm.Ok.paths_ok {g : Gm} (h : g.Ok) : PathsOk g.paths := by
  refine ⟨fun e => ?_, fun q hq => ?_, ltL_of h.srt h.paths.nd, fun v hv ⟨q, hq, hvq⟩ => ?_⟩
  · obtain ⟨q, hq, _⟩ := h.mx.1
    rw [e] at hq
    cases hq
  · have := h.paths.rng q hq
    have := h.m6
    omega
  · have := h.paths.rng q hq
    exact h.reach v.toNat v (Nat.le_refl _) hv (by omega)
theorem upB_of {qs : List (Int × Int)} : qs.Pairwise (fun p q => p.1 < q.1) → upB (qs.map TD.prD) = true := by
  induction qs with
  | nil => exact fun _ => rfl
  | cons p qs ih =>
    intro hs
    cases qs with
    | nil => rfl
    | cons q qs =>
      have hs' := List.pairwise_cons.mp hs
      have h1 := ih hs'.2
      have h2 := hs'.1 q List.mem_cons_self
      have h3 : decide (fstI (TD.prD p) < fstI (TD.prD q)) = true := decide_eq_true h2
      unfold upB at h1 ⊢
      simp only [List.map_cons, List.drop_succ_cons, List.drop_zero, List.zip_cons_cons, List.all_cons, h3, Bool.true_and] at h1 ⊢
      exact h1
theorem isPair_pr {q : Int × Int} {lo hi le mo : Int} (h : lo ≤ q.1 ∧ q.1 ≤ hi ∧ le ≤ q.2 ∧ q.2 ≤ mo) : isPairB (TD.prD q) lo hi le mo = true := by
  have e : isPairB (TD.prD q) lo hi le mo = ((decide (lo ≤ q.1) && decide (q.1 ≤ hi)) && (decide (le ≤ q.2) && decide (q.2 ≤ mo))) := rfl
  rw [e]
  simp
  omega
theorem Gm.Ok.pays_ok {g : Gm} (h : g.Ok) : arePaysB (.tup (g.pays.map TD.prD)) (g.many - 1 + 1) = true := by
  show ((g.pays.map TD.prD).all (fun x => isPairB x 0 (g.many - 1 + 1 - 1) (-20) 20) && upB (g.pays.map TD.prD)) = true
  rw [upB_of h.pSrt, Bool.and_true, List.all_eq_true]
  intro x hx
  obtain ⟨q, hq, rfl⟩ := List.mem_map.mp hx
  have := h.pays q hq
  exact isPair_pr ⟨this.1, by omega, this.2.2.1, this.2.2.2⟩
theorem good_pr (q : Int × Int) : GoodD (TD.prD q) := ⟨⟨_, rfl⟩, fun ds e x hx => by
  have e' := D.tup.inj e
  rw [← e'] at hx
  rcases List.mem_cons.mp hx with rfl | hx
  · exact ⟨_, rfl⟩
  · rw [List.mem_singleton.mp hx]; exact ⟨_, rfl⟩⟩
theorem good_prs {ps : List (Int × Int)} (h : ps.length < 1000) : GoodP (.tup (ps.map TD.prD)) := ⟨⟨_, rfl⟩, fun ds e => by
  have e' := D.tup.inj e
  rw [← e']
  refine ⟨by rw [List.length_map]; exact h, fun x hx => ?_⟩
  obtain ⟨q, _, rfl⟩ := List.mem_map.mp hx
  exact good_pr q⟩
/-- the promise of Game's making, of a drawn game -/
theorem game_made {K : PySem.W.Frag} {g : Gm} (h : g.Ok) {Pc : List CC → TD.Arg → Prop} {Xc : List CC → Exn → Prop} (hp : Pc [gameC (ga K "Game") g.coin g.paths g.pays g.road (g.many - 1)] (.fr .non)) :
    d_game K [.own (.ins (ga K "Game") [] []), .fr (TD.prD g.coin), .fr (.tup (g.paths.map TD.prD)), .fr (.tup (g.pays.map TD.prD)), .fr (TD.prD g.road)] Pc Xc := by
  have hc : isPairB (TD.prD g.coin) 1 9 1 9 = true := isPair_pr h.coin
  refine ⟨_, _, _, _, rfl, good_pr _, good_prs (by have := h.paths.len; omega), good_prs (by have := h.pLen; omega), good_pr _, (fun z => nomatch (hc.symm.trans z)), fun _ z => absurd ⟨g.paths, rfl, h.paths_ok⟩ z, fun _ ps m e hps hm => ?_⟩
  have := prs_inj (D.tup.inj e)
  subst this
  have em : m = g.many - 1 := by
    obtain ⟨⟨q, hq, rfl⟩, h2⟩ := hm
    obtain ⟨⟨q', hq', e'⟩, h2'⟩ := h.mx
    have := h2' q hq
    have := h2 q' hq'
    omega
  subst em
  refine ⟨(fun z => nomatch (h.pays_ok.symm.trans z)), fun _ qs e2 => ?_⟩
  have := prs_inj (D.tup.inj e2)
  subst this
  have hr : isPairB (TD.prD g.road) 0 (g.many - 1) (-20) 20 = true := isPair_pr ⟨h.road.1, by have := h.road.2.1; omega, h.road.2.2.1, h.road.2.2.2⟩
  refine ⟨(fun z => nomatch (hr.symm.trans z)), fun rd e3 _ => ?_⟩
  have := prD_inj e3
  subst this
  refine ⟨fun ⟨q, hq, e4⟩ => absurd e4 (h.free q hq), fun _ co e5 => ?_⟩
  have := prD_inj e5
  subst this
  exact hp
section
variable {P : Program} {w : World} {K : PySem.W.Frag} {mg : Str → Option Value} {base : Heap}
/-- the game object -/
def gameD (K : PySem.W.Frag) (g : Gm) : D := frzD (gameC (ga K "Game") g.coin g.paths g.pays g.road (g.many - 1))
def d_made (K : PySem.W.Frag) : DSp := fun as Pc _ => ∃ g : Gm, as = [.fr g.d] ∧ g.Ok ∧ Pc [] (.fr (gameD K g))
theorem ok_made (V : Ev K mg) (o_Game : MakeOk P w K mg base 5 (ga K "Game") ["self", "coin", "paths", "pays", "road"] (d_game K)) : DefOk P w K mg base 7 "_law_made" ["_law_d"] (d_made K) := by
  refine V.D__law_made.ok sc__law_made 0 (fun as Pc Xc ⟨g, e, _⟩ => by subst e; exact ⟨rfl, rfl⟩) ?_
  intro f cdv A outer s H E B as Pc Xc h hB hr tk hp
  refine ⟨_, ((dss_one (ds_ret (de_frzL (de_make o_Game V.n_Game (L2.Room.mono hr (by decide)) tk (da_cons (de_dget (hu1 hr) (dv 0) de_str) (da_cons (de_dget (hu1 hr) (dv 0) de_str) (da_cons (de_dget (hu1 hr) (dv 0) de_str) (da_cons (de_dget (hu1 hr) (dv 0) de_str) da_nil))))))))), ?_⟩
  obtain ⟨g, rfl, hg, h⟩ := h
  (repeat (first | refine ⟨_, rfl, Nat.le_of_ble_eq_true rfl, ?_⟩ | refine ⟨_, rfl, ?_⟩ | refine ⟨_, _, rfl, ?_⟩ | refine ⟨_, _, rfl, rfl, ?_⟩ | refine ⟨_, _, _, rfl, rfl, rfl, ?_⟩ | refine ⟨_, _, _, rfl, rfl, by (first | exact kb_NoneType_int | exact kb_bool_int | exact kb_int_int | exact kb_str_int | exact kb_tuple_int | exact kb_list_int | exact kb_dict_int | exact kb_NoneType_bool | exact kb_bool_bool | exact kb_int_bool | exact kb_str_bool | exact kb_tuple_bool | exact kb_list_bool | exact kb_dict_bool | exact kb_NoneType_tuple | exact kb_bool_tuple | exact kb_int_tuple | exact kb_str_tuple | exact kb_tuple_tuple | exact kb_list_tuple | exact kb_dict_tuple), ?_⟩ | refine ⟨_, _, _, _, _, rfl, rfl, rfl, rfl, rfl, ?_⟩ | refine iteT ?_ | refine iteF ?_ | refine ⟨(by decide : List.Nodup _), ?_⟩ | refine ⟨rfl, ?_⟩))
  refine ⟨_, _, _, _, _, rfl, rfl, rfl, rfl, ?_⟩
  (repeat (first | refine ⟨_, rfl, Nat.le_of_ble_eq_true rfl, ?_⟩ | refine ⟨_, rfl, ?_⟩ | refine ⟨_, _, rfl, ?_⟩ | refine ⟨_, _, rfl, rfl, ?_⟩ | refine ⟨_, _, _, rfl, rfl, rfl, ?_⟩ | refine ⟨_, _, _, rfl, rfl, by (first | exact kb_NoneType_int | exact kb_bool_int | exact kb_int_int | exact kb_str_int | exact kb_tuple_int | exact kb_list_int | exact kb_dict_int | exact kb_NoneType_bool | exact kb_bool_bool | exact kb_int_bool | exact kb_str_bool | exact kb_tuple_bool | exact kb_list_bool | exact kb_dict_bool | exact kb_NoneType_tuple | exact kb_bool_tuple | exact kb_int_tuple | exact kb_str_tuple | exact kb_tuple_tuple | exact kb_list_tuple | exact kb_dict_tuple), ?_⟩ | refine ⟨_, _, _, _, _, rfl, rfl, rfl, rfl, rfl, ?_⟩ | refine iteT ?_ | refine iteF ?_ | refine ⟨(by decide : List.Nodup _), ?_⟩ | refine ⟨rfl, ?_⟩))
  refine ⟨_, _, _, _, _, rfl, rfl, rfl, rfl, ?_⟩
  (repeat (first | refine ⟨_, rfl, Nat.le_of_ble_eq_true rfl, ?_⟩ | refine ⟨_, rfl, ?_⟩ | refine ⟨_, _, rfl, ?_⟩ | refine ⟨_, _, rfl, rfl, ?_⟩ | refine ⟨_, _, _, rfl, rfl, rfl, ?_⟩ | refine ⟨_, _, _, rfl, rfl, by (first | exact kb_NoneType_int | exact kb_bool_int | exact kb_int_int | exact kb_str_int | exact kb_tuple_int | exact kb_list_int | exact kb_dict_int | exact kb_NoneType_bool | exact kb_bool_bool | exact kb_int_bool | exact kb_str_bool | exact kb_tuple_bool | exact kb_list_bool | exact kb_dict_bool | exact kb_NoneType_tuple | exact kb_bool_tuple | exact kb_int_tuple | exact kb_str_tuple | exact kb_tuple_tuple | exact kb_list_tuple | exact kb_dict_tuple), ?_⟩ | refine ⟨_, _, _, _, _, rfl, rfl, rfl, rfl, rfl, ?_⟩ | refine iteT ?_ | refine iteF ?_ | refine ⟨(by decide : List.Nodup _), ?_⟩ | refine ⟨rfl, ?_⟩))
  refine ⟨_, _, _, _, _, rfl, rfl, rfl, rfl, ?_⟩
  (repeat (first | refine ⟨_, rfl, Nat.le_of_ble_eq_true rfl, ?_⟩ | refine ⟨_, rfl, ?_⟩ | refine ⟨_, _, rfl, ?_⟩ | refine ⟨_, _, rfl, rfl, ?_⟩ | refine ⟨_, _, _, rfl, rfl, rfl, ?_⟩ | refine ⟨_, _, _, rfl, rfl, by (first | exact kb_NoneType_int | exact kb_bool_int | exact kb_int_int | exact kb_str_int | exact kb_tuple_int | exact kb_list_int | exact kb_dict_int | exact kb_NoneType_bool | exact kb_bool_bool | exact kb_int_bool | exact kb_str_bool | exact kb_tuple_bool | exact kb_list_bool | exact kb_dict_bool | exact kb_NoneType_tuple | exact kb_bool_tuple | exact kb_int_tuple | exact kb_str_tuple | exact kb_tuple_tuple | exact kb_list_tuple | exact kb_dict_tuple), ?_⟩ | refine ⟨_, _, _, _, _, rfl, rfl, rfl, rfl, rfl, ?_⟩ | refine iteT ?_ | refine iteF ?_ | refine ⟨(by decide : List.Nodup _), ?_⟩ | refine ⟨rfl, ?_⟩))
  refine ⟨_, _, _, _, _, rfl, rfl, rfl, rfl, ?_⟩
  (repeat (first | refine ⟨_, rfl, Nat.le_of_ble_eq_true rfl, ?_⟩ | refine ⟨_, rfl, ?_⟩ | refine ⟨_, _, rfl, ?_⟩ | refine ⟨_, _, rfl, rfl, ?_⟩ | refine ⟨_, _, _, rfl, rfl, rfl, ?_⟩ | refine ⟨_, _, _, rfl, rfl, by (first | exact kb_NoneType_int | exact kb_bool_int | exact kb_int_int | exact kb_str_int | exact kb_tuple_int | exact kb_list_int | exact kb_dict_int | exact kb_NoneType_bool | exact kb_bool_bool | exact kb_int_bool | exact kb_str_bool | exact kb_tuple_bool | exact kb_list_bool | exact kb_dict_bool | exact kb_NoneType_tuple | exact kb_bool_tuple | exact kb_int_tuple | exact kb_str_tuple | exact kb_tuple_tuple | exact kb_list_tuple | exact kb_dict_tuple), ?_⟩ | refine ⟨_, _, _, _, _, rfl, rfl, rfl, rfl, rfl, ?_⟩ | refine iteT ?_ | refine iteF ?_ | refine ⟨(by decide : List.Nodup _), ?_⟩ | refine ⟨rfl, ?_⟩))
  refine ⟨by simp, game_made hg ?_⟩
  refine ⟨rfl, Nat.le_of_ble_eq_true rfl, ?_⟩
  refine ⟨[], _, rfl, Nat.zero_le _, rfl, ?_⟩
  exact rt0 h
end
end Toss
namespace Toss
open PySem PySem.Spec PyProof.Rows L2 TD He
theorem eqv_prs : ∀ ps qs : List (Int × Int), PyData.eqvAll (ps.map prP) (qs.map prP) = decide (ps = qs)
  | [], [] => rfl
  | [], q :: qs => by simp [PyData.eqvAll]
  | p :: ps, [] => by simp [PyData.eqvAll]
  | p :: ps, q :: qs => by
    simp only [List.map_cons, PyData.eqvAll, eqv_pr, eqv_prs ps qs]
    rw [Bool.eq_iff_iff]
    simp
theorem eqv_prsT (ps qs : List (Int × Int)) : PyData.eqv (.tuple (ps.map prP)) (.tuple (qs.map prP)) = decide (ps = qs) := by
  simp only [PyData.eqv, eqv_prs]
section
variable {P : Program} {w : World} {K : PySem.W.Frag} {mg : Str → Option Value} {base : Heap}
def sameB (g g' : Gm) : Bool := decide (g.coin = g'.coin) && (decide (g.paths = g'.paths) && (decide (g.pays = g'.pays) && decide (g.road = g'.road)))
def d_eq (K : PySem.W.Frag) : DSp := fun as Pc _ => ∃ g g' : Gm, as = [.fr (gameD K g), .fr (gameD K g')] ∧ Pc [] (.fr (.bl (sameB g g')))
theorem ok_eq (V : Ev K mg) : MethOk P w K mg base 1 (ga K "Game") "__eq__" ["self", "other"] (d_eq K) := by
  refine V.M_Game___eq__.ok sc_Game___eq__ 0 (fun as Pc Xc ⟨g, g', e, _⟩ => by subst e; exact ⟨rfl, rfl⟩) ?_
  intro f cdv A outer s H E B as Pc Xc h hB hr tk hp
  refine ⟨_, ((dss_cons (ds_if (dt_or (dw_or (dt_not (dt_val (de_isiC V.g_isinstance V.is_Game (da_cons (dv 1) (da_cons (de_gref V.n_Game) da_nil))))) (dw_or (dt_ne (hu64 hr) (de_fld V.cl_Game V.na_Game_weights (dv 0)) (de_fld V.cl_Game V.na_Game_weights (dv 1))) (dw_or1 (dt_ne (hu64 hr) (de_fld V.cl_Game V.na_Game_ways (dv 0)) (de_fld V.cl_Game V.na_Game_ways (dv 1))))))) (dss_one (ds_ret de_bl)) dss_nil) (dss_one (ds_ret (de_and (de_eq (hu64 hr) (de_fld V.cl_Game V.na_Game_ends (dv 0)) (de_fld V.cl_Game V.na_Game_ends (dv 1))) (de_one (de_eq (hu64 hr) (de_fld V.cl_Game V.na_Game_lane (dv 0)) (de_fld V.cl_Game V.na_Game_lane (dv 1))))))))), ?_⟩
  obtain ⟨g, g', rfl, h⟩ := h
  (repeat (first | refine ⟨_, rfl, Nat.le_of_ble_eq_true rfl, ?_⟩ | refine ⟨_, rfl, ?_⟩ | refine ⟨_, _, rfl, ?_⟩ | refine ⟨_, _, rfl, rfl, ?_⟩ | refine ⟨_, _, _, rfl, rfl, rfl, ?_⟩ | refine ⟨_, _, _, rfl, rfl, by (first | exact kb_NoneType_int | exact kb_bool_int | exact kb_int_int | exact kb_str_int | exact kb_tuple_int | exact kb_list_int | exact kb_dict_int | exact kb_NoneType_bool | exact kb_bool_bool | exact kb_int_bool | exact kb_str_bool | exact kb_tuple_bool | exact kb_list_bool | exact kb_dict_bool | exact kb_NoneType_tuple | exact kb_bool_tuple | exact kb_int_tuple | exact kb_str_tuple | exact kb_tuple_tuple | exact kb_list_tuple | exact kb_dict_tuple), ?_⟩ | refine ⟨_, _, _, _, _, rfl, rfl, rfl, rfl, rfl, ?_⟩ | refine iteT ?_ | refine iteF ?_ | refine ⟨(by decide : List.Nodup _), ?_⟩ | refine ⟨rfl, ?_⟩))
  refine ⟨_, true, rfl, .inl ⟨_, _, rfl, rfl⟩, ?_⟩
  (repeat (first | refine ⟨_, rfl, Nat.le_of_ble_eq_true rfl, ?_⟩ | refine ⟨_, rfl, ?_⟩ | refine ⟨_, _, rfl, ?_⟩ | refine ⟨_, _, rfl, rfl, ?_⟩ | refine ⟨_, _, _, rfl, rfl, rfl, ?_⟩ | refine ⟨_, _, _, rfl, rfl, by (first | exact kb_NoneType_int | exact kb_bool_int | exact kb_int_int | exact kb_str_int | exact kb_tuple_int | exact kb_list_int | exact kb_dict_int | exact kb_NoneType_bool | exact kb_bool_bool | exact kb_int_bool | exact kb_str_bool | exact kb_tuple_bool | exact kb_list_bool | exact kb_dict_bool | exact kb_NoneType_tuple | exact kb_bool_tuple | exact kb_int_tuple | exact kb_str_tuple | exact kb_tuple_tuple | exact kb_list_tuple | exact kb_dict_tuple), ?_⟩ | refine ⟨_, _, _, _, _, rfl, rfl, rfl, rfl, rfl, ?_⟩ | refine iteT ?_ | refine iteF ?_ | refine ⟨(by decide : List.Nodup _), ?_⟩ | refine ⟨rfl, ?_⟩))
  refine ⟨_, _, _, rfl, rfl, ?_⟩
  (repeat (first | refine ⟨_, rfl, Nat.le_of_ble_eq_true rfl, ?_⟩ | refine ⟨_, rfl, ?_⟩ | refine ⟨_, _, rfl, ?_⟩ | refine ⟨_, _, rfl, rfl, ?_⟩ | refine ⟨_, _, _, rfl, rfl, rfl, ?_⟩ | refine ⟨_, _, _, rfl, rfl, by (first | exact kb_NoneType_int | exact kb_bool_int | exact kb_int_int | exact kb_str_int | exact kb_tuple_int | exact kb_list_int | exact kb_dict_int | exact kb_NoneType_bool | exact kb_bool_bool | exact kb_int_bool | exact kb_str_bool | exact kb_tuple_bool | exact kb_list_bool | exact kb_dict_bool | exact kb_NoneType_tuple | exact kb_bool_tuple | exact kb_int_tuple | exact kb_str_tuple | exact kb_tuple_tuple | exact kb_list_tuple | exact kb_dict_tuple), ?_⟩ | refine ⟨_, _, _, _, _, rfl, rfl, rfl, rfl, rfl, ?_⟩ | refine iteT ?_ | refine iteF ?_ | refine ⟨(by decide : List.Nodup _), ?_⟩ | refine ⟨rfl, ?_⟩))
  refine ⟨_, _, _, rfl, rfl, ?_⟩
  refine ⟨_, _, _, _, rfl, rfl, pyD_pr _, pyD_pr _, shaped_pr _, shaped_pr _, _, rfl, ?_⟩
  refine ite2 (fun hc => ?_) (fun hc => ?_)
  · rw [if_pos rfl, eqv_pr] at hc
    have : sameB g g' = false := by
      unfold sameB
      rw [show decide (g.coin = g'.coin) = false by simpa using hc]
      rfl
    rw [this] at h
    (repeat (first | refine ⟨_, rfl, Nat.le_of_ble_eq_true rfl, ?_⟩ | refine ⟨_, rfl, ?_⟩ | refine ⟨_, _, rfl, ?_⟩ | refine ⟨_, _, rfl, rfl, ?_⟩ | refine ⟨_, _, _, rfl, rfl, rfl, ?_⟩ | refine ⟨_, _, _, rfl, rfl, by (first | exact kb_NoneType_int | exact kb_bool_int | exact kb_int_int | exact kb_str_int | exact kb_tuple_int | exact kb_list_int | exact kb_dict_int | exact kb_NoneType_bool | exact kb_bool_bool | exact kb_int_bool | exact kb_str_bool | exact kb_tuple_bool | exact kb_list_bool | exact kb_dict_bool | exact kb_NoneType_tuple | exact kb_bool_tuple | exact kb_int_tuple | exact kb_str_tuple | exact kb_tuple_tuple | exact kb_list_tuple | exact kb_dict_tuple), ?_⟩ | refine ⟨_, _, _, _, _, rfl, rfl, rfl, rfl, rfl, ?_⟩ | refine iteT ?_ | refine iteF ?_ | refine ⟨(by decide : List.Nodup _), ?_⟩ | refine ⟨rfl, ?_⟩))
    exact rt0 h
  have hc1 : decide (g.coin = g'.coin) = true := by
    rw [if_pos rfl, eqv_pr] at hc
    simpa using hc
  (repeat (first | refine ⟨_, rfl, Nat.le_of_ble_eq_true rfl, ?_⟩ | refine ⟨_, rfl, ?_⟩ | refine ⟨_, _, rfl, ?_⟩ | refine ⟨_, _, rfl, rfl, ?_⟩ | refine ⟨_, _, _, rfl, rfl, rfl, ?_⟩ | refine ⟨_, _, _, rfl, rfl, by (first | exact kb_NoneType_int | exact kb_bool_int | exact kb_int_int | exact kb_str_int | exact kb_tuple_int | exact kb_list_int | exact kb_dict_int | exact kb_NoneType_bool | exact kb_bool_bool | exact kb_int_bool | exact kb_str_bool | exact kb_tuple_bool | exact kb_list_bool | exact kb_dict_bool | exact kb_NoneType_tuple | exact kb_bool_tuple | exact kb_int_tuple | exact kb_str_tuple | exact kb_tuple_tuple | exact kb_list_tuple | exact kb_dict_tuple), ?_⟩ | refine ⟨_, _, _, _, _, rfl, rfl, rfl, rfl, rfl, ?_⟩ | refine iteT ?_ | refine iteF ?_ | refine ⟨(by decide : List.Nodup _), ?_⟩ | refine ⟨rfl, ?_⟩))
  refine ⟨_, _, _, rfl, rfl, ?_⟩
  (repeat (first | refine ⟨_, rfl, Nat.le_of_ble_eq_true rfl, ?_⟩ | refine ⟨_, rfl, ?_⟩ | refine ⟨_, _, rfl, ?_⟩ | refine ⟨_, _, rfl, rfl, ?_⟩ | refine ⟨_, _, _, rfl, rfl, rfl, ?_⟩ | refine ⟨_, _, _, rfl, rfl, by (first | exact kb_NoneType_int | exact kb_bool_int | exact kb_int_int | exact kb_str_int | exact kb_tuple_int | exact kb_list_int | exact kb_dict_int | exact kb_NoneType_bool | exact kb_bool_bool | exact kb_int_bool | exact kb_str_bool | exact kb_tuple_bool | exact kb_list_bool | exact kb_dict_bool | exact kb_NoneType_tuple | exact kb_bool_tuple | exact kb_int_tuple | exact kb_str_tuple | exact kb_tuple_tuple | exact kb_list_tuple | exact kb_dict_tuple), ?_⟩ | refine ⟨_, _, _, _, _, rfl, rfl, rfl, rfl, rfl, ?_⟩ | refine iteT ?_ | refine iteF ?_ | refine ⟨(by decide : List.Nodup _), ?_⟩ | refine ⟨rfl, ?_⟩))
  refine ⟨_, _, _, rfl, rfl, ?_⟩
  refine ⟨_, _, _, _, rfl, rfl, pyD_prsT _, pyD_prsT _, shaped_prsT _, shaped_prsT _, _, rfl, ?_⟩
  refine ite2 (fun hc => ?_) (fun hc => ?_)
  · rw [if_pos rfl, eqv_prsT] at hc
    have : sameB g g' = false := by
      unfold sameB
      rw [show decide (g.paths = g'.paths) = false by simpa using hc, Bool.false_and, Bool.and_false]
    rw [this] at h
    (repeat (first | refine ⟨_, rfl, Nat.le_of_ble_eq_true rfl, ?_⟩ | refine ⟨_, rfl, ?_⟩ | refine ⟨_, _, rfl, ?_⟩ | refine ⟨_, _, rfl, rfl, ?_⟩ | refine ⟨_, _, _, rfl, rfl, rfl, ?_⟩ | refine ⟨_, _, _, rfl, rfl, by (first | exact kb_NoneType_int | exact kb_bool_int | exact kb_int_int | exact kb_str_int | exact kb_tuple_int | exact kb_list_int | exact kb_dict_int | exact kb_NoneType_bool | exact kb_bool_bool | exact kb_int_bool | exact kb_str_bool | exact kb_tuple_bool | exact kb_list_bool | exact kb_dict_bool | exact kb_NoneType_tuple | exact kb_bool_tuple | exact kb_int_tuple | exact kb_str_tuple | exact kb_tuple_tuple | exact kb_list_tuple | exact kb_dict_tuple), ?_⟩ | refine ⟨_, _, _, _, _, rfl, rfl, rfl, rfl, rfl, ?_⟩ | refine iteT ?_ | refine iteF ?_ | refine ⟨(by decide : List.Nodup _), ?_⟩ | refine ⟨rfl, ?_⟩))
    exact rt0 h
  have hc2 : decide (g.paths = g'.paths) = true := by
    rw [if_pos rfl, eqv_prsT] at hc
    simpa using hc
  (repeat (first | refine ⟨_, rfl, Nat.le_of_ble_eq_true rfl, ?_⟩ | refine ⟨_, rfl, ?_⟩ | refine ⟨_, _, rfl, ?_⟩ | refine ⟨_, _, rfl, rfl, ?_⟩ | refine ⟨_, _, _, rfl, rfl, rfl, ?_⟩ | refine ⟨_, _, _, rfl, rfl, by (first | exact kb_NoneType_int | exact kb_bool_int | exact kb_int_int | exact kb_str_int | exact kb_tuple_int | exact kb_list_int | exact kb_dict_int | exact kb_NoneType_bool | exact kb_bool_bool | exact kb_int_bool | exact kb_str_bool | exact kb_tuple_bool | exact kb_list_bool | exact kb_dict_bool | exact kb_NoneType_tuple | exact kb_bool_tuple | exact kb_int_tuple | exact kb_str_tuple | exact kb_tuple_tuple | exact kb_list_tuple | exact kb_dict_tuple), ?_⟩ | refine ⟨_, _, _, _, _, rfl, rfl, rfl, rfl, rfl, ?_⟩ | refine iteT ?_ | refine iteF ?_ | refine ⟨(by decide : List.Nodup _), ?_⟩ | refine ⟨rfl, ?_⟩))
  refine ⟨_, _, _, rfl, rfl, ?_⟩
  (repeat (first | refine ⟨_, rfl, Nat.le_of_ble_eq_true rfl, ?_⟩ | refine ⟨_, rfl, ?_⟩ | refine ⟨_, _, rfl, ?_⟩ | refine ⟨_, _, rfl, rfl, ?_⟩ | refine ⟨_, _, _, rfl, rfl, rfl, ?_⟩ | refine ⟨_, _, _, rfl, rfl, by (first | exact kb_NoneType_int | exact kb_bool_int | exact kb_int_int | exact kb_str_int | exact kb_tuple_int | exact kb_list_int | exact kb_dict_int | exact kb_NoneType_bool | exact kb_bool_bool | exact kb_int_bool | exact kb_str_bool | exact kb_tuple_bool | exact kb_list_bool | exact kb_dict_bool | exact kb_NoneType_tuple | exact kb_bool_tuple | exact kb_int_tuple | exact kb_str_tuple | exact kb_tuple_tuple | exact kb_list_tuple | exact kb_dict_tuple), ?_⟩ | refine ⟨_, _, _, _, _, rfl, rfl, rfl, rfl, rfl, ?_⟩ | refine iteT ?_ | refine iteF ?_ | refine ⟨(by decide : List.Nodup _), ?_⟩ | refine ⟨rfl, ?_⟩))
  refine ⟨_, _, _, rfl, rfl, ?_⟩
  refine ⟨_, _, _, _, rfl, rfl, pyD_prsT _, pyD_prsT _, shaped_prsT _, shaped_prsT _, _, rfl, ?_⟩
  rw [if_neg Bool.false_ne_true, eqv_prsT]
  have e1 : sameB g g' = (decide (g.pays = g'.pays) && decide (g.road = g'.road)) := by
    unfold sameB
    rw [hc1, hc2, Bool.true_and, Bool.true_and]
  rw [e1] at h
  refine ite2 (fun hc => ?_) (fun hc => ?_)
  · rw [hc, Bool.true_and] at h
    (repeat (first | refine ⟨_, rfl, Nat.le_of_ble_eq_true rfl, ?_⟩ | refine ⟨_, rfl, ?_⟩ | refine ⟨_, _, rfl, ?_⟩ | refine ⟨_, _, rfl, rfl, ?_⟩ | refine ⟨_, _, _, rfl, rfl, rfl, ?_⟩ | refine ⟨_, _, _, rfl, rfl, by (first | exact kb_NoneType_int | exact kb_bool_int | exact kb_int_int | exact kb_str_int | exact kb_tuple_int | exact kb_list_int | exact kb_dict_int | exact kb_NoneType_bool | exact kb_bool_bool | exact kb_int_bool | exact kb_str_bool | exact kb_tuple_bool | exact kb_list_bool | exact kb_dict_bool | exact kb_NoneType_tuple | exact kb_bool_tuple | exact kb_int_tuple | exact kb_str_tuple | exact kb_tuple_tuple | exact kb_list_tuple | exact kb_dict_tuple), ?_⟩ | refine ⟨_, _, _, _, _, rfl, rfl, rfl, rfl, rfl, ?_⟩ | refine iteT ?_ | refine iteF ?_ | refine ⟨(by decide : List.Nodup _), ?_⟩ | refine ⟨rfl, ?_⟩))
    refine ⟨_, _, _, rfl, rfl, ?_⟩
    (repeat (first | refine ⟨_, rfl, Nat.le_of_ble_eq_true rfl, ?_⟩ | refine ⟨_, rfl, ?_⟩ | refine ⟨_, _, rfl, ?_⟩ | refine ⟨_, _, rfl, rfl, ?_⟩ | refine ⟨_, _, _, rfl, rfl, rfl, ?_⟩ | refine ⟨_, _, _, rfl, rfl, by (first | exact kb_NoneType_int | exact kb_bool_int | exact kb_int_int | exact kb_str_int | exact kb_tuple_int | exact kb_list_int | exact kb_dict_int | exact kb_NoneType_bool | exact kb_bool_bool | exact kb_int_bool | exact kb_str_bool | exact kb_tuple_bool | exact kb_list_bool | exact kb_dict_bool | exact kb_NoneType_tuple | exact kb_bool_tuple | exact kb_int_tuple | exact kb_str_tuple | exact kb_tuple_tuple | exact kb_list_tuple | exact kb_dict_tuple), ?_⟩ | refine ⟨_, _, _, _, _, rfl, rfl, rfl, rfl, rfl, ?_⟩ | refine iteT ?_ | refine iteF ?_ | refine ⟨(by decide : List.Nodup _), ?_⟩ | refine ⟨rfl, ?_⟩))
    refine ⟨_, _, _, rfl, rfl, ?_⟩
    refine ⟨_, _, _, _, rfl, rfl, pyD_pr _, pyD_pr _, shaped_pr _, shaped_pr _, ?_⟩
    rw [if_neg Bool.false_ne_true, eqv_pr]
    exact rt0 h
  · rw [(Bool.not_eq_true _).mp hc, Bool.false_and] at h
    exact rt0 h
end
end Toss
namespace Toss
open PySem PySem.Spec PyProof.Rows L2 TD He
section
variable {P : Program} {w : World} {K : PySem.W.Frag} {mg : Str → Option Value} {base : Heap}
/-! ### properties -/
def d_prop (K : PySem.W.Frag) (v : Gm → D) : DSp := fun as Pc _ => ∃ g : Gm, as = [.fr (gameD K g)] ∧ Pc [] (.fr (v g))
theorem ok_coin (V : Ev K mg) : PropOk P w K mg base 1 (ga K "Game") "coin" (d_prop K fun g => TD.prD g.coin) := by
  refine V.P_Game_coin.ok sc_Game_coin 0 (fun as Pc Xc ⟨g, e, _⟩ => by subst e; exact ⟨rfl, rfl⟩) ?_
  intro f cdv A outer s H E B as Pc Xc h hB hr tk hp
  refine ⟨_, ((dss_one (ds_ret (de_fld V.cl_Game V.na_Game_weights (dv 0))))), ?_⟩
  obtain ⟨g, rfl, h⟩ := h
  refine ⟨_, rfl, _, _, _, rfl, rfl, ?_⟩
  exact rt0 h
theorem ok_paths' (V : Ev K mg) : PropOk P w K mg base 1 (ga K "Game") "paths" (d_prop K fun g => .tup (g.paths.map TD.prD)) := by
  refine V.P_Game_paths.ok sc_Game_paths 0 (fun as Pc Xc ⟨g, e, _⟩ => by subst e; exact ⟨rfl, rfl⟩) ?_
  intro f cdv A outer s H E B as Pc Xc h hB hr tk hp
  refine ⟨_, ((dss_one (ds_ret (de_fld V.cl_Game V.na_Game_ways (dv 0))))), ?_⟩
  obtain ⟨g, rfl, h⟩ := h
  refine ⟨_, rfl, _, _, _, rfl, rfl, ?_⟩
  exact rt0 h
theorem ok_pays' (V : Ev K mg) : PropOk P w K mg base 1 (ga K "Game") "pays" (d_prop K fun g => .tup (g.pays.map TD.prD)) := by
  refine V.P_Game_pays.ok sc_Game_pays 0 (fun as Pc Xc ⟨g, e, _⟩ => by subst e; exact ⟨rfl, rfl⟩) ?_
  intro f cdv A outer s H E B as Pc Xc h hB hr tk hp
  refine ⟨_, ((dss_one (ds_ret (de_fld V.cl_Game V.na_Game_ends (dv 0))))), ?_⟩
  obtain ⟨g, rfl, h⟩ := h
  refine ⟨_, rfl, _, _, _, rfl, rfl, ?_⟩
  exact rt0 h
theorem ok_road' (V : Ev K mg) : PropOk P w K mg base 1 (ga K "Game") "road" (d_prop K fun g => TD.prD g.road) := by
  refine V.P_Game_road.ok sc_Game_road 0 (fun as Pc Xc ⟨g, e, _⟩ => by subst e; exact ⟨rfl, rfl⟩) ?_
  intro f cdv A outer s H E B as Pc Xc h hB hr tk hp
  refine ⟨_, ((dss_one (ds_ret (de_fld V.cl_Game V.na_Game_lane (dv 0))))), ?_⟩
  obtain ⟨g, rfl, h⟩ := h
  refine ⟨_, rfl, _, _, _, rfl, rfl, ?_⟩
  exact rt0 h
theorem ok_places' (V : Ev K mg) : PropOk P w K mg base 1 (ga K "Game") "places" (d_prop K fun g => .int (g.many - 1 + 1)) := by
  refine V.P_Game_places.ok sc_Game_places 0 (fun as Pc Xc ⟨g, e, _⟩ => by subst e; exact ⟨rfl, rfl⟩) ?_
  intro f cdv A outer s H E B as Pc Xc h hB hr tk hp
  refine ⟨_, ((dss_one (ds_ret (de_fld V.cl_Game V.na_Game_many (dv 0))))), ?_⟩
  obtain ⟨g, rfl, h⟩ := h
  refine ⟨_, rfl, _, _, _, rfl, rfl, ?_⟩
  exact rt0 h
/-! ### the law's small defs -/
def d_whole2 : DSp := fun as Pc _ => ∃ d lo hi k, as = [.fr d, .fr (.int lo), .fr (.int hi)] ∧ wholeD d = some k ∧ Pc [] (.fr (.bl (match d with | .int i => decide (lo ≤ i) && decide (i ≤ hi) | _ => false)))
theorem ok_whole2 (V : Ev K mg) : DefOk P w K mg base 1 "_law_whole" ["_law_thing", "_law_low", "_law_high"] d_whole2 := by
  refine V.D__law_whole.ok sc__law_whole 0 (fun as Pc Xc ⟨d, lo, hi, k, e, _⟩ => by subst e; exact ⟨rfl, rfl⟩) ?_
  intro f cdv A outer s H E B as Pc Xc h hB hr tk hp
  refine ⟨_, ((dss_one (ds_ret (de_and (de_isi "int" V.g_isinstance (da_cons (dv 0) (da_cons (de_ty (T := "int") V.g_int) da_nil))) (de_and (de_not (de_isi "bool" V.g_isinstance (da_cons (dv 0) (da_cons (de_ty (T := "bool") V.g_bool) da_nil)))) (de_and (de_le (dv 1) (dv 0)) (de_one (de_le (dv 0) (dv 2))))))))), ?_⟩
  obtain ⟨d, lo, hi, k, rfl, hk, h⟩ := h
  cases d with
  | int i =>
    (repeat (first | refine ⟨_, rfl, Nat.le_of_ble_eq_true rfl, ?_⟩ | refine ⟨_, rfl, ?_⟩ | refine ⟨_, _, rfl, ?_⟩ | refine ⟨_, _, rfl, rfl, ?_⟩ | refine ⟨_, _, _, rfl, rfl, rfl, ?_⟩ | refine ⟨_, _, _, rfl, rfl, by (first | exact kb_NoneType_int | exact kb_bool_int | exact kb_int_int | exact kb_str_int | exact kb_tuple_int | exact kb_list_int | exact kb_dict_int | exact kb_NoneType_bool | exact kb_bool_bool | exact kb_int_bool | exact kb_str_bool | exact kb_tuple_bool | exact kb_list_bool | exact kb_dict_bool | exact kb_NoneType_tuple | exact kb_bool_tuple | exact kb_int_tuple | exact kb_str_tuple | exact kb_tuple_tuple | exact kb_list_tuple | exact kb_dict_tuple), ?_⟩ | refine ⟨_, _, _, _, _, rfl, rfl, rfl, rfl, rfl, ?_⟩ | refine iteT ?_ | refine iteF ?_ | refine ⟨(by decide : List.Nodup _), ?_⟩ | refine ⟨rfl, ?_⟩))
    refine ite2 (fun hc => ?_) (fun hc => ?_)
    · have h' := h
      simp only [hc, Bool.true_and] at h'
      (repeat (first | refine ⟨_, rfl, Nat.le_of_ble_eq_true rfl, ?_⟩ | refine ⟨_, rfl, ?_⟩ | refine ⟨_, _, rfl, ?_⟩ | refine ⟨_, _, rfl, rfl, ?_⟩ | refine ⟨_, _, _, rfl, rfl, rfl, ?_⟩ | refine ⟨_, _, _, rfl, rfl, by (first | exact kb_NoneType_int | exact kb_bool_int | exact kb_int_int | exact kb_str_int | exact kb_tuple_int | exact kb_list_int | exact kb_dict_int | exact kb_NoneType_bool | exact kb_bool_bool | exact kb_int_bool | exact kb_str_bool | exact kb_tuple_bool | exact kb_list_bool | exact kb_dict_bool | exact kb_NoneType_tuple | exact kb_bool_tuple | exact kb_int_tuple | exact kb_str_tuple | exact kb_tuple_tuple | exact kb_list_tuple | exact kb_dict_tuple), ?_⟩ | refine ⟨_, _, _, _, _, rfl, rfl, rfl, rfl, rfl, ?_⟩ | refine iteT ?_ | refine iteF ?_ | refine ⟨(by decide : List.Nodup _), ?_⟩ | refine ⟨rfl, ?_⟩))
      exact rt0 h'
    · have h' := h
      simp only [(Bool.not_eq_true _).mp hc, Bool.false_and] at h'
      exact rt0 h'
  | _ => first | (cases hk; done) | (cases hk; (repeat (first | refine ⟨_, rfl, Nat.le_of_ble_eq_true rfl, ?_⟩ | refine ⟨_, rfl, ?_⟩ | refine ⟨_, _, rfl, ?_⟩ | refine ⟨_, _, rfl, rfl, ?_⟩ | refine ⟨_, _, _, rfl, rfl, rfl, ?_⟩ | refine ⟨_, _, _, rfl, rfl, by (first | exact kb_NoneType_int | exact kb_bool_int | exact kb_int_int | exact kb_str_int | exact kb_tuple_int | exact kb_list_int | exact kb_dict_int | exact kb_NoneType_bool | exact kb_bool_bool | exact kb_int_bool | exact kb_str_bool | exact kb_tuple_bool | exact kb_list_bool | exact kb_dict_bool | exact kb_NoneType_tuple | exact kb_bool_tuple | exact kb_int_tuple | exact kb_str_tuple | exact kb_tuple_tuple | exact kb_list_tuple | exact kb_dict_tuple), ?_⟩ | refine ⟨_, _, _, _, _, rfl, rfl, rfl, rfl, rfl, ?_⟩ | refine iteT ?_ | refine iteF ?_ | refine ⟨(by decide : List.Nodup _), ?_⟩ | refine ⟨rfl, ?_⟩)); exact rt0 h)
def d_parts : DSp := fun as Pc _ => as = [] ∧ Pc [] (.fr (.lst [.str "coin", .str "paths", .str "pays", .str "road", .str "many"]))
theorem ok_parts (V : Ev K mg) : DefOk P w K mg base 1 "_law_parts" [] d_parts := by
  refine V.D__law_parts.ok sc__law_parts 0 (fun as Pc Xc ⟨e, _⟩ => by subst e; exact ⟨rfl, rfl⟩) ?_
  intro f cdv A outer s H E B as Pc Xc h hB hr tk hp
  refine ⟨_, ((dss_one (ds_ret (de_lst (da_cons de_str (da_cons de_str (da_cons de_str (da_cons de_str (da_cons de_str da_nil))))))))), ?_⟩
  obtain ⟨rfl, h⟩ := h
  (repeat (first | refine ⟨_, rfl, Nat.le_of_ble_eq_true rfl, ?_⟩ | refine ⟨_, rfl, ?_⟩ | refine ⟨_, _, rfl, ?_⟩ | refine ⟨_, _, rfl, rfl, ?_⟩ | refine ⟨_, _, _, rfl, rfl, rfl, ?_⟩ | refine ⟨_, _, _, rfl, rfl, by (first | exact kb_NoneType_int | exact kb_bool_int | exact kb_int_int | exact kb_str_int | exact kb_tuple_int | exact kb_list_int | exact kb_dict_int | exact kb_NoneType_bool | exact kb_bool_bool | exact kb_int_bool | exact kb_str_bool | exact kb_tuple_bool | exact kb_list_bool | exact kb_dict_bool | exact kb_NoneType_tuple | exact kb_bool_tuple | exact kb_int_tuple | exact kb_str_tuple | exact kb_tuple_tuple | exact kb_list_tuple | exact kb_dict_tuple), ?_⟩ | refine ⟨_, _, _, _, _, rfl, rfl, rfl, rfl, rfl, ?_⟩ | refine iteT ?_ | refine iteF ?_ | refine ⟨(by decide : List.Nodup _), ?_⟩ | refine ⟨rfl, ?_⟩))
  exact rt0 h
def d_pair2 : DSp := fun as Pc _ => ∃ d m, as = [.fr d, .fr (.int m)] ∧ GoodD d ∧ Pc [] (.fr (.bl (isPairB d 0 m (-20) 20)))
theorem ok_pair2 (V : Ev K mg) (o__law_whole : DefOk P w K mg base 1 "_law_whole" ["_law_thing", "_law_low", "_law_high"] d_whole2) : DefOk P w K mg base 2 "_law_pair" ["_law_thing", "_law_most"] d_pair2 := by
  refine V.D__law_pair.ok sc__law_pair 0 (fun as Pc Xc ⟨d, m, e, _⟩ => by subst e; exact ⟨rfl, rfl⟩) ?_
  intro f cdv A outer s H E B as Pc Xc h hB hr tk hp
  refine ⟨_, ((dss_cons (ds_if (dt_or (dw_or (dt_not (dt_val (de_isi "tuple" V.g_isinstance (da_cons (dv 0) (da_cons (de_ty (T := "tuple") V.g_tuple) da_nil))))) (dw_or1 (dt_ne (hu64 hr) (de_len V.g_len (da_cons (dv 0) da_nil)) de_int)))) (dss_one (ds_ret de_bl)) dss_nil) (dss_one (ds_ret (de_and (de_callD o__law_whole (L2.Room.mono hr (by decide)) tk (da_cons (de_ix (dv 0) de_int) (da_cons de_int (da_cons (dv 1) da_nil)))) (de_one (de_callD o__law_whole (L2.Room.mono hr (by decide)) tk (da_cons (de_ix (dv 0) de_int) (da_cons (de_sub de_int de_int) (da_cons de_int da_nil)))))))))), ?_⟩
  obtain ⟨d, m, rfl, hg, h⟩ := h
  cases d with
  | tup ds =>
    (repeat (first | refine ⟨_, rfl, Nat.le_of_ble_eq_true rfl, ?_⟩ | refine ⟨_, rfl, ?_⟩ | refine ⟨_, _, rfl, ?_⟩ | refine ⟨_, _, rfl, rfl, ?_⟩ | refine ⟨_, _, _, rfl, rfl, rfl, ?_⟩ | refine ⟨_, _, _, rfl, rfl, by (first | exact kb_NoneType_int | exact kb_bool_int | exact kb_int_int | exact kb_str_int | exact kb_tuple_int | exact kb_list_int | exact kb_dict_int | exact kb_NoneType_bool | exact kb_bool_bool | exact kb_int_bool | exact kb_str_bool | exact kb_tuple_bool | exact kb_list_bool | exact kb_dict_bool | exact kb_NoneType_tuple | exact kb_bool_tuple | exact kb_int_tuple | exact kb_str_tuple | exact kb_tuple_tuple | exact kb_list_tuple | exact kb_dict_tuple), ?_⟩ | refine ⟨_, _, _, _, _, rfl, rfl, rfl, rfl, rfl, ?_⟩ | refine iteT ?_ | refine iteF ?_ | refine ⟨(by decide : List.Nodup _), ?_⟩ | refine ⟨rfl, ?_⟩))
    refine ⟨_, _, _, _, rfl, rfl, rfl, rfl, rfl, rfl, _, rfl, ?_⟩
    refine ite2 (fun hc => ?_) (fun hc => ?_)
    · have hne : ∀ x y, ds ≠ [x, y] := by
        rintro x y rfl
        rw [if_pos rfl, eqv_int] at hc
        simp at hc
      (repeat (first | refine ⟨_, rfl, Nat.le_of_ble_eq_true rfl, ?_⟩ | refine ⟨_, rfl, ?_⟩ | refine ⟨_, _, rfl, ?_⟩ | refine ⟨_, _, rfl, rfl, ?_⟩ | refine ⟨_, _, _, rfl, rfl, rfl, ?_⟩ | refine ⟨_, _, _, rfl, rfl, by (first | exact kb_NoneType_int | exact kb_bool_int | exact kb_int_int | exact kb_str_int | exact kb_tuple_int | exact kb_list_int | exact kb_dict_int | exact kb_NoneType_bool | exact kb_bool_bool | exact kb_int_bool | exact kb_str_bool | exact kb_tuple_bool | exact kb_list_bool | exact kb_dict_bool | exact kb_NoneType_tuple | exact kb_bool_tuple | exact kb_int_tuple | exact kb_str_tuple | exact kb_tuple_tuple | exact kb_list_tuple | exact kb_dict_tuple), ?_⟩ | refine ⟨_, _, _, _, _, rfl, rfl, rfl, rfl, rfl, ?_⟩ | refine iteT ?_ | refine iteF ?_ | refine ⟨(by decide : List.Nodup _), ?_⟩ | refine ⟨rfl, ?_⟩))
      have : isPairB (.tup ds) 0 m (-20) 20 = false := by
        unfold isPairB
        split
        · rename_i x y e
          cases e
          exact absurd rfl (hne x y)
        · rfl
      rw [this] at h
      exact rt0 h
    · have hl : ds.length = 2 := by
        rw [if_pos rfl, eqv_int] at hc
        simp at hc
        omega
      obtain ⟨x, y, rfl⟩ : ∃ x y, ds = [x, y] := by
        match ds, hl with
        | [x, y], _ => exact ⟨x, y, rfl⟩
      obtain ⟨k1, hk1⟩ := hg.it _ rfl x (by simp)
      obtain ⟨k2, hk2⟩ := hg.it _ rfl y (by simp)
      (repeat (first | refine ⟨_, rfl, Nat.le_of_ble_eq_true rfl, ?_⟩ | refine ⟨_, rfl, ?_⟩ | refine ⟨_, _, rfl, ?_⟩ | refine ⟨_, _, rfl, rfl, ?_⟩ | refine ⟨_, _, _, rfl, rfl, rfl, ?_⟩ | refine ⟨_, _, _, rfl, rfl, by (first | exact kb_NoneType_int | exact kb_bool_int | exact kb_int_int | exact kb_str_int | exact kb_tuple_int | exact kb_list_int | exact kb_dict_int | exact kb_NoneType_bool | exact kb_bool_bool | exact kb_int_bool | exact kb_str_bool | exact kb_tuple_bool | exact kb_list_bool | exact kb_dict_bool | exact kb_NoneType_tuple | exact kb_bool_tuple | exact kb_int_tuple | exact kb_str_tuple | exact kb_tuple_tuple | exact kb_list_tuple | exact kb_dict_tuple), ?_⟩ | refine ⟨_, _, _, _, _, rfl, rfl, rfl, rfl, rfl, ?_⟩ | refine iteT ?_ | refine iteF ?_ | refine ⟨(by decide : List.Nodup _), ?_⟩ | refine ⟨rfl, ?_⟩))
      refine ⟨x, 0, m, k1, rfl, hk1, ?_⟩
      refine ⟨_, rfl, ?_⟩
      refine ite2 (fun hc2 => ?_) (fun hc2 => ?_)
      · (repeat (first | refine ⟨_, rfl, Nat.le_of_ble_eq_true rfl, ?_⟩ | refine ⟨_, rfl, ?_⟩ | refine ⟨_, _, rfl, ?_⟩ | refine ⟨_, _, rfl, rfl, ?_⟩ | refine ⟨_, _, _, rfl, rfl, rfl, ?_⟩ | refine ⟨_, _, _, rfl, rfl, by (first | exact kb_NoneType_int | exact kb_bool_int | exact kb_int_int | exact kb_str_int | exact kb_tuple_int | exact kb_list_int | exact kb_dict_int | exact kb_NoneType_bool | exact kb_bool_bool | exact kb_int_bool | exact kb_str_bool | exact kb_tuple_bool | exact kb_list_bool | exact kb_dict_bool | exact kb_NoneType_tuple | exact kb_bool_tuple | exact kb_int_tuple | exact kb_str_tuple | exact kb_tuple_tuple | exact kb_list_tuple | exact kb_dict_tuple), ?_⟩ | refine ⟨_, _, _, _, _, rfl, rfl, rfl, rfl, rfl, ?_⟩ | refine iteT ?_ | refine iteF ?_ | refine ⟨(by decide : List.Nodup _), ?_⟩ | refine ⟨rfl, ?_⟩))
        refine ⟨y, 0 - 20, 20, k2, rfl, hk2, ?_⟩
        have e : isPairB (.tup [x, y]) 0 m (-20) 20 = withinB y (-20) 20 := by
          show (withinB x 0 m && withinB y (-20) 20) = _
          rw [show withinB x 0 m = true from hc2]; rfl
        rw [e] at h
        exact rt0 h
      · have e : isPairB (.tup [x, y]) 0 m (-20) 20 = false := by
          show (withinB x 0 m && withinB y (-20) 20) = _
          rw [show withinB x 0 m = false from (Bool.not_eq_true _).mp hc2]; rfl
        rw [e] at h
        exact rt0 h
  | _ =>
    obtain ⟨k, hk⟩ := hg.ty
    first
    | (cases hk; done)
    | ((repeat (first | refine ⟨_, rfl, Nat.le_of_ble_eq_true rfl, ?_⟩ | refine ⟨_, rfl, ?_⟩ | refine ⟨_, _, rfl, ?_⟩ | refine ⟨_, _, rfl, rfl, ?_⟩ | refine ⟨_, _, _, rfl, rfl, rfl, ?_⟩ | refine ⟨_, _, _, rfl, rfl, by (first | exact kb_NoneType_int | exact kb_bool_int | exact kb_int_int | exact kb_str_int | exact kb_tuple_int | exact kb_list_int | exact kb_dict_int | exact kb_NoneType_bool | exact kb_bool_bool | exact kb_int_bool | exact kb_str_bool | exact kb_tuple_bool | exact kb_list_bool | exact kb_dict_bool | exact kb_NoneType_tuple | exact kb_bool_tuple | exact kb_int_tuple | exact kb_str_tuple | exact kb_tuple_tuple | exact kb_list_tuple | exact kb_dict_tuple), ?_⟩ | refine ⟨_, _, _, _, _, rfl, rfl, rfl, rfl, rfl, ?_⟩ | refine iteT ?_ | refine iteF ?_ | refine ⟨(by decide : List.Nodup _), ?_⟩ | refine ⟨rfl, ?_⟩)); exact rt0 h)
/-- a draw with its parts as data -/
def drD (c p y r : D) (m : Int) : D := .dic dKeys [c, p, y, r, .int m]
def _root_.TD.DTS.holds (t : DTS) (P : DEnds) (S : DS) : Prop := t P S
def d_with : DSp := fun as Pc _ => ∃ c p y r m k v, as = [.fr (drD c p y r m), .fr (.lst [.tup [.str k, v]])] ∧
  (k = "coin" → Pc [] (.fr (drD v p y r m))) ∧ (k = "paths" → Pc [] (.fr (drD c v y r m))) ∧ (k = "pays" → Pc [] (.fr (drD c p v r m))) ∧ (k = "road" → Pc [] (.fr (drD c p y v m))) ∧ (k = "coin" ∨ k = "paths" ∨ k = "pays" ∨ k = "road")
theorem ok_with (V : Ev K mg) : DefOk P w K mg base 1 "_law_with" ["_law_d", "_law_pairs"] d_with := by
  refine V.D__law_with.ok sc__law_with 0 (fun as Pc Xc ⟨c, p, y, r, m, k, v, e, _⟩ => by subst e; exact ⟨rfl, rfl⟩) ?_
  intro f cdv A outer s H E B as Pc Xc h hB hr tk hp
  refine ⟨_, ((dss_cons (ds_set (i := 2) sc__law_with.nd (de_dictC V.g_dict (da_cons (dv 0) da_nil))) (dss_cons (ds_for hp (di_list (dv 1)) (dg_tup (dgs_cons (dg_name 3 sc__law_with.nd) (dgs_cons (dg_name 4 sc__law_with.nd) dgs_nil))) (dss_gc (dss_one (ds_dput (hu1 hr) (dv 4) (dv 2) (dv 3))))) (dss_one (ds_ret (de_frz hB (dv 2))))))), ?_⟩
  obtain ⟨c, p, y, r, m, k, v, rfl, h1, h2, h3, h4, hk⟩ := h
  have key : ∀ ds', putDs dKeys [c, p, y, r, .int m] (.inr k) v = ds' → putKs dKeys (.inr k) = dKeys → Pc [] (.fr (.dic dKeys ds')) → DTS.holds (dSeq (dSet 2 (dCB dictCL (aCons (dVar 0) aNil))) (dSeq (dFor (iSeqL (dVar 1)) (gTp 2 (gsC (gNm 3) (gsC (gNm 4) gsN))) (dGc (dDput (dVar 4) (dVar 2) (dVar 3)))) (dRet (dFrz 0 (dVar 2))))) (endsOf 0 Pc) (S0 5 [.fr (drD c p y r m), .fr (.lst [.tup [.str k, v]])]) := by
    intro ds' e1 e2 hP
    refine ⟨_, rfl, _, _, _, rfl, rfl, ?_⟩
    refine ⟨_, rfl, _, rfl, ?_⟩
    refine ⟨fun i S => (i = 0 ∧ S = ⟨[some (.fr (drD c p y r m)), some (.fr (.lst [.tup [.str k, v]])), some (.cell 0), none, none], [some (.dic dKeys [c, p, y, r, .int m])]⟩) ∨ (i = 1 ∧ ∃ s3 s4, S = ⟨[some (.fr (drD c p y r m)), some (.fr (.lst [.tup [.str k, v]])), some (.cell 0), s3, s4], [some (.dic dKeys ds')]⟩), .inl ⟨rfl, rfl⟩, ?_, ?_⟩
    · rintro i d S1 hd (⟨rfl, rfl⟩ | ⟨rfl, s3, s4, rfl⟩)
      · cases hd
        refine ⟨_, rfl, rfl, _, _, rfl, _, _, rfl, rfl, ?_⟩
        refine ⟨_, rfl, _, rfl, _, rfl, ?_⟩
        refine ⟨_, _, _, _, _, _, rfl, rfl, rfl, rfl, rfl, Nat.le_of_ble_eq_true rfl, ?_⟩
        refine .inr ⟨rfl, some (.fr (.str k)), some (.fr v), ?_⟩
        show (⟨[some (.fr (drD c p y r m)), some (.fr (.lst [.tup [.str k, v]])), some (.cell 0), some (.fr (.str k)), some (.fr v)], [some (.dic (putKs dKeys (.inr k)) (putDs dKeys [c, p, y, r, .int m] (.inr k) v))]⟩ : DS) = _
        rw [e1, e2]
      · cases hd
    · rintro S1 (⟨e, _⟩ | ⟨_, s3, s4, rfl⟩)
      · cases e
      · refine ⟨_, rfl, _, _, rfl, Nat.zero_le _, rfl, ?_⟩
        exact rt0 hP
  rcases hk with rfl | rfl | rfl | rfl
  · exact key [v, p, y, r, .int m] rfl rfl (h1 rfl)
  · exact key [c, v, y, r, .int m] rfl rfl (h2 rfl)
  · exact key [c, p, v, r, .int m] rfl rfl (h3 rfl)
  · exact key [c, p, y, v, .int m] rfl rfl (h4 rfl)
theorem px0' {Xc : List CC → Exn → Prop} {S : DS} {e : Exn} (h : Xc [] e) : pxOf 0 Xc S e := ⟨[], ⟨by simp, rfl⟩, h⟩
theorem game_mono' {K : PySem.W.Frag} {as : List TD.Arg} {Pc Pc' : List CC → TD.Arg → Prop} {Xc Xc' : List CC → Exn → Prop} (hP : ∀ o r, Pc o r → Pc' o r) (hX : ∀ o e, Xc o e → Xc' o e) (h : d_game K as Pc Xc) : d_game K as Pc' Xc' := by
  obtain ⟨c, p, y, r, e, a1, a2, a3, a4, h1, h2, h3⟩ := h
  refine ⟨c, p, y, r, e, a1, a2, a3, a4, fun x => hX _ _ (h1 x), fun x z => hX _ _ (h2 x z), fun x ps m z1 z2 z3 => ?_⟩
  obtain ⟨h4, h5⟩ := h3 x ps m z1 z2 z3
  refine ⟨fun x => hX _ _ (h4 x), fun x qs z => ?_⟩
  obtain ⟨h6, h7⟩ := h5 x qs z
  refine ⟨fun x => hX _ _ (h6 x), fun rd z1 z2 => ?_⟩
  obtain ⟨h8, h9⟩ := h7 rd z1 z2
  exact ⟨fun x => hX _ _ (h8 x), fun x co z => hP _ _ (h9 x co z)⟩
def d_made2 (K : PySem.W.Frag) : DSp := fun as Pc Xc => ∃ c p y r m, as = [.fr (drD c p y r m)] ∧
  d_game K [.own (.ins (ga K "Game") [] []), .fr c, .fr p, .fr y, .fr r] (fun outs rr => ∃ cc, outs = [cc] ∧ rr = .fr .non ∧ Pc [] (.fr (frzD cc))) (fun _ e => Xc [] e)
theorem ok_made2 (V : Ev K mg) (o_Game : MakeOk P w K mg base 5 (ga K "Game") ["self", "coin", "paths", "pays", "road"] (d_game K)) : DefOk P w K mg base 7 "_law_made" ["_law_d"] (d_made2 K) := by
  refine V.D__law_made.ok sc__law_made 0 (fun as Pc Xc ⟨c, p, y, r, m, e, _⟩ => by subst e; exact ⟨rfl, rfl⟩) ?_
  intro f cdv A outer s H E B as Pc Xc h hB hr tk hp
  refine ⟨_, ((dss_one (ds_ret (de_frzL (de_make o_Game V.n_Game (L2.Room.mono hr (by decide)) tk (da_cons (de_dget (hu1 hr) (dv 0) de_str) (da_cons (de_dget (hu1 hr) (dv 0) de_str) (da_cons (de_dget (hu1 hr) (dv 0) de_str) (da_cons (de_dget (hu1 hr) (dv 0) de_str) da_nil))))))))), ?_⟩
  obtain ⟨c, p, y, r, m, rfl, h⟩ := h
  (repeat (first | refine ⟨_, rfl, Nat.le_of_ble_eq_true rfl, ?_⟩ | refine ⟨_, rfl, ?_⟩ | refine ⟨_, _, rfl, ?_⟩ | refine ⟨_, _, rfl, rfl, ?_⟩ | refine ⟨_, _, _, rfl, rfl, rfl, ?_⟩ | refine ⟨_, _, _, rfl, rfl, by (first | exact kb_NoneType_int | exact kb_bool_int | exact kb_int_int | exact kb_str_int | exact kb_tuple_int | exact kb_list_int | exact kb_dict_int | exact kb_NoneType_bool | exact kb_bool_bool | exact kb_int_bool | exact kb_str_bool | exact kb_tuple_bool | exact kb_list_bool | exact kb_dict_bool | exact kb_NoneType_tuple | exact kb_bool_tuple | exact kb_int_tuple | exact kb_str_tuple | exact kb_tuple_tuple | exact kb_list_tuple | exact kb_dict_tuple), ?_⟩ | refine ⟨_, _, _, _, _, rfl, rfl, rfl, rfl, rfl, ?_⟩ | refine iteT ?_ | refine iteF ?_ | refine ⟨(by decide : List.Nodup _), ?_⟩ | refine ⟨rfl, ?_⟩))
  refine ⟨_, _, _, _, _, rfl, rfl, rfl, rfl, ?_⟩
  (repeat (first | refine ⟨_, rfl, Nat.le_of_ble_eq_true rfl, ?_⟩ | refine ⟨_, rfl, ?_⟩ | refine ⟨_, _, rfl, ?_⟩ | refine ⟨_, _, rfl, rfl, ?_⟩ | refine ⟨_, _, _, rfl, rfl, rfl, ?_⟩ | refine ⟨_, _, _, rfl, rfl, by (first | exact kb_NoneType_int | exact kb_bool_int | exact kb_int_int | exact kb_str_int | exact kb_tuple_int | exact kb_list_int | exact kb_dict_int | exact kb_NoneType_bool | exact kb_bool_bool | exact kb_int_bool | exact kb_str_bool | exact kb_tuple_bool | exact kb_list_bool | exact kb_dict_bool | exact kb_NoneType_tuple | exact kb_bool_tuple | exact kb_int_tuple | exact kb_str_tuple | exact kb_tuple_tuple | exact kb_list_tuple | exact kb_dict_tuple), ?_⟩ | refine ⟨_, _, _, _, _, rfl, rfl, rfl, rfl, rfl, ?_⟩ | refine iteT ?_ | refine iteF ?_ | refine ⟨(by decide : List.Nodup _), ?_⟩ | refine ⟨rfl, ?_⟩))
  refine ⟨_, _, _, _, _, rfl, rfl, rfl, rfl, ?_⟩
  (repeat (first | refine ⟨_, rfl, Nat.le_of_ble_eq_true rfl, ?_⟩ | refine ⟨_, rfl, ?_⟩ | refine ⟨_, _, rfl, ?_⟩ | refine ⟨_, _, rfl, rfl, ?_⟩ | refine ⟨_, _, _, rfl, rfl, rfl, ?_⟩ | refine ⟨_, _, _, rfl, rfl, by (first | exact kb_NoneType_int | exact kb_bool_int | exact kb_int_int | exact kb_str_int | exact kb_tuple_int | exact kb_list_int | exact kb_dict_int | exact kb_NoneType_bool | exact kb_bool_bool | exact kb_int_bool | exact kb_str_bool | exact kb_tuple_bool | exact kb_list_bool | exact kb_dict_bool | exact kb_NoneType_tuple | exact kb_bool_tuple | exact kb_int_tuple | exact kb_str_tuple | exact kb_tuple_tuple | exact kb_list_tuple | exact kb_dict_tuple), ?_⟩ | refine ⟨_, _, _, _, _, rfl, rfl, rfl, rfl, rfl, ?_⟩ | refine iteT ?_ | refine iteF ?_ | refine ⟨(by decide : List.Nodup _), ?_⟩ | refine ⟨rfl, ?_⟩))
  refine ⟨_, _, _, _, _, rfl, rfl, rfl, rfl, ?_⟩
  (repeat (first | refine ⟨_, rfl, Nat.le_of_ble_eq_true rfl, ?_⟩ | refine ⟨_, rfl, ?_⟩ | refine ⟨_, _, rfl, ?_⟩ | refine ⟨_, _, rfl, rfl, ?_⟩ | refine ⟨_, _, _, rfl, rfl, rfl, ?_⟩ | refine ⟨_, _, _, rfl, rfl, by (first | exact kb_NoneType_int | exact kb_bool_int | exact kb_int_int | exact kb_str_int | exact kb_tuple_int | exact kb_list_int | exact kb_dict_int | exact kb_NoneType_bool | exact kb_bool_bool | exact kb_int_bool | exact kb_str_bool | exact kb_tuple_bool | exact kb_list_bool | exact kb_dict_bool | exact kb_NoneType_tuple | exact kb_bool_tuple | exact kb_int_tuple | exact kb_str_tuple | exact kb_tuple_tuple | exact kb_list_tuple | exact kb_dict_tuple), ?_⟩ | refine ⟨_, _, _, _, _, rfl, rfl, rfl, rfl, rfl, ?_⟩ | refine iteT ?_ | refine iteF ?_ | refine ⟨(by decide : List.Nodup _), ?_⟩ | refine ⟨rfl, ?_⟩))
  refine ⟨_, _, _, _, _, rfl, rfl, rfl, rfl, ?_⟩
  (repeat (first | refine ⟨_, rfl, Nat.le_of_ble_eq_true rfl, ?_⟩ | refine ⟨_, rfl, ?_⟩ | refine ⟨_, _, rfl, ?_⟩ | refine ⟨_, _, rfl, rfl, ?_⟩ | refine ⟨_, _, _, rfl, rfl, rfl, ?_⟩ | refine ⟨_, _, _, rfl, rfl, by (first | exact kb_NoneType_int | exact kb_bool_int | exact kb_int_int | exact kb_str_int | exact kb_tuple_int | exact kb_list_int | exact kb_dict_int | exact kb_NoneType_bool | exact kb_bool_bool | exact kb_int_bool | exact kb_str_bool | exact kb_tuple_bool | exact kb_list_bool | exact kb_dict_bool | exact kb_NoneType_tuple | exact kb_bool_tuple | exact kb_int_tuple | exact kb_str_tuple | exact kb_tuple_tuple | exact kb_list_tuple | exact kb_dict_tuple), ?_⟩ | refine ⟨_, _, _, _, _, rfl, rfl, rfl, rfl, rfl, ?_⟩ | refine iteT ?_ | refine iteF ?_ | refine ⟨(by decide : List.Nodup _), ?_⟩ | refine ⟨rfl, ?_⟩))
  refine ⟨by simp, game_mono' ?_ ?_ h⟩
  · rintro o rr ⟨cc, rfl, rfl, h⟩
    refine ⟨rfl, Nat.le_of_ble_eq_true rfl, ?_⟩
    refine ⟨[], _, rfl, Nat.zero_le _, rfl, ?_⟩
    exact rt0 h
  · intro o e h
    exact px0' h
theorem many_next {K : PySem.W.Frag} {PXo : PXT} {P : DEnds} {l : List (Addr × DTS)} {S : DS} {e : Exn} {x y : Str} {ts : DTS} (hx : e.C = ga K x) (h : PySem.W.exmOne K (.ref (ga K x)) (.ref (ga K y)) = some (decide (x = y))) (hn : decide (x = y) = false) (r : dMany K PXo P l S e) :
    dMany K PXo P ((ga K y, ts) :: l) S e := by
  refine ⟨false, by rw [hx, h, hn], ?_⟩
  rw [if_neg Bool.false_ne_true]
  exact r
theorem many_hit {K : PySem.W.Frag} {PXo : PXT} {P : DEnds} {l : List (Addr × DTS)} {S : DS} {e : Exn} {x y : Str} {ts : DTS} (hx : e.C = ga K x) (h : PySem.W.exmOne K (.ref (ga K x)) (.ref (ga K y)) = some (decide (x = y))) (hn : decide (x = y) = true) (r : ts P S) :
    dMany K PXo P ((ga K y, ts) :: l) S e := by
  refine ⟨true, by rw [hx, h, hn], ?_⟩
  rw [if_pos rfl]
  exact r
def d_refused (K : PySem.W.Frag) : DSp := fun as Pc _ => ∃ c p y r m, as = [.fr (drD c p y r m)] ∧
  d_game K [.own (.ins (ga K "Game") [] []), .fr c, .fr p, .fr y, .fr r] (fun outs rr => ∃ cc, outs = [cc] ∧ rr = .fr .non ∧ Pc [] (.fr .non))
    (fun _ e => (e = ⟨ga K "InvalidCoin", [], []⟩ ∧ Pc [] (.fr (.str "coin"))) ∨ (e = ⟨ga K "InvalidPaths", [], []⟩ ∧ Pc [] (.fr (.str "paths"))) ∨ (e = ⟨ga K "InvalidPays", [], []⟩ ∧ Pc [] (.fr (.str "pays"))) ∨ (e = ⟨ga K "InvalidRoad", [], []⟩ ∧ Pc [] (.fr (.str "road"))))
theorem ok_refused (V : Ev K mg) (o__law_made : DefOk P w K mg base 7 "_law_made" ["_law_d"] (d_made2 K)) : DefOk P w K mg base 8 "_law_refused" ["_law_d"] (d_refused K) := by
  refine V.D__law_refused.ok0 sc__law_refused 0 (fun as Pc Xc ⟨c, p, y, r, m, e, _⟩ => by subst e; exact ⟨rfl, rfl⟩) ?_
  intro f cdv A outer s H E B as Pc Xc h hB hr tk hp
  refine ⟨_, ((dss0_cons (ds0 (ds_set (i := 1) sc__law_refused.nd de_non)) (dss0_cons (ds_try rfl tk (fun PX' pn xe tk' po => (dss_one (ds_expr (de_callD o__law_made (L2.Room.mono hr (by decide)) tk' (da_cons (dv 0) da_nil))))) (.cons (names_of V.n_InvalidCoin) (fun a pn => (dss_one (ds_set (i := 1) sc__law_refused.nd de_str))) (.cons (names_of V.n_InvalidPaths) (fun a pn => (dss_one (ds_set (i := 1) sc__law_refused.nd de_str))) (.cons (names_of V.n_InvalidPays) (fun a pn => (dss_one (ds_set (i := 1) sc__law_refused.nd de_str))) (.cons (names_of V.n_InvalidRoad) (fun a pn => (dss_one (ds_set (i := 1) sc__law_refused.nd de_str))) .nil))))) (dss0_one (ds0 (ds_ret (dv 1))))))), ?_⟩
  obtain ⟨c, p, y, r, m, rfl, h⟩ := h
  (repeat (first | refine ⟨_, rfl, Nat.le_of_ble_eq_true rfl, ?_⟩ | refine ⟨_, rfl, ?_⟩ | refine ⟨_, _, rfl, ?_⟩ | refine ⟨_, _, rfl, rfl, ?_⟩ | refine ⟨_, _, _, rfl, rfl, rfl, ?_⟩ | refine ⟨_, _, _, rfl, rfl, by (first | exact kb_NoneType_int | exact kb_bool_int | exact kb_int_int | exact kb_str_int | exact kb_tuple_int | exact kb_list_int | exact kb_dict_int | exact kb_NoneType_bool | exact kb_bool_bool | exact kb_int_bool | exact kb_str_bool | exact kb_tuple_bool | exact kb_list_bool | exact kb_dict_bool | exact kb_NoneType_tuple | exact kb_bool_tuple | exact kb_int_tuple | exact kb_str_tuple | exact kb_tuple_tuple | exact kb_list_tuple | exact kb_dict_tuple), ?_⟩ | refine ⟨_, _, _, _, _, rfl, rfl, rfl, rfl, rfl, ?_⟩ | refine iteT ?_ | refine iteF ?_ | refine ⟨(by decide : List.Nodup _), ?_⟩ | refine ⟨rfl, ?_⟩))
  refine ⟨_, _, _, _, _, rfl, game_mono' ?_ ?_ h⟩
  · rintro o rr ⟨cc, rfl, rfl, h⟩
    refine ⟨_, rfl, rfl, ?_⟩
    (repeat (first | refine ⟨_, rfl, Nat.le_of_ble_eq_true rfl, ?_⟩ | refine ⟨_, rfl, ?_⟩ | refine ⟨_, _, rfl, ?_⟩ | refine ⟨_, _, rfl, rfl, ?_⟩ | refine ⟨_, _, _, rfl, rfl, rfl, ?_⟩ | refine ⟨_, _, _, rfl, rfl, by (first | exact kb_NoneType_int | exact kb_bool_int | exact kb_int_int | exact kb_str_int | exact kb_tuple_int | exact kb_list_int | exact kb_dict_int | exact kb_NoneType_bool | exact kb_bool_bool | exact kb_int_bool | exact kb_str_bool | exact kb_tuple_bool | exact kb_list_bool | exact kb_dict_bool | exact kb_NoneType_tuple | exact kb_bool_tuple | exact kb_int_tuple | exact kb_str_tuple | exact kb_tuple_tuple | exact kb_list_tuple | exact kb_dict_tuple), ?_⟩ | refine ⟨_, _, _, _, _, rfl, rfl, rfl, rfl, rfl, ?_⟩ | refine iteT ?_ | refine iteF ?_ | refine ⟨(by decide : List.Nodup _), ?_⟩ | refine ⟨rfl, ?_⟩))
    exact rt0 h
  · rintro o e (⟨rfl, h⟩ | ⟨rfl, h⟩ | ⟨rfl, h⟩ | ⟨rfl, h⟩)
    · refine many_hit (x := "InvalidCoin") rfl (V.xm _ (by decide +kernel) _ (by decide +kernel)) (by decide +kernel) ?_
      (repeat (first | refine ⟨_, rfl, Nat.le_of_ble_eq_true rfl, ?_⟩ | refine ⟨_, rfl, ?_⟩ | refine ⟨_, _, rfl, ?_⟩ | refine ⟨_, _, rfl, rfl, ?_⟩ | refine ⟨_, _, _, rfl, rfl, rfl, ?_⟩ | refine ⟨_, _, _, rfl, rfl, by (first | exact kb_NoneType_int | exact kb_bool_int | exact kb_int_int | exact kb_str_int | exact kb_tuple_int | exact kb_list_int | exact kb_dict_int | exact kb_NoneType_bool | exact kb_bool_bool | exact kb_int_bool | exact kb_str_bool | exact kb_tuple_bool | exact kb_list_bool | exact kb_dict_bool | exact kb_NoneType_tuple | exact kb_bool_tuple | exact kb_int_tuple | exact kb_str_tuple | exact kb_tuple_tuple | exact kb_list_tuple | exact kb_dict_tuple), ?_⟩ | refine ⟨_, _, _, _, _, rfl, rfl, rfl, rfl, rfl, ?_⟩ | refine iteT ?_ | refine iteF ?_ | refine ⟨(by decide : List.Nodup _), ?_⟩ | refine ⟨rfl, ?_⟩))
      exact rt0 h
    · refine many_next (x := "InvalidPaths") rfl (V.xm _ (by decide +kernel) _ (by decide +kernel)) (by decide +kernel) ?_
      refine many_hit (x := "InvalidPaths") rfl (V.xm _ (by decide +kernel) _ (by decide +kernel)) (by decide +kernel) ?_
      (repeat (first | refine ⟨_, rfl, Nat.le_of_ble_eq_true rfl, ?_⟩ | refine ⟨_, rfl, ?_⟩ | refine ⟨_, _, rfl, ?_⟩ | refine ⟨_, _, rfl, rfl, ?_⟩ | refine ⟨_, _, _, rfl, rfl, rfl, ?_⟩ | refine ⟨_, _, _, rfl, rfl, by (first | exact kb_NoneType_int | exact kb_bool_int | exact kb_int_int | exact kb_str_int | exact kb_tuple_int | exact kb_list_int | exact kb_dict_int | exact kb_NoneType_bool | exact kb_bool_bool | exact kb_int_bool | exact kb_str_bool | exact kb_tuple_bool | exact kb_list_bool | exact kb_dict_bool | exact kb_NoneType_tuple | exact kb_bool_tuple | exact kb_int_tuple | exact kb_str_tuple | exact kb_tuple_tuple | exact kb_list_tuple | exact kb_dict_tuple), ?_⟩ | refine ⟨_, _, _, _, _, rfl, rfl, rfl, rfl, rfl, ?_⟩ | refine iteT ?_ | refine iteF ?_ | refine ⟨(by decide : List.Nodup _), ?_⟩ | refine ⟨rfl, ?_⟩))
      exact rt0 h
    · refine many_next (x := "InvalidPays") rfl (V.xm _ (by decide +kernel) _ (by decide +kernel)) (by decide +kernel) ?_
      refine many_next (x := "InvalidPays") rfl (V.xm _ (by decide +kernel) _ (by decide +kernel)) (by decide +kernel) ?_
      refine many_hit (x := "InvalidPays") rfl (V.xm _ (by decide +kernel) _ (by decide +kernel)) (by decide +kernel) ?_
      (repeat (first | refine ⟨_, rfl, Nat.le_of_ble_eq_true rfl, ?_⟩ | refine ⟨_, rfl, ?_⟩ | refine ⟨_, _, rfl, ?_⟩ | refine ⟨_, _, rfl, rfl, ?_⟩ | refine ⟨_, _, _, rfl, rfl, rfl, ?_⟩ | refine ⟨_, _, _, rfl, rfl, by (first | exact kb_NoneType_int | exact kb_bool_int | exact kb_int_int | exact kb_str_int | exact kb_tuple_int | exact kb_list_int | exact kb_dict_int | exact kb_NoneType_bool | exact kb_bool_bool | exact kb_int_bool | exact kb_str_bool | exact kb_tuple_bool | exact kb_list_bool | exact kb_dict_bool | exact kb_NoneType_tuple | exact kb_bool_tuple | exact kb_int_tuple | exact kb_str_tuple | exact kb_tuple_tuple | exact kb_list_tuple | exact kb_dict_tuple), ?_⟩ | refine ⟨_, _, _, _, _, rfl, rfl, rfl, rfl, rfl, ?_⟩ | refine iteT ?_ | refine iteF ?_ | refine ⟨(by decide : List.Nodup _), ?_⟩ | refine ⟨rfl, ?_⟩))
      exact rt0 h
    · refine many_next (x := "InvalidRoad") rfl (V.xm _ (by decide +kernel) _ (by decide +kernel)) (by decide +kernel) ?_
      refine many_next (x := "InvalidRoad") rfl (V.xm _ (by decide +kernel) _ (by decide +kernel)) (by decide +kernel) ?_
      refine many_next (x := "InvalidRoad") rfl (V.xm _ (by decide +kernel) _ (by decide +kernel)) (by decide +kernel) ?_
      refine many_hit (x := "InvalidRoad") rfl (V.xm _ (by decide +kernel) _ (by decide +kernel)) (by decide +kernel) ?_
      (repeat (first | refine ⟨_, rfl, Nat.le_of_ble_eq_true rfl, ?_⟩ | refine ⟨_, rfl, ?_⟩ | refine ⟨_, _, rfl, ?_⟩ | refine ⟨_, _, rfl, rfl, ?_⟩ | refine ⟨_, _, _, rfl, rfl, rfl, ?_⟩ | refine ⟨_, _, _, rfl, rfl, by (first | exact kb_NoneType_int | exact kb_bool_int | exact kb_int_int | exact kb_str_int | exact kb_tuple_int | exact kb_list_int | exact kb_dict_int | exact kb_NoneType_bool | exact kb_bool_bool | exact kb_int_bool | exact kb_str_bool | exact kb_tuple_bool | exact kb_list_bool | exact kb_dict_bool | exact kb_NoneType_tuple | exact kb_bool_tuple | exact kb_int_tuple | exact kb_str_tuple | exact kb_tuple_tuple | exact kb_list_tuple | exact kb_dict_tuple), ?_⟩ | refine ⟨_, _, _, _, _, rfl, rfl, rfl, rfl, rfl, ?_⟩ | refine iteT ?_ | refine iteF ?_ | refine ⟨(by decide : List.Nodup _), ?_⟩ | refine ⟨rfl, ?_⟩))
      exact rt0 h
end
end Toss
namespace Toss
open PySem PySem.Spec PyProof.Rows L2 TD He
section
variable {P : Program} {w : World} {K : PySem.W.Frag} {mg : Str → Option Value} {base : Heap}
def pi (x y : Int) : D := .tup [.int x, .int y]
def odd1 : List D := [.non, pi 1 1, pi 0 1, pi 10 1, .tup [.int 1, .bl true], .lst [.int 1, .int 1], .tup [pi 0 1], .tup [pi 0 2], .tup [pi 1 0], .tup [pi 0 1, pi 0 1], .tup []]
def odd2 : List D := [.tup [pi 0 1, pi 2 3], .tup [pi 0 1, pi 1 2, pi 2 3], .tup [pi 0 6], .tup [pi 1 2, pi 0 1]]
def odd3 : List D := [.tup [pi 0 21], .tup [pi 0 5, pi 0 6]]
def odd4 : List D := [.tup [pi 1 (-20)], .tup [pi 9 1], .tup [.tup [.int 0, .bl true]], pi 5 0, pi 0 21, pi 0 0, .str "road", .int 3, .dic [] [], pi 1 0, .tup [.tup [.int 0]]]
def oddL : List D := odd1 ++ odd2 ++ odd3 ++ odd4
def d_odd : DSp := fun as Pc _ => ∃ ns a b c co p y r m, as = [.own (rowC ns a b c), .fr (drD co p y r m)] ∧ RowOk a b ∧ ∀ a' b' c' v, RowOk a' b' → v ∈ oddL ++ [p, y, r] → Pc [rowC ns a' b' c'] (.fr v)
theorem atI_mem {ds : List D} {i : Int} (h0 : 0 ≤ i) (h1 : i < ds.length) : ∃ v, atI ds i = some v ∧ v ∈ ds := by
  have hn : ixN ds.length i = some i.toNat := by
    unfold ixN
    simp [h0, h1]
  refine ⟨ds[i.toNat]'(by omega), ?_, List.getElem_mem _⟩
  unfold atI
  rw [hn]
  simp
theorem ok_odd (V : Ev K mg) (o__law_taken : DefOk P w K mg base 1 "_law_taken" ["_law_row", "_law_many"] d_taken) : DefOk P w K mg base 6 "_law_odd" ["_law_row", "_law_d"] d_odd := by
  refine V.D__law_odd.ok sc__law_odd 1 (fun as Pc Xc ⟨ns, a, b, c, co, p, y, r, m, e, _⟩ => by subst e; exact ⟨rfl, rfl⟩) ?_
  intro f cdv A outer s H E B as Pc Xc h hB hr tk hp
  refine ⟨_, ((dss_consN (ds_set (i := 2) sc__law_odd.nd (de_lst (da_cons de_non (da_cons (de_tup (da_cons de_int (da_cons de_int da_nil))) (da_cons (de_tup (da_cons de_int (da_cons de_int da_nil))) (da_cons (de_tup (da_cons de_int (da_cons de_int da_nil))) (da_cons (de_tup (da_cons de_int (da_cons de_bl da_nil))) (da_cons (de_lst (da_cons de_int (da_cons de_int da_nil))) (da_cons (de_tup (da_cons (de_tup (da_cons de_int (da_cons de_int da_nil))) da_nil)) (da_cons (de_tup (da_cons (de_tup (da_cons de_int (da_cons de_int da_nil))) da_nil)) (da_cons (de_tup (da_cons (de_tup (da_cons de_int (da_cons de_int da_nil))) da_nil)) (da_cons (de_tup (da_cons (de_tup (da_cons de_int (da_cons de_int da_nil))) (da_cons (de_tup (da_cons de_int (da_cons de_int da_nil))) da_nil))) (da_cons (de_tup da_nil) da_nil))))))))))))) (dss_consN (ds_set (i := 2) sc__law_odd.nd (de_cat (dv 2) (de_lst (da_cons (de_tup (da_cons (de_tup (da_cons de_int (da_cons de_int da_nil))) (da_cons (de_tup (da_cons de_int (da_cons de_int da_nil))) da_nil))) (da_cons (de_tup (da_cons (de_tup (da_cons de_int (da_cons de_int da_nil))) (da_cons (de_tup (da_cons de_int (da_cons de_int da_nil))) (da_cons (de_tup (da_cons de_int (da_cons de_int da_nil))) da_nil)))) (da_cons (de_tup (da_cons (de_tup (da_cons de_int (da_cons de_int da_nil))) da_nil)) (da_cons (de_tup (da_cons (de_tup (da_cons de_int (da_cons de_int da_nil))) (da_cons (de_tup (da_cons de_int (da_cons de_int da_nil))) da_nil))) da_nil))))))) (dss_consN (ds_set (i := 2) sc__law_odd.nd (de_cat (dv 2) (de_lst (da_cons (de_tup (da_cons (de_tup (da_cons de_int (da_cons de_int da_nil))) da_nil)) (da_cons (de_tup (da_cons (de_tup (da_cons de_int (da_cons de_int da_nil))) (da_cons (de_tup (da_cons de_int (da_cons de_int da_nil))) da_nil))) da_nil))))) (dss_consN (ds_set (i := 2) sc__law_odd.nd (de_cat (dv 2) (de_lst (da_cons (de_tup (da_cons (de_tup (da_cons de_int (da_cons (de_sub de_int de_int) da_nil))) da_nil)) (da_cons (de_tup (da_cons (de_tup (da_cons de_int (da_cons de_int da_nil))) da_nil)) (da_cons (de_tup (da_cons (de_tup (da_cons de_int (da_cons de_bl da_nil))) da_nil)) (da_cons (de_tup (da_cons de_int (da_cons de_int da_nil))) (da_cons (de_tup (da_cons de_int (da_cons de_int da_nil))) (da_cons (de_tup (da_cons de_int (da_cons de_int da_nil))) (da_cons de_str (da_cons de_int (da_cons (de_frzL de_dnew) (da_cons (de_tup (da_cons de_int (da_cons de_int da_nil))) (da_cons (de_tup (da_cons (de_tup (da_cons de_int da_nil)) da_nil)) da_nil)))))))))))))) (dss_one (ds_ret (de_ix (de_cat (dv 2) (de_lst (da_cons (de_dget (hu1 hr) (dv 1) de_str) (da_cons (de_dget (hu1 hr) (dv 1) de_str) (da_cons (de_dget (hu1 hr) (dv 1) de_str) da_nil))))) (de_callD o__law_taken (L2.Room.mono hr (by decide)) tk (da_cons (dv 0) (da_cons (de_add (de_len V.g_len (da_cons (dv 2) da_nil)) de_int) da_nil))))))))))), ?_⟩
  obtain ⟨ns, a, b, c, co, p, y, ro, m, rfl, hw, h⟩ := h
  (repeat (first | refine ⟨_, rfl, Nat.le_of_ble_eq_true rfl, ?_⟩ | refine ⟨_, rfl, ?_⟩ | refine ⟨_, _, rfl, ?_⟩ | refine ⟨_, _, rfl, rfl, ?_⟩ | refine ⟨_, _, _, rfl, rfl, rfl, ?_⟩ | refine ⟨_, _, _, rfl, rfl, by (first | exact kb_NoneType_int | exact kb_bool_int | exact kb_int_int | exact kb_str_int | exact kb_tuple_int | exact kb_list_int | exact kb_dict_int | exact kb_NoneType_bool | exact kb_bool_bool | exact kb_int_bool | exact kb_str_bool | exact kb_tuple_bool | exact kb_list_bool | exact kb_dict_bool | exact kb_NoneType_tuple | exact kb_bool_tuple | exact kb_int_tuple | exact kb_str_tuple | exact kb_tuple_tuple | exact kb_list_tuple | exact kb_dict_tuple), ?_⟩ | refine ⟨_, _, _, _, _, rfl, rfl, rfl, rfl, rfl, ?_⟩ | refine iteT ?_ | refine iteF ?_ | refine ⟨(by decide : List.Nodup _), ?_⟩ | refine ⟨rfl, ?_⟩))
  refine Nrm.of ⟨[some (.cell 0), some (.fr (drD co p y ro m)), some (.fr (.lst odd1))], [some (rowC ns a b c)]⟩ rfl ?_
  (repeat (first | refine ⟨_, rfl, Nat.le_of_ble_eq_true rfl, ?_⟩ | refine ⟨_, rfl, ?_⟩ | refine ⟨_, _, rfl, ?_⟩ | refine ⟨_, _, rfl, rfl, ?_⟩ | refine ⟨_, _, _, rfl, rfl, rfl, ?_⟩ | refine ⟨_, _, _, rfl, rfl, by (first | exact kb_NoneType_int | exact kb_bool_int | exact kb_int_int | exact kb_str_int | exact kb_tuple_int | exact kb_list_int | exact kb_dict_int | exact kb_NoneType_bool | exact kb_bool_bool | exact kb_int_bool | exact kb_str_bool | exact kb_tuple_bool | exact kb_list_bool | exact kb_dict_bool | exact kb_NoneType_tuple | exact kb_bool_tuple | exact kb_int_tuple | exact kb_str_tuple | exact kb_tuple_tuple | exact kb_list_tuple | exact kb_dict_tuple), ?_⟩ | refine ⟨_, _, _, _, _, rfl, rfl, rfl, rfl, rfl, ?_⟩ | refine iteT ?_ | refine iteF ?_ | refine ⟨(by decide : List.Nodup _), ?_⟩ | refine ⟨rfl, ?_⟩))
  refine ⟨Nat.le_of_ble_eq_true rfl, ?_⟩
  (repeat (first | refine ⟨_, rfl, Nat.le_of_ble_eq_true rfl, ?_⟩ | refine ⟨_, rfl, ?_⟩ | refine ⟨_, _, rfl, ?_⟩ | refine ⟨_, _, rfl, rfl, ?_⟩ | refine ⟨_, _, _, rfl, rfl, rfl, ?_⟩ | refine ⟨_, _, _, rfl, rfl, by (first | exact kb_NoneType_int | exact kb_bool_int | exact kb_int_int | exact kb_str_int | exact kb_tuple_int | exact kb_list_int | exact kb_dict_int | exact kb_NoneType_bool | exact kb_bool_bool | exact kb_int_bool | exact kb_str_bool | exact kb_tuple_bool | exact kb_list_bool | exact kb_dict_bool | exact kb_NoneType_tuple | exact kb_bool_tuple | exact kb_int_tuple | exact kb_str_tuple | exact kb_tuple_tuple | exact kb_list_tuple | exact kb_dict_tuple), ?_⟩ | refine ⟨_, _, _, _, _, rfl, rfl, rfl, rfl, rfl, ?_⟩ | refine iteT ?_ | refine iteF ?_ | refine ⟨(by decide : List.Nodup _), ?_⟩ | refine ⟨rfl, ?_⟩))
  refine Nrm.of ⟨[some (.cell 0), some (.fr (drD co p y ro m)), some (.fr (.lst (odd1 ++ odd2)))], [some (rowC ns a b c)]⟩ rfl ?_
  (repeat (first | refine ⟨_, rfl, Nat.le_of_ble_eq_true rfl, ?_⟩ | refine ⟨_, rfl, ?_⟩ | refine ⟨_, _, rfl, ?_⟩ | refine ⟨_, _, rfl, rfl, ?_⟩ | refine ⟨_, _, _, rfl, rfl, rfl, ?_⟩ | refine ⟨_, _, _, rfl, rfl, by (first | exact kb_NoneType_int | exact kb_bool_int | exact kb_int_int | exact kb_str_int | exact kb_tuple_int | exact kb_list_int | exact kb_dict_int | exact kb_NoneType_bool | exact kb_bool_bool | exact kb_int_bool | exact kb_str_bool | exact kb_tuple_bool | exact kb_list_bool | exact kb_dict_bool | exact kb_NoneType_tuple | exact kb_bool_tuple | exact kb_int_tuple | exact kb_str_tuple | exact kb_tuple_tuple | exact kb_list_tuple | exact kb_dict_tuple), ?_⟩ | refine ⟨_, _, _, _, _, rfl, rfl, rfl, rfl, rfl, ?_⟩ | refine iteT ?_ | refine iteF ?_ | refine ⟨(by decide : List.Nodup _), ?_⟩ | refine ⟨rfl, ?_⟩))
  refine ⟨Nat.le_of_ble_eq_true rfl, ?_⟩
  (repeat (first | refine ⟨_, rfl, Nat.le_of_ble_eq_true rfl, ?_⟩ | refine ⟨_, rfl, ?_⟩ | refine ⟨_, _, rfl, ?_⟩ | refine ⟨_, _, rfl, rfl, ?_⟩ | refine ⟨_, _, _, rfl, rfl, rfl, ?_⟩ | refine ⟨_, _, _, rfl, rfl, by (first | exact kb_NoneType_int | exact kb_bool_int | exact kb_int_int | exact kb_str_int | exact kb_tuple_int | exact kb_list_int | exact kb_dict_int | exact kb_NoneType_bool | exact kb_bool_bool | exact kb_int_bool | exact kb_str_bool | exact kb_tuple_bool | exact kb_list_bool | exact kb_dict_bool | exact kb_NoneType_tuple | exact kb_bool_tuple | exact kb_int_tuple | exact kb_str_tuple | exact kb_tuple_tuple | exact kb_list_tuple | exact kb_dict_tuple), ?_⟩ | refine ⟨_, _, _, _, _, rfl, rfl, rfl, rfl, rfl, ?_⟩ | refine iteT ?_ | refine iteF ?_ | refine ⟨(by decide : List.Nodup _), ?_⟩ | refine ⟨rfl, ?_⟩))
  refine Nrm.of ⟨[some (.cell 0), some (.fr (drD co p y ro m)), some (.fr (.lst (odd1 ++ odd2 ++ odd3)))], [some (rowC ns a b c)]⟩ rfl ?_
  (repeat (first | refine ⟨_, rfl, Nat.le_of_ble_eq_true rfl, ?_⟩ | refine ⟨_, rfl, ?_⟩ | refine ⟨_, _, rfl, ?_⟩ | refine ⟨_, _, rfl, rfl, ?_⟩ | refine ⟨_, _, _, rfl, rfl, rfl, ?_⟩ | refine ⟨_, _, _, rfl, rfl, by (first | exact kb_NoneType_int | exact kb_bool_int | exact kb_int_int | exact kb_str_int | exact kb_tuple_int | exact kb_list_int | exact kb_dict_int | exact kb_NoneType_bool | exact kb_bool_bool | exact kb_int_bool | exact kb_str_bool | exact kb_tuple_bool | exact kb_list_bool | exact kb_dict_bool | exact kb_NoneType_tuple | exact kb_bool_tuple | exact kb_int_tuple | exact kb_str_tuple | exact kb_tuple_tuple | exact kb_list_tuple | exact kb_dict_tuple), ?_⟩ | refine ⟨_, _, _, _, _, rfl, rfl, rfl, rfl, rfl, ?_⟩ | refine iteT ?_ | refine iteF ?_ | refine ⟨(by decide : List.Nodup _), ?_⟩ | refine ⟨rfl, ?_⟩))
  refine ⟨Nat.le_refl _, rfl, ?_⟩
  (repeat (first | refine ⟨_, rfl, Nat.le_of_ble_eq_true rfl, ?_⟩ | refine ⟨_, rfl, ?_⟩ | refine ⟨_, _, rfl, ?_⟩ | refine ⟨_, _, rfl, rfl, ?_⟩ | refine ⟨_, _, _, rfl, rfl, rfl, ?_⟩ | refine ⟨_, _, _, rfl, rfl, by (first | exact kb_NoneType_int | exact kb_bool_int | exact kb_int_int | exact kb_str_int | exact kb_tuple_int | exact kb_list_int | exact kb_dict_int | exact kb_NoneType_bool | exact kb_bool_bool | exact kb_int_bool | exact kb_str_bool | exact kb_tuple_bool | exact kb_list_bool | exact kb_dict_bool | exact kb_NoneType_tuple | exact kb_bool_tuple | exact kb_int_tuple | exact kb_str_tuple | exact kb_tuple_tuple | exact kb_list_tuple | exact kb_dict_tuple), ?_⟩ | refine ⟨_, _, _, _, _, rfl, rfl, rfl, rfl, rfl, ?_⟩ | refine iteT ?_ | refine iteF ?_ | refine ⟨(by decide : List.Nodup _), ?_⟩ | refine ⟨rfl, ?_⟩))
  refine ⟨Nat.le_of_ble_eq_true rfl, ?_⟩
  (repeat (first | refine ⟨_, rfl, Nat.le_of_ble_eq_true rfl, ?_⟩ | refine ⟨_, rfl, ?_⟩ | refine ⟨_, _, rfl, ?_⟩ | refine ⟨_, _, rfl, rfl, ?_⟩ | refine ⟨_, _, _, rfl, rfl, rfl, ?_⟩ | refine ⟨_, _, _, rfl, rfl, by (first | exact kb_NoneType_int | exact kb_bool_int | exact kb_int_int | exact kb_str_int | exact kb_tuple_int | exact kb_list_int | exact kb_dict_int | exact kb_NoneType_bool | exact kb_bool_bool | exact kb_int_bool | exact kb_str_bool | exact kb_tuple_bool | exact kb_list_bool | exact kb_dict_bool | exact kb_NoneType_tuple | exact kb_bool_tuple | exact kb_int_tuple | exact kb_str_tuple | exact kb_tuple_tuple | exact kb_list_tuple | exact kb_dict_tuple), ?_⟩ | refine ⟨_, _, _, _, _, rfl, rfl, rfl, rfl, rfl, ?_⟩ | refine iteT ?_ | refine iteF ?_ | refine ⟨(by decide : List.Nodup _), ?_⟩ | refine ⟨rfl, ?_⟩))
  refine Nrm.of ⟨[some (.cell 0), some (.fr (drD co p y ro m)), some (.fr (.lst oddL))], [some (rowC ns a b c)]⟩ rfl ?_
  (repeat (first | refine ⟨_, rfl, Nat.le_of_ble_eq_true rfl, ?_⟩ | refine ⟨_, rfl, ?_⟩ | refine ⟨_, _, rfl, ?_⟩ | refine ⟨_, _, rfl, rfl, ?_⟩ | refine ⟨_, _, _, rfl, rfl, rfl, ?_⟩ | refine ⟨_, _, _, rfl, rfl, by (first | exact kb_NoneType_int | exact kb_bool_int | exact kb_int_int | exact kb_str_int | exact kb_tuple_int | exact kb_list_int | exact kb_dict_int | exact kb_NoneType_bool | exact kb_bool_bool | exact kb_int_bool | exact kb_str_bool | exact kb_tuple_bool | exact kb_list_bool | exact kb_dict_bool | exact kb_NoneType_tuple | exact kb_bool_tuple | exact kb_int_tuple | exact kb_str_tuple | exact kb_tuple_tuple | exact kb_list_tuple | exact kb_dict_tuple), ?_⟩ | refine ⟨_, _, _, _, _, rfl, rfl, rfl, rfl, rfl, ?_⟩ | refine iteT ?_ | refine iteF ?_ | refine ⟨(by decide : List.Nodup _), ?_⟩ | refine ⟨rfl, ?_⟩))
  refine ⟨_, _, _, _, _, rfl, rfl, rfl, rfl, ?_⟩
  (repeat (first | refine ⟨_, rfl, Nat.le_of_ble_eq_true rfl, ?_⟩ | refine ⟨_, rfl, ?_⟩ | refine ⟨_, _, rfl, ?_⟩ | refine ⟨_, _, rfl, rfl, ?_⟩ | refine ⟨_, _, _, rfl, rfl, rfl, ?_⟩ | refine ⟨_, _, _, rfl, rfl, by (first | exact kb_NoneType_int | exact kb_bool_int | exact kb_int_int | exact kb_str_int | exact kb_tuple_int | exact kb_list_int | exact kb_dict_int | exact kb_NoneType_bool | exact kb_bool_bool | exact kb_int_bool | exact kb_str_bool | exact kb_tuple_bool | exact kb_list_bool | exact kb_dict_bool | exact kb_NoneType_tuple | exact kb_bool_tuple | exact kb_int_tuple | exact kb_str_tuple | exact kb_tuple_tuple | exact kb_list_tuple | exact kb_dict_tuple), ?_⟩ | refine ⟨_, _, _, _, _, rfl, rfl, rfl, rfl, rfl, ?_⟩ | refine iteT ?_ | refine iteF ?_ | refine ⟨(by decide : List.Nodup _), ?_⟩ | refine ⟨rfl, ?_⟩))
  refine ⟨_, _, _, _, _, rfl, rfl, rfl, rfl, ?_⟩
  (repeat (first | refine ⟨_, rfl, Nat.le_of_ble_eq_true rfl, ?_⟩ | refine ⟨_, rfl, ?_⟩ | refine ⟨_, _, rfl, ?_⟩ | refine ⟨_, _, rfl, rfl, ?_⟩ | refine ⟨_, _, _, rfl, rfl, rfl, ?_⟩ | refine ⟨_, _, _, rfl, rfl, by (first | exact kb_NoneType_int | exact kb_bool_int | exact kb_int_int | exact kb_str_int | exact kb_tuple_int | exact kb_list_int | exact kb_dict_int | exact kb_NoneType_bool | exact kb_bool_bool | exact kb_int_bool | exact kb_str_bool | exact kb_tuple_bool | exact kb_list_bool | exact kb_dict_bool | exact kb_NoneType_tuple | exact kb_bool_tuple | exact kb_int_tuple | exact kb_str_tuple | exact kb_tuple_tuple | exact kb_list_tuple | exact kb_dict_tuple), ?_⟩ | refine ⟨_, _, _, _, _, rfl, rfl, rfl, rfl, rfl, ?_⟩ | refine iteT ?_ | refine iteF ?_ | refine ⟨(by decide : List.Nodup _), ?_⟩ | refine ⟨rfl, ?_⟩))
  refine ⟨_, _, _, _, _, rfl, rfl, rfl, rfl, ?_⟩
  (repeat (first | refine ⟨_, rfl, Nat.le_of_ble_eq_true rfl, ?_⟩ | refine ⟨_, rfl, ?_⟩ | refine ⟨_, _, rfl, ?_⟩ | refine ⟨_, _, rfl, rfl, ?_⟩ | refine ⟨_, _, _, rfl, rfl, rfl, ?_⟩ | refine ⟨_, _, _, rfl, rfl, by (first | exact kb_NoneType_int | exact kb_bool_int | exact kb_int_int | exact kb_str_int | exact kb_tuple_int | exact kb_list_int | exact kb_dict_int | exact kb_NoneType_bool | exact kb_bool_bool | exact kb_int_bool | exact kb_str_bool | exact kb_tuple_bool | exact kb_list_bool | exact kb_dict_bool | exact kb_NoneType_tuple | exact kb_bool_tuple | exact kb_int_tuple | exact kb_str_tuple | exact kb_tuple_tuple | exact kb_list_tuple | exact kb_dict_tuple), ?_⟩ | refine ⟨_, _, _, _, _, rfl, rfl, rfl, rfl, rfl, ?_⟩ | refine iteT ?_ | refine iteF ?_ | refine ⟨(by decide : List.Nodup _), ?_⟩ | refine ⟨rfl, ?_⟩))
  refine ⟨Nat.le_of_ble_eq_true rfl, ?_⟩
  (repeat (first | refine ⟨_, rfl, Nat.le_of_ble_eq_true rfl, ?_⟩ | refine ⟨_, rfl, ?_⟩ | refine ⟨_, _, rfl, ?_⟩ | refine ⟨_, _, rfl, rfl, ?_⟩ | refine ⟨_, _, _, rfl, rfl, rfl, ?_⟩ | refine ⟨_, _, _, rfl, rfl, by (first | exact kb_NoneType_int | exact kb_bool_int | exact kb_int_int | exact kb_str_int | exact kb_tuple_int | exact kb_list_int | exact kb_dict_int | exact kb_NoneType_bool | exact kb_bool_bool | exact kb_int_bool | exact kb_str_bool | exact kb_tuple_bool | exact kb_list_bool | exact kb_dict_bool | exact kb_NoneType_tuple | exact kb_bool_tuple | exact kb_int_tuple | exact kb_str_tuple | exact kb_tuple_tuple | exact kb_list_tuple | exact kb_dict_tuple), ?_⟩ | refine ⟨_, _, _, _, _, rfl, rfl, rfl, rfl, rfl, ?_⟩ | refine iteT ?_ | refine iteF ?_ | refine ⟨(by decide : List.Nodup _), ?_⟩ | refine ⟨rfl, ?_⟩))
  refine ⟨ns, a, b, c, 31, rfl, hw, by decide, by decide, fun a b c r hw h0 h1 => ?_⟩
  obtain ⟨v, hv, hm⟩ := atI_mem (ds := oddL ++ [p, y, ro]) (i := r) h0 h1
  refine ⟨_, _, v, rfl, rfl, hv, ?_⟩
  exact rt1 (h a b c v hw hm)
end
end Toss
namespace Toss
open PySem PySem.Spec PyProof.Rows L2 TD He
theorem inD_ints (v : Int) : ∀ ns : List Int, inD (.int v) (ns.map D.int) = some (decide (v ∈ ns))
  | [] => rfl
  | n :: ns => by
    rw [List.map_cons]
    unfold inD
    rw [inD_ints v ns]
    have e : eqF (.int n) (.int v) = some (decide (n = v)) := by
      simp [eqF, fl, flatV, eqV]
      rw [Bool.eq_iff_iff]; simp
    rw [e]
    show some (_ || _) = _
    congr 1
    rw [Bool.eq_iff_iff]
    simp
    constructor
    · rintro (h | h)
      · exact .inl h.symm
      · exact .inr h
    · rintro (h | h)
      · exact .inl h.symm
      · exact .inr h
/-- while a round is walked: F0 what stood at its start -/
structure Jr (ps : List (Int × Int)) (n j : Nat) (fs : List Int) : Prop where
  nd : fs.Nodup
  z : (0 : Int) ∈ fs
  re : ∀ v ∈ fs, Reach ps 0 v
  st : n < fs.length ∨ (n ≤ fs.length ∧ ∀ i x y, i < j → ps[i]? = some (x, y) → (x ∈ fs ↔ y ∈ fs))
theorem reach_rng {ps : List (Int × Int)} (hr : ∀ q ∈ ps, 0 ≤ q.1 ∧ q.1 < q.2 ∧ q.2 ≤ 5) {v : Int} (h : Reach ps 0 v) : 0 ≤ v ∧ v ≤ 5 := by
  have := reach_in h
  rcases List.mem_cons.mp this with e | h
  · omega
  · rcases List.mem_append.mp h with h | h
    · obtain ⟨q, hq, rfl⟩ := List.mem_map.mp h
      have := hr q hq; omega
    · obtain ⟨q, hq, rfl⟩ := List.mem_map.mp h
      have := hr q hq; omega
theorem reach_len {ps : List (Int × Int)} (hr : ∀ q ∈ ps, 0 ≤ q.1 ∧ q.1 < q.2 ∧ q.2 ≤ 5) {fs : List Int} (nd : fs.Nodup) (re : ∀ v ∈ fs, Reach ps 0 v) : fs.length ≤ 6 := by
  have := nodup_len nd (m := upTo 5) fun v hv => by
    rw [mem_upTo (by decide)]
    exact reach_rng hr (re v hv)
  have e := len_upTo (m := 5) (by decide)
  omega
theorem Jr.add {ps : List (Int × Int)} {n j : Nat} {fs : List Int} {v : Int} (h : Jr ps n j fs) (hv : v ∉ fs) (hr : Reach ps 0 v) (j' : Nat) : Jr ps n j' (fs ++ [v]) := by
  refine ⟨List.nodup_append.mpr ⟨h.nd, by simp, fun x hx y hy e => ?_⟩, List.mem_append_left _ h.z, fun x hx => ?_, .inl ?_⟩
  · rw [List.mem_singleton.mp hy] at e
    exact hv (e ▸ hx)
  · rcases List.mem_append.mp hx with hx | hx
    · exact h.re x hx
    · rw [List.mem_singleton.mp hx]; exact hr
  · have := h.st
    simp
    omega
/-- between two rounds -/
structure Jw (ps : List (Int × Int)) (i : Nat) (fs : List Int) : Prop where
  nd : fs.Nodup
  z : (0 : Int) ∈ fs
  re : ∀ v ∈ fs, Reach ps 0 v
  st : i < fs.length ∨ ∀ x y, (x, y) ∈ ps → (x ∈ fs ↔ y ∈ fs)
section
variable {P : Program} {w : World} {K : PySem.W.Frag} {mg : Str → Option Value} {base : Heap}
def d_joined : DSp := fun as Pc _ => ∃ ps : List (Int × Int), as = [.fr (.tup (ps.map TD.prD))] ∧ (∀ q ∈ ps, 0 ≤ q.1 ∧ q.1 < q.2 ∧ q.2 ≤ 5) ∧ ∀ ks : List Int, ks.Nodup → (∀ v, v ∈ ks ↔ Reach ps 0 v) → Pc [] (.fr (.lst (ks.map D.int)))
theorem ok_joined (V : Ev K mg) : DefOk P w K mg base 1 "_law_joined" ["_law_paths_here"] d_joined := by
  refine V.D__law_joined.ok sc__law_joined 0 (fun as Pc Xc ⟨ps, e, _⟩ => by subst e; exact ⟨rfl, rfl⟩) ?_
  intro f cdv A outer s H E B as Pc Xc h hB hr tk hp
  refine ⟨_, ((dss_cons (ds_set (i := 1) sc__law_joined.nd (de_lstO (da_cons de_int da_nil))) (dss_cons (ds_for hp (di_range1 V.g_range (da_cons de_int da_nil)) (dg_name 2 sc__law_joined.nd) (dss_gc (dss_one (ds_for hp (di_tup (dv 0)) (dg_tup (dgs_cons (dg_name 3 sc__law_joined.nd) (dgs_cons (dg_name 4 sc__law_joined.nd) dgs_nil))) (dss_gc (dss_one (ds_if (dt_neS (de_in (dv 3) (dv 1)) (de_in (dv 4) (dv 1))) (dss_one (ds_expr (de_append (dv 1) (da_cons (de_sub (de_add (dv 3) (dv 4)) (de_ix (de_lc sc__law_joined.nd [("_law_here", 5)] (di_tup (de_tup (da_cons (dv 3) (da_cons (dv 4) da_nil)))) (fun _ _ _ _ _ => (dg_name 5 sc__law_joined.nd)) (fun _ _ _ _ _ => (dts_one (dt_in (dv 5) (dv 1)))) (fun _ _ _ _ _ => (dv 5))) de_int)) da_nil)))) dss_nil))))))) (dss_one (ds_ret (de_frz hB (dv 1))))))), ?_⟩
  obtain ⟨ps, rfl, hps, h⟩ := h
  (repeat (first | refine ⟨_, rfl, Nat.le_of_ble_eq_true rfl, ?_⟩ | refine ⟨_, rfl, ?_⟩ | refine ⟨_, _, rfl, ?_⟩ | refine ⟨_, _, rfl, rfl, ?_⟩ | refine ⟨_, _, _, rfl, rfl, rfl, ?_⟩ | refine ⟨_, _, _, rfl, rfl, by (first | exact kb_NoneType_int | exact kb_bool_int | exact kb_int_int | exact kb_str_int | exact kb_tuple_int | exact kb_list_int | exact kb_dict_int | exact kb_NoneType_bool | exact kb_bool_bool | exact kb_int_bool | exact kb_str_bool | exact kb_tuple_bool | exact kb_list_bool | exact kb_dict_bool | exact kb_NoneType_tuple | exact kb_bool_tuple | exact kb_int_tuple | exact kb_str_tuple | exact kb_tuple_tuple | exact kb_list_tuple | exact kb_dict_tuple), ?_⟩ | refine ⟨_, _, _, _, _, rfl, rfl, rfl, rfl, rfl, ?_⟩ | refine iteT ?_ | refine iteF ?_ | refine ⟨(by decide : List.Nodup _), ?_⟩ | refine ⟨rfl, ?_⟩))
  refine ⟨by decide, by decide, ?_⟩
  refine ⟨fun i S => ∃ fs ds s2 s3 s4, S = ⟨[some (.fr (.tup (ps.map TD.prD))), some (.cell 0), s2, s3, s4, none], [some (.lst ds)]⟩ ∧ ds = fs.map D.int ∧ Jw ps i fs,
    ⟨[0], _, none, none, none, rfl, rfl, ⟨by simp, by simp, fun v hv => by rw [List.mem_singleton.mp hv]; exact .refl, .inl (by simp)⟩⟩, ?_, ?_⟩
  · rintro i d S1 hd ⟨fs, _, s2, s3, s4, rfl, rfl, hw⟩
    obtain ⟨hi, rfl⟩ := rngD_get hd
    (repeat (first | refine ⟨_, rfl, Nat.le_of_ble_eq_true rfl, ?_⟩ | refine ⟨_, rfl, ?_⟩ | refine ⟨_, _, rfl, ?_⟩ | refine ⟨_, _, rfl, rfl, ?_⟩ | refine ⟨_, _, _, rfl, rfl, rfl, ?_⟩ | refine ⟨_, _, _, rfl, rfl, by (first | exact kb_NoneType_int | exact kb_bool_int | exact kb_int_int | exact kb_str_int | exact kb_tuple_int | exact kb_list_int | exact kb_dict_int | exact kb_NoneType_bool | exact kb_bool_bool | exact kb_int_bool | exact kb_str_bool | exact kb_tuple_bool | exact kb_list_bool | exact kb_dict_bool | exact kb_NoneType_tuple | exact kb_bool_tuple | exact kb_int_tuple | exact kb_str_tuple | exact kb_tuple_tuple | exact kb_list_tuple | exact kb_dict_tuple), ?_⟩ | refine ⟨_, _, _, _, _, rfl, rfl, rfl, rfl, rfl, ?_⟩ | refine iteT ?_ | refine iteF ?_ | refine ⟨(by decide : List.Nodup _), ?_⟩ | refine ⟨rfl, ?_⟩))
    refine ⟨fun j S => ∃ fs' ds s3 s4, S = ⟨[some (.fr (.tup (ps.map TD.prD))), some (.cell 0), some (.fr (.int (0 + (i : Nat)))), s3, s4, none], [some (.lst ds)]⟩ ∧ ds = fs'.map D.int ∧ Jr ps fs.length j fs',
      ⟨fs, _, s3, s4, rfl, rfl, ⟨hw.nd, hw.z, hw.re, .inr ⟨Nat.le_refl _, fun i x y h => by omega⟩⟩⟩, ?_, ?_⟩
    · rintro j d S1 hd ⟨gs, _, s3, s4, rfl, rfl, hj⟩
      rw [List.getElem?_map] at hd
      obtain ⟨⟨x, y⟩, hq, rfl⟩ : ∃ q, ps[j]? = some q ∧ TD.prD q = d := by
        cases e : ps[j]? with
        | none => rw [e] at hd; cases hd
        | some t => rw [e] at hd; cases hd; exact ⟨t, rfl, rfl⟩
      have hqm : (x, y) ∈ ps := List.mem_of_getElem? hq
      (repeat (first | refine ⟨_, rfl, Nat.le_of_ble_eq_true rfl, ?_⟩ | refine ⟨_, rfl, ?_⟩ | refine ⟨_, _, rfl, ?_⟩ | refine ⟨_, _, rfl, rfl, ?_⟩ | refine ⟨_, _, _, rfl, rfl, rfl, ?_⟩ | refine ⟨_, _, _, rfl, rfl, by (first | exact kb_NoneType_int | exact kb_bool_int | exact kb_int_int | exact kb_str_int | exact kb_tuple_int | exact kb_list_int | exact kb_dict_int | exact kb_NoneType_bool | exact kb_bool_bool | exact kb_int_bool | exact kb_str_bool | exact kb_tuple_bool | exact kb_list_bool | exact kb_dict_bool | exact kb_NoneType_tuple | exact kb_bool_tuple | exact kb_int_tuple | exact kb_str_tuple | exact kb_tuple_tuple | exact kb_list_tuple | exact kb_dict_tuple), ?_⟩ | refine ⟨_, _, _, _, _, rfl, rfl, rfl, rfl, rfl, ?_⟩ | refine iteT ?_ | refine iteF ?_ | refine ⟨(by decide : List.Nodup _), ?_⟩ | refine ⟨rfl, ?_⟩))
      refine ⟨_, _, _, rfl, rfl, inD_ints _ _, ?_⟩
      (repeat (first | refine ⟨_, rfl, Nat.le_of_ble_eq_true rfl, ?_⟩ | refine ⟨_, rfl, ?_⟩ | refine ⟨_, _, rfl, ?_⟩ | refine ⟨_, _, rfl, rfl, ?_⟩ | refine ⟨_, _, _, rfl, rfl, rfl, ?_⟩ | refine ⟨_, _, _, rfl, rfl, by (first | exact kb_NoneType_int | exact kb_bool_int | exact kb_int_int | exact kb_str_int | exact kb_tuple_int | exact kb_list_int | exact kb_dict_int | exact kb_NoneType_bool | exact kb_bool_bool | exact kb_int_bool | exact kb_str_bool | exact kb_tuple_bool | exact kb_list_bool | exact kb_dict_bool | exact kb_NoneType_tuple | exact kb_bool_tuple | exact kb_int_tuple | exact kb_str_tuple | exact kb_tuple_tuple | exact kb_list_tuple | exact kb_dict_tuple), ?_⟩ | refine ⟨_, _, _, _, _, rfl, rfl, rfl, rfl, rfl, ?_⟩ | refine iteT ?_ | refine iteF ?_ | refine ⟨(by decide : List.Nodup _), ?_⟩ | refine ⟨rfl, ?_⟩))
      refine ⟨_, _, _, rfl, rfl, inD_ints _ _, ?_⟩
      refine ⟨_, _, _, _, rfl, rfl, rfl, rfl, rfl, _, rfl, ?_⟩
      rw [if_pos rfl, if_neg Bool.false_ne_true, if_neg Bool.false_ne_true]
      refine ite2 (fun hc => ?_) (fun hc => ?_)
      · have hne : ¬ (x ∈ gs ↔ y ∈ gs) := fun e => by
          have e2 : (decide (x ∈ gs)) = decide (y ∈ gs) := by simp [e]
          rw [e2] at hc
          simp at hc
        iterate 8 (first | refine ⟨_, rfl, Nat.le_of_ble_eq_true rfl, ?_⟩ | refine ⟨_, rfl, ?_⟩ | refine ⟨_, _, rfl, ?_⟩ | refine ⟨_, _, rfl, rfl, ?_⟩ | refine ⟨_, _, _, rfl, rfl, rfl, ?_⟩ | refine ⟨_, _, _, rfl, rfl, by (first | exact kb_NoneType_int | exact kb_bool_int | exact kb_int_int | exact kb_str_int | exact kb_tuple_int | exact kb_list_int | exact kb_dict_int | exact kb_NoneType_bool | exact kb_bool_bool | exact kb_int_bool | exact kb_str_bool | exact kb_tuple_bool | exact kb_list_bool | exact kb_dict_bool | exact kb_NoneType_tuple | exact kb_bool_tuple | exact kb_int_tuple | exact kb_str_tuple | exact kb_tuple_tuple | exact kb_list_tuple | exact kb_dict_tuple), ?_⟩ | refine ⟨_, _, _, _, _, rfl, rfl, rfl, rfl, rfl, ?_⟩ | refine iteT ?_ | refine iteF ?_ | refine ⟨(by decide : List.Nodup _), ?_⟩ | refine ⟨rfl, ?_⟩)
        refine ⟨_, rfl, ?_⟩
        refine lc_filter (ds := [D.int x, D.int y]) (fun d => match d with | .int v => if v ∈ gs then some (.int v) else none | _ => none) (by show 2 < 1000000; omega) (fun d acc Q Q' hd hQ => ?_) ?_
        · have hd' : ∃ v, d = .int v := by
            rcases List.mem_cons.mp hd with e | hd
            · exact ⟨_, e⟩
            · rw [List.mem_singleton.mp hd]; exact ⟨_, rfl⟩
          obtain ⟨v, rfl⟩ := hd'
          (repeat (first | refine ⟨_, rfl, Nat.le_of_ble_eq_true rfl, ?_⟩ | refine ⟨_, rfl, ?_⟩ | refine ⟨_, _, rfl, ?_⟩ | refine ⟨_, _, rfl, rfl, ?_⟩ | refine ⟨_, _, _, rfl, rfl, rfl, ?_⟩ | refine ⟨_, _, _, rfl, rfl, by (first | exact kb_NoneType_int | exact kb_bool_int | exact kb_int_int | exact kb_str_int | exact kb_tuple_int | exact kb_list_int | exact kb_dict_int | exact kb_NoneType_bool | exact kb_bool_bool | exact kb_int_bool | exact kb_str_bool | exact kb_tuple_bool | exact kb_list_bool | exact kb_dict_bool | exact kb_NoneType_tuple | exact kb_bool_tuple | exact kb_int_tuple | exact kb_str_tuple | exact kb_tuple_tuple | exact kb_list_tuple | exact kb_dict_tuple), ?_⟩ | refine ⟨_, _, _, _, _, rfl, rfl, rfl, rfl, rfl, ?_⟩ | refine iteT ?_ | refine iteF ?_ | refine ⟨(by decide : List.Nodup _), ?_⟩ | refine ⟨rfl, ?_⟩))
          refine ⟨_, _, _, rfl, rfl, inD_ints _ _, ?_⟩
          refine ⟨_, rfl, ?_⟩
          refine ite2 (fun hv => ?_) (fun hv => ?_)
          · have hv' : v ∈ gs := by simpa using hv
            (repeat (first | refine ⟨_, rfl, Nat.le_of_ble_eq_true rfl, ?_⟩ | refine ⟨_, rfl, ?_⟩ | refine ⟨_, _, rfl, ?_⟩ | refine ⟨_, _, rfl, rfl, ?_⟩ | refine ⟨_, _, _, rfl, rfl, rfl, ?_⟩ | refine ⟨_, _, _, rfl, rfl, by (first | exact kb_NoneType_int | exact kb_bool_int | exact kb_int_int | exact kb_str_int | exact kb_tuple_int | exact kb_list_int | exact kb_dict_int | exact kb_NoneType_bool | exact kb_bool_bool | exact kb_int_bool | exact kb_str_bool | exact kb_tuple_bool | exact kb_list_bool | exact kb_dict_bool | exact kb_NoneType_tuple | exact kb_bool_tuple | exact kb_int_tuple | exact kb_str_tuple | exact kb_tuple_tuple | exact kb_list_tuple | exact kb_dict_tuple), ?_⟩ | refine ⟨_, _, _, _, _, rfl, rfl, rfl, rfl, rfl, ?_⟩ | refine iteT ?_ | refine iteF ?_ | refine ⟨(by decide : List.Nodup _), ?_⟩ | refine ⟨rfl, ?_⟩))
            exact (hQ _ rfl).1 _ (by simp only [if_pos hv'])
          · have hv' : v ∉ gs := by simpa using hv
            exact (hQ _ rfl).2 (by simp only [if_neg hv'])
        · have hst : ∃ u v : Int, u ∈ gs ∧ v ∉ gs ∧ Adj ps u v ∧ x + y - u = v ∧ ([D.int x, D.int y]).filterMap (fun d => match d with | .int v => if v ∈ gs then some (.int v) else none | _ => none) = [D.int u] := by
            by_cases hx : x ∈ gs
            · have hy : y ∉ gs := fun hy => hne ⟨fun _ => hy, fun _ => hx⟩
              exact ⟨x, y, hx, hy, .inl hqm, by omega, by simp [List.filterMap_cons, hx, hy]⟩
            · have hy : y ∈ gs := by
                by_cases hy : y ∈ gs
                · exact hy
                · exact absurd ⟨fun z => absurd z hx, fun z => absurd z hy⟩ hne
              exact ⟨y, x, hy, hx, .inr hqm, by omega, by simp [List.filterMap_cons, hx, hy]⟩
          obtain ⟨u, v, hu, hv, ha, ev, ef⟩ := hst
          rw [ef]
          have hlen : gs.length ≤ 6 := reach_len hps hj.nd hj.re
          refine ⟨_, _, _, rfl, rfl, rfl, ?_⟩
          (repeat (first | refine ⟨_, rfl, Nat.le_of_ble_eq_true rfl, ?_⟩ | refine ⟨_, rfl, ?_⟩ | refine ⟨_, _, rfl, ?_⟩ | refine ⟨_, _, rfl, rfl, ?_⟩ | refine ⟨_, _, _, rfl, rfl, rfl, ?_⟩ | refine ⟨_, _, _, rfl, rfl, by (first | exact kb_NoneType_int | exact kb_bool_int | exact kb_int_int | exact kb_str_int | exact kb_tuple_int | exact kb_list_int | exact kb_dict_int | exact kb_NoneType_bool | exact kb_bool_bool | exact kb_int_bool | exact kb_str_bool | exact kb_tuple_bool | exact kb_list_bool | exact kb_dict_bool | exact kb_NoneType_tuple | exact kb_bool_tuple | exact kb_int_tuple | exact kb_str_tuple | exact kb_tuple_tuple | exact kb_list_tuple | exact kb_dict_tuple), ?_⟩ | refine ⟨_, _, _, _, _, rfl, rfl, rfl, rfl, rfl, ?_⟩ | refine iteT ?_ | refine iteF ?_ | refine ⟨(by decide : List.Nodup _), ?_⟩ | refine ⟨rfl, ?_⟩))
          refine ⟨by simp; omega, ?_⟩
          refine ⟨gs ++ [v], _, _, _, rfl, ?_, hj.add hv (.step (hj.re u hu) ha) _⟩
          rw [List.map_append, ← ev]
          rfl
      · have hiff : x ∈ gs ↔ y ∈ gs := by
          simpa using hc
        refine ⟨gs, _, _, _, rfl, rfl, ⟨hj.nd, hj.z, hj.re, ?_⟩⟩
        rcases hj.st with h1 | ⟨h1, h2⟩
        · exact .inl h1
        · refine .inr ⟨h1, fun i' x' y' hi' hq' => ?_⟩
          by_cases e : i' = j
          · subst e
            rw [hq] at hq'
            cases hq'
            exact hiff
          · exact h2 i' x' y' (by omega) hq'
    · rintro S1 ⟨gs, _, s3, s4, rfl, rfl, hj⟩
      rw [List.length_map] at hj
      refine ⟨gs, _, _, _, _, rfl, rfl, ⟨hj.nd, hj.z, hj.re, ?_⟩⟩
      rcases hj.st with h1 | ⟨h1, h2⟩
      · rcases hw.st with h3 | h3
        · exact .inl (by omega)
        · exfalso
          have hall : ∀ v, Reach ps 0 v → v ∈ fs := fun v hv => by
            induction hv with
            | refl => exact hw.z
            | step _ a ih =>
              rcases a with a | a
              · exact (h3 _ _ a).mp ih
              · exact (h3 _ _ a).mpr ih
          have := nodup_len hj.nd (m := fs) fun v hv => hall v (hj.re v hv)
          omega
      · refine .inr fun x y hq => ?_
        obtain ⟨k, hk⟩ := List.getElem?_of_mem hq
        exact h2 k x y (List.getElem?_eq_some_iff.mp hk).1 hk
  · rintro S1 ⟨fs, _, s2, s3, s4, rfl, rfl, hw⟩
    have hl := reach_len hps hw.nd hw.re
    have clo : ∀ x y, (x, y) ∈ ps → (x ∈ fs ↔ y ∈ fs) := by
      rcases hw.st with h1 | h1
      · rw [rngD_length] at h1
        have : (6 : Int).toNat = 6 := rfl
        omega
      · exact h1
    (repeat (first | refine ⟨_, rfl, Nat.le_of_ble_eq_true rfl, ?_⟩ | refine ⟨_, rfl, ?_⟩ | refine ⟨_, _, rfl, ?_⟩ | refine ⟨_, _, rfl, rfl, ?_⟩ | refine ⟨_, _, _, rfl, rfl, rfl, ?_⟩ | refine ⟨_, _, _, rfl, rfl, by (first | exact kb_NoneType_int | exact kb_bool_int | exact kb_int_int | exact kb_str_int | exact kb_tuple_int | exact kb_list_int | exact kb_dict_int | exact kb_NoneType_bool | exact kb_bool_bool | exact kb_int_bool | exact kb_str_bool | exact kb_tuple_bool | exact kb_list_bool | exact kb_dict_bool | exact kb_NoneType_tuple | exact kb_bool_tuple | exact kb_int_tuple | exact kb_str_tuple | exact kb_tuple_tuple | exact kb_list_tuple | exact kb_dict_tuple), ?_⟩ | refine ⟨_, _, _, _, _, rfl, rfl, rfl, rfl, rfl, ?_⟩ | refine iteT ?_ | refine iteF ?_ | refine ⟨(by decide : List.Nodup _), ?_⟩ | refine ⟨rfl, ?_⟩))
    refine ⟨_, _, rfl, Nat.zero_le _, rfl, ?_⟩
    refine rt0 (h fs hw.nd fun v => ⟨hw.re v, fun hv => ?_⟩)
    induction hv with
    | refl => exact hw.z
    | step _ a ih =>
      rcases a with a | a
      · exact (clo _ _ a).mp ih
      · exact (clo _ _ a).mpr ih
end
end Toss
namespace Toss
open PySem PySem.Spec PyProof.Rows L2 TD He
/-! ### which part is wrong -/
def IsPt (p : D) : Prop := ∃ ps : List (Int × Int), p = .tup (ps.map TD.prD) ∧ PathsOk ps
def RdOk (r : D) (qs : List (Int × Int)) (m : Int) : Prop := ∃ rd, r = TD.prD rd ∧ isPairB r 0 m (-20) 20 = true ∧ ∀ q ∈ qs, q.1 ≠ rd.1
/-- what is told -/
def Tl (c p y r w : D) : Prop := (isPairB c 1 9 1 9 = false ∧ w = .str "coin") ∨ (isPairB c 1 9 1 9 = true ∧ ¬ IsPt p ∧ w = .str "paths") ∨
  (isPairB c 1 9 1 9 = true ∧ ∃ ps m, p = .tup (ps.map TD.prD) ∧ PathsOk ps ∧ IsMx ps m ∧ ((arePaysB y (m + 1) = false ∧ w = .str "pays") ∨
    (arePaysB y (m + 1) = true ∧ ∃ qs : List (Int × Int), y = .tup (qs.map TD.prD) ∧ ((RdOk r qs m ∧ w = .non) ∨ (¬ RdOk r qs m ∧ w = .str "road")))))
theorem IsMx.uniq {ps : List (Int × Int)} {m n : Int} (h : IsMx ps m) (h' : IsMx ps n) : m = n := by
  obtain ⟨⟨q, hq, e⟩, hl⟩ := h
  obtain ⟨⟨q', hq', e'⟩, hl'⟩ := h'
  have := hl q' hq'
  have := hl' q hq
  omega
section
variable {c p y r w : D} {ps qs : List (Int × Int)} {m : Int}
theorem Tl.coin (h : Tl c p y r w) (hc : isPairB c 1 9 1 9 = false) : w = .str "coin" := by
  rcases h with h | h | h
  · exact h.2
  · rw [hc] at h; cases h.1
  · rw [hc] at h; cases h.1
theorem Tl.paths (h : Tl c p y r w) (hc : isPairB c 1 9 1 9 = true) (hp : ¬ IsPt p) : w = .str "paths" := by
  rcases h with h | h | ⟨_, ps, m, e, ok, _⟩
  · rw [hc] at h; cases h.1
  · exact h.2.2
  · exact absurd ⟨ps, e, ok⟩ hp
theorem Tl.rest (h : Tl c p y r w) (hc : isPairB c 1 9 1 9 = true) (e : p = .tup (ps.map TD.prD)) (ok : PathsOk ps) (hm : IsMx ps m) :
    ((arePaysB y (m + 1) = false ∧ w = .str "pays") ∨ (arePaysB y (m + 1) = true ∧ ∃ qs : List (Int × Int), y = .tup (qs.map TD.prD) ∧ ((RdOk r qs m ∧ w = .non) ∨ (¬ RdOk r qs m ∧ w = .str "road")))) := by
  rcases h with h | h | ⟨_, ps', m', e', ok', hm', h⟩
  · rw [hc] at h; cases h.1
  · exact absurd ⟨ps, e, ok⟩ h.2.1
  · have e2 := prs_inj (D.tup.inj (e.symm.trans e'))
    subst e2
    have e3 := hm.uniq hm'
    subst e3
    exact h
theorem Tl.pays (h : Tl c p y r w) (hc : isPairB c 1 9 1 9 = true) (e : p = .tup (ps.map TD.prD)) (ok : PathsOk ps) (hm : IsMx ps m) (hy : arePaysB y (m + 1) = false) : w = .str "pays" := by
  rcases h.rest hc e ok hm with h | ⟨h, _⟩
  · exact h.2
  · rw [hy] at h; cases h
theorem Tl.fin (h : Tl c p y r w) (hc : isPairB c 1 9 1 9 = true) (e : p = .tup (ps.map TD.prD)) (ok : PathsOk ps) (hm : IsMx ps m) (hy : arePaysB y (m + 1) = true) (ey : y = .tup (qs.map TD.prD)) :
    (RdOk r qs m → w = .non) ∧ (¬ RdOk r qs m → w = .str "road") := by
  rcases h.rest hc e ok hm with h | ⟨_, qs', e', h⟩
  · rw [hy] at h; cases h.1
  · have e2 := prs_inj (D.tup.inj (ey.symm.trans e'))
    subst e2
    rcases h with h | h
    · exact ⟨fun _ => h.2, fun z => absurd h.1 z⟩
    · exact ⟨fun z => absurd z h.1, fun _ => h.2⟩
end
/-- a value that may stand for a part -/
structure Fit (d : D) : Prop where
  gd : GoodD d
  gp : GoodP d
  few : ∀ ds, d = .tup ds → ds.length < 60
  py : ∀ ds, d = .tup ds → ∃ xs, pyDs ds = some xs ∧ SeqAt.shaped (.tuple xs) = true
theorem mx_ex : ∀ {ps : List (Int × Int)}, ps ≠ [] → ∃ m, IsMx ps m
  | [], h => absurd rfl h
  | [q], _ => ⟨q.2, ⟨q, by simp, rfl⟩, fun z hz => by rw [List.mem_singleton.mp hz]; exact Int.le_refl _⟩
  | q :: q2 :: ps, _ => by
    obtain ⟨m, ⟨z, hz, e⟩, hl⟩ := mx_ex (ps := q2 :: ps) (by simp)
    by_cases h : q.2 ≤ m
    · exact ⟨m, ⟨z, List.mem_cons_of_mem _ hz, e⟩, fun a ha => by
        rcases List.mem_cons.mp ha with rfl | ha
        · exact h
        · exact hl a ha⟩
    · exact ⟨q.2, ⟨q, by simp, rfl⟩, fun a ha => by
        rcases List.mem_cons.mp ha with rfl | ha
        · exact Int.le_refl _
        · have := hl a ha; omega⟩
theorem prs_of_all {lo hi le mo : Int} : ∀ (l : List D), (∀ x ∈ l, isPairB x lo hi le mo = true) → ∃ qs : List (Int × Int), l = qs.map TD.prD ∧ ∀ q ∈ qs, lo ≤ q.1 ∧ q.1 ≤ hi ∧ le ≤ q.2 ∧ q.2 ≤ mo
  | [], _ => ⟨[], rfl, by simp⟩
  | x :: l, h => by
    obtain ⟨qs, e, hq⟩ := prs_of_all l fun z hz => h z (List.mem_cons_of_mem _ hz)
    obtain ⟨i, j, ex, h1⟩ := isPair_form (h x List.mem_cons_self)
    refine ⟨(i, j) :: qs, by rw [List.map_cons, ← e, ex], fun q hq' => ?_⟩
    rcases List.mem_cons.mp hq' with rfl | hq'
    · exact h1
    · exact hq q hq'
theorem pays_form {y : D} {n : Int} (h : arePaysB y n = true) : ∃ qs : List (Int × Int), y = .tup (qs.map TD.prD) := by
  cases y with
  | tup ds =>
    have h2 : (ds.all (fun x => isPairB x 0 (n - 1) (-20) 20) && upB ds) = true := h
    rw [Bool.and_eq_true] at h2
    obtain ⟨qs, e, _⟩ := prs_of_all ds (List.all_eq_true.mp h2.1)
    exact ⟨qs, by rw [e]⟩
  | _ => cases h
theorem tl_ex (c p y r : D) : ∃ w, Tl c p y r w := by
  cases hc : isPairB c 1 9 1 9 with
  | false => exact ⟨_, .inl ⟨hc, rfl⟩⟩
  | true =>
    by_cases hp : IsPt p
    · obtain ⟨ps, e, ok⟩ := hp
      obtain ⟨m, hm⟩ := mx_ex ok.ne
      cases hy : arePaysB y (m + 1) with
      | false => exact ⟨_, .inr (.inr ⟨hc, ps, m, e, ok, hm, .inl ⟨hy, rfl⟩⟩)⟩
      | true =>
        obtain ⟨qs, ey⟩ := pays_form hy
        by_cases hr : RdOk r qs m
        · exact ⟨_, .inr (.inr ⟨hc, ps, m, e, ok, hm, .inr ⟨hy, qs, ey, .inl ⟨hr, rfl⟩⟩⟩)⟩
        · exact ⟨_, .inr (.inr ⟨hc, ps, m, e, ok, hm, .inr ⟨hy, qs, ey, .inr ⟨hr, rfl⟩⟩⟩)⟩
    · exact ⟨_, .inr (.inl ⟨hc, hp, rfl⟩)⟩
theorem ext_sorted {α : Type} {r : α → α → Prop} (asym : ∀ a b, r a b → ¬ r b a) : ∀ {l m : List α}, l.Pairwise r → m.Pairwise r → (∀ x, x ∈ l ↔ x ∈ m) → l = m
  | [], [], _, _, _ => rfl
  | [], b :: m, _, _, h => by have := (h b).mpr List.mem_cons_self; cases this
  | a :: l, [], _, _, h => by have := (h a).mp List.mem_cons_self; cases this
  | a :: l, b :: m, hl, hm, h => by
    have hl' := List.pairwise_cons.mp hl
    have hm' := List.pairwise_cons.mp hm
    have e : a = b := by
      rcases List.mem_cons.mp ((h a).mp List.mem_cons_self) with e | h1
      · exact e
      · rcases List.mem_cons.mp ((h b).mpr List.mem_cons_self) with e | h2
        · exact e.symm
        · exact absurd (hl'.1 b h2) (asym _ _ (hm'.1 a h1))
    subst e
    rw [ext_sorted asym hl'.2 hm'.2 fun x => ⟨fun hx => ?_, fun hx => ?_⟩]
    · rcases List.mem_cons.mp ((h x).mp (List.mem_cons_of_mem _ hx)) with e | h1
      · subst e; exact absurd (hl'.1 x hx) (asym _ _ (hl'.1 x hx))
      · exact h1
    · rcases List.mem_cons.mp ((h x).mpr (List.mem_cons_of_mem _ hx)) with e | h1
      · subst e; exact absurd (hm'.1 x hx) (asym _ _ (hm'.1 x hx))
      · exact h1
theorem lex_ltP (p q : Int × Int) : HT.lexLt [p.1, p.2] [q.1, q.2] = true ↔ TD.LtP p q := by
  rw [HT.lexLt_cons, HT.lexLt_cons]
  unfold TD.LtP
  by_cases e : p.1 = q.1
  · rw [if_pos e]
    by_cases e2 : p.2 = q.2
    · rw [if_pos e2]
      constructor
      · intro h; cases h
      · intro h; omega
    · rw [if_neg e2]
      rw [decide_eq_true_eq]
      omega
  · rw [if_neg e, decide_eq_true_eq]
    omega
theorem ltP_trans {a b c : Int × Int} (h : TD.LtP a b) (h' : TD.LtP b c) : TD.LtP a c := by
  unfold TD.LtP at *
  omega
/-- pairs next to each other in order: all in order -/
theorem ltL_iff : ∀ {ps : List (Int × Int)}, ltL ps = true ↔ ps.Pairwise TD.LtP
  | [] => by simp [ltL]
  | [q] => by simp [ltL]
  | p :: q :: ps => by
    have ih := ltL_iff (ps := q :: ps)
    have e : ltL (p :: q :: ps) = (HT.lexLt [p.1, p.2] [q.1, q.2] && ltL (q :: ps)) := by
      unfold ltL
      simp
    rw [e, Bool.and_eq_true, ih, lex_ltP, List.pairwise_cons (a := p)]
    constructor
    · rintro ⟨h1, h2⟩
      refine ⟨fun z hz => ?_, h2⟩
      rcases List.mem_cons.mp hz with rfl | hz
      · exact h1
      · exact ltP_trans h1 ((List.pairwise_cons.mp h2).1 z hz)
    · rintro ⟨h1, h2⟩
      exact ⟨h1 q List.mem_cons_self, h2⟩
theorem upB_iff : ∀ {qs : List (Int × Int)}, upB (qs.map TD.prD) = true ↔ (qs.map (·.1)).Pairwise (· < ·)
  | [] => by simp [upB]
  | [q] => by simp [upB]
  | p :: q :: qs => by
    have ih := upB_iff (qs := q :: qs)
    have e : upB ((p :: q :: qs).map TD.prD) = (decide (p.1 < q.1) && upB ((q :: qs).map TD.prD)) := by
      rfl
    rw [e, Bool.and_eq_true, ih, decide_eq_true_eq]
    simp only [List.map_cons]
    rw [List.pairwise_cons (a := p.1)]
    constructor
    · rintro ⟨h1, h2⟩
      refine ⟨fun z hz => ?_, h2⟩
      rcases List.mem_cons.mp hz with rfl | hz
      · exact h1
      · have := (List.pairwise_cons.mp h2).1 z hz
        omega
    · rintro ⟨h1, h2⟩
      exact ⟨h1 _ (by simp), h2⟩
end Toss
namespace Toss
open PySem PySem.Spec PyProof.Rows L2 TD He
theorem eqv_tupnil (xs : List PyData) : PyData.eqv (.tuple xs) (.tuple []) = decide (xs = []) := by
  cases xs <;> simp [PyData.eqv, PyData.eqvAll]
theorem pyDs_nil {ds : List D} {xs : List PyData} (h : pyDs ds = some xs) : xs = [] ↔ ds = [] := by
  cases ds with
  | nil => cases h; simp
  | cons d ds =>
    obtain ⟨p, ps, rfl, _⟩ := pyDs_cons h
    simp
theorem tup_or {d : D} (h : GoodD d) : (∃ ds, d = .tup ds) ∨ ((∀ lo hi le mo, isPairB d lo hi le mo = false) ∧ ¬ IsPt d ∧ (∀ n, arePaysB d n = false) ∧ ∃ t, tyD d = some t ∧ kitB t "tuple" = some false) := by
  obtain ⟨k, hk⟩ := h.ty
  cases d with
  | tup ds => exact .inl ⟨ds, rfl⟩
  | non => exact .inr ⟨fun _ _ _ _ => rfl, (fun ⟨_, e, _⟩ => nomatch e), fun _ => rfl, _, rfl, kb_NoneType_tuple⟩
  | bl b => exact .inr ⟨fun _ _ _ _ => rfl, (fun ⟨_, e, _⟩ => nomatch e), fun _ => rfl, _, rfl, kb_bool_tuple⟩
  | int i => exact .inr ⟨fun _ _ _ _ => rfl, (fun ⟨_, e, _⟩ => nomatch e), fun _ => rfl, _, rfl, kb_int_tuple⟩
  | str x => exact .inr ⟨fun _ _ _ _ => rfl, (fun ⟨_, e, _⟩ => nomatch e), fun _ => rfl, _, rfl, kb_str_tuple⟩
  | lst ds => exact .inr ⟨fun _ _ _ _ => rfl, (fun ⟨_, e, _⟩ => nomatch e), fun _ => rfl, _, rfl, kb_list_tuple⟩
  | dic ks ds => exact .inr ⟨fun _ _ _ _ => rfl, (fun ⟨_, e, _⟩ => nomatch e), fun _ => rfl, _, rfl, kb_dict_tuple⟩
  | _ => cases hk
theorem isPair_len {ds : List D} {lo hi le mo : Int} (h : ds.length ≠ 2) : isPairB (.tup ds) lo hi le mo = false := by
  unfold isPairB
  split
  · rename_i x y e
    cases e
    exact absurd rfl h
  · rfl
theorem isPair_two {ds : List D} {lo hi : Int} (h : ds.length = 2) : isPairB (.tup ds) lo hi lo hi = (ds.map fun d => withinB d lo hi).all id := by
  match ds, h with
  | [x, y], _ => simp [isPairB]
theorem eqv_prsL (ps qs : List (Int × Int)) : PyData.eqv (.list (ps.map prP)) (.list (qs.map prP)) = decide (ps = qs) := by
  simp only [PyData.eqv, eqv_prs]
theorem eqvAll_ints : ∀ ns ms : List Int, PyData.eqvAll (ns.map PyData.int) (ms.map PyData.int) = decide (ns = ms)
  | [], [] => rfl
  | [], q :: qs => by simp [PyData.eqvAll]
  | p :: ps, [] => by simp [PyData.eqvAll]
  | p :: ps, q :: qs => by
    simp only [List.map_cons, PyData.eqvAll, eqv_int, eqvAll_ints ps qs]
    rw [Bool.eq_iff_iff]
    simp
theorem eqv_intsL (ns ms : List Int) : PyData.eqv (.list (ns.map PyData.int)) (.list (ms.map PyData.int)) = decide (ns = ms) := by
  simp only [PyData.eqv, eqvAll_ints]
theorem ltP_asym (a b : Int × Int) (h : TD.LtP a b) : ¬ TD.LtP b a := by
  unfold TD.LtP at *
  omega
section
variable {P : Program} {w : World} {K : PySem.W.Frag} {mg : Str → Option Value} {base : Heap}
def d_wrong : DSp := fun as Pc _ => ∃ c p y r m t, as = [.fr (drD c p y r m)] ∧ Fit c ∧ Fit p ∧ Fit y ∧ Fit r ∧ Tl c p y r t ∧ Pc [] (.fr t)
theorem ok_wrong (V : Ev K mg) (o__law_whole : DefOk P w K mg base 1 "_law_whole" ["_law_thing", "_law_low", "_law_high"] d_whole2) (o__law_joined : DefOk P w K mg base 1 "_law_joined" ["_law_paths_here"] d_joined) (o__law_pair : DefOk P w K mg base 2 "_law_pair" ["_law_thing", "_law_most"] d_pair2) : DefOk P w K mg base 6 "_law_wrong" ["_law_d"] d_wrong := by
  refine V.D__law_wrong.ok sc__law_wrong 0 (fun as Pc Xc ⟨c, p, y, r, m, t, e, _⟩ => by subst e; exact ⟨rfl, rfl⟩) ?_
  intro f cdv A outer s H E B as Pc Xc h hB hr tk hp
  refine ⟨_, ((dss_consN (ds_asg (de_tup (da_cons (de_dget (hu1 hr) (dv 0) de_str) (da_cons (de_dget (hu1 hr) (dv 0) de_str) (da_cons (de_dget (hu1 hr) (dv 0) de_str) (da_cons (de_dget (hu1 hr) (dv 0) de_str) da_nil))))) (dg_tup (dgs_cons (dg_name 1 sc__law_wrong.nd) (dgs_cons (dg_name 2 sc__law_wrong.nd) (dgs_cons (dg_name 3 sc__law_wrong.nd) (dgs_cons (dg_name 4 sc__law_wrong.nd) dgs_nil)))))) (dss_consN (ds_if (dt_or (dw_or (dt_not (dt_val (de_isi "tuple" V.g_isinstance (da_cons (dv 1) (da_cons (de_ty (T := "tuple") V.g_tuple) da_nil))))) (dw_or (dt_ne (hu64 hr) (de_len V.g_len (da_cons (dv 1) da_nil)) de_int) (dw_or1 (dt_not (dt_val (de_all V.g_all (da_cons (de_lc sc__law_wrong.nd [("_law_one", 7)] (di_tup (dv 1)) (fun _ _ _ _ _ => (dg_name 7 sc__law_wrong.nd)) (fun _ _ _ _ _ => dts_nil) (fun _ _ _ _ _ => (de_callD o__law_whole (L2.Room.mono hr (by decide)) takesF (da_cons (dv 7) (da_cons de_int (da_cons de_int da_nil)))))) da_nil)))))))) (dss_one (ds_ret de_str)) dss_nil) (dss_consN (ds_if (dt_or (dw_or (dt_not (dt_val (de_isi "tuple" V.g_isinstance (da_cons (dv 2) (da_cons (de_ty (T := "tuple") V.g_tuple) da_nil))))) (dw_or1 (dt_eq (hu64 hr) (dv 2) (de_tup da_nil))))) (dss_one (ds_ret de_str)) dss_nil) (dss_consN (ds_for hp (di_tup (dv 2)) (dg_name 5 sc__law_wrong.nd) (dss_gc (dss_one (ds_if (dt_or (dw_or (dt_not (dt_val (de_isi "tuple" V.g_isinstance (da_cons (dv 5) (da_cons (de_ty (T := "tuple") V.g_tuple) da_nil))))) (dw_or (dt_ne (hu64 hr) (de_len V.g_len (da_cons (dv 5) da_nil)) de_int) (dw_or1 (dt_not (dt_val (de_all V.g_all (da_cons (de_lc sc__law_wrong.nd [("_law_one", 7)] (di_tup (dv 5)) (fun _ _ _ _ _ => (dg_name 7 sc__law_wrong.nd)) (fun _ _ _ _ _ => dts_nil) (fun _ _ _ _ _ => (de_callD o__law_whole (L2.Room.mono hr (by decide)) takesF (da_cons (dv 7) (da_cons de_int (da_cons de_int da_nil)))))) da_nil)))))))) (dss_one (ds_ret de_str)) dss_nil)))) (dss_consN (ds_if (dt_or (dw_or (dt_val (de_any V.g_any (da_cons (de_lc sc__law_wrong.nd [("_law_one", 7), ("_law_mate", 8)] (di_tup (dv 2)) (fun _ _ _ _ _ => (dg_tup (dgs_cons (dg_name 7 sc__law_wrong.nd) (dgs_cons (dg_name 8 sc__law_wrong.nd) dgs_nil)))) (fun _ _ _ _ _ => dts_nil) (fun _ _ _ _ _ => (de_ge (dv 7) (dv 8)))) da_nil))) (dw_or1 (dt_ne (hu64 hr) (de_ss V.g_sorted V.g_set (hu64 hr) (dv 2)) (de_list V.g_list (da_cons (dv 2) da_nil)))))) (dss_one (ds_ret de_str)) dss_nil) (dss_consN (ds_set (i := 6) sc__law_wrong.nd (de_max V.g_max (da_cons (de_lc sc__law_wrong.nd [("_law_one", 7), ("_law_mate", 8)] (di_tup (dv 2)) (fun _ _ _ _ _ => (dg_tup (dgs_cons (dg_name 7 sc__law_wrong.nd) (dgs_cons (dg_name 8 sc__law_wrong.nd) dgs_nil)))) (fun _ _ _ _ _ => dts_nil) (fun _ _ _ _ _ => (dv 8))) da_nil))) (dss_consN (ds_if (dt_ne (hu64 hr) (de_len V.g_len (da_cons (de_callD o__law_joined (L2.Room.mono hr (by decide)) tk (da_cons (dv 2) da_nil)) da_nil)) (de_add (dv 6) de_int)) (dss_one (ds_ret de_str)) dss_nil) (dss_consN (ds_if (dt_or (dw_or (dt_not (dt_val (de_isi "tuple" V.g_isinstance (da_cons (dv 3) (da_cons (de_ty (T := "tuple") V.g_tuple) da_nil))))) (dw_or1 (dt_not (dt_val (de_all V.g_all (da_cons (de_lc sc__law_wrong.nd [("_law_pair_here", 5)] (di_tup (dv 3)) (fun _ _ _ _ _ => (dg_name 5 sc__law_wrong.nd)) (fun _ _ _ _ _ => dts_nil) (fun _ _ _ _ _ => (de_callD o__law_pair (L2.Room.mono hr (by decide)) takesF (da_cons (dv 5) (da_cons (dv 6) da_nil))))) da_nil))))))) (dss_one (ds_ret de_str)) dss_nil) (dss_consN (ds_if (dt_ne (hu64 hr) (de_lc sc__law_wrong.nd [("_law_pair_here", 5)] (di_tup (dv 3)) (fun _ _ _ _ _ => (dg_name 5 sc__law_wrong.nd)) (fun _ _ _ _ _ => dts_nil) (fun _ _ _ _ _ => (de_ix (dv 5) de_int))) (de_ss V.g_sorted V.g_set (hu64 hr) (de_lc sc__law_wrong.nd [("_law_pair_here", 5)] (di_tup (dv 3)) (fun _ _ _ _ _ => (dg_name 5 sc__law_wrong.nd)) (fun _ _ _ _ _ => dts_nil) (fun _ _ _ _ _ => (de_ix (dv 5) de_int))))) (dss_one (ds_ret de_str)) dss_nil) (dss_one (ds_ret (de_ifExp (dt_and (dw_and (dt_val (de_callD o__law_pair (L2.Room.mono hr (by decide)) tk (da_cons (dv 4) (da_cons (dv 6) da_nil)))) (dw_and1 (dt_dnotin (hu1 hr) (de_ix (dv 4) de_int) (de_dictT V.g_dict (da_cons (dv 3) da_nil)))))) de_non de_str))))))))))))), ?_⟩
  obtain ⟨c, p, y, r, m0, t, rfl, fc, fp, fy, fr, tl, h⟩ := h
  (repeat (first | refine ⟨_, rfl, Nat.le_of_ble_eq_true rfl, ?_⟩ | refine ⟨_, rfl, ?_⟩ | refine ⟨_, _, rfl, ?_⟩ | refine ⟨_, _, rfl, rfl, ?_⟩ | refine ⟨_, _, _, rfl, rfl, rfl, ?_⟩ | refine ⟨_, _, _, rfl, rfl, by (first | exact kb_NoneType_int | exact kb_bool_int | exact kb_int_int | exact kb_str_int | exact kb_tuple_int | exact kb_list_int | exact kb_dict_int | exact kb_NoneType_bool | exact kb_bool_bool | exact kb_int_bool | exact kb_str_bool | exact kb_tuple_bool | exact kb_list_bool | exact kb_dict_bool | exact kb_NoneType_tuple | exact kb_bool_tuple | exact kb_int_tuple | exact kb_str_tuple | exact kb_tuple_tuple | exact kb_list_tuple | exact kb_dict_tuple), ?_⟩ | refine ⟨_, _, _, _, _, rfl, rfl, rfl, rfl, rfl, ?_⟩ | refine iteT ?_ | refine iteF ?_ | refine ⟨(by decide : List.Nodup _), ?_⟩ | refine ⟨rfl, ?_⟩))
  refine ⟨_, _, _, _, _, rfl, rfl, rfl, rfl, ?_⟩
  (repeat (first | refine ⟨_, rfl, Nat.le_of_ble_eq_true rfl, ?_⟩ | refine ⟨_, rfl, ?_⟩ | refine ⟨_, _, rfl, ?_⟩ | refine ⟨_, _, rfl, rfl, ?_⟩ | refine ⟨_, _, _, rfl, rfl, rfl, ?_⟩ | refine ⟨_, _, _, rfl, rfl, by (first | exact kb_NoneType_int | exact kb_bool_int | exact kb_int_int | exact kb_str_int | exact kb_tuple_int | exact kb_list_int | exact kb_dict_int | exact kb_NoneType_bool | exact kb_bool_bool | exact kb_int_bool | exact kb_str_bool | exact kb_tuple_bool | exact kb_list_bool | exact kb_dict_bool | exact kb_NoneType_tuple | exact kb_bool_tuple | exact kb_int_tuple | exact kb_str_tuple | exact kb_tuple_tuple | exact kb_list_tuple | exact kb_dict_tuple), ?_⟩ | refine ⟨_, _, _, _, _, rfl, rfl, rfl, rfl, rfl, ?_⟩ | refine iteT ?_ | refine iteF ?_ | refine ⟨(by decide : List.Nodup _), ?_⟩ | refine ⟨rfl, ?_⟩))
  refine ⟨_, _, _, _, _, rfl, rfl, rfl, rfl, ?_⟩
  (repeat (first | refine ⟨_, rfl, Nat.le_of_ble_eq_true rfl, ?_⟩ | refine ⟨_, rfl, ?_⟩ | refine ⟨_, _, rfl, ?_⟩ | refine ⟨_, _, rfl, rfl, ?_⟩ | refine ⟨_, _, _, rfl, rfl, rfl, ?_⟩ | refine ⟨_, _, _, rfl, rfl, by (first | exact kb_NoneType_int | exact kb_bool_int | exact kb_int_int | exact kb_str_int | exact kb_tuple_int | exact kb_list_int | exact kb_dict_int | exact kb_NoneType_bool | exact kb_bool_bool | exact kb_int_bool | exact kb_str_bool | exact kb_tuple_bool | exact kb_list_bool | exact kb_dict_bool | exact kb_NoneType_tuple | exact kb_bool_tuple | exact kb_int_tuple | exact kb_str_tuple | exact kb_tuple_tuple | exact kb_list_tuple | exact kb_dict_tuple), ?_⟩ | refine ⟨_, _, _, _, _, rfl, rfl, rfl, rfl, rfl, ?_⟩ | refine iteT ?_ | refine iteF ?_ | refine ⟨(by decide : List.Nodup _), ?_⟩ | refine ⟨rfl, ?_⟩))
  refine ⟨_, _, _, _, _, rfl, rfl, rfl, rfl, ?_⟩
  (repeat (first | refine ⟨_, rfl, Nat.le_of_ble_eq_true rfl, ?_⟩ | refine ⟨_, rfl, ?_⟩ | refine ⟨_, _, rfl, ?_⟩ | refine ⟨_, _, rfl, rfl, ?_⟩ | refine ⟨_, _, _, rfl, rfl, rfl, ?_⟩ | refine ⟨_, _, _, rfl, rfl, by (first | exact kb_NoneType_int | exact kb_bool_int | exact kb_int_int | exact kb_str_int | exact kb_tuple_int | exact kb_list_int | exact kb_dict_int | exact kb_NoneType_bool | exact kb_bool_bool | exact kb_int_bool | exact kb_str_bool | exact kb_tuple_bool | exact kb_list_bool | exact kb_dict_bool | exact kb_NoneType_tuple | exact kb_bool_tuple | exact kb_int_tuple | exact kb_str_tuple | exact kb_tuple_tuple | exact kb_list_tuple | exact kb_dict_tuple), ?_⟩ | refine ⟨_, _, _, _, _, rfl, rfl, rfl, rfl, rfl, ?_⟩ | refine iteT ?_ | refine iteF ?_ | refine ⟨(by decide : List.Nodup _), ?_⟩ | refine ⟨rfl, ?_⟩))
  refine ⟨_, _, _, _, _, rfl, rfl, rfl, rfl, ?_⟩
  (repeat (first | refine ⟨_, rfl, Nat.le_of_ble_eq_true rfl, ?_⟩ | refine ⟨_, rfl, ?_⟩ | refine ⟨_, _, rfl, ?_⟩ | refine ⟨_, _, rfl, rfl, ?_⟩ | refine ⟨_, _, _, rfl, rfl, rfl, ?_⟩ | refine ⟨_, _, _, rfl, rfl, by (first | exact kb_NoneType_int | exact kb_bool_int | exact kb_int_int | exact kb_str_int | exact kb_tuple_int | exact kb_list_int | exact kb_dict_int | exact kb_NoneType_bool | exact kb_bool_bool | exact kb_int_bool | exact kb_str_bool | exact kb_tuple_bool | exact kb_list_bool | exact kb_dict_bool | exact kb_NoneType_tuple | exact kb_bool_tuple | exact kb_int_tuple | exact kb_str_tuple | exact kb_tuple_tuple | exact kb_list_tuple | exact kb_dict_tuple), ?_⟩ | refine ⟨_, _, _, _, _, rfl, rfl, rfl, rfl, rfl, ?_⟩ | refine iteT ?_ | refine iteF ?_ | refine ⟨(by decide : List.Nodup _), ?_⟩ | refine ⟨rfl, ?_⟩))
  refine Nrm.of ⟨[some (.fr (drD c p y r m0)), some (.fr c), some (.fr p), some (.fr y), some (.fr r), none, none, none, none], []⟩ rfl ?_
  -- the coin
  have bad1 : isPairB c 1 9 1 9 = false → Pc [] (.fr (.str "coin")) := fun z => by rw [tl.coin z] at h; exact h
  rcases tup_or fc.gd with ⟨cs, rfl⟩ | ⟨c1, _, _, tt, ht, hk⟩
  rotate_left
  · (repeat (first | refine ⟨_, rfl, Nat.le_of_ble_eq_true rfl, ?_⟩ | refine ⟨_, rfl, ?_⟩ | refine ⟨_, _, rfl, ?_⟩ | refine ⟨_, _, rfl, rfl, ?_⟩ | refine ⟨_, _, _, rfl, rfl, rfl, ?_⟩ | refine ⟨_, _, _, rfl, rfl, by (first | exact kb_NoneType_int | exact kb_bool_int | exact kb_int_int | exact kb_str_int | exact kb_tuple_int | exact kb_list_int | exact kb_dict_int | exact kb_NoneType_bool | exact kb_bool_bool | exact kb_int_bool | exact kb_str_bool | exact kb_tuple_bool | exact kb_list_bool | exact kb_dict_bool | exact kb_NoneType_tuple | exact kb_bool_tuple | exact kb_int_tuple | exact kb_str_tuple | exact kb_tuple_tuple | exact kb_list_tuple | exact kb_dict_tuple), ?_⟩ | refine ⟨_, _, _, _, _, rfl, rfl, rfl, rfl, rfl, ?_⟩ | refine iteT ?_ | refine iteF ?_ | refine ⟨(by decide : List.Nodup _), ?_⟩ | refine ⟨rfl, ?_⟩))
    refine ⟨_, tt, false, rfl, ht, hk, ?_⟩
    (repeat (first | refine ⟨_, rfl, Nat.le_of_ble_eq_true rfl, ?_⟩ | refine ⟨_, rfl, ?_⟩ | refine ⟨_, _, rfl, ?_⟩ | refine ⟨_, _, rfl, rfl, ?_⟩ | refine ⟨_, _, _, rfl, rfl, rfl, ?_⟩ | refine ⟨_, _, _, rfl, rfl, by (first | exact kb_NoneType_int | exact kb_bool_int | exact kb_int_int | exact kb_str_int | exact kb_tuple_int | exact kb_list_int | exact kb_dict_int | exact kb_NoneType_bool | exact kb_bool_bool | exact kb_int_bool | exact kb_str_bool | exact kb_tuple_bool | exact kb_list_bool | exact kb_dict_bool | exact kb_NoneType_tuple | exact kb_bool_tuple | exact kb_int_tuple | exact kb_str_tuple | exact kb_tuple_tuple | exact kb_list_tuple | exact kb_dict_tuple), ?_⟩ | refine ⟨_, _, _, _, _, rfl, rfl, rfl, rfl, rfl, ?_⟩ | refine iteT ?_ | refine iteF ?_ | refine ⟨(by decide : List.Nodup _), ?_⟩ | refine ⟨rfl, ?_⟩))
    exact rt0 (bad1 (c1 _ _ _ _))
  (repeat (first | refine ⟨_, rfl, Nat.le_of_ble_eq_true rfl, ?_⟩ | refine ⟨_, rfl, ?_⟩ | refine ⟨_, _, rfl, ?_⟩ | refine ⟨_, _, rfl, rfl, ?_⟩ | refine ⟨_, _, _, rfl, rfl, rfl, ?_⟩ | refine ⟨_, _, _, rfl, rfl, by (first | exact kb_NoneType_int | exact kb_bool_int | exact kb_int_int | exact kb_str_int | exact kb_tuple_int | exact kb_list_int | exact kb_dict_int | exact kb_NoneType_bool | exact kb_bool_bool | exact kb_int_bool | exact kb_str_bool | exact kb_tuple_bool | exact kb_list_bool | exact kb_dict_bool | exact kb_NoneType_tuple | exact kb_bool_tuple | exact kb_int_tuple | exact kb_str_tuple | exact kb_tuple_tuple | exact kb_list_tuple | exact kb_dict_tuple), ?_⟩ | refine ⟨_, _, _, _, _, rfl, rfl, rfl, rfl, rfl, ?_⟩ | refine iteT ?_ | refine iteF ?_ | refine ⟨(by decide : List.Nodup _), ?_⟩ | refine ⟨rfl, ?_⟩))
  refine ⟨_, _, _, _, rfl, rfl, rfl, rfl, rfl, rfl, _, rfl, ?_⟩
  refine ite2 (fun hc => ?_) (fun hc => ?_)
  · (repeat (first | refine ⟨_, rfl, Nat.le_of_ble_eq_true rfl, ?_⟩ | refine ⟨_, rfl, ?_⟩ | refine ⟨_, _, rfl, ?_⟩ | refine ⟨_, _, rfl, rfl, ?_⟩ | refine ⟨_, _, _, rfl, rfl, rfl, ?_⟩ | refine ⟨_, _, _, rfl, rfl, by (first | exact kb_NoneType_int | exact kb_bool_int | exact kb_int_int | exact kb_str_int | exact kb_tuple_int | exact kb_list_int | exact kb_dict_int | exact kb_NoneType_bool | exact kb_bool_bool | exact kb_int_bool | exact kb_str_bool | exact kb_tuple_bool | exact kb_list_bool | exact kb_dict_bool | exact kb_NoneType_tuple | exact kb_bool_tuple | exact kb_int_tuple | exact kb_str_tuple | exact kb_tuple_tuple | exact kb_list_tuple | exact kb_dict_tuple), ?_⟩ | refine ⟨_, _, _, _, _, rfl, rfl, rfl, rfl, rfl, ?_⟩ | refine iteT ?_ | refine iteF ?_ | refine ⟨(by decide : List.Nodup _), ?_⟩ | refine ⟨rfl, ?_⟩))
    refine rt0 (bad1 (isPair_len fun e => ?_))
    rw [if_pos rfl, eqv_int, e] at hc
    simp at hc
  have hl : cs.length = 2 := by
    rw [if_pos rfl, eqv_int] at hc
    simp at hc
    omega
  have eall := isPair_two (lo := 1) (hi := 9) hl
  (repeat (first | refine ⟨_, rfl, Nat.le_of_ble_eq_true rfl, ?_⟩ | refine ⟨_, rfl, ?_⟩ | refine ⟨_, _, rfl, ?_⟩ | refine ⟨_, _, rfl, rfl, ?_⟩ | refine ⟨_, _, _, rfl, rfl, rfl, ?_⟩ | refine ⟨_, _, _, rfl, rfl, by (first | exact kb_NoneType_int | exact kb_bool_int | exact kb_int_int | exact kb_str_int | exact kb_tuple_int | exact kb_list_int | exact kb_dict_int | exact kb_NoneType_bool | exact kb_bool_bool | exact kb_int_bool | exact kb_str_bool | exact kb_tuple_bool | exact kb_list_bool | exact kb_dict_bool | exact kb_NoneType_tuple | exact kb_bool_tuple | exact kb_int_tuple | exact kb_str_tuple | exact kb_tuple_tuple | exact kb_list_tuple | exact kb_dict_tuple), ?_⟩ | refine ⟨_, _, _, _, _, rfl, rfl, rfl, rfl, rfl, ?_⟩ | refine iteT ?_ | refine iteF ?_ | refine ⟨(by decide : List.Nodup _), ?_⟩ | refine ⟨rfl, ?_⟩))
  refine lc_map (fun d => .bl (withinB d 1 9)) (by show cs.length < 1000000; omega) (fun d acc Q hd hQ => ?_) ?_
  · obtain ⟨k, hk⟩ := fc.gd.it _ rfl d hd
    (repeat (first | refine ⟨_, rfl, Nat.le_of_ble_eq_true rfl, ?_⟩ | refine ⟨_, rfl, ?_⟩ | refine ⟨_, _, rfl, ?_⟩ | refine ⟨_, _, rfl, rfl, ?_⟩ | refine ⟨_, _, _, rfl, rfl, rfl, ?_⟩ | refine ⟨_, _, _, rfl, rfl, by (first | exact kb_NoneType_int | exact kb_bool_int | exact kb_int_int | exact kb_str_int | exact kb_tuple_int | exact kb_list_int | exact kb_dict_int | exact kb_NoneType_bool | exact kb_bool_bool | exact kb_int_bool | exact kb_str_bool | exact kb_tuple_bool | exact kb_list_bool | exact kb_dict_bool | exact kb_NoneType_tuple | exact kb_bool_tuple | exact kb_int_tuple | exact kb_str_tuple | exact kb_tuple_tuple | exact kb_list_tuple | exact kb_dict_tuple), ?_⟩ | refine ⟨_, _, _, _, _, rfl, rfl, rfl, rfl, rfl, ?_⟩ | refine iteT ?_ | refine iteF ?_ | refine ⟨(by decide : List.Nodup _), ?_⟩ | refine ⟨rfl, ?_⟩))
    refine ⟨d, 1, 9, k, rfl, hk, ?_⟩
    exact hQ _ rfl
  (repeat (first | refine ⟨_, rfl, Nat.le_of_ble_eq_true rfl, ?_⟩ | refine ⟨_, rfl, ?_⟩ | refine ⟨_, _, rfl, ?_⟩ | refine ⟨_, _, rfl, rfl, ?_⟩ | refine ⟨_, _, _, rfl, rfl, rfl, ?_⟩ | refine ⟨_, _, _, rfl, rfl, by (first | exact kb_NoneType_int | exact kb_bool_int | exact kb_int_int | exact kb_str_int | exact kb_tuple_int | exact kb_list_int | exact kb_dict_int | exact kb_NoneType_bool | exact kb_bool_bool | exact kb_int_bool | exact kb_str_bool | exact kb_tuple_bool | exact kb_list_bool | exact kb_dict_bool | exact kb_NoneType_tuple | exact kb_bool_tuple | exact kb_int_tuple | exact kb_str_tuple | exact kb_tuple_tuple | exact kb_list_tuple | exact kb_dict_tuple), ?_⟩ | refine ⟨_, _, _, _, _, rfl, rfl, rfl, rfl, rfl, ?_⟩ | refine iteT ?_ | refine iteF ?_ | refine ⟨(by decide : List.Nodup _), ?_⟩ | refine ⟨rfl, ?_⟩))
  refine ⟨_, cs.map fun d => withinB d 1 9, rfl, by rw [List.map_map]; rfl, ?_⟩
  (repeat (first | refine ⟨_, rfl, Nat.le_of_ble_eq_true rfl, ?_⟩ | refine ⟨_, rfl, ?_⟩ | refine ⟨_, _, rfl, ?_⟩ | refine ⟨_, _, rfl, rfl, ?_⟩ | refine ⟨_, _, _, rfl, rfl, rfl, ?_⟩ | refine ⟨_, _, _, rfl, rfl, by (first | exact kb_NoneType_int | exact kb_bool_int | exact kb_int_int | exact kb_str_int | exact kb_tuple_int | exact kb_list_int | exact kb_dict_int | exact kb_NoneType_bool | exact kb_bool_bool | exact kb_int_bool | exact kb_str_bool | exact kb_tuple_bool | exact kb_list_bool | exact kb_dict_bool | exact kb_NoneType_tuple | exact kb_bool_tuple | exact kb_int_tuple | exact kb_str_tuple | exact kb_tuple_tuple | exact kb_list_tuple | exact kb_dict_tuple), ?_⟩ | refine ⟨_, _, _, _, _, rfl, rfl, rfl, rfl, rfl, ?_⟩ | refine iteT ?_ | refine iteF ?_ | refine ⟨(by decide : List.Nodup _), ?_⟩ | refine ⟨rfl, ?_⟩))
  refine ite2 (fun hc2 => ?_) (fun hc2 => ?_)
  · (repeat (first | refine ⟨_, rfl, Nat.le_of_ble_eq_true rfl, ?_⟩ | refine ⟨_, rfl, ?_⟩ | refine ⟨_, _, rfl, ?_⟩ | refine ⟨_, _, rfl, rfl, ?_⟩ | refine ⟨_, _, _, rfl, rfl, rfl, ?_⟩ | refine ⟨_, _, _, rfl, rfl, by (first | exact kb_NoneType_int | exact kb_bool_int | exact kb_int_int | exact kb_str_int | exact kb_tuple_int | exact kb_list_int | exact kb_dict_int | exact kb_NoneType_bool | exact kb_bool_bool | exact kb_int_bool | exact kb_str_bool | exact kb_tuple_bool | exact kb_list_bool | exact kb_dict_bool | exact kb_NoneType_tuple | exact kb_bool_tuple | exact kb_int_tuple | exact kb_str_tuple | exact kb_tuple_tuple | exact kb_list_tuple | exact kb_dict_tuple), ?_⟩ | refine ⟨_, _, _, _, _, rfl, rfl, rfl, rfl, rfl, ?_⟩ | refine iteT ?_ | refine iteF ?_ | refine ⟨(by decide : List.Nodup _), ?_⟩ | refine ⟨rfl, ?_⟩))
    refine rt0 (bad1 ?_)
    rw [eall]
    simpa using hc2
  have hco : isPairB (.tup cs) 1 9 1 9 = true := by rw [eall]; simpa using hc2
  refine Nrm.of ⟨[some (.fr (drD (.tup cs) p y r m0)), some (.fr (.tup cs)), some (.fr p), some (.fr y), some (.fr r), none, none, none, none], []⟩ rfl ?_
  -- the paths
  have bad2 : ¬ IsPt p → Pc [] (.fr (.str "paths")) := fun z => by rw [tl.paths hco z] at h; exact h
  rcases tup_or fp.gd with ⟨ds, rfl⟩ | ⟨_, c1, _, tt, ht, hk⟩
  rotate_left
  · (repeat (first | refine ⟨_, rfl, Nat.le_of_ble_eq_true rfl, ?_⟩ | refine ⟨_, rfl, ?_⟩ | refine ⟨_, _, rfl, ?_⟩ | refine ⟨_, _, rfl, rfl, ?_⟩ | refine ⟨_, _, _, rfl, rfl, rfl, ?_⟩ | refine ⟨_, _, _, rfl, rfl, by (first | exact kb_NoneType_int | exact kb_bool_int | exact kb_int_int | exact kb_str_int | exact kb_tuple_int | exact kb_list_int | exact kb_dict_int | exact kb_NoneType_bool | exact kb_bool_bool | exact kb_int_bool | exact kb_str_bool | exact kb_tuple_bool | exact kb_list_bool | exact kb_dict_bool | exact kb_NoneType_tuple | exact kb_bool_tuple | exact kb_int_tuple | exact kb_str_tuple | exact kb_tuple_tuple | exact kb_list_tuple | exact kb_dict_tuple), ?_⟩ | refine ⟨_, _, _, _, _, rfl, rfl, rfl, rfl, rfl, ?_⟩ | refine iteT ?_ | refine iteF ?_ | refine ⟨(by decide : List.Nodup _), ?_⟩ | refine ⟨rfl, ?_⟩))
    refine ⟨_, tt, false, rfl, ht, hk, ?_⟩
    (repeat (first | refine ⟨_, rfl, Nat.le_of_ble_eq_true rfl, ?_⟩ | refine ⟨_, rfl, ?_⟩ | refine ⟨_, _, rfl, ?_⟩ | refine ⟨_, _, rfl, rfl, ?_⟩ | refine ⟨_, _, _, rfl, rfl, rfl, ?_⟩ | refine ⟨_, _, _, rfl, rfl, by (first | exact kb_NoneType_int | exact kb_bool_int | exact kb_int_int | exact kb_str_int | exact kb_tuple_int | exact kb_list_int | exact kb_dict_int | exact kb_NoneType_bool | exact kb_bool_bool | exact kb_int_bool | exact kb_str_bool | exact kb_tuple_bool | exact kb_list_bool | exact kb_dict_bool | exact kb_NoneType_tuple | exact kb_bool_tuple | exact kb_int_tuple | exact kb_str_tuple | exact kb_tuple_tuple | exact kb_list_tuple | exact kb_dict_tuple), ?_⟩ | refine ⟨_, _, _, _, _, rfl, rfl, rfl, rfl, rfl, ?_⟩ | refine iteT ?_ | refine iteF ?_ | refine ⟨(by decide : List.Nodup _), ?_⟩ | refine ⟨rfl, ?_⟩))
    exact rt0 (bad2 c1)
  obtain ⟨xs, hxs, hsh⟩ := fp.py _ rfl
  have hdl := fp.few _ rfl
  (repeat (first | refine ⟨_, rfl, Nat.le_of_ble_eq_true rfl, ?_⟩ | refine ⟨_, rfl, ?_⟩ | refine ⟨_, _, rfl, ?_⟩ | refine ⟨_, _, rfl, rfl, ?_⟩ | refine ⟨_, _, _, rfl, rfl, rfl, ?_⟩ | refine ⟨_, _, _, rfl, rfl, by (first | exact kb_NoneType_int | exact kb_bool_int | exact kb_int_int | exact kb_str_int | exact kb_tuple_int | exact kb_list_int | exact kb_dict_int | exact kb_NoneType_bool | exact kb_bool_bool | exact kb_int_bool | exact kb_str_bool | exact kb_tuple_bool | exact kb_list_bool | exact kb_dict_bool | exact kb_NoneType_tuple | exact kb_bool_tuple | exact kb_int_tuple | exact kb_str_tuple | exact kb_tuple_tuple | exact kb_list_tuple | exact kb_dict_tuple), ?_⟩ | refine ⟨_, _, _, _, _, rfl, rfl, rfl, rfl, rfl, ?_⟩ | refine iteT ?_ | refine iteF ?_ | refine ⟨(by decide : List.Nodup _), ?_⟩ | refine ⟨rfl, ?_⟩))
  refine ⟨_, _, .tuple xs, .tuple [], rfl, rfl, by simp only [pyD, hxs]; rfl, rfl, hsh, rfl, _, rfl, ?_⟩
  refine ite2 (fun hc => ?_) (fun hc => ?_)
  · (repeat (first | refine ⟨_, rfl, Nat.le_of_ble_eq_true rfl, ?_⟩ | refine ⟨_, rfl, ?_⟩ | refine ⟨_, _, rfl, ?_⟩ | refine ⟨_, _, rfl, rfl, ?_⟩ | refine ⟨_, _, _, rfl, rfl, rfl, ?_⟩ | refine ⟨_, _, _, rfl, rfl, by (first | exact kb_NoneType_int | exact kb_bool_int | exact kb_int_int | exact kb_str_int | exact kb_tuple_int | exact kb_list_int | exact kb_dict_int | exact kb_NoneType_bool | exact kb_bool_bool | exact kb_int_bool | exact kb_str_bool | exact kb_tuple_bool | exact kb_list_bool | exact kb_dict_bool | exact kb_NoneType_tuple | exact kb_bool_tuple | exact kb_int_tuple | exact kb_str_tuple | exact kb_tuple_tuple | exact kb_list_tuple | exact kb_dict_tuple), ?_⟩ | refine ⟨_, _, _, _, _, rfl, rfl, rfl, rfl, rfl, ?_⟩ | refine iteT ?_ | refine iteF ?_ | refine ⟨(by decide : List.Nodup _), ?_⟩ | refine ⟨rfl, ?_⟩))
    refine rt0 (bad2 fun ⟨ps, e, ok⟩ => ?_)
    rw [if_neg Bool.false_ne_true, eqv_tupnil] at hc
    have e1 : ds = [] := (pyDs_nil hxs).mp (by simpa using hc)
    rw [e1] at e
    cases ps with
    | nil => exact ok.ne rfl
    | cons _ _ => cases e
  have hdne : ds ≠ [] := fun e => hc (by rw [if_neg Bool.false_ne_true, eqv_tupnil]; simpa using (pyDs_nil hxs).mpr e)
  refine Nrm.of ⟨[some (.fr (drD (.tup cs) (.tup ds) y r m0)), some (.fr (.tup cs)), some (.fr (.tup ds)), some (.fr y), some (.fr r), none, none, none, none], []⟩ rfl ?_
  (repeat (first | refine ⟨_, rfl, Nat.le_of_ble_eq_true rfl, ?_⟩ | refine ⟨_, rfl, ?_⟩ | refine ⟨_, _, rfl, ?_⟩ | refine ⟨_, _, rfl, rfl, ?_⟩ | refine ⟨_, _, _, rfl, rfl, rfl, ?_⟩ | refine ⟨_, _, _, rfl, rfl, by (first | exact kb_NoneType_int | exact kb_bool_int | exact kb_int_int | exact kb_str_int | exact kb_tuple_int | exact kb_list_int | exact kb_dict_int | exact kb_NoneType_bool | exact kb_bool_bool | exact kb_int_bool | exact kb_str_bool | exact kb_tuple_bool | exact kb_list_bool | exact kb_dict_bool | exact kb_NoneType_tuple | exact kb_bool_tuple | exact kb_int_tuple | exact kb_str_tuple | exact kb_tuple_tuple | exact kb_list_tuple | exact kb_dict_tuple), ?_⟩ | refine ⟨_, _, _, _, _, rfl, rfl, rfl, rfl, rfl, ?_⟩ | refine iteT ?_ | refine iteF ?_ | refine ⟨(by decide : List.Nodup _), ?_⟩ | refine ⟨rfl, ?_⟩))
  refine ⟨fun i S => (∃ s5, S = ⟨[some (.fr (drD (.tup cs) (.tup ds) y r m0)), some (.fr (.tup cs)), some (.fr (.tup ds)), some (.fr y), some (.fr r), s5, none, none, none], []⟩) ∧ ∀ x ∈ ds.take i, isPairB x 0 5 0 5 = true, ⟨⟨_, rfl⟩, by simp⟩, ?_, ?_⟩
  · rintro i x S1 hx ⟨⟨s5, rfl⟩, hall⟩
    have hxm : x ∈ ds := List.mem_of_getElem? hx
    have bad3 : isPairB x 0 5 0 5 = false → Pc [] (.fr (.str "paths")) := fun z => bad2 fun ⟨ps, e, ok⟩ => by
      have e' := D.tup.inj e
      rw [e'] at hxm
      obtain ⟨q, hq, rfl⟩ := List.mem_map.mp hxm
      have := ok.rng q hq
      have := isPair_pr (q := q) (lo := 0) (hi := 5) (le := 0) (mo := 5) ⟨by omega, by omega, by omega, by omega⟩
      rw [z] at this
      cases this
    have gx := (fp.gp.it _ rfl).2 x hxm
    rcases tup_or gx with ⟨es, rfl⟩ | ⟨c1, _, _, tt, ht, hk⟩
    rotate_left
    · (repeat (first | refine ⟨_, rfl, Nat.le_of_ble_eq_true rfl, ?_⟩ | refine ⟨_, rfl, ?_⟩ | refine ⟨_, _, rfl, ?_⟩ | refine ⟨_, _, rfl, rfl, ?_⟩ | refine ⟨_, _, _, rfl, rfl, rfl, ?_⟩ | refine ⟨_, _, _, rfl, rfl, by (first | exact kb_NoneType_int | exact kb_bool_int | exact kb_int_int | exact kb_str_int | exact kb_tuple_int | exact kb_list_int | exact kb_dict_int | exact kb_NoneType_bool | exact kb_bool_bool | exact kb_int_bool | exact kb_str_bool | exact kb_tuple_bool | exact kb_list_bool | exact kb_dict_bool | exact kb_NoneType_tuple | exact kb_bool_tuple | exact kb_int_tuple | exact kb_str_tuple | exact kb_tuple_tuple | exact kb_list_tuple | exact kb_dict_tuple), ?_⟩ | refine ⟨_, _, _, _, _, rfl, rfl, rfl, rfl, rfl, ?_⟩ | refine iteT ?_ | refine iteF ?_ | refine ⟨(by decide : List.Nodup _), ?_⟩ | refine ⟨rfl, ?_⟩))
      refine ⟨_, tt, false, rfl, ht, hk, ?_⟩
      (repeat (first | refine ⟨_, rfl, Nat.le_of_ble_eq_true rfl, ?_⟩ | refine ⟨_, rfl, ?_⟩ | refine ⟨_, _, rfl, ?_⟩ | refine ⟨_, _, rfl, rfl, ?_⟩ | refine ⟨_, _, _, rfl, rfl, rfl, ?_⟩ | refine ⟨_, _, _, rfl, rfl, by (first | exact kb_NoneType_int | exact kb_bool_int | exact kb_int_int | exact kb_str_int | exact kb_tuple_int | exact kb_list_int | exact kb_dict_int | exact kb_NoneType_bool | exact kb_bool_bool | exact kb_int_bool | exact kb_str_bool | exact kb_tuple_bool | exact kb_list_bool | exact kb_dict_bool | exact kb_NoneType_tuple | exact kb_bool_tuple | exact kb_int_tuple | exact kb_str_tuple | exact kb_tuple_tuple | exact kb_list_tuple | exact kb_dict_tuple), ?_⟩ | refine ⟨_, _, _, _, _, rfl, rfl, rfl, rfl, rfl, ?_⟩ | refine iteT ?_ | refine iteF ?_ | refine ⟨(by decide : List.Nodup _), ?_⟩ | refine ⟨rfl, ?_⟩))
      exact rt0 (bad3 (c1 _ _ _ _))
    (repeat (first | refine ⟨_, rfl, Nat.le_of_ble_eq_true rfl, ?_⟩ | refine ⟨_, rfl, ?_⟩ | refine ⟨_, _, rfl, ?_⟩ | refine ⟨_, _, rfl, rfl, ?_⟩ | refine ⟨_, _, _, rfl, rfl, rfl, ?_⟩ | refine ⟨_, _, _, rfl, rfl, by (first | exact kb_NoneType_int | exact kb_bool_int | exact kb_int_int | exact kb_str_int | exact kb_tuple_int | exact kb_list_int | exact kb_dict_int | exact kb_NoneType_bool | exact kb_bool_bool | exact kb_int_bool | exact kb_str_bool | exact kb_tuple_bool | exact kb_list_bool | exact kb_dict_bool | exact kb_NoneType_tuple | exact kb_bool_tuple | exact kb_int_tuple | exact kb_str_tuple | exact kb_tuple_tuple | exact kb_list_tuple | exact kb_dict_tuple), ?_⟩ | refine ⟨_, _, _, _, _, rfl, rfl, rfl, rfl, rfl, ?_⟩ | refine iteT ?_ | refine iteF ?_ | refine ⟨(by decide : List.Nodup _), ?_⟩ | refine ⟨rfl, ?_⟩))
    refine ⟨_, _, _, _, rfl, rfl, rfl, rfl, rfl, rfl, _, rfl, ?_⟩
    refine ite2 (fun hc => ?_) (fun hc => ?_)
    · (repeat (first | refine ⟨_, rfl, Nat.le_of_ble_eq_true rfl, ?_⟩ | refine ⟨_, rfl, ?_⟩ | refine ⟨_, _, rfl, ?_⟩ | refine ⟨_, _, rfl, rfl, ?_⟩ | refine ⟨_, _, _, rfl, rfl, rfl, ?_⟩ | refine ⟨_, _, _, rfl, rfl, by (first | exact kb_NoneType_int | exact kb_bool_int | exact kb_int_int | exact kb_str_int | exact kb_tuple_int | exact kb_list_int | exact kb_dict_int | exact kb_NoneType_bool | exact kb_bool_bool | exact kb_int_bool | exact kb_str_bool | exact kb_tuple_bool | exact kb_list_bool | exact kb_dict_bool | exact kb_NoneType_tuple | exact kb_bool_tuple | exact kb_int_tuple | exact kb_str_tuple | exact kb_tuple_tuple | exact kb_list_tuple | exact kb_dict_tuple), ?_⟩ | refine ⟨_, _, _, _, _, rfl, rfl, rfl, rfl, rfl, ?_⟩ | refine iteT ?_ | refine iteF ?_ | refine ⟨(by decide : List.Nodup _), ?_⟩ | refine ⟨rfl, ?_⟩))
      refine rt0 (bad3 (isPair_len fun e => ?_))
      rw [if_pos rfl, eqv_int, e] at hc
      simp at hc
    have hl : es.length = 2 := by
      rw [if_pos rfl, eqv_int] at hc
      simp at hc
      omega
    have eall := isPair_two (lo := 0) (hi := 5) hl
    (repeat (first | refine ⟨_, rfl, Nat.le_of_ble_eq_true rfl, ?_⟩ | refine ⟨_, rfl, ?_⟩ | refine ⟨_, _, rfl, ?_⟩ | refine ⟨_, _, rfl, rfl, ?_⟩ | refine ⟨_, _, _, rfl, rfl, rfl, ?_⟩ | refine ⟨_, _, _, rfl, rfl, by (first | exact kb_NoneType_int | exact kb_bool_int | exact kb_int_int | exact kb_str_int | exact kb_tuple_int | exact kb_list_int | exact kb_dict_int | exact kb_NoneType_bool | exact kb_bool_bool | exact kb_int_bool | exact kb_str_bool | exact kb_tuple_bool | exact kb_list_bool | exact kb_dict_bool | exact kb_NoneType_tuple | exact kb_bool_tuple | exact kb_int_tuple | exact kb_str_tuple | exact kb_tuple_tuple | exact kb_list_tuple | exact kb_dict_tuple), ?_⟩ | refine ⟨_, _, _, _, _, rfl, rfl, rfl, rfl, rfl, ?_⟩ | refine iteT ?_ | refine iteF ?_ | refine ⟨(by decide : List.Nodup _), ?_⟩ | refine ⟨rfl, ?_⟩))
    refine lc_map (fun d => .bl (withinB d 0 5)) (by show es.length < 1000000; omega) (fun d acc Q hd hQ => ?_) ?_
    · obtain ⟨k, hk⟩ := gx.it _ rfl d hd
      (repeat (first | refine ⟨_, rfl, Nat.le_of_ble_eq_true rfl, ?_⟩ | refine ⟨_, rfl, ?_⟩ | refine ⟨_, _, rfl, ?_⟩ | refine ⟨_, _, rfl, rfl, ?_⟩ | refine ⟨_, _, _, rfl, rfl, rfl, ?_⟩ | refine ⟨_, _, _, rfl, rfl, by (first | exact kb_NoneType_int | exact kb_bool_int | exact kb_int_int | exact kb_str_int | exact kb_tuple_int | exact kb_list_int | exact kb_dict_int | exact kb_NoneType_bool | exact kb_bool_bool | exact kb_int_bool | exact kb_str_bool | exact kb_tuple_bool | exact kb_list_bool | exact kb_dict_bool | exact kb_NoneType_tuple | exact kb_bool_tuple | exact kb_int_tuple | exact kb_str_tuple | exact kb_tuple_tuple | exact kb_list_tuple | exact kb_dict_tuple), ?_⟩ | refine ⟨_, _, _, _, _, rfl, rfl, rfl, rfl, rfl, ?_⟩ | refine iteT ?_ | refine iteF ?_ | refine ⟨(by decide : List.Nodup _), ?_⟩ | refine ⟨rfl, ?_⟩))
      refine ⟨d, 0, 5, k, rfl, hk, ?_⟩
      exact hQ _ rfl
    (repeat (first | refine ⟨_, rfl, Nat.le_of_ble_eq_true rfl, ?_⟩ | refine ⟨_, rfl, ?_⟩ | refine ⟨_, _, rfl, ?_⟩ | refine ⟨_, _, rfl, rfl, ?_⟩ | refine ⟨_, _, _, rfl, rfl, rfl, ?_⟩ | refine ⟨_, _, _, rfl, rfl, by (first | exact kb_NoneType_int | exact kb_bool_int | exact kb_int_int | exact kb_str_int | exact kb_tuple_int | exact kb_list_int | exact kb_dict_int | exact kb_NoneType_bool | exact kb_bool_bool | exact kb_int_bool | exact kb_str_bool | exact kb_tuple_bool | exact kb_list_bool | exact kb_dict_bool | exact kb_NoneType_tuple | exact kb_bool_tuple | exact kb_int_tuple | exact kb_str_tuple | exact kb_tuple_tuple | exact kb_list_tuple | exact kb_dict_tuple), ?_⟩ | refine ⟨_, _, _, _, _, rfl, rfl, rfl, rfl, rfl, ?_⟩ | refine iteT ?_ | refine iteF ?_ | refine ⟨(by decide : List.Nodup _), ?_⟩ | refine ⟨rfl, ?_⟩))
    refine ⟨_, es.map fun d => withinB d 0 5, rfl, by rw [List.map_map]; rfl, ?_⟩
    (repeat (first | refine ⟨_, rfl, Nat.le_of_ble_eq_true rfl, ?_⟩ | refine ⟨_, rfl, ?_⟩ | refine ⟨_, _, rfl, ?_⟩ | refine ⟨_, _, rfl, rfl, ?_⟩ | refine ⟨_, _, _, rfl, rfl, rfl, ?_⟩ | refine ⟨_, _, _, rfl, rfl, by (first | exact kb_NoneType_int | exact kb_bool_int | exact kb_int_int | exact kb_str_int | exact kb_tuple_int | exact kb_list_int | exact kb_dict_int | exact kb_NoneType_bool | exact kb_bool_bool | exact kb_int_bool | exact kb_str_bool | exact kb_tuple_bool | exact kb_list_bool | exact kb_dict_bool | exact kb_NoneType_tuple | exact kb_bool_tuple | exact kb_int_tuple | exact kb_str_tuple | exact kb_tuple_tuple | exact kb_list_tuple | exact kb_dict_tuple), ?_⟩ | refine ⟨_, _, _, _, _, rfl, rfl, rfl, rfl, rfl, ?_⟩ | refine iteT ?_ | refine iteF ?_ | refine ⟨(by decide : List.Nodup _), ?_⟩ | refine ⟨rfl, ?_⟩))
    refine ite2 (fun hc2 => ?_) (fun hc2 => ?_)
    · (repeat (first | refine ⟨_, rfl, Nat.le_of_ble_eq_true rfl, ?_⟩ | refine ⟨_, rfl, ?_⟩ | refine ⟨_, _, rfl, ?_⟩ | refine ⟨_, _, rfl, rfl, ?_⟩ | refine ⟨_, _, _, rfl, rfl, rfl, ?_⟩ | refine ⟨_, _, _, rfl, rfl, by (first | exact kb_NoneType_int | exact kb_bool_int | exact kb_int_int | exact kb_str_int | exact kb_tuple_int | exact kb_list_int | exact kb_dict_int | exact kb_NoneType_bool | exact kb_bool_bool | exact kb_int_bool | exact kb_str_bool | exact kb_tuple_bool | exact kb_list_bool | exact kb_dict_bool | exact kb_NoneType_tuple | exact kb_bool_tuple | exact kb_int_tuple | exact kb_str_tuple | exact kb_tuple_tuple | exact kb_list_tuple | exact kb_dict_tuple), ?_⟩ | refine ⟨_, _, _, _, _, rfl, rfl, rfl, rfl, rfl, ?_⟩ | refine iteT ?_ | refine iteF ?_ | refine ⟨(by decide : List.Nodup _), ?_⟩ | refine ⟨rfl, ?_⟩))
      refine rt0 (bad3 ?_)
      rw [eall]
      simpa using hc2
    refine ⟨⟨_, rfl⟩, fun z hz => ?_⟩
    rw [List.take_add_one, hx] at hz
    rcases List.mem_append.mp hz with hz | hz
    · exact hall z hz
    · simp at hz
      rw [hz, eall]
      simpa using hc2
  rintro S1 ⟨⟨s5, rfl⟩, hall⟩
  rw [List.take_length] at hall
  obtain ⟨ps, rfl, hps⟩ := prs_of_all ds hall
  have hpl : ps.length < 60 := by rw [List.length_map] at hdl; exact hdl
  refine Nrm.of ⟨[some (.fr (drD (.tup cs) (.tup (ps.map TD.prD)) y r m0)), some (.fr (.tup cs)), some (.fr (.tup (ps.map TD.prD))), some (.fr y), some (.fr r), s5, none, none, none], []⟩ rfl ?_
  (repeat (first | refine ⟨_, rfl, Nat.le_of_ble_eq_true rfl, ?_⟩ | refine ⟨_, rfl, ?_⟩ | refine ⟨_, _, rfl, ?_⟩ | refine ⟨_, _, rfl, rfl, ?_⟩ | refine ⟨_, _, _, rfl, rfl, rfl, ?_⟩ | refine ⟨_, _, _, rfl, rfl, by (first | exact kb_NoneType_int | exact kb_bool_int | exact kb_int_int | exact kb_str_int | exact kb_tuple_int | exact kb_list_int | exact kb_dict_int | exact kb_NoneType_bool | exact kb_bool_bool | exact kb_int_bool | exact kb_str_bool | exact kb_tuple_bool | exact kb_list_bool | exact kb_dict_bool | exact kb_NoneType_tuple | exact kb_bool_tuple | exact kb_int_tuple | exact kb_str_tuple | exact kb_tuple_tuple | exact kb_list_tuple | exact kb_dict_tuple), ?_⟩ | refine ⟨_, _, _, _, _, rfl, rfl, rfl, rfl, rfl, ?_⟩ | refine iteT ?_ | refine iteF ?_ | refine ⟨(by decide : List.Nodup _), ?_⟩ | refine ⟨rfl, ?_⟩))
  refine lc_map (fun x => .bl (decide (sndI x ≤ fstI x))) (by show (ps.map TD.prD).length < 1000000; rw [List.length_map]; omega) (fun d acc Q hd hQ => ?_) ?_
  · obtain ⟨⟨a, b⟩, _, rfl⟩ := List.mem_map.mp hd
    (repeat (first | refine ⟨_, rfl, Nat.le_of_ble_eq_true rfl, ?_⟩ | refine ⟨_, rfl, ?_⟩ | refine ⟨_, _, rfl, ?_⟩ | refine ⟨_, _, rfl, rfl, ?_⟩ | refine ⟨_, _, _, rfl, rfl, rfl, ?_⟩ | refine ⟨_, _, _, rfl, rfl, by (first | exact kb_NoneType_int | exact kb_bool_int | exact kb_int_int | exact kb_str_int | exact kb_tuple_int | exact kb_list_int | exact kb_dict_int | exact kb_NoneType_bool | exact kb_bool_bool | exact kb_int_bool | exact kb_str_bool | exact kb_tuple_bool | exact kb_list_bool | exact kb_dict_bool | exact kb_NoneType_tuple | exact kb_bool_tuple | exact kb_int_tuple | exact kb_str_tuple | exact kb_tuple_tuple | exact kb_list_tuple | exact kb_dict_tuple), ?_⟩ | refine ⟨_, _, _, _, _, rfl, rfl, rfl, rfl, rfl, ?_⟩ | refine iteT ?_ | refine iteF ?_ | refine ⟨(by decide : List.Nodup _), ?_⟩ | refine ⟨rfl, ?_⟩))
    exact hQ _ rfl
  (repeat (first | refine ⟨_, rfl, Nat.le_of_ble_eq_true rfl, ?_⟩ | refine ⟨_, rfl, ?_⟩ | refine ⟨_, _, rfl, ?_⟩ | refine ⟨_, _, rfl, rfl, ?_⟩ | refine ⟨_, _, _, rfl, rfl, rfl, ?_⟩ | refine ⟨_, _, _, rfl, rfl, by (first | exact kb_NoneType_int | exact kb_bool_int | exact kb_int_int | exact kb_str_int | exact kb_tuple_int | exact kb_list_int | exact kb_dict_int | exact kb_NoneType_bool | exact kb_bool_bool | exact kb_int_bool | exact kb_str_bool | exact kb_tuple_bool | exact kb_list_bool | exact kb_dict_bool | exact kb_NoneType_tuple | exact kb_bool_tuple | exact kb_int_tuple | exact kb_str_tuple | exact kb_tuple_tuple | exact kb_list_tuple | exact kb_dict_tuple), ?_⟩ | refine ⟨_, _, _, _, _, rfl, rfl, rfl, rfl, rfl, ?_⟩ | refine iteT ?_ | refine iteF ?_ | refine ⟨(by decide : List.Nodup _), ?_⟩ | refine ⟨rfl, ?_⟩))
  refine ⟨_, ps.map fun q => decide (q.2 ≤ q.1), rfl, by rw [List.map_map, List.map_map]; rfl, ?_⟩
  (repeat (first | refine ⟨_, rfl, Nat.le_of_ble_eq_true rfl, ?_⟩ | refine ⟨_, rfl, ?_⟩ | refine ⟨_, _, rfl, ?_⟩ | refine ⟨_, _, rfl, rfl, ?_⟩ | refine ⟨_, _, _, rfl, rfl, rfl, ?_⟩ | refine ⟨_, _, _, rfl, rfl, by (first | exact kb_NoneType_int | exact kb_bool_int | exact kb_int_int | exact kb_str_int | exact kb_tuple_int | exact kb_list_int | exact kb_dict_int | exact kb_NoneType_bool | exact kb_bool_bool | exact kb_int_bool | exact kb_str_bool | exact kb_tuple_bool | exact kb_list_bool | exact kb_dict_bool | exact kb_NoneType_tuple | exact kb_bool_tuple | exact kb_int_tuple | exact kb_str_tuple | exact kb_tuple_tuple | exact kb_list_tuple | exact kb_dict_tuple), ?_⟩ | refine ⟨_, _, _, _, _, rfl, rfl, rfl, rfl, rfl, ?_⟩ | refine iteT ?_ | refine iteF ?_ | refine ⟨(by decide : List.Nodup _), ?_⟩ | refine ⟨rfl, ?_⟩))
  refine ite2 (fun hc => ?_) (fun hc => ?_)
  · (repeat (first | refine ⟨_, rfl, Nat.le_of_ble_eq_true rfl, ?_⟩ | refine ⟨_, rfl, ?_⟩ | refine ⟨_, _, rfl, ?_⟩ | refine ⟨_, _, rfl, rfl, ?_⟩ | refine ⟨_, _, _, rfl, rfl, rfl, ?_⟩ | refine ⟨_, _, _, rfl, rfl, by (first | exact kb_NoneType_int | exact kb_bool_int | exact kb_int_int | exact kb_str_int | exact kb_tuple_int | exact kb_list_int | exact kb_dict_int | exact kb_NoneType_bool | exact kb_bool_bool | exact kb_int_bool | exact kb_str_bool | exact kb_tuple_bool | exact kb_list_bool | exact kb_dict_bool | exact kb_NoneType_tuple | exact kb_bool_tuple | exact kb_int_tuple | exact kb_str_tuple | exact kb_tuple_tuple | exact kb_list_tuple | exact kb_dict_tuple), ?_⟩ | refine ⟨_, _, _, _, _, rfl, rfl, rfl, rfl, rfl, ?_⟩ | refine iteT ?_ | refine iteF ?_ | refine ⟨(by decide : List.Nodup _), ?_⟩ | refine ⟨rfl, ?_⟩))
    refine rt0 (bad2 fun ⟨ps', e, ok⟩ => ?_)
    have e2 := prs_inj (D.tup.inj e)
    subst e2
    rw [List.any_map, List.any_eq_true] at hc
    obtain ⟨q, hq, hz⟩ := hc
    have := ok.rng q hq
    simp at hz
    omega
  have hlt : ∀ q ∈ ps, 0 ≤ q.1 ∧ q.1 < q.2 ∧ q.2 ≤ 5 := fun q hq => by
    have h1 := hps q hq
    have h2 : ¬ q.2 ≤ q.1 := fun z => hc (by rw [List.any_map, List.any_eq_true]; exact ⟨q, hq, by simpa using z⟩)
    omega
  (repeat (first | refine ⟨_, rfl, Nat.le_of_ble_eq_true rfl, ?_⟩ | refine ⟨_, rfl, ?_⟩ | refine ⟨_, _, rfl, ?_⟩ | refine ⟨_, _, rfl, rfl, ?_⟩ | refine ⟨_, _, _, rfl, rfl, rfl, ?_⟩ | refine ⟨_, _, _, rfl, rfl, by (first | exact kb_NoneType_int | exact kb_bool_int | exact kb_int_int | exact kb_str_int | exact kb_tuple_int | exact kb_list_int | exact kb_dict_int | exact kb_NoneType_bool | exact kb_bool_bool | exact kb_int_bool | exact kb_str_bool | exact kb_tuple_bool | exact kb_list_bool | exact kb_dict_bool | exact kb_NoneType_tuple | exact kb_bool_tuple | exact kb_int_tuple | exact kb_str_tuple | exact kb_tuple_tuple | exact kb_list_tuple | exact kb_dict_tuple), ?_⟩ | refine ⟨_, _, _, _, _, rfl, rfl, rfl, rfl, rfl, ?_⟩ | refine iteT ?_ | refine iteF ?_ | refine ⟨(by decide : List.Nodup _), ?_⟩ | refine ⟨rfl, ?_⟩))
  refine .inl ⟨ps, rfl, by omega, fun q hq => by have := hlt q hq; omega, fun qs hqs hqm => ?_⟩
  (repeat (first | refine ⟨_, rfl, Nat.le_of_ble_eq_true rfl, ?_⟩ | refine ⟨_, rfl, ?_⟩ | refine ⟨_, _, rfl, ?_⟩ | refine ⟨_, _, rfl, rfl, ?_⟩ | refine ⟨_, _, _, rfl, rfl, rfl, ?_⟩ | refine ⟨_, _, _, rfl, rfl, by (first | exact kb_NoneType_int | exact kb_bool_int | exact kb_int_int | exact kb_str_int | exact kb_tuple_int | exact kb_list_int | exact kb_dict_int | exact kb_NoneType_bool | exact kb_bool_bool | exact kb_int_bool | exact kb_str_bool | exact kb_tuple_bool | exact kb_list_bool | exact kb_dict_bool | exact kb_NoneType_tuple | exact kb_bool_tuple | exact kb_int_tuple | exact kb_str_tuple | exact kb_tuple_tuple | exact kb_list_tuple | exact kb_dict_tuple), ?_⟩ | refine ⟨_, _, _, _, _, rfl, rfl, rfl, rfl, rfl, ?_⟩ | refine iteT ?_ | refine iteF ?_ | refine ⟨(by decide : List.Nodup _), ?_⟩ | refine ⟨rfl, ?_⟩))
  refine ⟨_, _, _, _, rfl, rfl, pyD_prs _, pyD_prs _, shaped_prs _, shaped_prs _, _, rfl, ?_⟩
  refine ite2 (fun hc => ?_) (fun hc => ?_)
  · (repeat (first | refine ⟨_, rfl, Nat.le_of_ble_eq_true rfl, ?_⟩ | refine ⟨_, rfl, ?_⟩ | refine ⟨_, _, rfl, ?_⟩ | refine ⟨_, _, rfl, rfl, ?_⟩ | refine ⟨_, _, _, rfl, rfl, rfl, ?_⟩ | refine ⟨_, _, _, rfl, rfl, by (first | exact kb_NoneType_int | exact kb_bool_int | exact kb_int_int | exact kb_str_int | exact kb_tuple_int | exact kb_list_int | exact kb_dict_int | exact kb_NoneType_bool | exact kb_bool_bool | exact kb_int_bool | exact kb_str_bool | exact kb_tuple_bool | exact kb_list_bool | exact kb_dict_bool | exact kb_NoneType_tuple | exact kb_bool_tuple | exact kb_int_tuple | exact kb_str_tuple | exact kb_tuple_tuple | exact kb_list_tuple | exact kb_dict_tuple), ?_⟩ | refine ⟨_, _, _, _, _, rfl, rfl, rfl, rfl, rfl, ?_⟩ | refine iteT ?_ | refine iteF ?_ | refine ⟨(by decide : List.Nodup _), ?_⟩ | refine ⟨rfl, ?_⟩))
    refine rt0 (bad2 fun ⟨ps', e, ok⟩ => ?_)
    have e2 := prs_inj (D.tup.inj e)
    subst e2
    rw [if_pos rfl, eqv_prsL] at hc
    have e3 : qs = ps := ext_sorted ltP_asym hqs (ltL_iff.mp ok.srt) hqm
    simp [e3] at hc
  have hsrt : ltL ps = true := by
    rw [if_pos rfl, eqv_prsL] at hc
    have e3 : qs = ps := by simpa using hc
    rw [← e3]
    exact ltL_iff.mpr hqs
  clear hc hqs hqm qs
  refine Nrm.of ⟨[some (.fr (drD (.tup cs) (.tup (ps.map TD.prD)) y r m0)), some (.fr (.tup cs)), some (.fr (.tup (ps.map TD.prD))), some (.fr y), some (.fr r), s5, none, none, none], []⟩ rfl ?_
  (repeat (first | refine ⟨_, rfl, Nat.le_of_ble_eq_true rfl, ?_⟩ | refine ⟨_, rfl, ?_⟩ | refine ⟨_, _, rfl, ?_⟩ | refine ⟨_, _, rfl, rfl, ?_⟩ | refine ⟨_, _, _, rfl, rfl, rfl, ?_⟩ | refine ⟨_, _, _, rfl, rfl, by (first | exact kb_NoneType_int | exact kb_bool_int | exact kb_int_int | exact kb_str_int | exact kb_tuple_int | exact kb_list_int | exact kb_dict_int | exact kb_NoneType_bool | exact kb_bool_bool | exact kb_int_bool | exact kb_str_bool | exact kb_tuple_bool | exact kb_list_bool | exact kb_dict_bool | exact kb_NoneType_tuple | exact kb_bool_tuple | exact kb_int_tuple | exact kb_str_tuple | exact kb_tuple_tuple | exact kb_list_tuple | exact kb_dict_tuple), ?_⟩ | refine ⟨_, _, _, _, _, rfl, rfl, rfl, rfl, rfl, ?_⟩ | refine iteT ?_ | refine iteF ?_ | refine ⟨(by decide : List.Nodup _), ?_⟩ | refine ⟨rfl, ?_⟩))
  refine lc_map (fun x => .int (sndI x)) (by show (ps.map TD.prD).length < 1000000; rw [List.length_map]; omega) (fun x acc Q hx hQ => ?_) ?_
  · obtain ⟨⟨i, j⟩, _, rfl⟩ := List.mem_map.mp hx
    (repeat (first | refine ⟨_, rfl, Nat.le_of_ble_eq_true rfl, ?_⟩ | refine ⟨_, rfl, ?_⟩ | refine ⟨_, _, rfl, ?_⟩ | refine ⟨_, _, rfl, rfl, ?_⟩ | refine ⟨_, _, _, rfl, rfl, rfl, ?_⟩ | refine ⟨_, _, _, rfl, rfl, by (first | exact kb_NoneType_int | exact kb_bool_int | exact kb_int_int | exact kb_str_int | exact kb_tuple_int | exact kb_list_int | exact kb_dict_int | exact kb_NoneType_bool | exact kb_bool_bool | exact kb_int_bool | exact kb_str_bool | exact kb_tuple_bool | exact kb_list_bool | exact kb_dict_bool | exact kb_NoneType_tuple | exact kb_bool_tuple | exact kb_int_tuple | exact kb_str_tuple | exact kb_tuple_tuple | exact kb_list_tuple | exact kb_dict_tuple), ?_⟩ | refine ⟨_, _, _, _, _, rfl, rfl, rfl, rfl, rfl, ?_⟩ | refine iteT ?_ | refine iteF ?_ | refine ⟨(by decide : List.Nodup _), ?_⟩ | refine ⟨rfl, ?_⟩))
    exact hQ _ rfl
  have hpne : ps ≠ [] := fun e => hdne (by rw [e]; rfl)
  (repeat (first | refine ⟨_, rfl, Nat.le_of_ble_eq_true rfl, ?_⟩ | refine ⟨_, rfl, ?_⟩ | refine ⟨_, _, rfl, ?_⟩ | refine ⟨_, _, rfl, rfl, ?_⟩ | refine ⟨_, _, _, rfl, rfl, rfl, ?_⟩ | refine ⟨_, _, _, rfl, rfl, by (first | exact kb_NoneType_int | exact kb_bool_int | exact kb_int_int | exact kb_str_int | exact kb_tuple_int | exact kb_list_int | exact kb_dict_int | exact kb_NoneType_bool | exact kb_bool_bool | exact kb_int_bool | exact kb_str_bool | exact kb_tuple_bool | exact kb_list_bool | exact kb_dict_bool | exact kb_NoneType_tuple | exact kb_bool_tuple | exact kb_int_tuple | exact kb_str_tuple | exact kb_tuple_tuple | exact kb_list_tuple | exact kb_dict_tuple), ?_⟩ | refine ⟨_, _, _, _, _, rfl, rfl, rfl, rfl, rfl, ?_⟩ | refine iteT ?_ | refine iteF ?_ | refine ⟨(by decide : List.Nodup _), ?_⟩ | refine ⟨rfl, ?_⟩))
  refine ⟨_, ps.map (·.2), rfl, by rw [List.map_map, List.map_map]; rfl, by rw [List.length_map]; exact List.length_pos_iff.mpr hpne, fun m hm hle => ?_⟩
  obtain ⟨q0, hq0, e0⟩ := List.mem_map.mp hm
  have hmx : IsMx ps m := ⟨⟨q0, hq0, e0⟩, fun q hq => hle q.2 (List.mem_map.mpr ⟨q, hq, rfl⟩)⟩
  refine Nrm.of ⟨[some (.fr (drD (.tup cs) (.tup (ps.map TD.prD)) y r m0)), some (.fr (.tup cs)), some (.fr (.tup (ps.map TD.prD))), some (.fr y), some (.fr r), s5, some (.fr (.int m)), none, none], []⟩ rfl ?_
  (repeat (first | refine ⟨_, rfl, Nat.le_of_ble_eq_true rfl, ?_⟩ | refine ⟨_, rfl, ?_⟩ | refine ⟨_, _, rfl, ?_⟩ | refine ⟨_, _, rfl, rfl, ?_⟩ | refine ⟨_, _, _, rfl, rfl, rfl, ?_⟩ | refine ⟨_, _, _, rfl, rfl, by (first | exact kb_NoneType_int | exact kb_bool_int | exact kb_int_int | exact kb_str_int | exact kb_tuple_int | exact kb_list_int | exact kb_dict_int | exact kb_NoneType_bool | exact kb_bool_bool | exact kb_int_bool | exact kb_str_bool | exact kb_tuple_bool | exact kb_list_bool | exact kb_dict_bool | exact kb_NoneType_tuple | exact kb_bool_tuple | exact kb_int_tuple | exact kb_str_tuple | exact kb_tuple_tuple | exact kb_list_tuple | exact kb_dict_tuple), ?_⟩ | refine ⟨_, _, _, _, _, rfl, rfl, rfl, rfl, rfl, ?_⟩ | refine iteT ?_ | refine iteF ?_ | refine ⟨(by decide : List.Nodup _), ?_⟩ | refine ⟨rfl, ?_⟩))
  refine ⟨hlt, fun ks nd hk => ?_⟩
  (repeat (first | refine ⟨_, rfl, Nat.le_of_ble_eq_true rfl, ?_⟩ | refine ⟨_, rfl, ?_⟩ | refine ⟨_, _, rfl, ?_⟩ | refine ⟨_, _, rfl, rfl, ?_⟩ | refine ⟨_, _, _, rfl, rfl, rfl, ?_⟩ | refine ⟨_, _, _, rfl, rfl, by (first | exact kb_NoneType_int | exact kb_bool_int | exact kb_int_int | exact kb_str_int | exact kb_tuple_int | exact kb_list_int | exact kb_dict_int | exact kb_NoneType_bool | exact kb_bool_bool | exact kb_int_bool | exact kb_str_bool | exact kb_tuple_bool | exact kb_list_bool | exact kb_dict_bool | exact kb_NoneType_tuple | exact kb_bool_tuple | exact kb_int_tuple | exact kb_str_tuple | exact kb_tuple_tuple | exact kb_list_tuple | exact kb_dict_tuple), ?_⟩ | refine ⟨_, _, _, _, _, rfl, rfl, rfl, rfl, rfl, ?_⟩ | refine iteT ?_ | refine iteF ?_ | refine ⟨(by decide : List.Nodup _), ?_⟩ | refine ⟨rfl, ?_⟩))
  refine ⟨_, _, _, _, rfl, rfl, rfl, rfl, rfl, rfl, _, rfl, ?_⟩
  have hcnt := reach_count (fun q hq => by have := hlt q hq; omega) ⟨q0, hq0, e0⟩ hmx.2 nd hk
  refine ite2 (fun hc => ?_) (fun hc => ?_)
  · (repeat (first | refine ⟨_, rfl, Nat.le_of_ble_eq_true rfl, ?_⟩ | refine ⟨_, rfl, ?_⟩ | refine ⟨_, _, rfl, ?_⟩ | refine ⟨_, _, rfl, rfl, ?_⟩ | refine ⟨_, _, _, rfl, rfl, rfl, ?_⟩ | refine ⟨_, _, _, rfl, rfl, by (first | exact kb_NoneType_int | exact kb_bool_int | exact kb_int_int | exact kb_str_int | exact kb_tuple_int | exact kb_list_int | exact kb_dict_int | exact kb_NoneType_bool | exact kb_bool_bool | exact kb_int_bool | exact kb_str_bool | exact kb_tuple_bool | exact kb_list_bool | exact kb_dict_bool | exact kb_NoneType_tuple | exact kb_bool_tuple | exact kb_int_tuple | exact kb_str_tuple | exact kb_tuple_tuple | exact kb_list_tuple | exact kb_dict_tuple), ?_⟩ | refine ⟨_, _, _, _, _, rfl, rfl, rfl, rfl, rfl, ?_⟩ | refine iteT ?_ | refine iteF ?_ | refine ⟨(by decide : List.Nodup _), ?_⟩ | refine ⟨rfl, ?_⟩))
    refine rt0 (bad2 fun ⟨ps', e, ok⟩ => ?_)
    have e2 := prs_inj (D.tup.inj e)
    subst e2
    rw [if_pos rfl, eqv_int, List.length_map] at hc
    have := hcnt.mpr ok.con
    simp [this] at hc
  have hok : PathsOk ps := ⟨hpne, hlt, hsrt, hcnt.mp (by
    rw [if_pos rfl, eqv_int, List.length_map] at hc
    simpa using hc)⟩
  clear hc hcnt hk nd ks
  refine Nrm.of ⟨[some (.fr (drD (.tup cs) (.tup (ps.map TD.prD)) y r m0)), some (.fr (.tup cs)), some (.fr (.tup (ps.map TD.prD))), some (.fr y), some (.fr r), s5, some (.fr (.int m)), none, none], []⟩ rfl ?_
  -- the pays
  have bad4 : arePaysB y (m + 1) = false → Pc [] (.fr (.str "pays")) := fun z => by rw [tl.pays hco rfl hok hmx z] at h; exact h
  have em : m + 1 - 1 = m := by omega
  rcases tup_or fy.gd with ⟨ys, rfl⟩ | ⟨_, _, c1, tt, ht, hk⟩
  rotate_left
  · (repeat (first | refine ⟨_, rfl, Nat.le_of_ble_eq_true rfl, ?_⟩ | refine ⟨_, rfl, ?_⟩ | refine ⟨_, _, rfl, ?_⟩ | refine ⟨_, _, rfl, rfl, ?_⟩ | refine ⟨_, _, _, rfl, rfl, rfl, ?_⟩ | refine ⟨_, _, _, rfl, rfl, by (first | exact kb_NoneType_int | exact kb_bool_int | exact kb_int_int | exact kb_str_int | exact kb_tuple_int | exact kb_list_int | exact kb_dict_int | exact kb_NoneType_bool | exact kb_bool_bool | exact kb_int_bool | exact kb_str_bool | exact kb_tuple_bool | exact kb_list_bool | exact kb_dict_bool | exact kb_NoneType_tuple | exact kb_bool_tuple | exact kb_int_tuple | exact kb_str_tuple | exact kb_tuple_tuple | exact kb_list_tuple | exact kb_dict_tuple), ?_⟩ | refine ⟨_, _, _, _, _, rfl, rfl, rfl, rfl, rfl, ?_⟩ | refine iteT ?_ | refine iteF ?_ | refine ⟨(by decide : List.Nodup _), ?_⟩ | refine ⟨rfl, ?_⟩))
    refine ⟨_, tt, false, rfl, ht, hk, ?_⟩
    (repeat (first | refine ⟨_, rfl, Nat.le_of_ble_eq_true rfl, ?_⟩ | refine ⟨_, rfl, ?_⟩ | refine ⟨_, _, rfl, ?_⟩ | refine ⟨_, _, rfl, rfl, ?_⟩ | refine ⟨_, _, _, rfl, rfl, rfl, ?_⟩ | refine ⟨_, _, _, rfl, rfl, by (first | exact kb_NoneType_int | exact kb_bool_int | exact kb_int_int | exact kb_str_int | exact kb_tuple_int | exact kb_list_int | exact kb_dict_int | exact kb_NoneType_bool | exact kb_bool_bool | exact kb_int_bool | exact kb_str_bool | exact kb_tuple_bool | exact kb_list_bool | exact kb_dict_bool | exact kb_NoneType_tuple | exact kb_bool_tuple | exact kb_int_tuple | exact kb_str_tuple | exact kb_tuple_tuple | exact kb_list_tuple | exact kb_dict_tuple), ?_⟩ | refine ⟨_, _, _, _, _, rfl, rfl, rfl, rfl, rfl, ?_⟩ | refine iteT ?_ | refine iteF ?_ | refine ⟨(by decide : List.Nodup _), ?_⟩ | refine ⟨rfl, ?_⟩))
    exact rt0 (bad4 (c1 _))
  have hyl := fy.few _ rfl
  have ey : arePaysB (.tup ys) (m + 1) = (ys.all (fun x => isPairB x 0 m (-20) 20) && upB ys) := by
    show (ys.all (fun x => isPairB x 0 (m + 1 - 1) (-20) 20) && upB ys) = _
    rw [em]
  (repeat (first | refine ⟨_, rfl, Nat.le_of_ble_eq_true rfl, ?_⟩ | refine ⟨_, rfl, ?_⟩ | refine ⟨_, _, rfl, ?_⟩ | refine ⟨_, _, rfl, rfl, ?_⟩ | refine ⟨_, _, _, rfl, rfl, rfl, ?_⟩ | refine ⟨_, _, _, rfl, rfl, by (first | exact kb_NoneType_int | exact kb_bool_int | exact kb_int_int | exact kb_str_int | exact kb_tuple_int | exact kb_list_int | exact kb_dict_int | exact kb_NoneType_bool | exact kb_bool_bool | exact kb_int_bool | exact kb_str_bool | exact kb_tuple_bool | exact kb_list_bool | exact kb_dict_bool | exact kb_NoneType_tuple | exact kb_bool_tuple | exact kb_int_tuple | exact kb_str_tuple | exact kb_tuple_tuple | exact kb_list_tuple | exact kb_dict_tuple), ?_⟩ | refine ⟨_, _, _, _, _, rfl, rfl, rfl, rfl, rfl, ?_⟩ | refine iteT ?_ | refine iteF ?_ | refine ⟨(by decide : List.Nodup _), ?_⟩ | refine ⟨rfl, ?_⟩))
  refine lc_map (fun x => .bl (isPairB x 0 m (-20) 20)) (by show ys.length < 1000000; omega) (fun d acc Q hd hQ => ?_) ?_
  · (repeat (first | refine ⟨_, rfl, Nat.le_of_ble_eq_true rfl, ?_⟩ | refine ⟨_, rfl, ?_⟩ | refine ⟨_, _, rfl, ?_⟩ | refine ⟨_, _, rfl, rfl, ?_⟩ | refine ⟨_, _, _, rfl, rfl, rfl, ?_⟩ | refine ⟨_, _, _, rfl, rfl, by (first | exact kb_NoneType_int | exact kb_bool_int | exact kb_int_int | exact kb_str_int | exact kb_tuple_int | exact kb_list_int | exact kb_dict_int | exact kb_NoneType_bool | exact kb_bool_bool | exact kb_int_bool | exact kb_str_bool | exact kb_tuple_bool | exact kb_list_bool | exact kb_dict_bool | exact kb_NoneType_tuple | exact kb_bool_tuple | exact kb_int_tuple | exact kb_str_tuple | exact kb_tuple_tuple | exact kb_list_tuple | exact kb_dict_tuple), ?_⟩ | refine ⟨_, _, _, _, _, rfl, rfl, rfl, rfl, rfl, ?_⟩ | refine iteT ?_ | refine iteF ?_ | refine ⟨(by decide : List.Nodup _), ?_⟩ | refine ⟨rfl, ?_⟩))
    refine ⟨(fy.gp.it _ rfl).2 d hd, ?_⟩
    exact hQ _ rfl
  (repeat (first | refine ⟨_, rfl, Nat.le_of_ble_eq_true rfl, ?_⟩ | refine ⟨_, rfl, ?_⟩ | refine ⟨_, _, rfl, ?_⟩ | refine ⟨_, _, rfl, rfl, ?_⟩ | refine ⟨_, _, _, rfl, rfl, rfl, ?_⟩ | refine ⟨_, _, _, rfl, rfl, by (first | exact kb_NoneType_int | exact kb_bool_int | exact kb_int_int | exact kb_str_int | exact kb_tuple_int | exact kb_list_int | exact kb_dict_int | exact kb_NoneType_bool | exact kb_bool_bool | exact kb_int_bool | exact kb_str_bool | exact kb_tuple_bool | exact kb_list_bool | exact kb_dict_bool | exact kb_NoneType_tuple | exact kb_bool_tuple | exact kb_int_tuple | exact kb_str_tuple | exact kb_tuple_tuple | exact kb_list_tuple | exact kb_dict_tuple), ?_⟩ | refine ⟨_, _, _, _, _, rfl, rfl, rfl, rfl, rfl, ?_⟩ | refine iteT ?_ | refine iteF ?_ | refine ⟨(by decide : List.Nodup _), ?_⟩ | refine ⟨rfl, ?_⟩))
  refine ⟨_, ys.map fun x => isPairB x 0 m (-20) 20, rfl, by rw [List.map_map]; rfl, ?_⟩
  (repeat (first | refine ⟨_, rfl, Nat.le_of_ble_eq_true rfl, ?_⟩ | refine ⟨_, rfl, ?_⟩ | refine ⟨_, _, rfl, ?_⟩ | refine ⟨_, _, rfl, rfl, ?_⟩ | refine ⟨_, _, _, rfl, rfl, rfl, ?_⟩ | refine ⟨_, _, _, rfl, rfl, by (first | exact kb_NoneType_int | exact kb_bool_int | exact kb_int_int | exact kb_str_int | exact kb_tuple_int | exact kb_list_int | exact kb_dict_int | exact kb_NoneType_bool | exact kb_bool_bool | exact kb_int_bool | exact kb_str_bool | exact kb_tuple_bool | exact kb_list_bool | exact kb_dict_bool | exact kb_NoneType_tuple | exact kb_bool_tuple | exact kb_int_tuple | exact kb_str_tuple | exact kb_tuple_tuple | exact kb_list_tuple | exact kb_dict_tuple), ?_⟩ | refine ⟨_, _, _, _, _, rfl, rfl, rfl, rfl, rfl, ?_⟩ | refine iteT ?_ | refine iteF ?_ | refine ⟨(by decide : List.Nodup _), ?_⟩ | refine ⟨rfl, ?_⟩))
  refine ite2 (fun hc => ?_) (fun hc => ?_)
  · (repeat (first | refine ⟨_, rfl, Nat.le_of_ble_eq_true rfl, ?_⟩ | refine ⟨_, rfl, ?_⟩ | refine ⟨_, _, rfl, ?_⟩ | refine ⟨_, _, rfl, rfl, ?_⟩ | refine ⟨_, _, _, rfl, rfl, rfl, ?_⟩ | refine ⟨_, _, _, rfl, rfl, by (first | exact kb_NoneType_int | exact kb_bool_int | exact kb_int_int | exact kb_str_int | exact kb_tuple_int | exact kb_list_int | exact kb_dict_int | exact kb_NoneType_bool | exact kb_bool_bool | exact kb_int_bool | exact kb_str_bool | exact kb_tuple_bool | exact kb_list_bool | exact kb_dict_bool | exact kb_NoneType_tuple | exact kb_bool_tuple | exact kb_int_tuple | exact kb_str_tuple | exact kb_tuple_tuple | exact kb_list_tuple | exact kb_dict_tuple), ?_⟩ | refine ⟨_, _, _, _, _, rfl, rfl, rfl, rfl, rfl, ?_⟩ | refine iteT ?_ | refine iteF ?_ | refine ⟨(by decide : List.Nodup _), ?_⟩ | refine ⟨rfl, ?_⟩))
    refine rt0 (bad4 ?_)
    rw [ey]
    have hc' : (ys.map fun x => isPairB x 0 m (-20) 20).all id = false := by simpa using hc
    rw [List.all_map] at hc'
    have hc2 : ys.all (fun x => isPairB x 0 m (-20) 20) = false := hc'
    rw [hc2]
    rfl
  have hall2 : ∀ x ∈ ys, isPairB x 0 m (-20) 20 = true := by
    have hc' : (ys.map fun x => isPairB x 0 m (-20) 20).all id = true := by simpa using hc
    rw [List.all_map] at hc'
    exact List.all_eq_true.mp hc'
  obtain ⟨qs, rfl, hqs⟩ := prs_of_all ys hall2
  have hql : qs.length < 60 := by rw [List.length_map] at hyl; exact hyl
  rw [show (qs.map TD.prD).all (fun x => isPairB x 0 m (-20) 20) = true from List.all_eq_true.mpr hall2, Bool.true_and] at ey
  clear hc
  refine Nrm.of ⟨[some (.fr (drD (.tup cs) (.tup (ps.map TD.prD)) (.tup (qs.map TD.prD)) r m0)), some (.fr (.tup cs)), some (.fr (.tup (ps.map TD.prD))), some (.fr (.tup (qs.map TD.prD))), some (.fr r), s5, some (.fr (.int m)), none, none], []⟩ rfl ?_
  (repeat (first | refine ⟨_, rfl, Nat.le_of_ble_eq_true rfl, ?_⟩ | refine ⟨_, rfl, ?_⟩ | refine ⟨_, _, rfl, ?_⟩ | refine ⟨_, _, rfl, rfl, ?_⟩ | refine ⟨_, _, _, rfl, rfl, rfl, ?_⟩ | refine ⟨_, _, _, rfl, rfl, by (first | exact kb_NoneType_int | exact kb_bool_int | exact kb_int_int | exact kb_str_int | exact kb_tuple_int | exact kb_list_int | exact kb_dict_int | exact kb_NoneType_bool | exact kb_bool_bool | exact kb_int_bool | exact kb_str_bool | exact kb_tuple_bool | exact kb_list_bool | exact kb_dict_bool | exact kb_NoneType_tuple | exact kb_bool_tuple | exact kb_int_tuple | exact kb_str_tuple | exact kb_tuple_tuple | exact kb_list_tuple | exact kb_dict_tuple), ?_⟩ | refine ⟨_, _, _, _, _, rfl, rfl, rfl, rfl, rfl, ?_⟩ | refine iteT ?_ | refine iteF ?_ | refine ⟨(by decide : List.Nodup _), ?_⟩ | refine ⟨rfl, ?_⟩))
  refine lc_map (fun x => .int (fstI x)) (by show (qs.map TD.prD).length < 1000000; rw [List.length_map]; omega) (fun x acc Q hx hQ => ?_) ?_
  · obtain ⟨⟨i, j⟩, _, rfl⟩ := List.mem_map.mp hx
    (repeat (first | refine ⟨_, rfl, Nat.le_of_ble_eq_true rfl, ?_⟩ | refine ⟨_, rfl, ?_⟩ | refine ⟨_, _, rfl, ?_⟩ | refine ⟨_, _, rfl, rfl, ?_⟩ | refine ⟨_, _, _, rfl, rfl, rfl, ?_⟩ | refine ⟨_, _, _, rfl, rfl, by (first | exact kb_NoneType_int | exact kb_bool_int | exact kb_int_int | exact kb_str_int | exact kb_tuple_int | exact kb_list_int | exact kb_dict_int | exact kb_NoneType_bool | exact kb_bool_bool | exact kb_int_bool | exact kb_str_bool | exact kb_tuple_bool | exact kb_list_bool | exact kb_dict_bool | exact kb_NoneType_tuple | exact kb_bool_tuple | exact kb_int_tuple | exact kb_str_tuple | exact kb_tuple_tuple | exact kb_list_tuple | exact kb_dict_tuple), ?_⟩ | refine ⟨_, _, _, _, _, rfl, rfl, rfl, rfl, rfl, ?_⟩ | refine iteT ?_ | refine iteF ?_ | refine ⟨(by decide : List.Nodup _), ?_⟩ | refine ⟨rfl, ?_⟩))
    exact hQ _ rfl
  (repeat (first | refine ⟨_, rfl, Nat.le_of_ble_eq_true rfl, ?_⟩ | refine ⟨_, rfl, ?_⟩ | refine ⟨_, _, rfl, ?_⟩ | refine ⟨_, _, rfl, rfl, ?_⟩ | refine ⟨_, _, _, rfl, rfl, rfl, ?_⟩ | refine ⟨_, _, _, rfl, rfl, by (first | exact kb_NoneType_int | exact kb_bool_int | exact kb_int_int | exact kb_str_int | exact kb_tuple_int | exact kb_list_int | exact kb_dict_int | exact kb_NoneType_bool | exact kb_bool_bool | exact kb_int_bool | exact kb_str_bool | exact kb_tuple_bool | exact kb_list_bool | exact kb_dict_bool | exact kb_NoneType_tuple | exact kb_bool_tuple | exact kb_int_tuple | exact kb_str_tuple | exact kb_tuple_tuple | exact kb_list_tuple | exact kb_dict_tuple), ?_⟩ | refine ⟨_, _, _, _, _, rfl, rfl, rfl, rfl, rfl, ?_⟩ | refine iteT ?_ | refine iteF ?_ | refine ⟨(by decide : List.Nodup _), ?_⟩ | refine ⟨rfl, ?_⟩))
  refine lc_map (fun x => .int (fstI x)) (by show (qs.map TD.prD).length < 1000000; rw [List.length_map]; omega) (fun x acc Q hx hQ => ?_) ?_
  · obtain ⟨⟨i, j⟩, _, rfl⟩ := List.mem_map.mp hx
    (repeat (first | refine ⟨_, rfl, Nat.le_of_ble_eq_true rfl, ?_⟩ | refine ⟨_, rfl, ?_⟩ | refine ⟨_, _, rfl, ?_⟩ | refine ⟨_, _, rfl, rfl, ?_⟩ | refine ⟨_, _, _, rfl, rfl, rfl, ?_⟩ | refine ⟨_, _, _, rfl, rfl, by (first | exact kb_NoneType_int | exact kb_bool_int | exact kb_int_int | exact kb_str_int | exact kb_tuple_int | exact kb_list_int | exact kb_dict_int | exact kb_NoneType_bool | exact kb_bool_bool | exact kb_int_bool | exact kb_str_bool | exact kb_tuple_bool | exact kb_list_bool | exact kb_dict_bool | exact kb_NoneType_tuple | exact kb_bool_tuple | exact kb_int_tuple | exact kb_str_tuple | exact kb_tuple_tuple | exact kb_list_tuple | exact kb_dict_tuple), ?_⟩ | refine ⟨_, _, _, _, _, rfl, rfl, rfl, rfl, rfl, ?_⟩ | refine iteT ?_ | refine iteF ?_ | refine ⟨(by decide : List.Nodup _), ?_⟩ | refine ⟨rfl, ?_⟩))
    exact hQ _ rfl
  have efst : (qs.map TD.prD).map (fun x => D.int (fstI x)) = (qs.map (·.1)).map D.int := by rw [List.map_map, List.map_map]; rfl
  rw [efst]
  refine .inr ⟨qs.map (·.1), rfl, by rw [List.length_map]; omega, fun ms hms hmm => ?_⟩
  (repeat (first | refine ⟨_, rfl, Nat.le_of_ble_eq_true rfl, ?_⟩ | refine ⟨_, rfl, ?_⟩ | refine ⟨_, _, rfl, ?_⟩ | refine ⟨_, _, rfl, rfl, ?_⟩ | refine ⟨_, _, _, rfl, rfl, rfl, ?_⟩ | refine ⟨_, _, _, rfl, rfl, by (first | exact kb_NoneType_int | exact kb_bool_int | exact kb_int_int | exact kb_str_int | exact kb_tuple_int | exact kb_list_int | exact kb_dict_int | exact kb_NoneType_bool | exact kb_bool_bool | exact kb_int_bool | exact kb_str_bool | exact kb_tuple_bool | exact kb_list_bool | exact kb_dict_bool | exact kb_NoneType_tuple | exact kb_bool_tuple | exact kb_int_tuple | exact kb_str_tuple | exact kb_tuple_tuple | exact kb_list_tuple | exact kb_dict_tuple), ?_⟩ | refine ⟨_, _, _, _, _, rfl, rfl, rfl, rfl, rfl, ?_⟩ | refine iteT ?_ | refine iteF ?_ | refine ⟨(by decide : List.Nodup _), ?_⟩ | refine ⟨rfl, ?_⟩))
  refine ⟨_, _, _, _, rfl, rfl, pyD_ints _, pyD_ints _, shaped_ints _, shaped_ints _, _, rfl, ?_⟩
  refine ite2 (fun hc => ?_) (fun hc => ?_)
  · (repeat (first | refine ⟨_, rfl, Nat.le_of_ble_eq_true rfl, ?_⟩ | refine ⟨_, rfl, ?_⟩ | refine ⟨_, _, rfl, ?_⟩ | refine ⟨_, _, rfl, rfl, ?_⟩ | refine ⟨_, _, _, rfl, rfl, rfl, ?_⟩ | refine ⟨_, _, _, rfl, rfl, by (first | exact kb_NoneType_int | exact kb_bool_int | exact kb_int_int | exact kb_str_int | exact kb_tuple_int | exact kb_list_int | exact kb_dict_int | exact kb_NoneType_bool | exact kb_bool_bool | exact kb_int_bool | exact kb_str_bool | exact kb_tuple_bool | exact kb_list_bool | exact kb_dict_bool | exact kb_NoneType_tuple | exact kb_bool_tuple | exact kb_int_tuple | exact kb_str_tuple | exact kb_tuple_tuple | exact kb_list_tuple | exact kb_dict_tuple), ?_⟩ | refine ⟨_, _, _, _, _, rfl, rfl, rfl, rfl, rfl, ?_⟩ | refine iteT ?_ | refine iteF ?_ | refine ⟨(by decide : List.Nodup _), ?_⟩ | refine ⟨rfl, ?_⟩))
    refine rt0 (bad4 ?_)
    rw [ey]
    cases hu : upB (qs.map TD.prD) with
    | false => rfl
    | true =>
      exfalso
      rw [if_pos rfl, eqv_intsL] at hc
      have e3 : ms = qs.map (·.1) := ext_sorted (fun a b h h' => by omega) hms (upB_iff.mp hu) hmm
      simp [e3] at hc
  have hpy : arePaysB (.tup (qs.map TD.prD)) (m + 1) = true := by
    rw [ey]
    refine upB_iff.mpr ?_
    rw [if_pos rfl, eqv_intsL] at hc
    have e3 : qs.map (·.1) = ms := by simpa using hc
    rw [e3]
    exact hms
  clear hc hms hmm ms
  refine Nrm.of ⟨[some (.fr (drD (.tup cs) (.tup (ps.map TD.prD)) (.tup (qs.map TD.prD)) r m0)), some (.fr (.tup cs)), some (.fr (.tup (ps.map TD.prD))), some (.fr (.tup (qs.map TD.prD))), some (.fr r), s5, some (.fr (.int m)), none, none], []⟩ rfl ?_
  -- the road
  obtain ⟨f1, f2⟩ := tl.fin hco rfl hok hmx hpy rfl
  (repeat (first | refine ⟨_, rfl, Nat.le_of_ble_eq_true rfl, ?_⟩ | refine ⟨_, rfl, ?_⟩ | refine ⟨_, _, rfl, ?_⟩ | refine ⟨_, _, rfl, rfl, ?_⟩ | refine ⟨_, _, _, rfl, rfl, rfl, ?_⟩ | refine ⟨_, _, _, rfl, rfl, by (first | exact kb_NoneType_int | exact kb_bool_int | exact kb_int_int | exact kb_str_int | exact kb_tuple_int | exact kb_list_int | exact kb_dict_int | exact kb_NoneType_bool | exact kb_bool_bool | exact kb_int_bool | exact kb_str_bool | exact kb_tuple_bool | exact kb_list_bool | exact kb_dict_bool | exact kb_NoneType_tuple | exact kb_bool_tuple | exact kb_int_tuple | exact kb_str_tuple | exact kb_tuple_tuple | exact kb_list_tuple | exact kb_dict_tuple), ?_⟩ | refine ⟨_, _, _, _, _, rfl, rfl, rfl, rfl, rfl, ?_⟩ | refine iteT ?_ | refine iteF ?_ | refine ⟨(by decide : List.Nodup _), ?_⟩ | refine ⟨rfl, ?_⟩))
  refine ⟨fr.gd, ?_⟩
  refine ⟨_, rfl, ?_⟩
  refine ite2 (fun hc => ?_) (fun hc => ?_)
  · obtain ⟨r1, r2, rfl, _⟩ := isPair_form hc
    (repeat (first | refine ⟨_, rfl, Nat.le_of_ble_eq_true rfl, ?_⟩ | refine ⟨_, rfl, ?_⟩ | refine ⟨_, _, rfl, ?_⟩ | refine ⟨_, _, rfl, rfl, ?_⟩ | refine ⟨_, _, _, rfl, rfl, rfl, ?_⟩ | refine ⟨_, _, _, rfl, rfl, by (first | exact kb_NoneType_int | exact kb_bool_int | exact kb_int_int | exact kb_str_int | exact kb_tuple_int | exact kb_list_int | exact kb_dict_int | exact kb_NoneType_bool | exact kb_bool_bool | exact kb_int_bool | exact kb_str_bool | exact kb_tuple_bool | exact kb_list_bool | exact kb_dict_bool | exact kb_NoneType_tuple | exact kb_bool_tuple | exact kb_int_tuple | exact kb_str_tuple | exact kb_tuple_tuple | exact kb_list_tuple | exact kb_dict_tuple), ?_⟩ | refine ⟨_, _, _, _, _, rfl, rfl, rfl, rfl, rfl, ?_⟩ | refine iteT ?_ | refine iteF ?_ | refine ⟨(by decide : List.Nodup _), ?_⟩ | refine ⟨rfl, ?_⟩))
    refine ⟨_, _, rfl, prsOf_prs qs, ?_⟩
    (repeat (first | refine ⟨_, rfl, Nat.le_of_ble_eq_true rfl, ?_⟩ | refine ⟨_, rfl, ?_⟩ | refine ⟨_, _, rfl, ?_⟩ | refine ⟨_, _, rfl, rfl, ?_⟩ | refine ⟨_, _, _, rfl, rfl, rfl, ?_⟩ | refine ⟨_, _, _, rfl, rfl, by (first | exact kb_NoneType_int | exact kb_bool_int | exact kb_int_int | exact kb_str_int | exact kb_tuple_int | exact kb_list_int | exact kb_dict_int | exact kb_NoneType_bool | exact kb_bool_bool | exact kb_int_bool | exact kb_str_bool | exact kb_tuple_bool | exact kb_list_bool | exact kb_dict_bool | exact kb_NoneType_tuple | exact kb_bool_tuple | exact kb_int_tuple | exact kb_str_tuple | exact kb_tuple_tuple | exact kb_list_tuple | exact kb_dict_tuple), ?_⟩ | refine ⟨_, _, _, _, _, rfl, rfl, rfl, rfl, rfl, ?_⟩ | refine iteT ?_ | refine iteF ?_ | refine ⟨(by decide : List.Nodup _), ?_⟩ | refine ⟨rfl, ?_⟩))
    refine ⟨_, _, _, _, rfl, rfl, rfl, _, rfl, ?_⟩
    refine ite2 (fun hc5 => ?_) (fun hc5 => ?_)
    · have hno : ¬ ∃ q ∈ qs, q.1 = r1 := fun z => by
        rw [if_pos rfl, (hasK_pay qs r1).mpr z] at hc5
        cases hc5
      have := f1 ⟨(r1, r2), rfl, hc, fun q hq e => hno ⟨q, hq, e⟩⟩
      rw [this] at h
      exact rt0 h
    · have hyes : ∃ q ∈ qs, q.1 = r1 := by
        rw [if_pos rfl] at hc5
        exact (hasK_pay qs r1).mp (by simpa using hc5)
      have := f2 fun ⟨rd, e, _, hno⟩ => by
        have e2 := prD_inj (p := (r1, r2)) e
        subst e2
        obtain ⟨q, hq, e3⟩ := hyes
        exact hno q hq e3
      rw [this] at h
      exact rt0 h
  · refine iteF ?_
    have := f2 fun ⟨rd, e, z, _⟩ => hc z
    rw [this] at h
    exact rt0 h
end
end Toss
namespace Toss
open PySem PySem.Spec PyProof.Rows L2 TD He
/-! ### what fits -/
def fitB (d : D) : Bool := (wholeD d).isSome && match d with
  | .tup ds => decide (ds.length < 60) && ds.all (fun x => (wholeD x).isSome && match x with
      | .tup es => es.all fun z => (wholeD z).isSome
      | _ => true) && (match pyDs ds with
      | some xs => SeqAt.shaped (.tuple xs)
      | none => false)
  | _ => true
theorem some_of {α : Type} {o : Option α} (h : o.isSome = true) : ∃ k, o = some k := by
  cases o with
  | none => cases h
  | some k => exact ⟨k, rfl⟩
theorem fit_of {d : D} (h : fitB d = true) : Fit d := by
  unfold fitB at h
  rw [Bool.and_eq_true] at h
  obtain ⟨h1, h2⟩ := h
  cases d with
  | tup ds =>
    simp only [Bool.and_eq_true, decide_eq_true_eq, List.all_eq_true] at h2
    obtain ⟨⟨h3, h4⟩, h5⟩ := h2
    have gx : ∀ x ∈ ds, GoodD x := fun x hx => by
      obtain ⟨h6, h7⟩ := h4 x hx
      refine ⟨some_of h6, fun es e z hz => ?_⟩
      subst e
      simp only [List.all_eq_true] at h7
      exact some_of (h7 z hz)
    refine ⟨⟨some_of h1, fun es e x hx => ?_⟩, ⟨some_of h1, fun es e => ?_⟩, fun es e => ?_, fun es e => ?_⟩
    · cases e; exact (gx x hx).ty
    · cases e; exact ⟨by omega, gx⟩
    · cases e; exact h3
    · cases e
      split at h5
      · rename_i xs hxs; exact ⟨xs, hxs, h5⟩
      · cases h5
  | _ => exact ⟨⟨some_of h1, (fun es e => by cases e)⟩, ⟨some_of h1, (fun es e => by cases e)⟩, (fun es e => by cases e), (fun es e => by cases e)⟩
theorem fit_oddL : oddL.all fitB = true := by decide +kernel
theorem fit_odd {v : D} (h : v ∈ oddL) : Fit v := fit_of (List.all_eq_true.mp fit_oddL v h)
theorem fit_pr (q : Int × Int) : Fit (TD.prD q) := ⟨good_pr q, ⟨⟨_, rfl⟩, fun ds e => by
  have e' := D.tup.inj e
  rw [← e']
  refine ⟨by show 2 < 1000; omega, fun x hx => ?_⟩
  rcases List.mem_cons.mp hx with rfl | hx
  · exact ⟨⟨_, rfl⟩, fun _ z => by cases z⟩
  · rw [List.mem_singleton.mp hx]
    exact ⟨⟨_, rfl⟩, fun _ z => by cases z⟩⟩, fun ds e => by
  have e' := D.tup.inj e
  rw [← e']
  show 2 < 60
  omega, fun ds e => by
  have e' := D.tup.inj e
  rw [← e']
  exact ⟨_, rfl, shaped_pr q⟩⟩
theorem fit_prs {ps : List (Int × Int)} (h : ps.length < 60) : Fit (.tup (ps.map TD.prD)) := ⟨⟨⟨_, rfl⟩, fun ds e x hx => by
  have e' := D.tup.inj e
  rw [← e'] at hx
  obtain ⟨q, _, rfl⟩ := List.mem_map.mp hx
  exact ⟨_, rfl⟩⟩, good_prs (by omega), fun ds e => by
  have e' := D.tup.inj e
  rw [← e', List.length_map]
  exact h, fun ds e => by
  have e' := D.tup.inj e
  rw [← e']
  exact ⟨_, pyDs_prs ps, shaped_prsT ps⟩⟩
theorem refused_of {K : PySem.W.Frag} {c p y r w : D} {m : Int} (fc : Fit c) (fp : Fit p) (fy : Fit y) (fr : Fit r) (tl : Tl c p y r w) {Pc : List CC → TD.Arg → Prop} {Xc : List CC → Exn → Prop} (h : Pc [] (.fr w)) : d_refused K [.fr (drD c p y r m)] Pc Xc := by
  refine ⟨c, p, y, r, m, rfl, c, p, y, r, rfl, fc.gd, fp.gp, fy.gp, fr.gd, fun hc => .inl ⟨rfl, ?_⟩, fun hc hp => .inr (.inl ⟨rfl, ?_⟩), fun hc ps m e ok mx => ⟨fun hy => .inr (.inr (.inl ⟨rfl, ?_⟩)), fun hy qs ey => ⟨fun hr => .inr (.inr (.inr ⟨rfl, ?_⟩)), fun rd er hr => ⟨fun ex => .inr (.inr (.inr ⟨rfl, ?_⟩)), fun no co ec => ⟨_, rfl, rfl, ?_⟩⟩⟩⟩⟩
  · rw [tl.coin hc] at h; exact h
  · rw [tl.paths hc hp] at h; exact h
  · rw [tl.pays hc e ok mx hy] at h; exact h
  · rw [(tl.fin hc e ok mx hy ey).2 fun ⟨rd, _, z, _⟩ => by rw [hr] at z; cases z] at h; exact h
  · rw [(tl.fin hc e ok mx hy ey).2 fun ⟨rd', e', _, no⟩ => by
      have := prD_inj (er.symm.trans e')
      subst this
      obtain ⟨q, hq, e3⟩ := ex
      exact no q hq e3] at h; exact h
  · rw [(tl.fin hc e ok mx hy ey).1 ⟨rd, er, hr, no⟩] at h; exact h
theorem tl_fl {c p y r w : D} (h : Tl c p y r w) : ∃ v, fl w = some v ∧ scal v v = true := by
  rcases h with ⟨_, rfl⟩ | ⟨_, _, rfl⟩ | ⟨_, _, _, _, _, _, ⟨_, rfl⟩ | ⟨_, _, _, ⟨_, rfl⟩ | ⟨_, rfl⟩⟩⟩ <;> exact ⟨_, rfl, rfl⟩
/-- a drawn game's parts, told in a row -/
def partsP (g : Gm) : List PyData := [prP g.coin, .tuple (g.paths.map prP), .tuple (g.pays.map prP), prP g.road, .int g.many]
theorem pyDs_parts (g : Gm) : pyDs [TD.prD g.coin, .tup (g.paths.map TD.prD), .tup (g.pays.map TD.prD), TD.prD g.road, .int g.many] = some (partsP g) := by
  simp only [pyDs, pyD_pr, pyD_prsT]
  rfl
theorem shaped_parts (g : Gm) : ∀ p ∈ partsP g, SeqAt.shaped p = true := by
  intro p hp
  unfold partsP at hp
  simp only [List.mem_cons, List.not_mem_nil, or_false] at hp
  rcases hp with rfl | rfl | rfl | rfl | rfl
  · exact shaped_pr _
  · exact shaped_prsT _
  · exact shaped_prsT _
  · exact shaped_pr _
  · rfl
theorem shaped_partsL (g : Gm) : SeqAt.shaped (.list (partsP g)) = true := by
  have h1 := depth_prs g.paths
  have h2 := depth_prs g.pays
  have h3 : ∀ q, (prP q).depth = 1 := fun q => by simp [prP, PyData.depth, PyData.depthAll]
  have h4 : ∀ q, (prP q).canLay0 = true := fun q => rfl
  simp only [SeqAt.shaped, partsP, PyData.canLay0, PyData.canLayAll0, PyData.depth, PyData.depthAll, lay_prs, h3, h4]
  simp
  omega
theorem eqv_parts (g g' : Gm) : PyData.eqvAll (partsP g) (partsP g') = (sameB g g' && decide (g.many = g'.many)) := by
  simp only [partsP, PyData.eqvAll, eqv_pr, eqv_prsT, eqv_int, sameB, Bool.and_true, Bool.and_assoc]
theorem same_many {g g' : Gm} (h : g.Ok) (h' : g'.Ok) (e : sameB g g' = true) : g.many = g'.many := by
  unfold sameB at e
  simp at e
  have h1 := h.mx
  rw [e.2.1] at h1
  have := h1.uniq h'.mx
  omega
theorem dicEq_parts (g g' : Gm) : dicEqB dKeys dKeys (partsP g) (partsP g') = PyData.eqvAll (partsP g) (partsP g') := by
  simp only [dicEqB, hitP, getP, dKeys, partsP, PyData.eqvAll]
  simp [show ¬ (Str.ofString "coin" = Str.ofString "paths") by decide +kernel, show ¬ (Str.ofString "coin" = Str.ofString "pays") by decide +kernel, show ¬ (Str.ofString "coin" = Str.ofString "road") by decide +kernel, show ¬ (Str.ofString "coin" = Str.ofString "many") by decide +kernel, show ¬ (Str.ofString "paths" = Str.ofString "pays") by decide +kernel, show ¬ (Str.ofString "paths" = Str.ofString "road") by decide +kernel, show ¬ (Str.ofString "paths" = Str.ofString "many") by decide +kernel, show ¬ (Str.ofString "pays" = Str.ofString "road") by decide +kernel, show ¬ (Str.ofString "pays" = Str.ofString "many") by decide +kernel, show ¬ (Str.ofString "road" = Str.ofString "many") by decide +kernel]
end Toss
namespace Toss
open PySem PySem.Spec PyProof.Rows L2 TD He
section
variable {P : Program} {w : World} {K : PySem.W.Frag} {mg : Str → Option Value} {base : Heap}
def d_eq2 (K : PySem.W.Frag) : DSp := fun as Pc Xc => d_eq K as Pc Xc ∨ ∃ g : Gm, ∃ ks ds, as = [.fr (gameD K g), .fr (.dic ks ds)] ∧ Pc [] (.fr (.bl false))
theorem ok_eq2 (V : Ev K mg) : MethOk P w K mg base 1 (ga K "Game") "__eq__" ["self", "other"] (d_eq2 K) := by
  refine V.M_Game___eq__.ok sc_Game___eq__ 0 (fun as Pc Xc hh => by rcases hh with ⟨g, g', e, _⟩ | ⟨g, ks, ds, e, _⟩ <;> (subst e; exact ⟨rfl, rfl⟩)) ?_
  intro f cdv A outer s H E B as Pc Xc h hB hr tk hp
  refine ⟨_, ((dss_cons (ds_if (dt_or (dw_or (dt_not (dt_val (de_isiC V.g_isinstance V.is_Game (da_cons (dv 1) (da_cons (de_gref V.n_Game) da_nil))))) (dw_or (dt_ne (hu64 hr) (de_fld V.cl_Game V.na_Game_weights (dv 0)) (de_fld V.cl_Game V.na_Game_weights (dv 1))) (dw_or1 (dt_ne (hu64 hr) (de_fld V.cl_Game V.na_Game_ways (dv 0)) (de_fld V.cl_Game V.na_Game_ways (dv 1))))))) (dss_one (ds_ret de_bl)) dss_nil) (dss_one (ds_ret (de_and (de_eq (hu64 hr) (de_fld V.cl_Game V.na_Game_ends (dv 0)) (de_fld V.cl_Game V.na_Game_ends (dv 1))) (de_one (de_eq (hu64 hr) (de_fld V.cl_Game V.na_Game_lane (dv 0)) (de_fld V.cl_Game V.na_Game_lane (dv 1))))))))), ?_⟩
  rcases h with ⟨g, g', rfl, h⟩ | ⟨g, ks, ds, rfl, h⟩
  rotate_left
  · (repeat (first | refine ⟨_, rfl, Nat.le_of_ble_eq_true rfl, ?_⟩ | refine ⟨_, rfl, ?_⟩ | refine ⟨_, _, rfl, ?_⟩ | refine ⟨_, _, rfl, rfl, ?_⟩ | refine ⟨_, _, _, rfl, rfl, rfl, ?_⟩ | refine ⟨_, _, _, rfl, rfl, by (first | exact kb_NoneType_int | exact kb_bool_int | exact kb_int_int | exact kb_str_int | exact kb_tuple_int | exact kb_list_int | exact kb_dict_int | exact kb_NoneType_bool | exact kb_bool_bool | exact kb_int_bool | exact kb_str_bool | exact kb_tuple_bool | exact kb_list_bool | exact kb_dict_bool | exact kb_NoneType_tuple | exact kb_bool_tuple | exact kb_int_tuple | exact kb_str_tuple | exact kb_tuple_tuple | exact kb_list_tuple | exact kb_dict_tuple), ?_⟩ | refine ⟨_, _, _, _, _, rfl, rfl, rfl, rfl, rfl, ?_⟩ | refine iteT ?_ | refine iteF ?_ | refine ⟨(by decide : List.Nodup _), ?_⟩ | refine ⟨rfl, ?_⟩))
    refine ⟨_, false, rfl, .inr ⟨_, _, rfl, rfl, rfl⟩, ?_⟩
    (repeat (first | refine ⟨_, rfl, Nat.le_of_ble_eq_true rfl, ?_⟩ | refine ⟨_, rfl, ?_⟩ | refine ⟨_, _, rfl, ?_⟩ | refine ⟨_, _, rfl, rfl, ?_⟩ | refine ⟨_, _, _, rfl, rfl, rfl, ?_⟩ | refine ⟨_, _, _, rfl, rfl, by (first | exact kb_NoneType_int | exact kb_bool_int | exact kb_int_int | exact kb_str_int | exact kb_tuple_int | exact kb_list_int | exact kb_dict_int | exact kb_NoneType_bool | exact kb_bool_bool | exact kb_int_bool | exact kb_str_bool | exact kb_tuple_bool | exact kb_list_bool | exact kb_dict_bool | exact kb_NoneType_tuple | exact kb_bool_tuple | exact kb_int_tuple | exact kb_str_tuple | exact kb_tuple_tuple | exact kb_list_tuple | exact kb_dict_tuple), ?_⟩ | refine ⟨_, _, _, _, _, rfl, rfl, rfl, rfl, rfl, ?_⟩ | refine iteT ?_ | refine iteF ?_ | refine ⟨(by decide : List.Nodup _), ?_⟩ | refine ⟨rfl, ?_⟩))
    exact rt0 h
  (repeat (first | refine ⟨_, rfl, Nat.le_of_ble_eq_true rfl, ?_⟩ | refine ⟨_, rfl, ?_⟩ | refine ⟨_, _, rfl, ?_⟩ | refine ⟨_, _, rfl, rfl, ?_⟩ | refine ⟨_, _, _, rfl, rfl, rfl, ?_⟩ | refine ⟨_, _, _, rfl, rfl, by (first | exact kb_NoneType_int | exact kb_bool_int | exact kb_int_int | exact kb_str_int | exact kb_tuple_int | exact kb_list_int | exact kb_dict_int | exact kb_NoneType_bool | exact kb_bool_bool | exact kb_int_bool | exact kb_str_bool | exact kb_tuple_bool | exact kb_list_bool | exact kb_dict_bool | exact kb_NoneType_tuple | exact kb_bool_tuple | exact kb_int_tuple | exact kb_str_tuple | exact kb_tuple_tuple | exact kb_list_tuple | exact kb_dict_tuple), ?_⟩ | refine ⟨_, _, _, _, _, rfl, rfl, rfl, rfl, rfl, ?_⟩ | refine iteT ?_ | refine iteF ?_ | refine ⟨(by decide : List.Nodup _), ?_⟩ | refine ⟨rfl, ?_⟩))
  refine ⟨_, true, rfl, .inl ⟨_, _, rfl, rfl⟩, ?_⟩
  (repeat (first | refine ⟨_, rfl, Nat.le_of_ble_eq_true rfl, ?_⟩ | refine ⟨_, rfl, ?_⟩ | refine ⟨_, _, rfl, ?_⟩ | refine ⟨_, _, rfl, rfl, ?_⟩ | refine ⟨_, _, _, rfl, rfl, rfl, ?_⟩ | refine ⟨_, _, _, rfl, rfl, by (first | exact kb_NoneType_int | exact kb_bool_int | exact kb_int_int | exact kb_str_int | exact kb_tuple_int | exact kb_list_int | exact kb_dict_int | exact kb_NoneType_bool | exact kb_bool_bool | exact kb_int_bool | exact kb_str_bool | exact kb_tuple_bool | exact kb_list_bool | exact kb_dict_bool | exact kb_NoneType_tuple | exact kb_bool_tuple | exact kb_int_tuple | exact kb_str_tuple | exact kb_tuple_tuple | exact kb_list_tuple | exact kb_dict_tuple), ?_⟩ | refine ⟨_, _, _, _, _, rfl, rfl, rfl, rfl, rfl, ?_⟩ | refine iteT ?_ | refine iteF ?_ | refine ⟨(by decide : List.Nodup _), ?_⟩ | refine ⟨rfl, ?_⟩))
  refine ⟨_, _, _, rfl, rfl, ?_⟩
  (repeat (first | refine ⟨_, rfl, Nat.le_of_ble_eq_true rfl, ?_⟩ | refine ⟨_, rfl, ?_⟩ | refine ⟨_, _, rfl, ?_⟩ | refine ⟨_, _, rfl, rfl, ?_⟩ | refine ⟨_, _, _, rfl, rfl, rfl, ?_⟩ | refine ⟨_, _, _, rfl, rfl, by (first | exact kb_NoneType_int | exact kb_bool_int | exact kb_int_int | exact kb_str_int | exact kb_tuple_int | exact kb_list_int | exact kb_dict_int | exact kb_NoneType_bool | exact kb_bool_bool | exact kb_int_bool | exact kb_str_bool | exact kb_tuple_bool | exact kb_list_bool | exact kb_dict_bool | exact kb_NoneType_tuple | exact kb_bool_tuple | exact kb_int_tuple | exact kb_str_tuple | exact kb_tuple_tuple | exact kb_list_tuple | exact kb_dict_tuple), ?_⟩ | refine ⟨_, _, _, _, _, rfl, rfl, rfl, rfl, rfl, ?_⟩ | refine iteT ?_ | refine iteF ?_ | refine ⟨(by decide : List.Nodup _), ?_⟩ | refine ⟨rfl, ?_⟩))
  refine ⟨_, _, _, rfl, rfl, ?_⟩
  refine ⟨_, _, _, _, rfl, rfl, pyD_pr _, pyD_pr _, shaped_pr _, shaped_pr _, _, rfl, ?_⟩
  refine ite2 (fun hc => ?_) (fun hc => ?_)
  · rw [if_pos rfl, eqv_pr] at hc
    have : sameB g g' = false := by
      unfold sameB
      rw [show decide (g.coin = g'.coin) = false by simpa using hc]
      rfl
    rw [this] at h
    (repeat (first | refine ⟨_, rfl, Nat.le_of_ble_eq_true rfl, ?_⟩ | refine ⟨_, rfl, ?_⟩ | refine ⟨_, _, rfl, ?_⟩ | refine ⟨_, _, rfl, rfl, ?_⟩ | refine ⟨_, _, _, rfl, rfl, rfl, ?_⟩ | refine ⟨_, _, _, rfl, rfl, by (first | exact kb_NoneType_int | exact kb_bool_int | exact kb_int_int | exact kb_str_int | exact kb_tuple_int | exact kb_list_int | exact kb_dict_int | exact kb_NoneType_bool | exact kb_bool_bool | exact kb_int_bool | exact kb_str_bool | exact kb_tuple_bool | exact kb_list_bool | exact kb_dict_bool | exact kb_NoneType_tuple | exact kb_bool_tuple | exact kb_int_tuple | exact kb_str_tuple | exact kb_tuple_tuple | exact kb_list_tuple | exact kb_dict_tuple), ?_⟩ | refine ⟨_, _, _, _, _, rfl, rfl, rfl, rfl, rfl, ?_⟩ | refine iteT ?_ | refine iteF ?_ | refine ⟨(by decide : List.Nodup _), ?_⟩ | refine ⟨rfl, ?_⟩))
    exact rt0 h
  have hc1 : decide (g.coin = g'.coin) = true := by
    rw [if_pos rfl, eqv_pr] at hc
    simpa using hc
  (repeat (first | refine ⟨_, rfl, Nat.le_of_ble_eq_true rfl, ?_⟩ | refine ⟨_, rfl, ?_⟩ | refine ⟨_, _, rfl, ?_⟩ | refine ⟨_, _, rfl, rfl, ?_⟩ | refine ⟨_, _, _, rfl, rfl, rfl, ?_⟩ | refine ⟨_, _, _, rfl, rfl, by (first | exact kb_NoneType_int | exact kb_bool_int | exact kb_int_int | exact kb_str_int | exact kb_tuple_int | exact kb_list_int | exact kb_dict_int | exact kb_NoneType_bool | exact kb_bool_bool | exact kb_int_bool | exact kb_str_bool | exact kb_tuple_bool | exact kb_list_bool | exact kb_dict_bool | exact kb_NoneType_tuple | exact kb_bool_tuple | exact kb_int_tuple | exact kb_str_tuple | exact kb_tuple_tuple | exact kb_list_tuple | exact kb_dict_tuple), ?_⟩ | refine ⟨_, _, _, _, _, rfl, rfl, rfl, rfl, rfl, ?_⟩ | refine iteT ?_ | refine iteF ?_ | refine ⟨(by decide : List.Nodup _), ?_⟩ | refine ⟨rfl, ?_⟩))
  refine ⟨_, _, _, rfl, rfl, ?_⟩
  (repeat (first | refine ⟨_, rfl, Nat.le_of_ble_eq_true rfl, ?_⟩ | refine ⟨_, rfl, ?_⟩ | refine ⟨_, _, rfl, ?_⟩ | refine ⟨_, _, rfl, rfl, ?_⟩ | refine ⟨_, _, _, rfl, rfl, rfl, ?_⟩ | refine ⟨_, _, _, rfl, rfl, by (first | exact kb_NoneType_int | exact kb_bool_int | exact kb_int_int | exact kb_str_int | exact kb_tuple_int | exact kb_list_int | exact kb_dict_int | exact kb_NoneType_bool | exact kb_bool_bool | exact kb_int_bool | exact kb_str_bool | exact kb_tuple_bool | exact kb_list_bool | exact kb_dict_bool | exact kb_NoneType_tuple | exact kb_bool_tuple | exact kb_int_tuple | exact kb_str_tuple | exact kb_tuple_tuple | exact kb_list_tuple | exact kb_dict_tuple), ?_⟩ | refine ⟨_, _, _, _, _, rfl, rfl, rfl, rfl, rfl, ?_⟩ | refine iteT ?_ | refine iteF ?_ | refine ⟨(by decide : List.Nodup _), ?_⟩ | refine ⟨rfl, ?_⟩))
  refine ⟨_, _, _, rfl, rfl, ?_⟩
  refine ⟨_, _, _, _, rfl, rfl, pyD_prsT _, pyD_prsT _, shaped_prsT _, shaped_prsT _, _, rfl, ?_⟩
  refine ite2 (fun hc => ?_) (fun hc => ?_)
  · rw [if_pos rfl, eqv_prsT] at hc
    have : sameB g g' = false := by
      unfold sameB
      rw [show decide (g.paths = g'.paths) = false by simpa using hc, Bool.false_and, Bool.and_false]
    rw [this] at h
    (repeat (first | refine ⟨_, rfl, Nat.le_of_ble_eq_true rfl, ?_⟩ | refine ⟨_, rfl, ?_⟩ | refine ⟨_, _, rfl, ?_⟩ | refine ⟨_, _, rfl, rfl, ?_⟩ | refine ⟨_, _, _, rfl, rfl, rfl, ?_⟩ | refine ⟨_, _, _, rfl, rfl, by (first | exact kb_NoneType_int | exact kb_bool_int | exact kb_int_int | exact kb_str_int | exact kb_tuple_int | exact kb_list_int | exact kb_dict_int | exact kb_NoneType_bool | exact kb_bool_bool | exact kb_int_bool | exact kb_str_bool | exact kb_tuple_bool | exact kb_list_bool | exact kb_dict_bool | exact kb_NoneType_tuple | exact kb_bool_tuple | exact kb_int_tuple | exact kb_str_tuple | exact kb_tuple_tuple | exact kb_list_tuple | exact kb_dict_tuple), ?_⟩ | refine ⟨_, _, _, _, _, rfl, rfl, rfl, rfl, rfl, ?_⟩ | refine iteT ?_ | refine iteF ?_ | refine ⟨(by decide : List.Nodup _), ?_⟩ | refine ⟨rfl, ?_⟩))
    exact rt0 h
  have hc2 : decide (g.paths = g'.paths) = true := by
    rw [if_pos rfl, eqv_prsT] at hc
    simpa using hc
  (repeat (first | refine ⟨_, rfl, Nat.le_of_ble_eq_true rfl, ?_⟩ | refine ⟨_, rfl, ?_⟩ | refine ⟨_, _, rfl, ?_⟩ | refine ⟨_, _, rfl, rfl, ?_⟩ | refine ⟨_, _, _, rfl, rfl, rfl, ?_⟩ | refine ⟨_, _, _, rfl, rfl, by (first | exact kb_NoneType_int | exact kb_bool_int | exact kb_int_int | exact kb_str_int | exact kb_tuple_int | exact kb_list_int | exact kb_dict_int | exact kb_NoneType_bool | exact kb_bool_bool | exact kb_int_bool | exact kb_str_bool | exact kb_tuple_bool | exact kb_list_bool | exact kb_dict_bool | exact kb_NoneType_tuple | exact kb_bool_tuple | exact kb_int_tuple | exact kb_str_tuple | exact kb_tuple_tuple | exact kb_list_tuple | exact kb_dict_tuple), ?_⟩ | refine ⟨_, _, _, _, _, rfl, rfl, rfl, rfl, rfl, ?_⟩ | refine iteT ?_ | refine iteF ?_ | refine ⟨(by decide : List.Nodup _), ?_⟩ | refine ⟨rfl, ?_⟩))
  refine ⟨_, _, _, rfl, rfl, ?_⟩
  (repeat (first | refine ⟨_, rfl, Nat.le_of_ble_eq_true rfl, ?_⟩ | refine ⟨_, rfl, ?_⟩ | refine ⟨_, _, rfl, ?_⟩ | refine ⟨_, _, rfl, rfl, ?_⟩ | refine ⟨_, _, _, rfl, rfl, rfl, ?_⟩ | refine ⟨_, _, _, rfl, rfl, by (first | exact kb_NoneType_int | exact kb_bool_int | exact kb_int_int | exact kb_str_int | exact kb_tuple_int | exact kb_list_int | exact kb_dict_int | exact kb_NoneType_bool | exact kb_bool_bool | exact kb_int_bool | exact kb_str_bool | exact kb_tuple_bool | exact kb_list_bool | exact kb_dict_bool | exact kb_NoneType_tuple | exact kb_bool_tuple | exact kb_int_tuple | exact kb_str_tuple | exact kb_tuple_tuple | exact kb_list_tuple | exact kb_dict_tuple), ?_⟩ | refine ⟨_, _, _, _, _, rfl, rfl, rfl, rfl, rfl, ?_⟩ | refine iteT ?_ | refine iteF ?_ | refine ⟨(by decide : List.Nodup _), ?_⟩ | refine ⟨rfl, ?_⟩))
  refine ⟨_, _, _, rfl, rfl, ?_⟩
  refine ⟨_, _, _, _, rfl, rfl, pyD_prsT _, pyD_prsT _, shaped_prsT _, shaped_prsT _, _, rfl, ?_⟩
  rw [if_neg Bool.false_ne_true, eqv_prsT]
  have e1 : sameB g g' = (decide (g.pays = g'.pays) && decide (g.road = g'.road)) := by
    unfold sameB
    rw [hc1, hc2, Bool.true_and, Bool.true_and]
  rw [e1] at h
  refine ite2 (fun hc => ?_) (fun hc => ?_)
  · rw [hc, Bool.true_and] at h
    (repeat (first | refine ⟨_, rfl, Nat.le_of_ble_eq_true rfl, ?_⟩ | refine ⟨_, rfl, ?_⟩ | refine ⟨_, _, rfl, ?_⟩ | refine ⟨_, _, rfl, rfl, ?_⟩ | refine ⟨_, _, _, rfl, rfl, rfl, ?_⟩ | refine ⟨_, _, _, rfl, rfl, by (first | exact kb_NoneType_int | exact kb_bool_int | exact kb_int_int | exact kb_str_int | exact kb_tuple_int | exact kb_list_int | exact kb_dict_int | exact kb_NoneType_bool | exact kb_bool_bool | exact kb_int_bool | exact kb_str_bool | exact kb_tuple_bool | exact kb_list_bool | exact kb_dict_bool | exact kb_NoneType_tuple | exact kb_bool_tuple | exact kb_int_tuple | exact kb_str_tuple | exact kb_tuple_tuple | exact kb_list_tuple | exact kb_dict_tuple), ?_⟩ | refine ⟨_, _, _, _, _, rfl, rfl, rfl, rfl, rfl, ?_⟩ | refine iteT ?_ | refine iteF ?_ | refine ⟨(by decide : List.Nodup _), ?_⟩ | refine ⟨rfl, ?_⟩))
    refine ⟨_, _, _, rfl, rfl, ?_⟩
    (repeat (first | refine ⟨_, rfl, Nat.le_of_ble_eq_true rfl, ?_⟩ | refine ⟨_, rfl, ?_⟩ | refine ⟨_, _, rfl, ?_⟩ | refine ⟨_, _, rfl, rfl, ?_⟩ | refine ⟨_, _, _, rfl, rfl, rfl, ?_⟩ | refine ⟨_, _, _, rfl, rfl, by (first | exact kb_NoneType_int | exact kb_bool_int | exact kb_int_int | exact kb_str_int | exact kb_tuple_int | exact kb_list_int | exact kb_dict_int | exact kb_NoneType_bool | exact kb_bool_bool | exact kb_int_bool | exact kb_str_bool | exact kb_tuple_bool | exact kb_list_bool | exact kb_dict_bool | exact kb_NoneType_tuple | exact kb_bool_tuple | exact kb_int_tuple | exact kb_str_tuple | exact kb_tuple_tuple | exact kb_list_tuple | exact kb_dict_tuple), ?_⟩ | refine ⟨_, _, _, _, _, rfl, rfl, rfl, rfl, rfl, ?_⟩ | refine iteT ?_ | refine iteF ?_ | refine ⟨(by decide : List.Nodup _), ?_⟩ | refine ⟨rfl, ?_⟩))
    refine ⟨_, _, _, rfl, rfl, ?_⟩
    refine ⟨_, _, _, _, rfl, rfl, pyD_pr _, pyD_pr _, shaped_pr _, shaped_pr _, ?_⟩
    rw [if_neg Bool.false_ne_true, eqv_pr]
    exact rt0 h
  · rw [(Bool.not_eq_true _).mp hc, Bool.false_and] at h
    exact rt0 h
theorem law_fn (V : Ev K mg) {f : Addr} {fd : FuncData} (Fu : Fun K "law" "law" s_law f fd) (o__law_taken : DefOk P w K mg base 1 "_law_taken" ["_law_row", "_law_many"] d_taken) (o__law_drawn : DefOk P w K mg base 3 "_law_drawn" ["_law_row"] d_drawn)
    (o__law_made : DefOk P w K mg base 7 "_law_made" ["_law_d"] (d_made2 K)) (o_Game___eq__ : MethOk P w K mg base 1 (ga K "Game") "__eq__" ["self", "other"] (d_eq2 K)) (o__law_parts : DefOk P w K mg base 1 "_law_parts" [] d_parts)
    (o_Game_coin : PropOk P w K mg base 1 (ga K "Game") "coin" (d_prop K fun g => TD.prD g.coin)) (o_Game_paths : PropOk P w K mg base 1 (ga K "Game") "paths" (d_prop K fun g => .tup (g.paths.map TD.prD))) (o_Game_pays : PropOk P w K mg base 1 (ga K "Game") "pays" (d_prop K fun g => .tup (g.pays.map TD.prD)))
    (o_Game_road : PropOk P w K mg base 1 (ga K "Game") "road" (d_prop K fun g => TD.prD g.road)) (o_Game_places : PropOk P w K mg base 1 (ga K "Game") "places" (d_prop K fun g => .int (g.many - 1 + 1)))
    (o__law_with : DefOk P w K mg base 1 "_law_with" ["_law_d", "_law_pairs"] d_with) (o__law_odd : DefOk P w K mg base 6 "_law_odd" ["_law_row", "_law_d"] d_odd) (o__law_refused : DefOk P w K mg base 8 "_law_refused" ["_law_d"] (d_refused K)) (o__law_wrong : DefOk P w K mg base 6 "_law_wrong" ["_law_d"] d_wrong) :
    FnOk P w K mg base (L2.CX P w) 9 f fd ["_law_script"] (spD K d_law) := by
  refine okF Fu sc_law 0 (fun as Pc Xc ⟨ns, _, e, _⟩ => by subst e; exact ⟨rfl, rfl⟩) ?_
  intro f cdv A outer s H E B as Pc Xc h hB hr tk hp
  refine ⟨_, ((dss_consN (ds_set (i := 1) sc_law.nd (de_lstO (da_cons (dv 0) (da_cons de_int (da_cons de_int (da_cons de_int da_nil)))))) (dss_consN (ds_for hp (di_range1 V.g_range (da_cons de_int da_nil)) (dg_name 2 sc_law.nd) (dss_gc (dss_consN (ds_set (i := 3) sc_law.nd (de_callD o__law_drawn (L2.Room.mono hr (by decide)) tk (da_cons (dv 1) da_nil))) (dss_consN (ds_set (i := 4) sc_law.nd (de_callD o__law_made (L2.Room.mono hr (by decide)) tk (da_cons (dv 3) da_nil))) (dss_consN (ds_if (dt_ne (hu64 hr) (de_lst (da_cons (de_propM o_Game_coin V.cl_Game (L2.Room.mono hr (by decide)) (dv 4)) (da_cons (de_propM o_Game_paths V.cl_Game (L2.Room.mono hr (by decide)) (dv 4)) (da_cons (de_propM o_Game_pays V.cl_Game (L2.Room.mono hr (by decide)) (dv 4)) (da_cons (de_propM o_Game_road V.cl_Game (L2.Room.mono hr (by decide)) (dv 4)) (da_cons (de_propM o_Game_places V.cl_Game (L2.Room.mono hr (by decide)) (dv 4)) da_nil)))))) (de_lc sc_law.nd [("_law_part", 7)] (di_list (de_callD0 o__law_parts (L2.Room.mono hr (by decide)) tk)) (fun _ _ _ _ _ => (dg_name 7 sc_law.nd)) (fun _ _ _ _ _ => dts_nil) (fun _ _ _ _ _ => (de_dget (hu1 hr) (dv 3) (dv 7))))) (dss_one (ds_ret de_bl)) dss_nil) (dss_consN (ds_set (i := 5) sc_law.nd (de_ifExp (dt_gt (de_callD o__law_taken (L2.Room.mono hr (by decide)) tk (da_cons (dv 1) (da_cons de_int da_nil))) de_int) (de_callD o__law_drawn (L2.Room.mono hr (by decide)) tk (da_cons (dv 1) da_nil)) (dv 3))) (dss_consN (ds_if (dt_or (dw_or (dt_neS (de_oeq o_Game___eq__ V.eq_Game (L2.Room.mono hr (by decide)) (de_callD o__law_made (L2.Room.mono hr (by decide)) tk (da_cons (dv 5) da_nil)) (dv 4)) (de_eqDic (hu65 hr) (dv 5) (dv 3))) (dw_or1 (dt_oeq o_Game___eq__ V.eq_Game (L2.Room.mono hr (by decide)) (dv 4) (dv 3))))) (dss_one (ds_ret de_bl)) dss_nil) (dss_consN (ds_for hp (di_range1 V.g_range (da_cons (de_add de_int (de_callD o__law_taken (L2.Room.mono hr (by decide)) tk (da_cons (dv 1) (da_cons de_int da_nil)))) da_nil)) (dg_name 6 sc_law.nd) (dss_gc (dss_one (ds_set (i := 3) sc_law.nd (de_callD o__law_with (L2.Room.mono hr (by decide)) tk (da_cons (dv 3) (da_cons (de_lst (da_cons (de_tup (da_cons (de_ix (de_lst (da_cons de_str (da_cons de_str (da_cons de_str (da_cons de_str da_nil))))) (de_callD o__law_taken (L2.Room.mono hr (by decide)) tk (da_cons (dv 1) (da_cons de_int da_nil)))) (da_cons (de_callD o__law_odd (L2.Room.mono hr (by decide)) tk (da_cons (dv 1) (da_cons (dv 3) da_nil))) da_nil))) da_nil)) da_nil))))))) (dss_one (ds_if (dt_neS (de_callD o__law_refused (L2.Room.mono hr (by decide)) tk (da_cons (dv 3) da_nil)) (de_callD o__law_wrong (L2.Room.mono hr (by decide)) tk (da_cons (dv 3) da_nil))) (dss_one (ds_ret de_bl)) dss_nil)))))))))) (dss_one (ds_ret de_bl))))), ?_⟩
  obtain ⟨ns, _, rfl, h⟩ := h
  (repeat (first | refine ⟨_, rfl, Nat.le_of_ble_eq_true rfl, ?_⟩ | refine ⟨_, rfl, ?_⟩ | refine ⟨_, _, rfl, ?_⟩ | refine ⟨_, _, rfl, rfl, ?_⟩ | refine ⟨_, _, _, rfl, rfl, rfl, ?_⟩ | refine ⟨_, _, _, rfl, rfl, by (first | exact kb_NoneType_int | exact kb_bool_int | exact kb_int_int | exact kb_str_int | exact kb_tuple_int | exact kb_list_int | exact kb_dict_int | exact kb_NoneType_bool | exact kb_bool_bool | exact kb_int_bool | exact kb_str_bool | exact kb_tuple_bool | exact kb_list_bool | exact kb_dict_bool | exact kb_NoneType_tuple | exact kb_bool_tuple | exact kb_int_tuple | exact kb_str_tuple | exact kb_tuple_tuple | exact kb_list_tuple | exact kb_dict_tuple), ?_⟩ | refine ⟨_, _, _, _, _, rfl, rfl, rfl, rfl, rfl, ?_⟩ | refine iteT ?_ | refine iteF ?_ | refine ⟨(by decide : List.Nodup _), ?_⟩ | refine ⟨rfl, ?_⟩))
  refine Nrm.of ⟨[some (.fr (.scr ns)), some (.cell 0), none, none, none, none, none, none], [some (rowC ns 0 91 0)]⟩ rfl ?_
  (repeat (first | refine ⟨_, rfl, Nat.le_of_ble_eq_true rfl, ?_⟩ | refine ⟨_, rfl, ?_⟩ | refine ⟨_, _, rfl, ?_⟩ | refine ⟨_, _, rfl, rfl, ?_⟩ | refine ⟨_, _, _, rfl, rfl, rfl, ?_⟩ | refine ⟨_, _, _, rfl, rfl, by (first | exact kb_NoneType_int | exact kb_bool_int | exact kb_int_int | exact kb_str_int | exact kb_tuple_int | exact kb_list_int | exact kb_dict_int | exact kb_NoneType_bool | exact kb_bool_bool | exact kb_int_bool | exact kb_str_bool | exact kb_tuple_bool | exact kb_list_bool | exact kb_dict_bool | exact kb_NoneType_tuple | exact kb_bool_tuple | exact kb_int_tuple | exact kb_str_tuple | exact kb_tuple_tuple | exact kb_list_tuple | exact kb_dict_tuple), ?_⟩ | refine ⟨_, _, _, _, _, rfl, rfl, rfl, rfl, rfl, ?_⟩ | refine iteT ?_ | refine iteF ?_ | refine ⟨(by decide : List.Nodup _), ?_⟩ | refine ⟨rfl, ?_⟩))
  refine ⟨by omega, by omega, ?_⟩
  refine ⟨fun i S => ∃ a b c s2 s3 s4 s5 s6, S = ⟨[some (.fr (.scr ns)), some (.cell 0), s2, s3, s4, s5, s6, none], [some (rowC ns a b c)]⟩ ∧ RowOk a b, ⟨_, _, _, _, _, _, _, _, rfl, ⟨by decide, by decide, by decide⟩⟩, ?_, ?_⟩
  · rintro i d S1 hd ⟨a, b, c, s2, s3, s4, s5, s6, rfl, hw⟩
    obtain ⟨hi, rfl⟩ := rngD_get hd
    (repeat (first | refine ⟨_, rfl, Nat.le_of_ble_eq_true rfl, ?_⟩ | refine ⟨_, rfl, ?_⟩ | refine ⟨_, _, rfl, ?_⟩ | refine ⟨_, _, rfl, rfl, ?_⟩ | refine ⟨_, _, _, rfl, rfl, rfl, ?_⟩ | refine ⟨_, _, _, rfl, rfl, by (first | exact kb_NoneType_int | exact kb_bool_int | exact kb_int_int | exact kb_str_int | exact kb_tuple_int | exact kb_list_int | exact kb_dict_int | exact kb_NoneType_bool | exact kb_bool_bool | exact kb_int_bool | exact kb_str_bool | exact kb_tuple_bool | exact kb_list_bool | exact kb_dict_bool | exact kb_NoneType_tuple | exact kb_bool_tuple | exact kb_int_tuple | exact kb_str_tuple | exact kb_tuple_tuple | exact kb_list_tuple | exact kb_dict_tuple), ?_⟩ | refine ⟨_, _, _, _, _, rfl, rfl, rfl, rfl, rfl, ?_⟩ | refine iteT ?_ | refine iteF ?_ | refine ⟨(by decide : List.Nodup _), ?_⟩ | refine ⟨rfl, ?_⟩))
    refine ⟨ns, a, b, c, rfl, hw, fun a b c g hw hg => ?_⟩
    (repeat (first | refine ⟨_, rfl, Nat.le_of_ble_eq_true rfl, ?_⟩ | refine ⟨_, rfl, ?_⟩ | refine ⟨_, _, rfl, ?_⟩ | refine ⟨_, _, rfl, rfl, ?_⟩ | refine ⟨_, _, _, rfl, rfl, rfl, ?_⟩ | refine ⟨_, _, _, rfl, rfl, by (first | exact kb_NoneType_int | exact kb_bool_int | exact kb_int_int | exact kb_str_int | exact kb_tuple_int | exact kb_list_int | exact kb_dict_int | exact kb_NoneType_bool | exact kb_bool_bool | exact kb_int_bool | exact kb_str_bool | exact kb_tuple_bool | exact kb_list_bool | exact kb_dict_bool | exact kb_NoneType_tuple | exact kb_bool_tuple | exact kb_int_tuple | exact kb_str_tuple | exact kb_tuple_tuple | exact kb_list_tuple | exact kb_dict_tuple), ?_⟩ | refine ⟨_, _, _, _, _, rfl, rfl, rfl, rfl, rfl, ?_⟩ | refine iteT ?_ | refine iteF ?_ | refine ⟨(by decide : List.Nodup _), ?_⟩ | refine ⟨rfl, ?_⟩))
    refine Nrm.of ⟨[some (.fr (.scr ns)), some (.cell 0), some (.fr (.int (0 + (i : Nat)))), some (.fr g.d), s4, s5, s6, none], [some (rowC ns a b c)]⟩ rfl ?_
    (repeat (first | refine ⟨_, rfl, Nat.le_of_ble_eq_true rfl, ?_⟩ | refine ⟨_, rfl, ?_⟩ | refine ⟨_, _, rfl, ?_⟩ | refine ⟨_, _, rfl, rfl, ?_⟩ | refine ⟨_, _, _, rfl, rfl, rfl, ?_⟩ | refine ⟨_, _, _, rfl, rfl, by (first | exact kb_NoneType_int | exact kb_bool_int | exact kb_int_int | exact kb_str_int | exact kb_tuple_int | exact kb_list_int | exact kb_dict_int | exact kb_NoneType_bool | exact kb_bool_bool | exact kb_int_bool | exact kb_str_bool | exact kb_tuple_bool | exact kb_list_bool | exact kb_dict_bool | exact kb_NoneType_tuple | exact kb_bool_tuple | exact kb_int_tuple | exact kb_str_tuple | exact kb_tuple_tuple | exact kb_list_tuple | exact kb_dict_tuple), ?_⟩ | refine ⟨_, _, _, _, _, rfl, rfl, rfl, rfl, rfl, ?_⟩ | refine iteT ?_ | refine iteF ?_ | refine ⟨(by decide : List.Nodup _), ?_⟩ | refine ⟨rfl, ?_⟩))
    refine ⟨_, _, _, _, _, rfl, ?_⟩
    refine game_made hg ?_
    refine ⟨_, rfl, rfl, ?_⟩
    (repeat (first | refine ⟨_, rfl, Nat.le_of_ble_eq_true rfl, ?_⟩ | refine ⟨_, rfl, ?_⟩ | refine ⟨_, _, rfl, ?_⟩ | refine ⟨_, _, rfl, rfl, ?_⟩ | refine ⟨_, _, _, rfl, rfl, rfl, ?_⟩ | refine ⟨_, _, _, rfl, rfl, by (first | exact kb_NoneType_int | exact kb_bool_int | exact kb_int_int | exact kb_str_int | exact kb_tuple_int | exact kb_list_int | exact kb_dict_int | exact kb_NoneType_bool | exact kb_bool_bool | exact kb_int_bool | exact kb_str_bool | exact kb_tuple_bool | exact kb_list_bool | exact kb_dict_bool | exact kb_NoneType_tuple | exact kb_bool_tuple | exact kb_int_tuple | exact kb_str_tuple | exact kb_tuple_tuple | exact kb_list_tuple | exact kb_dict_tuple), ?_⟩ | refine ⟨_, _, _, _, _, rfl, rfl, rfl, rfl, rfl, ?_⟩ | refine iteT ?_ | refine iteF ?_ | refine ⟨(by decide : List.Nodup _), ?_⟩ | refine ⟨rfl, ?_⟩))
    refine Nrm.of ⟨[some (.fr (.scr ns)), some (.cell 0), some (.fr (.int (0 + (i : Nat)))), some (.fr g.d), some (.fr (gameD K g)), s5, s6, none], [some (rowC ns a b c)]⟩ rfl ?_
    (repeat (first | refine ⟨_, rfl, Nat.le_of_ble_eq_true rfl, ?_⟩ | refine ⟨_, rfl, ?_⟩ | refine ⟨_, _, rfl, ?_⟩ | refine ⟨_, _, rfl, rfl, ?_⟩ | refine ⟨_, _, _, rfl, rfl, rfl, ?_⟩ | refine ⟨_, _, _, rfl, rfl, by (first | exact kb_NoneType_int | exact kb_bool_int | exact kb_int_int | exact kb_str_int | exact kb_tuple_int | exact kb_list_int | exact kb_dict_int | exact kb_NoneType_bool | exact kb_bool_bool | exact kb_int_bool | exact kb_str_bool | exact kb_tuple_bool | exact kb_list_bool | exact kb_dict_bool | exact kb_NoneType_tuple | exact kb_bool_tuple | exact kb_int_tuple | exact kb_str_tuple | exact kb_tuple_tuple | exact kb_list_tuple | exact kb_dict_tuple), ?_⟩ | refine ⟨_, _, _, _, _, rfl, rfl, rfl, rfl, rfl, ?_⟩ | refine iteT ?_ | refine iteF ?_ | refine ⟨(by decide : List.Nodup _), ?_⟩ | refine ⟨rfl, ?_⟩))
    refine ⟨⟨_, _, rfl⟩, _, _, rfl, List.nodup_nil, g, rfl, ?_⟩
    (repeat (first | refine ⟨_, rfl, Nat.le_of_ble_eq_true rfl, ?_⟩ | refine ⟨_, rfl, ?_⟩ | refine ⟨_, _, rfl, ?_⟩ | refine ⟨_, _, rfl, rfl, ?_⟩ | refine ⟨_, _, _, rfl, rfl, rfl, ?_⟩ | refine ⟨_, _, _, rfl, rfl, by (first | exact kb_NoneType_int | exact kb_bool_int | exact kb_int_int | exact kb_str_int | exact kb_tuple_int | exact kb_list_int | exact kb_dict_int | exact kb_NoneType_bool | exact kb_bool_bool | exact kb_int_bool | exact kb_str_bool | exact kb_tuple_bool | exact kb_list_bool | exact kb_dict_bool | exact kb_NoneType_tuple | exact kb_bool_tuple | exact kb_int_tuple | exact kb_str_tuple | exact kb_tuple_tuple | exact kb_list_tuple | exact kb_dict_tuple), ?_⟩ | refine ⟨_, _, _, _, _, rfl, rfl, rfl, rfl, rfl, ?_⟩ | refine iteT ?_ | refine iteF ?_ | refine ⟨(by decide : List.Nodup _), ?_⟩ | refine ⟨rfl, ?_⟩))
    refine ⟨⟨_, _, rfl⟩, _, _, rfl, List.nodup_nil, g, rfl, ?_⟩
    (repeat (first | refine ⟨_, rfl, Nat.le_of_ble_eq_true rfl, ?_⟩ | refine ⟨_, rfl, ?_⟩ | refine ⟨_, _, rfl, ?_⟩ | refine ⟨_, _, rfl, rfl, ?_⟩ | refine ⟨_, _, _, rfl, rfl, rfl, ?_⟩ | refine ⟨_, _, _, rfl, rfl, by (first | exact kb_NoneType_int | exact kb_bool_int | exact kb_int_int | exact kb_str_int | exact kb_tuple_int | exact kb_list_int | exact kb_dict_int | exact kb_NoneType_bool | exact kb_bool_bool | exact kb_int_bool | exact kb_str_bool | exact kb_tuple_bool | exact kb_list_bool | exact kb_dict_bool | exact kb_NoneType_tuple | exact kb_bool_tuple | exact kb_int_tuple | exact kb_str_tuple | exact kb_tuple_tuple | exact kb_list_tuple | exact kb_dict_tuple), ?_⟩ | refine ⟨_, _, _, _, _, rfl, rfl, rfl, rfl, rfl, ?_⟩ | refine iteT ?_ | refine iteF ?_ | refine ⟨(by decide : List.Nodup _), ?_⟩ | refine ⟨rfl, ?_⟩))
    refine ⟨⟨_, _, rfl⟩, _, _, rfl, List.nodup_nil, g, rfl, ?_⟩
    (repeat (first | refine ⟨_, rfl, Nat.le_of_ble_eq_true rfl, ?_⟩ | refine ⟨_, rfl, ?_⟩ | refine ⟨_, _, rfl, ?_⟩ | refine ⟨_, _, rfl, rfl, ?_⟩ | refine ⟨_, _, _, rfl, rfl, rfl, ?_⟩ | refine ⟨_, _, _, rfl, rfl, by (first | exact kb_NoneType_int | exact kb_bool_int | exact kb_int_int | exact kb_str_int | exact kb_tuple_int | exact kb_list_int | exact kb_dict_int | exact kb_NoneType_bool | exact kb_bool_bool | exact kb_int_bool | exact kb_str_bool | exact kb_tuple_bool | exact kb_list_bool | exact kb_dict_bool | exact kb_NoneType_tuple | exact kb_bool_tuple | exact kb_int_tuple | exact kb_str_tuple | exact kb_tuple_tuple | exact kb_list_tuple | exact kb_dict_tuple), ?_⟩ | refine ⟨_, _, _, _, _, rfl, rfl, rfl, rfl, rfl, ?_⟩ | refine iteT ?_ | refine iteF ?_ | refine ⟨(by decide : List.Nodup _), ?_⟩ | refine ⟨rfl, ?_⟩))
    refine ⟨⟨_, _, rfl⟩, _, _, rfl, List.nodup_nil, g, rfl, ?_⟩
    (repeat (first | refine ⟨_, rfl, Nat.le_of_ble_eq_true rfl, ?_⟩ | refine ⟨_, rfl, ?_⟩ | refine ⟨_, _, rfl, ?_⟩ | refine ⟨_, _, rfl, rfl, ?_⟩ | refine ⟨_, _, _, rfl, rfl, rfl, ?_⟩ | refine ⟨_, _, _, rfl, rfl, by (first | exact kb_NoneType_int | exact kb_bool_int | exact kb_int_int | exact kb_str_int | exact kb_tuple_int | exact kb_list_int | exact kb_dict_int | exact kb_NoneType_bool | exact kb_bool_bool | exact kb_int_bool | exact kb_str_bool | exact kb_tuple_bool | exact kb_list_bool | exact kb_dict_bool | exact kb_NoneType_tuple | exact kb_bool_tuple | exact kb_int_tuple | exact kb_str_tuple | exact kb_tuple_tuple | exact kb_list_tuple | exact kb_dict_tuple), ?_⟩ | refine ⟨_, _, _, _, _, rfl, rfl, rfl, rfl, rfl, ?_⟩ | refine iteT ?_ | refine iteF ?_ | refine ⟨(by decide : List.Nodup _), ?_⟩ | refine ⟨rfl, ?_⟩))
    refine ⟨⟨_, _, rfl⟩, _, _, rfl, List.nodup_nil, g, rfl, ?_⟩
    refine ⟨_, rfl, Nat.le_of_ble_eq_true rfl, ?_⟩
    refine ⟨[], [], rfl, List.nodup_nil, rfl, ?_⟩
    refine ⟨_, rfl, ?_⟩
    refine lc_map (fun d => match d with | .str x => (getD' dKeys [TD.prD g.coin, .tup (g.paths.map TD.prD), .tup (g.pays.map TD.prD), TD.prD g.road, .int g.many] (.inr x)).getD .non | _ => .non) (by decide) (fun d acc Q hd hQ => ?_) ?_
    · simp only [List.mem_cons, List.not_mem_nil, or_false] at hd
      rcases hd with rfl | rfl | rfl | rfl | rfl <;> (refine ⟨_, rfl, _, rfl, ?_⟩; refine ⟨_, _, _, _, _, rfl, rfl, rfl, rfl, ?_⟩; exact hQ _ rfl)
    have hpl : pyD (.lst [TD.prD g.coin, .tup (g.paths.map TD.prD), .tup (g.pays.map TD.prD), TD.prD g.road, .int (g.many - 1 + 1)]) = some (.list (partsP g)) := by
      rw [show g.many - 1 + 1 = g.many by omega]
      unfold pyD
      rw [pyDs_parts]
      rfl
    have hpl2 : pyD (.lst [TD.prD g.coin, .tup (g.paths.map TD.prD), .tup (g.pays.map TD.prD), TD.prD g.road, .int g.many]) = some (.list (partsP g)) := by
      unfold pyD
      rw [pyDs_parts]
      rfl
    refine ⟨_, _, _, _, rfl, rfl, hpl, hpl2, shaped_partsL g, shaped_partsL g, _, rfl, ?_⟩
    have heq : PyData.eqv (.list (partsP g)) (.list (partsP g)) = true := by
      show PyData.eqvAll (partsP g) (partsP g) = true
      rw [eqv_parts]
      simp [sameB]
    rw [heq]
    refine iteF ?_
    refine Nrm.of ⟨[some (.fr (.scr ns)), some (.cell 0), some (.fr (.int (0 + (i : Nat)))), some (.fr g.d), some (.fr (gameD K g)), s5, s6, none], [some (rowC ns a b c)]⟩ rfl ?_
    (repeat (first | refine ⟨_, rfl, Nat.le_of_ble_eq_true rfl, ?_⟩ | refine ⟨_, rfl, ?_⟩ | refine ⟨_, _, rfl, ?_⟩ | refine ⟨_, _, rfl, rfl, ?_⟩ | refine ⟨_, _, _, rfl, rfl, rfl, ?_⟩ | refine ⟨_, _, _, rfl, rfl, by (first | exact kb_NoneType_int | exact kb_bool_int | exact kb_int_int | exact kb_str_int | exact kb_tuple_int | exact kb_list_int | exact kb_dict_int | exact kb_NoneType_bool | exact kb_bool_bool | exact kb_int_bool | exact kb_str_bool | exact kb_tuple_bool | exact kb_list_bool | exact kb_dict_bool | exact kb_NoneType_tuple | exact kb_bool_tuple | exact kb_int_tuple | exact kb_str_tuple | exact kb_tuple_tuple | exact kb_list_tuple | exact kb_dict_tuple), ?_⟩ | refine ⟨_, _, _, _, _, rfl, rfl, rfl, rfl, rfl, ?_⟩ | refine iteT ?_ | refine iteF ?_ | refine ⟨(by decide : List.Nodup _), ?_⟩ | refine ⟨rfl, ?_⟩))
    refine ⟨ns, a, b, c, _, rfl, hw, by omega, by omega, fun a b c q hw hq0 hq1 => ?_⟩
    (repeat (first | refine ⟨_, rfl, Nat.le_of_ble_eq_true rfl, ?_⟩ | refine ⟨_, rfl, ?_⟩ | refine ⟨_, _, rfl, ?_⟩ | refine ⟨_, _, rfl, rfl, ?_⟩ | refine ⟨_, _, _, rfl, rfl, rfl, ?_⟩ | refine ⟨_, _, _, rfl, rfl, by (first | exact kb_NoneType_int | exact kb_bool_int | exact kb_int_int | exact kb_str_int | exact kb_tuple_int | exact kb_list_int | exact kb_dict_int | exact kb_NoneType_bool | exact kb_bool_bool | exact kb_int_bool | exact kb_str_bool | exact kb_tuple_bool | exact kb_list_bool | exact kb_dict_bool | exact kb_NoneType_tuple | exact kb_bool_tuple | exact kb_int_tuple | exact kb_str_tuple | exact kb_tuple_tuple | exact kb_list_tuple | exact kb_dict_tuple), ?_⟩ | refine ⟨_, _, _, _, _, rfl, rfl, rfl, rfl, rfl, ?_⟩ | refine iteT ?_ | refine iteF ?_ | refine ⟨(by decide : List.Nodup _), ?_⟩ | refine ⟨rfl, ?_⟩))
    refine ite2 (fun hz => ?_) (fun hz => ?_)
    · (repeat (first | refine ⟨_, rfl, Nat.le_of_ble_eq_true rfl, ?_⟩ | refine ⟨_, rfl, ?_⟩ | refine ⟨_, _, rfl, ?_⟩ | refine ⟨_, _, rfl, rfl, ?_⟩ | refine ⟨_, _, _, rfl, rfl, rfl, ?_⟩ | refine ⟨_, _, _, rfl, rfl, by (first | exact kb_NoneType_int | exact kb_bool_int | exact kb_int_int | exact kb_str_int | exact kb_tuple_int | exact kb_list_int | exact kb_dict_int | exact kb_NoneType_bool | exact kb_bool_bool | exact kb_int_bool | exact kb_str_bool | exact kb_tuple_bool | exact kb_list_bool | exact kb_dict_bool | exact kb_NoneType_tuple | exact kb_bool_tuple | exact kb_int_tuple | exact kb_str_tuple | exact kb_tuple_tuple | exact kb_list_tuple | exact kb_dict_tuple), ?_⟩ | refine ⟨_, _, _, _, _, rfl, rfl, rfl, rfl, rfl, ?_⟩ | refine iteT ?_ | refine iteF ?_ | refine ⟨(by decide : List.Nodup _), ?_⟩ | refine ⟨rfl, ?_⟩))
      refine ⟨ns, a, b, c, rfl, hw, fun a b c e hw he => ?_⟩
      (repeat (first | refine ⟨_, rfl, Nat.le_of_ble_eq_true rfl, ?_⟩ | refine ⟨_, rfl, ?_⟩ | refine ⟨_, _, rfl, ?_⟩ | refine ⟨_, _, rfl, rfl, ?_⟩ | refine ⟨_, _, _, rfl, rfl, rfl, ?_⟩ | refine ⟨_, _, _, rfl, rfl, by (first | exact kb_NoneType_int | exact kb_bool_int | exact kb_int_int | exact kb_str_int | exact kb_tuple_int | exact kb_list_int | exact kb_dict_int | exact kb_NoneType_bool | exact kb_bool_bool | exact kb_int_bool | exact kb_str_bool | exact kb_tuple_bool | exact kb_list_bool | exact kb_dict_bool | exact kb_NoneType_tuple | exact kb_bool_tuple | exact kb_int_tuple | exact kb_str_tuple | exact kb_tuple_tuple | exact kb_list_tuple | exact kb_dict_tuple), ?_⟩ | refine ⟨_, _, _, _, _, rfl, rfl, rfl, rfl, rfl, ?_⟩ | refine iteT ?_ | refine iteF ?_ | refine ⟨(by decide : List.Nodup _), ?_⟩ | refine ⟨rfl, ?_⟩))
      refine Nrm.of ⟨[some (.fr (.scr ns)), some (.cell 0), some (.fr (.int (0 + (i : Nat)))), some (.fr g.d), some (.fr (gameD K g)), some (.fr e.d), s6, none], [some (rowC ns a b c)]⟩ rfl ?_
      (repeat (first | refine ⟨_, rfl, Nat.le_of_ble_eq_true rfl, ?_⟩ | refine ⟨_, rfl, ?_⟩ | refine ⟨_, _, rfl, ?_⟩ | refine ⟨_, _, rfl, rfl, ?_⟩ | refine ⟨_, _, _, rfl, rfl, rfl, ?_⟩ | refine ⟨_, _, _, rfl, rfl, by (first | exact kb_NoneType_int | exact kb_bool_int | exact kb_int_int | exact kb_str_int | exact kb_tuple_int | exact kb_list_int | exact kb_dict_int | exact kb_NoneType_bool | exact kb_bool_bool | exact kb_int_bool | exact kb_str_bool | exact kb_tuple_bool | exact kb_list_bool | exact kb_dict_bool | exact kb_NoneType_tuple | exact kb_bool_tuple | exact kb_int_tuple | exact kb_str_tuple | exact kb_tuple_tuple | exact kb_list_tuple | exact kb_dict_tuple), ?_⟩ | refine ⟨_, _, _, _, _, rfl, rfl, rfl, rfl, rfl, ?_⟩ | refine iteT ?_ | refine iteF ?_ | refine ⟨(by decide : List.Nodup _), ?_⟩ | refine ⟨rfl, ?_⟩))
      refine ⟨_, _, _, _, _, rfl, ?_⟩
      refine game_made he ?_
      refine ⟨_, rfl, rfl, ?_⟩
      (repeat (first | refine ⟨_, rfl, Nat.le_of_ble_eq_true rfl, ?_⟩ | refine ⟨_, rfl, ?_⟩ | refine ⟨_, _, rfl, ?_⟩ | refine ⟨_, _, rfl, rfl, ?_⟩ | refine ⟨_, _, _, rfl, rfl, rfl, ?_⟩ | refine ⟨_, _, _, rfl, rfl, by (first | exact kb_NoneType_int | exact kb_bool_int | exact kb_int_int | exact kb_str_int | exact kb_tuple_int | exact kb_list_int | exact kb_dict_int | exact kb_NoneType_bool | exact kb_bool_bool | exact kb_int_bool | exact kb_str_bool | exact kb_tuple_bool | exact kb_list_bool | exact kb_dict_bool | exact kb_NoneType_tuple | exact kb_bool_tuple | exact kb_int_tuple | exact kb_str_tuple | exact kb_tuple_tuple | exact kb_list_tuple | exact kb_dict_tuple), ?_⟩ | refine ⟨_, _, _, _, _, rfl, rfl, rfl, rfl, rfl, ?_⟩ | refine iteT ?_ | refine iteF ?_ | refine ⟨(by decide : List.Nodup _), ?_⟩ | refine ⟨rfl, ?_⟩))
      refine ⟨⟨_, _, rfl⟩, .inl ⟨_, _, rfl⟩, ?_⟩
      refine ⟨_, [], rfl, List.nodup_nil, .inl ⟨e, g, rfl, ?_⟩⟩
      (repeat (first | refine ⟨_, rfl, Nat.le_of_ble_eq_true rfl, ?_⟩ | refine ⟨_, rfl, ?_⟩ | refine ⟨_, _, rfl, ?_⟩ | refine ⟨_, _, rfl, rfl, ?_⟩ | refine ⟨_, _, _, rfl, rfl, rfl, ?_⟩ | refine ⟨_, _, _, rfl, rfl, by (first | exact kb_NoneType_int | exact kb_bool_int | exact kb_int_int | exact kb_str_int | exact kb_tuple_int | exact kb_list_int | exact kb_dict_int | exact kb_NoneType_bool | exact kb_bool_bool | exact kb_int_bool | exact kb_str_bool | exact kb_tuple_bool | exact kb_list_bool | exact kb_dict_bool | exact kb_NoneType_tuple | exact kb_bool_tuple | exact kb_int_tuple | exact kb_str_tuple | exact kb_tuple_tuple | exact kb_list_tuple | exact kb_dict_tuple), ?_⟩ | refine ⟨_, _, _, _, _, rfl, rfl, rfl, rfl, rfl, ?_⟩ | refine iteT ?_ | refine iteF ?_ | refine ⟨(by decide : List.Nodup _), ?_⟩ | refine ⟨rfl, ?_⟩))
      refine ⟨_, _, _, _, _, _, rfl, rfl, pyDs_parts e, pyDs_parts g, shaped_parts e, shaped_parts g, ?_⟩
      refine ⟨_, _, _, _, rfl, rfl, rfl, rfl, rfl, _, rfl, ?_⟩
      rw [dicEq_parts, eqv_parts]
      have hsm : (sameB e g && decide (e.many = g.many)) = sameB e g := by
        cases hse : sameB e g with
        | false => rfl
        | true => rw [same_many he hg hse]; simp
      rw [hsm]
      refine ite2 (fun hc => absurd hc (by simp)) (fun _ => ?_)
      (repeat (first | refine ⟨_, rfl, Nat.le_of_ble_eq_true rfl, ?_⟩ | refine ⟨_, rfl, ?_⟩ | refine ⟨_, _, rfl, ?_⟩ | refine ⟨_, _, rfl, rfl, ?_⟩ | refine ⟨_, _, _, rfl, rfl, rfl, ?_⟩ | refine ⟨_, _, _, rfl, rfl, by (first | exact kb_NoneType_int | exact kb_bool_int | exact kb_int_int | exact kb_str_int | exact kb_tuple_int | exact kb_list_int | exact kb_dict_int | exact kb_NoneType_bool | exact kb_bool_bool | exact kb_int_bool | exact kb_str_bool | exact kb_tuple_bool | exact kb_list_bool | exact kb_dict_bool | exact kb_NoneType_tuple | exact kb_bool_tuple | exact kb_int_tuple | exact kb_str_tuple | exact kb_tuple_tuple | exact kb_list_tuple | exact kb_dict_tuple), ?_⟩ | refine ⟨_, _, _, _, _, rfl, rfl, rfl, rfl, rfl, ?_⟩ | refine iteT ?_ | refine iteF ?_ | refine ⟨(by decide : List.Nodup _), ?_⟩ | refine ⟨rfl, ?_⟩))
      refine ⟨⟨_, _, rfl⟩, .inr ⟨_, _, rfl⟩, ?_⟩
      refine ⟨_, [], rfl, List.nodup_nil, .inr ⟨g, _, _, rfl, ?_⟩⟩
      (repeat (first | refine ⟨_, rfl, Nat.le_of_ble_eq_true rfl, ?_⟩ | refine ⟨_, rfl, ?_⟩ | refine ⟨_, _, rfl, ?_⟩ | refine ⟨_, _, rfl, rfl, ?_⟩ | refine ⟨_, _, _, rfl, rfl, rfl, ?_⟩ | refine ⟨_, _, _, rfl, rfl, by (first | exact kb_NoneType_int | exact kb_bool_int | exact kb_int_int | exact kb_str_int | exact kb_tuple_int | exact kb_list_int | exact kb_dict_int | exact kb_NoneType_bool | exact kb_bool_bool | exact kb_int_bool | exact kb_str_bool | exact kb_tuple_bool | exact kb_list_bool | exact kb_dict_bool | exact kb_NoneType_tuple | exact kb_bool_tuple | exact kb_int_tuple | exact kb_str_tuple | exact kb_tuple_tuple | exact kb_list_tuple | exact kb_dict_tuple), ?_⟩ | refine ⟨_, _, _, _, _, rfl, rfl, rfl, rfl, rfl, ?_⟩ | refine iteT ?_ | refine iteF ?_ | refine ⟨(by decide : List.Nodup _), ?_⟩ | refine ⟨rfl, ?_⟩))
      refine Nrm.of ⟨[some (.fr (.scr ns)), some (.cell 0), some (.fr (.int (0 + (i : Nat)))), some (.fr g.d), some (.fr (gameD K g)), some (.fr e.d), s6, none], [some (rowC ns a b c)]⟩ rfl ?_
      (repeat (first | refine ⟨_, rfl, Nat.le_of_ble_eq_true rfl, ?_⟩ | refine ⟨_, rfl, ?_⟩ | refine ⟨_, _, rfl, ?_⟩ | refine ⟨_, _, rfl, rfl, ?_⟩ | refine ⟨_, _, _, rfl, rfl, rfl, ?_⟩ | refine ⟨_, _, _, rfl, rfl, by (first | exact kb_NoneType_int | exact kb_bool_int | exact kb_int_int | exact kb_str_int | exact kb_tuple_int | exact kb_list_int | exact kb_dict_int | exact kb_NoneType_bool | exact kb_bool_bool | exact kb_int_bool | exact kb_str_bool | exact kb_tuple_bool | exact kb_list_bool | exact kb_dict_bool | exact kb_NoneType_tuple | exact kb_bool_tuple | exact kb_int_tuple | exact kb_str_tuple | exact kb_tuple_tuple | exact kb_list_tuple | exact kb_dict_tuple), ?_⟩ | refine ⟨_, _, _, _, _, rfl, rfl, rfl, rfl, rfl, ?_⟩ | refine iteT ?_ | refine iteF ?_ | refine ⟨(by decide : List.Nodup _), ?_⟩ | refine ⟨rfl, ?_⟩))
      refine ⟨ns, a, b, c, _, rfl, hw, by omega, by omega, fun a b c q hw hq0 hq1 => ?_⟩
      (repeat (first | refine ⟨_, rfl, Nat.le_of_ble_eq_true rfl, ?_⟩ | refine ⟨_, rfl, ?_⟩ | refine ⟨_, _, rfl, ?_⟩ | refine ⟨_, _, rfl, rfl, ?_⟩ | refine ⟨_, _, _, rfl, rfl, rfl, ?_⟩ | refine ⟨_, _, _, rfl, rfl, by (first | exact kb_NoneType_int | exact kb_bool_int | exact kb_int_int | exact kb_str_int | exact kb_tuple_int | exact kb_list_int | exact kb_dict_int | exact kb_NoneType_bool | exact kb_bool_bool | exact kb_int_bool | exact kb_str_bool | exact kb_tuple_bool | exact kb_list_bool | exact kb_dict_bool | exact kb_NoneType_tuple | exact kb_bool_tuple | exact kb_int_tuple | exact kb_str_tuple | exact kb_tuple_tuple | exact kb_list_tuple | exact kb_dict_tuple), ?_⟩ | refine ⟨_, _, _, _, _, rfl, rfl, rfl, rfl, rfl, ?_⟩ | refine iteT ?_ | refine iteF ?_ | refine ⟨(by decide : List.Nodup _), ?_⟩ | refine ⟨rfl, ?_⟩))
      refine ⟨by omega, by omega, ?_⟩
      refine ⟨fun j S => ∃ a b c co p y r m s6, S = ⟨[some (.fr (.scr ns)), some (.cell 0), some (.fr (.int (0 + (i : Nat)))), some (.fr (drD co p y r m)), some (.fr (gameD K g)), some (.fr e.d), s6, none], [some (rowC ns a b c)]⟩ ∧ RowOk a b ∧ Fit co ∧ Fit p ∧ Fit y ∧ Fit r,
        ⟨a, b, c, _, _, _, _, _, s6, rfl, hw, fit_pr _, fit_prs (by have := hg.paths.len; omega), fit_prs (by have := hg.pLen; omega), fit_pr _⟩, ?_, ?_⟩
      · rintro j d S1 hd ⟨a, b, c, co, p, y, r, m, s6, rfl, hw, fc, fp, fy, fr⟩
        obtain ⟨hj, rfl⟩ := rngD_get hd
        (repeat (first | refine ⟨_, rfl, Nat.le_of_ble_eq_true rfl, ?_⟩ | refine ⟨_, rfl, ?_⟩ | refine ⟨_, _, rfl, ?_⟩ | refine ⟨_, _, rfl, rfl, ?_⟩ | refine ⟨_, _, _, rfl, rfl, rfl, ?_⟩ | refine ⟨_, _, _, rfl, rfl, by (first | exact kb_NoneType_int | exact kb_bool_int | exact kb_int_int | exact kb_str_int | exact kb_tuple_int | exact kb_list_int | exact kb_dict_int | exact kb_NoneType_bool | exact kb_bool_bool | exact kb_int_bool | exact kb_str_bool | exact kb_tuple_bool | exact kb_list_bool | exact kb_dict_bool | exact kb_NoneType_tuple | exact kb_bool_tuple | exact kb_int_tuple | exact kb_str_tuple | exact kb_tuple_tuple | exact kb_list_tuple | exact kb_dict_tuple), ?_⟩ | refine ⟨_, _, _, _, _, rfl, rfl, rfl, rfl, rfl, ?_⟩ | refine iteT ?_ | refine iteF ?_ | refine ⟨(by decide : List.Nodup _), ?_⟩ | refine ⟨rfl, ?_⟩))
        refine ⟨ns, a, b, c, _, rfl, hw, by omega, by omega, fun a b c x hw hx0 hx1 => ?_⟩
        (repeat (first | refine ⟨_, rfl, Nat.le_of_ble_eq_true rfl, ?_⟩ | refine ⟨_, rfl, ?_⟩ | refine ⟨_, _, rfl, ?_⟩ | refine ⟨_, _, rfl, rfl, ?_⟩ | refine ⟨_, _, _, rfl, rfl, rfl, ?_⟩ | refine ⟨_, _, _, rfl, rfl, by (first | exact kb_NoneType_int | exact kb_bool_int | exact kb_int_int | exact kb_str_int | exact kb_tuple_int | exact kb_list_int | exact kb_dict_int | exact kb_NoneType_bool | exact kb_bool_bool | exact kb_int_bool | exact kb_str_bool | exact kb_tuple_bool | exact kb_list_bool | exact kb_dict_bool | exact kb_NoneType_tuple | exact kb_bool_tuple | exact kb_int_tuple | exact kb_str_tuple | exact kb_tuple_tuple | exact kb_list_tuple | exact kb_dict_tuple), ?_⟩ | refine ⟨_, _, _, _, _, rfl, rfl, rfl, rfl, rfl, ?_⟩ | refine iteT ?_ | refine iteF ?_ | refine ⟨(by decide : List.Nodup _), ?_⟩ | refine ⟨rfl, ?_⟩))
        obtain ⟨vk, hvk, hm⟩ := atI_mem (ds := [.str "coin", .str "paths", .str "pays", .str "road"]) (i := x) hx0 hx1
        obtain ⟨k, rfl, hk⟩ : ∃ k : Str, vk = .str k ∧ (k = "coin" ∨ k = "paths" ∨ k = "pays" ∨ k = "road") := by
          simp only [List.mem_cons, List.not_mem_nil, or_false] at hm
          rcases hm with rfl | rfl | rfl | rfl
          · exact ⟨_, rfl, .inl rfl⟩
          · exact ⟨_, rfl, .inr (.inl rfl)⟩
          · exact ⟨_, rfl, .inr (.inr (.inl rfl))⟩
          · exact ⟨_, rfl, .inr (.inr (.inr rfl))⟩
        refine ⟨_, _, _, rfl, rfl, hvk, ?_⟩
        (repeat (first | refine ⟨_, rfl, Nat.le_of_ble_eq_true rfl, ?_⟩ | refine ⟨_, rfl, ?_⟩ | refine ⟨_, _, rfl, ?_⟩ | refine ⟨_, _, rfl, rfl, ?_⟩ | refine ⟨_, _, _, rfl, rfl, rfl, ?_⟩ | refine ⟨_, _, _, rfl, rfl, by (first | exact kb_NoneType_int | exact kb_bool_int | exact kb_int_int | exact kb_str_int | exact kb_tuple_int | exact kb_list_int | exact kb_dict_int | exact kb_NoneType_bool | exact kb_bool_bool | exact kb_int_bool | exact kb_str_bool | exact kb_tuple_bool | exact kb_list_bool | exact kb_dict_bool | exact kb_NoneType_tuple | exact kb_bool_tuple | exact kb_int_tuple | exact kb_str_tuple | exact kb_tuple_tuple | exact kb_list_tuple | exact kb_dict_tuple), ?_⟩ | refine ⟨_, _, _, _, _, rfl, rfl, rfl, rfl, rfl, ?_⟩ | refine iteT ?_ | refine iteF ?_ | refine ⟨(by decide : List.Nodup _), ?_⟩ | refine ⟨rfl, ?_⟩))
        refine ⟨ns, a, b, c, co, p, y, r, m, rfl, hw, fun a b c v hw hv => ?_⟩
        have fv : Fit v := by
          rcases List.mem_append.mp hv with hv | hv
          · exact fit_odd hv
          · simp only [List.mem_cons, List.not_mem_nil, or_false] at hv
            rcases hv with rfl | rfl | rfl
            · exact fp
            · exact fy
            · exact fr
        (repeat (first | refine ⟨_, rfl, Nat.le_of_ble_eq_true rfl, ?_⟩ | refine ⟨_, rfl, ?_⟩ | refine ⟨_, _, rfl, ?_⟩ | refine ⟨_, _, rfl, rfl, ?_⟩ | refine ⟨_, _, _, rfl, rfl, rfl, ?_⟩ | refine ⟨_, _, _, rfl, rfl, by (first | exact kb_NoneType_int | exact kb_bool_int | exact kb_int_int | exact kb_str_int | exact kb_tuple_int | exact kb_list_int | exact kb_dict_int | exact kb_NoneType_bool | exact kb_bool_bool | exact kb_int_bool | exact kb_str_bool | exact kb_tuple_bool | exact kb_list_bool | exact kb_dict_bool | exact kb_NoneType_tuple | exact kb_bool_tuple | exact kb_int_tuple | exact kb_str_tuple | exact kb_tuple_tuple | exact kb_list_tuple | exact kb_dict_tuple), ?_⟩ | refine ⟨_, _, _, _, _, rfl, rfl, rfl, rfl, rfl, ?_⟩ | refine iteT ?_ | refine iteF ?_ | refine ⟨(by decide : List.Nodup _), ?_⟩ | refine ⟨rfl, ?_⟩))
        refine ⟨co, p, y, r, m, k, v, rfl, fun _ => ?_, fun _ => ?_, fun _ => ?_, fun _ => ?_, hk⟩
        · exact ⟨a, b, c, v, p, y, r, m, _, rfl, hw, fv, fp, fy, fr⟩
        · exact ⟨a, b, c, co, v, y, r, m, _, rfl, hw, fc, fv, fy, fr⟩
        · exact ⟨a, b, c, co, p, v, r, m, _, rfl, hw, fc, fp, fv, fr⟩
        · exact ⟨a, b, c, co, p, y, v, m, _, rfl, hw, fc, fp, fy, fv⟩
      · rintro S1 ⟨a, b, c, co, p, y, r, m, s6, rfl, hw, fc, fp, fy, fr⟩
        refine Nrm.of ⟨[some (.fr (.scr ns)), some (.cell 0), some (.fr (.int (0 + (i : Nat)))), some (.fr (drD co p y r m)), some (.fr (gameD K g)), some (.fr e.d), s6, none], [some (rowC ns a b c)]⟩ rfl ?_
        obtain ⟨t, tl⟩ := tl_ex co p y r
        obtain ⟨tv, ht, hs⟩ := tl_fl tl
        (repeat (first | refine ⟨_, rfl, Nat.le_of_ble_eq_true rfl, ?_⟩ | refine ⟨_, rfl, ?_⟩ | refine ⟨_, _, rfl, ?_⟩ | refine ⟨_, _, rfl, rfl, ?_⟩ | refine ⟨_, _, _, rfl, rfl, rfl, ?_⟩ | refine ⟨_, _, _, rfl, rfl, by (first | exact kb_NoneType_int | exact kb_bool_int | exact kb_int_int | exact kb_str_int | exact kb_tuple_int | exact kb_list_int | exact kb_dict_int | exact kb_NoneType_bool | exact kb_bool_bool | exact kb_int_bool | exact kb_str_bool | exact kb_tuple_bool | exact kb_list_bool | exact kb_dict_bool | exact kb_NoneType_tuple | exact kb_bool_tuple | exact kb_int_tuple | exact kb_str_tuple | exact kb_tuple_tuple | exact kb_list_tuple | exact kb_dict_tuple), ?_⟩ | refine ⟨_, _, _, _, _, rfl, rfl, rfl, rfl, rfl, ?_⟩ | refine iteT ?_ | refine iteF ?_ | refine ⟨(by decide : List.Nodup _), ?_⟩ | refine ⟨rfl, ?_⟩))
        refine refused_of fc fp fy fr tl ?_
        (repeat (first | refine ⟨_, rfl, Nat.le_of_ble_eq_true rfl, ?_⟩ | refine ⟨_, rfl, ?_⟩ | refine ⟨_, _, rfl, ?_⟩ | refine ⟨_, _, rfl, rfl, ?_⟩ | refine ⟨_, _, _, rfl, rfl, rfl, ?_⟩ | refine ⟨_, _, _, rfl, rfl, by (first | exact kb_NoneType_int | exact kb_bool_int | exact kb_int_int | exact kb_str_int | exact kb_tuple_int | exact kb_list_int | exact kb_dict_int | exact kb_NoneType_bool | exact kb_bool_bool | exact kb_int_bool | exact kb_str_bool | exact kb_tuple_bool | exact kb_list_bool | exact kb_dict_bool | exact kb_NoneType_tuple | exact kb_bool_tuple | exact kb_int_tuple | exact kb_str_tuple | exact kb_tuple_tuple | exact kb_list_tuple | exact kb_dict_tuple), ?_⟩ | refine ⟨_, _, _, _, _, rfl, rfl, rfl, rfl, rfl, ?_⟩ | refine iteT ?_ | refine iteF ?_ | refine ⟨(by decide : List.Nodup _), ?_⟩ | refine ⟨rfl, ?_⟩))
        refine ⟨co, p, y, r, m, t, rfl, fc, fp, fy, fr, tl, ?_⟩
        refine ⟨_, _, _, _, rfl, rfl, ht, ht, hs, _, rfl, ?_⟩
        refine ite2 (fun hc => absurd hc (by simp)) (fun _ => ?_)
        exact ⟨a, b, c, _, _, _, _, _, rfl, hw⟩
    · (repeat (first | refine ⟨_, rfl, Nat.le_of_ble_eq_true rfl, ?_⟩ | refine ⟨_, rfl, ?_⟩ | refine ⟨_, _, rfl, ?_⟩ | refine ⟨_, _, rfl, rfl, ?_⟩ | refine ⟨_, _, _, rfl, rfl, rfl, ?_⟩ | refine ⟨_, _, _, rfl, rfl, by (first | exact kb_NoneType_int | exact kb_bool_int | exact kb_int_int | exact kb_str_int | exact kb_tuple_int | exact kb_list_int | exact kb_dict_int | exact kb_NoneType_bool | exact kb_bool_bool | exact kb_int_bool | exact kb_str_bool | exact kb_tuple_bool | exact kb_list_bool | exact kb_dict_bool | exact kb_NoneType_tuple | exact kb_bool_tuple | exact kb_int_tuple | exact kb_str_tuple | exact kb_tuple_tuple | exact kb_list_tuple | exact kb_dict_tuple), ?_⟩ | refine ⟨_, _, _, _, _, rfl, rfl, rfl, rfl, rfl, ?_⟩ | refine iteT ?_ | refine iteF ?_ | refine ⟨(by decide : List.Nodup _), ?_⟩ | refine ⟨rfl, ?_⟩))
      obtain ⟨e, eg, he⟩ : ∃ e : Gm, e = g ∧ e.Ok := ⟨g, rfl, hg⟩
      refine Nrm.of ⟨[some (.fr (.scr ns)), some (.cell 0), some (.fr (.int (0 + (i : Nat)))), some (.fr g.d), some (.fr (gameD K g)), some (.fr e.d), s6, none], [some (rowC ns a b c)]⟩ (by rw [eg]; rfl) ?_
      clear eg
      (repeat (first | refine ⟨_, rfl, Nat.le_of_ble_eq_true rfl, ?_⟩ | refine ⟨_, rfl, ?_⟩ | refine ⟨_, _, rfl, ?_⟩ | refine ⟨_, _, rfl, rfl, ?_⟩ | refine ⟨_, _, _, rfl, rfl, rfl, ?_⟩ | refine ⟨_, _, _, rfl, rfl, by (first | exact kb_NoneType_int | exact kb_bool_int | exact kb_int_int | exact kb_str_int | exact kb_tuple_int | exact kb_list_int | exact kb_dict_int | exact kb_NoneType_bool | exact kb_bool_bool | exact kb_int_bool | exact kb_str_bool | exact kb_tuple_bool | exact kb_list_bool | exact kb_dict_bool | exact kb_NoneType_tuple | exact kb_bool_tuple | exact kb_int_tuple | exact kb_str_tuple | exact kb_tuple_tuple | exact kb_list_tuple | exact kb_dict_tuple), ?_⟩ | refine ⟨_, _, _, _, _, rfl, rfl, rfl, rfl, rfl, ?_⟩ | refine iteT ?_ | refine iteF ?_ | refine ⟨(by decide : List.Nodup _), ?_⟩ | refine ⟨rfl, ?_⟩))
      refine ⟨_, _, _, _, _, rfl, ?_⟩
      refine game_made he ?_
      refine ⟨_, rfl, rfl, ?_⟩
      (repeat (first | refine ⟨_, rfl, Nat.le_of_ble_eq_true rfl, ?_⟩ | refine ⟨_, rfl, ?_⟩ | refine ⟨_, _, rfl, ?_⟩ | refine ⟨_, _, rfl, rfl, ?_⟩ | refine ⟨_, _, _, rfl, rfl, rfl, ?_⟩ | refine ⟨_, _, _, rfl, rfl, by (first | exact kb_NoneType_int | exact kb_bool_int | exact kb_int_int | exact kb_str_int | exact kb_tuple_int | exact kb_list_int | exact kb_dict_int | exact kb_NoneType_bool | exact kb_bool_bool | exact kb_int_bool | exact kb_str_bool | exact kb_tuple_bool | exact kb_list_bool | exact kb_dict_bool | exact kb_NoneType_tuple | exact kb_bool_tuple | exact kb_int_tuple | exact kb_str_tuple | exact kb_tuple_tuple | exact kb_list_tuple | exact kb_dict_tuple), ?_⟩ | refine ⟨_, _, _, _, _, rfl, rfl, rfl, rfl, rfl, ?_⟩ | refine iteT ?_ | refine iteF ?_ | refine ⟨(by decide : List.Nodup _), ?_⟩ | refine ⟨rfl, ?_⟩))
      refine ⟨⟨_, _, rfl⟩, .inl ⟨_, _, rfl⟩, ?_⟩
      refine ⟨_, [], rfl, List.nodup_nil, .inl ⟨e, g, rfl, ?_⟩⟩
      (repeat (first | refine ⟨_, rfl, Nat.le_of_ble_eq_true rfl, ?_⟩ | refine ⟨_, rfl, ?_⟩ | refine ⟨_, _, rfl, ?_⟩ | refine ⟨_, _, rfl, rfl, ?_⟩ | refine ⟨_, _, _, rfl, rfl, rfl, ?_⟩ | refine ⟨_, _, _, rfl, rfl, by (first | exact kb_NoneType_int | exact kb_bool_int | exact kb_int_int | exact kb_str_int | exact kb_tuple_int | exact kb_list_int | exact kb_dict_int | exact kb_NoneType_bool | exact kb_bool_bool | exact kb_int_bool | exact kb_str_bool | exact kb_tuple_bool | exact kb_list_bool | exact kb_dict_bool | exact kb_NoneType_tuple | exact kb_bool_tuple | exact kb_int_tuple | exact kb_str_tuple | exact kb_tuple_tuple | exact kb_list_tuple | exact kb_dict_tuple), ?_⟩ | refine ⟨_, _, _, _, _, rfl, rfl, rfl, rfl, rfl, ?_⟩ | refine iteT ?_ | refine iteF ?_ | refine ⟨(by decide : List.Nodup _), ?_⟩ | refine ⟨rfl, ?_⟩))
      refine ⟨_, _, _, _, _, _, rfl, rfl, pyDs_parts e, pyDs_parts g, shaped_parts e, shaped_parts g, ?_⟩
      refine ⟨_, _, _, _, rfl, rfl, rfl, rfl, rfl, _, rfl, ?_⟩
      rw [dicEq_parts, eqv_parts]
      have hsm : (sameB e g && decide (e.many = g.many)) = sameB e g := by
        cases hse : sameB e g with
        | false => rfl
        | true => rw [same_many he hg hse]; simp
      rw [hsm]
      refine ite2 (fun hc => absurd hc (by simp)) (fun _ => ?_)
      (repeat (first | refine ⟨_, rfl, Nat.le_of_ble_eq_true rfl, ?_⟩ | refine ⟨_, rfl, ?_⟩ | refine ⟨_, _, rfl, ?_⟩ | refine ⟨_, _, rfl, rfl, ?_⟩ | refine ⟨_, _, _, rfl, rfl, rfl, ?_⟩ | refine ⟨_, _, _, rfl, rfl, by (first | exact kb_NoneType_int | exact kb_bool_int | exact kb_int_int | exact kb_str_int | exact kb_tuple_int | exact kb_list_int | exact kb_dict_int | exact kb_NoneType_bool | exact kb_bool_bool | exact kb_int_bool | exact kb_str_bool | exact kb_tuple_bool | exact kb_list_bool | exact kb_dict_bool | exact kb_NoneType_tuple | exact kb_bool_tuple | exact kb_int_tuple | exact kb_str_tuple | exact kb_tuple_tuple | exact kb_list_tuple | exact kb_dict_tuple), ?_⟩ | refine ⟨_, _, _, _, _, rfl, rfl, rfl, rfl, rfl, ?_⟩ | refine iteT ?_ | refine iteF ?_ | refine ⟨(by decide : List.Nodup _), ?_⟩ | refine ⟨rfl, ?_⟩))
      refine ⟨⟨_, _, rfl⟩, .inr ⟨_, _, rfl⟩, ?_⟩
      refine ⟨_, [], rfl, List.nodup_nil, .inr ⟨g, _, _, rfl, ?_⟩⟩
      (repeat (first | refine ⟨_, rfl, Nat.le_of_ble_eq_true rfl, ?_⟩ | refine ⟨_, rfl, ?_⟩ | refine ⟨_, _, rfl, ?_⟩ | refine ⟨_, _, rfl, rfl, ?_⟩ | refine ⟨_, _, _, rfl, rfl, rfl, ?_⟩ | refine ⟨_, _, _, rfl, rfl, by (first | exact kb_NoneType_int | exact kb_bool_int | exact kb_int_int | exact kb_str_int | exact kb_tuple_int | exact kb_list_int | exact kb_dict_int | exact kb_NoneType_bool | exact kb_bool_bool | exact kb_int_bool | exact kb_str_bool | exact kb_tuple_bool | exact kb_list_bool | exact kb_dict_bool | exact kb_NoneType_tuple | exact kb_bool_tuple | exact kb_int_tuple | exact kb_str_tuple | exact kb_tuple_tuple | exact kb_list_tuple | exact kb_dict_tuple), ?_⟩ | refine ⟨_, _, _, _, _, rfl, rfl, rfl, rfl, rfl, ?_⟩ | refine iteT ?_ | refine iteF ?_ | refine ⟨(by decide : List.Nodup _), ?_⟩ | refine ⟨rfl, ?_⟩))
      refine Nrm.of ⟨[some (.fr (.scr ns)), some (.cell 0), some (.fr (.int (0 + (i : Nat)))), some (.fr g.d), some (.fr (gameD K g)), some (.fr e.d), s6, none], [some (rowC ns a b c)]⟩ rfl ?_
      (repeat (first | refine ⟨_, rfl, Nat.le_of_ble_eq_true rfl, ?_⟩ | refine ⟨_, rfl, ?_⟩ | refine ⟨_, _, rfl, ?_⟩ | refine ⟨_, _, rfl, rfl, ?_⟩ | refine ⟨_, _, _, rfl, rfl, rfl, ?_⟩ | refine ⟨_, _, _, rfl, rfl, by (first | exact kb_NoneType_int | exact kb_bool_int | exact kb_int_int | exact kb_str_int | exact kb_tuple_int | exact kb_list_int | exact kb_dict_int | exact kb_NoneType_bool | exact kb_bool_bool | exact kb_int_bool | exact kb_str_bool | exact kb_tuple_bool | exact kb_list_bool | exact kb_dict_bool | exact kb_NoneType_tuple | exact kb_bool_tuple | exact kb_int_tuple | exact kb_str_tuple | exact kb_tuple_tuple | exact kb_list_tuple | exact kb_dict_tuple), ?_⟩ | refine ⟨_, _, _, _, _, rfl, rfl, rfl, rfl, rfl, ?_⟩ | refine iteT ?_ | refine iteF ?_ | refine ⟨(by decide : List.Nodup _), ?_⟩ | refine ⟨rfl, ?_⟩))
      refine ⟨ns, a, b, c, _, rfl, hw, by omega, by omega, fun a b c q hw hq0 hq1 => ?_⟩
      (repeat (first | refine ⟨_, rfl, Nat.le_of_ble_eq_true rfl, ?_⟩ | refine ⟨_, rfl, ?_⟩ | refine ⟨_, _, rfl, ?_⟩ | refine ⟨_, _, rfl, rfl, ?_⟩ | refine ⟨_, _, _, rfl, rfl, rfl, ?_⟩ | refine ⟨_, _, _, rfl, rfl, by (first | exact kb_NoneType_int | exact kb_bool_int | exact kb_int_int | exact kb_str_int | exact kb_tuple_int | exact kb_list_int | exact kb_dict_int | exact kb_NoneType_bool | exact kb_bool_bool | exact kb_int_bool | exact kb_str_bool | exact kb_tuple_bool | exact kb_list_bool | exact kb_dict_bool | exact kb_NoneType_tuple | exact kb_bool_tuple | exact kb_int_tuple | exact kb_str_tuple | exact kb_tuple_tuple | exact kb_list_tuple | exact kb_dict_tuple), ?_⟩ | refine ⟨_, _, _, _, _, rfl, rfl, rfl, rfl, rfl, ?_⟩ | refine iteT ?_ | refine iteF ?_ | refine ⟨(by decide : List.Nodup _), ?_⟩ | refine ⟨rfl, ?_⟩))
      refine ⟨by omega, by omega, ?_⟩
      refine ⟨fun j S => ∃ a b c co p y r m s6, S = ⟨[some (.fr (.scr ns)), some (.cell 0), some (.fr (.int (0 + (i : Nat)))), some (.fr (drD co p y r m)), some (.fr (gameD K g)), some (.fr e.d), s6, none], [some (rowC ns a b c)]⟩ ∧ RowOk a b ∧ Fit co ∧ Fit p ∧ Fit y ∧ Fit r,
        ⟨a, b, c, _, _, _, _, _, s6, rfl, hw, fit_pr _, fit_prs (by have := hg.paths.len; omega), fit_prs (by have := hg.pLen; omega), fit_pr _⟩, ?_, ?_⟩
      · rintro j d S1 hd ⟨a, b, c, co, p, y, r, m, s6, rfl, hw, fc, fp, fy, fr⟩
        obtain ⟨hj, rfl⟩ := rngD_get hd
        (repeat (first | refine ⟨_, rfl, Nat.le_of_ble_eq_true rfl, ?_⟩ | refine ⟨_, rfl, ?_⟩ | refine ⟨_, _, rfl, ?_⟩ | refine ⟨_, _, rfl, rfl, ?_⟩ | refine ⟨_, _, _, rfl, rfl, rfl, ?_⟩ | refine ⟨_, _, _, rfl, rfl, by (first | exact kb_NoneType_int | exact kb_bool_int | exact kb_int_int | exact kb_str_int | exact kb_tuple_int | exact kb_list_int | exact kb_dict_int | exact kb_NoneType_bool | exact kb_bool_bool | exact kb_int_bool | exact kb_str_bool | exact kb_tuple_bool | exact kb_list_bool | exact kb_dict_bool | exact kb_NoneType_tuple | exact kb_bool_tuple | exact kb_int_tuple | exact kb_str_tuple | exact kb_tuple_tuple | exact kb_list_tuple | exact kb_dict_tuple), ?_⟩ | refine ⟨_, _, _, _, _, rfl, rfl, rfl, rfl, rfl, ?_⟩ | refine iteT ?_ | refine iteF ?_ | refine ⟨(by decide : List.Nodup _), ?_⟩ | refine ⟨rfl, ?_⟩))
        refine ⟨ns, a, b, c, _, rfl, hw, by omega, by omega, fun a b c x hw hx0 hx1 => ?_⟩
        (repeat (first | refine ⟨_, rfl, Nat.le_of_ble_eq_true rfl, ?_⟩ | refine ⟨_, rfl, ?_⟩ | refine ⟨_, _, rfl, ?_⟩ | refine ⟨_, _, rfl, rfl, ?_⟩ | refine ⟨_, _, _, rfl, rfl, rfl, ?_⟩ | refine ⟨_, _, _, rfl, rfl, by (first | exact kb_NoneType_int | exact kb_bool_int | exact kb_int_int | exact kb_str_int | exact kb_tuple_int | exact kb_list_int | exact kb_dict_int | exact kb_NoneType_bool | exact kb_bool_bool | exact kb_int_bool | exact kb_str_bool | exact kb_tuple_bool | exact kb_list_bool | exact kb_dict_bool | exact kb_NoneType_tuple | exact kb_bool_tuple | exact kb_int_tuple | exact kb_str_tuple | exact kb_tuple_tuple | exact kb_list_tuple | exact kb_dict_tuple), ?_⟩ | refine ⟨_, _, _, _, _, rfl, rfl, rfl, rfl, rfl, ?_⟩ | refine iteT ?_ | refine iteF ?_ | refine ⟨(by decide : List.Nodup _), ?_⟩ | refine ⟨rfl, ?_⟩))
        obtain ⟨vk, hvk, hm⟩ := atI_mem (ds := [.str "coin", .str "paths", .str "pays", .str "road"]) (i := x) hx0 hx1
        obtain ⟨k, rfl, hk⟩ : ∃ k : Str, vk = .str k ∧ (k = "coin" ∨ k = "paths" ∨ k = "pays" ∨ k = "road") := by
          simp only [List.mem_cons, List.not_mem_nil, or_false] at hm
          rcases hm with rfl | rfl | rfl | rfl
          · exact ⟨_, rfl, .inl rfl⟩
          · exact ⟨_, rfl, .inr (.inl rfl)⟩
          · exact ⟨_, rfl, .inr (.inr (.inl rfl))⟩
          · exact ⟨_, rfl, .inr (.inr (.inr rfl))⟩
        refine ⟨_, _, _, rfl, rfl, hvk, ?_⟩
        (repeat (first | refine ⟨_, rfl, Nat.le_of_ble_eq_true rfl, ?_⟩ | refine ⟨_, rfl, ?_⟩ | refine ⟨_, _, rfl, ?_⟩ | refine ⟨_, _, rfl, rfl, ?_⟩ | refine ⟨_, _, _, rfl, rfl, rfl, ?_⟩ | refine ⟨_, _, _, rfl, rfl, by (first | exact kb_NoneType_int | exact kb_bool_int | exact kb_int_int | exact kb_str_int | exact kb_tuple_int | exact kb_list_int | exact kb_dict_int | exact kb_NoneType_bool | exact kb_bool_bool | exact kb_int_bool | exact kb_str_bool | exact kb_tuple_bool | exact kb_list_bool | exact kb_dict_bool | exact kb_NoneType_tuple | exact kb_bool_tuple | exact kb_int_tuple | exact kb_str_tuple | exact kb_tuple_tuple | exact kb_list_tuple | exact kb_dict_tuple), ?_⟩ | refine ⟨_, _, _, _, _, rfl, rfl, rfl, rfl, rfl, ?_⟩ | refine iteT ?_ | refine iteF ?_ | refine ⟨(by decide : List.Nodup _), ?_⟩ | refine ⟨rfl, ?_⟩))
        refine ⟨ns, a, b, c, co, p, y, r, m, rfl, hw, fun a b c v hw hv => ?_⟩
        have fv : Fit v := by
          rcases List.mem_append.mp hv with hv | hv
          · exact fit_odd hv
          · simp only [List.mem_cons, List.not_mem_nil, or_false] at hv
            rcases hv with rfl | rfl | rfl
            · exact fp
            · exact fy
            · exact fr
        (repeat (first | refine ⟨_, rfl, Nat.le_of_ble_eq_true rfl, ?_⟩ | refine ⟨_, rfl, ?_⟩ | refine ⟨_, _, rfl, ?_⟩ | refine ⟨_, _, rfl, rfl, ?_⟩ | refine ⟨_, _, _, rfl, rfl, rfl, ?_⟩ | refine ⟨_, _, _, rfl, rfl, by (first | exact kb_NoneType_int | exact kb_bool_int | exact kb_int_int | exact kb_str_int | exact kb_tuple_int | exact kb_list_int | exact kb_dict_int | exact kb_NoneType_bool | exact kb_bool_bool | exact kb_int_bool | exact kb_str_bool | exact kb_tuple_bool | exact kb_list_bool | exact kb_dict_bool | exact kb_NoneType_tuple | exact kb_bool_tuple | exact kb_int_tuple | exact kb_str_tuple | exact kb_tuple_tuple | exact kb_list_tuple | exact kb_dict_tuple), ?_⟩ | refine ⟨_, _, _, _, _, rfl, rfl, rfl, rfl, rfl, ?_⟩ | refine iteT ?_ | refine iteF ?_ | refine ⟨(by decide : List.Nodup _), ?_⟩ | refine ⟨rfl, ?_⟩))
        refine ⟨co, p, y, r, m, k, v, rfl, fun _ => ?_, fun _ => ?_, fun _ => ?_, fun _ => ?_, hk⟩
        · exact ⟨a, b, c, v, p, y, r, m, _, rfl, hw, fv, fp, fy, fr⟩
        · exact ⟨a, b, c, co, v, y, r, m, _, rfl, hw, fc, fv, fy, fr⟩
        · exact ⟨a, b, c, co, p, v, r, m, _, rfl, hw, fc, fp, fv, fr⟩
        · exact ⟨a, b, c, co, p, y, v, m, _, rfl, hw, fc, fp, fy, fv⟩
      · rintro S1 ⟨a, b, c, co, p, y, r, m, s6, rfl, hw, fc, fp, fy, fr⟩
        refine Nrm.of ⟨[some (.fr (.scr ns)), some (.cell 0), some (.fr (.int (0 + (i : Nat)))), some (.fr (drD co p y r m)), some (.fr (gameD K g)), some (.fr e.d), s6, none], [some (rowC ns a b c)]⟩ rfl ?_
        obtain ⟨t, tl⟩ := tl_ex co p y r
        obtain ⟨tv, ht, hs⟩ := tl_fl tl
        (repeat (first | refine ⟨_, rfl, Nat.le_of_ble_eq_true rfl, ?_⟩ | refine ⟨_, rfl, ?_⟩ | refine ⟨_, _, rfl, ?_⟩ | refine ⟨_, _, rfl, rfl, ?_⟩ | refine ⟨_, _, _, rfl, rfl, rfl, ?_⟩ | refine ⟨_, _, _, rfl, rfl, by (first | exact kb_NoneType_int | exact kb_bool_int | exact kb_int_int | exact kb_str_int | exact kb_tuple_int | exact kb_list_int | exact kb_dict_int | exact kb_NoneType_bool | exact kb_bool_bool | exact kb_int_bool | exact kb_str_bool | exact kb_tuple_bool | exact kb_list_bool | exact kb_dict_bool | exact kb_NoneType_tuple | exact kb_bool_tuple | exact kb_int_tuple | exact kb_str_tuple | exact kb_tuple_tuple | exact kb_list_tuple | exact kb_dict_tuple), ?_⟩ | refine ⟨_, _, _, _, _, rfl, rfl, rfl, rfl, rfl, ?_⟩ | refine iteT ?_ | refine iteF ?_ | refine ⟨(by decide : List.Nodup _), ?_⟩ | refine ⟨rfl, ?_⟩))
        refine refused_of fc fp fy fr tl ?_
        (repeat (first | refine ⟨_, rfl, Nat.le_of_ble_eq_true rfl, ?_⟩ | refine ⟨_, rfl, ?_⟩ | refine ⟨_, _, rfl, ?_⟩ | refine ⟨_, _, rfl, rfl, ?_⟩ | refine ⟨_, _, _, rfl, rfl, rfl, ?_⟩ | refine ⟨_, _, _, rfl, rfl, by (first | exact kb_NoneType_int | exact kb_bool_int | exact kb_int_int | exact kb_str_int | exact kb_tuple_int | exact kb_list_int | exact kb_dict_int | exact kb_NoneType_bool | exact kb_bool_bool | exact kb_int_bool | exact kb_str_bool | exact kb_tuple_bool | exact kb_list_bool | exact kb_dict_bool | exact kb_NoneType_tuple | exact kb_bool_tuple | exact kb_int_tuple | exact kb_str_tuple | exact kb_tuple_tuple | exact kb_list_tuple | exact kb_dict_tuple), ?_⟩ | refine ⟨_, _, _, _, _, rfl, rfl, rfl, rfl, rfl, ?_⟩ | refine iteT ?_ | refine iteF ?_ | refine ⟨(by decide : List.Nodup _), ?_⟩ | refine ⟨rfl, ?_⟩))
        refine ⟨co, p, y, r, m, t, rfl, fc, fp, fy, fr, tl, ?_⟩
        refine ⟨_, _, _, _, rfl, rfl, ht, ht, hs, _, rfl, ?_⟩
        refine ite2 (fun hc => absurd hc (by simp)) (fun _ => ?_)
        exact ⟨a, b, c, _, _, _, _, _, rfl, hw⟩
  · rintro S1 ⟨a, b, c, s2, s3, s4, s5, s6, rfl, hw⟩
    refine Nrm.of ⟨[_, some (.cell 0), _, _, _, _, _, none], [_]⟩ rfl ?_
    (repeat (first | refine ⟨_, rfl, Nat.le_of_ble_eq_true rfl, ?_⟩ | refine ⟨_, rfl, ?_⟩ | refine ⟨_, _, rfl, ?_⟩ | refine ⟨_, _, rfl, rfl, ?_⟩ | refine ⟨_, _, _, rfl, rfl, rfl, ?_⟩ | refine ⟨_, _, _, rfl, rfl, by (first | exact kb_NoneType_int | exact kb_bool_int | exact kb_int_int | exact kb_str_int | exact kb_tuple_int | exact kb_list_int | exact kb_dict_int | exact kb_NoneType_bool | exact kb_bool_bool | exact kb_int_bool | exact kb_str_bool | exact kb_tuple_bool | exact kb_list_bool | exact kb_dict_bool | exact kb_NoneType_tuple | exact kb_bool_tuple | exact kb_int_tuple | exact kb_str_tuple | exact kb_tuple_tuple | exact kb_list_tuple | exact kb_dict_tuple), ?_⟩ | refine ⟨_, _, _, _, _, rfl, rfl, rfl, rfl, rfl, ?_⟩ | refine iteT ?_ | refine iteF ?_ | refine ⟨(by decide : List.Nodup _), ?_⟩ | refine ⟨rfl, ?_⟩))
    exact rt0 h
end
end Toss
namespace Toss
open PySem PySem.Spec PyProof.Rows L2 TD He
theorem law_all {P : Program} {w : World} {K : PySem.W.Frag} {mg : Str → Option Value} {base : Heap} (V : Ev K mg) {f : Addr} {fd : FuncData} (Fu : Fun K "law" "law" s_law f fd) : FnOk P w K mg base (L2.CX P w) 9 f fd ["_law_script"] (spD K d_law) := by
  have o_taken := ok_taken (P := P) (w := w) (base := base) V
  have o_paths := ok_paths V o_taken
  have o_drawn := ok_drawn V o_taken o_paths
  have o_whole := ok_is_whole (P := P) (w := w) (base := base) V
  have o_within := ok_is_within V o_whole
  have o_pair := ok_is_pair V o_within
  have o_come := ok_come_to (P := P) (w := w) (base := base) V
  have o_next := ok_next_to (P := P) (w := w) (base := base) V
  have o_arep := ok_are_paths V o_pair o_come
  have o_arey := ok_are_pays V o_pair
  have o_game := (ok_game V o_pair o_arep o_arey o_next (x_InvalidCoin V) (x_InvalidPaths V) (x_InvalidPays V) (x_InvalidRoad V)).make V.mk_Game
  have o_made := ok_made2 V o_game
  have o_eq := ok_eq2 (P := P) (w := w) (base := base) V
  have o_whole2 := ok_whole2 (P := P) (w := w) (base := base) V
  have o_pair2 := ok_pair2 V o_whole2
  have o_joined := ok_joined (P := P) (w := w) (base := base) V
  exact law_fn V Fu o_taken o_drawn o_made o_eq (ok_parts V) (ok_coin V) (ok_paths' V) (ok_pays' V) (ok_road' V) (ok_places' V) (ok_with V) (ok_odd V o_taken) (ok_refused V o_made) (ok_wrong V o_whole2 o_joined o_pair2)
end Toss
open PySem PySem.W PySem.Calls PyProof.Rows
theorem PySem.Challenge.cw_tossroads_k01_games_refused_holds : PySem.Challenge.rw_tossroads_k01_games_refused.Holds := by
  w_on; o_law
  refine HandSHeadRun.head_any (r := OpenLaw.row PySem.Challenge.rw_tossroads_k01_games_refused) (q := view (OpenLaw.row PySem.Challenge.rw_tossroads_k01_games_refused).prog [33]) (H := Toss.hkX) (ob := Toss.obH) (M := 9000) (loose := Toss.loose) (d := HandSHeadRun.topDef (OpenLaw.row PySem.Challenge.rw_tossroads_k01_games_refused).prog 33) (kwd := []) Toss.obH_eq
    (by kernel_rfl) (fun s => by kernel_rfl) Toss.run (by kernel_rfl) (by kernel_rfl) (by kernel_rfl) (by rfl) (by first | assumption | decide +kernel) (by decide +kernel) ⟨rfl, rfl, rfl, rfl, rfl, by decide +kernel⟩ ?hw ?hc
  case hw => w_witness2
  case hc =>
    refine TD.walk_law (l := PySem.Challenge.rw_tossroads_k01_games_refused) (k := 9) (x := "_law_script") rfl (by kernel_rfl) ⟨rfl, by decide, by decide⟩ ?F
    intro w mg fa h Y G hmg0
    obtain ⟨K, KX, c⟩ := Y
    have hmg : mg ("law" : PySem.Str) = some (.ref fa) := by
      have e : (HandSHeadRun.topDef (OpenLaw.row PySem.Challenge.rw_tossroads_k01_games_refused).prog 33).name = ("law" : PySem.Str) := by kernel_rfl
      rw [← e]
      exact hmg0
    have V := Toss.ev KX G c
    obtain ⟨f, fd, hf, Fu, b⟩ := V.D_law.ex
    have e := hmg.symm.trans hf
    cases e
    exact ⟨K, fd, KX, fun s u => TD.binds_law Fu (fun _ _ _ _ _ _ us hl => match us, hl with | [_], _ => rfl) s u, fun base _ _ => Toss.law_all V Fu⟩
