import PyProof.Rows.All
import Wide.All
import OpenK.AllK
import Wide.FinOn
import HandS.ForMost
import HandS.ForExc
import HandS.More
import HandS.SetKeys
import HandS.Conv
import HandS.TupSets
import HandS.DictTup
import HandS.DictComp
import HandS.Deep
import HandS.Defaults
import HandS.TryMany
import HandS.AnyAll
import HandS.Wide
import HandS.EndTab
import KE.KDictKeyed
import KE.SortKeyHeap
import KE.KEqDict
import PyProof.GenCompD
import PySem.Challenge.RW_deducehall_k10_changes_put_together
import HandS.IsInst
import KE.GoesComp
import KE.GoesMore
import PyProof.TupleOfSeq
import HandS.Lambda
import HandS.ExcValue
import HandS.ExcOwn
import HandS.Walk
import HandS.TupLen
import HandS.ReSub
import HandS.CallRecv
import HandS.TupAny
import HandS.WordsExc
set_option Elab.async false
set_option linter.all false
set_option maxRecDepth 100000
set_option maxHeartbeats 4000000
namespace DH
open PySem PySem.Spec L2
open PyProof.Rows hiding St
section
variable {prog : Program} {w : World} {A : Around} {E : Value → Shared → Prop} {s : Shared}
theorem samePairs0 {nm : String} {a b : Addr} {oa ob : Obj} {es : Array DictEntry} {ep ep' : Nat} {Q : Bool → Shared → Prop} (ha : (a == sysModules) = false) (hb : (b == sysModules) = false)
    (hoa : s.heap.get? a = some oa) (hda : oa.data = .dict es ep) (hob : s.heap.get? b = some ob) (hdb : ob.data = .dict #[] ep') (h : Q (es.size == 0) s) :
    wpAny (model prog w) A (Builtin.Dict.samePairs nm a b) Q E s := by
  unfold Builtin.Dict.samePairs Builtin.Dict.showsAll
  rw [if_neg (show ¬ (a == sysModules) = true by rw [ha]; exact Bool.false_ne_true), if_neg (show ¬ (b == sysModules) = true by rw [hb]; exact Bool.false_ne_true)]
  refine wpAny_bind (wpAny_pure (wpAny_bind (wpAny_pure ?_)))
  refine wpAny_bind (wpAny_dictEntries hoa hda ?_)
  dsimp only
  refine wpAny_bind (wpAny_dictEntries hob hdb ?_)
  by_cases hsz : es.size = 0
  case neg =>
    rw [if_pos (by simpa using hsz)]
    have hbf : (es.size == 0) = false := by simpa using hsz
    rw [hbf] at h
    exact wpAny_bind (wpAny_rule (wpAny_pure h))
  case pos =>
    have h' : Q true s := by simpa [hsz] using h
    rw [if_neg (by simp [hsz])]
    refine wpAny_bind (wpAny_dictEpoch hoa hda ?_)
    refine wpAny_bind ?_
    rw [Std.Legacy.Range.forIn_eq_forIn_range']
    simp only [Std.Legacy.Range.size, Nat.sub_zero, Nat.add_sub_cancel, Nat.div_one]
    refine wpAny_forIn_list _ (fun rest q s' => s' = s ∧ q = (none, ()) ∧ rest = []) _ ?_ ?_ _ _ ⟨rfl, rfl, by simp [hsz]⟩
    · rintro x rest q s' ⟨_, _, hr⟩
      cases hr
    · rintro q s' ⟨rfl, rfl, _⟩
      exact wpAny_pure h'
theorem ne_empty {a b : Addr} {oa ob : Obj} {es : Array DictEntry} {ep ep' : Nat} {Q : Value → Shared → Prop} (ha : (a == sysModules) = false) (hb : (b == sysModules) = false)
    (hoa : s.heap.get? a = some oa) (hca : oa.ExactDict) (hda : oa.data = .dict es ep) (hob : s.heap.get? b = some ob) (hcb : ob.ExactDict) (hdb : ob.data = .dict #[] ep') (hu : A.units < cLine) (h : Q (.bool (!(es.size == 0))) s) :
    wpAny (model prog w) A (compareOp .NotEq (.ref a) (.ref b)) Q E s := by
  have ta : s.TypeIs (.ref a) "dict" := ⟨oa, hoa, hca.1⟩
  have tb : s.TypeIs (.ref b) "dict" := ⟨ob, hob, hcb.1⟩
  refine wpAny_richCompare_same_room (op := .NotEq) ta tb PySem.F.slot_dict_ne (wpAny_call_entry PySem.F.slot_dict_ne ta PySem.F.entry_dict_ne ?_ (PySem.F.args_dict_ne_2 _ _)) hu
  show wpAny _ _ (Builtin.Dict.dictSlotArgs "__ne__" ⟨[.ref a, .ref b], []⟩ >>= _) _ _ s
  refine wpAny_bind ?_
  unfold Builtin.Dict.dictSlotArgs
  refine wpAny_bind (wpAny_notOrdered_dict ta ?_)
  show wpAny _ _ (pure (Value.ref a, Value.ref b)) _ _ s
  refine wpAny_pure ?_
  refine wpAny_bind (wpAny_isInstance (T := "dict") tb PySem.F.sub_dict_dict ?_)
  simp only [Bool.not_true, Bool.false_eq_true, if_false]
  refine wpAny_bind (wpAny_pure (wpAny_bind (wpAny_pure ?_)))
  refine wpAny_bind (samePairs0 ha hb hoa hda hob hdb ?_)
  refine wpAny_pure ⟨_, rfl, ?_, ?_⟩
  · exact fun x => nomatch x
  · simpa using h
end
section
variable {X : Cx}
/-- d != {}, d's keys tuples -/
def rNeE : R2 := fun x y H Q => ∃ a b kvs, x = .ref a ∧ y = .ref b ∧ H a = some (.dT kvs) ∧ H b = some (.dT []) ∧ Q (.bl (!kvs.isEmpty)) H
theorem op_neE (hu : X.A.units < cLine) : OpR X (compareOp .NotEq) rNeE := by
  intro pins s σ H x y v u Q I rx ry h
  obtain ⟨a, b, kvs, rfl, rfl, ea, eb, q⟩ := h
  obtain rfl : v = Value.ref a := rx
  obtain rfl : u = Value.ref b := ry
  obtain ⟨_, ya, xs, ra, oa, es, ep, h1, h2, h3, h4, _⟩ := (show ObjOk X.prog X.w H s.heap a (.dT kvs) from I.hok a _ ea)
  obtain ⟨_, yb, xs', rb, ob, es', ep', g1, g2, g3, g4, _⟩ := (show ObjOk X.prog X.w H s.heap b (.dT []) from I.hok b _ eb)
  cases rb
  have e' : es' = #[] := by
    have : es'.toList = [] := by simpa using g4
    simpa using this
  subst e'
  have e1 : (es.size == 0) = kvs.isEmpty := by
    have l1 : kvs.length = xs.length := Paired.length ra
    have l2 : es.size = xs.length := by
      have := congrArg List.length h4
      simpa using this
    rw [l2, ← l1]
    cases kvs with
    | nil => rfl
    | cons p r => rfl
  refine ne_empty ya yb h1 h2 h3 g1 g2 g3 hu ?_
  rw [e1]
  exact ⟨.bl _, H, I, rfl, q⟩
def sDDelT (td ty : TE) : TS := fun D σ H => td σ H fun x H1 => ty σ H1 fun y H2 => ∃ a kvs k b, x = .ref a ∧ H2 a = some (.dT kvs) ∧ y = .ref b ∧ H2 b = some (.tup (k.map kV)) ∧ (valV kvs k).isSome = true ∧ D.nx σ (upd H2 a (.dT (dropK kvs k)))
theorem KT_without {H : Hp} (k : List L2.Key) {kvs : List (List L2.Key × V)} {xs : List (List L2.Key × Addr × Value)} (r : KT H kvs xs) : KT H (dropK kvs k) (withoutH xs k) := by
  induction r with
  | nil => exact .nil
  | @cons p q ps qs h t ih =>
    have h1 := h.1
    by_cases e : p.1 = k
    · have e' : q.1 = k := h1.symm.trans e
      rw [dropK_pos e]
      have e2 : withoutH (q :: qs) k = withoutH qs k := by simp [withoutH, List.filter_cons, e']
      rw [e2]
      exact ih
    · have e' : ¬ q.1 = k := fun z => e (h1.trans z)
      rw [dropK_neg e]
      have e2 : withoutH (q :: qs) k = q :: withoutH qs k := by simp [withoutH, List.filter_cons, e']
      rw [e2]
      exact .cons h ih
theorem d_delItemT {pins : List (Addr × Obj)} {σ : St} {H : Hp} {s : Shared} {a b : Addr} {kvs : List (List L2.Key × V)} {k : List L2.Key} {A : Around} {E : Value → Shared → Prop} {Q : Unit → Shared → Prop} (hu : A.units + 1 < cLine)
    (I : Inv X pins σ H s) (e : H a = some (.dT kvs)) (eb : H b = some (.tup (k.map kV))) (l : (valV kvs k).isSome = true) (h : ∀ s', Inv X pins σ (upd H a (.dT (dropK kvs k))) s' → Q () s') :
    wpAny (model X.prog X.w) A (delItem (.ref a) (.ref b)) Q E s := by
  obtain ⟨z, hd, xs, rel, dd⟩ := dt_of I.hok e
  obtain ⟨v, hv⟩ := Option.isSome_iff_exists.mp l
  obtain ⟨w', hw, rw'⟩ := RelO.some_of (v := v) (o := (atKey xs k).map (·.2)) (by rw [← hv]; exact rel.val k)
  obtain ⟨p, hp, hp2⟩ := Option.map_eq_some_iff.mp hw
  refine wpAny_delItem_heap (hsz := by rw [← Paired.length rel]; exact z) (tupleKind_room_in1 hu) (key_of I.hok eb) hd dd hp fun h' dd' hs => h _ ?_
  obtain ⟨q, es, ep, hq, h2, h3, h4, _, h5⟩ := dd'
  refine d_write I (by rw [e]; exact True.intro) hs ⟨q, hq⟩ ⟨Nat.le_trans (dropK_le kvs k) z, hd, _, (KT_without k rel).keeps fun c ys ec => ?_, q, es, ep, hq, h2, h3, h4, h5⟩
  rw [upd_ne (ne_of ec e (fun z => nomatch z))]
  exact ec
theorem ps_ddelT {o i : Expr} {pos tpos : Pos} {td ty : TE} (hu : X.A.units + 1 < cLine) (ho : PE X o td) (hi : PE X i ty) : PS X (.Delete [.Subscript o i tpos] pos) (sDDelT td ty) := by
  refine ⟨fun pins s σ H D I h => ?_⟩
  refine wpAny_Delete (wpAny_deleteEach_cons (wpAny_delete_Subscript (thn (ho.run pins s σ H _ I h) fun u s1 ⟨x, H1, I1, rx, q1⟩ => thn (hi.run pins s1 σ H1 _ I1 q1) fun iv s2 ⟨y, H2, I2, ry, a, kvs, k, b, ex, e, ey, eb, l, q2⟩ => ?_)))
  subst ex ey
  obtain rfl : u = Value.ref a := rx
  obtain rfl : iv = Value.ref b := ry
  exact d_delItemT hu I2 e eb l fun s3 I3 => wpAny_deleteEach_nil ⟨σ, _, I3, q2⟩
end
end DH
namespace DH
open PySem PySem.Spec L2
open PyProof.Rows hiding St
section
variable {X : Cx}
def mergeT (kvs more : List (List L2.Key × V)) : List (List L2.Key × V) := more.foldl (fun acc kv => putK acc kv.1 kv.2) kvs
theorem mergeT_app : ∀ (more kvs : List (List L2.Key × V)), ((kvs ++ more).map (·.1)).Nodup → mergeT kvs more = kvs ++ more
  | [], kvs, _ => by simp [mergeT]
  | p :: r, kvs, h => by
    have hn : valV kvs p.1 = none := by
      cases e : valV kvs p.1 with
      | none => rfl
      | some v =>
        have m := valV_in e
        rw [List.map_append, List.map_cons, List.nodup_append] at h
        exact absurd rfl (h.2.2 p.1 m p.1 List.mem_cons_self)
    show mergeT (putK kvs p.1 p.2) r = _
    rw [putK_new p.2 hn]
    have e : kvs ++ [(p.1, p.2)] ++ r = kvs ++ p :: r := by simp
    rw [mergeT_app r (kvs ++ [(p.1, p.2)]) (by rw [e]; exact h), e]
theorem KT.merge {H : Hp} : ∀ {more : List (List L2.Key × V)} {ms : List (List L2.Key × Addr × Value)} {kvs : List (List L2.Key × V)} {xs : List (List L2.Key × Addr × Value)}, KT H more ms → KT H kvs xs → KT H (mergeT kvs more) (PySem.storedAllH xs ms) := by
  intro more ms kvs xs r
  induction r generalizing kvs xs with
  | nil => intro q; exact q
  | @cons p q ps qs h t ih =>
    intro r0
    obtain ⟨h1, h2, h3⟩ := h
    have e : KT H (putK kvs p.1 p.2) (storedH xs q.1 q.2.1 q.2.2) := by
      rw [← h1]
      exact KT.put r0 p.1 h2 h3
    exact ih e
/-- the pairs: each a tuple of its key's tuple and its value -/
theorem pairsT_of {pins : List (Addr × Obj)} {σ : L2.St} {H : Hp} {s : Shared} (I : Inv X pins σ H s) : ∀ {ps : List Addr} {kvs : List (List L2.Key × V)}, Paired (fun p kv => ∃ b, SqT X.K H p [V.ref b, kv.2] ∧ H b = some (.tup (kv.1.map kV))) ps kvs →
    ∃ xs : List (List L2.Key × Addr × Value), KT H kvs xs ∧ xs.length = ps.length ∧ ∀ (j : Nat) (q : List L2.Key × Addr × Value), xs[j]? = some q → ∃ (p : Addr), ps[j]? = some p ∧ IsTup s.heap p #[.ref q.2.1, q.2.2]
  | _, _, .nil => ⟨[], .nil, rfl, fun j q e => by simp at e⟩
  | _, _, .cons (a := p) (b := kv) h t => by
    obtain ⟨xs, r, hl, hp⟩ := pairsT_of I t
    obtain ⟨b, h, hb⟩ := h
    obtain ⟨its, rv, ht, _⟩ := I.tuple h
    obtain ⟨u, y, ei, ru, ry⟩ := vals2 rv
    subst ei
    obtain rfl : u = Value.ref b := ru
    refine ⟨(kv.1, b, y) :: xs, .cons ⟨rfl, hb, ry⟩ r, by rw [List.length_cons, List.length_cons, hl], fun j q e => ?_⟩
    cases j with
    | zero =>
      have e' : (kv.1, b, y) = q := Option.some.inj e
      subst e'
      exact ⟨p, rfl, ht⟩
    | succ j =>
      obtain ⟨p', e1, e2⟩ := hp j q (by simpa using e)
      exact ⟨p', by simpa using e1, e2⟩
theorem KT.key {H : Hp} {kvs : List (List L2.Key × V)} {xs : List (List L2.Key × Addr × Value)} (r : KT H kvs xs) : ∀ x ∈ xs, H x.2.1 = some (.tup (x.1.map kV)) := by
  induction r with
  | nil => intro x hx; cases hx
  | @cons p q ps qs h t ih =>
    intro x hx
    rcases List.mem_cons.mp hx with e | hx
    · rw [e, ← h.1]; exact h.2.1
    · exact ih x hx
theorem call_dictPT (hcalm : X.calm = true) (hu : X.A.units + 2 < cLine) : CallR X (.type "dict") (fun xs H Q => ∃ (a : Addr) (ps : List Addr) (kvs : List (List L2.Key × V)), xs = [.ref a] ∧ SqL X.K H a (ps.map V.ref) ∧
    Paired (fun p kv => ∃ b, SqT X.K H p [V.ref b, kv.2] ∧ H b = some (.tup (kv.1.map kV))) ps kvs ∧ (kvs.map (·.1)).Nodup ∧ ∀ p, H p = none → Q (.ref p) (upd H p (.dT kvs))) := by
  intro pins s σ H xs us Q I r q
  obtain ⟨a, ps, kvs, ex, hq, hp, hn, q⟩ := q
  subst ex
  obtain ⟨u, eu, rx⟩ := vals1 r
  subst eu
  cases rx
  obtain ⟨its, rv, pl, hz⟩ := I.list hq
  have ei := refs_at rv
  subst ei
  rw [List.length_map] at hz
  obtain ⟨xs, rel, hl, hpr⟩ := pairsT_of I hp
  obtain ⟨o, n, ho, hc, hd, hdat⟩ := pl
  have hat : ∀ (j : Nat) k v, (xs.map fun x => (Value.ref x.2.1, x.2.2))[j]? = some (k, v) → ∃ x, xs[j]? = some x ∧ k = .ref x.2.1 ∧ v = x.2.2 := fun j k v e => by
    rw [List.getElem?_map] at e
    obtain ⟨x, hx, e⟩ := Option.map_eq_some_iff.mp e
    cases e
    exact ⟨x, hx, rfl, rfl⟩
  have hPI : PySem.PairItems s.heap (ps.map Value.ref).toArray (fun j => ps.getD j 0) (xs.map fun x => (Value.ref x.2.1, x.2.2)) := by
    refine ⟨by simp [hl], fun j k v e => ?_⟩
    obtain ⟨x, hx, rfl, rfl⟩ := hat j k v e
    obtain ⟨p, hp1, hp2⟩ := hpr j x hx
    have eg : ps.getD j 0 = p := by rw [List.getD_eq_getElem?_getD, hp1]; rfl
    refine ⟨by show _ = some (Value.ref (ps.getD j 0)); rw [eg]; simp [hp1], .inl ?_⟩
    obtain ⟨o', h1, h2, n', h3⟩ := hp2
    show s.heap.IsTuple (ps.getD j 0) _
    rw [eg]
    exact ⟨o', h1, h2, n', h3⟩
  have hPH : PySem.PairsHaveH (tupleKind (mixKind X.prog X.w)) (xs.map fun x => (Value.ref x.2.1, x.2.2)).length (PySem.PairRel (xs.map fun x => (Value.ref x.2.1, x.2.2))) xs := by
    refine ⟨by simp, fun i key v e => ?_⟩
    obtain ⟨x, hx, rfl, rfl⟩ := hat i key v e
    exact ⟨x.1, x.2.1, by rw [hx], rfl⟩
  have hKS : PySem.KeysStay (tupleKind (mixKind X.prog X.w)) s.heap s.heap.objs.size [] xs := fun h' hk x hx => by
    have k0 := key_of I.hok (KT.key rel x hx)
    exact PySem.tupleKind_stays.stays (fun b o vs n e _ => hk b o (Nat.ne_of_lt (Heap.lt_size e)) (by simp) e) k0
  refine PySem.call_dict_pairsH (knd := tupleKind (mixKind X.prog X.w)) (ps := xs) (PySem.PairArg.list a (ps.map Value.ref).toArray (fun j => ps.getD j 0) (xs.map fun x => (Value.ref x.2.1, x.2.2))) (I.ok.hd hcalm) (tupleKind_room_in1 (A := X.A.in1) (by show X.A.units + 1 + 1 < cLine; omega))
    ⟨⟨o, n, ho, hc, hd, hdat⟩, hPI⟩ hPH hKS (by rw [List.length_map, hl]; exact hz) ?_
  intro h' tk hd' hk
  have hm : (s.heap.objs.size == sysModules) = false := beq_eq_false_iff_ne.mpr (Nat.ne_of_gt I.big)
  have em : mergeT [] kvs = kvs := by
    have := mergeT_app kvs [] (by simpa using hn)
    simpa using this
  have rel2 : KT H kvs (PySem.storedAllH [] xs) := by
    have := KT.merge rel (kvs := []) (xs := []) .nil
    rw [em] at this
    exact this
  have hlen : kvs.length ≤ sizeLine := by rw [Paired.length rel, hl]; exact hz
  obtain ⟨q', es, ep, hq', h2, h3, h4, _, h5⟩ := hd'
  have hf := I.hok.fresh (Nat.le_refl s.heap.objs.size)
  refine ⟨.ref s.heap.objs.size, upd H s.heap.objs.size (.dT kvs), I.laid (t' := tk) (fun b o e => hk b o (by simp) e) (Nat.le_refl _) (show ObjOk X.prog X.w _ _ _ (.dT kvs) from ⟨hlen, hm, _, KT.keeps rel2 fun b ys e => ?_, q', es, ep, hq', h2, h3, h4, h5⟩), rfl, q _ hf⟩
  rw [upd_ne (ne_of_none e hf)]
  exact e
def rUpdP (K : PySem.W.Frag) : V → List V → Hp → VK → Prop := fun x xs H Q => ∃ (d a : Addr) (ps : List Addr) (acc kvs : List (L2.Key × V)), x = .ref d ∧ xs = [.ref a] ∧ H d = some (.dK acc) ∧ SqL K H a (ps.map V.ref) ∧
  Paired (fun p kv => SqT K H p [kV kv.1, kv.2]) ps kvs ∧ acc.length + kvs.length ≤ sizeLine ∧ Q .non (upd H d (.dK (mergeK acc kvs)))
theorem mt_updP (hcalm : X.calm = true) : MtR X "dict.update" (rUpdP X.K) := by
  intro pins s σ H x xs v us Q I rx r h
  obtain ⟨d, a, ps, acc, kvs, rfl, rfl, hd, hq, hp, hlen, q⟩ := h
  obtain rfl : v = Value.ref d := rx
  obtain ⟨u, eu, ru⟩ := vals1 r
  subst eu
  cases ru
  obtain ⟨its, rv, pl, hz⟩ := I.list hq
  have ei := refs_at rv
  subst ei
  rw [List.length_map] at hz
  obtain ⟨prs, rel, hl, hpr⟩ := pairs_of I hp
  obtain ⟨o, n, ho, hc, hd0, hdat⟩ := pl
  obtain ⟨z, hs, vs, rel0, dd⟩ := dk_of I.hok hd
  -- the keys' own values
  have hkey : ∀ (j : Nat) (q : L2.Key × Value), prs[j]? = some q → ∃ u, keyIs q.1 u = true ∧ IsTup s.heap (ps.getD j 0) #[u, q.2] ∧ ps[j]? = some (ps.getD j 0) := fun j q e => by
    obtain ⟨b, u, e1, e2, e3⟩ := hpr j q e
    have eb : ps.getD j 0 = b := by rw [List.getD_eq_getElem?_getD, e1]; rfl
    rw [eb]
    exact ⟨u, e3, e2, e1⟩
  obtain ⟨qs, hqs⟩ : ∃ qs : List (Value × Value), qs.length = prs.length ∧ ∀ (j : Nat) (k v : Value), qs[j]? = some (k, v) → ∃ q, prs[j]? = some q ∧ v = q.2 ∧ keyIs q.1 k = true ∧ IsTup s.heap (ps.getD j 0) #[k, v] ∧ ps[j]? = some (ps.getD j 0) := by
    refine ⟨prs.mapIdx fun j q => (Classical.choose (show ∃ u : Value, (prs[j]? = some q → keyIs q.1 u = true ∧ IsTup s.heap (ps.getD j 0) #[u, q.2] ∧ ps[j]? = some (ps.getD j 0)) from by
      by_cases e : prs[j]? = some q
      · obtain ⟨u, hu⟩ := hkey j q e
        exact ⟨u, fun _ => hu⟩
      · exact ⟨.none, fun z => absurd z e⟩), q.2), by simp, fun j k v e => ?_⟩
    rw [List.getElem?_mapIdx] at e
    obtain ⟨q, hq, e⟩ := Option.map_eq_some_iff.mp e
    injection e with e1 e2
    have hc := Classical.choose_spec (show ∃ u : Value, (prs[j]? = some q → keyIs q.1 u = true ∧ IsTup s.heap (ps.getD j 0) #[u, q.2] ∧ ps[j]? = some (ps.getD j 0)) from by
      by_cases e : prs[j]? = some q
      · obtain ⟨u, hu⟩ := hkey j q e
        exact ⟨u, fun _ => hu⟩
      · exact ⟨.none, fun z => absurd z e⟩) hq
    rw [e1, e2] at hc
    exact ⟨q, hq, e2.symm, hc.1, hc.2.1, hc.2.2⟩
  obtain ⟨hql, hqs⟩ := hqs
  have hda : d ∉ a :: (List.range qs.length).map (fun j => ps.getD j 0) := fun hm => by
    rcases List.mem_cons.mp hm with e | hm
    · subst e
      obtain ⟨od, _, _, e1, _, e2, _⟩ := dd
      rw [e1] at ho
      cases ho
      rw [e2] at hdat
      cases hdat
    · obtain ⟨j, hj, e⟩ := List.mem_map.mp hm
      have hj' := List.mem_range.mp hj
      obtain ⟨q, _, _, _, ht, _⟩ := hqs j qs[j].1 qs[j].2 (by rw [List.getElem?_eq_getElem hj'])
      rw [e] at ht
      obtain ⟨o', h1, h2, n', h3⟩ := ht
      obtain ⟨od, _, _, e1, _, e2, _⟩ := dd
      rw [e1] at h1
      cases h1
      rw [e2] at h3
      cases h3
  have hPI : PySem.PairItems s.heap (ps.map Value.ref).toArray (fun j => ps.getD j 0) qs := by
    refine ⟨by rw [List.size_toArray, List.length_map, hql, hl], fun j k v e => ?_⟩
    obtain ⟨q, hq, _, _, ht, hp1⟩ := hqs j k v e
    refine ⟨by rw [List.getElem?_toArray, List.getElem?_map, hp1]; rfl, .inl ?_⟩
    obtain ⟨o', h1, h2, n', h3⟩ := ht
    exact ⟨o', h1, h2, n', h3⟩
  have hPH : PySem.PairsHave (mixKind X.prog X.w) qs.length (PySem.PairRel qs) prs := by
    refine ⟨hql.symm, fun i key v e => ?_⟩
    obtain ⟨q, hq, rfl, hk, _⟩ := hqs i key v e
    exact ⟨q.1, hq, hk⟩
  refine PySem.call_update_pairs (knd := mixKind X.prog X.w) (kvs := prs) (PySem.PairArg.list a (ps.map Value.ref).toArray (fun j => ps.getD j 0) qs) (I.ok.hd hcalm) ⟨⟨o, n, ho, hc, hd0, hdat⟩, hPI⟩ hda hPH dd
    (by rw [← rel0.length, hql, ← rel.length]; exact hlen) ?_
  intro h' tk hd' hk
  have he : ∃ q, h'.get? d = some q := let ⟨q, _, _, hq, _⟩ := hd'; ⟨q, hq⟩
  refine ⟨.non, _, I.write (t' := tk) (x := d) (e := d) (by rw [hd]; exact True.intro) (.inl rfl) (fun b u hb e => hk b u hb (by simp) e) he (dk_new ?_ hs (KV.merge rel rel0) hd'), rfl, q⟩
  exact Nat.le_trans (length_mergeK kvs acc) hlen
end
end DH
namespace DH
open PySem PySem.Spec L2
open PyProof.Rows hiding St
/-- a name and a row's number -/
abbrev Fct := Str × Int
abbrev fk (f : Fct) : NestedKey := .tup [.text f.1, .tup [.num f.2]]
theorem fk_inj {f g : Fct} (h : fk f = fk g) : f = g := by
  obtain ⟨a, b⟩ := f
  obtain ⟨c, d⟩ := g
  injection h with h
  injection h with h1 h2
  injection h1 with h1
  injection h2 with h2 _
  injection h2 with h2
  injection h2 with h2 _
  injection h2 with h2
  exact Prod.ext h1 h2
theorem fk_dec (f g : Fct) : decide (fk f = fk g) = decide (f = g) := by
  by_cases h : f = g
  · rw [h]; simp
  · rw [decide_eq_false h, decide_eq_false fun e => h (fk_inj e)]
/-- at q a tuple of the fact's name and its row -/
def FactAt (H : Hp) (q : Addr) (f : Fct) : Prop := ∃ r, H q = some (.tup [.str f.1, .ref r]) ∧ H r = some (.tup [.int f.2])
theorem fact_key {P : Program} {w : World} {H : Hp} {h : Heap} {q : Addr} {f : Fct} (ok : HOk P w H h) (x : FactAt H q f) : (nestedKind P w).is h (fk f) q := by
  obtain ⟨r, h1, h2⟩ := x
  obtain ⟨_, its1, rv1, o1, a1, b1, n1, c1⟩ := (show ObjOk P w H h q (.tup [.str f.1, .ref r]) from ok q _ h1)
  obtain ⟨_, its2, rv2, o2, a2, b2, n2, c2⟩ := (show ObjOk P w H h r (.tup [.int f.2]) from ok r _ h2)
  obtain ⟨u1, u2, e1, ru1, ru2⟩ := vals2 rv1
  obtain ⟨u3, e3, ru3⟩ := vals1 rv2
  subst e1 e3
  obtain ⟨t1, rfl⟩ := (show ∃ t, u1 = Value.str f.1 t from ru1)
  obtain rfl : u2 = Value.ref r := ru2
  obtain ⟨t3, rfl⟩ := (show ∃ t, u3 = Value.int f.2 t from ru3)
  exact ⟨.tup a1 b1 c1 (.cons (.text _ _) (.cons (.tup a2 b2 c2 (.cons (.int _ _) .nil)) .nil)), by simp [NestedKey.depth, NestedKey.depthAll]⟩
abbrev NetE := Fct × Addr × Bool
def netX (es : List NetE) : List (NestedKey × Addr × Value) := es.map fun e => (fk e.1, e.2.1, .bool e.2.2)
def valN (es : List NetE) (f : Fct) : Option Bool := (es.find? fun e => decide (e.1 = f)).map (·.2.2)
def putN (es : List NetE) (f : Fct) (q : Addr) (b : Bool) : List NetE := if (valN es f).isSome then es.map (fun e => if e.1 = f then (e.1, e.2.1, b) else e) else es ++ [(f, q, b)]
def dropN (es : List NetE) (f : Fct) : List NetE := es.filter fun e => decide (e.1 ≠ f)
theorem atKey_net (f : Fct) : ∀ es : List NetE, (atKey (netX es) (fk f)).map (·.2) = (valN es f).map Value.bool
  | [] => rfl
  | e :: es => by
    have ih := atKey_net f es
    unfold atKey netX valN at ih ⊢
    rw [List.map_cons, List.find?_cons, List.find?_cons, fk_dec]
    by_cases h : e.1 = f
    · rw [decide_eq_true h]; rfl
    · rw [decide_eq_false h]; exact ih
theorem atKey_some {es : List NetE} {f : Fct} {b : Bool} (h : valN es f = some b) : ∃ p, atKey (netX es) (fk f) = some p ∧ p.2 = .bool b := by
  have e := atKey_net f es
  rw [h] at e
  obtain ⟨p, hp, hp2⟩ := Option.map_eq_some_iff.mp e
  exact ⟨p, hp, hp2⟩
theorem atKey_none {es : List NetE} {f : Fct} (h : valN es f = none) : atKey (netX es) (fk f) = none := by
  have e := atKey_net f es
  rw [h] at e
  exact Option.map_eq_none_iff.mp e
theorem atKey_isSome (es : List NetE) (f : Fct) : (atKey (netX es) (fk f)).isSome = (valN es f).isSome := by
  have e := congrArg Option.isSome (atKey_net f es)
  rw [Option.isSome_map, Option.isSome_map] at e
  exact e
theorem stored_net (es : List NetE) (f : Fct) (q : Addr) (b : Bool) : storedH (netX es) (fk f) q (.bool b) = netX (putN es f q b) := by
  unfold storedH putN
  rw [atKey_isSome]
  split
  · unfold netX
    rw [List.map_map, List.map_map]
    refine List.map_congr_left fun e _ => ?_
    unfold putAt
    by_cases h : e.1 = f
    · simp [h]
    · have : ¬ fk e.1 = fk f := fun z => h (fk_inj z)
      simp [h, this]
  · unfold netX; simp
theorem without_net (es : List NetE) (f : Fct) : withoutH (netX es) (fk f) = netX (dropN es f) := by
  unfold withoutH netX dropN
  rw [List.filter_map]
  congr 1
  refine List.filter_congr fun e _ => ?_
  have := fk_dec e.1 f
  simp only [Function.comp, ne_eq, decide_not, this]
/-- what stands at the dict's address -/
def NetO (P : Program) (w : World) (a : Addr) (es : List NetE) : HO := .ext fun h => (a == sysModules) = false ∧ es.length ≤ sizeLine ∧ ∃ o ds ep, h.get? a = some o ∧ o.ExactDict ∧ o.data = .dict ds ep ∧ ds.toList = (netX es).map (entryOfKey (nestedKind P w)) ∧ ((netX es).map (·.1)).Nodup
def NetKeys (H : Hp) (es : List NetE) : Prop := ∀ e ∈ es, FactAt H e.2.1 e.1
theorem NetKeys.put {H : Hp} {es : List NetE} {f : Fct} {q : Addr} {b : Bool} (k : NetKeys H es) (x : FactAt H q f) : NetKeys H (putN es f q b) := by
  intro e he
  unfold putN at he
  split at he
  · obtain ⟨e', he', rfl⟩ := List.mem_map.mp he
    have := k e' he'
    by_cases h : e'.1 = f
    · simpa [h] using this
    · simpa [h] using this
  · rcases List.mem_append.mp he with he | he
    · exact k e he
    · rw [List.mem_singleton.mp he]; exact x
theorem NetKeys.drop {H : Hp} {es : List NetE} {f : Fct} (k : NetKeys H es) : NetKeys H (dropN es f) := fun e he => k e (List.mem_filter.mp he).1
theorem netO_ok {P : Program} {w : World} {H : Hp} {h : Heap} {a : Addr} {es : List NetE} (x : (a == sysModules) = false ∧ es.length ≤ sizeLine ∧ ∃ o ds ep, h.get? a = some o ∧ o.ExactDict ∧ o.data = .dict ds ep ∧ ds.toList = (netX es).map (entryOfKey (nestedKind P w)) ∧ ((netX es).map (·.1)).Nodup) :
    ObjOk P w H h a (NetO P w a es) := by
  refine ⟨x, ?_, fun h1 h2 ⟨y1, y2, o, ds, ep, g1, r⟩ k => ⟨y1, y2, o, ds, ep, k _ g1, r⟩⟩
  obtain ⟨_, _, o, _, _, g, _⟩ := x
  exact ⟨o, g⟩
section
variable {P : Program} {w : World} {H : Hp} {h : Heap} {a : Addr} {es : List NetE}
theorem net_of (ok : HOk P w H h) (e : Rd H a (NetO P w a es)) (k : NetKeys H es) : (a == sysModules) = false ∧ es.length ≤ sizeLine ∧ h.DictOfH (nestedKind P w) a (netX es) := by
  obtain ⟨⟨y1, y2, o, ds, ep, g1, g2, g3, g4, g5⟩, _, _⟩ := (show ObjOk P w H h a (NetO P w a es) from e.ok ok)
  refine ⟨y1, y2, o, ds, ep, g1, g2, g3, g4, fun x hx => ?_, g5⟩
  obtain ⟨e', he', rfl⟩ := List.mem_map.mp hx
  exact fact_key ok (k e' he')
end
theorem net_room {A : Around} {P : Program} {w : World} (hu : A.units + 10 < cLine) : (nestedKind P w).room A.in1 := by
  show A.units + 1 + 8 < cLine
  omega
section
variable {X : Cx}
/-- f in net, f not in net -/
def rInN (P : Program) (w : World) (neg : Bool) : R2 := fun x y H Q => ∃ (q a : Addr) (f : Fct) (es : List NetE), x = .ref q ∧ y = .ref a ∧ FactAt H q f ∧ Rd H a (NetO P w a es) ∧ NetKeys H es ∧ Q (.bl (if neg then !(valN es f).isSome else (valN es f).isSome)) H
theorem op_inN (hu : X.A.units + 10 < cLine) : OpR X (compareOp .In) (rInN X.prog X.w false) := by
  intro pins s σ H x y v u Q I rx ry h
  obtain ⟨q, a, f, es, rfl, rfl, hf, ha, hk, hq⟩ := h
  obtain rfl : v = Value.ref q := rx
  obtain rfl : u = Value.ref a := ry
  obtain ⟨hs, hz, dd⟩ := net_of I.hok ha hk
  refine wpAny_in_heap (net_room hu) (fact_key I.hok hf) hs dd ?_
  rw [atKey_isSome]
  exact ⟨.bl _, H, I.tok _, rfl, hq⟩
theorem op_notInN (hu : X.A.units + 10 < cLine) : OpR X (compareOp .NotIn) (rInN X.prog X.w true) := by
  intro pins s σ H x y v u Q I rx ry h
  obtain ⟨q, a, f, es, rfl, rfl, hf, ha, hk, hq⟩ := h
  obtain rfl : v = Value.ref q := rx
  obtain rfl : u = Value.ref a := ry
  obtain ⟨hs, hz, dd⟩ := net_of I.hok ha hk
  refine wpAny_notIn_heap (net_room hu) (fact_key I.hok hf) hs dd ?_
  rw [atKey_isSome]
  exact ⟨.bl _, H, I.tok _, rfl, hq⟩
variable {o i e f value : Expr} {pos pos' tpos apos cpos : Pos} {td ty tv tx : TE}
theorem net_type {pins : List (Addr × Obj)} {σ : L2.St} {H : Hp} {s : Shared} {a : Addr} {es : List NetE} (I : Inv X pins σ H s) (e : Rd H a (NetO X.prog X.w a es)) :
    s.TypeIs (.ref a) "dict" ∧ (∀ b, Value.ref a = .ref b → ∃ ob, s.heap.get? b = some ob ∧ ob.dict = none) := by
  obtain ⟨⟨y1, y2, o, ds, ep, g1, g2, _⟩, _, _⟩ := (show ObjOk X.prog X.w H s.heap a (NetO X.prog X.w a es) from e.ok I.hok)
  refine ⟨⟨o, g1, g2.1⟩, fun b q => ?_⟩
  cases q
  exact ⟨o, g1, g2.2.1⟩
/-- net[f] -/
def tNGet (P : Program) (w : World) (td ty : TE) : TE := fun σ H Q => td σ H fun x H1 => ty σ H1 fun y H2 => ∃ (a q : Addr) (f : Fct) (es : List NetE) (b : Bool), x = .ref a ∧ y = .ref q ∧ FactAt H2 q f ∧ Rd H2 a (NetO P w a es) ∧ NetKeys H2 es ∧ valN es f = some b ∧ Q (.bl b) H2
theorem pe_nget (hu : X.A.units + 10 < cLine) (ho : PE X o td) (hi : PE X i ty) (hs : NoSl i) : PE X (.Subscript o i pos) (tNGet X.prog X.w td ty) := by
  refine ⟨fun pins s σ H Q I h => ?_⟩
  refine subD_of PySem.F.slot_dict_getitem.lookup hs (thn (ho.run pins s σ H _ I h) fun u s1 ⟨x, H1, I1, rx, q1⟩ => thn (hi.run pins s1 σ H1 _ I1 q1) fun iv s2 ⟨y, H2, I2, ry, a, q, f, es, b, ex, ey, hf, ha, hk, hv, q2⟩ => ?_)
  subst ex ey
  obtain rfl : u = Value.ref a := rx
  obtain rfl : iv = Value.ref q := ry
  obtain ⟨hs', hz, dd⟩ := net_of I2.hok ha hk
  obtain ⟨p, hp, hp2⟩ := atKey_some hv
  refine ⟨(net_type I2 ha).1, wpAny_getItem_heap (net_room hu) (fact_key I2.hok hf) dd hp ?_⟩
  rw [hp2]
  exact ⟨.bl b, H2, I2.tok _, rfl, q2⟩
/-- net.get(f, b) -/
def tNGet2 (P : Program) (w : World) (td ty tx : TE) : TE := fun σ H Q => td σ H fun x H1 => ∃ a es0, x = .ref a ∧ Rd H1 a (NetO P w a es0) ∧ ty σ H1 fun y H2 => tx σ H2 fun z H3 => ∃ (q : Addr) (f : Fct) (es : List NetE) (b : Bool), y = .ref q ∧ z = .bl b ∧ FactAt H3 q f ∧ Rd H3 a (NetO P w a es) ∧ NetKeys H3 es ∧ Q (.bl ((valN es f).getD b)) H3
theorem pe_nget2 (hu : X.A.units + 10 < cLine) (ho : PE X o td) (he : PE X e ty) (hf : PE X f tx) (m : M2 X o "get" apos e f cpos) : PE X (.Call (.Attribute o "get" apos) [e, f] [] cpos) (tNGet2 X.prog X.w td ty tx) := by
  refine ⟨fun pins s σ H Q I h => ?_⟩
  refine wpAny_Call_method m.base m.few m.line PySem.F.plainAttrs_dict PySem.F.slot_dict_get PySem.F.type_dict_get (thn (ho.run pins s σ H _ I h) fun u s1 ⟨x, H1, I1, rx, a, es0, ex, d, q1⟩ => ?_)
  subst ex
  obtain rfl : u = Value.ref a := rx
  obtain ⟨t1, t2⟩ := net_type I1 d
  refine ⟨t1, t2, ?_⟩
  rw [m.trees]
  refine Calls.callWith_builtin rfl (Calls.evalArgs_plain (Calls.spliced_cons (thn (he.run pins s1 σ H1 _ I1 q1) fun iv s2 ⟨y, H2, I2, ry, q2⟩ =>
    Calls.spliced_cons (thn (hf.run pins s2 σ H2 _ I2 q2) fun fv s3 ⟨z, H3, I3, rz, q, f, es, b, ey, ez, hfa, ha, hk, q3⟩ => Calls.spliced_nil ?_))))
  subst ey ez
  obtain rfl : iv = Value.ref q := ry
  obtain rfl : fv = Value.bool b := rz
  obtain ⟨hs', hz, dd⟩ := net_of I3.hok ha hk
  refine call_meetsIn PySem.F.slot_dict_get dd.typeIs PySem.F.entry_dict_get (PySem.F.args_dict_get_3 _ _ _) (meetsH_dict_get_default (nestedKind X.prog X.w) a q hs' (.bool b)) ⟨net_room hu, fk f, netX es, fact_key I3.hok hfa, dd, ?_⟩
  refine ⟨.bl ((valN es f).getD b), H3, I3.tok _, ?_, q3⟩
  rw [atKey_net]
  cases valN es f <;> rfl
/-- net[f] = b -/
def sNPut (P : Program) (w : World) (td ty tv : TE) : TS := fun D σ H => tv σ H fun v H1 => td σ H1 fun x H2 => ty σ H2 fun y H3 => ∃ (a q : Addr) (f : Fct) (es : List NetE) (b : Bool), v = .bl b ∧ x = .ref a ∧ y = .ref q ∧ FactAt H3 q f ∧ H3 a = some (NetO P w a es) ∧ NetKeys H3 es ∧ es.length < sizeLine ∧
  D.nx σ (upd H3 a (NetO P w a (putN es f q b)))
theorem putN_len (es : List NetE) (f : Fct) (q : Addr) (b : Bool) : (putN es f q b).length ≤ es.length + 1 := by
  unfold putN
  split <;> simp
theorem ps_nput (hu : X.A.units + 10 < cLine) (ho : PE X o td) (hi : PE X i ty) (hv : PE X value tv) (hs : swapsWith value (some (.Subscript o i pos')) pos.line X.env = pure false) :
    PS X (.Assign [.Subscript o i pos'] value pos) (sNPut X.prog X.w td ty tv) := by
  refine ⟨fun pins s σ H D I h => ?_⟩
  refine wpAny_Assign_Subscript (thn (hv.run pins s σ H _ I h) fun r s1 ⟨v, H1, I1, rv, q1⟩ => thn (ho.run pins s1 σ H1 _ I1 q1) fun u s2 ⟨x, H2, I2, rx, q2⟩ => thn (hi.run pins s2 σ H2 _ I2 q2) fun iv s3 ⟨y, H3, I3, ry, a, q, f, es, b, ev, ex, ey, hf, ha, hk, hl, q3⟩ => ?_) hs
  subst ev ex ey
  obtain rfl : u = Value.ref a := rx
  obtain rfl : iv = Value.ref q := ry
  obtain rfl : r = Value.bool b := rv
  obtain ⟨hs', hz, dd⟩ := net_of I3.hok (.inl ha) hk
  refine wpAny_setItem_heap (hsz := by unfold netX; rw [List.length_map]; exact hz) (net_room hu) (fact_key I3.hok hf) dd fun h' dd' hs2 => ?_
  rw [stored_net] at dd'
  obtain ⟨oq, ds, ep, hq, h2, h3, h4, _, h5⟩ := dd'
  have hl' := putN_len es f q b
  exact ⟨σ, _, d_write I3 (by rw [ha]; exact True.intro) hs2 ⟨oq, hq⟩ (netO_ok ⟨hs', by omega, oq, ds, ep, hq, h2, h3, h4, h5⟩), q3⟩
/-- net.pop(f) -/
def tNPop (P : Program) (w : World) (td ty : TE) : TE := fun σ H Q => td σ H fun x H1 => ∃ a es0, x = .ref a ∧ Rd H1 a (NetO P w a es0) ∧ ty σ H1 fun y H2 => ∃ (q : Addr) (f : Fct) (es : List NetE) (b : Bool), y = .ref q ∧ FactAt H2 q f ∧ H2 a = some (NetO P w a es) ∧ NetKeys H2 es ∧ valN es f = some b ∧
  Q (.bl b) (upd H2 a (NetO P w a (dropN es f)))
theorem pe_npop (hu : X.A.units + 10 < cLine) (ho : PE X o td) (he : PE X e ty) (m : M1 X o "pop" apos e cpos) : PE X (.Call (.Attribute o "pop" apos) [e] [] cpos) (tNPop X.prog X.w td ty) := by
  refine ⟨fun pins s σ H Q I h => ?_⟩
  refine wpAny_Call_method m.base m.few m.line PySem.F.plainAttrs_dict PySem.F.slot_dict_pop PySem.F.type_dict_pop (thn (ho.run pins s σ H _ I h) fun u s1 ⟨x, H1, I1, rx, a, es0, ex, d, q1⟩ => ?_)
  subst ex
  obtain rfl : u = Value.ref a := rx
  obtain ⟨t1, t2⟩ := net_type I1 d
  refine ⟨t1, t2, ?_⟩
  rw [m.trees]
  refine Calls.callWith_builtin rfl (Calls.evalArgs_plain (Calls.spliced_cons (thn (he.run pins s1 σ H1 _ I1 q1) fun iv s2 ⟨y, H2, I2, ry, q, f, es, b, ey, hf, ha, hk, hv, q2⟩ => Calls.spliced_nil ?_)))
  subst ey
  obtain rfl : iv = Value.ref q := ry
  obtain ⟨hs', hz, dd⟩ := net_of I2.hok (.inl ha) hk
  obtain ⟨p, hp, hp2⟩ := atKey_some hv
  refine call_pop_heap (hsz := by unfold netX; rw [List.length_map]; exact hz) (more := []) (.inl rfl) (PySem.F.args_dict_pop_2 _ _) (net_room hu) (fact_key I2.hok hf) hs' dd hp fun h' dd' hs2 => ?_
  rw [without_net] at dd'
  obtain ⟨oq, ds, ep, hq, h2, h3, h4, _, h5⟩ := dd'
  have hl' : (dropN es f).length ≤ es.length := List.length_filter_le _ _
  refine ⟨.bl b, _, d_write I2 (by rw [ha]; exact True.intro) hs2 ⟨oq, hq⟩ (netO_ok ⟨hs', by omega, oq, ds, ep, hq, h2, h3, h4, h5⟩), ?_, q2⟩
  rw [hp2]
  rfl
/-- {} as such a dict -/
def tNNew (P : Program) (w : World) : TE := fun _ H Q => ∀ p, H p = none → Q (.ref p) (upd H p (NetO P w p []))
theorem pe_nnew : PE X (.Dict [] [] pos) (tNNew X.prog X.w) := ⟨fun pins s σ H Q I h =>
  wpAny_Dict_empty ⟨.ref s.heap.objs.size, _, I.laid (a := s.heap.objs.size) (o := NetO X.prog X.w s.heap.objs.size []) (t' := s.toks) (fun _ _ q => Heap.get?_push_of_some _ q) (Nat.le_refl _)
    (netO_ok ⟨beq_eq_false_iff_ne.mpr (Ne.symm (Nat.ne_of_lt I.big)), Nat.zero_le _, _, #[], 0, Heap.get?_push_size _ rfl, ⟨rfl, rfl, rfl⟩, rfl, rfl, List.nodup_nil⟩), rfl, h _ (I.hok.fresh (Nat.le_refl _))⟩⟩
theorem frzN {pins : List (Addr × Obj)} {σ : L2.St} {H : Hp} {s : Shared} {d : Addr} {o : Obj} {es : List NetE} (I : Inv X pins σ H s) (h : H d = some (.frz o (NetO X.prog X.w d es))) :
    (d == sysModules) = false ∧ s.heap.get? d = some o ∧ o.ExactDict ∧ ∃ (ds : Array DictEntry) (ep : Nat), o.data = .dict ds ep ∧ ds.size = es.length ∧
      ∀ (i : Nat) (e : NetE), es[i]? = some e → ∃ (en : DictEntry), ds[i]? = some en ∧ en.key = .ref e.2.1 := by
  obtain ⟨hd, ⟨y1, y2, o', ds, ep, ho, hx, hdt, he, _⟩, _, _⟩ := I.hok d _ h
  rw [hd] at ho
  cases ho
  refine ⟨y1, hd, hx, ds, ep, hdt, ?_, fun i e hi => ?_⟩
  · have l1 : ds.size = (netX es).length := size_of_entries he
    unfold netX at l1
    rw [List.length_map] at l1
    exact l1
  · have hb : (netX es)[i]? = some (fk e.1, e.2.1, Value.bool e.2.2) := by
      unfold netX
      rw [List.getElem?_map, hi]
      rfl
    have q := entry_at he i
    rw [hb] at q
    exact ⟨_, q, rfl⟩
def Itn (P : Program) (w : World) (d : Addr) (o : Obj) (es : List NetE) : It :=
  ⟨fun i H => H d = some (.frz o (NetO P w d es)) ∧ i < es.length, fun i H x H' => H' = H ∧ ∃ e, es[i]? = some e ∧ x = .ref e.2.1, fun i H => H d = some (.frz o (NetO P w d es)) ∧ es.length ≤ i⟩
theorem turn_net {P : Program} {w : World} {K : PySem.W.Frag} {tg : Expr} {d : Addr} {o : Obj} {ds : Array DictEntry} {ep : Nat} {es : List NetE} (it : Addr) (hod : o.data = .dict ds ep) : Turn P w K tg (Itn P w d o es) [it] it (fun i h => h.IsKeyIter it d i es.length ep) where
  mem := by simp
  obj := fun i h st b hb => by
    have e : b = it := by simpa using hb
    subst e
    obtain ⟨oi, e, c, dd⟩ := st
    exact ⟨oi, e, fun v z => by rw [dd] at z; cases z⟩
  keep := fun i h h' st k => st.at fun oi e => k it (by simp) oi e
  item := by
    intro X hP hw hK hc i pins s σ H E I hf st hg
    subst hP hw hK
    obtain ⟨hd, hi⟩ := hg
    obtain ⟨f0, f1, f2, f3, f4, f5⟩ := hf it (by simp)
    obtain ⟨hs, hgd, hx, es', ep', hdt, hsz, ent⟩ := frzN I hd
    obtain ⟨rfl, rfl⟩ := dict_ep hod hdt
    obtain ⟨e, he⟩ : ∃ p, es[i]? = some p := ⟨es[i], List.getElem?_eq_getElem hi⟩
    obtain ⟨en, hen, hkey⟩ := ent i e he
    refine next_key_item st hgd hdt hsz hen fun h' st' sb => ?_
    have I1 : Inv X pins σ H { s with heap := h' } := I.turned (t' := s.toks) (fun b ob hb e => (sb.2 b hb).trans e) f0 f1 f3 f4 f5
    obtain ⟨oi, e1, c, dd⟩ := id st'
    exact ⟨en.key, rfl, go_of (s := { s with heap := h' }) e1 c dd (by decide) ⟨.ref e.2.1, H, I1, hkey, ⟨rfl, e, he, rfl⟩, st', fun b hb => (hf b hb).1⟩⟩
  done := by
    intro X hP hw hK hc i pins s σ H E I hf st hg
    subst hP hw hK
    obtain ⟨hd, hi⟩ := hg
    obtain ⟨f0, f1, f2, f3, f4, f5⟩ := hf it (by simp)
    obtain ⟨hs, hgd, hx, es', ep', hdt, hsz, ent⟩ := frzN I hd
    obtain ⟨rfl, rfl⟩ := dict_ep hod hdt
    exact next_key_end (I.ok.hd hc) st hgd hdt hsz hi fun h' eb => ⟨rfl, I.turned (t' := s.toks) (fun b ob hb e => eb b ob hb e) f0 f1 f3 f4 f5⟩
  self := fun A i s Q E st h => by
    refine wpAny_pyIter_slot st.typeIs PySem.F.slot_dict_keyiterator_iter (wpAny_call_entry PySem.F.slot_dict_keyiterator_iter st.typeIs PySem.F.entry_dict_keyiterator_iter ?_ (PySem.F.args_dict_keyiterator_iter_1 _))
    show wpAny _ _ (ret (.ref it)) _ _ s
    exact wpAny_pure ⟨_, rfl, "dict_keyiterator", _, st.typeIs, PySem.F.slot_dict_keyiterator_next.lookup, h⟩
def iNet (P : Program) (w : World) (td : TE) : TI := fun σ H R => td σ H fun x H1 => ∃ d o es, x = .ref d ∧ H1 d = some (.frz o (NetO P w d es)) ∧ R (Itn P w d o es) H1
theorem pi_net {tg : Expr} (he : PE X e td) : PI X tg e (iNet X.prog X.w td) := by
  refine ⟨fun pins s σ H R I h => ?_⟩
  refine thn (he.run pins s σ H _ I h) fun u s1 ⟨x, H1, I1, rx, d, o, es, ex, hd, q⟩ => ?_
  subst ex
  obtain rfl : u = Value.ref d := rx
  obtain ⟨hs, hgd, hx, ds, ep, hdt, hsz, ent⟩ := frzN I1 hd
  refine iter_keys hs hgd hx hdt (pi_one (tk := s1.toks) I1 _ (turn_net _ hdt) ⟨_, Heap.get?_push_size _ rfl, rfl, ?_⟩ q)
  rw [hsz] <;> rfl
end
end DH
namespace DH
open PySem PySem.Spec L2
def top (i : Nat) : Stmt := PySem.Challenge.pw_deducehall_k10_changes_put_together.main.body.getD i (.Pass ⟨0, 0, 0, 0⟩)
abbrev sIsNum : Stmt := top 14
abbrev sVKey : Stmt := top 15
abbrev sRKey : Stmt := top 16
abbrev sInOrd : Stmt := top 17
abbrev sRInit : Stmt := inClass (top 19) 0
abbrev sRHas : Stmt := inClass (top 19) 1
abbrev sRSize : Stmt := inClass (top 19) 2
abbrev sRAdd : Stmt := inClass (top 19) 3
abbrev sRDrop : Stmt := inClass (top 19) 4
abbrev sRRows : Stmt := inClass (top 19) 6
abbrev sSInit : Stmt := inClass (top 20) 0
abbrev sSOf : Stmt := inClass (top 20) 1
abbrev sSNames : Stmt := inClass (top 20) 2
abbrev sSHas : Stmt := inClass (top 20) 3
abbrev sSShown : Stmt := inClass (top 20) 6
abbrev sCInit : Stmt := inClass (top 21) 0
abbrev sCNote : Stmt := inClass (top 21) 1
abbrev sCCame : Stmt := inClass (top 21) 2
abbrev sCWent : Stmt := inClass (top 21) 3
abbrev sCNames : Stmt := inClass (top 21) 4
abbrev sCBare : Stmt := inClass (top 21) 5
abbrev sCTurned : Stmt := inClass (top 21) 6
abbrev sCShown : Stmt := inClass (top 21) 7
abbrev sStoreOf : Stmt := top 23
abbrev sApart : Stmt := top 24
abbrev sLaidOn : Stmt := top 25
abbrev sDice : Stmt := top 27
abbrev sRoll : Stmt := top 28
abbrev sRounds : Stmt := top 29
abbrev sTold : Stmt := top 30
abbrev sFacts : Stmt := top 31
abbrev sLaw : Stmt := top 32
theorem sc_isNum : FnScope ["value"] ["value"] (defScope sIsNum) := ⟨rfl, rfl, rfl, by decide +kernel, rfl, by decide +kernel, by decide +kernel⟩
theorem sc_vkey : FnScope ["value"] ["value"] (defScope sVKey) := ⟨rfl, rfl, rfl, by decide +kernel, rfl, by decide +kernel, by decide +kernel⟩
theorem sc_law : FnScope ["_law_script", "_law_dice_here", "_law_net", "_law_step", "_law_fact", "_law_came", "_law_due", "_law_name", "_law_one", "_law_went", "_law_other", "_law_end", "_law_between", "_law_back", "_law_bad", "_law_told_now", "_law_after", "_law_changes", "_law_start"] ["_law_script"] (defScope sLaw) := ⟨rfl, rfl, rfl, by decide +kernel, rfl, by decide +kernel, by decide +kernel⟩
end DH
namespace DH
open PySem PySem.Spec L2
open PyProof.Rows hiding St
theorem mod_keeps {K : PySem.W.Frag} {mg : Str → Option Value} {h h' : Heap} (M : L2.Mod K mg h) (k : ∀ b o, h.get? b = some o → h'.get? b = some o) : L2.Mod K mg h' :=
  ⟨M.kin.keeps k, M.glob.keeps k, let ⟨mb, h1, h2⟩ := M.blt; ⟨mb, h1.keeps k, h2⟩, M.nolimit.keeps k⟩
theorem keeps_trans {s s1 s2 : Shared} (a : PySem.Keeps s s1) (b : PySem.Keeps s1 s2) : PySem.Keeps s s2 := by
  obtain ⟨h1, t1, rfl, k1⟩ := a
  obtain ⟨h2, t2, rfl, k2⟩ := b
  exact ⟨h2, t2, rfl, fun c o e => k2 c o (k1 c o e)⟩
theorem keeps_refl (s : Shared) : PySem.Keeps s s := ⟨s.heap, s.toks, rfl, fun _ _ e => e⟩
theorem keeps_tok (s : Shared) (t : Nat) : PySem.Keeps s { s with toks := t } := ⟨s.heap, t, rfl, fun _ _ e => e⟩
theorem keeps_push (s : Shared) (o : Obj) (t : Nat) : PySem.Keeps s { s with heap := s.heap.push o, toks := t } := ⟨_, t, rfl, fun _ _ e => Heap.get?_push_of_some _ e⟩
theorem keeps_get {s s1 : Shared} (a : PySem.Keeps s s1) : ∀ b o, s.heap.get? b = some o → s1.heap.get? b = some o := by
  obtain ⟨h1, t1, rfl, k1⟩ := a
  exact k1
section
variable {P : Program} {w : World} {K : PySem.W.Frag} {mg : Str → Option Value}
/-- a quiet def's body is walked in this place -/
structure QIn (K : PySem.W.Frag) (mg : Str → Option Value) (env : Env) (m : Str → Option Value) (s : Shared) : Prop where
  kind : env.scope.kind = .function
  glob : env.globals = mainGlobals
  blt : env.builtins = builtinsNs
  ns : s.heap.Ns env.locals m
  mod : L2.Mod K mg s.heap
theorem QIn.keeps {env : Env} {m : Str → Option Value} {s s' : Shared} (I : QIn K mg env m s) (k : PySem.Keeps s s') : QIn K mg env m s' :=
  ⟨I.kind, I.glob, I.blt, I.ns.keeps (keeps_get k), mod_keeps I.mod (keeps_get k)⟩
theorem q_call {x qual : Str} {st : Stmt} {f : Addr} {fd : FuncData} {N ps : List Str} {k : Nat} (F : Fun K x qual st f fd) (S : FnScope N ps (defScope st)) (hloc : ∀ x ∈ ps, (defScope st).names.lookup x = some .local) {A : Around} {s : Shared} {us : List Value}
    (hr : Room (k + 1) A) (M : L2.Mod K mg s.heap) (hb : BindsTo s fd ⟨us, []⟩ (ps.zip us)) (hl : us.length = ps.length) {R : Value → Shared → Prop}
    (body : ∀ (cdv : Value) (s1 : Shared) (m : Str → Option Value), Room k (A.deeper (envOfC qual (defScope st) s.heap.objs.size f cdv)) → PySem.Keeps s s1 → QIn K mg (envOfC qual (defScope st) s.heap.objs.size f cdv) m s1 →
      (∀ (i : Nat) (x : Str) (u : Value), ps[i]? = some x → us[i]? = some u → m x = some u) →
      ∀ E, wpAny (model P w) (A.deeper (envOfC qual (defScope st) s.heap.objs.size f cdv)) (execs (defBody st) (envOfC qual (defScope st) s.heap.objs.size f cdv)) (fun fl s' => ∃ v, fl = .ret v ∧ R v s') E s1) :
    codeAny (model P w) A (.call (.ref f) ⟨us, []⟩) (fun r s' => ∃ v, r = .ok (.ret v) ∧ R v s') s := by
  obtain ⟨oc, od, kV, doc, pm, an, cdv, ct, osl, rfl, lk, hcd⟩ := F.ex
  have KX : K.In s.heap := M.kin
  have hkind : ∀ y ∈ ps.zip us, (defScope st).names.lookup y.1 = some .local ∨ ((defScope st).names.lookup y.1 = some .cell ∧ ((cellsFrom (s.heap.objs.size + 1) (defScope st).names []).lookup y.1).isSome = true) := fun ⟨n, v⟩ hy => .inl (hloc n (List.of_mem_zip hy).1)
  refine codeAny_call_function hr.depth (KX _ _ lk) rfl S.co S.gen rfl (PySem.W.codeRec_of KX hcd) (hb _ _ _ _ ?_)
  refine wpAny_newFunctionEnv_cells S.kind hkind fun env he s1 x => ?_
  subst he
  refine ⟨M.nolimit.keeps x.toInCall.keep, codeAny_func ?_⟩
  have ndP : ps.Nodup := by rw [← S.pre]; exact S.nd.sublist (List.take_sublist _ _)
  obtain ⟨h1, t1, e1⟩ := x.toInCall.same
  have kp : PySem.Keeps s s1 := ⟨h1, t1, e1, fun b o e => by have := x.toInCall.keep b o e; rw [e1] at this; exact this⟩
  refine wpAny_mono (body cdv s1 _ (hr.deeper _) kp ⟨S.kind, rfl, rfl, x.toInCall.ns, mod_keeps M x.toInCall.keep⟩ (fun i y u e2 e3 => bindL_get ndP e2 e3 (hloc y (List.mem_of_getElem? e2))) _) (fun fl s' hs => ?_) fun e s' hs => hs
  obtain ⟨v, rfl, hR⟩ := hs
  exact ⟨v, rfl, hR⟩
section
variable {A : Around} {E : Value → Shared → Prop} {s : Shared} {env : Env} {m : Str → Option Value} {x : Str} {pos : Pos}
theorem q_loc {u : Value} {Q : Value → Shared → Prop} (I : QIn K mg env m s) (hk : env.kindOf x = some .local) (hm : m x = some u) (h : Q u s) (hd : (x == ("__debug__" : Str)) = false := by decide) : wpAny (model P w) A (eval (.Name x pos) env) Q E s :=
  wpAny_Name (wpAny_loadName_local I.kind hk I.ns hm h) hd
theorem q_glob {u : Value} {Q : Value → Shared → Prop} (I : QIn K mg env m s) (hg : env.kindOf x = some .globalImplicit) (hm : mg x = some u) (h : Q u s) (hd : (x == ("__debug__" : Str)) = false := by decide) : wpAny (model P w) A (eval (.Name x pos) env) Q E s :=
  Calls.Name_function_global I.kind hg (Calls.loadGlobal_global (by rw [I.glob]; exact I.mod.glob) hm h) hd
theorem q_blt {u : Value} {Q : Value → Shared → Prop} (I : QIn K mg env m s) (hg : env.kindOf x = some .globalImplicit) (hm : mg x = none) (hv : bootBuiltins x = some u) (h : Q u s) (hn : x ≠ "__name__" := by decide) (hd : (x == ("__debug__" : Str)) = false := by decide) :
    wpAny (model P w) A (eval (.Name x pos) env) Q E s := by
  obtain ⟨mb, h1, h2⟩ := I.mod.blt
  exact Calls.Name_function_global I.kind hg (Calls.loadGlobal_builtin (by rw [I.glob]; exact I.mod.glob) hm (by rw [I.blt]; exact h1) ((h2 x hn).trans hv) h) hd
end
/-- what a quiet def of the text gives: called with us where Pre holds of the heap it gives a value of which Post holds behind -/
def QFn (P : Program) (w : World) (K : PySem.W.Frag) (mg : Str → Option Value) (k : Nat) (f : Addr) (Pre : Heap → List Value → Prop) (Post : List Value → Value → Shared → Shared → Prop) : Prop :=
  ∀ (A : Around) (s : Shared) (us : List Value), Room k A → L2.Mod K mg s.heap → Pre s.heap us → codeAny (model P w) A (.call (.ref f) ⟨us, []⟩) (fun r s' => ∃ v, r = .ok (.ret v) ∧ PySem.Keeps s s' ∧ Post us v s s') s
theorem QFn.call {k : Nat} {f : Addr} {Pre : Heap → List Value → Prop} {Post : List Value → Value → Shared → Shared → Prop} (F : QFn P w K mg k f Pre Post) {A : Around} {s : Shared} {us : List Value} (hr : Room k A) (M : L2.Mod K mg s.heap) (hp : Pre s.heap us) {Q : Value → Shared → Prop} {E : Value → Shared → Prop}
    (h : ∀ v s', PySem.Keeps s s' → Post us v s s' → Q v s') : wpAny (model P w) A (call (.ref f) us) Q E s := by
  refine wpAny_call (codeAny_mono (F A s us hr M hp) fun r s' hq => ?_)
  obtain ⟨v, rfl, kp, po⟩ := hq
  exact h v s' kp po
theorem q_isNum {f : Addr} {fd : FuncData} (F : Fun K "is_number" "is_number" sIsNum f fd) (b : L2.Binds K fd ["value"] []) (zI : mg "isinstance" = none) (zT : mg "int" = none) :
    QFn P w K mg 1 f (fun _ us => ∃ i t, us = [.int i t]) (fun _ v _ _ => v = .bool true) := by
  intro A s us hr M hp
  obtain ⟨i, t, rfl⟩ := hp
  refine q_call F sc_isNum (by decide +kernel) (k := 0) hr M (b s [.int i t] M.kin rfl) rfl fun cdv s1 m hr1 kp I hm E => ?_
  refine wpAny_execs_cons (wpAny_Return_some ?_)
  refine wpAny_Call_Name_kw (q_blt I rfl zI (show bootBuiltins "isinstance" = some (.builtin "isinstance") by decide +kernel) ?_)
  refine PyProof.Rows.callWith_builtin1 ?_ (by rfl)
  refine Calls.spliced_cons (q_loc I rfl (hm 0 _ _ rfl rfl) ?_)
  refine Calls.spliced_cons (q_blt I rfl zT (show bootBuiltins "int" = some (.type "int") by decide +kernel) (Calls.spliced_nil ?_))
  refine PySem.W.kia_one PySem.W.kitx_int I.mod.kin True.intro (kit_ty (r := true) (by decide +kernel)) (fun z => nomatch z) fun tk => ?_
  exact ⟨.bool true, rfl, keeps_trans kp (keeps_tok _ _), rfl⟩
end
end DH
namespace DH
open PySem PySem.Spec L2
open PyProof.Rows hiding St
/-- the keys as data -/
abbrev vkD (i : Int) : PyData := .tuple [.int 0, .int i, .str Str.empty]
abbrev rkD (i : Int) : PyData := .tuple [vkD i]
theorem sc_rkey : FnScope ["row"] ["row"] (defScope sRKey) := ⟨rfl, rfl, rfl, by decide +kernel, rfl, by decide +kernel, by decide +kernel⟩
section
variable {P : Program} {w : World} {K : PySem.W.Frag} {mg : Str → Option Value}
section
variable {A : Around} {E : Value → Shared → Prop} {s : Shared} {env : Env} {pos : Pos}
theorem q_args {e : Expr} {es : List Expr} {Q : List Value → Shared → Prop} (h : wpAny (model P w) A (eval e env) (fun v s1 => wpAny (model P w) A (spliced (backTo pos (starEach es env))) (fun vs s2 => Q (v :: vs) s2) E s1) E s)
    (hs : starEach (e :: es) env = (false, eval e env) :: starEach es env := by rfl) : wpAny (model P w) A (spliced (backTo pos (starEach (e :: es) env))) Q E s := by
  rw [hs]
  show wpAny _ _ (spliced ((false, eval e env) :: backTo pos (starEach es env))) _ _ s
  exact Calls.spliced_cons h
theorem q_args0 {Q : List Value → Shared → Prop} (h : Q [] s) : wpAny (model P w) A (spliced (backTo pos (starEach [] env))) Q E s := Calls.spliced_nil h
end
theorem q_vkey {f fN : Addr} {fd fdN : FuncData} (F : Fun K "value_key" "value_key" sVKey f fd) (b : L2.Binds K fd ["value"] []) (FN : Fun K "is_number" "is_number" sIsNum fN fdN) (bN : L2.Binds K fdN ["value"] []) (mN : mg "is_number" = some (.ref fN))
    (zI : mg "isinstance" = none) (zT : mg "int" = none) :
    QFn P w K mg 2 f (fun _ us => ∃ i t, us = [.int i t]) (fun us v s s' => ∃ i t T a b c, us = [.int i t] ∧ v = .ref T ∧ s.heap.get? T = none ∧ s'.heap.IsTuple T #[.int 0 a, .int i b, .str Str.empty c]) := by
  intro A s us hr M hp
  obtain ⟨i, t, rfl⟩ := hp
  refine q_call F sc_vkey (by decide +kernel) (k := 1) hr M (b s [.int i t] M.kin rfl) rfl fun cdv s1 m hr1 kp I hm E => ?_
  refine wpAny_execs_cons (wpAny_Return_some ?_)
  refine wpAny_IfExp ?_
  refine isTrue_plain ?_ (by rfl)
  refine wpAny_Call_Name_kw (q_glob I rfl mN ?_)
  refine PySem.W.callWith_K (h₀ := s1.heap) I.mod.kin FN.kp ?_ (by rfl)
  refine q_args (q_loc I rfl (hm 0 _ _ rfl rfl) (q_args0 ⟨I.mod.kin, ?_⟩))
  refine (q_isNum FN bN zI zT).call (us := [.int i t]) hr1 I.mod ⟨i, t, rfl⟩ fun v s2 kp2 hv => ?_
  subst hv
  refine wpAny_truthy_bool ?_
  have I2 := I.keeps kp2
  refine wpAny_Tuple_spliced ?_
  refine q_args (wpAny_Constant_int ?_)
  refine q_args (q_loc (I2.keeps (keeps_tok _ _)) rfl (hm 0 _ _ rfl rfl) ?_)
  refine q_args (Calls.Constant_str (q_args0 ⟨by show 3 ≤ sizeLine; decide, ?_⟩))
  have k3 := keeps_trans kp kp2
  have k4 := keeps_trans k3 (keeps_tok s2 (s2.toks + 1))
  have k5 := keeps_trans k4 (keeps_tok _ (s2.toks + 1 + 1))
  refine ⟨_, rfl, keeps_trans k5 (keeps_push _ _ _), i, t, _, _, _, _, rfl, rfl, ?_, ⟨_, Heap.get?_push_size _ rfl, rfl, 0, rfl⟩⟩
  · cases e : s.heap.get? s2.heap.objs.size with
    | none => rfl
    | some o => exact absurd (Heap.lt_size (keeps_get k3 _ _ e)) (Nat.lt_irrefl _)
theorem off1 {b N C D : Nat} (hb : b < N ∨ b = C) (hC : N + 1 ≤ C) (hD : N + 1 ≤ D) (h : D ≠ C) : ¬ (b = D ∨ b = N) := by omega
theorem ne1 {b N C : Nat} (hb : b < N + 1) (hC : N + 1 ≤ C) : b ≠ C := by omega
theorem lt1 {b N l : Nat} (h : l < N) (hb : b = N ∨ b = l) : b < N + 1 := by omega
theorem q_rkey {f fV fN : Addr} {fd fdV fdN : FuncData} (F : Fun K "row_key" "row_key" sRKey f fd) (b : L2.Binds K fd ["row"] []) (FV : Fun K "value_key" "value_key" sVKey fV fdV) (bV : L2.Binds K fdV ["value"] []) (mV : mg "value_key" = some (.ref fV))
    (FN : Fun K "is_number" "is_number" sIsNum fN fdN) (bN : L2.Binds K fdN ["value"] []) (mN : mg "is_number" = some (.ref fN)) (zI : mg "isinstance" = none) (zT : mg "int" = none) (zU : mg "tuple" = none) :
    QFn P w K mg 3 f (fun h us => ∃ r i t, us = [.ref r] ∧ h.IsTuple r #[.int i t]) (fun us v s s' => ∀ r i t, us = [.ref r] → s.heap.IsTuple r #[.int i t] → Reads s'.heap v (rkD i) []) := by
  intro A s us hr M hp
  obtain ⟨r, i, t, rfl, hrow⟩ := hp
  refine q_call F sc_rkey (by decide +kernel) (k := 2) hr M (b s [.ref r] M.kin rfl) rfl fun cdv s1 m hr1 kp I hm E => ?_
  have hrow1 : s1.heap.IsTuple r #[.int i t] := let ⟨o, ho, x⟩ := hrow; ⟨o, keeps_get kp _ _ ho, x⟩
  refine wpAny_execs_cons (wpAny_Return_some ?_)
  refine wpAny_Call_Name_kw (q_blt I rfl zU (show bootBuiltins "tuple" = some (.type "tuple") by decide +kernel) ?_)
  refine PyProof.Rows.callWith_type1 ?_ (by rfl)
  refine q_args ?_
  have hlt : (r : Nat) < s1.heap.objs.size := by obtain ⟨o, ho, _⟩ := hrow1; exact Heap.lt_size ho
  refine ListComp_goes (closure_ok fun y hy e => absurd e ((by decide +kernel : ∀ z ∈ _, z.2 ≠ NameKind.free) y hy)) (by decide +kernel) rfl (by decide +kernel) ?_ (by intro _; rfl)
  refine q_loc I rfl (hm 0 _ _ rfl rfl) ?_
  refine wpAny_pyIter_tuple hrow1 ?_
  refine ⟨_, _, _, _, _, _, rfl, Goes.tuple hr1.hd s1.heap.objs.size r (Nat.ne_of_lt hlt) #[.int i t], by show 1 ≤ sizeLine; decide, ⟨⟨_, Heap.get?_push_size _ rfl, rfl, rfl⟩, (let ⟨o, ho, x⟩ := hrow1; ⟨o, Heap.get?_push_of_some _ ho, x⟩)⟩, ?_, fun D C s₃ hB => ?_⟩
  · intro c hc
    show c < (s1.heap.push _).objs.size
    rw [Heap.size_push]
    exact lt1 hlt (by simpa using hc)
  · obtain ⟨⟨h₃, tk₃, rfl⟩, old, nD, nC, hDC, hnm⟩ := hB
    have nC' : (s1.heap.objs.size + 1 : Nat) ≤ C := by
      have q : (s1.heap.push { cls := .type "tuple_iterator", data := .fields #[.ref r, .int 0 0] }).objs.size ≤ C := nC
      rw [Heap.size_push] at q
      exact q
    have nD' : (s1.heap.objs.size + 1 : Nat) ≤ D := by
      have q : (s1.heap.push { cls := .type "tuple_iterator", data := .fields #[.ref r, .int 0 0] }).objs.size ≤ D := nD
      rw [Heap.size_push] at q
      exact q
    have hDC' : (D : Nat) ≠ C := hDC
    generalize hce : compEnvC _ (cloFrom _ _ []) C _ = ce
    have hloc : ce.locals = C := by rw [← hce]; rfl
    have kx : ce.kindOf "value" = some .local := by rw [← hce]; rfl
    have kv : ce.kindOf "value_key" = some .globalImplicit := by rw [← hce]; rfl
    have kk : ce.scope.kind = .function := by rw [← hce]; rfl
    have kg : ce.globals = mainGlobals := by rw [← hce]; rfl
    have kb : ce.builtins = builtinsNs := by rw [← hce]; rfl
    have hp : (ce.scope.kind == .class || (ce.scope.kind == .module && ce.locals != ce.globals)) = false := by rw [kk]; rfl
    have offC : ∀ b : Addr, b < s1.heap.objs.size + 1 → b ≠ C := fun b hb => ne1 hb nC'
    refine ⟨fun j ys s₁ => ∃ h' tk m, s₁ = { s1 with heap := h', toks := tk } ∧ h'.Ns C m ∧ (∀ b o, s1.heap.get? b = some o → h'.get? b = some o) ∧ (j = 0 → ys = []) ∧ (j = 1 → ∃ T a b c, ys = [.ref T] ∧ T ≠ D ∧ T ≠ C ∧ T ≠ s1.heap.objs.size ∧ h'.IsTuple T #[.int 0 a, .int i b, .str Str.empty c]),
      ⟨h₃, tk₃, _, rfl, hnm, fun b o e => old b o (Heap.get?_push_of_some _ e), fun _ => rfl, fun z => absurd z (by decide)⟩, ?_, ?_, ?_⟩
    · rintro j vs s₁ h' tk ⟨h₄, tk₄, m, rfl, n₄, k₄, e0, e1⟩ hk' _
      have off : ∀ b : Addr, (b < s1.heap.objs.size ∨ b = C) → b ∉ D :: [s1.heap.objs.size] := fun b hb hm => off1 hb nC' nD' hDC' (by simpa using hm)
      refine ⟨h', tk, m, rfl, n₄.at' fun o e => hk' _ o (off _ (.inr rfl)) e, fun b o e => hk' b o (off _ (.inl (Heap.lt_size e))) (k₄ b o e), e0, fun z => ?_⟩
      obtain ⟨T, a, b, c, q1, q2, q3, q4, o, q5, q6⟩ := e1 z
      exact ⟨T, a, b, c, q1, q2, q3, q4, o, hk' T o (by simp [q2, q4]) q5, q6⟩
    · rintro j v vs s₁ hj hv st ⟨h₄, tk₄, m, rfl, n₄, k₄, e0, e1⟩ hpl
      have hj0 : j = 0 := by
        have : j < 1 := hj
        omega
      subst hj0
      obtain rfl := e0 rfl
      have hv' : v = .int i t := by
        have e : (#[Value.int i t] : Array Value)[0]? = some v := hv
        exact (Option.some.inj e).symm
      subst hv'
      refine wpAny_assign_Name (wpAny_storeName_local kx (by rw [hloc]; exact n₄) (fun h₅ n₅ s₅ => ?_) hp)
      rw [hloc] at s₅
      refine wpAny_tests_nil ?_
      show wpAny _ _ _ _ _ _
      have kp5 : ∀ b o, s1.heap.get? b = some o → h₅.get? b = some o := fun b o e => s₅.extBut b o (offC b (Nat.lt_succ_of_lt (Heap.lt_size e))) (k₄ b o e)
      have I5 : QIn K mg ce _ { s1 with heap := h₅, toks := tk₄ + 1 } := ⟨kk, kg, kb, n₅, mod_keeps I.mod kp5⟩
      refine wpAny_Call_Name_kw (q_glob I5 kv mV ?_)
      refine PySem.W.callWith_K (h₀ := h₅) I5.mod.kin FV.kp ?_ (by rw [← hce]; rfl) (by rw [← hce]; rfl)
      refine q_args (q_loc I5 kx (if_pos rfl) (q_args0 ⟨I5.mod.kin, ?_⟩)) (by rw [← hce]; rfl)
      refine (q_vkey FV bV FN bN mN zI zT).call (us := [.int i t]) hr1 I5.mod ⟨i, t, rfl⟩ fun v s6 kp6 hv6 => ?_
      obtain ⟨i', t', T, a, b, c, e6, rfl, nT, hT⟩ := hv6
      injection e6 with e6 _
      injection e6 with e6 _
      subst e6
      obtain ⟨h6, t6, rfl, k6⟩ := kp6
      have n5' := n₅
      rw [hloc] at n5'
      have hC5 : ∃ o, h₅.get? C = some o := by obtain ⟨o, _, _, ho, _⟩ := n5'; exact ⟨o, ho⟩
      have neT : ∀ b, (∃ o, h₅.get? b = some o) → T ≠ b := fun b ⟨o, ho⟩ e => by
        have nT' : h₅.get? T = none := nT
        rw [e, ho] at nT'
        cases nT'
      have hpl5 := hpl.at fun o e => s₅.extBut _ o hDC e
      have st5 : h₅.IsTupleIter s1.heap.objs.size r 1 ∧ h₅.IsTuple r #[.int i t] := ⟨st.1.at fun o e => s₅.extBut _ o (offC _ (Nat.lt_succ_self _)) e, let ⟨o, ho, x⟩ := st.2; ⟨o, s₅.extBut _ o (offC _ (Nat.lt_succ_of_lt hlt)) ho, x⟩⟩
      refine ⟨⟨h6, t6, _, rfl, n5'.keeps k6, fun b o e => k6 b o (kp5 b o e), fun z => absurd z (by decide), fun _ => ⟨T, a, b, c, rfl, neT D (let ⟨n, e⟩ := hpl5; ⟨_, e⟩), neT C hC5, neT _ (let ⟨o, e, _⟩ := st5.1; ⟨o, e⟩), hT⟩⟩, ⟨st5.1.at fun o e => k6 _ o e, let ⟨o, ho, x⟩ := st5.2; ⟨o, k6 _ o ho, x⟩⟩, hpl5.at fun o e => k6 _ o e⟩
    · rintro ys s₁ ⟨h₄, tk₄, m, rfl, n₄, k₄, e0, e1⟩ hpl
      obtain ⟨T, a, b, c, rfl, q2, q3, q4, oT, q5, q6⟩ := e1 rfl
      refine ⟨m, by rw [hloc]; exact n₄, fun h' hs' => ?_⟩
      rw [hloc] at hs'
      have hT' : h'.get? T = some oT := hs'.extBut T oT q3 q5
      have hpl' := hpl.at fun o e => hs'.extBut _ o hDC e
      refine q_args0 ?_
      obtain ⟨nl, hl⟩ := hpl'
      refine call_tuple_list (items := #[.ref T]) ⟨_, hl, rfl, nl, rfl⟩ fun h2 k2 => ?_
      refine ⟨_, rfl, ?_, ?_⟩
      · have ks : PySem.Keeps s1 { s1 with heap := h2.push { cls := .type "tuple", data := .seq #[.ref T] }, toks := tk₄ } := ⟨_, _, rfl, fun b o e => Heap.get?_push_of_some _ (k2 b o (hs'.extBut b o (offC b (Nat.lt_succ_of_lt (Heap.lt_size e))) (k₄ b o e)))⟩
        exact keeps_trans kp ks
      · intro r' i' t' er hrow'
        have er' : r' = r := by
          injection er with er _
          injection er with er
          exact er.symm
        subst er'
        have ei : i' = i := by
          obtain ⟨o1, g1, g2, n1, g3⟩ := hrow
          obtain ⟨o2, f1, f2, n2, f3⟩ := hrow'
          rw [g1] at f1
          cases f1
          rw [g3] at f3
          injection f3 with f3 _
          have f4 := congrArg Array.toList f3
          injection f4 with f4 _
          injection f4 with f4 _
          exact f4.symm
        subst ei
        obtain ⟨c1, nT, d1⟩ := q6
        have gT : (h2.push { cls := .type "tuple", data := .seq #[.ref T] }).get? T = some oT := Heap.get?_push_of_some _ (k2 _ _ hT')
        refine .tuple (as := [] ++ []) (Heap.get?_push_size _ rfl) rfl rfl (.cons (as := []) ?_ .nil)
        exact .tuple (as := [] ++ ([] ++ ([] ++ []))) gT c1 d1 (.cons (.int _ _) (.cons (.int _ _) (.cons (.str _ _) .nil)))
end
end DH
namespace DH
open PySem PySem.Spec L2
open PyProof.Rows hiding St
theorem vk_alike (i j : Int) : PySem.W.alike (vkD i) (vkD j) = true := by
  simp [vkD, PySem.W.alike, PySem.W.alikeAll]
theorem rk_alike (i j : Int) : PySem.W.alike (rkD i) (rkD j) = true := by
  simp [rkD, vkD, PySem.W.alike, PySem.W.alikeAll]
theorem rk_lt (i j : Int) : PySem.W.dataLt (rkD i) (rkD j) = decide (i < j) := by
  unfold rkD
  rw [PySem.W.dataLt_tuple, PySem.W.dataLt_cons (vk_alike i j)]
  have e0 : PySem.W.dataLt (vkD i) (vkD j) = if PyData.eqv (.int i) (.int j) = true then false else decide (i < j) := by
    have z0 : PyData.eqv (.int 0) (.int 0) = true := by simp [PyData.eqv]
    have z1 : PyData.eqv (.str Str.empty) (.str Str.empty) = true := by simp [PyData.eqv]
    unfold vkD
    rw [PySem.W.dataLt_tuple, PySem.W.dataLt_cons (x := .int 0) (y := .int 0) (by simp [PySem.W.alike]), if_pos z0, PySem.W.dataLt_cons (x := .int i) (y := .int j) (by simp [PySem.W.alike]), PySem.W.dataLt_int,
      PySem.W.dataLt_cons (x := .str Str.empty) (y := .str Str.empty) (by simp [PySem.W.alike]), if_pos z1]
    rfl
  rw [e0]
  by_cases h : i = j
  · subst h
    have e1 : PyData.eqv (vkD i) (vkD i) = true := by simp [vkD, PyData.eqv, PyData.eqvAll]
    rw [if_pos e1]
    simp
    rfl
  · have e1 : ¬ PyData.eqv (vkD i) (vkD j) = true := by simp [vkD, PyData.eqv, PyData.eqvAll, h]
    have e2 : ¬ PyData.eqv (PyData.int i) (.int j) = true := by simp [PyData.eqv, h]
    rw [if_neg e1, if_neg e2]
theorem rk_le : PySem.W.dataLe false (fun x : Addr × Int => rkD x.2) = fun p q => decide (p.2 ≤ q.2) := by
  funext a b
  show (!PySem.W.dataLt (rkD b.2) (rkD a.2)) = _
  rw [rk_lt, PySem.W.not_lt_int]
section
variable {P : Program} {w : World} {K : PySem.W.Frag} {mg : Str → Option Value}
abbrev RkPre : Heap → List Value → Prop := fun h us => ∃ r i t, us = [.ref r] ∧ h.IsTuple r #[.int i t]
abbrev RkPost : List Value → Value → Shared → Shared → Prop := fun us v s s' => ∀ r i t, us = [.ref r] → s.heap.IsTuple r #[.int i t] → Reads s'.heap v (rkD i) []
theorem q_lam {f fR c' : Addr} {q : Str} {params : Arguments} {scope : Scope} {cl : List (Str × Addr)} {pm ctv : Value} {p1 p2 p3 : Pos} (FR : QFn P w K mg 3 fR RkPre RkPost) (mR : mg "row_key" = some (.ref fR)) (kR : PySem.W.keepIn K (.ref fR) = true)
    (hbind : ∀ v, bindArgs (PySem.W.kla_fn "<lambda>" q params (.Call (.Name "row_key" p1) [.Name "row" p2] [] p3) scope cl pm (.ref c') ctv) ⟨[v], []⟩ = pure [(("row" : Str), v)])
    (hk : scope.kind = .function) (hco : scope.isCoroutine = false) (hgen : scope.isGenerator = false) (l1 : scope.names.lookup ("row" : Str) = some .local) (l2 : scope.names.lookup ("row_key" : Str) = some .globalImplicit) (hcell : ∀ y ∈ scope.names, y.2 ≠ .cell)
    {A : Around} {s : Shared} {r : Addr} {i : Int} {t : Tok} (hr : Room 4 A) (M : L2.Mod K mg s.heap) (ho : s.heap.get? f = some (PySem.W.kla_obj "<lambda>" q params (.Call (.Name "row_key" p1) [.Name "row" p2] [] p3) scope cl pm c' ctv))
    (hcd : s.heap.CodeRec (.ref c') q) (hrow : s.heap.IsTuple r #[.int i t]) : wpAny (model P w) A (call (.ref f) [.ref r]) (PySem.W.KeyPure (rkD i) s) (fun _ _ => False) s := by
  refine wpAny_call ?_
  refine PySem.W.kla_callFunE hr.depth ho rfl hco hgen rfl hcd ?_
  rw [hbind]
  refine wpAny_pure (wpAny_newFunctionEnv hcell (fun y hy => ?_) (fun h₁ hns hsb => ⟨M.nolimit.fresh _ hsb, ?_⟩) hk)
  · rw [List.mem_singleton.mp hy]
    exact l1
  show codeAny _ _ (.expr _ (PySem.W.envX q scope s.heap.objs.size f (.ref c') cl)) _ _
  have kp : ∀ b o, s.heap.get? b = some o → h₁.get? b = some o := fun b o e => hsb.extBut b o (Nat.ne_of_lt (Heap.lt_size e)) (Heap.get?_push_of_some _ e)
  have I : QIn K mg (PySem.W.envX q scope s.heap.objs.size f (.ref c') cl) _ { s with heap := h₁, toks := s.toks + [(("row" : Str), Value.ref r)].length } := ⟨hk, rfl, rfl, hns, mod_keeps M kp⟩
  refine PySem.W.kla_codeExpr ?_
  refine wpAny_Call_Name_kw (q_glob I l2 mR ?_)
  refine PySem.W.callWith_K (h₀ := h₁) I.mod.kin kR ?_ (by rfl) (by rfl)
  refine q_args (q_loc I l1 (u := .ref r) rfl (q_args0 ⟨I.mod.kin, ?_⟩))
  have hrow1 : h₁.IsTuple r #[.int i t] := let ⟨o, ho, x⟩ := hrow; ⟨o, kp _ _ ho, x⟩
  refine FR.call (us := [.ref r]) (hr.deeper _) I.mod ⟨r, i, t, rfl, hrow1⟩ fun v s2 kp2 hv => ?_
  obtain ⟨h2, t2, rfl, k2⟩ := kp2
  exact ⟨h2, t2, rfl, fun b o e => k2 b o (kp b o e), hv r i t rfl hrow1⟩
end
end DH
namespace DH
open PySem PySem.Spec L2
open PyProof.Rows hiding St
/-- sorted(xs, key=f): xs anything that collect reads -/
theorem sorted_keyG {prog : Program} {w : World} {A : Around} {E : Value → Shared → Prop} {s : Shared} {β : Type} {vs : List Value} {bs : List β} {R : Value → β → Prop} {src f : Value} {kw : List (Str × Value)} {Q : Value → Shared → Prop} (k : β → PyData) (e : PySem.W.EachIs R vs bs) (hal : PySem.W.AllAlike (bs.map k)) (hk : PySem.W.Sortable (bs.map k)) (hL : bs.length ≤ sizeLine)
    (hu : ∀ x, x ∈ bs → A.units + 2 + (k x).depth < cLine) (ha1 : argsOk "sorted" ⟨[src], kw⟩) (ha2 : ∀ x, argsOk "list.sort" ⟨[.ref x], kw⟩) (ht : ∀ x, Builtin.«list.sort» ⟨[.ref x], kw⟩ = ksk_tree x f false)
    (hcol : ∀ (E' : Value → Shared → Prop) (R : List Value → Shared → Prop), (∀ h' tk, (∀ b o, s.heap.get? b = some o → h'.get? b = some o) → R vs { s with heap := h', toks := tk }) → wpAny (model prog w) A.in1 (collect src) R E' s)
    (turn : ∀ (v : Value) (x : β), R v x → x ∈ bs → ∀ (h : Heap) (tk : Nat), (∀ b o, s.heap.get? b = some o → h.get? b = some o) →
      wpAny (model prog w) A.in1.in1 (call f [v]) (PySem.W.KeyPure (k x) { s with heap := h, toks := tk }) (fun _ _ => False) { s with heap := h, toks := tk })
    (h : ∀ out a c h' tk, (∀ b o, s.heap.get? b = some o → h'.get? b = some o) → s.heap.get? a = none → h'.get? a = some (seqObj "list" (List.toArray out) c) → out.length = bs.length → PySem.W.EachIs R out (bs.mergeSort (PySem.W.dataLe false k)) →
      Q (.ref a) { s with heap := h', toks := tk }) :
    wpAny (model prog w) A (call (.builtin "sorted") [src] kw) Q E s := by
  refine call_function_entry_kw kind_sorted plain_sorted entry_sorted ha1 ?_
  unfold Builtin.«sorted»
  refine wpAny_bind (m := checkCount "sorted" 1 1 _) (wpAny_pure ?_)
  refine wpAny_bind (hcol _ _ fun h1 tk1 k1 => ?_)
  have hsz1 : s.heap.get? h1.objs.size = none := by
    cases q : s.heap.get? h1.objs.size with
    | none => rfl
    | some o => exact absurd (Heap.lt_size (k1 _ _ q)) (Nat.lt_irrefl _)
  have hL' : vs.length ≤ sizeLine := by rw [e.length]; exact hL
  refine wpAny_bind (wpAny_newList ?_ hL')
  have ga : (h1.push (seqObj "list" vs.toArray 0)).get? h1.objs.size = some (seqObj "list" vs.toArray 0) := Heap.get?_push_size _ rfl
  have up : ∀ {g : Heap}, PySem.W.KeepsBut h1.objs.size (h1.push (seqObj "list" vs.toArray 0)) g → ∀ b o, s.heap.get? b = some o → g.get? b = some o := fun {g} kp b o q =>
    kp b o (Nat.ne_of_lt (Heap.lt_size (k1 _ _ q))) (Heap.get?_push_of_some _ (k1 _ _ q))
  refine wpAny_bind (wpAny_holding (wpAny_call_entry_kw slot_list_sort ⟨_, ga, rfl⟩ entry_list_sort ?body (ha2 _)))
  case body =>
    rw [ht]
    show wpAny (model prog w) A.in1.in1 _ _ _ { s with heap := h1.push (seqObj "list" vs.toArray 0), toks := tk1 }
    refine PySem.W.keyH_tree (kz := bs.map k) (s := { s with heap := h1.push (seqObj "list" vs.toArray 0), toks := tk1 }) ga (by rw [List.length_map]; exact e.length.symm) hL' hal hk (PySem.W.bound_map (A := A.in1.in1) hu)
      (PySem.W.keyH_turns (s := { s with heap := h1.push (seqObj "list" vs.toArray 0), toks := tk1 }) e fun v x hR hx h tk kp => turn v x hR hx h tk (up kp)) fun h' tk out c kp hD ko => ⟨_, rfl, ?_⟩
    exact wpAny_pure ⟨_, rfl, h out _ c h' tk (up kp) hsz1 hD ((ko.length (by rw [List.length_map]; exact e.length.symm)).trans e.length) (PySem.W.keyedOut_each k ko e)⟩
/-- a row of one whole number -/
def RowAt (H : Hp) (r : Addr) (k : Int) : Prop := H r = some (.tup [.int k])
def srt (ks : List Int) : List Int := ks.mergeSort fun a b => decide (a ≤ b)
/-- what is sorted: a list of rows, a dict whose keys are rows -/
def rSK (H : Hp) (x : V) (ks : List Int) : Prop := ∃ a, x = .ref a ∧ ((∃ bs : List (Addr × Int), H a = some (.lst (bs.map fun b => V.ref b.1)) ∧ (∀ b ∈ bs, RowAt H b.1 b.2) ∧ bs.map (·.2) = ks) ∨
  ∃ kvs, H a = some (.dT kvs) ∧ kvs.map (·.1) = ks.map fun k => ([Sum.inl k] : List L2.Key))
theorem RowAt.ext {H H' : Hp} {r : Addr} {k : Int} (h : RowAt H r k) (e : LamX.ExtN H H') : RowAt H' r k := e _ _ h fun _ z => by cases z
theorem rSK.ext {H H' : Hp} {x : V} {ks : List Int} (h : rSK H x ks) (e : LamX.ExtN H H') : rSK H' x ks := by
  obtain ⟨a, rfl, h⟩ := h
  refine ⟨a, rfl, ?_⟩
  rcases h with ⟨bs, h1, h2, h3⟩ | ⟨kvs, h1, h2⟩
  · exact .inl ⟨bs, e _ _ h1 (fun _ z => by cases z), fun b hb => (h2 b hb).ext e, h3⟩
  · exact .inr ⟨kvs, e _ _ h1 (fun _ z => by cases z), h2⟩
section
variable {X : Cx}
theorem row_is {pins : List (Addr × Obj)} {σ : L2.St} {H : Hp} {s : Shared} {r : Addr} {k : Int} (I : Inv X pins σ H s) (h : RowAt H r k) : ∃ t, s.heap.IsTuple r #[.int k t] := by
  obtain ⟨_, its, rv, o, a1, b1, n1, c1⟩ := (show ObjOk X.prog X.w H s.heap r (.tup [.int k]) from I.hok r _ h)
  obtain ⟨u, eu, ru⟩ := vals1 rv
  subst eu
  obtain ⟨t, rfl⟩ := (show ∃ t, u = Value.int k t from ru)
  exact ⟨t, o, a1, b1, n1, c1⟩
theorem each_refs : ∀ bs : List (Addr × Int), PySem.W.EachIs (fun (v : Value) (b : Addr × Int) => v = .ref b.1) (bs.map fun b => Value.ref b.1) bs
  | [] => .nil
  | _ :: r => .cons rfl (each_refs r)
theorem each_vals {out : List Value} {os : List (Addr × Int)} (h : PySem.W.EachIs (fun (v : Value) (b : Addr × Int) => v = .ref b.1) out os) : Vals (os.map fun b => V.ref b.1) out := by
  induction h with
  | nil => exact .nil
  | cons h t ih => exact .cons h ih
/-- the items that the sort reads: their addresses and numbers -/
theorem rSK_items {pins : List (Addr × Obj)} {σ : L2.St} {H : Hp} {s : Shared} {x : V} {u : Value} {ks : List Int} (hc : X.calm = true) (I : Inv X pins σ H s) (rx : L2.RelV x u) (h : rSK H x ks) : ∃ bs : List (Addr × Int), (∀ b ∈ bs, RowAt H b.1 b.2) ∧ bs.map (·.2) = ks ∧ bs.length ≤ sizeLine ∧
    ∀ (E' : Value → Shared → Prop) (R : List Value → Shared → Prop), (∀ h' tk, (∀ b o, s.heap.get? b = some o → h'.get? b = some o) → R (bs.map fun b => Value.ref b.1) { s with heap := h', toks := tk }) → wpAny (model X.prog X.w) X.A.in1 (collect u) R E' s := by
  obtain ⟨a, rfl, h⟩ := h
  cases rx
  rcases h with ⟨bs, h1, h2, h3⟩ | ⟨kvs, h1, h2⟩
  · refine ⟨bs, h2, h3, ?_, fun E' R hR => ?_⟩
    · obtain ⟨_, _, _, z⟩ := I.list (.inl (.inl h1))
      rw [List.length_map] at z
      exact z
    · obtain ⟨its, rv, pl, hz⟩ := I.list (.inl (.inl h1))
      have ei : its = bs.map fun b => Value.ref b.1 := by
        have rv' : Vals ((bs.map (·.1)).map V.ref) its := by rw [List.map_map]; exact rv
        have := refs_at rv'
        rw [List.map_map] at this
        exact this
      subst ei
      rw [List.length_map] at hz
      refine collect_list pl.isList (hR _ _ fun b o q => ?_) (by rw [List.length_map]; exact hz)
      have q' := Heap.get?_push_of_some (seqObj "list" #[] 0) q
      exact ((Heap.SameBut.update _ s.heap.objs.size _).2 b (Nat.ne_of_lt (Heap.lt_size q))).trans q'
  · obtain ⟨z, hs, ks', pr, o, es, ep, ho, hx, hdt, he, hn⟩ := (show ObjOk X.prog X.w H s.heap a (.dT kvs) from I.hok a _ h1)
    have l1 : es.size = ks'.length := size_of_entries he
    have l2 : kvs.length = ks'.length := Paired.length pr
    have l3 : ks.length = kvs.length := by
      have := congrArg List.length h2
      simpa using this.symm
    -- the numbers beside the addresses
    have hb : ∀ {kvs : List (List L2.Key × V)} {ks' : List (List L2.Key × Addr × Value)} {ks : List Int}, KT H kvs ks' → kvs.map (·.1) = ks.map (fun k => ([Sum.inl k] : List L2.Key)) → (∀ b ∈ (ks'.map fun x => x.2.1).zip ks, RowAt H b.1 b.2) := by
      intro kvs ks' ks pr
      induction pr generalizing ks with
      | nil => intro _ b hb; simp at hb
      | @cons p q ps qs hh t ih =>
        intro e b hb
        cases ks with
        | nil => simp at hb
        | cons k ks =>
          simp only [List.map_cons, List.cons.injEq] at e
          simp only [List.map_cons, List.zip_cons_cons, List.mem_cons] at hb
          rcases hb with rfl | hb
          · have := hh.2.1
            rw [e.1] at this
            exact this
          · exact ih e.2 b hb
    have ez1 : ((ks'.map fun x => x.2.1).zip ks).map (·.2) = ks := by
      rw [List.map_snd_zip]
      rw [List.length_map]; omega
    have ez2 : ((ks'.map fun x => x.2.1).zip ks).map (·.1) = ks'.map fun x => x.2.1 := by
      rw [List.map_fst_zip]
      rw [List.length_map]; omega
    refine ⟨(ks'.map fun x => x.2.1).zip ks, hb pr h2, ez1, by rw [List.length_zip, List.length_map]; omega, fun E' R hR => ?_⟩
    refine PySem.W.kdu_collect (kdl_raw hs hx hdt) (I.ok.hd hc) ho (by omega) fun h' tk acc' kp it => ?_
    have ea : acc'.toList = ks'.map fun x => Value.ref x.2.1 := by
      have hl : acc'.toList.length = ks'.length := by rw [Array.length_toList, it.1]; exact l1
      apply List.ext_getElem?
      intro j
      rw [List.getElem?_map]
      cases hj : acc'.toList[j]? with
      | none =>
        have h1 := List.getElem?_eq_none_iff.mp hj
        rw [List.getElem?_eq_none (by omega)]
        all_goals rfl
      | some v =>
        obtain ⟨en, hen, hv⟩ := it.2 j v (by rw [← Array.getElem?_toList]; exact hj)
        have qe := entry_at he j
        rw [hen] at qe
        cases hb : ks'[j]? with
        | none =>
          rw [hb] at qe
          exact nomatch (show some en = none from qe)
        | some b =>
          rw [hb] at qe
          have e2 : en = entryOfKey (tupleKind (mixKind X.prog X.w)) b := Option.some.inj qe
          rw [hv, e2]
          all_goals rfl
    have e3 : (((ks'.map fun x => x.2.1).zip ks).map fun b => Value.ref b.1) = acc'.toList := by
      rw [ea]
      have : (((ks'.map fun x => x.2.1).zip ks).map fun b => Value.ref b.1) = (((ks'.map fun x => x.2.1).zip ks).map (·.1)).map Value.ref := by rw [List.map_map]; rfl
      rw [this, ez2, List.map_map]
      rfl
    have := hR h' tk kp
    rw [e3] at this
    exact this
/-- sorted(rows, key=lambda row: row_key(row)) -/
def tSK (T : List (Addr × Str)) (td : TE) : TE := fun σ H Q => td σ H fun x H1 => LamX.Tabs T H1 ∧ ∀ H2, LamX.ExtN H1 H2 → LamX.Tabs T H2 → ∃ ks, rSK H2 x ks ∧ ∀ (p : Addr) (os : List (Addr × Int)), H2 p = none → (∀ o ∈ os, RowAt H2 o.1 o.2) → os.map (·.2) = srt ks → Q (.ref p) (upd H2 p (.lst (os.map fun o => V.ref o.1)))
theorem pe_sortKey {T : List (Addr × Str)} {td : TE} {fR c Pt : Addr} {e : Expr} {params : Arguments} {scope : Scope} {p p1 p2 p3 lpos kp pos : Pos} (he : PE X e td) (hc : X.calm = true) (hr : Room 6 X.A)
    (FR : QFn X.prog X.w X.K X.mg 3 fR RkPre RkPost) (mR : X.mg "row_key" = some (.ref fR)) (kR : PySem.W.keepIn X.K (.ref fR) = true)
    (hg : Gl X "sorted") (hm : X.mg "sorted" = none) (TB : LamX.TabB X.base X.mg c Pt) (hcode : X.env.code = .ref c) (hmT : (Pt, X.env.qual ++ "<lambda>") ∈ T) (huT : ∀ p ∈ T, p.1 = Pt → p.2 = X.env.qual ++ "<lambda>")
    (hdef : defaultsOf params X.env = ([], []))
    (hbind : ∀ (q : Str) (cl : List (Str × Addr)) (pm cv ctv v : Value), bindArgs (PySem.W.kla_fn "<lambda>" q params (.Call (.Name "row_key" p1) [.Name "row" p2] [] p3) scope cl pm cv ctv) ⟨[v], []⟩ = pure [(("row" : Str), v)])
    (hk : scope.kind = .function) (hco : scope.isCoroutine = false) (hgen : scope.isGenerator = false) (l1 : scope.names.lookup ("row" : Str) = some .local) (l2 : scope.names.lookup ("row_key" : Str) = some .globalImplicit) (hcell : ∀ y ∈ scope.names, y.2 ≠ .cell ∧ y.2 ≠ .free)
    (hea : backTo pos (starEach (e :: []) X.env) = (false, eval e X.env) :: backTo pos (starEach [] X.env) := by rfl) (hpl : (backTo pos (starEach (e :: []) X.env)).any (·.1) = false := by rfl) :
    PE X (.Call (.Name "sorted" p) [e] [⟨some "key", .Lambda params (.Call (.Name "row_key" p1) [.Name "row" p2] [] p3) scope lpos, kp⟩] pos) (tSK T td) := by
  refine ⟨fun pins s σ H Q I h => ?_⟩
  refine wpAny_Call_Name_kw (ld_blt I hg hm (show bootBuiltins "sorted" = some (.builtin "sorted") by decide +kernel) ?_)
  refine PyProof.Rows.callWith_kw ?_ hea hpl
  rw [hea]
  refine Calls.spliced_cons (thn (he.run pins s σ H _ I h) fun u s1 ⟨x, H1, I1, rx, hT, q1⟩ => Calls.spliced_nil ?_)
  refine PyProof.Rows.kws_cons ?_
  refine LamX.lam_make2 I1 TB hcode hmT huT hT hdef (fun y hy z => absurd z (hcell y hy).2) fun f c' pm ctv H2 s2 I2 eN T2 hf hfn hfr hco' => ?_
  refine PyProof.Rows.kws_nil ?_
  obtain ⟨ks, hx, q2⟩ := q1 H2 eN T2
  obtain ⟨bs, hb, hbk, hbl, hcol⟩ := rSK_items hc I2 rx hx
  have hbs : ∀ b ∈ bs, ∃ t, s2.heap.IsTuple b.1 #[.int b.2 t] := fun b hb' => row_is I2 (hb b hb')
  obtain ⟨⟨oc, cvs, ct, hoc, hdc, hvc⟩, _, _⟩ := I2.hok c' _ hco'
  refine sorted_keyG (s := s2) (β := Addr × Int) (vs := bs.map fun b => Value.ref b.1) (bs := bs) (R := fun v b => v = .ref b.1) (kw := [(Str.ofString "key", .ref f)]) (fun b => rkD b.2) (each_refs bs) (PySem.W.AllAlike.of fun b b' => rk_alike _ _) (PySem.W.Sortable.tuples fun b => ⟨_, _, rfl⟩) hbl (fun b _ => ?_)
    (PyProof.Rows.ksk_s1 _ _) (fun _ => PyProof.Rows.ksk_l1 _ _) (fun _ => PyProof.Rows.ksk_t1 _ _) hcol (fun v b hv hb' h tk kp => ?_) fun out a c2 h' tk kp hn ga hl ho => ?_
  · have := hr.units
    show X.A.units + 2 + 2 < cLine
    omega
  · subst hv
    obtain ⟨t, ot, g1, g2⟩ := hbs b hb'
    have M : L2.Mod X.K X.mg h := mod_keeps I2.ok.mod fun b o e => kp b o (I2.bk b o e)
    exact q_lam FR mR kR (fun v => hbind _ _ _ _ _ v) hk hco hgen l1 l2 (fun y hy => (hcell y hy).1) (hr.in1.in1) M (kp _ _ hf) ⟨c', oc, cvs, ct, rfl, kp _ _ hoc, hdc, hvc⟩ ⟨ot, kp _ _ g1, g2⟩
  · rw [rk_le] at ho
    have hperm : (bs.mergeSort fun p q => decide (p.2 ≤ q.2)).Perm bs := List.mergeSort_perm _ _
    have nA : H2 a = none := I2.hok.gone hn
    refine ⟨.ref a, _, I2.laidN (t' := tk) (o := .lst ((bs.mergeSort fun p q => decide (p.2 ≤ q.2)).map fun o => V.ref o.1)) kp hn nA ?_, rfl, q2 a _ nA (fun o ho' => hb o (hperm.mem_iff.mp ho')) ?_⟩
    · exact ⟨by rw [List.length_map, hperm.length_eq]; exact hbl, out, c2, each_vals ho, ga⟩
    · rw [← hbk]
      exact List.map_mergeSort fun a _ b _ => rfl
end
end DH
namespace DH
open PySem PySem.Spec L2
open PyProof.Rows hiding St
def rowD (L : List Int) : List (List L2.Key × V) := L.map fun k => (([Sum.inl k] : List L2.Key), V.int 1)
abbrev relF (hd tb : Addr) : List (Str × V) := [("held", .ref hd), ("tables", .ref tb)]
/-- at x a relation, its rows L in the dict at hd -/
def RelAt (H : Hp) (CR x hd tb : Addr) (L : List Int) : Prop := ∃ dx, H x = some (.ins CR dx (relF hd tb)) ∧ H hd = some (.dT (rowD L)) ∧ H tb = some (.dK []) ∧ L.Nodup
/-- name, relation, its two dicts, its rows -/
structure SE where
  nm : Str
  rl : Addr
  hd : Addr
  tb : Addr
  rows : List Int
def stD (es : List SE) : List (L2.Key × V) := es.map fun e => (Sum.inr e.nm, V.ref e.rl)
abbrev stF (dr : Addr) : List (Str × V) := [("relations", .ref dr)]
structure StoreAt (H : Hp) (CS CR s dr : Addr) (es : List SE) : Prop where
  ins : ∃ dx, H s = some (.ins CS dx (stF dr))
  dict : H dr = some (.dK (stD es))
  rels : ∀ e ∈ es, RelAt H CR e.rl e.hd e.tb e.rows
  names : (es.map (·.nm)).Nodup
  cells : (es.map (·.hd)).Nodup
def findE (es : List SE) (n : Str) : Option SE := es.find? fun e => decide (e.nm = n)
def rowsE (es : List SE) (n : Str) : List Int := ((findE es n).map (·.rows)).getD []
theorem findE_some {es : List SE} {n : Str} {e : SE} (h : findE es n = some e) : e ∈ es ∧ e.nm = n := by
  refine ⟨List.mem_of_find?_eq_some h, ?_⟩
  have := List.find?_some h
  simpa using this
theorem valV_stD (es : List SE) (n : Str) : valV (stD es) (Sum.inr n) = (findE es n).map fun e => V.ref e.rl := by
  unfold stD findE
  induction es with
  | nil => rfl
  | cons e es ih =>
    rw [List.map_cons, List.find?_cons]
    by_cases h : e.nm = n
    · rw [valV_pos (by rw [h])]
      simp [h]
    · rw [valV_neg (fun z => h (by injection z))]
      simp [h]
      exact ih
theorem valV_rowD (L : List Int) (k : Int) : valV (rowD L) [Sum.inl k] = if k ∈ L then some (V.int 1) else none := by
  unfold rowD
  induction L with
  | nil => rfl
  | cons a L ih =>
    rw [List.map_cons]
    by_cases h : a = k
    · rw [valV_pos (by rw [h])]
      simp [h]
    · rw [valV_neg (fun z => h (by injection z with z _; injection z))]
      rw [ih]
      have : (k ∈ a :: L) ↔ k ∈ L := by simp [Ne.symm h]
      simp only [this]
theorem isSome_rowD (L : List Int) (k : Int) : (valV (rowD L) [Sum.inl k]).isSome = decide (k ∈ L) := by
  rw [valV_rowD]
  by_cases h : k ∈ L <;> simp [h]
theorem sc_rhas : FnScope ["self", "row"] ["self", "row"] (defScope sRHas) := ⟨rfl, rfl, rfl, by decide +kernel, rfl, by decide +kernel, by decide +kernel⟩
theorem sc_shas : FnScope ["self", "name", "row"] ["self", "name", "row"] (defScope sSHas) := ⟨rfl, rfl, rfl, by decide +kernel, rfl, by decide +kernel, by decide +kernel⟩
section
variable {P : Program} {w : World} {K : PySem.W.Frag} {mg : Str → Option Value}
theorem q_fld {A : Around} {E : Value → Shared → Prop} {s : Shared} {H : Hp} {a C dx d : Addr} {fs : List (Str × V)} {f : Str} {Q : Value → Shared → Prop} (KX : K.In s.heap) (ok : HOk P w H s.heap) (e : H a = some (.ins C dx fs)) (c : Cls K C) (n : NoAttr K C f) (l : fs.lookup f = some (.ref d)) {b : Bool}
    (h : Q (.ref d) { s with toks := s.toks + 1 }) : wpAny (model P w) A (getAttr (.ref a) f b) Q E s := by
  obtain ⟨mA, O, r, _, _, _⟩ := ins_get ok e
  obtain ⟨u, hu, ru⟩ := RelO.some_of (v := V.ref d) (o := mA f) (by rw [← l]; exact r f)
  cases (show u = Value.ref d from ru)
  exact get_map KX O (c.get f) c.hd n hu rfl h
theorem q_rhas {CR f : Addr} {fd : FuncData} (F : Fun K "has" "Relation.has" sRHas f fd) (b : L2.Binds K fd ["self", "row"] []) (c : Cls K CR) (n : NoAttr K CR "held") {A : Around} {s : Shared} {H : Hp} {x hd tb r : Addr} {L : List Int} {k : Int}
    (hr : Room 1 A) (M : L2.Mod K mg s.heap) (ok : HOk P w H s.heap) (hx : RelAt H CR x hd tb L) (hrow : RowAt H r k) :
    codeAny (model P w) A (.call (.ref f) ⟨[.ref x, .ref r], []⟩) (fun q s' => ∃ v, q = .ok (.ret v) ∧ v = .bool (decide (k ∈ L)) ∧ PySem.Keeps s s') s := by
  refine q_call F sc_rhas (by decide +kernel) (k := 0) (R := fun v s' => v = .bool (decide (k ∈ L)) ∧ PySem.Keeps s s') hr M (b s [.ref x, .ref r] M.kin rfl) rfl fun cdv s1 m hr1 kp I hm E => ?_
  obtain ⟨dx, h1, h2, h3, h4⟩ := hx
  have ok1 : HOk P w H s1.heap := ok.kept (keeps_get kp)
  refine wpAny_execs_cons (wpAny_Return_some ?_)
  refine wpAny_Compare1 (q_loc I rfl (hm 1 _ _ rfl rfl) ?_)
  refine L2.attr_of rfl (q_loc I rfl (hm 0 _ _ rfl rfl) ?_)
  refine q_fld I.mod.kin ok1 h1 c n rfl ?_
  obtain ⟨z, hs, xs, rel, dd⟩ := dt_of ok1 h2
  have hk : H r = some (.tup (([Sum.inl k] : List L2.Key).map kV)) := hrow
  refine wpAny_in_heap (knd := tupleKind (mixKind P w)) (tupleKind_room_in1 (by have := hr1.un; omega)) (key_of ok1 hk) hs dd ?_
  have e := (rel.val [Sum.inl k]).isSome_eq
  rw [Option.isSome_map, isSome_rowD] at e
  rw [← e]
  exact ⟨_, rfl, rfl, keeps_trans kp (keeps_trans (keeps_tok _ _) (keeps_tok _ _))⟩
theorem q_shas {CS CR f fR : Addr} {fd fdR : FuncData} (F : Fun K "has" "Store.has" sSHas f fd) (b : L2.Binds K fd ["self", "name", "row"] []) (FR : Fun K "has" "Relation.has" sRHas fR fdR) (bR : L2.Binds K fdR ["self", "row"] []) (cS : Cls K CS) (cR : Cls K CR) (nS : NoAttr K CS "relations") (nR : NoAttr K CR "held")
    (mR : Meth K CR "has" fR) {A : Around} {s : Shared} {H : Hp} {x dr r : Addr} {es : List SE} {nm : Str} {t : Tok} {k : Int}
    (hr : Room 2 A) (M : L2.Mod K mg s.heap) (ok : HOk P w H s.heap) (hx : StoreAt H CS CR x dr es) (hrow : RowAt H r k) :
    codeAny (model P w) A (.call (.ref f) ⟨[.ref x, .str nm t, .ref r], []⟩) (fun q s' => ∃ v, q = .ok (.ret v) ∧ v = .bool (decide (k ∈ rowsE es nm)) ∧ PySem.Keeps s s') s := by
  refine q_call F sc_shas (by decide +kernel) (k := 1) (R := fun v s' => v = .bool (decide (k ∈ rowsE es nm)) ∧ PySem.Keeps s s') hr M (b s [.ref x, .str nm t, .ref r] M.kin rfl) rfl fun cdv s1 m hr1 kp I hm E => ?_
  obtain ⟨dx, hi⟩ := hx.ins
  have ok1 : HOk P w H s1.heap := ok.kept (keeps_get kp)
  obtain ⟨z, hs, vs, rel, dd⟩ := dk_of ok1 hx.dict
  refine wpAny_execs_cons (wpAny_Return_some ?_)
  refine BoolOp_and ?_
  refine wpAny_Compare1 (q_loc I rfl (hm 1 _ _ rfl rfl) ?_)
  refine L2.attr_of rfl (q_loc I rfl (hm 0 _ _ rfl rfl) ?_)
  refine q_fld I.mod.kin ok1 hi cS nS rfl ?_
  refine wpAny_in_of (knd := mixKind P w) (k := (Sum.inr nm : L2.Key)) (kV_is (show L2.RelV (kV (Sum.inr nm)) (.str nm t) from ⟨t, rfl⟩)) hs dd.mapOf ?_
  have e := (rel.val (Sum.inr nm)).isSome_eq
  rw [valV_stD, Option.isSome_map] at e
  rw [← e]
  have kp2 : PySem.Keeps s1 { s1 with toks := s1.toks + 1 + 1 } := keeps_tok _ _
  have I2 := I.keeps kp2
  cases hf : findE es nm with
  | none =>
    have er : rowsE es nm = [] := by unfold rowsE; rw [hf]; rfl
    refine wpAny_truthy_bool ?_
    refine ⟨_, rfl, ?_, keeps_trans kp kp2⟩
    rw [er]
    simp
  | some en =>
    have er : rowsE es nm = en.rows := by unfold rowsE; rw [hf]; rfl
    obtain ⟨hmem, hnm⟩ := findE_some hf
    refine wpAny_truthy_bool ?_
    refine BoolOp_one ?_
    refine PySem.W.methodCall_KW ?_ (by rfl)
    obtain ⟨w', hw, rw'⟩ := RelO.some_of (v := V.ref en.rl) (o := valueAt vs (Sum.inr nm)) (by
      have q := rel.val (Sum.inr nm)
      rw [valV_stD, hf] at q
      exact q)
    cases (show w' = Value.ref en.rl from rw')
    refine subD_of PySem.F.slot_dict_getitem.lookup (fun _ _ => rfl) ?_
    refine L2.attr_of rfl (q_loc I2 rfl (hm 0 _ _ rfl rfl) ?_)
    refine q_fld (s := { s1 with toks := s1.toks + 1 + 1 }) I2.mod.kin ok1 hi cS nS rfl ?_
    refine q_loc (I.keeps (keeps_tok s1 (s1.toks + 1 + 1 + 1))) rfl (hm 1 _ _ rfl rfl) ?_
    refine ⟨dd.typeIs, wpAny_getItem_of (knd := mixKind P w) (k := (Sum.inr nm : L2.Key)) (kV_is (show L2.RelV (kV (Sum.inr nm)) (.str nm t) from ⟨t, rfl⟩)) dd.mapOf hw ?_⟩
    have kp3 : PySem.Keeps s1 { s1 with toks := s1.toks + 1 + 1 + 1 + 1 } := keeps_tok _ _
    have I3 := I.keeps kp3
    obtain ⟨dx2, g1, g2, g3, g4⟩ := hx.rels en hmem
    obtain ⟨mA, O, rO, _, _, _⟩ := ins_get (h := s1.heap) ok1 g1
    refine get_meth (s := { s1 with toks := s1.toks + 1 + 1 + 1 + 1 }) I3.mod.kin O (cR.get "has") mR.at_ mR.fn (RelO.none_of (o := mA "has") (rO "has")) ?_
    refine PySem.W.callWith_K (first := [.ref en.rl]) (h₀ := s1.heap) I3.mod.kin mR.kp ?_ (by rfl) (by rfl)
    refine q_args (q_loc I3 rfl (hm 2 _ _ rfl rfl) (q_args0 ⟨I3.mod.kin, ?_⟩))
    refine wpAny_call (codeAny_mono (q_rhas FR bR cR nR (s := { s1 with toks := s1.toks + 1 + 1 + 1 + 1 }) (hr1.mono (by omega)) I3.mod ok1 (hx.rels en hmem) hrow) fun q s' hq => ?_)
    obtain ⟨v, rfl, rfl, kp4⟩ := hq
    rw [er]
    exact ⟨_, rfl, rfl, keeps_trans kp (keeps_trans kp3 kp4)⟩
end
end DH
namespace DH
open PySem PySem.Spec L2
open PyProof.Rows hiding St
/-- the element: of each row of bs the test pb, told at any heap that keeps s1's but for the table at P -/
def EltH (X : Cx) (P : Addr) (s1 : Shared) (scope : Scope) (x : Str) (elt : Expr) (bs : List (Addr × Int)) (pb : Addr × Int → Bool) : Prop :=
  ∀ (cenv : Env) (A' : Around) (E' : Value → Shared → Prop) (b : Addr × Int) (s₂ : Shared) (m₂ : Str → Option Value), b ∈ bs → cenv.scope = scope → cenv.cells = cloFrom X.env.cells scope.names [] → A'.handled = none → A'.depth ≤ X.A.depth + 1 → A'.units ≤ X.A.units + 8 →
    (∀ c o, c ≠ P → s1.heap.get? c = some o → s₂.heap.get? c = some o) → s₂.heap.Ns cenv.locals m₂ → m₂ x = some (.ref b.1) →
    wpAny (model X.prog X.w) A' (eval elt cenv) (fun y s₃ => y = .bool (pb b) ∧ PySem.Keeps s₂ s₃) E' s₂
def trB (pb : Addr × Int → Bool) (l : List (Addr × Int)) (j : Nat) : Bool := match l[j]? with
  | some b => pb b
  | none => false
theorem trB_some {pb : Addr × Int → Bool} {l : List (Addr × Int)} {j : Nat} {b : Addr × Int} (h : l[j]? = some b) : trB pb l j = pb b := by
  unfold trB
  rw [h]
theorem any_trB (l : List (Addr × Int)) (pb : Addr × Int → Bool) : (List.range l.length).any (trB pb l) = l.any pb := by
  rw [Bool.eq_iff_iff, List.any_eq_true, List.any_eq_true]
  constructor
  · intro ⟨j, hj, h⟩
    have hj' := List.mem_range.mp hj
    rw [trB_some (List.getElem?_eq_getElem hj')] at h
    exact ⟨l[j], List.getElem_mem hj', h⟩
  · intro ⟨b, hb, h⟩
    obtain ⟨j, hj, e⟩ := List.getElem_of_mem hb
    refine ⟨j, List.mem_range.mpr hj, ?_⟩
    rw [trB_some (List.getElem?_eq_getElem hj), e]
    exact h
section
variable {X : Cx} {pins : List (Addr × Obj)} {σ : L2.St} {H : Hp} {s : Shared}
def ReadyB (X : Cx) (pins : List (Addr × Obj)) (σ : L2.St) (H1 : Hp) (T : List (Addr × Str)) (bs : List (Addr × Int)) (pb : Addr × Int → Bool) (g : Addr) (s5 : Shared) : Prop :=
  ∃ (fp wr : List Addr) (G : Array GenState → Array GenState → Prop) (F : Nat → Value → Prop) (St : Nat → Shared → Prop),
    WalksS X.prog X.w X.A.in1 g fp wr G bs.length F St ∧ St 0 s5 ∧ TruthOf X.prog X.w X.A.in1 F (trB pb bs) ∧
    ∀ s', Moved wr G s5 s' → ∃ H2, LamX.ExtN H1 H2 ∧ LamX.Tabs T H2 ∧ Inv X pins σ H2 s'
/-- the heap kept, the generators changed -/
theorem inv_gens {g' : Array GenState} {d' : Drawn} {t' : Nat} (I : Inv X pins σ H s) (hg : AllBare g') : Inv X pins σ H { s with gens := g', drawn := d', toks := t' } :=
  I.step (h' := s.heap) (g' := g') (d' := d') (ch := []) (fun b hb => absurd hb (by simp)) (fun b o _ _ _ e _ => e) (fun b o _ _ _ e _ => ⟨o.slots, e⟩) (fun b o _ e n => n) (fun b o _ e => ⟨o, e⟩) (fun b xs e => e) (fun b o u e => e) (fun b qs e => ⟨#[], by simpa using e⟩) (fun m hn => hn) I.hok hg
theorem gen_b {T : List (Addr × Str)} {c P : Addr} {elt iter : Expr} {x : Str} {px gpos : Pos} {scope : Scope} {te : TE} {k : Nat} {Q' : Value → Shared → Prop} {R : List (Addr × Int) → (Addr × Int → Bool) → Hp → Prop}
    (hr : Room k X.A) (TB : LamX.TabB X.base X.mg c P) (hcode : X.env.code = .ref c) (hmT : (P, X.env.qual ++ "<genexpr>") ∈ T) (huT : ∀ p ∈ T, p.1 = P → p.2 = X.env.qual ++ "<genexpr>") (S : GxR.GenS X.env scope x) (hi : PE X iter te)
    (hel : ∀ s1 H1 bs pb, Inv X pins σ H1 s1 → LamX.Tabs T H1 → R bs pb H1 → EltH X P s1 scope x elt bs pb)
    (hs : ∀ v, genFold iter X.env v = pure v) (I : Inv X pins σ H s) {Ψ : V → Hp → Prop} (h : te σ H Ψ) (hΨ : ∀ v H1, Ψ v H1 → ∃ (yl : Addr) (bs : List (Addr × Int)) (pb : Addr × Int → Bool), v = .ref yl ∧ SqL X.K H1 yl (bs.map fun b => V.ref b.1) ∧ LamX.Tabs T H1 ∧ R bs pb H1)
    (hQ : ∀ bs pb H1 g s5, R bs pb H1 → ReadyB X pins σ H1 T bs pb g s5 → Q' (.ref g) s5) :
    wpAny (model X.prog X.w) X.A (eval (.GeneratorExp elt [⟨.Name x px, iter, [], 0⟩] scope gpos) X.env) Q' X.xe s := by
  refine wpAny_GeneratorExp_walksQD hr.hd S.co (closure_ok S.free) S.cell S.dot S.loc S.kind (by have := hr.dp; omega) ?_ hs
  refine thn (hi.run pins s σ H _ I h) fun xv s1 ⟨v, H1, I1, r1, q1⟩ => ?_
  obtain ⟨yl, bs, pb, rfl, hyl, hT, q1⟩ := hΨ _ _ q1
  have hel := hel s1 H1 bs pb I1 hT q1
  obtain ⟨ps, hP, ht, ha⟩ := hT _ hmT
  obtain rfl : xv = Value.ref yl := r1
  obtain ⟨its, rv, hl, hz⟩ := I1.list hyl
  have hIL := hl.isList
  have ei : its = bs.map fun b => Value.ref b.1 := by
    have rv' : Vals ((bs.map (·.1)).map V.ref) its := by rw [List.map_map]; exact rv
    have := refs_at rv'
    rw [List.map_map] at this
    exact this
  have hlen : its.length = bs.length := by rw [ei, List.length_map]
  have hat : ∀ (i : Nat) (v : Value), its.toArray[i]? = some v → ∃ b, bs[i]? = some b ∧ v = .ref b.1 := fun i v hv => by
    have hv2 : its[i]? = some v := by simpa using hv
    rw [ei, List.getElem?_map] at hv2
    obtain ⟨b, hb, e⟩ := Option.map_eq_some_iff.mp hv2
    exact ⟨b, hb, e.symm⟩
  refine wpAny_pyIter_list hIL ?_
  generalize ho : ({ cls := .type "list_iterator", data := .fields #[.ref yl, .int 0 0] } : Obj) = o
  have hitr : (s1.heap.push o).IsListIter s1.heap.objs.size yl 0 := by
    subst ho
    exact ⟨_, Heap.get?_push_size _ rfl, rfl, rfl⟩
  have hylt : yl < s1.heap.objs.size := by
    obtain ⟨_, e, _⟩ := _root_.id hIL
    exact Heap.lt_size e
  have hPs : s1.heap.get? P = some { cls := .none, data := .fields ps } := I1.hok P _ hP
  have hPlt : P < s1.heap.objs.size := Heap.lt_size hPs
  have hP2 : (s1.heap.push o).get? P = some { cls := .none, data := .fields ps } := Heap.get?_push_of_some _ hPs
  have cd : PySem.W.CodeHd (s1.heap.push o) c P := TB.code.keeps fun b u e => Heap.get?_push_of_some _ (I1.bk b u e)
  have lim2 : (s1.heap.push o).NoLimit := I1.nolimit.push o
  have cont : ∀ (code : Value) (h3 : Heap) (tk : Nat) (ps' : Array Value), Heap.ExtBut P (s1.heap.push o) h3 → (s1.heap.push o).objs.size ≤ h3.objs.size → h3.get? P = some { cls := .none, data := .fields ps' } →
      (∀ s' : Shared, s'.os = s1.os → AllBare s'.gens → (∀ b u, b ≠ P → s1.heap.get? b = some u → s'.heap.get? b = some u) → (∀ b u, s1.heap.objs.size < b → b < h3.objs.size → h3.get? b = some u → s'.heap.get? b = some u) → s'.heap.get? P = some { cls := .none, data := .fields ps' } → ∃ H2, LamX.ExtN H1 H2 ∧ LamX.Tabs T H2 ∧ Inv X pins σ H2 s') →
      wpAny (model X.prog X.w) X.A (builtinsFor X.env.globals X.env.builtins) (fun bi s₄ =>
        ∃ Ia fp wr n₀ Pf St₀ pz F, Value.ref s1.heap.objs.size = .ref Ia ∧ (∀ A' : Around, A'.handled = none → Walks X.prog X.w A' Ia fp wr n₀ Pf St₀) ∧ St₀ 0 s₄.heap ∧ (∀ b ∈ fp, b < s₄.heap.objs.size) ∧ s₄.heap.NoLimit ∧ cStatics ∉ wr ∧
          (∀ href : Heap, (∀ b o, s₄.heap.get? b = some o → href.get? b = some o) →
            QuietGenD X.prog X.w (genEnv scope (cloFrom X.env.cells scope.names []) s₄.heap.objs.size code bi X.env) x [] elt (List.range s₄.heap.objs.size) wr Pf pz F href (X.A.depth + 1) (X.A.units + 8)) ∧
          (∀ a h₅ tk gs, gs.bare = true → s₄.heap.objs.size < a → h₅.objs.size = a + 1 → (∀ b o, s₄.heap.get? b = some o → h₅.get? b = some o) →
            WalksS X.prog X.w X.A.in4 a (a :: s₄.heap.objs.size :: List.range s₄.heap.objs.size) (s₄.heap.objs.size :: wr) (GenOnlyQ s₄.gens.size) (passing pz n₀ 0).length
              (fun j y => ∃ i, (passing pz n₀ 0)[j]? = some i ∧ F i y) (GenAt X.prog X.w X.A.in4 a s₄.gens.size s₄.heap.objs.size (List.range s₄.heap.objs.size) wr pz n₀ F) →
            GenAt X.prog X.w X.A.in4 a s₄.gens.size s₄.heap.objs.size (List.range s₄.heap.objs.size) wr pz n₀ F 0 { s₄ with gens := s₄.gens.push gs, toks := tk, heap := h₅ } →
            Q' (.ref a) { s₄ with gens := s₄.gens.push gs, toks := tk, heap := h₅ })) X.xe { s1 with heap := h3, toks := tk } := by
    intro code h3 tk ps' hx hsz hP3 hfin
    obtain ⟨bm, ob, e1, e2, e3, e4, e5, e6, e7, e8⟩ := TB.bm
    have hcP : cStatics ≠ P := fun e => by
      obtain ⟨_, hns, _⟩ := I1.nolimit
      obtain ⟨o', es, ep, ho, hd, _⟩ := hns
      rw [e, hPs] at ho
      cases ho
      cases hd
    have hcl : cStatics < s1.heap.objs.size := let ⟨_, hns, _⟩ := I1.nolimit; hns.lt
    have sz2 : (s1.heap.push o).objs.size = s1.heap.objs.size + 1 := Heap.size_push ..
    have keep3 : ∀ b u, b ≠ P → s1.heap.get? b = some u → h3.get? b = some u := fun b u hb e => hx b u hb (Heap.get?_push_of_some _ e)
    refine wpAny_builtinsFor (m := X.mg) (by rw [I1.ok.glob]; exact ((I1.mod.glob.keeps I1.bk).push o).extBut hx TB.gP) e1 e2 (keep3 _ _ e4 (I1.bk _ _ e5)) e6 e7 e8 ?_
    have hylP : yl ≠ P := fun z => by
      obtain ⟨_, e, hc1, _, hd1⟩ := _root_.id hIL
      rw [z, hPs] at e
      cases e
      cases hd1
    have hIL3 : h3.IsList yl its.toArray := by
      obtain ⟨ob, e, r⟩ := _root_.id hIL
      exact ⟨ob, keep3 _ _ hylP e, r⟩
    have hItr3 : h3.IsListIter s1.heap.objs.size yl 0 := hitr.at fun u e => hx _ u (Nat.ne_of_gt hPlt) e
    refine ⟨s1.heap.objs.size, [s1.heap.objs.size, yl], [s1.heap.objs.size], its.toArray.size, (fun i v => its.toArray[i]? = some v), (fun i h => h.IsListIter s1.heap.objs.size yl i ∧ h.IsList yl its.toArray), (fun _ => true),
      (fun i y => ∃ b, bs[i]? = some b ∧ y = .bool (pb b)), rfl, (fun A' hA => Walks.list hA _ _ (Nat.ne_of_lt hylt) _), ⟨hItr3, hIL3⟩, ?_, lim2.extBut hx hcP, ?_, ?_, ?_⟩
    · intro b hb
      rcases List.mem_cons.mp hb with z | z
      · rw [z]
        show s1.heap.objs.size < h3.objs.size
        omega
      · rcases List.mem_cons.mp z with z | z
        · rw [z]
          have e9 : s1.heap.objs.size ≤ h3.objs.size := by omega
          exact Nat.lt_of_lt_of_le hylt e9
        · cases z
    · intro z
      rcases List.mem_cons.mp z with z | z
      · exact Nat.ne_of_lt hcl z
      · cases z
    · intro href hhref
      refine ⟨fun A' E' i v s₂ m₂ hA _ _ hPv hn hm hk => ?_, fun A' E' i v s₂ m₂ hA hdp hun hPv hp hn hm hk => ?_⟩
      · simp only [List.forIn_nil]
        exact wpAny_pure ⟨rfl, GxR.keeps_refl _⟩
      · obtain ⟨b, hb, rfl⟩ := hat i v hPv
        refine wpAny_mono (hel _ A' E' b s₂ m₂ (List.mem_of_getElem? hb) rfl rfl hA hdp hun (fun c u hc e => ?_) hn hm) (fun y s3 r => ?_) fun _ _ e => e
        · have e3 := keep3 c u hc e
          exact hk c (List.mem_range.mpr (Heap.lt_size e3)) (fun z => by
            have hl := Heap.lt_size e
            rcases List.mem_cons.mp z with z | z
            · rw [z] at hl
              exact Nat.lt_irrefl _ hl
            · cases z) u (hhref c u e3)
        · obtain ⟨e, kp⟩ := r
          exact ⟨⟨b, hb, e⟩, kp⟩
    · intro g h5 tk5 gs hgb hag hsz5 hk5 W5 hgat
      simp only [GxR.passing_true, List.length_range] at W5
      have hn5 : its.toArray.size = bs.length := by rw [List.size_toArray, hlen]
      rw [hn5] at W5 hgat
      refine hQ bs pb H1 g _ q1 ⟨_, _, _, _, _, W5.in4_1, hgat, ?_, fun s' hm => ?_⟩
      · intro j y sj Qj Ej hy hQj
        obtain ⟨i, hij, b, hb, rfl⟩ := hy
        obtain ⟨hj, ej⟩ := List.getElem?_eq_some_iff.mp hij
        rw [List.getElem_range] at ej
        subst ej
        have hQ2 : Qj (trB pb bs j) sj := hQj
        rw [trB_some hb] at hQ2
        exact wpAny_truthy_bool hQ2
      · have nwr : ∀ b u, s1.heap.get? b = some u → b ∉ h3.objs.size :: [s1.heap.objs.size] := fun b u e hb => by
          have hl := Heap.lt_size e
          rcases List.mem_cons.mp hb with z | z
          · rw [z] at hl
            have h9 : (h3.objs.size : Nat) < s1.heap.objs.size := hl
            omega
          · rcases List.mem_cons.mp z with z | z
            · rw [z] at hl
              exact Nat.lt_irrefl _ hl
            · cases z
        refine hfin s' hm.os (AllBare.movedS (I1.bare.push hgb) hm) (fun b u hb e => hm.heap b u (nwr b u e) (hk5 b u (keep3 b u hb e))) (fun b u h1 h2 e => hm.heap b u (fun z => ?_) (hk5 b u e)) (hm.heap P _ (nwr P _ hPs) (hk5 P _ hP3))
        rcases List.mem_cons.mp z with z | z
        · rw [z] at h2
          exact Nat.lt_irrefl _ h2
        · rcases List.mem_cons.mp z with z | z
          · rw [z] at h1
            exact Nat.lt_irrefl _ h1
          · cases z
  refine ⟨lim2, ?_⟩
  cases hf : codeAmong gpos ps.toList with
  | none =>
    refine wpAny_genexprCodeX hcode (cd.code hP2 ht) (cd.tab hP2) hf fun c' h' tk hx hge hlt hco' hrec htab' _ => ?_
    obtain ⟨o1, vs, f1, tf, fl, tg, inF, tx, tt, op, _, _, _, _, _, _, _, _, _, htr, _⟩ := hco'
    have hge' : s1.heap.objs.size < c' := Nat.lt_of_lt_of_le (by rw [Heap.size_push]; exact Nat.lt_succ_self _) hge
    refine cont _ h' tk _ hx (Nat.le_trans hge (Nat.le_of_lt hlt)) htab'.2 fun s' hos hbr k1 k2 kP => ?_
    obtain ⟨c2, oc, vs2, t2, e2, hoc, hdc, hvc⟩ := hrec
    cases e2
    have nC : H1 c' = none := I1.hok.fresh (Nat.le_of_lt hge')
    have J := LamX.inv_table (q := X.env.qual ++ "<genexpr>") (more := #[rawInt gpos.line, rawInt gpos.col, .ref c']) (h' := s'.heap) (t' := s'.toks) (inv_gens (g' := s'.gens) (d' := s'.drawn) (t' := s'.toks) I1 hbr) hP k1 kP (Nat.le_of_lt hge') ⟨oc, vs2, t2, k2 _ _ hge' hlt hoc, hdc, hvc⟩
    have es : ({ s1 with heap := s'.heap, gens := s'.gens, drawn := s'.drawn, toks := s'.toks } : Shared) = s' := GxR.sh_eta s1 s' hos
    have J' : Inv X pins σ (upd (upd H1 P (.tbl (ps ++ #[rawInt gpos.line, rawInt gpos.col, .ref c']))) c' (LamX.CodeO c' (X.env.qual ++ "<genexpr>"))) s' := by rw [← es]; exact J
    have hE : LamX.ExtN H1 (upd (upd H1 P (.tbl (ps ++ #[rawInt gpos.line, rawInt gpos.col, .ref c']))) c' (LamX.CodeO c' (X.env.qual ++ "<genexpr>"))) := fun b o e n => by
      rw [upd_ne (ne_of_none e nC), upd_ne (fun z => n ps (Option.some.inj (e.symm.trans (by rw [z]; exact hP))))]
      exact e
    have eL : (ps ++ #[rawInt gpos.line, rawInt gpos.col, .ref c']).toList = ps.toList ++ [rawInt gpos.line, rawInt gpos.col, .ref c'] := by simp
    refine ⟨_, hE, fun p hp => ?_, J'⟩
    by_cases hb : p.1 = P
    · rw [huT p hp hb, hb]
      refine ⟨_, by rw [upd_ne (ne_of_none hP nC), upd_same], by rw [eL]; exact PySem.TriplesOk_snoc _ _ _ _ ht, fun p' cv hcv => ?_⟩
      rw [eL] at hcv
      rcases LamX.among_app _ ht hcv with z | z
      · obtain ⟨c0, e1, e2⟩ := ha p' cv z
        exact ⟨c0, e1, hE _ _ e2 LamX.codeO_ne⟩
      · exact ⟨c', z, upd_same⟩
    · obtain ⟨ps', a1, a2, a3⟩ := hT p hp
      refine ⟨ps', by rw [upd_ne (ne_of_none a1 nC), upd_ne hb]; exact a1, a2, fun p' cv hcv => ?_⟩
      obtain ⟨c0, e1, e2⟩ := a3 p' cv hcv
      exact ⟨c0, e1, hE _ _ e2 LamX.codeO_ne⟩
  | some cv =>
    refine wpAny_genexprCode_hit hcode (cd.code hP2 ht) hf ?_
    refine cont cv (s1.heap.push o) s1.toks ps (Heap.ExtBut.refl _ _) (Nat.le_refl _) hP2 fun s' hos hbr k1 k2 kP => ?_
    have es : ({ s1 with heap := s'.heap, gens := s'.gens, drawn := s'.drawn, toks := s'.toks } : Shared) = s' := GxR.sh_eta s1 s' hos
    have J := (inv_gens (g' := s'.gens) (d' := s'.drawn) (t' := s'.toks) I1 hbr).kept (h' := s'.heap) (t' := s'.toks) (fun b u e => by
      by_cases hb : b = P
      · rw [hb] at e ⊢
        rw [show s1.heap.get? P = some u from e] at hPs
        cases hPs
        exact kP
      · exact k1 b u hb e)
    exact ⟨H1, LamX.ExtN.refl H1, hT, by rw [← es]; exact J⟩
/-- what stands but the table -/
theorem hok_tab {P : Addr} {ps : Array Value} {s2 : Heap} (I : Inv X pins σ H s) (hP : H P = some (.tbl ps)) (k : ∀ c o, c ≠ P → s.heap.get? c = some o → s2.get? c = some o) : HOk X.prog X.w (delH H P) s2 := by
  intro b u e
  by_cases hb : b = P
  · rw [hb, delH_same] at e
    cases e
  rw [delH_ne hb] at e
  have nP : ∀ b u, H b = some u → (∀ q, u ≠ .tbl q) → b ≠ P := fun b u e q z => by
    rw [z, hP] at e
    exact q ps (Option.some.inj e).symm
  refine (I.hok b u e).stay (fun d v hd q => k d v ?_ q) (fun d q => by rw [delH_ne (nP d _ q (fun q z => by cases z))]; exact q) fun d xs q => by rw [delH_ne (nP d _ q (fun q z => by cases z))]; exact q
  rcases hd with z | z
  · rw [z]
    exact hb
  · exact nP d _ z (fun q z => by cases z)
theorem delH_ext {P : Addr} {ps : Array Value} (hP : H P = some (.tbl ps)) {b : Addr} {o : HO} (h : H b = some o) (n : ∀ q, o ≠ .tbl q) : delH H P b = some o := by
  rw [delH_ne]
  · exact h
  · intro z
    rw [z, hP] at h
    exact n ps (Option.some.inj h).symm
theorem RelAt.map {H H' : Hp} {CR x hd tb : Addr} {L : List Int} (h : RelAt H CR x hd tb L) (e : ∀ b o, H b = some o → (∀ q, o ≠ .tbl q) → H' b = some o) : RelAt H' CR x hd tb L := by
  obtain ⟨dx, h1, h2, h3, h4⟩ := h
  exact ⟨dx, e _ _ h1 (fun _ z => by cases z), e _ _ h2 (fun _ z => by cases z), e _ _ h3 (fun _ z => by cases z), h4⟩
theorem StoreAt.map {H H' : Hp} {CS CR x dr : Addr} {es : List SE} (h : StoreAt H CS CR x dr es) (e : ∀ b o, H b = some o → (∀ q, o ≠ .tbl q) → H' b = some o) : StoreAt H' CS CR x dr es :=
  ⟨let ⟨dx, q⟩ := h.ins; ⟨dx, e _ _ q (fun _ z => by cases z)⟩, e _ _ h.dict (fun _ z => by cases z), fun en hn => (h.rels en hn).map e, h.names, h.cells⟩
abbrev hasE (p1 p2 p3 p4 p5 : Pos) : Expr := .Call (.Attribute (.Name "store" p1) "has" p2) [.Name "name" p3, .Name "row" p4] [] p5
/-- the call's plain form -/
def HasT (p1 p2 p3 p4 p5 : Pos) : Prop := ∀ cenv : Env, ∃ pl : Sem Bool, eval (hasE p1 p2 p3 p4 p5) cenv = (do
  let ov ← eval (.Name "store" p1) cenv
  standAt p2.atName
  let (f, first) ← holding [ov] (getMethod ov "has" pl)
  callWith p5 f first (backTo p5 (starEach [.Name "name" p3, .Name "row" p4] cenv)) (backToKw p5 (keywordEach [] cenv)))
/-- store.has(name, row) -/
theorem elt_has {CS CR f fR P : Addr} {fd fdR : FuncData} {ps : Array Value} {scope : Scope} {st dr : Addr} {es : List SE} {nm : Str} {bs : List (Addr × Int)} {iS iN : Nat} {p1 p2 p3 p4 p5 : Pos} (hT : HasT p1 p2 p3 p4 p5) (hr : Room 3 X.A)
    (F : Fun X.K "has" "Store.has" sSHas f fd) (bF : L2.Binds X.K fd ["self", "name", "row"] []) (FR : Fun X.K "has" "Relation.has" sRHas fR fdR) (bR : L2.Binds X.K fdR ["self", "row"] []) (cS : Cls X.K CS) (cR : Cls X.K CR) (nS : NoAttr X.K CS "relations") (nR : NoAttr X.K CR "held")
    (mS : Meth X.K CS "has" f) (mR : Meth X.K CR "has" fR) (I : Inv X pins σ H s) (hP : H P = some (.tbl ps)) (hst : StoreAt H CS CR st dr es) (hbs : ∀ b ∈ bs, RowAt H b.1 b.2)
    (NS : X.N[iS]? = some ("store" : Str)) (NN : X.N[iN]? = some ("name" : Str)) (vS : X.env.scope.names.lookup ("store" : Str) = some .cell) (vN : X.env.scope.names.lookup ("name" : Str) = some .cell) (eS : σ[iS]? = some (some (.ref st))) (eN : σ[iN]? = some (some (.str nm)))
    (hk : scope.kind = .function) (lS : scope.names.lookup ("store" : Str) = some .free) (lN : scope.names.lookup ("name" : Str) = some .free) (lR : scope.names.lookup ("row" : Str) = some .local) :
    EltH X P s scope "row" (hasE p1 p2 p3 p4 p5) bs (fun b => decide (b.2 ∈ rowsE es nm)) := by
  intro cenv A' E' b s2 m2 hb hsc hce hh hdp hun kp hns hm
  obtain ⟨m, hn, hl⟩ := I.loc
  -- the cells
  have cell : ∀ {y : Str} {i : Nat} {v : V}, X.N[i]? = some y → X.env.scope.names.lookup y = some .cell → scope.names.lookup y = some .free → σ[i]? = some (some v) → ∃ u c, L2.RelV v u ∧ cenv.cells.lookup y = some c ∧ s2.heap.IsCell c (some u) := by
    intro y i v hN hv hf hs'
    obtain ⟨u, r, l⟩ := hl i y v hN hs' (.inr (.inl hv))
    rcases l with ⟨q, _⟩ | ⟨_, c, hc, o, ho, hd⟩
    · have q : X.env.scope.names.lookup y = some .local := q
      rw [hv] at q
      cases q
    · have hy : (y, NameKind.free) ∈ scope.names := PySem.mem_of_lookup hf
      obtain ⟨c2, h2⟩ := mem_lookup (cloFrom_has (cells := X.env.cells) (acc := []) hy)
      rcases cloFrom_mem (PySem.mem_of_lookup h2) with hm' | ⟨h1, h3⟩
      · cases hm'
      · rw [hc] at h3
        have e2 : c2 = c := h3
        subst e2
        have nc : H c2 = none := I.freeC y c2 hc
        exact ⟨u, c2, r, by rw [hce]; exact h2, o, kp c2 o (fun z => by rw [z, hP] at nc; cases nc) ho, hd⟩
  obtain ⟨u1, c1, r1, k1, z1⟩ := cell NS vS lS eS
  obtain ⟨u2, c2, r2, k2, z2⟩ := cell NN vN lN eN
  obtain rfl : u1 = Value.ref st := r1
  obtain ⟨t, rfl⟩ := (show ∃ t, u2 = Value.str nm t from r2)
  have kk : cenv.scope.kind = .function := by rw [hsc]; exact hk
  have kS : cenv.kindOf "store" = some .free := by show cenv.scope.names.lookup ("store" : Str) = _; rw [hsc]; exact lS
  have kN : cenv.kindOf "name" = some .free := by show cenv.scope.names.lookup ("name" : Str) = _; rw [hsc]; exact lN
  have kR : cenv.kindOf "row" = some .local := by show cenv.scope.names.lookup ("row" : Str) = _; rw [hsc]; exact lR
  have ok2 := hok_tab I hP kp
  have nb : ∀ b o, X.base.get? b = some o → b ≠ P := fun b o e z => by
    have := (I.bs b o e).2
    rw [z, hP] at this
    cases this
  have M2 : L2.Mod X.K X.mg s2.heap := mod_keeps I.mod fun b o e => kp b o (nb b o e) (I.bk b o e)
  have st2 : StoreAt (delH H P) CS CR st dr es := hst.map fun b o e n => delH_ext hP e n
  have row2 : RowAt (delH H P) b.1 b.2 := delH_ext hP (hbs b hb) (fun _ z => by cases z)
  obtain ⟨dx, hi⟩ := st2.ins
  have hr2 : Room 2 A' := ⟨hh, by have := hr.dp; omega, by have := hr.un; omega⟩
  obtain ⟨pl, hpl⟩ := hT cenv
  refine PySem.W.methodCall_KW ?_ hpl
  refine wpAny_Name (wpAny_loadName_free kk kS k1 z1 ?_ (by decide)) (by decide)
  obtain ⟨mA, O, rO, _, _, _⟩ := ins_get (h := s2.heap) ok2 hi
  refine get_meth M2.kin O (cS.get "has") mS.at_ mS.fn (RelO.none_of (o := mA "has") (rO "has")) ?_
  refine PySem.W.callWith_K (first := [.ref st]) (h₀ := s2.heap) M2.kin mS.kp ?_ (by rfl) (by rfl)
  refine q_args (wpAny_Name (wpAny_loadName_free kk kN k2 z2 ?_ (by decide)) (by decide))
  refine q_args (wpAny_Name (wpAny_loadName_local kk kR hns hm (q_args0 ⟨M2.kin, ?_⟩)) (by decide))
  refine wpAny_call (codeAny_mono (q_shas F bF FR bR cS cR nS nR mR hr2 M2 ok2 st2 row2) fun q s' hq => ?_)
  obtain ⟨v, rfl, rfl, kp4⟩ := hq
  exact ⟨rfl, kp4⟩
theorem elt_not {P : Addr} {scope : Scope} {x : Str} {elt : Expr} {bs : List (Addr × Int)} {pb : Addr × Int → Bool} {pos : Pos} (h : EltH X P s scope x elt bs pb) : EltH X P s scope x (.UnaryOp .Not elt pos) bs (fun b => !pb b) := by
  intro cenv A' E' b s2 m2 hb hsc hce hh hdp hun kp hns hm
  refine UnaryOp_ (wpAny_mono (h cenv A' E' b s2 m2 hb hsc hce hh hdp hun kp hns hm) (fun v s1 hq => ?_) fun _ _ e => e)
  obtain ⟨rfl, kp⟩ := hq
  exact not_of (wpAny_truthy_bool ⟨rfl, kp⟩)
/-- any([not] store.has(name, row) for row in e) -/
def tAnyH (K : PySem.W.Frag) (T : List (Addr × Str)) (CS CR : Addr) (iS iN : Nat) (neg : Bool) (te : TE) : TE := fun σ H Q => te σ H fun v H1 => ∃ (yl st dr : Addr) (bs : List (Addr × Int)) (es : List SE) (nm : Str), v = .ref yl ∧ SqL K H1 yl (bs.map fun b => V.ref b.1) ∧ (∀ b ∈ bs, RowAt H1 b.1 b.2) ∧
  σ[iS]? = some (some (.ref st)) ∧ σ[iN]? = some (some (.str nm)) ∧ StoreAt H1 CS CR st dr es ∧ LamX.Tabs T H1 ∧ ∀ H2, LamX.ExtN H1 H2 → LamX.Tabs T H2 → Q (.bl (bs.any fun b => if neg then !decide (b.2 ∈ rowsE es nm) else decide (b.2 ∈ rowsE es nm))) H2
theorem pe_anyH {T : List (Addr × Str)} {CS CR f fR c P : Addr} {fd fdR : FuncData} {elt iter : Expr} {px p pos gpos : Pos} {scope : Scope} {te : TE} {iS iN : Nat} {neg : Bool} (hr : Room 3 X.A)
    (F : Fun X.K "has" "Store.has" sSHas f fd) (bF : L2.Binds X.K fd ["self", "name", "row"] []) (FR : Fun X.K "has" "Relation.has" sRHas fR fdR) (bR : L2.Binds X.K fdR ["self", "row"] []) (cS : Cls X.K CS) (cR : Cls X.K CR) (nS : NoAttr X.K CS "relations") (nR : NoAttr X.K CR "held")
    (mS : Meth X.K CS "has" f) (mR : Meth X.K CR "has" fR) (NS : X.N[iS]? = some ("store" : Str)) (NN : X.N[iN]? = some ("name" : Str)) (vS : X.env.scope.names.lookup ("store" : Str) = some .cell) (vN : X.env.scope.names.lookup ("name" : Str) = some .cell)
    (lS : scope.names.lookup ("store" : Str) = some .free) (lN : scope.names.lookup ("name" : Str) = some .free) (lR : scope.names.lookup ("row" : Str) = some .local)
    (helt : (neg = false ∧ ∃ p1 p2 p3 p4 p5, HasT p1 p2 p3 p4 p5 ∧ elt = hasE p1 p2 p3 p4 p5) ∨ (neg = true ∧ ∃ p1 p2 p3 p4 p5 p6, HasT p1 p2 p3 p4 p5 ∧ elt = .UnaryOp .Not (hasE p1 p2 p3 p4 p5) p6))
    (hg : Gl X "any") (hm : X.mg "any" = none) (TB : LamX.TabB X.base X.mg c P) (hcode : X.env.code = .ref c) (hmT : (P, X.env.qual ++ "<genexpr>") ∈ T) (huT : ∀ p ∈ T, p.1 = P → p.2 = X.env.qual ++ "<genexpr>") (S : GxR.GenS X.env scope "row") (hi : PE X iter te)
    (hs : ∀ v, genFold iter X.env v = pure v)
    (he : starEach [.GeneratorExp elt [⟨.Name "row" px, iter, [], 0⟩] scope gpos] X.env = (false, eval (.GeneratorExp elt [⟨.Name "row" px, iter, [], 0⟩] scope gpos) X.env) :: starEach [] X.env := by rfl) :
    PE X (.Call (.Name "any" p) [.GeneratorExp elt [⟨.Name "row" px, iter, [], 0⟩] scope gpos] [] pos) (tAnyH X.K T CS CR iS iN neg te) := by
  refine ⟨fun pins s σ H Q I h => ?_⟩
  refine wpAny_Call_Name_kw (ld_blt I hg hm PyProof.Rows.boot_any ?_)
  refine PyProof.Rows.callWith_builtin1 ?_ he (by rfl)
  rw [he]
  show wpAny _ _ (spliced ((false, eval (.GeneratorExp elt [⟨.Name "row" px, iter, [], 0⟩] scope gpos) X.env) :: backTo pos (starEach [] X.env))) _ _ s
  refine Calls.spliced_cons (gen_b (R := fun bs pb H1 => ∃ (st dr : Addr) (es : List SE) (nm : Str), (∀ b ∈ bs, RowAt H1 b.1 b.2) ∧ σ[iS]? = some (some (.ref st)) ∧ σ[iN]? = some (some (.str nm)) ∧ StoreAt H1 CS CR st dr es ∧ pb = (fun b => if neg then !decide (b.2 ∈ rowsE es nm) else decide (b.2 ∈ rowsE es nm)) ∧ ∀ H2, LamX.ExtN H1 H2 → LamX.Tabs T H2 → Q (.bl (bs.any pb)) H2) hr TB hcode hmT huT S hi ?_ hs I h ?_ fun bs pb H1 g s5 hR hG => ?_)
  · rintro s1 H1 bs pb I1 hT1 ⟨st, dr, es, nm, h1, h2, h3, h4, rfl, _⟩
    obtain ⟨ps, hP, _⟩ := hT1 _ hmT
    rcases helt with ⟨rfl, p1, p2, p3, p4, p5, hT, rfl⟩ | ⟨rfl, p1, p2, p3, p4, p5, p6, hT, rfl⟩
    · have e := elt_has hT hr F bF FR bR cS cR nS nR mS mR I1 hP h4 h1 NS NN vS vN h2 h3 S.kind lS lN lR
      simpa using e
    · have e := elt_not (pos := p6) (elt_has hT hr F bF FR bR cS cR nS nR mS mR I1 hP h4 h1 NS NN vS vN h2 h3 S.kind lS lN lR)
      simpa using e
  · rintro v H1 ⟨yl, st, dr, bs, es, nm, e1, e2, e3, e4, e5, e6, e7, e8⟩
    exact ⟨yl, bs, _, e1, e2, e7, st, dr, es, nm, e3, e4, e5, e6, rfl, e8⟩
  · obtain ⟨st, dr, es, nm, h1, h2, h3, h4, rfl, hR⟩ := hR
    obtain ⟨fp, wr, G, F', St, W, hst, htr, hI⟩ := hG
    refine Calls.spliced_nil ?_
    refine call_any_walkS (W.self 0 _ _ _ hst ⟨g, fp, wr, G, _, F', St, _, rfl, W, hst, htr, fun s' hmv => ?_⟩)
    obtain ⟨H2, hE2, hT2, J⟩ := hI s' hmv
    refine ⟨.bl _, H2, J, rfl, ?_⟩
    rw [any_trB]
    exact hR H2 hE2 hT2
end
end DH
namespace DH
open PySem PySem.Spec L2
open PyProof.Rows hiding St
section
variable {P : Program} {w : World} {K : PySem.W.Frag} {mg : Str → Option Value} {base : Heap}
/-- as Fun.ok, the code object known -/
theorem okC {x qual : Str} {st : Stmt} {f : Addr} {fd : FuncData} {N ps : List Str} {k : Nat} {sp : Sp} (F : Fun K x qual st f fd) (S : FnScope N ps (defScope st)) (len : ∀ vs H Q E, sp vs H Q E → vs.length = ps.length)
    (hbody : ∀ (A : Around) (outer : List Env) (s : Shared) (H : Hp) (vs : List V) (Q : VK) (E : XK), Room k (A.deeper (envOfC qual (defScope st) s.heap.objs.size f fd.code)) → sp vs H Q E →
      ∃ t, PSs (cxOf CX0 P w K mg base N qual (defScope st) f fd.code A outer s H E).nox (defBody st) t ∧ t { nx := fun _ H' => Q .non H', rt := Q } (start N vs) H) : FnOk P w K mg base CX0 (k + 1) f fd ps sp := by
  obtain ⟨oc, od, kV, doc, pm, an, cdv, ct, osl, rfl, lk, hcd⟩ := F.ex
  refine fn_of lk hcd S len fun A outer s H vs Q E hr hsp => ?_
  obtain ⟨t, h, q⟩ := hbody A outer s H vs Q E hr hsp
  exact ⟨t, h.nox, q⟩
theorem okXC {x qual : Str} {st : Stmt} {f : Addr} {fd : FuncData} {N ps : List Str} {k : Nat} {sp : Sp} (F : Fun K x qual st f fd) (S : FnScope N ps (defScope st)) (len : ∀ vs H Q E, sp vs H Q E → vs.length = ps.length)
    (hbody : ∀ (A : Around) (outer : List Env) (s : Shared) (H : Hp) (vs : List V) (Q : VK) (E : XK), Room k (A.deeper (envOfC qual (defScope st) s.heap.objs.size f fd.code)) → sp vs H Q E →
      ∃ t, PSs (cxOf (L2.CX P w) P w K mg base N qual (defScope st) f fd.code A outer s H E) (defBody st) t ∧ t { nx := fun _ H' => Q .non H', rt := Q } (start N vs) H) : FnOk P w K mg base (L2.CX P w) (k + 1) f fd ps sp := by
  obtain ⟨oc, od, kV, doc, pm, an, cdv, ct, osl, rfl, lk, hcd⟩ := F.ex
  exact fn_of lk hcd S len fun A outer s H vs Q E hr hsp => hbody A outer s H vs Q E hr hsp
end
def NT (o : HO) : Prop := ∀ q, o ≠ .tbl q
theorem NT.dT {k : List (List L2.Key × V)} : NT (.dT k) := fun _ z => by cases z
theorem NT.dK {k : List (L2.Key × V)} : NT (.dK k) := fun _ z => by cases z
theorem NT.ins {C dx : Addr} {fs : List (Str × V)} : NT (.ins C dx fs) := fun _ z => by cases z
theorem NT.tup {xs : List V} : NT (.tup xs) := fun _ z => by cases z
theorem NT.lst {xs : List V} : NT (.lst xs) := fun _ z => by cases z
theorem NT.own {x : Addr} : NT (.own x) := fun _ z => by cases z
theorem NT.frz {o : Obj} {u : HO} : NT (.frz o u) := fun _ z => by cases z
/-- nothing stands at b, or a table -/
def Nw (H : Hp) (b : Addr) : Prop := ∀ o, H b = some o → ¬ NT o
theorem Nw.of {H : Hp} {b : Addr} (h : H b = none) : Nw H b := fun o e => by
  rw [h] at e
  cases e
theorem Nw.ne {H : Hp} {a b : Addr} {o : HO} (n : Nw H b) (h : H a = some o) (no : NT o) : a ≠ b := fun z => n o (by rw [← z]; exact h) no
structure Kp (T : List (Addr × Str)) (F : List Addr) (H H' : Hp) : Prop where
  keep : ∀ b o, H b = some o → NT o → b ∉ F → H' b = some o
  there : ∀ b o, H b = some o → NT o → ∃ o', H' b = some o' ∧ NT o'
  tabs : LamX.Tabs T H → LamX.Tabs T H'
section
variable {T : List (Addr × Str)} {F G : List Addr} {H H1 H2 : Hp}
theorem Kp.refl (T : List (Addr × Str)) (F : List Addr) (H : Hp) : Kp T F H H := ⟨fun _ _ h _ _ => h, fun _ o h n => ⟨o, h, n⟩, fun t => t⟩
theorem Kp.nw (k : Kp T F H H1) {b : Addr} (h : Nw H1 b) : Nw H b := fun o e n => by
  obtain ⟨o', q, n'⟩ := k.there b o e n
  exact h o' q n'
theorem Kp.fresh (k : Kp T F H H1) {b : Addr} (h : H1 b = none) : Nw H b := k.nw (.of h)
theorem Kp.trans (k : Kp T F H H1) (k' : Kp T G H1 H2) (hG : ∀ b ∈ G, b ∈ F ∨ Nw H b) : Kp T F H H2 := by
  refine ⟨fun b o h n hb => k'.keep b o (k.keep b o h n hb) n fun z => ?_, fun b o h n => ?_, fun t => k'.tabs (k.tabs t)⟩
  · rcases hG b z with q | q
    · exact hb q
    · exact q o h n
  · obtain ⟨o1, h1, n1⟩ := k.there b o h n
    exact k'.there b o1 h1 n1
theorem Kp.trans0 (k : Kp T F H H1) (k' : Kp T [] H1 H2) : Kp T F H H2 := k.trans k' fun _ z => nomatch z
theorem Kp.transS (k : Kp T F H H1) (k' : Kp T F H1 H2) : Kp T F H H2 := k.trans k' fun _ z => .inl z
theorem Kp.mono (k : Kp T F H H1) (h : ∀ b ∈ F, b ∈ G ∨ Nw H b) : Kp T G H H1 := ⟨fun b o e n hb => k.keep b o e n fun z => (h b z).elim hb fun q => q o e n, k.there, k.tabs⟩
theorem Kp.new {p : Addr} {o : HO} (h : H p = none) : Kp T F H (upd H p o) := by
  have e : ∀ b u, H b = some u → upd H p o b = some u := fun b u q => by rw [upd_ne (ne_of_none q h)]; exact q
  exact ⟨fun b u q _ _ => e b u q, fun b u q n => ⟨u, e b u q, n⟩, fun t => t.ext e⟩
theorem Kp.of_ext (e : LamX.ExtN H H1) (t : LamX.Tabs T H1) : Kp T F H H1 := ⟨fun b o h n _ => e b o h n, fun b o h n => ⟨o, e b o h n, n⟩, fun _ => t⟩
/-- neither a table nor a code object: what a def may write -/
def Wr (o : HO) : Prop := (∀ q, o ≠ .tbl q) ∧ ∀ c q, o ≠ LamX.CodeO c q
theorem Wr.dT {kvs : List (List L2.Key × V)} : Wr (.dT kvs) := ⟨(fun _ z => by cases z), (fun _ _ z => by unfold LamX.CodeO at z; cases z)⟩
theorem Wr.dK {kvs : List (L2.Key × V)} : Wr (.dK kvs) := ⟨(fun _ z => by cases z), (fun _ _ z => by unfold LamX.CodeO at z; cases z)⟩
theorem Wr.ins {C dx : Addr} {fs : List (Str × V)} : Wr (.ins C dx fs) := ⟨(fun _ z => by cases z), (fun _ _ z => by unfold LamX.CodeO at z; cases z)⟩
theorem Wr.lst {xs : List V} : Wr (.lst xs) := ⟨(fun _ z => by cases z), (fun _ _ z => by unfold LamX.CodeO at z; cases z)⟩
theorem Wr.own {x : Addr} : Wr (.own x) := ⟨(fun _ z => by cases z), (fun _ _ z => by unfold LamX.CodeO at z; cases z)⟩
theorem tabs_put {a : Addr} {o o' : HO} (h : H a = some o) (wr : Wr o) (t : LamX.Tabs T H) : LamX.Tabs T (upd H a o') := by
  intro p hp
  obtain ⟨ps, h1, h2, h3⟩ := t p hp
  refine ⟨ps, ?_, h2, fun pos cv hc => ?_⟩
  · rw [upd_ne]
    · exact h1
    · intro z
      rw [z, h] at h1
      exact wr.1 ps (Option.some.inj h1)
  · obtain ⟨c, e1, e2⟩ := h3 pos cv hc
    refine ⟨c, e1, ?_⟩
    rw [upd_ne]
    · exact e2
    · intro z
      rw [z, h] at e2
      exact wr.2 _ _ (Option.some.inj e2)
theorem Kp.put {a : Addr} {o o' : HO} (h : H a = some o) (wr : Wr o) (wr' : NT o') (ha : a ∈ F) : Kp T F H (upd H a o') := by
  refine ⟨fun b u q _ hb => ?_, fun b u q n => ?_, tabs_put h wr⟩
  · rw [upd_ne (fun z => hb (by rw [z]; exact ha))]
    exact q
  · by_cases z : b = a
    · exact ⟨o', by rw [z, upd_same], wr'⟩
    · exact ⟨u, by rw [upd_ne z]; exact q, n⟩
theorem Kp.row (k : Kp T F H H1) {r : Addr} {i : Int} (h : RowAt H r i) (n : r ∉ F) : RowAt H1 r i := k.keep _ _ h (fun _ z => by cases z) n
theorem Kp.tup (k : Kp T F H H1) {r : Addr} {xs : List V} (h : H r = some (.tup xs)) (n : r ∉ F) : H1 r = some (.tup xs) := k.keep _ _ h (fun _ z => by cases z) n
theorem Kp.lst (k : Kp T F H H1) {r : Addr} {xs : List V} (h : H r = some (.lst xs)) (n : r ∉ F) : H1 r = some (.lst xs) := k.keep _ _ h (fun _ z => by cases z) n
theorem Kp.dT (k : Kp T F H H1) {r : Addr} {xs : List (List L2.Key × V)} (h : H r = some (.dT xs)) (n : r ∉ F) : H1 r = some (.dT xs) := k.keep _ _ h (fun _ z => by cases z) n
theorem Kp.dK (k : Kp T F H H1) {r : Addr} {xs : List (L2.Key × V)} (h : H r = some (.dK xs)) (n : r ∉ F) : H1 r = some (.dK xs) := k.keep _ _ h (fun _ z => by cases z) n
theorem Kp.ins (k : Kp T F H H1) {r C dx : Addr} {fs : List (Str × V)} (h : H r = some (.ins C dx fs)) (n : r ∉ F) : H1 r = some (.ins C dx fs) := k.keep _ _ h (fun _ z => by cases z) n
end
abbrev qLam (q : Str) : Str := (q ++ ".<locals>.") ++ "<lambda>"
abbrev qGen (q : Str) : Str := (q ++ ".<locals>.") ++ "<genexpr>"
/-- os are rows (addresses and numbers) -/
def RowsAt (H : Hp) (os : List (Addr × Int)) : Prop := ∀ o ∈ os, RowAt H o.1 o.2
theorem RowsAt.kp {T : List (Addr × Str)} {F : List Addr} {H H1 : Hp} {os : List (Addr × Int)} (h : RowsAt H os) (k : Kp T F H H1) (n : ∀ o ∈ os, o.1 ∉ F) : RowsAt H1 os := fun o ho => k.row (h o ho) (n o ho)
abbrev rfs (os : List (Addr × Int)) : List V := os.map fun o => V.ref o.1
def spOrd (T : List (Addr × Str)) : Sp := fun vs H Q _ => ∃ x ks, vs = [x] ∧ LamX.Tabs T H ∧ rSK H x ks ∧ ∀ p os H', Kp T [] H H' → Nw H p → H' p = some (.tup (rfs os)) → RowsAt H' os → os.map (·.2) = srt ks → Q (.ref p) H'
theorem sc_ord : FnScope ["rows"] ["rows"] (defScope sInOrd) := ⟨rfl, rfl, rfl, by decide +kernel, rfl, by decide +kernel, by decide +kernel⟩
/-- what in_order and its callers rest on -/
structure OrdT (P : Program) (w : World) (K : PySem.W.Frag) (mg : Str → Option Value) (base : Heap) (T : List (Addr × Str)) (fd : FuncData) (fR c Pt : Addr) : Prop where
  fr : QFn P w K mg 3 fR RkPre RkPost
  mR : mg "row_key" = some (.ref fR)
  kR : PySem.W.keepIn K (.ref fR) = true
  zS : mg "sorted" = none
  zT : mg "tuple" = none
  tb : LamX.TabB base mg c Pt
  cd : fd.code = .ref c
  inT : (Pt, qLam "in_order") ∈ T
  uT : ∀ p ∈ T, p.1 = Pt → p.2 = qLam "in_order"
section
variable {P : Program} {w : World} {K : PySem.W.Frag} {mg : Str → Option Value} {base : Heap} {T : List (Addr × Str)}
theorem ok_ord {f fR c Pt : Addr} {fd : FuncData} (F : Fun K "in_order" "in_order" sInOrd f fd) (O : OrdT P w K mg base T fd fR c Pt) : FnOk P w K mg base CX0 7 f fd ["rows"] (spOrd T) := by
  refine okC F sc_ord (fun vs H Q E h => ?_) (fun A outer s H vs Q E hr h => ?_)
  · obtain ⟨x, ks, rfl, _⟩ := h
    rfl
  · obtain ⟨x, ks, rfl, hT, hx, k⟩ := h
    refine ⟨_, pss_one (ps_ret (pe_callTy call_tuple_of rfl O.zT (show bootBuiltins "tuple" = some (.type "tuple") by decide +kernel) (pa_cons (pe_sortKey (T := T) (pv 0) rfl hr O.fr O.mR O.kR rfl O.zS O.tb O.cd O.inT O.uT rfl (fun _ _ _ _ _ _ => rfl) rfl rfl rfl rfl rfl (by decide +kernel)) pa_nil))), ?_⟩
    refine ⟨_, rfl, hT, fun H2 e2 t2 => ⟨ks, hx.ext e2, fun p os hp hos hks => ⟨p, _, rfl, .inl ⟨.inl (.inl upd_same), fun l hl => ?_⟩⟩⟩⟩
    have k1 : Kp T [] H H2 := .of_ext e2 t2
    have k2 : Kp T [] H (upd H2 p (.lst (rfs os))) := k1.trans0 (.new hp)
    have k3 : Kp T [] H (upd (upd H2 p (.lst (rfs os))) l (.tup (rfs os))) := k2.trans0 (.new hl)
    have k4 : Kp T [] H2 (upd (upd H2 p (.lst (rfs os))) l (.tup (rfs os))) := (Kp.new hp).trans0 (.new hl)
    exact k l os _ k3 (k2.fresh hl) upd_same (RowsAt.kp hos k4 fun _ _ => List.not_mem_nil) hks
end
end DH
namespace DH
open PySem PySem.Spec L2
open PyProof.Rows hiding St
theorem kHT : ¬ (("held" : Str) = "tables") := by decide +kernel
theorem relF_eq (hd tb : Addr) : putF "tables" (.ref tb) (putF "held" (.ref hd) []) = relF hd tb := by
  show (if ("held" : Str) = "tables" then [(("held" : Str), V.ref tb)] else (("held" : Str), V.ref hd) :: putF "tables" (V.ref tb) []) = _
  rw [if_neg kHT]
  rfl
structure RelT (K : PySem.W.Frag) (mg : Str → Option Value) (CR : Addr) : Prop where
  cl : Cls K CR
  nH : NoAttr K CR "held"
  nT : NoAttr K CR "tables"
  mgR : mg "Relation" = some (.ref CR)
  zLen : mg "len" = none
theorem lkH (hd tb : Addr) : (relF hd tb).lookup ("held" : Str) = some (.ref hd) := rfl
theorem lkT (hd tb : Addr) : (relF hd tb).lookup ("tables" : Str) = some (.ref tb) := rfl
theorem mem_row (L : List Int) (k : Int) : (valV (rowD L) [Sum.inl k]).isSome = decide (k ∈ L) := isSome_rowD L k
theorem rowD_len (L : List Int) : (rowD L).length = L.length := by unfold rowD; rw [List.length_map]
theorem rowD_put {L : List Int} {k : Int} (h : k ∉ L) : putK (rowD L) [Sum.inl k] (V.int 1) = rowD (L ++ [k]) := by
  rw [putK_new]
  · unfold rowD; rw [List.map_append]; rfl
  · rw [valV_rowD, if_neg h]
theorem rowD_drop (L : List Int) (k : Int) : dropK (rowD L) [Sum.inl k] = rowD (L.filter fun j => decide (j ≠ k)) := by
  unfold rowD
  induction L with
  | nil => rfl
  | cons a L ih =>
    rw [List.map_cons]
    by_cases h : a = k
    · rw [dropK_pos (by rw [h]), ih]
      simp [h]
    · rw [dropK_neg (fun z => h (by injection z with z _; injection z)), ih]
      simp [h]
theorem RelAt.kp {T : List (Addr × Str)} {F : List Addr} {H H1 : Hp} {CR x hd tb : Addr} {L : List Int} (h : RelAt H CR x hd tb L) (k : Kp T F H H1) (n1 : x ∉ F) (n2 : hd ∉ F) (n3 : tb ∉ F) : RelAt H1 CR x hd tb L := by
  obtain ⟨dx, h1, h2, h3, h4⟩ := h
  exact ⟨dx, k.ins h1 n1, k.dT h2 n2, k.dK h3 n3, h4⟩
section
variable {P : Program} {w : World} {K : PySem.W.Frag} {mg : Str → Option Value} {base : Heap} {T : List (Addr × Str)}
def spRInit (K : PySem.W.Frag) (T : List (Addr × Str)) (CR : Addr) : Sp := fun vs H Q _ => ∃ (p dx d0 : Addr), vs = [.ref p, .ref d0] ∧ H p = some (.ins CR dx []) ∧ (∀ H, SqT K H d0 []) ∧
  ∀ (hd tb : Addr) (H' : Hp), Nw H hd → Nw H tb → RelAt H' CR p hd tb [] → Kp T [p] H H' → Q .non H'
theorem sc_rinit : FnScope ["self", "rows", "row"] ["self", "rows"] (defScope sRInit) := ⟨rfl, rfl, rfl, by decide +kernel, rfl, by decide +kernel, by decide +kernel⟩
theorem ok_rinit {f CR d0 : Addr} {fd : FuncData} (F : FunD K "__init__" "Relation.__init__" (defArgs sRInit) (defBody sRInit) (defScope sRInit) [.ref d0] [] f fd) (R : RelT K mg CR) : FnOk P w K mg base CX0 1 f fd ["self", "rows"] (spRInit K T CR) := by
  refine F.ok sc_rinit (fun vs H Q E h => ?_) (fun cdv A outer s H vs Q E hr h => ?_)
  · obtain ⟨p, dx, d0, rfl, _⟩ := h
    rfl
  · obtain ⟨p, dx, d0, rfl, hp, hd0, k⟩ := h
    refine ⟨_, (pss_cons (ps_fld (pv 0) pe_dnewT rfl) (pss_cons (ps_fld (pv 0) pe_dnewK rfl) (pss_one (ps_for PassesOwn.never rfl (pi_tup (pv 1)) (pg_name (i := 2) sc_rinit.nd rfl (Or.inl rfl)) pss_never)))).nox, ?_⟩
    intro hd nhd
    have n1 : p ≠ hd := ne_of_none hp nhd
    refine ⟨_, rfl, p, CR, dx, [], rfl, by rw [upd_ne n1]; exact hp, R.cl, R.nH, by show 0 < 1000; decide, ?_⟩
    intro tb ntb
    have k1 : Kp T [p] H (upd H hd (.dT [])) := .new nhd
    have k2 : Kp T [p] H (upd (upd H hd (.dT [])) p (.ins CR dx (putF "held" (.ref hd) []))) := k1.transS (.put (by rw [upd_ne n1]; exact hp) .ins (fun _ z => by cases z) (by simp))
    have k3 := k2.transS (.new (p := tb) (o := .dK []) ntb)
    have n2 : p ≠ tb := ne_of_none upd_same ntb
    have n3 : hd ≠ tb := ne_of_none (by rw [upd_ne n1.symm]; exact upd_same) ntb
    refine ⟨_, rfl, p, CR, dx, _, rfl, by rw [upd_ne n2]; exact upd_same, R.cl, R.nT, by show 1 < 1000; decide, ?_⟩
    have k4 := k3.transS (Kp.put (o' := .ins CR dx (putF "tables" (.ref tb) (putF "held" (.ref hd) []))) (by rw [upd_ne n2]; exact upd_same) .ins (fun _ z => by cases z) (by simp))
    refine ⟨_, rfl, d0, rfl, ⟨_, hd0 _⟩, for_tup (K := K) (a := d0) (xs := []) (fun i σ H2 => σ = [some (.ref p), some (.ref d0), none] ∧ H2 = (upd (upd (upd (upd H hd (.dT [])) p (.ins CR dx (putF "held" (.ref hd) []))) tb (.dK [])) p (.ins CR dx (putF "tables" (.ref tb) (putF "held" (.ref hd) []))))) ⟨rfl, rfl⟩ (fun i σ H2 _ _ => hd0 H2) (fun i x σ H2 hi _ => by simp at hi) ?_⟩
    rintro σ H2 ⟨rfl, rfl⟩
    refine k hd tb _ (.of nhd) (k2.fresh ntb) ⟨dx, by rw [upd_same, relF_eq], ?_, ?_, List.nodup_nil⟩ k4
    · rw [upd_ne n1.symm, upd_ne n3, upd_ne n1.symm, upd_same]
      rfl
    · rw [upd_ne n2.symm, upd_same]
def spRHas (CR : Addr) : Sp := fun vs H Q _ => ∃ (x r hd tb : Addr) (L : List Int) (i : Int), vs = [.ref x, .ref r] ∧ RelAt H CR x hd tb L ∧ RowAt H r i ∧ Q (.bl (decide (i ∈ L))) H
theorem ok_rhas {f CR : Addr} {fd : FuncData} (F : Fun K "has" "Relation.has" sRHas f fd) (R : RelT K mg CR) : FnOk P w K mg base CX0 1 f fd ["self", "row"] (spRHas CR) := by
  refine F.ok sc_rhas (fun vs H Q E h => ?_) (fun cdv A outer s H vs Q E hr h => ?_)
  · obtain ⟨x, r, hd, tb, L, i, rfl, _⟩ := h
    rfl
  · obtain ⟨x, r, hd, tb, L, i, rfl, ⟨dx, h1, h2, h3, h4⟩, hrow, k⟩ := h
    have hu := hu_of hr
    refine ⟨_, pss_one (ps_ret (pe_cmp (pc_din hu (pv 1) (pe_fld (pv 0) rfl)))), ?_⟩
    refine ⟨_, rfl, _, rfl, x, CR, dx, _, _, rfl, h1, R.cl, R.nH, lkH _ _, hd, _, rfl, DGet.t (k := [Sum.inl i]) h2 hrow, ?_⟩
    rw [mem_row]
    exact k
def spRSize (CR : Addr) : Sp := fun vs H Q _ => ∃ (x hd tb : Addr) (L : List Int), vs = [.ref x] ∧ RelAt H CR x hd tb L ∧ Q (.int ((L.length : Nat) : Int)) H
theorem sc_rsize : FnScope ["self"] ["self"] (defScope sRSize) := ⟨rfl, rfl, rfl, by decide +kernel, rfl, by decide +kernel, by decide +kernel⟩
theorem ok_rsize {f CR : Addr} {fd : FuncData} (F : Fun K "size" "Relation.size" sRSize f fd) (R : RelT K mg CR) : FnOk P w K mg base CX0 1 f fd ["self"] (spRSize CR) := by
  refine F.ok sc_rsize (fun vs H Q E h => ?_) (fun cdv A outer s H vs Q E hr h => ?_)
  · obtain ⟨x, hd, tb, L, rfl, _⟩ := h
    rfl
  · obtain ⟨x, hd, tb, L, rfl, ⟨dx, h1, h2, h3, h4⟩, k⟩ := h
    refine ⟨_, pss_one (ps_ret (pe_callB call_len_dT (by rfl) R.zLen PySem.boot_len (pa_cons (pe_fld (pv 0) rfl) pa_nil))), ?_⟩
    refine ⟨_, rfl, x, CR, dx, _, _, rfl, h1, R.cl, R.nH, lkH _ _, hd, _, rfl, h2, ?_⟩
    rw [rowD_len]
    exact k
theorem upd_kp {T : List (Addr × Str)} {H : Hp} {hd : Addr} {a b : List (List L2.Key × V)} (h : H hd = some (.dT a)) : Kp T [hd] H (upd H hd (.dT b)) := .put h .dT (fun _ z => by cases z) (by simp)
def spRAdd (T : List (Addr × Str)) (CR : Addr) : Sp := fun vs H Q _ => ∃ (x r hd tb : Addr) (L : List Int) (i : Int), vs = [.ref x, .ref r] ∧ RelAt H CR x hd tb L ∧ RowAt H r i ∧ L.length < 1000 ∧
  ∀ (b : Bool) (H' : Hp), Kp T [hd] H H' → RelAt H' CR x hd tb (if i ∈ L then L else L ++ [i]) → Q (.bl b) H'
theorem sc_radd : FnScope ["self", "row", "places", "key"] ["self", "row"] (defScope sRAdd) := ⟨rfl, rfl, rfl, by decide +kernel, rfl, by decide +kernel, by decide +kernel⟩
theorem ok_radd {f CR : Addr} {fd : FuncData} (F : Fun K "add" "Relation.add" sRAdd f fd) (R : RelT K mg CR) : FnOk P w K mg base CX0 1 f fd ["self", "row"] (spRAdd T CR) := by
  refine F.ok sc_radd (fun vs H Q E h => ?_) (fun cdv A outer s H vs Q E hr h => ?_)
  · obtain ⟨x, r, hd, tb, L, i, rfl, _⟩ := h
    rfl
  · obtain ⟨x, r, hd, tb, L, i, rfl, hR, hrow, hl, k⟩ := h
    obtain ⟨dx, h1, h2, h3, h4⟩ := id hR
    have hu := hu_of hr
    refine ⟨_, pss_cons (ps_if (pt_cmp (pc_din hu (pv 1) (pe_fld (pv 0) rfl))) (pss_one (ps_ret pe_bl)) pss_nil)
      (pss_cons (ps_dput hu (pe_fld (pv 0) rfl) (pv 1) pe_int rfl)
      (pss_cons (ps_lock (ps_for PassesOwn.never rfl (pi_keys (pe_fld (pv 0) rfl)) (pg_name (i := 2) sc_radd.nd rfl (Or.inl rfl)) pss_never))
      (pss_one (ps_ret pe_bl)))), ?_⟩
    refine ⟨_, rfl, _, rfl, x, CR, dx, _, _, rfl, h1, R.cl, R.nH, lkH _ _, hd, _, rfl, DGet.t (k := [Sum.inl i]) h2 hrow, _, rfl, ?_⟩
    rw [mem_row]
    by_cases hi : i ∈ L
    · rw [decide_eq_true hi]
      refine iteT ?_
      rw [if_pos hi] at k
      exact k false H (.refl _ _ _) hR
    · rw [decide_eq_false hi]
      refine iteF ?_
      rw [if_neg hi] at k
      have n1 : x ≠ hd := ne_of h1 h2 (fun z => by cases z)
      have n2 : tb ≠ hd := ne_of h3 h2 (fun z => by cases z)
      have n3 : x ≠ tb := ne_of h1 h3 (fun z => by cases z)
      refine ⟨_, rfl, x, CR, dx, _, _, rfl, h1, R.cl, R.nH, lkH _ _, _, rfl, hd, _, rfl, DPut.t (k := [Sum.inl i]) h2 hrow (by rw [rowD_len]; exact small1000 (by omega)), ?_⟩
      have k1 : Kp T [hd] H (upd H hd (.dT (putK (rowD L) [Sum.inl i] (V.int 1)))) := upd_kp h2
      have g3 : upd H hd (.dT (putK (rowD L) [Sum.inl i] (V.int 1))) tb = some (.dK []) := by rw [upd_ne n2]; exact h3
      have g1 : upd H hd (.dT (putK (rowD L) [Sum.inl i] (V.int 1))) x = some (.ins CR dx (relF hd tb)) := by rw [upd_ne n1]; exact h1
      refine ⟨tb, _, g3, trivial, fun od => ⟨_, rfl, x, CR, dx, _, _, rfl, by rw [upd_ne n3]; exact g1, R.cl, R.nT, lkT _ _, tb, od, rfl, .inl ⟨[], upd_same, for_it (walk_keys (d := tb) (o := od) (kvs := [])) (fun j σ H2 => σ = [some (.ref x), some (.ref r), none, none] ∧ H2 = upd (upd H hd (.dT (putK (rowD L) [Sum.inl i] (V.int 1)))) tb (.frz od (.dK []))) ⟨rfl, rfl⟩ (fun _ _ _ _ ⟨_, e⟩ => by rw [e]; exact upd_same) (fun j _ _ _ _ hj => absurd hj (Nat.not_lt_zero _)) ?_⟩⟩⟩
      rintro σ H2 ⟨rfl, rfl⟩
      refine ⟨upd_same, ?_⟩
      rw [upd_upd, upd_self g3]
      refine k true _ k1 ⟨dx, g1, ?_, g3, ?_⟩
      · rw [upd_same, rowD_put hi]
      · rw [List.nodup_append]
        exact ⟨h4, by simp, fun a ha b hb => by
          rw [List.mem_singleton.mp hb]
          exact fun z => hi (z ▸ ha)⟩
def spRDrop (T : List (Addr × Str)) (CR : Addr) : Sp := fun vs H Q _ => ∃ (x r hd tb : Addr) (L : List Int) (i : Int), vs = [.ref x, .ref r] ∧ RelAt H CR x hd tb L ∧ RowAt H r i ∧
  ∀ (b : Bool) (H' : Hp), Kp T [hd] H H' → RelAt H' CR x hd tb (L.filter fun j => decide (j ≠ i)) → Q (.bl b) H'
theorem sc_rdrop : FnScope ["self", "row", "places", "key"] ["self", "row"] (defScope sRDrop) := ⟨rfl, rfl, rfl, by decide +kernel, rfl, by decide +kernel, by decide +kernel⟩
theorem ok_rdrop {f CR : Addr} {fd : FuncData} (F : Fun K "drop" "Relation.drop" sRDrop f fd) (R : RelT K mg CR) : FnOk P w K mg base CX0 1 f fd ["self", "row"] (spRDrop T CR) := by
  refine F.ok sc_rdrop (fun vs H Q E h => ?_) (fun cdv A outer s H vs Q E hr h => ?_)
  · obtain ⟨x, r, hd, tb, L, i, rfl, _⟩ := h
    rfl
  · obtain ⟨x, r, hd, tb, L, i, rfl, hR, hrow, k⟩ := h
    obtain ⟨dx, h1, h2, h3, h4⟩ := id hR
    have hu := hu_of hr
    refine ⟨_, pss_cons (ps_if (pt_cmp (pc_dnotin hu (pv 1) (pe_fld (pv 0) rfl))) (pss_one (ps_ret pe_bl)) pss_nil)
      (pss_cons (ps_ddelT hu (pe_fld (pv 0) rfl) (pv 1))
      (pss_cons (ps_lock (ps_for PassesOwn.never rfl (pi_keys (pe_fld (pv 0) rfl)) (pg_name (i := 2) sc_rdrop.nd rfl (Or.inl rfl)) pss_never))
      (pss_one (ps_ret pe_bl)))), ?_⟩
    refine ⟨_, rfl, _, rfl, x, CR, dx, _, _, rfl, h1, R.cl, R.nH, lkH _ _, hd, _, rfl, DGet.t (k := [Sum.inl i]) h2 hrow, _, rfl, ?_⟩
    rw [mem_row]
    by_cases hi : i ∈ L
    · rw [decide_eq_true hi]
      refine iteF ?_
      have n1 : x ≠ hd := ne_of h1 h2 (fun z => by cases z)
      have n2 : tb ≠ hd := ne_of h3 h2 (fun z => by cases z)
      have n3 : x ≠ tb := ne_of h1 h3 (fun z => by cases z)
      refine ⟨_, rfl, x, CR, dx, _, _, rfl, h1, R.cl, R.nH, lkH _ _, _, rfl, hd, _, [Sum.inl i], r, rfl, h2, rfl, hrow, by rw [mem_row]; exact decide_eq_true hi, ?_⟩
      have k1 : Kp T [hd] H (upd H hd (.dT (dropK (rowD L) [Sum.inl i]))) := upd_kp h2
      have g3 : upd H hd (.dT (dropK (rowD L) [Sum.inl i])) tb = some (.dK []) := by rw [upd_ne n2]; exact h3
      have g1 : upd H hd (.dT (dropK (rowD L) [Sum.inl i])) x = some (.ins CR dx (relF hd tb)) := by rw [upd_ne n1]; exact h1
      refine ⟨tb, _, g3, trivial, fun od => ⟨_, rfl, x, CR, dx, _, _, rfl, by rw [upd_ne n3]; exact g1, R.cl, R.nT, lkT _ _, tb, od, rfl, .inl ⟨[], upd_same, for_it (walk_keys (d := tb) (o := od) (kvs := [])) (fun j σ H2 => σ = [some (.ref x), some (.ref r), none, none] ∧ H2 = upd (upd H hd (.dT (dropK (rowD L) [Sum.inl i]))) tb (.frz od (.dK []))) ⟨rfl, rfl⟩ (fun _ _ _ _ ⟨_, e⟩ => by rw [e]; exact upd_same) (fun j _ _ _ _ hj => absurd hj (Nat.not_lt_zero _)) ?_⟩⟩⟩
      rintro σ H2 ⟨rfl, rfl⟩
      refine ⟨upd_same, ?_⟩
      rw [upd_upd, upd_self g3]
      refine k true _ k1 ⟨dx, g1, ?_, g3, h4.sublist List.filter_sublist⟩
      rw [upd_same, rowD_drop]
    · rw [decide_eq_false hi]
      refine iteT ?_
      refine k false H (.refl _ _ _) ?_
      have e : (L.filter fun j => decide (j ≠ i)) = L := by
        rw [List.filter_eq_self]
        intro a ha
        exact decide_eq_true fun z => hi (z ▸ ha)
      rw [e]
      exact hR
def spRRows (T : List (Addr × Str)) (CR : Addr) : Sp := fun vs H Q _ => ∃ (x hd tb : Addr) (L : List Int), vs = [.ref x] ∧ LamX.Tabs T H ∧ RelAt H CR x hd tb L ∧
  ∀ p os H', Kp T [] H H' → Nw H p → H' p = some (.tup (rfs os)) → RowsAt H' os → os.map (·.2) = srt L → Q (.ref p) H'
theorem sc_rrows : FnScope ["self"] ["self"] (defScope sRRows) := ⟨rfl, rfl, rfl, by decide +kernel, rfl, by decide +kernel, by decide +kernel⟩
theorem ok_rrows {f CR fO : Addr} {fd fdO : FuncData} (F : Fun K "rows" "Relation.rows" sRRows f fd) (R : RelT K mg CR) (GO : FnOk P w K mg base CX0 7 fO fdO ["rows"] (spOrd T)) (mO : mg "in_order" = some (.ref fO)) (kO : PySem.W.keepIn K (.ref fO) = true) (bO : L2.Binds K fdO ["rows"] []) :
    FnOk P w K mg base CX0 8 f fd ["self"] (spRRows T CR) := by
  refine F.ok sc_rrows (fun vs H Q E h => ?_) (fun cdv A outer s H vs Q E hr h => ?_)
  · obtain ⟨x, hd, tb, L, rfl, _⟩ := h
    rfl
  · obtain ⟨x, hd, tb, L, rfl, hT, ⟨dx, h1, h2, h3, h4⟩, k⟩ := h
    refine ⟨_, pss_one (ps_ret (pe_call GO hr rfl mO kO bO .nil pass0 (pa_cons (pe_fld (pv 0) rfl) pa_nil))), ?_⟩
    refine ⟨_, rfl, x, CR, dx, _, _, rfl, h1, R.cl, R.nH, lkH _ _, _, L, rfl, hT, ⟨hd, rfl, .inr ⟨_, h2, ?_⟩⟩, k⟩
    unfold rowD
    rw [List.map_map]
    rfl
end
end DH
namespace DH
open PySem PySem.Spec L2
open PyProof.Rows hiding St
/-- a dict -/
def Dct (H : Hp) (b : Addr) : Prop := (∃ kvs, H b = some (.dT kvs)) ∨ ∃ kvs, H b = some (.dK kvs)
theorem Dct.nt {H : Hp} {b : Addr} (h : Dct H b) {o : HO} (e : H b = some o) : NT o := by
  rcases h with ⟨kvs, q⟩ | ⟨kvs, q⟩
  all_goals
    rw [q] at e
    cases e
    intro _ z
    cases z
/-- neither an instance, a tuple nor a list stands where a dict does -/
def NDct (o : HO) : Prop := (∀ kvs, o ≠ .dT kvs) ∧ ∀ kvs, o ≠ .dK kvs
theorem Dct.ne {H : Hp} {F : List Addr} (hF : ∀ b ∈ F, Dct H b) {a : Addr} {o : HO} (h : H a = some o) (n : NDct o) : a ∉ F := fun z => by
  rcases hF a z with ⟨kvs, q⟩ | ⟨kvs, q⟩
  · rw [h] at q
    exact n.1 kvs (Option.some.inj q)
  · rw [h] at q
    exact n.2 kvs (Option.some.inj q)
theorem NDct.ins {C dx : Addr} {fs : List (Str × V)} : NDct (.ins C dx fs) := ⟨(fun _ z => by cases z), (fun _ z => by cases z)⟩
theorem NDct.tup {xs : List V} : NDct (.tup xs) := ⟨(fun _ z => by cases z), (fun _ z => by cases z)⟩
theorem NDct.lst {xs : List V} : NDct (.lst xs) := ⟨(fun _ z => by cases z), (fun _ z => by cases z)⟩
/-- what may change: no instance, tuple, locked thing stands there -/
def Mu (H : Hp) (b : Addr) : Prop := ∀ o, H b = some o → (∀ C dx fs, o ≠ .ins C dx fs) ∧ (∀ xs, o ≠ .tup xs) ∧ ∀ q u, o ≠ .frz q u
theorem Mu.dct {H : Hp} {b : Addr} (h : Dct H b) : Mu H b := fun o e => by
  rcases h with ⟨kvs, q⟩ | ⟨kvs, q⟩
  all_goals
    rw [q] at e
    cases e
    exact ⟨(fun _ _ _ z => by cases z), (fun _ z => by cases z), (fun _ _ z => by cases z)⟩
theorem Mu.lst {H : Hp} {b : Addr} {xs : List V} (h : H b = some (.lst xs)) : Mu H b := fun o e => by
  rw [h] at e
  cases e
  exact ⟨(fun _ _ _ z => by cases z), (fun _ z => by cases z), (fun _ _ z => by cases z)⟩
theorem Mu.none {H : Hp} {b : Addr} (h : H b = none) : Mu H b := fun o e => by
  rw [h] at e
  cases e
theorem Mu.nw {H : Hp} {b : Addr} (h : Nw H b) : Mu H b := fun o e => by
  have q := h o e
  refine ⟨fun C dx fs z => q (by rw [z]; exact .ins), fun xs z => q (by rw [z]; exact .tup), fun x u z => q (by rw [z]; exact .frz)⟩
theorem Mu.ni {H : Hp} {F : List Addr} (hF : ∀ b ∈ F, Mu H b) {a C dx : Addr} {fs : List (Str × V)} (h : H a = some (.ins C dx fs)) : a ∉ F := fun z => (hF a z _ h).1 _ _ _ rfl
theorem Mu.nt {H : Hp} {F : List Addr} (hF : ∀ b ∈ F, Mu H b) {a : Addr} {xs : List V} (h : H a = some (.tup xs)) : a ∉ F := fun z => (hF a z _ h).2.1 _ rfl
theorem Mu.nf {H : Hp} {F : List Addr} (hF : ∀ b ∈ F, Mu H b) {a : Addr} {o : Obj} {u : HO} (h : H a = some (.frz o u)) : a ∉ F := fun z => (hF a z _ h).2.2 _ _ rfl
/-- the dicts that a store owns -/
def stC (dr : Addr) (es : List SE) : List Addr := dr :: (es.map (·.hd) ++ es.map (·.tb))
theorem mem_stC {dr b : Addr} {es : List SE} : b ∈ stC dr es ↔ b = dr ∨ (∃ e ∈ es, e.hd = b) ∨ ∃ e ∈ es, e.tb = b := by
  unfold stC
  simp only [List.mem_cons, List.mem_append, List.mem_map]
section
variable {T : List (Addr × Str)} {F : List Addr} {H H1 : Hp} {CS CR s dr : Addr} {es : List SE} {n : Str} {e : SE}
theorem StoreAt.dct (h : StoreAt H CS CR s dr es) : ∀ b ∈ stC dr es, Dct H b := by
  intro b hb
  rcases mem_stC.mp hb with rfl | ⟨e, he, rfl⟩ | ⟨e, he, rfl⟩
  · exact .inr ⟨_, h.dict⟩
  · obtain ⟨dx, h1, h2, h3, h4⟩ := h.rels e he
    exact .inl ⟨_, h2⟩
  · obtain ⟨dx, h1, h2, h3, h4⟩ := h.rels e he
    exact .inr ⟨_, h3⟩
theorem StoreAt.kp (h : StoreAt H CS CR s dr es) (k : Kp T F H H1) (hF : ∀ b ∈ F, Mu H b) (n : ∀ b ∈ stC dr es, b ∉ F) : StoreAt H1 CS CR s dr es := by
  refine ⟨?_, k.dK h.dict (n _ (mem_stC.mpr (.inl rfl))), fun e he => ?_, h.names, h.cells⟩
  · obtain ⟨dx, hi⟩ := h.ins
    exact ⟨dx, k.ins hi (Mu.ni hF hi)⟩
  · obtain ⟨dx, h1, h2, h3, h4⟩ := id (h.rels e he)
    exact (h.rels e he).kp k (Mu.ni hF h1) (n _ (mem_stC.mpr (.inr (.inl ⟨e, he, rfl⟩)))) (n _ (mem_stC.mpr (.inr (.inr ⟨e, he, rfl⟩))))
theorem nd_inj {α β : Type} {f : α → β} {l : List α} (nd : (l.map f).Nodup) {a b : α} (ha : a ∈ l) (hb : b ∈ l) (e : f a = f b) : a = b := by
  induction l with
  | nil => cases ha
  | cons x r ih =>
    rw [List.map_cons, List.nodup_cons] at nd
    rcases List.mem_cons.mp ha with ea | ha'
    · rcases List.mem_cons.mp hb with eb | hb'
      · rw [ea, eb]
      · exact absurd (List.mem_map_of_mem (f := f) hb') (by rw [← e, ea]; exact nd.1)
    · rcases List.mem_cons.mp hb with eb | hb'
      · exact absurd (List.mem_map_of_mem (f := f) ha') (by rw [e, eb]; exact nd.1)
      · exact ih nd.2 ha' hb'
def setE (es : List SE) (n : Str) (L : List Int) : List SE := es.map fun e => if e.nm = n then { e with rows := L } else e
theorem findE_of {es : List SE} (nd : (es.map (·.nm)).Nodup) {e : SE} (he : e ∈ es) : findE es e.nm = some e := by
  cases q : findE es e.nm with
  | none =>
    unfold findE at q
    rw [List.find?_eq_none] at q
    exact absurd (decide_eq_true rfl) (q e he)
  | some e' =>
    obtain ⟨h1, h2⟩ := findE_some q
    rw [nd_inj nd h1 he h2]
theorem find_setE (es : List SE) (n m : Str) (L : List Int) : findE (setE es n L) m = (findE es m).map fun e => if e.nm = n then { e with rows := L } else e := by
  unfold findE setE
  rw [List.find?_map]
  congr 1
  congr 1
  funext e
  simp only [Function.comp]
  split <;> rfl
theorem rowsE_set (he : findE es n = some e) (L : List Int) (m : Str) : rowsE (setE es n L) m = if m = n then L else rowsE es m := by
  unfold rowsE
  rw [find_setE]
  by_cases h : m = n
  · subst h
    rw [he, if_pos rfl]
    obtain ⟨_, h2⟩ := findE_some he
    simp [h2]
  · rw [if_neg h]
    cases q : findE es m with
    | none => rfl
    | some e' =>
      obtain ⟨_, h2⟩ := findE_some q
      have : ¬ e'.nm = n := by rw [h2]; exact h
      simp [this]
theorem stC_set (L : List Int) : stC dr (setE es n L) = stC dr es := by
  unfold stC setE
  rw [List.map_map, List.map_map]
  have e1 : ((fun e : SE => e.hd) ∘ fun e : SE => if e.nm = n then { e with rows := L } else e) = (·.hd) := by
    funext e
    simp only [Function.comp]
    split <;> rfl
  have e2 : ((fun e : SE => e.tb) ∘ fun e : SE => if e.nm = n then { e with rows := L } else e) = (·.tb) := by
    funext e
    simp only [Function.comp]
    split <;> rfl
  rw [e1, e2]
theorem nm_set (L : List Int) : (setE es n L).map (·.nm) = es.map (·.nm) := by
  unfold setE
  rw [List.map_map]
  congr 1
  funext e
  simp only [Function.comp]
  split <;> rfl
theorem StoreAt.set {L : List Int} (h : StoreAt H CS CR s dr es) (he : findE es n = some e) (k : Kp T [e.hd] H H1) (hr : RelAt H1 CR e.rl e.hd e.tb L) : StoreAt H1 CS CR s dr (setE es n L) := by
  obtain ⟨hm, hn⟩ := findE_some he
  obtain ⟨dx, g1, g2, g3, g4⟩ := h.rels e hm
  have hF : ∀ b ∈ [e.hd], Dct H b := fun b hb => by
    rw [List.mem_singleton.mp hb]
    exact .inl ⟨_, g2⟩
  refine ⟨?_, ?_, fun e' he' => ?_, by rw [nm_set]; exact h.names, ?_⟩
  · obtain ⟨dx, hi⟩ := h.ins
    exact ⟨dx, k.ins hi (Dct.ne hF hi .ins)⟩
  · have : stD (setE es n L) = stD es := by
      unfold stD setE
      rw [List.map_map]
      congr 1
      funext e
      simp only [Function.comp]
      split <;> rfl
    rw [this]
    refine k.dK h.dict fun z => ?_
    have q := h.dict
    rw [List.mem_singleton.mp z, g2] at q
    cases q
  · obtain ⟨e0, h0, rfl⟩ := List.mem_map.mp he'
    by_cases q : e0.nm = n
    · have : e0 = e := nd_inj h.names h0 hm (by rw [q, hn])
      subst this
      simpa [q] using hr
    · simp only [q, if_false]
      obtain ⟨dx0, f1, f2, f3, f4⟩ := id (h.rels e0 h0)
      refine (h.rels e0 h0).kp k (Dct.ne hF f1 .ins) (fun z => ?_) fun z => ?_
      · have : e0 = e := nd_inj h.cells h0 hm (List.mem_singleton.mp z)
        exact q (by rw [this, hn])
      · rw [List.mem_singleton.mp z, g2] at f3
        cases f3
  · have : (setE es n L).map (·.hd) = es.map (·.hd) := by
      unfold setE
      rw [List.map_map]
      congr 1
      funext e
      simp only [Function.comp]
      split <;> rfl
    rw [this]
    exact h.cells
theorem findE_none {es : List SE} {n : Str} (h : findE es n = none) : ∀ e ∈ es, e.nm ≠ n := by
  intro e he q
  unfold findE at h
  rw [List.find?_eq_none] at h
  exact h e he (decide_eq_true q)
theorem findE_app (h : findE es n = none) (m : Str) (e : SE) (hn : e.nm = n) : findE (es ++ [e]) m = if m = n then some e else findE es m := by
  unfold findE
  rw [List.find?_append]
  by_cases q : m = n
  · subst q
    unfold findE at h
    rw [h, if_pos rfl]
    simp [hn]
  · rw [if_neg q]
    have : ¬ e.nm = m := fun z => q (by rw [← z, hn])
    simp [this]
theorem StoreAt.grow {x hd tb : Addr} (h : StoreAt H CS CR s dr es) (hn : findE es n = none) (k : Kp T [dr] H H1) (hd1 : H1 dr = some (.dK (putK (stD es) (Sum.inr n) (V.ref x)))) (hr : RelAt H1 CR x hd tb []) (nh : Nw H hd) : StoreAt H1 CS CR s dr (es ++ [⟨n, x, hd, tb, []⟩]) := by
  have hF : ∀ b ∈ [dr], Dct H b := fun b hb => by
    rw [List.mem_singleton.mp hb]
    exact .inr ⟨_, h.dict⟩
  refine ⟨?_, ?_, fun e' he' => ?_, ?_, ?_⟩
  · obtain ⟨dx, hi⟩ := h.ins
    exact ⟨dx, k.ins hi (Dct.ne hF hi .ins)⟩
  · rw [hd1, putK_new _ (by rw [valV_stD, hn]; rfl)]
    unfold stD
    rw [List.map_append]
    rfl
  · rcases List.mem_append.mp he' with h0 | h0
    · obtain ⟨dx0, f1, f2, f3, f4⟩ := id (h.rels e' h0)
      refine (h.rels e' h0).kp k (Dct.ne hF f1 .ins) (fun z => ?_) fun z => ?_
      · rw [List.mem_singleton.mp z, h.dict] at f2
        cases f2
      · rw [List.mem_singleton.mp z, h.dict] at f3
        have f3' : HO.dK (stD es) = HO.dK [] := Option.some.inj f3
        injection f3' with f4
        unfold stD at f4
        rw [List.map_eq_nil_iff] at f4
        rw [f4] at h0
        cases h0
    · rw [List.mem_singleton.mp h0]
      exact hr
  · rw [List.map_append, List.nodup_append]
    refine ⟨h.names, by simp, fun a ha b hb => ?_⟩
    have hb' : b = n := by simpa using hb
    obtain ⟨e0, h0, rfl⟩ := List.mem_map.mp ha
    rw [hb']
    exact findE_none hn e0 h0
  · rw [List.map_append, List.nodup_append]
    refine ⟨h.cells, by simp, fun a ha b hb => ?_⟩
    have hb' : b = hd := by simpa using hb
    obtain ⟨e0, h0, rfl⟩ := List.mem_map.mp ha
    rw [hb']
    obtain ⟨dx0, f1, f2, f3, f4⟩ := h.rels e0 h0
    exact nh.ne f2 (fun _ z => by cases z)
end
structure StoT (K : PySem.W.Frag) (mg : Str → Option Value) (CS : Addr) : Prop where
  cl : Cls K CS
  nR : NoAttr K CS "relations"
  mgS : mg "Store" = some (.ref CS)
theorem stF_eq (dr : Addr) : putF "relations" (.ref dr) [] = stF dr := rfl
theorem lkR (dr : Addr) : (stF dr).lookup ("relations" : Str) = some (.ref dr) := rfl
section
variable {P : Program} {w : World} {K : PySem.W.Frag} {mg : Str → Option Value} {base : Heap} {T : List (Addr × Str)}
def spSInit (T : List (Addr × Str)) (CS CR : Addr) : Sp := fun vs H Q _ => ∃ (p dx : Addr), vs = [.ref p] ∧ H p = some (.ins CS dx []) ∧ ∀ (dr : Addr) (H' : Hp), Nw H dr → StoreAt H' CS CR p dr [] → Kp T [p] H H' → Q .non H'
theorem sc_sinit : FnScope ["self"] ["self"] (defScope sSInit) := ⟨rfl, rfl, rfl, by decide +kernel, rfl, by decide +kernel, by decide +kernel⟩
theorem ok_sinit {f CS CR : Addr} {fd : FuncData} (F : Fun K "__init__" "Store.__init__" sSInit f fd) (S : StoT K mg CS) : FnOk P w K mg base CX0 1 f fd ["self"] (spSInit T CS CR) := by
  refine F.ok sc_sinit (fun vs H Q E h => ?_) (fun cdv A outer s H vs Q E hr h => ?_)
  · obtain ⟨p, dx, rfl, _⟩ := h
    rfl
  · obtain ⟨p, dx, rfl, hp, k⟩ := h
    refine ⟨_, pss_one (ps_fld (pv 0) pe_dnewK rfl), ?_⟩
    intro dr nd
    have n1 : p ≠ dr := ne_of_none hp nd
    refine ⟨_, rfl, p, CS, dx, [], rfl, by rw [upd_ne n1]; exact hp, S.cl, S.nR, by show 0 < 1000; decide, ?_⟩
    have k1 : Kp T [p] H (upd H dr (.dK [])) := .new nd
    refine k dr _ (.of nd) ⟨⟨dx, by rw [upd_same, stF_eq]⟩, by rw [upd_ne n1.symm, upd_same]; rfl, (fun e he => by cases he), List.nodup_nil, List.nodup_nil⟩ (k1.transS (.put (by rw [upd_ne n1]; exact hp) .ins (fun _ z => by cases z) (by simp)))
/-- self.of(name): the relation is there, or a new empty one has come -/
def spSOf (T : List (Addr × Str)) (CS CR : Addr) : Sp := fun vs H Q _ => ∃ (s dr : Addr) (es : List SE) (n : Str), vs = [.ref s, .str n] ∧ StoreAt H CS CR s dr es ∧ es.length < 1000 ∧
  ∀ (e : SE) (es' : List SE) (H' : Hp), Kp T [dr] H H' → StoreAt H' CS CR s dr es' → findE es' n = some e → (∀ m, rowsE es' m = rowsE es m) → (es' = es ∨ es' = es ++ [e] ∧ e.nm = n ∧ Nw H e.hd ∧ Nw H e.tb) → Q (.ref e.rl) H'
theorem sc_sof : FnScope ["self", "name"] ["self", "name"] (defScope sSOf) := ⟨rfl, rfl, rfl, by decide +kernel, rfl, by decide +kernel, by decide +kernel⟩
theorem ok_sof {f CS CR fI d0 : Addr} {fd fdI : FuncData} (F : Fun K "of" "Store.of" sSOf f fd) (S : StoT K mg CS) (R : RelT K mg CR) (M : Mk K CR fI) (GI : FnOk P w K mg base CX0 1 fI fdI ["self", "rows"] (spRInit K T CR)) (bI : L2.Binds K fdI ["self", "rows"] [.ref d0]) (hd0 : ∀ H, SqT K H d0 []) :
    FnOk P w K mg base CX0 3 f fd ["self", "name"] (spSOf T CS CR) := by
  refine F.ok sc_sof (fun vs H Q E h => ?_) (fun cdv A outer s H vs Q E hr h => ?_)
  · obtain ⟨x, dr, es, n, rfl, _⟩ := h
    rfl
  · obtain ⟨x, dr, es, n, rfl, hS, hl, k⟩ := h
    have hu := hu_of hr
    obtain ⟨dx, hi⟩ := hS.ins
    refine ⟨_, pss_cons (ps_if (pt_cmp (pc_dnotin hu (pv 1) (pe_fld (pv 0) rfl)))
        (pss_one (ps_dput hu (pe_fld (pv 0) rfl) (pv 1) (pe_make0 (dvs := [.ref d0]) M GI (hr.mono (by decide)) rfl R.mgR bI (.cons rfl .nil) pass0) rfl)) pss_nil)
      (pss_one (ps_ret (pe_dget hu (pe_fld (pv 0) rfl) (pv 1) (fun _ _ => rfl)))), ?_⟩
    refine ⟨_, rfl, _, rfl, x, CS, dx, _, _, rfl, hi, S.cl, S.nR, lkR _, dr, _, rfl, DGet.k (k := Sum.inr n) hS.dict, _, rfl, ?_⟩
    rw [valV_stD]
    cases hf : findE es n with
    | some e =>
      refine iteF ?_
      refine ⟨_, rfl, x, CS, dx, _, _, rfl, hi, S.cl, S.nR, lkR _, _, rfl, dr, V.ref e.rl, rfl, ?_, k e es H (.refl _ _ _) hS hf (fun _ => rfl) (.inl rfl)⟩
      have := DGet.k (k := Sum.inr n) hS.dict
      rw [valV_stD, hf] at this
      exact this
    | none =>
      refine iteT ?_
      intro p dp np ndp hne
      have k00 : Kp T [] H (upd (upd H dp (.own p)) p (.ins CR dp [])) := (Kp.new ndp).transS (.new (by rw [upd_ne hne.symm]; exact np))
      have k0 : Kp T [dr] H (upd (upd H dp (.own p)) p (.ins CR dp [])) := k00.mono fun _ z => by cases z
      refine ⟨p, dp, d0, rfl, upd_same, hd0, fun hd tb H1 nh nt hrel k1 => ⟨rfl, ?_⟩⟩
      have k1' : Kp T [dr] H H1 := k0.trans k1 fun b hb => .inr (by rw [List.mem_singleton.mp hb]; exact .of np)
      have k2 : Kp T [] H H1 := k00.trans k1 fun b hb => .inr (by rw [List.mem_singleton.mp hb]; exact .of np)
      have gi := k2.ins hi List.not_mem_nil
      have gd := k2.dK hS.dict List.not_mem_nil
      refine ⟨_, rfl, x, CS, dx, _, _, rfl, gi, S.cl, S.nR, lkR _, _, rfl, dr, _, rfl, DPut.k (k := Sum.inr n) gd (by unfold stD; rw [List.length_map]; exact small1000 (by omega)), ?_⟩
      have nxd : x ≠ dr := ne_of hi hS.dict (fun z => by cases z)
      have k3 : Kp T [dr] H (upd H1 dr (.dK (putK (stD es) (Sum.inr n) (V.ref p)))) := k1'.transS (.put gd .dK (fun _ z => by cases z) (by simp))
      obtain ⟨dx1, g1, g2, g3, g4⟩ := hrel
      have npd : p ≠ dr := ne_of g1 gd (fun z => by cases z)
      have nhd : hd ≠ dr := ne_of g2 gd (fun z => by cases z)
      have ntd : tb ≠ dr := (nt.ne (k00.dK hS.dict List.not_mem_nil) .dK).symm
      have hrel' : RelAt (upd H1 dr (.dK (putK (stD es) (Sum.inr n) (V.ref p)))) CR p hd tb [] := ⟨dx1, by rw [upd_ne npd]; exact g1, by rw [upd_ne nhd]; exact g2, by rw [upd_ne ntd]; exact g3, g4⟩
      have hS' := hS.grow hf k3 upd_same hrel' (k0.nw nh)
      have ef : findE (es ++ [⟨n, p, hd, tb, []⟩]) n = some ⟨n, p, hd, tb, []⟩ := by rw [findE_app hf n _ rfl, if_pos rfl]
      refine ⟨_, rfl, x, CS, dx, _, _, rfl, by rw [upd_ne nxd]; exact gi, S.cl, S.nR, lkR _, _, rfl, dr, V.ref p, rfl, ?_, k ⟨n, p, hd, tb, []⟩ _ _ k3 hS' ef (fun m => ?_) (.inr ⟨rfl, rfl, k0.nw nh, k0.nw nt⟩)⟩
      · have := DGet.k (k := Sum.inr n) hS'.dict
        rw [valV_stD, ef] at this
        exact this
      · unfold rowsE
        rw [findE_app hf m _ rfl]
        by_cases q : m = n
        · rw [if_pos q, q, hf]; rfl
        · rw [if_neg q]
end
end DH
namespace DH
open PySem PySem.Spec L2
open PyProof.Rows hiding St
abbrev pS : Str := "p"
abbrev qS : Str := "q"
theorem pq_ne : ¬ pS = qS := by decide +kernel
def nmOk (n : Str) : Prop := n = pS ∨ n = qS
def rwOk (k : Int) : Prop := k = 0 ∨ k = 1 ∨ k = 2
abbrev Cont := Str → Int → Bool
def Dom (S : Cont) : Prop := ∀ n k, S n k = true → nmOk n ∧ rwOk k
def rowsS (S : Cont) (n : Str) : List Int := [0, 1, 2].filter (S n)
def namesS (S : Cont) : List Str := [pS, qS].filter fun n => decide (rowsS S n ≠ [])
theorem mem_rowsS {S : Cont} (d : Dom S) {n : Str} {k : Int} : k ∈ rowsS S n ↔ S n k = true := by
  unfold rowsS
  rw [List.mem_filter]
  refine ⟨fun h => h.2, fun h => ⟨?_, h⟩⟩
  rcases (d n k h).2 with rfl | rfl | rfl <;> simp
theorem rowsS_nd (S : Cont) (n : Str) : (rowsS S n).Nodup := List.Nodup.sublist List.filter_sublist (by decide)
theorem rowsS_le (S : Cont) (n : Str) : (rowsS S n).length ≤ 3 := List.length_filter_le _ _
theorem srt_perm (L : List Int) : (srt L).Perm L := List.mergeSort_perm _ _
theorem srt_pw (L : List Int) : (srt L).Pairwise (· ≤ ·) := by
  have h := List.pairwise_mergeSort (le := fun a b : Int => decide (a ≤ b)) (fun a b c h1 h2 => by
    have h1' := of_decide_eq_true h1
    have h2' := of_decide_eq_true h2
    exact decide_eq_true (Int.le_trans h1' h2')) (fun a b => by
    rcases Int.le_total a b with h | h
    · simp [h]
    · simp [h]) L
  exact h.imp fun h => of_decide_eq_true h
/-- a nodup list of the rows, sorted -/
theorem srt_eq {L : List Int} {S : Cont} {n : Str} (nd : L.Nodup) (d : Dom S) (h : ∀ k, k ∈ L ↔ S n k = true) : srt L = rowsS S n := by
  refine List.Perm.eq_of_pairwise (le := (· ≤ ·)) (fun a b _ _ h1 h2 => Int.le_antisymm h1 h2) (srt_pw L) ?_ ?_
  · exact List.Pairwise.sublist List.filter_sublist (by decide)
  · refine (srt_perm L).trans ?_
    rw [List.perm_ext_iff_of_nodup nd (rowsS_nd S n)]
    intro k
    rw [h k, mem_rowsS d]
theorem len_rows {L : List Int} {S : Cont} {n : Str} (nd : L.Nodup) (d : Dom S) (h : ∀ k, k ∈ L ↔ S n k = true) : L.length ≤ 3 := by
  have := congrArg List.length (srt_eq nd d h)
  rw [(srt_perm L).length_eq] at this
  rw [this]
  exact rowsS_le S n
/-- a nodup list of names -/
theorem two_cases {ys : List Str} (nd : ys.Nodup) (h : ∀ n ∈ ys, nmOk n) (hs : sortedS ys = true) : ys = [] ∨ ys = [pS] ∨ ys = [qS] ∨ ys = [pS, qS] := by
  match ys, nd, h, hs with
  | [], _, _, _ => exact .inl rfl
  | [a], _, h, _ =>
    rcases h a (by simp) with rfl | rfl
    · exact .inr (.inl rfl)
    · exact .inr (.inr (.inl rfl))
  | [a, b], nd, h, hs =>
    rcases h a (by simp) with rfl | rfl
    · rcases h b (by simp) with rfl | rfl
      · simp at nd
      · exact .inr (.inr (.inr rfl))
    · rcases h b (by simp) with rfl | rfl
      · exact absurd hs (by decide +kernel)
      · simp at nd
  | a :: b :: c :: r, nd, h, hs =>
    exfalso
    have ha := h a (by simp)
    have hb := h b (by simp)
    have hc := h c (by simp)
    simp only [List.nodup_cons, List.mem_cons, not_or] at nd
    obtain ⟨⟨n1, n2, _⟩, ⟨n3, _⟩, _⟩ := nd
    rcases ha with rfl | rfl <;> rcases hb with rfl | rfl <;> rcases hc with rfl | rfl <;> simp_all
theorem names_eq {ys : List Str} {S : Cont} (nd : ys.Nodup) (h : ∀ n ∈ ys, nmOk n) (hs : sortedS ys = true) (hin : ∀ n, nmOk n → rowsS S n ≠ [] → n ∈ ys) : (ys.filter fun n => decide (rowsS S n ≠ [])) = namesS S := by
  unfold namesS
  have hp : pS ∉ ys → rowsS S pS = [] := fun z => by
    by_cases q : rowsS S pS = []
    · exact q
    · exact absurd (hin pS (.inl rfl) q) z
  have hq : qS ∉ ys → rowsS S qS = [] := fun z => by
    by_cases q : rowsS S qS = []
    · exact q
    · exact absurd (hin qS (.inr rfl) q) z
  have npq := pq_ne
  rcases two_cases nd h hs with rfl | rfl | rfl | rfl
  · have e1 := hp (by simp)
    have e2 := hq (by simp)
    simp [e1, e2]
  · have e2 := hq (by simpa using Ne.symm npq)
    simp [List.filter_cons, e2]
  · have e1 := hp (by simpa using npq)
    simp [List.filter_cons, e1]
  · rfl
mutual
def noLs : PyData → Bool
  | .list _ => false
  | .tuple ds => noLsAll ds
  | _ => true
def noLsAll : List PyData → Bool
  | [] => true
  | d :: ds => noLs d && noLsAll ds
end
theorem SqT.kp {K : PySem.W.Frag} {T : List (Addr × Str)} {F : List Addr} {H H1 : Hp} {a : Addr} {xs : List V} (h : SqT K H a xs) (k : Kp T F H H1) (hF : ∀ b ∈ F, Mu H b) : SqT K H1 a xs := by
  rcases h with (h | ⟨o, h⟩) | h
  · exact .inl (.inl (k.keep _ _ h .tup (Mu.nt hF h)))
  · exact .inl (.inr ⟨o, k.keep _ _ h .frz (Mu.nf hF h)⟩)
  · exact .inr h
mutual
theorem Dp.kp {K : PySem.W.Frag} {T : List (Addr × Str)} {F : List Addr} {H H1 : Hp} (k : Kp T F H H1) (hF : ∀ b ∈ F, Mu H b) : ∀ (d : PyData) (v : V), noLs d = true → Dp K H v d → Dp K H1 v d
  | .none, _, _, h => by cases h; exact .non
  | .bool b, _, _, h => by cases h; exact .bl b
  | .int i, _, _, h => by cases h; exact .int i
  | .str x, _, _, h => by cases h; exact .str x
  | .list ds, _, n, h => by simp [noLs] at n
  | .tuple ds, _, n, h => by
    cases h with
    | tup hs ha => exact .tup (SqT.kp hs k hF) (Dp.kpAll k hF ds _ (by simpa [noLs] using n) ha)
  | .dict _, _, _, h => by cases h
theorem Dp.kpAll {K : PySem.W.Frag} {T : List (Addr × Str)} {F : List Addr} {H H1 : Hp} (k : Kp T F H H1) (hF : ∀ b ∈ F, Mu H b) : ∀ (ds : List PyData) (vs : List V), noLsAll ds = true → DpAll K H vs ds → DpAll K H1 vs ds
  | [], _, _, h => by cases h; exact .nil
  | d :: ds, _, n, h => by
    have n' : noLs d = true ∧ noLsAll ds = true := by simpa [noLsAll] using n
    cases h with
    | cons h1 h2 => exact .cons (Dp.kp k hF d _ n'.1 h1) (Dp.kpAll k hF ds _ n'.2 h2)
end
theorem DpAll.snoc {K : PySem.W.Frag} {H : Hp} {v : V} {d : PyData} (hd : Dp K H v d) : ∀ {vs : List V} {ds : List PyData}, DpAll K H vs ds → DpAll K H (vs ++ [v]) (ds ++ [d])
  | _, _, .nil => .cons hd .nil
  | _, _, .cons h t => .cons h (DpAll.snoc hd t)
theorem noLsAll_app : ∀ (xs ys : List PyData), noLsAll (xs ++ ys) = (noLsAll xs && noLsAll ys)
  | [], ys => by simp [noLsAll]
  | x :: xs, ys => by simp [noLsAll, noLsAll_app xs ys, Bool.and_assoc]
theorem noLsAll_map {α : Type} (f : α → PyData) (h : ∀ a, noLs (f a) = true) : ∀ l : List α, noLsAll (l.map f) = true
  | [] => rfl
  | a :: l => by simp [noLsAll, h a, noLsAll_map f h l]
/-- rows as data -/
def rowD1 (k : Int) : PyData := .tuple [.int k]
def rowsD (ks : List Int) : PyData := .tuple (ks.map rowD1)
theorem noLs_rows (ks : List Int) : noLs (rowsD ks) = true := noLsAll_map rowD1 (fun _ => rfl) ks
theorem Dp.row {K : PySem.W.Frag} {H : Hp} {r : Addr} {k : Int} (h : RowAt H r k) : Dp K H (.ref r) (rowD1 k) := .tup (.inl (.inl h)) (.cons (.int k) .nil)
theorem DpAll.rows {K : PySem.W.Frag} {H : Hp} : ∀ {os : List (Addr × Int)}, RowsAt H os → DpAll K H (rfs os) ((os.map (·.2)).map rowD1)
  | [], _ => .nil
  | o :: os, h => .cons (Dp.row (h o (by simp))) (DpAll.rows fun x hx => h x (List.mem_cons_of_mem _ hx))
theorem Dp.rows {K : PySem.W.Frag} {H : Hp} {p : Addr} {os : List (Addr × Int)} (hp : H p = some (.tup (rfs os))) (h : RowsAt H os) : Dp K H (.ref p) (rowsD (os.map (·.2))) := .tup (.inl (.inl hp)) (DpAll.rows h)
/-- a store's showing -/
def shD1 (S : Cont) (n : Str) : PyData := .tuple [.str n, rowsD (rowsS S n)]
def shD (S : Cont) : PyData := .tuple ((namesS S).map (shD1 S))
theorem noLs_sh1 (S : Cont) (n : Str) : noLs (shD1 S n) = true := by
  show noLsAll [.str n, rowsD (rowsS S n)] = true
  simp [noLsAll, noLs, noLs_rows]
def StS (H : Hp) (CS CR s : Addr) (F : List Addr) (S : Cont) : Prop := ∃ dr es, StoreAt H CS CR s dr es ∧ F = stC dr es ∧ (∀ n k, k ∈ rowsE es n ↔ S n k = true) ∧ (∀ e ∈ es, nmOk e.nm) ∧ Dom S
section
variable {T : List (Addr × Str)} {H H1 : Hp} {CS CR s dr : Addr} {es : List SE} {S : Cont} {F G : List Addr}
theorem es_len (nd : (es.map (·.nm)).Nodup) (h : ∀ e ∈ es, nmOk e.nm) : es.length ≤ 2 := by
  have hl : ∀ ys : List Str, ys.Nodup → (∀ n ∈ ys, nmOk n) → ys.length ≤ 2 := fun ys nd h => by
    match ys, nd, h with
    | [], _, _ => simp
    | [a], _, _ => simp
    | [a, b], _, _ => simp
    | a :: b :: c :: r, nd, h =>
      exfalso
      have ha := h a (by simp)
      have hb := h b (by simp)
      have hc := h c (by simp)
      simp only [List.nodup_cons, List.mem_cons, not_or] at nd
      obtain ⟨⟨n1, n2, _⟩, ⟨n3, _⟩, _⟩ := nd
      rcases ha with rfl | rfl <;> rcases hb with rfl | rfl <;> rcases hc with rfl | rfl <;> simp_all
  have := hl (es.map (·.nm)) nd fun n hn => by
    obtain ⟨e, he, rfl⟩ := List.mem_map.mp hn
    exact h e he
  simpa using this
theorem StS.dct (h : StS H CS CR s F S) : ∀ b ∈ F, Dct H b := by
  obtain ⟨dr, es, h1, rfl, _⟩ := h
  exact h1.dct
theorem StS.kp (h : StS H CS CR s F S) (k : Kp T G H H1) (hG : ∀ b ∈ G, Mu H b) (n : ∀ b ∈ F, b ∉ G) : StS H1 CS CR s F S := by
  obtain ⟨dr, es, h1, rfl, h2⟩ := h
  exact ⟨dr, es, h1.kp k hG n, rfl, h2⟩
theorem StS.kp0 (h : StS H CS CR s F S) (k : Kp T [] H H1) : StS H1 CS CR s F S := h.kp k (fun _ z => nomatch z) fun _ _ z => nomatch z
end
end DH
namespace DH
open PySem PySem.Spec L2
open PyProof.Rows hiding St
section
variable {P : Program} {w : World} {K : PySem.W.Frag} {mg : Str → Option Value} {base : Heap} {T : List (Addr × Str)}
def spSHas (CS CR : Addr) : Sp := fun vs H Q _ => ∃ (s dr r : Addr) (es : List SE) (n : Str) (i : Int), vs = [.ref s, .str n, .ref r] ∧ StoreAt H CS CR s dr es ∧ RowAt H r i ∧ Q (.bl (decide (i ∈ rowsE es n))) H
theorem noMeth (hd tb : Addr) {m : Str} (h1 : ¬ m = "held") (h2 : ¬ m = "tables") : (relF hd tb).lookup m = none := by
  rw [← relF_eq, lookup_putF, if_neg h2, lookup_putF, if_neg h1]
  rfl
theorem ok_shas {f CS CR fR : Addr} {fd fdR : FuncData} (F : Fun K "has" "Store.has" sSHas f fd) (S : StoT K mg CS) (R : RelT K mg CR) (mR : Meth K CR "has" fR) (GR : FnOk P w K mg base CX0 1 fR fdR ["self", "row"] (spRHas CR)) (bR : L2.Binds K fdR ["self", "row"] []) :
    FnOk P w K mg base CX0 2 f fd ["self", "name", "row"] (spSHas CS CR) := by
  refine F.ok sc_shas (fun vs H Q E h => ?_) (fun cdv A outer s H vs Q E hr h => ?_)
  · obtain ⟨x, dr, r, es, n, i, rfl, _⟩ := h
    rfl
  · obtain ⟨x, dr, r, es, n, i, rfl, hS, hrow, k⟩ := h
    have hu := hu_of hr
    obtain ⟨dx, hi⟩ := hS.ins
    refine ⟨_, pss_one (ps_ret (pe_and (pe_cmp (pc_din hu (pv 1) (pe_fld (pv 0) rfl))) (pe_one (pe_meth (pe_dget hu (pe_fld (pv 0) rfl) (pv 1) (fun _ _ => rfl)) R.cl mR GR hr bR .nil pass0 (pa_cons (pv 2) pa_nil))))), ?_⟩
    refine ⟨_, rfl, _, rfl, x, CS, dx, _, _, rfl, hi, S.cl, S.nR, lkR _, dr, _, rfl, DGet.k (k := Sum.inr n) hS.dict, _, rfl, ?_⟩
    rw [valV_stD]
    cases hf : findE es n with
    | none =>
      refine iteF ?_
      have : rowsE es n = [] := by unfold rowsE; rw [hf]; rfl
      rw [this] at k
      simpa using k
    | some e =>
      refine iteT ?_
      obtain ⟨hm, hn⟩ := findE_some hf
      obtain ⟨dx1, g1, g2, g3, g4⟩ := id (hS.rels e hm)
      have : rowsE es n = e.rows := by unfold rowsE; rw [hf]; rfl
      rw [this] at k
      refine ⟨_, rfl, x, CS, dx, _, _, rfl, hi, S.cl, S.nR, lkR _, _, rfl, dr, V.ref e.rl, rfl, ?_, e.rl, dx1, _, rfl, g1, noMeth _ _ (by decide +kernel) (by decide +kernel), _, rfl, e.rl, r, e.hd, e.tb, e.rows, i, rfl, hS.rels e hm, hrow, k⟩
      have := DGet.k (k := Sum.inr n) hS.dict
      rw [valV_stD, hf] at this
      exact this
/-- self.names() -/
def spSNames (T : List (Addr × Str)) (CS CR : Addr) : Sp := fun vs H Q _ => ∃ (s dr : Addr) (es : List SE), vs = [.ref s] ∧ StoreAt H CS CR s dr es ∧ es.length < 64 ∧
  ∀ (p : Addr) (ys : List Str) (H' : Hp), ys.Perm (es.map (·.nm)) → sortedS ys = true → Kp T [] H H' → Nw H p → H' p = some (.tup ((ys.filter fun n => decide (rowsE es n ≠ [])).map V.str)) → Q (.ref p) H'
theorem sc_snames : FnScope ["self", "name"] ["self"] (defScope sSNames) := ⟨rfl, rfl, rfl, by decide +kernel, rfl, by decide +kernel, by decide +kernel⟩
theorem ok_snames {f CS CR fZ : Addr} {fd fdZ : FuncData} (F : Fun K "names" "Store.names" sSNames f fd) (S : StoT K mg CS) (R : RelT K mg CR) (zS : mg "sorted" = none) (zT : mg "tuple" = none) (mZ : Meth K CR "size" fZ) (GZ : FnOk P w K mg base CX0 1 fZ fdZ ["self"] (spRSize CR)) (bZ : L2.Binds K fdZ ["self"] []) :
    FnOk P w K mg base CX0 2 f fd ["self"] (spSNames T CS CR) := by
  refine F.ok sc_snames (fun vs H Q E h => ?_) (fun cdv A outer s H vs Q E hr h => ?_)
  · obtain ⟨x, dr, es, rfl, _⟩ := h
    rfl
  · obtain ⟨x, dr, es, rfl, hS, hl, k⟩ := h
    have hu := hu_of hr
    obtain ⟨dx, hi⟩ := hS.ins
    refine ⟨_, pss_one (ps_ret (pe_callTy call_tuple_of rfl zT (show bootBuiltins "tuple" = some (.type "tuple") by decide +kernel) (pa_cons
      (pe_lc (own := [("name", 1)]) (g := gName 1) (tt := tTest (tOp (rI0 fun i j => V.bl (decide (j < i))) (tMeth CR "size" (spRSize CR) [] E (tDGet (tFld K (tVar 0) "relations") (tVar 1)) tNil) (tC (V.int 0)))) (te := tVar 1) rfl sc_snames.nd (pi_list (pe_callB (call_sortedD rfl) rfl zS (show bootBuiltins "sorted" = some (.builtin "sorted") by decide +kernel) (pa_cons (pe_fld (pv 0) rfl) pa_nil))) (blkOk_by (N := ["self", "name"]) (sc := defScope sSNames) (by decide +kernel))
        (fun _ _ _ _ _ => pg_name (i := 1) sc_snames.nd rfl (Or.inl rfl)) (fun _ _ _ _ _ => pts_one (pt_cmpR op_gt (pe_meth0 (pe_dget hu (pe_fld (pv 0) rfl) (pv 1) (fun _ _ => rfl)) R.cl mZ GZ hr bZ .nil pass0) pe_int (nomark _))) (fun _ _ _ _ _ => pv 1)) pa_nil))), ?_⟩
    refine ⟨_, rfl, x, CS, dx, _, _, rfl, hi, S.cl, S.nR, lkR _, dr, _, es.map (·.nm), rfl, .inl hS.dict, by unfold stD; rw [List.map_map, List.map_map]; rfl, by rw [List.length_map]; exact hl, fun ys p hp hs np => ?_⟩
    refine ⟨p, rfl, ⟨_, SqL.of upd_same⟩, fun D hD => ?_⟩
    have k1 : Kp T [] H (upd H p (.lst (ys.map V.str))) := .new np
    have npD : p ≠ D := ne_of_none upd_same hD
    have kD : ∀ acc, Kp T [] H (upd (upd H p (.lst (ys.map V.str))) D (.lst acc)) := fun acc => k1.transS (.new hD)
    refine lc_list (K := K) (a := p) (xs := ys.map V.str) (fun i H2 => ∃ acc, H2 = upd (upd H p (.lst (ys.map V.str))) D (.lst acc) ∧ acc = ((ys.take i).filter fun n => decide (rowsE es n ≠ [])).map V.str) ⟨[], rfl, rfl⟩ ?_ ?_ ?_
    · rintro i H2 _ ⟨acc, rfl, _⟩
      exact SqL.of (by rw [upd_ne npD]; exact upd_same)
    · rintro i y H2 hy ⟨acc, rfl, hacc⟩
      rw [List.getElem?_map] at hy
      obtain ⟨n, hn, rfl⟩ := Option.map_eq_some_iff.mp hy
      have hmem : n ∈ es.map (·.nm) := hp.mem_iff.mp (List.mem_of_getElem? hn)
      obtain ⟨e, he, hen⟩ := List.mem_map.mp hmem
      have hf : findE es n = some e := by rw [← hen]; exact findE_of hS.names he
      have hS2 : StoreAt (upd (upd H p (.lst (ys.map V.str))) D (.lst acc)) CS CR x dr es := hS.kp (kD acc) (fun _ z => nomatch z) fun _ _ z => nomatch z
      obtain ⟨dx2, hi2⟩ := hS2.ins
      obtain ⟨dx1, g1, g2, g3, g4⟩ := id (hS2.rels e he)
      have er : rowsE es n = e.rows := by unfold rowsE; rw [hf]; rfl
      have tk : (ys.take (i + 1)).filter (fun n => decide (rowsE es n ≠ [])) = (ys.take i).filter (fun n => decide (rowsE es n ≠ [])) ++ (if e.rows ≠ [] then [n] else []) := by
        rw [List.take_add_one, hn, List.filter_append]
        congr 1
        show List.filter _ [n] = _
        by_cases q : e.rows = []
        · simp [er, q]
        · simp [er, q]
      refine ⟨rfl, _, rfl, x, CS, dx2, _, _, rfl, hi2, S.cl, S.nR, lkR _, _, rfl, dr, V.ref e.rl, rfl, ?_, e.rl, dx1, _, rfl, g1, noMeth _ _ (by decide +kernel) (by decide +kernel), e.rl, e.hd, e.tb, e.rows, rfl, hS2.rels e he, _, _, rfl, rfl, _, rfl, ?_⟩
      · have := DGet.k (k := Sum.inr n) hS2.dict
        rw [valV_stD, hf] at this
        exact this
      · refine ite2 (fun hq => ?_) (fun hq => ?_)
        · have hq' : (0 : Int) < ((e.rows.length : Nat) : Int) := of_decide_eq_true hq
          have hne : e.rows ≠ [] := fun z => by rw [z] at hq'; exact absurd hq' (by decide)
          refine ⟨_, rfl, acc, upd_same, ?_, acc ++ [V.str n], upd_upd, ?_⟩
          · rw [hacc, List.length_map]
            refine small1000 (Nat.le_trans (List.length_filter_le _ _) ?_)
            have := hp.length_eq
            rw [List.length_map] at this
            rw [List.length_take]
            omega
          · rw [tk, if_pos hne, List.map_append, hacc]
            rfl
        · have hne : e.rows = [] := by
            cases h : e.rows with
            | nil => rfl
            | cons a r =>
              rw [h] at hq
              exact absurd (decide_eq_true (by simp only [List.length_cons]; omega)) hq
          refine ⟨acc, rfl, ?_⟩
          rw [tk, hne, if_neg (by simp), List.append_nil]
          exact hacc
    · rintro H2 ⟨acc, rfl, hacc⟩
      refine ⟨D, acc, rfl, .inl ⟨SqL.of upd_same, fun l hl' => ?_⟩⟩
      rw [List.length_map, List.take_of_length_le (Nat.le_refl _)] at hacc
      exact k l ys _ hp hs ((kD acc).transS (.new hl')) ((kD acc).fresh hl') (by rw [upd_same, hacc])
end
end DH
namespace DH
open PySem PySem.Spec L2
open PyProof.Rows hiding St
theorem upd_kpD {T : List (Addr × Str)} {H : Hp} {D : Addr} {a b : List V} (h : H D = some (.lst a)) : Kp T [D] H (upd H D (.lst b)) := .put h .lst .lst (by simp)
theorem mu1 {H : Hp} {D : Addr} {xs : List V} : ∀ b ∈ [D], Mu (upd H D (.lst xs)) b := fun b hb => by
  rw [List.mem_singleton.mp hb]
  exact .lst upd_same
/-- [e for n in a tuple of texts], every e data without lists -/
theorem lc_strD {K : PySem.W.Frag} {T : List (Addr × Str)} {a D : Addr} {ns : List Str} {f : Str → PyData} {g : TG} {te : TE} {vs : List Nat} {σ : L2.St} {H1 : Hp} {Qd : Hp → Prop} (hD : H1 D = none) (ha : H1 a = some (.tup (ns.map V.str))) (hf : ∀ n, noLs (f n) = true) (hl : ns.length ≤ 1000)
    (turn : ∀ n ∈ ns, ∀ H2, Kp T [D] (upd H1 D (.lst [])) H2 → ∀ R : V → Hp → Prop, (∀ y H3, Kp T [] H2 H3 → Dp K H3 y (f n) → R y H3) → g (V.str n) (wipe σ vs) H2 fun σ2 H3 => wipe σ2 vs = wipe σ vs ∧ te σ2 H3 R)
    (hd : ∀ H2 acc, Kp T [D] (upd H1 D (.lst [])) H2 → H2 D = some (.lst acc) → acc.length = ns.length → DpAll K H2 acc (ns.map f) → Qd H2)
    (gm : ∀ x σ H (k k' : L2.St → Hp → Prop), (∀ σ H, k σ H → k' σ H) → g x σ H k → g x σ H k') :
    ∃ W : Nat → Nat → Hp → Prop, (∃ m, W 0 m (upd H1 D (.lst []))) ∧ ∀ i m H, W i m H →
      ((Itt K a).stop i H ∧ Qd H) ∨ ((Itt K a).go i H ∧ ∃ Nx : Hp → Prop, (∀ H', Nx H' → ∃ m', m' < m ∧ W (i + 1) m' H') ∧ ∀ x H', (Itt K a).yld i H x H' → g x (wipe σ vs) H' fun σ2 H2 => wipe σ2 vs = wipe σ vs ∧ tYes σ2 H2 fun b H3 =>
        if b = true then te σ2 H3 fun y H4 => ∃ acc, H4 D = some (.lst acc) ∧ acc.length < sizeLine ∧ Nx (upd H4 D (.lst (acc ++ [y]))) else Nx H3) := by
  have naD : a ≠ D := ne_of_none ha hD
  refine lc_tup (K := K) (a := a) (xs := ns.map V.str) (fun i H2 => Kp T [D] (upd H1 D (.lst [])) H2 ∧ ∃ acc, H2 D = some (.lst acc) ∧ acc.length = i ∧ DpAll K H2 acc ((ns.take i).map f)) ⟨.refl _ _ _, [], upd_same, rfl, .nil⟩ ?_ ?_ ?_
  · rintro i H2 _ ⟨k, _⟩
    exact SqT.of (k.tup (by rw [upd_ne naD]; exact ha) (by simpa using naD))
  · rintro i y H2 hy ⟨k, acc, hacc, hlen, hdp⟩
    rw [List.getElem?_map] at hy
    obtain ⟨n, hn, rfl⟩ := Option.map_eq_some_iff.mp hy
    have hlt : i < ns.length := (List.getElem?_eq_some_iff.mp hn).1
    refine gm _ _ _ _ _ (fun σ2 H3 hq => ?_) (turn n (List.mem_of_getElem? hn) H2 k (fun y H3 => ∃ acc', H3 D = some (.lst acc') ∧ acc'.length < sizeLine ∧ (Kp T [D] (upd H1 D (.lst [])) (upd H3 D (.lst (acc' ++ [y]))) ∧ ∃ acc2, upd H3 D (.lst (acc' ++ [y])) D = some (.lst acc2) ∧ acc2.length = i + 1 ∧ DpAll K (upd H3 D (.lst (acc' ++ [y]))) acc2 ((ns.take (i + 1)).map f))) fun y H3 k3 hy3 => ?_)
    · exact ⟨hq.1, hq.2⟩
    · have h3 : H3 D = some (.lst acc) := k3.lst hacc List.not_mem_nil
      have k4 : Kp T [D] H3 (upd H3 D (.lst (acc ++ [y]))) := upd_kpD h3
      have mF : ∀ b ∈ [D], Mu H3 b := fun b hb => by
        rw [List.mem_singleton.mp hb]
        exact .lst h3
      refine ⟨acc, h3, small1000 (by omega), (k.transS (k3.mono fun _ z => by cases z)).transS k4, _, upd_same, by rw [List.length_append, hlen]; rfl, ?_⟩
      have e : (ns.take (i + 1)).map f = (ns.take i).map f ++ [f n] := by
        rw [List.take_add_one, hn, List.map_append]
        rfl
      rw [e]
      refine DpAll.snoc (Dp.kp k4 mF _ _ (hf n) hy3) (Dp.kpAll k4 mF _ _ (noLsAll_map f hf _) (Dp.kpAll k3 (fun _ z => nomatch z) _ _ (noLsAll_map f hf _) hdp))
  · rintro H2 ⟨k, acc, hacc, hlen, hdp⟩
    rw [List.length_map] at hlen hdp
    rw [List.take_of_length_le (Nat.le_refl _)] at hdp
    exact hd H2 acc k hacc hlen hdp
theorem gName_mono (i : Nat) : ∀ x σ H (k k' : L2.St → Hp → Prop), (∀ σ H, k σ H → k' σ H) → gName i x σ H k → gName i x σ H k' := fun _ _ _ _ _ h q => h _ _ q
section
variable {P : Program} {w : World} {K : PySem.W.Frag} {mg : Str → Option Value} {base : Heap} {T : List (Addr × Str)}
theorem rows_nil {es : List SE} {S : Cont} (d : Dom S) (hS : ∀ n k, k ∈ rowsE es n ↔ S n k = true) (n : Str) : rowsE es n = [] ↔ rowsS S n = [] := by
  constructor
  · intro h
    cases q : rowsS S n with
    | nil => rfl
    | cons k r =>
      have : k ∈ rowsS S n := by rw [q]; simp
      rw [mem_rowsS d, ← hS, h] at this
      cases this
  · intro h
    cases q : rowsE es n with
    | nil => rfl
    | cons k r =>
      have : k ∈ rowsE es n := by rw [q]; simp
      rw [hS, ← mem_rowsS d, h] at this
      cases this
/-- the names listed are the content's -/
theorem names_of {es : List SE} {S : Cont} {ys : List Str} (d : Dom S) (hS : ∀ n k, k ∈ rowsE es n ↔ S n k = true) (nd : (es.map (·.nm)).Nodup) (ok : ∀ e ∈ es, nmOk e.nm) (hp : ys.Perm (es.map (·.nm))) (hs : sortedS ys = true) :
    (ys.filter fun n => decide (rowsE es n ≠ [])) = namesS S := by
  have e : (ys.filter fun n => decide (rowsE es n ≠ [])) = ys.filter fun n => decide (rowsS S n ≠ []) := by
    refine List.filter_congr fun n _ => ?_
    have := rows_nil d hS n
    simp only [ne_eq, this]
  rw [e]
  refine names_eq (hp.nodup_iff.mpr nd) (fun n hn => ?_) hs (fun n _ hr => ?_)
  · obtain ⟨e, he, rfl⟩ := List.mem_map.mp (hp.mem_iff.mp hn)
    exact ok e he
  · rw [hp.mem_iff]
    have hne : rowsE es n ≠ [] := fun z => hr ((rows_nil d hS n).mp z)
    cases q : findE es n with
    | none =>
      refine absurd ?_ hne
      unfold rowsE
      rw [q]
      rfl
    | some e =>
      obtain ⟨h1, h2⟩ := findE_some q
      exact List.mem_map.mpr ⟨e, h1, h2⟩
theorem namesS_len (S : Cont) : (namesS S).length ≤ 2 := List.length_filter_le _ _
theorem namesS_mem {S : Cont} {n : Str} (h : n ∈ namesS S) : nmOk n ∧ rowsS S n ≠ [] := by
  unfold namesS at h
  rw [List.mem_filter] at h
  refine ⟨?_, by simpa using h.2⟩
  simpa [nmOk] using h.1
def spSShown (K : PySem.W.Frag) (T : List (Addr × Str)) (CS CR : Addr) : Sp := fun vs H Q _ => ∃ (s : Addr) (F : List Addr) (S : Cont), vs = [.ref s] ∧ LamX.Tabs T H ∧ StS H CS CR s F S ∧
  ∀ (p : Addr) (H' : Hp), Kp T [] H H' → Dp K H' (.ref p) (shD S) → Q (.ref p) H'
theorem sc_sshown : FnScope ["self", "name"] ["self"] (defScope sSShown) := ⟨rfl, rfl, rfl, by decide +kernel, rfl, by decide +kernel, by decide +kernel⟩
theorem lkRn (dr : Addr) {m : Str} (h : ¬ m = "relations") : (stF dr).lookup m = none := by
  rw [← stF_eq, lookup_putF, if_neg h]
  rfl
theorem ok_sshown {f CS CR fN fW : Addr} {fd fdN fdW : FuncData} (F : Fun K "shown" "Store.shown" sSShown f fd) (S : StoT K mg CS) (R : RelT K mg CR) (zT : mg "tuple" = none) (mN : Meth K CS "names" fN) (GN : FnOk P w K mg base CX0 2 fN fdN ["self"] (spSNames T CS CR)) (bN : L2.Binds K fdN ["self"] [])
    (mW : Meth K CR "rows" fW) (GW : FnOk P w K mg base CX0 8 fW fdW ["self"] (spRRows T CR)) (bW : L2.Binds K fdW ["self"] []) :
    FnOk P w K mg base CX0 9 f fd ["self"] (spSShown K T CS CR) := by
  refine F.ok sc_sshown (fun vs H Q E h => ?_) (fun cdv A outer s H vs Q E hr h => ?_)
  · obtain ⟨x, F, C, rfl, _⟩ := h
    rfl
  · obtain ⟨x, F, C, rfl, hT, hSt, k⟩ := h
    have hu := hu_of hr
    obtain ⟨dr, es, hS, rfl, hC, hok, hdom⟩ := id hSt
    obtain ⟨dx, hi⟩ := hS.ins
    refine ⟨_, pss_one (ps_ret (pe_callTy call_tuple_of rfl zT (show bootBuiltins "tuple" = some (.type "tuple") by decide +kernel) (pa_cons
      (pe_lc (own := [("name", 1)]) (g := gName 1) (tt := tYes) (te := tTup (tCons (tVar 1) (tCons (tMeth CR "rows" (spRRows T CR) [] E (tDGet (tFld K (tVar 0) "relations") (tVar 1)) tNil) tNil))) rfl sc_sshown.nd (pi_tup (pe_meth0 (pv 0) S.cl mN GN (hr.mono (by decide)) bN .nil pass0)) (blkOk_by (N := ["self", "name"]) (sc := defScope sSShown) (by decide +kernel))
        (fun _ _ _ _ _ => pg_name (i := 1) sc_sshown.nd rfl (Or.inl rfl)) (fun _ _ _ _ _ => pts_nil) (fun _ _ _ _ _ => pe_tup (pa_cons (pv 1) (pa_cons (pe_meth0 (pe_dget hu (pe_fld (pv 0) rfl) (pv 1) (fun _ _ => rfl)) R.cl mW GW hr bW .nil pass0) pa_nil)))) pa_nil))), ?_⟩
    refine ⟨_, rfl, x, dx, _, rfl, hi, lkRn _ (by decide +kernel), x, dr, es, rfl, hS, Nat.lt_of_le_of_lt (es_len hS.names hok) (by decide), fun p ys H1 hp hs k1 np h1 => ?_⟩
    rw [names_of hdom hC hS.names hok hp hs] at h1
    refine ⟨p, rfl, ⟨_, SqT.of h1⟩, fun D hD => ?_⟩
    have npD : p ≠ D := ne_of_none h1 hD
    refine lc_strD (T := T) (f := shD1 C) hD h1 (noLs_sh1 C) (Nat.le_trans (namesS_len C) (by decide)) (fun n hn H2 k2 R' hR => ?_) (fun H2 acc k2 hacc hlen hdp => ?_) (gName_mono 1)
    · refine ⟨rfl, ?_⟩
      obtain ⟨hnm, hne⟩ := namesS_mem hn
      have kH : Kp T [] H H2 := (k1.trans0 (Kp.new hD)).trans k2 fun b hb => .inr (by rw [List.mem_singleton.mp hb]; exact k1.fresh hD)
      have hS2 : StoreAt H2 CS CR x dr es := hS.kp kH (fun _ z => nomatch z) fun _ _ z => nomatch z
      obtain ⟨dx2, hi2⟩ := hS2.ins
      obtain ⟨e, hf⟩ : ∃ e, findE es n = some e := by
        cases q : findE es n with
        | none =>
          refine absurd ((rows_nil hdom hC n).mp ?_) hne
          unfold rowsE
          rw [q]
          rfl
        | some e => exact ⟨e, rfl⟩
      obtain ⟨hm, hnn⟩ := findE_some hf
      obtain ⟨dx1, g1, g2, g3, g4⟩ := id (hS2.rels e hm)
      have er : rowsE es n = e.rows := by unfold rowsE; rw [hf]; rfl
      refine ⟨_, rfl, _, rfl, x, CS, dx2, _, _, rfl, hi2, S.cl, S.nR, lkR _, _, rfl, dr, V.ref e.rl, rfl, ?_, e.rl, dx1, _, rfl, g1, noMeth _ _ (by decide +kernel) (by decide +kernel), e.rl, e.hd, e.tb, e.rows, rfl, kH.tabs hT, hS2.rels e hm, fun t os H3 k3 nt ht hos hks => ?_⟩
      · have := DGet.k (k := Sum.inr n) hS2.dict
        rw [valV_stD, hf] at this
        exact this
      · refine ⟨by show 2 ≤ sizeLine; decide, fun q hq => ?_⟩
        have k4 : Kp T [] H3 (upd H3 q (.tup [V.str n, V.ref t])) := .new hq
        refine hR (.ref q) _ (k3.trans0 k4) (.tup (.inl (.inl upd_same)) (.cons (.str n) (.cons (Dp.kp k4 (fun _ z => nomatch z) _ _ (noLs_rows _) ?_) .nil)))
        have := Dp.rows (K := K) ht hos
        rw [hks, srt_eq g4 hdom (fun i => by rw [← er]; exact hC n i)] at this
        exact this
    · refine ⟨D, acc, rfl, .inl ⟨SqL.of hacc, fun l hl' => ?_⟩⟩
      have kH : Kp T [] H H2 := (k1.trans0 (Kp.new hD)).trans k2 fun b hb => .inr (by rw [List.mem_singleton.mp hb]; exact k1.fresh hD)
      have k4 : Kp T [] H2 (upd H2 l (.tup acc)) := .new hl'
      exact k l _ (kH.trans0 k4) (.tup (.inl (.inl upd_same)) (Dp.kpAll k4 (fun _ z => nomatch z) _ _ (noLsAll_map _ (noLs_sh1 C) _) hdp))
end
end DH
namespace DH
open PySem PySem.Spec L2
open PyProof.Rows hiding St
/-- name, its dict of rows, the rows -/
structure CE where
  nm : Str
  di : Addr
  rows : List Int
def lvD (es : List CE) : List (L2.Key × V) := es.map fun e => (Sum.inr e.nm, V.ref e.di)
structure LvAt (H : Hp) (d : Addr) (es : List CE) : Prop where
  dict : H d = some (.dK (lvD es))
  ins : ∀ e ∈ es, H e.di = some (.dT (rowD e.rows)) ∧ e.rows.Nodup
  names : (es.map (·.nm)).Nodup
  cells : (es.map (·.di)).Nodup
def findC (es : List CE) (n : Str) : Option CE := es.find? fun e => decide (e.nm = n)
def rowsC (es : List CE) (n : Str) : List Int := ((findC es n).map (·.rows)).getD []
theorem findC_some {es : List CE} {n : Str} {e : CE} (h : findC es n = some e) : e ∈ es ∧ e.nm = n := by
  refine ⟨List.mem_of_find?_eq_some h, ?_⟩
  have := List.find?_some h
  simpa using this
theorem findC_none {es : List CE} {n : Str} (h : findC es n = none) : ∀ e ∈ es, e.nm ≠ n := by
  intro e he q
  unfold findC at h
  rw [List.find?_eq_none] at h
  exact h e he (decide_eq_true q)
theorem findC_of {es : List CE} (nd : (es.map (·.nm)).Nodup) {e : CE} (he : e ∈ es) : findC es e.nm = some e := by
  cases q : findC es e.nm with
  | none => exact absurd rfl (findC_none q e he)
  | some e' =>
    obtain ⟨h1, h2⟩ := findC_some q
    rw [nd_inj nd h1 he h2]
theorem valV_lvD (es : List CE) (n : Str) : valV (lvD es) (Sum.inr n) = (findC es n).map fun e => V.ref e.di := by
  unfold lvD findC
  induction es with
  | nil => rfl
  | cons e es ih =>
    rw [List.map_cons, List.find?_cons]
    by_cases h : e.nm = n
    · rw [valV_pos (by rw [h])]
      simp [h]
    · rw [valV_neg (fun z => h (by injection z))]
      simp [h]
      exact ih
def setC (es : List CE) (n : Str) (L : List Int) : List CE := es.map fun e => if e.nm = n then { e with rows := L } else e
theorem find_setC (es : List CE) (n m : Str) (L : List Int) : findC (setC es n L) m = (findC es m).map fun e => if e.nm = n then { e with rows := L } else e := by
  unfold findC setC
  rw [List.find?_map]
  congr 1
  congr 1
  funext e
  simp only [Function.comp]
  split <;> rfl
section
variable {T : List (Addr × Str)} {F : List Addr} {H H1 : Hp} {d : Addr} {es : List CE} {n : Str} {e : CE} {L : List Int}
theorem rowsC_set (he : findC es n = some e) (L : List Int) (m : Str) : rowsC (setC es n L) m = if m = n then L else rowsC es m := by
  unfold rowsC
  rw [find_setC]
  by_cases h : m = n
  · subst h
    rw [he, if_pos rfl]
    obtain ⟨_, h2⟩ := findC_some he
    simp [h2]
  · rw [if_neg h]
    cases q : findC es m with
    | none => rfl
    | some e' =>
      obtain ⟨_, h2⟩ := findC_some q
      have : ¬ e'.nm = n := by rw [h2]; exact h
      simp [this]
theorem di_set (L : List Int) : (setC es n L).map (·.di) = es.map (·.di) := by
  unfold setC
  rw [List.map_map]
  congr 1
  funext e
  simp only [Function.comp]
  split <;> rfl
theorem nmC_set (L : List Int) : (setC es n L).map (·.nm) = es.map (·.nm) := by
  unfold setC
  rw [List.map_map]
  congr 1
  funext e
  simp only [Function.comp]
  split <;> rfl
theorem LvAt.kp (h : LvAt H d es) (k : Kp T F H H1) (n1 : d ∉ F) (n2 : ∀ e ∈ es, e.di ∉ F) : LvAt H1 d es :=
  ⟨k.dK h.dict n1, fun e he => ⟨k.dT (h.ins e he).1 (n2 e he), (h.ins e he).2⟩, h.names, h.cells⟩
theorem LvAt.set (h : LvAt H d es) (he : findC es n = some e) (k : Kp T [e.di] H H1) (hr : H1 e.di = some (.dT (rowD L))) (nd : L.Nodup) : LvAt H1 d (setC es n L) := by
  obtain ⟨hm, hn⟩ := findC_some he
  obtain ⟨g2, g4⟩ := h.ins e hm
  refine ⟨?_, fun e' he' => ?_, by rw [nmC_set]; exact h.names, by rw [di_set]; exact h.cells⟩
  · have : lvD (setC es n L) = lvD es := by
      unfold lvD setC
      rw [List.map_map]
      congr 1
      funext e
      simp only [Function.comp]
      split <;> rfl
    rw [this]
    refine k.dK h.dict fun z => ?_
    have q := h.dict
    rw [List.mem_singleton.mp z, g2] at q
    cases q
  · obtain ⟨e0, h0, rfl⟩ := List.mem_map.mp he'
    by_cases q : e0.nm = n
    · have : e0 = e := nd_inj h.names h0 hm (by rw [q, hn])
      subst this
      simp only [q, if_true]
      exact ⟨hr, nd⟩
    · simp only [q, if_false]
      refine ⟨k.dT (h.ins e0 h0).1 fun z => ?_, (h.ins e0 h0).2⟩
      have : e0 = e := nd_inj h.cells h0 hm (List.mem_singleton.mp z)
      exact q (by rw [this, hn])
theorem findC_app (h : findC es n = none) (m : Str) (e : CE) (hn : e.nm = n) : findC (es ++ [e]) m = if m = n then some e else findC es m := by
  unfold findC
  rw [List.find?_append]
  by_cases q : m = n
  · subst q
    unfold findC at h
    rw [h, if_pos rfl]
    simp [hn]
  · rw [if_neg q]
    have : ¬ e.nm = m := fun z => q (by rw [← z, hn])
    simp [this]
theorem LvAt.grow {di : Addr} (h : LvAt H d es) (hn : findC es n = none) (k : Kp T [d] H H1) (hd1 : H1 d = some (.dK (putK (lvD es) (Sum.inr n) (V.ref di)))) (hr : H1 di = some (.dT (rowD L))) (nd : L.Nodup) (nw : Nw H di) : LvAt H1 d (es ++ [⟨n, di, L⟩]) := by
  refine ⟨?_, fun e' he' => ?_, ?_, ?_⟩
  · rw [hd1, putK_new _ (by rw [valV_lvD, hn]; rfl)]
    unfold lvD
    rw [List.map_append]
    rfl
  · rcases List.mem_append.mp he' with h0 | h0
    · refine ⟨k.dT (h.ins e' h0).1 fun z => ?_, (h.ins e' h0).2⟩
      have q := (h.ins e' h0).1
      rw [List.mem_singleton.mp z, h.dict] at q
      cases q
    · rw [List.mem_singleton.mp h0]
      exact ⟨hr, nd⟩
  · rw [List.map_append, List.nodup_append]
    refine ⟨h.names, by simp, fun a ha b hb => ?_⟩
    have hb' : b = n := by simpa using hb
    obtain ⟨e0, h0, rfl⟩ := List.mem_map.mp ha
    rw [hb']
    exact findC_none hn e0 h0
  · rw [List.map_append, List.nodup_append]
    refine ⟨h.cells, by simp, fun a ha b hb => ?_⟩
    have hb' : b = di := by simpa using hb
    obtain ⟨e0, h0, rfl⟩ := List.mem_map.mp ha
    rw [hb']
    exact nw.ne (h.ins e0 h0).1 .dT
end
abbrev chF (da dd : Addr) : List (Str × V) := [("added", .ref da), ("dropped", .ref dd)]
theorem kAD : ¬ (("added" : Str) = "dropped") := by decide +kernel
theorem chF_eq (da dd : Addr) : putF "dropped" (.ref dd) (putF "added" (.ref da) []) = chF da dd := by
  show (if ("added" : Str) = "dropped" then [(("added" : Str), V.ref dd)] else (("added" : Str), V.ref da) :: putF "dropped" (V.ref dd) []) = _
  rw [if_neg kAD]
  rfl
theorem lkA (da dd : Addr) : (chF da dd).lookup ("added" : Str) = some (.ref da) := rfl
theorem lkD (da dd : Addr) : (chF da dd).lookup ("dropped" : Str) = some (.ref dd) := rfl
theorem lkCn (da dd : Addr) {m : Str} (h1 : ¬ m = "added") (h2 : ¬ m = "dropped") : (chF da dd).lookup m = none := by
  rw [← chF_eq, lookup_putF, if_neg h2, lookup_putF, if_neg h1]
  rfl
structure ChAt (H : Hp) (CC c da dd : Addr) (ea ed : List CE) : Prop where
  ins : ∃ dx, H c = some (.ins CC dx (chF da dd))
  la : LvAt H da ea
  ld : LvAt H dd ed
  ne : da ≠ dd
  dis : ∀ e ∈ ea, ∀ e' ∈ ed, e.di ≠ e'.di
def chC (da dd : Addr) (ea ed : List CE) : List Addr := da :: dd :: (ea.map (·.di) ++ ed.map (·.di))
theorem mem_chC {da dd b : Addr} {ea ed : List CE} : b ∈ chC da dd ea ed ↔ b = da ∨ b = dd ∨ (∃ e ∈ ea, e.di = b) ∨ ∃ e ∈ ed, e.di = b := by
  unfold chC
  simp only [List.mem_cons, List.mem_append, List.mem_map]
def ChS (H : Hp) (CC c : Addr) (F : List Addr) (A D : Cont) : Prop := ∃ da dd ea ed, ChAt H CC c da dd ea ed ∧ F = chC da dd ea ed ∧ (∀ n k, k ∈ rowsC ea n ↔ A n k = true) ∧ (∀ n k, k ∈ rowsC ed n ↔ D n k = true) ∧ (∀ e ∈ ea, nmOk e.nm) ∧ (∀ e ∈ ed, nmOk e.nm) ∧ Dom A ∧ Dom D
section
variable {T : List (Addr × Str)} {F G : List Addr} {H H1 : Hp} {CC c da dd : Addr} {ea ed : List CE} {A D : Cont}
theorem ChAt.dct (h : ChAt H CC c da dd ea ed) : ∀ b ∈ chC da dd ea ed, Dct H b := by
  intro b hb
  rcases mem_chC.mp hb with rfl | rfl | ⟨e, he, rfl⟩ | ⟨e, he, rfl⟩
  · exact .inr ⟨_, h.la.dict⟩
  · exact .inr ⟨_, h.ld.dict⟩
  · exact .inl ⟨_, (h.la.ins e he).1⟩
  · exact .inl ⟨_, (h.ld.ins e he).1⟩
theorem ChAt.kp (h : ChAt H CC c da dd ea ed) (k : Kp T F H H1) (hF : ∀ b ∈ F, Mu H b) (n : ∀ b ∈ chC da dd ea ed, b ∉ F) : ChAt H1 CC c da dd ea ed := by
  obtain ⟨dx, hi⟩ := h.ins
  exact ⟨⟨dx, k.ins hi (Mu.ni hF hi)⟩, h.la.kp k (n _ (mem_chC.mpr (.inl rfl))) fun e he => n _ (mem_chC.mpr (.inr (.inr (.inl ⟨e, he, rfl⟩)))), h.ld.kp k (n _ (mem_chC.mpr (.inr (.inl rfl)))) fun e he => n _ (mem_chC.mpr (.inr (.inr (.inr ⟨e, he, rfl⟩)))), h.ne, h.dis⟩
theorem ChS.dct (h : ChS H CC c F A D) : ∀ b ∈ F, Dct H b := by
  obtain ⟨da, dd, ea, ed, h1, rfl, _⟩ := h
  exact h1.dct
theorem ChS.kp (h : ChS H CC c F A D) (k : Kp T G H H1) (hG : ∀ b ∈ G, Mu H b) (n : ∀ b ∈ F, b ∉ G) : ChS H1 CC c F A D := by
  obtain ⟨da, dd, ea, ed, h1, rfl, h2⟩ := h
  exact ⟨da, dd, ea, ed, h1.kp k hG n, rfl, h2⟩
theorem ChS.kp0 (h : ChS H CC c F A D) (k : Kp T [] H H1) : ChS H1 CC c F A D := h.kp k (fun _ z => nomatch z) fun _ _ z => nomatch z
theorem ec_len {es : List CE} (nd : (es.map (·.nm)).Nodup) (h : ∀ e ∈ es, nmOk e.nm) : es.length ≤ 2 := by
  have := es_len (es := es.map fun e => (⟨e.nm, 0, 0, 0, []⟩ : SE)) (by rw [List.map_map]; exact nd) (fun e he => by
    obtain ⟨e', he', rfl⟩ := List.mem_map.mp he
    exact h e' he')
  simpa using this
end
structure ChT (K : PySem.W.Frag) (mg : Str → Option Value) (CC : Addr) : Prop where
  cl : Cls K CC
  nA : NoAttr K CC "added"
  nD : NoAttr K CC "dropped"
  mgC : mg "Changes" = some (.ref CC)
def none2 : Cont := fun _ _ => false
theorem Dom.none : Dom none2 := fun _ _ h => by cases h
section
variable {P : Program} {w : World} {K : PySem.W.Frag} {mg : Str → Option Value} {base : Heap} {T : List (Addr × Str)}
def spCInit (T : List (Addr × Str)) (CC : Addr) : Sp := fun vs H Q _ => ∃ (p dx : Addr), vs = [.ref p] ∧ H p = some (.ins CC dx []) ∧ ∀ (da dd : Addr) (H' : Hp), Nw H da → Nw H dd → ChAt H' CC p da dd [] [] → Kp T [p] H H' → Q .non H'
theorem sc_cinit : FnScope ["self"] ["self"] (defScope sCInit) := ⟨rfl, rfl, rfl, by decide +kernel, rfl, by decide +kernel, by decide +kernel⟩
theorem ok_cinit {f CC : Addr} {fd : FuncData} (F : Fun K "__init__" "Changes.__init__" sCInit f fd) (C : ChT K mg CC) : FnOk P w K mg base CX0 1 f fd ["self"] (spCInit T CC) := by
  refine F.ok sc_cinit (fun vs H Q E h => ?_) (fun cdv A outer s H vs Q E hr h => ?_)
  · obtain ⟨p, dx, rfl, _⟩ := h
    rfl
  · obtain ⟨p, dx, rfl, hp, k⟩ := h
    refine ⟨_, pss_cons (ps_fld (pv 0) pe_dnewK rfl) (pss_one (ps_fld (pv 0) pe_dnewK rfl)), ?_⟩
    intro da na
    have n1 : p ≠ da := ne_of_none hp na
    refine ⟨_, rfl, p, CC, dx, [], rfl, by rw [upd_ne n1]; exact hp, C.cl, C.nA, by show 0 < 1000; decide, ?_⟩
    intro dd nd
    have n2 : p ≠ dd := ne_of_none upd_same nd
    have n3 : da ≠ dd := ne_of_none (by rw [upd_ne n1.symm]; exact upd_same) nd
    have k1 : Kp T [p] H (upd H da (.dK [])) := .new na
    have k2 : Kp T [p] H (upd (upd H da (.dK [])) p (.ins CC dx (putF "added" (.ref da) []))) := k1.transS (.put (by rw [upd_ne n1]; exact hp) .ins .ins (by simp))
    have k3 := k2.transS (.new (p := dd) (o := .dK []) nd)
    refine ⟨_, rfl, p, CC, dx, _, rfl, by rw [upd_ne n2]; exact upd_same, C.cl, C.nD, by show 1 < 1000; decide, ?_⟩
    have k4 := k3.transS (Kp.put (o' := .ins CC dx (putF "dropped" (.ref dd) (putF "added" (.ref da) []))) (by rw [upd_ne n2]; exact upd_same) .ins .ins (by simp))
    refine k da dd _ (.of na) (k2.fresh nd) ⟨⟨dx, by rw [upd_same, chF_eq]⟩, ⟨?_, fun _ z => (by cases z), List.nodup_nil, List.nodup_nil⟩, ⟨?_, fun _ z => (by cases z), List.nodup_nil, List.nodup_nil⟩, n3, fun _ z => by cases z⟩ k4
    · rw [upd_ne n1.symm, upd_ne n3, upd_ne n1.symm, upd_same]
      rfl
    · rw [upd_ne n2.symm, upd_same]
      rfl
end
end DH
namespace DH
open PySem PySem.Spec L2
open PyProof.Rows hiding St
theorem chC_swap {da dd b : Addr} {ea ed : List CE} : b ∈ chC da dd ea ed ↔ b ∈ chC dd da ed ea := by
  rw [mem_chC, mem_chC]
  constructor
  · rintro (h | h | h | h)
    · exact .inr (.inl h)
    · exact .inl h
    · exact .inr (.inr (.inr h))
    · exact .inr (.inr (.inl h))
  · rintro (h | h | h | h)
    · exact .inr (.inl h)
    · exact .inl h
    · exact .inr (.inr (.inr h))
    · exact .inr (.inr (.inl h))
def noteT : TS := tIfS (tB (tDIn (tVar 2) (tDGet2 (tVar 5) (tVar 1) tDNewT))) (sDDelT (tDGet (tVar 5) (tVar 1)) (tVar 2)) (sDPut (tDSetd (tVar 4) (tVar 1) tDNewT) (tVar 2) (tC (.int 1)))
theorem note_core {T : List (Addr × Str)} {D : Ends} {σ : L2.St} {H : Hp} {hr tr r : Addr} {eh et : List CE} {n : Str} {k : Int} (σ1 : σ[1]? = some (some (.str n))) (σ2 : σ[2]? = some (some (.ref r))) (σ4 : σ[4]? = some (some (.ref hr))) (σ5 : σ[5]? = some (some (.ref tr)))
    (Lh : LvAt H hr eh) (Lt : LvAt H tr et) (ne : hr ≠ tr) (dis : ∀ e ∈ eh, ∀ e' ∈ et, e.di ≠ e'.di) (hrow : RowAt H r k) (hlen : eh.length ≤ 2) (hrl : ∀ e ∈ eh, e.rows.length ≤ 3)
    (k1 : k ∈ rowsC et n → ∀ H' et', Kp T (chC hr tr eh et) H H' → LvAt H' hr eh → LvAt H' tr et' → et'.map (·.di) = et.map (·.di) → et'.map (·.nm) = et.map (·.nm) → (∀ m, rowsC et' m = if m = n then (rowsC et n).filter (fun j => decide (j ≠ k)) else rowsC et m) → D.nx σ H')
    (k2 : k ∉ rowsC et n → ∀ H' eh', Kp T (chC hr tr eh et) H H' → LvAt H' hr eh' → LvAt H' tr et → (∀ e ∈ eh', e.nm = n ∨ e.nm ∈ eh.map (·.nm)) → (∀ e ∈ eh', e.di ∈ eh.map (·.di) ∨ Nw H e.di) → (∀ m, rowsC eh' m = if m = n then (if k ∈ rowsC eh n then rowsC eh n else rowsC eh n ++ [k]) else rowsC eh m) → D.nx σ H') :
    noteT D σ H := by
  refine ⟨_, σ2, _, σ5, tr, rfl, .inl ⟨_, .inl Lt.dict⟩, _, σ1, fun p hp => ?_⟩
  have kp : Kp T [] H (upd H p (.dT [])) := .new hp
  have Lt1 : LvAt (upd H p (.dT [])) tr et := Lt.kp kp List.not_mem_nil fun _ _ => List.not_mem_nil
  have Lh1 : LvAt (upd H p (.dT [])) hr eh := Lh.kp kp List.not_mem_nil fun _ _ => List.not_mem_nil
  have row1 : RowAt (upd H p (.dT [])) r k := kp.row hrow List.not_mem_nil
  refine ⟨(findC et n).map fun e => V.ref e.di, by rw [← valV_lvD]; exact DGet.k (k := Sum.inr n) Lt1.dict, ?_⟩
  -- what is looked into
  have look : ∀ (q : Addr) (L : List Int), (upd H p (.dT [])) q = some (.dT (rowD L)) → DGet (upd H p (.dT [])) q (.ref r) (valV (rowD L) [Sum.inl k]) := fun q L hq => DGet.t (k := [Sum.inl k]) hq row1
  -- the else branch
  have els : k ∉ rowsC et n → sDPut (tDSetd (tVar 4) (tVar 1) tDNewT) (tVar 2) (tC (.int 1)) D σ (upd H p (.dT [])) := by
    intro hk
    refine ⟨_, σ4, hr, rfl, .inl ⟨_, .inl Lh1.dict⟩, _, σ1, fun p2 hp2 => ?_⟩
    have kp2 : Kp T [] H (upd (upd H p (.dT [])) p2 (.dT [])) := kp.trans0 (.new hp2)
    have Lh2 : LvAt (upd (upd H p (.dT [])) p2 (.dT [])) hr eh := Lh.kp kp2 List.not_mem_nil fun _ _ => List.not_mem_nil
    have Lt2 : LvAt (upd (upd H p (.dT [])) p2 (.dT [])) tr et := Lt.kp kp2 List.not_mem_nil fun _ _ => List.not_mem_nil
    have row2 : RowAt (upd (upd H p (.dT [])) p2 (.dT [])) r k := kp2.row hrow List.not_mem_nil
    refine ⟨lvD eh, Sum.inr n, Lh2.dict, rfl, by unfold lvD; rw [List.length_map]; exact small1000 (by omega), fun v hv => ?_, fun hv => ?_⟩
    · rw [valV_lvD] at hv
      obtain ⟨e, hf, rfl⟩ := Option.map_eq_some_iff.mp hv
      obtain ⟨hm, hn⟩ := findC_some hf
      obtain ⟨g2, g4⟩ := Lh2.ins e hm
      have er : rowsC eh n = e.rows := by unfold rowsC; rw [hf]; rfl
      refine ⟨_, σ2, e.di, _, rfl, DPut.t (k := [Sum.inl k]) g2 row2 (by rw [rowD_len]; exact small1000 (Nat.le_trans (hrl e hm) (by decide))), ?_⟩
      have kk : Kp T [e.di] (upd (upd H p (.dT [])) p2 (.dT [])) (upd (upd (upd H p (.dT [])) p2 (.dT [])) e.di (.dT (putK (rowD e.rows) [Sum.inl k] (V.int 1)))) := upd_kp g2
      have kA : Kp T (chC hr tr eh et) H (upd (upd (upd H p (.dT [])) p2 (.dT [])) e.di (.dT (putK (rowD e.rows) [Sum.inl k] (V.int 1)))) := by
        refine (kp2.mono fun _ z => by cases z).trans kk fun b hb => .inl ?_
        rw [List.mem_singleton.mp hb]
        exact mem_chC.mpr (.inr (.inr (.inl ⟨e, hm, rfl⟩)))
      have nt : tr ≠ e.di := ne_of Lt2.dict g2 (fun z => by cases z)
      have Lt3 := Lt2.kp kk (by simpa using nt) (fun e' he' => by simpa using (dis e hm e' he').symm)
      by_cases hin : k ∈ e.rows
      · have ep : putK (rowD e.rows) [Sum.inl k] (V.int 1) = rowD e.rows := by
          unfold putK
          have : ((rowD e.rows).any fun kv => decide (kv.1 = [Sum.inl k])) = true := by
            rw [valV_any, isSome_rowD]
            exact decide_eq_true hin
          rw [if_pos this]
          unfold rowD
          rw [List.map_map]
          refine List.map_congr_left fun a _ => ?_
          simp only [Function.comp]
          split <;> rfl
        rw [ep] at kk kA Lt3 ⊢
        have Lh3 : LvAt (upd (upd (upd H p (.dT [])) p2 (.dT [])) e.di (.dT (rowD e.rows))) hr (setC eh n e.rows) := Lh2.set hf kk upd_same g4
        have es : setC eh n e.rows = eh := by
          unfold setC
          have : ∀ a ∈ eh, (if a.nm = n then { a with rows := e.rows } else a) = a := by
            intro a ha
            by_cases q : a.nm = n
            · have : a = e := nd_inj Lh.names ha hm (by rw [q, hn])
              subst this
              rw [if_pos q]
            · rw [if_neg q]
          rw [List.map_congr_left this, List.map_id']
        rw [es] at Lh3
        refine k2 hk _ eh kA Lh3 Lt3 (fun e he => .inr (List.mem_map.mpr ⟨e, he, rfl⟩)) (fun e he => .inl (List.mem_map.mpr ⟨e, he, rfl⟩)) fun m => ?_
        by_cases q : m = n
        · rw [if_pos q, er, if_pos hin, q, er]
        · rw [if_neg q]
      · have ep := rowD_put hin
        rw [ep] at kk kA Lt3 ⊢
        have Lh3 : LvAt (upd (upd (upd H p (.dT [])) p2 (.dT [])) e.di (.dT (rowD (e.rows ++ [k])))) hr (setC eh n (e.rows ++ [k])) := Lh2.set hf kk upd_same (by
          rw [List.nodup_append]
          exact ⟨g4, by simp, fun a ha b hb => by
            rw [List.mem_singleton.mp hb]
            exact fun z => hin (z ▸ ha)⟩)
        refine k2 hk _ _ kA Lh3 Lt3 (fun e' he' => .inr ?_) (fun e' he' => .inl ?_) fun m => ?_
        · rw [← nmC_set (es := eh) (n := n) (e.rows ++ [k])]
          exact List.mem_map.mpr ⟨e', he', rfl⟩
        · rw [← di_set (es := eh) (n := n) (e.rows ++ [k])]
          exact List.mem_map.mpr ⟨e', he', rfl⟩
        · rw [rowsC_set hf, er, if_neg hin]
    · rw [valV_lvD] at hv
      have hf : findC eh n = none := by
        cases q : findC eh n with
        | none => rfl
        | some e => rw [q] at hv; cases hv
      have er : rowsC eh n = [] := by unfold rowsC; rw [hf]; rfl
      have nhp : hr ≠ p2 := ne_of_none Lh1.dict hp2
      have g2 : upd (upd (upd H p (.dT [])) p2 (.dT [])) hr (.dK (putK (lvD eh) (Sum.inr n) (.ref p2))) p2 = some (.dT (rowD [])) := by
        rw [upd_ne nhp.symm, upd_same]
        rfl
      have kh : Kp T [hr] (upd (upd H p (.dT [])) p2 (.dT [])) (upd (upd (upd H p (.dT [])) p2 (.dT [])) hr (.dK (putK (lvD eh) (Sum.inr n) (.ref p2)))) := .put Lh2.dict .dK .dK (by simp)
      have row3 := kh.row row2 (by
        have : r ≠ hr := ne_of row2 Lh2.dict (fun z => by cases z)
        simpa using this)
      refine ⟨_, σ2, p2, _, rfl, DPut.t (k := [Sum.inl k]) g2 row3 (by show 0 < sizeLine; decide), ?_⟩
      have ep : putK (rowD []) [Sum.inl k] (V.int 1) = rowD [k] := rowD_put (L := []) (k := k) (by simp)
      rw [ep]
      have kk : Kp T [p2] (upd (upd (upd H p (.dT [])) p2 (.dT [])) hr (.dK (putK (lvD eh) (Sum.inr n) (.ref p2)))) (upd (upd (upd (upd H p (.dT [])) p2 (.dT [])) hr (.dK (putK (lvD eh) (Sum.inr n) (.ref p2)))) p2 (.dT (rowD [k]))) := upd_kp g2
      have nw2 : Nw H p2 := kp.fresh hp2
      have kA : Kp T (chC hr tr eh et) H (upd (upd (upd (upd H p (.dT [])) p2 (.dT [])) hr (.dK (putK (lvD eh) (Sum.inr n) (.ref p2)))) p2 (.dT (rowD [k]))) := by
        refine (((kp2.mono (G := chC hr tr eh et) fun _ z => by cases z).trans kh fun b hb => .inl ?_).trans kk fun b hb => .inr ?_)
        · rw [List.mem_singleton.mp hb]
          exact mem_chC.mpr (.inl rfl)
        · rw [List.mem_singleton.mp hb]
          exact nw2
      have kB : Kp T [hr] H (upd (upd (upd (upd H p (.dT [])) p2 (.dT [])) hr (.dK (putK (lvD eh) (Sum.inr n) (.ref p2)))) p2 (.dT (rowD [k]))) := by
        refine (((kp2.mono (G := [hr]) fun _ z => by cases z).transS kh).trans kk fun b hb => .inr ?_)
        rw [List.mem_singleton.mp hb]
        exact nw2
      have Lh3 := Lh.grow hf kB (by rw [upd_ne nhp, upd_same]) upd_same (by simp) nw2
      have Lt3 := Lt.kp kB (by simpa using ne.symm) (fun e' he' => by
        have : e'.di ≠ hr := ne_of (Lt.ins e' he').1 Lh.dict (fun z => by cases z)
        simpa using this)
      refine k2 hk _ _ kA Lh3 Lt3 (fun e' he' => ?_) (fun e' he' => ?_) fun m => ?_
      · rcases List.mem_append.mp he' with h0 | h0
        · exact .inr (List.mem_map.mpr ⟨e', h0, rfl⟩)
        · rw [List.mem_singleton.mp h0]
          exact .inl rfl
      · rcases List.mem_append.mp he' with h0 | h0
        · exact .inl (List.mem_map.mpr ⟨e', h0, rfl⟩)
        · rw [List.mem_singleton.mp h0]
          exact .inr nw2
      · unfold rowsC at er ⊢
        rw [findC_app hf m _ rfl]
        by_cases q : m = n
        · rw [if_pos q, if_pos q, er, if_neg (by simp)]
          rfl
        · rw [if_neg q, if_neg q]
  cases hf : findC et n with
  | none =>
    have er : rowsC et n = [] := by unfold rowsC; rw [hf]; rfl
    refine ⟨p, _, rfl, look p [] upd_same, _, rfl, ?_⟩
    rw [isSome_rowD]
    refine iteF ?_
    exact els (by rw [er]; simp)
  | some e =>
    obtain ⟨hm, hn⟩ := findC_some hf
    obtain ⟨g2, g4⟩ := Lt1.ins e hm
    have er : rowsC et n = e.rows := by unfold rowsC; rw [hf]; rfl
    refine ⟨e.di, _, rfl, look e.di e.rows g2, _, rfl, ?_⟩
    rw [isSome_rowD]
    by_cases hin : k ∈ e.rows
    · rw [decide_eq_true hin]
      refine iteT ?_
      refine ⟨_, σ5, _, σ1, tr, V.ref e.di, rfl, ?_, _, σ2, e.di, _, [Sum.inl k], r, rfl, g2, rfl, row1, by rw [isSome_rowD]; exact decide_eq_true hin, ?_⟩
      · have := DGet.k (k := Sum.inr n) Lt1.dict
        rw [valV_lvD, hf] at this
        exact this
      · rw [rowD_drop]
        have kk : Kp T [e.di] (upd H p (.dT [])) (upd (upd H p (.dT [])) e.di (.dT (rowD (e.rows.filter fun j => decide (j ≠ k))))) := upd_kp g2
        have kA : Kp T (chC hr tr eh et) H (upd (upd H p (.dT [])) e.di (.dT (rowD (e.rows.filter fun j => decide (j ≠ k))))) := by
          refine (kp.mono fun _ z => by cases z).trans kk fun b hb => .inl ?_
          rw [List.mem_singleton.mp hb]
          exact mem_chC.mpr (.inr (.inr (.inr ⟨e, hm, rfl⟩)))
        have nh : hr ≠ e.di := ne_of Lh1.dict g2 (fun z => by cases z)
        refine k1 (by rw [er]; exact hin) _ _ kA (Lh1.kp kk (by simpa using nh) (fun e' he' => by simpa using dis e' he' e hm)) (Lt1.set hf kk upd_same (g4.sublist List.filter_sublist)) (di_set _) (nmC_set _) fun m => ?_
        rw [rowsC_set hf, er]
    · rw [decide_eq_false hin]
      refine iteF ?_
      exact els (by rw [er]; exact hin)
end DH
namespace DH
open PySem PySem.Spec L2
open PyProof.Rows hiding St
def putS (S : Cont) (n : Str) (k : Int) : Cont := fun m j => decide (m = n ∧ j = k) || S m j
def delS (S : Cont) (n : Str) (k : Int) : Cont := fun m j => !decide (m = n ∧ j = k) && S m j
/-- what came (here) and what went (there) behind a note that adds to here -/
def noteH (A D : Cont) (n : Str) (k : Int) : Cont := if D n k then A else putS A n k
def noteG (A D : Cont) (n : Str) (k : Int) : Cont := if D n k then delS D n k else D
theorem Dom.put {S : Cont} (d : Dom S) {n : Str} {k : Int} (hn : nmOk n) (hk : rwOk k) : Dom (putS S n k) := by
  intro m j h
  unfold putS at h
  rw [Bool.or_eq_true] at h
  rcases h with h | h
  · obtain ⟨rfl, rfl⟩ := of_decide_eq_true h
    exact ⟨hn, hk⟩
  · exact d m j h
theorem Dom.del {S : Cont} (d : Dom S) {n : Str} {k : Int} : Dom (delS S n k) := by
  intro m j h
  unfold delS at h
  rw [Bool.and_eq_true] at h
  exact d m j h.2
theorem put_rows {L : Str → List Int} {L' : Str → List Int} {S : Cont} {n : Str} {k : Int} (h : ∀ m j, j ∈ L m ↔ S m j = true) (e : ∀ m, L' m = if m = n then (if k ∈ L n then L n else L n ++ [k]) else L m) : ∀ m j, j ∈ L' m ↔ putS S n k m j = true := by
  intro m j
  rw [e m]
  unfold putS
  by_cases q : m = n
  · subst q
    rw [if_pos rfl]
    by_cases hk : k ∈ L m
    · rw [if_pos hk, h m j]
      constructor
      · intro z
        simp [z]
      · intro z
        rw [Bool.or_eq_true] at z
        rcases z with z | z
        · obtain ⟨_, rfl⟩ := of_decide_eq_true z
          exact (h m j).mp hk
        · exact z
    · rw [if_neg hk, List.mem_append, h m j]
      simp only [List.mem_singleton, Bool.or_eq_true, decide_eq_true_eq, true_and]
      exact Or.comm
  · rw [if_neg q, h m j]
    simp [q]
theorem del_rows {L : Str → List Int} {L' : Str → List Int} {S : Cont} {n : Str} {k : Int} (h : ∀ m j, j ∈ L m ↔ S m j = true) (e : ∀ m, L' m = if m = n then (L n).filter (fun j => decide (j ≠ k)) else L m) : ∀ m j, j ∈ L' m ↔ delS S n k m j = true := by
  intro m j
  rw [e m]
  unfold delS
  by_cases q : m = n
  · subst q
    rw [if_pos rfl, List.mem_filter, h m j]
    simp only [decide_eq_true_eq, Bool.and_eq_true, Bool.not_eq_true', decide_eq_false_iff_not, true_and, ne_eq]
    exact And.comm
  · rw [if_neg q, h m j]
    simp [q]
section
variable {P : Program} {w : World} {K : PySem.W.Frag} {mg : Str → Option Value} {base : Heap} {T : List (Addr × Str)}
def spNote (T : List (Addr × Str)) (CC : Addr) : Sp := fun vs H Q _ => ∃ (c r : Addr) (F : List Addr) (A D : Cont) (n : Str) (k : Int) (came : Bool), vs = [.ref c, .str n, .ref r, .bl came] ∧ ChS H CC c F A D ∧ nmOk n ∧ rwOk k ∧ RowAt H r k ∧
  ∀ (H' : Hp) (F' : List Addr), Kp T F H H' → ChS H' CC c F' (if came then noteH A D n k else noteG D A n k) (if came then noteG A D n k else noteH D A n k) → (∀ b ∈ F', b ∈ F ∨ Nw H b) → Q .non H'
theorem sc_note : FnScope ["self", "name", "row", "came", "here", "there"] ["self", "name", "row", "came"] (defScope sCNote) := ⟨rfl, rfl, rfl, by decide +kernel, rfl, by decide +kernel, by decide +kernel⟩
theorem rows_le3 {H : Hp} {d : Addr} {es : List CE} {S : Cont} (L : LvAt H d es) (dm : Dom S) (h : ∀ n k, k ∈ rowsC es n ↔ S n k = true) : ∀ e ∈ es, e.rows.length ≤ 3 := by
  intro e he
  have hf := findC_of L.names he
  have er : rowsC es e.nm = e.rows := by unfold rowsC; rw [hf]; rfl
  exact len_rows (S := S) (n := e.nm) (L.ins e he).2 dm fun k => by rw [← er]; exact h e.nm k
theorem ok_note {f CC : Addr} {fd : FuncData} (F : Fun K "note" "Changes.note" sCNote f fd) (C : ChT K mg CC) : FnOk P w K mg base CX0 1 f fd ["self", "name", "row", "came"] (spNote T CC) := by
  refine F.ok sc_note (fun vs H Q E h => ?_) (fun cdv A outer s H vs Q E hr h => ?_)
  · obtain ⟨c, r, F, A, D, n, k, came, rfl, _⟩ := h
    rfl
  · obtain ⟨c, r, F, A', D', n, k, came, rfl, hCh, hn, hk, hrow, kk⟩ := h
    have hu := hu_of hr
    obtain ⟨da, dd, ea, ed, hC, rfl, hA, hD, oa, od, dA, dD⟩ := id hCh
    obtain ⟨dx, hi⟩ := hC.ins
    refine ⟨_, pss_cons (ps_asg (pe_ifExp (pt_truth (pv 3) (fun _ => rfl)) (pe_tup (pa_cons (pe_fld (pv 0) rfl) (pa_cons (pe_fld (pv 0) rfl) pa_nil))) (pe_tup (pa_cons (pe_fld (pv 0) rfl) (pa_cons (pe_fld (pv 0) rfl) pa_nil)))) (pg_tup rfl (pgs_cons (pg_name (i := 4) sc_note.nd rfl (Or.inl rfl)) (pgs_cons (pg_name (i := 5) sc_note.nd rfl (Or.inl rfl)) pgs_nil))))
      (pss_one (ps_if (pt_cmp (pc_din hu (pv 2) (pe_dget2 hu (pv 5) (pv 1) pe_dnewT ⟨rfl, rfl, rfl, rfl⟩)))
        (pss_one (ps_ddelT hu (pe_dget hu (pv 5) (pv 1) (fun _ _ => rfl)) (pv 2)))
        (pss_one (ps_dput hu (pe_dsetd (pv 4) (pv 1) pe_dnewT ⟨rfl, rfl, rfl, rfl⟩) (pv 2) pe_int rfl)))), ?_⟩
    cases came with
    | true =>
      refine ⟨_, rfl, true, rfl, ?_⟩
      refine iteT ⟨_, rfl, c, CC, dx, _, _, rfl, hi, C.cl, C.nA, lkA _ _, _, rfl, c, CC, dx, _, _, rfl, hi, C.cl, C.nD, lkD _ _, by show 2 ≤ sizeLine; decide, fun t ht => ⟨t, _, rfl, SqT.of upd_same, rfl, _, _, rfl, _, _, rfl, rfl, ?_⟩⟩
      have k0 : Kp T [] H (upd H t (.tup [.ref da, .ref dd])) := .new ht
      have hC0 := hC.kp k0 (fun _ z => nomatch z) fun _ _ z => nomatch z
      show noteT { nx := fun x H' => Q V.non H', rt := Q } [some (V.ref c), some (V.str n), some (V.ref r), some (V.bl true), some (V.ref da), some (V.ref dd)] _
      refine note_core (T := T) (σ := [some (.ref c), some (.str n), some (.ref r), some (.bl true), some (.ref da), some (.ref dd)]) (hr := da) (tr := dd) (r := r) (eh := ea) (et := ed) (n := n) (k := k) rfl rfl rfl rfl hC0.la hC0.ld hC0.ne hC0.dis (k0.row hrow List.not_mem_nil) (ec_len hC.la.names oa) (rows_le3 hC.la dA hA) (fun hin H' et' k1 L1 L2 e1 e2 e3 => ?_) (fun hin H' eh' k1 L1 L2 e1 e2 e3 => ?_)
      · have hDt : D' n k = true := (hD n k).mp hin
        have kH : Kp T (chC da dd ea ed) H H' := (k0.mono fun _ z => by cases z).transS k1
        have hi' := kH.ins hi (Mu.ni (fun b hb => .dct (hC.dct b hb)) hi)
        have md : ∀ e' ∈ et', ∃ e0 ∈ ed, e0.di = e'.di := fun e' he' => by
          have : e'.di ∈ et'.map (·.di) := List.mem_map.mpr ⟨e', he', rfl⟩
          rw [e1] at this
          exact List.mem_map.mp this
        refine kk H' (chC da dd ea et') kH ⟨da, dd, ea, et', ⟨⟨dx, hi'⟩, L1, L2, hC.ne, fun e he e' he' => ?_⟩, rfl, ?_, ?_, oa, fun e' he' => ?_, ?_, ?_⟩ fun b hb => ?_
        · obtain ⟨e0, h0, q⟩ := md e' he'
          rw [← q]
          exact hC.dis e he e0 h0
        · simp only [if_true, noteH, hDt]
          exact hA
        · simp only [if_true, noteG, hDt]
          exact del_rows hD e3
        · have : e'.nm ∈ et'.map (·.nm) := List.mem_map.mpr ⟨e', he', rfl⟩
          rw [e2] at this
          obtain ⟨e0, h0, q⟩ := List.mem_map.mp this
          rw [← q]
          exact od e0 h0
        · simp only [if_true, noteH, hDt]
          exact dA
        · simp only [if_true, noteG, hDt]
          exact dD.del
        · left
          rcases mem_chC.mp hb with h | h | h | ⟨e', he', q⟩
          · exact mem_chC.mpr (.inl h)
          · exact mem_chC.mpr (.inr (.inl h))
          · exact mem_chC.mpr (.inr (.inr (.inl h)))
          · obtain ⟨e0, h0, q0⟩ := md e' he'
            exact mem_chC.mpr (.inr (.inr (.inr ⟨e0, h0, by rw [q0, q]⟩)))
      · have hDf : ¬ D' n k = true := fun z => hin ((hD n k).mpr z)
        have kH : Kp T (chC da dd ea ed) H H' := (k0.mono fun _ z => by cases z).transS k1
        have hi' := kH.ins hi (Mu.ni (fun b hb => .dct (hC.dct b hb)) hi)
        refine kk H' (chC da dd eh' ed) kH ⟨da, dd, eh', ed, ⟨⟨dx, hi'⟩, L1, L2, hC.ne, fun e he e' he' => ?_⟩, rfl, ?_, ?_, fun e he => ?_, od, ?_, ?_⟩ fun b hb => ?_
        · rcases e2 e he with h | h
          · obtain ⟨e0, h0, q⟩ := List.mem_map.mp h
            rw [← q]
            exact hC.dis e0 h0 e' he'
          · exact ((k0.nw h).ne (hC.ld.ins e' he').1 .dT).symm
        · simp only [if_true, noteH, hDf]
          exact put_rows hA e3
        · simp only [if_true, noteG, hDf]
          exact hD
        · rcases e1 e he with h | h
          · rw [h]; exact hn
          · obtain ⟨e0, h0, q⟩ := List.mem_map.mp h
            rw [← q]
            exact oa e0 h0
        · simp only [if_true, noteH, hDf]
          exact dA.put hn hk
        · simp only [if_true, noteG, hDf]
          exact dD
        · rcases mem_chC.mp hb with h | h | ⟨e, he, q⟩ | h
          · exact .inl (mem_chC.mpr (.inl h))
          · exact .inl (mem_chC.mpr (.inr (.inl h)))
          · rcases e2 e he with h | h
            · obtain ⟨e0, h0, q0⟩ := List.mem_map.mp h
              exact .inl (mem_chC.mpr (.inr (.inr (.inl ⟨e0, h0, by rw [q0, q]⟩))))
            · exact .inr (by rw [← q]; exact k0.nw h)
          · exact .inl (mem_chC.mpr (.inr (.inr (.inr h))))
    | false =>
      refine ⟨_, rfl, false, rfl, ?_⟩
      refine iteF ⟨_, rfl, c, CC, dx, _, _, rfl, hi, C.cl, C.nD, lkD _ _, _, rfl, c, CC, dx, _, _, rfl, hi, C.cl, C.nA, lkA _ _, by show 2 ≤ sizeLine; decide, fun t ht => ⟨t, _, rfl, SqT.of upd_same, rfl, _, _, rfl, _, _, rfl, rfl, ?_⟩⟩
      have k0 : Kp T [] H (upd H t (.tup [.ref dd, .ref da])) := .new ht
      have hC0 := hC.kp k0 (fun _ z => nomatch z) fun _ _ z => nomatch z
      show noteT { nx := fun x H' => Q V.non H', rt := Q } [some (V.ref c), some (V.str n), some (V.ref r), some (V.bl false), some (V.ref dd), some (V.ref da)] _
      refine note_core (T := T) (σ := [some (.ref c), some (.str n), some (.ref r), some (.bl false), some (.ref dd), some (.ref da)]) (hr := dd) (tr := da) (r := r) (eh := ed) (et := ea) (n := n) (k := k) rfl rfl rfl rfl hC0.ld hC0.la hC0.ne.symm (fun e he e' he' => (hC0.dis e' he' e he).symm) (k0.row hrow List.not_mem_nil) (ec_len hC.ld.names od) (rows_le3 hC.ld dD hD) (fun hin H' et' k1 L1 L2 e1 e2 e3 => ?_) (fun hin H' eh' k1 L1 L2 e1 e2 e3 => ?_)
      · have hDt : A' n k = true := (hA n k).mp hin
        have kH : Kp T (chC da dd ea ed) H H' := (k0.mono fun _ z => by cases z).trans k1 fun b hb => .inl (chC_swap.mp hb)
        have hi' := kH.ins hi (Mu.ni (fun b hb => .dct (hC.dct b hb)) hi)
        have md : ∀ e' ∈ et', ∃ e0 ∈ ea, e0.di = e'.di := fun e' he' => by
          have : e'.di ∈ et'.map (·.di) := List.mem_map.mpr ⟨e', he', rfl⟩
          rw [e1] at this
          exact List.mem_map.mp this
        refine kk H' (chC da dd et' ed) kH ⟨da, dd, et', ed, ⟨⟨dx, hi'⟩, L2, L1, hC.ne, fun e he e' he' => ?_⟩, rfl, ?_, ?_, fun e' he' => ?_, od, ?_, ?_⟩ fun b hb => ?_
        · obtain ⟨e0, h0, q⟩ := md e he
          rw [← q]
          exact hC.dis e0 h0 e' he'
        · simp only [Bool.false_eq_true, if_false, noteG, hDt, if_true]
          exact del_rows hA e3
        · simp only [Bool.false_eq_true, if_false, noteH, hDt, if_true]
          exact hD
        · have : e'.nm ∈ et'.map (·.nm) := List.mem_map.mpr ⟨e', he', rfl⟩
          rw [e2] at this
          obtain ⟨e0, h0, q⟩ := List.mem_map.mp this
          rw [← q]
          exact oa e0 h0
        · simp only [Bool.false_eq_true, if_false, noteG, hDt, if_true]
          exact dA.del
        · simp only [Bool.false_eq_true, if_false, noteH, hDt, if_true]
          exact dD
        · left
          rcases mem_chC.mp hb with h | h | ⟨e', he', q⟩ | h
          · exact mem_chC.mpr (.inl h)
          · exact mem_chC.mpr (.inr (.inl h))
          · obtain ⟨e0, h0, q0⟩ := md e' he'
            exact mem_chC.mpr (.inr (.inr (.inl ⟨e0, h0, by rw [q0, q]⟩)))
          · exact mem_chC.mpr (.inr (.inr (.inr h)))
      · have hDf : ¬ A' n k = true := fun z => hin ((hA n k).mpr z)
        have kH : Kp T (chC da dd ea ed) H H' := (k0.mono fun _ z => by cases z).trans k1 fun b hb => .inl (chC_swap.mp hb)
        have hi' := kH.ins hi (Mu.ni (fun b hb => .dct (hC.dct b hb)) hi)
        refine kk H' (chC da dd ea eh') kH ⟨da, dd, ea, eh', ⟨⟨dx, hi'⟩, L2, L1, hC.ne, fun e he e' he' => ?_⟩, rfl, ?_, ?_, oa, fun e he => ?_, ?_, ?_⟩ fun b hb => ?_
        · rcases e2 e' he' with h | h
          · obtain ⟨e0, h0, q⟩ := List.mem_map.mp h
            rw [← q]
            exact hC.dis e he e0 h0
          · exact (k0.nw h).ne (hC.la.ins e he).1 .dT
        · simp only [Bool.false_eq_true, if_false, noteG, hDf]
          exact hA
        · simp only [Bool.false_eq_true, if_false, noteH, hDf]
          exact put_rows hD e3
        · rcases e1 e he with h | h
          · rw [h]; exact hn
          · obtain ⟨e0, h0, q⟩ := List.mem_map.mp h
            rw [← q]
            exact od e0 h0
        · simp only [Bool.false_eq_true, if_false, noteG, hDf]
          exact dA
        · simp only [Bool.false_eq_true, if_false, noteH, hDf]
          exact dD.put hn hk
        · rcases mem_chC.mp hb with h | h | h | ⟨e, he, q⟩
          · exact .inl (mem_chC.mpr (.inl h))
          · exact .inl (mem_chC.mpr (.inr (.inl h)))
          · exact .inl (mem_chC.mpr (.inr (.inr (.inl h))))
          · rcases e2 e he with h | h
            · obtain ⟨e0, h0, q0⟩ := List.mem_map.mp h
              exact .inl (mem_chC.mpr (.inr (.inr (.inr ⟨e0, h0, by rw [q0, q]⟩))))
            · exact .inr (by rw [← q]; exact k0.nw h)
end
end DH
namespace DH
open PySem PySem.Spec L2
open PyProof.Rows hiding St
theorem isKeys_rows {H : Hp} : ∀ {L : List Int} {bs : List Addr}, IsKeys H (rowD L) bs → ∃ os : List (Addr × Int), rfs os = bs.map V.ref ∧ RowsAt H os ∧ os.map (·.2) = L := by
  intro L
  induction L with
  | nil =>
    intro bs h
    cases h
    exact ⟨[], rfl, (fun _ z => by cases z), rfl⟩
  | cons k L ih =>
    intro bs h
    cases h with
    | cons h t =>
      obtain ⟨os, h1, h2, h3⟩ := ih t
      rename_i b bs'
      refine ⟨(b, k) :: os, ?_, fun o ho => ?_, ?_⟩
      · show V.ref b :: rfs os = _
        rw [h1]
        rfl
      · rcases List.mem_cons.mp ho with rfl | ho
        · exact h
        · exact h2 o ho
      · show k :: os.map (·.2) = _
        rw [h3]
section
variable {P : Program} {w : World} {K : PySem.W.Frag} {mg : Str → Option Value} {base : Heap} {T : List (Addr × Str)}
/-- list(self.added.get(name, {})): the rows that came, or went -/
def spCame (T : List (Addr × Str)) (CC : Addr) (went : Bool) : Sp := fun vs H Q _ => ∃ (c : Addr) (F : List Addr) (A D : Cont) (n : Str), vs = [.ref c, .str n] ∧ ChS H CC c F A D ∧
  ∀ (p : Addr) (os : List (Addr × Int)) (H' : Hp), Kp T [] H H' → Nw H p → H' p = some (.lst (rfs os)) → RowsAt H' os → (os.map (·.2)).Nodup → (∀ k, k ∈ os.map (·.2) ↔ (if went then D n k else A n k) = true) → Q (.ref p) H'
theorem sc_came : FnScope ["self", "name"] ["self", "name"] (defScope sCCame) := ⟨rfl, rfl, rfl, by decide +kernel, rfl, by decide +kernel, by decide +kernel⟩
theorem sc_went : FnScope ["self", "name"] ["self", "name"] (defScope sCWent) := ⟨rfl, rfl, rfl, by decide +kernel, rfl, by decide +kernel, by decide +kernel⟩
theorem came_core {H : Hp} {d : Addr} {es : List CE} {n : Str} {S : Cont} {Q : VK} (L : LvAt H d es) (hS : ∀ n k, k ∈ rowsC es n ↔ S n k = true)
    (k : ∀ (p : Addr) (os : List (Addr × Int)) (H' : Hp), Kp T [] H H' → Nw H p → H' p = some (.lst (rfs os)) → RowsAt H' os → (os.map (·.2)).Nodup → (∀ k, k ∈ os.map (·.2) ↔ S n k = true) → Q (.ref p) H') :
    ∀ q, H q = none → ∃ o, DGet (upd H q (.dT [])) d (.str n) o ∧ ∃ x kvs, [o.getD (.ref q)] = [V.ref x] ∧ Rd (upd H q (.dT [])) x (.dT kvs) ∧ ∀ p bs, (upd H q (.dT [])) p = none → IsKeys (upd H q (.dT [])) kvs bs → Q (.ref p) (upd (upd H q (.dT [])) p (.lst (bs.map V.ref))) := by
  intro q hq
  have kq : Kp T [] H (upd H q (.dT [])) := .new hq
  have L1 := L.kp kq List.not_mem_nil fun _ _ => List.not_mem_nil
  refine ⟨(findC es n).map fun e => V.ref e.di, by rw [← valV_lvD]; exact DGet.k (k := Sum.inr n) L1.dict, ?_⟩
  have fin : ∀ (x : Addr) (L : List Int), upd H q (.dT []) x = some (.dT (rowD L)) → L.Nodup → L = rowsC es n → ∀ p bs, (upd H q (.dT [])) p = none → IsKeys (upd H q (.dT [])) (rowD L) bs → Q (.ref p) (upd (upd H q (.dT [])) p (.lst (bs.map V.ref))) := by
    intro x L hx nd er p bs hp hb
    obtain ⟨os, h1, h2, h3⟩ := isKeys_rows hb
    have kp : Kp T [] (upd H q (.dT [])) (upd (upd H q (.dT [])) p (.lst (bs.map V.ref))) := .new hp
    refine k p os _ (kq.trans0 kp) (kq.fresh hp) (by rw [upd_same, h1]) (h2.kp kp fun _ _ => List.not_mem_nil) (by rw [h3]; exact nd) fun i => ?_
    rw [h3, er]
    exact hS n i
  cases hf : findC es n with
  | none => exact ⟨q, rowD [], rfl, .inl upd_same, fin q [] upd_same List.nodup_nil (by unfold rowsC; rw [hf]; rfl)⟩
  | some e =>
    obtain ⟨hm, _⟩ := findC_some hf
    exact ⟨e.di, rowD e.rows, rfl, .inl (L1.ins e hm).1, fin e.di e.rows (L1.ins e hm).1 (L1.ins e hm).2 (by unfold rowsC; rw [hf]; rfl)⟩
theorem ok_came {f CC : Addr} {fd : FuncData} (F : Fun K "came" "Changes.came" sCCame f fd) (C : ChT K mg CC) (zL : mg "list" = none) : FnOk P w K mg base CX0 1 f fd ["self", "name"] (spCame T CC false) := by
  refine F.ok sc_came (fun vs H Q E h => ?_) (fun cdv A outer s H vs Q E hr h => ?_)
  · obtain ⟨c, F, A, D, n, rfl, _⟩ := h
    rfl
  · obtain ⟨c, F, A, D, n, rfl, hCh, k⟩ := h
    have hu := hu_of hr
    obtain ⟨da, dd, ea, ed, hC, rfl, hA, hD, oa, od, dA, dD⟩ := id hCh
    obtain ⟨dx, hi⟩ := hC.ins
    refine ⟨_, pss_one (ps_ret (pe_callTy (call_list_dT rfl) rfl zL (show bootBuiltins "list" = some (.type "list") by decide +kernel) (pa_cons (pe_dget2 hu (pe_fld (pv 0) rfl) (pv 1) pe_dnewT ⟨rfl, rfl, rfl, rfl⟩) pa_nil))), ?_⟩
    exact ⟨_, rfl, c, CC, dx, _, _, rfl, hi, C.cl, C.nA, lkA _ _, da, rfl, .inl ⟨_, .inl hC.la.dict⟩, _, rfl, came_core hC.la hA k⟩
theorem ok_went {f CC : Addr} {fd : FuncData} (F : Fun K "went" "Changes.went" sCWent f fd) (C : ChT K mg CC) (zL : mg "list" = none) : FnOk P w K mg base CX0 1 f fd ["self", "name"] (spCame T CC true) := by
  refine F.ok sc_went (fun vs H Q E h => ?_) (fun cdv A outer s H vs Q E hr h => ?_)
  · obtain ⟨c, F, A, D, n, rfl, _⟩ := h
    rfl
  · obtain ⟨c, F, A, D, n, rfl, hCh, k⟩ := h
    have hu := hu_of hr
    obtain ⟨da, dd, ea, ed, hC, rfl, hA, hD, oa, od, dA, dD⟩ := id hCh
    obtain ⟨dx, hi⟩ := hC.ins
    refine ⟨_, pss_one (ps_ret (pe_callTy (call_list_dT rfl) rfl zL (show bootBuiltins "list" = some (.type "list") by decide +kernel) (pa_cons (pe_dget2 hu (pe_fld (pv 0) rfl) (pv 1) pe_dnewT ⟨rfl, rfl, rfl, rfl⟩) pa_nil))), ?_⟩
    exact ⟨_, rfl, c, CC, dx, _, _, rfl, hi, C.cl, C.nD, lkD _ _, dd, rfl, .inl ⟨_, .inl hC.ld.dict⟩, _, rfl, came_core hC.ld hD k⟩
end
theorem Wr.frz {o : Obj} {u : HO} : Wr (.frz o u) := ⟨(fun _ z => by cases z), (fun _ _ z => by unfold LamX.CodeO at z; cases z)⟩
theorem unlock_kp {T : List (Addr × Str)} {H H2 : Hp} {d D : Addr} {od : Obj} {u : HO} {x : HO} (hd : H d = some u) (wu : Wr u) (hD : (upd H d (.frz od u)) D = none) (k : Kp T [D] (upd (upd H d (.frz od u)) D x) H2) : H2 d = some (.frz od u) ∧ Kp T [] H (upd H2 d u) := by
  have ndD : d ≠ D := ne_of_none upd_same hD
  have hd2 : H2 d = some (.frz od u) := k.keep d _ (by rw [upd_ne ndD]; exact upd_same) .frz (by simpa using ndD)
  have ne : ∀ b o, H b = some o → b ≠ d → upd (upd H d (.frz od u)) D x b = some o ∧ b ≠ D := fun b o e hb => by
    have e1 : upd H d (.frz od u) b = some o := by rw [upd_ne hb]; exact e
    have hbD := ne_of_none e1 hD
    exact ⟨by rw [upd_ne hbD]; exact e1, hbD⟩
  refine ⟨hd2, ⟨fun b o e n _ => ?_, fun b o e n => ?_, fun t => ?_⟩⟩
  · by_cases hb : b = d
    · rw [hb, hd] at e
      cases e
      rw [hb, upd_same]
    · rw [upd_ne hb]
      obtain ⟨e1, hbD⟩ := ne b o e hb
      exact k.keep b o e1 n (by simpa using hbD)
  · by_cases hb : b = d
    · exact ⟨u, by rw [hb, upd_same], wu.1⟩
    · obtain ⟨e1, hbD⟩ := ne b o e hb
      exact ⟨o, by rw [upd_ne hb]; exact k.keep b o e1 n (by simpa using hbD), n⟩
  · refine tabs_put hd2 .frz (k.tabs ?_)
    exact (tabs_put hd wu t).ext fun b o e => by rw [upd_ne (ne_of_none e hD)]; exact e
/-- (name, 1) of each name whose dict isn't empty -/
def neNames (es : List CE) : List Str := (es.filter fun e => decide (e.rows ≠ [])).map (·.nm)
abbrev cnTest (K : PySem.W.Frag) (at_ : Str) : TT := tTest (tOp rNeE (tDGet (tFld K (tVar 0) at_) (tVar 2)) tDNewT)
abbrev cnElt : TE := tTup (tCons (tVar 2) (tCons (tC (.int 1)) tNil))
theorem lc_lv {K : PySem.W.Frag} {T : List (Addr × Str)} {CC c dx d D : Addr} {od : Obj} {es : List CE} {fs : List (Str × V)} {at_ : Str} {x1 x2 : Option V} {H1 : Hp} {Qd : Hp → Prop} (hd : H1 d = some (.frz od (.dK (lvD es)))) (hD : H1 D = none) (hins : ∀ e ∈ es, H1 e.di = some (.dT (rowD e.rows))) (nd : (es.map (·.nm)).Nodup) (hl : es.length ≤ 2)
    (hi : H1 c = some (.ins CC dx fs)) (cl : Cls K CC) (na : NoAttr K CC at_) (lk : fs.lookup at_ = some (.ref d))
    (hq : ∀ H2 ps, Kp T [D] (upd H1 D (.lst [])) H2 → H2 D = some (.lst (ps.map V.ref)) → Paired (fun (p : Addr) (n : Str) => H2 p = some (.tup [.str n, .int 1])) ps (neNames es) → Qd H2) :
    ∃ W : Nat → Nat → Hp → Prop, (∃ m, W 0 m (upd H1 D (.lst []))) ∧ ∀ i m H, W i m H →
      ((Itk d od (lvD es)).stop i H ∧ Qd H) ∨ ((Itk d od (lvD es)).go i H ∧ ∃ Nx : Hp → Prop, (∀ H', Nx H' → ∃ m', m' < m ∧ W (i + 1) m' H') ∧ ∀ x H', (Itk d od (lvD es)).yld i H x H' → gName 2 x (wipe [some (.ref c), x1, x2] [2]) H' fun σ2 H2 => wipe σ2 [2] = wipe [some (.ref c), x1, x2] [2] ∧ cnTest K at_ σ2 H2 fun b H3 =>
        if b = true then cnElt σ2 H3 fun y H4 => ∃ acc, H4 D = some (.lst acc) ∧ acc.length < sizeLine ∧ Nx (upd H4 D (.lst (acc ++ [y]))) else Nx H3) := by
  have ndD : d ≠ D := ne_of_none hd hD
  have ncD : c ≠ D := ne_of_none hi hD
  have hlen : (lvD es).length = es.length := by unfold lvD; rw [List.length_map]
  refine lc_it (walk_keys (d := d) (o := od) (kvs := lvD es)) (fun i H2 => Kp T [D] (upd H1 D (.lst [])) H2 ∧ ∃ ps, H2 D = some (.lst (ps.map V.ref)) ∧ Paired (fun (p : Addr) (n : Str) => H2 p = some (.tup [.str n, .int 1])) ps (neNames (es.take i))) ⟨.refl _ _ _, [], upd_same, .nil⟩ ?_ ?_ ?_
  · rintro i H2 _ ⟨k, _⟩
    exact k.keep d _ (by rw [upd_ne ndD]; exact hd) .frz (by simpa using ndD)
  · rintro i x H2 H' hi' ⟨k, ps, hps, hpp⟩ ⟨rfl, ky, v, hkv, rfl⟩
    unfold lvD at hkv
    rw [List.getElem?_map] at hkv
    obtain ⟨e, he, eq⟩ := Option.map_eq_some_iff.mp hkv
    cases eq
    have hm := List.mem_of_getElem? he
    have hd2 : H' d = some (.frz od (.dK (lvD es))) := k.keep d _ (by rw [upd_ne ndD]; exact hd) .frz (by simpa using ndD)
    have hi2 : H' c = some (.ins CC dx fs) := k.ins (by rw [upd_ne ncD]; exact hi) (by simpa using ncD)
    have neD : e.di ≠ D := ne_of_none (hins e hm) hD
    have hin2 : H' e.di = some (.dT (rowD e.rows)) := k.dT (by rw [upd_ne neD]; exact hins e hm) (by simpa using neD)
    have hf : findC es e.nm = some e := findC_of nd hm
    have tk : neNames (es.take (i + 1)) = neNames (es.take i) ++ (if e.rows ≠ [] then [e.nm] else []) := by
      unfold neNames
      rw [List.take_add_one, he, List.filter_append, List.map_append]
      congr 1
      show List.map _ (List.filter _ [e]) = _
      by_cases q : e.rows = []
      · simp [q]
      · simp [q]
    have pl : ps.length ≤ 2 := by
      have := Paired.length hpp
      rw [this]
      unfold neNames
      rw [List.length_map]
      refine Nat.le_trans (List.length_filter_le _ _) ?_
      rw [List.length_take]
      omega
    refine ⟨rfl, _, rfl, c, CC, dx, _, _, rfl, hi2, cl, na, lk, _, rfl, d, V.ref e.di, rfl, ?_, fun q hq => ⟨e.di, q, rowD e.rows, rfl, rfl, ?_, upd_same, _, rfl, ?_⟩⟩
    · refine .inl ⟨_, Sum.inr e.nm, .inr ⟨od, hd2⟩, rfl, ?_⟩
      rw [valV_lvD, hf]
      rfl
    · rw [upd_ne (ne_of_none hin2 hq)]
      exact hin2
    · have kq : Kp T [] H' (upd H' q (.dT [])) := .new hq
      have hD2 : H' D = some (.lst (ps.map V.ref)) := hps
      refine ite2 (fun hb => ?_) (fun hb => ?_)
      · have hne : e.rows ≠ [] := fun z => by rw [z] at hb; exact absurd hb (by decide)
        refine ⟨_, rfl, by show 2 ≤ sizeLine; decide, fun t ht => ⟨ps.map V.ref, ?_, by rw [List.length_map]; exact small1000 (by omega), ?_⟩⟩
        · have k1 : Kp T [] H' (upd (upd H' q (.dT [])) t (.tup [V.str e.nm, V.int 1])) := kq.trans0 (.new ht)
          exact k1.lst hps List.not_mem_nil
        · have k1 : Kp T [] H' (upd (upd H' q (.dT [])) t (.tup [V.str e.nm, V.int 1])) := kq.trans0 (.new ht)
          have k2 : Kp T [D] H' (upd (upd (upd H' q (.dT [])) t (.tup [V.str e.nm, V.int 1])) D (.lst (ps.map V.ref ++ [V.ref t]))) := (k1.mono fun _ z => by cases z).transS (upd_kpD (k1.lst hps List.not_mem_nil))
          refine ⟨k.transS k2, ps ++ [t], by rw [upd_same, List.map_append]; rfl, ?_⟩
          rw [tk, if_pos hne]
          have ntD : t ≠ D := fun z => by
            have := kq.lst hps List.not_mem_nil
            rw [z, this] at ht
            cases ht
          refine Paired.snoc (Paired.mapP hpp fun p n hp => k2.tup hp (by
            have : p ≠ D := ne_of hp hps (fun z => by cases z)
            simpa using this)) (by rw [upd_ne ntD, upd_same]; rfl)
      · have hne : e.rows = [] := by
          cases h : e.rows with
          | nil => rfl
          | cons a r =>
            rw [h] at hb
            exact absurd rfl hb
        refine ⟨k.trans0 kq, ps, kq.lst hps List.not_mem_nil, ?_⟩
        rw [tk, hne, if_neg (by simp), List.append_nil]
        exact Paired.mapP hpp fun p n hp => kq.tup hp List.not_mem_nil
  · rintro H2 ⟨k, ps, hps, hpp⟩
    rw [hlen, List.take_of_length_le (Nat.le_refl _)] at hpp
    exact hq H2 ps k hps hpp
end DH
namespace DH
open PySem PySem.Spec L2
open PyProof.Rows hiding St
def mkN (ns : List Str) : List (L2.Key × V) := ns.map fun n => (Sum.inr n, V.int 1)
theorem mem_putK {kvs : List (L2.Key × V)} {k key : L2.Key} {v : V} : key ∈ (putK kvs k v).map (·.1) ↔ key ∈ kvs.map (·.1) ∨ key = k := by
  unfold putK
  split
  · rename_i h
    have e : (kvs.map fun kv => if kv.1 = k then (kv.1, v) else kv).map (·.1) = kvs.map (·.1) := by
      rw [List.map_map]
      refine List.map_congr_left fun a _ => ?_
      simp only [Function.comp]
      split <;> rfl
    rw [e]
    constructor
    · exact .inl
    · rintro (h' | rfl)
      · exact h'
      · rw [List.any_eq_true] at h
        obtain ⟨p, hp, q⟩ := h
        exact List.mem_map.mpr ⟨p, hp, of_decide_eq_true q⟩
  · rw [List.map_append, List.mem_append]
    simp
theorem nodup_putK {kvs : List (L2.Key × V)} {k : L2.Key} {v : V} (nd : (kvs.map (·.1)).Nodup) : ((putK kvs k v).map (·.1)).Nodup := by
  unfold putK
  split
  · have e : (kvs.map fun kv => if kv.1 = k then (kv.1, v) else kv).map (·.1) = kvs.map (·.1) := by
      rw [List.map_map]
      refine List.map_congr_left fun a _ => ?_
      simp only [Function.comp]
      split <;> rfl
    rw [e]
    exact nd
  · rename_i h
    rw [List.map_append, List.nodup_append]
    refine ⟨nd, by simp, fun a ha b hb => ?_⟩
    have hb' : b = k := by simpa using hb
    rw [hb']
    rintro rfl
    obtain ⟨p, hp, q⟩ := List.mem_map.mp ha
    exact h (List.any_eq_true.mpr ⟨p, hp, decide_eq_true q⟩)
theorem merge_keys : ∀ (ns : List Str) (kvs : List (L2.Key × V)), (∀ key, key ∈ (mergeK kvs (mkN ns)).map (·.1) ↔ key ∈ kvs.map (·.1) ∨ ∃ n ∈ ns, key = Sum.inr n) ∧ ((kvs.map (·.1)).Nodup → ((mergeK kvs (mkN ns)).map (·.1)).Nodup)
  | [], kvs => ⟨fun key => by simp [mkN, mergeK], fun h => h⟩
  | n :: ns, kvs => by
    obtain ⟨h1, h2⟩ := merge_keys ns (putK kvs (Sum.inr n) (V.int 1))
    refine ⟨fun key => ?_, fun h => h2 (nodup_putK h)⟩
    show key ∈ (mergeK (putK kvs (Sum.inr n) (V.int 1)) (mkN ns)).map (·.1) ↔ _
    rw [h1 key, mem_putK]
    simp only [List.mem_cons, exists_eq_or_imp, or_assoc]
theorem inr_list : ∀ {l : List L2.Key}, (∀ key ∈ l, ∃ n, key = Sum.inr n) → ∃ ks : List Str, l = ks.map Sum.inr
  | [], _ => ⟨[], rfl⟩
  | a :: l, h => by
    obtain ⟨n, rfl⟩ := h a (by simp)
    obtain ⟨ks, rfl⟩ := inr_list (l := l) fun key hk => h key (List.mem_cons_of_mem _ hk)
    exact ⟨n :: ks, rfl⟩
def namesC (A D : Cont) : List Str := [pS, qS].filter fun n => decide (rowsS A n ≠ [] ∨ rowsS D n ≠ [])
/-- a sorted list of names, told by who is in it -/
theorem names_eq2 {ys : List Str} {p : Str → Bool} (nd : ys.Nodup) (hs : sortedS ys = true) (h : ∀ n, n ∈ ys ↔ nmOk n ∧ p n = true) : ys = [pS, qS].filter p := by
  have npq := pq_ne
  have hp : pS ∈ ys ↔ p pS = true := (h pS).trans ⟨fun z => z.2, fun z => ⟨.inl rfl, z⟩⟩
  have hq : qS ∈ ys ↔ p qS = true := (h qS).trans ⟨fun z => z.2, fun z => ⟨.inr rfl, z⟩⟩
  rcases two_cases nd (fun n hn => ((h n).mp hn).1) hs with e | e | e | e
  all_goals subst e
  · have e1 : p pS = false := by cases q : p pS with
      | false => rfl
      | true => exact absurd (hp.mpr q) (by simp)
    have e2 : p qS = false := by cases q : p qS with
      | false => rfl
      | true => exact absurd (hq.mpr q) (by simp)
    simp [List.filter_cons, e1, e2]
  · have e1 : p pS = true := hp.mp (by simp)
    have e2 : p qS = false := by cases q : p qS with
      | false => rfl
      | true => exact absurd (hq.mpr q) (by simpa using Ne.symm npq)
    simp [List.filter_cons, e1, e2]
  · have e1 : p pS = false := by cases q : p pS with
      | false => rfl
      | true => exact absurd (hp.mpr q) (by simpa using npq)
    have e2 : p qS = true := hq.mp (by simp)
    simp [List.filter_cons, e1, e2]
  · have e1 : p pS = true := hp.mp (by simp)
    have e2 : p qS = true := hq.mp (by simp)
    simp [List.filter_cons, e1, e2]
theorem mem_neNames {es : List CE} {S : Cont} (nd : (es.map (·.nm)).Nodup) (ok : ∀ e ∈ es, nmOk e.nm) (d : Dom S) (h : ∀ n k, k ∈ rowsC es n ↔ S n k = true) (n : Str) : n ∈ neNames es ↔ nmOk n ∧ rowsS S n ≠ [] := by
  have hn : rowsC es n = [] ↔ rowsS S n = [] := by
    constructor
    · intro z
      cases q : rowsS S n with
      | nil => rfl
      | cons k r =>
        have : k ∈ rowsS S n := by rw [q]; simp
        rw [mem_rowsS d, ← h, z] at this
        cases this
    · intro z
      cases q : rowsC es n with
      | nil => rfl
      | cons k r =>
        have : k ∈ rowsC es n := by rw [q]; simp
        rw [h, ← mem_rowsS d, z] at this
        cases this
  unfold neNames
  rw [List.mem_map]
  constructor
  · rintro ⟨e, he, rfl⟩
    rw [List.mem_filter] at he
    refine ⟨ok e he.1, fun z => ?_⟩
    have hf := findC_of nd he.1
    have er : rowsC es e.nm = e.rows := by unfold rowsC; rw [hf]; rfl
    have := hn.mpr z
    rw [er] at this
    simp [this] at he
  · rintro ⟨_, hr⟩
    cases q : findC es n with
    | none =>
      refine absurd (hn.mp ?_) hr
      unfold rowsC
      rw [q]
      rfl
    | some e =>
      obtain ⟨h1, h2⟩ := findC_some q
      have er : rowsC es n = e.rows := by unfold rowsC; rw [q]; rfl
      refine ⟨e, List.mem_filter.mpr ⟨h1, ?_⟩, h2⟩
      refine decide_eq_true fun z => hr (hn.mp (by rw [er, z]))
structure PyT (mg : Str → Option Value) : Prop where
  tup : mg "tuple" = none
  srt : mg "sorted" = none
  dic : mg "dict" = none
  lis : mg "list" = none
section
variable {P : Program} {w : World} {K : PySem.W.Frag} {mg : Str → Option Value} {base : Heap} {T : List (Addr × Str)}
def spCNames (T : List (Addr × Str)) (CC : Addr) : Sp := fun vs H Q _ => ∃ (c : Addr) (F : List Addr) (A D : Cont), vs = [.ref c] ∧ ChS H CC c F A D ∧
  ∀ (p : Addr) (H' : Hp), Kp T [] H H' → Nw H p → H' p = some (.tup ((namesC A D).map V.str)) → Q (.ref p) H'
theorem sc_cnames : FnScope ["self", "found", "name"] ["self"] (defScope sCNames) := ⟨rfl, rfl, rfl, by decide +kernel, rfl, by decide +kernel, by decide +kernel⟩
theorem paired_mk {H : Hp} : ∀ {ps : List Addr} {ns : List Str}, Paired (fun (p : Addr) (n : Str) => H p = some (.tup [.str n, .int 1])) ps ns → Paired (fun p (kv : L2.Key × V) => SqT K H p [kV kv.1, kv.2]) ps (mkN ns)
  | _, _, .nil => .nil
  | _, _, .cons h t => .cons (SqT.of h) (paired_mk t)
theorem ok_cnames {f CC : Addr} {fd : FuncData} (F : Fun K "names" "Changes.names" sCNames f fd) (C : ChT K mg CC) (Y : PyT mg) : FnOk P w K mg base CX0 1 f fd ["self"] (spCNames T CC) := by
  refine F.ok sc_cnames (fun vs H Q E h => ?_) (fun cdv A outer s H vs Q E hr h => ?_)
  · obtain ⟨c, F, A, D, rfl, _⟩ := h
    rfl
  · obtain ⟨c, F, A', D', rfl, hCh, k⟩ := h
    have hu := hu_of hr
    have hu0 : (A.deeper (envOfC "Changes.names" (defScope sCNames) s.heap.objs.size f cdv)).units < cLine := hr.units0
    obtain ⟨da, dd, ea, ed, hC, rfl, hA, hD, oa, od, dA, dD⟩ := id hCh
    obtain ⟨dx, hi⟩ := hC.ins
    refine ⟨_, pss_cons (ps_set (i := 1) sc_cnames.nd rfl (Or.inl rfl) (pe_callTy (call_dictP rfl) rfl Y.dic (show bootBuiltins "dict" = some (.type "dict") by decide +kernel) (pa_cons
        (pe_lock (pe_lc (own := [("name", 2)]) (g := gName 2) (tt := cnTest K "added") (te := cnElt) rfl sc_cnames.nd (pi_keys (pe_fld (pv 0) rfl)) (blkOk_by (N := ["self", "found", "name"]) (sc := defScope sCNames) (by decide +kernel))
          (fun _ _ _ _ _ => pg_name (i := 2) sc_cnames.nd rfl (Or.inl rfl)) (fun _ _ _ _ _ => pts_one (pt_cmpR (op_neE hu0) (pe_dget hu (pe_fld (pv 0) rfl) (pv 2) (fun _ _ => rfl)) pe_dnewT (nomark _))) (fun _ _ _ _ _ => pe_tup (pa_cons (pv 2) (pa_cons pe_int pa_nil))))) pa_nil)))
      (pss_cons (ps_expr (pe_bm PySem.F.plainAttrs_dict PySem.F.slot_dict_update PySem.F.type_dict_update (mt_updP rfl) (pv 1) (pa_cons
        (pe_lock (pe_lc (own := [("name", 2)]) (g := gName 2) (tt := cnTest K "dropped") (te := cnElt) rfl sc_cnames.nd (pi_keys (pe_fld (pv 0) rfl)) (blkOk_by (N := ["self", "found", "name"]) (sc := defScope sCNames) (by decide +kernel))
          (fun _ _ _ _ _ => pg_name (i := 2) sc_cnames.nd rfl (Or.inl rfl)) (fun _ _ _ _ _ => pts_one (pt_cmpR (op_neE hu0) (pe_dget hu (pe_fld (pv 0) rfl) (pv 2) (fun _ _ => rfl)) pe_dnewT (nomark _))) (fun _ _ _ _ _ => pe_tup (pa_cons (pv 2) (pa_cons pe_int pa_nil))))) pa_nil)))
      (pss_one (ps_ret (pe_callTy call_tuple_of rfl Y.tup (show bootBuiltins "tuple" = some (.type "tuple") by decide +kernel) (pa_cons (pe_callB (call_sortedD rfl) rfl Y.srt (show bootBuiltins "sorted" = some (.builtin "sorted") by decide +kernel) (pa_cons (pv 1) pa_nil)) pa_nil))))), ?_⟩
    refine ⟨da, _, hC.la.dict, trivial, fun o1 => ?_⟩
    have ncA : c ≠ da := ne_of hi hC.la.dict (fun z => by cases z)
    have niA : ∀ e ∈ ea, e.di ≠ da := fun e he => ne_of (hC.la.ins e he).1 hC.la.dict (fun z => by cases z)
    refine ⟨_, rfl, c, CC, dx, _, _, rfl, by rw [upd_ne ncA]; exact hi, C.cl, C.nA, lkA _ _, da, o1, rfl, .inl ⟨_, upd_same, fun D1 hD1 => ?_⟩⟩
    refine lc_lv (T := T) (x1 := none) (x2 := none) upd_same hD1 (fun e he => by rw [upd_ne (niA e he)]; exact (hC.la.ins e he).1) hC.la.names (ec_len hC.la.names oa) (by rw [upd_ne ncA]; exact hi) C.cl C.nA (lkA _ _) (fun H2 ps1 k2 hps1 hpp1 => ?_)
    obtain ⟨hz, kz⟩ := unlock_kp hC.la.dict .dK hD1 k2
    refine ⟨hz, ?_⟩
    have nD1 : D1 ≠ da := (ne_of_none upd_same hD1).symm
    refine ⟨D1, ps1, mkN (neNames ea), rfl, SqL.of (by rw [upd_ne nD1]; exact hps1), paired_mk (Paired.mapP hpp1 fun p n hp => ?_), fun fo nfo => ?_⟩
    · rw [upd_ne (ne_of hp hz (fun z => by cases z))]
      exact hp
    -- found
    have k3 : Kp T [] H (upd (upd H2 da (.dK (lvD ea))) fo (.dK (mergeK [] (mkN (neNames ea))))) := kz.trans0 (.new nfo)
    have hC3 := hC.kp k3 (fun _ z => nomatch z) fun _ _ z => nomatch z
    have nwf : Nw H fo := kz.fresh nfo
    obtain ⟨dx3, hi3⟩ := hC3.ins
    have hfo : (upd (upd H2 da (.dK (lvD ea))) fo (.dK (mergeK [] (mkN (neNames ea))))) fo = some (.dK (mergeK [] (mkN (neNames ea)))) := upd_same
    generalize upd (upd H2 da (.dK (lvD ea))) fo (.dK (mergeK [] (mkN (neNames ea)))) = H3 at k3 hC3 hi3 hfo ⊢
    refine ⟨_, rfl, .inr (.inr (.inl ⟨rfl, .inl ⟨_, hfo⟩⟩)), ?_⟩
    refine ⟨dd, _, hC3.ld.dict, trivial, fun o2 => ?_⟩
    have ncD : c ≠ dd := ne_of hi3 hC3.ld.dict (fun z => by cases z)
    have niD : ∀ e ∈ ed, e.di ≠ dd := fun e he => ne_of (hC3.ld.ins e he).1 hC3.ld.dict (fun z => by cases z)
    refine ⟨_, rfl, c, CC, dx3, _, _, rfl, by rw [upd_ne ncD]; exact hi3, C.cl, C.nD, lkD _ _, dd, o2, rfl, .inl ⟨_, upd_same, fun D2 hD2 => ?_⟩⟩
    refine lc_lv (T := T) (x1 := some (.ref fo)) (x2 := none) upd_same hD2 (fun e he => by rw [upd_ne (niD e he)]; exact (hC3.ld.ins e he).1) hC3.ld.names (ec_len hC.ld.names od) (by rw [upd_ne ncD]; exact hi3) C.cl C.nD (lkD _ _) (fun H4 ps2 k4 hps2 hpp2 => ?_)
    obtain ⟨hz4, kz4⟩ := unlock_kp hC3.ld.dict .dK hD2 k4
    refine ⟨hz4, ?_⟩
    have nD2 : D2 ≠ dd := (ne_of_none upd_same hD2).symm
    have nfd : fo ≠ dd := (nwf.ne hC.ld.dict .dK).symm
    have hfo4 : upd H4 dd (.dK (lvD ed)) fo = some (.dK (mergeK [] (mkN (neNames ea)))) := kz4.dK hfo List.not_mem_nil
    have l1 : (mergeK [] (mkN (neNames ea))).length ≤ 2 := by
      refine Nat.le_trans (length_mergeK _ _) ?_
      unfold mkN neNames
      rw [List.length_map, List.length_map]
      have := List.length_filter_le (fun e : CE => decide (e.rows ≠ [])) ea
      have := ec_len hC.la.names oa
      simp only [List.length_nil]
      omega
    have l2 : (mkN (neNames ed)).length ≤ 2 := by
      unfold mkN neNames
      rw [List.length_map, List.length_map]
      exact Nat.le_trans (List.length_filter_le _ _) (ec_len hC.ld.names od)
    have hsz : 4 ≤ sizeLine := by decide
    refine ⟨fo, D2, ps2, _, mkN (neNames ed), rfl, rfl, hfo4, SqL.of (by rw [upd_ne nD2]; exact hps2), paired_mk (Paired.mapP hpp2 fun p n hp => ?_), by omega, ?_⟩
    · rw [upd_ne (ne_of hp hz4 (fun z => by cases z))]
      exact hp
    obtain ⟨m1, m2⟩ := merge_keys (neNames ea) []
    obtain ⟨m3, m4⟩ := merge_keys (neNames ed) (mergeK [] (mkN (neNames ea)))
    have kf : Kp T [fo] (upd H4 dd (.dK (lvD ed))) (upd (upd H4 dd (.dK (lvD ed))) fo (.dK (mergeK (mergeK [] (mkN (neNames ea))) (mkN (neNames ed))))) := .put hfo4 .dK .dK (by simp)
    have k5 : Kp T [] H (upd (upd H4 dd (.dK (lvD ed))) fo (.dK (mergeK (mergeK [] (mkN (neNames ea))) (mkN (neNames ed))))) := (k3.trans0 kz4).trans kf fun b hb => .inr (by rw [List.mem_singleton.mp hb]; exact nwf)
    have mem : ∀ key, key ∈ (mergeK (mergeK [] (mkN (neNames ea))) (mkN (neNames ed))).map (·.1) ↔ ∃ n, key = Sum.inr n ∧ (nmOk n ∧ decide (rowsS A' n ≠ [] ∨ rowsS D' n ≠ []) = true) := by
      intro key
      rw [m3, m1]
      simp only [List.map_nil, List.not_mem_nil, false_or, decide_eq_true_eq]
      constructor
      · rintro (⟨n, hn, rfl⟩ | ⟨n, hn, rfl⟩)
        · have := (mem_neNames hC.la.names oa dA hA n).mp hn
          exact ⟨n, rfl, this.1, .inl this.2⟩
        · have := (mem_neNames hC.ld.names od dD hD n).mp hn
          exact ⟨n, rfl, this.1, .inr this.2⟩
      · rintro ⟨n, rfl, h1, h2 | h2⟩
        · exact .inl ⟨n, (mem_neNames hC.la.names oa dA hA n).mpr ⟨h1, h2⟩, rfl⟩
        · exact .inr ⟨n, (mem_neNames hC.ld.names od dD hD n).mpr ⟨h1, h2⟩, rfl⟩
    obtain ⟨ks, hks⟩ := inr_list (l := (mergeK (mergeK [] (mkN (neNames ea))) (mkN (neNames ed))).map (·.1)) fun key hk => by
      obtain ⟨n, e, _⟩ := (mem key).mp hk
      exact ⟨n, e⟩
    have ndk : ks.Nodup := by
      have := m4 (m2 (by simp))
      rw [hks] at this
      exact (List.pairwise_map.mp this).imp fun h e => h (by rw [e])
    have lks : ks.length < 64 := by
      have h1 : ks.length = (mergeK (mergeK [] (mkN (neNames ea))) (mkN (neNames ed))).length := by
        have := congrArg List.length hks
        simpa using this.symm
      have h2 := length_mergeK (mkN (neNames ed)) (mergeK [] (mkN (neNames ea)))
      omega
    refine ⟨_, rfl, fo, _, ks, rfl, .inl upd_same, hks, lks, fun ys p hp hs np => ⟨p, _, rfl, .inl ⟨SqL.of upd_same, fun l hl => ?_⟩⟩⟩
    have ey : ys = namesC A' D' := names_eq2 (hp.nodup_iff.mpr ndk) hs fun n => by
      rw [hp.mem_iff]
      have h1 : n ∈ ks ↔ (Sum.inr n : L2.Key) ∈ ks.map Sum.inr := by simp
      rw [h1, ← hks, mem]
      constructor
      · rintro ⟨n', e, h⟩
        injection e with e
        subst e
        exact h
      · exact fun h => ⟨n, rfl, h⟩
    subst ey
    have kp6 : Kp T [] H (upd (upd (upd H4 dd (.dK (lvD ed))) fo (.dK (mergeK (mergeK [] (mkN (neNames ea))) (mkN (neNames ed))))) p (.lst ((namesC A' D').map V.str))) := k5.trans0 (.new np)
    exact k l _ (kp6.trans0 (.new hl)) (kp6.fresh hl) upd_same
def spBare (T : List (Addr × Str)) (CC : Addr) : Sp := fun vs H Q _ => ∃ (c : Addr) (F : List Addr) (A D : Cont), vs = [.ref c] ∧ ChS H CC c F A D ∧ ∀ H', Kp T [] H H' → Q (.bl (decide (namesC A D = []))) H'
theorem sc_bare : FnScope ["self"] ["self"] (defScope sCBare) := ⟨rfl, rfl, rfl, by decide +kernel, rfl, by decide +kernel, by decide +kernel⟩
theorem dpStrs {H : Hp} : ∀ ns : List Str, DpAll K H (ns.map V.str) (ns.map PyData.str)
  | [] => .nil
  | n :: ns => .cons (.str n) (dpStrs ns)
theorem eqv_nil (ns : List Str) : PyData.eqv (.tuple (ns.map PyData.str)) (.tuple []) = decide (ns = []) := by
  cases ns with
  | nil => simp [PyData.eqv, PyData.eqvAll]
  | cons a r => simp [PyData.eqv, PyData.eqvAll]
theorem depth_strs : ∀ ns : List Str, PyData.depthAll (ns.map PyData.str) = 0
  | [] => rfl
  | n :: ns => by simp [PyData.depthAll, PyData.depth, depth_strs ns]
theorem strOk_nm {n : Str} (h : nmOk n) : PyData.strOk n = true := by
  rcases h with rfl | rfl <;> decide +kernel
theorem canLay_strs : ∀ ns : List Str, (∀ n ∈ ns, nmOk n) → PyData.canLayAll0 (ns.map PyData.str) = true
  | [], _ => rfl
  | n :: ns, h => by simp [PyData.canLayAll0, PyData.canLay0, canLay_strs ns fun m hm => h m (List.mem_cons_of_mem _ hm), strOk_nm (h n (by simp))]
theorem shaped_strs (ns : List Str) (h : ∀ n ∈ ns, nmOk n) : SeqAt.shaped (.tuple (ns.map PyData.str)) = true := by
  unfold SeqAt.shaped
  rw [Bool.and_eq_true]
  refine ⟨by simp [PyData.canLay0, canLay_strs ns h], decide_eq_true ?_⟩
  simp [PyData.depth, depth_strs]
theorem namesC_ok {A D : Cont} : ∀ n ∈ namesC A D, nmOk n := by
  intro n hn
  unfold namesC at hn
  rw [List.mem_filter] at hn
  simpa [nmOk] using hn.1
theorem ok_bare {f CC fN : Addr} {fd fdN : FuncData} (F : Fun K "is_bare" "Changes.is_bare" sCBare f fd) (C : ChT K mg CC) (mN : Meth K CC "names" fN) (GN : FnOk P w K mg base CX0 1 fN fdN ["self"] (spCNames T CC)) (bN : L2.Binds K fdN ["self"] []) :
    FnOk P w K mg base CX0 2 f fd ["self"] (spBare T CC) := by
  refine F.ok sc_bare (fun vs H Q E h => ?_) (fun cdv A outer s H vs Q E hr h => ?_)
  · obtain ⟨c, F, A, D, rfl, _⟩ := h
    rfl
  · obtain ⟨c, F, A', D', rfl, hCh, k⟩ := h
    obtain ⟨da, dd, ea, ed, hC, rfl, hA, hD, oa, od, dA, dD⟩ := id hCh
    obtain ⟨dx, hi⟩ := hC.ins
    refine ⟨_, pss_one (ps_ret (pe_cmpR (op_eqD hr.units) (pe_meth0 (pv 0) C.cl mN GN hr bN .nil pass0) (pe_tup pa_nil) (nomark _))), ?_⟩
    refine ⟨_, rfl, c, dx, _, rfl, hi, lkCn _ _ (by decide +kernel) (by decide +kernel), c, _, A', D', rfl, hCh, fun p H' kp np hp => ⟨by show 0 ≤ sizeLine; decide, fun q hq => ?_⟩⟩
    refine ⟨.tuple ((namesC A' D').map PyData.str), .tuple [], .tup (.inl (.inl ?_)) (dpStrs _), .tup (.inl (.inl upd_same)) .nil, shaped_strs _ namesC_ok, shaped_strs [] (fun _ z => by cases z), ?_⟩
    · rw [upd_ne (ne_of_none hp hq)]
      exact hp
    · rw [eqv_nil]
      exact k _ (kp.trans0 (.new hq))
end
end DH
namespace DH
open PySem PySem.Spec L2
open PyProof.Rows hiding St
def chD1 (A D : Cont) (n : Str) : PyData := .tuple [.str n, rowsD (rowsS A n), rowsD (rowsS D n)]
def chD (A D : Cont) : PyData := .tuple ((namesC A D).map (chD1 A D))
theorem noLs_ch1 (A D : Cont) (n : Str) : noLs (chD1 A D n) = true := by
  show noLsAll [.str n, rowsD (rowsS A n), rowsD (rowsS D n)] = true
  simp [noLsAll, noLs, noLs_rows]
theorem namesC_len (A D : Cont) : (namesC A D).length ≤ 2 := List.length_filter_le _ _
section
variable {P : Program} {w : World} {K : PySem.W.Frag} {mg : Str → Option Value} {base : Heap} {T : List (Addr × Str)}
def spCShown (K : PySem.W.Frag) (T : List (Addr × Str)) (CC : Addr) : Sp := fun vs H Q _ => ∃ (c : Addr) (F : List Addr) (A D : Cont), vs = [.ref c] ∧ LamX.Tabs T H ∧ ChS H CC c F A D ∧
  ∀ (p : Addr) (H' : Hp), Kp T [] H H' → Dp K H' (.ref p) (chD A D) → Q (.ref p) H'
theorem sc_cshown : FnScope ["self", "name"] ["self"] (defScope sCShown) := ⟨rfl, rfl, rfl, by decide +kernel, rfl, by decide +kernel, by decide +kernel⟩
theorem dom_of_ch {H : Hp} {CC c : Addr} {F : List Addr} {A D : Cont} (h : ChS H CC c F A D) : Dom A ∧ Dom D := by
  obtain ⟨_, _, _, _, _, _, _, _, _, _, h1, h2⟩ := h
  exact ⟨h1, h2⟩
theorem ok_cshown {f CC fN fA fD fO : Addr} {fd fdN fdA fdD fdO : FuncData} (F : Fun K "shown" "Changes.shown" sCShown f fd) (C : ChT K mg CC) (Y : PyT mg) (mN : Meth K CC "names" fN) (GN : FnOk P w K mg base CX0 1 fN fdN ["self"] (spCNames T CC)) (bN : L2.Binds K fdN ["self"] [])
    (mA : Meth K CC "came" fA) (GA : FnOk P w K mg base CX0 1 fA fdA ["self", "name"] (spCame T CC false)) (bA : L2.Binds K fdA ["self", "name"] []) (mD : Meth K CC "went" fD) (GD : FnOk P w K mg base CX0 1 fD fdD ["self", "name"] (spCame T CC true)) (bD : L2.Binds K fdD ["self", "name"] [])
    (GO : FnOk P w K mg base CX0 7 fO fdO ["rows"] (spOrd T)) (mO : mg "in_order" = some (.ref fO)) (kO : PySem.W.keepIn K (.ref fO) = true) (bO : L2.Binds K fdO ["rows"] []) :
    FnOk P w K mg base CX0 8 f fd ["self"] (spCShown K T CC) := by
  refine F.ok sc_cshown (fun vs H Q E h => ?_) (fun cdv A outer s H vs Q E hr h => ?_)
  · obtain ⟨c, F, A, D, rfl, _⟩ := h
    rfl
  · obtain ⟨c, F, A', D', rfl, hT, hCh, k⟩ := h
    have hr1 : Room 1 _ := hr.mono (by decide)
    obtain ⟨da, dd, ea, ed, hC, hF, _⟩ := id hCh
    obtain ⟨dx, hi⟩ := hC.ins
    obtain ⟨dA, dD⟩ := dom_of_ch hCh
    refine ⟨_, pss_one (ps_ret (pe_callTy call_tuple_of rfl Y.tup (show bootBuiltins "tuple" = some (.type "tuple") by decide +kernel) (pa_cons
      (pe_lc (own := [("name", 1)]) (g := gName 1) (tt := tYes) (te := tTup (tCons (tVar 1) (tCons (tCall (spOrd T) [] E (tCons (tMeth CC "came" (spCame T CC false) [] E (tVar 0) (tCons (tVar 1) tNil)) tNil)) (tCons (tCall (spOrd T) [] E (tCons (tMeth CC "went" (spCame T CC true) [] E (tVar 0) (tCons (tVar 1) tNil)) tNil)) tNil))))
        rfl sc_cshown.nd (pi_tup (pe_meth0 (pv 0) C.cl mN GN hr1 bN .nil pass0)) (blkOk_by (N := ["self", "name"]) (sc := defScope sCShown) (by decide +kernel))
        (fun _ _ _ _ _ => pg_name (i := 1) sc_cshown.nd rfl (Or.inl rfl)) (fun _ _ _ _ _ => pts_nil)
        (fun _ _ _ _ _ => pe_tup (pa_cons (pv 1) (pa_cons (pe_call GO hr rfl mO kO bO .nil pass0 (pa_cons (pe_meth (pv 0) C.cl mA GA hr1 bA .nil pass0 (pa_cons (pv 1) pa_nil)) pa_nil)) (pa_cons (pe_call GO hr rfl mO kO bO .nil pass0 (pa_cons (pe_meth (pv 0) C.cl mD GD hr1 bD .nil pass0 (pa_cons (pv 1) pa_nil)) pa_nil)) pa_nil))))) pa_nil))), ?_⟩
    refine ⟨_, rfl, c, dx, _, rfl, hi, lkCn _ _ (by decide +kernel) (by decide +kernel), c, F, A', D', rfl, hCh, fun p H1 k1 np h1 => ?_⟩
    refine ⟨p, rfl, ⟨_, SqT.of h1⟩, fun D hD => ?_⟩
    refine lc_strD (T := T) (f := chD1 A' D') hD h1 (noLs_ch1 A' D') (Nat.le_trans (namesC_len A' D') (by decide)) (fun n hn H2 k2 R' hR => ?_) (fun H2 acc k2 hacc hlen hdp => ?_) (gName_mono 1)
    · refine ⟨rfl, ?_⟩
      have kH : Kp T [] H H2 := (k1.trans0 (Kp.new hD)).trans k2 fun b hb => .inr (by rw [List.mem_singleton.mp hb]; exact k1.fresh hD)
      have hCh2 := hCh.kp0 kH
      obtain ⟨da2, dd2, ea2, ed2, hC2, _, _⟩ := id hCh2
      obtain ⟨dx2, hi2⟩ := hC2.ins
      refine ⟨_, rfl, _, rfl, c, dx2, _, rfl, hi2, lkCn _ _ (by decide +kernel) (by decide +kernel), _, rfl, c, F, A', D', n, rfl, hCh2, fun p3 os3 H3 k3 np3 hp3 ho3 nd3 me3 => ?_⟩
      refine ⟨_, os3.map (·.2), rfl, (kH.trans0 k3).tabs hT, ⟨p3, rfl, .inl ⟨os3, hp3, ho3, rfl⟩⟩, fun t4 os4 H4 k4 nt4 ht4 ho4 hk4 => ?_⟩
      have kH4 : Kp T [] H H4 := (kH.trans0 k3).trans0 k4
      have hCh4 := hCh.kp0 kH4
      obtain ⟨da4, dd4, ea4, ed4, hC4, _, _⟩ := id hCh4
      obtain ⟨dx4, hi4⟩ := hC4.ins
      refine ⟨_, rfl, c, dx4, _, rfl, hi4, lkCn _ _ (by decide +kernel) (by decide +kernel), _, rfl, c, F, A', D', n, rfl, hCh4, fun p5 os5 H5 k5 np5 hp5 ho5 nd5 me5 => ?_⟩
      refine ⟨_, os5.map (·.2), rfl, (kH4.trans0 k5).tabs hT, ⟨p5, rfl, .inl ⟨os5, hp5, ho5, rfl⟩⟩, fun t6 os6 H6 k6 nt6 ht6 ho6 hk6 => ?_⟩
      refine ⟨by show 3 ≤ sizeLine; decide, fun q hq => ?_⟩
      have k7 : Kp T [] H6 (upd H6 q (.tup [V.str n, V.ref t4, V.ref t6])) := .new hq
      have e4 : srt (os3.map (·.2)) = rowsS A' n := srt_eq nd3 dA me3
      have e6 : srt (os5.map (·.2)) = rowsS D' n := srt_eq nd5 dD me5
      have d4 := Dp.rows (K := K) ht4 ho4
      rw [hk4, e4] at d4
      have d6 := Dp.rows (K := K) ht6 ho6
      rw [hk6, e6] at d6
      refine hR (.ref q) _ (((k3.trans0 k4).trans0 k5).trans0 (k6.trans0 k7)) (.tup (.inl (.inl upd_same)) (.cons (.str n) (.cons (Dp.kp ((k5.trans0 k6).trans0 k7) (fun _ z => nomatch z) _ _ (noLs_rows _) d4) (.cons (Dp.kp k7 (fun _ z => nomatch z) _ _ (noLs_rows _) d6) .nil))))
    · refine ⟨D, acc, rfl, .inl ⟨SqL.of hacc, fun l hl' => ?_⟩⟩
      have kH : Kp T [] H H2 := (k1.trans0 (Kp.new hD)).trans k2 fun b hb => .inr (by rw [List.mem_singleton.mp hb]; exact k1.fresh hD)
      have k4 : Kp T [] H2 (upd H2 l (.tup acc)) := .new hl'
      exact k l _ (kH.trans0 k4) (.tup (.inl (.inl upd_same)) (Dp.kpAll k4 (fun _ z => nomatch z) _ _ (noLsAll_map _ (noLs_ch1 A' D') _) hdp))
end
end DH
namespace DH
open PySem PySem.Spec L2
open PyProof.Rows hiding St
section
variable {T : List (Addr × Str)} {H H1 : Hp} {CC c da dd p : Addr} {ea ed : List CE} {n : Str} {L : List Int}
theorem ChAt.growA (h : ChAt H CC c da dd ea ed) (hn : findC ea n = none) (k : Kp T [] H H1) (hp : H1 p = some (.dT (rowD L))) (nd : L.Nodup) (np : Nw H p) :
    ChAt (upd H1 da (.dK (putK (lvD ea) (Sum.inr n) (.ref p)))) CC c da dd (ea ++ [⟨n, p, L⟩]) ed ∧ Kp T [da] H (upd H1 da (.dK (putK (lvD ea) (Sum.inr n) (.ref p)))) := by
  have ga := k.dK h.la.dict List.not_mem_nil
  have npd : p ≠ da := ne_of hp ga (fun z => by cases z)
  have kk : Kp T [da] H (upd H1 da (.dK (putK (lvD ea) (Sum.inr n) (.ref p)))) := (k.mono fun _ z => by cases z).transS (.put ga .dK .dK (by simp))
  obtain ⟨dx, hi⟩ := h.ins
  have nc : c ≠ da := ne_of hi h.la.dict (fun z => by cases z)
  refine ⟨⟨⟨dx, kk.ins hi (by simpa using nc)⟩, h.la.grow hn kk upd_same (by rw [upd_ne npd]; exact hp) nd np, h.ld.kp kk (by simpa using h.ne.symm) (fun e he => ?_), h.ne, fun e he e' he' => ?_⟩, kk⟩
  · have : e.di ≠ da := ne_of (h.ld.ins e he).1 h.la.dict (fun z => by cases z)
    simpa using this
  · rcases List.mem_append.mp he with h0 | h0
    · exact h.dis e h0 e' he'
    · rw [List.mem_singleton.mp h0]
      exact (np.ne (h.ld.ins e' he').1 .dT).symm
theorem ChAt.growD (h : ChAt H CC c da dd ea ed) (hn : findC ed n = none) (k : Kp T [] H H1) (hp : H1 p = some (.dT (rowD L))) (nd : L.Nodup) (np : Nw H p) :
    ChAt (upd H1 dd (.dK (putK (lvD ed) (Sum.inr n) (.ref p)))) CC c da dd ea (ed ++ [⟨n, p, L⟩]) ∧ Kp T [dd] H (upd H1 dd (.dK (putK (lvD ed) (Sum.inr n) (.ref p)))) := by
  have ga := k.dK h.ld.dict List.not_mem_nil
  have npd : p ≠ dd := ne_of hp ga (fun z => by cases z)
  have kk : Kp T [dd] H (upd H1 dd (.dK (putK (lvD ed) (Sum.inr n) (.ref p)))) := (k.mono fun _ z => by cases z).transS (.put ga .dK .dK (by simp))
  obtain ⟨dx, hi⟩ := h.ins
  have nc : c ≠ dd := ne_of hi h.ld.dict (fun z => by cases z)
  refine ⟨⟨⟨dx, kk.ins hi (by simpa using nc)⟩, h.la.kp kk (by simpa using h.ne) (fun e he => ?_), h.ld.grow hn kk upd_same (by rw [upd_ne npd]; exact hp) nd np, h.ne, fun e he e' he' => ?_⟩, kk⟩
  · have : e.di ≠ dd := ne_of (h.la.ins e he).1 h.ld.dict (fun z => by cases z)
    simpa using this
  · rcases List.mem_append.mp he' with h0 | h0
    · exact h.dis e he e' h0
    · rw [List.mem_singleton.mp h0]
      exact np.ne (h.la.ins e he).1 .dT
end
/-- dict([(row, 1) for row in self.went(name)]) -/
def rDPT (K : PySem.W.Frag) : List V → Hp → VK → Prop := fun xs H Q => ∃ (a : Addr) (ps : List Addr) (kvs : List (List L2.Key × V)), xs = [.ref a] ∧ SqL K H a (ps.map V.ref) ∧
    Paired (fun p kv => ∃ b, SqT K H p [V.ref b, kv.2] ∧ H b = some (.tup (kv.1.map kV))) ps kvs ∧ (kvs.map (·.1)).Nodup ∧ ∀ p, H p = none → Q (.ref p) (upd H p (.dT kvs))
def dcT (K : PySem.W.Frag) (T : List (Addr × Str)) (CC : Addr) (m : Str) (went : Bool) (E : XK) : TE := tCB (rDPT K) (tCons (tLc (iList K (tMeth CC m (spCame T CC went) [] E (tVar 0) (tCons (tVar 2) tNil))) (gName 3) tYes (tTup (tCons (tVar 3) (tCons (tC (.int 1)) tNil))) [3]) tNil)
theorem paired_rows {K : PySem.W.Frag} {H : Hp} : ∀ {ps : List Addr} {os : List (Addr × Int)}, Paired (fun (p : Addr) (o : Addr × Int) => H p = some (.tup [.ref o.1, .int 1])) ps os → RowsAt H os → Paired (fun p (kv : List L2.Key × V) => ∃ b, SqT K H p [V.ref b, kv.2] ∧ H b = some (.tup (kv.1.map kV))) ps (rowD (os.map (·.2)))
  | _, _, .nil, _ => .nil
  | _, _, .cons (b := o) h t, ro => .cons ⟨o.1, SqT.of h, ro o (by simp)⟩ (paired_rows t fun o ho => ro o (List.mem_cons_of_mem _ ho))
theorem keys_rowD (L : List Int) (nd : L.Nodup) : ((rowD L).map (·.1)).Nodup := by
  unfold rowD
  rw [List.map_map]
  exact List.pairwise_map.mpr (nd.imp fun h e => h (by
    injection e with e _
    injection e))
theorem dc_read {K : PySem.W.Frag} {T : List (Addr × Str)} {CC c dx : Addr} {m : Str} {went : Bool} {E : XK} {x : V} {v3 : Option V} {H : Hp} {Q : VK} {F : List Addr} {A D : Cont} {n : Str} {fs : List (Str × V)} (hCh : ChS H CC c F A D) (hi : H c = some (.ins CC dx fs)) (hm : fs.lookup m = none)
    (k : ∀ (p : Addr) (L : List Int) (H' : Hp), Kp T [] H H' → Nw H p → H' p = some (.dT (rowD L)) → L.Nodup → (∀ k, k ∈ L ↔ (if went then D n k else A n k) = true) → Q (.ref p) H') :
    dcT K T CC m went E [some (.ref c), some x, some (.str n), v3] H Q := by
  refine ⟨_, rfl, c, dx, fs, rfl, hi, hm, _, rfl, c, F, A, D, n, rfl, hCh, fun p os H1 k1 np hp ho nd me => ?_⟩
  refine ⟨p, rfl, ⟨_, SqL.of hp⟩, fun C hC => ?_⟩
  have npC : p ≠ C := ne_of_none hp hC
  have hb : ∀ o ∈ os, o.1 ≠ C := fun o ho' => ne_of_none (ho o ho') hC
  have hlen : os.length ≤ 3 := by
    obtain ⟨dA, dD⟩ := dom_of_ch hCh
    have := len_rows (L := os.map (·.2)) (S := if went then D else A) (n := n) nd (by cases went <;> assumption) (fun k => by rw [me k]; cases went <;> rfl)
    simpa using this
  refine lc_list (K := K) (a := p) (xs := rfs os) (fun i H2 => Kp T [C] (upd H1 C (.lst [])) H2 ∧ ∃ ps, H2 C = some (.lst (ps.map V.ref)) ∧ Paired (fun (p : Addr) (o : Addr × Int) => H2 p = some (.tup [.ref o.1, .int 1])) ps (os.take i)) ⟨.refl _ _ _, [], upd_same, .nil⟩ ?_ ?_ ?_
  · rintro i H2 _ ⟨k2, _⟩
    exact SqL.of (k2.lst (by rw [upd_ne npC]; exact hp) (by simpa using npC))
  · rintro i y H2 hy ⟨k2, ps, hps, hpp⟩
    rw [List.getElem?_map] at hy
    obtain ⟨o, hoi, rfl⟩ := Option.map_eq_some_iff.mp hy
    have hil : i < os.length := (List.getElem?_eq_some_iff.mp hoi).1
    refine ⟨rfl, ?_⟩
    refine ⟨_, rfl, by show 2 ≤ sizeLine; decide, fun t ht => ⟨ps.map V.ref, ?_, ?_, ?_⟩⟩
    · rw [upd_ne (ne_of_none hps ht)]
      exact hps
    · rw [List.length_map, Paired.length hpp, List.length_take]
      exact small1000 (by omega)
    · have k3 : Kp T [] H2 (upd H2 t (.tup [V.ref o.1, V.int 1])) := .new ht
      have k4 := (k3.mono (G := [C]) fun _ z => by cases z).transS (upd_kpD (b := ps.map V.ref ++ [V.ref t]) (k3.lst hps List.not_mem_nil))
      refine ⟨k2.transS k4, ps ++ [t], by rw [upd_same, List.map_append]; rfl, ?_⟩
      have ntC : t ≠ C := (ne_of_none hps ht).symm
      rw [List.take_add_one, hoi]
      refine Paired.snoc (Paired.mapP hpp fun p o hp => k4.tup hp (by
        have : p ≠ C := ne_of hp hps (fun z => by cases z)
        simpa using this)) (by rw [upd_ne ntC, upd_same])
  · rintro H2 ⟨k2, ps, hps, hpp⟩
    rw [List.length_map, List.take_of_length_le (Nat.le_refl _)] at hpp
    have ho2 : RowsAt H2 os := fun o ho' => k2.row (by
      show upd H1 C (.lst []) o.1 = _
      rw [upd_ne (hb o ho')]
      exact ho o ho') (by simpa using hb o ho')
    refine ⟨C, ps, rowD (os.map (·.2)), rfl, SqL.of hps, paired_rows hpp ho2, keys_rowD _ nd, fun q hq => ?_⟩
    have kH : Kp T [] H H2 := (k1.trans0 (Kp.new hC)).trans k2 fun b hb => .inr (by rw [List.mem_singleton.mp hb]; exact k1.fresh hC)
    exact k q _ _ (kH.trans0 (.new hq)) (kH.fresh hq) upd_same nd me
section
variable {P : Program} {w : World} {K : PySem.W.Frag} {mg : Str → Option Value} {base : Heap} {T : List (Addr × Str)}
def spTurned (T : List (Addr × Str)) (CC : Addr) : Sp := fun vs H Q _ => ∃ (c : Addr) (F : List Addr) (A D : Cont), vs = [.ref c] ∧ ChS H CC c F A D ∧
  ∀ (x : Addr) (F' : List Addr) (H' : Hp), Kp T [] H H' → ChS H' CC x F' D A → (∀ b ∈ F', Nw H b) → Q (.ref x) H'
theorem sc_turned : FnScope ["self", "other", "name", "row"] ["self"] (defScope sCTurned) := ⟨rfl, rfl, rfl, by decide +kernel, rfl, by decide +kernel, by decide +kernel⟩
theorem ok_turned {f CC fI fN fA fD : Addr} {fd fdI fdN fdA fdD : FuncData} (F : Fun K "turned" "Changes.turned" sCTurned f fd) (C : ChT K mg CC) (Y : PyT mg) (M : Mk K CC fI) (GI : FnOk P w K mg base CX0 1 fI fdI ["self"] (spCInit T CC)) (bI : L2.Binds K fdI ["self"] [])
    (mN : Meth K CC "names" fN) (GN : FnOk P w K mg base CX0 1 fN fdN ["self"] (spCNames T CC)) (bN : L2.Binds K fdN ["self"] [])
    (mA : Meth K CC "came" fA) (GA : FnOk P w K mg base CX0 1 fA fdA ["self", "name"] (spCame T CC false)) (bA : L2.Binds K fdA ["self", "name"] []) (mD : Meth K CC "went" fD) (GD : FnOk P w K mg base CX0 1 fD fdD ["self", "name"] (spCame T CC true)) (bD : L2.Binds K fdD ["self", "name"] []) :
    FnOk P w K mg base CX0 3 f fd ["self"] (spTurned T CC) := by
  refine F.ok sc_turned (fun vs H Q E h => ?_) (fun cdv A outer s H vs Q E hr h => ?_)
  · obtain ⟨c, F, A, D, rfl, _⟩ := h
    rfl
  · obtain ⟨c, F, A', D', rfl, hCh, k⟩ := h
    have hr1 : Room 1 _ := hr.mono (by decide)
    have hu := hu_of hr
    have hu2 : (A.deeper (envOfC "Changes.turned" (defScope sCTurned) s.heap.objs.size f cdv)).units + 2 < cLine := by have := hr.units; omega
    obtain ⟨dA, dD⟩ := dom_of_ch hCh
    refine ⟨_, pss_cons (ps_set (i := 1) sc_turned.nd rfl (Or.inl rfl) (pe_make0 M GI (hr.mono (by decide)) rfl C.mgC bI .nil pass0))
      (pss_cons (ps_for PassesOwn.never rfl (pi_tup (pe_meth0 (pv 0) C.cl mN GN hr1 bN .nil pass0)) (pg_name (i := 2) sc_turned.nd rfl (Or.inl rfl))
        (pss_cons (ps_dput hu (pe_fld (pv 1) rfl) (pv 2) (show PE _ _ (dcT K T CC "went" true E) from pe_callTy (call_dictPT rfl hu2) rfl Y.dic (show bootBuiltins "dict" = some (.type "dict") by decide +kernel) (pa_cons
            (pe_lc (own := [("row", 3)]) (g := gName 3) (tt := tYes) (te := tTup (tCons (tVar 3) (tCons (tC (.int 1)) tNil))) rfl sc_turned.nd (pi_list (pe_meth (pv 0) C.cl mD GD hr1 bD .nil pass0 (pa_cons (pv 2) pa_nil))) (blkOk_by (N := ["self", "other", "name", "row"]) (sc := defScope sCTurned) (by decide +kernel))
              (fun _ _ _ _ _ => pg_name (i := 3) sc_turned.nd rfl (Or.inl rfl)) (fun _ _ _ _ _ => pts_nil) (fun _ _ _ _ _ => pe_tup (pa_cons (pv 3) (pa_cons pe_int pa_nil)))) pa_nil)) rfl)
        (pss_one (ps_dput hu (pe_fld (pv 1) rfl) (pv 2) (show PE _ _ (dcT K T CC "came" false E) from pe_callTy (call_dictPT rfl hu2) rfl Y.dic (show bootBuiltins "dict" = some (.type "dict") by decide +kernel) (pa_cons
            (pe_lc (own := [("row", 3)]) (g := gName 3) (tt := tYes) (te := tTup (tCons (tVar 3) (tCons (tC (.int 1)) tNil))) rfl sc_turned.nd (pi_list (pe_meth (pv 0) C.cl mA GA hr1 bA .nil pass0 (pa_cons (pv 2) pa_nil))) (blkOk_by (N := ["self", "other", "name", "row"]) (sc := defScope sCTurned) (by decide +kernel))
              (fun _ _ _ _ _ => pg_name (i := 3) sc_turned.nd rfl (Or.inl rfl)) (fun _ _ _ _ _ => pts_nil) (fun _ _ _ _ _ => pe_tup (pa_cons (pv 3) (pa_cons pe_int pa_nil)))) pa_nil)) rfl))))
      (pss_one (ps_ret (pv 1)))), ?_⟩
    intro x dx nx ndx nex
    have k0 : Kp T [] H (upd (upd H dx (.own x)) x (.ins CC dx [])) := (Kp.new ndx).transS (.new (by rw [upd_ne nex.symm]; exact nx))
    refine ⟨x, dx, rfl, upd_same, fun da dd H1 na nd hC1 k1 => ⟨rfl, ?_⟩⟩
    have kH1 : Kp T [] H H1 := k0.trans k1 fun b hb => .inr (by rw [List.mem_singleton.mp hb]; exact .of nx)
    have nA : Nw H da := k0.nw na
    have nDd : Nw H dd := k0.nw nd
    have hCh1 := hCh.kp0 kH1
    obtain ⟨da1, dd1, ea1, ed1, hc1, hF1, _⟩ := id hCh1
    obtain ⟨dxc, hic⟩ := hc1.ins
    refine ⟨_, rfl, c, dxc, _, rfl, hic, lkCn _ _ (by decide +kernel) (by decide +kernel), c, F, A', D', rfl, hCh1, fun p H2 k2 np h2 => ?_⟩
    have kH2 := kH1.trans0 k2
    have hC2 := hC1.kp k2 (fun _ z => nomatch z) fun _ _ z => nomatch z
    have ndN : (namesC A' D').Nodup := List.Nodup.sublist List.filter_sublist (by decide +kernel)
    refine ⟨p, rfl, ⟨_, SqT.of h2⟩, for_tup (K := K) (a := p) (xs := (namesC A' D').map V.str) (fun i σ H3 => ∃ v ea ed, σ = [some (.ref c), some (.ref x), v, none] ∧ Kp T [] H H3 ∧ H3 p = some (.tup ((namesC A' D').map V.str)) ∧ ChAt H3 CC x da dd ea ed ∧ (∀ b ∈ chC da dd ea ed, Nw H b) ∧ ea.map (·.nm) = (namesC A' D').take i ∧ ed.map (·.nm) = (namesC A' D').take i ∧
        (∀ m j, j ∈ rowsC ea m ↔ m ∈ (namesC A' D').take i ∧ D' m j = true) ∧ (∀ m j, j ∈ rowsC ed m ↔ m ∈ (namesC A' D').take i ∧ A' m j = true))
      ⟨none, [], [], rfl, kH2, h2, hC2, ?_, rfl, rfl, fun m j => ?_, fun m j => ?_⟩ (fun i σ H3 _ ⟨v, ea, ed, _, _, k3, _⟩ => SqT.of k3) ?_ ?_⟩
    · intro b hb
      rcases mem_chC.mp hb with rfl | rfl | ⟨e, he, _⟩ | ⟨e, he, _⟩
      · exact nA
      · exact nDd
      · cases he
      · cases he
    · constructor
      · intro h
        cases h
      · rintro ⟨h, _⟩
        simp at h
    · constructor
      · intro h
        cases h
      · rintro ⟨h, _⟩
        simp at h
    · rintro i y σ H3 hy ⟨v, ea, ed, rfl, k3, k3', hC3, fr, nma, nmd, ra, rd⟩
      rw [List.getElem?_map] at hy
      obtain ⟨n, hn, rfl⟩ := Option.map_eq_some_iff.mp hy
      have tk : (namesC A' D').take (i + 1) = (namesC A' D').take i ++ [n] := by rw [List.take_add_one, hn]; rfl
      have hnt : n ∉ (namesC A' D').take i := by
        have h1 : ((namesC A' D').take (i + 1)).Nodup := ndN.sublist (List.take_sublist _ _)
        rw [tk, List.nodup_append] at h1
        exact fun z => h1.2.2 n z n (by simp) rfl
      have fa : findC ea n = none := by
        cases q : findC ea n with
        | none => rfl
        | some e =>
          obtain ⟨h1, h2⟩ := findC_some q
          exact absurd (by rw [← nma, ← h2]; exact List.mem_map.mpr ⟨e, h1, rfl⟩) hnt
      have fd : findC ed n = none := by
        cases q : findC ed n with
        | none => rfl
        | some e =>
          obtain ⟨h1, h2⟩ := findC_some q
          exact absurd (by rw [← nmd, ← h2]; exact List.mem_map.mpr ⟨e, h1, rfl⟩) hnt
      have ins_of : ∀ {H'}, Kp T [] H H' → ∃ dx', H' c = some (.ins CC dx' (chF da1 dd1)) := fun {H'} k => by
        obtain ⟨da0, dd0, ea0, ed0, hc0, _⟩ := id hCh
        obtain ⟨dx0, hi0⟩ := hc0.ins
        have h1 := kH1.ins hi0 List.not_mem_nil
        rw [hic] at h1
        have h2 := k.ins hi0 List.not_mem_nil
        injection h1 with h1
        injection h1 with _ _ h1
        rw [← h1] at h2
        exact ⟨dx0, h2⟩
      obtain ⟨dx3, hi3⟩ := ins_of k3
      have lea : (lvD ea).length < sizeLine := by
        have h1 := congrArg List.length nma
        rw [List.length_map, List.length_take] at h1
        have := namesC_len A' D'
        unfold lvD
        rw [List.length_map]
        exact small1000 (by omega)
      have led : (lvD ed).length < sizeLine := by
        have h1 := congrArg List.length nmd
        rw [List.length_map, List.length_take] at h1
        have := namesC_len A' D'
        unfold lvD
        rw [List.length_map]
        exact small1000 (by omega)
      refine dc_read (T := T) (x := .ref x) (hCh.kp0 k3) hi3 (lkCn _ _ (by decide +kernel) (by decide +kernel)) (fun q L H4 k4 nq hq ndL meL => ?_)
      have hC4 := hC3.kp k4 (fun _ z => nomatch z) fun _ _ z => nomatch z
      obtain ⟨dx4, hi4⟩ := hC4.ins
      refine ⟨_, rfl, x, CC, dx4, _, _, rfl, hi4, C.cl, C.nA, lkA _ _, _, rfl, da, _, rfl, DPut.k (k := Sum.inr n) hC4.la.dict lea, ?_⟩
      obtain ⟨hC5, k5⟩ := hC3.growA fa k4 hq ndL nq
      have kH5 : Kp T [] H (upd H4 da (.dK (putK (lvD ea) (Sum.inr n) (.ref q)))) := k3.trans k5 fun b hb => .inr (by rw [List.mem_singleton.mp hb]; exact nA)
      have hp5 : (upd H4 da (.dK (putK (lvD ea) (Sum.inr n) (.ref q)))) p = some (.tup ((namesC A' D').map V.str)) := k5.tup k3' (by
        have : p ≠ da := ne_of k3' hC3.la.dict (fun z => by cases z)
        simpa using this)
      generalize upd H4 da (.dK (putK (lvD ea) (Sum.inr n) (.ref q))) = H5 at hC5 k5 kH5 hp5 ⊢
      obtain ⟨dx5, hi5⟩ := ins_of kH5
      refine dc_read (T := T) (x := .ref x) (hCh.kp0 kH5) hi5 (lkCn _ _ (by decide +kernel) (by decide +kernel)) (fun q2 L2 H6 k6 nq2 hq2 ndL2 meL2 => ?_)
      have hC6 := hC5.kp k6 (fun _ z => nomatch z) fun _ _ z => nomatch z
      obtain ⟨dx6, hi6⟩ := hC6.ins
      refine ⟨_, rfl, x, CC, dx6, _, _, rfl, hi6, C.cl, C.nD, lkD _ _, _, rfl, dd, _, rfl, DPut.k (k := Sum.inr n) hC6.ld.dict led, ?_⟩
      obtain ⟨hC7, k7⟩ := hC5.growD fd k6 hq2 ndL2 nq2
      have kH7 : Kp T [] H (upd H6 dd (.dK (putK (lvD ed) (Sum.inr n) (.ref q2)))) := kH5.trans k7 fun b hb => .inr (by rw [List.mem_singleton.mp hb]; exact nDd)
      have rows : ∀ (es : List CE) (q : Addr) (L : List Int) (S : Cont), findC es n = none → (∀ m j, j ∈ rowsC es m ↔ m ∈ (namesC A' D').take i ∧ S m j = true) → (∀ j, j ∈ L ↔ S n j = true) → ∀ m j, j ∈ rowsC (es ++ [⟨n, q, L⟩]) m ↔ m ∈ (namesC A' D').take (i + 1) ∧ S m j = true := by
        intro es q L S hf hr hl m j
        unfold rowsC at hr ⊢
        rw [findC_app hf m _ rfl, tk, List.mem_append]
        by_cases z : m = n
        · subst z
          rw [if_pos rfl]
          simp [hl]
        · rw [if_neg z, hr m j]
          simp [z]
      refine ⟨some (.str n), _, _, rfl, kH7, ?_, hC7, fun b hb => ?_, ?_, ?_, rows ea q L D' fa ra (fun j => by rw [meL]; rfl), rows ed q2 L2 A' fd rd (fun j => by rw [meL2]; rfl)⟩
      · exact k7.tup hp5 (by
          have : p ≠ dd := ne_of hp5 hC5.ld.dict (fun z => by cases z)
          simpa using this)
      · rcases mem_chC.mp hb with h | h | ⟨e, he, q0⟩ | ⟨e, he, q0⟩
        · exact fr b (mem_chC.mpr (.inl h))
        · exact fr b (mem_chC.mpr (.inr (.inl h)))
        · rcases List.mem_append.mp he with h0 | h0
          · exact fr b (mem_chC.mpr (.inr (.inr (.inl ⟨e, h0, q0⟩))))
          · rw [List.mem_singleton.mp h0] at q0
            rw [← q0]
            exact k3.nw nq
        · rcases List.mem_append.mp he with h0 | h0
          · exact fr b (mem_chC.mpr (.inr (.inr (.inr ⟨e, h0, q0⟩))))
          · rw [List.mem_singleton.mp h0] at q0
            rw [← q0]
            exact kH5.nw nq2
      · rw [List.map_append, nma, tk]
        rfl
      · rw [List.map_append, nmd, tk]
        rfl
    · rintro σ H3 ⟨v, ea, ed, rfl, k3, k3', hC3, fr, nma, nmd, ra, rd⟩
      rw [List.length_map, List.take_of_length_le (Nat.le_refl _)] at nma nmd ra rd
      refine ⟨_, rfl, k x _ H3 k3 ⟨da, dd, ea, ed, hC3, rfl, fun m j => ?_, fun m j => ?_, fun e he => ?_, fun e he => ?_, dD, dA⟩ fr⟩
      · rw [ra]
        refine ⟨fun h => h.2, fun h => ⟨?_, h⟩⟩
        unfold namesC
        rw [List.mem_filter]
        refine ⟨?_, decide_eq_true (.inr fun z => ?_)⟩
        · rcases (dD m j h).1 with rfl | rfl <;> simp
        · have := (mem_rowsS dD).mpr h
          rw [z] at this
          cases this
      · rw [rd]
        refine ⟨fun h => h.2, fun h => ⟨?_, h⟩⟩
        unfold namesC
        rw [List.mem_filter]
        refine ⟨?_, decide_eq_true (.inl fun z => ?_)⟩
        · rcases (dA m j h).1 with rfl | rfl <;> simp
        · have := (mem_rowsS dA).mpr h
          rw [z] at this
          cases this
      · exact namesC_ok (A := A') (D := D') _ (by rw [← nma]; exact List.mem_map.mpr ⟨e, he, rfl⟩)
      · exact namesC_ok (A := A') (D := D') _ (by rw [← nmd]; exact List.mem_map.mpr ⟨e, he, rfl⟩)
end
end DH
namespace DH
open PySem PySem.Spec L2
open PyProof.Rows hiding St
section
variable {K : PySem.W.Frag} {T : List (Addr × Str)} {CS CR s r : Addr} {H : Hp} {F : List Addr} {S : Cont} {n : Str} {k : Int} {E : XK} {σ : L2.St} {is_ in_ ir : Nat}
/-- what a store looks like after of: its entry for the name -/
structure OfAt (T : List (Addr × Str)) (H : Hp) (CS CR s : Addr) (F : List Addr) (S : Cont) (n : Str) (dr : Addr) (e : SE) (es : List SE) (H1 : Hp) : Prop where
  kp : Kp T F H H1
  st : StoreAt H1 CS CR s dr es
  fe : findE es n = some e
  cont : ∀ m j, j ∈ rowsE es m ↔ S m j = true
  ok : ∀ e ∈ es, nmOk e.nm
  fp : ∀ b ∈ stC dr es, b ∈ F ∨ Nw H b
theorem of_core {R : VK} (h : StS H CS CR s F S) (hn : nmOk n) (k : ∀ dr e es H1, OfAt T H CS CR s F S n dr e es H1 → R (.ref e.rl) H1) : spSOf T CS CR [.ref s, .str n] H R E := by
  obtain ⟨dr, es, hS, rfl, hC, ok, dm⟩ := h
  refine ⟨s, dr, es, n, rfl, hS, Nat.lt_of_le_of_lt (es_len hS.names ok) (by decide), fun e es' H1 k1 hS1 hf hr hes => ?_⟩
  refine k dr e es' H1 ⟨k1.mono fun b hb => .inl ?_, hS1, hf, fun m j => by rw [hr m]; exact hC m j, ?_, ?_⟩
  · rw [List.mem_singleton.mp hb]
    exact mem_stC.mpr (.inl rfl)
  · rcases hes with rfl | ⟨rfl, h1, _⟩
    · exact ok
    · intro e' he'
      rcases List.mem_append.mp he' with h0 | h0
      · exact ok e' h0
      · rw [List.mem_singleton.mp h0, h1]
        exact hn
  · rcases hes with rfl | ⟨rfl, h1, h2, h3⟩
    · exact fun b hb => .inl hb
    · intro b hb
      rcases mem_stC.mp hb with q | ⟨e', he', q⟩ | ⟨e', he', q⟩
      · exact .inl (mem_stC.mpr (.inl q))
      · rcases List.mem_append.mp he' with h0 | h0
        · exact .inl (mem_stC.mpr (.inr (.inl ⟨e', h0, q⟩)))
        · rw [List.mem_singleton.mp h0] at q
          exact .inr (by rw [← q]; exact h2)
      · rcases List.mem_append.mp he' with h0 | h0
        · exact .inl (mem_stC.mpr (.inr (.inr ⟨e', h0, q⟩)))
        · rw [List.mem_singleton.mp h0] at q
          exact .inr (by rw [← q]; exact h3)
/-- behind a write of the entry's rows -/
theorem OfAt.wrote {dr : Addr} {e : SE} {es : List SE} {H1 H2 : Hp} {L : List Int} {S' : Cont} (o : OfAt T H CS CR s F S n dr e es H1) (k2 : Kp T [e.hd] H1 H2) (hr : RelAt H2 CR e.rl e.hd e.tb L) (dm : Dom S') (hL : ∀ m j, j ∈ (if m = n then L else rowsE es m) ↔ S' m j = true) :
    Kp T F H H2 ∧ StS H2 CS CR s (stC dr es) S' := by
  have hm := (findE_some o.fe).1
  have hhd : e.hd ∈ stC dr es := mem_stC.mpr (.inr (.inl ⟨e, hm, rfl⟩))
  refine ⟨o.kp.trans k2 fun b hb => ?_, dr, setE es n L, o.st.set o.fe k2 hr, (stC_set L).symm, fun m j => ?_, fun e' he' => ?_, dm⟩
  · rw [List.mem_singleton.mp hb]
    exact o.fp _ hhd
  · rw [rowsE_set o.fe]
    exact hL m j
  · have : e'.nm ∈ (setE es n L).map (·.nm) := List.mem_map.mpr ⟨e', he', rfl⟩
    rw [nm_set] at this
    obtain ⟨e0, h0, q⟩ := List.mem_map.mp this
    rw [← q]
    exact o.ok e0 h0
theorem rows_of {dr : Addr} {e : SE} {es : List SE} {H1 : Hp} (o : OfAt T H CS CR s F S n dr e es H1) : rowsE es n = e.rows := by
  unfold rowsE
  rw [o.fe]
  rfl
/-- a row of a store's footprint isn't there -/
theorem tup_out {F : List Addr} {H : Hp} {r : Addr} {k : Int} (hF : ∀ b ∈ F, Dct H b) (h : RowAt H r k) : r ∉ F := Dct.ne hF h .tup
abbrev tOf (T : List (Addr × Str)) (CS CR : Addr) (E : XK) (is_ in_ : Nat) : TE := tMeth CS "of" (spSOf T CS CR) [] E (tVar is_) (tCons (tVar in_) tNil)
theorem ofr (h : StS H CS CR s F S) (σs : σ[is_]? = some (some (.ref s))) (σn : σ[in_]? = some (some (.str n))) (hn : nmOk n) {R : VK} (k : ∀ dr e es H1, OfAt T H CS CR s F S n dr e es H1 → R (.ref e.rl) H1) : tOf T CS CR E is_ in_ σ H R := by
  obtain ⟨dr, es, hS, _⟩ := id h
  obtain ⟨dx, hi⟩ := hS.ins
  exact ⟨_, σs, s, dx, _, rfl, hi, lkRn _ (by decide +kernel), _, σn, of_core (E := E) h hn k⟩
theorem OfAt.rel {dr : Addr} {e : SE} {es : List SE} {H1 : Hp} (o : OfAt T H CS CR s F S n dr e es H1) : RelAt H1 CR e.rl e.hd e.tb e.rows := o.st.rels e (findE_some o.fe).1
theorem of_add (h : StS H CS CR s F S) (σs : σ[is_]? = some (some (.ref s))) (σn : σ[in_]? = some (some (.str n))) (σr : σ[ir]? = some (some (.ref r))) (hn : nmOk n) (hk : rwOk k) (hrow : RowAt H r k) {R : VK}
    (q : ∀ b H' F', Kp T F H H' → StS H' CS CR s F' (putS S n k) → (∀ b ∈ F', b ∈ F ∨ Nw H b) → R (.bl b) H') :
    tMeth CR "add" (spRAdd T CR) [] E (tOf T CS CR E is_ in_) (tCons (tVar ir) tNil) σ H R := by
  have dF := h.dct
  obtain ⟨_, _, _, _, _, _, dm⟩ := id h
  refine ofr h σs σn hn fun dr e es H1 o => ?_
  obtain ⟨dx, g1, g2, g3, g4⟩ := o.rel
  have er := rows_of o
  refine ⟨e.rl, dx, _, rfl, g1, noMeth _ _ (by decide +kernel) (by decide +kernel), _, σr, e.rl, r, e.hd, e.tb, e.rows, k, rfl, o.rel, o.kp.row hrow (tup_out dF hrow), ?_, fun b H2 k2 hr => ?_⟩
  · have := len_rows (S := S) (n := n) g4 dm (fun j => by rw [← er]; exact o.cont n j)
    omega
  · obtain ⟨kk, st⟩ := o.wrote k2 hr (dm.put hn hk) (put_rows o.cont fun m => by rw [er])
    exact q b H2 _ kk st o.fp
theorem of_drop (h : StS H CS CR s F S) (σs : σ[is_]? = some (some (.ref s))) (σn : σ[in_]? = some (some (.str n))) (σr : σ[ir]? = some (some (.ref r))) (hn : nmOk n) (hrow : RowAt H r k) {R : VK}
    (q : ∀ b H' F', Kp T F H H' → StS H' CS CR s F' (delS S n k) → (∀ b ∈ F', b ∈ F ∨ Nw H b) → R (.bl b) H') :
    tMeth CR "drop" (spRDrop T CR) [] E (tOf T CS CR E is_ in_) (tCons (tVar ir) tNil) σ H R := by
  have dF := h.dct
  obtain ⟨_, _, _, _, _, _, dm⟩ := id h
  refine ofr h σs σn hn fun dr e es H1 o => ?_
  obtain ⟨dx, g1, g2, g3, g4⟩ := o.rel
  have er := rows_of o
  refine ⟨e.rl, dx, _, rfl, g1, noMeth _ _ (by decide +kernel) (by decide +kernel), _, σr, e.rl, r, e.hd, e.tb, e.rows, k, rfl, o.rel, o.kp.row hrow (tup_out dF hrow), fun b H2 k2 hr => ?_⟩
  obtain ⟨kk, st⟩ := o.wrote k2 hr dm.del (del_rows o.cont fun m => by rw [er])
  exact q b H2 _ kk st o.fp
/-- store.of(name).rows() -/
theorem of_rows (h : StS H CS CR s F S) (hT : LamX.Tabs T H) (σs : σ[is_]? = some (some (.ref s))) (σn : σ[in_]? = some (some (.str n))) (hn : nmOk n) {R : VK}
    (q : ∀ p os H' F', Kp T F H H' → StS H' CS CR s F' S → (∀ b ∈ F', b ∈ F ∨ Nw H b) → Nw H p → H' p = some (.tup (rfs os)) → RowsAt H' os → os.map (·.2) = rowsS S n → R (.ref p) H') :
    tMeth CR "rows" (spRRows T CR) [] E (tOf T CS CR E is_ in_) tNil σ H R := by
  obtain ⟨_, _, _, _, _, _, dm⟩ := id h
  refine ofr h σs σn hn fun dr e es H1 o => ?_
  obtain ⟨dx, g1, g2, g3, g4⟩ := o.rel
  have er := rows_of o
  refine ⟨e.rl, dx, _, rfl, g1, noMeth _ _ (by decide +kernel) (by decide +kernel), e.rl, e.hd, e.tb, e.rows, rfl, o.kp.tabs hT, o.rel, fun p os H2 k2 np hp ho hk => ?_⟩
  have st : StS H2 CS CR s (stC dr es) S := StS.kp0 (T := T) ⟨dr, es, o.st, rfl, o.cont, o.ok, dm⟩ k2
  refine q p os H2 _ (o.kp.trans0 k2) st o.fp (o.kp.nw np) hp ho ?_
  rw [hk, srt_eq g4 dm fun j => by rw [← er]; exact o.cont n j]
end
def ofL (fs : List Fct) : Cont := fun n k => decide ((n, k) ∈ fs)
def fcOk (f : Fct) : Prop := nmOk f.1 ∧ rwOk f.2
theorem Dom.ofL {fs : List Fct} (h : ∀ f ∈ fs, fcOk f) : Dom (ofL fs) := fun n k e => h (n, k) (of_decide_eq_true e)
theorem ofL_snoc (fs : List Fct) (n : Str) (k : Int) : ofL (fs ++ [(n, k)]) = putS (ofL fs) n k := by
  funext m j
  unfold ofL putS
  rw [Bool.eq_iff_iff]
  simp only [List.mem_append, List.mem_singleton, Prod.mk.injEq, decide_eq_true_eq, Bool.or_eq_true]
  exact Or.comm
abbrev FL := List (Addr × Fct)
/-- the facts of a list, each a tuple of a name and a row -/
def FactsAt (H : Hp) (fl : FL) : Prop := ∀ x ∈ fl, FactAt H x.1 x.2
theorem FactAt.kp {T : List (Addr × Str)} {F : List Addr} {H H1 : Hp} {q : Addr} {f : Fct} (h : FactAt H q f) (k : Kp T F H H1) (hF : ∀ b ∈ F, Mu H b) : FactAt H1 q f := by
  obtain ⟨r, h1, h2⟩ := h
  exact ⟨r, k.tup h1 (Mu.nt hF h1), k.tup h2 (Mu.nt hF h2)⟩
theorem FactsAt.kp {T : List (Addr × Str)} {F : List Addr} {H H1 : Hp} {fl : FL} (h : FactsAt H fl) (k : Kp T F H H1) (hF : ∀ b ∈ F, Mu H b) : FactsAt H1 fl := fun x hx => (h x hx).kp k hF
section
variable {P : Program} {w : World} {K : PySem.W.Frag} {mg : Str → Option Value} {base : Heap} {T : List (Addr × Str)}
def spStoreOf (T : List (Addr × Str)) (CS CR : Addr) : Sp := fun vs H Q _ => ∃ (l : Addr) (fl : FL), vs = [.ref l] ∧ H l = some (.lst (fl.map fun x => V.ref x.1)) ∧ FactsAt H fl ∧ (∀ x ∈ fl, fcOk x.2) ∧
  ∀ (s : Addr) (F : List Addr) (H' : Hp), Kp T [] H H' → StS H' CS CR s F (ofL (fl.map (·.2))) → (∀ b ∈ F, Nw H b) → Q (.ref s) H'
theorem sc_storeOf : FnScope ["facts", "store", "name", "row"] ["facts"] (defScope sStoreOf) := ⟨rfl, rfl, rfl, by decide +kernel, rfl, by decide +kernel, by decide +kernel⟩
theorem ok_storeOf {f CS CR fI fO fA : Addr} {fd fdI fdO fdA : FuncData} (F : Fun K "store_of" "store_of" sStoreOf f fd) (S : StoT K mg CS) (R : RelT K mg CR) (M : Mk K CS fI) (GI : FnOk P w K mg base CX0 1 fI fdI ["self"] (spSInit T CS CR)) (bI : L2.Binds K fdI ["self"] [])
    (mO : Meth K CS "of" fO) (GO : FnOk P w K mg base CX0 3 fO fdO ["self", "name"] (spSOf T CS CR)) (bO : L2.Binds K fdO ["self", "name"] []) (mA : Meth K CR "add" fA) (GA : FnOk P w K mg base CX0 1 fA fdA ["self", "row"] (spRAdd T CR)) (bA : L2.Binds K fdA ["self", "row"] []) :
    FnOk P w K mg base CX0 4 f fd ["facts"] (spStoreOf T CS CR) := by
  refine F.ok sc_storeOf (fun vs H Q E h => ?_) (fun cdv A outer s H vs Q E hr h => ?_)
  · obtain ⟨l, fl, rfl, _⟩ := h
    rfl
  · obtain ⟨l, fl, rfl, hl, hf, hok, k⟩ := h
    have hr1 : Room 1 _ := hr.mono (by decide)
    refine ⟨_, pss_cons (ps_set (i := 1) sc_storeOf.nd rfl (Or.inl rfl) (pe_make0 M GI (hr.mono (by decide)) rfl S.mgS bI .nil pass0))
      (pss_cons (ps_for PassesOwn.never rfl (pi_list (pv 0)) (pg_tup rfl (pgs_cons (pg_name (i := 2) sc_storeOf.nd rfl (Or.inl rfl)) (pgs_cons (pg_name (i := 3) sc_storeOf.nd rfl (Or.inl rfl)) pgs_nil)))
        (pss_one (ps_expr (pe_meth (pe_meth (pv 1) S.cl mO GO hr bO .nil pass0 (pa_cons (pv 2) pa_nil)) R.cl mA GA hr1 bA .nil pass0 (pa_cons (pv 3) pa_nil)))))
      (pss_one (ps_ret (pv 1)))), ?_⟩
    intro x dx nx ndx nex
    have k0 : Kp T [] H (upd (upd H dx (.own x)) x (.ins CS dx [])) := (Kp.new ndx).transS (.new (by rw [upd_ne nex.symm]; exact nx))
    refine ⟨x, dx, rfl, upd_same, fun dr H1 nd hS1 k1 => ⟨rfl, ?_⟩⟩
    have kH1 : Kp T [] H H1 := k0.trans k1 fun b hb => .inr (by rw [List.mem_singleton.mp hb]; exact .of nx)
    have st0 : StS H1 CS CR x (stC dr []) (ofL []) := ⟨dr, [], hS1, rfl, fun n k => (by constructor <;> intro h <;> cases h), (fun _ z => by cases z), fun n k h => by cases h⟩
    refine ⟨_, rfl, l, rfl, ⟨_, SqL.of (kH1.lst hl List.not_mem_nil)⟩, for_list (K := K) (a := l) (xs := fl.map fun x => V.ref x.1) (fun i σ H3 => ∃ v1 v2 F, σ = [some (.ref l), some (.ref x), v1, v2] ∧ Kp T [] H H3 ∧ StS H3 CS CR x F (ofL ((fl.take i).map (·.2))) ∧ ∀ b ∈ F, Nw H b)
      ⟨none, none, _, rfl, kH1, st0, fun b hb => ?_⟩ (fun i σ H3 _ ⟨_, _, _, _, k3, _⟩ => SqL.of (k3.lst hl List.not_mem_nil)) ?_ ?_⟩
    · rcases mem_stC.mp hb with rfl | ⟨e, he, _⟩ | ⟨e, he, _⟩
      · exact k0.nw nd
      · cases he
      · cases he
    · rintro i y σ H3 hy ⟨v1, v2, F3, rfl, k3, st3, fr⟩
      rw [List.getElem?_map] at hy
      obtain ⟨z, hz, rfl⟩ := Option.map_eq_some_iff.mp hy
      have hzm := List.mem_of_getElem? hz
      obtain ⟨⟨q, n, j⟩⟩ : Nonempty (∃ q n j, z = (q, (n, j))) := ⟨⟨z.1, z.2.1, z.2.2, rfl⟩⟩
      obtain ⟨j, rfl⟩ := j
      obtain ⟨r, h1, h2⟩ := (hf _ hzm).kp k3 (fun _ z => nomatch z)
      obtain ⟨on, ok⟩ := hok _ hzm
      have tk : ofL ((fl.take (i + 1)).map (·.2)) = putS (ofL ((fl.take i).map (·.2))) n j := by
        rw [List.take_add_one, hz, List.map_append]
        exact ofL_snoc _ n j
      refine ⟨q, _, rfl, SqT.of h1, rfl, _, _, rfl, _, _, rfl, rfl, ?_⟩
      refine of_add (T := T) (is_ := 1) (in_ := 2) (ir := 3) st3 rfl rfl rfl on ok h2 fun b H4 F4 k4 st4 fr4 => ?_
      refine ⟨_, _, F4, rfl, k3.trans k4 fun b hb => .inr (fr b hb), by rw [tk]; exact st4, fun b hb => ?_⟩
      rcases fr4 b hb with h | h
      · exact fr b h
      · exact k3.nw h
    · rintro σ H3 ⟨v1, v2, F3, rfl, k3, st3, fr⟩
      rw [List.length_map, List.take_of_length_le (Nat.le_refl _)] at st3
      exact ⟨_, rfl, k x F3 H3 k3 st3 fr⟩
end
end DH
namespace DH
open PySem PySem.Spec L2
open PyProof.Rows hiding St
/-- the part of «U and not V» that a set of pairs holds -/
def mkC (p : Cont) (U V : Cont) : Cont := fun m k => p m k && (U m k && !V m k)
/-- the pairs done: names ns, and of the name n the rows rs -/
def dnC (ns : List Str) (n : Str) (rs : List Int) : Cont := fun m k => decide (m ∈ ns) || (decide (m = n) && decide (k ∈ rs))
theorem Dom.mk {p U V : Cont} (d : Dom U) : Dom (mkC p U V) := fun m k h => by
  unfold mkC at h
  simp only [Bool.and_eq_true] at h
  exact d m k h.2.1
theorem mkC_start (ns : List Str) (n : Str) (U V : Cont) : mkC (dnC ns n []) U V = mkC (fun m _ => decide (m ∈ ns)) U V := by
  funext m k
  simp [mkC, dnC]
theorem mkC_end {ns : List Str} {n : Str} {U V : Cont} (d : Dom U) : mkC (dnC ns n (rowsS U n)) U V = mkC (fun m _ => decide (m ∈ ns ++ [n])) U V := by
  funext m k
  unfold mkC dnC
  by_cases h : U m k = true
  · by_cases q : m = n
    · subst q
      have := (mem_rowsS d).mpr h
      simp [this]
    · simp [q]
  · simp [h]
theorem mkC_out {ns : List Str} {n : Str} {rs : List Int} {k : Int} {U V : Cont} (h : V n k = true) : mkC (dnC ns n (rs ++ [k])) U V = mkC (dnC ns n rs) U V := by
  funext m j
  unfold mkC dnC
  by_cases q : m = n ∧ j = k
  · obtain ⟨rfl, rfl⟩ := q
    simp [h]
  · by_cases q1 : m = n
    · have q2 : ¬ j = k := fun z => q ⟨q1, z⟩
      simp [q2]
    · simp [q1]
theorem mkC_in {ns : List Str} {n : Str} {rs : List Int} {k : Int} {U V : Cont} (hu : U n k = true) (h : ¬ V n k = true) : mkC (dnC ns n (rs ++ [k])) U V = putS (mkC (dnC ns n rs) U V) n k := by
  funext m j
  unfold mkC dnC putS
  by_cases q : m = n ∧ j = k
  · obtain ⟨rfl, rfl⟩ := q
    simp [h, hu]
  · rw [decide_eq_false q]
    by_cases q1 : m = n
    · have q2 : ¬ j = k := fun z => q ⟨q1, z⟩
      simp [q2]
    · simp [q1]
theorem mkC_no {p U V : Cont} {n : Str} {k : Int} (h : U n k = true) : mkC p V U n k = false := by
  simp [mkC, h]
structure ApI (T : List (Addr × Str)) (H H3 : Hp) (CS CR CC s1 s2 x : Addr) (F10 F20 F1 F2 Fc : List Addr) (S1 S2 A D : Cont) : Prop where
  kp : Kp T (F10 ++ F20) H H3
  o1 : StS H3 CS CR s1 F1 S1
  o2 : StS H3 CS CR s2 F2 S2
  ch : ChS H3 CC x Fc A D
  f1 : ∀ b ∈ F1, b ∈ F10 ∨ Nw H b
  f2 : ∀ b ∈ F2, b ∈ F20 ∨ Nw H b
  fc : ∀ b ∈ Fc, Nw H b
  d12 : ∀ b ∈ F1, b ∉ F2
  d1c : ∀ b ∈ F1, b ∉ Fc
  d2c : ∀ b ∈ F2, b ∉ Fc
theorem disj_grow {H : Hp} {Fx F1 F1' : List Addr} (hd : ∀ b ∈ Fx, Dct H b) (h : ∀ b ∈ Fx, b ∉ F1) (g : ∀ b ∈ F1', b ∈ F1 ∨ Nw H b) : ∀ b ∈ Fx, b ∉ F1' := fun b hb z => by
  rcases g b z with q | q
  · exact h b hb q
  · rcases hd b hb with ⟨kvs, e⟩ | ⟨kvs, e⟩
    · exact q _ e .dT
    · exact q _ e .dK
theorem dsym {F G : List Addr} (h : ∀ b ∈ F, b ∉ G) : ∀ b ∈ G, b ∉ F := fun b hb z => h b z hb
section
variable {T : List (Addr × Str)} {H H3 H4 : Hp} {CS CR CC s1 s2 x : Addr} {F10 F20 F1 F2 Fc F' : List Addr} {S1 S2 A D A' D' : Cont}
theorem ApI.one (I : ApI T H H3 CS CR CC s1 s2 x F10 F20 F1 F2 Fc S1 S2 A D) (k : Kp T F1 H3 H4) (st : StS H4 CS CR s1 F' S1) (g : ∀ b ∈ F', b ∈ F1 ∨ Nw H3 b) : ApI T H H4 CS CR CC s1 s2 x F10 F20 F' F2 Fc S1 S2 A D := by
  have mu : ∀ b ∈ F1, Mu H3 b := fun b hb => .dct (I.o1.dct b hb)
  refine ⟨I.kp.trans k fun b hb => ?_, st, I.o2.kp k mu (dsym I.d12), I.ch.kp k mu (dsym I.d1c), fun b hb => ?_, I.f2, I.fc, dsym (disj_grow I.o2.dct (dsym I.d12) g), dsym (disj_grow I.ch.dct (dsym I.d1c) g), I.d2c⟩
  · exact (I.f1 b hb).imp (fun h => List.mem_append_left _ h) id
  · rcases g b hb with h | h
    · exact I.f1 b h
    · exact .inr (I.kp.nw h)
theorem ApI.two (I : ApI T H H3 CS CR CC s1 s2 x F10 F20 F1 F2 Fc S1 S2 A D) (k : Kp T F2 H3 H4) (st : StS H4 CS CR s2 F' S2) (g : ∀ b ∈ F', b ∈ F2 ∨ Nw H3 b) : ApI T H H4 CS CR CC s1 s2 x F10 F20 F1 F' Fc S1 S2 A D := by
  have mu : ∀ b ∈ F2, Mu H3 b := fun b hb => .dct (I.o2.dct b hb)
  refine ⟨I.kp.trans k fun b hb => ?_, I.o1.kp k mu I.d12, st, I.ch.kp k mu (dsym I.d2c), I.f1, fun b hb => ?_, I.fc, disj_grow I.o1.dct I.d12 g, I.d1c, dsym (disj_grow I.ch.dct (dsym I.d2c) g)⟩
  · exact (I.f2 b hb).imp (fun h => List.mem_append_right _ h) id
  · rcases g b hb with h | h
    · exact I.f2 b h
    · exact .inr (I.kp.nw h)
theorem ApI.note (I : ApI T H H3 CS CR CC s1 s2 x F10 F20 F1 F2 Fc S1 S2 A D) (k : Kp T Fc H3 H4) (c : ChS H4 CC x F' A' D') (g : ∀ b ∈ F', b ∈ Fc ∨ Nw H3 b) : ApI T H H4 CS CR CC s1 s2 x F10 F20 F1 F2 F' S1 S2 A' D' := by
  have mu : ∀ b ∈ Fc, Mu H3 b := fun b hb => .dct (I.ch.dct b hb)
  refine ⟨I.kp.trans k fun b hb => .inr (I.fc b hb), I.o1.kp k mu I.d1c, I.o2.kp k mu I.d2c, c, I.f1, I.f2, fun b hb => ?_, I.d12, disj_grow I.o1.dct I.d1c g, disj_grow I.o2.dct I.d2c g⟩
  rcases g b hb with h | h
  · exact I.fc b h
  · exact I.kp.nw h
theorem ApI.kp0 (I : ApI T H H3 CS CR CC s1 s2 x F10 F20 F1 F2 Fc S1 S2 A D) (k : Kp T [] H3 H4) : ApI T H H4 CS CR CC s1 s2 x F10 F20 F1 F2 Fc S1 S2 A D :=
  ⟨I.kp.trans0 k, I.o1.kp0 k, I.o2.kp0 k, I.ch.kp0 k, I.f1, I.f2, I.fc, I.d12, I.d1c, I.d2c⟩
end
/-- [(n, 1) for n in a tuple of texts] -/
theorem lc_mk {K : PySem.W.Frag} {T : List (Addr × Str)} {a D : Addr} {ns : List Str} {vs : List Nat} {i0 : Nat} {σ : L2.St} {H1 : Hp} {Qd : Hp → Prop} (hD : H1 D = none) (ha : SqT K H1 a (ns.map V.str)) (hl : ns.length ≤ 1000)
    (σ1 : ∀ v, ((wipe σ vs).set i0 (some v))[i0]? = some (some v)) (σ2 : ∀ v, wipe ((wipe σ vs).set i0 (some v)) vs = wipe σ vs)
    (hd : ∀ H2 ps, Kp T [D] (upd H1 D (.lst [])) H2 → H2 D = some (.lst (ps.map V.ref)) → Paired (fun (p : Addr) (n : Str) => H2 p = some (.tup [.str n, .int 1])) ps ns → Qd H2) :
    ∃ W : Nat → Nat → Hp → Prop, (∃ m, W 0 m (upd H1 D (.lst []))) ∧ ∀ i m H, W i m H →
      ((Itt K a).stop i H ∧ Qd H) ∨ ((Itt K a).go i H ∧ ∃ Nx : Hp → Prop, (∀ H', Nx H' → ∃ m', m' < m ∧ W (i + 1) m' H') ∧ ∀ x H', (Itt K a).yld i H x H' → gName i0 x (wipe σ vs) H' fun σ2 H2 => wipe σ2 vs = wipe σ vs ∧ tYes σ2 H2 fun b H3 =>
        if b = true then tTup (tCons (tVar i0) (tCons (tC (.int 1)) tNil)) σ2 H3 fun y H4 => ∃ acc, H4 D = some (.lst acc) ∧ acc.length < sizeLine ∧ Nx (upd H4 D (.lst (acc ++ [y]))) else Nx H3) := by
  refine lc_tup (K := K) (a := a) (xs := ns.map V.str) (fun i H2 => Kp T [D] (upd H1 D (.lst [])) H2 ∧ ∃ ps, H2 D = some (.lst (ps.map V.ref)) ∧ Paired (fun (p : Addr) (n : Str) => H2 p = some (.tup [.str n, .int 1])) ps (ns.take i)) ⟨.refl _ _ _, [], upd_same, .nil⟩ ?_ ?_ ?_
  · rintro i H2 _ ⟨k, _⟩
    exact SqT.kp (SqT.kp ha (Kp.new (T := T) (F := []) hD) (fun _ z => nomatch z)) k mu1
  · rintro i y H2 hy ⟨k2, ps, hps, hpp⟩
    rw [List.getElem?_map] at hy
    obtain ⟨n, hn, rfl⟩ := Option.map_eq_some_iff.mp hy
    have hil : i < ns.length := (List.getElem?_eq_some_iff.mp hn).1
    refine ⟨σ2 _, ?_⟩
    refine ⟨_, σ1 _, by show 2 ≤ sizeLine; decide, fun t ht => ⟨ps.map V.ref, ?_, ?_, ?_⟩⟩
    · rw [upd_ne (ne_of_none hps ht)]
      exact hps
    · rw [List.length_map, Paired.length hpp, List.length_take]
      exact small1000 (by omega)
    · have k3 : Kp T [] H2 (upd H2 t (.tup [V.str n, V.int 1])) := .new ht
      have k4 := (k3.mono (G := [D]) fun _ z => by cases z).transS (upd_kpD (b := ps.map V.ref ++ [V.ref t]) (k3.lst hps List.not_mem_nil))
      refine ⟨k2.transS k4, ps ++ [t], by rw [upd_same, List.map_append]; rfl, ?_⟩
      have ntC : t ≠ D := (ne_of_none hps ht).symm
      rw [List.take_add_one, hn]
      refine Paired.snoc (Paired.mapP hpp fun p o hp => k4.tup hp (by
        have : p ≠ D := ne_of hp hps (fun z => by cases z)
        simpa using this)) (by rw [upd_ne ntC, upd_same])
  · rintro H2 ⟨k2, ps, hps, hpp⟩
    rw [List.length_map, List.take_of_length_le (Nat.le_refl _)] at hpp
    exact hd H2 ps k2 hps hpp
theorem cat_read {K : PySem.W.Frag} {T : List (Addr × Str)} {xs ys : List V} {a b : Addr} {H : Hp} {Q : VK} (ha : SqT K H a xs) (hb : SqT K H b ys) (hl : xs.length + ys.length ≤ sizeLine) (k : ∀ t H', Kp T [] H H' → SqT K H' t (xs ++ ys) → Q (.ref t) H') : rCatA K (.ref a) (.ref b) H Q := by
  refine ⟨a, b, xs, ys, rfl, rfl, ha, hb, hl, fun e => k b H (.refl _ _ _) ?_, fun _ e => k a H (.refl _ _ _) ?_, fun _ _ p hp => k p _ (.new hp) (SqT.of upd_same)⟩
  · rw [e]
    exact hb
  · rw [e, List.append_nil]
    exact ha
section
variable {P : Program} {w : World} {K : PySem.W.Frag} {mg : Str → Option Value} {base : Heap} {T : List (Addr × Str)}
def spApart (T : List (Addr × Str)) (CS CR CC : Addr) : Sp := fun vs H Q _ => ∃ (s1 s2 : Addr) (F1 F2 : List Addr) (S1 S2 : Cont), vs = [.ref s1, .ref s2] ∧ LamX.Tabs T H ∧ StS H CS CR s1 F1 S1 ∧ StS H CS CR s2 F2 S2 ∧ (∀ b ∈ F1, b ∉ F2) ∧
  ∀ (x : Addr) (F1' F2' Fc : List Addr) (H' : Hp), ApI T H H' CS CR CC s1 s2 x F1 F2 F1' F2' Fc S1 S2 (mkC (fun _ _ => true) S2 S1) (mkC (fun _ _ => true) S1 S2) → Q (.ref x) H'
theorem sc_apart : FnScope ["one", "other", "changes", "name", "row"] ["one", "other"] (defScope sApart) := ⟨rfl, rfl, rfl, by decide +kernel, rfl, by decide +kernel, by decide +kernel⟩
theorem ok_apart {f CS CR CC fI fN fO fH fW fT : Addr} {fd fdI fdN fdO fdH fdW fdT : FuncData} (F : Fun K "apart" "apart" sApart f fd) (S : StoT K mg CS) (R : RelT K mg CR) (C : ChT K mg CC) (Y : PyT mg) (M : Mk K CC fI) (GI : FnOk P w K mg base CX0 1 fI fdI ["self"] (spCInit T CC)) (bI : L2.Binds K fdI ["self"] [])
    (mN : Meth K CS "names" fN) (GN : FnOk P w K mg base CX0 2 fN fdN ["self"] (spSNames T CS CR)) (bN : L2.Binds K fdN ["self"] [])
    (mO : Meth K CS "of" fO) (GO : FnOk P w K mg base CX0 3 fO fdO ["self", "name"] (spSOf T CS CR)) (bO : L2.Binds K fdO ["self", "name"] [])
    (mH : Meth K CS "has" fH) (GH : FnOk P w K mg base CX0 2 fH fdH ["self", "name", "row"] (spSHas CS CR)) (bH : L2.Binds K fdH ["self", "name", "row"] [])
    (mW : Meth K CR "rows" fW) (GW : FnOk P w K mg base CX0 8 fW fdW ["self"] (spRRows T CR)) (bW : L2.Binds K fdW ["self"] [])
    (mT : Meth K CC "note" fT) (GT : FnOk P w K mg base CX0 1 fT fdT ["self", "name", "row", "came"] (spNote T CC)) (bT : L2.Binds K fdT ["self", "name", "row", "came"] []) :
    FnOk P w K mg base CX0 9 f fd ["one", "other"] (spApart T CS CR CC) := by
  refine F.ok sc_apart (fun vs H Q E h => ?_) (fun cdv A outer s H vs Q E hr h => ?_)
  · obtain ⟨s1, s2, F1, F2, S1, S2, rfl, _⟩ := h
    rfl
  · obtain ⟨s1, s2, F10, F20, S1, S2, rfl, hT, h1, h2, h12, k⟩ := h
    have hr1 : Room 1 _ := hr.mono (by decide)
    have hr2 : Room 2 _ := hr.mono (by decide)
    have hr3 : Room 3 _ := hr.mono (by decide)
    refine ⟨_, pss_cons (ps_set (i := 2) sc_apart.nd rfl (Or.inl rfl) (pe_make0 M GI hr2 rfl C.mgC bI .nil pass0))
      (pss_cons (ps_for PassesOwn.never rfl (pi_list (pe_callB (call_sortedD rfl) rfl Y.srt (show bootBuiltins "sorted" = some (.builtin "sorted") by decide +kernel) (pa_cons (pe_callTy (call_dictP rfl) rfl Y.dic (show bootBuiltins "dict" = some (.type "dict") by decide +kernel) (pa_cons
            (pe_lc (own := [("name", 3)]) (g := gName 3) (tt := tYes) (te := tTup (tCons (tVar 3) (tCons (tC (.int 1)) tNil))) rfl sc_apart.nd (pi_tup (pe_op op_catA (pe_meth0 (pv 0) S.cl mN GN hr2 bN .nil pass0) (pe_meth0 (pv 1) S.cl mN GN hr2 bN .nil pass0))) (blkOk_by (N := ["one", "other", "changes", "name", "row"]) (sc := defScope sApart) (by decide +kernel))
              (fun _ _ _ _ _ => pg_name (i := 3) sc_apart.nd rfl (Or.inl rfl)) (fun _ _ _ _ _ => pts_nil) (fun _ _ _ _ _ => pe_tup (pa_cons (pv 3) (pa_cons pe_int pa_nil)))) pa_nil)) pa_nil))) (pg_name (i := 3) sc_apart.nd rfl (Or.inl rfl))
        (pss_cons (ps_for PassesOwn.never rfl (pi_tup (pe_meth0 (pe_meth (pv 1) S.cl mO GO hr3 bO .nil pass0 (pa_cons (pv 3) pa_nil)) R.cl mW GW hr bW .nil pass0)) (pg_name (i := 4) sc_apart.nd rfl (Or.inl rfl))
            (pss_one (ps_if (pt_not (pt_truth (pe_meth (pv 0) S.cl mH GH hr2 bH .nil pass0 (pa_cons (pv 3) (pa_cons (pv 4) pa_nil))) (fun _ => rfl)))
              (pss_one (ps_expr (pe_meth (pv 2) C.cl mT GT hr1 bT .nil pass0 (pa_cons (pv 3) (pa_cons (pv 4) (pa_cons pe_bl pa_nil)))))) pss_nil)))
        (pss_one (ps_for PassesOwn.never rfl (pi_tup (pe_meth0 (pe_meth (pv 0) S.cl mO GO hr3 bO .nil pass0 (pa_cons (pv 3) pa_nil)) R.cl mW GW hr bW .nil pass0)) (pg_name (i := 4) sc_apart.nd rfl (Or.inl rfl))
            (pss_one (ps_if (pt_not (pt_truth (pe_meth (pv 1) S.cl mH GH hr2 bH .nil pass0 (pa_cons (pv 3) (pa_cons (pv 4) pa_nil))) (fun _ => rfl)))
              (pss_one (ps_expr (pe_meth (pv 2) C.cl mT GT hr1 bT .nil pass0 (pa_cons (pv 3) (pa_cons (pv 4) (pa_cons pe_bl pa_nil)))))) pss_nil))))))
      (pss_one (ps_ret (pv 2)))), ?_⟩
    intro x dx nx ndx nex
    have k0 : Kp T [] H (upd (upd H dx (.own x)) x (.ins CC dx [])) := (Kp.new ndx).transS (.new (by rw [upd_ne nex.symm]; exact nx))
    refine ⟨x, dx, rfl, upd_same, fun da dd H1 na nd hC1 k1 => ⟨rfl, ?_⟩⟩
    have kH1 : Kp T [] H H1 := k0.trans k1 fun b hb => .inr (by rw [List.mem_singleton.mp hb]; exact .of nx)
    have hfc : ∀ b ∈ chC da dd [] [], Nw H b := fun b hb => by
      rcases mem_chC.mp hb with rfl | rfl | ⟨e, he, _⟩ | ⟨e, he, _⟩
      · exact k0.nw na
      · exact k0.nw nd
      · cases he
      · cases he
    have c0 : ∀ U V, mkC (fun m _ => decide (m ∈ ([] : List Str))) U V = none2 := fun U V => by
      funext m k
      simp [mkC, none2]
    have I1 : ApI T H H1 CS CR CC s1 s2 x F10 F20 F10 F20 (chC da dd [] []) S1 S2 none2 none2 :=
      ⟨kH1.mono (fun _ z => by cases z), h1.kp0 kH1, h2.kp0 kH1, ⟨da, dd, [], [], hC1, rfl, (fun n k => by constructor <;> intro h <;> cases h), (fun n k => by constructor <;> intro h <;> cases h), (fun _ z => by cases z), (fun _ z => by cases z), .none, .none⟩,
        fun b hb => .inl hb, fun b hb => .inl hb, hfc, h12, (fun b hb z => disj_grow h1.dct (F1 := []) (fun _ _ z => by cases z) (fun b hb => .inr (hfc b hb)) b hb z), (fun b hb z => disj_grow h2.dct (F1 := []) (fun _ _ z => by cases z) (fun b hb => .inr (hfc b hb)) b hb z)⟩
    obtain ⟨dr1, es1, st1, hF1, ct1, ok1, dm1⟩ := id I1.o1
    obtain ⟨dx1, hi1⟩ := st1.ins
    -- the names
    refine ⟨_, rfl, s1, dx1, _, rfl, hi1, lkRn _ (by decide +kernel), s1, dr1, es1, rfl, st1, Nat.lt_of_le_of_lt (es_len st1.names ok1) (by decide), fun p1 ys1 H2 hp1 hs1 k2 np1 hq1 => ?_⟩
    rw [names_of dm1 ct1 st1.names ok1 hp1 hs1] at hq1
    have I2 := I1.kp0 k2
    obtain ⟨dr2, es2, st2, hF2, ct2, ok2, dm2⟩ := id I2.o2
    obtain ⟨dx2, hi2⟩ := st2.ins
    refine ⟨_, rfl, s2, dx2, _, rfl, hi2, lkRn _ (by decide +kernel), s2, dr2, es2, rfl, st2, Nat.lt_of_le_of_lt (es_len st2.names ok2) (by decide), fun p2 ys2 H3 hp2 hs2 k3 np2 hq2 => ?_⟩
    rw [names_of dm2 ct2 st2.names ok2 hp2 hs2] at hq2
    have I3 := I2.kp0 k3
    have l1 := namesS_len S1
    have l2 := namesS_len S2
    have hsz : 4 ≤ sizeLine := by decide
    refine cat_read (T := T) (SqT.of (k3.tup hq1 List.not_mem_nil)) (SqT.of hq2) (by rw [List.length_map, List.length_map]; omega) fun t H4 k4 ht => ?_
    have I4 := I3.kp0 k4
    rw [← List.map_append] at ht
    refine ⟨t, rfl, ⟨_, ht⟩, fun D hD => ?_⟩
    refine lc_mk (T := T) hD ht (by rw [List.length_append]; omega) (fun _ => rfl) (fun _ => rfl) fun H5 ps k5 hps hpp => ?_
    have k45 : Kp T [] H4 H5 := (Kp.new hD).trans k5 fun b hb => .inr (by rw [List.mem_singleton.mp hb]; exact .of hD)
    have I5 := I4.kp0 k45
    refine ⟨D, ps, mkN (namesS S1 ++ namesS S2), rfl, SqL.of hps, paired_mk hpp, fun fo nfo => ?_⟩
    have k6 : Kp T [] H5 (upd H5 fo (.dK (mergeK [] (mkN (namesS S1 ++ namesS S2))))) := .new nfo
    have I6 := I5.kp0 k6
    obtain ⟨m1, m2⟩ := merge_keys (namesS S1 ++ namesS S2) []
    have mem : ∀ key, key ∈ (mergeK [] (mkN (namesS S1 ++ namesS S2))).map (·.1) ↔ ∃ n, key = Sum.inr n ∧ (nmOk n ∧ decide (rowsS S1 n ≠ [] ∨ rowsS S2 n ≠ []) = true) := by
      intro key
      rw [m1]
      simp only [List.map_nil, List.not_mem_nil, false_or, decide_eq_true_eq, List.mem_append]
      constructor
      · rintro ⟨n, hn | hn, rfl⟩
        · have := namesS_mem hn
          exact ⟨n, rfl, this.1, .inl this.2⟩
        · have := namesS_mem hn
          exact ⟨n, rfl, this.1, .inr this.2⟩
      · rintro ⟨n, rfl, h1, h2⟩
        refine ⟨n, ?_, rfl⟩
        have hm : ∀ S, rowsS S n ≠ [] → n ∈ namesS S := fun S hS => by
          unfold namesS
          rw [List.mem_filter]
          refine ⟨?_, decide_eq_true hS⟩
          rcases h1 with rfl | rfl <;> simp
        exact h2.imp (hm S1) (hm S2)
    obtain ⟨ks, hks⟩ := inr_list (l := (mergeK [] (mkN (namesS S1 ++ namesS S2))).map (·.1)) fun key hk => by
      obtain ⟨n, e, _⟩ := (mem key).mp hk
      exact ⟨n, e⟩
    have ndk : ks.Nodup := by
      have := m2 (by simp)
      rw [hks] at this
      exact (List.pairwise_map.mp this).imp fun h e => h (by rw [e])
    have lks : ks.length < 64 := by
      have h1 : ks.length = (mergeK [] (mkN (namesS S1 ++ namesS S2))).length := by
        have := congrArg List.length hks
        simpa using this.symm
      have h2 := length_mergeK (mkN (namesS S1 ++ namesS S2)) []
      have h3 : (mkN (namesS S1 ++ namesS S2)).length ≤ 4 := by
        unfold mkN
        rw [List.length_map, List.length_append]
        omega
      simp only [List.length_nil] at h2
      omega
    refine ⟨fo, _, ks, rfl, .inl upd_same, hks, lks, fun ys p hp hs np => ?_⟩
    have ey : ys = namesC S1 S2 := names_eq2 (hp.nodup_iff.mpr ndk) hs fun n => by
      rw [hp.mem_iff]
      have h1 : n ∈ ks ↔ (Sum.inr n : L2.Key) ∈ ks.map Sum.inr := by simp
      rw [h1, ← hks, mem]
      constructor
      · rintro ⟨n', e, h⟩
        injection e with e
        subst e
        exact h
      · exact fun h => ⟨n, rfl, h⟩
    subst ey
    have I7 := I6.kp0 (Kp.new (o := .lst ((namesC S1 S2).map V.str)) np)
    have hp7 : (upd (upd H5 fo (.dK (mergeK [] (mkN (namesS S1 ++ namesS S2))))) p (.lst ((namesC S1 S2).map V.str))) p = some (.lst ((namesC S1 S2).map V.str)) := upd_same
    generalize upd (upd H5 fo (.dK (mergeK [] (mkN (namesS S1 ++ namesS S2))))) p (.lst ((namesC S1 S2).map V.str)) = H7 at I7 hp7 ⊢
    obtain ⟨_, _, _, _, _, _, dS1⟩ := id h1
    obtain ⟨_, _, _, _, _, _, dS2⟩ := id h2
    refine ⟨p, rfl, ⟨_, SqL.of hp7⟩, for_list (K := K) (a := p) (xs := (namesC S1 S2).map V.str) (fun i σ H8 => ∃ v3 v4 F1 F2 Fc, σ = [some (.ref s1), some (.ref s2), some (.ref x), v3, v4] ∧
        ApI T H H8 CS CR CC s1 s2 x F10 F20 F1 F2 Fc S1 S2 (mkC (fun m _ => decide (m ∈ (namesC S1 S2).take i)) S2 S1) (mkC (fun m _ => decide (m ∈ (namesC S1 S2).take i)) S1 S2) ∧ H8 p = some (.lst ((namesC S1 S2).map V.str)))
      ⟨none, none, _, _, _, rfl, by rw [List.take_zero, c0, c0]; exact I7, hp7⟩ (fun i σ H8 _ ⟨_, _, _, _, _, _, _, h⟩ => SqL.of h) ?_ ?_⟩
    · rintro i y σ H8 hy ⟨v3, v4, F1, F2, Fc, rfl, I8, hp8⟩
      rw [List.getElem?_map] at hy
      obtain ⟨n, hn, rfl⟩ := Option.map_eq_some_iff.mp hy
      have tk : (namesC S1 S2).take (i + 1) = (namesC S1 S2).take i ++ [n] := by rw [List.take_add_one, hn]; rfl
      have nok : nmOk n := namesC_ok _ (List.mem_of_getElem? hn)
      refine of_rows (T := T) (is_ := 1) (in_ := 3) I8.o2 (I8.kp.tabs hT) rfl rfl nok fun t1 os1 H9 F9 k9 st9 g9 nt9 ht9 ho9 hk9 => ?_
      have I9 := I8.two k9 st9 g9
      have hp9 := k9.lst hp8 (Dct.ne I8.o2.dct hp8 .lst)
      refine ⟨t1, rfl, ⟨_, SqT.of ht9⟩, for_tup (K := K) (a := t1) (xs := rfs os1) (fun j σ H10 => ∃ v4 F1 F2 Fc, σ = [some (.ref s1), some (.ref s2), some (.ref x), some (.str n), v4] ∧
        ApI T H H10 CS CR CC s1 s2 x F10 F20 F1 F2 Fc S1 S2 (mkC (dnC ((namesC S1 S2).take i) n ((os1.map (·.2)).take j)) S2 S1) (mkC (fun m _ => decide (m ∈ (namesC S1 S2).take i)) S1 S2) ∧ H10 p = some (.lst ((namesC S1 S2).map V.str)) ∧ H10 t1 = some (.tup (rfs os1)) ∧ RowsAt H10 os1)
        ⟨v4, _, _, _, rfl, by rw [List.take_zero, mkC_start]; exact I9, hp9, ht9, ho9⟩ (fun j σ H10 _ ⟨_, _, _, _, _, _, _, h, _⟩ => SqT.of h) ?_ ?_⟩
      · rintro j y σ H10 hy ⟨v4, F1, F2, Fc, rfl, I10, hp10, ht10, ho10⟩
        rw [List.getElem?_map] at hy
        obtain ⟨o, ho, rfl⟩ := Option.map_eq_some_iff.mp hy
        have hom := List.mem_of_getElem? ho
        have hU : S2 n o.2 = true := by
          rw [← mem_rowsS dS2, ← hk9]
          exact List.mem_map.mpr ⟨o, hom, rfl⟩
        have tk2 : (os1.map (·.2)).take (j + 1) = (os1.map (·.2)).take j ++ [o.2] := by
          rw [List.take_add_one, List.getElem?_map, ho]
          rfl
        obtain ⟨dr, es, st, _, ct, _, _⟩ := id I10.o1
        obtain ⟨dx, hi⟩ := st.ins
        refine ⟨_, rfl, s1, dx, _, rfl, hi, lkRn _ (by decide +kernel), _, rfl, _, rfl, s1, dr, o.1, es, n, o.2, rfl, st, ho10 o hom, _, rfl, ?_⟩
        have hdec : decide (o.2 ∈ rowsE es n) = S1 n o.2 := by
          rw [Bool.eq_iff_iff, decide_eq_true_eq]
          exact ct n o.2
        rw [hdec]
        cases hV : S1 n o.2 with
        | true =>
          refine iteF ⟨_, F1, F2, Fc, rfl, ?_, hp10, ht10, ho10⟩
          rw [tk2, mkC_out hV]
          exact I10
        | false =>
          refine iteT ?_
          obtain ⟨da', dd', ea', ed', hc', _⟩ := id I10.ch
          obtain ⟨dxc, hic⟩ := hc'.ins
          refine ⟨_, rfl, x, dxc, _, rfl, hic, lkCn _ _ (by decide +kernel) (by decide +kernel), _, rfl, _, rfl, x, o.1, Fc, _, _, n, o.2, true, rfl, I10.ch, nok, (dS2 n o.2 hU).2, ho10 o hom, fun H11 F11 k11 c11 g11 => ?_⟩
          have hD0 : mkC (fun m _ => decide (m ∈ (namesC S1 S2).take i)) S1 S2 n o.2 = false := mkC_no hU
          simp only [if_true, noteH, noteG, hD0, Bool.false_eq_true, if_false] at c11
          rw [← mkC_in hU (by rw [hV]; exact Bool.false_ne_true), ← tk2] at c11
          refine ⟨_, F1, F2, F11, rfl, I10.note k11 c11 g11, k11.lst hp10 (Dct.ne I10.ch.dct hp10 .lst), k11.tup ht10 (Dct.ne I10.ch.dct ht10 .tup), ho10.kp k11 fun o' ho' => Dct.ne I10.ch.dct (ho10 o' ho') .tup⟩
      · rintro σ H10 ⟨v4, F1, F2, Fc, rfl, I10, hp10, ht10, ho10⟩
        have eL : (os1.map (·.2)).take (rfs os1).length = rowsS S2 n := by rw [List.length_map, List.take_of_length_le (by rw [List.length_map]; exact Nat.le_refl _), hk9]
        rw [eL, mkC_end dS2, ← tk] at I10
        refine of_rows (T := T) (is_ := 0) (in_ := 3) I10.o1 (I10.kp.tabs hT) rfl rfl nok fun t2 os2 H12 F12 k12 st12 g12 nt12 ht12 ho12 hk12 => ?_
        have I12 := I10.one k12 st12 g12
        have hp12 := k12.lst hp10 (Dct.ne I10.o1.dct hp10 .lst)
        refine ⟨t2, rfl, ⟨_, SqT.of ht12⟩, for_tup (K := K) (a := t2) (xs := rfs os2) (fun j σ H10 => ∃ v4 F1 F2 Fc, σ = [some (.ref s1), some (.ref s2), some (.ref x), some (.str n), v4] ∧
          ApI T H H10 CS CR CC s1 s2 x F10 F20 F1 F2 Fc S1 S2 (mkC (fun m _ => decide (m ∈ (namesC S1 S2).take (i + 1))) S2 S1) (mkC (dnC ((namesC S1 S2).take i) n ((os2.map (·.2)).take j)) S1 S2) ∧ H10 p = some (.lst ((namesC S1 S2).map V.str)) ∧ H10 t2 = some (.tup (rfs os2)) ∧ RowsAt H10 os2)
          ⟨v4, _, _, _, rfl, by rw [List.take_zero, mkC_start]; exact I12, hp12, ht12, ho12⟩ (fun j σ H10 _ ⟨_, _, _, _, _, _, _, h, _⟩ => SqT.of h) ?_ ?_⟩
        · rintro j y σ H10 hy ⟨v4, F1, F2, Fc, rfl, I10, hp10, ht10, ho10⟩
          rw [List.getElem?_map] at hy
          obtain ⟨o, ho, rfl⟩ := Option.map_eq_some_iff.mp hy
          have hom := List.mem_of_getElem? ho
          have hU : S1 n o.2 = true := by
            rw [← mem_rowsS dS1, ← hk12]
            exact List.mem_map.mpr ⟨o, hom, rfl⟩
          have tk2 : (os2.map (·.2)).take (j + 1) = (os2.map (·.2)).take j ++ [o.2] := by
            rw [List.take_add_one, List.getElem?_map, ho]
            rfl
          obtain ⟨dr, es, st, _, ct, _, _⟩ := id I10.o2
          obtain ⟨dx, hi⟩ := st.ins
          refine ⟨_, rfl, s2, dx, _, rfl, hi, lkRn _ (by decide +kernel), _, rfl, _, rfl, s2, dr, o.1, es, n, o.2, rfl, st, ho10 o hom, _, rfl, ?_⟩
          have hdec : decide (o.2 ∈ rowsE es n) = S2 n o.2 := by
            rw [Bool.eq_iff_iff, decide_eq_true_eq]
            exact ct n o.2
          rw [hdec]
          cases hV : S2 n o.2 with
          | true =>
            refine iteF ⟨_, F1, F2, Fc, rfl, ?_, hp10, ht10, ho10⟩
            rw [tk2, mkC_out hV]
            exact I10
          | false =>
            refine iteT ?_
            obtain ⟨da', dd', ea', ed', hc', _⟩ := id I10.ch
            obtain ⟨dxc, hic⟩ := hc'.ins
            refine ⟨_, rfl, x, dxc, _, rfl, hic, lkCn _ _ (by decide +kernel) (by decide +kernel), _, rfl, _, rfl, x, o.1, Fc, _, _, n, o.2, false, rfl, I10.ch, nok, (dS1 n o.2 hU).2, ho10 o hom, fun H11 F11 k11 c11 g11 => ?_⟩
            have hA0 : mkC (fun m _ => decide (m ∈ (namesC S1 S2).take (i + 1))) S2 S1 n o.2 = false := mkC_no hU
            simp only [Bool.false_eq_true, if_false, noteH, noteG, hA0] at c11
            rw [← mkC_in hU (by rw [hV]; exact Bool.false_ne_true), ← tk2] at c11
            refine ⟨_, F1, F2, F11, rfl, I10.note k11 c11 g11, k11.lst hp10 (Dct.ne I10.ch.dct hp10 .lst), k11.tup ht10 (Dct.ne I10.ch.dct ht10 .tup), ho10.kp k11 fun o' ho' => Dct.ne I10.ch.dct (ho10 o' ho') .tup⟩
        · rintro σ H10 ⟨v4, F1, F2, Fc, rfl, I10, hp10, ht10, ho10⟩
          have eL2 : (os2.map (·.2)).take (rfs os2).length = rowsS S1 n := by rw [List.length_map, List.take_of_length_le (by rw [List.length_map]; exact Nat.le_refl _), hk12]
          rw [eL2, mkC_end dS1, ← tk] at I10
          exact ⟨_, _, F1, F2, Fc, rfl, I10, hp10⟩
    · rintro σ H8 ⟨v3, v4, F1, F2, Fc, rfl, I8, hp8⟩
      rw [List.length_map, List.take_of_length_le (Nat.le_refl _)] at I8
      have e : ∀ U V, Dom U → (U = S1 ∨ U = S2) → mkC (fun m _ => decide (m ∈ namesC S1 S2)) U V = mkC (fun _ _ => true) U V := by
        intro U V dU hU
        funext m k
        unfold mkC
        by_cases h : U m k = true
        · have hr : rowsS U m ≠ [] := fun z => by
            have := (mem_rowsS dU).mpr h
            rw [z] at this
            cases this
          have : m ∈ namesC S1 S2 := by
            unfold namesC
            rw [List.mem_filter]
            refine ⟨?_, decide_eq_true ?_⟩
            · rcases (dU m k h).1 with rfl | rfl <;> simp
            · rcases hU with rfl | rfl
              · exact .inl hr
              · exact .inr hr
          simp [this]
        · simp [h]
      rw [e S2 S1 dS2 (.inr rfl), e S1 S2 dS1 (.inl rfl)] at I8
      exact ⟨_, rfl, k x F1 F2 Fc H8 I8⟩
end
end DH
namespace DH
open PySem PySem.Spec L2
open PyProof.Rows hiding St
/-- the changes fit: what went is there, what came isn't -/
def Fits (S A D : Cont) : Prop := (∀ n k, D n k = true → S n k = true) ∧ ∀ n k, A n k = true → ¬ S n k = true
def fitsAt (S A D : Cont) (n : Str) : Prop := (∀ k, D n k = true → S n k = true) ∧ ∀ k, A n k = true → ¬ S n k = true
/-- the store behind them -/
def laidC (S A D : Cont) : Cont := fun n k => (S n k && !D n k) || A n k
def upC (S A D : Cont) (ns : List Str) : Cont := fun m k => if m ∈ ns then laidC S A D m k else S m k
def dlC (S A D : Cont) (ns : List Str) (n : Str) (rs : List Int) : Cont := fun m k => if m = n then S m k && !decide (k ∈ rs) else upC S A D ns m k
def adC (S A D : Cont) (ns : List Str) (n : Str) (rs : List Int) : Cont := fun m k => if m = n then (S m k && !D m k) || decide (k ∈ rs) else upC S A D ns m k
section
variable {S A D : Cont} {ns : List Str} {n : Str} {rs : List Int} {k : Int}
theorem dlC_start (h : n ∉ ns) : dlC S A D ns n [] = upC S A D ns := by
  funext m j
  unfold dlC
  by_cases q : m = n
  · subst q
    rw [if_pos rfl]
    unfold upC
    rw [if_neg h]
    simp
  · rw [if_neg q]
theorem dlC_step : delS (dlC S A D ns n rs) n k = dlC S A D ns n (rs ++ [k]) := by
  funext m j
  unfold delS dlC
  by_cases q : m = n
  · subst q
    by_cases q2 : j = k
    · subst q2
      simp
    · simp [q2]
  · simp [q]
theorem dlC_end (h : ∀ k, k ∈ rs ↔ D n k = true) : dlC S A D ns n rs = adC S A D ns n [] := by
  funext m j
  unfold dlC adC
  by_cases q : m = n
  · subst q
    have : decide (j ∈ rs) = D m j := by rw [Bool.eq_iff_iff, decide_eq_true_eq]; exact h j
    simp [this]
  · simp [q]
theorem adC_step : putS (adC S A D ns n rs) n k = adC S A D ns n (rs ++ [k]) := by
  funext m j
  unfold putS adC
  by_cases q : m = n
  · subst q
    by_cases q2 : j = k
    · subst q2
      simp
    · simp [q2]
  · simp [q]
theorem adC_end (h : ∀ k, k ∈ rs ↔ A n k = true) : adC S A D ns n rs = upC S A D (ns ++ [n]) := by
  funext m j
  unfold adC upC
  by_cases q : m = n
  · subst q
    have : decide (j ∈ rs) = A m j := by rw [Bool.eq_iff_iff, decide_eq_true_eq]; exact h j
    simp [this, laidC]
  · simp [q]
theorem upC_all (dA : Dom A) (dD : Dom D) : upC S A D (namesC A D) = laidC S A D := by
  funext m j
  unfold upC
  by_cases q : m ∈ namesC A D
  · rw [if_pos q]
  · rw [if_neg q]
    have hm : ∀ U, Dom U → (U = A ∨ U = D) → U m j = false := fun U dU hU => by
      cases h : U m j with
      | false => rfl
      | true =>
        refine absurd ?_ q
        have hr : rowsS U m ≠ [] := fun z => by
          have := (mem_rowsS dU).mpr h
          rw [z] at this
          cases this
        unfold namesC
        rw [List.mem_filter]
        refine ⟨?_, decide_eq_true ?_⟩
        · rcases (dU m j h).1 with rfl | rfl <;> simp
        · rcases hU with rfl | rfl
          · exact .inl hr
          · exact .inr hr
    unfold laidC
    rw [hm A dA (.inl rfl), hm D dD (.inr rfl)]
    simp
theorem fits_all (dA : Dom A) (dD : Dom D) (h : ∀ n ∈ namesC A D, fitsAt S A D n) : Fits S A D := by
  have hm : ∀ U, Dom U → (U = A ∨ U = D) → ∀ n k, U n k = true → n ∈ namesC A D := fun U dU hU n k h => by
    have hr : rowsS U n ≠ [] := fun z => by
      have := (mem_rowsS dU).mpr h
      rw [z] at this
      cases this
    unfold namesC
    rw [List.mem_filter]
    refine ⟨?_, decide_eq_true ?_⟩
    · rcases (dU n k h).1 with rfl | rfl <;> simp
    · rcases hU with rfl | rfl
      · exact .inl hr
      · exact .inr hr
  exact ⟨fun n k hd => (h n (hm D dD (.inr rfl) n k hd)).1 k hd, fun n k ha => (h n (hm A dA (.inl rfl) n k ha)).2 k ha⟩
end
theorem cells_laid (L f : Addr) (cd : Value) : (∃ c, (envOfC "laid_on" (defScope sLaidOn) L f cd).cells.lookup ("store" : Str) = some c) ∧ ∃ c, (envOfC "laid_on" (defScope sLaidOn) L f cd).cells.lookup ("name" : Str) = some c := ⟨⟨_, rfl⟩, ⟨_, rfl⟩⟩
/-- what laid_on's walk asks of the class NoSuch -/
structure NoT (K : PySem.W.Frag) (mg : Str → Option Value) (CN : Addr) : Prop where
  ex : PySem.W.excIn K CN [.type "ValueError", .type "Exception", .type "BaseException", .type "object"] "ValueError.__new__" = true
  mgN : mg "NoSuch" = some (.ref CN)
  kp : PySem.W.keepIn K (.ref CN) = true
  sub : PySem.W.subIn K (.ref CN) (.type "BaseException") = some true
  ty : PySem.W.typeIn K (.ref CN) = some (.type "type")
section
variable {P : Program} {w : World} {K : PySem.W.Frag} {mg : Str → Option Value} {base : Heap} {T : List (Addr × Str)}
def spLaid (T : List (Addr × Str)) (CS CR CC CN : Addr) : Sp := fun vs H Q E => ∃ (s c : Addr) (F Fc : List Addr) (S A D : Cont), vs = [.ref s, .ref c] ∧ LamX.Tabs T H ∧ StS H CS CR s F S ∧ ChS H CC c Fc A D ∧ (∀ b ∈ F, b ∉ Fc) ∧
  (Fits S A D → ∀ (F' : List Addr) (H' : Hp), Kp T F H H' → StS H' CS CR s F' (laidC S A D) → (∀ b ∈ F', b ∈ F ∨ Nw H b) → Q .non H') ∧
  (¬ Fits S A D → ∀ H' : Hp, Kp T [] H H' → E (.ref CN) none H')
theorem sc_laid : FnScope ["store", "changes", "row", "name"] ["store", "changes"] (defScope sLaidOn) := ⟨rfl, rfl, rfl, by decide +kernel, rfl, by decide +kernel, by decide +kernel⟩
theorem ok_laid {f CS CR CC CN fN fA fD fO fH fR fP fT c Pt : Addr} {fd fdN fdA fdD fdO fdH fdR fdP fdT : FuncData} (F : Fun K "laid_on" "laid_on" sLaidOn f fd) (S : StoT K mg CS) (R : RelT K mg CR) (C : ChT K mg CC) (N : NoT K mg CN) (zAny : mg "any" = none)
    (TB : LamX.TabB base mg c Pt) (hcode : fd.code = .ref c) (hmT : (Pt, qGen "laid_on") ∈ T) (huT : ∀ p ∈ T, p.1 = Pt → p.2 = qGen "laid_on")
    (mN : Meth K CC "names" fN) (GN : FnOk P w K mg base CX0 1 fN fdN ["self"] (spCNames T CC)) (bN : L2.Binds K fdN ["self"] [])
    (mA : Meth K CC "came" fA) (GA : FnOk P w K mg base CX0 1 fA fdA ["self", "name"] (spCame T CC false)) (bA : L2.Binds K fdA ["self", "name"] []) (mD : Meth K CC "went" fD) (GD : FnOk P w K mg base CX0 1 fD fdD ["self", "name"] (spCame T CC true)) (bD : L2.Binds K fdD ["self", "name"] [])
    (mO : Meth K CS "of" fO) (GO : FnOk P w K mg base CX0 3 fO fdO ["self", "name"] (spSOf T CS CR)) (bO : L2.Binds K fdO ["self", "name"] [])
    (FH : Fun K "has" "Store.has" sSHas fH fdH) (bH : L2.Binds K fdH ["self", "name", "row"] []) (mH : Meth K CS "has" fH) (FR : Fun K "has" "Relation.has" sRHas fR fdR) (bR : L2.Binds K fdR ["self", "row"] []) (mR : Meth K CR "has" fR)
    (mP : Meth K CR "drop" fP) (GP : FnOk P w K mg base CX0 1 fP fdP ["self", "row"] (spRDrop T CR)) (bP : L2.Binds K fdP ["self", "row"] []) (mT : Meth K CR "add" fT) (GT : FnOk P w K mg base CX0 1 fT fdT ["self", "row"] (spRAdd T CR)) (bT : L2.Binds K fdT ["self", "row"] []) :
    FnOk P w K mg base (L2.CX P w) 4 f fd ["store", "changes"] (spLaid T CS CR CC CN) := by
  refine okXC F sc_laid (fun vs H Q E h => ?_) (fun A outer s H vs Q E hr h => ?_)
  · obtain ⟨s, c, F, Fc, S, A, D, rfl, _⟩ := h
    rfl
  · obtain ⟨st, ch, F0, Fc, S', A', D', rfl, hT, hSt, hCh, hdj, kGood, kBad⟩ := h
    have hr1 : Room 1 _ := hr.mono (by decide)
    have hcl := cells_laid s.heap.objs.size f fd.code
    have hgen : ∀ scope : Scope, scope.names = [((".0" : Str), NameKind.local), (("row" : Str), NameKind.local), (("name" : Str), NameKind.free), (("store" : Str), NameKind.free)] → ∀ y ∈ scope.names, y.2 = NameKind.free → ∃ c, (envOfC "laid_on" (defScope sLaidOn) s.heap.objs.size f fd.code).cells.lookup y.1 = some c := by
      intro scope e y hy hk
      rw [e] at hy
      simp only [List.mem_cons, List.not_mem_nil, or_false] at hy
      rcases hy with rfl | rfl | rfl | rfl
      · cases hk
      · cases hk
      · exact hcl.2
      · exact hcl.1
    refine ⟨_, pss_cons (ps_for (passes_of rfl) rfl (pi_tup (pe_meth0 (pv 1) C.cl mN GN hr1 bN .nil pass0)) (pg_name (i := 3) sc_laid.nd rfl (Or.inr rfl))
        (pss_cons (ps_if (pt_truth (pe_anyH (T := T) (CS := CS) (CR := CR) (iS := 0) (iN := 3) (neg := true) hr FH bH FR bR S.cl R.cl S.nR R.nH mH mR rfl rfl rfl rfl rfl rfl rfl (.inr ⟨rfl, _, _, _, _, _, _, fun _ => ⟨_, rfl⟩, rfl⟩) rfl zAny TB hcode hmT huT ⟨rfl, rfl, by decide +kernel, rfl, rfl, hgen _ rfl⟩ (pe_meth (pv 1) C.cl mD GD hr1 bD .nil pass0 (pa_cons (pv 3) pa_nil)) (fun _ => rfl)) (fun _ => rfl))
            (pss_one (ps_raise rfl (takes_of rfl rfl rfl rfl) (pmk_own PySem.F.excBase_ValueError N.ex N.mgN N.kp (raises_own N.sub N.ty) rfl))) pss_nil)
        (pss_one (ps_if (pt_truth (pe_anyH (T := T) (CS := CS) (CR := CR) (iS := 0) (iN := 3) (neg := false) hr FH bH FR bR S.cl R.cl S.nR R.nH mH mR rfl rfl rfl rfl rfl rfl rfl (.inl ⟨rfl, _, _, _, _, _, fun _ => ⟨_, rfl⟩, rfl⟩) rfl zAny TB hcode hmT huT ⟨rfl, rfl, by decide +kernel, rfl, rfl, hgen _ rfl⟩ (pe_meth (pv 1) C.cl mA GA hr1 bA .nil pass0 (pa_cons (pv 3) pa_nil)) (fun _ => rfl)) (fun _ => rfl))
            (pss_one (ps_raise rfl (takes_of rfl rfl rfl rfl) (pmk_own PySem.F.excBase_ValueError N.ex N.mgN N.kp (raises_own N.sub N.ty) rfl))) pss_nil))))
      (pss_one (ps_for (passes_of rfl) rfl (pi_tup (pe_meth0 (pv 1) C.cl mN GN hr1 bN .nil pass0)) (pg_name (i := 3) sc_laid.nd rfl (Or.inr rfl))
        (pss_cons (ps_for (passes_of rfl) rfl (pi_list (pe_meth (pv 1) C.cl mD GD hr1 bD .nil pass0 (pa_cons (pv 3) pa_nil))) (pg_name (i := 2) sc_laid.nd rfl (Or.inl rfl))
            (pss_one (ps_expr (pe_meth (pe_meth (pv 0) S.cl mO GO hr bO .nil pass0 (pa_cons (pv 3) pa_nil)) R.cl mP GP hr1 bP .nil pass0 (pa_cons (pv 2) pa_nil)))))
        (pss_one (ps_for (passes_of rfl) rfl (pi_list (pe_meth (pv 1) C.cl mA GA hr1 bA .nil pass0 (pa_cons (pv 3) pa_nil))) (pg_name (i := 2) sc_laid.nd rfl (Or.inl rfl))
            (pss_one (ps_expr (pe_meth (pe_meth (pv 0) S.cl mO GO hr bO .nil pass0 (pa_cons (pv 3) pa_nil)) R.cl mT GT hr1 bT .nil pass0 (pa_cons (pv 2) pa_nil))))))))), ?_⟩
    obtain ⟨dA, dD⟩ := dom_of_ch hCh
    obtain ⟨_, _, _, _, _, _, dS⟩ := id hSt
    have insC : ∀ {H' : Hp}, ChS H' CC ch Fc A' D' → ∃ dx da dd, H' ch = some (.ins CC dx (chF da dd)) := fun {H'} h => by
      obtain ⟨da, dd, ea, ed, hc, _⟩ := h
      obtain ⟨dx, hi⟩ := hc.ins
      exact ⟨dx, da, dd, hi⟩
    obtain ⟨dx0, da0, dd0, hi0⟩ := insC hCh
    refine ⟨_, rfl, ch, dx0, _, rfl, hi0, lkCn _ _ (by decide +kernel) (by decide +kernel), ch, Fc, A', D', rfl, hCh, fun p H1 k1 np hp1 => ?_⟩
    refine ⟨p, rfl, ⟨_, SqT.of hp1⟩, for_tup (K := K) (a := p) (xs := (namesC A' D').map V.str) (fun i σ H2 => ∃ v, σ = [some (.ref st), some (.ref ch), none, v] ∧ Kp T [] H H2 ∧ H2 p = some (.tup ((namesC A' D').map V.str)) ∧ ∀ n ∈ (namesC A' D').take i, fitsAt S' A' D' n)
      ⟨none, rfl, k1, hp1, fun n hn => by simp at hn⟩ (fun i σ H2 _ ⟨_, _, _, h, _⟩ => SqT.of h) ?_ ?_⟩
    · rintro i y σ H2 hy ⟨v, rfl, k2, hp2, hfit⟩
      rw [List.getElem?_map] at hy
      obtain ⟨n, hn, rfl⟩ := Option.map_eq_some_iff.mp hy
      have tk : (namesC A' D').take (i + 1) = (namesC A' D').take i ++ [n] := by rw [List.take_add_one, hn]; rfl
      have hSt2 := hSt.kp0 k2
      have hCh2 := hCh.kp0 k2
      obtain ⟨dx2, da2, dd2, hi2⟩ := insC hCh2
      refine ⟨_, rfl, ch, dx2, _, rfl, hi2, lkCn _ _ (by decide +kernel) (by decide +kernel), _, rfl, ch, Fc, A', D', n, rfl, hCh2, fun q os H3 k3 nq hq ho nd me => ?_⟩
      have k23 := k2.trans0 k3
      obtain ⟨dr3, es3, st3, _, ct3, _, _⟩ := id (hSt.kp0 k23)
      refine ⟨q, st, dr3, os, es3, n, rfl, SqL.of hq, ho, rfl, rfl, st3, k23.tabs hT, fun H4 e4 t4 => ?_⟩
      have k4 : Kp T [] H H4 := k23.trans0 (.of_ext e4 t4)
      have hdec : ∀ b : Addr × Int, decide (b.2 ∈ rowsE es3 n) = S' n b.2 := fun b => by
        rw [Bool.eq_iff_iff, decide_eq_true_eq]
        exact ct3 n b.2
      refine ⟨_, rfl, ?_⟩
      refine ite2 (fun hb => ?_) (fun hb => ?_)
      · refine kBad (fun hf => ?_) H4 k4
        rw [List.any_eq_true] at hb
        obtain ⟨b, hb1, hb2⟩ := hb
        rw [hdec b] at hb2
        have : D' n b.2 = true := (me b.2).mp (List.mem_map.mpr ⟨b, hb1, rfl⟩)
        rw [hf.1 n b.2 this] at hb2
        simp at hb2
      · have hp4 := (k3.trans0 (Kp.of_ext (F := []) e4 t4)).tup hp2 List.not_mem_nil
        have hCh4 := hCh.kp0 k4
        obtain ⟨dx4, da4, dd4, hi4⟩ := insC hCh4
        refine ⟨_, rfl, ch, dx4, _, rfl, hi4, lkCn _ _ (by decide +kernel) (by decide +kernel), _, rfl, ch, Fc, A', D', n, rfl, hCh4, fun q2 os2 H5 k5 nq2 hq2 ho2 nd2 me2 => ?_⟩
        have k45 := k4.trans0 k5
        obtain ⟨dr5, es5, st5, _, ct5, _, _⟩ := id (hSt.kp0 k45)
        refine ⟨q2, st, dr5, os2, es5, n, rfl, SqL.of hq2, ho2, rfl, rfl, st5, k45.tabs hT, fun H6 e6 t6 => ?_⟩
        have k6 : Kp T [] H H6 := k45.trans0 (.of_ext e6 t6)
        have hdec5 : ∀ b : Addr × Int, decide (b.2 ∈ rowsE es5 n) = S' n b.2 := fun b => by
          rw [Bool.eq_iff_iff, decide_eq_true_eq]
          exact ct5 n b.2
        refine ⟨_, rfl, ?_⟩
        refine ite2 (fun hb5 => ?_) (fun hb5 => ?_)
        · refine kBad (fun hf => ?_) H6 k6
          rw [List.any_eq_true] at hb5
          obtain ⟨b, hb1, hb2⟩ := hb5
          simp only [Bool.false_eq_true, if_false] at hb2
          rw [hdec5 b] at hb2
          have : A' n b.2 = true := (me2 b.2).mp (List.mem_map.mpr ⟨b, hb1, rfl⟩)
          exact hf.2 n b.2 this hb2
        · refine ⟨_, rfl, k6, (k5.trans0 (Kp.of_ext (F := []) e6 t6)).tup hp4 List.not_mem_nil, fun m hm => ?_⟩
          rw [tk, List.mem_append] at hm
          rcases hm with hm | hm
          · exact hfit m hm
          · rw [List.mem_singleton.mp hm]
            refine ⟨fun k hk => ?_, fun k hk hs => ?_⟩
            · obtain ⟨b, hb1, rfl⟩ := List.mem_map.mp ((me k).mpr hk)
              cases hs : S' n b.2 with
              | true => rfl
              | false =>
                refine absurd (List.any_eq_true.mpr ⟨b, hb1, ?_⟩) hb
                rw [hdec b, hs]
                rfl
            · obtain ⟨b, hb1, rfl⟩ := List.mem_map.mp ((me2 k).mpr hk)
              refine absurd (List.any_eq_true.mpr ⟨b, hb1, ?_⟩) hb5
              simp only [Bool.false_eq_true, if_false]
              rw [hdec5 b, hs]
    · rintro σ H2 ⟨v, rfl, k2, hp2, hfit⟩
      rw [List.length_map, List.take_of_length_le (Nat.le_refl _)] at hfit
      have hF : Fits S' A' D' := fits_all dA dD hfit
      have kG := kGood hF
      have hSt2 := hSt.kp0 k2
      have hCh2 := hCh.kp0 k2
      obtain ⟨dx2, da2, dd2, hi2⟩ := insC hCh2
      refine ⟨_, rfl, ch, dx2, _, rfl, hi2, lkCn _ _ (by decide +kernel) (by decide +kernel), ch, Fc, A', D', rfl, hCh2, fun p3 H3 k3 np3 hp3 => ?_⟩
      have u0 : upC S' A' D' [] = S' := by
        funext m j
        simp [upC]
      refine ⟨p3, rfl, ⟨_, SqT.of hp3⟩, for_tup (K := K) (a := p3) (xs := (namesC A' D').map V.str) (fun i σ H4 => ∃ v2 v3 F4, σ = [some (.ref st), some (.ref ch), v2, v3] ∧ Kp T F0 H H4 ∧ StS H4 CS CR st F4 (upC S' A' D' ((namesC A' D').take i)) ∧ (∀ b ∈ F4, b ∈ F0 ∨ Nw H b) ∧ ChS H4 CC ch Fc A' D' ∧ (∀ b ∈ F4, b ∉ Fc) ∧ H4 p3 = some (.tup ((namesC A' D').map V.str)))
        ⟨none, v, F0, rfl, (k2.trans0 k3).mono fun _ z => (by cases z), by rw [List.take_zero, u0]; exact hSt2.kp0 k3, fun b hb => .inl hb, hCh2.kp0 k3, hdj, hp3⟩ (fun i σ H2 _ ⟨_, _, _, _, _, _, _, _, _, h⟩ => SqT.of h) ?_ ?_⟩
      · rintro i y σ H4 hy ⟨v2, v3, F4, rfl, k4, st4, fr4, c4, dj4, hp4⟩
        rw [List.getElem?_map] at hy
        obtain ⟨n, hn, rfl⟩ := Option.map_eq_some_iff.mp hy
        have tk : (namesC A' D').take (i + 1) = (namesC A' D').take i ++ [n] := by rw [List.take_add_one, hn]; rfl
        have nok : nmOk n := namesC_ok _ (List.mem_of_getElem? hn)
        have ndN : (namesC A' D').Nodup := List.Nodup.sublist List.filter_sublist (by decide +kernel)
        have hnt : n ∉ (namesC A' D').take i := by
          have h1 : ((namesC A' D').take (i + 1)).Nodup := ndN.sublist (List.take_sublist _ _)
          rw [tk, List.nodup_append] at h1
          exact fun z => h1.2.2 n z n (by simp) rfl
        obtain ⟨dx4, da4, dd4, hi4⟩ := insC c4
        refine ⟨_, rfl, ch, dx4, _, rfl, hi4, lkCn _ _ (by decide +kernel) (by decide +kernel), _, rfl, ch, Fc, A', D', n, rfl, c4, fun q os H5 k5 nq hq ho nd me => ?_⟩
        refine ⟨q, rfl, ⟨_, SqL.of hq⟩, for_list (K := K) (a := q) (xs := rfs os) (fun j σ H6 => ∃ v2 F6, σ = [some (.ref st), some (.ref ch), v2, some (.str n)] ∧ Kp T F0 H H6 ∧ StS H6 CS CR st F6 (dlC S' A' D' ((namesC A' D').take i) n ((os.map (·.2)).take j)) ∧ (∀ b ∈ F6, b ∈ F0 ∨ Nw H b) ∧ ChS H6 CC ch Fc A' D' ∧ (∀ b ∈ F6, b ∉ Fc) ∧ H6 p3 = some (.tup ((namesC A' D').map V.str)) ∧ H6 q = some (.lst (rfs os)) ∧ RowsAt H6 os)
          ⟨v2, F4, rfl, k4.trans0 k5, by rw [List.take_zero, dlC_start hnt]; exact st4.kp0 k5, fr4, c4.kp0 k5, dj4, k5.tup hp4 List.not_mem_nil, hq, ho⟩ (fun j σ H6 _ ⟨_, _, _, _, _, _, _, _, _, h, _⟩ => SqL.of h) ?_ ?_⟩
        · rintro j y σ H6 hy ⟨v2, F6, rfl, k6, st6, fr6, c6, dj6, hp6, hq6, ho6⟩
          rw [List.getElem?_map] at hy
          obtain ⟨o, hoj, rfl⟩ := Option.map_eq_some_iff.mp hy
          have hom := List.mem_of_getElem? hoj
          have tk2 : (os.map (·.2)).take (j + 1) = (os.map (·.2)).take j ++ [o.2] := by
            rw [List.take_add_one, List.getElem?_map, hoj]
            rfl
          refine of_drop (T := T) (is_ := 0) (in_ := 3) (ir := 2) st6 rfl rfl rfl nok (ho6 o hom) fun b H7 F7 k7 st7 g7 => ?_
          rw [dlC_step, ← tk2] at st7
          refine ⟨_, F7, rfl, k6.trans k7 fun b hb => fr6 b hb, st7, fun b hb => ?_, c6.kp k7 (fun b hb => .dct (st6.dct b hb)) (dsym dj6), dsym (disj_grow c6.dct (dsym dj6) g7), k7.tup hp6 (Dct.ne st6.dct hp6 .tup), k7.lst hq6 (Dct.ne st6.dct hq6 .lst), ho6.kp k7 fun o' ho' => Dct.ne st6.dct (ho6 o' ho') .tup⟩
          rcases g7 b hb with h | h
          · exact fr6 b h
          · exact .inr (k6.nw h)
        · rintro σ H6 ⟨v2, F6, rfl, k6, st6, fr6, c6, dj6, hp6, hq6, ho6⟩
          have eL : (os.map (·.2)).take (rfs os).length = os.map (·.2) := by rw [List.length_map, List.take_of_length_le (by rw [List.length_map]; exact Nat.le_refl _)]
          rw [eL, dlC_end (fun k => by rw [me k]; rfl)] at st6
          obtain ⟨dx6, da6, dd6, hi6⟩ := insC c6
          refine ⟨_, rfl, ch, dx6, _, rfl, hi6, lkCn _ _ (by decide +kernel) (by decide +kernel), _, rfl, ch, Fc, A', D', n, rfl, c6, fun q2 os2 H8 k8 nq2 hq8 ho8 nd8 me8 => ?_⟩
          refine ⟨q2, rfl, ⟨_, SqL.of hq8⟩, for_list (K := K) (a := q2) (xs := rfs os2) (fun j σ H6 => ∃ v2 F6, σ = [some (.ref st), some (.ref ch), v2, some (.str n)] ∧ Kp T F0 H H6 ∧ StS H6 CS CR st F6 (adC S' A' D' ((namesC A' D').take i) n ((os2.map (·.2)).take j)) ∧ (∀ b ∈ F6, b ∈ F0 ∨ Nw H b) ∧ ChS H6 CC ch Fc A' D' ∧ (∀ b ∈ F6, b ∉ Fc) ∧ H6 p3 = some (.tup ((namesC A' D').map V.str)) ∧ H6 q2 = some (.lst (rfs os2)) ∧ RowsAt H6 os2)
            ⟨v2, F6, rfl, k6.trans0 k8, by rw [List.take_zero]; exact st6.kp0 k8, fr6, c6.kp0 k8, dj6, k8.tup hp6 List.not_mem_nil, hq8, ho8⟩ (fun j σ H6 _ ⟨_, _, _, _, _, _, _, _, _, h, _⟩ => SqL.of h) ?_ ?_⟩
          · rintro j y σ H6 hy ⟨v2, F6, rfl, k6, st6, fr6, c6, dj6, hp6, hq6, ho6⟩
            rw [List.getElem?_map] at hy
            obtain ⟨o, hoj, rfl⟩ := Option.map_eq_some_iff.mp hy
            have hom := List.mem_of_getElem? hoj
            have tk2 : (os2.map (·.2)).take (j + 1) = (os2.map (·.2)).take j ++ [o.2] := by
              rw [List.take_add_one, List.getElem?_map, hoj]
              rfl
            have hA : A' n o.2 = true := (me8 o.2).mp (List.mem_map.mpr ⟨o, hom, rfl⟩)
            refine of_add (T := T) (is_ := 0) (in_ := 3) (ir := 2) st6 rfl rfl rfl nok (dA n o.2 hA).2 (ho6 o hom) fun b H7 F7 k7 st7 g7 => ?_
            rw [adC_step, ← tk2] at st7
            refine ⟨_, F7, rfl, k6.trans k7 fun b hb => fr6 b hb, st7, fun b hb => ?_, c6.kp k7 (fun b hb => .dct (st6.dct b hb)) (dsym dj6), dsym (disj_grow c6.dct (dsym dj6) g7), k7.tup hp6 (Dct.ne st6.dct hp6 .tup), k7.lst hq6 (Dct.ne st6.dct hq6 .lst), ho6.kp k7 fun o' ho' => Dct.ne st6.dct (ho6 o' ho') .tup⟩
            rcases g7 b hb with h | h
            · exact fr6 b h
            · exact .inr (k6.nw h)
          · rintro σ H6 ⟨v2, F6, rfl, k6, st6, fr6, c6, dj6, hp6, hq6, ho6⟩
            have eL2 : (os2.map (·.2)).take (rfs os2).length = os2.map (·.2) := by rw [List.length_map, List.take_of_length_le (by rw [List.length_map]; exact Nat.le_refl _)]
            rw [eL2, adC_end (fun k => by rw [me8 k]; rfl), ← tk] at st6
            exact ⟨_, _, F6, rfl, k6, st6, fr6, c6, dj6, hp6⟩
      · rintro σ H4 ⟨v2, v3, F4, rfl, k4, st4, fr4, c4, dj4, hp4⟩
        rw [List.length_map, List.take_of_length_le (Nat.le_refl _), upC_all dA dD] at st4
        exact kG F4 H4 k4 st4 fr4
end
end DH
namespace DH
open PySem PySem.Spec L2
open PyProof.Rows hiding St
abbrev diceV (a b c : Int) : List V := [.int a, .int b, .int c]
structure LawT (mg : Str → Option Value) : Prop where
  ab : mg "abs" = none
  it : mg "int" = none
  rg : mg "range" = none
  tu : mg "tuple" = none
  so : mg "sorted" = none
section
variable {P : Program} {w : World} {K : PySem.W.Frag} {mg : Str → Option Value} {base : Heap} {T : List (Addr × Str)}
def spDice : Sp := fun vs H Q _ => ∃ n : Int, vs = [.int n] ∧ ∀ p a b c, H p = none → Q (.ref p) (upd H p (.lst (diceV a b c)))
theorem sc_dice : FnScope ["_law_cell"] ["_law_cell"] (defScope sDice) := ⟨rfl, rfl, rfl, by decide +kernel, rfl, by decide +kernel, by decide +kernel⟩
theorem ok_dice {f : Addr} {fd : FuncData} (F : Fun K "_law_dice" "_law_dice" sDice f fd) (L : LawT mg) : FnOk P w K mg base CX0 1 f fd ["_law_cell"] spDice := by
  refine F.ok sc_dice (fun vs H Q E h => ?_) (fun cdv A outer s H vs Q E hr h => ?_)
  · obtain ⟨n, rfl, _⟩ := h
    rfl
  · obtain ⟨n, rfl, k⟩ := h
    refine ⟨_, pss_cons (ps_if (pt_chain op_lt op_lt (pe_op op_sub pe_int pe_int) (pv 0) pe_int)
        (pss_one (ps_ret (pe_lst (pa_cons (pe_callB call_abs rfl L.ab (show bootBuiltins "abs" = some (.builtin "abs") by decide +kernel) (pa_cons (pv 0) pa_nil)) (pa_cons pe_int (pa_cons pe_int pa_nil)))))) pss_nil)
      (pss_one (ps_ret (pe_lst (pa_cons (pv 0) (pa_cons (pe_op op_add pe_int (pe_op op_mod (pe_callTy call_int1 rfl L.it (show bootBuiltins "int" = some (.type "int") by decide +kernel) (pa_cons (pv 0) pa_nil)) pe_int))
        (pa_cons (pe_callTy call_int1 rfl L.it (show bootBuiltins "int" = some (.type "int") by decide +kernel) (pa_cons (pe_cmpR op_ge (pv 0) (pe_op op_pow pe_int pe_int) (nomark _)) pa_nil)) pa_nil)))))), ?_⟩
    refine ⟨_, _, rfl, rfl, _, rfl, _, _, rfl, rfl, _, rfl, ?_⟩
    refine ite2 (fun h1 => ⟨_, _, rfl, rfl, _, rfl, ite2 (fun h2 => ?_) (fun h2 => ?_)⟩) (fun h1 => ⟨false, rfl, iteF ?_⟩)
    · exact ⟨_, rfl, _, rfl, by show 3 ≤ sizeLine; decide, fun p hp => k p _ _ _ hp⟩
    all_goals
      exact ⟨_, rfl, _, rfl, .inl ⟨n, rfl, n, 1009, rfl, rfl, by show (0 : Int) < 1009; decide, _, _, rfl, rfl, _, rfl, 10, 18, rfl, rfl, ⟨by decide, by decide, by decide⟩, _, _, rfl, rfl, .inr ⟨_, rfl, by show 3 ≤ sizeLine; decide, fun p hp => k p _ _ _ hp⟩⟩⟩
/-- a roll below m: the dice list changes -/
def spRoll : Sp := fun vs H Q _ => ∃ (d : Addr) (a b c m : Int), vs = [.ref d, .int m] ∧ H d = some (.lst (diceV a b c)) ∧ 0 < m ∧ m < 1073741824 ∧ ∀ r a' b' c', 0 ≤ r → r < m → Q (.int r) (upd H d (.lst (diceV a' b' c')))
theorem sc_roll : FnScope ["_law_dice_here", "_law_many", "_law_found"] ["_law_dice_here", "_law_many"] (defScope sRoll) := ⟨rfl, rfl, rfl, by decide +kernel, rfl, by decide +kernel, by decide +kernel⟩
theorem at0 (a b c : Int) : atI (diceV a b c) 0 = some (.int a) := atI_nat (j := 0) rfl
theorem at1 (a b c : Int) : atI (diceV a b c) 1 = some (.int b) := atI_nat (j := 1) rfl
theorem at2 (a b c : Int) : atI (diceV a b c) 2 = some (.int c) := atI_nat (j := 2) rfl
theorem ok_roll {f : Addr} {fd : FuncData} (F : Fun K "_law_roll" "_law_roll" sRoll f fd) (L : LawT mg) : FnOk P w K mg base CX0 1 f fd ["_law_dice_here", "_law_many"] spRoll := by
  refine F.ok sc_roll (fun vs H Q E h => ?_) (fun cdv A outer s H vs Q E hr h => ?_)
  · obtain ⟨d, a, b, c, m, rfl, _⟩ := h
    rfl
  · obtain ⟨d, a, b, c, m, rfl, hd, m0, m1, k⟩ := h
    refine ⟨_, pss_cons (ps_if (pw_or (pt_cmpR op_eq (pe_ix ix_list (pv 0) pe_int (fun _ _ => rfl)) pe_int (nomark _)) (pw_or1 (pw_and (pt_cmpR op_eq (pe_ix ix_list (pv 0) pe_int (fun _ _ => rfl)) pe_int (nomark _)) (pw_and1 (pt_cmpR op_gt (pe_ix ix_list (pv 0) pe_int (fun _ _ => rfl)) pe_int (nomark _)))).pt)).pt
        (pss_cons (ps_set (i := 2) sc_roll.nd rfl (Or.inl rfl) (pe_op op_mod (pe_callTy call_int1 rfl L.it (show bootBuiltins "int" = some (.type "int") by decide +kernel) (pa_cons (pe_ix ix_list (pv 0) pe_int (fun _ _ => rfl)) pa_nil)) (pv 1)))
        (pss_cons (ps_asg (pe_op op_fdivN (pe_ix ix_list (pv 0) pe_int (fun _ _ => rfl)) (pv 1)) (pg_sub (pv 0) pe_int set_list (fun _ => rfl)))
        (pss_one (ps_ret (pv 2))))) pss_nil)
      (pss_cons (ps_asg pe_int (pg_sub (pv 0) pe_int set_list (fun _ => rfl)))
      (pss_cons (ps_asg (pe_op op_mod (pe_callTy call_int1 rfl L.it (show bootBuiltins "int" = some (.type "int") by decide +kernel) (pa_cons (pe_op op_add (pe_op op_add (pe_op op_mul (pe_ix ix_list (pv 0) pe_int (fun _ _ => rfl)) pe_int) (pe_op op_mul (pe_ix ix_list (pv 0) pe_int (fun _ _ => rfl)) pe_int)) pe_int) pa_nil)) pe_int) (pg_sub (pv 0) pe_int set_list (fun _ => rfl)))
      (pss_cons (ps_asg (pe_op op_add (pe_ix ix_list (pv 0) pe_int (fun _ _ => rfl)) pe_int) (pg_sub (pv 0) pe_int set_list (fun _ => rfl)))
      (pss_one (ps_ret (pe_op op_mod (pe_callTy call_int1 rfl L.it (show bootBuiltins "int" = some (.type "int") by decide +kernel) (pa_cons (pe_op op_add (pe_op op_fdivN (pe_ix ix_list (pv 0) pe_int (fun _ _ => rfl)) pe_int) (pe_ix ix_list (pv 0) pe_int (fun _ _ => rfl))) pa_nil)) (pv 1))))))), ?_⟩
    have hne : m ≠ 0 := by omega
    have hcd : CDivN a m := ⟨hne, by omega⟩
    refine ⟨_, rfl, d, _, 2, _, rfl, rfl, SqL.of hd, at2 _ _ _, rfl, _, rfl, ite2 (fun _ => iteT ?b1) (fun _ => ⟨_, rfl, d, _, 2, _, rfl, rfl, SqL.of hd, at2 _ _ _, rfl, _, rfl, ite2 (fun _ => ⟨_, rfl, d, _, 0, _, rfl, rfl, SqL.of hd, at0 _ _ _, _, _, rfl, rfl, _, rfl, ite2 (fun _ => ?b2) (fun _ => ?r1)⟩) (fun _ => iteF ?r2)⟩)⟩
    case b1 =>
      exact ⟨_, rfl, d, _, 0, _, rfl, rfl, SqL.of hd, at0 _ _ _, .inl ⟨a, rfl, _, rfl, a, m, rfl, rfl, m0, _, rfl, d, _, 0, _, rfl, rfl, SqL.of hd, at0 _ _ _, _, rfl, a, m, rfl, rfl, hcd, _, rfl, d, _, 0, 0, rfl, rfl, hd, rfl, _, rfl, k _ (a.fdiv m) b c (Int.emod_nonneg _ hne) (Int.emod_lt_of_pos _ m0)⟩⟩
    case b2 =>
      exact ⟨_, rfl, d, _, 0, _, rfl, rfl, SqL.of hd, at0 _ _ _, .inl ⟨a, rfl, _, rfl, a, m, rfl, rfl, m0, _, rfl, d, _, 0, _, rfl, rfl, SqL.of hd, at0 _ _ _, _, rfl, a, m, rfl, rfl, hcd, _, rfl, d, _, 0, 0, rfl, rfl, hd, rfl, _, rfl, k _ (a.fdiv m) b c (Int.emod_nonneg _ hne) (Int.emod_lt_of_pos _ m0)⟩⟩
    all_goals
      refine ⟨_, rfl, d, _, 2, 2, rfl, rfl, hd, rfl, ?_⟩
      have hd1 : (upd H d (.lst ((diceV a b c).set 2 (.int 0)))) d = some (.lst (diceV a b 0)) := upd_same
      refine ⟨_, rfl, d, _, 0, _, rfl, rfl, SqL.of hd1, at0 _ _ _, a, 48271, rfl, rfl, .inr ⟨by decide, by decide⟩, _, rfl, d, _, 1, _, rfl, rfl, SqL.of hd1, at1 _ _ _, b, 69621, rfl, rfl, .inr ⟨by decide, by decide⟩, _, _, rfl, rfl, _, _, rfl, rfl, .inl ⟨_, rfl, _, 2147483647, rfl, rfl, by show (0 : Int) < 2147483647; decide, _, rfl, d, _, 0, 0, rfl, rfl, hd1, rfl, ?_⟩⟩
      rw [upd_upd]
      have hd2 : ∀ z, (upd H d (.lst ((diceV a b 0).set 0 (.int z)))) d = some (.lst (diceV z b 0)) := fun _ => upd_same
      refine ⟨_, rfl, d, _, 1, _, rfl, rfl, SqL.of (hd2 _), at1 _ _ _, _, _, rfl, rfl, _, rfl, d, _, 1, 1, rfl, rfl, hd2 _, rfl, ?_⟩
      rw [upd_upd]
      have hd3 : ∀ z, (upd H d (.lst ((diceV z b 0).set 1 (.int (b + 1))))) d = some (.lst (diceV z (b + 1) 0)) := fun _ => upd_same
      exact ⟨_, rfl, d, _, 0, _, rfl, rfl, SqL.of (hd3 _), at0 _ _ _, _, 7, rfl, rfl, ⟨by decide, by decide⟩, _, rfl, d, _, 0, _, rfl, rfl, SqL.of (hd3 _), at0 _ _ _, _, _, rfl, rfl, .inl ⟨_, rfl, _, rfl, _, m, rfl, rfl, m0, k _ _ (b + 1) 0 (Int.emod_nonneg _ hne) (Int.emod_lt_of_pos _ m0)⟩⟩
theorem rounds_lc {K : PySem.W.Frag} {T : List (Addr × Str)} {E : XK} {H H2 : Hp} {Q : VK} {a l : Addr} {n : Int} (k2 : Kp T [] H H2) (hl : H2 l = some (.lst [.int n])) (k : ∀ r d a b c H', Kp T [] H H' → Nw H d → H' r = some (.lst [.ref d]) → H' d = some (.lst (diceV a b c)) → Q (.ref r) H') :
    tLc (iList K (tVar 2)) (gName 3) tYes (tCall spDice [] E (tCons (tVar 3) tNil)) [3] [some (.ref a), some (.int 1), some (.ref l), none] H2 Q := by
  refine ⟨_, rfl, l, rfl, ⟨_, SqL.of hl⟩, fun D hD => ?_⟩
  have nlD : l ≠ D := ne_of_none hl hD
  have kD : Kp T [] H (upd H2 D (.lst [])) := k2.trans0 (.new hD)
  refine lc_list (K := K) (a := l) (xs := [.int n]) (fun i H3 => (i = 0 ∧ H3 = upd H2 D (.lst [])) ∨ (i = 1 ∧ ∃ d a b c, Kp T [] H H3 ∧ H3 l = some (.lst [.int n]) ∧ Nw H d ∧ H3 D = some (.lst [.ref d]) ∧ H3 d = some (.lst (diceV a b c)))) (.inl ⟨rfl, rfl⟩) ?_ ?_ ?_
  · rintro i H3 _ (⟨_, rfl⟩ | ⟨_, d, a, b, c, _, h, _⟩)
    · exact SqL.of (by rw [upd_ne nlD]; exact hl)
    · exact SqL.of h
  · rintro i y H3 hy (⟨rfl, rfl⟩ | ⟨rfl, _⟩)
    · have ey : y = .int n := (Option.some.inj hy).symm
      subst ey
      refine ⟨rfl, ?_⟩
      refine ⟨_, rfl, n, rfl, fun p a b c hp => ⟨[], ?_, by show 0 < sizeLine; decide, .inr ⟨rfl, p, a, b, c, ?_, ?_, kD.fresh hp, upd_same, ?_⟩⟩⟩
      · rw [upd_ne (ne_of_none upd_same hp)]
        exact upd_same
      · have nDp : D ≠ p := ne_of_none upd_same hp
        refine (kD.trans0 (.new hp)).trans (Kp.put (a := D) (F := [D]) (o := .lst []) (by rw [upd_ne nDp]; exact upd_same) .lst .lst (by simp)) fun b hb => .inr ?_
        rw [List.mem_singleton.mp hb]
        exact k2.fresh hD
      · rw [upd_ne nlD, upd_ne (ne_of_none (by rw [upd_ne nlD]; exact hl) hp), upd_ne nlD]
        exact hl
      · rw [upd_ne (ne_of_none upd_same hp).symm]
        exact upd_same
    · cases hy
  · rintro H3 (⟨h, _⟩ | ⟨_, d, a, b, c, k3, _, nd, hD3, hd3⟩)
    · cases h
    · exact k D d a b c H3 k3 nd hD3 hd3
theorem dp_ints {K : PySem.W.Frag} {H : Hp} : ∀ ns : List Int, DpAll K H (ns.map V.int) (ns.map PyData.int)
  | [] => .nil
  | n :: ns => .cons (.int n) (dp_ints ns)
theorem shaped_int1 (n : Int) : SeqAt.shaped (.list [.int n]) = true := by
  simp [SeqAt.shaped, PyData.canLay0, PyData.canLayAll0, PyData.depth, PyData.depthAll]
theorem shaped_nil : SeqAt.shaped (.list []) = true := by
  simp [SeqAt.shaped, PyData.canLay0, PyData.canLayAll0, PyData.depth, PyData.depthAll]
/-- rounds of a script: one dice list -/
def spRounds (K : PySem.W.Frag) (T : List (Addr × Str)) : Sp := fun vs H Q _ => ∃ (s : Addr) (ns : List Int), vs = [.ref s, .int 1] ∧ SqL K H s (ns.map V.int) ∧ ∀ r d a b c H', Kp T [] H H' → Nw H d → H' r = some (.lst [.ref d]) → H' d = some (.lst (diceV a b c)) → Q (.ref r) H'
theorem sc_rounds : FnScope ["_law_script", "_law_most", "_law_cells", "_law_cell"] ["_law_script", "_law_most"] (defScope sRounds) := ⟨rfl, rfl, rfl, by decide +kernel, rfl, by decide +kernel, by decide +kernel⟩
theorem ok_rounds {f fD : Addr} {fd fdD : FuncData} (F : Fun K "_law_rounds" "_law_rounds" sRounds f fd) (GD : FnOk P w K mg base CX0 1 fD fdD ["_law_cell"] spDice) (mD : mg "_law_dice" = some (.ref fD)) (kD : PySem.W.keepIn K (.ref fD) = true) (bD : L2.Binds K fdD ["_law_cell"] []) :
    FnOk P w K mg base CX0 2 f fd ["_law_script", "_law_most"] (spRounds K T) := by
  refine F.ok sc_rounds (fun vs H Q E h => ?_) (fun cdv A outer s H vs Q E hr h => ?_)
  · obtain ⟨s, ns, rfl, _⟩ := h
    rfl
  · obtain ⟨a, ns, rfl, hs, k⟩ := h
    refine ⟨_, pss_cons (ps_set (i := 2) sc_rounds.nd rfl (Or.inl rfl) (pe_slice sl_list (pv 0) po_none (po_some (pv 1))))
      (pss_cons (ps_if (pt_cmpR (op_eqD hr.units) (pv 2) (pe_lst pa_nil) (nomark _)) (pss_one (ps_set (i := 2) sc_rounds.nd rfl (Or.inl rfl) (pe_lst (pa_cons pe_int pa_nil)))) pss_nil)
      (pss_one (ps_ret (pe_lc (own := [("_law_cell", 3)]) (g := gName 3) (tt := tYes) (te := tCall spDice [] E (tCons (tVar 3) tNil)) rfl sc_rounds.nd (pi_list (pv 2)) (blkOk_by (N := ["_law_script", "_law_most", "_law_cells", "_law_cell"]) (sc := defScope sRounds) (by decide +kernel))
          (fun _ _ _ _ _ => pg_name (i := 3) sc_rounds.nd rfl (Or.inl rfl)) (fun _ _ _ _ _ => pts_nil) (fun _ _ _ _ _ => pe_call GD hr rfl mD kD bD .nil pass0 (pa_cons (pv 3) pa_nil)))))), ?_⟩
    refine ⟨_, rfl, _, rfl, 1, rfl, a, _, rfl, hs, fun p hp => ?_⟩
    have k1 : Kp T [] H (upd H p (.lst (cutV (ns.map V.int) none (some 1)))) := .new hp
    have hcut : cutV (ns.map V.int) none (some 1) = (ns.take 1).map V.int := by
      unfold cutV
      cases ns with
      | nil => rfl
      | cons n r => simp [HT.sIx]
    rw [hcut] at k1 ⊢
    cases ns with
    | nil =>
      refine ⟨_, rfl, by show 0 ≤ sizeLine; decide, fun q hq => ⟨.list [], .list [], .lst (SqL.of (by rw [upd_ne (ne_of_none upd_same hq)]; exact upd_same)) .nil, .lst (SqL.of upd_same) .nil, shaped_nil, shaped_nil, _, rfl, iteT ?_⟩⟩
      have k2 := k1.trans0 (Kp.new (o := .lst []) hq)
      refine ⟨by show 1 ≤ sizeLine; decide, fun u hu => ?_⟩
      exact rounds_lc (T := T) (k2.trans0 (.new hu)) upd_same k
    | cons n r =>
      refine ⟨_, rfl, by show 0 ≤ sizeLine; decide, fun q hq => ⟨.list [.int n], .list [], .lst (SqL.of (by rw [upd_ne (ne_of_none upd_same hq)]; exact upd_same)) (.cons (.int n) .nil), .lst (SqL.of upd_same) .nil, shaped_int1 n, shaped_nil, _, rfl, iteF ?_⟩⟩
      have k2 := k1.trans0 (Kp.new (o := .lst []) hq)
      exact rounds_lc (T := T) k2 (by rw [upd_ne (ne_of_none upd_same hq)]; exact upd_same) k
end
end DH
namespace DH
open PySem PySem.Spec L2
open PyProof.Rows hiding St
def factD (f : Fct) : PyData := .tuple [.str f.1, .tuple [.int f.2]]
theorem factD_eqv (f g : Fct) : PyData.eqv (factD f) (factD g) = decide (f = g) := by
  obtain ⟨a, b⟩ := f
  obtain ⟨c, d⟩ := g
  unfold factD
  rw [Bool.eq_iff_iff]
  simp [PyData.eqv, PyData.eqvAll]
theorem Dp.fact {K : PySem.W.Frag} {H : Hp} {q : Addr} {f : Fct} (h : FactAt H q f) : Dp K H (.ref q) (factD f) := by
  obtain ⟨r, h1, h2⟩ := h
  exact .tup (.inl (.inl h1)) (.cons (.str _) (.cons (.tup (.inl (.inl h2)) (.cons (.int _) .nil)) .nil))
abbrev frs1 (fl : FL) : List V := fl.map fun x => V.ref x.1
theorem DpAll.facts {K : PySem.W.Frag} {H : Hp} : ∀ {fl : FL}, FactsAt H fl → DpAll K H (frs1 fl) ((fl.map (·.2)).map factD)
  | [], _ => .nil
  | x :: fl, h => .cons (Dp.fact (h x (by simp))) (DpAll.facts fun y hy => h y (List.mem_cons_of_mem _ hy))
theorem shaped_fact {f : Fct} (h : fcOk f) : SeqAt.shaped (factD f) = true := by
  have := strOk_nm h.1
  simp [SeqAt.shaped, factD, PyData.canLay0, PyData.canLayAll0, PyData.depth, PyData.depthAll, this]
theorem canLay_facts : ∀ (fs : List Fct), (∀ f ∈ fs, fcOk f) → PyData.canLayAll0 (fs.map factD) = true ∧ PyData.depthAll (fs.map factD) ≤ 2
  | [], _ => ⟨rfl, by simp [PyData.depthAll]⟩
  | f :: fs, h => by
    obtain ⟨h1, h2⟩ := canLay_facts fs fun g hg => h g (List.mem_cons_of_mem _ hg)
    have := strOk_nm (h f (by simp)).1
    constructor
    · simp [PyData.canLayAll0, factD, PyData.canLay0, this, h1]
    · have h2' : PyData.depthAll (List.map (fun f : Fct => factD f) fs) ≤ 2 := h2
      simp only [List.map_cons, PyData.depthAll]
      have : (factD f).depth = 2 := by simp [factD, PyData.depth, PyData.depthAll]
      rw [this]
      exact Nat.max_le.mpr ⟨Nat.le_refl _, h2'⟩
theorem shaped_facts {fs : List Fct} (h : ∀ f ∈ fs, fcOk f) : SeqAt.shaped (.list (fs.map factD)) = true := by
  obtain ⟨h1, h2⟩ := canLay_facts fs h
  unfold SeqAt.shaped
  rw [Bool.and_eq_true]
  refine ⟨by simpa [PyData.canLay0] using h1, decide_eq_true ?_⟩
  have : (PyData.list (fs.map factD)).depth = PyData.depthAll (fs.map factD) + 1 := by simp [PyData.depth]
  omega
theorem any_facts (fs : List Fct) (f : Fct) : ((fs.map factD).any fun z => PyData.eqv z (factD f)) = decide (f ∈ fs) := by
  rw [Bool.eq_iff_iff, List.any_eq_true, decide_eq_true_eq]
  constructor
  · rintro ⟨d, hd, he⟩
    obtain ⟨g, hg, rfl⟩ := List.mem_map.mp hd
    rw [factD_eqv, decide_eq_true_eq] at he
    rw [← he]
    exact hg
  · intro h
    exact ⟨factD f, List.mem_map.mpr ⟨f, h, rfl⟩, by rw [factD_eqv]; simp⟩
/-- 'pq'[i] -/
def nmI (i : Int) : Str := if i = 0 then pS else qS
theorem nmI_ok (i : Int) : nmOk (nmI i) := by
  unfold nmI
  split
  · exact .inl rfl
  · exact .inr rfl
theorem pqAt {i : Int} (h0 : 0 ≤ i) (h1 : i < 2) : ∃ c, (("pq" : Str).cps)[i.toNat]? = some c ∧ (⟨#[c]⟩ : Str) = nmI i := by
  have : i = 0 ∨ i = 1 := by omega
  rcases this with rfl | rfl
  · exact ⟨112, by decide +kernel, by decide +kernel⟩
  · exact ⟨113, by decide +kernel, by decide +kernel⟩
theorem pqLen : ("pq" : Str).length = 2 := by decide +kernel
theorem rw3 {i : Int} (h0 : 0 ≤ i) (h1 : i < 3) : rwOk i := by
  unfold rwOk
  omega
abbrev rItS : R2 := fun x y H Q => ∃ z i c, x = .str z ∧ y = .int i ∧ 0 ≤ i ∧ i < 2 ^ 63 ∧ i < z.length ∧ z.cps[i.toNat]? = some c ∧ Q (.str ⟨#[c]⟩) H
section
variable {P : Program} {w : World} {K : PySem.W.Frag} {mg : Str → Option Value} {base : Heap} {T : List (Addr × Str)}
theorem dice_kp {H : Hp} {d : Addr} {a b c a' b' c' : Int} (h : H d = some (.lst (diceV a b c))) : Kp T [d] H (upd H d (.lst (diceV a' b' c'))) := .put h .lst .lst (by simp)
/-- a new fact: ('pq'[roll(dice, 2)], (roll(dice, 3),)) -/
theorem fact_read {E : XK} {σ : L2.St} {i : Nat} {H : Hp} {d : Addr} {a b c : Int} {Q : VK} (σd : σ[i]? = some (some (.ref d))) (hd : H d = some (.lst (diceV a b c)))
    (k : ∀ (q : Addr) (f : Fct) (a' b' c' : Int) (H' : Hp), Kp T [d] H H' → H' d = some (.lst (diceV a' b' c')) → FactAt H' q f → fcOk f → Nw H q → Q (.ref q) H') :
    tTup (tCons (tOp rItS (tC (.str "pq")) (tCall spRoll [] E (tCons (tVar i) (tCons (tC (.int 2)) tNil)))) (tCons (tTup (tCons (tCall spRoll [] E (tCons (tVar i) (tCons (tC (.int 3)) tNil))) tNil)) tNil)) σ H Q := by
  refine ⟨_, σd, d, a, b, c, 2, rfl, hd, by decide, by decide, fun r1 a1 b1 c1 h0 h1 => ?_⟩
  obtain ⟨ch, e1, e2⟩ := pqAt h0 h1
  refine ⟨"pq", r1, ch, rfl, rfl, h0, by omega, by rw [pqLen]; exact h1, e1, ?_⟩
  have k1 : Kp T [d] H (upd H d (.lst (diceV a1 b1 c1))) := dice_kp hd
  refine ⟨_, σd, d, a1, b1, c1, 3, rfl, upd_same, by decide, by decide, fun r2 a2 b2 c2 h2 h3 => ⟨by show 1 ≤ sizeLine; decide, fun r hr => ⟨by show 2 ≤ sizeLine; decide, fun q hq => ?_⟩⟩⟩
  rw [upd_upd] at hr hq ⊢
  have k2 : Kp T [d] H (upd H d (.lst (diceV a2 b2 c2))) := dice_kp hd
  have k3 := k2.trans0 (Kp.new (o := .tup [.int r2]) hr)
  have k4 := k3.trans0 (Kp.new (o := .tup [.str ⟨#[ch]⟩, .ref r]) hq)
  have ndr : d ≠ r := ne_of_none upd_same hr
  have nrq : r ≠ q := ne_of_none upd_same hq
  have ndq : d ≠ q := ne_of_none (by rw [upd_ne ndr]; exact upd_same) hq
  refine k q (nmI r1, r2) a2 b2 c2 _ k4 ?_ ⟨r, ?_, ?_⟩ ⟨nmI_ok _, rw3 h2 h3⟩ (k3.fresh hq)
  · rw [upd_ne ndq, upd_ne ndr, upd_same]
  · rw [upd_same, e2]
  · rw [upd_ne nrq, upd_same]
def spFacts (T : List (Addr × Str)) : Sp := fun vs H Q _ => ∃ (d : Addr) (a b c : Int), vs = [.ref d] ∧ H d = some (.lst (diceV a b c)) ∧
  ∀ (l : Addr) (fl : FL) (a' b' c' : Int) (H' : Hp), Kp T [d] H H' → H' d = some (.lst (diceV a' b' c')) → Nw H l → H' l = some (.lst (frs1 fl)) → FactsAt H' fl → (∀ x ∈ fl, fcOk x.2) → (fl.map (·.2)).Nodup → Q (.ref l) H'
theorem sc_facts : FnScope ["_law_dice_here", "_law_found", "_law_k", "_law_fact"] ["_law_dice_here"] (defScope sFacts) := ⟨rfl, rfl, rfl, by decide +kernel, rfl, by decide +kernel, by decide +kernel⟩
theorem ok_facts {f fR : Addr} {fd fdR : FuncData} (F : Fun K "_law_facts" "_law_facts" sFacts f fd) (L : LawT mg) (GR : FnOk P w K mg base CX0 1 fR fdR ["_law_dice_here", "_law_many"] spRoll) (mR : mg "_law_roll" = some (.ref fR)) (kR : PySem.W.keepIn K (.ref fR) = true) (bR : L2.Binds K fdR ["_law_dice_here", "_law_many"] []) :
    FnOk P w K mg base CX0 2 f fd ["_law_dice_here"] (spFacts T) := by
  refine F.ok sc_facts (fun vs H Q E h => ?_) (fun cdv A outer s H vs Q E hr h => ?_)
  · obtain ⟨d, a, b, c, rfl, _⟩ := h
    rfl
  · obtain ⟨d, a, b, c, rfl, hd, k⟩ := h
    have hu65 : (A.deeper (envOfC "_law_facts" (defScope sFacts) s.heap.objs.size f cdv)).units + 65 < cLine := by have := hr.un; omega
    refine ⟨_, pss_cons (ps_set (i := 1) sc_facts.nd rfl (Or.inl rfl) (pe_lst pa_nil))
      (pss_cons (ps_for PassesOwn.never rfl (pi_range1 rfl L.rg (pa_cons (pe_call GR hr rfl mR kR bR .nil pass0 (pa_cons (pv 0) (pa_cons pe_int pa_nil))) pa_nil)) (pg_name (i := 2) sc_facts.nd rfl (Or.inl rfl))
        (pss_cons (ps_set (i := 3) sc_facts.nd rfl (Or.inl rfl) (pe_tup (pa_cons (pe_item_str pe_str (pe_call GR hr rfl mR kR bR .nil pass0 (pa_cons (pv 0) (pa_cons pe_int pa_nil))) (fun _ _ => rfl)) (pa_cons (pe_tup (pa_cons (pe_call GR hr rfl mR kR bR .nil pass0 (pa_cons (pv 0) (pa_cons pe_int pa_nil))) pa_nil)) pa_nil))))
        (pss_one (ps_set (i := 1) sc_facts.nd rfl (Or.inl rfl) (pe_op op_cat (pv 1) (pe_ifExp (pt_cmpR (op_notInD hu65) (pv 3) (pv 1) rfl) (pe_lst (pa_cons (pv 3) pa_nil)) (pe_lst pa_nil)))))))
      (pss_one (ps_ret (pv 1)))), ?_⟩
    refine ⟨by show 0 ≤ sizeLine; decide, fun l0 hl0 => ?_⟩
    have k0 : Kp T [d] H (upd H l0 (.lst [])) := .new hl0
    have nd0 : d ≠ l0 := ne_of_none hd hl0
    have hd0 : (upd H l0 (.lst [])) d = some (.lst (diceV a b c)) := by rw [upd_ne nd0]; exact hd
    refine ⟨_, rfl, d, a, b, c, 6, rfl, hd0, by decide, by decide, fun r a1 b1 c1 h0 h1 => ⟨r, rfl, by omega, by omega, ?_⟩⟩
    have k1 : Kp T [d] H (upd (upd H l0 (.lst [])) d (.lst (diceV a1 b1 c1))) := k0.transS (dice_kp hd0)
    refine for_range (lo := 0) (n := r.toNat) (fun i σ H3 => ∃ v2 v3 l fl a b c, σ = [some (.ref d), some (.ref l), v2, v3] ∧ Kp T [d] H H3 ∧ H3 d = some (.lst (diceV a b c)) ∧ Nw H l ∧ H3 l = some (.lst (frs1 fl)) ∧ FactsAt H3 fl ∧ (∀ x ∈ fl, fcOk x.2) ∧ (fl.map (·.2)).Nodup ∧ fl.length ≤ i)
      ⟨none, none, l0, [], a1, b1, c1, rfl, k1, upd_same, .of hl0, by rw [upd_ne nd0.symm]; exact upd_same, (fun _ z => by cases z), (fun _ z => by cases z), List.nodup_nil, Nat.le_refl _⟩ ?_ ?_
    · rintro i σ H3 hi ⟨v2, v3, l, fl, a, b, c, rfl, k3, hd3, nl, hl, hf, hok, nd, hlen⟩
      have nld : d ≠ l := nl.ne hd .lst
      dsimp only [gName, tSeq, tAsg]
      refine fact_read (T := T) (E := E0) (σ := [some (.ref d), some (.ref l), some (.int (0 + (i : Int))), v3]) (i := 0) rfl hd3 fun q f a' b' c' H4 k4 hd4 hq4 okf nq => ?_
      have hl4 : H4 l = some (.lst (frs1 fl)) := k4.lst hl (by simpa using nld.symm)
      have mu4 : ∀ b ∈ [d], Mu H3 b := fun b hb => by
        rw [List.mem_singleton.mp hb]
        exact .lst hd3
      have hf4 : FactsAt H4 fl := hf.kp k4 mu4
      have kH4 := k3.transS k4
      refine ⟨_, rfl, _, rfl, _, rfl, factD f, (fl.map (·.2)).map factD, DH.Dp.fact hq4, .lst (SqL.of hl4) (DH.DpAll.facts hf4), shaped_fact okf, shaped_facts fun g hg => ?_, ?_⟩
      · obtain ⟨x, hx, rfl⟩ := List.mem_map.mp hg
        exact hok x hx
      · rw [any_facts]
        refine ⟨_, rfl, ?_⟩
        refine ite2 (fun hb => ?_) (fun hb => ?_)
        · have hnot : f ∉ fl.map (·.2) := by simpa using hb
          refine ⟨_, rfl, by show 1 ≤ sizeLine; decide, fun p hp => ?_⟩
          have nlp := ne_of_none hl4 hp
          refine ⟨l, p, frs1 fl, [.ref q], rfl, rfl, by rw [upd_ne nlp]; exact hl4, upd_same, ?_, fun l2 hl2 => ?_⟩
          · rw [List.length_map]
            have : fl.length + 1 ≤ 1000 := by omega
            exact Nat.le_of_lt (small1000 this)
          · have k5 : Kp T [] H4 (upd (upd H4 p (.lst [.ref q])) l2 (.lst (frs1 fl ++ [.ref q]))) := (Kp.new hp).trans0 (.new hl2)
            refine ⟨_, _, l2, fl ++ [(q, f)], a', b', c', rfl, kH4.trans0 k5, k5.lst hd4 List.not_mem_nil, kH4.nw ((Kp.new (T := T) (F := []) hp).fresh hl2), by rw [upd_same]; simp, fun x hx => ?_, fun x hx => ?_, ?_, by rw [List.length_append]; simp; omega⟩
            · rcases List.mem_append.mp hx with h | h
              · exact (hf4 x h).kp k5 (fun _ z => nomatch z)
              · rw [List.mem_singleton.mp h]
                exact hq4.kp k5 (fun _ z => nomatch z)
            · rcases List.mem_append.mp hx with h | h
              · exact hok x h
              · rw [List.mem_singleton.mp h]
                exact okf
            · rw [List.map_append, List.nodup_append]
              refine ⟨nd, by simp, fun x hx y hy => ?_⟩
              have hy' : y = f := by simpa using hy
              rw [hy']
              exact fun z => hnot (z ▸ hx)
        · refine ⟨by show 0 ≤ sizeLine; decide, fun p hp => ?_⟩
          have nlp := ne_of_none hl4 hp
          refine ⟨l, p, frs1 fl, [], rfl, rfl, by rw [upd_ne nlp]; exact hl4, upd_same, ?_, fun l2 hl2 => ?_⟩
          · rw [List.length_map]
            have : fl.length + 0 ≤ 1000 := by omega
            exact Nat.le_of_lt (small1000 this)
          · have k5 : Kp T [] H4 (upd (upd H4 p (.lst [])) l2 (.lst (frs1 fl ++ []))) := (Kp.new hp).trans0 (.new hl2)
            exact ⟨_, _, l2, fl, a', b', c', rfl, kH4.trans0 k5, k5.lst hd4 List.not_mem_nil, kH4.nw ((Kp.new (T := T) (F := []) hp).fresh hl2), by rw [upd_same]; simp, hf4.kp k5 (fun _ z => nomatch z), hok, nd, by omega⟩
    · rintro σ H3 ⟨v2, v3, l, fl, a, b, c, rfl, k3, hd3, nl, hl, hf, hok, nd, hlen⟩
      exact ⟨_, rfl, k l fl a b c H3 k3 hd3 nl hl hf hok nd⟩
end
end DH
namespace DH
open PySem PySem.Spec L2
open PyProof.Rows hiding St
theorem sc_told : FnScope ["_law_what"] ["_law_what"] (defScope sTold) := ⟨rfl, rfl, rfl, by decide +kernel, rfl, by decide +kernel, by decide +kernel⟩
/-- the ten classes by their names; N, the fifth, is what laid_on raises -/
structure ToldT (K : PySem.W.Frag) (mg : Str → Option Value) (c1 c2 c3 c4 CN c6 c7 c8 c9 c10 : Addr) : Prop where
  m1 : mg "BadSign" = some (.ref c1)
  m2 : mg "BadRule" = some (.ref c2)
  m3 : mg "BadKind" = some (.ref c3)
  m4 : mg "BadLayer" = some (.ref c4)
  m5 : mg "NoSuch" = some (.ref CN)
  m6 : mg "BadDeed" = some (.ref c6)
  m7 : mg "BadGround" = some (.ref c7)
  m8 : mg "BadStore" = some (.ref c8)
  m9 : mg "Broken" = some (.ref c9)
  m10 : mg "BadSize" = some (.ref c10)
  e1 : PySem.W.exmOne K (.ref CN) (.ref c1) = some false
  e2 : PySem.W.exmOne K (.ref CN) (.ref c2) = some false
  e3 : PySem.W.exmOne K (.ref CN) (.ref c3) = some false
  e4 : PySem.W.exmOne K (.ref CN) (.ref c4) = some false
  e5 : PySem.W.exmOne K (.ref CN) (.ref CN) = some true
def TTno (CN : Addr) : (XK → Hp → VK → Prop) → Hp → VK → Prop := fun tl H Q => tl (fun cls _ H' => cls = .ref CN ∧ Q (.str "no such") H') H Q
theorem told_ten {X : Cx} {c1 c2 c3 c4 CN c6 c7 c8 c9 c10 g : Addr} {cdg : Value} {q : Str} (N : ToldT X.K X.mg c1 c2 c3 c4 CN c6 c7 c8 c9 c10) : LamX.GivesTo X ["_law_what"] "_law_told" (defScope sTold) g cdg (defBody sTold) "_law_what" q (TTno CN) := by
  intro f c' s H Q tl act hc h
  refine ⟨_, pss_one (ps_try_many (X := (cxOf C8.CX0 X.prog X.w X.K X.mg X.base ["_law_what"] "_law_told" (defScope sTold) g cdg X.A X.stack s H C8.E0).nox)
      (tb := fun W D σ H => ∃ Ech : XK, (∀ cls d σ' H', Ech cls d H' → W cls d σ' H') ∧ σ[0]? = some (some (.ref f)) ∧ H c' = some (LamX.CodeO c' q) ∧ tl Ech H D.rt)
      rfl rfl takes_none5 (fun W pn xe tk _ => ?_)
      (.cons (c := .ref c1) ⟨rfl, by decide +kernel, .inl N.m1⟩ (fun a oe cls d pn _ _ => pss_one (ps_ret pe_str))
      (.cons (c := .ref c2) ⟨rfl, by decide +kernel, .inl N.m2⟩ (fun a oe cls d pn _ _ => pss_one (ps_ret pe_str))
      (.cons (c := .ref c3) ⟨rfl, by decide +kernel, .inl N.m3⟩ (fun a oe cls d pn _ _ => pss_one (ps_ret pe_str))
      (.cons (c := .ref c4) ⟨rfl, by decide +kernel, .inl N.m4⟩ (fun a oe cls d pn _ _ => pss_one (ps_ret pe_str))
      (.cons (c := .ref CN) ⟨rfl, by decide +kernel, .inl N.m5⟩ (fun a oe cls d pn _ _ => pss_one (ps_ret pe_str))
      (.cons (c := .ref c6) ⟨rfl, by decide +kernel, .inl N.m6⟩ (fun a oe cls d pn _ _ => pss_one (ps_ret pe_str))
      (.cons (c := .ref c7) ⟨rfl, by decide +kernel, .inl N.m7⟩ (fun a oe cls d pn _ _ => pss_one (ps_ret pe_str))
      (.cons (c := .ref c8) ⟨rfl, by decide +kernel, .inl N.m8⟩ (fun a oe cls d pn _ _ => pss_one (ps_ret pe_str))
      (.cons (c := .ref c9) ⟨rfl, by decide +kernel, .inl N.m9⟩ (fun a oe cls d pn _ _ => pss_one (ps_ret pe_str))
      (.cons (c := .ref c10) ⟨rfl, by decide +kernel, .inl N.m10⟩ (fun a oe cls d pn _ _ => pss_one (ps_ret pe_str))
      .nil))))))))))), ?_⟩
  · refine ⟨fun pins s' σ H' D I h' => ?_⟩
    obtain ⟨Ech, hW, h1, h2, h3⟩ := h'
    exact (pss_one (ps_ret (act W pn xe Ech _ _ tk hW))).run pins s' σ H' D I ⟨h1, h2, h3⟩
  · refine ⟨fun cls _ H' => cls = .ref CN ∧ Q (.str "no such") H', fun cls d σ' H' h => ?_, rfl, hc, h⟩
    obtain ⟨rfl, hQ⟩ := h
    exact ⟨false, N.e1, (fun z => by cases z), fun _ => ⟨false, N.e2, (fun z => by cases z), fun _ => ⟨false, N.e3, (fun z => by cases z), fun _ => ⟨false, N.e4, (fun z => by cases z), fun _ => ⟨true, N.e5, fun _ a _ => hQ, fun z => by cases z⟩⟩⟩⟩⟩
end DH
namespace DH
open PySem PySem.Spec L2
open PyProof.Rows hiding St
theorem exists_heap (h0 : Heap) : ∀ n : Nat, ∃ h : Heap, h.objs.size = n
  | 0 => ⟨{ h0 with objs := #[] }, rfl⟩
  | n + 1 => by
    obtain ⟨h, e⟩ := exists_heap h0 n
    exact ⟨h.push { cls := .none, data := .plain }, by rw [Heap.size_push, e]⟩
theorem net_ne_code {P : Program} {w : World} {a c : Addr} {es : List NetE} {q : Str} (h0 : Heap) : NetO P w a es ≠ LamX.CodeO c q ∨ a ≠ c := by
  by_cases hac : a = c
  · refine .inl fun z => ?_
    subst hac
    unfold NetO LamX.CodeO at z
    injection z with z
    obtain ⟨h, e⟩ := exists_heap h0 a
    have hg : (h.push { cls := .none, data := .fields #[.none, .str q 0] }).get? a = some { cls := .none, data := .fields #[.none, .str q 0] } := by
      rw [← e]
      exact Heap.get?_push_size _ rfl
    have z' := congrFun z (h.push { cls := .none, data := .fields #[.none, .str q 0] })
    have t : (∃ (oc : Obj) (vs : Array Value) (t : Tok), (h.push { cls := .none, data := .fields #[.none, .str q 0] }).get? a = some oc ∧ oc.data = .fields vs ∧ vs[1]? = some (.str q t)) := ⟨_, _, 0, hg, rfl, rfl⟩
    have t2 := (z'.symm ▸ t : _)
    obtain ⟨_, _, o, ds, ep, g, _, hd, _⟩ := t2
    rw [hg] at g
    cases g
    cases hd
  · exact .inr hac
theorem NT.net {P : Program} {w : World} {a : Addr} {es : List NetE} : NT (NetO P w a es) := fun _ z => by unfold NetO at z; cases z
theorem NDct.net {P : Program} {w : World} {a : Addr} {es : List NetE} : NDct (NetO P w a es) := ⟨(fun _ z => by unfold NetO at z; cases z), (fun _ z => by unfold NetO at z; cases z)⟩
/-- the net is written -/
theorem Kp.net {T : List (Addr × Str)} {F : List Addr} {P : Program} {w : World} {H : Hp} {a : Addr} {es es' : List NetE} (h0 : Heap) (h : H a = some (NetO P w a es)) (ha : a ∈ F) : Kp T F H (upd H a (NetO P w a es')) := by
  refine ⟨fun b u q _ hb => ?_, fun b u q n => ?_, fun t p hp => ?_⟩
  · rw [upd_ne (fun z => hb (by rw [z]; exact ha))]
    exact q
  · by_cases z : b = a
    · exact ⟨_, by rw [z, upd_same], .net⟩
    · exact ⟨u, by rw [upd_ne z]; exact q, n⟩
  · obtain ⟨ps, h1, h2, h3⟩ := t p hp
    refine ⟨ps, ?_, h2, fun pos cv hc => ?_⟩
    · rw [upd_ne]
      · exact h1
      · intro z
        rw [z, h] at h1
        exact NT.net ps (Option.some.inj h1)
    · obtain ⟨c, e1, e2⟩ := h3 pos cv hc
      refine ⟨c, e1, ?_⟩
      rw [upd_ne]
      · exact e2
      · intro z
        rw [z, h] at e2
        rcases net_ne_code (P := P) (w := w) (a := a) (c := a) (es := es) (q := p.2) h0 with q | q
        · exact q (Option.some.inj e2)
        · exact q rfl
theorem Mu.net {P : Program} {w : World} {H : Hp} {a : Addr} {es : List NetE} (h : H a = some (NetO P w a es)) : ∀ b ∈ [a], Mu H b := fun b hb o e => by
  rw [List.mem_singleton.mp hb, h] at e
  cases e
  exact ⟨(fun _ _ _ z => by unfold NetO at z; cases z), (fun _ z => by unfold NetO at z; cases z), (fun _ _ z => by unfold NetO at z; cases z)⟩
theorem NetKeys.kp {T : List (Addr × Str)} {F : List Addr} {H H1 : Hp} {es : List NetE} (h : NetKeys H es) (k : Kp T F H H1) (hF : ∀ b ∈ F, Mu H b) : NetKeys H1 es := fun e he => FactAt.kp (h e he) k hF
def cA (es : List NetE) : Cont := fun n k => decide (valN es (n, k) = some true)
def cD (es : List NetE) : Cont := fun n k => decide (valN es (n, k) = some false)
theorem valN_nil (f : Fct) : valN [] f = none := rfl
theorem valN_cons (e : NetE) (es : List NetE) (f : Fct) : valN (e :: es) f = if e.1 = f then some e.2.2 else valN es f := by
  unfold valN
  rw [List.find?_cons]
  by_cases h : e.1 = f
  · simp [h]
  · simp [h]
theorem valN_map (es : List NetE) (f g : Fct) (b : Bool) : valN (es.map fun e => if e.1 = f then (e.1, e.2.1, b) else e) g = if g = f then (valN es g).map (fun _ => b) else valN es g := by
  induction es with
  | nil => simp [valN_nil]
  | cons e es ih =>
    rw [List.map_cons, valN_cons, valN_cons, ih]
    by_cases h : e.1 = f
    · rw [if_pos h]
      dsimp only
      by_cases h2 : e.1 = g
      · rw [if_pos h2, if_pos h2, if_pos (h2.symm.trans h)]
        rfl
      · rw [if_neg h2, if_neg h2]
    · rw [if_neg h]
      by_cases h2 : e.1 = g
      · rw [if_pos h2, if_pos h2, if_neg (fun z => h (h2.trans z))]
      · rw [if_neg h2, if_neg h2]
theorem valN_app (es : List NetE) (e : NetE) (g : Fct) : valN (es ++ [e]) g = (valN es g).or (if e.1 = g then some e.2.2 else none) := by
  induction es with
  | nil =>
    rw [List.nil_append, valN_cons, valN_nil]
    rfl
  | cons x es ih =>
    rw [List.cons_append, valN_cons, valN_cons, ih]
    by_cases h : x.1 = g
    · rw [if_pos h, if_pos h]
      rfl
    · rw [if_neg h, if_neg h]
theorem valN_put (es : List NetE) (f g : Fct) (q : Addr) (b : Bool) : valN (putN es f q b) g = if g = f then some b else valN es g := by
  unfold putN
  by_cases h : (valN es f).isSome = true
  · rw [if_pos h, valN_map]
    by_cases h2 : g = f
    · rw [if_pos h2, if_pos h2, h2]
      obtain ⟨v, hv⟩ := Option.isSome_iff_exists.mp h
      rw [hv]
      rfl
    · rw [if_neg h2, if_neg h2]
  · rw [if_neg h, valN_app]
    have hn : valN es f = none := by
      cases e : valN es f with
      | none => rfl
      | some v => rw [e] at h; exact absurd rfl h
    by_cases h2 : g = f
    · rw [if_pos h2, h2, hn]
      simp
    · rw [if_neg h2]
      have : ¬ f = g := fun z => h2 z.symm
      simp [this]
theorem valN_drop (es : List NetE) (f g : Fct) : valN (dropN es f) g = if g = f then none else valN es g := by
  unfold dropN
  induction es with
  | nil => simp [valN_nil]
  | cons e es ih =>
    rw [List.filter_cons, valN_cons]
    by_cases h : e.1 = f
    · simp only [h, ne_eq, not_true, decide_false, Bool.false_eq_true, if_false]
      rw [ih]
      by_cases h2 : g = f
      · rw [if_pos h2, if_pos h2]
      · rw [if_neg h2, if_neg h2, if_neg (fun z => h2 z.symm)]
    · rw [if_pos (by simpa using h), valN_cons, ih]
      by_cases h2 : e.1 = g
      · rw [if_pos h2, if_pos h2, if_neg (fun z => h (h2.trans z))]
      · rw [if_neg h2, if_neg h2]
/-- one step: what the note does is what the net's step does -/
theorem step_same {es : List NetE} {n : Str} {k : Int} {c : Bool} (h : (valN es (n, k)).getD c = c) (q : Addr) :
    (if c then noteH (cA es) (cD es) n k else noteG (cD es) (cA es) n k) = cA (putN es (n, k) q c) ∧ (if c then noteG (cA es) (cD es) n k else noteH (cD es) (cA es) n k) = cD (putN es (n, k) q c) := by
  have hd : ∀ b, valN es (n, k) = some b → b = c := fun b e => by rw [e] at h; exact h
  cases c with
  | true =>
    have h0 : cD es n k = false := decide_eq_false fun e => by have := hd _ e; cases this
    simp only [if_true, noteH, noteG, h0, Bool.false_eq_true, if_false]
    constructor
    · funext m j
      unfold putS cA
      rw [valN_put]
      by_cases z : m = n ∧ j = k
      · obtain ⟨rfl, rfl⟩ := z
        simp
      · have z' : ¬ (m, j) = (n, k) := fun e => z (by injection e with e1 e2; exact ⟨e1, e2⟩)
        rw [if_neg z', decide_eq_false z]
        simp
    · funext m j
      unfold cD
      rw [valN_put]
      by_cases z : (m, j) = (n, k)
      · rw [if_pos z, z]
        have : ¬ valN es (n, k) = some false := fun e => by have := hd _ e; cases this
        simp [this]
      · rw [if_neg z]
  | false =>
    have h0 : cA es n k = false := decide_eq_false fun e => by have := hd _ e; cases this
    simp only [Bool.false_eq_true, if_false, noteH, noteG, h0]
    constructor
    · funext m j
      unfold cA
      rw [valN_put]
      by_cases z : (m, j) = (n, k)
      · rw [if_pos z, z]
        have : ¬ valN es (n, k) = some true := fun e => by have := hd _ e; cases this
        simp [this]
      · rw [if_neg z]
    · funext m j
      unfold putS cD
      rw [valN_put]
      by_cases z : m = n ∧ j = k
      · obtain ⟨rfl, rfl⟩ := z
        simp
      · have z' : ¬ (m, j) = (n, k) := fun e => z (by injection e with e1 e2; exact ⟨e1, e2⟩)
        rw [if_neg z', decide_eq_false z]
        simp
theorem step_diff {es : List NetE} {n : Str} {k : Int} {c : Bool} (h : ¬ (valN es (n, k)).getD c = c) :
    (if c then noteH (cA es) (cD es) n k else noteG (cD es) (cA es) n k) = cA (dropN es (n, k)) ∧ (if c then noteG (cA es) (cD es) n k else noteH (cD es) (cA es) n k) = cD (dropN es (n, k)) ∧ ∃ b, valN es (n, k) = some b := by
  have hd : valN es (n, k) = some (!c) := by
    cases e : valN es (n, k) with
    | none => rw [e] at h; exact absurd rfl h
    | some b =>
      rw [e] at h
      have : b ≠ c := h
      cases b <;> cases c <;> simp_all
  refine ⟨?_, ?_, _, hd⟩
  all_goals
    cases c with
    | true =>
      have h0 : cD es n k = true := decide_eq_true hd
      simp only [if_true, noteH, noteG, h0]
      funext m j
      first
        | (unfold cA
           rw [valN_drop]
           by_cases z : (m, j) = (n, k)
           · rw [if_pos z, z, hd]
             simp
           · rw [if_neg z])
        | (unfold delS cD
           rw [valN_drop]
           by_cases z : m = n ∧ j = k
           · obtain ⟨rfl, rfl⟩ := z
             simp
           · have z' : ¬ (m, j) = (n, k) := fun e => z (by injection e with e1 e2; exact ⟨e1, e2⟩)
             rw [if_neg z', decide_eq_false z]
             simp)
    | false =>
      have h0 : cA es n k = true := decide_eq_true hd
      simp only [Bool.false_eq_true, if_false, noteH, noteG, h0, if_true]
      funext m j
      first
        | (unfold delS cA
           rw [valN_drop]
           by_cases z : m = n ∧ j = k
           · obtain ⟨rfl, rfl⟩ := z
             simp
           · have z' : ¬ (m, j) = (n, k) := fun e => z (by injection e with e1 e2; exact ⟨e1, e2⟩)
             rw [if_neg z', decide_eq_false z]
             simp)
        | (unfold cD
           rw [valN_drop]
           by_cases z : (m, j) = (n, k)
           · rw [if_pos z, z, hd]
             simp
           · rw [if_neg z])
theorem putN_facts {es : List NetE} {f : Fct} {q : Addr} {b : Bool} (h : ∀ e ∈ es, fcOk e.1) (hf : fcOk f) : ∀ e ∈ putN es f q b, fcOk e.1 := by
  intro e he
  unfold putN at he
  split at he
  · obtain ⟨e', he', rfl⟩ := List.mem_map.mp he
    split
    · exact h e' he'
    · exact h e' he'
  · rcases List.mem_append.mp he with he | he
    · exact h e he
    · rw [List.mem_singleton.mp he]
      exact hf
theorem dropN_facts {es : List NetE} {f : Fct} (h : ∀ e ∈ es, fcOk e.1) : ∀ e ∈ dropN es f, fcOk e.1 := fun e he => h e (List.mem_filter.mp he).1
theorem putN_nd {es : List NetE} {f : Fct} {q : Addr} {b : Bool} (nd : (es.map (·.1)).Nodup) : ((putN es f q b).map (·.1)).Nodup := by
  unfold putN
  split
  · have e : (es.map fun e => if e.1 = f then (e.1, e.2.1, b) else e).map (·.1) = es.map (·.1) := by
      rw [List.map_map]
      refine List.map_congr_left fun a _ => ?_
      simp only [Function.comp]
      split <;> rfl
    rw [e]
    exact nd
  · rename_i h
    rw [List.map_append, List.nodup_append]
    refine ⟨nd, by simp, fun a ha c hc => ?_⟩
    have hc' : c = f := by simpa using hc
    rw [hc']
    rintro rfl
    obtain ⟨p, hp, rfl⟩ := List.mem_map.mp ha
    refine h ?_
    clear h nd ha hc
    induction es with
    | nil => cases hp
    | cons x es ih =>
      rw [valN_cons]
      by_cases z : x.1 = p.1
      · rw [if_pos z]; rfl
      · rw [if_neg z]
        rcases List.mem_cons.mp hp with q | q
        · rw [q] at z; exact absurd rfl z
        · exact ih q
theorem dropN_nd {es : List NetE} {f : Fct} (nd : (es.map (·.1)).Nodup) : ((dropN es f).map (·.1)).Nodup := nd.sublist (List.filter_sublist.map _)
theorem dropN_len (es : List NetE) (f : Fct) : (dropN es f).length ≤ es.length := List.length_filter_le _ _
theorem valN_mem {es : List NetE} (nd : (es.map (·.1)).Nodup) (f : Fct) (b : Bool) : valN es f = some b ↔ ∃ q, (f, q, b) ∈ es := by
  induction es with
  | nil => simp [valN_nil]
  | cons e es ih =>
    rw [List.map_cons, List.nodup_cons] at nd
    rw [valN_cons]
    by_cases h : e.1 = f
    · rw [if_pos h]
      constructor
      · intro z
        refine ⟨e.2.1, ?_⟩
        have : e = (f, e.2.1, b) := by
          obtain ⟨a, c, d⟩ := e
          injection z with z
          simp only at h z
          rw [h, z]
        rw [← this]
        exact List.mem_cons_self
      · rintro ⟨q, hq⟩
        rcases List.mem_cons.mp hq with z | z
        · rw [← z]
        · exact absurd (List.mem_map.mpr ⟨_, z, rfl⟩) (by rw [← h] at *; exact nd.1)
    · rw [if_neg h, ih nd.2]
      constructor
      · rintro ⟨q, hq⟩
        exact ⟨q, List.mem_cons_of_mem _ hq⟩
      · rintro ⟨q, hq⟩
        rcases List.mem_cons.mp hq with z | z
        · exact absurd (by rw [← z]) h
        · exact ⟨q, z⟩
theorem Dom.cA {es : List NetE} (nd : (es.map (·.1)).Nodup) (h : ∀ e ∈ es, fcOk e.1) : Dom (cA es) := fun n k e => by
  obtain ⟨q, hq⟩ := (valN_mem nd (n, k) true).mp (of_decide_eq_true e)
  exact h _ hq
theorem Dom.cD {es : List NetE} (nd : (es.map (·.1)).Nodup) (h : ∀ e ∈ es, fcOk e.1) : Dom (cD es) := fun n k e => by
  obtain ⟨q, hq⟩ := (valN_mem nd (n, k) false).mp (of_decide_eq_true e)
  exact h _ hq
theorem cA_nil : cA [] = none2 := by
  funext n k
  simp [cA, none2, valN_nil]
theorem cD_nil : cD [] = none2 := by
  funext n k
  simp [cD, none2, valN_nil]
end DH
namespace DH
open PySem PySem.Spec L2
open PyProof.Rows hiding St
abbrev N21 : List Str := ["_law_script", "_law_dice_here", "_law_net", "_law_step", "_law_fact", "_law_came", "_law_due", "_law_name", "_law_one", "_law_went", "_law_other", "_law_end", "_law_between", "_law_back", "_law_bad", "_law_told_now", "_law_after", "_law_changes", "_law_start", "_law_row", "_law_key"]
theorem sc_law21 : FnScope N21 ["_law_script"] (defScope sLaw) := ⟨rfl, rfl, rfl, by decide +kernel, rfl, by decide +kernel, by decide +kernel⟩
def lawBody : List Stmt := match defBody sLaw with
  | .For _ _ b _ _ :: _ => b
  | _ => []
def lb (i : Nat) : Stmt := lawBody.getD i (.Pass ⟨0, 0, 0, 0⟩)
abbrev LX (P : Program) (w : World) (K : PySem.W.Frag) (mg : Str → Option Value) (base : Heap) (f : Addr) (cd : Value) (A : Around) (outer : List Env) (s : Shared) (H0 : Hp) (E : XK) : Cx := (cxOf CX0 P w K mg base N21 "law" (defScope sLaw) f cd A outer s H0 E).nox
/-- the defs that law calls -/
structure LawG (P : Program) (w : World) (K : PySem.W.Frag) (mg : Str → Option Value) (base : Heap) (T : List (Addr × Str)) (CS CR CC CN : Addr) where
  L : LawT mg
  C : ChT K mg CC
  S : StoT K mg CS
  fI : Addr
  fdI : FuncData
  MI : Mk K CC fI
  GI : FnOk P w K mg base CX0 1 fI fdI ["self"] (spCInit T CC)
  bI : L2.Binds K fdI ["self"] []
  fRo : Addr
  fdRo : FuncData
  GRo : FnOk P w K mg base CX0 1 fRo fdRo ["_law_dice_here", "_law_many"] spRoll
  mRo : mg "_law_roll" = some (.ref fRo)
  kRo : PySem.W.keepIn K (.ref fRo) = true
  bRo : L2.Binds K fdRo ["_law_dice_here", "_law_many"] []
  fT : Addr
  fdT : FuncData
  mT : Meth K CC "note" fT
  GT : FnOk P w K mg base CX0 1 fT fdT ["self", "name", "row", "came"] (spNote T CC)
  bT : L2.Binds K fdT ["self", "name", "row", "came"] []
  fCS : Addr
  fdCS : FuncData
  mCS : Meth K CC "shown" fCS
  GCS : FnOk P w K mg base CX0 8 fCS fdCS ["self"] (spCShown K T CC)
  bCS : L2.Binds K fdCS ["self"] []
  fB : Addr
  fdB : FuncData
  mB : Meth K CC "is_bare" fB
  GB : FnOk P w K mg base CX0 2 fB fdB ["self"] (spBare T CC)
  bB : L2.Binds K fdB ["self"] []
  fCN : Addr
  fdCN : FuncData
  mCN : Meth K CC "names" fCN
  GCN : FnOk P w K mg base CX0 1 fCN fdCN ["self"] (spCNames T CC)
  bCN : L2.Binds K fdCN ["self"] []
  fTu : Addr
  fdTu : FuncData
  mTu : Meth K CC "turned" fTu
  GTu : FnOk P w K mg base CX0 3 fTu fdTu ["self"] (spTurned T CC)
  bTu : L2.Binds K fdTu ["self"] []
  fFa : Addr
  fdFa : FuncData
  GFa : FnOk P w K mg base CX0 2 fFa fdFa ["_law_dice_here"] (spFacts T)
  mFa : mg "_law_facts" = some (.ref fFa)
  kFa : PySem.W.keepIn K (.ref fFa) = true
  bFa : L2.Binds K fdFa ["_law_dice_here"] []
  fSo : Addr
  fdSo : FuncData
  GSo : FnOk P w K mg base CX0 4 fSo fdSo ["facts"] (spStoreOf T CS CR)
  mSo : mg "store_of" = some (.ref fSo)
  kSo : PySem.W.keepIn K (.ref fSo) = true
  bSo : L2.Binds K fdSo ["facts"] []
  fAp : Addr
  fdAp : FuncData
  GAp : FnOk P w K mg base CX0 9 fAp fdAp ["one", "other"] (spApart T CS CR CC)
  mAp : mg "apart" = some (.ref fAp)
  kAp : PySem.W.keepIn K (.ref fAp) = true
  bAp : L2.Binds K fdAp ["one", "other"] []
  fLa : Addr
  fdLa : FuncData
  GLa : FnOk P w K mg base (L2.CX P w) 4 fLa fdLa ["store", "changes"] (spLaid T CS CR CC CN)
  mLa : mg "laid_on" = some (.ref fLa)
  kLa : PySem.W.keepIn K (.ref fLa) = true
  bLa : L2.Binds K fdLa ["store", "changes"] []
  fSS : Addr
  fdSS : FuncData
  mSS : Meth K CS "shown" fSS
  GSS : FnOk P w K mg base CX0 9 fSS fdSS ["self"] (spSShown K T CS CR)
  bSS : L2.Binds K fdSS ["self"] []
abbrev factT (E : XK) (i : Nat) : TE := tTup (tCons (tOp rItS (tC (.str "pq")) (tCall spRoll [] E (tCons (tVar i) (tCons (tC (.int 2)) tNil)))) (tCons (tTup (tCons (tCall spRoll [] E (tCons (tVar i) (tCons (tC (.int 3)) tNil))) tNil)) tNil))
theorem fact_readC {T : List (Addr × Str)} {E : XK} {σ : L2.St} {i : Nat} {H : Hp} {d : Addr} {a b c : Int} {tr : TA} {Q : List V → Hp → Prop} (σd : σ[i]? = some (some (.ref d))) (hd : H d = some (.lst (diceV a b c)))
    (k : ∀ (q : Addr) (f : Fct) (a' b' c' : Int) (H' : Hp), Kp T [d] H H' → H' d = some (.lst (diceV a' b' c')) → FactAt H' q f → fcOk f → Nw H q → tr σ H' fun xs H2 => Q (.ref q :: xs) H2) : tCons (factT E i) tr σ H Q := by
  have h := fact_read (T := T) (E := E) (Q := fun x H1 => tr σ H1 fun xs H2 => Q (x :: xs) H2) σd hd k
  exact h
section
variable {P : Program} {w : World} {K : PySem.W.Frag} {mg : Str → Option Value} {base : Heap} {T : List (Addr × Str)} {CS CR CC CN : Addr} {f : Addr} {cd : Value} {A : Around} {outer : List Env} {s : Shared} {H0 : Hp} {E : XK}
/-- what stands behind the notes -/
structure AfterA (P : Program) (w : World) (T : List (Addr × Str)) (CC : Addr) (H H' : Hp) (d ch net : Addr) (Fc : List Addr) (es : List NetE) : Prop where
  kp : Kp T [d] H H'
  dice : ∃ a b c, H' d = some (.lst (diceV a b c))
  chs : ChS H' CC ch Fc (cA es) (cD es)
  fc : ∀ b ∈ Fc, Nw H b
  nt : H' net = some (NetO P w net es)
  nw : Nw H net
  keys : NetKeys H' es
  ok : ∀ e ∈ es, fcOk e.1
  nd : (es.map (·.1)).Nodup
theorem partA (G : LawG P w K mg base T CS CR CC CN) (hr : Room 20 (LX P w K mg base f cd A outer s H0 E).A) {rest : List Stmt} {u : TS} (hrest : PSs (LX P w K mg base f cd A outer s H0 E) rest u) :
    ∃ t, PSs (LX P w K mg base f cd A outer s H0 E) (lb 0 :: lb 1 :: rest) t ∧ ∀ (D : Ends) (H : Hp) (sc d : Addr) (a b c : Int), H d = some (.lst (diceV a b c)) →
      (∀ v3 v4 v5 ch net Fc es H', AfterA P w T CC H H' d ch net Fc es → es.length ≤ 11 → u D [some (.ref sc), some (.ref d), some (.ref net), v3, v4, v5, none, none, none, none, none, none, none, none, none, none, none, some (.ref ch), none, none, none] H') →
      t D [some (.ref sc), some (.ref d), none, none, none, none, none, none, none, none, none, none, none, none, none, none, none, none, none, none, none] H := by
  have hu : (LX P w K mg base f cd A outer s H0 E).A.units + 10 < cLine := by have := hr.un; omega
  have hr1 : Room 1 (LX P w K mg base f cd A outer s H0 E).A := hr.mono (by decide)
  have hr2 : Room 2 (LX P w K mg base f cd A outer s H0 E).A := hr.mono (by decide)
  refine ⟨_, pss_cons (ps_asg (pe_tup (pa_cons (pe_make0 G.MI G.GI hr2 rfl G.C.mgC G.bI .nil pass0) (pa_cons pe_nnew pa_nil))) (pg_tup rfl (pgs_cons (pg_name (i := 17) sc_law21.nd rfl (Or.inr rfl)) (pgs_cons (pg_name (i := 2) sc_law21.nd rfl (Or.inr rfl)) pgs_nil))))
    (pss_cons (ps_for PassesOwn.never rfl (pi_range1 rfl G.L.rg (pa_cons (pe_call G.GRo hr1 rfl G.mRo G.kRo G.bRo .nil pass0 (pa_cons (pv 1) (pa_cons pe_int pa_nil))) pa_nil)) (pg_name (i := 3) sc_law21.nd rfl (Or.inl rfl))
      (pss_cons (ps_par (i := 4) (j := 5) rfl sc_law21.nd rfl rfl (by decide) rfl rfl (pa_cons (pe_tup (pa_cons (pe_item_str pe_str (pe_call G.GRo hr1 rfl G.mRo G.kRo G.bRo .nil pass0 (pa_cons (pv 1) (pa_cons pe_int pa_nil))) (fun _ _ => rfl)) (pa_cons (pe_tup (pa_cons (pe_call G.GRo hr1 rfl G.mRo G.kRo G.bRo .nil pass0 (pa_cons (pv 1) (pa_cons pe_int pa_nil))) pa_nil)) pa_nil)))
          (pa_cons (pe_cmpR op_eq (pe_call G.GRo hr1 rfl G.mRo G.kRo G.bRo .nil pass0 (pa_cons (pv 1) (pa_cons pe_int pa_nil))) pe_int (nomark _)) pa_nil)) (by rfl))
      (pss_cons (ps_expr (pe_meth (pv 17) G.C.cl G.mT G.GT hr1 G.bT .nil pass0 (pa_cons (pe_ix ix_tup (pv 4) pe_int (fun _ _ => rfl)) (pa_cons (pe_ix ix_tup (pv 4) pe_int (fun _ _ => rfl)) (pa_cons (pv 5) pa_nil)))))
      (pss_one (ps_if (pt_cmpR op_eq (pe_nget2 hu (pv 2) (pv 4) (pv 5) ⟨rfl, rfl, rfl, rfl⟩) (pv 5) (nomark _)) (pss_one (ps_nput hu (pv 2) (pv 4) (pv 5) rfl)) (pss_one (ps_expr (pe_npop hu (pv 2) (pv 4) ⟨rfl, rfl, rfl, rfl⟩))))))))
    hrest), ?_⟩
  intro D H sc d a b c hd k x dx nx ndx nex
  have k0 : Kp T [] H (upd (upd H dx (.own x)) x (.ins CC dx [])) := (Kp.new ndx).transS (.new (by rw [upd_ne nex.symm]; exact nx))
  refine ⟨x, dx, rfl, upd_same, fun da dd H1 na nd hC1 k1 => ⟨rfl, fun net hnet => ⟨by show 2 ≤ sizeLine; decide, fun tp htp => ⟨tp, _, rfl, SqT.of upd_same, rfl, _, _, rfl, _, _, rfl, rfl, ?_⟩⟩⟩⟩
  have kH1 : Kp T [] H H1 := k0.trans k1 fun b hb => .inr (by rw [List.mem_singleton.mp hb]; exact .of nx)
  have k2 : Kp T [] H1 (upd H1 net (NetO P w net [])) := .new hnet
  have k3 : Kp T [] (upd H1 net (NetO P w net [])) (upd (upd H1 net (NetO P w net [])) tp (.tup [.ref x, .ref net])) := .new htp
  have kH3 := (kH1.trans0 k2).trans0 k3
  have hfc : ∀ b ∈ chC da dd [] [], Nw H b := fun b hb => by
    rcases mem_chC.mp hb with rfl | rfl | ⟨e, he, _⟩ | ⟨e, he, _⟩
    · exact k0.nw na
    · exact k0.nw nd
    · cases he
    · cases he
  have ch1 : ChS H1 CC x (chC da dd [] []) (cA []) (cD []) := by
    rw [cA_nil, cD_nil]
    exact ⟨da, dd, [], [], hC1, rfl, (fun n k => by constructor <;> intro h <;> cases h), (fun n k => by constructor <;> intro h <;> cases h), (fun _ z => by cases z), (fun _ z => by cases z), .none, .none⟩
  have A0 : AfterA P w T CC H (upd (upd H1 net (NetO P w net [])) tp (.tup [.ref x, .ref net])) d x net (chC da dd [] []) [] :=
    ⟨kH3.mono (fun _ z => by cases z), ⟨a, b, c, kH3.lst hd List.not_mem_nil⟩, (ch1.kp0 k2).kp0 k3, hfc, k3.keep net _ upd_same .net List.not_mem_nil, kH1.fresh hnet, (fun _ z => by cases z), (fun _ z => by cases z), List.nodup_nil⟩
  have hd3 := kH3.lst hd List.not_mem_nil
  refine ⟨_, rfl, d, a, b, c, 11, rfl, hd3, by decide, by decide, fun r a1 b1 c1 h0 h1 => ⟨r, rfl, by omega, by omega, ?_⟩⟩
  -- a step of the dice keeps what stands
  have stepD : ∀ {H3 H4 : Hp} {Fc : List Addr} {es : List NetE}, AfterA P w T CC H H3 d x net Fc es → Kp T [d] H3 H4 → (∃ a b c, H4 d = some (.lst (diceV a b c))) → AfterA P w T CC H H4 d x net Fc es := by
    intro H3 H4 Fc es I k4 hd4
    obtain ⟨a', b', c', hd3'⟩ := I.dice
    have mu : ∀ b ∈ [d], Mu H3 b := fun b hb => by
      rw [List.mem_singleton.mp hb]
      exact .lst hd3'
    have ndc : ∀ b ∈ Fc, b ∉ [d] := fun b hb z => by
      have := Dct.ne (I.chs.dct) hd3' .lst
      rw [← List.mem_singleton.mp z] at this
      exact this hb
    have nnd : net ≠ d := ne_of I.nt hd3' (fun z => by unfold NetO at z; cases z)
    exact ⟨I.kp.transS k4, hd4, I.chs.kp k4 mu ndc, I.fc, k4.keep net _ I.nt .net (by simpa using nnd), I.nw, I.keys.kp k4 mu, I.ok, I.nd⟩
  refine for_range (lo := 0) (n := r.toNat) (fun i σ H3 => ∃ v3 v4 v5 Fc es, σ = [some (.ref sc), some (.ref d), some (.ref net), v3, v4, v5, none, none, none, none, none, none, none, none, none, none, none, some (.ref x), none, none, none] ∧ AfterA P w T CC H H3 d x net Fc es ∧ es.length ≤ i)
    ⟨none, none, none, _, [], rfl, stepD A0 (dice_kp hd3) ⟨_, _, _, upd_same⟩, Nat.zero_le _⟩ ?_ ?_
  · rintro i σ H4 hi ⟨v3, v4, v5, Fc, es, rfl, I4, hlen⟩
    obtain ⟨a4, b4, c4, hd4⟩ := I4.dice
    dsimp only [gName, tSeq, tPar]
    refine fact_readC (T := T) (E := E0) (σ := [some (.ref sc), some (.ref d), some (.ref net), some (.int (0 + (i : Int))), v4, v5, none, none, none, none, none, none, none, none, none, none, none, some (.ref x), none, none, none]) (i := 1) rfl hd4 fun q fc a5 b5 c5 H5 k5 hd5 hq5 okf nq => ?_
    have I5 := stepD I4 k5 ⟨_, _, _, hd5⟩
    refine ⟨_, rfl, d, a5, b5, c5, 2, rfl, hd5, by decide, by decide, fun r2 a6 b6 c6 h2 h3 => ⟨rfl, ?_⟩⟩
    have k6 : Kp T [d] H5 (upd H5 d (.lst (diceV a6 b6 c6))) := dice_kp hd5
    have I6 := stepD I5 k6 ⟨_, _, _, upd_same⟩
    have hq6 : FactAt (upd H5 d (.lst (diceV a6 b6 c6))) q fc := hq5.kp k6 fun b hb => by
      rw [List.mem_singleton.mp hb]
      exact .lst hd5
    generalize upd H5 d (.lst (diceV a6 b6 c6)) = H6 at I6 hq6 ⊢
    generalize hcm : decide (V.int r2 = V.int 0) = cm
    refine ⟨_, _, rfl, ?_⟩
    -- changes.note
    obtain ⟨da6, dd6, ea6, ed6, hC6, _⟩ := id I6.chs
    obtain ⟨dx6, hi6⟩ := hC6.ins
    obtain ⟨ro, hq6a, hq6b⟩ := id hq6
    refine ⟨_, rfl, x, dx6, _, rfl, hi6, lkCn _ _ (by decide +kernel) (by decide +kernel), _, rfl, q, _, 0, _, rfl, rfl, SqT.of hq6a, atI_nat (j := 0) rfl, _, rfl, q, _, 1, _, rfl, rfl, SqT.of hq6a, atI_nat (j := 1) rfl, _, rfl, x, ro, Fc, _, _, fc.1, fc.2, cm, rfl, I6.chs, okf.1, okf.2, hq6b, fun H7 F7 k7 c7 g7 => ?_⟩
    have muF : ∀ b ∈ Fc, Mu H6 b := fun b hb => .dct (I6.chs.dct b hb)
    have hnet7 := k7.keep net _ I6.nt .net (Dct.ne I6.chs.dct I6.nt .net)
    have keys7 := I6.keys.kp k7 muF
    have hq7 := hq6.kp k7 muF
    obtain ⟨a7, b7, c7', hd6⟩ := I6.dice
    have hd7 := k7.lst hd6 (Dct.ne I6.chs.dct hd6 .lst)
    have kH7 : Kp T [d] H H7 := I6.kp.trans k7 fun b hb => .inr (I6.fc b hb)
    have f7 : ∀ b ∈ F7, Nw H b := fun b hb => by
      rcases g7 b hb with h | h
      · exact I6.fc b h
      · exact I6.kp.nw h
    refine ⟨_, rfl, net, es, rfl, .inl hnet7, _, rfl, _, rfl, q, fc, es, cm, rfl, rfl, hq7, .inl hnet7, keys7, _, rfl, rfl, _, rfl, ?_⟩
    have mun : ∀ b ∈ [net], Mu H7 b := Mu.net hnet7
    have nnd : net ≠ d := ne_of hnet7 hd7 (fun z => by unfold NetO at z; cases z)
    have nF7 : ∀ b ∈ F7, b ∉ [net] := fun b hb z => by
      have := Dct.ne c7.dct hnet7 .net
      rw [← List.mem_singleton.mp z] at this
      exact this hb
    have fin : ∀ es', ChS H7 CC x F7 (cA es') (cD es') → (∀ e ∈ es', fcOk e.1) → (es'.map (·.1)).Nodup → NetKeys H7 es' → AfterA P w T CC H (upd H7 net (NetO P w net es')) d x net F7 es' := by
      intro es' hch hok hnd hk
      have kn : Kp T [net] H7 (upd H7 net (NetO P w net es')) := .net s.heap hnet7 (by simp)
      exact ⟨kH7.trans kn fun b hb => .inr (by rw [List.mem_singleton.mp hb]; exact I6.nw), ⟨_, _, _, kn.lst hd7 (by simpa using nnd.symm)⟩, hch.kp kn mun nF7, f7, upd_same, I6.nw, hk.kp kn mun, hok, hnd⟩
    refine ite2 (fun hb => ?_) (fun hb => ?_)
    · have hg : (valN es fc).getD cm = cm := by
        have := of_decide_eq_true hb
        injection this
      obtain ⟨e1, e2⟩ := step_same (n := fc.1) (k := fc.2) hg q
      rw [e1, e2] at c7
      refine ⟨_, rfl, _, rfl, _, rfl, net, q, fc, es, cm, rfl, rfl, rfl, hq7, hnet7, keys7, small1000 (by omega), ?_⟩
      exact ⟨_, _, _, F7, putN es fc q cm, rfl, fin _ c7 (putN_facts I6.ok okf) (putN_nd I6.nd) (keys7.put hq7), Nat.le_trans (putN_len es fc q cm) (by omega)⟩
    · have hg : ¬ (valN es fc).getD cm = cm := fun z => hb (decide_eq_true (by rw [z]))
      obtain ⟨e1, e2, b0, e3⟩ := step_diff (n := fc.1) (k := fc.2) hg
      rw [e1, e2] at c7
      refine ⟨_, rfl, net, es, rfl, .inl hnet7, _, rfl, q, fc, es, b0, rfl, hq7, hnet7, keys7, e3, ?_⟩
      exact ⟨_, _, _, F7, dropN es fc, rfl, fin _ c7 (dropN_facts I6.ok) (dropN_nd I6.nd) keys7.drop, Nat.le_trans (dropN_len es fc) (by omega)⟩
  · rintro σ H4 ⟨v3, v4, v5, Fc, es, rfl, I4, hlen⟩
    exact k v3 v4 v5 x net Fc es H4 I4 (by omega)
end
end DH
namespace DH
open PySem PySem.Spec L2
open PyProof.Rows hiding St
theorem tabs_putA {T : List (Addr × Str)} {H : Hp} {a : Addr} {o o' : HO} (h : H a = some o) (nt : NT o) (nc : ∀ q, o ≠ LamX.CodeO a q) (t : LamX.Tabs T H) : LamX.Tabs T (upd H a o') := by
  intro p hp
  obtain ⟨ps, h1, h2, h3⟩ := t p hp
  refine ⟨ps, ?_, h2, fun pos cv hc => ?_⟩
  · rw [upd_ne]
    · exact h1
    · intro z
      rw [z, h] at h1
      exact nt ps (Option.some.inj h1)
  · obtain ⟨c, e1, e2⟩ := h3 pos cv hc
    refine ⟨c, e1, ?_⟩
    rw [upd_ne]
    · exact e2
    · intro z
      rw [z, h] at e2
      exact nc _ (Option.some.inj e2)
theorem unlock_kpA {T : List (Addr × Str)} {H H2 : Hp} {d D : Addr} {od : Obj} {u : HO} {x : HO} (hd : H d = some u) (nt : NT u) (nc : ∀ q, u ≠ LamX.CodeO d q) (hD : (upd H d (.frz od u)) D = none) (k : Kp T [D] (upd (upd H d (.frz od u)) D x) H2) : H2 d = some (.frz od u) ∧ Kp T [] H (upd H2 d u) := by
  have ndD : d ≠ D := ne_of_none upd_same hD
  have hd2 : H2 d = some (.frz od u) := k.keep d _ (by rw [upd_ne ndD]; exact upd_same) .frz (by simpa using ndD)
  have ne : ∀ b o, H b = some o → b ≠ d → upd (upd H d (.frz od u)) D x b = some o ∧ b ≠ D := fun b o e hb => by
    have e1 : upd H d (.frz od u) b = some o := by rw [upd_ne hb]; exact e
    have hbD := ne_of_none e1 hD
    exact ⟨by rw [upd_ne hbD]; exact e1, hbD⟩
  refine ⟨hd2, ⟨fun b o e n _ => ?_, fun b o e n => ?_, fun t => ?_⟩⟩
  · by_cases hb : b = d
    · rw [hb, hd] at e
      cases e
      rw [hb, upd_same]
    · rw [upd_ne hb]
      obtain ⟨e1, hbD⟩ := ne b o e hb
      exact k.keep b o e1 n (by simpa using hbD)
  · by_cases hb : b = d
    · exact ⟨u, by rw [hb, upd_same], nt⟩
    · obtain ⟨e1, hbD⟩ := ne b o e hb
      exact ⟨o, by rw [upd_ne hb]; exact k.keep b o e1 n (by simpa using hbD), n⟩
  · refine tabs_put hd2 .frz (k.tabs ?_)
    exact (tabs_putA hd nt nc t).ext fun b o e => by rw [upd_ne (ne_of_none e hD)]; exact e
theorem net_nc {P : Program} {w : World} {a : Addr} {es : List NetE} (h0 : Heap) : ∀ q, NetO P w a es ≠ LamX.CodeO a q := fun q => (net_ne_code h0).resolve_right fun z => z rfl
theorem walk_net {P : Program} {w : World} {d : Addr} {o : Obj} {es : List NetE} : Walk (Itn P w d o es) es.length (fun H => H d = some (.frz o (NetO P w d es))) (fun i H x H' => H' = H ∧ ∃ e, es[i]? = some e ∧ x = .ref e.2.1) :=
  ⟨fun _ _ hi q => ⟨q, hi⟩, fun _ q => ⟨q, Nat.le_refl _⟩, fun _ _ _ _ _ _ y => y⟩
/-- the rows of a name with a value -/
def rowsN (es : List NetE) (n : Str) (want : Bool) : List Int := (es.filter fun e => decide (e.1.1 = n) && (e.2.2 == want)).map fun e => e.1.2
theorem rowsN_mem {es : List NetE} (nd : (es.map (·.1)).Nodup) (n : Str) (want : Bool) (k : Int) : k ∈ rowsN es n want ↔ valN es (n, k) = some want := by
  unfold rowsN
  rw [valN_mem nd, List.mem_map]
  constructor
  · rintro ⟨e, he, rfl⟩
    rw [List.mem_filter] at he
    obtain ⟨h1, h2⟩ := he
    rw [Bool.and_eq_true, decide_eq_true_eq, beq_iff_eq] at h2
    exact ⟨e.2.1, by rw [← h2.1, ← h2.2]; exact h1⟩
  · rintro ⟨q, hq⟩
    exact ⟨_, List.mem_filter.mpr ⟨hq, by simp⟩, rfl⟩
theorem rowsN_nd {es : List NetE} (nd : (es.map (·.1)).Nodup) (n : Str) (want : Bool) : (rowsN es n want).Nodup := by
  unfold rowsN
  induction es with
  | nil => exact List.nodup_nil
  | cons e es ih =>
    rw [List.map_cons, List.nodup_cons] at nd
    rw [List.filter_cons]
    split
    · rename_i h
      rw [Bool.and_eq_true, decide_eq_true_eq] at h
      rw [List.map_cons, List.nodup_cons]
      refine ⟨fun z => ?_, ih nd.2⟩
      obtain ⟨e', he', q⟩ := List.mem_map.mp z
      rw [List.mem_filter, Bool.and_eq_true, decide_eq_true_eq] at he'
      refine nd.1 (List.mem_map.mpr ⟨e', he'.1, Prod.ext (by rw [he'.2.1, h.1]) q⟩)
    · exact ih nd.2
abbrev ggR (K : PySem.W.Frag) : TG := gTup K 2 (gCons (gName 8) (gCons (gName 19) gNil))
abbrev rowB (K : PySem.W.Frag) (P : Program) (w : World) : TT := fun σ H Q => tNGet P w (tVar 2) (tTup (tCons (tVar 8) (tCons (tVar 19) tNil))) σ H fun x H' => ∃ k, TruV K x H' k ∧ Q k H'
abbrev rowTT (K : PySem.W.Frag) (P : Program) (w : World) : Bool → TT
  | true => tAnd (tTest (tOp rEq (tVar 8) (tVar 7))) (rowB K P w)
  | false => tAnd (tTest (tOp rEq (tVar 8) (tVar 7))) (tNot (rowB K P w))
theorem rows_read {K : PySem.W.Frag} {P : Program} {w : World} {T : List (Addr × Str)} {want : Bool} {H : Hp} {net : Addr} {es : List NetE} {n : Str} {Q : VK} (h0 : Heap) {v0 v1 v3 v4 v5 v6 v8 v9 v10 v11 v12 v13 v14 v15 v16 v17 v18 v19 v20 : Option V}
    (hnet : H net = some (NetO P w net es)) (keys : NetKeys H es) (nd : (es.map (·.1)).Nodup) (hlen : es.length ≤ 11)
    (k : ∀ (p : Addr) (os : List (Addr × Int)) (H' : Hp), Kp T [] H H' → Nw H p → H' p = some (.lst (rfs os)) → RowsAt H' os → os.map (·.2) = rowsN es n want → Q (.ref p) H') :
    tLockE (tLc (iNet P w (tVar 2)) (ggR K) (rowTT K P w want) (tVar 19) [8, 19]) [v0, v1, some (.ref net), v3, v4, v5, v6, some (.str n), v8, v9, v10, v11, v12, v13, v14, v15, v16, v17, v18, v19, v20] H Q := by
  refine ⟨net, _, hnet, trivial, fun od => ?_⟩
  refine ⟨_, rfl, net, od, es, rfl, upd_same, fun D hD => ?_⟩
  have nND : net ≠ D := ne_of_none upd_same hD
  have kf : ∀ b o, H b = some o → (∀ q u, o ≠ .frz q u) → b ≠ net → upd H net (.frz od (NetO P w net es)) b = some o := fun b o e _ hb => by rw [upd_ne hb]; exact e
  have row0 : ∀ (b : Addr) xs, H b = some (.tup xs) → upd (upd H net (.frz od (NetO P w net es))) D (.lst []) b = some (.tup xs) := fun b xs e => by
    have nb : b ≠ net := ne_of e hnet (fun z => by unfold NetO at z; cases z)
    have e1 : upd H net (.frz od (NetO P w net es)) b = some (.tup xs) := by rw [upd_ne nb]; exact e
    rw [upd_ne (ne_of_none e1 hD)]
    exact e1
  have tk : ∀ (i : Nat) (e : NetE), es[i]? = some e → rowsN (es.take (i + 1)) n want = rowsN (es.take i) n want ++ (if (decide (e.1.1 = n) && (e.2.2 == want)) = true then [e.1.2] else []) := by
    intro i e he
    unfold rowsN
    rw [List.take_add_one, he, List.filter_append, List.map_append]
    congr 1
    show List.map _ (List.filter _ [e]) = _
    rw [List.filter_cons]
    split <;> rfl
  refine lc_it walk_net (fun i H2 => Kp T [D] (upd (upd H net (.frz od (NetO P w net es))) D (.lst [])) H2 ∧ ∃ os, H2 D = some (.lst (rfs os)) ∧ RowsAt H2 os ∧ os.map (·.2) = rowsN (es.take i) n want) ⟨.refl _ _ _, [], upd_same, (fun _ z => by cases z), rfl⟩ ?_ ?_ ?_
  · rintro i H2 _ ⟨k2, _⟩
    exact k2.keep net _ (by rw [upd_ne nND]; exact upd_same) .frz (by simpa using nND)
  · rintro i x H2 H' hi ⟨k2, os, hos, hrs, hmp⟩ ⟨rfl, e, he, rfl⟩
    have hem := List.mem_of_getElem? he
    obtain ⟨r, hq0, hr0⟩ := keys e hem
    have muD : ∀ b ∈ [D], Mu (upd (upd H net (.frz od (NetO P w net es))) D (.lst [])) b := mu1
    have hq2 := k2.tup (row0 _ _ hq0) (Mu.nt muD (row0 _ _ hq0))
    have hr2 := k2.tup (row0 _ _ hr0) (Mu.nt muD (row0 _ _ hr0))
    have olen : os.length ≤ 11 := by
      have h1 := congrArg List.length hmp
      unfold rowsN at h1
      rw [List.length_map, List.length_map] at h1
      have := List.length_filter_le (fun e : NetE => decide (e.1.1 = n) && (e.2.2 == want)) (es.take i)
      rw [List.length_take] at this
      omega
    have hN2 : H' net = some (.frz od (NetO P w net es)) := k2.keep net _ (by rw [upd_ne nND]; exact upd_same) .frz (by simpa using nND)
    have keys2 : NetKeys H' es := fun e' he' => by
      obtain ⟨r', h1, h2⟩ := keys e' he'
      exact ⟨r', k2.tup (row0 _ _ h1) (Mu.nt muD (row0 _ _ h1)), k2.tup (row0 _ _ h2) (Mu.nt muD (row0 _ _ h2))⟩
    have tst : ∀ (Q' : Bool → Hp → Prop), ((¬ e.1.1 = n) → Q' false H') → (e.1.1 = n → ∀ H3, Kp T [] H' H3 → Q' (e.2.2 == want) H3) → rowTT K P w want [v0, v1, some (.ref net), v3, v4, v5, v6, some (.str n), some (.str e.1.1), v9, v10, v11, v12, v13, v14, v15, v16, v17, v18, some (.ref r), v20] H' Q' := by
      intro Q' h1 h2
      have B : ∀ Q'' : Bool → Hp → Prop, (∀ H3, Kp T [] H' H3 → Q'' e.2.2 H3) → rowB K P w [v0, v1, some (.ref net), v3, v4, v5, v6, some (.str n), some (.str e.1.1), v9, v10, v11, v12, v13, v14, v15, v16, v17, v18, some (.ref r), v20] H' Q'' := by
        intro Q'' h
        refine ⟨_, rfl, _, rfl, _, rfl, by show 2 ≤ sizeLine; decide, fun t ht => ?_⟩
        have kt : Kp T [] H' (upd H' t (.tup [V.str e.1.1, V.ref r])) := .new ht
        refine ⟨net, t, e.1, es, e.2.2, rfl, rfl, ⟨r, upd_same, kt.tup hr2 List.not_mem_nil⟩, .inr ⟨od, kt.keep net _ hN2 .frz List.not_mem_nil⟩, keys2.kp kt (fun _ z => nomatch z), (valN_mem nd e.1 e.2.2).mpr ⟨e.2.1, hem⟩, _, rfl, h _ kt⟩
      cases want with
      | true =>
        refine ⟨_, rfl, _, rfl, rfl, _, rfl, ite2 (fun z => ?_) (fun z => ?_)⟩
        · have hn : e.1.1 = n := by
            have := of_decide_eq_true z
            injection this
          exact B _ fun H3 k3 => by
            have := h2 hn H3 k3
            cases hb : e.2.2 <;> rw [hb] at this <;> exact this
        · exact h1 fun hn => z (decide_eq_true (by rw [hn]))
      | false =>
        refine ⟨_, rfl, _, rfl, rfl, _, rfl, ite2 (fun z => ?_) (fun z => ?_)⟩
        · have hn : e.1.1 = n := by
            have := of_decide_eq_true z
            injection this
          exact B _ fun H3 k3 => by
            have := h2 hn H3 k3
            cases hb : e.2.2 <;> rw [hb] at this <;> exact this
        · exact h1 fun hn => z (decide_eq_true (by rw [hn]))
    refine ⟨e.2.1, _, rfl, SqT.of hq2, rfl, _, _, rfl, _, _, rfl, rfl, rfl, ?_⟩
    refine tst _ (fun hn => iteF ⟨k2, os, hos, hrs, ?_⟩) (fun hn H3 k3 => ?_)
    · rw [tk i e he, decide_eq_false hn, hmp]
      simp
    · have k23 : Kp T [D] (upd (upd H net (.frz od (NetO P w net es))) D (.lst [])) H3 := k2.trans0 k3
      have hos3 := k3.lst hos List.not_mem_nil
      refine ite2 (fun hb => ?_) (fun hb => ?_)
      · refine ⟨_, rfl, rfs os, hos3, by rw [List.length_map]; exact small1000 (by omega), ?_⟩
        have k4 : Kp T [D] H3 (upd H3 D (.lst (rfs os ++ [V.ref r]))) := upd_kpD hos3
        have nrD : ∀ o : Addr × Int, RowAt H3 o.1 o.2 → o.1 ∉ [D] := fun o ho => by
          have : o.1 ≠ D := ne_of ho hos3 (fun z => by cases z)
          simpa using this
        have hr3 : RowAt H3 r e.1.2 := k3.tup hr2 List.not_mem_nil
        have hrs3 : RowsAt H3 os := hrs.kp k3 fun _ _ => List.not_mem_nil
        refine ⟨k23.transS k4, os ++ [(r, e.1.2)], by rw [upd_same]; simp, fun o ho => ?_, ?_⟩
        · rcases List.mem_append.mp ho with h | h
          · exact k4.row (hrs3 o h) (nrD o (hrs3 o h))
          · rw [List.mem_singleton.mp h]
            exact k4.row hr3 (nrD (r, e.1.2) hr3)
        · rw [List.map_append, hmp, tk i e he, decide_eq_true hn, hb]
          rfl
      · refine ⟨k23, os, hos3, hrs.kp k3 (fun _ _ => List.not_mem_nil), ?_⟩
        rw [hmp, tk i e he]
        have : (e.2.2 == want) = false := by
          cases h : (e.2.2 == want) with
          | true => exact absurd h hb
          | false => rfl
        rw [this]
        simp
  · rintro H2 ⟨k2, os, hos, hrs, hmp⟩
    rw [List.take_of_length_le (Nat.le_refl _)] at hmp
    obtain ⟨hz, kz⟩ := unlock_kpA hnet .net (net_nc h0) hD k2
    refine ⟨hz, k D os _ kz (fun o e _ => ?_) ?_ (fun o ho => ?_) hmp⟩
    · have := ne_of_none (kf D o e (fun q u z => ?_) nND.symm) hD
      · exact this rfl
      · have nb : D ≠ net := nND.symm
        have e1 : upd H net (.frz od (NetO P w net es)) D = some o := by rw [upd_ne nb]; exact e
        rw [e1] at hD
        cases hD
    · rw [upd_ne nND.symm]
      exact hos
    · have := hrs o ho
      show upd H2 net (NetO P w net es) o.1 = _
      rw [upd_ne (ne_of this hz (fun z => by cases z))]
      exact this
end DH
namespace DH
open PySem PySem.Spec L2
open PyProof.Rows hiding St
theorem perm_pull {α β : Type} {f : α → β} : ∀ {l : List α} {ys : List β}, ys.Perm (l.map f) → ∃ l' : List α, l'.Perm l ∧ ys = l'.map f
  | [], ys, h => ⟨[], .refl _, by simpa using h⟩
  | a :: l, ys, h => by
    have hm : f a ∈ ys := h.mem_iff.mpr (by simp)
    obtain ⟨s, t, rfl⟩ := List.append_of_mem hm
    have h1 : (s ++ t).Perm (l.map f) := by
      have h2 : (f a :: (s ++ t)).Perm (f a :: l.map f) := (List.perm_middle.symm).trans (by simpa using h)
      exact h2.cons_inv
    obtain ⟨l', p, e⟩ := perm_pull h1
    obtain ⟨l1, l2, e0, e1, e2⟩ := List.map_eq_append_iff.mp e.symm
    refine ⟨l1 ++ a :: l2, ?_, by rw [List.map_append, List.map_cons, e1, e2]⟩
    refine List.perm_middle.trans (.cons a ?_)
    rw [← e0]
    exact p
theorem code1 (k : Int) : TS.code 3 [k] = k := by
  simp [TS.code]
theorem sorted_rows {K : PySem.W.Frag} {H : Hp} {p : Addr} {os : List (Addr × Int)} {Q : VK} {A : Cont} {n : Str} (hp : H p = some (.lst (rfs os))) (ho : RowsAt H os) (nd : (os.map (·.2)).Nodup) (dm : Dom A) (me : ∀ k, k ∈ os.map (·.2) ↔ A n k = true)
    (k : ∀ (q : Addr) (os' : List (Addr × Int)), H q = none → os'.map (·.2) = rowsS A n → RowsAt H os' → Q (.ref q) (upd H q (.lst (rfs os')))) : rSortU K 1 3 [.ref p] H Q := by
  have hl : os.length ≤ 3 := by
    have := len_rows nd dm me
    simpa using this
  refine ⟨p, rfs os, rfl, SqL.of hp, by rw [List.length_map]; omega, fun x hx => ?_, fun ys q hys hpw hq => ?_⟩
  · obtain ⟨o, hoo, rfl⟩ := List.mem_map.mp hx
    have hr := (dm n o.2 ((me o.2).mp (List.mem_map.mpr ⟨o, hoo, rfl⟩))).2
    refine ⟨[o.2], ⟨o.1, rfl, SqT.of (ho o hoo)⟩, rfl, fun m hm => ?_⟩
    rw [List.mem_singleton.mp hm]
    unfold rwOk at hr
    omega
  · obtain ⟨os', hperm, rfl⟩ := perm_pull hys
    have ho' : RowsAt H os' := fun o h => ho o (hperm.mem_iff.mp h)
    have hsrt : (os'.map (·.2)).Pairwise (· ≤ ·) := by
      rw [List.pairwise_map] at hpw ⊢
      refine hpw.imp_of_mem fun {a b} ha hb h => ?_
      have := h [a.2] [b.2] ⟨a.1, rfl, SqT.of (ho' a ha)⟩ ⟨b.1, rfl, SqT.of (ho' b hb)⟩
      rw [code1, code1] at this
      exact this
    refine k q os' hq ?_ ho'
    rw [← srt_eq nd dm me]
    exact List.Perm.eq_of_pairwise (le := (· ≤ ·)) (fun a b _ _ h1 h2 => Int.le_antisymm h1 h2) hsrt (srt_pw _) ((hperm.map _).trans (srt_perm _).symm)
theorem rowsL_shape : ∀ ks : List Int, PyData.canLayAll0 (ks.map rowD1) = true ∧ PyData.depthAll (ks.map rowD1) ≤ 1
  | [] => ⟨rfl, by simp [PyData.depthAll]⟩
  | k :: ks => by
    obtain ⟨h1, h2⟩ := rowsL_shape ks
    constructor
    · simp [PyData.canLayAll0, rowD1, PyData.canLay0, h1]
    · simp only [List.map_cons, PyData.depthAll]
      have : (rowD1 k).depth = 1 := by simp [rowD1, PyData.depth, PyData.depthAll]
      rw [this]
      exact Nat.max_le.mpr ⟨Nat.le_refl _, h2⟩
theorem shaped_rowsL (ks : List Int) : SeqAt.shaped (.list (ks.map rowD1)) = true := by
  obtain ⟨h1, h2⟩ := rowsL_shape ks
  unfold SeqAt.shaped
  rw [Bool.and_eq_true]
  refine ⟨by simpa [PyData.canLay0] using h1, decide_eq_true ?_⟩
  have : (PyData.list (ks.map rowD1)).depth = PyData.depthAll (ks.map rowD1) + 1 := by simp [PyData.depth]
  omega
theorem eqv_nilL (l : List PyData) : PyData.eqv (.list l) (.list []) = decide (l = []) := by
  cases l with
  | nil => simp [PyData.eqv, PyData.eqvAll]
  | cons a r => simp [PyData.eqv, PyData.eqvAll]
/-- an entry of the due list -/
def DueE (K : PySem.W.Frag) (H : Hp) (A D : Cont) (q : Addr) (n : Str) : Prop := ∃ t1 t2, H q = some (.tup [.str n, .ref t1, .ref t2]) ∧ Dp K H (.ref t1) (rowsD (rowsS A n)) ∧ Dp K H (.ref t2) (rowsD (rowsS D n))
theorem DueE.kp {K : PySem.W.Frag} {T : List (Addr × Str)} {F : List Addr} {H H1 : Hp} {A D : Cont} {q : Addr} {n : Str} (h : DueE K H A D q n) (k : Kp T F H H1) (hF : ∀ b ∈ F, Mu H b) : DueE K H1 A D q n := by
  obtain ⟨t1, t2, h1, h2, h3⟩ := h
  exact ⟨t1, t2, k.tup h1 (Mu.nt hF h1), Dp.kp k hF _ _ (noLs_rows _) h2, Dp.kp k hF _ _ (noLs_rows _) h3⟩
structure DueAt (K : PySem.W.Frag) (H : Hp) (A D : Cont) (l : Addr) (dl : List (Addr × Str)) : Prop where
  at_ : H l = some (.lst (dl.map fun x => V.ref x.1))
  es : ∀ x ∈ dl, DueE K H A D x.1 x.2
theorem pqC : ∀ {i c : Nat}, (("pq" : Str).cps)[i]? = some c → i < 2 ∧ (⟨#[c]⟩ : Str) = ([pS, qS].getD i pS) := by
  intro i c h
  have e : ("pq" : Str).cps = #[112, 113] := by decide +kernel
  rw [e] at h
  match i, h with
  | 0, h =>
    have : c = 112 := by simpa using h.symm
    subst this
    exact ⟨by omega, by decide +kernel⟩
  | 1, h =>
    have : c = 113 := by simpa using h.symm
    subst this
    exact ⟨by omega, by decide +kernel⟩
  | i + 2, h => simp at h
theorem pqS : (("pq" : Str).cps).size = 2 := by decide +kernel
theorem pqOk (i : Nat) : nmOk ([pS, qS].getD i pS) := by
  match i with
  | 0 => exact .inl rfl
  | 1 => exact .inr rfl
  | i + 2 => exact .inl rfl
section
variable {P : Program} {w : World} {K : PySem.W.Frag} {mg : Str → Option Value} {base : Heap} {T : List (Addr × Str)} {CS CR CC CN : Addr} {f : Addr} {cd : Value} {A : Around} {outer : List Env} {s : Shared} {H0 : Hp} {E : XK}
theorem partB (G : LawG P w K mg base T CS CR CC CN) (hr : Room 20 (LX P w K mg base f cd A outer s H0 E).A) {rest : List Stmt} {u : TS} (hrest : PSs (LX P w K mg base f cd A outer s H0 E) rest u) :
    ∃ t, PSs (LX P w K mg base f cd A outer s H0 E) (lb 2 :: lb 3 :: rest) t ∧ ∀ (D : Ends) (H : Hp) (net : Addr) (es : List NetE) (v0 v1 v3 v4 v5 v17 : Option V), H net = some (NetO P w net es) → NetKeys H es → (es.map (·.1)).Nodup → (∀ e ∈ es, fcOk e.1) → es.length ≤ 11 →
      (∀ v5 v7 v9 l dl H', Kp T [] H H' → DueAt K H' (cA es) (cD es) l dl → dl.map (·.2) = namesC (cA es) (cD es) → u D [v0, v1, some (.ref net), v3, v4, v5, some (.ref l), v7, none, v9, none, none, none, none, none, none, none, v17, none, none, none] H') →
      t D [v0, v1, some (.ref net), v3, v4, v5, none, none, none, none, none, none, none, none, none, none, none, v17, none, none, none] H := by
  have hu : (LX P w K mg base f cd A outer s H0 E).A.units + 10 < cLine := by have := hr.un; omega
  have cmp : ∀ (want : Bool) (i : Nat), True := fun _ _ => trivial
  refine ⟨_, pss_cons (ps_set (i := 6) sc_law21.nd rfl (Or.inl rfl) (pe_lst pa_nil))
    (pss_cons (ps_for PassesOwn.never rfl (pi_str pe_str) (pg_name (i := 7) sc_law21.nd rfl (Or.inr rfl))
      (pss_cons (ps_set (i := 5) sc_law21.nd rfl (Or.inl rfl) (pe_callB (cr_sortT (d := 1) (B := 3) (by decide)) rfl G.L.so (show bootBuiltins "sorted" = some (.builtin "sorted") by decide +kernel) (pa_cons
          (pe_lock (pe_lc (own := [("_law_one", 8), ("_law_row", 19)]) (g := ggR K) (tt := rowTT K P w true) (te := tVar 19) rfl sc_law21.nd (pi_net (pv 2)) (blkOk_by (N := N21) (sc := defScope sLaw) (by decide +kernel))
            (fun _ _ _ _ _ => pg_tup rfl (pgs_cons (pg_name (i := 8) sc_law21.nd rfl (Or.inl rfl)) (pgs_cons (pg_name (i := 19) sc_law21.nd rfl (Or.inl rfl)) pgs_nil)))
            (fun _ _ _ _ _ => pts_one (PW.pt (pw_and (pt_cmpR op_eq (pv 8) (pv 7) (nomark _)) (pw_and1 (pt_truth (pe_nget (by exact hu) (pv 2) (pe_tup (pa_cons (pv 8) (pa_cons (pv 19) pa_nil))) (fun _ _ => rfl)) (fun _ => rfl)))))) (fun _ _ _ _ _ => pv 19))) pa_nil)))
      (pss_cons (ps_set (i := 9) sc_law21.nd rfl (Or.inl rfl) (pe_callB (cr_sortT (d := 1) (B := 3) (by decide)) rfl G.L.so (show bootBuiltins "sorted" = some (.builtin "sorted") by decide +kernel) (pa_cons
          (pe_lock (pe_lc (own := [("_law_one", 8), ("_law_row", 19)]) (g := ggR K) (tt := rowTT K P w false) (te := tVar 19) rfl sc_law21.nd (pi_net (pv 2)) (blkOk_by (N := N21) (sc := defScope sLaw) (by decide +kernel))
            (fun _ _ _ _ _ => pg_tup rfl (pgs_cons (pg_name (i := 8) sc_law21.nd rfl (Or.inl rfl)) (pgs_cons (pg_name (i := 19) sc_law21.nd rfl (Or.inl rfl)) pgs_nil)))
            (fun _ _ _ _ _ => pts_one (PW.pt (pw_and (pt_cmpR op_eq (pv 8) (pv 7) (nomark _)) (pw_and1 (pt_not (pt_truth (pe_nget (by exact hu) (pv 2) (pe_tup (pa_cons (pv 8) (pa_cons (pv 19) pa_nil))) (fun _ _ => rfl)) (fun _ => rfl))))))) (fun _ _ _ _ _ => pv 19))) pa_nil)))
      (pss_one (ps_set (i := 6) sc_law21.nd rfl (Or.inl rfl) (pe_op op_cat (pv 6) (pe_ifExp (pt_cmpR (op_neD hr.units) (pe_op op_cat (pv 5) (pv 9)) (pe_lst pa_nil) (nomark _))
          (pe_lst (pa_cons (pe_tup (pa_cons (pv 7) (pa_cons (pe_callTy call_tuple_of rfl G.L.tu (show bootBuiltins "tuple" = some (.type "tuple") by decide +kernel) (pa_cons (pv 5) pa_nil)) (pa_cons (pe_callTy call_tuple_of rfl G.L.tu (show bootBuiltins "tuple" = some (.type "tuple") by decide +kernel) (pa_cons (pv 9) pa_nil)) pa_nil)))) pa_nil)) (pe_lst pa_nil))))))))
    hrest), ?_⟩
  intro D H net es v0 v1 v3 v4 v5 v17 hnet keys nd ok hlen k
  refine ⟨by show 0 ≤ sizeLine; decide, fun l hl => ⟨_, rfl, ?_⟩⟩
  have dmA : Dom (cA es) := Dom.cA nd ok
  have dmD : Dom (cD es) := Dom.cD nd ok
  have k0 : Kp T [] H (upd H l (.lst [])) := .new hl
  have memA : ∀ n k, k ∈ rowsN es n true ↔ cA es n k = true := fun n k => by rw [rowsN_mem nd]; unfold cA; rw [decide_eq_true_iff]
  have memD : ∀ n k, k ∈ rowsN es n false ↔ cD es n k = true := fun n k => by rw [rowsN_mem nd]; unfold cD; rw [decide_eq_true_iff]
  refine for_it walk_str (fun i σ H3 => ∃ v5 v7 v9 l dl, σ = [v0, v1, some (.ref net), v3, v4, v5, some (.ref l), v7, none, v9, none, none, none, none, none, none, none, v17, none, none, none] ∧ Kp T [] H H3 ∧ DueAt K H3 (cA es) (cD es) l dl ∧ dl.map (·.2) = ([pS, qS].take i).filter fun n => decide (rowsS (cA es) n ≠ [] ∨ rowsS (cD es) n ≠ [])) ⟨_, _, _, l, [], rfl, k0, ⟨upd_same, (fun _ z => by cases z)⟩, rfl⟩ (fun _ _ _ _ _ => trivial) ?_ ?_
  · rintro i x σ H3 H' hi ⟨v5, v7, v9, l, dl, rfl, k3, dl3, dm3⟩ ⟨rfl, c, hc, rfl⟩
    obtain ⟨hi2, ec⟩ := pqC hc
    rw [ec]
    have tk : ([pS, qS].take (i + 1)) = [pS, qS].take i ++ [[pS, qS].getD i pS] := by
      match i, hi2 with
      | 0, _ => rfl
      | 1, _ => rfl
    have dlen : dl.length ≤ 2 := by
      have h1 := congrArg List.length dm3
      rw [List.length_map] at h1
      have h2 := List.length_filter_le (fun n => decide (rowsS (cA es) n ≠ [] ∨ rowsS (cD es) n ≠ [])) ([pS, qS].take i)
      rw [List.length_take] at h2
      simp only [List.length_cons, List.length_nil] at h2
      omega
    generalize [pS, qS].getD i pS = n at tk ⊢
    dsimp only [gName, tSeq, tAsg]
    refine rows_read (T := T) s.heap (k3.keep net _ hnet .net List.not_mem_nil) (keys.kp k3 fun _ z => nomatch z) nd hlen fun p os H4 k4 np hp hos hmp => ?_
    refine sorted_rows hp hos (by rw [hmp]; exact rowsN_nd nd _ _) dmA (fun k => by rw [hmp]; exact memA _ k) fun q os1 hq e1 ho1 => ?_
    have k5 : Kp T [] H4 (upd H4 q (.lst (rfs os1))) := .new hq
    have kH5 := (k3.trans0 k4).trans0 k5
    have hq5 : upd H4 q (.lst (rfs os1)) q = some (.lst (rfs os1)) := upd_same
    have ho5 : RowsAt (upd H4 q (.lst (rfs os1))) os1 := ho1.kp k5 fun _ _ => List.not_mem_nil
    have kd5 := k4.trans0 k5
    generalize upd H4 q (.lst (rfs os1)) = H5 at kH5 hq5 ho5 kd5 ⊢
    refine rows_read (T := T) s.heap (kH5.keep net _ hnet .net List.not_mem_nil) (keys.kp kH5 fun _ z => nomatch z) nd hlen fun p2 os2 H6 k6 np2 hp2 hos2 hmp2 => ?_
    refine sorted_rows hp2 hos2 (by rw [hmp2]; exact rowsN_nd nd _ _) dmD (fun k => by rw [hmp2]; exact memD _ k) fun r os3 hr e3 ho3 => ?_
    have k7 : Kp T [] H6 (upd H6 r (.lst (rfs os3))) := .new hr
    have kd7 := kd5.trans0 (k6.trans0 k7)
    have kH7 := kH5.trans0 (k6.trans0 k7)
    have hr7 : upd H6 r (.lst (rfs os3)) r = some (.lst (rfs os3)) := upd_same
    have hq7 := (k6.trans0 k7).lst hq5 List.not_mem_nil
    have ho7 : RowsAt (upd H6 r (.lst (rfs os3))) os3 := ho3.kp k7 fun _ _ => List.not_mem_nil
    have hoq7 : RowsAt (upd H6 r (.lst (rfs os3))) os1 := ho5.kp (k6.trans0 k7) fun _ _ => List.not_mem_nil
    have hl7 := kd7.lst dl3.at_ List.not_mem_nil
    have de7 : ∀ x ∈ dl, DueE K (upd H6 r (.lst (rfs os3))) (cA es) (cD es) x.1 x.2 := fun x hx => (dl3.es x hx).kp kd7 fun _ z => nomatch z
    generalize upd H6 r (.lst (rfs os3)) = H7 at kd7 kH7 hr7 hq7 ho7 hoq7 hl7 de7 ⊢
    have l1 : os1.length ≤ 3 := by
      have := congrArg List.length e1
      rw [List.length_map] at this
      rw [this]
      exact rowsS_le _ _
    have l3 : os3.length ≤ 3 := by
      have := congrArg List.length e3
      rw [List.length_map] at this
      rw [this]
      exact rowsS_le _ _
    refine ⟨_, rfl, ?_⟩
    refine ⟨_, rfl, _, rfl, q, r, rfs os1, rfs os3, rfl, rfl, hq7, hr7, by rw [List.length_map, List.length_map]; exact Nat.le_of_lt (small1000 (by omega)), fun u hu => ⟨by show 0 ≤ sizeLine; decide, fun e he => ?_⟩⟩
    have k8 : Kp T [] H7 (upd H7 u (.lst (rfs os1 ++ rfs os3))) := .new hu
    have k9 : Kp T [] H7 (upd (upd H7 u (.lst (rfs os1 ++ rfs os3))) e (.lst [])) := k8.trans0 (.new he)
    have hu9 : upd (upd H7 u (.lst (rfs os1 ++ rfs os3))) e (.lst []) u = some (.lst (rfs (os1 ++ os3))) := by
      rw [upd_ne (ne_of_none upd_same he), upd_same]
      simp
    have he9 : upd (upd H7 u (.lst (rfs os1 ++ rfs os3))) e (.lst []) e = some (.lst []) := upd_same
    generalize upd (upd H7 u (.lst (rfs os1 ++ rfs os3))) e (.lst []) = H9 at k9 hu9 he9 ⊢
    have hoq9 : RowsAt H9 os1 := hoq7.kp k9 fun _ _ => List.not_mem_nil
    have ho9 : RowsAt H9 os3 := ho7.kp k9 fun _ _ => List.not_mem_nil
    refine ⟨.list (((os1 ++ os3).map (·.2)).map rowD1), .list [], .lst (SqL.of hu9) (DpAll.rows fun o ho => (List.mem_append.mp ho).elim (hoq9 o) (ho9 o)), .lst (SqL.of he9) .nil, shaped_rowsL _, shaped_nil, _, rfl, ?_⟩
    rw [eqv_nilL]
    have hne : (((os1 ++ os3).map (·.2)).map rowD1 = []) ↔ ¬ (rowsS (cA es) n ≠ [] ∨ rowsS (cD es) n ≠ []) := by
      rw [← e1, ← e3]
      simp [not_or]
    have kH9 := kH7.trans0 k9
    have kd9 := kd7.trans0 k9
    refine ite2 (fun hb => ?_) (fun hb => ?_)
    · have hin : rowsS (cA es) n ≠ [] ∨ rowsS (cD es) n ≠ [] := by
        refine Classical.byContradiction fun z => ?_
        rw [decide_eq_true (hne.mpr z)] at hb
        cases hb
      have hq9 := k9.lst hq7 List.not_mem_nil
      have hr9 := k9.lst hr7 List.not_mem_nil
      refine ⟨_, rfl, _, rfl, q, rfs os1, rfl, .inl ⟨SqL.of hq9, fun t1 ht1 => ⟨_, rfl, r, rfs os3, rfl, .inl ⟨SqL.of (by rw [upd_ne (ne_of_none hr9 ht1)]; exact hr9), fun t2 ht2 => ⟨by show 3 ≤ sizeLine; decide, fun t3 ht3 => ⟨by show 1 ≤ sizeLine; decide, fun l1' hl1 => ?_⟩⟩⟩⟩⟩⟩
      have ka : Kp T [] H9 (upd H9 t1 (.tup (rfs os1))) := .new ht1
      have kb : Kp T [] (upd H9 t1 (.tup (rfs os1))) (upd (upd H9 t1 (.tup (rfs os1))) t2 (.tup (rfs os3))) := .new ht2
      have kc : Kp T [] (upd (upd H9 t1 (.tup (rfs os1))) t2 (.tup (rfs os3))) (upd (upd (upd H9 t1 (.tup (rfs os1))) t2 (.tup (rfs os3))) t3 (.tup [.str n, .ref t1, .ref t2])) := .new ht3
      have e1t : upd H9 t1 (.tup (rfs os1)) t1 = some (.tup (rfs os1)) := upd_same
      have e2t : upd (upd H9 t1 (.tup (rfs os1))) t2 (.tup (rfs os3)) t2 = some (.tup (rfs os3)) := upd_same
      have e3t : upd (upd (upd H9 t1 (.tup (rfs os1))) t2 (.tup (rfs os3))) t3 (.tup [.str n, .ref t1, .ref t2]) t3 = some (.tup [.str n, .ref t1, .ref t2]) := upd_same
      generalize upd (upd (upd H9 t1 (.tup (rfs os1))) t2 (.tup (rfs os3))) t3 (.tup [.str n, .ref t1, .ref t2]) = HC at kc e3t hl1 ⊢
      generalize upd (upd H9 t1 (.tup (rfs os1))) t2 (.tup (rfs os3)) = HB at kb e2t kc
      have kd := (ka.trans0 kb).trans0 kc
      have kl : Kp T [] HC (upd HC l1' (.lst [.ref t3])) := .new hl1
      have hlC := kl.lst ((kd9.trans0 kd).lst dl3.at_ List.not_mem_nil) List.not_mem_nil
      have hl1C : upd HC l1' (.lst [.ref t3]) l1' = some (.lst [.ref t3]) := upd_same
      have eC : DueE K HC (cA es) (cD es) t3 n := by
        refine ⟨t1, t2, e3t, ?_, ?_⟩
        · rw [← e1]
          exact Dp.rows ((kb.trans0 kc).tup e1t List.not_mem_nil) (hoq9.kp kd fun _ _ => List.not_mem_nil)
        · rw [← e3]
          exact Dp.rows (kc.tup e2t List.not_mem_nil) (ho9.kp kd fun _ _ => List.not_mem_nil)
      refine ⟨l, l1', _, _, rfl, rfl, hlC, hl1C, by rw [List.length_map]; exact Nat.le_of_lt (small1000 (by show dl.length + 1 ≤ 1000; omega)), fun pf hpf => ?_⟩
      have kf : Kp T [] (upd HC l1' (.lst [.ref t3])) (upd (upd HC l1' (.lst [.ref t3])) pf (.lst (dl.map (fun x => V.ref x.1) ++ [.ref t3]))) := .new hpf
      have kall := (((kd9.trans0 kd).trans0 kl).trans0 kf)
      refine ⟨_, _, _, pf, dl ++ [(t3, n)], rfl, k3.trans0 kall, ⟨by rw [upd_same]; simp, fun x hx => ?_⟩, ?_⟩
      · rcases List.mem_append.mp hx with hx | hx
        · exact (dl3.es x hx).kp kall fun _ z => nomatch z
        · rw [List.mem_singleton.mp hx]
          exact eC.kp (kl.trans0 kf) fun _ z => nomatch z
      · rw [tk, List.map_append, dm3, List.filter_append]
        congr 1
        show [n] = List.filter _ [n]
        rw [List.filter_cons, if_pos (decide_eq_true hin)]
        rfl
    · have hin : ¬ (rowsS (cA es) n ≠ [] ∨ rowsS (cD es) n ≠ []) := fun z => by
        refine hb ?_
        rw [decide_eq_false fun q => hne.mp q z]
        rfl
      refine ⟨by show 0 ≤ sizeLine; decide, fun l1' hl1 => ?_⟩
      have kl : Kp T [] H9 (upd H9 l1' (.lst [])) := .new hl1
      have hlC := kl.lst (kd9.lst dl3.at_ List.not_mem_nil) List.not_mem_nil
      have hl1C : upd H9 l1' (.lst []) l1' = some (.lst []) := upd_same
      refine ⟨l, l1', _, _, rfl, rfl, hlC, hl1C, by rw [List.length_map]; exact Nat.le_of_lt (small1000 (by show dl.length + 0 ≤ 1000; omega)), fun pf hpf => ?_⟩
      have kf : Kp T [] (upd H9 l1' (.lst [])) (upd (upd H9 l1' (.lst [])) pf (.lst (dl.map (fun x => V.ref x.1) ++ []))) := .new hpf
      have kall := ((kd9.trans0 kl).trans0 kf)
      refine ⟨_, _, _, pf, dl, rfl, k3.trans0 kall, ⟨by rw [upd_same]; simp, fun x hx => (dl3.es x hx).kp kall fun _ z => nomatch z⟩, ?_⟩
      rw [tk, dm3, List.filter_append]
      show _ = _ ++ List.filter _ [n]
      rw [List.filter_cons, if_neg (by rw [decide_eq_false hin]; simp)]
      simp
  · rintro σ H3 ⟨v5, v7, v9, l, dl, rfl, k3, dl3, dm3⟩
    refine k v5 v7 v9 l dl H3 k3 dl3 ?_
    rw [dm3]
    rfl
end
end DH
namespace DH
open PySem PySem.Spec L2
open PyProof.Rows hiding St
theorem depthAll_map {α : Type} (f : α → PyData) (d : Nat) : ∀ l : List α, (∀ a ∈ l, (f a).depth ≤ d) → PyData.depthAll (l.map f) ≤ d
  | [], _ => by simp [PyData.depthAll]
  | a :: l, h => by
    have := depthAll_map f d l fun b hb => h b (List.mem_cons_of_mem _ hb)
    simp only [List.map_cons, PyData.depthAll]
    exact Nat.max_le.mpr ⟨h a (by simp), this⟩
theorem layAll_map {α : Type} (f : α → PyData) : ∀ l : List α, (∀ a ∈ l, (f a).canLay0 = true) → PyData.canLayAll0 (l.map f) = true
  | [], _ => rfl
  | a :: l, h => by
    have := layAll_map f l fun b hb => h b (List.mem_cons_of_mem _ hb)
    simp [PyData.canLayAll0, h a (by simp), this]
theorem lay_rows (ks : List Int) : (rowsD ks).canLay0 = true := by
  unfold rowsD
  simpa [PyData.canLay0] using (rowsL_shape ks).1
theorem depth_rows (ks : List Int) : (rowsD ks).depth ≤ 2 := by
  unfold rowsD
  have := (rowsL_shape ks).2
  simp only [PyData.depth]
  omega
theorem lay_ch1 {A D : Cont} {n : Str} (h : nmOk n) : (chD1 A D n).canLay0 = true := by
  simp [chD1, PyData.canLay0, PyData.canLayAll0, strOk_nm h, lay_rows]
theorem depth_ch1 {A D : Cont} {n : Str} : (chD1 A D n).depth ≤ 3 := by
  have h1 := depth_rows (rowsS A n)
  have h2 := depth_rows (rowsS D n)
  simp only [chD1, PyData.depth, PyData.depthAll]
  omega
theorem shaped_ch (A D : Cont) : SeqAt.shaped (chD A D) = true := by
  unfold SeqAt.shaped chD
  rw [Bool.and_eq_true]
  refine ⟨by simpa [PyData.canLay0] using layAll_map (chD1 A D) _ fun n hn => lay_ch1 (namesC_ok n hn), decide_eq_true ?_⟩
  have := depthAll_map (chD1 A D) 3 (namesC A D) fun n _ => depth_ch1
  simp only [PyData.depth]
  omega
theorem lay_sh1 {S : Cont} {n : Str} (h : nmOk n) : (shD1 S n).canLay0 = true := by
  simp [shD1, PyData.canLay0, PyData.canLayAll0, strOk_nm h, lay_rows]
theorem depth_sh1 {S : Cont} {n : Str} : (shD1 S n).depth ≤ 3 := by
  have h1 := depth_rows (rowsS S n)
  simp only [shD1, PyData.depth, PyData.depthAll]
  omega
theorem shaped_sh (S : Cont) : SeqAt.shaped (shD S) = true := by
  unfold SeqAt.shaped shD
  rw [Bool.and_eq_true]
  refine ⟨by simpa [PyData.canLay0] using layAll_map (shD1 S) _ fun n hn => lay_sh1 (namesS_mem hn).1, decide_eq_true ?_⟩
  have := depthAll_map (shD1 S) 3 (namesS S) fun n _ => depth_sh1
  simp only [PyData.depth]
  omega
theorem eqv_self {d : PyData} (h : SeqAt.shaped d = true) : PyData.eqv d d = true := SeqAt.eqv_refl d (SeqAt.canLay_of_shaped h)
theorem ne_self {K : PySem.W.Frag} {H : Hp} {x y : V} {d : PyData} {Q : VK} (hx : Dp K H x d) (hy : Dp K H y d) (sd : SeqAt.shaped d = true) (q : Q (.bl false) H) : rNeD K x y H Q := ⟨d, d, hx, hy, sd, sd, by rw [eqv_self sd]; exact q⟩
theorem namesC_comm (A D : Cont) : namesC D A = namesC A D := by
  unfold namesC
  congr 1
  funext n
  simp only [or_comm]
theorem DueE.dp {K : PySem.W.Frag} {H : Hp} {A D : Cont} {q : Addr} {n : Str} (h : DueE K H A D q n) : Dp K H (.ref q) (chD1 A D n) := by
  obtain ⟨t1, t2, h1, h2, h3⟩ := h
  exact .tup (.inl (.inl h1)) (.cons (.str n) (.cons h2 (.cons h3 .nil)))
theorem DueAt.kp0 {K : PySem.W.Frag} {T : List (Addr × Str)} {H H1 : Hp} {A D : Cont} {l : Addr} {dl : List (Addr × Str)} (h : DueAt K H A D l dl) (k : Kp T [] H H1) : DueAt K H1 A D l dl := ⟨k.lst h.at_ List.not_mem_nil, fun x hx => (h.es x hx).kp k fun _ z => nomatch z⟩
theorem due_dp {K : PySem.W.Frag} {H : Hp} {A D : Cont} : ∀ {dl : List (Addr × Str)}, (∀ x ∈ dl, DueE K H A D x.1 x.2) → DpAll K H (dl.map fun x => V.ref x.1) ((dl.map (·.2)).map (chD1 A D))
  | [], _ => .nil
  | x :: dl, h => .cons (h x (by simp)).dp (due_dp fun y hy => h y (List.mem_cons_of_mem _ hy))
/-- [e for .. in due] -/
theorem due_comp {K : PySem.W.Frag} {T : List (Addr × Str)} {A D : Cont} {l : Addr} {dl : List (Addr × Str)} {f : Str → PyData} {g : TG} {te tl : TE} {vs : List Nat} {σ : L2.St} {H : Hp} {Q : VK}
    (hl : ∀ R : V → Hp → Prop, R (.ref l) H → tl σ H R) (hd : DueAt K H A D l dl) (hlen : dl.length ≤ 1000) (hf : ∀ n, noLs (f n) = true)
    (turn : ∀ x ∈ dl, ∀ H2, DueE K H2 A D x.1 x.2 → ∀ R : V → Hp → Prop, (∀ y H3, Kp T [] H2 H3 → Dp K H3 y (f x.2) → R y H3) → g (V.ref x.1) (wipe σ vs) H2 fun σ2 H3 => wipe σ2 vs = wipe σ vs ∧ tYes σ2 H3 fun b H4 => if b = true then te σ2 H4 R else False)
    (gm : ∀ x σ H (k k' : L2.St → Hp → Prop), (∀ σ H, k σ H → k' σ H) → g x σ H k → g x σ H k')
    (k : ∀ p acc H', Kp T [] H H' → H' p = some (.lst acc) → acc.length = dl.length → DpAll K H' acc ((dl.map (·.2)).map f) → Q (.ref p) H') : tLc (iList K tl) g tYes te vs σ H Q := by
  refine hl _ ⟨l, rfl, ⟨_, SqL.of hd.at_⟩, fun D' hD => ?_⟩
  have nlD : l ≠ D' := ne_of_none hd.at_ hD
  have kD : Kp T [] H (upd H D' (.lst [])) := .new hD
  refine lc_list (K := K) (a := l) (xs := dl.map fun x => V.ref x.1) (fun i H2 => Kp T [D'] (upd H D' (.lst [])) H2 ∧ ∃ acc, H2 D' = some (.lst acc) ∧ acc.length = i ∧ DpAll K H2 acc (((dl.map (·.2)).take i).map f)) ⟨.refl _ _ _, [], upd_same, rfl, .nil⟩ ?_ ?_ ?_
  · rintro i H2 _ ⟨k2, _⟩
    exact SqL.of (k2.lst (by rw [upd_ne nlD]; exact hd.at_) (by simpa using nlD))
  · rintro i y H2 hy ⟨k2, acc, hacc, hlen2, hdp⟩
    rw [List.getElem?_map] at hy
    obtain ⟨n, hn, rfl⟩ := Option.map_eq_some_iff.mp hy
    have hlt : i < dl.length := (List.getElem?_eq_some_iff.mp hn).1
    have e2 : DueE K H2 A D n.1 n.2 := ((hd.es n (List.mem_of_getElem? hn)).kp kD fun _ z => nomatch z).kp k2 mu1
    refine gm _ _ _ _ _ (fun σ2 H3 hq => ?_) (turn n (List.mem_of_getElem? hn) H2 e2 (fun y H3 => ∃ acc', H3 D' = some (.lst acc') ∧ acc'.length < sizeLine ∧ (Kp T [D'] (upd H D' (.lst [])) (upd H3 D' (.lst (acc' ++ [y]))) ∧ ∃ acc2, upd H3 D' (.lst (acc' ++ [y])) D' = some (.lst acc2) ∧ acc2.length = i + 1 ∧ DpAll K (upd H3 D' (.lst (acc' ++ [y]))) acc2 (((dl.map (·.2)).take (i + 1)).map f))) fun y H3 k3 hy3 => ?_)
    · exact ⟨hq.1, hq.2⟩
    · have h3 : H3 D' = some (.lst acc) := k3.lst hacc List.not_mem_nil
      have k4 : Kp T [D'] H3 (upd H3 D' (.lst (acc ++ [y]))) := upd_kpD h3
      have mF : ∀ b ∈ [D'], Mu H3 b := fun b hb => by
        rw [List.mem_singleton.mp hb]
        exact .lst h3
      refine ⟨acc, h3, small1000 (by omega), (k2.transS (k3.mono fun _ z => by cases z)).transS k4, _, upd_same, by rw [List.length_append, hlen2]; rfl, ?_⟩
      have e : ((dl.map (·.2)).take (i + 1)).map f = ((dl.map (·.2)).take i).map f ++ [f n.2] := by
        rw [List.take_add_one, List.getElem?_map, hn, List.map_append]
        rfl
      rw [e]
      refine DpAll.snoc (Dp.kp k4 mF _ _ (hf _) hy3) (Dp.kpAll k4 mF _ _ (noLsAll_map f hf _) (Dp.kpAll k3 (fun _ z => nomatch z) _ _ (noLsAll_map f hf _) hdp))
  · rintro H2 ⟨k2, acc, hacc, hlen2, hdp⟩
    rw [List.length_map] at hlen2 hdp
    rw [List.take_of_length_le (by rw [List.length_map]; exact Nat.le_refl _)] at hdp
    exact k D' acc H2 (kD.trans k2 fun b hb => .inr (by rw [List.mem_singleton.mp hb]; exact .of hD)) hacc hlen2 hdp
theorem due_eq_nil {dl : List (Addr × Str)} {A D : Cont} (h : dl.map (·.2) = namesC A D) : (PyData.eqv (.list ((dl.map (·.2)).map (chD1 A D))) (.list []) = decide (namesC A D = [])) := by
  rw [eqv_nilL, h]
  simp
theorem shaped_dueL (A D : Cont) : SeqAt.shaped (.list ((namesC A D).map (chD1 A D))) = true := by
  have h := shaped_ch A D
  unfold SeqAt.shaped chD at h
  unfold SeqAt.shaped
  rw [Bool.and_eq_true] at h ⊢
  refine ⟨by simpa [PyData.canLay0] using h.1, decide_eq_true ?_⟩
  have := of_decide_eq_true h.2
  simpa only [PyData.depth] using this
theorem gT3_mono {K : PySem.W.Frag} {i j m : Nat} : ∀ x σ H (k k' : L2.St → Hp → Prop), (∀ σ H, k σ H → k' σ H) → gTup K 3 (gCons (gName i) (gCons (gName j) (gCons (gName m) gNil))) x σ H k → gTup K 3 (gCons (gName i) (gCons (gName j) (gCons (gName m) gNil))) x σ H k' :=
  fun _ _ _ _ _ hk ⟨a, xs, e1, e2, e3, v, r, e4, v2, r2, e5, v3, r3, e6, e7, h⟩ => ⟨a, xs, e1, e2, e3, v, r, e4, v2, r2, e5, v3, r3, e6, e7, hk _ _ h⟩
section
variable {P : Program} {w : World} {K : PySem.W.Frag} {mg : Str → Option Value} {base : Heap} {T : List (Addr × Str)} {CS CR CC CN : Addr} {f : Addr} {cd : Value} {A : Around} {outer : List Env} {s : Shared} {H0 : Hp} {E : XK}
theorem partC (G : LawG P w K mg base T CS CR CC CN) (hr : Room 20 (LX P w K mg base f cd A outer s H0 E).A) {rest : List Stmt} {u : TS} (hrest : PSs (LX P w K mg base f cd A outer s H0 E) rest u) :
    ∃ t, PSs (LX P w K mg base f cd A outer s H0 E) (lb 4 :: lb 5 :: rest) t ∧ ∀ (D : Ends) (H : Hp) (ch : Addr) (Fc : List Addr) (cA cD : Cont) (l : Addr) (dl : List (Addr × Str)) (v0 v1 v2 v3 v4 v5 v7 v9 : Option V), ChS H CC ch Fc cA cD → DueAt K H cA cD l dl → dl.map (·.2) = namesC cA cD → LamX.Tabs T H →
      (∀ H', Kp T [] H H' → u D [v0, v1, v2, v3, v4, v5, some (.ref l), v7, none, v9, none, none, none, none, none, none, none, some (.ref ch), none, none, none] H') →
      t D [v0, v1, v2, v3, v4, v5, some (.ref l), v7, none, v9, none, none, none, none, none, none, none, some (.ref ch), none, none, none] H := by
  have hr8 : Room 8 (LX P w K mg base f cd A outer s H0 E).A := hr.mono (by decide)
  have hr3 : Room 3 (LX P w K mg base f cd A outer s H0 E).A := hr.mono (by decide)
  have hr2 : Room 2 (LX P w K mg base f cd A outer s H0 E).A := hr.mono (by decide)
  have hr1 : Room 1 (LX P w K mg base f cd A outer s H0 E).A := hr.mono (by decide)
  refine ⟨_, pss_cons (ps_if (PW.pt (pw_or (pt_cmpR (op_neD hr.units) (pe_meth0 (pv 17) G.C.cl G.mCS G.GCS hr8 G.bCS .nil pass0) (pe_callTy call_tuple_of rfl G.L.tu (show bootBuiltins "tuple" = some (.type "tuple") by decide +kernel) (pa_cons (pv 6) pa_nil)) (nomark _))
      (pw_or (pt_cmpR op_ne (pe_meth0 (pv 17) G.C.cl G.mB G.GB hr2 G.bB .nil pass0) (pe_cmpR (op_eqD hr.units) (pv 6) (pe_lst pa_nil) (nomark _)) (nomark _))
      (pw_or1 (pt_cmpR (op_neD hr.units) (pe_meth0 (pv 17) G.C.cl G.mCN G.GCN hr1 G.bCN .nil pass0) (pe_callTy call_tuple_of rfl G.L.tu (show bootBuiltins "tuple" = some (.type "tuple") by decide +kernel) (pa_cons
          (pe_lc (own := [("_law_one", 8)]) (g := gName 8) (tt := tYes) (te := tOp (rIxT K) (tVar 8) (tC (.int 0))) rfl sc_law21.nd (pi_list (pv 6)) (blkOk_by (N := N21) (sc := defScope sLaw) (by decide +kernel))
            (fun _ _ _ _ _ => pg_name (i := 8) sc_law21.nd rfl (Or.inl rfl)) (fun _ _ _ _ _ => pts_nil) (fun _ _ _ _ _ => pe_ix ix_tup (pv 8) pe_int (fun _ _ => rfl))) pa_nil)) (nomark _))))))
      (pss_one (ps_ret pe_bl)) pss_nil)
    (pss_cons (ps_if (pt_cmpR (op_neD hr.units) (pe_meth0 (pe_meth0 (pv 17) G.C.cl G.mTu G.GTu hr3 G.bTu .nil pass0) G.C.cl G.mCS G.GCS hr8 G.bCS .nil pass0) (pe_callTy call_tuple_of rfl G.L.tu (show bootBuiltins "tuple" = some (.type "tuple") by decide +kernel) (pa_cons
          (pe_lc (own := [("_law_name", 7), ("_law_came", 5), ("_law_went", 9)]) (g := gTup K 3 (gCons (gName 7) (gCons (gName 5) (gCons (gName 9) gNil)))) (tt := tYes) (te := tTup (tCons (tVar 7) (tCons (tVar 9) (tCons (tVar 5) tNil)))) rfl sc_law21.nd (pi_list (pv 6)) (blkOk_by (N := N21) (sc := defScope sLaw) (by decide +kernel))
            (fun _ _ _ _ _ => pg_tup rfl (pgs_cons (pg_name (i := 7) sc_law21.nd rfl (Or.inl rfl)) (pgs_cons (pg_name (i := 5) sc_law21.nd rfl (Or.inl rfl)) (pgs_cons (pg_name (i := 9) sc_law21.nd rfl (Or.inl rfl)) pgs_nil)))) (fun _ _ _ _ _ => pts_nil) (fun _ _ _ _ _ => pe_tup (pa_cons (pv 7) (pa_cons (pv 9) (pa_cons (pv 5) pa_nil))))) pa_nil)) (nomark _))
      (pss_one (ps_ret pe_bl)) pss_nil)
    hrest), ?_⟩
  intro D H ch Fc cA cD l dl v0 v1 v2 v3 v4 v5 v7 v9 hCh hDue hnm hT k
  have dlen : dl.length ≤ 2 := by
    have h1 := congrArg List.length hnm
    rw [List.length_map] at h1
    rw [h1]
    exact namesC_len _ _
  obtain ⟨da, dd, ea, ed, hC, _⟩ := id hCh
  obtain ⟨dx, hi⟩ := hC.ins
  have dpL : ∀ {H'} {p : Addr}, DueAt K H' cA cD l dl → H' p = some (.tup (dl.map fun x => V.ref x.1)) → Dp K H' (.ref p) (chD cA cD) := fun {H' p} h hp => by
    have := due_dp h.es
    rw [hnm] at this
    exact .tup (.inl (.inl hp)) this
  refine ⟨_, rfl, ch, dx, _, rfl, hi, lkCn _ _ (by decide +kernel) (by decide +kernel), ch, Fc, cA, cD, rfl, hT, hCh, fun p H1 k1 hp1 => ⟨_, rfl, l, _, rfl, .inl ⟨SqL.of (hDue.kp0 k1).at_, fun q hq => ?_⟩⟩⟩
  have k2 : Kp T [] H1 (upd H1 q (.tup (dl.map fun x => V.ref x.1))) := .new hq
  have hd2 := (hDue.kp0 k1).kp0 k2
  refine ne_self (Dp.kp k2 (fun _ z => nomatch z) _ _ (by show noLsAll _ = true; exact noLsAll_map _ (noLs_ch1 cA cD) _) hp1) (dpL hd2 upd_same) (shaped_ch _ _) ⟨_, rfl, iteF ?_⟩
  have kH2 := k1.trans0 k2
  generalize upd H1 q (.tup (dl.map fun x => V.ref x.1)) = H2 at kH2 hd2 ⊢
  have hCh2 := hCh.kp0 kH2
  have hi2 := kH2.ins hi List.not_mem_nil
  refine ⟨_, rfl, ch, dx, _, rfl, hi2, lkCn _ _ (by decide +kernel) (by decide +kernel), ch, Fc, cA, cD, rfl, hCh2, fun H3 k3 => ⟨_, rfl, by show 0 ≤ sizeLine; decide, fun e he => ?_⟩⟩
  have k4 : Kp T [] H3 (upd H3 e (.lst [])) := .new he
  have hd4 := (hd2.kp0 k3).kp0 k4
  have kH4 := (kH2.trans0 k3).trans0 k4
  have dp4 := due_dp hd4.es
  have en := due_eq_nil hnm
  rw [hnm] at dp4 en
  refine ⟨.list ((namesC cA cD).map (chD1 cA cD)), .list [], .lst (SqL.of hd4.at_) dp4, .lst (SqL.of upd_same) .nil, shaped_dueL _ _, shaped_nil, ?_⟩
  rw [en]
  refine ⟨rfl, _, rfl, ?_⟩
  rw [decide_eq_true rfl]
  refine iteF ?_
  generalize upd H3 e (.lst []) = H4 at kH4 hd4 ⊢
  have hCh4 := hCh.kp0 kH4
  have hi4 := kH4.ins hi List.not_mem_nil
  refine ⟨_, rfl, ch, dx, _, rfl, hi4, lkCn _ _ (by decide +kernel) (by decide +kernel), ch, Fc, cA, cD, rfl, hCh4, fun p5 H5 k5 np5 hp5 => ?_⟩
  dsimp only [tCB, tCons, tNil]
  refine due_comp (T := T) (K := K) (A := cA) (D := cD) (l := l) (dl := dl) (f := PyData.str) (g := gName 8) (te := tOp (rIxT K) (tVar 8) (tC (.int 0))) (tl := tVar 6) (vs := [8]) (σ := [v0, v1, v2, v3, v4, v5, some (.ref l), v7, none, v9, none, none, none, none, none, none, none, some (.ref ch), none, none, none]) (fun R h => ⟨_, rfl, h⟩) (hd4.kp0 k5) (by omega) (fun _ => rfl) (fun x hx H6 e6 R hR => ?_) (gName_mono 8) fun p6 acc H6 k6 hp6 hal hdp6 => ?_
  · obtain ⟨t1, t2, g1, _⟩ := e6
    exact ⟨rfl, _, rfl, x.1, _, 0, _, rfl, rfl, SqT.of g1, atI_nat (j := 0) rfl, hR _ _ (.refl _ _ _) (.str _)⟩
  · refine ⟨p6, acc, rfl, .inl ⟨SqL.of hp6, fun q7 hq7 => ?_⟩⟩
    have k7 : Kp T [] H6 (upd H6 q7 (.tup acc)) := .new hq7
    have hdp7 := Dp.kpAll k7 (fun _ z => nomatch z) _ _ (noLsAll_map PyData.str (fun _ => rfl) _) hdp6
    rw [hnm] at hdp7
    refine ne_self (d := .tuple ((namesC cA cD).map PyData.str)) (.tup (.inl (.inl ((k6.trans0 k7).tup hp5 List.not_mem_nil))) (dpStrs _)) (.tup (.inl (.inl upd_same)) hdp7) (shaped_strs _ namesC_ok) ⟨_, rfl, iteF ?_⟩
    have kH7 := ((kH4.trans0 k5).trans0 k6).trans0 k7
    generalize upd H6 q7 (.tup acc) = H7 at kH7 ⊢
    have hCh7 := hCh.kp0 kH7
    have hi7 := kH7.ins hi List.not_mem_nil
    refine ⟨_, rfl, ch, dx, _, rfl, hi7, lkCn _ _ (by decide +kernel) (by decide +kernel), ch, Fc, cA, cD, rfl, hCh7, fun c2 F2 H8 k8 hC8 nF2 => ?_⟩
    obtain ⟨da8, dd8, ea8, ed8, hC8', _⟩ := id hC8
    obtain ⟨dx8, hi8⟩ := hC8'.ins
    refine ⟨c2, dx8, _, rfl, hi8, lkCn _ _ (by decide +kernel) (by decide +kernel), c2, F2, cD, cA, rfl, (kH7.trans0 k8).tabs hT, hC8, fun p9 H9 k9 hp9 => ?_⟩
    have kH9 := (kH7.trans0 k8).trans0 k9
    dsimp only [tCB, tCons, tNil]
    refine due_comp (T := T) (K := K) (A := cA) (D := cD) (l := l) (dl := dl) (f := chD1 cD cA) (g := gTup K 3 (gCons (gName 7) (gCons (gName 5) (gCons (gName 9) gNil)))) (te := tTup (tCons (tVar 7) (tCons (tVar 9) (tCons (tVar 5) tNil)))) (tl := tVar 6) (vs := [7, 5, 9]) (σ := [v0, v1, v2, v3, v4, v5, some (.ref l), v7, none, v9, none, none, none, none, none, none, none, some (.ref ch), none, none, none]) (fun R h => ⟨_, rfl, h⟩) (hDue.kp0 kH9) (by omega) (noLs_ch1 cD cA) (fun x hx Ha ea R hR => ?_) ?_ fun pa acca Ha ka hpa hala hdpa => ?_
    · obtain ⟨t1, t2, g1, g2, g3⟩ := ea
      refine ⟨x.1, _, rfl, SqT.of g1, rfl, _, _, rfl, _, _, rfl, _, _, rfl, rfl, ?_⟩
      refine ⟨rfl, _, rfl, _, rfl, _, rfl, by show 3 ≤ sizeLine; decide, fun t3 ht3 => ?_⟩
      have k3 : Kp T [] Ha (upd Ha t3 (.tup [.str x.2, .ref t2, .ref t1])) := .new ht3
      exact hR _ _ k3 (.tup (.inl (.inl upd_same)) (.cons (.str _) (.cons (Dp.kp k3 (fun _ z => nomatch z) _ _ (noLs_rows _) g3) (.cons (Dp.kp k3 (fun _ z => nomatch z) _ _ (noLs_rows _) g2) .nil))))
    · exact gT3_mono
    · refine ⟨pa, acca, rfl, .inl ⟨SqL.of hpa, fun qb hqb => ?_⟩⟩
      have kb : Kp T [] Ha (upd Ha qb (.tup acca)) := .new hqb
      have hdpb := Dp.kpAll kb (fun _ z => nomatch z) _ _ (noLsAll_map _ (noLs_ch1 cD cA) _) hdpa
      rw [hnm, ← namesC_comm] at hdpb
      refine ne_self (d := chD cD cA) (Dp.kp (ka.trans0 kb) (fun _ z => nomatch z) _ _ (by show noLsAll _ = true; exact noLsAll_map _ (noLs_ch1 cD cA) _) hp9) (.tup (.inl (.inl upd_same)) hdpb) (shaped_ch _ _) ⟨_, rfl, iteF ?_⟩
      exact k _ ((kH9.trans0 ka).trans0 kb)
end
end DH
namespace DH
open PySem PySem.Spec L2
open PyProof.Rows hiding St
abbrev allC (U V : Cont) : Cont := mkC (fun _ _ => true) U V
theorem fits_there (S1 S2 : Cont) : Fits S1 (allC S2 S1) (allC S1 S2) := by
  constructor
  · intro n k h
    simp only [allC, mkC, Bool.true_and, Bool.and_eq_true] at h
    exact h.1
  · intro n k h
    simp only [allC, mkC, Bool.true_and, Bool.and_eq_true, Bool.not_eq_true'] at h
    rw [h.2]
    simp
theorem laid_there (S1 S2 : Cont) : laidC S1 (allC S2 S1) (allC S1 S2) = S2 := by
  funext n k
  simp only [laidC, allC, mkC]
  cases S1 n k <;> cases S2 n k <;> rfl
theorem fits_back (S1 S2 : Cont) : Fits S2 (allC S1 S2) (allC S2 S1) := fits_there S2 S1
theorem disj_new {H : Hp} {F G : List Addr} (hd : ∀ b ∈ F, Dct H b) (h : ∀ b ∈ G, Nw H b) : ∀ b ∈ F, b ∉ G := disj_grow hd (F1 := []) (fun _ _ z => by cases z) fun b hb => .inr (h b hb)
theorem sh_ne {K : PySem.W.Frag} {H : Hp} {x y : V} {S S' : Cont} {Q : VK} (hx : Dp K H x (shD S)) (hy : Dp K H y (shD S')) (e : S = S') (q : Q (.bl false) H) : rNeD K x y H Q := by
  subst e
  exact ne_self hx hy (shaped_sh _) q
theorem noLs_shD (S : Cont) : noLs (shD S) = true := noLsAll_map _ (noLs_sh1 S) _
theorem FactsAt.kp0 {T : List (Addr × Str)} {H H1 : Hp} {fl : FL} (h : FactsAt H fl) (k : Kp T [] H H1) : FactsAt H1 fl := h.kp k fun _ z => nomatch z
section
variable {P : Program} {w : World} {K : PySem.W.Frag} {mg : Str → Option Value} {base : Heap} {T : List (Addr × Str)} {CS CR CC CN : Addr} {f : Addr} {cd : Value} {A : Around} {outer : List Env} {s : Shared} {H0 : Hp} {E : XK}
/-- s.shown() read -/
theorem shown_read {H : Hp} {st : Addr} {F : List Addr} {S : Cont} {te : TE} {σ : L2.St} {Q : VK} {Ex : XK} (ht : ∀ R : VK, R (.ref st) H → te σ H R) (hT : LamX.Tabs T H) (h : StS H CS CR st F S) (k : ∀ p H', Kp T [] H H' → Dp K H' (.ref p) (shD S) → Q (.ref p) H') : tMeth CS "shown" (spSShown K T CS CR) [] Ex te tNil σ H Q := by
  obtain ⟨dr, es, hS, _⟩ := id h
  obtain ⟨dx, hi⟩ := hS.ins
  exact ht _ ⟨st, dx, _, rfl, hi, lkRn _ (by decide +kernel), st, F, S, rfl, hT, h, k⟩
structure AfterD (P : Program) (w : World) (T : List (Addr × Str)) (CS CR : Addr) (H H' : Hp) (d l st : Addr) (fl : FL) (F : List Addr) : Prop where
  kp : Kp T [d] H H'
  at_ : H' l = some (.lst (frs1 fl))
  fs : FactsAt H' fl
  ok : ∀ x ∈ fl, fcOk x.2
  nd : (fl.map (·.2)).Nodup
  st_ : StS H' CS CR st F (ofL (fl.map (·.2)))
  nw : ∀ b ∈ F, Nw H b
theorem partD (G : LawG P w K mg base T CS CR CC CN) (hr : Room 20 (LX P w K mg base f cd A outer s H0 E).A) {rest : List Stmt} {u : TS} (hrest : PSs (LX P w K mg base f cd A outer s H0 E) rest u) :
    ∃ t, PSs (LX P w K mg base f cd A outer s H0 E) (lb 6 :: lb 7 :: lb 8 :: lb 9 :: lb 10 :: lb 11 :: lb 12 :: lb 13 :: rest) t ∧ ∀ (D : Ends) (H : Hp) (d : Addr) (a b c : Int) (v0 v2 v3 v4 v5 v6 v7 v9 v17 : Option V), H d = some (.lst (diceV a b c)) → LamX.Tabs T H →
      (∀ v10 v11 v12 v13 l st fl F H', AfterD P w T CS CR H H' d l st fl F → u D [v0, some (.ref d), v2, v3, v4, v5, v6, v7, some (.ref l), v9, v10, v11, v12, v13, none, none, none, v17, some (.ref st), none, none] H') →
      t D [v0, some (.ref d), v2, v3, v4, v5, v6, v7, none, v9, none, none, none, none, none, none, none, v17, none, none, none] H := by
  have hr9 : Room 9 (LX P w K mg base f cd A outer s H0 E).A := hr.mono (by decide)
  have hr4 : Room 4 (LX P w K mg base f cd A outer s H0 E).A := hr.mono (by decide)
  have hr3 : Room 3 (LX P w K mg base f cd A outer s H0 E).A := hr.mono (by decide)
  have hr2 : Room 2 (LX P w K mg base f cd A outer s H0 E).A := hr.mono (by decide)
  refine ⟨_, pss_cons (ps_asg (pe_tup (pa_cons (pe_call G.GFa hr2 rfl G.mFa G.kFa G.bFa .nil pass0 (pa_cons (pv 1) pa_nil)) (pa_cons (pe_call G.GFa hr2 rfl G.mFa G.kFa G.bFa .nil pass0 (pa_cons (pv 1) pa_nil)) pa_nil))) (pg_tup rfl (pgs_cons (pg_name (i := 8) sc_law21.nd rfl (Or.inr rfl)) (pgs_cons (pg_name (i := 10) sc_law21.nd rfl (Or.inl rfl)) pgs_nil))))
    (pss_cons (ps_asg (pe_tup (pa_cons (pe_call G.GSo hr4 rfl G.mSo G.kSo G.bSo .nil pass0 (pa_cons (pv 8) pa_nil)) (pa_cons (pe_call G.GSo hr4 rfl G.mSo G.kSo G.bSo .nil pass0 (pa_cons (pv 10) pa_nil)) pa_nil))) (pg_tup rfl (pgs_cons (pg_name (i := 18) sc_law21.nd rfl (Or.inr rfl)) (pgs_cons (pg_name (i := 11) sc_law21.nd rfl (Or.inl rfl)) pgs_nil))))
    (pss_cons (ps_set (i := 12) sc_law21.nd rfl (Or.inl rfl) (pe_call G.GAp hr9 rfl G.mAp G.kAp G.bAp .nil pass0 (pa_cons (pv 18) (pa_cons (pv 11) pa_nil))))
    (pss_cons (ps_set (i := 13) sc_law21.nd rfl (Or.inl rfl) (pe_meth0 (pv 12) G.C.cl G.mTu G.GTu hr3 G.bTu .nil pass0))
    (pss_cons (ps_expr (pe_call G.GLa hr4 rfl G.mLa G.kLa G.bLa .nil passL (pa_cons (pv 18) (pa_cons (pv 12) pa_nil))))
    (pss_cons (ps_if (pt_cmpR (op_neD hr.units) (pe_meth0 (pv 18) G.S.cl G.mSS G.GSS hr9 G.bSS .nil pass0) (pe_meth0 (pv 11) G.S.cl G.mSS G.GSS hr9 G.bSS .nil pass0) (nomark _)) (pss_one (ps_ret pe_bl)) pss_nil)
    (pss_cons (ps_expr (pe_call G.GLa hr4 rfl G.mLa G.kLa G.bLa .nil passL (pa_cons (pv 18) (pa_cons (pv 13) pa_nil))))
    (pss_cons (ps_if (pt_cmpR (op_neD hr.units) (pe_meth0 (pv 18) G.S.cl G.mSS G.GSS hr9 G.bSS .nil pass0) (pe_meth0 (pe_call G.GSo hr4 rfl G.mSo G.kSo G.bSo .nil pass0 (pa_cons (pv 8) pa_nil)) G.S.cl G.mSS G.GSS hr9 G.bSS .nil pass0) (nomark _)) (pss_one (ps_ret pe_bl)) pss_nil)
    hrest))))))), ?_⟩
  intro D H d a b c v0 v2 v3 v4 v5 v6 v7 v9 v17 hd hT k
  refine ⟨_, rfl, d, a, b, c, rfl, hd, fun l1 fl1 a1 b1 c1 H1 k1 hd1 nl1 hl1 hf1 ok1 nd1 => ⟨_, rfl, d, a1, b1, c1, rfl, hd1, fun l2 fl2 a2 b2 c2 H2 k2 hd2 nl2 hl2 hf2 ok2 nd2 => ⟨by show 2 ≤ sizeLine; decide, fun tp htp => ⟨tp, _, rfl, SqT.of upd_same, rfl, _, _, rfl, _, _, rfl, rfl, ?_⟩⟩⟩⟩
  have k3 : Kp T [] H2 (upd H2 tp (.tup [.ref l1, .ref l2])) := .new htp
  have mud : ∀ b ∈ [d], Mu H1 b := fun b hb => by
    rw [List.mem_singleton.mp hb]
    exact .lst hd1
  have n1 : l1 ≠ d := (Nw.ne nl1 hd .lst).symm
  have hl1' := k3.lst (k2.lst hl1 (by simpa using n1)) List.not_mem_nil
  have hf1' := (hf1.kp k2 mud).kp0 k3
  have hl2' := k3.lst hl2 List.not_mem_nil
  have hf2' := hf2.kp0 k3
  have kH3 : Kp T [d] H (upd H2 tp (.tup [.ref l1, .ref l2])) := (k1.transS k2).trans0 k3
  generalize upd H2 tp (.tup [.ref l1, .ref l2]) = H3 at k3 hl1' hf1' hl2' hf2' kH3 ⊢
  refine ⟨_, rfl, l1, fl1, rfl, hl1', hf1', ok1, fun s1 F1 H4 k4 hS4 nw4 => ⟨_, rfl, l2, fl2, rfl, k4.lst hl2' List.not_mem_nil, hf2'.kp0 k4, ok2, fun s2 F2 H5 k5 hS5 nw5 => ⟨by show 2 ≤ sizeLine; decide, fun tq htq => ⟨tq, _, rfl, SqT.of upd_same, rfl, _, _, rfl, _, _, rfl, rfl, ?_⟩⟩⟩⟩
  have k6 : Kp T [] H5 (upd H5 tq (.tup [.ref s1, .ref s2])) := .new htq
  have h12 : ∀ b ∈ F1, b ∉ F2 := disj_new hS4.dct nw5
  have hS1 := (hS4.kp0 k5).kp0 k6
  have hS2 := hS5.kp0 k6
  have kH6 := ((kH3.trans0 k4).trans0 k5).trans0 k6
  have hl6 := ((k4.trans0 k5).trans0 k6).lst hl1' List.not_mem_nil
  have hf6 := ((hf1'.kp0 k4).kp0 k5).kp0 k6
  have nw1 : ∀ b ∈ F1, Nw H b := fun b hb => kH3.nw (nw4 b hb)
  have nw2 : ∀ b ∈ F2, Nw H b := fun b hb => (kH3.trans0 k4).nw (nw5 b hb)
  generalize upd H5 tq (.tup [.ref s1, .ref s2]) = H6 at hS1 hS2 kH6 hl6 hf6 ⊢
  generalize ofL (fl2.map (·.2)) = S2 at hS2
  refine ⟨_, rfl, _, rfl, s1, s2, F1, F2, _, S2, rfl, kH6.tabs hT, hS1, hS2, h12, fun x F1' F2' Fc H7 I7 => ?_⟩
  obtain ⟨da, dd, ea, ed, hC7, _⟩ := id I7.ch
  obtain ⟨dx7, hi7⟩ := hC7.ins
  refine ⟨_, rfl, x, dx7, _, rfl, hi7, lkCn _ _ (by decide +kernel) (by decide +kernel), x, Fc, _, _, rfl, I7.ch, fun bk Fb H8 k8 hB nFb => ?_⟩
  have I8 := I7.kp0 k8
  have kH7 : Kp T [d] H H7 := kH6.trans I7.kp fun b hb => (List.mem_append.mp hb).elim (fun h => .inr (nw1 b h)) fun h => .inr (nw2 b h)
  have kH8 := kH7.trans0 k8
  have nwF1 : ∀ b ∈ F1', Nw H b := fun b hb => (I7.f1 b hb).elim (nw1 b) fun h => kH6.nw h
  have d1b : ∀ b ∈ F1', b ∉ Fb := disj_new I7.o1.dct nFb
  have d2b : ∀ b ∈ F2', b ∉ Fb := disj_new I7.o2.dct nFb
  have mF : ∀ b ∈ F1 ++ F2, Mu H6 b := fun b hb => .dct ((List.mem_append.mp hb).elim (hS1.dct b) (hS2.dct b))
  have hl8 : H8 l1 = some (.lst (frs1 fl1)) := (k8.lst (I7.kp.lst hl6 fun z => (List.mem_append.mp z).elim (fun z => Dct.ne hS1.dct hl6 .lst z) fun z => Dct.ne hS2.dct hl6 .lst z) List.not_mem_nil)
  have hf8 : FactsAt H8 fl1 := (hf6.kp I7.kp mF).kp0 k8
  -- laid there
  refine ⟨_, rfl, _, rfl, s1, x, F1', Fc, _, _, _, rfl, kH8.tabs hT, I8.o1, I8.ch, I7.d1c, fun _ F9 H9 k9 hS9 g9 => ?_, fun z => absurd (fits_there _ _) z⟩
  rw [laid_there] at hS9
  have mu9 : ∀ b ∈ F1', Mu H8 b := fun b hb => .dct (I8.o1.dct b hb)
  have kH9 : Kp T [d] H H9 := kH8.trans k9 fun b hb => .inr (nwF1 b hb)
  have nw9 : ∀ b ∈ F9, Nw H b := fun b hb => (g9 b hb).elim (nwF1 b) fun h => kH8.nw h
  have hE9 : StS H9 CS CR s2 F2' S2 := I8.o2.kp k9 mu9 fun b hb z => I7.d12 b z hb
  have hB9 : ChS H9 CC bk Fb _ _ := hB.kp k9 mu9 fun b hb z => d1b b z hb
  have hl9 : H9 l1 = some (.lst (frs1 fl1)) := k9.lst hl8 fun z => Dct.ne I8.o1.dct hl8 .lst z
  have hf9 : FactsAt H9 fl1 := hf8.kp k9 mu9
  dsimp only [tSeq, tIfS, tTest, tOp]
  refine shown_read (T := T) (CS := CS) (CR := CR) (K := K) (fun R h => ⟨_, rfl, h⟩) (kH9.tabs hT) hS9 fun p1 Ha ka hpa => ?_
  refine shown_read (T := T) (CS := CS) (CR := CR) (K := K) (fun R h => ⟨_, rfl, h⟩) ((kH9.trans0 ka).tabs hT) (hE9.kp0 ka) fun p2 Hb kb hpb => ?_
  refine sh_ne (Dp.kp kb (fun _ z => nomatch z) _ _ (noLs_shD _) hpa) hpb rfl ⟨_, rfl, iteF ?_⟩
  have kHb := (kH9.trans0 ka).trans0 kb
  have hSb := (hS9.kp0 ka).kp0 kb
  have hBb := (hB9.kp0 ka).kp0 kb
  have hlb := (ka.trans0 kb).lst hl9 List.not_mem_nil
  have hfb := (hf9.kp0 ka).kp0 kb
  have d9b : ∀ b ∈ F9, b ∉ Fb := fun b hb z => by
    rcases g9 b hb with h | h
    · exact d1b b h z
    · exact disj_new hB.dct (G := [b]) (fun b' hb' => by rw [List.mem_singleton.mp hb']; exact h) b z (by simp)
  -- laid back
  refine ⟨_, rfl, _, rfl, s1, bk, F9, Fb, _, _, _, rfl, kHb.tabs hT, hSb, hBb, d9b, fun _ Fd Hd kd hSd gd => ?_, fun z => absurd (fits_back _ _) z⟩
  rw [laid_there] at hSd
  have mud : ∀ b ∈ F9, Mu Hb b := fun b hb => .dct (hSb.dct b hb)
  have kHd : Kp T [d] H Hd := kHb.trans kd fun b hb => .inr (nw9 b hb)
  have nwd : ∀ b ∈ Fd, Nw H b := fun b hb => (gd b hb).elim (nw9 b) fun h => kHb.nw h
  have hld : Hd l1 = some (.lst (frs1 fl1)) := kd.lst hlb fun z => Dct.ne hSb.dct hlb .lst z
  have hfd : FactsAt Hd fl1 := hfb.kp kd mud
  dsimp only [tSeq, tIfS, tTest, tOp]
  refine shown_read (T := T) (CS := CS) (CR := CR) (K := K) (fun R h => ⟨_, rfl, h⟩) (kHd.tabs hT) hSd fun p3 He ke hpe => ?_
  have hle := ke.lst hld List.not_mem_nil
  have hfe := hfd.kp0 ke
  refine ⟨_, rfl, l1, fl1, rfl, hle, hfe, ok1, fun s3 F3 Hf kf hSf nf => ?_⟩
  obtain ⟨dr3, es3, hS3, _⟩ := id hSf
  obtain ⟨dx3, hi3⟩ := hS3.ins
  refine ⟨s3, dx3, _, rfl, hi3, lkRn _ (by decide +kernel), s3, F3, _, rfl, ((kHd.trans0 ke).trans0 kf).tabs hT, hSf, fun p4 Hg kg hpg => ?_⟩
  refine sh_ne (Dp.kp (kf.trans0 kg) (fun _ z => nomatch z) _ _ (noLs_shD _) hpe) hpg rfl ⟨_, rfl, iteF ?_⟩
  exact k _ _ _ _ l1 s1 fl1 Fd Hg ⟨((kHd.trans0 ke).trans0 kf).trans0 kg, (kf.trans0 kg).lst hle List.not_mem_nil, (hfe.kp0 kf).kp0 kg, ok1, nd1, ((hSd.kp0 ke).kp0 kf).kp0 kg, nwd⟩
end
end DH
namespace DH
open PySem PySem.Spec L2
open PyProof.Rows hiding St
/-- the keys of the net that a test picks -/
def pickN (es : List NetE) (p : NetE → Bool) : FL := (es.filter p).map fun e => (e.2.1, e.1)
theorem pick_snoc {es : List NetE} {p : NetE → Bool} {i : Nat} {e : NetE} (he : es[i]? = some e) : pickN (es.take (i + 1)) p = pickN (es.take i) p ++ (if p e = true then [(e.2.1, e.1)] else []) := by
  unfold pickN
  rw [List.take_add_one, he, List.filter_append, List.map_append]
  congr 1
  show List.map _ (List.filter _ [e]) = _
  rw [List.filter_cons]
  split <;> rfl
theorem pick_len (es : List NetE) (p : NetE → Bool) (i : Nat) : (pickN (es.take i) p).length ≤ es.length := by
  unfold pickN
  rw [List.length_map]
  refine Nat.le_trans (List.length_filter_le _ _) ?_
  rw [List.length_take]
  omega
theorem FactAt.app {H H' : Hp} {q : Addr} {f : Fct} (h : FactAt H q f) (k : ∀ b xs, H b = some (.tup xs) → H' b = some (.tup xs)) : FactAt H' q f := by
  obtain ⟨r, h1, h2⟩ := h
  exact ⟨r, k _ _ h1, k _ _ h2⟩
/-- [key for key in net if ..] -/
theorem net_comp {K : PySem.W.Frag} {P : Program} {w : World} {T : List (Addr × Str)} {H : Hp} {net : Addr} {es : List NetE} {p : NetE → Bool} {tt : TT} {Q : VK} {σ : L2.St} (h0 : Heap)
    (σ2 : σ[2]? = some (some (.ref net))) (σ20 : ∀ v, ((wipe σ [20]).set 20 (some v))[20]? = some (some v)) (σw : ∀ v, wipe ((wipe σ [20]).set 20 (some v)) [20] = wipe σ [20])
    (hnet : H net = some (NetO P w net es)) (keys : NetKeys H es) (hlen : es.length ≤ 11)
    (tst : ∀ e ∈ es, ∀ (od : Obj) (H' : Hp), H' net = some (.frz od (NetO P w net es)) → NetKeys H' es → (∀ b o, H b = some o → NT o → b ≠ net → H' b = some o) → ∀ R : Bool → Hp → Prop, R (p e) H' → tt ((wipe σ [20]).set 20 (some (.ref e.2.1))) H' R)
    (k : ∀ (q : Addr) (H' : Hp), Kp T [] H H' → H' q = some (.lst (frs1 (pickN es p))) → FactsAt H' (pickN es p) → Q (.ref q) H') :
    tLockE (tLc (iNet P w (tVar 2)) (gName 20) tt (tVar 20) [20]) σ H Q := by
  refine ⟨net, _, hnet, trivial, fun od => ?_⟩
  refine ⟨_, σ2, net, od, es, rfl, upd_same, fun D hD => ?_⟩
  have nND : net ≠ D := ne_of_none upd_same hD
  have kall : ∀ b o, H b = some o → b ≠ net → upd (upd H net (.frz od (NetO P w net es))) D (.lst []) b = some o := fun b o e hb => by
    have e1 : upd H net (.frz od (NetO P w net es)) b = some o := by rw [upd_ne hb]; exact e
    rw [upd_ne (ne_of_none e1 hD)]
    exact e1
  have nD : ∀ b o, H b = some o → b ≠ net → b ≠ D := fun b o e hb => by
    have e1 : upd H net (.frz od (NetO P w net es)) b = some o := by rw [upd_ne hb]; exact e
    exact ne_of_none e1 hD
  have tn : ∀ b xs, H b = some (.tup xs) → b ≠ net := fun b xs e => ne_of e hnet (fun z => by unfold NetO at z; cases z)
  refine lc_it walk_net (fun i H2 => Kp T [D] (upd (upd H net (.frz od (NetO P w net es))) D (.lst [])) H2 ∧ H2 D = some (.lst (frs1 (pickN (es.take i) p))) ∧ FactsAt H2 (pickN (es.take i) p)) ⟨.refl _ _ _, upd_same, (fun _ z => by cases z)⟩ ?_ ?_ ?_
  · rintro i H2 _ ⟨k2, _⟩
    exact k2.keep net _ (by rw [upd_ne nND]; exact upd_same) .frz (by simpa using nND)
  · rintro i x H2 H' hi ⟨k2, hos, hfs⟩ ⟨rfl, e, he, rfl⟩
    have hem := List.mem_of_getElem? he
    have hN2 : H' net = some (.frz od (NetO P w net es)) := k2.keep net _ (by rw [upd_ne nND]; exact upd_same) .frz (by simpa using nND)
    have kb : ∀ b o, H b = some o → NT o → b ≠ net → H' b = some o := fun b o e n hb => k2.keep b o (kall b o e hb) n (by simpa using nD b o e hb)
    have keys2 : NetKeys H' es := fun e' he' => (keys e' he').app fun b xs hx => kb b _ hx .tup (tn b xs hx)
    refine ⟨σw _, tst e hem od H' hN2 keys2 kb _ ?_⟩
    have pl := pick_len es p i
    refine ite2 (fun hb => ?_) (fun hb => ?_)
    · refine ⟨_, σ20 _, frs1 (pickN (es.take i) p), hos, by rw [List.length_map]; exact small1000 (by omega), ?_⟩
      have k4 : Kp T [D] H' (upd H' D (.lst (frs1 (pickN (es.take i) p) ++ [V.ref e.2.1]))) := upd_kpD hos
      have mD : ∀ b ∈ [D], Mu H' b := fun b hb => by
        rw [List.mem_singleton.mp hb]
        exact .lst hos
      refine ⟨k2.transS k4, ?_, ?_⟩
      · rw [pick_snoc he, if_pos hb, upd_same]
        simp
      · rw [pick_snoc he, if_pos hb]
        intro x hx
        rcases List.mem_append.mp hx with h | h
        · exact (hfs x h).kp k4 mD
        · rw [List.mem_singleton.mp h]
          exact (keys2 e hem).kp k4 mD
    · rw [pick_snoc he, if_neg hb, List.append_nil]
      exact ⟨k2, hos, hfs⟩
  · rintro H2 ⟨k2, hos, hfs⟩
    rw [List.take_of_length_le (Nat.le_refl _)] at hos hfs
    obtain ⟨hz, kz⟩ := unlock_kpA hnet .net (net_nc h0) hD k2
    refine ⟨hz, k D _ kz (by rw [upd_ne nND.symm]; exact hos) fun x hx => (hfs x hx).app fun b xs hx => ?_⟩
    rw [upd_ne (ne_of hx hz (fun z => by cases z))]
    exact hx
/-- the facts of a list that are not in the net -/
def missN (fl : FL) (es : List NetE) : FL := fl.filter fun x => !(valN es x.2).isSome
theorem miss_comp {K : PySem.W.Frag} {P : Program} {w : World} {T : List (Addr × Str)} {H : Hp} {net l : Addr} {es : List NetE} {fl : FL} {Q : VK} {σ : L2.St}
    (σ8 : σ[8]? = some (some (.ref l))) (σ4 : ∀ v, ((wipe σ [4]).set 4 (some v))[4]? = some (some v)) (σ2 : ∀ v, ((wipe σ [4]).set 4 (some v))[2]? = some (some (.ref net))) (σw : ∀ v, wipe ((wipe σ [4]).set 4 (some v)) [4] = wipe σ [4])
    (hnet : H net = some (NetO P w net es)) (keys : NetKeys H es) (hl : H l = some (.lst (frs1 fl))) (hf : FactsAt H fl) (hlen : fl.length ≤ 900)
    (k : ∀ (q : Addr) (H' : Hp), Kp T [] H H' → H' q = some (.lst (frs1 (missN fl es))) → FactsAt H' (missN fl es) → Q (.ref q) H') :
    tLc (iList K (tVar 8)) (gName 4) (tTest (tOp (rInN P w true) (tVar 4) (tVar 2))) (tVar 4) [4] σ H Q := by
  refine ⟨_, σ8, l, rfl, ⟨_, SqL.of hl⟩, fun D hD => ?_⟩
  have nlD : l ≠ D := ne_of_none hl hD
  have kD : Kp T [] H (upd H D (.lst [])) := .new hD
  have nnD : net ≠ D := ne_of_none hnet hD
  refine lc_list (K := K) (a := l) (xs := frs1 fl) (fun i H2 => Kp T [D] (upd H D (.lst [])) H2 ∧ H2 D = some (.lst (frs1 (missN (fl.take i) es))) ∧ FactsAt H2 (missN (fl.take i) es)) ⟨.refl _ _ _, upd_same, (fun _ z => by cases z)⟩ ?_ ?_ ?_
  · rintro i H2 _ ⟨k2, _⟩
    exact SqL.of (k2.lst (by rw [upd_ne nlD]; exact hl) (by simpa using nlD))
  · rintro i y H2 hy ⟨k2, hos, hfs⟩
    rw [List.getElem?_map] at hy
    obtain ⟨n, hn, rfl⟩ := Option.map_eq_some_iff.mp hy
    have hnm := List.mem_of_getElem? hn
    have hf2 : FactsAt H2 fl := (hf.kp0 kD).kp k2 mu1
    have keys2 : NetKeys H2 es := (keys.kp kD fun _ z => nomatch z).kp k2 mu1
    have hN2 : H2 net = some (NetO P w net es) := k2.keep net _ (by rw [upd_ne nnD]; exact hnet) .net (by simpa using nnD)
    refine ⟨σw _, _, σ4 _, _, σ2 _, n.1, net, n.2, es, rfl, rfl, hf2 n hnm, .inl hN2, keys2, _, rfl, ?_⟩
    have tk : missN (fl.take (i + 1)) es = missN (fl.take i) es ++ (if (!(valN es n.2).isSome) = true then [n] else []) := by
      unfold missN
      rw [List.take_add_one, hn, List.filter_append]
      congr 1
      show List.filter _ [n] = _
      rw [List.filter_cons]
      split <;> rfl
    have ml : (missN (fl.take i) es).length ≤ 900 := by
      unfold missN
      refine Nat.le_trans (List.length_filter_le _ _) ?_
      rw [List.length_take]
      omega
    refine ite2 (fun hb => ?_) (fun hb => ?_)
    · refine ⟨_, σ4 _, frs1 (missN (fl.take i) es), hos, by rw [List.length_map]; exact small1000 (by omega), ?_⟩
      have k4 : Kp T [D] H2 (upd H2 D (.lst (frs1 (missN (fl.take i) es) ++ [V.ref n.1]))) := upd_kpD hos
      have mD : ∀ b ∈ [D], Mu H2 b := fun b hb => by
        rw [List.mem_singleton.mp hb]
        exact .lst hos
      have hb' : (!(valN es n.2).isSome) = true := hb
      refine ⟨k2.transS k4, ?_, ?_⟩
      · rw [tk, if_pos hb', upd_same]
        simp
      · rw [tk, if_pos hb']
        intro x hx
        rcases List.mem_append.mp hx with h | h
        · exact (hfs x h).kp k4 mD
        · rw [List.mem_singleton.mp h]
          exact (hf2 n hnm).kp k4 mD
    · have hb' : ¬ (!(valN es n.2).isSome) = true := hb
      rw [tk, if_neg hb', List.append_nil]
      exact ⟨k2, hos, hfs⟩
  · rintro H2 ⟨k2, hos, hfs⟩
    rw [List.length_map, List.take_of_length_le (Nat.le_refl _)] at hos hfs
    exact k D H2 (kD.trans k2 fun b hb => .inr (by rw [List.mem_singleton.mp hb]; exact .of hD)) hos hfs
def badN (fs : List Fct) (e : NetE) : Bool := decide (V.bl e.2.2 = V.bl (decide (e.1 ∈ fs)))
theorem bad_iff {fs : List Fct} {es : List NetE} (nd : (es.map (·.1)).Nodup) : pickN es (badN fs) = [] ↔ Fits (ofL fs) (cA es) (cD es) := by
  unfold pickN
  rw [List.map_eq_nil_iff, List.filter_eq_nil_iff]
  constructor
  · intro h
    constructor
    · intro n k hk
      obtain ⟨q, hq⟩ := (valN_mem nd (n, k) false).mp (of_decide_eq_true hk)
      have := h _ hq
      unfold badN at this
      unfold ofL
      refine decide_eq_true (Classical.byContradiction fun z => this (decide_eq_true ?_))
      show V.bl false = V.bl (decide ((n, k) ∈ fs))
      rw [decide_eq_false z]
    · intro n k hk hs
      obtain ⟨q, hq⟩ := (valN_mem nd (n, k) true).mp (of_decide_eq_true hk)
      have := h _ hq
      unfold badN at this
      unfold ofL at hs
      refine this (decide_eq_true ?_)
      show V.bl true = V.bl (decide ((n, k) ∈ fs))
      rw [hs]
  · rintro ⟨h1, h2⟩ ⟨⟨n, k⟩, q, b⟩ he hb
    have hb' := of_decide_eq_true hb
    injection hb' with hb'
    cases b with
    | true =>
      exact h2 n k (decide_eq_true ((valN_mem nd (n, k) true).mpr ⟨q, he⟩)) hb'.symm
    | false =>
      have := h1 n k (decide_eq_true ((valN_mem nd (n, k) false).mpr ⟨q, he⟩))
      unfold ofL at this
      have hb2 : false = decide ((n, k) ∈ fs) := hb'
      rw [this] at hb2
      cases hb2
theorem after_eq {fl : FL} {es : List NetE} (nd : (es.map (·.1)).Nodup) : ofL ((missN fl es ++ pickN es (fun e => e.2.2)).map (·.2)) = laidC (ofL (fl.map (·.2))) (cA es) (cD es) := by
  funext n k
  have hm : (n, k) ∈ (missN fl es).map (·.2) ↔ (n, k) ∈ fl.map (·.2) ∧ valN es (n, k) = none := by
    unfold missN
    rw [List.mem_map, List.mem_map]
    constructor
    · rintro ⟨x, hx, hxe⟩
      rw [List.mem_filter] at hx
      refine ⟨⟨x, hx.1, hxe⟩, ?_⟩
      have := hx.2
      rw [hxe] at this
      cases hv : valN es (n, k) with
      | none => rfl
      | some v => rw [hv] at this; cases this
    · rintro ⟨⟨x, hx, hxe⟩, hv⟩
      refine ⟨x, List.mem_filter.mpr ⟨hx, ?_⟩, hxe⟩
      rw [hxe, hv]
      rfl
  have hp : (n, k) ∈ (pickN es fun e => e.2.2).map (·.2) ↔ valN es (n, k) = some true := by
    unfold pickN
    rw [valN_mem nd, List.map_map, List.mem_map]
    constructor
    · rintro ⟨e, he, hee⟩
      rw [List.mem_filter] at he
      obtain ⟨f, q, b⟩ := e
      have h2 : b = true := he.2
      have h1 : f = (n, k) := hee
      subst h1
      subst h2
      exact ⟨q, he.1⟩
    · rintro ⟨q, hq⟩
      exact ⟨_, List.mem_filter.mpr ⟨hq, rfl⟩, rfl⟩
  unfold laidC ofL cA cD
  rw [Bool.eq_iff_iff, decide_eq_true_eq, List.map_append, List.mem_append, hm, hp]
  simp only [Bool.or_eq_true, Bool.and_eq_true, Bool.not_eq_true', decide_eq_true_eq, decide_eq_false_iff_not]
  cases hv : valN es (n, k) with
  | none => simp
  | some b => cases b <;> simp
theorem pick_ok {es : List NetE} {p : NetE → Bool} (h : ∀ e ∈ es, fcOk e.1) : ∀ x ∈ pickN es p, fcOk x.2 := fun x hx => by
  unfold pickN at hx
  obtain ⟨e, he, rfl⟩ := List.mem_map.mp hx
  exact h e (List.mem_filter.mp he).1
theorem miss_ok {fl : FL} {es : List NetE} (h : ∀ x ∈ fl, fcOk x.2) : ∀ x ∈ missN fl es, fcOk x.2 := fun x hx => h x (List.mem_filter.mp hx).1
theorem nd_len : ∀ (fs gs : List Fct), fs.Nodup → (∀ f ∈ fs, f ∈ gs) → fs.length ≤ gs.length
  | [], _, _, _ => Nat.zero_le _
  | a :: r, gs, nd, h => by
    rw [List.nodup_cons] at nd
    have ih := nd_len r (gs.filter fun g => decide (g ≠ a)) nd.2 fun f hf => List.mem_filter.mpr ⟨h f (List.mem_cons_of_mem _ hf), decide_eq_true fun z => nd.1 (by rw [← z]; exact hf)⟩
    have : (gs.filter fun g => decide (g ≠ a)).length < gs.length := by
      rw [List.length_filter_lt_length_iff_exists]
      exact ⟨a, h a (by simp), by simp⟩
    rw [List.length_cons]
    omega
/-- at most six facts -/
theorem facts_le {fs : List Fct} (nd : fs.Nodup) (h : ∀ f ∈ fs, fcOk f) : fs.length ≤ 6 := by
  have hs : ∀ f ∈ fs, f ∈ ([(pS, 0), (pS, 1), (pS, 2), (qS, 0), (qS, 1), (qS, 2)] : List Fct) := by
    rintro ⟨n, k⟩ hf
    obtain ⟨h1, h2⟩ := h _ hf
    rcases h1 with rfl | rfl <;> rcases h2 with rfl | rfl | rfl <;> simp
  exact nd_len fs _ nd hs
end DH
namespace DH
open PySem PySem.Spec L2
open PyProof.Rows hiding St
/-- what the lambda call rests on -/
structure TellT (K : PySem.W.Frag) (mg : Str → Option Value) (base : Heap) (T : List (Addr × Str)) (CN c Pt : Addr) where
  TB : LamX.TabB base mg c Pt
  mT : (Pt, qLam "law") ∈ T
  uT : ∀ p ∈ T, p.1 = Pt → p.2 = qLam "law"
  c1 : Addr
  c2 : Addr
  c3 : Addr
  c4 : Addr
  c6 : Addr
  c7 : Addr
  c8 : Addr
  c9 : Addr
  c10 : Addr
  N : ToldT K mg c1 c2 c3 c4 CN c6 c7 c8 c9 c10
  g : Addr
  fd : FuncData
  F : Fun K "_law_told" "_law_told" sTold g fd
  m : mg "_law_told" = some (.ref g)
  b : L2.Binds K fd ["_law_what"] []
abbrev badT (K : PySem.W.Frag) (P : Program) (w : World) : TT := tTest (tOp rEq (tNGet P w (tVar 2) (tVar 20)) (tOp (rInD K) (tVar 20) (tVar 8)))
abbrev aftT (K : PySem.W.Frag) (P : Program) (w : World) : TT := fun σ H Q => tNGet P w (tVar 2) (tVar 20) σ H fun x H' => ∃ k, TruV K x H' k ∧ Q k H'
theorem eqv_factsL (fs : List Fct) : PyData.eqv (.list (fs.map factD)) (.list []) = decide (fs = []) := by
  rw [eqv_nilL]
  simp
section
variable {P : Program} {w : World} {K : PySem.W.Frag} {mg : Str → Option Value} {base : Heap} {T : List (Addr × Str)} {CS CR CC CN : Addr} {f : Addr} {cd : Value} {A : Around} {outer : List Env} {s : Shared} {H0 : Hp} {E : XK}
theorem partE1 {c Pt : Addr} (hc : cd = .ref c) (G : LawG P w K mg base T CS CR CC CN) (L : TellT K mg base T CN c Pt) (hr : Room 20 (LX P w K mg base f cd A outer s H0 E).A) {rest : List Stmt} {u : TS} (hrest : PSs (LX P w K mg base f cd A outer s H0 E) rest u) :
    ∃ t, PSs (LX P w K mg base f cd A outer s H0 E) (lb 14 :: lb 15 :: rest) t ∧ ∀ (D : Ends) (H : Hp) (ch net l st : Addr) (es : List NetE) (fl : FL) (Fc F : List Addr) (v0 v1 v3 v4 v5 v6 v7 v9 v10 v11 v12 v13 : Option V),
      H net = some (NetO P w net es) → NetKeys H es → (es.map (·.1)).Nodup → (∀ e ∈ es, fcOk e.1) → es.length ≤ 11 → ChS H CC ch Fc (cA es) (cD es) → StS H CS CR st F (ofL (fl.map (·.2))) → (∀ b ∈ F, b ∉ Fc) → H l = some (.lst (frs1 fl)) → FactsAt H fl → (∀ x ∈ fl, fcOk x.2) → LamX.Tabs T H →
      (∀ (bad : Bool) (told : V) (S' : Cont) (F' : List Addr) (H' : Hp), (bad = true ∧ told = .str "no such" ∧ S' = ofL (fl.map (·.2)) ∨ bad = false ∧ told = .non ∧ S' = laidC (ofL (fl.map (·.2))) (cA es) (cD es)) → Kp T F H H' → StS H' CS CR st F' S' →
        u D [v0, v1, some (.ref net), v3, v4, v5, v6, v7, some (.ref l), v9, v10, v11, v12, v13, some (.bl bad), some told, none, some (.ref ch), some (.ref st), none, none] H') →
      t D [v0, v1, some (.ref net), v3, v4, v5, v6, v7, some (.ref l), v9, v10, v11, v12, v13, none, none, none, some (.ref ch), some (.ref st), none, none] H := by
  have hu : (LX P w K mg base f cd A outer s H0 E).A.units + 10 < cLine := by have := hr.un; omega
  have hu65 : (LX P w K mg base f cd A outer s H0 E).A.units + 65 < cLine := by have := hr.un; omega
  have hr6 : Room 6 (LX P w K mg base f cd A outer s H0 E).A := hr.mono (by decide)
  obtain ⟨oc, od, kV, doc, pm, an, cdv, ct, osl, hfd, lk, hcdv⟩ := L.F.ex
  have hbT := L.b
  rw [hfd] at hbT lk
  subst hc
  refine ⟨_, pss_cons (ps_set (i := 14) sc_law21.nd rfl (Or.inl rfl) (pe_cmpR (op_neD hr.units)
        (pe_lock (pe_lc (own := [("_law_key", 20)]) (g := gName 20) (tt := badT K P w) (te := tVar 20) rfl sc_law21.nd (pi_net (pv 2)) (blkOk_by (N := N21) (sc := defScope sLaw) (by decide +kernel))
            (fun _ _ _ _ _ => pg_name (i := 20) sc_law21.nd rfl (Or.inl rfl))
            (fun _ _ _ _ _ => pts_one (pt_cmpR op_eq (pe_nget (by exact hu) (pv 2) (pv 20) (fun _ _ => rfl)) (pe_cmpR (op_inD (by exact hu65)) (pv 20) (pv 8) rfl) (nomark _))) (fun _ _ _ _ _ => pv 20))) (pe_lst pa_nil) (nomark _)))
    (pss_cons (ps_set (i := 15) sc_law21.nd rfl (Or.inl rfl) (LamX.pe_lamcall (T := T) (TT := TTno CN) (k := 4) (P := Pt) (c := c) (Ng := ["_law_what"]) (t := fun E => tCall (spLaid T CS CR CC CN) [] E (tCons (tVar 18) (tCons (tVar 17) tNil))) rfl L.m L.F.kp lk hcdv hbT sc_told rfl (Or.inl rfl) (told_ten L.N) L.TB rfl L.mT L.uT hr6 (LamX.lamS_by (sc := defScope sLaw) (by decide +kernel)) rfl (fun _ _ _ _ _ => rfl)
        (fun _ _ _ _ _ _ _ hrb => pe_call G.GLa hrb rfl G.mLa G.kLa G.bLa .nil (passes_call (takes_of rfl rfl rfl rfl) fun _ _ _ _ h => h) (pa_cons (pv 18) (pa_cons (pv 17) pa_nil)))))
    hrest), ?_⟩
  intro D H ch net l st es fl Fc F v0 v1 v3 v4 v5 v6 v7 v9 v10 v11 v12 v13 hnet keys nd ok hlen hCh hSt hdj hl hfl okl hT k
  have nln : l ≠ net := fun z => by
    rw [z, hnet] at hl
    unfold NetO at hl
    cases hl
  have tn : ∀ b xs, H b = some (.tup xs) → b ≠ net := fun b xs e => ne_of e hnet (fun z => by unfold NetO at z; cases z)
  dsimp only [tSeq, tAsg, tOp, gName]
  refine net_comp (K := K) (T := T) (p := badN (fl.map (·.2))) (σ := [v0, v1, some (.ref net), v3, v4, v5, v6, v7, some (.ref l), v9, v10, v11, v12, v13, none, none, none, some (.ref ch), some (.ref st), none, none]) s.heap rfl (fun _ => rfl) (fun _ => rfl) hnet keys hlen (fun e he od H' hN keys' kb R hR => ?_) fun q H1 k1 hq1 hf1 => ?_
  · have hl' := kb l _ hl .lst nln
    have hf' : FactsAt H' fl := fun x hx => (hfl x hx).app fun b xs hx => kb b _ hx .tup (tn b xs hx)
    refine ⟨_, rfl, _, rfl, net, e.2.1, e.1, es, e.2.2, rfl, rfl, keys' e he, .inr ⟨od, hN⟩, keys', (valN_mem nd e.1 e.2.2).mpr ⟨e.2.1, he⟩, _, rfl, _, rfl, factD e.1, (fl.map (·.2)).map factD, Dp.fact (keys' e he), .lst (SqL.of hl') (DpAll.facts hf'), shaped_fact (ok e he), shaped_facts fun g hg => ?_, ?_⟩
    · obtain ⟨x, hx, rfl⟩ := List.mem_map.mp hg
      exact okl x hx
    · rw [any_facts]
      exact ⟨rfl, _, rfl, hR⟩
  · refine ⟨by show 0 ≤ sizeLine; decide, fun e he => ?_⟩
    have k2 : Kp T [] H1 (upd H1 e (.lst [])) := .new he
    refine ⟨.list (((pickN es (badN (fl.map (·.2)))).map (·.2)).map factD), .list [], .lst (SqL.of (k2.lst hq1 List.not_mem_nil)) (DpAll.facts (hf1.kp0 k2)), .lst (SqL.of upd_same) .nil, shaped_facts fun g hg => ?_, shaped_nil, ?_⟩
    · obtain ⟨x, hx, rfl⟩ := List.mem_map.mp hg
      exact pick_ok ok x hx
    · rw [eqv_factsL]
      have kH2 := k1.trans0 k2
      refine ⟨kH2.tabs hT, fun H3 eN T3 => ?_⟩
      have kH3 : Kp T [] H H3 := kH2.trans0 (.of_ext eN T3)
      have e0 : (pickN es (badN (fl.map (·.2)))).map (·.2) = [] ↔ Fits (ofL (fl.map (·.2))) (cA es) (cD es) := by
        rw [List.map_eq_nil_iff]
        exact bad_iff nd
      refine ⟨_, rfl, _, rfl, st, ch, F, Fc, _, _, _, rfl, T3, hSt.kp0 kH3, hCh.kp0 kH3, hdj, fun hfit F' H4 k4 hS4 _ => ?_, fun hnf H4 k4 => ⟨rfl, ?_⟩⟩
      · rw [decide_eq_true (e0.mpr hfit)]
        exact k false _ _ F' H4 (.inr ⟨rfl, rfl, rfl⟩) ((kH3.mono fun _ z => nomatch z).transS k4) hS4
      · rw [decide_eq_false fun z => hnf (e0.mp z)]
        exact k true _ _ F H4 (.inl ⟨rfl, rfl, rfl⟩) ((kH3.trans0 k4).mono fun _ z => nomatch z) ((hSt.kp0 kH3).kp0 k4)
theorem partE2 (G : LawG P w K mg base T CS CR CC CN) (hr : Room 20 (LX P w K mg base f cd A outer s H0 E).A) {rest : List Stmt} {u : TS} (hrest : PSs (LX P w K mg base f cd A outer s H0 E) rest u) :
    ∃ t, PSs (LX P w K mg base f cd A outer s H0 E) (lb 16 :: lb 17 :: rest) t ∧ ∀ (D : Ends) (H : Hp) (net l st : Addr) (es : List NetE) (fl : FL) (F : List Addr) (bad : Bool) (told : V) (S' : Cont) (v0 v1 v3 v4 v5 v6 v7 v9 v10 v11 v12 v13 v17 : Option V),
      H net = some (NetO P w net es) → NetKeys H es → (es.map (·.1)).Nodup → (∀ e ∈ es, fcOk e.1) → es.length ≤ 11 → (bad = true ∧ told = .str "no such" ∧ S' = ofL (fl.map (·.2)) ∨ bad = false ∧ told = .non ∧ S' = laidC (ofL (fl.map (·.2))) (cA es) (cD es)) → StS H CS CR st F S' → H l = some (.lst (frs1 fl)) → FactsAt H fl → (∀ x ∈ fl, fcOk x.2) → (fl.map (·.2)).Nodup → LamX.Tabs T H →
      (∀ v16 H', Kp T [] H H' → u D [v0, v1, some (.ref net), v3, v4, v5, v6, v7, some (.ref l), v9, v10, v11, v12, v13, some (.bl bad), some told, v16, v17, some (.ref st), none, none] H') →
      t D [v0, v1, some (.ref net), v3, v4, v5, v6, v7, some (.ref l), v9, v10, v11, v12, v13, some (.bl bad), some told, none, v17, some (.ref st), none, none] H := by
  have hu : (LX P w K mg base f cd A outer s H0 E).A.units + 10 < cLine := by have := hr.un; omega
  have hr9 : Room 9 (LX P w K mg base f cd A outer s H0 E).A := hr.mono (by decide)
  have hr4 : Room 4 (LX P w K mg base f cd A outer s H0 E).A := hr.mono (by decide)
  refine ⟨_, pss_cons (ps_set (i := 16) sc_law21.nd rfl (Or.inl rfl) (pe_op op_cat
        (pe_lc (own := [("_law_fact", 4)]) (g := gName 4) (tt := tTest (tOp (rInN P w true) (tVar 4) (tVar 2))) (te := tVar 4) rfl sc_law21.nd (pi_list (pv 8)) (blkOk_by (N := N21) (sc := defScope sLaw) (by decide +kernel))
            (fun _ _ _ _ _ => pg_name (i := 4) sc_law21.nd rfl (Or.inl rfl)) (fun _ _ _ _ _ => pts_one (pt_cmpR (op_notInN (by exact hu)) (pv 4) (pv 2) rfl)) (fun _ _ _ _ _ => pv 4))
        (pe_lock (pe_lc (own := [("_law_key", 20)]) (g := gName 20) (tt := aftT K P w) (te := tVar 20) rfl sc_law21.nd (pi_net (pv 2)) (blkOk_by (N := N21) (sc := defScope sLaw) (by decide +kernel))
            (fun _ _ _ _ _ => pg_name (i := 20) sc_law21.nd rfl (Or.inl rfl))
            (fun _ _ _ _ _ => pts_one (pt_truth (pe_nget (by exact hu) (pv 2) (pv 20) (fun _ _ => rfl)) (fun _ => rfl))) (fun _ _ _ _ _ => pv 20)))))
    (pss_cons (ps_if (PW.pt (pw_or (pt_cmpR op_ne (pv 15) (pe_ifExp (pt_truth (pv 14) (fun _ => rfl)) pe_str pe_non) (nomark _))
          (pw_or1 (pt_cmpR (op_neD hr.units) (pe_meth0 (pv 18) G.S.cl G.mSS G.GSS hr9 G.bSS .nil pass0) (pe_meth0 (pe_call G.GSo hr4 rfl G.mSo G.kSo G.bSo .nil pass0 (pa_cons (pe_ifExp (pt_truth (pv 14) (fun _ => rfl)) (pv 8) (pv 16)) pa_nil)) G.S.cl G.mSS G.GSS hr9 G.bSS .nil pass0) (nomark _)))))
        (pss_one (ps_ret pe_bl)) pss_nil)
    hrest), ?_⟩
  intro D H net l st es fl F bad told S' v0 v1 v3 v4 v5 v6 v7 v9 v10 v11 v12 v13 v17 hnet keys nd ok hlen hcase hSt hl hfl okl ndl hT k
  have lfl : fl.length ≤ 6 := by
    have := facts_le ndl fun g hg => by
      obtain ⟨x, hx, rfl⟩ := List.mem_map.mp hg
      exact okl x hx
    rw [List.length_map] at this
    exact this
  dsimp only [tSeq, tAsg, tOp, gName]
  refine miss_comp (T := T) (net := net) (es := es) (σ := [v0, v1, some (.ref net), v3, v4, v5, v6, v7, some (.ref l), v9, v10, v11, v12, v13, some (.bl bad), some told, none, v17, some (.ref st), none, none]) rfl (fun _ => rfl) (fun _ => rfl) (fun _ => rfl) hnet keys hl hfl (by omega) fun q1 H1 k1 hq1 hf1 => ?_
  refine net_comp (K := K) (T := T) (p := fun e => e.2.2) (σ := [v0, v1, some (.ref net), v3, v4, v5, v6, v7, some (.ref l), v9, v10, v11, v12, v13, some (.bl bad), some told, none, v17, some (.ref st), none, none]) s.heap rfl (fun _ => rfl) (fun _ => rfl) (k1.keep net _ hnet .net List.not_mem_nil) (keys.kp k1 fun _ z => nomatch z) hlen (fun e he od H' hN keys' kb R hR => ?_) fun q2 H2 k2 hq2 hf2 => ?_
  · exact ⟨_, rfl, _, rfl, net, e.2.1, e.1, es, e.2.2, rfl, rfl, keys' e he, .inr ⟨od, hN⟩, keys', (valN_mem nd e.1 e.2.2).mpr ⟨e.2.1, he⟩, _, rfl, hR⟩
  have lm : (missN fl es).length ≤ 6 := Nat.le_trans (List.length_filter_le _ _) lfl
  have lp : (pickN es fun e => e.2.2).length ≤ 11 := by
    unfold pickN
    rw [List.length_map]
    exact Nat.le_trans (List.length_filter_le _ _) hlen
  refine ⟨q1, q2, _, _, rfl, rfl, k2.lst hq1 List.not_mem_nil, hq2, by rw [List.length_map, List.length_map]; exact Nat.le_of_lt (small1000 (by omega)), fun q3 hq3 => ?_⟩
  have k3 : Kp T [] H2 (upd H2 q3 (.lst (frs1 (missN fl es) ++ frs1 (pickN es fun e => e.2.2)))) := .new hq3
  have h3 : upd H2 q3 (.lst (frs1 (missN fl es) ++ frs1 (pickN es fun e => e.2.2))) q3 = some (.lst (frs1 (missN fl es ++ pickN es fun e => e.2.2))) := by
    rw [upd_same]
    simp
  have kH3 := (k1.trans0 k2).trans0 k3
  have hf3 : FactsAt (upd H2 q3 (.lst (frs1 (missN fl es) ++ frs1 (pickN es fun e => e.2.2)))) (missN fl es ++ pickN es fun e => e.2.2) := fun x hx => by
    rcases List.mem_append.mp hx with h | h
    · exact ((hf1.kp0 k2).kp0 k3) x h
    · exact (hf2.kp0 k3) x h
  generalize upd H2 q3 (.lst (frs1 (missN fl es) ++ frs1 (pickN es fun e => e.2.2))) = H3 at k3 h3 kH3 hf3 ⊢
  have ok3 : ∀ x ∈ (missN fl es ++ pickN es fun e => e.2.2), fcOk x.2 := fun x hx => by
    rcases List.mem_append.mp hx with h | h
    · exact miss_ok okl x h
    · exact pick_ok ok x h
  have hS3 := hSt.kp0 kH3
  have hl3 := kH3.lst hl List.not_mem_nil
  have hfl3 := hfl.kp0 kH3
  dsimp only [tIfS, tOr, tTest, tOp, tIf]
  rcases hcase with ⟨rfl, rfl, rfl⟩ | ⟨rfl, rfl, rfl⟩
  · refine ⟨_, rfl, _, rfl, true, rfl, iteT ⟨rfl, _, rfl, ?_⟩⟩
    rw [decide_eq_true rfl]
    refine iteF ?_
    refine shown_read (T := T) (CS := CS) (CR := CR) (K := K) (fun R h => ⟨_, rfl, h⟩) (kH3.tabs hT) hS3 fun p4 H4 k4 hp4 => ?_
    refine ⟨_, rfl, true, rfl, iteT ⟨_, rfl, l, fl, rfl, k4.lst hl3 List.not_mem_nil, hfl3.kp0 k4, okl, fun s5 F5 H5 k5 hS5 nf => ?_⟩⟩
    obtain ⟨dr5, es5, hS5', _⟩ := id hS5
    obtain ⟨dx5, hi5⟩ := hS5'.ins
    refine ⟨s5, dx5, _, rfl, hi5, lkRn _ (by decide +kernel), s5, F5, _, rfl, ((kH3.trans0 k4).trans0 k5).tabs hT, hS5, fun p6 H6 k6 hp6 => ?_⟩
    refine sh_ne (Dp.kp (k5.trans0 k6) (fun _ z => nomatch z) _ _ (noLs_shD _) hp4) hp6 rfl ⟨_, rfl, iteF ?_⟩
    exact k _ _ (((kH3.trans0 k4).trans0 k5).trans0 k6)
  · refine ⟨_, rfl, _, rfl, false, rfl, iteF ⟨rfl, _, rfl, ?_⟩⟩
    rw [decide_eq_true rfl]
    refine iteF ?_
    refine shown_read (T := T) (CS := CS) (CR := CR) (K := K) (fun R h => ⟨_, rfl, h⟩) (kH3.tabs hT) hS3 fun p4 H4 k4 hp4 => ?_
    refine ⟨_, rfl, false, rfl, iteF ⟨_, rfl, q3, _, rfl, k4.lst h3 List.not_mem_nil, hf3.kp0 k4, ok3, fun s5 F5 H5 k5 hS5 nf => ?_⟩⟩
    obtain ⟨dr5, es5, hS5', _⟩ := id hS5
    obtain ⟨dx5, hi5⟩ := hS5'.ins
    refine ⟨s5, dx5, _, rfl, hi5, lkRn _ (by decide +kernel), s5, F5, _, rfl, ((kH3.trans0 k4).trans0 k5).tabs hT, hS5, fun p6 H6 k6 hp6 => ?_⟩
    refine sh_ne (Dp.kp (k5.trans0 k6) (fun _ z => nomatch z) _ _ (noLs_shD _) hp4) hp6 (after_eq nd).symm ⟨_, rfl, iteF ?_⟩
    exact k _ _ (((kH3.trans0 k4).trans0 k5).trans0 k6)
end
end DH
namespace DH
open PySem PySem.Spec L2
open PyProof.Rows hiding St
def spLaw (K : PySem.W.Frag) (T : List (Addr × Str)) : Sp := fun vs H Q _ => ∃ (a : Addr) (ns : List Int), vs = [.ref a] ∧ SqL K H a (ns.map V.int) ∧ LamX.Tabs T H ∧ ∀ H', Q (.bl true) H'
theorem lawBody_eq : lawBody = [lb 0, lb 1, lb 2, lb 3, lb 4, lb 5, lb 6, lb 7, lb 8, lb 9, lb 10, lb 11, lb 12, lb 13, lb 14, lb 15, lb 16, lb 17] := rfl
section
variable {P : Program} {w : World} {K : PySem.W.Frag} {mg : Str → Option Value} {base : Heap} {T : List (Addr × Str)} {CS CR CC CN : Addr}
section
variable {f : Addr} {cd : Value} {A : Around} {outer : List Env} {s : Shared} {H0 : Hp} {E : XK}
/-- one round -/
theorem round {c Pt : Addr} (hc : cd = .ref c) (G : LawG P w K mg base T CS CR CC CN) (L : TellT K mg base T CN c Pt) (hr : Room 20 (LX P w K mg base f cd A outer s H0 E).A) :
    ∃ t, PSs (LX P w K mg base f cd A outer s H0 E) lawBody t ∧ ∀ (D : Ends) (H : Hp) (sc d r : Addr) (a b c : Int), H d = some (.lst (diceV a b c)) → H r = some (.lst [.ref d]) → LamX.Tabs T H →
      (∀ σ H', H' r = some (.lst [.ref d]) → D.nx σ H') → t D [some (.ref sc), some (.ref d), none, none, none, none, none, none, none, none, none, none, none, none, none, none, none, none, none, none, none] H := by
  obtain ⟨t6, h6, e6⟩ := partE2 (f := f) (cd := cd) (A := A) (outer := outer) (s := s) (H0 := H0) (E := E) G hr pss_nil
  obtain ⟨t5, h5, e5⟩ := partE1 hc G L hr h6
  obtain ⟨t4, h4, e4⟩ := partD G hr h5
  obtain ⟨t3, h3, e3⟩ := partC G hr h4
  obtain ⟨t2, h2, e2⟩ := partB G hr h3
  obtain ⟨t1, h1, e1⟩ := partA G hr h2
  rw [lawBody_eq]
  refine ⟨t1, h1, fun D H sc d r a b c hd hrr hT k => ?_⟩
  have nrd : r ≠ d := fun z => by
    rw [z, hd] at hrr
    cases hrr
  refine e1 D H sc d a b c hd fun v3 v4 v5 ch net Fc es Ha AA hlen => ?_
  refine e2 D Ha net es _ _ _ _ _ _ AA.nt AA.keys AA.nd AA.ok hlen fun v5' v7 v9 l dl Hb kb hdue hnm => ?_
  have hdjF : d ∉ Fc := by
    obtain ⟨a', b', c', hd'⟩ := AA.dice
    exact Dct.ne AA.chs.dct hd' .lst
  refine e3 D Hb ch Fc (cA es) (cD es) l dl _ _ _ _ _ _ _ _ (AA.chs.kp0 kb) hdue hnm ((AA.kp.trans0 kb).tabs hT) fun Hc kc => ?_
  obtain ⟨a', b', c', hda⟩ := AA.dice
  have kac := kb.trans0 kc
  have hdc := kac.lst hda List.not_mem_nil
  have hTc := (AA.kp.trans0 kac).tabs hT
  have hchc := AA.chs.kp0 kac
  have hnc := kac.keep net _ AA.nt .net List.not_mem_nil
  have hkc : NetKeys Hc es := AA.keys.kp kac fun _ z => nomatch z
  refine e4 D Hc d a' b' c' _ _ _ _ _ _ _ _ _ hdc hTc fun v10 v11 v12 v13 l1 st fl F Hd AD => ?_
  have mud : ∀ b ∈ [d], Mu Hc b := fun b hb => by
    rw [List.mem_singleton.mp hb]
    exact .lst hdc
  have nnd : net ≠ d := ne_of hnc hdc (fun z => by unfold NetO at z; cases z)
  have hnd := AD.kp.keep net _ hnc .net (by simpa using nnd)
  have hkd : NetKeys Hd es := hkc.kp AD.kp mud
  have hchd : ChS Hd CC ch Fc (cA es) (cD es) := hchc.kp AD.kp mud fun b hb z => hdjF (by rw [← List.mem_singleton.mp z]; exact hb)
  have hFF : ∀ b ∈ F, b ∉ Fc := fun b hb z => disj_new hchc.dct AD.nw b z hb
  refine e5 D Hd ch net l1 st es fl Fc F _ _ _ _ _ _ _ _ _ _ _ _ hnd hkd AA.nd AA.ok hlen hchd AD.st_ hFF AD.at_ AD.fs AD.ok (AD.kp.tabs hTc) fun bad told S' F' He hcase ke hSe => ?_
  have muF : ∀ b ∈ F, Mu Hd b := fun b hb => .dct (AD.st_.dct b hb)
  refine e6 D He net l1 st es fl F' bad told S' _ _ _ _ _ _ _ _ _ _ _ _ _ (ke.keep net _ hnd .net (Dct.ne AD.st_.dct hnd .net)) (hkd.kp ke muF) AA.nd AA.ok hlen hcase hSe (ke.lst AD.at_ (Dct.ne AD.st_.dct AD.at_ .lst)) (AD.fs.kp ke muF) AD.ok AD.nd (ke.tabs (AD.kp.tabs hTc)) fun v16 Hf kf => ?_
  have nr1 : r ∉ [d] := by simpa using nrd
  have hrd := AD.kp.lst (kac.lst (AA.kp.lst hrr nr1) List.not_mem_nil) nr1
  exact k _ Hf (kf.lst (ke.lst hrd (Dct.ne AD.st_.dct hrd .lst)) List.not_mem_nil)
end
theorem ok_law {f fR : Addr} {fd fdR : FuncData} {c Pt : Addr} (F : Fun K "law" "law" sLaw f fd) (hcode : fd.code = .ref c) (G : LawG P w K mg base T CS CR CC CN) (L : TellT K mg base T CN c Pt)
    (GR : FnOk P w K mg base CX0 2 fR fdR ["_law_script", "_law_most"] (spRounds K T)) (mR : mg "_law_rounds" = some (.ref fR)) (kR : PySem.W.keepIn K (.ref fR) = true) (bR : L2.Binds K fdR ["_law_script", "_law_most"] []) :
    FnOk P w K mg base CX0 21 f fd ["_law_script"] (spLaw K T) := by
  refine okC F sc_law21 (fun vs H Q E h => ?_) (fun A outer s H vs Q E hr h => ?_)
  · obtain ⟨a, ns, rfl, _⟩ := h
    rfl
  · obtain ⟨a, ns, rfl, hS, hT, k⟩ := h
    obtain ⟨t, ht, q⟩ := round (f := f) (cd := fd.code) (A := A) (outer := outer) (s := s) (H0 := H) (E := E) hcode G L hr
    refine ⟨_, pss_cons (ps_for PassesOwn.never rfl (pi_list (pe_call GR (hr.mono (by decide)) rfl mR kR bR .nil pass0 (pa_cons (pv 0) (pa_cons pe_int pa_nil)))) (pg_name (i := 1) sc_law21.nd rfl (Or.inl rfl)) ht) (pss_one (ps_ret pe_bl)), ?_⟩
    refine ⟨_, rfl, a, ns, rfl, hS, fun r d x y z H1 k1 nd hr1 hd1 => ⟨r, rfl, ⟨_, SqL.of hr1⟩, ?_⟩⟩
    refine for_list (K := K) (a := r) (xs := [.ref d]) (fun i σ H2 => (i = 0 ∧ σ = [some (.ref a), none, none, none, none, none, none, none, none, none, none, none, none, none, none, none, none, none, none, none, none] ∧ H2 = H1) ∨ (i = 1 ∧ H2 r = some (.lst [.ref d]))) (.inl ⟨rfl, rfl, rfl⟩) ?_ ?_ ?_
    · rintro i σ H2 _ (⟨_, _, rfl⟩ | ⟨_, h⟩)
      · exact SqL.of hr1
      · exact SqL.of h
    · rintro i v σ H2 hv (⟨rfl, rfl, rfl⟩ | ⟨rfl, _⟩)
      · have ev : v = .ref d := (Option.some.inj hv).symm
        subst ev
        exact q _ _ a d r x y z hd1 hr1 (k1.tabs hT) fun σ' H' h' => .inr ⟨rfl, h'⟩
      · cases hv
    · intro σ H2 _
      exact k H2
end
end DH
namespace DH
open PySem PySem.Spec L2
open PyProof.Rows hiding St
theorem tabIn_of {K : PySem.W.Frag} {x : Str} {f c P : Addr} {oc xc : Value} {od xd : Option Addr} {sl xs : Array (Option Value)} {fd : FuncData} {vs : Array Value} (a : PySem.W.nsIn K mainGlobals x = some (some (.ref f))) (l : K.lookup f = some ⟨oc, od, .func fd, sl⟩) (hc : fd.code = .ref c)
    (lc : K.lookup c = some ⟨xc, xd, .fields vs, xs⟩) (hv : (vs[11]? : Option Value) = some (.ref P)) : PySem.W.tabIn K x = some (c, P) := by
  unfold PySem.W.tabIn
  simp only [a, l, hc, lc, hv]
theorem lookup_none {K : PySem.W.Frag} {as : List Addr} (e : as = K.map (·.1)) {P : Addr} (h : (as.all fun a => !(a == P)) = true) : K.lookup P = none := by
  subst e
  induction K with
  | nil => rfl
  | cons p r ih =>
    rw [List.map_cons, List.all_cons, Bool.and_eq_true] at h
    have hp : (P == p.1) = false := by
      have := h.1
      cases q : (P == p.1) with
      | false => rfl
      | true => rw [beq_iff_eq.mp q] at this; simp at this
    rw [List.lookup_cons, hp]
    exact ih h.2
/-- what is known of the law -/
def LawF (l : PySem.W.OpenLaw) (w : World) (K : PySem.W.Frag) (mg : Str → Option Value) (fa : Addr) : Prop :=
  ∃ (c1 P1 c2 P2 c3 P3 : Addr) (fd : FuncData), PySem.W.tabIn K "in_order" = some (c1, P1) ∧ PySem.W.tabIn K "laid_on" = some (c2, P2) ∧ PySem.W.tabIn K "law" = some (c3, P3) ∧ K.lookup P1 = none ∧ K.lookup P2 = none ∧ K.lookup P3 = none ∧
    (∀ (s : Shared) (u : Value), BindsTo s fd ⟨[u], []⟩ [("_law_script", u)]) ∧
    ∀ base : Heap, K.In base → base.Ns mainGlobals mg → (∀ p ∈ [(c1, P1), (c2, P2), (c3, P3)], LamX.TabB base mg p.1 p.2) → FnOk l.prog w K mg base CX0 21 fa fd ["_law_script"] (spLaw K [(P1, qLam "in_order"), (P2, qGen "laid_on"), (P3, qLam "law")])
theorem walk {l : PySem.W.OpenLaw} {q : Program} {loose : List Str} {XP : (Str → Option Value) → Heap → Prop} {YP : World → Heap → Prop} {d : DefRec} {K : Params → PySem.W.Frag}
    (hn : l.most = some 63) (hdf : d.params.defaults = []) (hY : ∀ (w : World) (h : Heap), YP w h → (K w.params).In h)
    (r1 : ((recsOf q).find? fun e => e.name == ("in_order" : Str)).isSome = true) (r2 : ((recsOf q).find? fun e => e.name == ("laid_on" : Str)).isSome = true) (r3 : ((recsOf q).find? fun e => e.name == ("law" : Str)).isSome = true)
    (F : ∀ (w : World) (mg : Str → Option Value) (fa : Addr) (h : Heap), (K w.params).In h → h.Ns mainGlobals mg → mg d.name = some (.ref fa) → LawF l w (K w.params) mg fa) :
    PySem.W.WalkO q loose XP YP l.row.toRowW d [] (fun f vs => PySem.call f vs) := by
  refine Att.attach_callB hn hdf fun w s₀ s₁ mg mb fa o pm cd doc a vs ns G Y ho hd hcd hmg hobj hints hlen hbits hg => ?_
  have KX := hY w _ Y
  obtain ⟨c1, P1, c2, P2, c3, P3, fd, t1, t2, t3, n1, n2, n3, hb, hF⟩ := F w mg fa _ KX G.T.g hmg
  obtain ⟨d1, e1⟩ := Option.isSome_iff_exists.mp r1
  obtain ⟨d2, e2⟩ := Option.isSome_iff_exists.mp r2
  obtain ⟨d3, e3⟩ := Option.isSome_iff_exists.mp r3
  have x1 := PySem.W.tab_of G.T KX e1 t1
  have x2 := PySem.W.tab_of G.T KX e2 t2
  have x3 := PySem.W.tab_of G.T KX e3 t3
  have all3 : ∀ (Pr : Addr × Addr → Prop), Pr (c1, P1) → Pr (c2, P2) → Pr (c3, P3) → ∀ p ∈ [(c1, P1), (c2, P2), (c3, P3)], Pr p := fun Pr h1 h2 h3 p hp => by
    simp only [List.mem_cons, List.not_mem_nil, or_false] at hp
    rcases hp with rfl | rfl | rfl
    · exact h1
    · exact h2
    · exact h3
  refine LamX.law_callTs (cs := [(c1, P1), (c2, P2), (c3, P3)]) (CX := CX0) (k := 21) KX G.T.g G.T.b G.T.builtins G.T.nolimit hg (all3 _ x1.2 x2.2 x3.2) (all3 _ n1 n2 n3) (all3 _ x1.1 x2.1 x3.1) G.T.bmain hobj hints (Nat.le_trans hlen (by decide)) ⟨rfl, by decide, by decide⟩ hF hb (fun H hH hS => ?_) fun H e s' z => z
  refine ⟨a, ns, rfl, hS, fun p hp => ?_, fun _ => rfl⟩
  simp only [List.mem_cons, List.not_mem_nil, or_false] at hp
  rcases hp with rfl | rfl | rfl
  · exact LamX.TabS.nil (hH (c1, P1) (by simp))
  · exact LamX.TabS.nil (hH (c2, P2) (by simp))
  · exact LamX.TabS.nil (hH (c3, P3) (by simp))
theorem all_mk {l : PySem.W.OpenLaw} {w : World} {K : PySem.W.Frag} {h : Heap} {mg : Str → Option Value} {fa : Addr} {CR CS CC f1 f2 f3 f4 f5 f6 f7 f8 f9 f10 f11 f12 f13 f21 f22 f23 f24 f25 f26 f27 f28 f29 f30 f31 f32 f33 f34 f35 f36 f37 f38 f50 T0 d0 e1 e2 e3 e4 e5 e6 e7 e8 e9 e10 cc1 P1 cc2 P2 cc3 P3 : Addr} {od1 an1 od2 an2 od3 an3 od4 an4 od5 an5 od6 an6 od7 an7 od8 an8 od9 an9 od10 an10 od11 an11 od12 an12 od13 an13 od21 an21 od22 an22 od23 an23 od24 an24 od25 an25 od26 an26 od27 an27 od28 an28 od29 an29 od30 an30 od31 an31 od32 an32 od33 an33 od34 an34 od35 an35 od36 an36 od37 an37 od38 an38 od50 an50 odT0 odd0 xd1 xd2 xd3 : Option Addr} {sl1 sl2 sl3 sl4 sl5 sl6 sl7 sl8 sl9 sl10 sl11 sl12 sl13 sl21 sl22 sl23 sl24 sl25 sl26 sl27 sl28 sl29 sl30 sl31 sl32 sl33 sl34 sl35 sl36 sl37 sl38 sl50 slT0 sld0 xs1 xs2 xs3 : Array (Option Value)} {vs1 vs2 vs3 : Array Value} {nT0 nd0 : Nat}
    {oc1 kV1 dc1 pm1 cd1 ct1 oc2 kV2 dc2 pm2 cd2 ct2 oc3 kV3 dc3 pm3 cd3 ct3 oc4 kV4 dc4 pm4 cd4 ct4 oc5 kV5 dc5 pm5 cd5 ct5 oc6 kV6 dc6 pm6 cd6 ct6 oc7 kV7 dc7 pm7 cd7 ct7 oc8 kV8 dc8 pm8 cd8 ct8 oc9 kV9 dc9 pm9 cd9 ct9 oc10 kV10 dc10 pm10 cd10 ct10 oc11 kV11 dc11 pm11 cd11 ct11 oc12 kV12 dc12 pm12 cd12 ct12 oc13 kV13 dc13 pm13 cd13 ct13 oc21 kV21 dc21 pm21 cd21 ct21 oc22 kV22 dc22 pm22 cd22 ct22 oc23 kV23 dc23 pm23 cd23 ct23 oc24 kV24 dc24 pm24 cd24 ct24 oc25 kV25 dc25 pm25 cd25 ct25 oc26 kV26 dc26 pm26 cd26 ct26 oc27 kV27 dc27 pm27 cd27 ct27 oc28 kV28 dc28 pm28 cd28 ct28 oc29 kV29 dc29 pm29 cd29 ct29 oc30 kV30 dc30 pm30 cd30 ct30 oc31 kV31 dc31 pm31 cd31 ct31 oc32 kV32 dc32 pm32 cd32 ct32 oc33 kV33 dc33 pm33 cd33 ct33 oc34 kV34 dc34 pm34 cd34 ct34 oc35 kV35 dc35 pm35 cd35 ct35 oc36 kV36 dc36 pm36 cd36 ct36 oc37 kV37 dc37 pm37 cd37 ct37 oc38 kV38 dc38 pm38 cd38 ct38 oc50 kV50 dc50 pm50 cd50 ct50 ocT0 xc1 xc2 xc3 : Value} (X : K.In h) (G : h.Ns mainGlobals mg) (hfa : mg "law" = some (.ref fa))
    (gR : PySem.W.nsIn K mainGlobals "Relation" = some (some (.ref CR)))
    (pgR : PySem.W.plainGet K CR Str.empty = true)
    (hdR : PySem.W.hasDictIn K CR = true)
    (poR : PySem.W.plainOver K CR = true)
    (saR : PySem.W.findIn K (.ref CR) "__setattr__" = some (some (.builtin "object.__setattr__")))
    (mkR : PySem.W.makesIn K CR = true)
    (kcR : PySem.W.keepIn K (.ref CR) = true)
    (gS : PySem.W.nsIn K mainGlobals "Store" = some (some (.ref CS)))
    (pgS : PySem.W.plainGet K CS Str.empty = true)
    (hdS : PySem.W.hasDictIn K CS = true)
    (poS : PySem.W.plainOver K CS = true)
    (saS : PySem.W.findIn K (.ref CS) "__setattr__" = some (some (.builtin "object.__setattr__")))
    (mkS : PySem.W.makesIn K CS = true)
    (kcS : PySem.W.keepIn K (.ref CS) = true)
    (gC : PySem.W.nsIn K mainGlobals "Changes" = some (some (.ref CC)))
    (pgC : PySem.W.plainGet K CC Str.empty = true)
    (hdC : PySem.W.hasDictIn K CC = true)
    (poC : PySem.W.plainOver K CC = true)
    (saC : PySem.W.findIn K (.ref CC) "__setattr__" = some (some (.builtin "object.__setattr__")))
    (mkC : PySem.W.makesIn K CC = true)
    (kcC : PySem.W.keepIn K (.ref CC) = true)
    (nH : PySem.W.findIn K (.ref CR) "held" = some none)
    (nTb : PySem.W.findIn K (.ref CR) "tables" = some none)
    (nRl : PySem.W.findIn K (.ref CS) "relations" = some none)
    (nAd : PySem.W.findIn K (.ref CC) "added" = some none)
    (nDr : PySem.W.findIn K (.ref CC) "dropped" = some none)
    (z_abs : PySem.W.nsIn K mainGlobals "abs" = some none)
    (z_int : PySem.W.nsIn K mainGlobals "int" = some none)
    (z_range : PySem.W.nsIn K mainGlobals "range" = some none)
    (z_tuple : PySem.W.nsIn K mainGlobals "tuple" = some none)
    (z_sorted : PySem.W.nsIn K mainGlobals "sorted" = some none)
    (z_len : PySem.W.nsIn K mainGlobals "len" = some none)
    (z_dict : PySem.W.nsIn K mainGlobals "dict" = some none)
    (z_list : PySem.W.nsIn K mainGlobals "list" = some none)
    (z_any : PySem.W.nsIn K mainGlobals "any" = some none)
    (z_isinstance : PySem.W.nsIn K mainGlobals "isinstance" = some none)
    (a1 : PySem.W.nsIn K mainGlobals "is_number" = some (some (.ref f1)))
    (l1 : K.lookup f1 = some ⟨oc1, od1, .func (PySem.W.fnOf "is_number" "is_number" (defArgs sIsNum) (defBody sIsNum) (defScope sIsNum) .none kV1 dc1 pm1 an1 cd1 ct1), sl1⟩)
    (c1 : PySem.W.codeIn K cd1 "is_number" = true)
    (k1 : PySem.W.keepIn K (.ref f1) = true)
    (a2 : PySem.W.nsIn K mainGlobals "value_key" = some (some (.ref f2)))
    (l2 : K.lookup f2 = some ⟨oc2, od2, .func (PySem.W.fnOf "value_key" "value_key" (defArgs sVKey) (defBody sVKey) (defScope sVKey) .none kV2 dc2 pm2 an2 cd2 ct2), sl2⟩)
    (c2 : PySem.W.codeIn K cd2 "value_key" = true)
    (k2 : PySem.W.keepIn K (.ref f2) = true)
    (a3 : PySem.W.nsIn K mainGlobals "row_key" = some (some (.ref f3)))
    (l3 : K.lookup f3 = some ⟨oc3, od3, .func (PySem.W.fnOf "row_key" "row_key" (defArgs sRKey) (defBody sRKey) (defScope sRKey) .none kV3 dc3 pm3 an3 cd3 ct3), sl3⟩)
    (c3 : PySem.W.codeIn K cd3 "row_key" = true)
    (k3 : PySem.W.keepIn K (.ref f3) = true)
    (a4 : PySem.W.nsIn K mainGlobals "in_order" = some (some (.ref f4)))
    (l4 : K.lookup f4 = some ⟨oc4, od4, .func (PySem.W.fnOf "in_order" "in_order" (defArgs sInOrd) (defBody sInOrd) (defScope sInOrd) .none kV4 dc4 pm4 an4 cd4 ct4), sl4⟩)
    (c4 : PySem.W.codeIn K cd4 "in_order" = true)
    (k4 : PySem.W.keepIn K (.ref f4) = true)
    (a5 : PySem.W.nsIn K mainGlobals "store_of" = some (some (.ref f5)))
    (l5 : K.lookup f5 = some ⟨oc5, od5, .func (PySem.W.fnOf "store_of" "store_of" (defArgs sStoreOf) (defBody sStoreOf) (defScope sStoreOf) .none kV5 dc5 pm5 an5 cd5 ct5), sl5⟩)
    (c5 : PySem.W.codeIn K cd5 "store_of" = true)
    (k5 : PySem.W.keepIn K (.ref f5) = true)
    (a6 : PySem.W.nsIn K mainGlobals "apart" = some (some (.ref f6)))
    (l6 : K.lookup f6 = some ⟨oc6, od6, .func (PySem.W.fnOf "apart" "apart" (defArgs sApart) (defBody sApart) (defScope sApart) .none kV6 dc6 pm6 an6 cd6 ct6), sl6⟩)
    (c6 : PySem.W.codeIn K cd6 "apart" = true)
    (k6 : PySem.W.keepIn K (.ref f6) = true)
    (a7 : PySem.W.nsIn K mainGlobals "laid_on" = some (some (.ref f7)))
    (l7 : K.lookup f7 = some ⟨oc7, od7, .func (PySem.W.fnOf "laid_on" "laid_on" (defArgs sLaidOn) (defBody sLaidOn) (defScope sLaidOn) .none kV7 dc7 pm7 an7 cd7 ct7), sl7⟩)
    (c7 : PySem.W.codeIn K cd7 "laid_on" = true)
    (k7 : PySem.W.keepIn K (.ref f7) = true)
    (a8 : PySem.W.nsIn K mainGlobals "_law_dice" = some (some (.ref f8)))
    (l8 : K.lookup f8 = some ⟨oc8, od8, .func (PySem.W.fnOf "_law_dice" "_law_dice" (defArgs sDice) (defBody sDice) (defScope sDice) .none kV8 dc8 pm8 an8 cd8 ct8), sl8⟩)
    (c8 : PySem.W.codeIn K cd8 "_law_dice" = true)
    (k8 : PySem.W.keepIn K (.ref f8) = true)
    (a9 : PySem.W.nsIn K mainGlobals "_law_roll" = some (some (.ref f9)))
    (l9 : K.lookup f9 = some ⟨oc9, od9, .func (PySem.W.fnOf "_law_roll" "_law_roll" (defArgs sRoll) (defBody sRoll) (defScope sRoll) .none kV9 dc9 pm9 an9 cd9 ct9), sl9⟩)
    (c9 : PySem.W.codeIn K cd9 "_law_roll" = true)
    (k9 : PySem.W.keepIn K (.ref f9) = true)
    (a10 : PySem.W.nsIn K mainGlobals "_law_rounds" = some (some (.ref f10)))
    (l10 : K.lookup f10 = some ⟨oc10, od10, .func (PySem.W.fnOf "_law_rounds" "_law_rounds" (defArgs sRounds) (defBody sRounds) (defScope sRounds) .none kV10 dc10 pm10 an10 cd10 ct10), sl10⟩)
    (c10 : PySem.W.codeIn K cd10 "_law_rounds" = true)
    (k10 : PySem.W.keepIn K (.ref f10) = true)
    (a11 : PySem.W.nsIn K mainGlobals "_law_told" = some (some (.ref f11)))
    (l11 : K.lookup f11 = some ⟨oc11, od11, .func (PySem.W.fnOf "_law_told" "_law_told" (defArgs sTold) (defBody sTold) (defScope sTold) .none kV11 dc11 pm11 an11 cd11 ct11), sl11⟩)
    (c11 : PySem.W.codeIn K cd11 "_law_told" = true)
    (k11 : PySem.W.keepIn K (.ref f11) = true)
    (a12 : PySem.W.nsIn K mainGlobals "_law_facts" = some (some (.ref f12)))
    (l12 : K.lookup f12 = some ⟨oc12, od12, .func (PySem.W.fnOf "_law_facts" "_law_facts" (defArgs sFacts) (defBody sFacts) (defScope sFacts) .none kV12 dc12 pm12 an12 cd12 ct12), sl12⟩)
    (c12 : PySem.W.codeIn K cd12 "_law_facts" = true)
    (k12 : PySem.W.keepIn K (.ref f12) = true)
    (a13 : PySem.W.nsIn K mainGlobals "law" = some (some (.ref f13)))
    (l13 : K.lookup f13 = some ⟨oc13, od13, .func (PySem.W.fnOf "law" "law" (defArgs sLaw) (defBody sLaw) (defScope sLaw) .none kV13 dc13 pm13 an13 cd13 ct13), sl13⟩)
    (c13 : PySem.W.codeIn K cd13 "law" = true)
    (k13 : PySem.W.keepIn K (.ref f13) = true)
    (a21 : PySem.W.findIn K (.ref CR) "has" = some (some (.ref f21)))
    (i21 : PySem.W.isFn K (.ref f21) = true)
    (l21 : K.lookup f21 = some ⟨oc21, od21, .func (PySem.W.fnOf "has" "Relation.has" (defArgs sRHas) (defBody sRHas) (defScope sRHas) .none kV21 dc21 pm21 an21 cd21 ct21), sl21⟩)
    (c21 : PySem.W.codeIn K cd21 "Relation.has" = true)
    (k21 : PySem.W.keepIn K (.ref f21) = true)
    (a22 : PySem.W.findIn K (.ref CR) "size" = some (some (.ref f22)))
    (i22 : PySem.W.isFn K (.ref f22) = true)
    (l22 : K.lookup f22 = some ⟨oc22, od22, .func (PySem.W.fnOf "size" "Relation.size" (defArgs sRSize) (defBody sRSize) (defScope sRSize) .none kV22 dc22 pm22 an22 cd22 ct22), sl22⟩)
    (c22 : PySem.W.codeIn K cd22 "Relation.size" = true)
    (k22 : PySem.W.keepIn K (.ref f22) = true)
    (a23 : PySem.W.findIn K (.ref CR) "add" = some (some (.ref f23)))
    (i23 : PySem.W.isFn K (.ref f23) = true)
    (l23 : K.lookup f23 = some ⟨oc23, od23, .func (PySem.W.fnOf "add" "Relation.add" (defArgs sRAdd) (defBody sRAdd) (defScope sRAdd) .none kV23 dc23 pm23 an23 cd23 ct23), sl23⟩)
    (c23 : PySem.W.codeIn K cd23 "Relation.add" = true)
    (k23 : PySem.W.keepIn K (.ref f23) = true)
    (a24 : PySem.W.findIn K (.ref CR) "drop" = some (some (.ref f24)))
    (i24 : PySem.W.isFn K (.ref f24) = true)
    (l24 : K.lookup f24 = some ⟨oc24, od24, .func (PySem.W.fnOf "drop" "Relation.drop" (defArgs sRDrop) (defBody sRDrop) (defScope sRDrop) .none kV24 dc24 pm24 an24 cd24 ct24), sl24⟩)
    (c24 : PySem.W.codeIn K cd24 "Relation.drop" = true)
    (k24 : PySem.W.keepIn K (.ref f24) = true)
    (a25 : PySem.W.findIn K (.ref CR) "rows" = some (some (.ref f25)))
    (i25 : PySem.W.isFn K (.ref f25) = true)
    (l25 : K.lookup f25 = some ⟨oc25, od25, .func (PySem.W.fnOf "rows" "Relation.rows" (defArgs sRRows) (defBody sRRows) (defScope sRRows) .none kV25 dc25 pm25 an25 cd25 ct25), sl25⟩)
    (c25 : PySem.W.codeIn K cd25 "Relation.rows" = true)
    (k25 : PySem.W.keepIn K (.ref f25) = true)
    (a26 : PySem.W.findIn K (.ref CS) "__init__" = some (some (.ref f26)))
    (i26 : PySem.W.isFn K (.ref f26) = true)
    (l26 : K.lookup f26 = some ⟨oc26, od26, .func (PySem.W.fnOf "__init__" "Store.__init__" (defArgs sSInit) (defBody sSInit) (defScope sSInit) .none kV26 dc26 pm26 an26 cd26 ct26), sl26⟩)
    (c26 : PySem.W.codeIn K cd26 "Store.__init__" = true)
    (k26 : PySem.W.keepIn K (.ref f26) = true)
    (a27 : PySem.W.findIn K (.ref CS) "of" = some (some (.ref f27)))
    (i27 : PySem.W.isFn K (.ref f27) = true)
    (l27 : K.lookup f27 = some ⟨oc27, od27, .func (PySem.W.fnOf "of" "Store.of" (defArgs sSOf) (defBody sSOf) (defScope sSOf) .none kV27 dc27 pm27 an27 cd27 ct27), sl27⟩)
    (c27 : PySem.W.codeIn K cd27 "Store.of" = true)
    (k27 : PySem.W.keepIn K (.ref f27) = true)
    (a28 : PySem.W.findIn K (.ref CS) "names" = some (some (.ref f28)))
    (i28 : PySem.W.isFn K (.ref f28) = true)
    (l28 : K.lookup f28 = some ⟨oc28, od28, .func (PySem.W.fnOf "names" "Store.names" (defArgs sSNames) (defBody sSNames) (defScope sSNames) .none kV28 dc28 pm28 an28 cd28 ct28), sl28⟩)
    (c28 : PySem.W.codeIn K cd28 "Store.names" = true)
    (k28 : PySem.W.keepIn K (.ref f28) = true)
    (a29 : PySem.W.findIn K (.ref CS) "has" = some (some (.ref f29)))
    (i29 : PySem.W.isFn K (.ref f29) = true)
    (l29 : K.lookup f29 = some ⟨oc29, od29, .func (PySem.W.fnOf "has" "Store.has" (defArgs sSHas) (defBody sSHas) (defScope sSHas) .none kV29 dc29 pm29 an29 cd29 ct29), sl29⟩)
    (c29 : PySem.W.codeIn K cd29 "Store.has" = true)
    (k29 : PySem.W.keepIn K (.ref f29) = true)
    (a30 : PySem.W.findIn K (.ref CS) "shown" = some (some (.ref f30)))
    (i30 : PySem.W.isFn K (.ref f30) = true)
    (l30 : K.lookup f30 = some ⟨oc30, od30, .func (PySem.W.fnOf "shown" "Store.shown" (defArgs sSShown) (defBody sSShown) (defScope sSShown) .none kV30 dc30 pm30 an30 cd30 ct30), sl30⟩)
    (c30 : PySem.W.codeIn K cd30 "Store.shown" = true)
    (k30 : PySem.W.keepIn K (.ref f30) = true)
    (a31 : PySem.W.findIn K (.ref CC) "__init__" = some (some (.ref f31)))
    (i31 : PySem.W.isFn K (.ref f31) = true)
    (l31 : K.lookup f31 = some ⟨oc31, od31, .func (PySem.W.fnOf "__init__" "Changes.__init__" (defArgs sCInit) (defBody sCInit) (defScope sCInit) .none kV31 dc31 pm31 an31 cd31 ct31), sl31⟩)
    (c31 : PySem.W.codeIn K cd31 "Changes.__init__" = true)
    (k31 : PySem.W.keepIn K (.ref f31) = true)
    (a32 : PySem.W.findIn K (.ref CC) "note" = some (some (.ref f32)))
    (i32 : PySem.W.isFn K (.ref f32) = true)
    (l32 : K.lookup f32 = some ⟨oc32, od32, .func (PySem.W.fnOf "note" "Changes.note" (defArgs sCNote) (defBody sCNote) (defScope sCNote) .none kV32 dc32 pm32 an32 cd32 ct32), sl32⟩)
    (c32 : PySem.W.codeIn K cd32 "Changes.note" = true)
    (k32 : PySem.W.keepIn K (.ref f32) = true)
    (a33 : PySem.W.findIn K (.ref CC) "came" = some (some (.ref f33)))
    (i33 : PySem.W.isFn K (.ref f33) = true)
    (l33 : K.lookup f33 = some ⟨oc33, od33, .func (PySem.W.fnOf "came" "Changes.came" (defArgs sCCame) (defBody sCCame) (defScope sCCame) .none kV33 dc33 pm33 an33 cd33 ct33), sl33⟩)
    (c33 : PySem.W.codeIn K cd33 "Changes.came" = true)
    (k33 : PySem.W.keepIn K (.ref f33) = true)
    (a34 : PySem.W.findIn K (.ref CC) "went" = some (some (.ref f34)))
    (i34 : PySem.W.isFn K (.ref f34) = true)
    (l34 : K.lookup f34 = some ⟨oc34, od34, .func (PySem.W.fnOf "went" "Changes.went" (defArgs sCWent) (defBody sCWent) (defScope sCWent) .none kV34 dc34 pm34 an34 cd34 ct34), sl34⟩)
    (c34 : PySem.W.codeIn K cd34 "Changes.went" = true)
    (k34 : PySem.W.keepIn K (.ref f34) = true)
    (a35 : PySem.W.findIn K (.ref CC) "names" = some (some (.ref f35)))
    (i35 : PySem.W.isFn K (.ref f35) = true)
    (l35 : K.lookup f35 = some ⟨oc35, od35, .func (PySem.W.fnOf "names" "Changes.names" (defArgs sCNames) (defBody sCNames) (defScope sCNames) .none kV35 dc35 pm35 an35 cd35 ct35), sl35⟩)
    (c35 : PySem.W.codeIn K cd35 "Changes.names" = true)
    (k35 : PySem.W.keepIn K (.ref f35) = true)
    (a36 : PySem.W.findIn K (.ref CC) "is_bare" = some (some (.ref f36)))
    (i36 : PySem.W.isFn K (.ref f36) = true)
    (l36 : K.lookup f36 = some ⟨oc36, od36, .func (PySem.W.fnOf "is_bare" "Changes.is_bare" (defArgs sCBare) (defBody sCBare) (defScope sCBare) .none kV36 dc36 pm36 an36 cd36 ct36), sl36⟩)
    (c36 : PySem.W.codeIn K cd36 "Changes.is_bare" = true)
    (k36 : PySem.W.keepIn K (.ref f36) = true)
    (a37 : PySem.W.findIn K (.ref CC) "turned" = some (some (.ref f37)))
    (i37 : PySem.W.isFn K (.ref f37) = true)
    (l37 : K.lookup f37 = some ⟨oc37, od37, .func (PySem.W.fnOf "turned" "Changes.turned" (defArgs sCTurned) (defBody sCTurned) (defScope sCTurned) .none kV37 dc37 pm37 an37 cd37 ct37), sl37⟩)
    (c37 : PySem.W.codeIn K cd37 "Changes.turned" = true)
    (k37 : PySem.W.keepIn K (.ref f37) = true)
    (a38 : PySem.W.findIn K (.ref CC) "shown" = some (some (.ref f38)))
    (i38 : PySem.W.isFn K (.ref f38) = true)
    (l38 : K.lookup f38 = some ⟨oc38, od38, .func (PySem.W.fnOf "shown" "Changes.shown" (defArgs sCShown) (defBody sCShown) (defScope sCShown) .none kV38 dc38 pm38 an38 cd38 ct38), sl38⟩)
    (c38 : PySem.W.codeIn K cd38 "Changes.shown" = true)
    (k38 : PySem.W.keepIn K (.ref f38) = true)
    (a50 : PySem.W.findIn K (.ref CR) "__init__" = some (some (.ref f50)))
    (i50 : PySem.W.isFn K (.ref f50) = true)
    (l50 : K.lookup f50 = some ⟨oc50, od50, .func (PySem.W.fnOf "__init__" "Relation.__init__" (defArgs sRInit) (defBody sRInit) (defScope sRInit) (.ref T0) kV50 dc50 pm50 an50 cd50 ct50), sl50⟩)
    (c50 : PySem.W.codeIn K cd50 "Relation.__init__" = true)
    (k50 : PySem.W.keepIn K (.ref f50) = true)
    (lT0 : K.lookup T0 = some ⟨ocT0, odT0, .seq #[.ref d0] nT0, slT0⟩)
    (ld0 : K.lookup d0 = some ⟨.type "tuple", odd0, .seq #[] nd0, sld0⟩)
    (x1 : PySem.W.nsIn K mainGlobals "BadSign" = some (some (.ref e1)))
    (x2 : PySem.W.nsIn K mainGlobals "BadRule" = some (some (.ref e2)))
    (x3 : PySem.W.nsIn K mainGlobals "BadKind" = some (some (.ref e3)))
    (x4 : PySem.W.nsIn K mainGlobals "BadLayer" = some (some (.ref e4)))
    (x5 : PySem.W.nsIn K mainGlobals "NoSuch" = some (some (.ref e5)))
    (x6 : PySem.W.nsIn K mainGlobals "BadDeed" = some (some (.ref e6)))
    (x7 : PySem.W.nsIn K mainGlobals "BadGround" = some (some (.ref e7)))
    (x8 : PySem.W.nsIn K mainGlobals "BadStore" = some (some (.ref e8)))
    (x9 : PySem.W.nsIn K mainGlobals "Broken" = some (some (.ref e9)))
    (x10 : PySem.W.nsIn K mainGlobals "BadSize" = some (some (.ref e10)))
    (nex : PySem.W.excIn K e5 [.type "ValueError", .type "Exception", .type "BaseException", .type "object"] "ValueError.__new__" = true)
    (nkp : PySem.W.keepIn K (.ref e5) = true)
    (nsb : PySem.W.subIn K (.ref e5) (.type "BaseException") = some true)
    (nty : PySem.W.typeIn K (.ref e5) = some (.type "type"))
    (m1 : PySem.W.exmOne K (.ref e5) (.ref e1) = some false)
    (m2 : PySem.W.exmOne K (.ref e5) (.ref e2) = some false)
    (m3 : PySem.W.exmOne K (.ref e5) (.ref e3) = some false)
    (m4 : PySem.W.exmOne K (.ref e5) (.ref e4) = some false)
    (m5 : PySem.W.exmOne K (.ref e5) (.ref e5) = some true)
    (hc1 : cd4 = .ref cc1)
    (lc1 : K.lookup cc1 = some ⟨xc1, xd1, .fields vs1, xs1⟩)
    (hv1 : (vs1[11]? : Option Value) = some (.ref P1))
    (hc2 : cd7 = .ref cc2)
    (lc2 : K.lookup cc2 = some ⟨xc2, xd2, .fields vs2, xs2⟩)
    (hv2 : (vs2[11]? : Option Value) = some (.ref P2))
    (hc3 : cd13 = .ref cc3)
    (lc3 : K.lookup cc3 = some ⟨xc3, xd3, .fields vs3, xs3⟩)
    (hv3 : (vs3[11]? : Option Value) = some (.ref P3))
    (np1 : K.lookup P1 = none)
    (np2 : K.lookup P2 = none)
    (np3 : K.lookup P3 = none)
    (d12 : P1 ≠ P2)
    (d13 : P1 ≠ P3)
    (d23 : P2 ≠ P3) : LawF l w K mg fa := by
  have e := hfa.symm.trans (PySem.W.mg_of X G a13)
  cases e
  have F1 := fun_mk (st := sIsNum) l1 c1 k1
  have b1 := F1.binds (ps := ["value"]) fun _ _ _ _ _ _ us hl => match us, hl with | [_], _ => rfl
  have F2 := fun_mk (st := sVKey) l2 c2 k2
  have b2 := F2.binds (ps := ["value"]) fun _ _ _ _ _ _ us hl => match us, hl with | [_], _ => rfl
  have F3 := fun_mk (st := sRKey) l3 c3 k3
  have b3 := F3.binds (ps := ["row"]) fun _ _ _ _ _ _ us hl => match us, hl with | [_], _ => rfl
  have F4 := fun_mk (st := sInOrd) l4 c4 k4
  have b4 := F4.binds (ps := ["rows"]) fun _ _ _ _ _ _ us hl => match us, hl with | [_], _ => rfl
  have F5 := fun_mk (st := sStoreOf) l5 c5 k5
  have b5 := F5.binds (ps := ["facts"]) fun _ _ _ _ _ _ us hl => match us, hl with | [_], _ => rfl
  have F6 := fun_mk (st := sApart) l6 c6 k6
  have b6 := F6.binds (ps := ["one", "other"]) fun _ _ _ _ _ _ us hl => match us, hl with | [_, _], _ => rfl
  have F7 := fun_mk (st := sLaidOn) l7 c7 k7
  have b7 := F7.binds (ps := ["store", "changes"]) fun _ _ _ _ _ _ us hl => match us, hl with | [_, _], _ => rfl
  have F8 := fun_mk (st := sDice) l8 c8 k8
  have b8 := F8.binds (ps := ["_law_cell"]) fun _ _ _ _ _ _ us hl => match us, hl with | [_], _ => rfl
  have F9 := fun_mk (st := sRoll) l9 c9 k9
  have b9 := F9.binds (ps := ["_law_dice_here", "_law_many"]) fun _ _ _ _ _ _ us hl => match us, hl with | [_, _], _ => rfl
  have F10 := fun_mk (st := sRounds) l10 c10 k10
  have b10 := F10.binds (ps := ["_law_script", "_law_most"]) fun _ _ _ _ _ _ us hl => match us, hl with | [_, _], _ => rfl
  have F11 := fun_mk (st := sTold) l11 c11 k11
  have b11 := F11.binds (ps := ["_law_what"]) fun _ _ _ _ _ _ us hl => match us, hl with | [_], _ => rfl
  have F12 := fun_mk (st := sFacts) l12 c12 k12
  have b12 := F12.binds (ps := ["_law_dice_here"]) fun _ _ _ _ _ _ us hl => match us, hl with | [_], _ => rfl
  have F13 := fun_mk (st := sLaw) l13 c13 k13
  have b13 := F13.binds (ps := ["_law_script"]) fun _ _ _ _ _ _ us hl => match us, hl with | [_], _ => rfl
  have F21 := fun_mk (st := sRHas) l21 c21 k21
  have b21 := F21.binds (ps := ["self", "row"]) fun _ _ _ _ _ _ us hl => match us, hl with | [_, _], _ => rfl
  have m21 : Meth K CR "has" f21 := ⟨a21, i21, k21⟩
  have F22 := fun_mk (st := sRSize) l22 c22 k22
  have b22 := F22.binds (ps := ["self"]) fun _ _ _ _ _ _ us hl => match us, hl with | [_], _ => rfl
  have m22 : Meth K CR "size" f22 := ⟨a22, i22, k22⟩
  have F23 := fun_mk (st := sRAdd) l23 c23 k23
  have b23 := F23.binds (ps := ["self", "row"]) fun _ _ _ _ _ _ us hl => match us, hl with | [_, _], _ => rfl
  have m23 : Meth K CR "add" f23 := ⟨a23, i23, k23⟩
  have F24 := fun_mk (st := sRDrop) l24 c24 k24
  have b24 := F24.binds (ps := ["self", "row"]) fun _ _ _ _ _ _ us hl => match us, hl with | [_, _], _ => rfl
  have m24 : Meth K CR "drop" f24 := ⟨a24, i24, k24⟩
  have F25 := fun_mk (st := sRRows) l25 c25 k25
  have b25 := F25.binds (ps := ["self"]) fun _ _ _ _ _ _ us hl => match us, hl with | [_], _ => rfl
  have m25 : Meth K CR "rows" f25 := ⟨a25, i25, k25⟩
  have F26 := fun_mk (st := sSInit) l26 c26 k26
  have b26 := F26.binds (ps := ["self"]) fun _ _ _ _ _ _ us hl => match us, hl with | [_], _ => rfl
  have F27 := fun_mk (st := sSOf) l27 c27 k27
  have b27 := F27.binds (ps := ["self", "name"]) fun _ _ _ _ _ _ us hl => match us, hl with | [_, _], _ => rfl
  have m27 : Meth K CS "of" f27 := ⟨a27, i27, k27⟩
  have F28 := fun_mk (st := sSNames) l28 c28 k28
  have b28 := F28.binds (ps := ["self"]) fun _ _ _ _ _ _ us hl => match us, hl with | [_], _ => rfl
  have m28 : Meth K CS "names" f28 := ⟨a28, i28, k28⟩
  have F29 := fun_mk (st := sSHas) l29 c29 k29
  have b29 := F29.binds (ps := ["self", "name", "row"]) fun _ _ _ _ _ _ us hl => match us, hl with | [_, _, _], _ => rfl
  have m29 : Meth K CS "has" f29 := ⟨a29, i29, k29⟩
  have F30 := fun_mk (st := sSShown) l30 c30 k30
  have b30 := F30.binds (ps := ["self"]) fun _ _ _ _ _ _ us hl => match us, hl with | [_], _ => rfl
  have m30 : Meth K CS "shown" f30 := ⟨a30, i30, k30⟩
  have F31 := fun_mk (st := sCInit) l31 c31 k31
  have b31 := F31.binds (ps := ["self"]) fun _ _ _ _ _ _ us hl => match us, hl with | [_], _ => rfl
  have F32 := fun_mk (st := sCNote) l32 c32 k32
  have b32 := F32.binds (ps := ["self", "name", "row", "came"]) fun _ _ _ _ _ _ us hl => match us, hl with | [_, _, _, _], _ => rfl
  have m32 : Meth K CC "note" f32 := ⟨a32, i32, k32⟩
  have F33 := fun_mk (st := sCCame) l33 c33 k33
  have b33 := F33.binds (ps := ["self", "name"]) fun _ _ _ _ _ _ us hl => match us, hl with | [_, _], _ => rfl
  have m33 : Meth K CC "came" f33 := ⟨a33, i33, k33⟩
  have F34 := fun_mk (st := sCWent) l34 c34 k34
  have b34 := F34.binds (ps := ["self", "name"]) fun _ _ _ _ _ _ us hl => match us, hl with | [_, _], _ => rfl
  have m34 : Meth K CC "went" f34 := ⟨a34, i34, k34⟩
  have F35 := fun_mk (st := sCNames) l35 c35 k35
  have b35 := F35.binds (ps := ["self"]) fun _ _ _ _ _ _ us hl => match us, hl with | [_], _ => rfl
  have m35 : Meth K CC "names" f35 := ⟨a35, i35, k35⟩
  have F36 := fun_mk (st := sCBare) l36 c36 k36
  have b36 := F36.binds (ps := ["self"]) fun _ _ _ _ _ _ us hl => match us, hl with | [_], _ => rfl
  have m36 : Meth K CC "is_bare" f36 := ⟨a36, i36, k36⟩
  have F37 := fun_mk (st := sCTurned) l37 c37 k37
  have b37 := F37.binds (ps := ["self"]) fun _ _ _ _ _ _ us hl => match us, hl with | [_], _ => rfl
  have m37 : Meth K CC "turned" f37 := ⟨a37, i37, k37⟩
  have F38 := fun_mk (st := sCShown) l38 c38 k38
  have b38 := F38.binds (ps := ["self"]) fun _ _ _ _ _ _ us hl => match us, hl with | [_], _ => rfl
  have m38 : Meth K CC "shown" f38 := ⟨a38, i38, k38⟩
  have F50 : FunD K "__init__" "Relation.__init__" (defArgs sRInit) (defBody sRInit) (defScope sRInit) [.ref d0] [] f50 (PySem.W.fnOf "__init__" "Relation.__init__" (defArgs sRInit) (defBody sRInit) (defScope sRInit) (.ref T0) kV50 dc50 pm50 an50 cd50 ct50) :=
    ⟨⟨oc50, od50, .ref T0, kV50, dc50, pm50, an50, cd50, ct50, sl50, rfl, l50, c50, .inr ⟨by simp, T0, _, [.ref d0], nT0, rfl, lT0, rfl, .cons rfl .nil⟩, .inl rfl⟩, k50⟩
  obtain ⟨ds50, v50, b50⟩ := F50.binds1 (ps := ["self", "rows"]) 1 0 (by simp) rfl fun _ _ _ _ _ _ _ us its h1 h2 => match us, its, h1, h2 with | [_], [_], _, _ => ⟨_, rfl, rfl⟩
  have e50 : ds50 = [.ref d0] := by
    obtain ⟨u, rfl, hu⟩ := vals1 v50
    cases hu
    rfl
  subst e50
  have hd0 : ∀ H, SqT K H d0 [] := fun H => .inr ⟨_, #[], nd0, ld0, rfl, rfl, by decide, .nil⟩
  have ng := fun (x : Str) (v : Value) (q : PySem.W.nsIn K mainGlobals x = some (some v)) => PySem.W.mg_of X G q
  have nz := fun (x : Str) (q : PySem.W.nsIn K mainGlobals x = some none) => PySem.W.mg_none_of X G q
  have RT : RelT K mg CR := ⟨⟨pgR, hdR, poR, saR⟩, nH, nTb, ng _ _ gR, nz _ z_len⟩
  have ST : StoT K mg CS := ⟨⟨pgS, hdS, poS, saS⟩, nRl, ng _ _ gS⟩
  have CT : ChT K mg CC := ⟨⟨pgC, hdC, poC, saC⟩, nAd, nDr, ng _ _ gC⟩
  have MR : Mk K CR f50 := ⟨mkR, a50, i50, kcR⟩
  have MS : Mk K CS f26 := ⟨mkS, a26, i26, kcS⟩
  have MC : Mk K CC f31 := ⟨mkC, a31, i31, kcC⟩
  have YT : PyT mg := ⟨nz _ z_tuple, nz _ z_sorted, nz _ z_dict, nz _ z_list⟩
  have LT : LawT mg := ⟨nz _ z_abs, nz _ z_int, nz _ z_range, nz _ z_tuple, nz _ z_sorted⟩
  have NN : NoT K mg e5 := ⟨nex, ng _ _ x5, nkp, nsb, nty⟩
  have TN : ToldT K mg e1 e2 e3 e4 e5 e6 e7 e8 e9 e10 := ⟨ng _ _ x1, ng _ _ x2, ng _ _ x3, ng _ _ x4, ng _ _ x5, ng _ _ x6, ng _ _ x7, ng _ _ x8, ng _ _ x9, ng _ _ x10, m1, m2, m3, m4, m5⟩
  refine ⟨cc1, P1, cc2, P2, cc3, P3, PySem.W.fnOf "law" "law" (defArgs sLaw) (defBody sLaw) (defScope sLaw) .none kV13 dc13 pm13 an13 cd13 ct13, tabIn_of a4 l4 hc1 lc1 hv1, tabIn_of a7 l7 hc2 lc2 hv2, tabIn_of a13 l13 hc3 lc3 hv3, np1, np2, np3, fun s u => .of_eq rfl, fun base _ _ hTB => ?_⟩
  have TB1 : LamX.TabB base mg cc1 P1 := hTB (cc1, P1) (by simp)
  have TB2 : LamX.TabB base mg cc2 P2 := hTB (cc2, P2) (by simp)
  have TB3 : LamX.TabB base mg cc3 P3 := hTB (cc3, P3) (by simp)
  generalize hTT : ([(P1, qLam "in_order"), (P2, qGen "laid_on"), (P3, qLam "law")] : List (Addr × Str)) = TT
  have in1 : (P1, qLam "in_order") ∈ TT := by rw [← hTT]; simp
  have in2 : (P2, qGen "laid_on") ∈ TT := by rw [← hTT]; simp
  have in3 : (P3, qLam "law") ∈ TT := by rw [← hTT]; simp
  have u1 : ∀ p ∈ TT, p.1 = P1 → p.2 = qLam "in_order" := fun p hp hq => by
    rw [← hTT] at hp
    simp only [List.mem_cons, List.not_mem_nil, or_false] at hp
    rcases hp with rfl | rfl | rfl
    · rfl
    · exact absurd hq.symm d12
    · exact absurd hq.symm d13
  have u2 : ∀ p ∈ TT, p.1 = P2 → p.2 = qGen "laid_on" := fun p hp hq => by
    rw [← hTT] at hp
    simp only [List.mem_cons, List.not_mem_nil, or_false] at hp
    rcases hp with rfl | rfl | rfl
    · exact absurd hq d12
    · rfl
    · exact absurd hq.symm d23
  have u3 : ∀ p ∈ TT, p.1 = P3 → p.2 = qLam "law" := fun p hp hq => by
    rw [← hTT] at hp
    simp only [List.mem_cons, List.not_mem_nil, or_false] at hp
    rcases hp with rfl | rfl | rfl
    · exact absurd hq d13
    · exact absurd hq d23
    · rfl
  have qk := q_rkey (P := l.prog) (w := w) F3 b3 F2 b2 (ng _ _ a2) F1 b1 (ng _ _ a1) (nz _ z_isinstance) (nz _ z_int) (nz _ z_tuple)
  have gOrd := ok_ord (P := l.prog) (w := w) (mg := mg) (base := base) (T := TT) F4 ⟨qk, ng _ _ a3, k3, nz _ z_sorted, nz _ z_tuple, TB1, hc1, in1, u1⟩
  have mOrd := ng _ _ a4
  have gRI := ok_rinit (P := l.prog) (w := w) (mg := mg) (base := base) (T := TT) F50 RT
  have gRHas := ok_rhas (P := l.prog) (w := w) (base := base) F21 RT
  have gRSize := ok_rsize (P := l.prog) (w := w) (base := base) F22 RT
  have gRAdd := ok_radd (P := l.prog) (w := w) (base := base) (T := TT) F23 RT
  have gRDrop := ok_rdrop (P := l.prog) (w := w) (base := base) (T := TT) F24 RT
  have gRRows := ok_rrows F25 RT gOrd mOrd k4 b4
  have gSI := ok_sinit (P := l.prog) (w := w) (base := base) (T := TT) (CR := CR) F26 ST
  have gSOf := ok_sof F27 ST RT MR gRI b50 hd0
  have gSHas := ok_shas F29 ST RT m21 gRHas b21
  have gSNames := ok_snames (T := TT) F28 ST RT (nz _ z_sorted) (nz _ z_tuple) m22 gRSize b22
  have gSShown := ok_sshown F30 ST RT (nz _ z_tuple) m28 gSNames b28 m25 gRRows b25
  have gCI := ok_cinit (P := l.prog) (w := w) (base := base) (T := TT) F31 CT
  have gCNote := ok_note (P := l.prog) (w := w) (base := base) (T := TT) F32 CT
  have gCCame := ok_came (P := l.prog) (w := w) (base := base) (T := TT) F33 CT (nz _ z_list)
  have gCWent := ok_went (P := l.prog) (w := w) (base := base) (T := TT) F34 CT (nz _ z_list)
  have gCNames := ok_cnames (P := l.prog) (w := w) (base := base) (T := TT) F35 CT YT
  have gCBare := ok_bare F36 CT m35 gCNames b35
  have gCShown := ok_cshown F38 CT YT m35 gCNames b35 m33 gCCame b33 m34 gCWent b34 gOrd mOrd k4 b4
  have gCTurned := ok_turned F37 CT YT MC gCI b31 m35 gCNames b35 m33 gCCame b33 m34 gCWent b34
  have gSO := ok_storeOf F5 ST RT MS gSI b26 m27 gSOf b27 m23 gRAdd b23
  have gAp := ok_apart F6 ST RT CT YT MC gCI b31 m28 gSNames b28 m27 gSOf b27 m29 gSHas b29 m25 gRRows b25 m32 gCNote b32
  have gLa := ok_laid F7 ST RT CT NN (nz _ z_any) TB2 hc2 in2 u2 m35 gCNames b35 m33 gCCame b33 m34 gCWent b34 m27 gSOf b27 F29 b29 m29 F21 b21 m21 m24 gRDrop b24 m23 gRAdd b23
  have gDi := ok_dice (P := l.prog) (w := w) (base := base) F8 LT
  have gRo := ok_roll (P := l.prog) (w := w) (base := base) F9 LT
  have gRd := ok_rounds (T := TT) F10 gDi (ng _ _ a8) k8 b8
  have gFa := ok_facts (T := TT) F12 LT gRo (ng _ _ a9) k9 b9
  let GG : LawG l.prog w K mg base TT CS CR CC e5 :=
    { L := LT, C := CT, S := ST, fI := _, fdI := _, MI := MC, GI := gCI, bI := b31, fRo := _, fdRo := _, GRo := gRo, mRo := ng _ _ a9, kRo := k9, bRo := b9, fT := _, fdT := _, mT := m32, GT := gCNote, bT := b32,
      fCS := _, fdCS := _, mCS := m38, GCS := gCShown, bCS := b38, fB := _, fdB := _, mB := m36, GB := gCBare, bB := b36, fCN := _, fdCN := _, mCN := m35, GCN := gCNames, bCN := b35,
      fTu := _, fdTu := _, mTu := m37, GTu := gCTurned, bTu := b37, fFa := _, fdFa := _, GFa := gFa, mFa := ng _ _ a12, kFa := k12, bFa := b12, fSo := _, fdSo := _, GSo := gSO, mSo := ng _ _ a5, kSo := k5, bSo := b5,
      fAp := _, fdAp := _, GAp := gAp, mAp := ng _ _ a6, kAp := k6, bAp := b6, fLa := _, fdLa := _, GLa := gLa, mLa := ng _ _ a7, kLa := k7, bLa := b7, fSS := _, fdSS := _, mSS := m30, GSS := gSShown, bSS := b30 }
  let LL : TellT K mg base TT e5 cc3 P3 := { TB := TB3, mT := in3, uT := u3, c1 := e1, c2 := e2, c3 := e3, c4 := e4, c6 := e6, c7 := e7, c8 := e8, c9 := e9, c10 := e10, N := TN, g := _, fd := _, F := F11, m := ng _ _ a11, b := b11 }
  exact ok_law F13 hc3 GG LL gRd (ng _ _ a10) k10 b10
end DH
open PySem PySem.W PyProof.Rows
set_option maxRecDepth 100000 in
set_option maxHeartbeats 0 in
theorem PySem.Challenge.cw_deducehall_k10_changes_put_together_holds : PySem.Challenge.rw_deducehall_k10_changes_put_together.Holds := by
  w_on; o_law; k_head; (case hw => w_witness2)
  k_fill
  refine DH.walk (l := PySem.Challenge.rw_deducehall_k10_changes_put_together) rfl rfl (fun w h Y => PySem.W.km_in_of Y) ?r1 ?r2 ?r3 ?F
  case r1 => decide +kernel
  case r2 => decide +kernel
  case r3 => decide +kernel
  case F =>
    intro w mg fa h KX G hmg
    refine' DH.all_mk KX G hmg ?gR ?pgR ?hdR ?poR ?saR ?mkR ?kcR ?gS ?pgS ?hdS ?poS ?saS ?mkS ?kcS ?gC ?pgC ?hdC ?poC ?saC ?mkC ?kcC ?nH ?nTb ?nRl ?nAd ?nDr ?z_abs ?z_int ?z_range ?z_tuple ?z_sorted ?z_len ?z_dict ?z_list ?z_any ?z_isinstance ?a1 ?l1 ?c1 ?k1 ?a2 ?l2 ?c2 ?k2 ?a3 ?l3 ?c3 ?k3 ?a4 ?l4 ?c4 ?k4 ?a5 ?l5 ?c5 ?k5 ?a6 ?l6 ?c6 ?k6 ?a7 ?l7 ?c7 ?k7 ?a8 ?l8 ?c8 ?k8 ?a9 ?l9 ?c9 ?k9 ?a10 ?l10 ?c10 ?k10 ?a11 ?l11 ?c11 ?k11 ?a12 ?l12 ?c12 ?k12 ?a13 ?l13 ?c13 ?k13 ?a21 ?i21 ?l21 ?c21 ?k21 ?a22 ?i22 ?l22 ?c22 ?k22 ?a23 ?i23 ?l23 ?c23 ?k23 ?a24 ?i24 ?l24 ?c24 ?k24 ?a25 ?i25 ?l25 ?c25 ?k25 ?a26 ?i26 ?l26 ?c26 ?k26 ?a27 ?i27 ?l27 ?c27 ?k27 ?a28 ?i28 ?l28 ?c28 ?k28 ?a29 ?i29 ?l29 ?c29 ?k29 ?a30 ?i30 ?l30 ?c30 ?k30 ?a31 ?i31 ?l31 ?c31 ?k31 ?a32 ?i32 ?l32 ?c32 ?k32 ?a33 ?i33 ?l33 ?c33 ?k33 ?a34 ?i34 ?l34 ?c34 ?k34 ?a35 ?i35 ?l35 ?c35 ?k35 ?a36 ?i36 ?l36 ?c36 ?k36 ?a37 ?i37 ?l37 ?c37 ?k37 ?a38 ?i38 ?l38 ?c38 ?k38 ?a50 ?i50 ?l50 ?c50 ?k50 ?lT0 ?ld0 ?x1 ?x2 ?x3 ?x4 ?x5 ?x6 ?x7 ?x8 ?x9 ?x10 ?nex ?nkp ?nsb ?nty ?m1 ?m2 ?m3 ?m4 ?m5 ?hc1 ?lc1 ?hv1 ?hc2 ?lc2 ?hv2 ?hc3 ?lc3 ?hv3 ?np1 ?np2 ?np3 ?d12 ?d13 ?d23
    (case gR => k_is)
    (case pgR => k_is)
    (case hdR => k_is)
    (case poR => k_is)
    (case saR => k_is)
    (case mkR => k_is)
    (case kcR => k_is)
    (case gS => k_is)
    (case pgS => k_is)
    (case hdS => k_is)
    (case poS => k_is)
    (case saS => k_is)
    (case mkS => k_is)
    (case kcS => k_is)
    (case gC => k_is)
    (case pgC => k_is)
    (case hdC => k_is)
    (case poC => k_is)
    (case saC => k_is)
    (case mkC => k_is)
    (case kcC => k_is)
    (case nH => k_is)
    (case nTb => k_is)
    (case nRl => k_is)
    (case nAd => k_is)
    (case nDr => k_is)
    (case z_abs => k_is)
    (case z_int => k_is)
    (case z_range => k_is)
    (case z_tuple => k_is)
    (case z_sorted => k_is)
    (case z_len => k_is)
    (case z_dict => k_is)
    (case z_list => k_is)
    (case z_any => k_is)
    (case z_isinstance => k_is)
    (case a1 => k_is)
    (case l1 => k_is)
    (case c1 => k_is)
    (case k1 => k_is)
    (case a2 => k_is)
    (case l2 => k_is)
    (case c2 => k_is)
    (case k2 => k_is)
    (case a3 => k_is)
    (case l3 => k_is)
    (case c3 => k_is)
    (case k3 => k_is)
    (case a4 => k_is)
    (case l4 => k_is)
    (case c4 => k_is)
    (case k4 => k_is)
    (case a5 => k_is)
    (case l5 => k_is)
    (case c5 => k_is)
    (case k5 => k_is)
    (case a6 => k_is)
    (case l6 => k_is)
    (case c6 => k_is)
    (case k6 => k_is)
    (case a7 => k_is)
    (case l7 => k_is)
    (case c7 => k_is)
    (case k7 => k_is)
    (case a8 => k_is)
    (case l8 => k_is)
    (case c8 => k_is)
    (case k8 => k_is)
    (case a9 => k_is)
    (case l9 => k_is)
    (case c9 => k_is)
    (case k9 => k_is)
    (case a10 => k_is)
    (case l10 => k_is)
    (case c10 => k_is)
    (case k10 => k_is)
    (case a11 => k_is)
    (case l11 => k_is)
    (case c11 => k_is)
    (case k11 => k_is)
    (case a12 => k_is)
    (case l12 => k_is)
    (case c12 => k_is)
    (case k12 => k_is)
    (case a13 => k_is)
    (case l13 => k_is)
    (case c13 => k_is)
    (case k13 => k_is)
    (case a21 => k_is)
    (case i21 => k_is)
    (case l21 => k_is)
    (case c21 => k_is)
    (case k21 => k_is)
    (case a22 => k_is)
    (case i22 => k_is)
    (case l22 => k_is)
    (case c22 => k_is)
    (case k22 => k_is)
    (case a23 => k_is)
    (case i23 => k_is)
    (case l23 => k_is)
    (case c23 => k_is)
    (case k23 => k_is)
    (case a24 => k_is)
    (case i24 => k_is)
    (case l24 => k_is)
    (case c24 => k_is)
    (case k24 => k_is)
    (case a25 => k_is)
    (case i25 => k_is)
    (case l25 => k_is)
    (case c25 => k_is)
    (case k25 => k_is)
    (case a26 => k_is)
    (case i26 => k_is)
    (case l26 => k_is)
    (case c26 => k_is)
    (case k26 => k_is)
    (case a27 => k_is)
    (case i27 => k_is)
    (case l27 => k_is)
    (case c27 => k_is)
    (case k27 => k_is)
    (case a28 => k_is)
    (case i28 => k_is)
    (case l28 => k_is)
    (case c28 => k_is)
    (case k28 => k_is)
    (case a29 => k_is)
    (case i29 => k_is)
    (case l29 => k_is)
    (case c29 => k_is)
    (case k29 => k_is)
    (case a30 => k_is)
    (case i30 => k_is)
    (case l30 => k_is)
    (case c30 => k_is)
    (case k30 => k_is)
    (case a31 => k_is)
    (case i31 => k_is)
    (case l31 => k_is)
    (case c31 => k_is)
    (case k31 => k_is)
    (case a32 => k_is)
    (case i32 => k_is)
    (case l32 => k_is)
    (case c32 => k_is)
    (case k32 => k_is)
    (case a33 => k_is)
    (case i33 => k_is)
    (case l33 => k_is)
    (case c33 => k_is)
    (case k33 => k_is)
    (case a34 => k_is)
    (case i34 => k_is)
    (case l34 => k_is)
    (case c34 => k_is)
    (case k34 => k_is)
    (case a35 => k_is)
    (case i35 => k_is)
    (case l35 => k_is)
    (case c35 => k_is)
    (case k35 => k_is)
    (case a36 => k_is)
    (case i36 => k_is)
    (case l36 => k_is)
    (case c36 => k_is)
    (case k36 => k_is)
    (case a37 => k_is)
    (case i37 => k_is)
    (case l37 => k_is)
    (case c37 => k_is)
    (case k37 => k_is)
    (case a38 => k_is)
    (case i38 => k_is)
    (case l38 => k_is)
    (case c38 => k_is)
    (case k38 => k_is)
    (case a50 => k_is)
    (case i50 => k_is)
    (case l50 => k_is)
    (case c50 => k_is)
    (case k50 => k_is)
    (case lT0 => k_is)
    (case ld0 => k_is)
    (case x1 => k_is)
    (case x2 => k_is)
    (case x3 => k_is)
    (case x4 => k_is)
    (case x5 => k_is)
    (case x6 => k_is)
    (case x7 => k_is)
    (case x8 => k_is)
    (case x9 => k_is)
    (case x10 => k_is)
    (case nex => k_exc)
    (case nkp => k_is)
    (case nsb => first | k_is | rfl)
    (case nty => k_is)
    (case m1 => kts_exm)
    (case m2 => kts_exm)
    (case m3 => kts_exm)
    (case m4 => kts_exm)
    (case m5 => kts_exm)
    (case hc1 => exact rfl)
    (case lc1 => k_is)
    (case hv1 => exact rfl)
    (case hc2 => exact rfl)
    (case lc2 => k_is)
    (case hv2 => exact rfl)
    (case hc3 => exact rfl)
    (case lc3 => k_is)
    (case hv3 => exact rfl)
    (case np1 => first | exact rfl | exact DH.lookup_none (as := _) rfl rfl)
    (case np2 => first | exact rfl | exact DH.lookup_none (as := _) rfl rfl)
    (case np3 => first | exact rfl | exact DH.lookup_none (as := _) rfl rfl)
    (case d12 => decide)
    (case d13 => decide)
    (case d23 => decide)
