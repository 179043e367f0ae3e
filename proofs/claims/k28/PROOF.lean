import PyProof.Rows.All
import Wide.All
import OpenK.AllK
import Wide.FinOn
import HandS.ForMost
import HandS.IsInst
import HandS.Conv
import HandS.Flow
import HandS.Zip
import HandS.SortInts
import HandS.TupAny
import HandS.DictTup
import HandS.Style
import KE.KDictKeyed
import KE.KDictCopyH
import KE.SortData
import KE.KDictSum
import HandS.Star
import HandS.NoneIn
import KE.GoesMore
import KE.GoesEnum
import KE.KDictZip
import HandS.More
import HandS.Proxy
import HandS.HeadHook3
import HandS.DictComp
import HandS.Deep
import KE.BitLaws
import HandS.SetFor
import HandS.Strs
import KE.DataMinMax
import HandS.TryOnly
import HandS.ExcField
import HandS.Flt
import HandS.Small
import HandS.SlotsOwn
import PyProof.InstNe
import PySem.Challenge.RW_nolooking_k28_tapes_and_their_changes
set_option Elab.async false
set_option linter.all false
set_option maxRecDepth 100000
set_option maxHeartbeats 4000000
/-! dict(d) and d.pop(k) of a dict whose keys are tuples -/
namespace PySem
open PySem.Spec PyProof.Rows
section
variable {prog : Program} {w : World} {A : Around} {E : Value → Shared → Prop} {s : Shared} {K : Type} [DecidableEq K] {knd : HeapKind prog w K}
theorem call_dictH {o : Addr} {more : List (K × Addr × Value)} {Q : Value → Shared → Prop} (hu : knd.room A.in1.in1) (hoS : (o == sysModules) = false) (ho : s.heap.DictOfH knd o more) (hap : (∀ x ∈ more, s.TypeIs (.ref x.2.1) "tuple") ∧ (more.map fun x => knd.hash x.1).Nodup) (hsz : more.length ≤ sizeLine)
    (hst : ∀ h', (∀ b o, s.heap.get? b = some o → h'.get? b = some o) → ∀ x ∈ more, knd.is h' x.1 x.2.1)
    (h : ∀ h', h'.DictOfH knd s.heap.objs.size more → Heap.SameBut s.heap.objs.size (s.heap.push { cls := .type "dict", data := .dict #[] }) h' → Q (.ref s.heap.objs.size) { s with heap := h' }) :
    wpAny (model prog w) A (call (.type "dict") [.ref o]) Q E s := by
  refine callType_codes (Q₁ := fun obj s₁ => obj = .ref s.heap.objs.size ∧ s₁ = { s with heap := s.heap.push { cls := .type "dict", data := .dict #[] } }) F.kt_called_dict (F.kt_typeCall_dict_1 _) F.entry_dict_init (kt_code_dict_new _ ⟨rfl, rfl⟩) ?_
  rintro obj s₁ ⟨rfl, rfl⟩
  have hnew : (s.heap.push { cls := .type "dict", data := .dict #[] }).DictOfH knd s.heap.objs.size [] := Heap.DictOfH.new s.heap
  have ho' : (s.heap.push { cls := .type "dict", data := .dict #[] }).DictOfH knd o more := by
    obtain ⟨oo, es, ep, h1, h2, h3, h4, _, h5⟩ := id ho
    exact ⟨oo, es, ep, Heap.get?_push_of_some _ h1, h2, h3, h4, hst _ fun b o e => Heap.get?_push_of_some _ e, h5⟩
  have hn : (more.map (·.1)).Nodup := let ⟨_, _, _, _, _, _, _, _, hn⟩ := ho; hn
  have hdo : s.heap.objs.size ≠ o := by
    obtain ⟨_, _, _, hg, _⟩ := ho
    exact fun e => absurd (Heap.lt_size hg) (by rw [e]; exact Nat.lt_irrefl _)
  refine ⟨hnew.typeIs, F.args_dict_init_2 _ _, ?_⟩
  unfold Builtin.«dict.__init__»
  refine wpAny_bind ?_
  unfold Builtin.Dict.selfAndRest
  refine wpAny_bind (wpAny_notOrdered_dict hnew.typeIs ?_)
  show wpAny _ _ (pure (s.heap.objs.size, [Value.ref o])) _ _ _
  refine wpAny_pure ?_
  show wpAny _ _ (Builtin.Dict.updateFrom "dict.__init__" s.heap.objs.size (.ref o) [] .none) _ _ _
  refine updateFrom_dictH (A := A.in1) (R := wants (fun r s₂ => r = .none ∧ Q (.ref s.heap.objs.size) s₂) E) .none hu hdo hoS hnew ho' (.inr ⟨fun x hx => ?_, hap.2⟩) (by simpa using hsz) fun h' hd' _ hs' => ?_
  · obtain ⟨ob, h1, h2⟩ := hap.1 x hx
    exact ⟨ob, Heap.get?_push_of_some _ h1, h2⟩
  · rw [storedAllH_nil_of_nodup more hn] at hd'
    exact ⟨rfl, h h' hd' hs'⟩
/-- d.pop(k), k there -/
theorem meetsPop1 {d b : Addr} {k : K} (hd : (d == sysModules) = false) :
    MeetsIn prog w (Builtin.«dict.pop» ⟨[.ref d, .ref b], []⟩) (fun A R s => ∃ xs p, knd.room A.in1 ∧ knd.is s.heap k b ∧ s.heap.DictOfH knd d xs ∧ xs.length ≤ sizeLine ∧ atKey xs k = some p ∧
      ∀ h' tk, h'.DictOfH knd d (DT.dropH xs k) → Heap.SameBut d s.heap h' → R (.ok (.ret p.2)) { s with heap := h', toks := tk }) :=
  .of_wp fun A R s ⟨xs, p0, hu, hkey, hm, hsz, h0, hsome⟩ => by
    obtain ⟨o, es, ep, ho, hc, hdat, he, his, hn⟩ := id hm
    have hes : es.size = xs.length := size_of_entries he
    have hpart : (keyPart (Value.ref b)).isSome = false := rfl
    unfold Builtin.«dict.pop»
    refine wpAny_bind ?_
    unfold Builtin.Dict.keyAndDefault
    refine wpAny_bind (wpAny_notOrdered_dict hm.typeIs ?_)
    show wpAny _ _ (pure (d, Value.ref b, none)) _ _ s
    refine wpAny_pure ?_
    simp only [hpart, Bool.false_eq_true, if_false]
    refine wpAny_bind (wpAny_dictEntries ho hdat (wpAny_bind (wpAny_pure ?_)))
    cases hem : es.isEmpty with
    | true =>
      have hx0 : xs = [] := by
        have z : es.size = 0 := by simpa using hem
        exact List.length_eq_zero_iff.mp (by omega)
      rw [hx0] at h0
      cases h0
    | false =>
      simp only [Bool.false_eq_true, if_false]
      refine wpAny_bind (DT.takeH hu hkey hm hsz (fun hno => ?_) fun p e hp hev h' hm' hs' => ?_)
      · rw [h0] at hno; cases hno
      · rw [h0] at hp
        cases hp
        simp only [Option.isNone_some, Bool.false_eq_true, if_false]
        exact wpAny_bind (wpAny_letGo (wpAny_pure ⟨e.val, rfl, by rw [hev]; exact hsome h' _ hm' hs'⟩))
end
end PySem
namespace L2.DX
open PySem PySem.Spec PyProof.Rows
section
variable {X : Cx}
/-- the hash of a tuple of keys -/
def hashK (w : World) (k : List L2.Key) : Int := reduceHash (Builtin.Tuple.tupleHashOf (k.map (keyH w)))
theorem KT.hashes {H : Hp} {w : World} : ∀ {kvs : List (List L2.Key × V)} {xs : List (List L2.Key × Addr × Value)}, KT H kvs xs → (xs.map fun x => hashK w x.1) = kvs.map fun p => hashK w p.1
  | _, _, Paired.nil => rfl
  | _, _, Paired.cons h t => by
    rw [List.map_cons, List.map_cons, KT.hashes t, h.1]
theorem KT.mem {H : Hp} : ∀ {kvs : List (List L2.Key × V)} {xs : List (List L2.Key × Addr × Value)}, KT H kvs xs → ∀ x ∈ xs, H x.2.1 = some (.tup (x.1.map kV))
  | _, _, Paired.nil, x, h => by cases h
  | _, _, Paired.cons h t, x, hx => by
    rcases List.mem_cons.mp hx with rfl | hx
    · rw [← h.1]; exact h.2.1
    · exact KT.mem t x hx
def rDictT (w : World) : List V → Hp → VK → Prop := fun xs H Q => ∃ (a : Addr) (kvs : List (List L2.Key × V)), xs = [.ref a] ∧ Rd H a (.dT kvs) ∧ (kvs.map fun p => hashK w p.1).Nodup ∧ ∀ p, H p = none → Q (.ref p) (upd H p (.dT kvs))
theorem call_dictT {k : Nat} (hr : Room k X.A) : CallR X (.type "dict") (rDictT X.w) := by
  intro pins s σ H xs us Q I r h
  obtain ⟨a, kvs, rfl, ha, hn, q⟩ := h
  rw [Vals.ref1 r]
  obtain ⟨z, hd, xs, rel, dd⟩ := dt_rd I.hok ha
  have hz : xs.length ≤ sizeLine := by rw [← Paired.length rel]; exact z
  have hu : X.A.units + 64 < cLine := Nat.lt_of_le_of_lt (Nat.add_le_add_left (Nat.le_refl _) _) (Nat.lt_of_le_of_lt (by omega) hr.units)
  refine call_dictH (knd := tupleKind (mixKind X.prog X.w)) (A := X.A) ?_ hd dd ⟨fun x hx => ?_, ?_⟩ hz (fun h' kp x hx => ?_) fun h' dd' hs => ?_
  · exact tupleKind_room_in1 (A := X.A.in1) (by show X.A.units + 1 + 1 < cLine; omega)
  · have e := KT.mem rel x hx
    obtain ⟨_, its, r, o, h1, h2, n, h3⟩ := (show ObjOk X.prog X.w H s.heap x.2.1 (.tup (x.1.map kV)) from I.hok _ _ e)
    exact ⟨o, h1, h2⟩
  · show (xs.map fun x => hashK X.w x.1).Nodup
    rw [KT.hashes rel]
    exact hn
  · obtain ⟨o, its, n, h1, h2, h3, h4⟩ := (show IsTupleKey (mixKind X.prog X.w) s.heap x.1 x.2.1 from key_of I.hok (KT.mem rel x hx))
    exact ⟨o, its, n, kp _ _ h1, h2, h3, h4⟩
  · obtain ⟨o, es, ep, hq, h2, h3, h4, _, h5⟩ := dd'
    have fr : H s.heap.objs.size = none := I.hok.fresh (Nat.le_refl _)
    refine ⟨.ref _, upd H s.heap.objs.size (.dT kvs), I.laid (a := s.heap.objs.size) (o := .dT kvs) (t' := s.toks) (fun b ob hb => ?_) (Nat.le_refl _) ?_, rfl, q _ fr⟩
    · exact (hs.2 b (Nat.ne_of_lt (Heap.lt_size hb))).trans (Heap.get?_push_of_some _ hb)
    · exact ⟨z, beq_eq_false_iff_ne.mpr (Ne.symm (Nat.ne_of_lt I.big)), xs, rel.keeps fun b ys e => by rw [upd_ne (ne_of_none e fr)]; exact e, o, es, ep, hq, h2, h3, h4, h5⟩
def rPopT1 : V → List V → Hp → VK → Prop := fun x xs H Q => ∃ (a : Addr) (kvs : List (List L2.Key × V)) (k : List L2.Key) (b : Addr) (v : V), x = .ref a ∧ xs = [.ref b] ∧ H a = some (.dT kvs) ∧ H b = some (.tup (k.map kV)) ∧
  valV kvs k = some v ∧ Q v (upd H a (.dT (dropK kvs k)))
theorem mt_popT1 (hu : X.A.units + 1 < cLine) : MtR X "dict.pop" rPopT1 := by
  intro pins s σ H x xs v us Q I rx rxs h
  obtain ⟨a, kvs, k, b, v0, rfl, rfl, ha, hb, ev, q1⟩ := h
  cases rx
  rw [Vals.ref1 rxs]
  obtain ⟨z, hd, xs', rel, dd⟩ := dt_of I.hok ha
  have hz : xs'.length ≤ sizeLine := by rw [← Paired.length rel]; exact z
  have r := rel.val k
  rw [ev] at r
  obtain ⟨p, hp, rp⟩ : ∃ p, atKey xs' k = some p ∧ RelV v0 p.2 := by
    cases hx : atKey xs' k with
    | none => rw [hx] at r; exact (show False from r).elim
    | some p => rw [hx] at r; exact ⟨p, rfl, r⟩
  refine call_meetsIn PySem.F.slot_dict_pop dd.typeIs PySem.F.entry_dict_pop (PySem.F.args_dict_pop_2 _ _) (PySem.meetsPop1 (knd := tupleKind (mixKind X.prog X.w)) (k := k) hd)
    ⟨xs', p, tupleKind_room_in1 hu, key_of I.hok hb, dd, hz, hp, fun h' tk dd' hs => ?_⟩
  obtain ⟨o, es, ep, hq, h2, h3, h4, _, h5⟩ := dd'
  have I2 : Inv X pins σ (upd H a (.dT (dropK kvs k))) { s with heap := h', toks := tk } :=
    d_write I (by rw [ha]; exact True.intro) hs ⟨o, hq⟩ ⟨Nat.le_trans (dropK_le kvs k) z, hd, _, (KT_drop k rel).keeps (fun c ys ec => (by rw [upd_ne (ne_of ec ha (fun z => nomatch z))]; exact ec)), o, es, ep, hq, h2, h3, h4, h5⟩
  exact ⟨v0, _, I2, rp, q1⟩
end
end L2.DX
set_option Elab.async false
set_option linter.all false
set_option maxRecDepth 100000
set_option maxHeartbeats 4000000
/-! sorted(d), sorted(d.items()) of a dict whose keys are tuples of ints -/
namespace PySem.W
open PySem
mutual
theorem reads_in {h : Heap} : ∀ {v : Value} {d : PyData} {as : List Addr}, Reads h v d as → ∀ a ∈ as, ∃ o, h.get? a = some o
  | _, _, _, .none, a, m => by cases m
  | _, _, _, .bool b, a, m => by cases m
  | _, _, _, .int i t, a, m => by cases m
  | _, _, _, .str x t, a, m => by cases m
  | _, _, _, .list h1 _ _ r, a, m => by
    rcases List.mem_cons.mp m with rfl | m
    · exact ⟨_, h1⟩
    · exact readsAll_in r a m
  | _, _, _, .tuple h1 _ _ r, a, m => readsAll_in r a m
  | _, _, _, .dict h1 _ _ r1 r2, a, m => by
    rcases List.mem_append.mp m with m | m
    · rcases List.mem_cons.mp m with rfl | m
      · exact ⟨_, h1⟩
      · exact readsAll_in r1 a m
    · exact readsAll_in r2 a m
theorem readsAll_in {h : Heap} : ∀ {vs : List Value} {ds : List PyData} {as : List Addr}, ReadsAll h vs ds as → ∀ a ∈ as, ∃ o, h.get? a = some o
  | _, _, _, .nil, a, m => by cases m
  | _, _, _, .cons r rs, a, m => by
    rcases List.mem_append.mp m with m | m
    · exact reads_in r a m
    · exact readsAll_in rs a m
end
theorem each_maps {α β γ : Type} (f : β → α) (g : γ → β) : ∀ l : List γ, EachIs (fun v z => v = f (g z)) (l.map fun z => f (g z)) l
  | [] => .nil
  | z :: l => .cons rfl (each_maps f g l)
theorem each_with {α β : Type} {R S : α → β → Prop} : ∀ {as : List α} {bs : List β}, EachIs R as bs → (∀ a b, R a b → b ∈ bs → S a b) → EachIs S as bs
  | _, _, .nil, _ => .nil
  | _, _, .cons h t, k => .cons (k _ _ h (List.mem_cons_self ..)) (each_with t fun a b r m => k a b r (List.mem_cons_of_mem _ m))
theorem each_eq {α β : Type} {f : β → α} : ∀ {as : List α} {bs : List β}, EachIs (fun v z => v = f z) as bs → as = bs.map f
  | _, _, .nil => rfl
  | _, _, .cons h t => by rw [List.map_cons, h, each_eq t]
end PySem.W
namespace L2.DX
open PySem PySem.Spec PyProof.Rows
open PySem.W (EachIs AllAlike Sortable)
/-- a key's data -/
def keyP : L2.Key → PyData
  | .inl i => .int i
  | .inr x => .str x
abbrev Ent := (List L2.Key × V) × PyData
def encT (t : Ent) : PyData := .tuple [.tuple (t.1.1.map keyP), t.2]
def encK (k : List L2.Key) : PyData := .tuple (k.map keyP)
section
variable {X : Cx}
theorem dp_ints {K : PySem.W.Frag} {H : Hp} : ∀ ns : List Int, DpAll K H ((ns.map (Sum.inl (β := Str))).map kV) ((ns.map (Sum.inl (β := Str))).map keyP)
  | [] => .nil
  | n :: ns => .cons (.int n) (dp_ints ns)
theorem dp_key {K : PySem.W.Frag} {H : Hp} {q : Addr} {ns : List Int} (h : H q = some (.tup ((ns.map (Sum.inl (β := Str))).map kV))) : Dp K H (.ref q) (encK (ns.map Sum.inl)) := .tup (SqT.of h) (dp_ints ns)
theorem depth_ints' : ∀ ns : List Int, PyData.depthAll ((ns.map (Sum.inl (β := Str))).map keyP) = 0
  | [] => by simp [PyData.depthAll]
  | n :: ns => by
    show PyData.depthAll (PyData.int n :: (ns.map (Sum.inl (β := Str))).map keyP) = 0
    simp only [PyData.depthAll, PyData.depth]
    rw [depth_ints' ns]
    rfl
theorem pgetR {α β : Type} {F : α → β → Prop} : ∀ {l₁ : List α} {l₂ : List β} {j : Nat} {x : α}, Paired F l₁ l₂ → l₁[j]? = some x → ∃ y, l₂[j]? = some y ∧ F x y
  | _, _, j, x, Paired.nil, h => by simp at h
  | _, _, 0, x, Paired.cons (b := y) f _, h => by
    simp only [List.getElem?_cons_zero] at h
    cases h
    exact ⟨y, rfl, f⟩
  | _, _, j + 1, x, Paired.cons _ t, h => by
    simp only [List.getElem?_cons_succ] at h
    obtain ⟨y, h1, h2⟩ := pgetR (j := j) t h
    exact ⟨y, (by rw [List.getElem?_cons_succ]; exact h1), h2⟩
abbrev Row := Addr × (Addr × Ent)
def rSortItD (K : PySem.W.Frag) : List V → Hp → VK → Prop := fun vs H Q => ∃ (p a : Addr) (ts : List Ent), vs = [.ref p] ∧ H p = some (itemsO p a) ∧ H a = some (.dT (ts.map (·.1))) ∧
  (∀ t ∈ ts, (∃ ns : List Int, t.1.1 = ns.map Sum.inl) ∧ Dp K H t.1.2 t.2 ∧ t.2.depth ≤ 20) ∧ AllAlike (ts.map encT) ∧
  ∀ (H' : Hp) (l : Addr) (ps : List Row), (∀ b o, H b = some o → H' b = some o) → ps.map (·.2.2) = ts.mergeSort (PySem.W.dataLe false encT) → H l = none → H' l = some (.lst (ps.map fun z => V.ref z.1)) →
    (∀ z ∈ ps, H z.1 = none ∧ l ≠ z.1 ∧ H' z.1 = some (.tup [.ref z.2.1, z.2.2.1.2]) ∧ H z.2.1 = some (.tup (z.2.2.1.1.map kV))) → Q (.ref l) H'
theorem cr_sortItD {k : Nat} (hc : X.calm = true) (hr : Room k X.A) : CallR X (.builtin "sorted") (rSortItD X.K) := by
  intro pins s σ H xs us Q I r h
  obtain ⟨p, a, ts, rfl, hp, ha, hv, hal, q⟩ := h
  obtain rfl := Vals.ref1 r
  have hu : X.A.units + 64 < cLine := Nat.lt_of_le_of_lt (by omega) hr.units
  have view : s.heap.IsItemsView p a := (show ObjOk X.prog X.w H s.heap p (itemsO p a) from I.hok p _ hp).1
  obtain ⟨z, hd, xs', rel, o, es, ep, ho, hx, hdat, hes, his, hn⟩ := dt_of I.hok ha
  have l1 : (ts.map (·.1)).length = xs'.length := Paired.length rel
  rw [List.length_map] at l1 z
  have l2 : es.size = xs'.length := size_of_entries hes
  have hh : X.A.handled = none := I.ok.hd hc
  refine DT.sortedI (es := es) (ep := ep) hh view ⟨o, ho, hx, hdat⟩ (by omega) fun h' tk as hk hlt hl hG => ?_
  have lak : as.length = ts.length := by omega
  have nd : as.Nodup := List.Pairwise.imp (fun h => Nat.ne_of_lt h) hG.rise
  -- the rows: a pair's place, its key's place, the entry
  let bs : List Row := as.zip ((xs'.map (·.2.1)).zip ts)
  have lz : ((xs'.map (·.2.1)).zip ts).length = ts.length := by rw [List.length_zip, List.length_map]; omega
  have e_as : bs.map (·.1) = as := List.map_fst_zip (by rw [lz]; omega)
  have e_ts : bs.map (·.2.2) = ts := by
    show (as.zip ((xs'.map (·.2.1)).zip ts)).map (fun z => z.2.2) = ts
    have e1 : (as.zip ((xs'.map (·.2.1)).zip ts)).map (fun z => z.2.2) = ((as.zip ((xs'.map (·.2.1)).zip ts)).map (·.2)).map (·.2) := by rw [List.map_map]; rfl
    rw [e1, List.map_snd_zip (by rw [lz]; omega), List.map_snd_zip (by rw [List.length_map]; omega)]
  have row : ∀ z ∈ bs, ∃ u, h'.get? z.1 = some { cls := .type "tuple", data := .seq #[Value.ref z.2.1, u] } ∧ RelV z.2.2.1.2 u ∧ H z.2.1 = some (.tup (z.2.2.1.1.map kV)) ∧ z.2.2 ∈ ts ∧ z.1 ∈ as := by
    intro z hz
    obtain ⟨j, hj⟩ := List.mem_iff_getElem?.mp hz
    obtain ⟨j1, j2⟩ := List.getElem?_zip_eq_some.mp hj
    obtain ⟨j3, j4⟩ := List.getElem?_zip_eq_some.mp j2
    obtain ⟨en, he, hg⟩ := hG.pairs j z.1 j1
    rw [entry_at hes j] at he
    rw [List.getElem?_map] at j3
    cases hxj : xs'[j]? with
    | none => rw [hxj] at j3; cases j3
    | some x =>
      rw [hxj] at he j3
      have een : entryOfKey (tupleKind (mixKind X.prog X.w)) x = en := Option.some.inj he
      have ek : x.2.1 = z.2.1 := Option.some.inj j3
      obtain ⟨e0, he0, r1, r2, r3⟩ := pget rel hxj
      rw [List.getElem?_map, j4] at he0
      have ee : z.2.2.1 = e0 := Option.some.inj he0
      subst ee
      refine ⟨x.2.2, ?_, r3, by rw [← ek]; exact r2, List.mem_of_getElem? j4, List.mem_of_getElem? j1⟩
      rw [hg, ← een, ← ek]
      rfl
  -- the heap of the sort
  have hob : (h'.push { cls := .type "list", data := .seq (as.map Value.ref).toArray }).get? h'.objs.size = some (seqObj "list" (as.map Value.ref).toArray 0) := Heap.get?_push_size _ rfl
  have ka : ∀ b o, h'.get? b = some o → (h'.push { cls := .type "list", data := .seq (as.map Value.ref).toArray }).get? b = some o := fun b o e => Heap.get?_push_of_some _ e
  have ne0 : ∀ b o, h'.get? b = some o → b ≠ h'.objs.size := fun b o e => Nat.ne_of_lt (Heap.lt_size e)
  generalize hh2 : h'.push { cls := .type "list", data := .seq (as.map Value.ref).toArray } = h2 at hob ka ⊢
  have kb : ∀ b o, s.heap.get? b = some o → h2.get? b = some o := fun b o e => ka _ _ (hk b o e)
  have evs : as.map Value.ref = bs.map fun z => Value.ref z.1 := by rw [← e_as, List.map_map]; rfl
  have eE : EachIs (fun v (z : Row) => v = Value.ref z.1) (as.map Value.ref) bs := by
    rw [evs]
    exact PySem.W.each_maps Value.ref (fun z : Row => z.1) bs
  have rd : ∀ z ∈ bs, ∃ as', Reads h' (Value.ref z.1) (encT z.2.2) as' := fun z hz => by
    obtain ⟨u, hg, ru, hq, ht, _⟩ := row z hz
    obtain ⟨⟨ns, hns⟩, hdp, _⟩ := hv _ ht
    have hq' : H z.2.1 = some (.tup ((ns.map (Sum.inl (β := Str))).map kV)) := by rw [← hns]; exact hq
    obtain ⟨a1, r1⟩ := Dp.reads I _ _ (Value.ref z.2.1) (dp_key (K := X.K) hq') rfl
    obtain ⟨a2, r2⟩ := Dp.reads I _ _ u hdp ru
    refine ⟨a1 ++ (a2 ++ []), .tuple hg rfl rfl ?_⟩
    have ek : PyData.tuple (z.2.2.1.1.map keyP) = encK (ns.map Sum.inl) := by rw [hns]; rfl
    rw [ek]
    exact .cons (PyProof.Rows.Reads.keeps hk r1) (.cons (PyProof.Rows.Reads.keeps hk r2) .nil)
  have er : EachIs (fun v (z : Row) => ∃ as', Reads h2 v (encT z.2.2) as' ∧ h'.objs.size ∉ as') (as.map Value.ref) bs := PySem.W.each_with eE fun v z e m => by
    obtain ⟨as', r⟩ := rd z m
    subst e
    refine ⟨as', PyProof.Rows.Reads.keeps ka r, fun hm => ?_⟩
    obtain ⟨oo, ho'⟩ := PySem.W.reads_in r _ hm
    exact absurd (Heap.lt_size ho') (Nat.lt_irrefl _)
  have eenc : bs.map (fun z : Row => encT z.2.2) = ts.map encT := by rw [← e_ts, List.map_map]; rfl
  refine PySem.W.list_sort_data (A := X.A.in1) (s := { s with heap := h2, toks := tk }) (R := fun v (z : Row) => v = Value.ref z.1) (enc := fun z : Row => encT z.2.2) hob eE er (by rw [eenc]; exact hal) ?_ (by
      have : bs.length = ts.length := by rw [← e_ts, List.length_map]
      omega) (fun z hz => ?_) fun out hlen hout => ?_
  · rw [eenc]
    refine .inl fun d hd => ?_
    obtain ⟨t, _, rfl⟩ := List.mem_map.mp hd
    exact ⟨_, _, rfl⟩
  · obtain ⟨_, _, _, _, ht, _⟩ := row z hz
    obtain ⟨⟨ns, hns⟩, _, h20⟩ := hv _ ht
    have e1 : (encT z.2.2).depth ≤ 22 := by
      unfold encT
      rw [hns]
      simp only [PyData.depth, PyData.depthAll, depth_ints']
      omega
    show X.A.units + 1 + 1 + (encT z.2.2).depth < cLine
    omega
  · show EP X pins σ Q (.ref h'.objs.size) { s with heap := sortedHeap h2 h'.objs.size (as.map Value.ref) out.toArray, toks := tk }
    have eout := PySem.W.each_eq hout
    generalize hzs : bs.mergeSort (PySem.W.dataLe false fun z : Row => encT z.2.2) = zs at hout eout
    have pz : zs.Perm bs := by rw [← hzs]; exact List.mergeSort_perm _ _
    have hsrt : zs.map (·.2.2) = ts.mergeSort (PySem.W.dataLe false encT) := by
      rw [← hzs, ← e_ts]
      exact List.map_mergeSort fun a _ b _ => rfl
    have kF : ∀ b o, b ≠ h'.objs.size → h2.get? b = some o → (sortedHeap h2 h'.objs.size (as.map Value.ref) out.toArray).get? b = some o := fun b o hb e => (PyProof.Rows.sortedHeap_old hb (Heap.lt_size e)).trans e
    have kS : ∀ b o, s.heap.get? b = some o → (sortedHeap h2 h'.objs.size (as.map Value.ref) out.toArray).get? b = some o := fun b o e => kF b o (ne0 _ _ (hk b o e)) (kb b o e)
    obtain ⟨eF, heF⟩ := PyProof.Rows.sortedHeap_at (vs := as.map Value.ref) (out := out.toArray) hob
    have I1 : Inv X pins σ H { s with heap := sortedHeap h2 h'.objs.size (as.map Value.ref) out.toArray, toks := tk } := I.kept (t' := tk) kS
    have hn0 : H h'.objs.size = none := I.hok.fresh (Nat.le_of_lt hlt)
    have hlen : (zs.map fun z => V.ref z.1).length ≤ sizeLine := by
      rw [List.length_map, pz.length_eq, show bs.length = ts.length by rw [← e_ts, List.length_map]]
      omega
    have rv : Vals (zs.map fun z => V.ref z.1) out := by
      rw [eout]
      exact vals_maps (fun z : Row => V.ref z.1) (fun z => Value.ref z.1) zs fun _ _ => rfl
    have I2 : Inv X pins σ (upd H h'.objs.size (.lst (zs.map fun z => V.ref z.1))) { s with heap := sortedHeap h2 h'.objs.size (as.map Value.ref) out.toArray, toks := tk } :=
      I1.take (h' := sortedHeap h2 h'.objs.size (as.map Value.ref) out.toArray) (t' := tk) (fun b ob _ e => e) (I.fpOk (Nat.le_of_lt hlt) hn0) ⟨hlen, out, eF, rv, heF⟩
    have fr : ∀ b ∈ as, s.heap.objs.size ≤ b := fun b hb => Nat.le_of_lt (hG.above b hb)
    have inb : ∀ b ∈ as, ∃ z ∈ bs, z.1 = b := fun b hb => by
      rw [← e_as] at hb
      obtain ⟨z, hz, e⟩ := List.mem_map.mp hb
      exact ⟨z, hz, e⟩
    obtain ⟨H2, I3, g, qt⟩ := takeT (P := fun b vs => ∃ z ∈ bs, z.1 = b ∧ vs = [.ref z.2.1, z.2.2.1.2]) I as _ I2 nd fun b hb => by
      obtain ⟨z, hz, e⟩ := inb b hb
      subst e
      obtain ⟨u, hg, ru, hq, ht, _⟩ := row z hz
      refine ⟨fr _ hb, ?_, [.ref z.2.1, z.2.2.1.2], ⟨z, hz, rfl, rfl⟩, fun H3 => ⟨(by rw [sizeLine_eq]; show 2 ≤ 16777216; omega), [Value.ref z.2.1, u], .cons rfl (.cons ru .nil), ⟨_, kF _ _ (ne0 _ _ hg) (ka _ _ hg), rfl, 0, rfl⟩⟩⟩
      rw [upd_ne (ne0 _ _ hg)]
      exact I.hok.fresh (fr _ hb)
    have gr : ∀ b o, H b = some o → H2 b = some o := fun b o e => g b o (by rw [upd_ne (ne_of_none e hn0)]; exact e)
    refine ⟨.ref h'.objs.size, H2, I3, rfl, q H2 h'.objs.size zs gr hsrt hn0 (g _ _ upd_same) fun z hz => ?_⟩
    have hzb : z ∈ bs := pz.mem_iff.mp hz
    obtain ⟨u, hg, ru, hq, ht, ham⟩ := row z hzb
    refine ⟨I.hok.fresh (fr _ ham), Ne.symm (ne0 _ _ hg), ?_, hq⟩
    obtain ⟨vs, ⟨z', hz', e1, e2⟩, hH⟩ := qt z.1 ham
    have : z' = z := by
      have nb : (bs.map (·.1)).Nodup := by rw [e_as]; exact nd
      obtain ⟨i, hi⟩ := List.mem_iff_getElem?.mp hz'
      obtain ⟨j, hj⟩ := List.mem_iff_getElem?.mp hzb
      have h1 : (bs.map (·.1))[i]? = some z.1 := by rw [List.getElem?_map, hi, ← e1]; rfl
      have h2 : (bs.map (·.1))[j]? = some z.1 := by rw [List.getElem?_map, hj]; rfl
      have : i = j := (List.getElem?_inj (List.getElem?_eq_some_iff.mp h1).1 nb).mp (h1.trans h2.symm)
      subst this
      exact Option.some.inj (hi.symm.trans hj)
    subst this
    rw [hH, e2]
/-- sorted(d) -/
abbrev RowK := Addr × List L2.Key
def rSortKT : List V → Hp → VK → Prop := fun vs H Q => ∃ (a : Addr) (kvs : List (List L2.Key × V)), vs = [.ref a] ∧ Rd H a (.dT kvs) ∧
  (∀ t ∈ kvs, ∃ ns : List Int, t.1 = ns.map Sum.inl ∧ ns ≠ []) ∧ AllAlike (kvs.map fun t => encK t.1) ∧
  ∀ (l : Addr) (ps : List RowK), ps.map (·.2) = (kvs.map (·.1)).mergeSort (PySem.W.dataLe false encK) → H l = none →
    (∀ z ∈ ps, H z.1 = some (.tup (z.2.map kV))) → Q (.ref l) (upd H l (.lst (ps.map fun z => V.ref z.1)))
theorem cr_sortKT {k : Nat} (hc : X.calm = true) (hr : Room k X.A) : CallR X (.builtin "sorted") rSortKT := by
  intro pins s σ H xs us Q I r h
  obtain ⟨a, kvs, rfl, ha, hv, hal, q⟩ := h
  obtain rfl := Vals.ref1 r
  have hu : X.A.units + 64 < cLine := Nat.lt_of_le_of_lt (by omega) hr.units
  obtain ⟨z, hd, xs', rel, o, es, ep, ho, hx, hdat, hes, his, hn⟩ := dt_rd I.hok ha
  have l1 : kvs.length = xs'.length := Paired.length rel
  have l2 : es.size = xs'.length := size_of_entries hes
  have hh : X.A.handled = none := I.ok.hd hc
  refine Calls.call_function_entry PyProof.Rows.kind_sorted PyProof.Rows.plain_sorted PyProof.Rows.entry_sorted (PyProof.Rows.args_sorted1 _) ?_
  unfold Builtin.«sorted»
  refine wpAny_bind (m := checkCount "sorted" 1 1 _) (wpAny_pure ?_)
  refine wpAny_bind (PySem.W.kdu_collect (A := X.A.in1) (PySem.KdlSrc.rawDict (d := a) (es := es) (ep := ep) hd) hh ⟨o, ho, hx, hdat⟩ (by omega) fun h' tk acc hk hacc => ?_)
  let bs : List RowK := (xs'.map (·.2.1)).zip (kvs.map (·.1))
  have e_as : bs.map (·.1) = xs'.map (·.2.1) := List.map_fst_zip (by simp; omega)
  have e_ts : bs.map (·.2) = kvs.map (·.1) := List.map_snd_zip (by simp; omega)
  have eacc : acc.toList = bs.map fun z => Value.ref z.1 := by
    have e1 : bs.map (fun z => Value.ref z.1) = (xs'.map (·.2.1)).map Value.ref := by rw [← e_as, List.map_map]; rfl
    rw [e1]
    apply List.ext_getElem?
    intro j
    rw [List.getElem?_map, List.getElem?_map]
    cases hxj : xs'[j]? with
    | none =>
      have : xs'.length ≤ j := by simpa using hxj
      have h2 : acc.size = es.size := hacc.1
      rw [List.getElem?_eq_none (by rw [Array.length_toList]; omega)]
      rfl
    | some x =>
      have hj : j < xs'.length := (List.getElem?_eq_some_iff.mp hxj).1
      have h2 : acc.size = es.size := hacc.1
      have hja : j < acc.size := by omega
      obtain ⟨hi, e3⟩ := hacc.2 j acc[j] (by simp [hja])
      rw [Array.getElem?_toList, Array.getElem?_eq_getElem hja, e3]
      have he : es[j]? = some es[j] := by simp [hi]
      rw [entry_at hes j, hxj] at he
      have := Option.some.inj he
      rw [← this]
      rfl
  have row : ∀ z ∈ bs, H z.1 = some (.tup (z.2.map kV)) ∧ ∃ t ∈ kvs, t.1 = z.2 := by
    intro z hz
    obtain ⟨j, hj⟩ := List.mem_iff_getElem?.mp hz
    obtain ⟨j1, j2⟩ := List.getElem?_zip_eq_some.mp hj
    rw [List.getElem?_map] at j1 j2
    cases hxj : xs'[j]? with
    | none => rw [hxj] at j1; cases j1
    | some x =>
      rw [hxj] at j1
      obtain ⟨e0, he0, r1, r2, r3⟩ := pget rel hxj
      rw [he0] at j2
      have a1 : x.2.1 = z.1 := Option.some.inj j1
      have a2 : e0.1 = z.2 := Option.some.inj j2
      exact ⟨by rw [← a1, ← a2]; exact r2, e0, List.mem_of_getElem? he0, a2⟩
  have lb : bs.length = kvs.length := by have := congrArg List.length e_ts; simpa using this
  have I1 : Inv X pins σ H { s with heap := h', toks := tk } := I.kept hk
  refine wpAny_bind (wpAny_newList ?_ (by rw [eacc, List.length_map]; omega))
  have hoL : (h'.push (seqObj "list" acc.toList.toArray 0)).get? h'.objs.size = some (seqObj "list" acc.toList.toArray 0) := Heap.get?_push_size _ rfl
  show wpAny _ _ _ _ _ { s with heap := h'.push (seqObj "list" acc.toList.toArray 0), toks := tk }
  have ka : ∀ b o, h'.get? b = some o → (h'.push (seqObj "list" acc.toList.toArray 0)).get? b = some o := fun b o e => Heap.get?_push_of_some _ e
  have eE : EachIs (fun v (z : RowK) => v = Value.ref z.1) acc.toList bs := by
    rw [eacc]
    exact PySem.W.each_maps Value.ref (fun z : RowK => z.1) bs
  have er : EachIs (fun v (z : RowK) => ∃ as', Reads (h'.push (seqObj "list" acc.toList.toArray 0)) v (encK z.2) as' ∧ h'.objs.size ∉ as') acc.toList bs := PySem.W.each_with eE fun v z e m => by
    obtain ⟨hq, t, ht, et⟩ := row z m
    obtain ⟨ns, hns, _⟩ := hv t ht
    rw [et] at hns
    have hq' : H z.1 = some (.tup ((ns.map (Sum.inl (β := Str))).map kV)) := by rw [← hns]; exact hq
    obtain ⟨as', r⟩ := Dp.reads I1 _ _ (Value.ref z.1) (dp_key (K := X.K) hq') rfl
    subst e
    rw [hns]
    refine ⟨as', PyProof.Rows.Reads.keeps ka r, fun hm => ?_⟩
    obtain ⟨oo, ho'⟩ := PySem.W.reads_in r _ hm
    exact absurd (Heap.lt_size ho') (Nat.lt_irrefl _)
  have eenc : bs.map (fun z : RowK => encK z.2) = kvs.map fun t => encK t.1 := by
    have : bs.map (fun z : RowK => encK z.2) = (bs.map (·.2)).map encK := by rw [List.map_map]; rfl
    rw [this, e_ts, List.map_map]; rfl
  refine wpAny_bind (wpAny_holding ?_)
  refine PySem.W.list_sort_data (A := X.A.in1) (s := { s with heap := h'.push (seqObj "list" acc.toList.toArray 0), toks := tk }) (R := fun v (z : RowK) => v = Value.ref z.1) (enc := fun z : RowK => encK z.2) hoL eE er (by rw [eenc]; exact hal) ?_ (by omega) (fun z hz => ?_) fun out hlen hout => ?_
  · rw [eenc]
    refine .inl fun d hd => ?_
    obtain ⟨t, ht, rfl⟩ := List.mem_map.mp hd
    obtain ⟨ns, hns, hne⟩ := hv t ht
    rw [hns]
    cases ns with
    | nil => exact absurd rfl hne
    | cons n ns => exact ⟨_, _, rfl⟩
  · obtain ⟨hq, t, ht, et⟩ := row z hz
    obtain ⟨ns, hns, _⟩ := hv t ht
    rw [et] at hns
    have e1 : (encK z.2).depth ≤ 22 := by
      unfold encK
      rw [hns]
      simp only [PyData.depth, depth_ints']
      omega
    show X.A.units + 1 + 1 + (encK z.2).depth < cLine
    omega
  · have eout := PySem.W.each_eq hout
    generalize hzs : bs.mergeSort (PySem.W.dataLe false fun z : RowK => encK z.2) = zs at hout eout
    have pz : zs.Perm bs := by rw [← hzs]; exact List.mergeSort_perm _ _
    have hsrt : zs.map (·.2) = (kvs.map (·.1)).mergeSort (PySem.W.dataLe false encK) := by
      rw [← hzs, ← e_ts]
      exact List.map_mergeSort fun a _ b _ => rfl
    obtain ⟨e', he'⟩ := PyProof.Rows.sortedHeap_at (vs := acc.toList) (out := out.toArray) hoL
    have hlen : (zs.map fun z => V.ref z.1).length ≤ sizeLine := by
      rw [List.length_map, pz.length_eq]
      omega
    have rv : Vals (zs.map fun z => V.ref z.1) out := by
      rw [eout]
      exact vals_maps (fun z : RowK => V.ref z.1) (fun z => Value.ref z.1) zs fun _ _ => rfl
    refine wpAny_pure ⟨_, rfl, .ref h'.objs.size, upd H h'.objs.size (.lst (zs.map fun z => V.ref z.1)), I1.laid (t' := tk) (fun b u e => ?_) (Nat.le_refl _)
      (show ObjOk X.prog X.w _ _ _ (.lst (zs.map fun z => V.ref z.1)) from ⟨hlen, out, e', rv, he'⟩), rfl, q _ zs hsrt (I1.hok.fresh (Nat.le_refl _)) fun z hz => (row z (pz.mem_iff.mp hz)).1⟩
    have hb : b < h'.objs.size := Heap.lt_size e
    rw [PyProof.Rows.sortedHeap_old (Nat.ne_of_lt hb) (by rw [size_push']; exact Nat.lt_succ_of_lt hb)]
    exact Heap.get?_push_of_some _ e
end
end L2.DX
set_option Elab.async false
set_option linter.all false
set_option maxRecDepth 100000
set_option maxHeartbeats 4000000
noncomputable section
namespace Fx
open PySem L2
abbrev Fg := PySem.W.Frag

/-! ## data -/
inductive D where
  | non | bl (b : Bool) | int (i : Int) | str (x : Str)
  | tup (ds : List D) | lst (ds : List D)
  | dk (kvs : List (Key × D)) | dt (kvs : List (List Key × D))
  | scr (ns : List Int)
  | obj (c : Str) (ns : List Str) (ds : List D)
instance : Inhabited D := ⟨.non⟩

/- value v stands for d, in what never changes -/
mutual
inductive Rep (K : Fg) (G : Hp) : V → D → Prop
  | non : Rep K G .non .non
  | bl (b : Bool) : Rep K G (.bl b) (.bl b)
  | int (i : Int) : Rep K G (.int i) (.int i)
  | str (x : Str) : Rep K G (.str x) (.str x)
  | tup {a : Addr} {xs : List V} {ds : List D} : G a = some (.tup xs) → Reps K G xs ds → Rep K G (.ref a) (.tup ds)
  | lst {a : Addr} {xs : List V} {ds : List D} : G a = some (.lst xs) → Reps K G xs ds → Rep K G (.ref a) (.lst ds)
  | dk {a : Addr} {xs : List (Key × V)} {ds : List (Key × D)} : G a = some (.dK xs) → RepK K G xs ds → Rep K G (.ref a) (.dk ds)
  | dt {a : Addr} {xs : List (List Key × V)} {ds : List (List Key × D)} : G a = some (.dT xs) → RepT K G xs ds → Rep K G (.ref a) (.dt ds)
  | scr {a : Addr} {ns : List Int} : SqL K G a (ns.map V.int) → Rep K G (.ref a) (.scr ns)
  | obj {c : Str} {a C dx : Addr} {xs : List (Str × V)} {ns : List Str} {vs : List V} {ds : List D} : PySem.W.nsIn K mainGlobals c = some (some (.ref C)) → G a = some (.ins C dx xs) → xs.map (·.1) = ns → xs.map (·.2) = vs → Reps K G vs ds → Rep K G (.ref a) (.obj c ns ds)
inductive Reps (K : Fg) (G : Hp) : List V → List D → Prop
  | nil : Reps K G [] []
  | cons {v : V} {vs : List V} {d : D} {ds : List D} : Rep K G v d → Reps K G vs ds → Reps K G (v :: vs) (d :: ds)
inductive RepK (K : Fg) (G : Hp) : List (Key × V) → List (Key × D) → Prop
  | nil : RepK K G [] []
  | cons {k : Key} {v : V} {vs : List (Key × V)} {d : D} {ds : List (Key × D)} : Rep K G v d → RepK K G vs ds → RepK K G ((k, v) :: vs) ((k, d) :: ds)
inductive RepT (K : Fg) (G : Hp) : List (List Key × V) → List (List Key × D) → Prop
  | nil : RepT K G [] []
  | cons {k : List Key} {v : V} {vs : List (List Key × V)} {d : D} {ds : List (List Key × D)} : Rep K G v d → RepT K G vs ds → RepT K G ((k, v) :: vs) ((k, d) :: ds)
end

theorem Same.sqT {K : Fg} {G G' : Hp} {a : Addr} {xs : List V} (e : Same G G') (h : SqT K G a xs) : SqT K G' a xs := by
  rcases h with (h | ⟨o, h⟩) | h
  · exact .inl (.inl (e _ _ h))
  · exact .inl (.inr ⟨o, e _ _ h⟩)
  · exact .inr h

section
variable {K : Fg} {G G' : Hp}
mutual
theorem Rep.mono (e : Same G G') : ∀ {d : D} {v : V}, Rep K G v d → Rep K G' v d
  | _, _, .non => .non
  | _, _, .bl b => .bl b
  | _, _, .int i => .int i
  | _, _, .str x => .str x
  | _, _, .tup h r => .tup (e _ _ h) (Reps.mono e r)
  | _, _, .lst h r => .lst (e _ _ h) (Reps.mono e r)
  | _, _, .dk h r => .dk (e _ _ h) (RepK.mono e r)
  | _, _, .dt h r => .dt (e _ _ h) (RepT.mono e r)
  | _, _, .scr h => .scr (e.seq h)
  | _, _, .obj hC h h1 h2 r => .obj hC (e _ _ h) h1 h2 (Reps.mono e r)
theorem Reps.mono (e : Same G G') : ∀ {ds : List D} {vs : List V}, Reps K G vs ds → Reps K G' vs ds
  | _, _, .nil => .nil
  | _, _, .cons h r => .cons (Rep.mono e h) (Reps.mono e r)
theorem RepK.mono (e : Same G G') : ∀ {ds : List (Key × D)} {vs : List (Key × V)}, RepK K G vs ds → RepK K G' vs ds
  | _, _, .nil => .nil
  | _, _, .cons h r => .cons (Rep.mono e h) (RepK.mono e r)
theorem RepT.mono (e : Same G G') : ∀ {ds : List (List Key × D)} {vs : List (List Key × V)}, RepT K G vs ds → RepT K G' vs ds
  | _, _, .nil => .nil
  | _, _, .cons h r => .cons (Rep.mono e h) (RepT.mono e r)
end
theorem Reps.length : ∀ {ds : List D} {vs : List V}, Reps K G vs ds → vs.length = ds.length
  | _, _, .nil => rfl
  | _, _, .cons _ r => by simp [Reps.length r]
theorem Reps.get : ∀ {ds : List D} {vs : List V} {i : Nat} {v : V}, Reps K G vs ds → vs[i]? = some v → ∃ d, ds[i]? = some d ∧ Rep K G v d
  | _, _, _, _, .nil, h => by simp at h
  | _, _, 0, _, .cons h _, e => by simp at e; subst e; exact ⟨_, rfl, h⟩
  | _, _, i + 1, v, .cons _ r, e => by
    obtain ⟨d, h1, h2⟩ := Reps.get (i := i) r (by simpa using e)
    exact ⟨d, by simpa using h1, h2⟩
theorem Reps.getD : ∀ {ds : List D} {vs : List V} {i : Nat} {d : D}, Reps K G vs ds → ds[i]? = some d → ∃ v, vs[i]? = some v ∧ Rep K G v d
  | _, _, _, _, .nil, h => by simp at h
  | _, _, 0, _, .cons h _, e => by simp at e; subst e; exact ⟨_, rfl, h⟩
  | _, _, i + 1, v, .cons _ r, e => by
    obtain ⟨d, h1, h2⟩ := Reps.getD (i := i) r (by simpa using e)
    exact ⟨d, by simpa using h1, h2⟩
theorem Reps.append : ∀ {ds es : List D} {vs ws : List V}, Reps K G vs ds → Reps K G ws es → Reps K G (vs ++ ws) (ds ++ es)
  | _, _, _, _, .nil, s => s
  | _, _, _, _, .cons h r, s => .cons h (Reps.append r s)
theorem Reps.take : ∀ {ds : List D} {vs : List V} (n : Nat), Reps K G vs ds → Reps K G (vs.take n) (ds.take n)
  | _, _, 0, _ => by simp; exact .nil
  | _, _, _ + 1, .nil => .nil
  | _, _, n + 1, .cons h r => .cons h (Reps.take n r)
theorem Reps.drop : ∀ {ds : List D} {vs : List V} (n : Nat), Reps K G vs ds → Reps K G (vs.drop n) (ds.drop n)
  | _, _, 0, r => by simpa using r
  | _, _, _ + 1, .nil => .nil
  | _, _, n + 1, .cons h r => Reps.drop n r
theorem Reps.set {v : V} {d : D} (h : Rep K G v d) : ∀ {ds : List D} {vs : List V} (i : Nat), Reps K G vs ds → Reps K G (vs.set i v) (ds.set i d)
  | _, _, _, .nil => .nil
  | _, _, 0, .cons _ r => .cons h r
  | _, _, i + 1, .cons q r => .cons q (Reps.set h i r)
theorem Reps.rev : ∀ {ds : List D} {vs : List V}, Reps K G vs ds → Reps K G vs.reverse ds.reverse
  | _, _, .nil => .nil
  | _, _, .cons h r => by rw [List.reverse_cons, List.reverse_cons]; exact (Reps.rev r).append (.cons h .nil)
theorem reps_ints (ns : List Int) : Reps K G (ns.map V.int) (ns.map D.int) := by
  induction ns with
  | nil => exact .nil
  | cons n r ih => exact .cons (.int n) ih
theorem Reps.ints_inv {vs : List V} : ∀ {ns : List Int}, Reps K G vs (ns.map D.int) → vs = ns.map V.int := by
  intro ns
  induction ns generalizing vs with
  | nil => intro h; cases h; rfl
  | cons n r ih =>
    intro h
    cases h with
    | cons a b => cases a; rw [ih b]; rfl
end

/-! ## cells: shared data; a list, a dict of one's own -/
inductive C where
  | sh (d : D) | ol (ds : List D) | oll (dss : List (List D)) | odk (kvs : List (Key × D)) | odt (kvs : List (List Key × D))
instance : Inhabited C := ⟨.sh .non⟩

/-- lists at the places ls -/
inductive Inner (K : Fg) (G H : Hp) : List Addr → List (List D) → Prop
  | nil : Inner K G H [] []
  | cons {l : Addr} {ls : List Addr} {xs : List V} {ds : List D} {dss : List (List D)} : G l = none → H l = some (.lst xs) → Reps K G xs ds → Inner K G H ls dss → Inner K G H (l :: ls) (ds :: dss)

inductive RepC (K : Fg) (G H : Hp) : V → C → List Addr → Prop
  | sh {v : V} {d : D} : Rep K G v d → RepC K G H v (.sh d) []
  | ol {l : Addr} {xs : List V} {ds : List D} : G l = none → H l = some (.lst xs) → Reps K G xs ds → RepC K G H (.ref l) (.ol ds) [l]
  | oll {l : Addr} {ls : List Addr} {dss : List (List D)} : G l = none → H l = some (.lst (ls.map V.ref)) → Inner K G H ls dss → (l :: ls).Nodup → RepC K G H (.ref l) (.oll dss) (l :: ls)
  | odk {l : Addr} {xs : List (Key × V)} {ds : List (Key × D)} : G l = none → H l = some (.dK xs) → RepK K G xs ds → RepC K G H (.ref l) (.odk ds) [l]
  | odt {l : Addr} {xs : List (List Key × V)} {ds : List (List Key × D)} : G l = none → H l = some (.dT xs) → RepT K G xs ds → RepC K G H (.ref l) (.odt ds) [l]

def C.fz : C → D
  | .sh d => d | .ol ds => .lst ds | .oll dss => .lst (dss.map D.lst) | .odk kvs => .dk kvs | .odt kvs => .dt kvs

theorem Inner.mem {K : Fg} {G H : Hp} : ∀ {ls : List Addr} {dss : List (List D)}, Inner K G H ls dss → ∀ a ∈ ls, G a = none ∧ ∃ o, H a = some o
  | _, _, .nil, a, h => by cases h
  | _, _, .cons g h r i, a, m => by
    rcases List.mem_cons.mp m with e | m
    · subst e; exact ⟨g, _, h⟩
    · exact Inner.mem i a m
theorem Inner.mono {K : Fg} {G H G' H' : Hp} (e : Same G G') : ∀ {ls : List Addr} {dss : List (List D)}, Inner K G H ls dss → (∀ a ∈ ls, G' a = none) → (∀ a ∈ ls, ∀ o, H a = some o → H' a = some o) → Inner K G' H' ls dss
  | _, _, .nil, _, _ => .nil
  | _, _, .cons g h r i, k1, k2 => .cons (k1 _ (by simp)) (k2 _ (by simp) _ h) (r.mono e) (Inner.mono e i (fun a m => k1 a (by simp [m])) fun a m => k2 a (by simp [m]))
theorem RepC.mem {K : Fg} {G H : Hp} {v : V} {c : C} {f : List Addr} (h : RepC K G H v c f) : ∀ a ∈ f, G a = none ∧ ∃ o, H a = some o := by
  intro a m
  cases h with
  | sh => cases m
  | ol g h r => simp at m; subst m; exact ⟨g, _, h⟩
  | oll g h i n =>
    rcases List.mem_cons.mp m with e | m
    · subst e; exact ⟨g, _, h⟩
    · exact i.mem a m
  | odk g h r => simp at m; subst m; exact ⟨g, _, h⟩
  | odt g h r => simp at m; subst m; exact ⟨g, _, h⟩
theorem RepC.notTup {K : Fg} {G H : Hp} {v : V} {c : C} {f : List Addr} (h : RepC K G H v c f) : ∀ a ∈ f, ∀ xs, H a ≠ some (.tup xs) := by
  intro a m xs e
  have inn : ∀ {ls : List Addr} {dss : List (List D)}, Inner K G H ls dss → a ∈ ls → False := by
    intro ls dss i
    induction i with
    | nil => intro m; cases m
    | cons g h r i ih =>
      intro m
      rcases List.mem_cons.mp m with q | m
      · subst q; rw [h] at e; cases e
      · exact ih m
  cases h with
  | sh => cases m
  | ol g h r => simp at m; subst m; rw [h] at e; cases e
  | oll g h i n =>
    rcases List.mem_cons.mp m with q | m
    · subst q; rw [h] at e; cases e
    · exact inn i m
  | odk g h r => simp at m; subst m; rw [h] at e; cases e
  | odt g h r => simp at m; subst m; rw [h] at e; cases e
theorem RepC.mono {K : Fg} {G H G' H' : Hp} {v : V} {c : C} {f : List Addr} (h : RepC K G H v c f) (e : Same G G') (k1 : ∀ a ∈ f, G' a = none) (k2 : ∀ a ∈ f, ∀ o, H a = some o → H' a = some o) : RepC K G' H' v c f := by
  cases h with
  | sh r => exact .sh (r.mono e)
  | ol g h r => exact .ol (k1 _ (by simp)) (k2 _ (by simp) _ h) (r.mono e)
  | oll g h i n => exact .oll (k1 _ (by simp)) (k2 _ (by simp) _ h) (i.mono e (fun a m => k1 a (by simp [m])) fun a m => k2 a (by simp [m])) n
  | odk g h r => exact .odk (k1 _ (by simp)) (k2 _ (by simp) _ h) (r.mono e)
  | odt g h r => exact .odt (k1 _ (by simp)) (k2 _ (by simp) _ h) (r.mono e)

/-- G with what H has at f -/
def addF (G H : Hp) (f : List Addr) : Hp := fun a => if a ∈ f then H a else G a
theorem addF_same {G H : Hp} {f : List Addr} (n : ∀ a ∈ f, G a = none) : Same G (addF G H f) := fun a o e => by
  unfold addF
  by_cases m : a ∈ f
  · rw [n a m] at e; cases e
  · rw [if_neg m]; exact e
theorem addF_sub {G H : Hp} {f : List Addr} (s : Same G H) : Same (addF G H f) H := fun a o e => by
  unfold addF at e
  by_cases m : a ∈ f
  · rw [if_pos m] at e; exact e
  · rw [if_neg m] at e; exact s a o e
theorem addF_gr {G H : Hp} {f : List Addr} {a : Addr} {o : HO} (e : addF G H f a = some o) : G a = some o ∨ a ∈ f := by
  unfold addF at e
  by_cases m : a ∈ f
  · exact .inr m
  · rw [if_neg m] at e; exact .inl e
theorem Inner.fz {K : Fg} {G H G' : Hp} (e : Same G G') : ∀ {ls : List Addr} {dss : List (List D)}, Inner K G H ls dss → (∀ a ∈ ls, ∀ o, H a = some o → G' a = some o) → Reps K G' (ls.map V.ref) (dss.map D.lst)
  | _, _, .nil, _ => .nil
  | _, _, .cons g h r i, k => .cons (.lst (k _ (by simp) _ h) (r.mono e)) (Inner.fz e i fun a m => k a (by simp [m]))
theorem RepC.fz {K : Fg} {G H : Hp} {v : V} {c : C} {f : List Addr} (h : RepC K G H v c f) : Rep K (addF G H f) v c.fz := by
  have s : Same G (addF G H f) := addF_same fun a m => (h.mem a m).1
  cases h with
  | sh r => exact r.mono s
  | ol g h r => exact .lst (by unfold addF; rw [if_pos (by simp)]; exact h) (r.mono s)
  | oll g h i n => exact .lst (by unfold addF; rw [if_pos (by simp)]; exact h) (i.fz s fun a m o e => by unfold addF; rw [if_pos (by simp [m])]; exact e)
  | odk g h r => exact .dk (by unfold addF; rw [if_pos (by simp)]; exact h) (r.mono s)
  | odt g h r => exact .dt (by unfold addF; rw [if_pos (by simp)]; exact h) (r.mono s)

/-! ## steps -/
structure Step (G H : Hp) (U : Addr → Prop) (G' H' : Hp) (U' : Addr → Prop) : Prop where
  sG : Same G G'
  keep : ∀ a o, H a = some o → ¬ U a → H' a = some o
  gr : ∀ a o, G' a = some o → G a = some o ∨ (H a = none ∨ ∃ xs, H a = some (.tup xs)) ∨ U a
  fr : ∀ a, U' a → U a ∨ H a = none
theorem Step.refl (G H : Hp) (U : Addr → Prop) : Step G H U G H U := ⟨fun _ _ h => h, fun _ _ h _ => h, fun _ _ h => .inl h, fun _ h => .inl h⟩
theorem Step.trans {G H G1 H1 G2 H2 : Hp} {U U1 U2 : Addr → Prop} (s : Step G H U G1 H1 U1) (t : Step G1 H1 U1 G2 H2 U2) : Step G H U G2 H2 U2 := by
  have back : ∀ a, H1 a = none → U a ∨ H a = none := fun a e => by
    by_cases u : U a
    · exact .inl u
    · cases q : H a with
      | none => exact .inr rfl
      | some o => rw [s.keep a o q u] at e; cases e
  have nu : ∀ a o, H a = some o → ¬ U a → ¬ U1 a := fun a o e u u1 => by
    rcases s.fr a u1 with z | z
    · exact u z
    · rw [e] at z; cases z
  refine ⟨fun a o e => t.sG a o (s.sG a o e), fun a o e u => t.keep a o (s.keep a o e u) (nu a o e u), fun a o e => ?_, fun a u => ?_⟩
  · rcases t.gr a o e with z | (z | ⟨xs, z⟩) | z
    · exact s.gr a o z
    · rcases back a z with z | z
      · exact .inr (.inr z)
      · exact .inr (.inl (.inl z))
    · by_cases u : U a
      · exact .inr (.inr u)
      · cases q : H a with
        | none => exact .inr (.inl (.inl rfl))
        | some o' =>
          have e' := s.keep a o' q u
          rw [z] at e'
          cases e'
          exact .inr (.inl (.inr ⟨_, rfl⟩))
    · rcases s.fr a z with z | z
      · exact .inr (.inr z)
      · exact .inr (.inl (.inl z))
  · rcases t.fr a u with z | z
    · exact s.fr a z
    · exact back a z
theorem Step.weak {G H G' H' : Hp} {U U' W W' : Addr → Prop} (s : Step G H U G' H' U') (h1 : ∀ a, U a → W a) (h2 : ∀ a, W' a → U' a ∨ W a ∨ H a = none) : Step G H W G' H' W' := by
  refine ⟨s.sG, fun a o e u => s.keep a o e fun z => u (h1 a z), fun a o e => ?_, fun a u => ?_⟩
  · rcases s.gr a o e with z | z | z
    · exact .inl z
    · exact .inr (.inl z)
    · exact .inr (.inr (h1 a z))
  · rcases h2 a u with z | z | z
    · rcases s.fr a z with z | z
      · exact .inl (h1 a z)
      · exact .inr z
    · exact .inl z
    · exact .inr z
/-- a cell that is not in U stays -/
theorem RepC.step {K : Fg} {G H G' H' : Hp} {U U' : Addr → Prop} {v : V} {c : C} {f : List Addr} (h : RepC K G H v c f) (s : Step G H U G' H' U') (n : ∀ a ∈ f, ¬ U a) : RepC K G' H' v c f := by
  refine h.mono s.sG (fun a m => ?_) fun a m o e => s.keep a o e (n a m)
  obtain ⟨g, o, e⟩ := h.mem a m
  cases q : G' a with
  | none => rfl
  | some o' =>
    rcases s.gr a o' q with z | (z | ⟨xs, z⟩) | z
    · rw [g] at z; cases z
    · rw [e] at z; cases z
    · exact absurd z (h.notTup a m xs)
    · exact absurd z (n a m)
theorem RepC.out {K : Fg} {G H G' H' : Hp} {U U' : Addr → Prop} {v : V} {c : C} {f : List Addr} (h : RepC K G H v c f) (s : Step G H U G' H' U') (n : ∀ a ∈ f, ¬ U a) : ∀ a ∈ f, ¬ U' a := fun a m u => by
  obtain ⟨g, o, e⟩ := h.mem a m
  rcases s.fr a u with z | z
  · exact n a m z
  · rw [e] at z; cases z

/-! ## the state -/
abbrev Env := List (Option C)
abbrev Fp := Nat → List Addr
def U (fp : Fp) : Addr → Prop := fun a => ∃ i, a ∈ fp i
structure Con (K : Fg) (σ : St) (env : Env) (G H : Hp) (fp : Fp) : Prop where
  sub : Same G H
  len : σ.length = env.length
  rep : ∀ i c, env[i]? = some (some c) → ∃ v, σ[i]? = some (some v) ∧ RepC K G H v c (fp i)
  nil : ∀ i, (∀ c, env[i]? ≠ some (some c)) → fp i = []
  dis : ∀ i j a, a ∈ fp i → a ∈ fp j → i = j
def Fp.set (fp : Fp) (i : Nat) (f : List Addr) : Fp := fun j => if j = i then f else fp j
theorem Fp.set_same {fp : Fp} {i : Nat} {f : List Addr} : (fp.set i f) i = f := if_pos rfl
theorem Fp.set_ne {fp : Fp} {i j : Nat} {f : List Addr} (h : j ≠ i) : (fp.set i f) j = fp j := if_neg h

/-- the state elsewhere: what is outside of what changed -/
theorem Con.step {K : Fg} {σ : St} {env : Env} {G H G' H' : Hp} {fp : Fp} {W W' : Addr → Prop} (c : Con K σ env G H fp) (s : Step G H W G' H' W') (n : ∀ a, U fp a → ¬ W a) (sub : Same G' H') : Con K σ env G' H' fp :=
  ⟨sub, c.len, fun i x e => by
    obtain ⟨v, e1, r⟩ := c.rep i x e
    exact ⟨v, e1, r.step s fun a m => n a ⟨i, m⟩⟩, c.nil, c.dis⟩
/-- slot i gets a cell -/
theorem Con.put {K : Fg} {σ : St} {env : Env} {G H : Hp} {fp : Fp} {i : Nat} {v : V} {x : C} {f : List Addr} (c : Con K σ env G H fp) (hi : i < env.length) (r : RepC K G H v x f) (n : ∀ a ∈ f, ∀ j, j ≠ i → a ∉ fp j) :
    Con K (σ.set i (some v)) (env.set i (some x)) G H (fp.set i f) := by
  refine ⟨c.sub, by simp [c.len], fun j y e => ?_, fun j h => ?_, fun j k a h1 h2 => ?_⟩
  · by_cases h : j = i
    · subst h
      rw [List.getElem?_set_self hi] at e
      cases e
      rw [Fp.set_same]
      exact ⟨v, List.getElem?_set_self (by rw [c.len]; exact hi), r⟩
    · rw [List.getElem?_set_ne (fun z => h z.symm)] at e
      rw [Fp.set_ne h, List.getElem?_set_ne (fun z => h z.symm)]
      exact c.rep j y e
  · by_cases q : j = i
    · subst q
      exact absurd (List.getElem?_set_self hi) (h x)
    · rw [Fp.set_ne q]
      exact c.nil j fun y e => h y (by rw [List.getElem?_set_ne (fun z => q z.symm)]; exact e)
  · by_cases hj : j = i
    · by_cases hk : k = i
      · rw [hj, hk]
      · subst hj
        rw [Fp.set_same] at h1
        rw [Fp.set_ne hk] at h2
        exact absurd h2 (n a h1 k hk)
    · by_cases hk : k = i
      · subst hk
        rw [Fp.set_same] at h2
        rw [Fp.set_ne hj] at h1
        exact absurd h1 (n a h2 j hj)
      · rw [Fp.set_ne hj] at h1
        rw [Fp.set_ne hk] at h2
        exact c.dis j k a h1 h2
/-- slot i is forgotten -/
theorem Con.drop {K : Fg} {σ σ' : St} {env : Env} {G H : Hp} {fp : Fp} {i : Nat} (c : Con K σ env G H fp) (hl : σ'.length = σ.length) (hs : ∀ j, j ≠ i → σ'[j]? = σ[j]?) :
    Con K σ' (env.set i none) G H (fp.set i []) := by
  refine ⟨c.sub, by simp [c.len, hl], fun j y e => ?_, fun j h => ?_, fun j k a h1 h2 => ?_⟩
  · by_cases h : j = i
    · subst h
      by_cases hi : j < env.length
      · rw [List.getElem?_set_self hi] at e; cases e
      · rw [List.getElem?_eq_none (by simpa using hi)] at e; cases e
    · rw [List.getElem?_set_ne (fun z => h z.symm)] at e
      rw [Fp.set_ne h, hs j h]
      exact c.rep j y e
  · by_cases q : j = i
    · subst q; exact Fp.set_same
    · rw [Fp.set_ne q]
      exact c.nil j fun y e => h y (by rw [List.getElem?_set_ne (fun z => q z.symm)]; exact e)
  · by_cases hj : j = i
    · subst hj; rw [Fp.set_same] at h1; cases h1
    · by_cases hk : k = i
      · subst hk; rw [Fp.set_same] at h2; cases h2
      · rw [Fp.set_ne hj] at h1
        rw [Fp.set_ne hk] at h2
        exact c.dis j k a h1 h2
theorem U_set {fp : Fp} {i : Nat} {f : List Addr} {a : Addr} (h : U (fp.set i f) a) : U fp a ∨ a ∈ f := by
  obtain ⟨j, m⟩ := h
  by_cases q : j = i
  · subst q; rw [Fp.set_same] at m; exact .inr m
  · rw [Fp.set_ne q] at m; exact .inl ⟨j, m⟩
end Fx
set_option Elab.async false
set_option linter.all false
set_option maxRecDepth 100000
set_option maxHeartbeats 4000000
noncomputable section
namespace Fx
open PySem L2

/-! ## readings -/
abbrev EM := Env → Option (C × Env)
abbrev TM := Env → Option (Bool × Env)
inductive Out where
  | nx (e : Env) | rt (c : C) (e : Env) | bk (e : Env) | ct (e : Env)
abbrev SM := Env → Option Out

/-- behind an expression -/
def EndE (K : Fg) (σ : St) (env' : Env) (c : C) (G H : Hp) (fp : Fp) (Q : VK) : Prop :=
  ∀ v G' H' fp' fr, Con K σ env' G' H' fp' → RepC K G' H' v c fr → (∀ a ∈ fr, ¬ U fp' a) → Step G H (U fp) G' H' (fun a => U fp' a ∨ a ∈ fr) → Q v H'
def tE (K : Fg) (m : EM) : TE := fun σ H Q => ∃ env G fp, Con K σ env G H fp ∧ ∃ c env', m env = some (c, env') ∧ EndE K σ env' c G H fp Q
def tT (K : Fg) (m : TM) : TT := fun σ H Q => ∃ env G fp, Con K σ env G H fp ∧ ∃ b env', m env = some (b, env') ∧
  ∀ G' H' fp', Con K σ env' G' H' fp' → Step G H (U fp) G' H' (U fp') → Q b H'
def EndS (K : Fg) (p : Nat) (σ : St) (G H : Hp) (fp : Fp) (D : Ends) : Out → Prop
  | .nx e => ∀ σ' G' H' fp', Con K σ' e G' H' fp' → Step G H (U fp) G' H' (U fp') → σ'.take p = σ.take p → D.nx σ' H'
  | .bk e => ∀ σ' G' H' fp', Con K σ' e G' H' fp' → Step G H (U fp) G' H' (U fp') → σ'.take p = σ.take p → D.bk σ' H'
  | .ct e => ∀ σ' G' H' fp', Con K σ' e G' H' fp' → Step G H (U fp) G' H' (U fp') → σ'.take p = σ.take p → D.ct σ' H'
  | .rt c e => ∀ v σ' G' H' fp' fr, Con K σ' e G' H' fp' → RepC K G' H' v c fr → (∀ a ∈ fr, ¬ U fp' a) → Step G H (U fp) G' H' (fun a => U fp' a ∨ a ∈ fr) → σ'.take p = σ.take p → D.rt v H'
def tS (K : Fg) (p : Nat) (m : SM) : TS := fun D σ H => ∃ env G fp, Con K σ env G H fp ∧ ∃ o, m env = some o ∧ EndS K p σ G H fp D o

def EOk (X : Cx) (e : Expr) (m : EM) : Prop := PE X e (tE X.K m)
def TOk (X : Cx) (e : Expr) (m : TM) : Prop := PT X e (tT X.K m)
def SOk (X : Cx) (p : Nat) (s : Stmt) (m : SM) : Prop := PS X s (tS X.K p m)
def SsOk (X : Cx) (p : Nat) (s : List Stmt) (m : SM) : Prop := PSs X s (tS X.K p m)

theorem pe_mono {X : Cx} {e : Expr} {t t' : TE} (h : PE X e t) (k : ∀ σ H Q, t' σ H Q → t σ H Q) : PE X e t' := ⟨fun pins s σ H Q I q => h.run pins s σ H Q I (k σ H Q q)⟩
theorem pt_mono {X : Cx} {e : Expr} {t t' : TT} (h : PT X e t) (k : ∀ σ H Q, t' σ H Q → t σ H Q) : PT X e t' := ⟨fun pins s σ H Q I q => h.run pins s σ H Q I (k σ H Q q)⟩
theorem ps_mono {X : Cx} {e : Stmt} {t t' : TS} (h : PS X e t) (k : ∀ D σ H, t' D σ H → t D σ H) : PS X e t' := ⟨fun pins s σ H D I q => h.run pins s σ H D I (k D σ H q)⟩
theorem pss_mono {X : Cx} {e : List Stmt} {t t' : TS} (h : PSs X e t) (k : ∀ D σ H, t' D σ H → t D σ H) : PSs X e t' := ⟨fun pins s σ H D I q => h.run pins s σ H D I (k D σ H q)⟩
theorem pa_mono {X : Cx} {e : List Expr} {t t' : TA} (h : PA X e t) (k : ∀ σ H Q, t' σ H Q → t σ H Q) : PA X e t' := ⟨fun pos pins s σ H Q I q => h.run pos pins s σ H Q I (k σ H Q q)⟩

/-! ## no change, a new object -/
theorem none_of_same {G H : Hp} {p : Addr} (s : Same G H) (h : H p = none) : G p = none := s.free h
theorem same_new {H : Hp} {p : Addr} {o : HO} (h : H p = none) : Same H (upd H p o) := fun a u e => by rw [upd_ne (ne_of_none e h)]; exact e
theorem same_upd2 {G H : Hp} {p : Addr} {o : HO} (s : Same G H) (h : H p = none) : Same (upd G p o) (upd H p o) := fun a u e => by
  by_cases q : a = p
  · subst q; rw [upd_same] at e ⊢; exact e
  · rw [upd_ne q] at e ⊢; exact s a u e
/-- a new object that is shared at once -/
theorem Step.newG {G H : Hp} {p : Addr} {o : HO} (s : Same G H) (h : H p = none) : Step G H (fun _ => False) (upd G p o) (upd H p o) (fun _ => False) :=
  ⟨same_new (none_of_same s h), fun a u e _ => by rw [upd_ne (ne_of_none e h)]; exact e, fun a u e => by
    by_cases q : a = p
    · subst q; exact .inr (.inl (.inl h))
    · rw [upd_ne q] at e; exact .inl e, fun a f => f.elim⟩
/-- a new object of one's own -/
theorem Step.newH {G H : Hp} {p : Addr} {o : HO} (h : H p = none) : Step G H (fun _ => False) G (upd H p o) (fun a => a ∈ [p]) :=
  ⟨fun _ _ e => e, fun a u e _ => by rw [upd_ne (ne_of_none e h)]; exact e, fun a u e => .inl e, fun a f => by simp at f; subst f; exact .inr h⟩
theorem same_newH {G H : Hp} {p : Addr} {o : HO} (s : Same G H) (h : H p = none) : Same G (upd H p o) := fun a u e => by rw [upd_ne (ne_of_none (s a u e) h)]; exact s a u e
/-- freezing -/
theorem Step.fz {K : Fg} {G H : Hp} {v : V} {c : C} {f : List Addr} (r : RepC K G H v c f) : Step G H (fun a => a ∈ f) (addF G H f) H (fun _ => False) :=
  ⟨addF_same fun a m => (r.mem a m).1, fun a o e _ => e, fun a o e => (addF_gr e).elim .inl fun z => .inr (.inr z), fun a z => z.elim⟩

/-- W is free of the state: what EndE asks behind a further step -/
theorem EndE.end_ {K : Fg} {σ : St} {env : Env} {c : C} {G H G1 H1 G2 H2 : Hp} {fp fp1 : Fp} {Q : VK} {v : V} {fr : List Addr} {W : Addr → Prop}
    (k : EndE K σ env c G H fp Q) (con : Con K σ env G1 H1 fp1) (s1 : Step G H (U fp) G1 H1 (fun a => U fp1 a ∨ W a)) (hw : ∀ a, W a → ¬ U fp1 a)
    (s2 : Step G1 H1 W G2 H2 (fun a => a ∈ fr)) (sub : Same G2 H2) (r : RepC K G2 H2 v c fr) : Q v H2 := by
  have con2 : Con K σ env G2 H2 fp1 := con.step s2 (fun a u w => hw a w u) sub
  have nu : ∀ a ∈ fr, ¬ U fp1 a := fun a m u => by
    rcases s2.fr a m with z | z
    · exact hw a z u
    · obtain ⟨i, hi⟩ := u
      have : ∃ x, env[i]? = some (some x) := by
        refine Classical.byContradiction fun no => ?_
        have e := con.nil i fun x e => no ⟨x, e⟩
        rw [e] at hi; cases hi
      obtain ⟨x, e⟩ := this
      obtain ⟨v', _, rx⟩ := con.rep i x e
      obtain ⟨_, o, eo⟩ := rx.mem a hi
      rw [eo] at z; cases z
  refine k v G2 H2 fp1 fr con2 r nu (s1.trans ?_)
  refine s2.weak (fun a w => .inr w) fun a z => ?_
  rcases z with z | z
  · exact .inr (.inl (.inl z))
  · exact .inl z

/-! ## names, constants -/
def eC (d : D) : EM := fun env => some (.sh d, env)
theorem ok_c {X : Cx} {e : Expr} {v : V} {d : D} (h : PE X e (tC v)) (r : ∀ G, Rep X.K G v d) : EOk X e (eC d) := pe_mono h fun σ H Q ⟨env, G, fp, con, c, env', e1, k⟩ => by
  cases e1
  exact k v G H fp [] con (.sh (r G)) (fun a m => by cases m) ((Step.refl G H (U fp)).weak (fun a u => u) fun a u => u.elim .inl fun z => by cases z)
theorem ok_int {X : Cx} {i : Int} {j pos} : EOk X (.Constant (.int i) j pos) (eC (.int i)) := ok_c pe_int fun _ => .int i
theorem ok_bl {X : Cx} {i : Bool} {j pos} : EOk X (.Constant (.bool i) j pos) (eC (.bl i)) := ok_c pe_bl fun _ => .bl i
theorem ok_non {X : Cx} {j pos} : EOk X (.Constant .none j pos) (eC .non) := ok_c pe_non fun _ => .non
theorem ok_str {X : Cx} {i : Str} {j pos} : EOk X (.Constant (.str i) j pos) (eC (.str i)) := ok_c pe_str fun _ => .str i

/-- a name's value, from now on shared -/
def eSlot (i : Nat) : EM := fun env => match env[i]? with
  | some (some c) => some (.sh c.fz, env.set i (some (.sh c.fz)))
  | _ => none
/-- a name's value, given away -/
def eMove (i : Nat) : EM := fun env => match env[i]? with
  | some (some c) => some (c, env.set i none)
  | _ => none
theorem con_fz {K : Fg} {σ : St} {env : Env} {G H : Hp} {fp : Fp} {i : Nat} {c : C} (con : Con K σ env G H fp) (e : env[i]? = some (some c)) :
    ∃ v, σ[i]? = some (some v) ∧ Rep K (addF G H (fp i)) v c.fz ∧ Con K σ (env.set i (some (.sh c.fz))) (addF G H (fp i)) H (fp.set i []) ∧ Step G H (U fp) (addF G H (fp i)) H (U (fp.set i [])) := by
  obtain ⟨v, e1, r⟩ := con.rep i c e
  have hi : i < env.length := (List.getElem?_eq_some_iff.mp e).1
  have s := Step.fz r
  have sub : Same (addF G H (fp i)) H := addF_sub con.sub
  have con0 := con.drop (i := i) (σ' := σ) rfl fun _ _ => rfl
  have con1 := con0.step s (fun a u w => by
    obtain ⟨j, m⟩ := u
    by_cases q : j = i
    · subst q; rw [Fp.set_same] at m; cases m
    · rw [Fp.set_ne q] at m; exact q (con.dis j i a m w)) sub
  have con2 := con1.put (i := i) (v := v) (x := .sh c.fz) (f := []) (by simpa using hi) (.sh r.fz) (fun a m => by cases m)
  have es : σ.set i (some v) = σ := by
    apply List.ext_getElem?
    intro j
    by_cases q : j = i
    · subst q
      rw [e1]
      exact List.getElem?_set_self (by rw [con.len]; exact hi)
    · rw [List.getElem?_set_ne (fun z => q z.symm)]
  have ef : Fp.set (Fp.set fp i []) i [] = Fp.set fp i [] := by funext j; unfold Fp.set; split <;> rfl
  rw [es, ef, List.set_set] at con2
  refine ⟨v, e1, r.fz, con2, s.weak (fun a m => ⟨i, m⟩) fun a u => ?_⟩
  rcases U_set u with z | z
  · exact .inr (.inl z)
  · cases z
theorem ok_slot {X : Cx} {e : Expr} {i : Nat} (h : PE X e (tVar i)) : EOk X e (eSlot i) := pe_mono h fun σ H Q ⟨env, G, fp, con, c, env', e1, k⟩ => by
  unfold eSlot at e1
  split at e1
  · rename_i c0 e0
    cases e1
    obtain ⟨v, ev, r, con1, s1⟩ := con_fz con e0
    refine ⟨v, ev, k v _ H _ [] con1 (.sh r) (fun a m => by cases m) (s1.weak (fun a u => u) fun a u => u.elim .inl fun z => by cases z)⟩
  · cases e1
theorem ok_move {X : Cx} {e : Expr} {i : Nat} (h : PE X e (tVar i)) : EOk X e (eMove i) := pe_mono h fun σ H Q ⟨env, G, fp, con, c, env', e1, k⟩ => by
  unfold eMove at e1
  split at e1
  · rename_i c0 e0
    cases e1
    obtain ⟨v, ev, r⟩ := con.rep i c e0
    have con1 := con.drop (i := i) (σ' := σ) rfl fun _ _ => rfl
    refine ⟨v, ev, k v G H _ (fp i) con1 r (fun a m u => ?_) ((Step.refl G H (U fp)).weak (fun a u => u) fun a u => ?_)⟩
    · obtain ⟨j, mj⟩ := u
      by_cases q : j = i
      · subst q; rw [Fp.set_same] at mj; cases mj
      · rw [Fp.set_ne q] at mj; exact q (con.dis j i a mj m)
    · rcases u with u | u
      · rcases U_set u with z | z
        · exact .inl z
        · cases z
      · exact .inl ⟨i, u⟩
  · cases e1

/-! ## operands: a name is looked at, not given away -/
inductive Opd where
  | slot (i : Nat) | val (m : EM)
def tOpd (K : Fg) : Opd → TE
  | .slot i => tVar i
  | .val m => tE K m
def OOk (X : Cx) (e : Expr) (o : Opd) : Prop := PE X e (tOpd X.K o)
def C.vw : C → Option D
  | .sh d => some d | .ol ds => some (.lst ds) | .oll _ => none | .odk kvs => some (.dk kvs) | .odt kvs => some (.dt kvs)
/-- x stands for d as H is now; its parts for ever -/
inductive RepV (K : Fg) (G H : Hp) : V → D → Prop
  | sh {v : V} {d : D} : Rep K G v d → RepV K G H v d
  | ol {l : Addr} {xs : List V} {ds : List D} : H l = some (.lst xs) → Reps K G xs ds → RepV K G H (.ref l) (.lst ds)
  | dk {l : Addr} {xs : List (Key × V)} {ds : List (Key × D)} : H l = some (.dK xs) → RepK K G xs ds → RepV K G H (.ref l) (.dk ds)
  | dt {l : Addr} {xs : List (List Key × V)} {ds : List (List Key × D)} : H l = some (.dT xs) → RepT K G xs ds → RepV K G H (.ref l) (.dt ds)
theorem RepC.vw {K : Fg} {G H : Hp} {v : V} {c : C} {f : List Addr} {d : D} (r : RepC K G H v c f) (e : c.vw = some d) : RepV K G H v d := by
  cases r with
  | sh r => cases e; exact .sh r
  | ol g h r => cases e; exact .ol h r
  | oll g h i n => cases e
  | odk g h r => cases e; exact .dk h r
  | odt g h r => cases e; exact .dt h r
theorem RepV.all {K : Fg} {G H : Hp} {v : V} {d : D} (s : Same G H) (r : RepV K G H v d) : Rep K H v d := by
  cases r with
  | sh r => exact r.mono s
  | ol h r => exact .lst h (r.mono s)
  | dk h r => exact .dk h (r.mono s)
  | dt h r => exact .dt h (r.mono s)
inductive RepVs (K : Fg) (G H : Hp) : List V → List D → Prop
  | nil : RepVs K G H [] []
  | cons {v : V} {vs : List V} {d : D} {ds : List D} : RepV K G H v d → RepVs K G H vs ds → RepVs K G H (v :: vs) (d :: ds)

def preO : List Opd → Env → Option (List C × Env)
  | [], env => some ([], env)
  | .slot i :: r, env => match env[i]? with
    | some (some _) => (preO r env).bind fun (xs, e) => some (.sh .non :: xs, e)
    | _ => none
  | .val m :: r, env => (m env).bind fun (c, e) => (preO r e).bind fun (xs, e') => some (c :: xs, e')
def finO (env : Env) : List Opd → List C → Option (List D)
  | [], _ => some []
  | .slot i :: r, _ :: xs => match env[i]? with
    | some (some c) => c.vw.bind fun d => (finO env r xs).bind fun ds => some (d :: ds)
    | _ => none
  | .val _ :: r, c :: xs => c.vw.bind fun d => (finO env r xs).bind fun ds => some (d :: ds)
  | _, [] => none
def evO (os : List Opd) (env : Env) : Option (List D × Env) := (preO os env).bind fun (cs, e) => (finO e os cs).bind fun ds => some (ds, e)

/-- what came of the operands -/
inductive Pre (K : Fg) (σ : St) (G H : Hp) (fp : Fp) : List Opd → List C → List V → Prop
  | nil {xs : List C} : Pre K σ G H fp [] xs []
  | slot {i : Nat} {v : V} {c : C} {os : List Opd} {cs : List C} {vs : List V} : σ[i]? = some (some v) → Pre K σ G H fp os cs vs → Pre K σ G H fp (.slot i :: os) (c :: cs) (v :: vs)
  | val {m : EM} {v : V} {c : C} {f : List Addr} {os : List Opd} {cs : List C} {vs : List V} : RepC K G H v c f → (∀ a ∈ f, ¬ U fp a) → Pre K σ G H fp os cs vs → Pre K σ G H fp (.val m :: os) (c :: cs) (v :: vs)
theorem Pre.fin {K : Fg} {σ : St} {env : Env} {G H : Hp} {fp : Fp} (con : Con K σ env G H fp) : ∀ {os : List Opd} {cs : List C} {vs : List V} {ds : List D}, Pre K σ G H fp os cs vs → finO env os cs = some ds → RepVs K G H vs ds
  | _, _, _, _, .nil, e => by cases e; exact .nil
  | _, _, _, _, .slot (i := i) (cs := cs) (os := os) hv r, e => by
    unfold finO at e
    split at e
    · rename_i c e0
      obtain ⟨v', e1, rc⟩ := con.rep i c e0
      rw [hv] at e1; cases e1
      cases q : c.vw with
      | none => rw [q] at e; cases e
      | some d =>
        rw [q] at e
        cases q2 : finO env os cs with
        | none => simp [q2] at e
        | some ds => simp [q2] at e; subst e; exact .cons (rc.vw q) (Pre.fin con r q2)
    · cases e
  | _, _, _, _, .val (c := c) (cs := cs) (os := os) rc hn r, e => by
    unfold finO at e
    cases q : c.vw with
    | none => rw [q] at e; cases e
    | some d =>
      rw [q] at e
      cases q2 : finO env os cs with
      | none => simp [q2] at e
      | some ds => simp [q2] at e; subst e; exact .cons (rc.vw q) (Pre.fin con r q2)
def tOs (K : Fg) : List Opd → TA
  | [] => tNil
  | o :: r => tCons (tOpd K o) (tOs K r)
theorem pre_run {K : Fg} {σ : St} : ∀ (os : List Opd) {env env' : Env} {G H : Hp} {fp : Fp} {cs : List C} {Q : List V → Hp → Prop}, Con K σ env G H fp → preO os env = some (cs, env') →
    (∀ vs G' H' fp', Con K σ env' G' H' fp' → Pre K σ G' H' fp' os cs vs → Step G H (U fp) G' H' (U fp') → Q vs H') → tOs K os σ H Q
  | [], env, env', G, H, fp, cs, Q, con, e, k => by
    cases e
    exact k [] G H fp con .nil (Step.refl ..)
  | .slot i :: r, env, env', G, H, fp, cs, Q, con, e, k => by
    unfold preO at e
    split at e
    · rename_i c0 e0
      obtain ⟨v, hv, _⟩ := con.rep i c0 e0
      cases q : preO r env with
      | none => simp [q] at e
      | some y =>
        simp [q] at e
        obtain ⟨rfl, rfl⟩ := e
        refine ⟨v, hv, ?_⟩
        exact pre_run r con q fun vs G' H' fp' c' p' s' => k (v :: vs) G' H' fp' c' (.slot hv p') s'
    · cases e
  | .val m :: r, env, env', G, H, fp, cs, Q, con, e, k => by
    unfold preO at e
    cases q : m env with
    | none => simp [q] at e
    | some y =>
      obtain ⟨c, e1⟩ := y
      simp only [q, Option.bind_some] at e
      cases q2 : preO r e1 with
      | none => simp [q2] at e
      | some y =>
        obtain ⟨xs, e2⟩ := y
        simp [q2] at e
        obtain ⟨rfl, rfl⟩ := e
        refine ⟨env, G, fp, con, c, e1, q, fun v G1 H1 fp1 fr con1 r1 n1 s1 => ?_⟩
        refine pre_run r con1 q2 fun vs G' H' fp' c' p' s' => ?_
        refine k (v :: vs) G' H' fp' c' (.val (r1.step s' n1) (fun a ma => r1.out s' n1 a ma) p') ?_
        have s1' : Step G H (U fp) G1 H1 (U fp1) := s1.weak (fun _ u => u) fun a u => .inl (.inl u)
        exact s1'.trans s'
/-- args read as operands -/
def tO (K : Fg) (os : List Opd) : TA := fun σ H Q => ∃ env G fp, Con K σ env G H fp ∧ ∃ ds env', evO os env = some (ds, env') ∧
  ∀ vs G' H' fp', Con K σ env' G' H' fp' → RepVs K G' H' vs ds → Step G H (U fp) G' H' (U fp') → Q vs H'
theorem tO_tOs {K : Fg} {os : List Opd} {σ : St} {H : Hp} {Q : List V → Hp → Prop} (h : tO K os σ H Q) : tOs K os σ H Q := by
  obtain ⟨env, G, fp, con, ds, env', e, k⟩ := h
  unfold evO at e
  cases q : preO os env with
  | none => simp [q] at e
  | some y =>
    obtain ⟨cs, e1⟩ := y
    simp only [q, Option.bind_some] at e
    cases q2 : finO e1 os cs with
    | none => simp [q2] at e
    | some y =>
      simp [q2] at e
      obtain ⟨rfl, rfl⟩ := e
      exact pre_run os con q fun vs G' H' fp' c' p' s' => k vs G' H' fp' c' (p'.fin c' q2) s'
theorem pao_nil {X : Cx} : PA X [] (tOs X.K []) := pa_nil
theorem pao_cons {X : Cx} {e : Expr} {es : List Expr} {o : Opd} {os : List Opd} (h : OOk X e o) (r : PA X es (tOs X.K os)) (hs : starEach (e :: es) X.env = (false, eval e X.env) :: starEach es X.env := by rfl) : PA X (e :: es) (tOs X.K (o :: os)) := pa_cons h r hs
theorem pao {X : Cx} {es : List Expr} {os : List Opd} (h : PA X es (tOs X.K os)) : PA X es (tO X.K os) := pa_mono h fun _ _ _ q => tO_tOs q

/-! ## what is given away: shared from now on; with stars -/
inductive Arg where
  | one (m : EM) | star (m : EM)
def D.seq : D → Option (List D)
  | .tup ds => some ds | .lst ds => some ds | _ => none
def evA : List Arg → Env → Option (List D × Env)
  | [], env => some ([], env)
  | .one m :: r, env => (m env).bind fun (c, e) => (evA r e).bind fun (ds, e') => some (c.fz :: ds, e')
  | .star m :: r, env => (m env).bind fun (c, e) => c.fz.seq.bind fun xs => (evA r e).bind fun (ds, e') => some (xs ++ ds, e')
def tAr (K : Fg) : List Arg → TA
  | [] => tNil
  | .one m :: r => tCons (tE K m) (tAr K r)
  | .star m :: r => StX.tStar K (tE K m) (tAr K r)
theorem con_fz2 {K : Fg} {σ : St} {env : Env} {G H : Hp} {fp : Fp} {v : V} {c : C} {f : List Addr} (con : Con K σ env G H fp) (r : RepC K G H v c f) (n : ∀ a ∈ f, ¬ U fp a) :
    Con K σ env (addF G H f) H fp := con.step (Step.fz r) (fun a u w => n a w u) (addF_sub con.sub)
theorem args_run {K : Fg} {σ : St} : ∀ (ms : List Arg) {env env' : Env} {G H : Hp} {fp : Fp} {ds : List D} {Q : List V → Hp → Prop}, Con K σ env G H fp → evA ms env = some (ds, env') →
    (∀ vs G' H' fp', Con K σ env' G' H' fp' → Reps K G' vs ds → Step G H (U fp) G' H' (U fp') → Q vs H') → tAr K ms σ H Q
  | [], env, env', G, H, fp, ds, Q, con, e, k => by
    cases e
    exact k [] G H fp con .nil (Step.refl ..)
  | .one m :: r, env, env', G, H, fp, ds, Q, con, e, k => by
    unfold evA at e
    cases q : m env with
    | none => simp [q] at e
    | some y =>
      obtain ⟨c, e1⟩ := y
      simp only [q, Option.bind_some] at e
      cases q2 : evA r e1 with
      | none => simp [q2] at e
      | some y =>
        obtain ⟨xs, e2⟩ := y
        simp [q2] at e
        obtain ⟨rfl, rfl⟩ := e
        refine ⟨env, G, fp, con, c, e1, q, fun v G1 H1 fp1 fr con1 r1 n1 s1 => ?_⟩
        refine args_run r (con_fz2 con1 r1 n1) q2 fun vs G' H' fp' c' p' s' => ?_
        refine k (v :: vs) G' H' fp' c' (.cons (r1.fz.mono s'.sG) p') ?_
        refine (s1.trans ((Step.fz r1).weak (U' := fun _ => False) (W := fun a => U fp1 a ∨ a ∈ fr) (W' := U fp1) (fun a m => .inr m) fun a u => .inr (.inl (.inl u)))).trans s'
  | .star m :: r, env, env', G, H, fp, ds, Q, con, e, k => by
    unfold evA at e
    cases q : m env with
    | none => simp [q] at e
    | some y =>
      obtain ⟨c, e1⟩ := y
      simp only [q, Option.bind_some] at e
      cases q3 : c.fz.seq with
      | none => simp [q3] at e
      | some ys =>
        simp only [q3, Option.bind_some] at e
        cases q2 : evA r e1 with
        | none => simp [q2] at e
        | some y =>
          obtain ⟨xs, e2⟩ := y
          simp [q2] at e
          obtain ⟨rfl, rfl⟩ := e
          refine ⟨env, G, fp, con, c, e1, q, fun v G1 H1 fp1 fr con1 r1 n1 s1 => ?_⟩
          have s2 : Step G H (U fp) (addF G1 H1 fr) H1 (U fp1) := s1.trans ((Step.fz r1).weak (U' := fun _ => False) (W := fun a => U fp1 a ∨ a ∈ fr) (W' := U fp1) (fun a m => .inr m) fun a u => .inr (.inl (.inl u)))
          have rv := r1.fz
          have fin : ∀ (us : List V), Reps K (addF G1 H1 fr) us ys → tAr K r σ H1 fun vs H2 => Q (us ++ vs) H2 := fun us ru =>
            args_run r (con_fz2 con1 r1 n1) q2 fun vs G' H' fp' c' p' s' => k (us ++ vs) G' H' fp' c' ((ru.mono s'.sG).append p') (s2.trans s')
          have hsub : Same (addF G1 H1 fr) H1 := addF_sub con1.sub
          cases hf : c.fz with
          | tup zs =>
            rw [hf] at q3 rv; cases q3
            cases rv with
            | tup h1 h2 => exact ⟨_, _, rfl, .inl (SqT.of (hsub _ _ h1)), fin _ h2⟩
          | lst zs =>
            rw [hf] at q3 rv; cases q3
            cases rv with
            | lst h1 h2 => exact ⟨_, _, rfl, .inr (SqL.of (hsub _ _ h1)), fin _ h2⟩
          | _ => rw [hf] at q3; cases q3
def tA (K : Fg) (ms : List Arg) : TA := fun σ H Q => ∃ env G fp, Con K σ env G H fp ∧ ∃ ds env', evA ms env = some (ds, env') ∧
  ∀ vs G' H' fp', Con K σ env' G' H' fp' → Reps K G' vs ds → Step G H (U fp) G' H' (U fp') → Q vs H'
theorem paa_nil {X : Cx} : PA X [] (tAr X.K []) := pa_nil
theorem paa_cons {X : Cx} {e : Expr} {es : List Expr} {o : EM} {os : List Arg} (h : EOk X e o) (r : PA X es (tAr X.K os)) (hs : starEach (e :: es) X.env = (false, eval e X.env) :: starEach es X.env := by rfl) : PA X (e :: es) (tAr X.K (.one o :: os)) := pa_cons h r hs
theorem paa_star {X : Cx} {e : Expr} {es : List Expr} {o : EM} {os : List Arg} {p : Pos} (h : EOk X e o) (r : PA X es (tAr X.K os)) (hs : starEach (.Starred e p :: es) X.env = (true, eval e X.env) :: starEach es X.env := by rfl) : PA X (.Starred e p :: es) (tAr X.K (.star o :: os)) := StX.pa_star h r hs
theorem paa {X : Cx} {es : List Expr} {os : List Arg} (h : PA X es (tAr X.K os)) : PA X es (tA X.K os) := pa_mono h fun _ _ _ ⟨env, G, fp, con, ds, env', e, k⟩ => args_run os con e k

/-! ## displays -/
theorem lim_ex : ∃ n : Nat, n = 16777216 := ⟨_, rfl⟩
noncomputable def lim : Nat := Classical.choose lim_ex
theorem lim_val : lim = 16777216 := Classical.choose_spec lim_ex
theorem lim_eq : lim = sizeLine := by rw [sizeLine_eq, lim_val]
def eTup (ms : List Arg) : EM := fun env => (evA ms env).bind fun (ds, e) => if ds.length ≤ lim then some (.sh (.tup ds), e) else none
def eLst (ms : List Arg) : EM := fun env => (evA ms env).bind fun (ds, e) => if ds.length ≤ lim then some (.ol ds, e) else none
theorem ok_tup {X : Cx} {es : List Expr} {ms : List Arg} {x1 pos} (h : PA X es (tAr X.K ms)) : EOk X (.Tuple es x1 pos) (eTup ms) := pe_mono (pe_tup (paa h)) fun σ H Q ⟨env, G, fp, con, c, env', e1, k⟩ => by
  unfold eTup at e1
  cases q : evA ms env with
  | none => simp [q] at e1
  | some y =>
    obtain ⟨ds, e2⟩ := y
    simp only [q, Option.bind_some] at e1
    split at e1
    · rename_i hl
      cases e1
      refine ⟨env, G, fp, con, ds, env', q, fun vs G' H' fp' c' r s => ⟨by rw [r.length, ← lim_eq]; exact hl, fun p hp => ?_⟩⟩
      refine k.end_ (W := fun _ => False) (fr := []) c' (s.weak (fun _ u => u) fun a u => u.elim .inl fun z => z.elim) (fun a z => z.elim) ((Step.newG (o := .tup vs) c'.sub hp).weak (fun _ z => z.elim) fun a z => by cases z) (same_upd2 c'.sub hp) ?_
      exact .sh (.tup upd_same (r.mono (same_new (none_of_same c'.sub hp))))
    · cases e1
theorem ok_lst {X : Cx} {es : List Expr} {ms : List Arg} {pos} (h : PA X es (tAr X.K ms)) : EOk X (.List es pos) (eLst ms) := pe_mono (pe_lst (paa h)) fun σ H Q ⟨env, G, fp, con, c, env', e1, k⟩ => by
  unfold eLst at e1
  cases q : evA ms env with
  | none => simp [q] at e1
  | some y =>
    obtain ⟨ds, e2⟩ := y
    simp only [q, Option.bind_some] at e1
    split at e1
    · rename_i hl
      cases e1
      refine ⟨env, G, fp, con, ds, env', q, fun vs G' H' fp' c' r s => ⟨by rw [r.length, ← lim_eq]; exact hl, fun p hp => ?_⟩⟩
      refine k.end_ (W := fun _ => False) (fr := [p]) c' (s.weak (fun _ u => u) fun a u => u.elim .inl fun z => z.elim) (fun a z => z.elim) (Step.newH (o := .lst vs) hp) (same_newH c'.sub hp) ?_
      exact .ol (none_of_same c'.sub hp) upd_same r
    · cases e1

/-! ## operations by values -/
abbrev Kont (K : Fg) (G H : Hp) (c : C) (Q : VK) : Prop := ∀ v G' H' fr, Same G' H' → RepC K G' H' v c fr → Step G H (fun _ => False) G' H' (fun a => a ∈ fr) → Q v H'
/-- an operation on values says what the function says -/
def OpS (K : Fg) (r : List V → Hp → VK → Prop) (op : List D → Option C) : Prop :=
  ∀ (G H : Hp) (vs : List V) (ds : List D) (c : C) (Q : VK), Same G H → RepVs K G H vs ds → op ds = some c → Kont K G H c Q → r vs H Q
def eO (op : List D → Option C) (os : List Opd) : EM := fun env => (evO os env).bind fun (ds, e) => (op ds).bind fun c => some (c, e)
theorem eO_run {K : Fg} {r : List V → Hp → VK → Prop} {op : List D → Option C} {os : List Opd} (h : OpS K r op) {σ : St} {H : Hp} {Q : VK} (q : tE K (eO op os) σ H Q) : tO K os σ H (fun vs H1 => r vs H1 Q) := by
  obtain ⟨env, G, fp, con, c, env', e1, k⟩ := q
  unfold eO at e1
  cases q : evO os env with
  | none => simp [q] at e1
  | some y =>
    obtain ⟨ds, e2⟩ := y
    simp only [q, Option.bind_some] at e1
    cases q2 : op ds with
    | none => simp [q2] at e1
    | some c0 =>
      simp [q2] at e1
      obtain ⟨rfl, rfl⟩ := e1
      refine ⟨env, G, fp, con, ds, e2, q, fun vs G' H' fp' c' rv s => h G' H' vs ds c0 Q c'.sub rv q2 fun v G2 H2 fr sub rc s2 => ?_⟩
      exact k.end_ (W := fun _ => False) c' (s.weak (fun _ u => u) fun a u => u.elim .inl fun z => z.elim) (fun a z => z.elim) s2 sub rc
/-- two operands -/
def op2r (r : R2) : List V → Hp → VK → Prop := fun vs H Q => ∃ x y, vs = [x, y] ∧ r x y H Q
def op1r (r : V → Hp → VK → Prop) : List V → Hp → VK → Prop := fun vs H Q => ∃ x, vs = [x] ∧ r x H Q
theorem tOs2 {K : Fg} {a b : Opd} {σ : St} {H : Hp} {R : List V → Hp → Prop} (h : tOs K [a, b] σ H R) : tOpd K a σ H fun x H1 => tOpd K b σ H1 fun y H2 => R [x, y] H2 := h
theorem tOs1 {K : Fg} {a : Opd} {σ : St} {H : Hp} {R : List V → Hp → Prop} (h : tOs K [a] σ H R) : tOpd K a σ H fun x H1 => R [x] H1 := h
theorem vk_mono_opd {K : Fg} (o : Opd) {σ : St} {H : Hp} {Q Q' : VK} (k : ∀ v H, Q v H → Q' v H) (h : tOpd K o σ H Q) : tOpd K o σ H Q' := by
  cases o with
  | slot i => obtain ⟨v, e, q⟩ := h; exact ⟨v, e, k v H q⟩
  | val m =>
    obtain ⟨env, G, fp, con, c, env', e, q⟩ := h
    exact ⟨env, G, fp, con, c, env', e, fun v G' H' fp' fr a b c d => k v H' (q v G' H' fp' fr a b c d)⟩
theorem ok_op {X : Cx} {a b : Expr} {oa ob : Opd} {op : Operator} {r : R2} {f : List D → Option C} {pos : Pos} (hr : OpR X (binaryOp op) r) (hf : OpS X.K (op2r r) f) (ha : OOk X a oa) (hb : OOk X b ob) : EOk X (.BinOp a op b pos) (eO f [oa, ob]) :=
  pe_mono (L2.pe_op hr ha hb) fun σ H Q q => by
    refine vk_mono_opd oa (fun x H1 h1 => vk_mono_opd ob (fun y H2 h2 => ?_) h1) (tOs2 (tO_tOs (eO_run hf q)))
    obtain ⟨x', y', e, h⟩ := h2
    cases e
    exact h
theorem ok_cmp {X : Cx} {a b : Expr} {oa ob : Opd} {op : CmpOp} {r : R2} {f : List D → Option C} {pos : Pos} (hr : OpR X (compareOp op) r) (hf : OpS X.K (op2r r) f) (ha : OOk X a oa) (hb : OOk X b ob) (hm : behindInMarks op b = false := by first | exact nomark _ | rfl) : EOk X (.Compare a [op] [b] pos) (eO f [oa, ob]) :=
  pe_mono (pe_cmpR hr ha hb hm) fun σ H Q q => by
    refine vk_mono_opd oa (fun x H1 h1 => vk_mono_opd ob (fun y H2 h2 => ?_) h1) (tOs2 (tO_tOs (eO_run hf q)))
    obtain ⟨x', y', e, h⟩ := h2
    cases e
    exact h
theorem ok_ix {X : Cx} {a b : Expr} {oa ob : Opd} {r : R2} {f : List D → Option C} {pos : Pos} (hr : IxR X r) (hf : OpS X.K (op2r r) f) (ha : OOk X a oa) (hb : OOk X b ob) (hs : PlainIx b := by intro _ _; rfl) : EOk X (.Subscript a b pos) (eO f [oa, ob]) :=
  pe_mono (pe_ix hr ha hb hs) fun σ H Q q => by
    refine vk_mono_opd oa (fun x H1 h1 => vk_mono_opd ob (fun y H2 h2 => ?_) h1) (tOs2 (tO_tOs (eO_run hf q)))
    obtain ⟨x', y', e, h⟩ := h2
    cases e
    exact h
theorem ok_un {X : Cx} {a : Expr} {oa : Opd} {op : UnaryOp} {r : V → Hp → VK → Prop} {f : List D → Option C} {pos : Pos} (hr : UnR X (unaryOp op) r) (hf : OpS X.K (op1r r) f) (ha : OOk X a oa) : EOk X (.UnaryOp op a pos) (eO f [oa]) :=
  pe_mono (pe_un hr ha) fun σ H Q q => by
    refine vk_mono_opd oa (fun x H1 h1 => ?_) (tOs1 (tO_tOs (eO_run hf q)))
    obtain ⟨x', e, h⟩ := h1
    cases e
    exact h
theorem ok_callB {X : Cx} {e : Expr} {es : List Expr} {os : List Opd} {x : Str} {id : String} {r : List V → Hp → VK → Prop} {f : List D → Option C} {p pos : Pos} (hc : CallR X (.builtin id) r) (hf : OpS X.K r f) (hg : Gl X x) (hm : X.mg x = none) (hv : bootBuiltins x = some (.builtin id)) (ha : PA X (e :: es) (tOs X.K os)) (hn : x ≠ "__name__" := by decide) (hdb : (x == ("__debug__" : Str)) = false := by decide)
    (he : starEach (e :: es) X.env = (false, eval e X.env) :: starEach es X.env := by rfl) (hpl : (backTo pos (starEach es X.env)).any (·.1) = false := by rfl) : EOk X (.Call (.Name x p) (e :: es) [] pos) (eO f os) :=
  pe_mono (pe_callB hc hg hm hv (pao ha) hn hdb he hpl) fun σ H Q q => eO_run hf q
theorem ok_callTy {X : Cx} {e : Expr} {es : List Expr} {os : List Opd} {x : Str} {id : String} {r : List V → Hp → VK → Prop} {f : List D → Option C} {p pos : Pos} (hc : CallR X (.type id) r) (hf : OpS X.K r f) (hg : Gl X x) (hm : X.mg x = none) (hv : bootBuiltins x = some (.type id)) (ha : PA X (e :: es) (tOs X.K os)) (hn : x ≠ "__name__" := by decide) (hdb : (x == ("__debug__" : Str)) = false := by decide)
    (he : starEach (e :: es) X.env = (false, eval e X.env) :: starEach es X.env := by rfl) (hpl : (backTo pos (starEach es X.env)).any (·.1) = false := by rfl) : EOk X (.Call (.Name x p) (e :: es) [] pos) (eO f os) :=
  pe_mono (pe_callTy hc hg hm hv (pao ha) hn hdb he hpl) fun σ H Q q => eO_run hf q
theorem OpS.or {K : Fg} {r r' : List V → Hp → VK → Prop} {f f' : List D → Option C} (h : OpS K r f) (h' : OpS K r' f') : OpS K (fun vs H Q => r vs H Q ∨ r' vs H Q) (fun ds => (f ds).or (f' ds)) := fun G H vs ds c Q s rv e k => by
  have e : (f ds).or (f' ds) = some c := e
  cases q : f ds with
  | some c0 =>
    rw [q] at e
    exact .inl (h G H vs ds c Q s rv (by rw [q]; exact e) k)
  | none =>
    rw [q] at e
    exact .inr (h' G H vs ds c Q s rv e k)
theorem OpS.imp {K : Fg} {r r' : List V → Hp → VK → Prop} {f : List D → Option C} (h : OpS K r f) (i : ∀ vs H Q, r vs H Q → r' vs H Q) : OpS K r' f := fun G H vs ds c Q s rv e k => i vs H Q (h G H vs ds c Q s rv e k)
end Fx
set_option Elab.async false
set_option linter.all false
set_option maxRecDepth 100000
set_option maxHeartbeats 4000000
noncomputable section
namespace Fx
open PySem L2

/-! ## ends of operations -/
theorem OpR.or {X : Cx} {f : Value → Value → Sem Value} {r r' : R2} (h : OpR X f r) (h' : OpR X f r') : OpR X f (fun x y H Q => r x y H Q ∨ r' x y H Q) := by
  intro pins s σ H x y v u Q I rx ry q
  rcases q with q | q
  · exact h pins s σ H x y v u Q I rx ry q
  · exact h' pins s σ H x y v u Q I rx ry q
theorem CallR.or {X : Cx} {f : Value} {r r' : List V → Hp → VK → Prop} (h : CallR X f r) (h' : CallR X f r') : CallR X f (fun x H Q => r x H Q ∨ r' x H Q) := by
  intro pins s σ H xs us Q I rx q
  rcases q with q | q
  · exact h pins s σ H xs us Q I rx q
  · exact h' pins s σ H xs us Q I rx q
section
variable {K : Fg} {G H : Hp} {Q : VK}
theorem Kont.sh {d : D} {v : V} (k : Kont K G H (.sh d) Q) (s : Same G H) (r : Rep K G v d) : Q v H :=
  k v G H [] s (.sh r) ((Step.refl G H (fun _ => False)).weak (fun _ z => z.elim) fun a z => by cases z)
theorem Kont.tup {ds : List D} {xs : List V} {p : Addr} (k : Kont K G H (.sh (.tup ds)) Q) (s : Same G H) (r : Reps K G xs ds) (hp : H p = none) : Q (.ref p) (upd H p (.tup xs)) :=
  k _ (upd G p (.tup xs)) _ [] (same_upd2 s hp) (.sh (.tup upd_same (r.mono (same_new (none_of_same s hp))))) ((Step.newG s hp).weak (fun _ z => z.elim) fun a z => by cases z)
theorem Kont.ol {ds : List D} {xs : List V} {p : Addr} (k : Kont K G H (.ol ds) Q) (s : Same G H) (r : Reps K G xs ds) (hp : H p = none) : Q (.ref p) (upd H p (.lst xs)) :=
  k _ G _ [p] (same_newH s hp) (.ol (none_of_same s hp) upd_same r) (Step.newH hp)
theorem RepV.int {x : V} {i : Int} (r : RepV K G H x (.int i)) : x = .int i := by cases r with | sh r => cases r; rfl
theorem RepV.bl {x : V} {i : Bool} (r : RepV K G H x (.bl i)) : x = .bl i := by cases r with | sh r => cases r; rfl
theorem RepV.str {x : V} {i : Str} (r : RepV K G H x (.str i)) : x = .str i := by cases r with | sh r => cases r; rfl
theorem RepV.non {x : V} (r : RepV K G H x .non) : x = .non := by cases r with | sh r => cases r; rfl
theorem RepV.tup {x : V} {ds : List D} (r : RepV K G H x (.tup ds)) : ∃ a xs, x = .ref a ∧ G a = some (.tup xs) ∧ Reps K G xs ds := by
  cases r with | sh r => cases r with | tup h r => exact ⟨_, _, rfl, h, r⟩
theorem RepV.lst {x : V} {ds : List D} (s : Same G H) (r : RepV K G H x (.lst ds)) : ∃ a xs, x = .ref a ∧ H a = some (.lst xs) ∧ Reps K G xs ds := by
  cases r with
  | sh r => cases r with | lst h r => exact ⟨_, _, rfl, s _ _ h, r⟩
  | ol h r => exact ⟨_, _, rfl, h, r⟩
theorem RepV.scr {x : V} {ns : List Int} (s : Same G H) (r : RepV K G H x (.scr ns)) : ∃ a, x = .ref a ∧ SqL K H a (ns.map V.int) := by
  cases r with | sh r => cases r with | scr h => exact ⟨_, rfl, s.seq h⟩
theorem RepV.dk_ {x : V} {ds : List (Key × D)} (s : Same G H) (r : RepV K G H x (.dk ds)) : ∃ a xs, x = .ref a ∧ H a = some (.dK xs) ∧ RepK K G xs ds := by
  cases r with
  | sh r => cases r with | dk h r => exact ⟨_, _, rfl, s _ _ h, r⟩
  | dk h r => exact ⟨_, _, rfl, h, r⟩
theorem RepV.dt_ {x : V} {ds : List (List Key × D)} (s : Same G H) (r : RepV K G H x (.dt ds)) : ∃ a xs, x = .ref a ∧ H a = some (.dT xs) ∧ RepT K G xs ds := by
  cases r with
  | sh r => cases r with | dt h r => exact ⟨_, _, rfl, s _ _ h, r⟩
  | dt h r => exact ⟨_, _, rfl, h, r⟩
end

/-! ## ints -/
def fII (g : Int → Int → Option D) : List D → Option C
  | [.int i, .int j] => (g i j).bind fun d => some (.sh d)
  | _ => none
theorem opS_rI {K : Fg} {P : Int → Int → Prop} {g : Int → Int → V} {f : Int → Int → Option D} (h : ∀ i j d, f i j = some d → P i j ∧ ∀ G, Rep K G (g i j) d) : OpS K (op2r (rI P g)) (fII f) := fun G H vs ds c Q s rv e k => by
  unfold fII at e
  split at e
  · rename_i i j
    cases q : f i j with
    | none => simp [q] at e
    | some d =>
      simp [q] at e; subst e
      cases rv with
      | cons r1 rv =>
        cases rv with
        | cons r2 rv =>
          cases rv
          cases r1.int; cases r2.int
          exact ⟨_, _, rfl, i, j, rfl, rfl, (h i j d q).1, k.sh s ((h i j d q).2 G)⟩
  · cases e
theorem opS_rI0 {K : Fg} {g : Int → Int → V} {f : Int → Int → Option D} (h : ∀ i j d, f i j = some d → ∀ G, Rep K G (g i j) d) : OpS K (op2r (rI0 g)) (fII f) := fun G H vs ds c Q s rv e k => by
  unfold fII at e
  split at e
  · rename_i i j
    cases q : f i j with
    | none => simp [q] at e
    | some d =>
      simp [q] at e; subst e
      cases rv with
      | cons r1 rv =>
        cases rv with
        | cons r2 rv =>
          cases rv
          cases r1.int; cases r2.int
          exact ⟨_, _, rfl, i, j, rfl, rfl, k.sh s ((h i j d q) G)⟩
  · cases e
/-- below 2 ^ 64 in size -/
def sm (i : Int) : Bool := @decide (-18446744073709551616 < i ∧ i < 18446744073709551616) (Classical.propDecidable _)
theorem sm_iff {i : Int} : sm i = true ↔ -18446744073709551616 < i ∧ i < 18446744073709551616 := @decide_eq_true_iff _ (Classical.propDecidable _)
def gAdd (i j : Int) : Option D := some (.int (i + j))
def gSub (i j : Int) : Option D := some (.int (i - j))
def gMul (i j : Int) : Option D := if sm i || sm j then some (.int (i * j)) else none
def gDiv (i j : Int) : Option D := if 0 < j ∧ j < 1073741824 then some (.int (i / j)) else none
def gMod (i j : Int) : Option D := if 0 < j then some (.int (i % j)) else none
def gPow (i j : Int) : Option D := if 0 ≤ j ∧ j ≤ 1000000 ∧ sm i then some (.int (i ^ j.toNat)) else none
def gShl (i j : Int) : Option D := if 0 ≤ j ∧ j ≤ 1000000 ∧ sm i then some (.int (i * 2 ^ j.toNat)) else none
def gShr (i j : Int) : Option D := if 0 ≤ j then some (.int (i / 2 ^ j.toNat)) else none
def gAnd (i j : Int) : Option D := some (.int (Builtin.bitAnd i j))
def gLt (i j : Int) : Option D := some (.bl (decide (i < j)))
def gLe (i j : Int) : Option D := some (.bl (decide (i ≤ j)))
def gGt (i j : Int) : Option D := some (.bl (decide (j < i)))
def gGe (i j : Int) : Option D := some (.bl (decide (j ≤ i)))
section
variable {K : Fg}
theorem sI (i : Int) : ∀ G, Rep K G (.int i) (.int i) := fun _ => .int i
theorem natAbs64 {i : Int} (h : sm i = true) : i.natAbs < 2 ^ 64 := by
  have := sm_iff.mp h
  have e : (2 : Nat) ^ 64 = 18446744073709551616 := by decide
  rw [e]; omega
theorem s_addI : OpS K (op2r (rI0 fun i j => .int (i + j))) (fII gAdd) := opS_rI0 fun i j d e => by cases e; exact sI _
theorem s_sub : OpS K (op2r (rI0 fun i j => .int (i - j))) (fII gSub) := opS_rI0 fun i j d e => by cases e; exact sI _
theorem s_mulI : OpS K (op2r (rI CMul fun i j => .int (i * j))) (fII gMul) := opS_rI fun i j d e => by
  unfold gMul at e
  split at e
  · rename_i h
    cases e
    refine ⟨?_, sI _⟩
    have e64 : (2 : Int) ^ 64 = 18446744073709551616 := by decide
    simp only [Bool.or_eq_true] at h
    rcases h with h | h
    · have := sm_iff.mp h
      exact .inl (by rw [e64]; exact this)
    · have := sm_iff.mp h
      exact .inr (by rw [e64]; exact this)
  · cases e
theorem s_div : OpS K (op2r (rI CDiv fun i j => .int (i / j))) (fII gDiv) := opS_rI fun i j d e => by
  unfold gDiv at e
  split at e
  · rename_i h; cases e; exact ⟨h, sI _⟩
  · cases e
theorem s_mod : OpS K (op2r (rI (fun _ j => 0 < j) fun i j => .int (i % j))) (fII gMod) := opS_rI fun i j d e => by
  unfold gMod at e
  split at e
  · rename_i h; cases e; exact ⟨h, sI _⟩
  · cases e
theorem s_pow : OpS K (op2r (rI CPow fun i j => .int (i ^ j.toNat))) (fII gPow) := opS_rI fun i j d e => by
  unfold gPow at e
  split at e
  · rename_i h; cases e; exact ⟨⟨h.1, h.2.1, natAbs64 h.2.2⟩, sI _⟩
  · cases e
theorem s_shl : OpS K (op2r (rI CPow fun i j => .int (i * 2 ^ j.toNat))) (fII gShl) := opS_rI fun i j d e => by
  unfold gShl at e
  split at e
  · rename_i h; cases e; exact ⟨⟨h.1, h.2.1, natAbs64 h.2.2⟩, sI _⟩
  · cases e
theorem s_shr : OpS K (op2r (rI (fun _ j => 0 ≤ j) fun i j => .int (i / 2 ^ j.toNat))) (fII gShr) := opS_rI fun i j d e => by
  unfold gShr at e
  split at e
  · rename_i h; cases e; exact ⟨h, sI _⟩
  · cases e
theorem s_and : OpS K (op2r (rI0 fun i j => .int (Builtin.bitAnd i j))) (fII gAnd) := opS_rI0 fun i j d e => by cases e; exact sI _
theorem s_lt : OpS K (op2r (rI0 fun i j => .bl (decide (i < j)))) (fII gLt) := opS_rI0 fun i j d e => by cases e; exact fun _ => .bl _
theorem s_le : OpS K (op2r (rI0 fun i j => .bl (decide (i ≤ j)))) (fII gLe) := opS_rI0 fun i j d e => by cases e; exact fun _ => .bl _
theorem s_gt : OpS K (op2r (rI0 fun i j => .bl (decide (j < i)))) (fII gGt) := opS_rI0 fun i j d e => by cases e; exact fun _ => .bl _
theorem s_ge : OpS K (op2r (rI0 fun i j => .bl (decide (j ≤ i)))) (fII gGe) := opS_rI0 fun i j d e => by cases e; exact fun _ => .bl _
def fNeg : List D → Option C
  | [.int i] => some (.sh (.int (-i)))
  | _ => none
theorem s_neg : OpS K (op1r (rU fun i => .int (-i))) fNeg := fun G H vs ds c Q s rv e k => by
  unfold fNeg at e
  split at e
  · rename_i i
    cases e
    cases rv with
    | cons r1 rv => cases rv; cases r1.int; exact ⟨_, rfl, i, rfl, k.sh s (.int _)⟩
  · cases e

/-! ## + of ints, texts, tuples, lists -/
def fAdd : List D → Option C
  | [.int i, .int j] => some (.sh (.int (i + j)))
  | [.str x, .str y] => if x.length + y.length ≤ lim then some (.sh (.str (x ++ y))) else none
  | [.tup x, .tup y] => if x.length + y.length ≤ lim then some (.sh (.tup (x ++ y))) else none
  | [.lst x, .lst y] => if x.length + y.length ≤ lim then some (.ol (x ++ y)) else none
  | _ => none
def rAddAll (K : Fg) : R2 := fun x y H Q => (rI0 (fun i j => .int (i + j)) x y H Q) ∨ ((∃ i j, x = .str i ∧ y = .str j ∧ i.length + j.length ≤ sizeLine ∧ Q (.str (i ++ j)) H) ∨ (rCatA K x y H Q ∨ rCat x y H Q))
theorem op_addAll {X : Cx} : OpR X (binaryOp .Add) (rAddAll X.K) := OpR.or op_add (OpR.or op_add_str (OpR.or op_catA op_cat))
theorem s_add : OpS K (op2r (rAddAll K)) fAdd := fun G H vs ds c Q s rv e k => by
  unfold fAdd at e
  split at e
  · rename_i i j
    cases e
    cases rv with
    | cons r1 rv => cases rv with | cons r2 rv => cases rv; cases r1.int; cases r2.int; exact ⟨_, _, rfl, .inl ⟨i, j, rfl, rfl, k.sh s (.int _)⟩⟩
  · rename_i x y
    split at e
    · rename_i hl
      cases e
      cases rv with
      | cons r1 rv => cases rv with | cons r2 rv => cases rv; cases r1.str; cases r2.str; exact ⟨_, _, rfl, .inr (.inl ⟨x, y, rfl, rfl, by rw [← lim_eq]; exact hl, k.sh s (.str _)⟩)⟩
    · cases e
  · rename_i x y
    split at e
    · rename_i hl
      cases e
      cases rv with
      | cons r1 rv =>
        cases rv with
        | cons r2 rv =>
          cases rv
          obtain ⟨a, xs, rfl, h1, q1⟩ := r1.tup
          obtain ⟨b, ys, rfl, h2, q2⟩ := r2.tup
          refine ⟨_, _, rfl, .inr (.inr (.inl ⟨a, b, xs, ys, rfl, rfl, SqT.of (s _ _ h1), SqT.of (s _ _ h2), by rw [q1.length, q2.length, ← lim_eq]; exact hl, fun z => ?_, fun _ z => ?_, fun _ _ p hp => k.tup s (q1.append q2) hp⟩))⟩
          · subst z
            cases q1
            exact k.sh s (.tup h2 q2)
          · subst z
            cases q2
            exact k.sh s (.tup h1 (by simpa using q1))
    · cases e
  · rename_i x y
    split at e
    · rename_i hl
      cases e
      cases rv with
      | cons r1 rv =>
        cases rv with
        | cons r2 rv =>
          cases rv
          obtain ⟨a, xs, rfl, h1, q1⟩ := r1.lst s
          obtain ⟨b, ys, rfl, h2, q2⟩ := r2.lst s
          exact ⟨_, _, rfl, .inr (.inr (.inr ⟨a, b, xs, ys, rfl, rfl, h1, h2, by rw [q1.length, q2.length, ← lim_eq]; exact hl, fun p hp => k.ol s (q1.append q2) hp⟩))⟩
    · cases e
  · cases e
/-! ## * of ints; a list so many times -/
def fMul : List D → Option C
  | [.int i, .int j] => if sm i || sm j then some (.sh (.int (i * j))) else none
  | [.lst x, .int n] => if sm n ∧ -9223372036854775808 ≤ n ∧ n < 9223372036854775808 ∧ x.length * n.toNat ≤ lim then some (.ol (List.replicate n.toNat x).flatten) else none
  | _ => none
theorem reps_rep {G : Hp} {xs : List V} {ds : List D} (r : Reps K G xs ds) : ∀ n : Nat, Reps K G (List.replicate n xs).flatten (List.replicate n ds).flatten
  | 0 => .nil
  | n + 1 => by rw [List.replicate_succ, List.replicate_succ, List.flatten_cons, List.flatten_cons]; exact r.append (reps_rep r n)
def rMulAll : R2 := fun x y H Q => (rI CMul (fun i j => .int (i * j)) x y H Q) ∨ rRep x y H Q
theorem op_mulAll {X : Cx} : OpR X (binaryOp .Mult) rMulAll := OpR.or op_mul op_rep
theorem s_mul : OpS K (op2r rMulAll) fMul := fun G H vs ds c Q s rv e k => by
  unfold fMul at e
  split at e
  · rename_i i j
    split at e
    · rename_i h
      cases e
      cases rv with
      | cons r1 rv =>
        cases rv with
        | cons r2 rv =>
          cases rv; cases r1.int; cases r2.int
          refine ⟨_, _, rfl, .inl ⟨i, j, rfl, rfl, ?_, k.sh s (.int _)⟩⟩
          have e64 : (2 : Int) ^ 64 = 18446744073709551616 := by decide
          simp only [Bool.or_eq_true] at h
          rcases h with h | h
          · have := sm_iff.mp h
            exact .inl (by rw [e64]; exact this)
          · have := sm_iff.mp h
            exact .inr (by rw [e64]; exact this)
    · cases e
  · rename_i x n
    split at e
    · rename_i h
      cases e
      cases rv with
      | cons r1 rv =>
        cases rv with
        | cons r2 rv =>
          cases rv; cases r2.int
          obtain ⟨a, xs, rfl, h1, q1⟩ := r1.lst s
          have e63 : (2 : Int) ^ 63 = 9223372036854775808 := by decide
          exact ⟨_, _, rfl, .inr ⟨a, n, xs, rfl, rfl, h1, by rw [e63]; exact h.2.1, by rw [e63]; exact h.2.2.1, by rw [q1.length, ← lim_eq]; exact h.2.2.2, fun p hp => k.ol s (reps_rep q1 _) hp⟩⟩
    · cases e
  · cases e

/-! ## a[i], a[i:j] -/
def atD (ds : List D) (i : Int) : Option D := atI ds i
theorem Reps.at_ {G : Hp} {xs : List V} {ds : List D} {i : Int} {d : D} (r : Reps K G xs ds) (e : atI ds i = some d) : ∃ v, atI xs i = some v ∧ Rep K G v d := by
  unfold atI at e ⊢
  rw [r.length]
  cases q : ixN ds.length i with
  | none => rw [q] at e; cases e
  | some j =>
    rw [q] at e
    exact r.getD (i := j) e
def fIx : List D → Option C
  | [.lst ds, .int i] => (atI ds i).bind fun d => some (.sh d)
  | [.tup ds, .int i] => (atI ds i).bind fun d => some (.sh d)
  | [.str z, .int i] => if z.length ≤ lim then (atI z.cps.toList i).bind fun c => some (.sh (.str ⟨#[c]⟩)) else none
  | _ => none
theorem s_ix : OpS K (op2r (rIx K)) fIx := fun G H vs ds c Q s rv e k => by
  unfold fIx at e
  split at e
  · rename_i ds i
    cases q : atI ds i with
    | none => simp [q] at e
    | some d =>
      simp [q] at e; subst e
      cases rv with
      | cons r1 rv =>
        cases rv with
        | cons r2 rv =>
          cases rv; cases r2.int
          obtain ⟨a, xs, rfl, h1, q1⟩ := r1.lst s
          obtain ⟨v, e1, rd⟩ := q1.at_ q
          exact ⟨_, _, rfl, .inl ⟨a, xs, i, v, rfl, rfl, SqL.of h1, e1, k.sh s rd⟩⟩
  · rename_i ds i
    cases q : atI ds i with
    | none => simp [q] at e
    | some d =>
      simp [q] at e; subst e
      cases rv with
      | cons r1 rv =>
        cases rv with
        | cons r2 rv =>
          cases rv; cases r2.int
          obtain ⟨a, xs, rfl, h1, q1⟩ := r1.tup
          obtain ⟨v, e1, rd⟩ := q1.at_ q
          exact ⟨_, _, rfl, .inr (.inl ⟨a, xs, i, v, rfl, rfl, SqT.of (s _ _ h1), e1, k.sh s rd⟩)⟩
  · rename_i z i
    split at e
    · rename_i hz
      cases q : atI z.cps.toList i with
      | none => simp [q] at e
      | some d =>
        simp [q] at e; subst e
        cases rv with
        | cons r1 rv =>
          cases rv with
          | cons r2 rv =>
            cases rv; cases r2.int; cases r1.str
            exact ⟨_, _, rfl, .inr (.inr ⟨z, i, d, rfl, rfl, by rw [← lim_eq]; exact hz, q, k.sh s (.str _)⟩)⟩
    · cases e
  · cases e
/-- the items of xs[lo:hi] -/
def cutD {α : Type} (xs : List α) (lo hi : Option Int) : List α := (xs.drop (HT.sIx xs.length 0 lo)).take (HT.sIx xs.length xs.length hi - HT.sIx xs.length 0 lo)
theorem Reps.cut {G : Hp} {xs : List V} {ds : List D} (r : Reps K G xs ds) (lo hi : Option Int) : Reps K G (cutV xs lo hi) (cutD ds lo hi) := by
  unfold cutV cutD
  rw [r.length]
  exact (r.drop _).take _
def fSl (x : D) (lo hi : Option Int) : Option C := match x with
  | .lst ds => some (.ol (cutD ds lo hi))
  | .tup ds => some (.sh (.tup (cutD ds lo hi)))
  | .scr ns => some (.ol (cutD (ns.map D.int) lo hi))
  | .str z => if z.length ≤ lim then some (.sh (.str (cutS z lo hi))) else none
  | _ => none
end
end Fx
set_option Elab.async false
set_option linter.all false
set_option maxRecDepth 100000
set_option maxHeartbeats 4000000
noncomputable section
namespace Fx
open PySem L2

/-! ## slices -/
def rSlAll (K : Fg) : V → Option Int → Option Int → Hp → VK → Prop := fun x lo hi H Q => rSlL K x lo hi H Q ∨ (rSlA K x lo hi H Q ∨ rSlS x lo hi H Q)
theorem sl_all {X : Cx} : SlR X (rSlAll X.K) := SlR.or sl_list (SlR.or sl_tupA sl_str)
theorem cut_whole {α : Type} {xs : List α} {lo hi : Option Int} (h : HT.sIx xs.length 0 lo = 0 ∧ HT.sIx xs.length xs.length hi = xs.length) : cutD xs lo hi = xs := by
  unfold cutD
  rw [h.1, h.2]
  simp
theorem s_sl {K : Fg} {G H : Hp} {x : V} {d : D} {lo hi : Option Int} {c : C} {Q : VK} (s : Same G H) (rv : RepV K G H x d) (e : fSl d lo hi = some c) (k : Kont K G H c Q) : rSlAll K x lo hi H Q := by
  unfold fSl at e
  split at e
  · cases e
    obtain ⟨a, xs, rfl, h1, q1⟩ := rv.lst s
    exact .inl ⟨a, xs, rfl, SqL.of h1, fun p hp => k.ol s (q1.cut lo hi) hp⟩
  · cases e
    obtain ⟨a, xs, rfl, h1, q1⟩ := rv.tup
    refine .inr (.inl ⟨a, xs, rfl, SqT.of (s _ _ h1), fun w => ?_, fun _ p hp => k.tup s (q1.cut lo hi) hp⟩)
    rw [q1.length] at w
    rw [cut_whole w] at k
    exact k.sh s (.tup h1 q1)
  · rename_i ns
    cases e
    obtain ⟨a, rfl, h1⟩ := rv.scr s
    exact .inl ⟨a, _, rfl, h1, fun p hp => k.ol s ((reps_ints ns).cut lo hi) hp⟩
  · split at e
    · rename_i hz
      cases e
      cases rv.str
      exact .inr (.inr ⟨_, rfl, by rw [← lim_eq]; exact hz, k.sh s (.str _)⟩)
    · cases e
  · cases e

theorem Pre.step {K : Fg} {σ : St} {G H G' H' : Hp} {fp fp' : Fp} (s : Step G H (U fp) G' H' (U fp')) : ∀ {os : List Opd} {cs : List C} {vs : List V}, Pre K σ G H fp os cs vs → Pre K σ G' H' fp' os cs vs
  | _, _, _, .nil => .nil
  | _, _, _, .slot h r => .slot h (Pre.step s r)
  | _, _, _, .val rc n r => .val (rc.step s n) (fun a m => rc.out s n a m) (Pre.step s r)
theorem RepC.of_sh {K : Fg} {G H : Hp} {v : V} {d : D} {f : List Addr} (h : RepC K G H v (.sh d) f) : Rep K G v d ∧ f = [] := by
  cases h with
  | sh r => exact ⟨r, rfl⟩
/-- an operand that is an int -/
def evI : Opd → Env → Option (Int × Env)
  | .slot i, env => match env[i]? with
    | some (some (.sh (.int n))) => some (n, env)
    | _ => none
  | .val m, env => match m env with
    | some (.sh (.int n), e) => some (n, e)
    | _ => none
theorem evI_run {K : Fg} {o : Opd} {σ : St} {env env' : Env} {G H : Hp} {fp : Fp} {n : Int} {R : V → Hp → Prop} (con : Con K σ env G H fp) (e : evI o env = some (n, env'))
    (k : ∀ G' H' fp', Con K σ env' G' H' fp' → Step G H (U fp) G' H' (U fp') → R (.int n) H') : tOpd K o σ H R := by
  cases o with
  | slot i =>
    simp only [evI] at e
    split at e
    · rename_i m e0
      cases e
      obtain ⟨v, hv, r⟩ := con.rep i _ e0
      have r := r.of_sh.1
      cases r
      exact ⟨_, hv, k G H fp con (Step.refl ..)⟩
    · cases e
  | val m =>
    simp only [evI] at e
    split at e
    · rename_i i e1 q
      cases e
      refine ⟨env, G, fp, con, _, env', q, fun v G' H' fp' fr c' r n s => ?_⟩
      cases r with
      | sh r => cases r; exact k G' H' fp' c' (s.weak (fun _ u => u) fun a u => .inl (.inl u))
    · cases e
inductive Part where
  | no | at_ (o : Opd)
def evP : Part → Env → Option (Option Int × Env)
  | .no, env => some (none, env)
  | .at_ o, env => (evI o env).bind fun (i, e) => some (some i, e)
def tPart' (K : Fg) : Part → TO
  | .no => tNoPart
  | .at_ o => tPart (tOpd K o)
theorem evP_run {K : Fg} {o : Part} {σ : St} {env env' : Env} {G H : Hp} {fp : Fp} {n : Option Int} {R : Option Int → Hp → Prop} (con : Con K σ env G H fp) (e : evP o env = some (n, env'))
    (k : ∀ G' H' fp', Con K σ env' G' H' fp' → Step G H (U fp) G' H' (U fp') → R n H') : tPart' K o σ H R := by
  cases o with
  | no => cases e; exact k G H fp con (Step.refl ..)
  | at_ o =>
    unfold evP at e
    cases q : evI o env with
    | none => simp [q] at e
    | some y =>
      obtain ⟨i, e1⟩ := y
      simp [q] at e
      obtain ⟨rfl, rfl⟩ := e
      exact evI_run con q fun G' H' fp' c' s' => ⟨i, rfl, k G' H' fp' c' s'⟩
def eSl (o : Opd) (lo hi : Part) : EM := fun env => (preO [o] env).bind fun (cs, e1) => (evP lo e1).bind fun (i, e2) => (evP hi e2).bind fun (j, e3) => (finO e3 [o] cs).bind fun ds => match ds with
  | [d] => (fSl d i j).bind fun c => some (c, e3)
  | _ => none
def POk (X : Cx) (e : Option Expr) (p : Part) : Prop := PO X e (tPart' X.K p)
theorem part_no {X : Cx} : POk X none .no := po_none
theorem part_at {X : Cx} {e : Expr} {o : Opd} (h : OOk X e o) : POk X (some e) (.at_ o) := po_some h
theorem ok_sl {X : Cx} {e : Expr} {o : Opd} {lo hi : Option Expr} {pl ph : Part} {p2 pos : Pos} (h : OOk X e o) (hl : POk X lo pl) (hh : POk X hi ph) : EOk X (.Subscript e (.Slice lo hi none p2) pos) (eSl o pl ph) :=
  pe_mono (pe_slice sl_all h hl hh) fun σ H Q ⟨env, G, fp, con, c, env', e1, k⟩ => by
    unfold eSl at e1
    cases q1 : preO [o] env with
    | none => simp [q1] at e1
    | some y1 =>
      obtain ⟨cs, v1⟩ := y1
      simp only [q1, Option.bind_some] at e1
      cases q2 : evP pl v1 with
      | none => simp [q2] at e1
      | some y2 =>
        obtain ⟨i, v2⟩ := y2
        simp only [q2, Option.bind_some] at e1
        cases q3 : evP ph v2 with
        | none => simp [q3] at e1
        | some y3 =>
          obtain ⟨j, v3⟩ := y3
          simp only [q3, Option.bind_some] at e1
          cases q4 : finO v3 [o] cs with
          | none => simp [q4] at e1
          | some ds =>
            simp only [q4, Option.bind_some] at e1
            split at e1
            · rename_i d
              cases q5 : fSl d i j with
              | none => simp [q5] at e1
              | some c0 =>
                simp [q5] at e1
                obtain ⟨rfl, rfl⟩ := e1
                have z := pre_run (K := X.K) (Q := fun vs H1 => ∃ x, vs = [x] ∧ tPart' X.K pl σ H1 fun l H2 => tPart' X.K ph σ H2 fun u H3 => rSlAll X.K x l u H3 Q) [o] con q1 fun vs G1 H1 fp1 c1 p1 s1 => by
                  have : ∃ x, vs = [x] := by
                    cases p1 with
                    | slot h r => cases r; exact ⟨_, rfl⟩
                    | val a b r => cases r; exact ⟨_, rfl⟩
                  obtain ⟨x, rfl⟩ := this
                  refine ⟨x, rfl, evP_run c1 q2 fun G2 H2 fp2 c2 s2 => evP_run c2 q3 fun G3 H3 fp3 c3 s3 => ?_⟩
                  have rv := ((p1.step s2).step s3).fin c3 q4
                  cases rv with
                  | cons r1 rv =>
                    cases rv
                    refine s_sl c3.sub r1 q5 fun v G4 H4 fr sub rc s4 => ?_
                    exact k.end_ (W := fun _ => False) c3 (((s1.trans s2).trans s3).weak (fun _ u => u) fun a u => u.elim .inl fun z => z.elim) (fun a z => z.elim) s4 sub rc
                have z1 := tOs1 z
                refine vk_mono_opd o (fun x H1 h1 => ?_) z1
                obtain ⟨x', ex, h1⟩ := h1
                cases ex
                exact h1
            · cases e1

/-! ## == -/
mutual
def D.py : D → PyData
  | .non => .none | .bl b => .bool b | .int i => .int i | .str x => .str x
  | .tup ds => .tuple (D.pys ds) | .lst ds => .list (D.pys ds)
  | .dk _ => .dict [] | .dt _ => .dict [] | .scr ns => .dict [] | .obj _ _ _ => .dict []
def D.pys : List D → List PyData
  | [] => [] | d :: ds => D.py d :: D.pys ds
end
mutual
/-- may be compared by == -/
def D.okq : D → Bool
  | .non | .bl _ | .int _ => true
  | .str x => PyData.strOk x
  | .tup ds | .lst ds => D.okqs ds
  | .dk _ | .dt _ | .scr _ | .obj _ _ _ => false
def D.okqs : List D → Bool
  | [] => true | d :: ds => D.okq d && D.okqs ds
end
mutual
def D.dep : D → Nat
  | .tup ds | .lst ds => D.deps ds + 1
  | _ => 0
def D.deps : List D → Nat
  | [] => 0 | d :: ds => max (D.dep d) (D.deps ds)
end
mutual
def D.eqv : D → D → Bool
  | .non, .non => true
  | .bl a, .bl b => a == b
  | .bl a, .int j => (if a then 1 else 0) == j
  | .int i, .bl b => i == (if b then 1 else 0)
  | .int i, .int j => i == j
  | .str x, .str y => x == y
  | .lst xs, .lst ys => D.eqvs xs ys
  | .tup xs, .tup ys => D.eqvs xs ys
  | _, _ => false
def D.eqvs : List D → List D → Bool
  | [], [] => true
  | x :: xs, y :: ys => D.eqv x y && D.eqvs xs ys
  | _, _ => false
end
mutual
theorem D.lay : ∀ d : D, d.okq = true → d.py.canLay0 = true
  | .non, _ => rfl
  | .bl _, _ => rfl
  | .int _, _ => rfl
  | .str x, h => by simpa [D.py, PyData.canLay0, D.okq] using h
  | .tup ds, h => by simp only [D.py, PyData.canLay0]; exact D.lays ds (by simpa [D.okq] using h)
  | .lst ds, h => by simp only [D.py, PyData.canLay0]; exact D.lays ds (by simpa [D.okq] using h)
  | .dk _, h => by simp [D.okq] at h
  | .dt _, h => by simp [D.okq] at h
  | .scr _, h => by simp [D.okq] at h
  | .obj _ _ _, h => by simp [D.okq] at h
theorem D.lays : ∀ ds : List D, D.okqs ds = true → PyData.canLayAll0 (D.pys ds) = true
  | [], _ => by simp [D.pys, PyData.canLayAll0]
  | d :: ds, h => by
    simp only [D.okqs, Bool.and_eq_true] at h
    simp only [D.pys, PyData.canLayAll0, D.lay d h.1, D.lays ds h.2, Bool.and_self]
end
mutual
theorem D.py_dep : ∀ d : D, d.py.depth ≤ d.dep + 1
  | .non | .bl _ | .int _ | .str _ => by simp [D.py, PyData.depth, D.dep]
  | .tup ds => by have := D.pys_dep ds; simp only [D.py, PyData.depth, D.dep]; omega
  | .lst ds => by have := D.pys_dep ds; simp only [D.py, PyData.depth, D.dep]; omega
  | .dk _ | .dt _ | .scr _ | .obj _ _ _ => by simp [D.py, PyData.depth, PyData.depthKv, D.dep]
theorem D.pys_dep : ∀ ds : List D, PyData.depthAll (D.pys ds) ≤ D.deps ds + 1
  | [] => by simp [D.pys, PyData.depthAll, D.deps]
  | d :: ds => by have := D.py_dep d; have := D.pys_dep ds; simp only [D.pys, PyData.depthAll, D.deps]; omega
end
mutual
theorem Rep.dp {K : Fg} {H : Hp} : ∀ {d : D} {v : V}, Rep K H v d → d.okq = true → Dp K H v d.py
  | _, _, .non, _ => .non
  | _, _, .bl b, _ => .bl b
  | _, _, .int i, _ => .int i
  | _, _, .str x, _ => .str x
  | _, _, .tup h r, e => .tup (SqT.of h) (Reps.dp r (by simpa [D.okq] using e))
  | _, _, .lst h r, e => .lst (SqL.of h) (Reps.dp r (by simpa [D.okq] using e))
  | _, _, .dk h r, e => by simp [D.okq] at e
  | _, _, .dt h r, e => by simp [D.okq] at e
  | _, _, .scr h, e => by simp [D.okq] at e
  | _, _, .obj _ h _ _ r, e => by simp [D.okq] at e
theorem Reps.dp {K : Fg} {H : Hp} : ∀ {ds : List D} {vs : List V}, Reps K H vs ds → D.okqs ds = true → DpAll K H vs (D.pys ds)
  | _, _, .nil, _ => .nil
  | _, _, .cons h r, e => by
    simp only [D.okqs, Bool.and_eq_true] at e
    exact .cons (Rep.dp h e.1) (Reps.dp r e.2)
end
mutual
theorem D.eqv_py : ∀ d e : D, d.okq = true → e.okq = true → PyData.eqv d.py e.py = D.eqv d e
  | .non, e, _, h => by cases e <;> simp_all [D.py, D.eqv, PyData.eqv, D.okq]
  | .bl _, e, _, h => by cases e <;> simp_all [D.py, D.eqv, PyData.eqv, D.okq]
  | .int _, e, _, h => by cases e <;> simp_all [D.py, D.eqv, PyData.eqv, D.okq]
  | .str _, e, _, h => by cases e <;> simp_all [D.py, D.eqv, PyData.eqv, D.okq]
  | .tup ds, e, g, h => by
    cases e with
    | tup es => simp only [D.py, D.eqv, PyData.eqv]; exact D.eqvs_py ds es (by simpa [D.okq] using g) (by simpa [D.okq] using h)
    | _ => simp [D.py, D.eqv, PyData.eqv]
  | .lst ds, e, g, h => by
    cases e with
    | lst es => simp only [D.py, D.eqv, PyData.eqv]; exact D.eqvs_py ds es (by simpa [D.okq] using g) (by simpa [D.okq] using h)
    | _ => simp [D.py, D.eqv, PyData.eqv]
  | .dk _, e, h, _ => by simp [D.okq] at h
  | .dt _, e, h, _ => by simp [D.okq] at h
  | .scr _, e, h, _ => by simp [D.okq] at h
  | .obj _ _ _, e, h, _ => by simp [D.okq] at h
theorem D.eqvs_py : ∀ ds es : List D, D.okqs ds = true → D.okqs es = true → PyData.eqvAll (D.pys ds) (D.pys es) = D.eqvs ds es
  | [], [], _, _ => by simp [D.pys, PyData.eqvAll, D.eqvs]
  | [], _ :: _, _, _ => by simp [D.pys, PyData.eqvAll, D.eqvs]
  | _ :: _, [], _, _ => by simp [D.pys, PyData.eqvAll, D.eqvs]
  | d :: ds, e :: es, g, h => by
    simp only [D.okqs, Bool.and_eq_true] at g h
    simp only [D.pys, PyData.eqvAll, D.eqvs, D.eqv_py d e g.1 h.1, D.eqvs_py ds es g.2 h.2]
end
/-- both may be compared -/
def D.cmpable (d e : D) : Bool := d.okq && e.okq && decide (d.dep ≤ 63) && decide (e.dep ≤ 63)
def fEq : List D → Option C
  | [d, e] => if d.cmpable e then some (.sh (.bl (D.eqv d e))) else none
  | _ => none
def fNe : List D → Option C
  | [d, e] => if d.cmpable e then some (.sh (.bl (!D.eqv d e))) else none
  | _ => none
theorem D.shaped {d : D} (h : d.okq = true) (l : d.dep ≤ 63) : SeqAt.shaped d.py = true := by
  have := D.py_dep d
  unfold SeqAt.shaped
  rw [D.lay d h, Bool.true_and, decide_eq_true_eq]
  omega
section
variable {K : Fg}
theorem s_eq : OpS K (op2r (rEqD K)) fEq := fun G H vs ds c Q s rv e k => by
  unfold fEq at e
  split at e
  · rename_i d f
    split at e
    · rename_i h
      cases e
      simp only [D.cmpable, Bool.and_eq_true, decide_eq_true_eq] at h
      obtain ⟨⟨⟨h1, h2⟩, h3⟩, h4⟩ := h
      cases rv with
      | cons r1 rv =>
        cases rv with
        | cons r2 rv =>
          cases rv
          exact ⟨_, _, rfl, d.py, f.py, (r1.all s).dp h1, (r2.all s).dp h2, D.shaped h1 h3, D.shaped h2 h4, by rw [D.eqv_py d f h1 h2]; exact k.sh s (.bl _)⟩
    · cases e
  · cases e
theorem s_ne : OpS K (op2r (rNeD K)) fNe := fun G H vs ds c Q s rv e k => by
  unfold fNe at e
  split at e
  · rename_i d f
    split at e
    · rename_i h
      cases e
      simp only [D.cmpable, Bool.and_eq_true, decide_eq_true_eq] at h
      obtain ⟨⟨⟨h1, h2⟩, h3⟩, h4⟩ := h
      cases rv with
      | cons r1 rv =>
        cases rv with
        | cons r2 rv =>
          cases rv
          exact ⟨_, _, rfl, d.py, f.py, (r1.all s).dp h1, (r2.all s).dp h2, D.shaped h1 h3, D.shaped h2 h4, by rw [D.eqv_py d f h1 h2]; exact k.sh s (.bl _)⟩
    · cases e
  · cases e
/-! ## is None -/
def D.isN : D → Bool
  | .non => true | _ => false
def fIsN : List D → Option C
  | [d, .non] => some (.sh (.bl d.isN))
  | _ => none
def fNotN : List D → Option C
  | [d, .non] => some (.sh (.bl (!d.isN)))
  | _ => none
theorem isN_of {G H : Hp} {x : V} {d : D} (r : RepV K G H x d) : decide (x = .non) = d.isN := by
  cases r with
  | sh r => cases r <;> simp [D.isN]
  | _ => simp [D.isN]
theorem s_isN : OpS K (op2r (fun x y H Q => y = .non ∧ Q (.bl (decide (x = .non))) H)) fIsN := fun G H vs ds c Q s rv e k => by
  unfold fIsN at e
  split at e
  · rename_i d
    cases e
    cases rv with
    | cons r1 rv =>
      cases rv with
      | cons r2 rv =>
        cases rv; cases r2.non
        exact ⟨_, _, rfl, rfl, by rw [isN_of r1]; exact k.sh s (.bl _)⟩
  · cases e
theorem s_notN : OpS K (op2r (fun x y H Q => y = .non ∧ Q (.bl (!decide (x = .non))) H)) fNotN := fun G H vs ds c Q s rv e k => by
  unfold fNotN at e
  split at e
  · rename_i d
    cases e
    cases rv with
    | cons r1 rv =>
      cases rv with
      | cons r2 rv =>
        cases rv; cases r2.non
        exact ⟨_, _, rfl, rfl, by rw [isN_of r1]; exact k.sh s (.bl _)⟩
  · cases e
end
end Fx
set_option Elab.async false
set_option linter.all false
set_option maxRecDepth 100000
set_option maxHeartbeats 4000000
noncomputable section
namespace Fx
open PySem L2

/-! ## tests -/
def kVal (m : EM) : TM := fun env => match m env with
  | some (.sh (.bl b), e) => some (b, e)
  | _ => none
section
variable {X : Cx} {a b c e : Expr} {pos : Pos}
theorem weakT {fp fp' : Fp} {G H G' H' : Hp} {fr : List Addr} (s : Step G H (U fp) G' H' (fun a => U fp' a ∨ a ∈ fr)) : Step G H (U fp) G' H' (U fp') := s.weak (fun _ u => u) fun a u => .inl (.inl u)
theorem kVal_val {m : EM} (h : EOk X e m) (he : ∀ whole, isTrue e X.env whole = (do let v ← whole; standAt e.pos; holding [v] (truthy v)) := by intro _; rfl) : TOk X e (kVal m) := pt_mono (pt_val h he) fun σ H Q ⟨env, G, fp, con, b, env', e1, k⟩ => by
  unfold kVal at e1
  split at e1
  · rename_i b0 e0 q
    cases e1
    exact ⟨env, G, fp, con, _, _, q, fun v G' H' fp' fr c' r n s => by
      have r := r.of_sh.1
      cases r
      exact ⟨_, rfl, k G' H' fp' c' (weakT s)⟩⟩
  · cases e1
theorem kVal_cmp {oa ob : Opd} {op : CmpOp} {r : R2} {f : List D → Option C} (hr : OpR X (compareOp op) r) (hf : OpS X.K (op2r r) f) (ha : OOk X a oa) (hb : OOk X b ob) (hm : behindInMarks op b = false := by first | exact nomark _ | rfl) : TOk X (.Compare a [op] [b] pos) (kVal (eO f [oa, ob])) :=
  pt_mono (pt_cmpR hr ha hb hm) fun σ H Q ⟨env, G, fp, con, b, env', e1, k⟩ => by
    unfold kVal at e1
    split at e1
    · rename_i b0 e0 q
      cases e1
      have q1 : tE X.K (eO f [oa, ob]) σ H (fun x H' => ∃ k, x = .bl k ∧ Q k H') := ⟨env, G, fp, con, _, _, q, fun v G' H' fp' fr c' r n s => by
        have r := r.of_sh.1
        cases r
        exact ⟨_, rfl, k G' H' fp' c' (weakT s)⟩⟩
      refine vk_mono_opd oa (fun x H1 h1 => vk_mono_opd ob (fun y H2 h2 => ?_) h1) (tOs2 (tO_tOs (eO_run hf q1)))
      obtain ⟨x', y', e, h⟩ := h2
      cases e
      exact h
    · cases e1
def fTru : D → Option Bool
  | .non => some false | .bl b => some b | .int i => some (i != 0)
  | .str x => if x.length ≤ lim then some ((x.length : Int) != 0) else none
  | .tup ds => some (!ds.isEmpty) | .lst ds => some (!ds.isEmpty) | .dk kvs => some (!kvs.isEmpty)
  | _ => none
def kTru (o : Opd) : TM := fun env => (evO [o] env).bind fun (ds, e) => match ds with
  | [d] => (fTru d).bind fun b => some (b, e)
  | _ => none
theorem reps_emp {K : Fg} {G : Hp} {xs : List V} {ds : List D} (r : Reps K G xs ds) : xs.isEmpty = ds.isEmpty := by cases r <;> rfl
theorem repK_emp {K : Fg} {G : Hp} {xs : List (Key × V)} {ds : List (Key × D)} (r : RepK K G xs ds) : xs.isEmpty = ds.isEmpty := by cases r <;> rfl
theorem tru_of {K : Fg} {G H : Hp} {x : V} {d : D} {b : Bool} (s : Same G H) (r : RepV K G H x d) (e : fTru d = some b) : TruV K x H b := by
  unfold fTru at e
  split at e
  · cases e; cases r.non; rfl
  · cases e; cases r.bl; rfl
  · cases e; cases r.int; rfl
  · split at e
    · rename_i hz; cases e; cases r.str; exact ⟨by rw [← lim_eq]; exact hz, rfl⟩
    · cases e
  · cases e; obtain ⟨a, xs, rfl, h1, q1⟩ := r.tup; exact .inr (.inl ⟨xs, SqT.of (s _ _ h1), by rw [reps_emp q1]⟩)
  · cases e; obtain ⟨a, xs, rfl, h1, q1⟩ := r.lst s; exact .inl ⟨xs, SqL.of h1, by rw [reps_emp q1]⟩
  · cases e; obtain ⟨a, xs, rfl, h1, q1⟩ := r.dk_ s; exact .inr (.inr ⟨xs, h1, by rw [repK_emp q1]⟩)
  · cases e
theorem kTru_ok {o : Opd} (h : OOk X e o) (he : ∀ whole, isTrue e X.env whole = (do let v ← whole; standAt e.pos; holding [v] (truthy v)) := by intro _; rfl) : TOk X e (kTru o) := pt_mono (pt_truth h he) fun σ H Q ⟨env, G, fp, con, b, env', e1, k⟩ => by
  unfold kTru at e1
  cases q : evO [o] env with
  | none => simp [q] at e1
  | some y =>
    obtain ⟨ds, e2⟩ := y
    simp only [q, Option.bind_some] at e1
    split at e1
    · rename_i d
      cases q2 : fTru d with
      | none => simp [q2] at e1
      | some b0 =>
        simp [q2] at e1
        obtain ⟨rfl, rfl⟩ := e1
        have z : tO X.K [o] σ H (fun vs H1 => ∃ x, vs = [x] ∧ ∃ k, TruV X.K x H1 k ∧ Q k H1) := ⟨env, G, fp, con, _, _, q, fun vs G' H' fp' c' rv s => by
          cases rv with | cons r1 rv => cases rv; exact ⟨_, rfl, b0, tru_of c'.sub r1 q2, k G' H' fp' c' s⟩⟩
        refine vk_mono_opd o (fun x H1 h1 => ?_) (tOs1 (tO_tOs z))
        obtain ⟨x', ex, h1⟩ := h1
        cases ex
        exact h1
    · cases e1
def kAnd (a b : TM) : TM := fun env => (a env).bind fun (x, e) => if x then b e else some (false, e)
def kOr (a b : TM) : TM := fun env => (a env).bind fun (x, e) => if x then some (true, e) else b e
def kNot (a : TM) : TM := fun env => (a env).bind fun (x, e) => some (!x, e)
def WOk (X : Cx) (e : Expr) (m : TM) : Prop := PW X e (tT X.K m)
theorem pw_mono {e : Expr} {t t' : TT} (h : PW X e t) (k : ∀ σ H Q, t' σ H Q → t σ H Q) : PW X e t' := ⟨fun wh pins s σ H Q I q => h.run wh pins s σ H Q I (k σ H Q q)⟩
theorem kAnd_run {K : Fg} {ma mb : TM} {σ : St} {H : Hp} {Q : Bool → Hp → Prop} (q : tT K (kAnd ma mb) σ H Q) : tAnd (tT K ma) (tT K mb) σ H Q := by
  obtain ⟨env, G, fp, con, b, env', e1, k⟩ := q
  unfold kAnd at e1
  cases q : ma env with
  | none => simp [q] at e1
  | some y =>
    obtain ⟨x, e2⟩ := y
    simp only [q, Option.bind_some] at e1
    refine ⟨env, G, fp, con, x, e2, q, fun G' H' fp' c' s => ?_⟩
    cases x with
    | true =>
      rw [if_pos rfl] at e1 ⊢
      exact ⟨e2, G', fp', c', b, env', e1, fun G2 H2 fp2 c2 s2 => k G2 H2 fp2 c2 (s.trans s2)⟩
    | false =>
      rw [if_neg Bool.false_ne_true] at e1 ⊢
      cases e1
      exact k G' H' fp' c' s
theorem kOr_run {K : Fg} {ma mb : TM} {σ : St} {H : Hp} {Q : Bool → Hp → Prop} (q : tT K (kOr ma mb) σ H Q) : tOr (tT K ma) (tT K mb) σ H Q := by
  obtain ⟨env, G, fp, con, b, env', e1, k⟩ := q
  unfold kOr at e1
  cases q : ma env with
  | none => simp [q] at e1
  | some y =>
    obtain ⟨x, e2⟩ := y
    simp only [q, Option.bind_some] at e1
    refine ⟨env, G, fp, con, x, e2, q, fun G' H' fp' c' s => ?_⟩
    cases x with
    | false =>
      rw [if_neg Bool.false_ne_true] at e1 ⊢
      exact ⟨e2, G', fp', c', b, env', e1, fun G2 H2 fp2 c2 s2 => k G2 H2 fp2 c2 (s.trans s2)⟩
    | true =>
      rw [if_pos rfl] at e1 ⊢
      cases e1
      exact k G' H' fp' c' s
theorem kNot_run {K : Fg} {ma : TM} {σ : St} {H : Hp} {Q : Bool → Hp → Prop} (q : tT K (kNot ma) σ H Q) : tNot (tT K ma) σ H Q := by
  obtain ⟨env, G, fp, con, b, env', e1, k⟩ := q
  unfold kNot at e1
  cases q : ma env with
  | none => simp [q] at e1
  | some y =>
    obtain ⟨x, e2⟩ := y
    simp only [q, Option.bind_some] at e1
    cases e1
    exact ⟨env, G, fp, con, x, env', q, fun G' H' fp' c' s => k G' H' fp' c' s⟩
theorem kw_and1 {ma : TM} (h : TOk X a ma) : WOk X (.BoolOp .And [a] pos) ma := pw_and1 h
theorem kw_or1 {ma : TM} (h : TOk X a ma) : WOk X (.BoolOp .Or [a] pos) ma := pw_or1 h
theorem kw_and {ma mb : TM} {rest : List Expr} (h : TOk X a ma) (r : WOk X (.BoolOp .And (b :: rest) pos) mb) : WOk X (.BoolOp .And (a :: b :: rest) pos) (kAnd ma mb) := pw_mono (pw_and h r) fun _ _ _ q => kAnd_run q
theorem kw_or {ma mb : TM} {rest : List Expr} (h : TOk X a ma) (r : WOk X (.BoolOp .Or (b :: rest) pos) mb) : WOk X (.BoolOp .Or (a :: b :: rest) pos) (kOr ma mb) := pw_mono (pw_or h r) fun _ _ _ q => kOr_run q
theorem k_w {m : TM} (h : WOk X e m) : TOk X e m := h.pt
theorem k_not {ma : TM} (h : TOk X a ma) : TOk X (.UnaryOp .Not a pos) (kNot ma) := pt_mono (pt_not h) fun _ _ _ q => kNot_run q

/-! ## and, or, not of truths as values; a if c else b -/
def eAnd (a b : EM) : EM := fun env => match a env with
  | some (.sh (.bl x), e) => if x then b e else some (.sh (.bl false), e)
  | _ => none
def eOr (a b : EM) : EM := fun env => match a env with
  | some (.sh (.bl x), e) => if x then some (.sh (.bl true), e) else b e
  | _ => none
def eNot (a : EM) : EM := fun env => match a env with
  | some (.sh (.bl x), e) => some (.sh (.bl (!x)), e)
  | _ => none
def eIf (t : TM) (a b : EM) : EM := fun env => (t env).bind fun (x, e) => if x then a e else b e
theorem EndE.step {K : Fg} {σ : St} {env' : Env} {c : C} {G H G1 H1 : Hp} {fp fp1 : Fp} {Q : VK} (k : EndE K σ env' c G H fp Q) (s : Step G H (U fp) G1 H1 (U fp1)) : EndE K σ env' c G1 H1 fp1 Q :=
  fun v G' H' fp' fr c' r n s' => k v G' H' fp' fr c' r n (s.trans s')
theorem EndE.sh {K : Fg} {σ : St} {env' : Env} {d : D} {v : V} {G H G1 H1 : Hp} {fp fp1 : Fp} {Q : VK} (k : EndE K σ env' (.sh d) G H fp Q) (c : Con K σ env' G1 H1 fp1) (s : Step G H (U fp) G1 H1 (U fp1)) (r : Rep K G1 v d) : Q v H1 :=
  k v G1 H1 fp1 [] c (.sh r) (fun a m => by cases m) (s.weak (fun _ u => u) fun a u => u.elim .inl fun z => by cases z)
theorem ok_one {m : EM} {op} (h : EOk X a m) : EOk X (.BoolOp op [a] pos) m := pe_one h
theorem ok_and {ma mb : EM} {rest : List Expr} (h : EOk X a ma) (r : EOk X (.BoolOp .And (b :: rest) pos) mb) : EOk X (.BoolOp .And (a :: b :: rest) pos) (eAnd ma mb) := pe_mono (pe_and h r) fun σ H Q ⟨env, G, fp, con, c, env', e1, k⟩ => by
  unfold eAnd at e1
  split at e1
  · rename_i x e2 q
    refine ⟨env, G, fp, con, _, _, q, fun v G' H' fp' fr c' r n s => ?_⟩
    have r := r.of_sh.1
    cases r
    refine ⟨x, rfl, ?_⟩
    cases x with
    | true =>
      rw [if_pos rfl] at e1 ⊢
      exact ⟨e2, G', fp', c', c, env', e1, k.step (weakT s)⟩
    | false =>
      rw [if_neg Bool.false_ne_true] at e1 ⊢
      cases e1
      exact k.sh c' (weakT s) (.bl _)
  · cases e1
theorem ok_or {ma mb : EM} {rest : List Expr} (h : EOk X a ma) (r : EOk X (.BoolOp .Or (b :: rest) pos) mb) : EOk X (.BoolOp .Or (a :: b :: rest) pos) (eOr ma mb) := pe_mono (pe_or h r) fun σ H Q ⟨env, G, fp, con, c, env', e1, k⟩ => by
  unfold eOr at e1
  split at e1
  · rename_i x e2 q
    refine ⟨env, G, fp, con, _, _, q, fun v G' H' fp' fr c' r n s => ?_⟩
    have r := r.of_sh.1
    cases r
    refine ⟨x, rfl, ?_⟩
    cases x with
    | false =>
      rw [if_neg Bool.false_ne_true] at e1 ⊢
      exact ⟨e2, G', fp', c', c, env', e1, k.step (weakT s)⟩
    | true =>
      rw [if_pos rfl] at e1 ⊢
      cases e1
      exact k.sh c' (weakT s) (.bl _)
  · cases e1
theorem ok_not {ma : EM} (h : EOk X a ma) : EOk X (.UnaryOp .Not a pos) (eNot ma) := pe_mono (pe_not h) fun σ H Q ⟨env, G, fp, con, c, env', e1, k⟩ => by
  unfold eNot at e1
  split at e1
  · rename_i x e2 q
    cases e1
    refine ⟨env, G, fp, con, _, _, q, fun v G' H' fp' fr c' r n s => ?_⟩
    have r := r.of_sh.1
    cases r
    exact ⟨x, rfl, k.sh c' (weakT s) (.bl _)⟩
  · cases e1
theorem ok_if {t : TM} {ma mb : EM} (ht : TOk X c t) (ha : EOk X a ma) (hb : EOk X b mb) : EOk X (.IfExp c a b pos) (eIf t ma mb) := pe_mono (pe_ifExp ht ha hb) fun σ H Q ⟨env, G, fp, con, c, env', e1, k⟩ => by
  unfold eIf at e1
  cases q : t env with
  | none => simp [q] at e1
  | some y =>
    obtain ⟨x, e2⟩ := y
    simp only [q, Option.bind_some] at e1
    refine ⟨env, G, fp, con, x, e2, q, fun G' H' fp' c' s => ?_⟩
    cases x with
    | true =>
      rw [if_pos rfl] at e1 ⊢
      exact ⟨e2, G', fp', c', c, env', e1, k.step s⟩
    | false =>
      rw [if_neg Bool.false_ne_true] at e1 ⊢
      exact ⟨e2, G', fp', c', c, env', e1, k.step s⟩
end

/-! ## statements -/
def sNx : SM := fun env => some (.nx env)
def sSeq (a b : SM) : SM := fun env => (a env).bind fun o => match o with
  | .nx e => b e
  | o => some o
def sIf (t : TM) (a b : SM) : SM := fun env => (t env).bind fun (x, e) => if x then a e else b e
def sSet (i : Nat) (m : EM) : SM := fun env => (m env).bind fun (c, e) => if i < e.length then some (.nx (e.set i (some c))) else none
def sRet (m : EM) : SM := fun env => (m env).bind fun (c, e) => some (.rt c e)
def sRetN : SM := fun env => some (.rt (.sh .non) env)
def sBk : SM := fun env => some (.bk env)
def sCt : SM := fun env => some (.ct env)
def sDrop (m : EM) : SM := fun env => (m env).bind fun (_, e) => some (.nx e)
def sNo : SM := fun _ => none
section
variable {X : Cx} {p : Nat} {st : Stmt} {rest : List Stmt}
theorem EndS.step {K : Fg} {σ σ1 : St} {G H G1 H1 : Hp} {fp fp1 : Fp} {D : Ends} {o : Out} (k : EndS K p σ G H fp D o) (s : Step G H (U fp) G1 H1 (U fp1)) (hp : σ1.take p = σ.take p) : EndS K p σ1 G1 H1 fp1 D o := by
  cases o with
  | nx e => exact fun σ' G' H' fp' c' s' z => k σ' G' H' fp' c' (s.trans s') (z.trans hp)
  | bk e => exact fun σ' G' H' fp' c' s' z => k σ' G' H' fp' c' (s.trans s') (z.trans hp)
  | ct e => exact fun σ' G' H' fp' c' s' z => k σ' G' H' fp' c' (s.trans s') (z.trans hp)
  | rt c e => exact fun v σ' G' H' fp' fr c' r n s' z => k v σ' G' H' fp' fr c' r n (s.trans s') (z.trans hp)
theorem ss_nil : SsOk X p [] sNx := pss_mono pss_nil fun D σ H ⟨env, G, fp, con, o, e1, k⟩ => by
  cases e1
  exact k σ G H fp con (Step.refl ..) rfl
theorem ss_cons {ma mb : SM} (h : SOk X p st ma) (r : SsOk X p rest mb) : SsOk X p (st :: rest) (sSeq ma mb) := pss_mono (pss_cons h r) fun D σ H ⟨env, G, fp, con, o, e1, k⟩ => by
  unfold sSeq at e1
  cases q : ma env with
  | none => simp [q] at e1
  | some o1 =>
    simp only [q, Option.bind_some] at e1
    refine ⟨env, G, fp, con, o1, q, ?_⟩
    cases o1 with
    | nx e => exact fun σ' G' H' fp' c' s' z => ⟨e, G', fp', c', o, e1, k.step s' z⟩
    | bk e => cases e1; exact k
    | ct e => cases e1; exact k
    | rt c e => cases e1; exact k
theorem ss_one {ma : SM} (h : SOk X p st ma) : SsOk X p [st] ma := pss_one h
theorem s_if {c : Expr} {a b : List Stmt} {pos : Pos} {t : TM} {ma mb : SM} (ht : TOk X c t) (ha : SsOk X p a ma) (hb : SsOk X p b mb) : SOk X p (.If c a b pos) (sIf t ma mb) := ps_mono (ps_if ht ha hb) fun D σ H ⟨env, G, fp, con, o, e1, k⟩ => by
  unfold sIf at e1
  cases q : t env with
  | none => simp [q] at e1
  | some y =>
    obtain ⟨x, e2⟩ := y
    simp only [q, Option.bind_some] at e1
    refine ⟨env, G, fp, con, x, e2, q, fun G' H' fp' c' s => ?_⟩
    cases x with
    | true =>
      rw [if_pos rfl] at e1 ⊢
      exact ⟨e2, G', fp', c', o, e1, k.step s rfl⟩
    | false =>
      rw [if_neg Bool.false_ne_true] at e1 ⊢
      exact ⟨e2, G', fp', c', o, e1, k.step s rfl⟩
theorem take_set {σ : St} {i p : Nat} {v : Option V} (h : p ≤ i) : (σ.set i v).take p = σ.take p := by
  rw [List.take_set_of_le h]
/-- a value goes into a slot -/
theorem set_run {K : Fg} {σ : St} {env' : Env} {c : C} {i : Nat} {G H : Hp} {fp : Fp} {D : Ends} (hp : p ≤ i) (hi : i < env'.length) (k : EndS K p σ G H fp D (.nx (env'.set i (some c)))) : EndE K σ env' c G H fp (fun v H' => D.nx (σ.set i (some v)) H') :=
  fun v G' H' fp' fr c' r n s => k _ G' H' _ (c'.put hi r fun a m j hj z => n a m ⟨j, z⟩) (s.weak (fun _ u => u) fun a u => (U_set u).elim (fun z => .inl (.inl z)) fun z => .inl (.inr z)) (take_set hp)
theorem sSet_run {K : Fg} {m : EM} {i : Nat} {σ : St} {H : Hp} {D : Ends} (hp : p ≤ i) (q : tS K p (sSet i m) D σ H) : tE K m σ H (fun v H' => D.nx (σ.set i (some v)) H') := by
  obtain ⟨env, G, fp, con, o, e1, k⟩ := q
  unfold sSet at e1
  cases q : m env with
  | none => simp [q] at e1
  | some y =>
    obtain ⟨c, e2⟩ := y
    simp only [q, Option.bind_some] at e1
    split at e1
    · rename_i hi
      cases e1
      exact ⟨env, G, fp, con, c, e2, q, set_run hp hi k⟩
    · cases e1
theorem s_set {i : Nat} {x : Str} {e : Expr} {pos pos' : Pos} {m : EM} (hp : p ≤ i) (he : EOk X e m) (hN : X.N.Nodup) (hi : X.N[i]? = some x) (hx : Loc X.env.scope x) (hs : swapsWith e (some (.Name x pos')) pos.line X.env = pure false := by rfl) (hf : X.fn x = true ∨ X.env.scope.names.lookup x = some .local := by first | exact .inl rfl | exact .inr rfl | assumption) :
    SOk X p (.Assign [.Name x pos'] e pos) (sSet i m) := ps_mono (ps_set hN hi hx he hs hf) fun D σ H q => sSet_run hp q
theorem s_ret {e : Expr} {pos : Pos} {m : EM} (h : EOk X e m) : SOk X p (.Return (some e) pos) (sRet m) := ps_mono (ps_ret h) fun D σ H ⟨env, G, fp, con, o, e1, k⟩ => by
  unfold sRet at e1
  cases q : m env with
  | none => simp [q] at e1
  | some y =>
    obtain ⟨c, e2⟩ := y
    simp [q] at e1
    subst e1
    exact ⟨env, G, fp, con, c, e2, q, fun v G' H' fp' fr c' r n s => k v σ G' H' fp' fr c' r n s rfl⟩
theorem s_retN {pos : Pos} : SOk X p (.Return none pos) sRetN := ps_mono ps_retN fun D σ H ⟨env, G, fp, con, o, e1, k⟩ => by
  cases e1
  exact k .non σ G H fp [] con (.sh .non) (fun a m => by cases m) ((Step.refl G H (U fp)).weak (fun _ u => u) fun a u => u.elim .inl fun z => by cases z) rfl
theorem s_bk {pos : Pos} : SOk X p (.Break pos) sBk := ps_mono ps_break fun D σ H ⟨env, G, fp, con, o, e1, k⟩ => by
  cases e1
  exact k σ G H fp con (Step.refl ..) rfl
theorem s_ct {pos : Pos} : SOk X p (.Continue pos) sCt := ps_mono ps_continue fun D σ H ⟨env, G, fp, con, o, e1, k⟩ => by
  cases e1
  exact k σ G H fp con (Step.refl ..) rfl
theorem s_pass {pos : Pos} : SOk X p (.Pass pos) sNx := ps_mono ps_pass fun D σ H ⟨env, G, fp, con, o, e1, k⟩ => by
  cases e1
  exact k σ G H fp con (Step.refl ..) rfl
theorem s_no {st : Stmt} : SOk X p st sNo := ps_mono ps_never fun D σ H ⟨env, G, fp, con, o, e1, k⟩ => by cases e1
theorem s_drop {e : Expr} {pos : Pos} {m : EM} (h : EOk X e m) (hs : swapsWith e none pos.line X.env = pure false := by rfl) : SOk X p (.Expr e pos) (sDrop m) := ps_mono (ps_expr h hs) fun D σ H ⟨env, G, fp, con, o, e1, k⟩ => by
  unfold sDrop at e1
  cases q : m env with
  | none => simp [q] at e1
  | some y =>
    obtain ⟨c, e2⟩ := y
    simp [q] at e1
    subst e1
    exact ⟨env, G, fp, con, c, e2, q, fun v G' H' fp' fr c' r n s => k σ G' H' fp' c' (weakT s) rfl⟩
end

/-! ## while -/
def whileN : Nat → TM → SM → Env → Option Out
  | 0, _, _, _ => none
  | n + 1, t, b, env => (t env).bind fun (x, e) => if x then (b e).bind fun o => match o with
      | .nx e => whileN n t b e
      | .ct e => whileN n t b e
      | .bk e => some (.nx e)
      | .rt c e => some (.rt c e)
    else some (.nx e)
theorem whileN_mono {t : TM} {b : SM} : ∀ {n m : Nat} {env : Env} {o : Out}, n ≤ m → whileN n t b env = some o → whileN m t b env = some o
  | 0, _, _, _, _, h => by cases h
  | n + 1, 0, _, _, hl, _ => by omega
  | n + 1, m + 1, env, o, hl, h => by
    unfold whileN at h ⊢
    cases q : t env with
    | none => simp [q] at h
    | some y =>
      obtain ⟨x, e⟩ := y
      simp only [q, Option.bind_some] at h ⊢
      cases x with
      | false => exact h
      | true =>
        rw [if_pos rfl] at h ⊢
        cases q2 : b e with
        | none => simp [q2] at h
        | some o2 =>
          simp only [q2, Option.bind_some] at h ⊢
          cases o2 with
          | nx e => exact whileN_mono (by omega) h
          | ct e => exact whileN_mono (by omega) h
          | bk e => exact h
          | rt c e => exact h
open Classical in
noncomputable def sWhile (t : TM) (b : SM) : SM := fun env => if h : ∃ o, ∃ n, whileN n t b env = some o then some h.choose else none
theorem sWhile_of {t : TM} {b : SM} {env : Env} {o : Out} {n : Nat} (h : whileN n t b env = some o) : sWhile t b env = some o := by
  unfold sWhile
  have hx : ∃ o, ∃ n, whileN n t b env = some o := ⟨o, n, h⟩
  rw [dif_pos hx]
  obtain ⟨m, hm⟩ := hx.choose_spec
  have a := whileN_mono (Nat.le_max_left n m) h
  have c := whileN_mono (Nat.le_max_right n m) hm
  rw [a] at c
  exact c.symm
theorem sWhile_inv {t : TM} {b : SM} {env : Env} {o : Out} (h : sWhile t b env = some o) : ∃ n, whileN n t b env = some o := by
  unfold sWhile at h
  split at h
  · rename_i hx
    cases h
    exact hx.choose_spec
  · cases h
theorem s_while {X : Cx} {p : Nat} {c : Expr} {body : List Stmt} {pos : Pos} {t : TM} {b : SM} (hp : PassesOwn (model X.prog X.w) X.A X.env X.xe) (hc : TOk X c t) (hb : SsOk X p body b) : SOk X p (.While c body [] pos) (sWhile t b) := ps_mono (ps_while hp hc hb) fun D σ H ⟨env, G, fp, con, o, e1, k⟩ => by
  obtain ⟨n, hn⟩ := sWhile_inv e1
  refine ⟨fun m σ1 H1 => ∃ env1 G1 fp1, Con X.K σ1 env1 G1 H1 fp1 ∧ whileN m t b env1 = some o ∧ EndS X.K p σ1 G1 H1 fp1 D o, ⟨n, env, G, fp, con, hn, k⟩, ?_⟩
  rintro m σ1 H1 ⟨env1, G1, fp1, con1, h1, k1⟩
  cases m with
  | zero => cases h1
  | succ m =>
    unfold whileN at h1
    cases q : t env1 with
    | none => simp [q] at h1
    | some y =>
      obtain ⟨x, e⟩ := y
      simp only [q, Option.bind_some] at h1
      refine ⟨env1, G1, fp1, con1, x, e, q, fun G' H' fp' c' s => ?_⟩
      cases x with
      | false =>
        rw [if_neg Bool.false_ne_true] at h1 ⊢
        cases h1
        exact k1 σ1 G' H' fp' c' s rfl
      | true =>
        rw [if_pos rfl] at h1 ⊢
        cases q2 : b e with
        | none => simp [q2] at h1
        | some o2 =>
          simp only [q2, Option.bind_some] at h1
          refine ⟨fun σ2 H2 => ∃ env1 G1 fp1, Con X.K σ2 env1 G1 H2 fp1 ∧ whileN m t b env1 = some o ∧ EndS X.K p σ2 G1 H2 fp1 D o, fun σ' H' w => ⟨m, Nat.lt_succ_self m, w⟩, e, G', fp', c', o2, q2, ?_⟩
          cases o2 with
          | nx e2 => exact fun σ2 G2 H2 fp2 c2 s2 z => ⟨e2, G2, fp2, c2, h1, k1.step (s.trans s2) z⟩
          | ct e2 => exact fun σ2 G2 H2 fp2 c2 s2 z => ⟨e2, G2, fp2, c2, h1, k1.step (s.trans s2) z⟩
          | bk e2 => cases h1; exact fun σ2 G2 H2 fp2 c2 s2 z => k1 σ2 G2 H2 fp2 c2 (s.trans s2) z
          | rt c e2 => cases h1; exact fun v σ2 G2 H2 fp2 fr c2 r n s2 z => k1 v σ2 G2 H2 fp2 fr c2 r n (s.trans s2) z
end Fx
set_option Elab.async false
set_option linter.all false
set_option maxRecDepth 100000
set_option maxHeartbeats 4000000
noncomputable section
namespace Fx
open PySem L2

/-! ## what is walked -/
abbrev IM := Env → Option (List D × Env)
structure Wlk (K : Fg) (J : It) (ds : List D) (G : Hp) : Prop where
  go : ∀ i G1 H1, i < ds.length → Same G G1 → Same G1 H1 → J.go i H1 ∧ ∀ x H2, J.yld i H1 x H2 → ∃ G2 d, ds[i]? = some d ∧ Rep K G2 x d ∧ Same G2 H2 ∧ Step G1 H1 (fun _ => False) G2 H2 (fun _ => False)
  stop : ∀ G1 H1, Same G G1 → Same G1 H1 → J.stop ds.length H1
theorem Wlk.mono {K : Fg} {J : It} {ds : List D} {G G' : Hp} (w : Wlk K J ds G) (s : Same G G') : Wlk K J ds G' := ⟨fun i G1 H1 hi a b => w.go i G1 H1 hi (s.trans a) b, fun G1 H1 a b => w.stop G1 H1 (s.trans a) b⟩
def tI (K : Fg) (m : IM) : TI := fun σ H R => ∃ env G fp, Con K σ env G H fp ∧ ∃ ds env', m env = some (ds, env') ∧
  ∀ J G' H' fp', Con K σ env' G' H' fp' → Step G H (U fp) G' H' (U fp') → Wlk K J ds G' → R J H'
def IOk (X : Cx) (tg iter : Expr) (m : IM) : Prop := PI X tg iter (tI X.K m)
theorem pi_mono {X : Cx} {tg iter : Expr} {t t' : TI} (h : PI X tg iter t) (k : ∀ σ H R, t' σ H R → t σ H R) : PI X tg iter t' := ⟨fun pins s σ H R I q => h.run pins s σ H R I (k σ H R q)⟩

/-- a list or a tuple that stands still -/
def iSeq (K : Fg) (tl : TE) : TI := fun σ H R => tl σ H fun x H1 => ∃ a, x = .ref a ∧ (((∃ xs, SqL K H1 a xs) ∧ R (Itl K a) H1) ∨ ((∃ xs, SqT K H1 a xs) ∧ R (Itt K a) H1))
theorem pi_seq {X : Cx} {tg l : Expr} {tl : TE} (hl : PE X l tl) : PI X tg l (iSeq X.K tl) := by
  refine ⟨fun pins s σ H R I h => ?_⟩
  refine thn (hl.run pins s σ H _ I h) fun v s1 ⟨x, H1, I1, r1, q1⟩ => ?_
  obtain ⟨a, e, q⟩ := q1
  subst e
  cases r1
  rcases q with ⟨⟨xs, hq⟩, q⟩ | ⟨⟨xs, hq⟩, q⟩
  · obtain ⟨its, rv, p, hz⟩ := I1.list hq
    refine wpAny_pyIter_list p.isList ?_
    refine ⟨s1.heap.objs.size, [s1.heap.objs.size], _, _, H1, rfl, I1.kept (t' := s1.toks) fun b o e => Heap.get?_push_of_some _ e, turn_list a _, ⟨_, Heap.get?_push_size _ rfl, rfl, rfl⟩, fun b hb => ?_, q⟩
    have e : b = s1.heap.objs.size := by simpa using hb
    subst e
    exact I1.fpOk (Nat.le_refl _) (I1.hok.fresh (Nat.le_refl _))
  · obtain ⟨its, rv, p, hz⟩ := I1.tuple hq
    refine wpAny_pyIter_tuple (show s1.heap.IsTuple a its.toArray from p) ?_
    refine ⟨s1.heap.objs.size, [s1.heap.objs.size], _, _, H1, rfl, I1.kept (t' := s1.toks) fun b o e => Heap.get?_push_of_some _ e, turn_tuple a _, ⟨_, Heap.get?_push_size _ rfl, rfl, rfl⟩, fun b hb => ?_, q⟩
    have e : b = s1.heap.objs.size := by simpa using hb
    subst e
    exact I1.fpOk (Nat.le_refl _) (I1.hok.fresh (Nat.le_refl _))
theorem wlk_list {K : Fg} {G : Hp} {a : Addr} {xs : List V} {ds : List D} (h : G a = some (.lst xs)) (r : Reps K G xs ds) : Wlk K (Itl K a) ds G := by
  refine ⟨fun i G1 H1 hi s1 s2 => ?_, fun G1 H1 s1 s2 => ⟨xs, SqL.of (s2 _ _ (s1 _ _ h)), Nat.le_of_eq r.length⟩⟩
  have hq : SqL K H1 a xs := SqL.of (s2 _ _ (s1 _ _ h))
  have hl : i < xs.length := by rw [r.length]; exact hi
  refine ⟨⟨xs, xs[i], hq, by simp [hl]⟩, fun x H2 hy => ?_⟩
  obtain ⟨e, hy⟩ := hy
  subst e
  obtain ⟨d, e1, rd⟩ := r.get (hy xs hq)
  exact ⟨G1, d, e1, rd.mono s1, s2, Step.refl ..⟩
theorem wlk_tup {K : Fg} {G : Hp} {a : Addr} {xs : List V} {ds : List D} (h : SqT K G a xs) (r : Reps K G xs ds) : Wlk K (Itt K a) ds G := by
  refine ⟨fun i G1 H1 hi s1 s2 => ?_, fun G1 H1 s1 s2 => ⟨xs, Same.sqT s2 (Same.sqT s1 h), Nat.le_of_eq r.length⟩⟩
  have hq : SqT K H1 a xs := Same.sqT s2 (Same.sqT s1 h)
  have hl : i < xs.length := by rw [r.length]; exact hi
  refine ⟨⟨xs, xs[i], hq, by simp [hl]⟩, fun x H2 hy => ?_⟩
  obtain ⟨e, hy⟩ := hy
  subst e
  obtain ⟨d, e1, rd⟩ := r.get (hy xs hq)
  exact ⟨G1, d, e1, rd.mono s1, s2, Step.refl ..⟩
/-- the items of a value: a list or a tuple -/
def iV (m : EM) : IM := fun env => (m env).bind fun (c, e) => c.fz.seq.bind fun ds => some (ds, e)
theorem i_seq {X : Cx} {tg l : Expr} {m : EM} (h : EOk X l m) : IOk X tg l (iV m) := pi_mono (pi_seq h) fun σ H R ⟨env, G, fp, con, ds, env', e1, k⟩ => by
  unfold iV at e1
  cases q : m env with
  | none => simp [q] at e1
  | some y =>
    obtain ⟨c, e2⟩ := y
    simp only [q, Option.bind_some] at e1
    cases q2 : c.fz.seq with
    | none => simp [q2] at e1
    | some ds0 =>
      simp [q2] at e1
      obtain ⟨rfl, rfl⟩ := e1
      refine ⟨env, G, fp, con, c, e2, q, fun v G1 H1 fp1 fr con1 r1 n1 s1 => ?_⟩
      have con2 := con_fz2 con1 r1 n1
      have s2 : Step G H (U fp) (addF G1 H1 fr) H1 (U fp1) := s1.trans ((Step.fz r1).weak (U' := fun _ => False) (W := fun a => U fp1 a ∨ a ∈ fr) (W' := U fp1) (fun a m => .inr m) fun a u => .inr (.inl (.inl u)))
      have rv := r1.fz
      cases hf : c.fz with
      | tup zs =>
        rw [hf] at q2 rv; cases q2
        cases rv with
        | tup h1 h2 => exact ⟨_, rfl, .inr ⟨⟨_, SqT.of (con2.sub _ _ h1)⟩, k _ _ _ _ con2 s2 (wlk_tup (SqT.of h1) h2)⟩⟩
      | lst zs =>
        rw [hf] at q2 rv; cases q2
        cases rv with
        | lst h1 h2 => exact ⟨_, rfl, .inl ⟨⟨_, SqL.of (con2.sub _ _ h1)⟩, k _ _ _ _ con2 s2 (wlk_list h1 h2)⟩⟩
      | _ => rw [hf] at q2; cases q2
/-- range(n), range(a, b) -/
def rng (a b : Int) : List D := (List.range (b - a).toNat).map fun i => D.int (a + (i : Nat))
theorem rng_length (a b : Int) : (rng a b).length = (b - a).toNat := by unfold rng; simp
theorem wlk_rng {K : Fg} {G : Hp} (a b : Int) : Wlk K (Itr a (b - a).toNat) (rng a b) G := by
  refine ⟨fun i G1 H1 hi s1 s2 => ?_, fun G1 H1 s1 s2 => ?_⟩
  · rw [rng_length] at hi
    refine ⟨hi, fun x H2 hy => ?_⟩
    obtain ⟨e, ex⟩ := hy
    subst e ex
    exact ⟨G1, .int (a + (i : Nat)), by unfold rng; simp [hi], .int _, s2, Step.refl ..⟩
  · show (b - a).toNat ≤ _
    rw [rng_length]
    exact Nat.le_refl _
def okR (i : Int) : Bool := @decide (-(2 ^ 62) ≤ i ∧ i < 2 ^ 62) (Classical.propDecidable _)
theorem okR_iff {i : Int} : okR i = true ↔ -(2 ^ 62) ≤ i ∧ i < 2 ^ 62 := @decide_eq_true_iff _ (Classical.propDecidable _)
def iR1 (o : Opd) : IM := fun env => (evO [o] env).bind fun (ds, e) => match ds with
  | [.int n] => if okR n then some (rng 0 n, e) else none
  | _ => none
def iR2 (o o' : Opd) : IM := fun env => (evO [o, o'] env).bind fun (ds, e) => match ds with
  | [.int a, .int b] => if okR a && okR b then some (rng a b, e) else none
  | _ => none
theorem i_rng1 {X : Cx} {tg a : Expr} {o : Opd} {p pos : Pos} (hg : Gl X "range") (hm : X.mg "range" = none) (ha : PA X [a] (tOs X.K [o])) (hs : starEach [a] X.env = [(false, eval a X.env)] := by rfl) : IOk X tg (.Call (.Name "range" p) [a] [] pos) (iR1 o) :=
  pi_mono (pi_range1 hg hm (pao ha) hs) fun σ H R ⟨env, G, fp, con, ds, env', e1, k⟩ => by
    unfold iR1 at e1
    cases q : evO [o] env with
    | none => simp [q] at e1
    | some y =>
      obtain ⟨ds0, e2⟩ := y
      simp only [q, Option.bind_some] at e1
      split at e1
      · rename_i n
        split at e1
        · rename_i hn
          cases e1
          refine ⟨env, G, fp, con, _, _, q, fun vs G' H' fp' c' rv s => ?_⟩
          cases rv with
          | cons r1 rv =>
            cases rv; cases r1.int
            have hn := okR_iff.mp hn
            refine ⟨n, rfl, hn.1, hn.2, k _ G' H' fp' c' s ?_⟩
            have := wlk_rng (K := X.K) (G := G') 0 n
            rwa [show (n - 0).toNat = n.toNat by rw [Int.sub_zero]] at this
        · cases e1
      · cases e1
theorem i_rng2 {X : Cx} {tg a b : Expr} {o o' : Opd} {p pos : Pos} (hg : Gl X "range") (hm : X.mg "range" = none) (ha : PA X [a, b] (tOs X.K [o, o'])) (hs : starEach [a, b] X.env = [(false, eval a X.env), (false, eval b X.env)] := by rfl) (hs2 : starEach [b] X.env = [(false, eval b X.env)] := by rfl) : IOk X tg (.Call (.Name "range" p) [a, b] [] pos) (iR2 o o') :=
  pi_mono (pi_range2 hg hm (pao ha) hs hs2) fun σ H R ⟨env, G, fp, con, ds, env', e1, k⟩ => by
    unfold iR2 at e1
    cases q : evO [o, o'] env with
    | none => simp [q] at e1
    | some y =>
      obtain ⟨ds0, e2⟩ := y
      simp only [q, Option.bind_some] at e1
      split at e1
      · rename_i a b
        split at e1
        · rename_i hn
          cases e1
          refine ⟨env, G, fp, con, _, _, q, fun vs G' H' fp' c' rv s => ?_⟩
          cases rv with
          | cons r1 rv =>
            cases rv with
            | cons r2 rv =>
              cases rv; cases r1.int; cases r2.int
              simp only [Bool.and_eq_true] at hn
              have h1 := okR_iff.mp hn.1
              have h2 := okR_iff.mp hn.2
              exact ⟨a, b, rfl, ⟨h1.1, h1.2, h2.1, h2.2⟩, k _ G' H' fp' c' s (wlk_rng a b)⟩
        · cases e1
      · cases e1

/-! ## targets -/
/-- where the items of a value go -/
def asg : List Nat → List D → Env → Option Env
  | [], [], env => some env
  | i :: is, d :: ds, env => if i < env.length then asg is ds (env.set i (some (.sh d))) else none
  | _, _, _ => none
inductive Tgt where
  | one (i : Nat) | tup (is : List Nat)
def Tgt.is : Tgt → List Nat
  | .one i => [i] | .tup is => is
def asgT : Tgt → D → Env → Option Env
  | .one i, d, env => if i < env.length then some (env.set i (some (.sh d))) else none
  | .tup is, .tup ds, env => asg is ds env
  | _, _, _ => none
def gNames : List Nat → TGs
  | [] => gNil
  | i :: is => gCons (gName i) (gNames is)
def gT (K : Fg) : Tgt → TG
  | .one i => gName i
  | .tup is => gTup K is.length (gNames is)
def GOk (X : Cx) (tg : Expr) (t : Tgt) : Prop := PG X tg (gT X.K t)
theorem con_sh {K : Fg} {σ : St} {env : Env} {G H : Hp} {fp : Fp} {i : Nat} {v : V} {d : D} (c : Con K σ env G H fp) (hi : i < env.length) (r : Rep K G v d) :
    Con K (σ.set i (some v)) (env.set i (some (.sh d))) G H (fp.set i []) := c.put hi (.sh r) fun a m => by cases m
theorem U_set_nil {fp : Fp} {i : Nat} {a : Addr} (h : U (fp.set i []) a) : U fp a := (U_set h).elim id fun z => by cases z
theorem asg_run {K : Fg} {p : Nat} : ∀ {is : List Nat} {ds : List D} {vs : List V} {σ : St} {env env' : Env} {G H : Hp} {fp : Fp} {Q : St → Hp → Prop}, Con K σ env G H fp → Reps K G vs ds → asg is ds env = some env' → (∀ i ∈ is, p ≤ i) →
    (∀ σ' fp', Con K σ' env' G H fp' → (∀ a, U fp' a → U fp a) → σ'.take p = σ.take p → (∀ j, j ∉ is → σ'[j]? = σ[j]?) → Q σ' H) → gNames is vs σ H Q
  | [], [], _, σ, env, env', G, H, fp, Q, con, .nil, e, hp, k => by
    cases e
    exact ⟨rfl, k σ fp con (fun _ u => u) rfl fun _ _ => rfl⟩
  | i :: is, d :: ds, _, σ, env, env', G, H, fp, Q, con, .cons (v := v) (vs := vs) r rs, e, hp, k => by
    unfold asg at e
    split at e
    · rename_i hi
      refine ⟨v, vs, rfl, ?_⟩
      refine asg_run (con_sh con hi r) rs e (fun j m => hp j (by simp [m])) fun σ' fp' c' u' t' st' => ?_
      refine k σ' fp' c' (fun a u => U_set_nil (u' a u)) (t'.trans (take_set (hp i (by simp)))) fun j hj => ?_
      rw [st' j fun m => hj (by simp [m]), List.getElem?_set_ne (fun z => hj (by simp [z]))]
    · cases e
  | [], _ :: _, _, _, _, _, _, _, _, _, _, _, e, _, _ => by cases e
  | _ :: _, [], _, _, _, _, _, _, _, _, _, _, e, _, _ => by cases e
theorem asg_length : ∀ {is : List Nat} {ds : List D} {env env' : Env}, asg is ds env = some env' → ds.length = is.length
  | [], [], _, _, _ => rfl
  | i :: is, d :: ds, env, env', e => by
    simp only [asg] at e
    split at e
    · simp [asg_length e]
    · cases e
  | [], _ :: _, _, _, e => by simp [asg] at e
  | _ :: _, [], _, _, e => by simp [asg] at e
theorem asgT_run {K : Fg} {p : Nat} {t : Tgt} {d : D} {v : V} {σ : St} {env env' : Env} {G H : Hp} {fp : Fp} {Q : St → Hp → Prop} (con : Con K σ env G H fp) (r : Rep K G v d) (e : asgT t d env = some env') (hp : ∀ i ∈ t.is, p ≤ i)
    (k : ∀ σ' fp', Con K σ' env' G H fp' → (∀ a, U fp' a → U fp a) → σ'.take p = σ.take p → (∀ j, j ∉ t.is → σ'[j]? = σ[j]?) → Q σ' H) : gT K t v σ H Q := by
  cases t with
  | one i =>
    simp only [asgT] at e
    split at e
    · rename_i hi
      cases e
      exact k _ _ (con_sh con hi r) (fun a u => U_set_nil u) (take_set (hp i (by simp [Tgt.is]))) fun j hj => List.getElem?_set_ne (fun z => hj (by simp [Tgt.is, z]))
    · cases e
  | tup is =>
    cases d with
    | tup ds =>
      have e : asg is ds env = some env' := e
      cases r with
      | tup h rs => exact ⟨_, _, rfl, SqT.of (con.sub _ _ h), by rw [rs.length, asg_length e], asg_run con rs e hp k⟩
    | _ => simp [asgT] at e
theorem g_one {X : Cx} {i : Nat} {x : Str} {pos : Pos} (hN : X.N.Nodup) (hi : X.N[i]? = some x) (hx : Loc X.env.scope x) (hf : X.fn x = true ∨ X.env.scope.names.lookup x = some .local := by first | exact .inl rfl | exact .inr rfl | assumption) : GOk X (.Name x pos) (.one i) := pg_name hN hi hx hf

/-! ## for -/
def forN (t : Tgt) (b : SM) : List D → Env → Option Out
  | [], env => some (.nx env)
  | d :: ds, env => (asgT t d env).bind fun e => (b e).bind fun o => match o with
    | .nx e => forN t b ds e
    | .ct e => forN t b ds e
    | .bk e => some (.nx e)
    | .rt c e => some (.rt c e)
def sFor (t : Tgt) (i : IM) (b : SM) : SM := fun env => (i env).bind fun (ds, e) => forN t b ds e
theorem s_for {X : Cx} {p : Nat} {tg iter : Expr} {body : List Stmt} {pos : Pos} {t : Tgt} {i : IM} {b : SM} (hpt : ∀ i ∈ t.is, p ≤ i) (hp : PassesOwn (model X.prog X.w) X.A X.env X.xe) (hc : X.calm = true) (hi : IOk X tg iter i) (hg : GOk X tg t) (hb : SsOk X p body b)
    (hs : ∀ x, foldedSetIterable iter X.env x = pure x := by intro _; rfl) : SOk X p (.For tg iter body [] pos) (sFor t i b) := ps_mono (ps_for hp hc hi hg hb hs) fun D σ H ⟨env, G, fp, con, o, e1, k⟩ => by
  unfold sFor at e1
  cases q : i env with
  | none => simp [q] at e1
  | some y =>
    obtain ⟨ds, e2⟩ := y
    simp only [q, Option.bind_some] at e1
    refine ⟨env, G, fp, con, ds, e2, q, fun J G' H' fp' c' s w => ?_⟩
    refine ⟨fun n m σ1 H1 => n + m = ds.length ∧ ∃ env1 G1 fp1, Con X.K σ1 env1 G1 H1 fp1 ∧ Same G' G1 ∧ forN t b (ds.drop n) env1 = some o ∧ EndS X.K p σ1 G1 H1 fp1 D o, ⟨ds.length, by simp, e2, G', fp', c', Same.refl _, by simpa using e1, k.step s rfl⟩, ?_⟩
    rintro n m σ1 H1 ⟨hnm, env1, G1, fp1, con1, sG, h1, k1⟩
    by_cases hn : n < ds.length
    · right
      obtain ⟨hgo, hy⟩ := w.go n G1 H1 hn sG con1.sub
      have hd : ds.drop n = ds[n] :: ds.drop (n + 1) := List.drop_eq_getElem_cons hn
      rw [hd] at h1
      refine ⟨hgo, fun σ2 H2 => ∃ env1 G1 fp1, Con X.K σ2 env1 G1 H2 fp1 ∧ Same G' G1 ∧ forN t b (ds.drop (n + 1)) env1 = some o ∧ EndS X.K p σ2 G1 H2 fp1 D o, fun σ' H' w => ⟨m - 1, by omega, by omega, w⟩, fun x H2 hx => ?_⟩
      obtain ⟨G2, d, ed, rd, sub2, s2⟩ := hy x H2 hx
      have ed' : ds[n] = d := by
        rw [List.getElem?_eq_getElem hn] at ed
        exact Option.some.inj ed
      rw [ed'] at h1
      unfold forN at h1
      cases q1 : asgT t d env1 with
      | none => simp [q1] at h1
      | some e3 =>
        simp only [q1, Option.bind_some] at h1
        cases q2 : b e3 with
        | none => simp [q2] at h1
        | some o2 =>
          simp only [q2, Option.bind_some] at h1
          have con2 : Con X.K σ1 env1 G2 H2 fp1 := con1.step s2 (fun a u w => w) sub2
          have s12 : Step G1 H1 (U fp1) G2 H2 (U fp1) := s2.weak (fun _ z => z.elim) fun a u => .inr (.inl u)
          refine asgT_run con2 rd q1 hpt fun σ3 fp3 c3 u3 t3 _ => ?_
          have s13 : Step G1 H1 (U fp1) G2 H2 (U fp3) := s12.weak (fun _ u => u) fun a u => .inl (u3 a u)
          refine ⟨e3, G2, fp3, c3, o2, q2, ?_⟩
          cases o2 with
          | nx e4 => exact fun σ4 G4 H4 fp4 c4 s4 z => ⟨e4, G4, fp4, c4, (sG.trans s2.sG).trans s4.sG, h1, k1.step (s13.trans s4) (z.trans t3)⟩
          | ct e4 => exact fun σ4 G4 H4 fp4 c4 s4 z => ⟨e4, G4, fp4, c4, (sG.trans s2.sG).trans s4.sG, h1, k1.step (s13.trans s4) (z.trans t3)⟩
          | bk e4 => cases h1; exact fun σ4 G4 H4 fp4 c4 s4 z => k1 σ4 G4 H4 fp4 c4 (s13.trans s4) (z.trans t3)
          | rt c e4 => cases h1; exact fun v σ4 G4 H4 fp4 fr c4 r n s4 z => k1 v σ4 G4 H4 fp4 fr c4 r n (s13.trans s4) (z.trans t3)
    · left
      have e : n = ds.length := by omega
      subst e
      rw [List.drop_length] at h1
      cases h1
      exact ⟨w.stop G1 H1 sG con1.sub, k1 σ1 G1 H1 fp1 con1 (Step.refl ..) rfl⟩
end Fx
set_option Elab.async false
set_option linter.all false
set_option maxRecDepth 100000
set_option maxHeartbeats 4000000
noncomputable section
namespace Fx
open PySem L2

/-! ## comprehensions -/
def wipeE (env : Env) : List Nat → Env
  | [] => env
  | v :: vs => (wipeE env vs).set v none
def calm1 : Option (Option C) → Bool
  | some none => true | some (some (.sh _)) => true | none => true | _ => false
/-- no list of one's own at these places -/
def calmE (env : Env) (vs : List Nat) : Bool := vs.all fun v => calm1 env[v]?
def restE (e0 : Env) : List Nat → Env → Env
  | [], e => e
  | v :: vs, e => match e0[v]? with
    | some c => restE e0 vs (e.set v c)
    | none => restE e0 vs e
theorem wipeE_length (env : Env) : ∀ vs, (wipeE env vs).length = env.length
  | [] => rfl
  | v :: vs => by unfold wipeE; rw [List.length_set, wipeE_length env vs]
theorem fp_calm {K : Fg} {σ : St} {env : Env} {G H : Hp} {fp : Fp} {v : Nat} (con : Con K σ env G H fp) (h : calm1 env[v]? = true) : fp v = [] := by
  cases q : env[v]? with
  | none => exact con.nil v fun c e => by rw [q] at e; cases e
  | some o =>
    cases o with
    | none => exact con.nil v fun c e => by rw [q] at e; cases e
    | some c =>
      cases c with
      | sh d =>
        obtain ⟨x, _, r⟩ := con.rep v _ q
        exact r.of_sh.2
      | _ => rw [q] at h; cases h
theorem set_nil {fp : Fp} {v : Nat} (h : fp v = []) : Fp.set fp v [] = fp := by
  funext j
  unfold Fp.set
  split
  · rename_i e; rw [e, h]
  · rfl
theorem con_wipe {K : Fg} {σ : St} {env : Env} {G H : Hp} {fp : Fp} : ∀ {vs : List Nat}, Con K σ env G H fp → calmE env vs = true → Con K (wipe σ vs) (wipeE env vs) G H fp
  | [], con, _ => con
  | v :: vs, con, h => by
    unfold calmE at h
    rw [List.all_cons, Bool.and_eq_true] at h
    have c1 := con_wipe (vs := vs) con h.2
    have hv : fp v = [] := fp_calm con h.1
    have c2 := c1.drop (i := v) (σ' := (wipe σ vs).set v none) (by simp) fun j hj => List.getElem?_set_ne (fun z => hj z.symm)
    rw [set_nil hv] at c2
    exact c2
theorem con_rest {K : Fg} {σ : St} {e0 : Env} {G0 H0 : Hp} {fp0 : Fp} (c0 : Con K σ e0 G0 H0 fp0) : ∀ {vs : List Nat} {e : Env} {G H : Hp} {fp : Fp}, vs.Nodup → calmE e0 vs = true → Same G0 G → (∀ v ∈ vs, fp v = []) → Con K (wipe σ vs) e G H fp → Con K σ (restE e0 vs e) G H fp
  | [], e, G, H, fp, _, _, _, _, con => con
  | v :: vs, e, G, H, fp, nd, h, s, hf, con => by
    have h' := h
    unfold calmE at h
    rw [List.all_cons, Bool.and_eq_true] at h
    have nv : v ∉ vs := (List.nodup_cons.mp nd).1
    have hl : (wipe σ vs).length = e0.length := by rw [wipe_length, c0.len]
    have hle : e.length = e0.length := by
      have := con.len
      rw [← this]
      show ((wipe σ vs).set v none).length = _
      rw [List.length_set, hl]
    have hfv : fp v = [] := hf v (by simp)
    have hfs : ∀ w ∈ vs, fp w = [] := fun w m => hf w (by simp [m])
    unfold restE
    cases q : e0[v]? with
    | none =>
      refine con_rest c0 (List.nodup_cons.mp nd).2 h.2 s hfs ?_
      have hv : e0.length ≤ v := List.getElem?_eq_none_iff.mp q
      have es : (wipe σ vs).set v none = wipe σ vs := List.set_eq_of_length_le (by rw [hl]; exact hv)
      have con' : Con K ((wipe σ vs).set v none) e G H fp := con
      rw [es] at con'
      exact con'
    | some o =>
      have hv : v < e0.length := (List.getElem?_eq_some_iff.mp q).1
      refine con_rest c0 (List.nodup_cons.mp nd).2 h.2 s hfs ?_
      have con' : Con K ((wipe σ vs).set v none) e G H fp := con
      have hw : (wipe σ vs)[v]? = σ[v]? := wipe_out nv
      cases o with
      | none =>
        have c2 := con'.drop (i := v) (σ' := wipe σ vs) (by simp) fun j hj => (List.getElem?_set_ne (fun z => hj z.symm)).symm
        rw [set_nil hfv] at c2
        exact c2
      | some c =>
        cases c with
        | sh d =>
          obtain ⟨x, ex, r⟩ := c0.rep v _ q
          have c2 := con_sh (i := v) (v := x) (d := d) con' (by rw [hle]; exact hv) (r.of_sh.1.mono s)
          rw [set_nil hfv, List.set_set] at c2
          have es : (wipe σ vs).set v (some x) = wipe σ vs := by
            apply List.ext_getElem?
            intro j
            by_cases hj : j = v
            · subst hj
              rw [List.getElem?_set_self (by rw [hl]; exact hv), hw, ex]
            · rw [List.getElem?_set_ne (fun z => hj z.symm)]
          rw [es] at c2
          exact c2
        | _ =>
          have := h.1
          rw [q] at this
          cases this
theorem wipe_eq : ∀ {vs : List Nat} {σ σ' : St}, σ'.length = σ.length → (∀ j, j ∉ vs → σ'[j]? = σ[j]?) → wipe σ' vs = wipe σ vs
  | vs, σ, σ', hl, h => by
    apply List.ext_getElem?
    intro j
    by_cases hj : j ∈ vs
    · have key : ∀ (ws : List Nat) (τ : St), j ∈ ws → (wipe τ ws)[j]? = if j < τ.length then some none else none := by
        intro ws
        induction ws with
        | nil => intro τ m; cases m
        | cons w ws ih =>
          intro τ m
          show ((wipe τ ws).set w none)[j]? = _
          by_cases e : w = j
          · subst e
            by_cases hw : w < τ.length
            · rw [if_pos hw]; exact List.getElem?_set_self (by rw [wipe_length]; exact hw)
            · rw [if_neg hw]; exact List.getElem?_eq_none (by rw [List.length_set, wipe_length]; omega)
          · rw [List.getElem?_set_ne e]
            rcases List.mem_cons.mp m with m | m
            · exact absurd m.symm e
            · exact ih τ m
      rw [key vs σ hj, key vs σ' hj, hl]
    · rw [wipe_out hj, wipe_out hj]; exact h j hj

def kYes : TM := fun env => some (true, env)
def compN (vs : List Nat) (t : Tgt) (c : TM) (m : EM) : List D → Env → Option (List D × Env)
  | [], env => some ([], env)
  | d :: ds, env => (asgT t d env).bind fun e1 => (c e1).bind fun (b, e2) => if b then (m e2).bind fun (x, e3) => if calmE e3 vs then (compN vs t c m ds (wipeE e3 vs)).bind fun (rs, e4) => some (x.fz :: rs, e4) else none
      else if calmE e2 vs then compN vs t c m ds (wipeE e2 vs) else none
def eComp (vs : List Nat) (t : Tgt) (i : IM) (c : TM) (m : EM) : EM := fun env => (i env).bind fun (ds, e1) => if calmE e1 vs then (compN vs t c m ds (wipeE e1 vs)).bind fun (rs, e2) => if rs.length ≤ lim then some (.ol rs, restE e1 vs e2) else none else none
def PTsOk (X : Cx) (ifs : List Expr) (c : TM) : Prop := PTs X ifs (tT X.K c)
theorem ts_nil {X : Cx} : PTsOk X [] kYes := ⟨fun pins s σ H Q I ⟨env, G, fp, con, b, env', e1, k⟩ => pts_nil.run pins s σ H Q I (by cases e1; exact k G H fp con (Step.refl ..))⟩
theorem ts_one {X : Cx} {c : Expr} {t : TM} (h : TOk X c t) : PTsOk X [c] t := pts_one h
theorem compN_len {vs : List Nat} {t : Tgt} {c : TM} {m : EM} : ∀ {ds : List D} {env env' : Env} {rs : List D}, compN vs t c m ds env = some (rs, env') → rs.length ≤ ds.length
  | [], env, env', rs, e => by cases e; exact Nat.le_refl _
  | d :: ds, env, env', rs, e => by
    unfold compN at e
    cases q1 : asgT t d env with
    | none => simp [q1] at e
    | some e1 =>
      simp only [q1, Option.bind_some] at e
      cases q2 : c e1 with
      | none => simp [q2] at e
      | some y =>
        obtain ⟨b, e2⟩ := y
        simp only [q2, Option.bind_some] at e
        cases b with
        | true =>
          rw [if_pos rfl] at e
          cases q3 : m e2 with
          | none => simp [q3] at e
          | some y =>
            obtain ⟨x, e3⟩ := y
            simp only [q3, Option.bind_some] at e
            split at e
            · cases q4 : compN vs t c m ds (wipeE e3 vs) with
              | none => simp [q4] at e
              | some y =>
                obtain ⟨r, e4⟩ := y
                simp [q4] at e
                obtain ⟨rfl, rfl⟩ := e
                have := compN_len q4
                simp; omega
            · cases e
        | false =>
          rw [if_neg Bool.false_ne_true] at e
          split at e
          · have := compN_len e
            simp; omega
          · cases e
theorem nofp {K : Fg} {σ : St} {env : Env} {G H : Hp} {fp : Fp} {vs : List Nat} (con : Con K σ (wipeE env vs) G H fp) : ∀ v ∈ vs, fp v = [] := fun v m => con.nil v fun c e => by
  have key : ∀ (ws : List Nat), v ∈ ws → ∀ c, (wipeE env ws)[v]? ≠ some (some c) := by
    intro ws
    induction ws with
    | nil => intro m; cases m
    | cons w ws ih =>
      intro m c e
      unfold wipeE at e
      by_cases z : w = v
      · subst z
        by_cases hw : w < (wipeE env ws).length
        · rw [List.getElem?_set_self hw] at e; cases e
        · rw [List.getElem?_eq_none (by simpa using hw)] at e; cases e
      · rw [List.getElem?_set_ne z] at e
        rcases List.mem_cons.mp m with m | m
        · exact z m.symm
        · exact ih m c e
  exact key vs m c e
theorem comp_run {K : Fg} {vs : List Nat} {t : Tgt} {i : IM} {c : TM} {m : EM} {σ : St} {H : Hp} {Q : VK} (hn : vs.Nodup) (hsub : ∀ i ∈ t.is, i ∈ vs) (q : tE K (eComp vs t i c m) σ H Q) : tLc (tI K i) (gT K t) (tT K c) (tE K m) vs σ H Q := by
  obtain ⟨env, G, fp, con, c0, env', e1, k⟩ := q
  unfold eComp at e1
  cases q : i env with
  | none => simp [q] at e1
  | some y =>
    obtain ⟨ds, e2⟩ := y
    simp only [q, Option.bind_some] at e1
    split at e1
    · rename_i hcalm
      cases q2 : compN vs t c m ds (wipeE e2 vs) with
      | none => simp [q2] at e1
      | some y =>
        obtain ⟨rs, e3⟩ := y
        simp only [q2, Option.bind_some] at e1
        split at e1
        · rename_i hlen
          cases e1
          refine ⟨env, G, fp, con, ds, e2, q, fun J G1 H1 fp1 con1 s1 w => fun Dl hD => ?_⟩
          have GD : G1 Dl = none := none_of_same con1.sub hD
          refine ⟨fun n mm H2 => n + mm = ds.length ∧ ∃ e G2 fp2 acc rest, Con K (wipe σ vs) e G2 H2 fp2 ∧ (∀ v ∈ vs, fp2 v = []) ∧ Same G1 G2 ∧ RepC K G2 H2 (.ref Dl) (.ol acc) [Dl] ∧ ¬ U fp2 Dl ∧ compN vs t c m (ds.drop n) e = some (rest, e3) ∧ acc ++ rest = rs ∧ Step G1 (upd H1 Dl (.lst [])) (fun a => U fp1 a ∨ a ∈ [Dl]) G2 H2 (fun a => U fp2 a ∨ a ∈ [Dl]), ?_, ?_⟩
          · refine ⟨ds.length, by simp, wipeE e2 vs, G1, fp1, [], rs, ?_, ?_, Same.refl _, .ol GD upd_same .nil, ?_, by simpa using q2, rfl, Step.refl ..⟩
            · exact (con_wipe con1 hcalm).step (Step.newH (o := .lst []) hD) (fun a u z => z) (same_newH con1.sub hD)
            · exact nofp (con_wipe con1 hcalm)
            · intro u
              obtain ⟨j, mj⟩ := u
              have : ∃ x, e2[j]? = some (some x) := by
                refine Classical.byContradiction fun no => ?_
                have e := con1.nil j fun x e => no ⟨x, e⟩
                rw [e] at mj; cases mj
              obtain ⟨x, ex⟩ := this
              obtain ⟨_, _, rx⟩ := con1.rep j x ex
              obtain ⟨_, o, eo⟩ := rx.mem Dl mj
              rw [eo] at hD; cases hD
          · rintro n mm H2 ⟨hnm, e, G2, fp2, acc, rest, con2, nf2, sG, rD, nD, hcomp, hacc, st⟩
            by_cases hnl : n < ds.length
            · right
              obtain ⟨hgo, hy⟩ := w.go n G2 H2 hnl sG con2.sub
              have hd : ds.drop n = ds[n] :: ds.drop (n + 1) := List.drop_eq_getElem_cons hnl
              rw [hd] at hcomp
              refine ⟨hgo, fun H3 => ∃ e G2 fp2 acc rest, Con K (wipe σ vs) e G2 H3 fp2 ∧ (∀ v ∈ vs, fp2 v = []) ∧ Same G1 G2 ∧ RepC K G2 H3 (.ref Dl) (.ol acc) [Dl] ∧ ¬ U fp2 Dl ∧ compN vs t c m (ds.drop (n + 1)) e = some (rest, e3) ∧ acc ++ rest = rs ∧ Step G1 (upd H1 Dl (.lst [])) (fun a => U fp1 a ∨ a ∈ [Dl]) G2 H3 (fun a => U fp2 a ∨ a ∈ [Dl]), fun H' w => ⟨mm - 1, by omega, by omega, w⟩, fun x H3 hx => ?_⟩
              obtain ⟨G3, d, ed, rd, sub3, s3⟩ := hy x H3 hx
              have ed' : ds[n] = d := by
                rw [List.getElem?_eq_getElem hnl] at ed
                exact Option.some.inj ed
              rw [ed'] at hcomp
              unfold compN at hcomp
              cases q1 : asgT t d e with
              | none => simp [q1] at hcomp
              | some e4 =>
                simp only [q1, Option.bind_some] at hcomp
                have ew : wipe (wipe σ vs) vs = wipe σ vs := by
                  apply List.ext_getElem?
                  intro j
                  by_cases hj : j ∈ vs
                  · have key : ∀ (ws : List Nat) (τ : St), j ∈ ws → (wipe τ ws)[j]? = if j < τ.length then some none else none := by
                      intro ws
                      induction ws with
                      | nil => intro τ m; cases m
                      | cons w ws ih =>
                        intro τ m
                        show ((wipe τ ws).set w none)[j]? = _
                        by_cases e : w = j
                        · subst e
                          by_cases hw : w < τ.length
                          · rw [if_pos hw]; exact List.getElem?_set_self (by rw [wipe_length]; exact hw)
                          · rw [if_neg hw]; exact List.getElem?_eq_none (by rw [List.length_set, wipe_length]; omega)
                        · rw [List.getElem?_set_ne e]
                          rcases List.mem_cons.mp m with m | m
                          · exact absurd m.symm e
                          · exact ih τ m
                    rw [key vs _ hj, key vs _ hj, wipe_length]
                  · rw [wipe_out hj]
                have con3 : Con K (wipe σ vs) e G3 H3 fp2 := con2.step s3 (fun a u z => z) sub3
                have rD3 : RepC K G3 H3 (.ref Dl) (.ol acc) [Dl] := rD.step s3 fun a m z => z
                refine asgT_run (p := 0) con3 rd q1 (fun _ _ => Nat.zero_le _) fun σ4 fp4 con4 u4 _ st4 => ?_
                have hl4 : σ4.length = (wipe σ vs).length := by
                  have a := con4.len
                  have b := con3.len
                  rw [a, b]
                  have key : ∀ {t : Tgt} {d : D} {e e' : Env}, asgT t d e = some e' → e'.length = e.length := by
                    intro t d e e' h
                    have k2 : ∀ {is : List Nat} {ds : List D} {e e' : Env}, asg is ds e = some e' → e'.length = e.length := by
                      intro is
                      induction is with
                      | nil => intro ds e e' h; cases ds with | nil => cases h; rfl | cons => simp [asg] at h
                      | cons i is ih => intro ds e e' h; cases ds with
                        | nil => simp [asg] at h
                        | cons d ds =>
                          simp only [asg] at h
                          split at h
                          · rw [ih h, List.length_set]
                          · cases h
                    cases t with
                    | one i =>
                      simp only [asgT] at h
                      split at h
                      · cases h; simp
                      · cases h
                    | tup is => cases d with
                      | tup ds => exact k2 (show asg is ds e = some e' from h)
                      | _ => simp [asgT] at h
                  exact key q1
                refine ⟨(wipe_eq hl4 fun j hj => st4 j fun z => hj (hsub j z)).trans ew, ?_⟩
                have eq4 : wipe σ4 vs = wipe σ vs := (wipe_eq hl4 fun j hj => st4 j fun z => hj (hsub j z)).trans ew
                have nD4 : ¬ U fp4 Dl := fun z => nD (u4 _ z)
                have st4' : Step G1 (upd H1 Dl (.lst [])) (fun a => U fp1 a ∨ a ∈ [Dl]) G3 H3 (fun a => U fp4 a ∨ a ∈ [Dl]) := st.trans (s3.weak (fun _ z => z.elim) fun a u => .inr (.inl (u.elim (fun z => .inl (u4 a z)) .inr)))
                cases q2' : c e4 with
                | none => simp [q2'] at hcomp
                | some y =>
                  obtain ⟨b, e5⟩ := y
                  simp only [q2', Option.bind_some] at hcomp
                  refine ⟨e4, G3, fp4, con4, b, e5, q2', fun G5 H5 fp5 con5 s5 => ?_⟩
                  have rD5 : RepC K G5 H5 (.ref Dl) (.ol acc) [Dl] := rD3.step s5 fun a m z => by simp at m; subst m; exact nD4 z
                  have nD5 : ¬ U fp5 Dl := rD3.out s5 (fun a m z => by simp at m; subst m; exact nD4 z) Dl (by simp)
                  have st5 : Step G1 (upd H1 Dl (.lst [])) (fun a => U fp1 a ∨ a ∈ [Dl]) G5 H5 (fun a => U fp5 a ∨ a ∈ [Dl]) := st4'.trans (s5.weak (fun _ z => .inl z) fun a u => u.elim .inl fun z => .inr (.inl (.inr z)))
                  cases b with
                  | false =>
                    rw [if_neg Bool.false_ne_true] at hcomp
                    refine iteF ?_
                    split at hcomp
                    · rename_i hc5
                      refine ⟨wipeE e5 vs, G5, fp5, acc, rest, by rw [← eq4]; exact con_wipe con5 hc5, nofp (con_wipe con5 hc5), (sG.trans s3.sG).trans s5.sG, rD5, nD5, hcomp, hacc, st5⟩
                    · cases hcomp
                  | true =>
                    rw [if_pos rfl] at hcomp
                    refine iteT ?_
                    cases q3 : m e5 with
                    | none => simp [q3] at hcomp
                    | some y =>
                      obtain ⟨cx, e6⟩ := y
                      simp only [q3, Option.bind_some] at hcomp
                      split at hcomp
                      · rename_i hc6
                        cases q4 : compN vs t c m (ds.drop (n + 1)) (wipeE e6 vs) with
                        | none => simp [q4] at hcomp
                        | some y =>
                          obtain ⟨r', e7⟩ := y
                          simp [q4] at hcomp
                          obtain ⟨rfl, rfl⟩ := hcomp
                          refine ⟨e5, G5, fp5, con5, cx, e6, q3, fun v G6 H6 fp6 fr con6 r6 n6 s6 => ?_⟩
                          have nm : ∀ a ∈ [Dl], ¬ U fp5 a := fun a m z => by simp at m; subst m; exact nD5 z
                          have rD6 := rD5.step s6 nm
                          have nD6 := rD5.out s6 nm Dl (by simp)
                          have con7 := con_fz2 con6 r6 n6
                          have sf := Step.fz r6
                          have rD7 : RepC K (addF G6 H6 fr) H6 (.ref Dl) (.ol acc) [Dl] := rD6.step sf fun a m z => by simp at m; subst m; exact nD6 (.inr z)
                          have rx := r6.fz
                          cases rD7 with
                          | @ol _ xsD _ gD hD7 rsD =>
                            refine ⟨_, hD7, ?_, ?_⟩
                            · rw [rsD.length]
                              have := compN_len q4
                              have hrl : acc.length < rs.length := by rw [← hacc]; simp
                              rw [← lim_eq]
                              omega
                            · have hsub7 : Same (addF G6 H6 fr) H6 := addF_sub con6.sub
                              have sW : Step (addF G6 H6 fr) H6 (fun a => a ∈ [Dl]) (addF G6 H6 fr) (upd H6 Dl (.lst (xsD ++ [v]))) (fun a => a ∈ [Dl]) := ⟨fun _ _ h => h, fun a o e z => by rw [upd_ne (fun q => z (by simp [q]))]; exact e, fun a o e => .inl e, fun a z => .inl z⟩
                              have con8 : Con K (wipe σ vs) (wipeE e6 vs) (addF G6 H6 fr) (upd H6 Dl (.lst (xsD ++ [v]))) fp6 := by
                                rw [← eq4]
                                exact (con_wipe con7 hc6).step sW (fun a u z => by simp at z; subst z; exact nD6 (.inl u)) fun a o e => by
                                  rw [upd_ne (fun q => by rw [q, gD] at e; cases e)]; exact hsub7 a o e
                              refine ⟨wipeE e6 vs, addF G6 H6 fr, fp6, acc ++ [cx.fz], r', con8, nofp (con_wipe con7 hc6), ((sG.trans s3.sG).trans s5.sG).trans (s6.sG.trans sf.sG), .ol gD upd_same (rsD.append (.cons rx .nil)), fun z => nD6 (.inl z), q4, by simpa using hacc, ?_⟩
                              refine st5.trans (?_ : Step G5 H5 (fun a => U fp5 a ∨ a ∈ [Dl]) _ _ (fun a => U fp6 a ∨ a ∈ [Dl]))
                              have a1 : Step G5 H5 (fun a => U fp5 a ∨ a ∈ [Dl]) G6 H6 (fun a => U fp6 a ∨ a ∈ fr ∨ a ∈ [Dl]) := s6.weak (fun _ z => .inl z) fun a u => by
                                rcases u with u | u | u
                                · exact .inl (.inl u)
                                · exact .inl (.inr u)
                                · exact .inr (.inl (.inr u))
                              have a2 : Step G6 H6 (fun a => U fp6 a ∨ a ∈ fr ∨ a ∈ [Dl]) (addF G6 H6 fr) H6 (fun a => U fp6 a ∨ a ∈ [Dl]) := sf.weak (fun _ z => .inr (.inl z)) fun a u => u.elim (fun z => .inr (.inl (.inl z))) fun z => .inr (.inl (.inr (.inr z)))
                              have a3 : Step (addF G6 H6 fr) H6 (fun a => U fp6 a ∨ a ∈ [Dl]) (addF G6 H6 fr) (upd H6 Dl (.lst (xsD ++ [v]))) (fun a => U fp6 a ∨ a ∈ [Dl]) := sW.weak (fun _ z => .inr z) fun a u => .inr (.inl u)
                              exact (a1.trans a2).trans a3
                      · cases hcomp
            · left
              have e0 : n = ds.length := by omega
              subst e0
              rw [List.drop_length] at hcomp
              cases hcomp
              rw [List.append_nil] at hacc
              subst hacc
              refine ⟨w.stop G2 H2 sG con2.sub, ?_⟩
              refine k (.ref Dl) G2 H2 fp2 [Dl] (con_rest con1 hn hcalm sG nf2 con2) rD (fun a m z => by simp at m; subst m; exact nD z) ?_
              refine s1.trans (?_ : Step G1 H1 (U fp1) G2 H2 (fun a => U fp2 a ∨ a ∈ [Dl]))
              have a1 : Step G1 H1 (U fp1) G1 (upd H1 Dl (.lst [])) (fun a => U fp1 a ∨ a ∈ [Dl]) := (Step.newH (o := .lst []) hD).weak (fun _ z => z.elim) fun a u => u.elim (fun z => .inr (.inl z)) .inl
              exact a1.trans st
        · cases e1
    · cases e1
section
variable {X : Cx} {p : Nat} {elt tg iter : Expr} {ifs : List Expr} {scope : Scope} {own : List (Str × Nat)} {pos spos : Pos} {t : Tgt} {i : IM} {c : TM} {m : EM}
abbrev Blk (X : Cx) (scope : Scope) (P : Cx → Prop) : Prop := ∀ (s : Shared) (H : Hp) (C : Addr) (cl : List (Str × Addr)) (fp : List Addr), P (X.blk s H scope (compEnvC scope cl C X.env) fp)
theorem ok_comp (own : List (Str × Nat)) (hc : X.calm = true) (hN : X.N.Nodup) (hi : IOk X tg iter i) (ok : BlkOk X.N X.env.scope scope own) (hg : Blk X scope fun Y => GOk Y tg t) (ht : Blk X scope fun Y => PTsOk Y ifs c) (he : Blk X scope fun Y => EOk Y elt m)
    (hn : (own.map (·.2)).Nodup := by decide) (hsub : ∀ i ∈ t.is, i ∈ own.map (·.2) := by decide) (hs : ∀ x, foldedSetIterable iter X.env x = pure x := by intro _; rfl) :
    EOk X (.ListComp elt [⟨tg, iter, ifs, 0⟩] scope pos) (eComp (own.map (·.2)) t i c m) := pe_mono (pe_lc (g := gT X.K t) (tt := tT X.K c) (te := tE X.K m) hc hN hi ok hg ht he hs) fun σ H Q q => comp_run hn hsub q
theorem s_setc (own : List (Str × Nat)) {j : Nat} {y : Str} {py : Pos} (hp : p ≤ j) (hc : X.calm = true) (hN : X.N.Nodup) (hy : X.N[j]? = some y) (hyl : X.env.scope.names.lookup y = some .local)
    (hsw : swapsWith (.ListComp elt [⟨tg, iter, ifs, 0⟩] scope pos) (some (.Name y py)) spos.line X.env = pure true) (hi : IOk X tg iter i) (ok : BlkOk X.N X.env.scope scope own) (hg : Blk X scope fun Y => GOk Y tg t) (ht : Blk X scope fun Y => PTsOk Y ifs c) (he : Blk X scope fun Y => EOk Y elt m)
    (hn : (own.map (·.2)).Nodup := by decide) (hsub : ∀ i ∈ t.is, i ∈ own.map (·.2) := by decide) (hs : ∀ x, foldedSetIterable iter X.env x = pure x := by intro _; rfl) :
    SOk X p (.Assign [.Name y py] (.ListComp elt [⟨tg, iter, ifs, 0⟩] scope pos) spos) (sSet j (eComp (own.map (·.2)) t i c m)) :=
  ps_mono (ps_setLc (g := gT X.K t) (tt := tT X.K c) (te := tE X.K m) hc hN hy hyl hsw hi ok hg ht he hs) fun D σ H q => comp_run hn hsub (sSet_run hp q)
end
end Fx
set_option Elab.async false
set_option linter.all false
set_option maxRecDepth 100000
set_option maxHeartbeats 4000000
noncomputable section
namespace Fx
open PySem L2

/-! ## defs: data in, a cell out -/
def spP (K : Fg) (F : List D → Option C) : Sp := fun vs H Q _ => ∃ ds G, Same G H ∧ Reps K G vs ds ∧ ∃ c, F ds = some c ∧ Kont K G H c Q
def startE (n : Nat) (cs : List C) : Env := cs.map some ++ List.replicate (n - cs.length) none
/-- the def's function: k parameters, n slots, its body -/
def fnP (k n : Nat) (m : SM) : List D → Option C := fun ds => if ds.length = k then match m (startE n (ds.map C.sh)) with
    | some (.rt c _) => some c
    | some (.nx _) => some (.sh .non)
    | _ => none
  else none
theorem start_get {N : List Str} {vs : List V} {i : Nat} (h : i < vs.length) : (L2.start N vs)[i]? = some (some vs[i]) := by
  unfold L2.start
  rw [List.getElem?_append_left (by simpa using h)]
  simp [h]
theorem con_start {K : Fg} {G H : Hp} {N : List Str} {vs : List V} {ds : List D} (s : Same G H) (r : Reps K G vs ds) : Con K (L2.start N vs) (startE N.length (ds.map C.sh)) G H (fun _ => []) := by
  have hl := r.length
  refine ⟨s, by unfold L2.start startE; simp [hl], fun i c e => ?_, fun _ _ => rfl, fun i j a m => by cases m⟩
  unfold startE at e
  by_cases hi : i < ds.length
  · rw [List.getElem?_append_left (by simpa using hi)] at e
    simp [hi] at e
    subst e
    obtain ⟨v, h1, h2⟩ := r.getD (i := i) (d := ds[i]) (by simp [hi])
    have hv : i < vs.length := by omega
    have ev : vs[i] = v := by simpa [hv] using h1
    exact ⟨vs[i], start_get hv, by rw [ev]; exact .sh h2⟩
  · rw [List.getElem?_append_right (by simpa using hi)] at e
    rw [List.getElem?_replicate] at e
    split at e <;> cases e
theorem fokP {P : Program} {w : World} {K : Fg} {mg : Str → Option Value} {base : Heap} {x qual : Str} {st : Stmt} {f : Addr} {fd : FuncData} {N ps : List Str} {k : Nat} {m : SM} (F : Fun K x qual st f fd) (S : FnScope N ps (defScope st))
    (hbody : ∀ (cdv : Value) (A : Around) (outer : List PySem.Env) (s : Shared) (H : Hp) (E : XK), Room k (A.deeper (PyProof.Rows.envOfC qual (defScope st) s.heap.objs.size f cdv)) → SsOk (cxOf CX0 P w K mg base N qual (defScope st) f cdv A outer s H E).nox 0 (defBody st) m) :
    FnOk P w K mg base CX0 (k + 1) f fd ps (spP K (fnP ps.length N.length m)) := by
  refine F.ok S (fun vs H Q E h => ?_) (fun cdv A outer s H vs Q E hr h => ?_)
  · obtain ⟨ds, G, hs, r, c, e, _⟩ := h
    unfold fnP at e
    split at e
    · rename_i hl; rw [r.length]; exact hl
    · cases e
  · obtain ⟨ds, G, hs, r, c, e, kk⟩ := h
    refine ⟨_, hbody cdv A outer s H E hr, ?_⟩
    unfold fnP at e
    split at e
    · split at e
      · rename_i c0 e0 hm
        cases e
        refine ⟨_, G, _, con_start hs r, _, hm, fun v σ' G' H' fp' fr c' r' n' s' _ => ?_⟩
        exact kk v G' H' fr c'.sub r' (s'.weak (fun a u => by obtain ⟨i, z⟩ := u; cases z) fun a m => .inl (.inr m))
      · rename_i e0 hm
        cases e
        refine ⟨_, G, _, con_start hs r, _, hm, fun σ' G' H' fp' c' s' _ => ?_⟩
        exact kk .non G' H' [] c'.sub (.sh .non) (s'.weak (fun a u => by obtain ⟨i, z⟩ := u; cases z) fun a m => by cases m)
      · cases e
    · cases e
def eCall (F : List D → Option C) (ms : List Arg) : EM := fun env => (evA ms env).bind fun (ds, e) => (F ds).bind fun c => some (c, e)
section
variable {X : Cx} {e : Expr} {es : List Expr} {f : Addr} {fd : FuncData} {ps : List Str} {x : Str} {p pos : Pos} {ms : List Arg} {k : Nat}
theorem ok_call {F : List D → Option C} (hF : FnOk X.prog X.w X.K X.mg X.base CX0 k f fd ps (spP X.K F)) (hr : Room k X.A) (hg : Gl X x) (hm : X.mg x = some (.ref f)) (hk : PySem.W.keepIn X.K (.ref f) = true) (hb : Binds X.K fd ps []) (ha : PA X (e :: es) (tAr X.K ms))
    (hdb : (x == ("__debug__" : Str)) = false := by decide) (he : starEach (e :: es) X.env = (false, eval e X.env) :: starEach es X.env := by rfl) (hpl : (backTo pos (starEach es X.env)).any (·.1) = false := by rfl) : EOk X (.Call (.Name x p) (e :: es) [] pos) (eCall F ms) :=
  pe_mono (pe_call hF hr hg hm hk hb .nil pass0 (paa ha) hdb he hpl) fun σ H Q ⟨env, G, fp, con, c, env', e1, k⟩ => by
    unfold eCall at e1
    cases q : evA ms env with
    | none => simp [q] at e1
    | some y =>
      obtain ⟨ds, e2⟩ := y
      simp only [q, Option.bind_some] at e1
      cases q2 : F ds with
      | none => simp [q2] at e1
      | some c0 =>
        simp [q2] at e1
        obtain ⟨rfl, rfl⟩ := e1
        refine ⟨env, G, fp, con, ds, e2, q, fun vs G' H' fp' c' r s => ?_⟩
        refine ⟨ds, G', c'.sub, (by rw [List.append_nil]; exact r), c0, q2, fun v G2 H2 fr sub rc s2 => ?_⟩
        exact k.end_ (W := fun _ => False) c' (s.weak (fun _ u => u) fun a u => u.elim .inl fun z => z.elim) (fun a z => z.elim) s2 sub rc
end

/-! ## defs that change their first argument, a list of one's own -/
def spB (K : Fg) (F : C → List D → Option (C × C)) : Sp := fun vs H Q _ => ∃ v0 vs' c0 f0 ds G, vs = v0 :: vs' ∧ Same G H ∧ RepC K G H v0 c0 f0 ∧ Reps K G vs' ds ∧ ∃ c c0', F c0 ds = some (c, c0') ∧
  ∀ v G' H' f0' fr, Same G' H' → RepC K G' H' v0 c0' f0' → RepC K G' H' v c fr → (∀ a ∈ fr, a ∉ f0') → Step G H (fun a => a ∈ f0) G' H' (fun a => a ∈ f0' ∨ a ∈ fr) → Q v H'
def get0 (e : Env) : Option C := match e[0]? with
  | some (some c) => some c
  | _ => none
def fnB (k n : Nat) (m : SM) : C → List D → Option (C × C) := fun c0 ds => if ds.length + 1 = k then match m (startE n (c0 :: ds.map C.sh)) with
    | some (.rt c e) => (get0 e).bind fun c0' => some (c, c0')
    | some (.nx e) => (get0 e).bind fun c0' => some (.sh .non, c0')
    | _ => none
  else none
theorem con_startB {K : Fg} {G H : Hp} {N : List Str} {v0 : V} {vs : List V} {c0 : C} {f0 : List Addr} {ds : List D} (s : Same G H) (r0 : RepC K G H v0 c0 f0) (r : Reps K G vs ds) : Con K (L2.start N (v0 :: vs)) (startE N.length (c0 :: ds.map C.sh)) G H (Fp.set (fun _ => []) 0 f0) := by
  have hl := r.length
  refine ⟨s, by unfold L2.start startE; simp [hl], fun i c e => ?_, fun i h => ?_, fun i j a m1 m2 => ?_⟩
  · cases i with
    | zero =>
      unfold startE at e
      simp at e
      subst e
      exact ⟨v0, by unfold L2.start; simp, by rw [Fp.set_same]; exact r0⟩
    | succ i =>
      rw [Fp.set_ne (by omega)]
      unfold startE at e
      simp only [List.map_cons, List.cons_append, List.getElem?_cons_succ] at e
      by_cases hi : i < ds.length
      · rw [List.getElem?_append_left (by simpa using hi)] at e
        simp [hi] at e
        subst e
        obtain ⟨v, h1, h2⟩ := r.getD (i := i) (d := ds[i]) (by simp [hi])
        have hv : i < vs.length := by omega
        have ev : vs[i] = v := by simpa [hv] using h1
        refine ⟨vs[i], ?_, by rw [ev]; exact .sh h2⟩
        have := start_get (N := N) (vs := v0 :: vs) (i := i + 1) (by simp; omega)
        simpa using this
      · rw [List.getElem?_append_right (by simpa using hi)] at e
        rw [List.getElem?_replicate] at e
        split at e <;> cases e
  · cases i with
    | zero => exact absurd (by unfold startE; simp) (h c0)
    | succ i => rw [Fp.set_ne (by omega)]
  · have k1 : ∀ j, a ∈ (Fp.set (fun _ => []) 0 f0) j → j = 0 := fun j m => by
      by_cases hj : j = 0
      · exact hj
      · rw [Fp.set_ne hj] at m; cases m
    rw [k1 i m1, k1 j m2]
theorem fokB {P : Program} {w : World} {K : Fg} {mg : Str → Option Value} {base : Heap} {x qual : Str} {st : Stmt} {f : Addr} {fd : FuncData} {N ps : List Str} {k : Nat} {m : SM} (F : Fun K x qual st f fd) (S : FnScope N ps (defScope st))
    (hbody : ∀ (cdv : Value) (A : Around) (outer : List PySem.Env) (s : Shared) (H : Hp) (E : XK), Room k (A.deeper (PyProof.Rows.envOfC qual (defScope st) s.heap.objs.size f cdv)) → SsOk (cxOf CX0 P w K mg base N qual (defScope st) f cdv A outer s H E).nox 1 (defBody st) m) :
    FnOk P w K mg base CX0 (k + 1) f fd ps (spB K (fnB ps.length N.length m)) := by
  refine F.ok S (fun vs H Q E h => ?_) (fun cdv A outer s H vs Q E hr h => ?_)
  · obtain ⟨v0, vs', c0, f0, ds, G, rfl, hs, r0, r, c, c0', e, _⟩ := h
    unfold fnB at e
    split at e
    · rename_i hl; rw [List.length_cons, r.length]; exact hl
    · cases e
  · obtain ⟨v0, vs', c0, f0, ds, G, rfl, hs, r0, r, c, c0', e, kk⟩ := h
    refine ⟨_, hbody cdv A outer s H E hr, ?_⟩
    have hU : ∀ a, U (Fp.set (fun _ => []) 0 f0) a → a ∈ f0 := fun a u => (U_set u).elim (fun ⟨i, z⟩ => by cases z) id
    have h0 : ∀ {σ' : St}, σ'.take 1 = (L2.start N (v0 :: vs')).take 1 → σ'[0]? = some (some v0) := fun {σ'} h => by
      have := congrArg (fun l => l[0]?) h
      simp only [List.getElem?_take] at this
      have e0 : (L2.start N (v0 :: vs'))[0]? = some (some v0) := start_get (N := N) (vs := v0 :: vs') (i := 0) (by simp)
      rw [e0] at this
      simpa using this
    unfold fnB at e
    split at e
    · split at e
      · rename_i cc e0 hm
        cases q : get0 e0 with
        | none => simp [q] at e
        | some c1 =>
          simp [q] at e
          obtain ⟨rfl, rfl⟩ := e
          refine ⟨_, G, _, con_startB hs r0 r, _, hm, fun v σ' G' H' fp' fr c' r' n' s' t' => ?_⟩
          have eg : e0[0]? = some (some c1) := by
            unfold get0 at q
            split at q
            · rename_i c2 h2; cases q; exact h2
            · cases q
          obtain ⟨v1, ev, rc⟩ := c'.rep 0 _ eg
          rw [h0 t'] at ev
          cases ev
          exact kk v G' H' (fp' 0) fr c'.sub rc r' (fun a m z => n' a m ⟨0, z⟩) (s'.weak hU fun a m => m.elim (fun z => .inl (.inl ⟨0, z⟩)) fun z => .inl (.inr z))
      · rename_i e0 hm
        cases q : get0 e0 with
        | none => simp [q] at e
        | some c1 =>
          simp [q] at e
          obtain ⟨rfl, rfl⟩ := e
          refine ⟨_, G, _, con_startB hs r0 r, _, hm, fun σ' G' H' fp' c' s' t' => ?_⟩
          have eg : e0[0]? = some (some c1) := by
            unfold get0 at q
            split at q
            · rename_i c2 h2; cases q; exact h2
            · cases q
          obtain ⟨v1, ev, rc⟩ := c'.rep 0 _ eg
          rw [h0 t'] at ev
          cases ev
          exact kk .non G' H' (fp' 0) [] c'.sub rc (.sh .non) (fun a m => by cases m) (s'.weak hU fun a m => m.elim (fun z => .inl ⟨0, z⟩) fun z => by cases z)
      · cases e
    · cases e
def eCallB (F : C → List D → Option (C × C)) (i : Nat) (ms : List Arg) : EM := fun env => match env[i]? with
  | some (some _) => (evA ms env).bind fun (ds, e) => match e[i]? with
    | some (some c0) => (F c0 ds).bind fun (c, c0') => some (c, e.set i (some c0'))
    | _ => none
  | _ => none
section
variable {X : Cx} {e0 : Expr} {es : List Expr} {f : Addr} {fd : FuncData} {ps : List Str} {x : Str} {p pos : Pos} {ms : List Arg} {k i : Nat}
theorem ok_callB' {F : C → List D → Option (C × C)} (hF : FnOk X.prog X.w X.K X.mg X.base CX0 k f fd ps (spB X.K F)) (hr : Room k X.A) (hg : Gl X x) (hm : X.mg x = some (.ref f)) (hk : PySem.W.keepIn X.K (.ref f) = true) (hb : Binds X.K fd ps []) (h0 : PE X e0 (tVar i)) (ha : PA X es (tAr X.K ms))
    (hdb : (x == ("__debug__" : Str)) = false := by decide) (he : starEach (e0 :: es) X.env = (false, eval e0 X.env) :: starEach es X.env := by rfl) (hpl : (backTo pos (starEach es X.env)).any (·.1) = false := by rfl) : EOk X (.Call (.Name x p) (e0 :: es) [] pos) (eCallB F i ms) :=
  pe_mono (pe_call hF hr hg hm hk hb .nil pass0 (pa_cons h0 ha he) hdb he hpl) fun σ H Q ⟨env, G, fp, con, c, env', e1, k⟩ => by
    unfold eCallB at e1
    split at e1
    · rename_i cc q0
      obtain ⟨v0, hv0, _⟩ := con.rep i _ q0
      cases q : evA ms env with
      | none => simp [q] at e1
      | some y =>
        obtain ⟨ds, e2⟩ := y
        simp only [q, Option.bind_some] at e1
        split at e1
        · rename_i c0 q1
          cases q2 : F c0 ds with
          | none => simp [q2] at e1
          | some y =>
            obtain ⟨c1, c0'⟩ := y
            simp [q2] at e1
            obtain ⟨rfl, rfl⟩ := e1
            refine ⟨v0, hv0, args_run ms con q fun vs G1 H1 fp1 con1 r s => ?_⟩
            obtain ⟨v0', hv0', r0⟩ := con1.rep i _ q1
            rw [hv0] at hv0'
            cases hv0'
            have hi : i < e2.length := (List.getElem?_eq_some_iff.mp q1).1
            refine ⟨v0, vs ++ [], c0, fp1 i, ds, G1, rfl, con1.sub, r0, by rw [List.append_nil]; exact r, c1, c0', q2, fun v G' H' f0' fr sub r0' rc n s' => ?_⟩
            have hd : ∀ a, U (fp1.set i []) a → ¬ a ∈ fp1 i := fun a u m => by
              obtain ⟨j, mj⟩ := u
              by_cases hj : j = i
              · subst hj; rw [Fp.set_same] at mj; cases mj
              · rw [Fp.set_ne hj] at mj; exact hj (con1.dis j i a mj m)
            have there : ∀ j a, a ∈ fp1 j → ∃ o, H1 a = some o := fun j a m => by
              have : ∃ x, e2[j]? = some (some x) := by
                refine Classical.byContradiction fun no => ?_
                have e := con1.nil j fun x e => no ⟨x, e⟩
                rw [e] at m; cases m
              obtain ⟨x, ex⟩ := this
              obtain ⟨_, _, rx⟩ := con1.rep j x ex
              exact (rx.mem a m).2
            have con2 := (con1.drop (i := i) (σ' := σ) rfl fun _ _ => rfl).step s' hd sub
            have con3 := con2.put (i := i) (by simpa using hi) r0' fun a m j hj z => by
              rw [Fp.set_ne hj] at z
              rcases s'.fr a (.inl m) with w | w
              · exact hj (con1.dis j i a z w)
              · obtain ⟨o, eo⟩ := there j a z
                rw [eo] at w; cases w
            have es : σ.set i (some v0) = σ := by
              apply List.ext_getElem?
              intro j
              by_cases q : j = i
              · subst q; rw [hv0]; exact List.getElem?_set_self (by rw [con1.len]; exact hi)
              · rw [List.getElem?_set_ne (fun z => q z.symm)]
            have ef : Fp.set (Fp.set fp1 i []) i f0' = Fp.set fp1 i f0' := by funext j; unfold Fp.set; split <;> rfl
            rw [es, ef, List.set_set] at con3
            refine k v G' H' _ fr con3 rc (fun a m u => ?_) (s.trans (s'.weak (fun a m => ⟨i, m⟩) fun a u => ?_))
            · obtain ⟨j, mj⟩ := u
              by_cases hj : j = i
              · subst hj; rw [Fp.set_same] at mj; exact n a m mj
              · rw [Fp.set_ne hj] at mj
                rcases s'.fr a (.inr m) with w | w
                · exact hj (con1.dis j i a mj w)
                · obtain ⟨o, eo⟩ := there j a mj
                  rw [eo] at w; cases w
            · rcases u with u | u
              · obtain ⟨j, mj⟩ := u
                by_cases hj : j = i
                · subst hj; rw [Fp.set_same] at mj; exact .inl (.inl mj)
                · rw [Fp.set_ne hj] at mj; exact .inr (.inl ⟨j, mj⟩)
              · exact .inl (.inr u)
        · cases e1
    · cases e1
end
end Fx
set_option Elab.async false
set_option linter.all false
set_option maxRecDepth 100000
set_option maxHeartbeats 4000000
noncomputable section
namespace Fx
open PySem L2
section
variable {K : Fg}
/-! ## built-ins -/
def fLen : List D → Option C
  | [.str x] => if x.length ≤ lim then some (.sh (.int x.length)) else none
  | [.tup ds] => some (.sh (.int ds.length)) | [.lst ds] => some (.sh (.int ds.length)) | [.scr ns] => some (.sh (.int ns.length))
  | [.dk kvs] => some (.sh (.int kvs.length))
  | _ => none
theorem repK_len {G : Hp} : ∀ {xs : List (Key × V)} {ds : List (Key × D)}, RepK K G xs ds → xs.length = ds.length
  | _, _, .nil => rfl
  | _, _, .cons _ r => by simp [repK_len r]
def rLenA (K : Fg) : List V → Hp → VK → Prop := fun xs H Q => (∃ p ys, xs = [.ref p] ∧ (SqL K H p ys ∨ SqT K H p ys) ∧ Q (.int ys.length) H) ∨ ((∃ z, xs = [.str z] ∧ z.length ≤ sizeLine ∧ Q (.int z.length) H) ∨ (∃ a kvs, xs = [V.ref a] ∧ H a = some (.dK kvs) ∧ Q (.int kvs.length) H))
theorem call_lenA {X : Cx} : CallR X (.builtin "len") (rLenA X.K) := CallR.or call_len_seq (CallR.or call_len_str call_lenD)
theorem s_len : OpS K (rLenA K) fLen := fun G H vs ds c Q s rv e k => by
  unfold fLen at e
  split at e
  · split at e
    · rename_i x hl
      cases e
      cases rv with | cons r1 rv => cases rv; cases r1.str; exact .inr (.inl ⟨x, rfl, by rw [← lim_eq]; exact hl, k.sh s (.int _)⟩)
    · cases e
  · rename_i ds
    cases e
    cases rv with | cons r1 rv => cases rv; obtain ⟨a, xs, rfl, h1, q1⟩ := r1.tup; exact .inl ⟨a, xs, rfl, .inr (SqT.of (s _ _ h1)), by rw [q1.length]; exact k.sh s (.int _)⟩
  · rename_i ds
    cases e
    cases rv with | cons r1 rv => cases rv; obtain ⟨a, xs, rfl, h1, q1⟩ := r1.lst s; exact .inl ⟨a, xs, rfl, .inl (SqL.of h1), by rw [q1.length]; exact k.sh s (.int _)⟩
  · rename_i ns
    cases e
    cases rv with | cons r1 rv => cases rv; obtain ⟨a, rfl, h1⟩ := r1.scr s; exact .inl ⟨a, _, rfl, .inl h1, by rw [List.length_map]; exact k.sh s (.int _)⟩
  · rename_i kvs
    cases e
    cases rv with | cons r1 rv => cases rv; obtain ⟨a, xs, rfl, h1, q1⟩ := r1.dk_ s; exact .inr (.inr ⟨a, xs, rfl, h1, by rw [repK_len q1]; exact k.sh s (.int _)⟩)
  · cases e
def fInt : List D → Option C
  | [.int i] => some (.sh (.int i)) | [.bl b] => some (.sh (.int (if b then 1 else 0)))
  | _ => none
theorem s_int : OpS K (fun xs H Q => (∃ i, xs = [.int i] ∧ Q (.int i) H) ∨ ∃ k, xs = [.bl k] ∧ Q (.int (if k then 1 else 0)) H) fInt := fun G H vs ds c Q s rv e k => by
  unfold fInt at e
  split at e
  · cases e; cases rv with | cons r1 rv => cases rv; cases r1.int; exact .inl ⟨_, rfl, k.sh s (.int _)⟩
  · cases e; cases rv with | cons r1 rv => cases rv; cases r1.bl; exact .inr ⟨_, rfl, k.sh s (.int _)⟩
  · cases e
def fAbs : List D → Option C
  | [.int i] => some (.sh (.int (if i < 0 then -i else i)))
  | _ => none
theorem s_abs : OpS K (fun xs H Q => ∃ i, xs = [.int i] ∧ Q (.int (if i < 0 then -i else i)) H) fAbs := fun G H vs ds c Q s rv e k => by
  unfold fAbs at e
  split at e
  · cases e; cases rv with | cons r1 rv => cases rv; cases r1.int; exact ⟨_, rfl, k.sh s (.int _)⟩
  · cases e
def intsOf : List D → Option (List Int)
  | [] => some []
  | .int i :: r => (intsOf r).bind fun is => some (i :: is)
  | _ => none
theorem intsOf_inv : ∀ {ds : List D} {ns : List Int}, intsOf ds = some ns → ds = ns.map D.int
  | [], ns, e => by cases e; rfl
  | .int i :: r, ns, e => by
    simp only [intsOf] at e
    cases q : intsOf r with
    | none => simp [q] at e
    | some is => simp [q] at e; subst e; rw [intsOf_inv q]; rfl
  | .non :: _, _, e => by cases e
  | .bl _ :: _, _, e => by cases e
  | .str _ :: _, _, e => by cases e
  | .tup _ :: _, _, e => by cases e
  | .lst _ :: _, _, e => by cases e
  | .dk _ :: _, _, e => by cases e
  | .dt _ :: _, _, e => by cases e
  | .scr _ :: _, _, e => by cases e
  | .obj _ _ _ :: _, _, e => by cases e
@[simp] theorem intsOf_map : ∀ ns : List Int, intsOf (ns.map D.int) = some ns
  | [] => rfl
  | n :: r => by simp [intsOf, intsOf_map r]
def mx2 (i j : Int) : Int := if j > i then j else i
def mn2 (i j : Int) : Int := if j < i then j else i
def maxL : List Int → Int
  | [] => 0 | a :: r => r.foldl mx2 a
def minL : List Int → Int
  | [] => 0 | a :: r => r.foldl mn2 a
theorem mxF (r : List Int) : ∀ a : Int, a ≤ r.foldl mx2 a ∧ (∀ y ∈ r, y ≤ r.foldl mx2 a) ∧ (r.foldl mx2 a = a ∨ r.foldl mx2 a ∈ r) := by
  induction r with
  | nil => intro a; simp
  | cons b r ih =>
    intro a
    obtain ⟨h1, h2, h3⟩ := ih (mx2 a b)
    have ha : a ≤ mx2 a b := by unfold mx2; split <;> omega
    have hb : b ≤ mx2 a b := by unfold mx2; split <;> omega
    refine ⟨by rw [List.foldl_cons]; omega, fun y m => ?_, ?_⟩
    · rw [List.foldl_cons]
      rcases List.mem_cons.mp m with e | m
      · subst e; omega
      · exact h2 y m
    · rw [List.foldl_cons]
      rcases h3 with h3 | h3
      · rw [h3]; unfold mx2; split <;> simp
      · exact .inr (by simp [h3])
theorem mnF (r : List Int) : ∀ a : Int, r.foldl mn2 a ≤ a ∧ (∀ y ∈ r, r.foldl mn2 a ≤ y) ∧ (r.foldl mn2 a = a ∨ r.foldl mn2 a ∈ r) := by
  induction r with
  | nil => intro a; simp
  | cons b r ih =>
    intro a
    obtain ⟨h1, h2, h3⟩ := ih (mn2 a b)
    have ha : mn2 a b ≤ a := by unfold mn2; split <;> omega
    have hb : mn2 a b ≤ b := by unfold mn2; split <;> omega
    refine ⟨by rw [List.foldl_cons]; omega, fun y m => ?_, ?_⟩
    · rw [List.foldl_cons]
      rcases List.mem_cons.mp m with e | m
      · subst e; omega
      · exact h2 y m
    · rw [List.foldl_cons]
      rcases h3 with h3 | h3
      · rw [h3]; unfold mn2; split <;> simp
      · exact .inr (by simp [h3])
theorem maxL_ge (l : List Int) : ∀ y ∈ l, y ≤ maxL l := fun y m => by
  cases l with
  | nil => cases m
  | cons a r =>
    rcases List.mem_cons.mp m with e | m
    · subst e; exact (mxF r y).1
    · exact (mxF r a).2.1 y m
theorem maxL_mem (l : List Int) (h : l ≠ []) : maxL l ∈ l := by
  cases l with
  | nil => exact absurd rfl h
  | cons a r =>
    rcases (mxF r a).2.2 with e | e
    · show r.foldl mx2 a ∈ _; rw [e]; simp
    · exact List.mem_cons_of_mem _ e
theorem minL_le (l : List Int) : ∀ y ∈ l, minL l ≤ y := fun y m => by
  cases l with
  | nil => cases m
  | cons a r =>
    rcases List.mem_cons.mp m with e | m
    · subst e; exact (mnF r y).1
    · exact (mnF r a).2.1 y m
theorem minL_mem (l : List Int) (h : l ≠ []) : minL l ∈ l := by
  cases l with
  | nil => exact absurd rfl h
  | cons a r =>
    rcases (mnF r a).2.2 with e | e
    · show r.foldl mn2 a ∈ _; rw [e]; simp
    · exact List.mem_cons_of_mem _ e
def fMax : List D → Option C
  | [.int i, .int j] => some (.sh (.int (mx2 i j)))
  | [.lst ds] => (intsOf ds).bind fun ns => if ns = [] then none else some (.sh (.int (maxL ns)))
  | _ => none
def fMin : List D → Option C
  | [.int i, .int j] => some (.sh (.int (mn2 i j)))
  | [.lst ds] => (intsOf ds).bind fun ns => if ns = [] then none else some (.sh (.int (minL ns)))
  | _ => none
def rMaxA (K : Fg) : List V → Hp → VK → Prop := fun xs H Q => (∃ i j, xs = [.int i, .int j] ∧ Q (.int (if j > i then j else i)) H) ∨ rMax K xs H Q
def rMinA (K : Fg) : List V → Hp → VK → Prop := fun xs H Q => (∃ i j, xs = [.int i, .int j] ∧ Q (.int (if j < i then j else i)) H) ∨ rMin K xs H Q
theorem call_maxA {X : Cx} (hc : X.calm = true) : CallR X (.builtin "max") (rMaxA X.K) := CallR.or (call_max2 hc) (cr_max hc)
theorem call_minA {X : Cx} (hc : X.calm = true) : CallR X (.builtin "min") (rMinA X.K) := CallR.or (call_min2 hc) (cr_min hc)
theorem s_max : OpS K (rMaxA K) fMax := fun G H vs ds c Q s rv e k => by
  unfold fMax at e
  split at e
  · cases e; cases rv with | cons r1 rv => cases rv with | cons r2 rv => cases rv; cases r1.int; cases r2.int; exact .inl ⟨_, _, rfl, k.sh s (.int _)⟩
  · rename_i ds
    cases q : intsOf ds with
    | none => simp [q] at e
    | some ns =>
      simp only [q, Option.bind_some] at e
      split at e
      · cases e
      · rename_i hne
        cases e
        have := intsOf_inv q; subst this
        cases rv with
        | cons r1 rv =>
          cases rv
          obtain ⟨a, xs, rfl, h1, q1⟩ := r1.lst s
          cases q1.ints_inv
          refine .inr ⟨a, ns, rfl, SqL.of h1, List.length_pos_iff.mpr hne, fun m hm hle => ?_⟩
          have : m = maxL ns := Int.le_antisymm (maxL_ge ns m hm) (hle _ (maxL_mem ns hne))
          rw [this]; exact k.sh s (.int _)
  · cases e
theorem s_min : OpS K (rMinA K) fMin := fun G H vs ds c Q s rv e k => by
  unfold fMin at e
  split at e
  · cases e; cases rv with | cons r1 rv => cases rv with | cons r2 rv => cases rv; cases r1.int; cases r2.int; exact .inl ⟨_, _, rfl, k.sh s (.int _)⟩
  · rename_i ds
    cases q : intsOf ds with
    | none => simp [q] at e
    | some ns =>
      simp only [q, Option.bind_some] at e
      split at e
      · cases e
      · rename_i hne
        cases e
        have := intsOf_inv q; subst this
        cases rv with
        | cons r1 rv =>
          cases rv
          obtain ⟨a, xs, rfl, h1, q1⟩ := r1.lst s
          cases q1.ints_inv
          refine .inr ⟨a, ns, rfl, SqL.of h1, List.length_pos_iff.mpr hne, fun m hm hle => ?_⟩
          have : m = minL ns := Int.le_antisymm (hle _ (minL_mem ns hne)) (minL_le ns m hm)
          rw [this]; exact k.sh s (.int _)
  · cases e
def fSum : List D → Option C
  | [.lst ds] => (intsOf ds).bind fun ns => some (.sh (.int ns.sum))
  | _ => none
theorem s_sum : OpS K (rSum K) fSum := fun G H vs ds c Q s rv e k => by
  unfold fSum at e
  split at e
  · rename_i ds
    cases q : intsOf ds with
    | none => simp [q] at e
    | some ns =>
      simp [q] at e; subst e
      have := intsOf_inv q; subst this
      cases rv with
      | cons r1 rv =>
        cases rv
        obtain ⟨a, xs, rfl, h1, q1⟩ := r1.lst s
        cases q1.ints_inv
        exact ⟨a, ns, rfl, SqL.of h1, k.sh s (.int _)⟩
  · cases e
def blsOf : List D → Option (List Bool)
  | [] => some []
  | .bl i :: r => (blsOf r).bind fun is => some (i :: is)
  | _ => none
theorem blsOf_inv : ∀ {ds : List D} {ns : List Bool}, blsOf ds = some ns → ds = ns.map D.bl
  | [], ns, e => by cases e; rfl
  | .bl i :: r, ns, e => by
    simp only [blsOf] at e
    cases q : blsOf r with
    | none => simp [q] at e
    | some is => simp [q] at e; subst e; rw [blsOf_inv q]; rfl
  | .non :: _, _, e => by cases e
  | .int _ :: _, _, e => by cases e
  | .str _ :: _, _, e => by cases e
  | .tup _ :: _, _, e => by cases e
  | .lst _ :: _, _, e => by cases e
  | .dk _ :: _, _, e => by cases e
  | .dt _ :: _, _, e => by cases e
  | .scr _ :: _, _, e => by cases e
  | .obj _ _ _ :: _, _, e => by cases e
@[simp] theorem blsOf_map : ∀ ns : List Bool, blsOf (ns.map D.bl) = some ns
  | [] => rfl
  | n :: r => by simp [blsOf, blsOf_map r]
theorem Reps.bls_inv {G : Hp} {vs : List V} : ∀ {ns : List Bool}, Reps K G vs (ns.map D.bl) → vs = ns.map V.bl := by
  intro ns
  induction ns generalizing vs with
  | nil => intro h; cases h; rfl
  | cons n r ih =>
    intro h
    cases h with
    | cons a b => cases a; rw [ih b]; rfl
def fAll : List D → Option C
  | [.lst ds] => (blsOf ds).bind fun ns => some (.sh (.bl (ns.all id)))
  | _ => none
def fAny : List D → Option C
  | [.lst ds] => (blsOf ds).bind fun ns => some (.sh (.bl (ns.any id)))
  | _ => none
theorem s_all : OpS K (rAll K) fAll := fun G H vs ds c Q s rv e k => by
  unfold fAll at e
  split at e
  · rename_i ds
    cases q : blsOf ds with
    | none => simp [q] at e
    | some ns =>
      simp [q] at e; subst e
      have := blsOf_inv q; subst this
      cases rv with
      | cons r1 rv =>
        cases rv
        obtain ⟨a, xs, rfl, h1, q1⟩ := r1.lst s
        cases q1.bls_inv
        exact ⟨a, ns, rfl, SqL.of h1, k.sh s (.bl _)⟩
  · cases e
theorem s_any : OpS K (rAny K) fAny := fun G H vs ds c Q s rv e k => by
  unfold fAny at e
  split at e
  · rename_i ds
    cases q : blsOf ds with
    | none => simp [q] at e
    | some ns =>
      simp [q] at e; subst e
      have := blsOf_inv q; subst this
      cases rv with
      | cons r1 rv =>
        cases rv
        obtain ⟨a, xs, rfl, h1, q1⟩ := r1.lst s
        cases q1.bls_inv
        exact ⟨a, ns, rfl, SqL.of h1, k.sh s (.bl _)⟩
  · cases e
def fList : List D → Option C
  | [.lst ds] => some (.ol ds) | [.tup ds] => some (.ol ds)
  | _ => none
theorem s_list : OpS K (fun xs H Q => ∃ p ys, xs = [.ref p] ∧ (SqL K H p ys ∨ SqT K H p ys) ∧ ∀ l, H l = none → Q (.ref l) (upd H l (.lst ys))) fList := fun G H vs ds c Q s rv e k => by
  unfold fList at e
  split at e
  · cases e
    cases rv with | cons r1 rv => cases rv; obtain ⟨a, xs, rfl, h1, q1⟩ := r1.lst s; exact ⟨a, xs, rfl, .inl (SqL.of h1), fun l hl => k.ol s q1 hl⟩
  · cases e
    cases rv with | cons r1 rv => cases rv; obtain ⟨a, xs, rfl, h1, q1⟩ := r1.tup; exact ⟨a, xs, rfl, .inr (SqT.of (s _ _ h1)), fun l hl => k.ol s q1 hl⟩
  · cases e
def fTuple : List D → Option C
  | [.lst ds] => some (.sh (.tup ds)) | [.tup ds] => some (.sh (.tup ds))
  | _ => none
theorem s_tuple : OpS K (fun xs H Q => ∃ p ys, xs = [.ref p] ∧ ((SqL K H p ys ∧ ∀ l, H l = none → Q (.ref l) (upd H l (.tup ys))) ∨ (SqT K H p ys ∧ Q (.ref p) H))) fTuple := fun G H vs ds c Q s rv e k => by
  unfold fTuple at e
  split at e
  · cases e
    cases rv with | cons r1 rv => cases rv; obtain ⟨a, xs, rfl, h1, q1⟩ := r1.lst s; exact ⟨a, xs, rfl, .inl ⟨SqL.of h1, fun l hl => k.tup s q1 hl⟩⟩
  · cases e
    cases rv with | cons r1 rv => cases rv; obtain ⟨a, xs, rfl, h1, q1⟩ := r1.tup; exact ⟨a, xs, rfl, .inr ⟨SqT.of (s _ _ h1), k.sh s (.tup h1 q1)⟩⟩
  · cases e
end

/-! ## list(range(..)) -/
def eLRg (m : IM) : EM := fun env => (m env).bind fun (ds, e) => if ds.length ≤ lim then some (.ol ds, e) else none
section
variable {X : Cx} {a b : Expr}
def rgOk (i j : Int) : Bool := okR i && okR j && decide ((j - i).toNat ≤ lim)
theorem rgOk_iff {i j : Int} (h : rgOk i j = true) : RgOk i j := by
  unfold rgOk at h
  simp only [Bool.and_eq_true, decide_eq_true_eq] at h
  have h1 := okR_iff.mp h.1.1
  have h2 := okR_iff.mp h.1.2
  exact ⟨h1.1, h1.2, h2.1, h2.2, by have := h.2; rw [lim_val] at this; exact this⟩
theorem reps_rg {K : Fg} {G : Hp} (i j : Int) : Reps K G (rgV i j) (rng i j) := by
  unfold rgV rng
  generalize List.range (j - i).toNat = l
  induction l with
  | nil => exact .nil
  | cons x r ih => exact .cons (.int _) ih
def eLR1 (o : Opd) : EM := fun env => (evO [o] env).bind fun (ds, e) => match ds with
  | [.int n] => if rgOk 0 n then some (.ol (rng 0 n), e) else none
  | _ => none
theorem ok_lrg1 {o : Opd} {p p2 pos pos2 : Pos} (hc : X.calm = true) (hg : Gl X "list") (hm : X.mg "list" = none) (hg2 : Gl X "range") (hm2 : X.mg "range" = none) (ha : OOk X a o) (na : starEach [a] X.env = (false, eval a X.env) :: starEach [] X.env := by rfl)
    (na2 : starEach [.Call (.Name "range" p2) [a] [] pos2] X.env = (false, eval (.Call (.Name "range" p2) [a] [] pos2) X.env) :: starEach [] X.env := by rfl) : EOk X (.Call (.Name "list" p) [.Call (.Name "range" p2) [a] [] pos2] [] pos) (eLR1 o) :=
  pe_mono (pe_listRg hc hg hm (prg_1 hg2 hm2 ha na) na2) fun σ H Q ⟨env, G, fp, con, c, env', e1, k⟩ => by
    unfold eLR1 at e1
    cases q : evO [o] env with
    | none => simp [q] at e1
    | some y =>
      obtain ⟨ds, e2⟩ := y
      simp only [q, Option.bind_some] at e1
      split at e1
      · rename_i n
        split at e1
        · rename_i hn
          cases e1
          have z : tO X.K [o] σ H (fun vs H1 => ∃ x, vs = [x] ∧ ∃ n, x = .int n ∧ RgOk 0 n ∧ ∀ q, H1 q = none → Q (.ref q) (upd H1 q (.lst (rgV 0 n)))) := ⟨env, G, fp, con, _, _, q, fun vs G' H' fp' c' rv s => by
            cases rv with
            | cons r1 rv =>
              cases rv; cases r1.int
              refine ⟨_, rfl, n, rfl, rgOk_iff hn, fun l hl => ?_⟩
              exact k.end_ (W := fun _ => False) (fr := [l]) c' (s.weak (fun _ u => u) fun a u => u.elim .inl fun z => z.elim) (fun a z => z.elim) (Step.newH (o := .lst (rgV 0 n)) hl) (same_newH c'.sub hl) (.ol (none_of_same c'.sub hl) upd_same (reps_rg 0 n))⟩
          refine vk_mono_opd o (fun x H1 h1 => ?_) (tOs1 (tO_tOs z))
          obtain ⟨x', ex, h1⟩ := h1
          cases ex
          obtain ⟨n', en, h1⟩ := h1
          exact ⟨n', en, h1⟩
        · cases e1
      · cases e1
end
end Fx
set_option Elab.async false
set_option linter.all false
set_option maxRecDepth 100000
set_option maxHeartbeats 4000000
noncomputable section
namespace Fx
open PySem L2

/-! ## isinstance against built-in types -/
def D.ty : D → String
  | .non => "NoneType" | .bl _ => "bool" | .int _ => "int" | .str _ => "str" | .tup _ => "tuple" | .lst _ => "list" | .dk _ => "dict" | .dt _ => "dict" | .scr _ => "list" | .obj _ _ _ => "NoneType"
/-- whether a value of type a is of type b -/
def subT (a b : String) : Bool := a == b || (a == "bool" && b == "int")
def tyNames : List String := ["int", "bool", "str", "tuple", "list"]
def tyAll : List String := ["NoneType", "bool", "int", "str", "tuple", "list", "dict"]
theorem kit_all : (tyAll.all fun a => tyNames.all fun b => kitB a b == some (subT a b)) = true := by decide +kernel
theorem ty_mem (d : D) : d.ty ∈ tyAll := by cases d <;> simp [D.ty, tyAll]
theorem kit_sub {K : Fg} {b : String} (d : D) (h : b ∈ tyNames) : PySem.W.kitOne K (.type d.ty) (.type b) = some (subT d.ty b) := by
  have := kit_all
  rw [List.all_eq_true] at this
  have := this _ (ty_mem d)
  rw [List.all_eq_true] at this
  have := this _ h
  exact kit_ty (by simpa using this)
def D.isT (d : D) (bs : List String) : Bool := bs.any fun b => subT d.ty b
theorem kit_any {K : Fg} (d : D) : ∀ (bs : List String), (∀ b ∈ bs, b ∈ tyNames) → PySem.W.kitAny K (.type d.ty) (bs.map Value.type) = some (d.isT bs)
  | [], _ => rfl
  | b :: bs, h => by
    have h1 := kit_sub (K := K) d (h b (by simp))
    have h2 := kit_any (K := K) d bs fun c m => h c (by simp [m])
    show PySem.W.kitAny K (.type d.ty) (.type b :: bs.map Value.type) = some (d.isT (b :: bs))
    unfold D.isT at h2 ⊢
    rw [List.any_cons]
    cases e : subT d.ty b with
    | true => exact kitAny_cons (h1.trans (by rw [e])) (fun z => by cases z) (fun _ => rfl)
    | false => exact kitAny_cons (h1.trans (by rw [e])) (fun _ => by simpa using h2) (fun z => by cases z)
def D.noScr : D → Bool
  | .scr _ => false | .obj _ _ _ => false | _ => true
theorem tyX_of {K : Fg} {G H : Hp} {x : V} {d : D} (s : Same G H) (r : RepV K G H x d) (h : d.noScr = true) : TyX K H x (.type d.ty) := by
  cases r with
  | sh r =>
    cases r with
    | non => exact .base .non
    | bl b => exact .base (.bl b)
    | int i => exact .base (.int i)
    | str x => exact .base (.str x)
    | tup h1 r => exact .base (.tup (s _ _ h1))
    | lst h1 r => exact .base (.lst (s _ _ h1))
    | dk h1 r => exact .base (.dK (s _ _ h1))
    | dt h1 r => exact .base (.dT (s _ _ h1))
    | scr h1 => cases h
    | obj _ h1 _ _ _ => cases h
  | ol h1 r => exact .base (.lst h1)
  | dk h1 r => exact .base (.dK h1)
  | dt h1 r => exact .base (.dT h1)
def eIsi (bs : List String) (o : Opd) : EM := fun env => (evO [o] env).bind fun (ds, e) => match ds with
  | [d] => if d.noScr then some (.sh (.bl (d.isT bs)), e) else none
  | _ => none
section
variable {X : Cx} {a : Expr} {o : Opd} {p pos : Pos}
theorem eIsi_run {bs : List String} {σ : St} {H : Hp} {Q : VK} (q : tE X.K (eIsi bs o) σ H Q) : tOpd X.K o σ H fun x H1 => ∃ d, TyX X.K H1 x (.type d.ty) ∧ Q (.bl (D.isT d bs)) H1 ∧ ∃ G fp env' σ' , Con X.K σ' env' G H1 fp ∧ (∀ p o, H1 p = none → Q (.bl (D.isT d bs)) (upd H1 p o)) := by
  obtain ⟨env, G, fp, con, c, env', e1, k⟩ := q
  unfold eIsi at e1
  cases q : evO [o] env with
  | none => simp [q] at e1
  | some y =>
    obtain ⟨ds, e2⟩ := y
    simp only [q, Option.bind_some] at e1
    split at e1
    · rename_i d
      split at e1
      · rename_i hn
        cases e1
        have z : tO X.K [o] σ H (fun vs H1 => ∃ x, vs = [x] ∧ ∃ d, TyX X.K H1 x (.type d.ty) ∧ Q (.bl (D.isT d bs)) H1 ∧ ∃ G fp env' σ', Con X.K σ' env' G H1 fp ∧ (∀ p o, H1 p = none → Q (.bl (D.isT d bs)) (upd H1 p o))) := ⟨env, G, fp, con, _, _, q, fun vs G' H' fp' c' rv s => by
          cases rv with
          | cons r1 rv =>
            cases rv
            refine ⟨_, rfl, d, tyX_of c'.sub r1 hn, k.sh c' s (.bl _), G', fp', _, σ, c', fun p o hp => ?_⟩
            exact k.end_ (W := fun _ => False) (fr := []) c' (s.weak (fun _ u => u) fun a u => u.elim .inl fun z => z.elim) (fun a z => z.elim)
              (⟨fun _ _ e => e, fun a u e _ => by rw [upd_ne (ne_of_none e hp)]; exact e, fun a u e => .inl e, fun a f => by cases f⟩) (same_newH c'.sub hp) (.sh (.bl _))⟩
        refine vk_mono_opd o (fun x H1 h1 => ?_) (tOs1 (tO_tOs z))
        obtain ⟨x', ex, h1⟩ := h1
        cases ex
        exact h1
      · cases e1
    · cases e1
theorem ok_isi {x : Str} {b : String} {p2 : Pos} (hg : Gl X "isinstance") (hm : X.mg "isinstance" = none) (ha : OOk X a o) (hg2 : Gl X x) (hm2 : X.mg x = none) (hb : bootBuiltins x = some (.type b)) (hmem : b ∈ tyNames)
    (hn2 : x ≠ "__name__" := by decide) (hd2 : (x == ("__debug__" : Str)) = false := by decide)
    (h1 : starEach [a, .Name x p2] X.env = (false, eval a X.env) :: starEach [.Name x p2] X.env := by rfl) (h2 : starEach [.Name x p2] X.env = (false, eval (.Name x p2) X.env) :: starEach [] X.env := by rfl) (hpl : (backTo pos (starEach [.Name x p2] X.env)).any (·.1) = false := by rfl) :
    EOk X (.Call (.Name "isinstance" p) [a, .Name x p2] [] pos) (eIsi [b] o) :=
  pe_mono (pe_callB call_isi hg hm (by decide +kernel) (pa_cons ha (pa_cons (pe_bltn (v := .ty b) hg2 hm2 hb rfl hn2 hd2) pa_nil h2) h1) (by decide) (by decide) h1 hpl) fun σ H Q q => by
    refine vk_mono_opd o (fun x H1 h => ?_) (eIsi_run q)
    obtain ⟨d, ty, q1, _⟩ := h
    refine ⟨x, .ty b, _, .type b, _, rfl, .ty b, ty, kit_sub d hmem, ?_⟩
    have e : d.isT [b] = subT d.ty b := by simp [D.isT]
    rw [← e]
    exact q1
theorem ok_isi2 {x y : Str} {b c : String} {p2 p3 tp : Pos} {kk} (hg : Gl X "isinstance") (hm : X.mg "isinstance" = none) (ha : OOk X a o) (hg2 : Gl X x) (hm2 : X.mg x = none) (hb : bootBuiltins x = some (.type b)) (hg3 : Gl X y) (hm3 : X.mg y = none) (hc : bootBuiltins y = some (.type c)) (hmem : b ∈ tyNames) (hmem2 : c ∈ tyNames)
    (hn2 : x ≠ "__name__" := by decide) (hd2 : (x == ("__debug__" : Str)) = false := by decide) (hn3 : y ≠ "__name__" := by decide) (hd3 : (y == ("__debug__" : Str)) = false := by decide)
    (h1 : starEach [a, .Tuple [.Name x p2, .Name y p3] kk tp] X.env = (false, eval a X.env) :: starEach [.Tuple [.Name x p2, .Name y p3] kk tp] X.env := by rfl) (h2 : starEach [.Tuple [.Name x p2, .Name y p3] kk tp] X.env = (false, eval (.Tuple [.Name x p2, .Name y p3] kk tp) X.env) :: starEach [] X.env := by rfl)
    (h3 : starEach [.Name x p2, .Name y p3] X.env = (false, eval (.Name x p2) X.env) :: starEach [.Name y p3] X.env := by rfl) (h4 : starEach [.Name y p3] X.env = (false, eval (.Name y p3) X.env) :: starEach [] X.env := by rfl)
    (hpl : (backTo pos (starEach [.Tuple [.Name x p2, .Name y p3] kk tp] X.env)).any (·.1) = false := by rfl) :
    EOk X (.Call (.Name "isinstance" p) [a, .Tuple [.Name x p2, .Name y p3] kk tp] [] pos) (eIsi [b, c] o) :=
  pe_mono (pe_callB call_isiT hg hm (by decide +kernel) (pa_cons ha (pa_cons (pe_tup (pa_cons (pe_bltn (v := .ty b) hg2 hm2 hb rfl hn2 hd2) (pa_cons (pe_bltn (v := .ty c) hg3 hm3 hc rfl hn3 hd3) pa_nil h4) h3)) pa_nil h2) h1) (by decide) (by decide) h1 hpl) fun σ H Q q => by
    refine vk_mono_opd o (fun x H1 h => ?_) (eIsi_run q)
    obtain ⟨d, ty, _, G, fp, env', σ', con, q2⟩ := h
    refine ⟨by show 2 ≤ sizeLine; decide, fun tp hp => ?_⟩
    have ty' : TyX X.K (upd H1 tp (.tup [.ty b, .ty c])) x (.type d.ty) := by
      have up : ∀ {a u}, H1 a = some u → (upd H1 tp (.tup [.ty b, .ty c])) a = some u := fun e => by rw [upd_ne (ne_of_none e hp)]; exact e
      generalize hq : Value.type d.ty = tv at ty
      cases ty with
      | base b0 =>
        cases b0 with
        | non => exact .base .non
        | bl b => exact .base (.bl b)
        | int i => exact .base (.int i)
        | str x => exact .base (.str x)
        | flt x => exact .base (.flt x)
        | lst e => exact .base (.lst (up e))
        | frz e => exact .base (.frz (up e))
        | tup e => exact .base (.tup (up e))
        | dK e => exact .base (.dK (up e))
        | dT e => exact .base (.dT (up e))
        | ins e => cases hq
      | byt b => exact .byt b
      | set e => exact .set (up e)
      | kList e c => exact .kList e c
      | kTuple e c => exact .kTuple e c
      | kDict e c => exact .kDict e c
      | fTuple e => exact .fTuple (up e)
      | fDict e => exact .fDict (up e)
    exact ⟨x, tp, [.ty b, .ty c], _, [.type b, .type c], _, rfl, upd_same, .cons (.ty b) (.cons (.ty c) .nil), ty', kit_any d [b, c] (fun z m => by simp at m; rcases m with m | m <;> (subst m; assumption)), q2 tp _ hp⟩
end

/-! ## in -/
def D.flat : D → Bool
  | .non | .bl _ | .int _ | .str _ => true | _ => false
def memD (x : D) (ds : List D) : Bool := ds.any fun y => D.eqv y x
theorem flat_of {K : Fg} {G : Hp} {v : V} {d : D} (r : Rep K G v d) (h : d.flat = true) : flatV v = true := by cases r <;> first | rfl | cases h
theorem eqV_of {K : Fg} {G : Hp} {v w : V} {d e : D} (r : Rep K G v d) (q : Rep K G w e) (h : d.flat = true) (h' : e.flat = true) : eqV v w = D.eqv d e := by
  cases r <;> cases q <;> first | rfl | cases h | cases h'
theorem flats_of {K : Fg} {G : Hp} : ∀ {ds : List D} {vs : List V}, Reps K G vs ds → ds.all D.flat = true → vs.all flatV = true
  | _, _, .nil, _ => rfl
  | _, _, .cons h r, e => by
    rw [List.all_cons, Bool.and_eq_true] at e ⊢
    exact ⟨flat_of h e.1, flats_of r e.2⟩
theorem inV_of {K : Fg} {G : Hp} {x : V} {d : D} (rx : Rep K G x d) (hx : d.flat = true) : ∀ {ds : List D} {vs : List V}, Reps K G vs ds → ds.all D.flat = true → inV x vs = memD d ds
  | _, _, .nil, _ => rfl
  | _, _, .cons h r, e => by
    rw [List.all_cons, Bool.and_eq_true] at e
    unfold inV memD
    rw [List.any_cons, List.any_cons, eqV_of h rx e.1 hx]
    have := inV_of rx hx r e.2
    unfold inV memD at this
    rw [this]
def keyD : D → Option Key
  | .int i => some (.inl i) | .str x => some (.inr x) | _ => none
def keysD : List D → Option (List Key)
  | [] => some []
  | d :: r => (keyD d).bind fun k => (keysD r).bind fun ks => some (k :: ks)
def valD {κ : Type} [DecidableEq κ] (kvs : List (κ × D)) (k : κ) : Option D := (kvs.find? fun kv => decide (kv.1 = k)).map (·.2)
def putD {κ : Type} [DecidableEq κ] (kvs : List (κ × D)) (k : κ) (v : D) : List (κ × D) :=
  if (kvs.any fun kv => decide (kv.1 = k)) = true then kvs.map (fun kv => if kv.1 = k then (kv.1, v) else kv) else kvs ++ [(k, v)]
def dropD {κ : Type} [DecidableEq κ] (kvs : List (κ × D)) (k : κ) : List (κ × D) := kvs.filter fun kv => decide (kv.1 ≠ k)
theorem keyD_of {K : Fg} {G : Hp} {v : V} {d : D} {k : Key} (r : Rep K G v d) (e : keyD d = some k) : v = kV k := by
  cases r <;> first | (cases e; rfl) | cases e
theorem keysD_of {K : Fg} {G : Hp} : ∀ {ds : List D} {vs : List V} {ks : List Key}, Reps K G vs ds → keysD ds = some ks → vs = ks.map kV
  | [], vs, ks, r, e => by cases r; cases e; rfl
  | d :: ds, vs, ks, r, e => by
    cases r with
    | cons h r =>
      unfold keysD at e
      cases q : keyD d with
      | none => simp [q] at e
      | some k =>
        cases q2 : keysD ds with
        | none => simp [q, q2] at e
        | some ks => simp [q, q2] at e; subst e; rw [keyD_of h q, keysD_of r q2]; rfl
theorem valK_of {K : Fg} {G : Hp} {k : Key} : ∀ {ds : List (Key × D)} {vs : List (Key × V)}, RepK K G vs ds → (∃ v d, valV vs k = some v ∧ valD ds k = some d ∧ Rep K G v d) ∨ (valV vs k = none ∧ valD ds k = none)
  | _, _, .nil => .inr ⟨rfl, rfl⟩
  | _, _, .cons (k := j) (v := v) (d := d) (vs := vs) (ds := ds) h r => by
    by_cases e : j = k
    · exact .inl ⟨v, d, by simp [valV, e], by simp [valD, e], h⟩
    · have ih := valK_of (k := k) r
      have e1 : valV ((j, v) :: vs) k = valV vs k := by simp [valV, List.find?_cons, e]
      have e2 : valD ((j, d) :: ds) k = valD ds k := by simp [valD, List.find?_cons, e]
      rw [e1, e2]; exact ih
theorem valT_of {K : Fg} {G : Hp} {k : List Key} : ∀ {ds : List (List Key × D)} {vs : List (List Key × V)}, RepT K G vs ds → (∃ v d, valV vs k = some v ∧ valD ds k = some d ∧ Rep K G v d) ∨ (valV vs k = none ∧ valD ds k = none)
  | _, _, .nil => .inr ⟨rfl, rfl⟩
  | _, _, .cons (k := j) (v := v) (d := d) (vs := vs) (ds := ds) h r => by
    by_cases e : j = k
    · exact .inl ⟨v, d, by simp [valV, e], by simp [valD, e], h⟩
    · have ih := valT_of (k := k) r
      have e1 : valV ((j, v) :: vs) k = valV vs k := by simp [valV, List.find?_cons, e]
      have e2 : valD ((j, d) :: ds) k = valD ds k := by simp [valD, List.find?_cons, e]
      rw [e1, e2]; exact ih
theorem anyK_of {K : Fg} {G : Hp} {k : Key} : ∀ {ds : List (Key × D)} {vs : List (Key × V)}, RepK K G vs ds → (vs.any fun kv => decide (kv.1 = k)) = (ds.any fun kv => decide (kv.1 = k))
  | _, _, .nil => rfl
  | _, _, .cons h r => by rw [List.any_cons, List.any_cons, anyK_of r]
theorem anyT_of {K : Fg} {G : Hp} {k : List Key} : ∀ {ds : List (List Key × D)} {vs : List (List Key × V)}, RepT K G vs ds → (vs.any fun kv => decide (kv.1 = k)) = (ds.any fun kv => decide (kv.1 = k))
  | _, _, .nil => rfl
  | _, _, .cons h r => by rw [List.any_cons, List.any_cons, anyT_of r]
theorem mapK_of {K : Fg} {G : Hp} {k : Key} {v : V} {d : D} (hv : Rep K G v d) : ∀ {ds : List (Key × D)} {vs : List (Key × V)}, RepK K G vs ds → RepK K G (vs.map fun kv => if kv.1 = k then (kv.1, v) else kv) (ds.map fun kv => if kv.1 = k then (kv.1, d) else kv)
  | _, _, .nil => .nil
  | _, _, .cons (k := j) h r => by
    rw [List.map_cons, List.map_cons]
    by_cases e : j = k
    · simp only [e, if_true]
      exact .cons hv (mapK_of hv r)
    · simp only [e, if_false]
      exact .cons h (mapK_of hv r)
theorem snocK_of {K : Fg} {G : Hp} {k : Key} {v : V} {d : D} (hv : Rep K G v d) : ∀ {ds : List (Key × D)} {vs : List (Key × V)}, RepK K G vs ds → RepK K G (vs ++ [(k, v)]) (ds ++ [(k, d)])
  | _, _, .nil => .cons hv .nil
  | _, _, .cons h r => .cons h (snocK_of hv r)
theorem putK_of {K : Fg} {G : Hp} {k : Key} {v : V} {d : D} (hv : Rep K G v d) {ds : List (Key × D)} {vs : List (Key × V)} (r : RepK K G vs ds) : RepK K G (putK vs k v) (putD ds k d) := by
  unfold putK putD
  rw [anyK_of r]
  split
  · exact mapK_of hv r
  · exact snocK_of hv r
theorem dropK_of {K : Fg} {G : Hp} {k : Key} : ∀ {ds : List (Key × D)} {vs : List (Key × V)}, RepK K G vs ds → RepK K G (dropK vs k) (dropD ds k)
  | _, _, .nil => .nil
  | _, _, .cons (k := j) (v := v) (d := d) (vs := vs) (ds := ds) h r => by
    have ih := dropK_of (k := k) r
    unfold dropK dropD at ih ⊢
    by_cases e : j = k
    · rw [List.filter_cons_of_neg (by simp [e]), List.filter_cons_of_neg (by simp [e])]
      exact ih
    · rw [List.filter_cons_of_pos (by simp [e]), List.filter_cons_of_pos (by simp [e])]
      exact .cons h ih
theorem mapT_of {K : Fg} {G : Hp} {k : List Key} {v : V} {d : D} (hv : Rep K G v d) : ∀ {ds : List (List Key × D)} {vs : List (List Key × V)}, RepT K G vs ds → RepT K G (vs.map fun kv => if kv.1 = k then (kv.1, v) else kv) (ds.map fun kv => if kv.1 = k then (kv.1, d) else kv)
  | _, _, .nil => .nil
  | _, _, .cons (k := j) h r => by
    rw [List.map_cons, List.map_cons]
    by_cases e : j = k
    · simp only [e, if_true]
      exact .cons hv (mapT_of hv r)
    · simp only [e, if_false]
      exact .cons h (mapT_of hv r)
theorem snocT_of {K : Fg} {G : Hp} {k : List Key} {v : V} {d : D} (hv : Rep K G v d) : ∀ {ds : List (List Key × D)} {vs : List (List Key × V)}, RepT K G vs ds → RepT K G (vs ++ [(k, v)]) (ds ++ [(k, d)])
  | _, _, .nil => .cons hv .nil
  | _, _, .cons h r => .cons h (snocT_of hv r)
theorem putT_of {K : Fg} {G : Hp} {k : List Key} {v : V} {d : D} (hv : Rep K G v d) {ds : List (List Key × D)} {vs : List (List Key × V)} (r : RepT K G vs ds) : RepT K G (putK vs k v) (putD ds k d) := by
  unfold putK putD
  rw [anyT_of r]
  split
  · exact mapT_of hv r
  · exact snocT_of hv r
theorem dropT_of {K : Fg} {G : Hp} {k : List Key} : ∀ {ds : List (List Key × D)} {vs : List (List Key × V)}, RepT K G vs ds → RepT K G (dropK vs k) (dropD ds k)
  | _, _, .nil => .nil
  | _, _, .cons (k := j) (v := v) (d := d) (vs := vs) (ds := ds) h r => by
    have ih := dropT_of (k := k) r
    unfold dropK dropD at ih ⊢
    by_cases e : j = k
    · rw [List.filter_cons_of_neg (by simp [e]), List.filter_cons_of_neg (by simp [e])]
      exact ih
    · rw [List.filter_cons_of_pos (by simp [e]), List.filter_cons_of_pos (by simp [e])]
      exact .cons h ih
/-- what a dict holds at a key -/
def getK : D → D → Option (Option D)
  | .dk kvs, d => (keyD d).bind fun k => some (valD kvs k)
  | .dt kvs, .tup ds => (keysD ds).bind fun k => some (valD kvs k)
  | _, _ => none
theorem getK_of {K : Fg} {G H : Hp} {x y : V} {dx dy : D} {o : Option D} (s : Same G H) (rx : RepV K G H x dx) (ry : RepV K G H y dy) (e : getK dx dy = some o) :
    ∃ a, x = .ref a ∧ IsD H a ∧ ∃ ov, DGet H a y ov ∧ ((∃ v d, ov = some v ∧ o = some d ∧ Rep K G v d) ∨ (ov = none ∧ o = none)) := by
  unfold getK at e
  split at e
  · rename_i kvs
    cases q : keyD dy with
    | none => simp [q] at e
    | some k =>
      simp [q] at e; subst e
      obtain ⟨a, xs, rfl, h1, q1⟩ := rx.dk_ s
      have ey : y = kV k := by
        cases ry with
        | sh r => exact keyD_of r q
        | _ => cases q
      exact ⟨a, rfl, .inl ⟨xs, .inl h1⟩, _, by rw [ey]; exact DGet.k h1, by
        rcases valK_of (k := k) q1 with ⟨v, d, a, b, c⟩ | ⟨a, b⟩
        · exact .inl ⟨v, d, a, b, c⟩
        · exact .inr ⟨a, b⟩⟩
  · rename_i kvs ds
    cases q : keysD ds with
    | none => simp [q] at e
    | some k =>
      simp [q] at e; subst e
      obtain ⟨a, xs, rfl, h1, q1⟩ := rx.dt_ s
      obtain ⟨b, ys, rfl, h2, q2⟩ := ry.tup
      have ey := keysD_of q2 q
      subst ey
      exact ⟨a, rfl, .inr ⟨xs, .inl h1⟩, _, DGet.t h1 (s _ _ h2), by
        rcases valT_of (k := k) q1 with ⟨v, d, a, b, c⟩ | ⟨a, b⟩
        · exact .inl ⟨v, d, a, b, c⟩
        · exact .inr ⟨a, b⟩⟩
  · cases e
def fInB (x y : D) : Option Bool := match y with
  | .lst ds => if x.flat && ds.all D.flat then some (memD x ds) else none
  | .tup ds => if x.flat && ds.all D.flat then some (memD x ds) else none
  | .str z => match x with
    | .str c => match c.cps.toList with
      | [n] => some (decide (n ∈ z.cps.toList))
      | _ => none
    | _ => none
  | .dk kvs => (getK (.dk kvs) x).bind fun o => some o.isSome
  | .dt kvs => (getK (.dt kvs) x).bind fun o => some o.isSome
  | _ => none
def fIn : List D → Option C
  | [x, y] => (fInB x y).bind fun b => some (.sh (.bl b))
  | _ => none
def fNotIn : List D → Option C
  | [x, y] => (fInB x y).bind fun b => some (.sh (.bl (!b)))
  | _ => none
def rInA (K : Fg) : R2 := fun x y H Q => rIn K false x y H Q ∨ ((∃ (c : Nat) (z : Str), x = .str ⟨#[c]⟩ ∧ y = .str z ∧ Q (.bl (decide (c ∈ z.cps.toList))) H) ∨ ∃ a o, y = .ref a ∧ DGet H a x o ∧ Q (.bl o.isSome) H)
def rNotInA (K : Fg) : R2 := fun x y H Q => rIn K true x y H Q ∨ ((∃ (c : Nat) (z : Str), x = .str ⟨#[c]⟩ ∧ y = .str z ∧ Q (.bl (!decide (c ∈ z.cps.toList))) H) ∨ ∃ a o, y = .ref a ∧ DGet H a x o ∧ Q (.bl (!o.isSome)) H)
theorem op_inD {X : Cx} (hu : X.A.units + 1 < cLine) : OpR X (compareOp .In) (fun x y H Q => ∃ a o, y = .ref a ∧ DGet H a x o ∧ Q (.bl o.isSome) H) := by
  intro pins s σ H x y v u Q I rx ry h
  obtain ⟨a, o, rfl, g, q⟩ := h
  obtain rfl : u = Value.ref a := ry
  exact d_in hu I g rx fun s1 I1 => ⟨.bl o.isSome, H, I1, rfl, q⟩
theorem op_notInD {X : Cx} (hu : X.A.units + 1 < cLine) : OpR X (compareOp .NotIn) (fun x y H Q => ∃ a o, y = .ref a ∧ DGet H a x o ∧ Q (.bl (!o.isSome)) H) := by
  intro pins s σ H x y v u Q I rx ry h
  obtain ⟨a, o, rfl, g, q⟩ := h
  obtain rfl : u = Value.ref a := ry
  exact d_notIn hu I g rx fun s1 I1 => ⟨.bl (!o.isSome), H, I1, rfl, q⟩
theorem op_inA {X : Cx} {k : Nat} (hr : Room k X.A) : OpR X (compareOp .In) (rInA X.K) := OpR.or op_in_seq (OpR.or op_in_sign (op_inD (hu_of hr)))
theorem op_notInA {X : Cx} {k : Nat} (hr : Room k X.A) : OpR X (compareOp .NotIn) (rNotInA X.K) := OpR.or op_notIn_seq (OpR.or op_notIn_sign (op_notInD (hu_of hr)))
section
variable {K : Fg}
theorem flat_sh {G H : Hp} {x : V} {d : D} (r : RepV K G H x d) (h : d.flat = true) : Rep K G x d := by
  cases r with
  | sh r => exact r
  | _ => cases h
theorem str_one {c : Str} {n : Nat} (h : c.cps.toList = [n]) : c = ⟨#[n]⟩ := by
  cases c with
  | mk a =>
    have : a = #[n] := by
      apply Array.ext'
      simpa using h
    rw [this]
theorem inB_run {G H : Hp} {x y : V} {dx dy : D} {b : Bool} (s : Same G H) (rx : RepV K G H x dx) (ry : RepV K G H y dy) (e : fInB dx dy = some b) :
    (∃ p xs, y = .ref p ∧ (SqL K H p xs ∨ SqT K H p xs) ∧ flatV x = true ∧ xs.all flatV = true ∧ inV x xs = b) ∨ ((∃ (c : Nat) (z : Str), x = .str ⟨#[c]⟩ ∧ y = .str z ∧ decide (c ∈ z.cps.toList) = b) ∨ ∃ a o, y = .ref a ∧ DGet H a x o ∧ o.isSome = b) := by
  have dict : ∀ {d : D}, RepV K G H y d → ((getK d dx).bind fun o => some o.isSome) = some b → ∃ a o, y = .ref a ∧ DGet H a x o ∧ o.isSome = b := fun {d} ry e => by
    cases q : getK d dx with
    | none => simp [q] at e
    | some o =>
      simp [q] at e; subst e
      obtain ⟨a, ea, _, ov, g, h⟩ := getK_of s ry rx q
      refine ⟨a, ov, ea, g, ?_⟩
      rcases h with ⟨v, d, h1, h2, _⟩ | ⟨h1, h2⟩
      · rw [h1, h2]; rfl
      · rw [h1, h2]; rfl
  cases dy with
  | lst ds =>
    simp only [fInB] at e
    split at e
    · rename_i h
      cases e
      rw [Bool.and_eq_true] at h
      obtain ⟨a, xs, rfl, h1, q1⟩ := ry.lst s
      have r := flat_sh rx h.1
      exact .inl ⟨a, xs, rfl, .inl (SqL.of h1), flat_of r h.1, flats_of q1 h.2, inV_of r h.1 q1 h.2⟩
    · cases e
  | tup ds =>
    simp only [fInB] at e
    split at e
    · rename_i h
      cases e
      rw [Bool.and_eq_true] at h
      obtain ⟨a, xs, rfl, h1, q1⟩ := ry.tup
      have r := flat_sh rx h.1
      exact .inl ⟨a, xs, rfl, .inr (SqT.of (s _ _ h1)), flat_of r h.1, flats_of q1 h.2, inV_of r h.1 q1 h.2⟩
    · cases e
  | str z =>
    cases dx with
    | str c =>
      simp only [fInB] at e
      split at e
      · rename_i n h
        cases e
        cases rx.str
        cases ry.str
        exact .inr (.inl ⟨_, _, by rw [str_one h], rfl, rfl⟩)
      · cases e
    | _ => simp [fInB] at e
  | dk kvs => exact .inr (.inr (dict ry e))
  | dt kvs => exact .inr (.inr (dict ry e))
  | _ => simp [fInB] at e
theorem s_in : OpS K (op2r (rInA K)) fIn := fun G H vs ds c Q s rv e k => by
  unfold fIn at e
  split at e
  · rename_i x y
    cases q : fInB x y with
    | none => simp [q] at e
    | some b =>
      simp [q] at e; subst e
      cases rv with
      | cons r1 rv =>
        cases rv with
        | cons r2 rv =>
          cases rv
          refine ⟨_, _, rfl, ?_⟩
          have fin := k.sh s (.bl b)
          rcases inB_run s r1 r2 q with ⟨p, xs, h1, h2, h3, h4, h5⟩ | ⟨c, z, h1, h2, h3⟩ | ⟨a, o, h1, h2, h3⟩
          · exact .inl ⟨p, xs, h1, h2, h3, h4, by rw [if_neg Bool.false_ne_true, h5]; exact fin⟩
          · exact .inr (.inl ⟨c, z, h1, h2, by rw [h3]; exact fin⟩)
          · exact .inr (.inr ⟨a, o, h1, h2, by rw [h3]; exact fin⟩)
  · cases e
theorem s_notIn : OpS K (op2r (rNotInA K)) fNotIn := fun G H vs ds c Q s rv e k => by
  unfold fNotIn at e
  split at e
  · rename_i x y
    cases q : fInB x y with
    | none => simp [q] at e
    | some b =>
      simp only [q, Option.bind_some] at e; cases e
      cases rv with
      | cons r1 rv =>
        cases rv with
        | cons r2 rv =>
          cases rv
          refine ⟨_, _, rfl, ?_⟩
          have fin := k.sh s (.bl (!b))
          rcases inB_run s r1 r2 q with ⟨p, xs, h1, h2, h3, h4, h5⟩ | ⟨c, z, h1, h2, h3⟩ | ⟨a, o, h1, h2, h3⟩
          · exact .inl ⟨p, xs, h1, h2, h3, h4, by rw [if_pos rfl, h5]; exact fin⟩
          · exact .inr (.inl ⟨c, z, h1, h2, by rw [h3]; exact fin⟩)
          · exact .inr (.inr ⟨a, o, h1, h2, by rw [h3]; exact fin⟩)
  · cases e
end
end Fx
set_option Elab.async false
set_option linter.all false
set_option maxRecDepth 100000
set_option maxHeartbeats 4000000
noncomputable section
namespace Fx
open PySem L2

/-! ## what changes a slot's cell -/
/-- the first value's cell is changed by an operation -/
def Mt (K : Fg) (F : C → List D → Option (C × C)) (v0 : V) (vs : List V) (H : Hp) (Q : VK) : Prop := ∃ c0 f0 ds G, Same G H ∧ RepC K G H v0 c0 f0 ∧ Reps K G vs ds ∧ ∃ c c0', F c0 ds = some (c, c0') ∧
  ∀ v G' H' f0' fr, Same G' H' → RepC K G' H' v0 c0' f0' → RepC K G' H' v c fr → (∀ a ∈ fr, a ∉ f0') → Step G H (fun a => a ∈ f0) G' H' (fun a => a ∈ f0' ∨ a ∈ fr) → Q v H'
theorem con_there {K : Fg} {σ : St} {e : Env} {G H : Hp} {fp : Fp} (con : Con K σ e G H fp) {j : Nat} {a : Addr} (m : a ∈ fp j) : ∃ o, H a = some o := by
  have : ∃ x, e[j]? = some (some x) := by
    refine Classical.byContradiction fun no => ?_
    have e := con.nil j fun x e => no ⟨x, e⟩
    rw [e] at m; cases m
  obtain ⟨x, ex⟩ := this
  obtain ⟨_, _, rx⟩ := con.rep j x ex
  exact (rx.mem a m).2
/-- slot i's cell goes from c0 to c0' while H goes to H' -/
theorem con_mut {K : Fg} {σ : St} {e : Env} {G H G' H' : Hp} {fp : Fp} {i : Nat} {v0 : V} {c0 c0' : C} {f0' fr : List Addr} (con : Con K σ e G H fp) (q1 : e[i]? = some (some c0)) (hv0 : σ[i]? = some (some v0)) (sub : Same G' H') (r0' : RepC K G' H' v0 c0' f0') (n : ∀ a ∈ fr, a ∉ f0')
    (s' : Step G H (fun a => a ∈ fp i) G' H' (fun a => a ∈ f0' ∨ a ∈ fr)) :
    ∃ fp', Con K σ (e.set i (some c0')) G' H' fp' ∧ (∀ a ∈ fr, ¬ U fp' a) ∧ Step G H (U fp) G' H' (fun a => U fp' a ∨ a ∈ fr) := by
  have hi : i < e.length := (List.getElem?_eq_some_iff.mp q1).1
  have hd : ∀ a, U (fp.set i []) a → ¬ a ∈ fp i := fun a u m => by
    obtain ⟨j, mj⟩ := u
    by_cases hj : j = i
    · subst hj; rw [Fp.set_same] at mj; cases mj
    · rw [Fp.set_ne hj] at mj; exact hj (con.dis j i a mj m)
  have con2 := (con.drop (i := i) (σ' := σ) rfl fun _ _ => rfl).step s' hd sub
  have con3 := con2.put (i := i) (by simpa using hi) r0' fun a m j hj z => by
    rw [Fp.set_ne hj] at z
    rcases s'.fr a (.inl m) with w | w
    · exact hj (con.dis j i a z w)
    · obtain ⟨o, eo⟩ := con_there con z
      rw [eo] at w; cases w
  have es : σ.set i (some v0) = σ := by
    apply List.ext_getElem?
    intro j
    by_cases q : j = i
    · subst q; rw [hv0]; exact List.getElem?_set_self (by rw [con.len]; exact hi)
    · rw [List.getElem?_set_ne (fun z => q z.symm)]
  have ef : Fp.set (Fp.set fp i []) i f0' = Fp.set fp i f0' := by funext j; unfold Fp.set; split <;> rfl
  rw [es, ef, List.set_set] at con3
  refine ⟨_, con3, fun a m u => ?_, s'.weak (fun a m => ⟨i, m⟩) fun a u => ?_⟩
  · obtain ⟨j, mj⟩ := u
    by_cases hj : j = i
    · subst hj; rw [Fp.set_same] at mj; exact n a m mj
    · rw [Fp.set_ne hj] at mj
      rcases s'.fr a (.inr m) with w | w
      · exact hj (con.dis j i a mj w)
      · obtain ⟨o, eo⟩ := con_there con mj
        rw [eo] at w; cases w
  · rcases u with u | u
    · obtain ⟨j, mj⟩ := u
      by_cases hj : j = i
      · subst hj; rw [Fp.set_same] at mj; exact .inl (.inl mj)
      · rw [Fp.set_ne hj] at mj; exact .inr (.inl ⟨j, mj⟩)
    · exact .inl (.inr u)
theorem mut_run {K : Fg} {F : C → List D → Option (C × C)} {i : Nat} {ms : List Arg} {σ : St} {H : Hp} {Q : VK} (q : tE K (eCallB F i ms) σ H Q) :
    ∃ v0 cc f0 G, σ[i]? = some (some v0) ∧ RepC K G H v0 cc f0 ∧ (∃ env, env[i]? = some (some cc) ∧ ∃ r, eCallB F i ms env = some r) ∧ tAr K ms σ H fun vs H1 => Mt K F v0 vs H1 Q := by
  obtain ⟨env, G, fp, con, c, env', e1, k⟩ := q
  have e1' := e1
  unfold eCallB at e1
  split at e1
  · rename_i cc q0
    obtain ⟨v0, hv0, rc0⟩ := con.rep i _ q0
    refine ⟨v0, cc, _, G, hv0, rc0, ⟨env, q0, _, e1'⟩, ?_⟩
    cases q : evA ms env with
    | none => simp [q] at e1
    | some y =>
      obtain ⟨ds, e2⟩ := y
      simp only [q, Option.bind_some] at e1
      split at e1
      · rename_i c0 q1
        cases q2 : F c0 ds with
        | none => simp [q2] at e1
        | some y =>
          obtain ⟨c1, c0'⟩ := y
          simp [q2] at e1
          obtain ⟨rfl, rfl⟩ := e1
          refine args_run ms con q fun vs G1 H1 fp1 con1 r s => ?_
          obtain ⟨v0', hv0', r0⟩ := con1.rep i _ q1
          rw [hv0] at hv0'
          cases hv0'
          refine ⟨c0, fp1 i, ds, G1, con1.sub, r0, r, c1, c0', q2, fun v G' H' f0' fr sub r0' rc n s' => ?_⟩
          obtain ⟨fp2, con2, n2, s2⟩ := con_mut con1 q1 hv0 sub r0' n s'
          exact k v G' H' fp2 fr con2 rc n2 (s.trans s2)
      · cases e1
  · cases e1

/-! ## methods of lists -/
/-- the operation on values does what F says -/
def MutS (K : Fg) (r : V → List V → Hp → VK → Prop) (F : C → List D → Option (C × C)) : Prop := ∀ (v0 : V) (vs : List V) (H : Hp) (Q : VK), Mt K F v0 vs H Q → r v0 vs H Q
section
variable {X : Cx} {o e : Expr} {es : List Expr} {name : Str} {apos cpos : Pos} {id : String} {r : V → List V → Hp → VK → Prop} {F : C → List D → Option (C × C)} {i : Nat} {ms : List Arg}
/-- only a list of one's own is let by -/
def olOnly (F : List D → List D → Option (C × List D)) : C → List D → Option (C × C)
  | .ol xs, ds => (F xs ds).bind fun (c, ys) => some (c, .ol ys)
  | _, _ => none
def eMethL (F : List D → List D → Option (C × List D)) (i : Nat) (ms : List Arg) : EM := fun env => match env[i]? with
  | some (some (.ol _)) => eCallB (olOnly F) i ms env
  | _ => none
theorem methL_run {K : Fg} {F : List D → List D → Option (C × List D)} {σ : St} {H : Hp} {Q : VK} (q : tE K (eMethL F i ms) σ H Q) :
    ∃ l xs, σ[i]? = some (some (.ref l)) ∧ H l = some (.lst xs) ∧ tAr K ms σ H fun vs H1 => Mt K (olOnly F) (.ref l) vs H1 Q := by
  obtain ⟨env, G, fp, con, c, env', e1, k⟩ := q
  unfold eMethL at e1
  split at e1
  · rename_i ds q0
    obtain ⟨v0, hv0, r0⟩ := con.rep i _ q0
    obtain ⟨v1, cc, f0, G1, h1, h2, h3, h4⟩ := mut_run (F := olOnly F) ⟨env, G, fp, con, c, env', e1, k⟩
    rw [hv0] at h1; cases h1
    generalize hf : fp i = fi at r0
    cases r0 with
    | ol g h r => exact ⟨_, _, hv0, h, h4⟩
  · cases e1
theorem ok_methL {F : List D → List D → Option (C × List D)} (slot : Slot "list" name id) (hty : typeOf (.builtin id) = pure (.type "method_descriptor")) (hm : MtR X id r) (hF : MutS X.K r (olOnly F)) (ho : PE X o (tVar i)) (ha : PA X (e :: es) (tAr X.K ms))
    (hbase : attributeBase o name X.env (eval o X.env) = eval o X.env := by rfl)
    (hfew : ((backTo cpos (starEach (e :: es) X.env)).all (fun x => !x.1) && (backToKw cpos (keywordEach [] X.env)).all (fun x => x.1.isSome)
      && decide ((e :: es).length + ([] : List Keyword).length + (if ([] : List Keyword).isEmpty then 0 else 1) < 30)) = true := by rfl)
    (hline : (apos.endLine == cpos.line) = true := by rfl) (hs : starEach (e :: es) X.env = (false, eval e X.env) :: starEach es X.env := by rfl) (hplain : (backTo cpos (starEach es X.env)).any (·.1) = false := by rfl) :
    EOk X (.Call (.Attribute o name apos) (e :: es) [] cpos) (eMethL F i ms) :=
  pe_mono (pe_bm PySem.F.plainAttrs_list slot hty hm ho ha hbase hfew hline hs hplain) fun σ H Q q => by
    obtain ⟨l, xs, hv, hl, z⟩ := methL_run q
    exact ⟨_, hv, .inl ⟨rfl, xs, SqL.of hl⟩, ta_mono ms z fun vs H1 h => hF _ _ _ _ h⟩
where
  ta_mono {K : Fg} : ∀ (ms : List Arg) {σ : St} {H : Hp} {R R' : List V → Hp → Prop}, tAr K ms σ H R → (∀ vs H, R vs H → R' vs H) → tAr K ms σ H R'
    | [], _, _, _, _, h, k => k _ _ h
    | .one m :: r, σ, H, R, R', h, k => by
      refine vk_mono_opd (.val m) (fun v H1 h1 => ?_) h
      exact ta_mono r h1 fun vs H2 h2 => k _ _ h2
    | .star m :: r, σ, H, R, R', h, k => by
      refine vk_mono_opd (.val m) (fun v H1 h1 => ?_) h
      obtain ⟨p, xs, e, hx, h1⟩ := h1
      exact ⟨p, xs, e, hx, ta_mono r h1 fun vs H2 h2 => k _ _ h2⟩
end
section
variable {K : Fg}
/-- a list of one's own is written -/
theorem Mt.put {F : List D → List D → Option (C × List D)} {v0 : V} {vs : List V} {H : Hp} {Q : VK} (h : Mt K (olOnly F) v0 vs H Q) : ∃ l xs ds zs c zs' G, v0 = .ref l ∧ H l = some (.lst xs) ∧ Same G H ∧ G l = none ∧ Reps K G xs zs ∧ Reps K G vs ds ∧ F zs ds = some (c, zs') ∧
    ∀ v ys d, c = .sh d → Reps K G ys zs' → Rep K G v d → Q v (upd H l (.lst ys)) := by
  obtain ⟨c0, f0, ds, G, s, r0, r, c, c0', e, k⟩ := h
  cases r0 with
  | @ol l xs zs g h r0 =>
    simp only [olOnly] at e
    cases q : F zs ds with
    | none => simp [q] at e
    | some y =>
      obtain ⟨c1, zs'⟩ := y
      simp [q] at e
      obtain ⟨rfl, rfl⟩ := e
      refine ⟨l, xs, ds, zs, c1, zs', G, rfl, h, s, g, r0, r, q, fun v ys d ec ry rv => ?_⟩
      subst ec
      have sub : Same G (upd H l (.lst ys)) := fun a o e => by rw [upd_ne (fun z => by rw [z, g] at e; cases e)]; exact s a o e
      refine k v G _ [l] [] sub (.ol g upd_same ry) (.sh rv) (fun a m => by cases m) ⟨fun _ _ e => e, fun a o e n => by rw [upd_ne (fun z => n (by simp [z]))]; exact e, fun a o e => .inl e, fun a m => m.elim .inl fun z => by cases z⟩
  | _ => simp [olOnly] at e
def fAppend : List D → List D → Option (C × List D)
  | xs, [d] => if xs.length < lim then some (.sh .non, xs ++ [d]) else none
  | _, _ => none
theorem m_append : MutS K rAppend (olOnly fAppend) := fun v0 vs H Q h => by
  obtain ⟨l, xs, ds, zs, c, zs', G, rfl, hl, s, g, r0, r, e, k⟩ := h.put
  cases r with
  | nil => cases e
  | cons hv r =>
    cases r with
    | cons => cases e
    | nil =>
      unfold fAppend at e
      simp only at e
      split at e
      · rename_i hlen
        cases e
        exact ⟨l, xs, _, rfl, rfl, hl, by rw [r0.length, ← lim_eq]; exact hlen, k _ _ _ rfl (r0.append (.cons hv .nil)) .non⟩
      · cases e
def fExtend : List D → List D → Option (C × List D)
  | xs, [.lst zs] => if xs.length + zs.length ≤ lim then some (.sh .non, xs ++ zs) else none
  | _, _ => none
theorem m_extend : MutS K rExtend (olOnly fExtend) := fun v0 vs H Q h => by
  obtain ⟨l, xs, ds, zs, c, zs', G, rfl, hl, s, g, r0, r, e, k⟩ := h.put
  unfold fExtend at e
  split at e
  · split at e
    · rename_i hlen
      cases e
      cases r with
      | cons hv r =>
        cases r
        cases hv with
        | lst hb rb => exact ⟨l, _, xs, _, rfl, rfl, hl, s _ _ hb, by rw [r0.length, rb.length, ← lim_eq]; exact hlen, k _ _ _ rfl (r0.append rb) .non⟩
    · cases e
  · cases e
/-- xs.pop(i) -/
def fPopAt : List D → List D → Option (C × List D)
  | xs, [.int n] => if okR n then if 0 ≤ n then (xs[n.toNat]?).bind fun d => some (.sh d, xs.eraseIdx n.toNat) else none else none
  | _, _ => none
theorem Reps.eraseIdx {G : Hp} : ∀ {ds : List D} {vs : List V} (n : Nat), Reps K G vs ds → Reps K G (vs.eraseIdx n) (ds.eraseIdx n)
  | _, _, _, .nil => .nil
  | _, _, 0, .cons _ r => r
  | _, _, n + 1, .cons h r => .cons h (Reps.eraseIdx n r)
theorem m_popAt : MutS K rPopAt (olOnly fPopAt) := fun v0 vs H Q h => by
  obtain ⟨l, xs, ds, zs, c, zs', G, rfl, hl, s, g, r0, r, e, k⟩ := h.put
  unfold fPopAt at e
  split at e
  · rename_i n
    split at e
    · rename_i hok
      split at e
      · rename_i hn
        cases q : zs[n.toNat]? with
        | none => simp [q] at e
        | some d =>
          simp [q] at e
          obtain ⟨rfl, rfl⟩ := e
          cases r with
          | cons hv r =>
            cases r
            cases hv
            obtain ⟨v, e1, rv⟩ := r0.getD q
            have e63 : (2 : Int) ^ 63 = 9223372036854775808 := by decide
            have e62 : (2 : Int) ^ 62 = 4611686018427387904 := by decide
            have hlt : n < xs.length := by
              have := (List.getElem?_eq_some_iff.mp e1).1
              omega
            have hok := okR_iff.mp hok
            rw [e62] at hok
            exact ⟨l, xs, n, n.toNat, v, rfl, rfl, hl, by rw [e63]; omega, by rw [e63]; omega, seqIndex_of hn hlt, e1, k _ _ _ rfl (r0.eraseIdx _) rv⟩
      · cases e
    · cases e
  · cases e
end

/-! ## stores -/
/-- a key's place gets a value -/
def putC : C → D → D → Option C
  | .ol ds, .int k, d => (ixN ds.length k).bind fun j => some (.ol (ds.set j d))
  | .odk kvs, y, d => (keyD y).bind fun k => if kvs.length < lim then some (.odk (putD kvs k d)) else none
  | .odt kvs, .tup ks, d => (keysD ks).bind fun k => if kvs.length < lim then some (.odt (putD kvs k d)) else none
  | _, _, _ => none
def rPutA : TSet := fun o i v H Q => rSetL o i v H Q ∨ ∃ a H', o = .ref a ∧ DPut H a i v H' ∧ Q H'
theorem set_A {X : Cx} {k : Nat} (hr : Room k X.A) : PSet X rPutA := by
  intro pins s σ H o i v ov iv u Q I ro ri rv h
  rcases h with h | ⟨a, H', rfl, g, q⟩
  · exact set_list pins s σ H o i v ov iv u Q I ro ri rv h
  · obtain rfl : ov = Value.ref a := ro
    exact d_setItem (hu_of hr) I g ri rv fun s1 I1 => ⟨H', I1, q⟩
theorem putC_run {K : Fg} {G H : Hp} {v0 y v : V} {c0 c1 : C} {f0 : List Addr} {dy d : D} {Q : Hp → Prop} (s : Same G H) (r0 : RepC K G H v0 c0 f0) (ry : RepV K G H y dy) (rv : Rep K G v d) (e : putC c0 dy d = some c1)
    (k : ∀ H', Same G H' → RepC K G H' v0 c1 f0 → Step G H (fun a => a ∈ f0) G H' (fun a => a ∈ f0) → Q H') : rPutA v0 y v H Q := by
  have fin : ∀ {l : Addr} {o : HO}, G l = none → Same G (upd H l o) ∧ Step G H (fun a => a ∈ [l]) G (upd H l o) (fun a => a ∈ [l]) := fun {l o} g =>
    ⟨fun a u e => by rw [upd_ne (fun z => by rw [z, g] at e; cases e)]; exact s a u e, ⟨fun _ _ e => e, fun a u e n => by rw [upd_ne (fun z => n (by simp [z]))]; exact e, fun a u e => .inl e, fun a m => .inl m⟩⟩
  cases r0 with
  | @ol l xs zs g h r =>
    cases dy with
    | int n =>
      simp only [putC] at e
      cases q : ixN zs.length n with
      | none => simp [q] at e
      | some j =>
        simp [q] at e; subst e
        cases ry.int
        obtain ⟨a, b⟩ := fin (o := .lst (xs.set j v)) g
        exact .inl ⟨l, xs, n, j, rfl, rfl, h, by rw [r.length]; exact q, k _ a (.ol g upd_same (r.set rv j)) b⟩
    | _ => simp [putC] at e
  | @odk l xs zs g h r =>
    have e' : (keyD dy).bind (fun k => if zs.length < lim then some (C.odk (putD zs k d)) else none) = some c1 := by cases dy <;> exact e
    cases q : keyD dy with
    | none => simp [q] at e'
    | some kk =>
      simp only [q, Option.bind_some] at e'
      split at e'
      · rename_i hl
        cases e'
        have ey : y = kV kk := keyD_of (flat_sh ry (by cases dy <;> first | rfl | cases q)) q
        obtain ⟨a, b⟩ := fin (o := .dK (putK xs kk v)) g
        exact .inr ⟨l, _, rfl, by rw [ey]; exact DPut.k h (by rw [repK_len r, ← lim_eq]; exact hl), k _ a (.odk g upd_same (putK_of rv r)) b⟩
      · cases e'
  | @odt l xs zs g h r =>
    cases dy with
    | tup ks =>
      simp only [putC] at e
      cases q : keysD ks with
      | none => simp [q] at e
      | some kk =>
        simp only [q, Option.bind_some] at e
        split at e
        · rename_i hl
          cases e
          obtain ⟨b, ys, rfl, h2, q2⟩ := ry.tup
          have ey := keysD_of q2 q
          subst ey
          obtain ⟨a, b'⟩ := fin (o := .dT (putK xs kk v)) g
          have hlen : ∀ {ds : List (List Key × D)} {vs : List (List Key × V)}, RepT K G vs ds → vs.length = ds.length := by
            intro ds
            induction ds with
            | nil => intro vs r; cases r; rfl
            | cons d ds ih => intro vs r; cases r with | cons h r => simp [ih r]
          exact .inr ⟨l, _, rfl, DPut.t h (s _ _ h2) (by rw [hlen r, ← lim_eq]; exact hl), k _ a (.odt g upd_same (putT_of rv r)) b'⟩
        · cases e
    | _ => simp [putC] at e
  | _ => cases dy <;> simp [putC] at e
/-- targets of an assignment -/
inductive Tg where
  | nm (i : Nat) | sb (i : Nat) (o : Opd)
def asgG : Tg → D → Env → Option Env
  | .nm i, d, env => if i < env.length then some (env.set i (some (.sh d))) else none
  | .sb i o, d, env => match env[i]? with
    | some (some _) => (evO [o] env).bind fun (ds, e) => match ds, e[i]? with
      | [y], some (some c0) => (putC c0 y d).bind fun c1 => some (e.set i (some c1))
      | _, _ => none
    | _ => none
def gG (K : Fg) : Tg → TG
  | .nm i => gName i
  | .sb i o => L2.gSub (tVar i) (tOpd K o) rPutA
def Tg.ok (p : Nat) : Tg → Bool
  | .nm i => decide (p ≤ i) | .sb _ _ => true
theorem asgG_run {K : Fg} {p : Nat} {t : Tg} {d : D} {v : V} {σ : St} {env env' : Env} {G H : Hp} {fp : Fp} {Q : St → Hp → Prop} (con : Con K σ env G H fp) (r : Rep K G v d) (e : asgG t d env = some env') (hp : t.ok p = true)
    (k : ∀ σ' G' H' fp', Con K σ' env' G' H' fp' → Step G H (U fp) G' H' (U fp') → σ'.take p = σ.take p → Q σ' H') : gG K t v σ H Q := by
  cases t with
  | nm i =>
    simp only [asgG] at e
    split at e
    · rename_i hi
      cases e
      exact k _ G H _ (con_sh con hi r) ((Step.refl ..).weak (fun _ u => u) fun a u => .inr (.inl (U_set_nil u))) (take_set (by simpa [Tg.ok] using hp))
    · cases e
  | sb i o =>
    simp only [asgG] at e
    split at e
    · rename_i c00 q00
      obtain ⟨v0, hv0, _⟩ := con.rep i _ q00
      cases q : evO [o] env with
      | none => simp [q] at e
      | some y =>
        obtain ⟨ds, e2⟩ := y
        simp only [q, Option.bind_some] at e
        split at e
        · rename_i dy c0 q1
          cases q2 : putC c0 dy d with
          | none => simp [q2] at e
          | some c1 =>
            simp [q2] at e; subst e
            have z : tO K [o] σ H (fun vs H1 => ∃ y, vs = [y] ∧ rPutA v0 y v H1 fun H3 => Q σ H3) := ⟨env, G, fp, con, _, _, q, fun vs G1 H1 fp1 con1 rv s1 => by
              cases rv with
              | cons r1 rv =>
                cases rv
                obtain ⟨v0', hv0', r0⟩ := con1.rep i _ q1
                rw [hv0] at hv0'; cases hv0'
                refine ⟨_, rfl, putC_run con1.sub r0 r1 (r.mono s1.sG) q2 fun H' sub r0' s' => ?_⟩
                obtain ⟨fp2, con2, _, s2⟩ := con_mut (fr := []) con1 q1 hv0 sub r0' (fun a m => by cases m) (s'.weak (fun _ m => m) fun a m => m.elim .inl fun z => by cases z)
                exact k σ G1 H' fp2 con2 (s1.trans (s2.weak (fun _ u => u) fun a u => .inl (.inl u))) rfl⟩
            refine ⟨v0, hv0, vk_mono_opd o (fun x H1 h1 => ?_) (tOs1 (tO_tOs z))⟩
            obtain ⟨x', ex, h1⟩ := h1
            cases ex
            exact h1
        · cases e
    · cases e
def asgGs : List Tg → List D → Env → Option Env
  | [], [], env => some env
  | t :: ts, d :: ds, env => (asgG t d env).bind fun e => asgGs ts ds e
  | _, _, _ => none
def gGs (K : Fg) : List Tg → TGs
  | [] => gNil
  | t :: ts => gCons (gG K t) (gGs K ts)
theorem asgGs_run {K : Fg} {p : Nat} : ∀ {ts : List Tg} {ds : List D} {vs : List V} {σ : St} {env env' : Env} {G H : Hp} {fp : Fp} {Q : St → Hp → Prop}, Con K σ env G H fp → Reps K G vs ds → asgGs ts ds env = some env' → (∀ t ∈ ts, t.ok p = true) →
    (∀ σ' G' H' fp', Con K σ' env' G' H' fp' → Step G H (U fp) G' H' (U fp') → σ'.take p = σ.take p → Q σ' H') → gGs K ts vs σ H Q
  | [], [], _, σ, env, env', G, H, fp, Q, con, .nil, e, hp, k => by
    cases e
    exact ⟨rfl, k σ G H fp con (Step.refl ..) rfl⟩
  | t :: ts, d :: ds, _, σ, env, env', G, H, fp, Q, con, .cons (v := v) (vs := vs) r rs, e, hp, k => by
    simp only [asgGs] at e
    cases q : asgG t d env with
    | none => simp [q] at e
    | some e1 =>
      simp only [q, Option.bind_some] at e
      refine ⟨v, vs, rfl, asgG_run con r q (hp t (by simp)) fun σ1 G1 H1 fp1 con1 s1 t1 => ?_⟩
      exact asgGs_run con1 (rs.mono s1.sG) e (fun u m => hp u (by simp [m])) fun σ2 G2 H2 fp2 con2 s2 t2 => k σ2 G2 H2 fp2 con2 (s1.trans s2) (t2.trans t1)
  | [], _ :: _, _, _, _, _, _, _, _, _, _, _, e, _, _ => by simp [asgGs] at e
  | _ :: _, [], _, _, _, _, _, _, _, _, _, _, e, _, _ => by simp [asgGs] at e
theorem asgGs_length : ∀ {ts : List Tg} {ds : List D} {env env' : Env}, asgGs ts ds env = some env' → ds.length = ts.length
  | [], [], _, _, _ => rfl
  | t :: ts, d :: ds, env, env', e => by
    simp only [asgGs] at e
    cases q : asgG t d env with
    | none => simp [q] at e
    | some e1 => simp only [q, Option.bind_some] at e; simp [asgGs_length e]
  | [], _ :: _, _, _, e => by simp [asgGs] at e
  | _ :: _, [], _, _, e => by simp [asgGs] at e
/-- one target that is a place -/
def sPut (t : Tg) (m : EM) : SM := fun env => (m env).bind fun (c, e) => (asgG t c.fz e).bind fun e' => some (.nx e')
/-- a, b = a tuple or a list -/
def sUnp (ts : List Tg) (m : EM) : SM := fun env => (m env).bind fun (c, e) => match c.fz with
  | .tup ds => (asgGs ts ds e).bind fun e' => some (.nx e')
  | _ => none
def sUnpL (ts : List Tg) (m : EM) : SM := fun env => (m env).bind fun (c, e) => match c.fz with
  | .lst ds => (asgGs ts ds e).bind fun e' => some (.nx e')
  | _ => none
/-- a, b = x, y of names: no tuple is made -/
def sPar (is : List Nat) (ms : List Arg) : SM := fun env => (evA ms env).bind fun (ds, e) => (asg is ds e).bind fun e' => some (.nx e')
section
variable {X : Cx} {p : Nat} {e : Expr} {pos : Pos} {m : EM}
theorem put_fz {K : Fg} {σ : St} {env' : Env} {G H G1 H1 : Hp} {fp fp1 : Fp} {v : V} {c : C} {fr : List Addr} (con1 : Con K σ env' G1 H1 fp1) (r1 : RepC K G1 H1 v c fr) (n1 : ∀ a ∈ fr, ¬ U fp1 a) (s1 : Step G H (U fp) G1 H1 (fun a => U fp1 a ∨ a ∈ fr)) :
    Con K σ env' (addF G1 H1 fr) H1 fp1 ∧ Step G H (U fp) (addF G1 H1 fr) H1 (U fp1) :=
  ⟨con_fz2 con1 r1 n1, s1.trans ((Step.fz r1).weak (U' := fun _ => False) (W := fun a => U fp1 a ∨ a ∈ fr) (W' := U fp1) (fun a m => .inr m) fun a u => .inr (.inl (.inl u)))⟩
theorem s_put {tg : Expr} {t : Tg} (hp : t.ok p = true) (he : EOk X e m) (hg : PG X tg (gG X.K t)) (hs : swapsWithSole [tg] e pos.line X.env = pure false := by rfl) (hw : swappedStores [tg] e X.env = pure none := by rfl)
    (h1 : (assignEach [tg] X.env).map (·.2) = [assign tg X.env] := by rfl) : SOk X p (.Assign [tg] e pos) (sPut t m) := ps_mono (ps_asg he hg hs hw h1) fun D σ H ⟨env, G, fp, con, o, e1, k⟩ => by
  unfold sPut at e1
  cases q : m env with
  | none => simp [q] at e1
  | some y =>
    obtain ⟨c, e2⟩ := y
    simp only [q, Option.bind_some] at e1
    cases q2 : asgG t c.fz e2 with
    | none => simp [q2] at e1
    | some e3 =>
      simp [q2] at e1; subst e1
      refine ⟨env, G, fp, con, c, e2, q, fun v G' H' fp' fr c' r n s => ?_⟩
      obtain ⟨con2, s2⟩ := put_fz c' r n s
      exact asgG_run con2 r.fz q2 hp fun σ3 G3 H3 fp3 con3 s3 t3 => k σ3 G3 H3 fp3 con3 (s2.trans s3) t3
theorem s_unp {tgs : List Expr} {kk : Nat} {pos' : Pos} {ts : List Tg} (hp : (ts.all fun t => t.ok p) = true) (hc : X.calm = true) (he : EOk X e m) (hg : PGs X tgs (gGs X.K ts)) (hn : (assignEach tgs X.env).length = ts.length := by rfl) (hst : (assignEach tgs X.env).findIdx? (·.1) = none := by rfl)
    (hs : swapsWithSole [.Tuple tgs kk pos'] e pos.line X.env = pure false := by rfl) (hw : swappedStores [.Tuple tgs kk pos'] e X.env = pure none := by rfl)
    (h1 : (assignEach [.Tuple tgs kk pos'] X.env).map (·.2) = [assign (.Tuple tgs kk pos') X.env] := by rfl) : SOk X p (.Assign [.Tuple tgs kk pos'] e pos) (sUnp ts m) := ps_mono (ps_asg he (pg_tup hc hg hn hst) hs hw h1) fun D σ H ⟨env, G, fp, con, o, e1, k⟩ => by
  unfold sUnp at e1
  cases q : m env with
  | none => simp [q] at e1
  | some y =>
    obtain ⟨c, e2⟩ := y
    simp only [q, Option.bind_some] at e1
    split at e1
    · rename_i ds hf
      cases q2 : asgGs ts ds e2 with
      | none => simp [q2] at e1
      | some e3 =>
        simp [q2] at e1; subst e1
        refine ⟨env, G, fp, con, c, e2, q, fun v G' H' fp' fr c' r n s => ?_⟩
        obtain ⟨con2, s2⟩ := put_fz c' r n s
        have rf := r.fz
        rw [hf] at rf
        cases rf with
        | tup h2 rs => exact ⟨_, _, rfl, SqT.of (con2.sub _ _ h2), by rw [rs.length, asgGs_length q2], asgGs_run con2 rs q2 (fun t m => List.all_eq_true.mp hp t m) fun σ3 G3 H3 fp3 con3 s3 t3 => k σ3 G3 H3 fp3 con3 (s2.trans s3) t3⟩
    · cases e1
theorem s_unpL {tgs : List Expr} {kk : Nat} {pos' : Pos} {ts : List Tg} (hp : (ts.all fun t => t.ok p) = true) (hc : X.calm = true) (he : EOk X e m) (hg : PGs X tgs (gGs X.K ts)) (hn : (assignEach tgs X.env).length = ts.length := by rfl) (hst : (assignEach tgs X.env).findIdx? (·.1) = none := by rfl)
    (hs : swapsWithSole [.Tuple tgs kk pos'] e pos.line X.env = pure false := by rfl) (hw : swappedStores [.Tuple tgs kk pos'] e X.env = pure none := by rfl)
    (h1 : (assignEach [.Tuple tgs kk pos'] X.env).map (·.2) = [assign (.Tuple tgs kk pos') X.env] := by rfl) : SOk X p (.Assign [.Tuple tgs kk pos'] e pos) (sUnpL ts m) := ps_mono (ps_asg he (pg_unl hc hg hn hst) hs hw h1) fun D σ H ⟨env, G, fp, con, o, e1, k⟩ => by
  unfold sUnpL at e1
  cases q : m env with
  | none => simp [q] at e1
  | some y =>
    obtain ⟨c, e2⟩ := y
    simp only [q, Option.bind_some] at e1
    split at e1
    · rename_i ds hf
      cases q2 : asgGs ts ds e2 with
      | none => simp [q2] at e1
      | some e3 =>
        simp [q2] at e1; subst e1
        refine ⟨env, G, fp, con, c, e2, q, fun v G' H' fp' fr c' r n s => ?_⟩
        obtain ⟨con2, s2⟩ := put_fz c' r n s
        have rf := r.fz
        rw [hf] at rf
        cases rf with
        | lst h2 rs => exact ⟨_, _, rfl, SqL.of (con2.sub _ _ h2), by rw [rs.length, asgGs_length q2], asgGs_run con2 rs q2 (fun t m => List.all_eq_true.mp hp t m) fun σ3 G3 H3 fp3 con3 s3 t3 => k σ3 G3 H3 fp3 con3 (s2.trans s3) t3⟩
    · cases e1
theorem s_par {i j : Nat} {x y : Str} {a b : Expr} {ms : List Arg} {px py pt : Pos} {kt k2 pt2} (hpi : p ≤ i) (hpj : p ≤ j) (hc : X.calm = true) (hN : X.N.Nodup) (hi : X.N[i]? = some x) (hj : X.N[j]? = some y) (hij : i ≠ j)
    (hx : X.env.scope.names.lookup x = some .local) (hy : X.env.scope.names.lookup y = some .local) (ha : PA X [a, b] (tAr X.K ms)) (hw : swappedStores [.Tuple [.Name x px, .Name y py] kt pt] (.Tuple [a, b] k2 pt2) X.env = pure (some [x, y])) (hs : swapsWithSole [.Tuple [.Name x px, .Name y py] kt pt] (.Tuple [a, b] k2 pt2) pos.line X.env = pure false := by rfl) :
    SOk X p (.Assign [.Tuple [.Name x px, .Name y py] kt pt] (.Tuple [a, b] k2 pt2) pos) (sPar [i, j] ms) := ps_mono (ps_par hc hN hi hj hij hx hy (paa ha) hw hs) fun D σ H ⟨env, G, fp, con, o, e1, k⟩ => by
  unfold sPar at e1
  cases q : evA ms env with
  | none => simp [q] at e1
  | some y =>
    obtain ⟨ds, e2⟩ := y
    simp only [q, Option.bind_some] at e1
    cases q2 : asg [i, j] ds e2 with
    | none => simp [q2] at e1
    | some e3 =>
      simp [q2] at e1; subst e1
      refine ⟨env, G, fp, con, ds, e2, q, fun vs G' H' fp' c' r s => ?_⟩
      have z := asg_run (p := p) (Q := fun σ' H' => D.nx σ' H') c' r q2 (fun t m => by simp at m; rcases m with m | m <;> (subst m; assumption)) fun σ' fp2 con2 u2 t2 _ => k σ' G' H' fp2 con2 (s.weak (fun _ u => u) fun a u => .inl (u2 a u)) t2
      obtain ⟨v, r1, e1, z⟩ := z
      obtain ⟨w, r2, e2, z⟩ := z
      obtain ⟨e3, z⟩ := z
      subst e1 e2 e3
      exact ⟨v, w, rfl, z⟩
theorem s_par3 {i j l : Nat} {x y z : Str} {a b c : Expr} {ms : List Arg} {px py pz pt : Pos} {kt k2 pt2} (hpi : p ≤ i) (hpj : p ≤ j) (hpl : p ≤ l) (hc : X.calm = true) (hN : X.N.Nodup) (hi : X.N[i]? = some x) (hj : X.N[j]? = some y) (hl : X.N[l]? = some z) (hij : i ≠ j) (hil : i ≠ l) (hjl : j ≠ l)
    (hx : X.env.scope.names.lookup x = some .local) (hy : X.env.scope.names.lookup y = some .local) (hz : X.env.scope.names.lookup z = some .local) (ha : PA X [a, b, c] (tAr X.K ms)) (hw : swappedStores [.Tuple [.Name x px, .Name y py, .Name z pz] kt pt] (.Tuple [a, b, c] k2 pt2) X.env = pure (some [x, y, z])) (hs : swapsWithSole [.Tuple [.Name x px, .Name y py, .Name z pz] kt pt] (.Tuple [a, b, c] k2 pt2) pos.line X.env = pure false := by rfl) :
    SOk X p (.Assign [.Tuple [.Name x px, .Name y py, .Name z pz] kt pt] (.Tuple [a, b, c] k2 pt2) pos) (sPar [i, j, l] ms) := ps_mono (ps_par3 hc hN hi hj hl hij hil hjl hx hy hz (paa ha) hw hs) fun D σ H ⟨env, G, fp, con, o, e1, k⟩ => by
  unfold sPar at e1
  cases q : evA ms env with
  | none => simp [q] at e1
  | some y =>
    obtain ⟨ds, e2⟩ := y
    simp only [q, Option.bind_some] at e1
    cases q2 : asg [i, j, l] ds e2 with
    | none => simp [q2] at e1
    | some e3 =>
      simp [q2] at e1; subst e1
      refine ⟨env, G, fp, con, ds, e2, q, fun vs G' H' fp' c' r s => ?_⟩
      have z := asg_run (p := p) (Q := fun σ' H' => D.nx σ' H') c' r q2 (fun t m => by simp at m; rcases m with m | m | m <;> (subst m; assumption)) fun σ' fp2 con2 u2 t2 _ => k σ' G' H' fp2 con2 (s.weak (fun _ u => u) fun a u => .inl (u2 a u)) t2
      obtain ⟨v, r1, e1, z⟩ := z
      obtain ⟨w, r2, e2, z⟩ := z
      obtain ⟨w3, r3, e3, z⟩ := z
      obtain ⟨e4, z⟩ := z
      subst e1 e2 e3 e4
      exact ⟨v, w, w3, rfl, z⟩
theorem gg_nm {i : Nat} {x : Str} (hN : X.N.Nodup) (hi : X.N[i]? = some x) (hx : Loc X.env.scope x) (hf : X.fn x = true ∨ X.env.scope.names.lookup x = some .local := by first | exact .inl rfl | exact .inr rfl | assumption) : PG X (.Name x pos) (gG X.K (.nm i)) := pg_name hN hi hx hf
theorem gg_sb {i : Nat} {o' ix : Expr} {o : Opd} {k : Nat} (hr : Room k X.A) (ho : PE X o' (tVar i)) (hi : OOk X ix o)
    (ha : ∀ v, assign (.Subscript o' ix pos) X.env v = (do
      let ov ← holding [v] (eval o' X.env)
      let iv ← holding [v, ov] (eval ix X.env)
      standAt pos
      holding [v, ov, iv] (setItem ov iv v)
      release [v, ov, iv] []) := by intro _; rfl) : PG X (.Subscript o' ix pos) (gG X.K (.sb i o)) := pg_sub ho hi (set_A hr) ha
theorem ggs_nil : PGs X [] (gGs X.K []) := pgs_nil
theorem ggs_cons {e : Expr} {es : List Expr} {t : Tg} {ts : List Tg} (h1 : PG X e (gG X.K t)) (h2 : PGs X es (gGs X.K ts))
    (hs : (assignEach (e :: es) X.env).map (·.2) = assign e X.env :: (assignEach es X.env).map (·.2) := by rfl) : PGs X (e :: es) (gGs X.K (t :: ts)) := pgs_cons h1 h2 hs
end
end Fx
set_option Elab.async false
set_option linter.all false
set_option maxRecDepth 100000
set_option maxHeartbeats 4000000
noncomputable section
namespace Fx
open PySem L2

/-! ## dicts -/
def eDK : EM := fun env => some (.odk [], env)
def eDT : EM := fun env => some (.odt [], env)
section
variable {X : Cx} {pos : Pos}
theorem ok_dk : EOk X (.Dict [] [] pos) eDK := pe_mono pe_dnewK fun σ H Q ⟨env, G, fp, con, c, env', e1, k⟩ => by
  cases e1
  intro p hp
  exact k.end_ (W := fun _ => False) (fr := [p]) con ((Step.refl ..).weak (fun _ u => u) fun a u => u.elim .inl fun z => z.elim) (fun a z => z.elim) (Step.newH (o := .dK []) hp) (same_newH con.sub hp) (.odk (none_of_same con.sub hp) upd_same .nil)
theorem ok_dt : EOk X (.Dict [] [] pos) eDT := pe_mono pe_dnewT fun σ H Q ⟨env, G, fp, con, c, env', e1, k⟩ => by
  cases e1
  intro p hp
  exact k.end_ (W := fun _ => False) (fr := [p]) con ((Step.refl ..).weak (fun _ u => u) fun a u => u.elim .inl fun z => z.elim) (fun a z => z.elim) (Step.newH (o := .dT []) hp) (same_newH con.sub hp) (.odt (none_of_same con.sub hp) upd_same .nil)
/-- d.get(k, x), d a name -/
def eGet2 (i : Nat) (a b : EM) : EM := fun env => match env[i]? with
  | some (some c00) => (c00.vw.bind isDct).bind fun _ => (evA [.one a, .one b] env).bind fun (ds, e) => match ds, e[i]? with
    | [y, z], some (some c0) => c0.vw.bind fun d => (getK d y).bind fun o => some (.sh (o.getD z), e)
    | _, _ => none
  | _ => none
where isDct : D → Option Unit
  | .dk _ => some () | .dt _ => some () | _ => none
theorem isD_of {K : Fg} {G H : Hp} {x : V} {d : D} (s : Same G H) (r : RepV K G H x d) (h : eGet2.isDct d = some ()) : ∃ a, x = .ref a ∧ IsD H a := by
  cases d with
  | dk kvs => obtain ⟨a, xs, rfl, h1, _⟩ := r.dk_ s; exact ⟨a, rfl, .inl ⟨xs, .inl h1⟩⟩
  | dt kvs => obtain ⟨a, xs, rfl, h1, _⟩ := r.dt_ s; exact ⟨a, rfl, .inr ⟨xs, .inl h1⟩⟩
  | _ => cases h
theorem ok_get2 {o e f : Expr} {apos cpos : Pos} {i k : Nat} {a b : EM} (hr : Room k X.A) (ho : PE X o (tVar i)) (he : EOk X e a) (hf : EOk X f b) (m : M2 X o "get" apos e f cpos) : EOk X (.Call (.Attribute o "get" apos) [e, f] [] cpos) (eGet2 i a b) :=
  pe_mono (pe_dget2 (hu_of hr) ho he hf m) fun σ H Q ⟨env, G, fp, con, c, env', e1, k⟩ => by
    unfold eGet2 at e1
    split at e1
    · rename_i c00 q0
      obtain ⟨v0, hv0, rc0⟩ := con.rep i _ q0
      cases qv : c00.vw.bind eGet2.isDct with
      | none => simp [qv] at e1
      | some u =>
        simp only [qv, Option.bind_some] at e1
        cases qw : c00.vw with
        | none => simp [qw] at qv
        | some d00 =>
          simp only [qw, Option.bind_some] at qv
          obtain ⟨ad, ea, hd⟩ := isD_of con.sub (rc0.vw qw) qv
          cases q : evA [.one a, .one b] env with
          | none => simp [q] at e1
          | some y =>
            obtain ⟨ds, e2⟩ := y
            simp only [q, Option.bind_some] at e1
            split at e1
            · rename_i y z c0 q1
              cases q3 : c0.vw with
              | none => simp [q3] at e1
              | some d =>
                simp only [q3, Option.bind_some] at e1
                cases q4 : getK d y with
                | none => simp [q4] at e1
                | some ov =>
                  simp [q4] at e1
                  obtain ⟨rfl, rfl⟩ := e1
                  subst ea
                  refine ⟨_, hv0, ad, rfl, hd, ?_⟩
                  have w := args_run (Q := fun vs H3 => ∃ yv zv, vs = [yv, zv] ∧ ∃ o, DGet H3 ad yv o ∧ Q (o.getD zv) H3) [.one a, .one b] con q fun vs G1 H1 fp1 con1 r s => by
                    cases r with
                    | cons r1 r =>
                      cases r with
                      | cons r2 r =>
                        cases r
                        obtain ⟨v0', hv0', rc⟩ := con1.rep i _ q1
                        rw [hv0] at hv0'; cases hv0'
                        obtain ⟨a', ea', _, ov', g, h⟩ := getK_of con1.sub (rc.vw q3) (.sh r1) q4
                        cases ea'
                        refine ⟨_, _, rfl, ov', g, ?_⟩
                        rcases h with ⟨v, d', h1, h2, h3⟩ | ⟨h1, h2⟩
                        · subst h1 h2; exact k.sh con1 s h3
                        · subst h1 h2; exact k.sh con1 s r2
                  refine vk_mono_opd (.val a) (fun yv H1 h1 => vk_mono_opd (.val b) (fun zv H2 h2 => ?_) h1) w
                  obtain ⟨yv', zv', e', h⟩ := h2
                  cases e'
                  exact h
            · cases e1
    · cases e1
end

/-! ## lists of lists of one's own -/
section
variable {X : Cx} {pos : Pos}
/-- len of such a name -/
def eLen2 (i : Nat) : EM := fun env => match env[i]? with
  | some (some (.oll dss)) => some (.sh (.int dss.length), env)
  | some (some (.ol ds)) => some (.sh (.int ds.length), env)
  | _ => none
theorem inner_len {K : Fg} {G H : Hp} : ∀ {ls : List Addr} {dss : List (List D)}, Inner K G H ls dss → ls.length = dss.length
  | _, _, .nil => rfl
  | _, _, .cons _ _ _ i => by simp [inner_len i]
theorem ok_len2 {o : Expr} {i : Nat} {p : Pos} (hg : Gl X "len") (hm : X.mg "len" = none) (ho : PE X o (tVar i)) (hs : starEach [o] X.env = (false, eval o X.env) :: starEach [] X.env := by rfl) (hpl : (backTo pos (starEach [] X.env)).any (·.1) = false := by rfl) : EOk X (.Call (.Name "len" p) [o] [] pos) (eLen2 i) :=
  pe_mono (pe_callB call_len_seq hg hm PySem.boot_len (pa_cons ho pa_nil hs) (by decide) (by decide) hs hpl) fun σ H Q ⟨env, G, fp, con, c, env', e1, k⟩ => by
    unfold eLen2 at e1
    split at e1
    · rename_i dss q0
      cases e1
      obtain ⟨v0, hv0, r⟩ := con.rep i _ q0
      generalize fp i = fi at r
      cases r with
      | oll g h inn nd => exact ⟨_, hv0, _, _, rfl, .inl (SqL.of h), by rw [List.length_map, inner_len inn]; exact k.sh con (Step.refl ..) (.int _)⟩
    · rename_i ds q0
      cases e1
      obtain ⟨v0, hv0, r⟩ := con.rep i _ q0
      generalize fp i = fi at r
      cases r with
      | ol g h r => exact ⟨_, hv0, _, _, rfl, .inl (SqL.of h), by rw [r.length]; exact k.sh con (Step.refl ..) (.int _)⟩
    · cases e1
/-- name.append(a new list) -/
def eApp2 (i : Nat) (m : EM) : EM := fun env => match env[i]? with
  | some (some c00) => (seqC c00).bind fun _ => (m env).bind fun (c, e) => match c, e[i]? with
    | .ol ds, some (some c0) => (seqC c0).bind fun dss => if dss.length < lim then some (.sh .non, e.set i (some (.oll (dss ++ [ds])))) else none
    | _, _ => none
  | _ => none
where seqC : C → Option (List (List D))
  | .ol [] => some [] | .oll dss => some dss | _ => none
theorem seqC_of {K : Fg} {G H : Hp} {v : V} {c : C} {f : List Addr} {dss : List (List D)} (r : RepC K G H v c f) (e : eApp2.seqC c = some dss) : ∃ l ls, v = .ref l ∧ f = l :: ls ∧ G l = none ∧ H l = some (.lst (ls.map V.ref)) ∧ Inner K G H ls dss ∧ (l :: ls).Nodup := by
  cases r with
  | ol g h r =>
    rename_i ds
    cases ds with
    | nil => cases e; cases r; exact ⟨_, [], rfl, rfl, g, h, .nil, by simp⟩
    | cons => cases e
  | oll g h i n => cases e; exact ⟨_, _, rfl, rfl, g, h, i, n⟩
  | _ => cases e
theorem inner_snoc {K : Fg} {G H : Hp} {l : Addr} {xs : List V} {ds : List D} (g : G l = none) (h : H l = some (.lst xs)) (r : Reps K G xs ds) : ∀ {ls : List Addr} {dss : List (List D)}, Inner K G H ls dss → Inner K G H (ls ++ [l]) (dss ++ [ds])
  | _, _, .nil => .cons g h r .nil
  | _, _, .cons a b c i => .cons a b c (inner_snoc g h r i)
theorem ok_app2 {o e : Expr} {apos cpos : Pos} {i : Nat} {m : EM} (ho : PE X o (tVar i)) (he : EOk X e m)
    (hbase : attributeBase o "append" X.env (eval o X.env) = eval o X.env := by rfl)
    (hfew : ((backTo cpos (starEach [e] X.env)).all (fun x => !x.1) && (backToKw cpos (keywordEach [] X.env)).all (fun x => x.1.isSome)
      && decide (([e] : List Expr).length + ([] : List Keyword).length + (if ([] : List Keyword).isEmpty then 0 else 1) < 30)) = true := by rfl)
    (hline : (apos.endLine == cpos.line) = true := by rfl) (hs : starEach [e] X.env = (false, eval e X.env) :: starEach [] X.env := by rfl) (hplain : (backTo cpos (starEach [] X.env)).any (·.1) = false := by rfl) :
    EOk X (.Call (.Attribute o "append" apos) [e] [] cpos) (eApp2 i m) :=
  pe_mono (pe_bm PySem.F.plainAttrs_list PySem.F.slot_list_append PySem.F.type_list_append mt_append ho (pa_cons he pa_nil hs) hbase hfew hline hs hplain) fun σ H Q ⟨env, G, fp, con, c, env', e1, k⟩ => by
    unfold eApp2 at e1
    split at e1
    · rename_i c00 q0
      obtain ⟨v0, hv0, rc0⟩ := con.rep i _ q0
      cases qs : eApp2.seqC c00 with
      | none => simp [qs] at e1
      | some dss0 =>
        simp only [qs, Option.bind_some] at e1
        obtain ⟨l0, ls0, rfl, _, _, hl0, _, _⟩ := seqC_of rc0 qs
        cases q : m env with
        | none => simp [q] at e1
        | some y =>
          obtain ⟨c1, e2⟩ := y
          simp only [q, Option.bind_some] at e1
          split at e1
          · rename_i ds c0 q1
            cases qs1 : eApp2.seqC c0 with
            | none => simp [qs1] at e1
            | some dss =>
              simp only [qs1, Option.bind_some] at e1
              split at e1
              · rename_i hlen
                cases e1
                refine ⟨_, hv0, .inl ⟨rfl, _, SqL.of hl0⟩, env, G, fp, con, _, e2, q, fun v G1 H1 fp1 fr con1 r1 n1 s1 => ?_⟩
                obtain ⟨v0', hv0', rc⟩ := con1.rep i _ q1
                rw [hv0] at hv0'; cases hv0'
                obtain ⟨l, ls, ev, ef, g, hl, inn, nd⟩ := seqC_of rc qs1
                cases ev
                cases r1 with
                | @ol t xs _ gt ht rt =>
                  have ht0 : t ∉ l0 :: ls := fun z => n1 t (by simp) ⟨i, by rw [ef]; exact z⟩
                  refine ⟨l0, ls.map V.ref, .ref t, rfl, rfl, hl, by rw [List.length_map, inner_len inn, ← lim_eq]; exact hlen, ?_⟩
                  have el : ls.map V.ref ++ [V.ref t] = (ls ++ [t]).map V.ref := by simp
                  rw [el]
                  have sub : Same G1 (upd H1 l0 (.lst ((ls ++ [t]).map V.ref))) := fun a o e => by rw [upd_ne (fun z => by rw [z, g] at e; cases e)]; exact con1.sub a o e
                  have nl : ∀ a ∈ ls, a ≠ l0 := fun a m z => (List.nodup_cons.mp nd).1 (by rw [← z]; exact m)
                  have inn2 : Inner X.K G1 (upd H1 l0 (.lst ((ls ++ [t]).map V.ref))) (ls ++ [t]) (dss ++ [ds]) := by
                    refine inner_snoc gt (by rw [upd_ne (fun z => ht0 (by simp [z]))]; exact ht) rt ?_
                    exact inn.mono (Same.refl _) (fun a m => (inn.mem a m).1) fun a m o e => by rw [upd_ne (nl a m)]; exact e
                  have rnew : RepC X.K G1 (upd H1 l0 (.lst ((ls ++ [t]).map V.ref))) (.ref l0) (.oll (dss ++ [ds])) (l0 :: (ls ++ [t])) := by
                    refine .oll g upd_same inn2 ?_
                    rw [← List.cons_append]
                    rw [List.nodup_append]
                    refine ⟨nd, by simp, fun a ma b mb => ?_⟩
                    simp at mb
                    subst mb
                    exact fun z => ht0 (by rw [← z]; exact ma)
                  have hi : i < e2.length := (List.getElem?_eq_some_iff.mp q1).1
                  have stp : Step G1 H1 (fun a => a ∈ l0 :: ls ∨ a ∈ [t]) G1 (upd H1 l0 (.lst ((ls ++ [t]).map V.ref))) (fun a => a ∈ l0 :: (ls ++ [t])) :=
                    ⟨fun _ _ e => e, fun a o e n => by rw [upd_ne (fun z => n (.inl (by simp [z])))]; exact e, fun a o e => .inl e, fun a m => .inl (by simp at m ⊢; rcases m with m | m | m <;> simp [m])⟩
                  -- the state: slot i dropped, stepped, put
                  have hd : ∀ a, U (fp1.set i []) a → ¬ (a ∈ l0 :: ls ∨ a ∈ [t]) := fun a u m => by
                    obtain ⟨j, mj⟩ := u
                    by_cases hj : j = i
                    · subst hj; rw [Fp.set_same] at mj; cases mj
                    · rw [Fp.set_ne hj] at mj
                      rcases m with m | m
                      · exact hj (con1.dis j i a mj (by rw [ef]; exact m))
                      · simp at m; subst m; exact n1 a (by simp) ⟨j, mj⟩
                  have con2 := (con1.drop (i := i) (σ' := σ) rfl fun _ _ => rfl).step stp hd sub
                  have con3 := con2.put (i := i) (by simpa using hi) rnew fun a m j hj z => by
                    rw [Fp.set_ne hj] at z
                    have m' : a ∈ l0 :: ls ∨ a ∈ [t] := by simp at m ⊢; rcases m with m | m | m <;> simp [m]
                    exact hd a ⟨j, by rw [Fp.set_ne hj]; exact z⟩ m'
                  have es : σ.set i (some (V.ref l0)) = σ := by
                    apply List.ext_getElem?
                    intro j
                    by_cases q : j = i
                    · subst q; rw [hv0]; exact List.getElem?_set_self (by rw [con1.len]; exact hi)
                    · rw [List.getElem?_set_ne (fun z => q z.symm)]
                  have efp : Fp.set (Fp.set fp1 i []) i (l0 :: (ls ++ [t])) = Fp.set fp1 i (l0 :: (ls ++ [t])) := by funext j; unfold Fp.set; split <;> rfl
                  rw [es, efp, List.set_set] at con3
                  refine k .non _ _ _ [] con3 (.sh .non) (fun a m => by cases m) (s1.trans (stp.weak (fun a m => m.elim (fun z => .inl ⟨i, by rw [ef]; exact z⟩) .inr) fun a u => ?_))
                  rcases u with u | u
                  · rcases U_set u with z | z
                    · exact .inr (.inl (.inl z))
                    · exact .inl z
                  · cases u
              · cases e1
          · cases e1
    · cases e1
/-- name[ix].append(v) -/
def eApp3 (i : Nat) (o : Opd) (m : EM) : EM := fun env => match env[i]? with
  | some (some (.oll _)) => (evI o env).bind fun (n, e) => match e[i]? with
    | some (some (.oll dss)) => (ixN dss.length n).bind fun j => (m (e.set i none)).bind fun (c, e2) => (dss[j]?).bind fun ds => if ds.length < lim then some (.sh .non, e2.set i (some (.oll (dss.set j (ds ++ [c.fz]))))) else none
    | _ => none
  | _ => none
theorem inner_at {K : Fg} {G H : Hp} : ∀ {ls : List Addr} {dss : List (List D)} {j : Nat} {ds : List D}, Inner K G H ls dss → dss[j]? = some ds → ∃ l xs, ls[j]? = some l ∧ G l = none ∧ H l = some (.lst xs) ∧ Reps K G xs ds
  | _, _, _, _, .nil, e => by simp at e
  | _, _, 0, _, .cons g h r _, e => by simp at e; subst e; exact ⟨_, _, rfl, g, h, r⟩
  | _, _, j + 1, _, .cons _ _ _ i, e => by
    obtain ⟨l, xs, a, b⟩ := inner_at (j := j) i (by simpa using e)
    exact ⟨l, xs, by simpa using a, b⟩
theorem inner_set {K : Fg} {G H : Hp} {ys : List V} {es : List D} (ry : Reps K G ys es) : ∀ {ls : List Addr} {dss : List (List D)} {j : Nat} {l : Addr}, Inner K G H ls dss → ls.Nodup → ls[j]? = some l → Inner K G (upd H l (.lst ys)) ls (dss.set j es)
  | _, _, _, _, .nil, _, e => by simp at e
  | _, _, 0, _, .cons g h r i, nd, e => by
    simp at e; subst e
    exact .cons g upd_same ry (i.mono (Same.refl _) (fun a m => (i.mem a m).1) fun a m o q => by rw [upd_ne (fun z => (List.nodup_cons.mp nd).1 (by rw [← z]; exact m))]; exact q)
  | l0 :: ls, _, j + 1, l, .cons g h r i, nd, e => by
    have e' : ls[j]? = some l := by simpa using e
    have hm : l ∈ ls := List.mem_of_getElem? e'
    refine .cons g (by rw [upd_ne (fun z => (List.nodup_cons.mp nd).1 (by rw [z]; exact hm))]; exact h) r (inner_set ry i (List.nodup_cons.mp nd).2 e')
theorem ok_app3 {b ix e : Expr} {spos apos cpos : Pos} {i : Nat} {o : Opd} {m : EM} (ho : PE X b (tVar i)) (hx : OOk X ix o) (he : EOk X e m) (hs0 : PlainIx ix := by intro _ _; rfl)
    (hbase : attributeBase (.Subscript b ix spos) "append" X.env (eval (.Subscript b ix spos) X.env) = eval (.Subscript b ix spos) X.env := by rfl)
    (hfew : ((backTo cpos (starEach [e] X.env)).all (fun x => !x.1) && (backToKw cpos (keywordEach [] X.env)).all (fun x => x.1.isSome)
      && decide (([e] : List Expr).length + ([] : List Keyword).length + (if ([] : List Keyword).isEmpty then 0 else 1) < 30)) = true := by rfl)
    (hline : (apos.endLine == cpos.line) = true := by rfl) (hs : starEach [e] X.env = (false, eval e X.env) :: starEach [] X.env := by rfl) (hplain : (backTo cpos (starEach [] X.env)).any (·.1) = false := by rfl) :
    EOk X (.Call (.Attribute (.Subscript b ix spos) "append" apos) [e] [] cpos) (eApp3 i o m) :=
  pe_mono (pe_bm PySem.F.plainAttrs_list PySem.F.slot_list_append PySem.F.type_list_append mt_append (L2.pe_ix ix_list ho hx hs0) (pa_cons he pa_nil hs) hbase hfew hline hs hplain) fun σ H Q ⟨env, G, fp, con, c, env', e1, k⟩ => by
    unfold eApp3 at e1
    split at e1
    · rename_i dss00 q0
      obtain ⟨v0, hv0, _⟩ := con.rep i _ q0
      cases q : evI o env with
      | none => simp [q] at e1
      | some y =>
        obtain ⟨n, e2⟩ := y
        simp only [q, Option.bind_some] at e1
        split at e1
        · rename_i dss q1
          cases qj : ixN dss.length n with
          | none => simp [qj] at e1
          | some j =>
            simp only [qj, Option.bind_some] at e1
            cases qm : m (e2.set i none) with
            | none => simp [qm] at e1
            | some y =>
              obtain ⟨c1, e3⟩ := y
              simp only [qm, Option.bind_some] at e1
              cases qd : dss[j]? with
              | none => simp [qd] at e1
              | some ds =>
                simp only [qd, Option.bind_some] at e1
                split at e1
                · rename_i hlen
                  cases e1
                  refine ⟨v0, hv0, evI_run con q fun G1 H1 fp1 con1 s1 => ?_⟩
                  obtain ⟨v0', hv0', rc⟩ := con1.rep i _ q1
                  rw [hv0] at hv0'; cases hv0'
                  generalize hf : fp1 i = fi at rc
                  cases rc with
                  | @oll l0 ls _ g hl inn nd =>
                    obtain ⟨lj, xs, elj, glj, hlj, rlj⟩ := inner_at inn qd
                    have hat : atI (ls.map V.ref) n = some (.ref lj) := by
                      unfold atI
                      rw [List.length_map, inner_len inn, qj]
                      show (ls.map V.ref)[j]? = _
                      rw [List.getElem?_map, elj]; rfl
                    refine ⟨l0, _, n, .ref lj, rfl, rfl, SqL.of hl, hat, .inl ⟨rfl, xs, SqL.of hlj⟩, ?_⟩
                    have rc0 : RepC X.K G1 H1 (.ref l0) (.oll dss) (l0 :: ls) := .oll g hl inn nd
                    have hi : i < e2.length := (List.getElem?_eq_some_iff.mp q1).1
                    have con1' := con1.drop (i := i) (σ' := σ) rfl fun _ _ => rfl
                    have nU : ∀ a ∈ l0 :: ls, ¬ U (fp1.set i []) a := fun a m u => by
                      obtain ⟨jj, mj⟩ := u
                      by_cases hj : jj = i
                      · subst hj; rw [Fp.set_same] at mj; cases mj
                      · rw [Fp.set_ne hj] at mj; exact hj (con1.dis jj i a mj (by rw [hf]; exact m))
                    refine ⟨_, G1, _, con1', c1, e3, qm, fun v G2 H2 fp2 fr con2 r2 n2 s2 => ?_⟩
                    have rc2 := rc0.step s2 nU
                    have nU2 := rc0.out s2 nU
                    have con3 := con_fz2 con2 r2 n2
                    have sf := Step.fz r2
                    have rc3 := rc2.step sf fun a m z => nU2 a m (.inr z)
                    have rx := r2.fz
                    -- the inner list at H2 is still lj
                    generalize hfi : l0 :: ls = fi at rc3 nU2
                    cases rc3 with
                    | @oll l0' ls' _ g3 hl3 inn3 nd3 =>
                      cases hfi
                      obtain ⟨lj', xs3, elj', glj', hlj', rlj'⟩ := inner_at inn3 qd
                      rw [elj] at elj'; cases elj'
                      have ry := rlj'.append (.cons rx .nil)
                      have nl : l0 ≠ lj := fun z => (List.nodup_cons.mp nd).1 (by rw [z]; exact List.mem_of_getElem? elj)
                      have sub3 : Same (addF G2 H2 fr) H2 := addF_sub con2.sub
                      have sub : Same (addF G2 H2 fr) (upd H2 lj (.lst (xs3 ++ [v]))) := fun a o e => by rw [upd_ne (fun z => by rw [z, glj'] at e; cases e)]; exact sub3 a o e
                      refine ⟨lj, xs3, v, rfl, rfl, hlj', by rw [rlj'.length, ← lim_eq]; exact hlen, ?_⟩
                      have rnew : RepC X.K (addF G2 H2 fr) (upd H2 lj (.lst (xs3 ++ [v]))) (.ref l0) (.oll (dss.set j (ds ++ [c1.fz]))) (l0 :: ls) :=
                        .oll g3 (by rw [upd_ne nl]; exact hl3) (inner_set ry inn3 (List.nodup_cons.mp nd).2 elj) nd
                      have mlj : lj ∈ l0 :: ls := by simp [List.mem_of_getElem? elj]
                      have stp : Step (addF G2 H2 fr) H2 (fun a => a ∈ l0 :: ls) (addF G2 H2 fr) (upd H2 lj (.lst (xs3 ++ [v]))) (fun a => a ∈ l0 :: ls) :=
                        ⟨fun _ _ e => e, fun a o e n => by rw [upd_ne (fun z => n (by rw [z]; exact mlj))]; exact e, fun a o e => .inl e, fun a m => .inl m⟩
                      have con4 := con3.step stp (fun a u m => nU2 a m (.inl u)) sub
                      have hi3 : i < e3.length := by
                        have a1 := con2.len
                        have a2 := con1'.len
                        rw [← a1, a2]; simpa using hi
                      have con5 := con4.put (i := i) hi3 rnew fun a m jj hj z => nU2 a m (.inl ⟨jj, z⟩)
                      have es : σ.set i (some (V.ref l0)) = σ := by
                        apply List.ext_getElem?
                        intro jj
                        by_cases q : jj = i
                        · subst q; rw [hv0]; exact List.getElem?_set_self (by rw [con1.len]; exact hi)
                        · rw [List.getElem?_set_ne (fun z => q z.symm)]
                      rw [es] at con5
                      refine k .non _ _ _ [] con5 (.sh .non) (fun a m => by cases m) (s1.trans (?_ : Step G1 H1 (U fp1) _ _ _))
                      have b1 : Step G1 H1 (U fp1) G2 H2 (fun a => U fp2 a ∨ a ∈ fr ∨ a ∈ l0 :: ls) := s2.weak (fun a u => by
                        rcases U_set u with z | z
                        · exact z
                        · cases z) fun a u => by
                        rcases u with u | u | u
                        · exact .inl (.inl u)
                        · exact .inl (.inr u)
                        · exact .inr (.inl ⟨i, by rw [hf]; exact u⟩)
                      have b2 : Step G2 H2 (fun a => U fp2 a ∨ a ∈ fr ∨ a ∈ l0 :: ls) (addF G2 H2 fr) H2 (fun a => U fp2 a ∨ a ∈ fr ∨ a ∈ l0 :: ls) := sf.weak (fun _ z => .inr (.inl z)) fun a u => .inr (.inl u)
                      have b3 : Step (addF G2 H2 fr) H2 (fun a => U fp2 a ∨ a ∈ fr ∨ a ∈ l0 :: ls) (addF G2 H2 fr) (upd H2 lj (.lst (xs3 ++ [v]))) (fun a => U (Fp.set fp2 i (l0 :: ls)) a ∨ a ∈ ([] : List Addr)) := stp.weak (fun _ z => .inr (.inr z)) fun a u => by
                        rcases u with u | u
                        · rcases U_set u with z | z
                          · exact .inr (.inl (.inl z))
                          · exact .inl z
                        · cases u
                      exact (b1.trans b2).trans b3
                · cases e1
        · cases e1
    · cases e1
end

/-! ## x op= e -/
def sAug (i : Nat) (g : Int → Int → Int) (m : EM) : SM := fun env => match env[i]? with
  | some (some (.sh (.int a))) => match m env with
    | some (.sh (.int b), e) => if i < e.length then some (.nx (e.set i (some (.sh (.int (g a b)))))) else none
    | _ => none
  | _ => none
/-- name[ix] op= e, the name a list -/
def sAugIx (i : Nat) (o : Opd) (g : Int → Int → Int) (m : EM) : SM := fun env => match env[i]? with
  | some (some (.ol _)) => (evI o env).bind fun (n, e) => match e[i]? with
    | some (some (.ol ds)) => match atI ds n, m e with
      | some (.int a), some (.sh (.int b), e2) => match e2[i]? with
        | some (some (.ol ds2)) => (ixN ds2.length n).bind fun j => some (.nx (e2.set i (some (.ol (ds2.set j (.int (g a b)))))))
        | _ => none
      | _, _ => none
    | _ => none
  | _ => none
section
variable {X : Cx} {p : Nat} {pos : Pos}
theorem s_aug {i : Nat} {x : Str} {e : Expr} {op : Operator} {g : Int → Int → Int} {pos' : Pos} {m : EM} (hp : p ≤ i) (he : EOk X e m) (hN : X.N.Nodup) (hi : X.N[i]? = some x) (hx : Loc X.env.scope x) (ho : PIp X op (ipI g)) (hf : X.fn x = true ∨ X.env.scope.names.lookup x = some .local := by first | exact .inl rfl | exact .inr rfl | assumption) :
    SOk X p (.AugAssign (.Name x pos') op e pos) (sAug i g m) := ps_mono (ps_aug hN hi hx he ho hf) fun D σ H ⟨env, G, fp, con, o, e1, k⟩ => by
  unfold sAug at e1
  split at e1
  · rename_i a q0
    obtain ⟨v0, hv0, r0⟩ := con.rep i _ q0
    split at e1
    · rename_i b e2 q
      split at e1
      · rename_i hl
        cases e1
        have r0 := r0.of_sh.1
        cases r0
        refine ⟨_, hv0, env, G, fp, con, _, e2, q, fun v G' H' fp' fr c' r n s => ?_⟩
        have r := r.of_sh.1
        cases r
        exact ⟨a, b, rfl, rfl, k _ G' H' _ (con_sh c' hl (.int (g a b))) (s.weak (fun _ u => u) fun a u => .inl (.inl (U_set_nil u))) (take_set hp)⟩
      · cases e1
    · cases e1
  · cases e1
def rGetL (K : Fg) : V → V → Hp → VK → Prop := rIxL K
theorem get_list : PGet X (rGetL X.K) := by
  intro pins s σ H o i ov iv Q I ro ri h
  obtain ⟨p, xs, n, z, rfl, rfl, hq, he, q⟩ := h
  cases ro
  obtain ⟨t, rfl⟩ := ri
  obtain ⟨its, r, pl, hz⟩ := I.list hq
  obtain ⟨j, h1, h2, h3, h4, h5⟩ := atI_get he
  obtain ⟨w, ew, rw'⟩ := r.get h2
  have hl := r.length
  have hn := line63
  have fin : EP X pins σ Q w s := ⟨z, H, I, rw', q⟩
  by_cases h0 : 0 ≤ n
  · have hj : n.toNat = j := by
      rw [seqIndex_of h0 h5] at h1
      exact Option.some.inj h1
    exact wpAny_getItem_list pl.isList h0 (by omega) (by rw [hj]; simpa using ew) fin
  · have hj : (n + (its.toArray.size : Int)).toNat = j := by
      rw [seqIndex_neg (by omega) h4] at h1
      rw [List.size_toArray, ← hl]
      exact Option.some.inj h1
    exact wpAny_getItem_list_neg pl.isList (by omega) (by rw [List.size_toArray] <;> omega) (by omega) (by rw [hj]; simpa using ew) fin
theorem s_augIx {i : Nat} {b ix e : Expr} {o : Opd} {op : Operator} {g : Int → Int → Int} {tpos : Pos} {m : EM} (hb : PE X b (tVar i)) (hx : OOk X ix o) (he : EOk X e m) (ho : PIp X op (ipI g))
    (ha : ∀ ov iv new, augStore ix ov iv new = (do holding [new, ov, iv] (setItem ov iv new); release [new, ov, iv] []; pure .next) := by intros; rfl) : SOk X p (.AugAssign (.Subscript b ix tpos) op e pos) (sAugIx i o g m) := ps_mono (ps_augS hb hx get_list he ho set_list ha) fun D σ H ⟨env, G, fp, con, oo, e1, k⟩ => by
  unfold sAugIx at e1
  split at e1
  · rename_i ds0 q0
    obtain ⟨v0, hv0, _⟩ := con.rep i _ q0
    cases q : evI o env with
    | none => simp [q] at e1
    | some y =>
      obtain ⟨n, e2⟩ := y
      simp only [q, Option.bind_some] at e1
      split at e1
      · rename_i ds q1
        split at e1
        · rename_i a bb e3 qa qm
          split at e1
          · rename_i ds2 q2
            cases qj : ixN ds2.length n with
            | none => simp [qj] at e1
            | some j =>
              simp [qj] at e1; subst e1
              refine ⟨v0, hv0, evI_run con q fun G1 H1 fp1 con1 s1 => ?_⟩
              obtain ⟨v0', hv0', rc⟩ := con1.rep i _ q1
              rw [hv0] at hv0'; cases hv0'
              generalize fp1 i = fi at rc
              cases rc with
              | @ol la xs0 _ g1 hl r1 =>
                obtain ⟨v, ev, rv⟩ := r1.at_ qa
                cases rv
                refine ⟨_, _, n, _, rfl, rfl, SqL.of hl, ev, e2, G1, fp1, con1, _, e3, qm, fun w G2 H2 fp2 fr con2 r2 n2 s2 => ?_⟩
                have r2 := r2.of_sh.1
                cases r2
                refine ⟨a, bb, rfl, rfl, ?_⟩
                obtain ⟨v0'', hv0'', rc2⟩ := con2.rep i _ q2
                rw [hv0] at hv0''; cases hv0''
                have h2 : RepC X.K G2 H2 (.ref _) (.ol ds2) (fp2 i) := rc2
                generalize hf : fp2 i = fi at rc2
                cases rc2 with
                | @ol _ xs _ g2 hl2 r3 =>
                  have sub : Same G2 (upd H2 la (.lst (xs.set j (.int (g a bb))))) := fun a o e => by rw [upd_ne (fun z => by rw [z, g2] at e; cases e)]; exact con2.sub a o e
                  have stp : Step G2 H2 (fun a => a ∈ fp2 i) G2 (upd H2 la (.lst (xs.set j (.int (g a bb))))) (fun a => a ∈ [la] ∨ a ∈ ([] : List Addr)) := by
                    rw [hf]
                    exact ⟨fun _ _ e => e, fun a o e n => by rw [upd_ne (fun z => n (by simp [z]))]; exact e, fun a o e => .inl e, fun a m => .inl (by simpa using m)⟩
                  obtain ⟨fp3, con3, _, s3⟩ := con_mut con2 q2 hv0 sub (.ol g2 upd_same (r3.set (.int (g a bb)) j)) (fun a m => by cases m) stp
                  refine ⟨la, xs, n, j, rfl, rfl, hl2, by rw [r3.length]; exact qj, k σ G2 _ fp3 con3 ((s1.trans (weakT s2)).trans (s3.weak (fun _ u => u) fun a u => .inl (.inl u))) rfl⟩
          · cases e1
        · cases e1
      · cases e1
  · cases e1
end
end Fx
set_option Elab.async false
set_option linter.all false
set_option maxRecDepth 100000
set_option maxHeartbeats 4000000
noncomputable section
namespace Fx
open PySem PySem.Spec L2
open PyProof.Rows (boot_zip boot_enumerate boot_list args_cons args_nil Call_)

/-! ## sources of zip and enumerate: lists, tuples, texts -/
inductive Kd where
  | L (a : Addr) | T (a : Addr) | S (x : Str)
def Kd.v : Kd → V
  | .L a => .ref a | .T a => .ref a | .S x => .str x
def signs (x : Str) : List V := x.cps.toList.map fun c => V.str ⟨#[c]⟩
def Kd.src (K : Fg) (H : Hp) (k : Kd) (xs : List V) : Prop := match k with
  | .L a => SqL K H a xs | .T a => SqT K H a xs | .S x => xs = signs x
def Kd.at_ (h : Heap) (j i : Nat) : Kd → Prop
  | .L a => h.IsListIter j a i | .T a => h.IsTupleIter j a i | .S x => ∃ t, h.IsStrIter j (strIterType x) x t i
def Kd.fps (j : Addr) : Kd → List Addr
  | .L a => [j, a] | .T a => [j, a] | .S _ => [j]
def Kd.lt (n : Nat) : Kd → Prop
  | .L a => a < n | .T a => a < n | .S _ => True
theorem Kd.obj {k : Kd} {h : Heap} {j i : Nat} (st : k.at_ h j i) : ∃ o, h.get? j = some o ∧ ∀ v, o.data ≠ .cell v := by
  cases k with
  | L a => obtain ⟨o, e, _, d⟩ := st; exact ⟨o, e, fun v q => by rw [d] at q; cases q⟩
  | T a => obtain ⟨o, e, _, d⟩ := st; exact ⟨o, e, fun v q => by rw [d] at q; cases q⟩
  | S x => obtain ⟨t, o, e, _, d⟩ := st; exact ⟨o, e, fun v q => by rw [d] at q; cases q⟩
theorem Kd.keep {k : Kd} {h h' : Heap} {j i : Nat} (st : k.at_ h j i) (e : ∀ o, h.get? j = some o → h'.get? j = some o) : k.at_ h' j i := by
  cases k with
  | L a => obtain ⟨o, z, r⟩ := st; exact ⟨o, e o z, r⟩
  | T a => obtain ⟨o, z, r⟩ := st; exact ⟨o, e o z, r⟩
  | S x => obtain ⟨t, o, z, r⟩ := st; exact ⟨t, o, e o z, r⟩
theorem valsR : ∀ {xs : List V} {us : List Value} {i : Nat} {u : Value}, Vals xs us → us[i]? = some u → ∃ x, xs[i]? = some x ∧ RelV x u
  | _, _, _, _, .nil, e => by simp at e
  | _, _, 0, _, .cons r _, e => by simp at e; subst e; exact ⟨_, rfl, r⟩
  | _, _, i + 1, u, .cons _ r, e => by
    obtain ⟨x, h1, h2⟩ := valsR (i := i) r (by simpa using e)
    exact ⟨x, by simpa using h1, h2⟩
section
variable {X : Cx} {pins : List (Addr × Obj)} {σ : St} {H : Hp} {s : Shared}
theorem Kd.src_lt {k : Kd} {xs : List V} (I : Inv X pins σ H s) (h : k.src X.K H xs) : k.lt s.heap.objs.size := by
  cases k with
  | L a => obtain ⟨its, rv, p, _⟩ := I.list h; exact p.lt
  | T a => obtain ⟨its, rv, p, _⟩ := I.tuple h; obtain ⟨o, e, _⟩ := p; exact Heap.lt_size e
  | S x => trivial
theorem Kd.src_inj {k : Kd} {xs ys : List V} (I : Inv X pins σ H s) (h : k.src X.K H xs) (h' : k.src X.K H ys) : xs = ys := by
  cases k with
  | L a => exact I.list_inj h h'
  | T a => exact I.tuple_inj h h'
  | S x => exact Eq.trans h (Eq.symm h')
theorem Kd.draws {k : Kd} {xs : List V} {j i : Nat} {w : World} {A : Around} {P : Program} (I : Inv X pins σ H s) (h : k.src X.K H xs) (hj : ∀ a, (k = .L a ∨ k = .T a) → a ≠ j) (hh : A.handled = none) (st : k.at_ s.heap j i) :
    ∃ (Pr : Nat → Value → Prop) (St : Nat → Heap → Prop), Draws P w A j (k.fps j) xs.length Pr St ∧ St i s.heap ∧ (∀ i h, St i h → k.at_ h j i) ∧ ∀ i v, Pr i v → ∃ y, xs[i]? = some y ∧ RelV y v := by
  cases k with
  | L a =>
    obtain ⟨its, rv, p, _⟩ := I.list h
    have hl : its.toArray.size = xs.length := by simp [rv.length]
    refine ⟨_, _, hl ▸ Draws.list hh j a (hj a (.inl rfl)) its.toArray, ⟨st, p.isList⟩, fun i h z => z.1, fun i v z => ?_⟩
    have z : its[i]? = some v := by simpa using z
    exact valsR rv z
  | T a =>
    obtain ⟨its, rv, p, _⟩ := I.tuple h
    have hl : its.toArray.size = xs.length := by simp [rv.length]
    refine ⟨_, _, hl ▸ Draws.tuple hh j a (hj a (.inr rfl)) its.toArray, ⟨st, p⟩, fun i h z => z.1, fun i v z => ?_⟩
    have z : its[i]? = some v := by simpa using z
    exact valsR rv z
  | S x =>
    have h : xs = signs x := h
    subst h
    obtain ⟨t, st⟩ := st
    have hl : x.cps.size = (signs x).length := by simp [signs]
    refine ⟨_, _, hl ▸ Draws.text hh j x t, st, fun i h z => ⟨t, z⟩, fun i v z => ?_⟩
    obtain ⟨c, u, e1, e2⟩ := z
    subst e2
    exact ⟨.str ⟨#[c]⟩, by simp [signs, e1], u, rfl⟩
theorem Kd.begins {k : Kd} {xs : List V} {u : Value} (I : Inv X pins σ H s) (h : k.src X.K H xs) (r : RelV k.v u) : ∃ (o : Obj) (Hc : Heap → Prop), Begins u o Hc ∧ Hc s.heap ∧ ∀ (h' : Heap) (j : Addr), h'.get? j = some o → k.at_ h' j 0 := by
  cases k with
  | L a =>
    obtain ⟨its, rv, p, _⟩ := I.list h
    cases r
    exact ⟨_, _, begins_list a its.toArray, p.isList, fun h' j e => ⟨_, e, rfl, rfl⟩⟩
  | T a =>
    obtain ⟨its, rv, p, _⟩ := I.tuple h
    cases r
    exact ⟨_, _, begins_tuple a its.toArray, p, fun h' j e => ⟨_, e, rfl, rfl⟩⟩
  | S x =>
    obtain ⟨t, rfl⟩ := r
    exact ⟨_, _, begins_text x t, trivial, fun h' j e => ⟨t, _, e, rfl, rfl⟩⟩
end

theorem ne_nat {a b : Addr} (h : @Ne Nat a b) : a ≠ b := h
theorem zip_sep {k1 k2 : Kd} {n : Nat} (h1 : k1.lt n) (h2 : k2.lt n) : ZipSep2 (n + 4) (n + 2) (n + 3) n (n + 1) (k1.fps n) (k2.fps (n + 1)) := by
  have m1 : ∀ c : Nat, @Membership.mem Addr _ _ (k1.fps n) c → @LE.le Nat _ c n := fun c m => by
    cases k1 <;> simp only [Kd.fps, Kd.lt, List.mem_cons, List.not_mem_nil, or_false] at * <;> (try rcases m with m | m) <;> subst_vars <;> first | exact Nat.le_refl _ | exact Nat.le_of_lt h1
  have m2 : ∀ c : Nat, @Membership.mem Addr _ _ (k2.fps (n + 1)) c → @Eq Nat c (n + 1) ∨ @LT.lt Nat _ c n := fun c m => by
    cases k2 <;> simp only [Kd.fps, Kd.lt, List.mem_cons, List.not_mem_nil, or_false] at * <;> (try rcases m with m | m) <;> subst_vars <;> first | exact .inl rfl | exact .inr h2
  have g1 : n ∈ k1.fps n := by cases k1 <;> simp [Kd.fps]
  have g2 : n + 1 ∈ k2.fps (n + 1) := by cases k2 <;> simp [Kd.fps]
  exact ⟨ne_nat (by omega), ne_nat (by omega), ne_nat (by omega), ne_nat (by omega), g1, fun m => absurd (m1 _ m) (by omega), fun m => absurd (m1 _ m) (by omega), ne_nat (by omega), g2,
    fun m => (m2 _ m).elim (fun z : (n + 4 : Nat) = n + 1 => absurd z (by omega)) fun z => absurd z (by omega), fun m => (m2 _ m).elim (fun z : (n + 3 : Nat) = n + 1 => absurd z (by omega)) fun z => absurd z (by omega),
    fun m => (m2 _ m).elim (fun z : (n : Nat) = n + 1 => absurd z (by omega)) fun z => absurd z (Nat.lt_irrefl _), fun m => absurd (m1 _ m) (by omega)⟩
/-- zip of two sources, the items in new pairs -/
def ItG (K : Fg) (k1 k2 : Kd) : It :=
  ⟨fun i H => ∃ (xs ys : List V) (x y : V), k1.src K H xs ∧ k2.src K H ys ∧ xs[i]? = some x ∧ ys[i]? = some y,
    fun i H v H' => ∃ T x y, v = .ref T ∧ H T = none ∧ H' = upd H T (.tup [x, y]) ∧ (∀ xs, k1.src K H xs → xs[i]? = some x) ∧ ∀ ys, k2.src K H ys → ys[i]? = some y,
    fun i H => ∃ xs ys : List V, k1.src K H xs ∧ k2.src K H ys ∧ i ≤ xs.length ∧ i ≤ ys.length ∧ (i = xs.length ∨ i = ys.length)⟩
structure ZAt (k1 k2 : Kd) (n i : Nat) (h : Heap) : Prop where
  lt1 : k1.lt n
  lt2 : k2.lt n
  z : IsZip h (n + 4) (n + 2) (n + 3) .none
  TI : IsTupOf2 h (n + 2) (.ref n) (.ref (n + 1))
  TO : ∃ x y, IsTupOf2 h (n + 3) x y
  a1 : k1.at_ h n i
  a2 : k2.at_ h (n + 1) i
def zfp (n : Nat) : List Addr := [n + 4, n + 2, n + 3, n, n + 1]
theorem mem_zfp {n c : Nat} (h : c ∈ zfp n) : c = n + 4 ∨ c = n + 2 ∨ c = n + 3 ∨ c = n ∨ c = n + 1 := by simpa [zfp] using h
theorem ZAt.lt {k1 k2 : Kd} {n i : Nat} {h : Heap} (Z : ZAt k1 k2 n i h) {c : Addr} (m : c ∈ zfp n) : c < h.objs.size := by
  obtain ⟨x, y, hTO⟩ := Z.TO
  rcases mem_zfp m with q | q | q | q | q
  · rw [q]; exact Heap.lt_size Z.z
  · rw [q]; exact Heap.lt_size Z.TI
  · rw [q]; exact Heap.lt_size hTO
  · rw [q]; obtain ⟨_, e, _⟩ := Kd.obj Z.a1; exact Heap.lt_size e
  · rw [q]; obtain ⟨_, e, _⟩ := Kd.obj Z.a2; exact Heap.lt_size e
theorem apart1 {k : Kd} {n j : Nat} (h : k.lt n) (hj : n ≤ j) : ∀ a, (k = .L a ∨ k = .T a) → a ≠ j := fun a e => by
  rcases e with e | e
  · subst e; exact Nat.ne_of_lt (Nat.lt_of_lt_of_le h hj)
  · subst e; exact Nat.ne_of_lt (Nat.lt_of_lt_of_le h hj)
theorem turn_zipG {P : Program} {w : World} {K : Fg} {elts : List Expr} {kk : Nat} {tpos : Pos} (k1 k2 : Kd) (n : Nat) : Turn P w K (.Tuple elts kk tpos) (ItG K k1 k2) (zfp n) (n + 4) (ZAt k1 k2 n) where
  mem := by simp [zfp]
  obj := fun i h st c hc => by
    obtain ⟨x, y, hTO⟩ := st.TO
    rcases mem_zfp hc with q | q | q | q | q
    · rw [q]; exact ⟨_, st.z, fun v q => nomatch q⟩
    · rw [q]; exact ⟨_, st.TI, fun v q => nomatch q⟩
    · rw [q]; exact ⟨_, hTO, fun v q => nomatch q⟩
    · rw [q]; exact Kd.obj st.a1
    · rw [q]; exact Kd.obj st.a2
  keep := fun i h h' st k => by
    obtain ⟨x, y, hTO⟩ := st.TO
    exact ⟨st.lt1, st.lt2, k _ (by simp [zfp]) _ st.z, k _ (by simp [zfp]) _ st.TI, ⟨x, y, k _ (by simp [zfp]) _ hTO⟩, Kd.keep st.a1 (k _ (by simp [zfp])), Kd.keep st.a2 (k _ (by simp [zfp]))⟩
  item := by
    intro X hP hw hK hc i pins s σ H E I hf st hg
    subst hP hw hK
    obtain ⟨xs, ys, x, y, hqx, hqy, hx, hy⟩ := hg
    obtain ⟨x0, y0, hTO⟩ := st.TO
    have S := zip_sep st.lt1 st.lt2
    have hh : X.A.in1.handled = none := I.ok.hd hc
    obtain ⟨P1, St1, D1, s1, r1, v1⟩ := Kd.draws (w := X.w) (P := X.prog) (A := X.A.in1) I hqx (apart1 st.lt1 (Nat.le_refl _)) hh st.a1
    obtain ⟨P2, St2, D2, s2, r2, v2⟩ := Kd.draws (w := X.w) (P := X.prog) (A := X.A.in1) I hqy (apart1 st.lt2 (Nat.le_succ _)) hh st.a2
    have hi1 : i < xs.length := (List.getElem?_eq_some_iff.mp hx).1
    have hi2 : i < ys.length := (List.getElem?_eq_some_iff.mp hy).1
    refine wpAny_pyNext_zipD2_item S D1 D2 st.z st.TI hTO s1 s2 hi1 hi2 fun u1 u2 h' tk p1 p2 z' TO' t1 t2 hT hsz hk => ?_
    refine ⟨_, rfl, wpAny_letOwnedTupleGo_zip (s := { s with heap := h', toks := tk }) z' fun h'' z'' sb => ?_⟩
    have ru1 : RelV x u1 := by
      obtain ⟨y', e1, e2⟩ := v1 i u1 p1
      rw [hx] at e1; cases e1; exact e2
    have ru2 : RelV y u2 := by
      obtain ⟨y', e1, e2⟩ := v2 i u2 p2
      rw [hy] at e1; cases e1; exact e2
    have hzl : n + 4 < s.heap.objs.size := Heap.lt_size st.z
    have hT2 : h''.get? s.heap.objs.size = some { cls := .type "tuple", data := .seq #[u1, u2] } := (sb.2 _ (Nat.ne_of_gt hzl)).trans hT
    have new : ObjOk X.prog X.w (upd H s.heap.objs.size (.tup [x, y])) h'' s.heap.objs.size (.tup [x, y]) :=
      ⟨by show 2 ≤ sizeLine; decide, [u1, u2], .cons ru1 (.cons ru2 .nil), ⟨_, hT2, rfl, _, rfl⟩⟩
    have I1 : Inv X pins σ (upd H s.heap.objs.size (.tup [x, y])) { s with heap := h'', toks := tk } :=
      I.turnedNew (t' := tk) (ch := zfp n) (fun c o hb q => (sb.2 c (fun q' => hb (by simp [zfp, q']))).trans (hk c o (fun q' => hb (by simp [zfp, q'])) (fun q' => hb (by simp [zfp, q'])) (fun q' => hb (by simp [zfp, q'])) (fun q' => hb (by simp [zfp, q'])) q)) hf (Nat.le_refl _) new
    refine ⟨.ref s.heap.objs.size, _, I1, rfl, ⟨_, x, y, rfl, I.hok.fresh (Nat.le_refl _), rfl, fun l hl => by rw [Kd.src_inj I hl hqx]; exact hx, fun l hl => by rw [Kd.src_inj I hl hqy]; exact hy⟩, ⟨st.lt1, st.lt2, z'', ?_, ⟨u1, u2, ?_⟩, ?_, ?_⟩, fun c hcm => ?_⟩
    · exact (sb.2 _ S.TIz).trans (hk _ _ S.TIz S.TITO S.TIi1 S.TIi2 st.TI)
    · exact (sb.2 _ S.TOz).trans TO'
    · exact Kd.keep (r1 _ _ t1) fun o q => (sb.2 _ S.zi1.symm).trans q
    · exact Kd.keep (r2 _ _ t2) fun o q => (sb.2 _ S.zi2.symm).trans q
    · rw [upd_ne (Nat.ne_of_lt (st.lt hcm))]
      exact (hf c hcm).1
  done := by
    intro X hP hw hK hc i pins s σ H E I hf st hg
    subst hP hw hK
    obtain ⟨xs, ys, hqx, hqy, l1, l2, hend⟩ := hg
    obtain ⟨x0, y0, hTO⟩ := st.TO
    have S := zip_sep st.lt1 st.lt2
    have hh : X.A.in1.handled = none := I.ok.hd hc
    obtain ⟨P1, St1, D1, s1, r1, v1⟩ := Kd.draws (w := X.w) (P := X.prog) (A := X.A.in1) I hqx (apart1 st.lt1 (Nat.le_refl _)) hh st.a1
    obtain ⟨P2, St2, D2, s2, r2, v2⟩ := Kd.draws (w := X.w) (P := X.prog) (A := X.A.in1) I hqy (apart1 st.lt2 (Nat.le_succ _)) hh st.a2
    exact wpAny_pyNext_zipD2_end S D1 D2 st.z st.TI hTO s1 s2 l1 l2 hend fun h' tk hk => ⟨rfl, I.turnedL (t' := tk) (ch := zfp n) (fun c o hb q =>
      hk c o (fun q' => hb (by simp [zfp, q'])) (fun q' => hb (by simp [zfp, q'])) (fun q' => hb (by simp [zfp, q'])) (fun q' => hb (by simp [zfp, q'])) q) hf⟩
  self := fun A i s Q E st h => wpAny_pyIter_zip st.z h
def iZipG (K : Fg) (ta : TA) : TI := fun σ H R => ta σ H fun vs H1 => ∃ k1 k2 xs ys, vs = [Kd.v k1, Kd.v k2] ∧ k1.src K H1 xs ∧ k2.src K H1 ys ∧ R (ItG K k1 k2) H1
theorem ItG_src {K : Fg} {k : Kd} {xs : List V} {H H' : Hp} (s : Same H H') (h : k.src K H xs) : k.src K H' xs := by
  cases k with
  | L a => exact s.seq h
  | T a => exact Same.sqT s h
  | S x => exact h
section
variable {X : Cx}
/-- the call zip(a, b): its cells -/
theorem zip_new {pins : List (Addr × Obj)} {σ : St} {H : Hp} {s : Shared} {k1 k2 : Kd} {xs ys : List V} {u1 u2 : Value} {A : Around} {Q E} (I : Inv X pins σ H s) (hx : k1.src X.K H xs) (hy : k2.src X.K H ys) (r1 : RelV k1.v u1) (r2 : RelV k2.v u2)
    (h : ∀ h', ZAt k1 k2 s.heap.objs.size 0 h' → Inv X pins σ H { s with heap := h' } → (∀ c o, s.heap.get? c = some o → h'.get? c = some o) → h'.objs.size = s.heap.objs.size + 5 → (∀ c ∈ zfp s.heap.objs.size, FpOk X pins H c) → Q (.ref (s.heap.objs.size + 4)) { s with heap := h' }) :
    wpAny (model X.prog X.w) A (call (.type "zip") [u1, u2]) Q E s := by
  obtain ⟨o1, H1, B1, c1, f1⟩ := Kd.begins I hx r1
  obtain ⟨o2, H2, B2, c2, f2⟩ := Kd.begins I hy r2
  refine zip_begins2 B1 B2 c1 c2 fun h' hz hTI hTO g1 g2 hsz hk => h h' ⟨Kd.src_lt I hx, Kd.src_lt I hy, hz, hTI, ⟨_, _, hTO⟩, f1 _ _ g1, f2 _ _ g2⟩ (I.kept (t' := s.toks) hk) hk hsz fun c hcm => ?_
  have hle : s.heap.objs.size ≤ c := by
    rcases mem_zfp hcm with z | z | z | z | z <;> rw [z] <;> omega
  exact I.fpOk hle (I.hok.fresh hle)
theorem pi_zipG {e e2 : Expr} {ta : TA} {p pos tpos : Pos} {elts : List Expr} {kk : Nat} (hg : Gl X "zip") (hm : X.mg "zip" = none) (ha : PA X [e, e2] ta)
    (hs : starEach [e, e2] X.env = (false, eval e X.env) :: starEach [e2] X.env := by rfl) (hpl : (backTo pos (starEach [e2] X.env)).any (·.1) = false := by rfl) :
    PI X (.Tuple elts kk tpos) (.Call (.Name "zip" p) [e, e2] [] pos) (iZipG X.K ta) := by
  refine ⟨fun pins s σ H R I h => ?_⟩
  refine Call_ (ld_blt I hg hm PyProof.Rows.boot_zip (PyProof.Rows.callWith_type1 (thn (ha.run pos pins s σ H _ I h) fun us s1 ⟨vs, H1, I1, r1, q1⟩ => ?_) hs hpl))
  obtain ⟨k1, k2, xs, ys, ex, hqx, hqy, q1⟩ := q1
  subst ex
  cases r1 with
  | cons r rr =>
    cases rr with
    | cons r' rr =>
      cases rr
      refine zip_new I1 hqx hqy r r' fun h' Z I2 hk hsz fp => wpAny_pyIter_zip Z.z ?_
      exact ⟨_, zfp s1.heap.objs.size, _, _, H1, rfl, I2, turn_zipG k1 k2 _, Z, fp, q1⟩
end
end Fx
set_option Elab.async false
set_option linter.all false
set_option maxRecDepth 100000
set_option maxHeartbeats 4000000
noncomputable section
namespace Fx
open PySem PySem.Spec L2
open PyProof.Rows (boot_zip boot_enumerate boot_list args_cons args_nil Call_)

/-! ## tuple targets -/
section
variable {X : Cx}
theorem g_tup {es : List Expr} {k : Nat} {pos : Pos} {is : List Nat} (hc : X.calm = true) (h : PGs X es (gNames is)) (hn : (assignEach es X.env).length = is.length := by rfl) (hst : (assignEach es X.env).findIdx? (·.1) = none := by rfl) : GOk X (.Tuple es k pos) (.tup is) := pg_tup hc h hn hst
theorem gn_nil : PGs X [] (gNames []) := pgs_nil
theorem gn_cons {e : Expr} {es : List Expr} {i : Nat} {is : List Nat} (h1 : GOk X e (.one i)) (h2 : PGs X es (gNames is)) (hs : (assignEach (e :: es) X.env).map (·.2) = assign e X.env :: (assignEach es X.env).map (·.2) := by rfl) : PGs X (e :: es) (gNames (i :: is)) := pgs_cons h1 h2 hs
end

/-! ## zip, enumerate as what is walked -/
def D.zseq : D → Option (List D)
  | .tup ds => some ds | .lst ds => some ds | .str x => some (x.cps.toList.map fun c => .str ⟨#[c]⟩) | _ => none
theorem reps_signs {K : Fg} {G : Hp} (l : List Nat) : Reps K G (l.map fun c => V.str ⟨#[c]⟩) (l.map fun c => D.str ⟨#[c]⟩) := by
  induction l with
  | nil => exact .nil
  | cons c r ih => exact .cons (.str _) ih
theorem Rep.kd {K : Fg} {G : Hp} {v : V} {d : D} {ds : List D} (r : Rep K G v d) (e : d.zseq = some ds) : ∃ k xs, v = Kd.v k ∧ k.src K G xs ∧ Reps K G xs ds := by
  cases r with
  | tup h rs => cases e; exact ⟨.T _, _, rfl, SqT.of h, rs⟩
  | lst h rs => cases e; exact ⟨.L _, _, rfl, SqL.of h, rs⟩
  | str x => cases e; exact ⟨.S x, _, rfl, rfl, reps_signs _⟩
  | _ => cases e
def zipD (xs ys : List D) : List D := (xs.zip ys).map fun p => .tup [p.1, p.2]
theorem wlk_zip {K : Fg} {G : Hp} {k1 k2 : Kd} {xs ys : List V} {ds es : List D} (h1 : k1.src K G xs) (h2 : k2.src K G ys) (r1 : Reps K G xs ds) (r2 : Reps K G ys es) : Wlk K (ItG K k1 k2) (zipD ds es) G := by
  have hl : (zipD ds es).length = min xs.length ys.length := by simp [zipD, r1.length, r2.length]
  refine ⟨fun i G1 H1 hi s1 s2 => ?_, fun G1 H1 s1 s2 => ⟨xs, ys, ItG_src s2 (ItG_src s1 h1), ItG_src s2 (ItG_src s1 h2), by omega, by omega, by omega⟩⟩
  have hx : i < xs.length := by omega
  have hy : i < ys.length := by omega
  have q1 := ItG_src s2 (ItG_src s1 h1)
  have q2 := ItG_src s2 (ItG_src s1 h2)
  refine ⟨⟨xs, ys, xs[i], ys[i], q1, q2, by simp [hx], by simp [hy]⟩, fun v H2 hv => ?_⟩
  obtain ⟨T, x, y, rfl, hT, rfl, f1, f2⟩ := hv
  obtain ⟨d, e1, rd⟩ := r1.get (f1 xs q1)
  obtain ⟨e, e2, re⟩ := r2.get (f2 ys q2)
  have gT : G1 T = none := none_of_same s2 hT
  have sn : Same G1 (upd G1 T (.tup [x, y])) := same_new gT
  refine ⟨upd G1 T (.tup [x, y]), .tup [d, e], ?_, .tup upd_same (.cons (rd.mono (s1.trans sn)) (.cons (re.mono (s1.trans sn)) .nil)), same_upd2 s2 hT, Step.newG s2 hT⟩
  unfold zipD
  rw [List.getElem?_map]
  have : (ds.zip es)[i]? = some (d, e) := by
    rw [List.getElem?_zip_eq_some]; exact ⟨e1, e2⟩
  rw [this]; rfl
def iZip (ms : List Arg) : IM := fun env => (evA ms env).bind fun (ds, e) => match ds with
  | [a, b] => a.zseq.bind fun xs => b.zseq.bind fun ys => some (zipD xs ys, e)
  | _ => none
section
variable {X : Cx} {e e2 : Expr} {p pos tpos : Pos} {elts : List Expr} {kk : Nat}
theorem i_zip {ms : List Arg} (hg : Gl X "zip") (hm : X.mg "zip" = none) (ha : PA X [e, e2] (tAr X.K ms))
    (hs : starEach [e, e2] X.env = (false, eval e X.env) :: starEach [e2] X.env := by rfl) (hpl : (backTo pos (starEach [e2] X.env)).any (·.1) = false := by rfl) :
    IOk X (.Tuple elts kk tpos) (.Call (.Name "zip" p) [e, e2] [] pos) (iZip ms) := pi_mono (pi_zipG hg hm (paa ha) hs hpl) fun σ H R ⟨env, G, fp, con, ds, env', e1, k⟩ => by
  unfold iZip at e1
  cases q : evA ms env with
  | none => simp [q] at e1
  | some y =>
    obtain ⟨as, e3⟩ := y
    simp only [q, Option.bind_some] at e1
    split at e1
    · rename_i a b
      cases q1 : a.zseq with
      | none => simp [q1] at e1
      | some xs =>
        cases q2 : b.zseq with
        | none => simp [q1, q2] at e1
        | some ys =>
          simp [q1, q2] at e1
          obtain ⟨rfl, rfl⟩ := e1
          refine ⟨env, G, fp, con, _, _, q, fun vs G' H' fp' c' rv s => ?_⟩
          cases rv with
          | cons r1 rv =>
            cases rv with
            | cons r2 rv =>
              cases rv
              obtain ⟨k1, us, rfl, s1, t1⟩ := r1.kd q1
              obtain ⟨k2, ws, rfl, s2, t2⟩ := r2.kd q2
              exact ⟨k1, k2, us, ws, rfl, ItG_src c'.sub s1, ItG_src c'.sub s2, k _ G' H' fp' c' s (wlk_zip s1 s2 t1 t2)⟩
    · cases e1

/-! enumerate -/
def ItE (K : Fg) (k : Kd) : It :=
  ⟨fun i H => ∃ (xs : List V) (x : V), k.src K H xs ∧ xs[i]? = some x,
    fun i H v H' => ∃ T x, v = .ref T ∧ H T = none ∧ H' = upd H T (.tup [.int (i : Nat), x]) ∧ ∀ xs, k.src K H xs → xs[i]? = some x,
    fun i H => ∃ xs : List V, k.src K H xs ∧ i = xs.length⟩
structure EAt (k : Kd) (n i : Nat) (h : Heap) : Prop where
  lt1 : k.lt n
  e : ∃ old, IsEnum h (n + 1) n ((i : Nat) : Int) old
  a1 : k.at_ h n i
theorem EAt.lt {k : Kd} {n i : Nat} {h : Heap} (Z : EAt k n i h) {c : Addr} (m : c ∈ [n + 1, n]) : c < h.objs.size := by
  obtain ⟨old, he⟩ := Z.e
  have q : c = n + 1 ∨ c = n := by simpa using m
  rcases q with q | q
  · rw [q]; exact Heap.lt_size he
  · rw [q]; obtain ⟨_, e, _⟩ := Kd.obj Z.a1; exact Heap.lt_size e
theorem fps_ne {k : Kd} {n : Nat} (h1 : k.lt n) : (n + 1 : Nat) ∉ k.fps n := fun m => by
  have m1 : ∀ c : Nat, @Membership.mem Addr _ _ (k.fps n) c → @LE.le Nat _ c n := fun c m => by
    cases k <;> simp only [Kd.fps, Kd.lt, List.mem_cons, List.not_mem_nil, or_false] at * <;> (try rcases m with m | m) <;> subst_vars <;> first | exact Nat.le_refl _ | exact Nat.le_of_lt h1
  exact absurd (m1 _ m) (by omega)
theorem turn_enumG {P : Program} {w : World} {K : Fg} {elts : List Expr} {kk : Nat} {tpos : Pos} (k : Kd) (n : Nat) : Turn P w K (.Tuple elts kk tpos) (ItE K k) [n + 1, n] (n + 1) (EAt k n) where
  mem := by simp
  obj := fun i h st c hc => by
    obtain ⟨old, he⟩ := st.e
    have q : c = n + 1 ∨ c = n := by simpa using hc
    rcases q with q | q
    · rw [q]; exact ⟨_, he, fun v q => nomatch q⟩
    · rw [q]; exact Kd.obj st.a1
  keep := fun i h h' st k => by
    obtain ⟨old, he⟩ := st.e
    exact ⟨st.lt1, ⟨old, k _ (by simp) _ he⟩, Kd.keep st.a1 (k _ (by simp))⟩
  item := by
    intro X hP hw hK hc i pins s σ H E I hf st hg
    subst hP hw hK
    obtain ⟨xs, x, hqx, hx⟩ := hg
    obtain ⟨old, he⟩ := st.e
    have hh : X.A.in1.handled = none := I.ok.hd hc
    obtain ⟨P1, St1, D1, s1, r1, v1⟩ := Kd.draws (w := X.w) (P := X.prog) (A := X.A.in1) I hqx (apart1 st.lt1 (Nat.le_refl _)) hh st.a1
    have hi1 : i < xs.length := (List.getElem?_eq_some_iff.mp hx).1
    have hel : n + 1 < s.heap.objs.size := Heap.lt_size he
    refine wpAny_pyNext_enum_itemC D1 he s1 hi1 (ne_nat (by omega)) (fps_ne st.lt1) fun u h' tk p1 ho t1 hT hsz hk => ?_
    refine ⟨_, rfl, wpAny_letOwnedTupleGo_enum (s := { s with heap := h', toks := tk + 1 }) ho fun h'' he' sb => ?_⟩
    have ru : RelV x u := by
      obtain ⟨y', e1, e2⟩ := v1 i u p1
      rw [hx] at e1; cases e1; exact e2
    have hT2 : h''.get? s.heap.objs.size = some { cls := .type "tuple", data := .seq #[.int i tk, u] } := (sb.2 _ (Nat.ne_of_gt hel)).trans hT
    have new : ObjOk X.prog X.w (upd H s.heap.objs.size (.tup [.int (i : Nat), x])) h'' s.heap.objs.size (.tup [.int (i : Nat), x]) :=
      ⟨by show 2 ≤ sizeLine; decide, [.int i tk, u], .cons ⟨_, rfl⟩ (.cons ru .nil), ⟨_, hT2, rfl, _, rfl⟩⟩
    have I1 : Inv X pins σ (upd H s.heap.objs.size (.tup [.int (i : Nat), x])) { s with heap := h'', toks := tk + 1 } :=
      I.turnedNew (ch := [n + 1, n]) (fun b ob hb q => (sb.2 b (fun z => hb (by simp [z]))).trans (hk b ob (fun z => hb (by simp [z])) (fun z => hb (by simp [z])) q)) hf (Nat.le_refl _) new
    refine ⟨.ref s.heap.objs.size, _, I1, rfl, ⟨_, x, rfl, I.hok.fresh (Nat.le_refl _), rfl, fun l hl => by rw [Kd.src_inj I hl hqx]; exact hx⟩, ⟨st.lt1, ⟨u, ?_⟩, Kd.keep (r1 _ _ t1) fun o q => (sb.2 _ (ne_nat (by omega))).trans q⟩, fun c hcm => ?_⟩
    · have e1 : ((i + 1 : Nat) : Int) = (i : Int) + 1 := by omega
      rw [e1]; exact he'
    · rw [upd_ne (Nat.ne_of_lt (st.lt hcm))]
      exact (hf c hcm).1
  done := by
    intro X hP hw hK hc i pins s σ H E I hf st hg
    subst hP hw hK
    obtain ⟨xs, hqx, hend⟩ := hg
    subst hend
    obtain ⟨old, he⟩ := st.e
    have hh : X.A.in1.handled = none := I.ok.hd hc
    obtain ⟨P1, St1, D1, s1, r1, v1⟩ := Kd.draws (w := X.w) (P := X.prog) (A := X.A.in1) I hqx (apart1 st.lt1 (Nat.le_refl _)) hh st.a1
    exact wpAny_pyNext_enum_endD D1 he s1 fun h' hk => ⟨rfl, I.turnedL (t' := s.toks) (ch := [n + 1, n]) (fun c o hb q => hk c o (fun q' => hb (by simp [q'])) q) hf⟩
  self := fun A i s Q E st h => by obtain ⟨_, he⟩ := st.e; exact wpAny_pyIter_enum he h
theorem meets_enumerate_newG {v : Value} {o : Obj} {H : Heap → Prop} (B : Begins v o H) :
    Meets (Builtin.«enumerate.__new__» ⟨[.type "enumerate", v], []⟩) (fun _ R s => H s.heap ∧
      R (.ok (.ret (.ref (s.heap.push o).objs.size))) { s with heap := (s.heap.push o).push { cls := .type "enumerate", data := .fields #[.none, .bool false, .ref s.heap.objs.size, rawInt 0, .none, .none] } }) :=
  .of_wp fun prog w A R s h => by
    obtain ⟨hp, g, d, tk, os⟩ := s; obtain ⟨h1, h⟩ := h
    have hsub := sub_enumerate
    have q1 : ∀ {A' : Around} {E : Value → Shared → Prop} {Q : Value → Shared → Prop}, Q (.ref hp.objs.size) ⟨hp.push o, g, d, tk, os⟩ → wpAny (model prog w) A' (pyIter v) Q E ⟨hp, g, d, tk, os⟩ :=
      fun q => B.iter prog w _ _ ⟨hp, g, d, tk, os⟩ _ h1 q
    wp_walk
    refine wpAny_stack_any fun st => wpAny_pure ?_
    split
    · rename_i c _ _ _ _ _
      cases (c == Value.type "enumerate")
      · wp_walk using q1
        exact ⟨_, rfl, h⟩
      · wp_walk using q1
        exact ⟨_, rfl, h⟩
    · wp_walk using q1
      exact ⟨_, rfl, h⟩
theorem enum_new {prog : Program} {w : World} {A : Around} {E : Value → Shared → Prop} {s : Shared} {v : Value} {o : Obj} {H : Heap → Prop} {Q : Value → Shared → Prop} (B : Begins v o H) (h1 : H s.heap)
    (h : ∀ h', IsEnum h' (s.heap.objs.size + 1) s.heap.objs.size 0 .none → h'.get? s.heap.objs.size = some o → h'.objs.size = s.heap.objs.size + 2 →
      (∀ b o, s.heap.get? b = some o → h'.get? b = some o) → Q (.ref (s.heap.objs.size + 1)) { s with heap := h' }) :
    wpAny (model prog w) A (call (.type "enumerate") [v]) Q E s := by
  refine callType_new F.called_enumerate (by decide) (F.typeCall_enumerate_1 _) (F.newCall_enumerate_1 _) (fun obj => F.args_object_init_2 obj _) F.entry_enumerate_new
    (meets_enumerate_newG B) ⟨h1, ?_⟩
  have hz : (s.heap.push o).objs.size = s.heap.objs.size + 1 := Heap.size_push ..
  show _ ∧ _
  rw [hz]
  have he : IsEnum ((s.heap.push o).push { cls := .type "enumerate", data := .fields #[.none, .bool false, .ref s.heap.objs.size, rawInt 0, .none, .none] }) (s.heap.objs.size + 1) s.heap.objs.size 0 .none := by
    have := Heap.get?_push_size (s.heap.push o) (o := { cls := .type "enumerate", data := .fields #[.none, .bool false, .ref s.heap.objs.size, rawInt 0, .none, .none] }) rfl
    rw [hz] at this; exact this
  refine ⟨⟨_, he, rfl⟩, h _ he (Heap.get?_push_of_some _ (Heap.get?_push_size _ B.free)) (by rw [Heap.size_push, hz]) fun b o x => Heap.get?_push_of_some _ (Heap.get?_push_of_some _ x)⟩
def iEnumG (K : Fg) (ta : TA) : TI := fun σ H R => ta σ H fun vs H1 => ∃ k xs, vs = [Kd.v k] ∧ k.src K H1 xs ∧ R (ItE K k) H1
theorem pi_enumG {ta : TA} (hg : Gl X "enumerate") (hm : X.mg "enumerate" = none) (ha : PA X [e] ta) (hs : starEach [e] X.env = [(false, eval e X.env)] := by rfl) :
    PI X (.Tuple elts kk tpos) (.Call (.Name "enumerate" p) [e] [] pos) (iEnumG X.K ta) := by
  refine ⟨fun pins s σ H R I h => ?_⟩
  refine Call_ (ld_blt I hg hm boot_enumerate (PyProof.Rows.callWith_type1 (thn (ha.run pos pins s σ H _ I h) fun us s1 ⟨vs, H1, I1, r1, q1⟩ => ?_) hs rfl))
  obtain ⟨k, xs, ex, hq, q⟩ := q1
  subst ex
  cases r1 with
  | cons r rr =>
    cases rr
    obtain ⟨o1, Hc, B1, c1, f1⟩ := Kd.begins I1 hq r
    refine enum_new B1 c1 fun h' he g1 hsz hk => wpAny_pyIter_enum he ?_
    have I2 : Inv X pins σ H1 { s1 with heap := h' } := I1.kept (t' := s1.toks) hk
    refine ⟨s1.heap.objs.size + 1, [s1.heap.objs.size + 1, s1.heap.objs.size], _, _, H1, rfl, I2, turn_enumG k s1.heap.objs.size, ⟨Kd.src_lt I1 hq, ⟨.none, he⟩, f1 _ _ g1⟩, fun b hb => ?_, q⟩
    have e' : b = s1.heap.objs.size + 1 ∨ b = s1.heap.objs.size := by simpa using hb
    have hle : s1.heap.objs.size ≤ b := by
      rcases e' with z | z
      · rw [z]; exact Nat.le_add_right _ _
      · rw [z]; exact Nat.le_refl _
    exact I1.fpOk hle (I1.hok.fresh hle)
def enumD (ds : List D) : List D := zipD ((List.range ds.length).map fun i => .int (i : Nat)) ds
theorem enumD_get {ds : List D} {i : Nat} {d : D} (h : ds[i]? = some d) : (enumD ds)[i]? = some (.tup [.int (i : Nat), d]) := by
  have hl := (List.getElem?_eq_some_iff.mp h).1
  unfold enumD zipD
  rw [List.getElem?_map]
  have : (List.zip ((List.range ds.length).map fun i => D.int (i : Nat)) ds)[i]? = some (.int (i : Nat), d) := by
    rw [List.getElem?_zip_eq_some]; exact ⟨by simp [hl], h⟩
  rw [this]; rfl
theorem wlk_enum {K : Fg} {G : Hp} {k : Kd} {xs : List V} {ds : List D} (h1 : k.src K G xs) (r1 : Reps K G xs ds) : Wlk K (ItE K k) (enumD ds) G := by
  have hl : (enumD ds).length = xs.length := by simp [enumD, zipD, r1.length]
  refine ⟨fun i G1 H1 hi s1 s2 => ?_, fun G1 H1 s1 s2 => ⟨xs, ItG_src s2 (ItG_src s1 h1), hl⟩⟩
  have hx : i < xs.length := by omega
  have q1 := ItG_src s2 (ItG_src s1 h1)
  refine ⟨⟨xs, xs[i], q1, by simp [hx]⟩, fun v H2 hv => ?_⟩
  obtain ⟨T, x, rfl, hT, rfl, f1⟩ := hv
  obtain ⟨d, e1, rd⟩ := r1.get (f1 xs q1)
  have gT : G1 T = none := none_of_same s2 hT
  have sn : Same G1 (upd G1 T (.tup [.int (i : Nat), x])) := same_new gT
  exact ⟨upd G1 T (.tup [.int (i : Nat), x]), .tup [.int (i : Nat), d], enumD_get e1, .tup upd_same (.cons (.int _) (.cons (rd.mono (s1.trans sn)) .nil)), same_upd2 s2 hT, Step.newG s2 hT⟩
def iEnumM (m : EM) : IM := fun env => (m env).bind fun (c, e) => c.fz.zseq.bind fun xs => some (enumD xs, e)
theorem i_enum {m : EM} (hg : Gl X "enumerate") (hm : X.mg "enumerate" = none) (ha : PA X [e] (tAr X.K [.one m])) (hs : starEach [e] X.env = [(false, eval e X.env)] := by rfl) :
    IOk X (.Tuple elts kk tpos) (.Call (.Name "enumerate" p) [e] [] pos) (iEnumM m) := pi_mono (pi_enumG hg hm (paa ha) hs) fun σ H R ⟨env, G, fp, con, ds, env', e1, k⟩ => by
  unfold iEnumM at e1
  cases q : m env with
  | none => simp [q] at e1
  | some y =>
    obtain ⟨c, e3⟩ := y
    simp only [q, Option.bind_some] at e1
    cases q1 : c.fz.zseq with
    | none => simp [q1] at e1
    | some xs =>
      simp [q1] at e1
      obtain ⟨rfl, rfl⟩ := e1
      refine ⟨env, G, fp, con, [c.fz], e3, by simp [evA, q], fun vs G' H' fp' c' rv s => ?_⟩
      cases rv with
      | cons r1 rv =>
        cases rv
        obtain ⟨k1, us, rfl, s1, t1⟩ := r1.kd q1
        exact ⟨k1, us, rfl, ItG_src c'.sub s1, k _ G' H' fp' c' s (wlk_enum s1 t1)⟩
end
end Fx
set_option Elab.async false
set_option linter.all false
set_option maxRecDepth 100000
set_option maxHeartbeats 4000000
noncomputable section
namespace Fx
open PySem PySem.Spec L2
open PyProof.Rows (boot_zip boot_enumerate boot_list args_cons args_nil Call_)

/-! ## list(zip(a, b)) -/
section
variable {prog : Program} {w : World} {A : Around} {E : Value → Shared → Prop} {s : Shared} {z TI TO i1 i2 T : Addr} {f : Bool} {oT : Obj} {fp1 fp2 : List Addr} {n1 n2 i : Nat} {P1 P2 : Nat → Value → Prop} {St1 St2 : Nat → Heap → Prop}
theorem zh_item {Q : Value → Shared → Prop} (S : ZipSep2 z TI TO i1 i2 fp1 fp2) (D1 : Draws prog w A i1 fp1 n1 P1 St1) (D2 : Draws prog w A i2 fp2 n2 P2 St2)
    (hz : IsZipHeld s.heap z TI TO T f) (hT : s.heap.get? T = some oT) (hTI : IsTupOf2 s.heap TI (.ref i1) (.ref i2)) (st1 : St1 i s.heap) (st2 : St2 i s.heap) (hlt1 : i < n1) (hlt2 : i < n2)
    (hQ : ∀ x1 x2 h' tk, P1 i x1 → P2 i x2 → IsZipHeld h' z TI TO T true → St1 (i + 1) h' → St2 (i + 1) h' → IsTupOf2 h' s.heap.objs.size x1 x2 → h'.objs.size = s.heap.objs.size + 1 →
      (∀ c o, c ≠ z → c ≠ i1 → c ≠ i2 → s.heap.get? c = some o → h'.get? c = some o) → Q (.ref s.heap.objs.size) { s with heap := h', toks := tk }) :
    wpAny (model prog w) A (Builtin.«zip.__next__» ⟨[.ref z], []⟩) (fun fin s' => ∃ v, fin = .done (.ret v) ∧ Q v s') E s := by
  obtain ⟨hp, g, d, tk0, os⟩ := s
  show wpAny _ _ (field (.ref z) 2 >>= _) _ _ _
  refine wpAny_bind (wpAny_field hz rfl (x := .bool false) rfl ?_)
  show wpAny _ _ (field (.ref z) 3 >>= _) _ _ _
  refine wpAny_bind (wpAny_field hz rfl (x := .ref TI) rfl ?_)
  refine wpAny_bind (wpAny_seqItems hTI rfl ?_)
  show wpAny _ _ (Builtin.SmallTypes.ownedTupleIsFree (.ref z) >>= _) _ _ _
  refine wpAny_bind (wpAny_tupleHeld_zip hz hT fun h₁ hz₁ hs₁ => ?_)
  replace hs₁ : Heap.SameBut z hp h₁ := hs₁
  simp only [Bool.false_eq_true, if_false]
  refine wpAny_bind ?_
  rw [← Array.forIn_toList]
  simp only [List.forIn_cons, List.forIn_nil]
  refine wpAny_bind (wpAny_bind (wpAny_holding ?_))
  show wpAny _ _ (Builtin.SmallTypes.nextOf (.ref i1) >>= _) _ _ ⟨h₁, g, d, tk0, os⟩
  refine wpAny_bind (D1.item i _ _ _ hlt1 (D1.over st1 hs₁ S.zf1) fun x1 h₂ tk1 hx1 sn1 hs₂ => wpAny_pure ?_)
  replace hs₂ : Heap.SameBut i1 h₁ h₂ := hs₂
  refine wpAny_pure ?_
  refine wpAny_bind (wpAny_bind (wpAny_holding ?_))
  show wpAny _ _ (Builtin.SmallTypes.nextOf (.ref i2) >>= _) _ _ ⟨h₂, g, d, tk1, os⟩
  refine wpAny_bind (D2.item i _ _ _ hlt2 (D2.over (D2.over st2 hs₁ S.zf2) hs₂ S.sep1_2) fun x2 h₃ tk2 hx2 sn2 hs₃ => wpAny_pure ?_)
  replace hs₃ : Heap.SameBut i2 h₂ h₃ := hs₃
  refine wpAny_pure (wpAny_pure ?_)
  show wpAny _ _ (newTuple [x1, x2] >>= _) _ _ ⟨h₃, g, d, tk2, os⟩
  refine wpAny_bind (wpAny_newTuple ?_)
  have hsz : h₃.objs.size = hp.objs.size := by rw [hs₃.1, hs₂.1, hs₁.1]
  have hz₃ : IsZipHeld h₃ z TI TO T true := hs₃.extBut _ _ S.zi2 (hs₂.extBut _ _ S.zi1 hz₁)
  have hk : ∀ c o, c ≠ z → c ≠ i1 → c ≠ i2 → hp.get? c = some o → h₃.get? c = some o := fun c o c1 c2 c3 e => hs₃.extBut _ _ c3 (hs₂.extBut _ _ c2 (hs₁.extBut _ _ c1 e))
  have h1₃ : St1 (i + 1) h₃ := D1.over sn1 hs₃ S.sep2_1
  refine wpAny_pure ⟨_, rfl, ?_⟩
  show Q (.ref h₃.objs.size) ⟨h₃.push { cls := .type "tuple", data := .seq #[x1, x2] }, g, d, tk2, os⟩
  have hp' : IsTupOf2 (h₃.push { cls := .type "tuple", data := .seq #[x1, x2] }) h₃.objs.size x1 x2 := Heap.get?_push_size _ rfl
  have hz4 : (h₃.push { cls := .type "tuple", data := .seq #[x1, x2] }).objs.size = h₃.objs.size + 1 := Heap.size_push ..
  rw [hsz] at hp' hz4 ⊢
  exact hQ x1 x2 _ tk2 hx1 hx2 (Heap.get?_push_of_some _ hz₃) (D1.frame _ _ _ h1₃ fun b hb o e => Heap.get?_push_of_some _ e) (D2.frame _ _ _ sn2 fun b hb o e => Heap.get?_push_of_some _ e) hp' hz4 fun c o c1 c2 c3 e => Heap.get?_push_of_some _ (hk c o c1 c2 c3 e)
theorem zh_end {Q : Fin → Shared → Prop} (S : ZipSep2 z TI TO i1 i2 fp1 fp2) (D1 : Draws prog w A i1 fp1 n1 P1 St1) (D2 : Draws prog w A i2 fp2 n2 P2 St2)
    (hz : IsZipHeld s.heap z TI TO T f) (hT : s.heap.get? T = some oT) (hTI : IsTupOf2 s.heap TI (.ref i1) (.ref i2)) (st1 : St1 i s.heap) (st2 : St2 i s.heap) (hle1 : i ≤ n1) (hle2 : i ≤ n2) (hend : i = n1 ∨ i = n2)
    (hE : ∀ h' tk e, (∀ c o, c ≠ z → c ≠ i1 → c ≠ i2 → s.heap.get? c = some o → h'.get? c = some o) → (∃ o, h'.get? e = some o ∧ o.cls = .type "StopIteration") → E (.ref e) { s with heap := h', toks := tk }) :
    wpAny (model prog w) A (Builtin.«zip.__next__» ⟨[.ref z], []⟩) Q E s := by
  obtain ⟨hp, g, d, tk0, os⟩ := s
  show wpAny _ _ (field (.ref z) 2 >>= _) _ _ _
  refine wpAny_bind (wpAny_field hz rfl (x := .bool false) rfl ?_)
  show wpAny _ _ (field (.ref z) 3 >>= _) _ _ _
  refine wpAny_bind (wpAny_field hz rfl (x := .ref TI) rfl ?_)
  refine wpAny_bind (wpAny_seqItems hTI rfl ?_)
  show wpAny _ _ (Builtin.SmallTypes.ownedTupleIsFree (.ref z) >>= _) _ _ _
  refine wpAny_bind (wpAny_tupleHeld_zip hz hT fun h₁ hz₁ hs₁ => ?_)
  replace hs₁ : Heap.SameBut z hp h₁ := hs₁
  simp only [Bool.false_eq_true, if_false]
  refine wpAny_bind ?_
  rw [← Array.forIn_toList]
  simp only [List.forIn_cons, List.forIn_nil]
  refine wpAny_bind (wpAny_bind (wpAny_holding ?_))
  show wpAny _ _ (Builtin.SmallTypes.nextOf (.ref i1) >>= _) _ _ ⟨h₁, g, d, tk0, os⟩
  by_cases h1 : i = n1
  · subst h1
    refine wpAny_bind (D1.done _ _ _ (D1.over st1 hs₁ S.zf1) fun h₂ e hs₂ he => ?_)
    exact hE h₂ tk0 e (fun c o c1 c2 _ x => hs₂ _ _ c2 (hs₁.extBut _ _ c1 x)) he
  · have h2 : i = n2 := hend.elim (fun z => absurd z h1) id
    refine wpAny_bind (D1.item i _ _ _ (by omega) (D1.over st1 hs₁ S.zf1) fun x1 h₂ tk1 hx1 sn1 hs₂ => wpAny_pure ?_)
    replace hs₂ : Heap.SameBut i1 h₁ h₂ := hs₂
    refine wpAny_pure ?_
    refine wpAny_bind (wpAny_bind (wpAny_holding ?_))
    show wpAny _ _ (Builtin.SmallTypes.nextOf (.ref i2) >>= _) _ _ ⟨h₂, g, d, tk1, os⟩
    subst h2
    refine wpAny_bind (D2.done _ _ _ (D2.over (D2.over st2 hs₁ S.zf2) hs₂ S.sep1_2) fun h₃ e hs₃ he => ?_)
    exact hE h₃ tk1 e (fun c o c1 c2 c3 x => hs₃ _ _ c3 (hs₂.extBut _ _ c2 (hs₁.extBut _ _ c1 x))) he
theorem zhn_item {Q : Option Value → Shared → Prop} (S : ZipSep2 z TI TO i1 i2 fp1 fp2) (D1 : Draws prog w A.in1 i1 fp1 n1 P1 St1) (D2 : Draws prog w A.in1 i2 fp2 n2 P2 St2)
    (hz : IsZipHeld s.heap z TI TO T f) (hT : s.heap.get? T = some oT) (hTI : IsTupOf2 s.heap TI (.ref i1) (.ref i2)) (st1 : St1 i s.heap) (st2 : St2 i s.heap) (hlt1 : i < n1) (hlt2 : i < n2)
    (hQ : ∀ x1 x2 h' tk, P1 i x1 → P2 i x2 → IsZipHeld h' z TI TO T true → St1 (i + 1) h' → St2 (i + 1) h' → IsTupOf2 h' s.heap.objs.size x1 x2 → h'.objs.size = s.heap.objs.size + 1 →
      (∀ c o, c ≠ z → c ≠ i1 → c ≠ i2 → s.heap.get? c = some o → h'.get? c = some o) → Q (some (.ref s.heap.objs.size)) { s with heap := h', toks := tk }) :
    wpAny (model prog w) A (pyNext (.ref z)) Q E s := by
  have hTy : s.TypeIs (.ref z) "zip" := ⟨_, hz, rfl⟩
  unfold pyNext
  exact wpAny_bind (wpAny_attempt (wpAny_callSpecial?_slot (name := Str.ofString "__next__") hTy F.slot_zip_next
    (wpAny_call_entry F.slot_zip_next hTy F.entry_zip_next
      (zh_item S D1 D2 hz hT hTI st1 st2 hlt1 hlt2 fun x1 x2 h' tk a1 a2 a3 a4 a5 a6 a7 a8 => wpAny_pure (hQ x1 x2 h' tk a1 a2 a3 a4 a5 a6 a7 a8)) (F.args_zip_next_1 _))))
theorem zhn_end {Q : Option Value → Shared → Prop} (S : ZipSep2 z TI TO i1 i2 fp1 fp2) (D1 : Draws prog w A.in1 i1 fp1 n1 P1 St1) (D2 : Draws prog w A.in1 i2 fp2 n2 P2 St2)
    (hz : IsZipHeld s.heap z TI TO T f) (hT : s.heap.get? T = some oT) (hTI : IsTupOf2 s.heap TI (.ref i1) (.ref i2)) (st1 : St1 i s.heap) (st2 : St2 i s.heap) (hle1 : i ≤ n1) (hle2 : i ≤ n2) (hend : i = n1 ∨ i = n2)
    (hQ : ∀ h' tk, (∀ c o, c ≠ z → c ≠ i1 → c ≠ i2 → s.heap.get? c = some o → h'.get? c = some o) → Q none { s with heap := h', toks := tk }) : wpAny (model prog w) A (pyNext (.ref z)) Q E s := by
  have hTy : s.TypeIs (.ref z) "zip" := ⟨_, hz, rfl⟩
  unfold pyNext
  refine wpAny_bind (wpAny_attempt (wpAny_callSpecial?_slot (name := Str.ofString "__next__") hTy F.slot_zip_next
    (wpAny_call_entry F.slot_zip_next hTy F.entry_zip_next (zh_end S D1 D2 hz hT hTI st1 st2 hle1 hle2 hend fun h' tk e hk he => ?_) (F.args_zip_next_1 _))))
  obtain ⟨o, ho, hc⟩ := he
  refine wpAny_bind (wpAny_isInstance (T := "StopIteration") (b := true) ⟨o, ho, hc⟩ isSubtype_stop ?_)
  exact wpAny_pure (hQ _ _ hk)
end
/-- the zip whose cells begin at n, at i -/
structure ZH (k1 k2 : Kd) (n i : Nat) (h : Heap) : Prop where
  lt1 : k1.lt n
  lt2 : k2.lt n
  z : (IsZip h (n + 4) (n + 2) (n + 3) .none ∧ ∃ x y, IsTupOf2 h (n + 3) x y) ∨ ∃ T f oT, IsZipHeld h (n + 4) (n + 2) (n + 3) T f ∧ h.get? T = some oT ∧ T ∉ zfp n
  TI : IsTupOf2 h (n + 2) (.ref n) (.ref (n + 1))
  a1 : k1.at_ h n i
  a2 : k2.at_ h (n + 1) i
theorem ZAt.zh {k1 k2 : Kd} {n i : Nat} {h : Heap} (Z : ZAt k1 k2 n i h) : ZH k1 k2 n i h := ⟨Z.lt1, Z.lt2, .inl ⟨Z.z, Z.TO⟩, Z.TI, Z.a1, Z.a2⟩
theorem ZH.keep {k1 k2 : Kd} {n i : Nat} {h h' : Heap} (Z : ZH k1 k2 n i h) (S : Addr) (hS : S ∉ zfp n) (hT : ∀ o, h.get? S = some o → ∃ o', h'.get? S = some o') (k : ∀ b o, b ≠ S → h.get? b = some o → h'.get? b = some o) : ZH k1 k2 n i h' := by
  have kz : ∀ c ∈ zfp n, ∀ o, h.get? c = some o → h'.get? c = some o := fun c m o e => k c o (fun q => hS (q ▸ m)) e
  refine ⟨Z.lt1, Z.lt2, ?_, kz _ (by simp [zfp]) _ Z.TI, Kd.keep Z.a1 (kz _ (by simp [zfp])), Kd.keep Z.a2 (kz _ (by simp [zfp]))⟩
  rcases Z.z with ⟨z, x, y, t⟩ | ⟨T, f, oT, z, t, m⟩
  · exact .inl ⟨kz _ (by simp [zfp]) _ z, x, y, kz _ (by simp [zfp]) _ t⟩
  · right
    by_cases q : T = S
    · subst q
      obtain ⟨o', e⟩ := hT _ t
      exact ⟨T, f, o', kz _ (by simp [zfp]) _ z, e, m⟩
    · exact ⟨T, f, oT, kz _ (by simp [zfp]) _ z, k _ _ q t, m⟩
section
variable {X : Cx} {pins : List (Addr × Obj)} {σ : St}
theorem ZH.item {k1 k2 : Kd} {n i : Nat} {H : Hp} {s : Shared} {xs ys : List V} {x y : V} {A : Around} {E} {Q : Option Value → Shared → Prop} (hh : A.handled = none) (I : Inv X pins σ H s) (hqx : k1.src X.K H xs) (hqy : k2.src X.K H ys) (hx : xs[i]? = some x) (hy : ys[i]? = some y) (Z : ZH k1 k2 n i s.heap)
    (hQ : ∀ u1 u2 h' tk, RelV x u1 → RelV y u2 → ZH k1 k2 n (i + 1) h' → IsTupOf2 h' s.heap.objs.size u1 u2 → (∀ c o, c ∉ zfp n → s.heap.get? c = some o → h'.get? c = some o) → Q (some (.ref s.heap.objs.size)) { s with heap := h', toks := tk }) :
    wpAny (model X.prog X.w) A (pyNext (.ref (n + 4 : Nat))) Q E s := by
  have S := zip_sep Z.lt1 Z.lt2
  obtain ⟨P1, St1, D1, s1, r1, v1⟩ := Kd.draws (w := X.w) (P := X.prog) (A := A.in1) I hqx (apart1 Z.lt1 (Nat.le_refl _)) hh Z.a1
  obtain ⟨P2, St2, D2, s2, r2, v2⟩ := Kd.draws (w := X.w) (P := X.prog) (A := A.in1) I hqy (apart1 Z.lt2 (Nat.le_succ _)) hh Z.a2
  have hi1 : i < xs.length := (List.getElem?_eq_some_iff.mp hx).1
  have hi2 : i < ys.length := (List.getElem?_eq_some_iff.mp hy).1
  have ru1 : ∀ {u1}, P1 i u1 → RelV x u1 := fun p1 => by
    obtain ⟨y', e1, e2⟩ := v1 i _ p1
    rw [hx] at e1; cases e1; exact e2
  have ru2 : ∀ {u2}, P2 i u2 → RelV y u2 := fun p2 => by
    obtain ⟨y', e1, e2⟩ := v2 i _ p2
    rw [hy] at e1; cases e1; exact e2
  have hn : ∀ c ∈ zfp n, c ≠ s.heap.objs.size := fun c m q => by
    have lt : c < s.heap.objs.size := by
      rcases mem_zfp m with q | q | q | q | q
      · rw [q]; rcases Z.z with ⟨z, _⟩ | ⟨_, _, _, z, _⟩ <;> exact Heap.lt_size z
      · rw [q]; exact Heap.lt_size Z.TI
      · rw [q]
        have : (n + 4 : Nat) < s.heap.objs.size := by rcases Z.z with ⟨z, _⟩ | ⟨_, _, _, z, _⟩ <;> exact Heap.lt_size z
        exact Nat.lt_of_succ_lt this
      · rw [q]; obtain ⟨_, e, _⟩ := Kd.obj Z.a1; exact Heap.lt_size e
      · rw [q]; obtain ⟨_, e, _⟩ := Kd.obj Z.a2; exact Heap.lt_size e
    exact absurd lt (by rw [q]; exact Nat.lt_irrefl _)
  rcases Z.z with ⟨z, x0, y0, t⟩ | ⟨T, f, oT, z, t, m⟩
  · refine wpAny_pyNext_zipD2_item S D1 D2 z Z.TI t s1 s2 hi1 hi2 fun u1 u2 h' tk p1 p2 z' TO' t1 t2 hT hsz hk => ?_
    have kk : ∀ c o, c ∉ zfp n → s.heap.get? c = some o → h'.get? c = some o := fun c o hc e => hk c o (fun q => hc (by simp [zfp, q])) (fun q => hc (by simp [zfp, q])) (fun q => hc (by simp [zfp, q])) (fun q => hc (by simp [zfp, q])) e
    exact hQ u1 u2 h' tk (ru1 p1) (ru2 p2) ⟨Z.lt1, Z.lt2, .inr ⟨s.heap.objs.size, false, _, z', hT, fun m => hn _ m rfl⟩, hk _ _ S.TIz S.TITO S.TIi1 S.TIi2 Z.TI, r1 _ _ t1, r2 _ _ t2⟩ hT kk
  · refine zhn_item S D1 D2 z t Z.TI s1 s2 hi1 hi2 fun u1 u2 h' tk p1 p2 z' t1 t2 hT hsz hk => ?_
    have kk : ∀ c o, c ∉ zfp n → s.heap.get? c = some o → h'.get? c = some o := fun c o hc e => hk c o (fun q => hc (by simp [zfp, q])) (fun q => hc (by simp [zfp, q])) (fun q => hc (by simp [zfp, q])) e
    exact hQ u1 u2 h' tk (ru1 p1) (ru2 p2) ⟨Z.lt1, Z.lt2, .inr ⟨T, true, _, z', kk _ _ m t, m⟩, hk _ _ S.TIz S.TIi1 S.TIi2 Z.TI, r1 _ _ t1, r2 _ _ t2⟩ hT kk
theorem ZH.done {k1 k2 : Kd} {n i : Nat} {H : Hp} {s : Shared} {xs ys : List V} {A : Around} {E} {Q : Option Value → Shared → Prop} (hh : A.handled = none) (I : Inv X pins σ H s) (hqx : k1.src X.K H xs) (hqy : k2.src X.K H ys) (hx : i ≤ xs.length) (hy : i ≤ ys.length) (he : i = xs.length ∨ i = ys.length) (Z : ZH k1 k2 n i s.heap)
    (hQ : ∀ h' tk, (∀ c o, c ∉ zfp n → s.heap.get? c = some o → h'.get? c = some o) → Q none { s with heap := h', toks := tk }) :
    wpAny (model X.prog X.w) A (pyNext (.ref (n + 4 : Nat))) Q E s := by
  have S := zip_sep Z.lt1 Z.lt2
  obtain ⟨P1, St1, D1, s1, r1, v1⟩ := Kd.draws (w := X.w) (P := X.prog) (A := A.in1) I hqx (apart1 Z.lt1 (Nat.le_refl _)) hh Z.a1
  obtain ⟨P2, St2, D2, s2, r2, v2⟩ := Kd.draws (w := X.w) (P := X.prog) (A := A.in1) I hqy (apart1 Z.lt2 (Nat.le_succ _)) hh Z.a2
  rcases Z.z with ⟨z, x0, y0, t⟩ | ⟨T, f, oT, z, t, m⟩
  · exact wpAny_pyNext_zipD2_end S D1 D2 z Z.TI t s1 s2 hx hy he fun h' tk hk => hQ h' tk fun c o hc e => hk c o (fun q => hc (by simp [zfp, q])) (fun q => hc (by simp [zfp, q])) (fun q => hc (by simp [zfp, q])) (fun q => hc (by simp [zfp, q])) e
  · exact zhn_end S D1 D2 z t Z.TI s1 s2 hx hy he fun h' tk hk => hQ h' tk fun c o hc e => hk c o (fun q => hc (by simp [zfp, q])) (fun q => hc (by simp [zfp, q])) (fun q => hc (by simp [zfp, q])) e
/-- the pairs that were made: new tuples -/
inductive Prs (H0 H : Hp) (l : Addr) : List V → List (V × V) → Prop
  | nil : Prs H0 H l [] []
  | cons {T : Addr} {x y : V} {ts : List V} {ps : List (V × V)} : H0 T = none → T ≠ l → H T = some (.tup [x, y]) → Prs H0 H l ts ps → Prs H0 H l (.ref T :: ts) ((x, y) :: ps)
theorem Prs.mono {H0 H H' : Hp} {l : Addr} (k : ∀ a o, a ≠ l → H a = some o → H' a = some o) : ∀ {ts : List V} {ps : List (V × V)}, Prs H0 H l ts ps → Prs H0 H' l ts ps
  | _, _, .nil => .nil
  | _, _, .cons a b c r => .cons a b (k _ _ b c) (Prs.mono k r)
theorem Prs.snoc {H0 H : Hp} {l T : Addr} {x y : V} (a : H0 T = none) (b : T ≠ l) (c : H T = some (.tup [x, y])) : ∀ {ts : List V} {ps : List (V × V)}, Prs H0 H l ts ps → Prs H0 H l (ts ++ [.ref T]) (ps ++ [(x, y)])
  | _, _, .nil => .cons a b c .nil
  | _, _, .cons a' b' c' r => .cons a' b' c' (Prs.snoc a b c r)
theorem Prs.length {H0 H : Hp} {l : Addr} : ∀ {ts : List V} {ps : List (V × V)}, Prs H0 H l ts ps → ts.length = ps.length
  | _, _, .nil => rfl
  | _, _, .cons _ _ _ r => by simp [Prs.length r]
theorem zloop {k1 k2 : Kd} {n : Nat} {S : Addr} {xs ys : List V} {H0 : Hp} {A : Around} {res : Value} {R : Result → Shared → Prop} (hh : A.handled = none) (hS : S ∉ zfp n) (hl : min xs.length ys.length ≤ lim) (h0S : H0 S = none) (q1 : k1.src X.K H0 xs) (q2 : k2.src X.K H0 ys)
    (hR : ∀ H' s' ts, Inv X pins σ H' s' → H' S = some (.lst ts) → Same H0 H' → Prs H0 H' S ts (xs.zip ys) → R (.ok (.ret res)) s') :
    ∀ (m i : Nat) (H : Hp) (s : Shared) (ts : List V), min xs.length ys.length - i = m → i ≤ min xs.length ys.length → Inv X pins σ H s → ZH k1 k2 n i s.heap → (∀ c ∈ zfp n, FpOk X pins H c) → H S = some (.lst ts) → Same H0 H → Prs H0 H S ts ((xs.zip ys).take i) →
    codeAny (model X.prog X.w) A (.builtin "list.extend.loop" ⟨[.ref S, .ref (n + 4 : Nat), res], []⟩) R s := by
  intro m
  induction m with
  | zero =>
    intro i H s ts hm hi I Z hf hT sm pr
    refine codeAny_builtin F.entry_extend_loop ?_
    rw [Around.under_plainId F.plain_extend_loop _]
    show wpAny _ A.in1 (pyNext (.ref (n + 4 : Nat)) >>= _) _ _ s
    refine wpAny_bind (ZH.done (A := A.in1) hh I (ItG_src sm q1) (ItG_src sm q2) (by omega) (by omega) (by omega) Z fun h' tk hk => ?_)
    refine wpAny_pure (hR H _ ts (I.turnedL (t' := tk) (ch := zfp n) (fun c o hb q => hk c o hb q) hf) hT sm ?_)
    rwa [List.take_of_length_le (by rw [List.length_zip]; omega)] at pr
  | succ m ih =>
    intro i H s ts hm hi I Z hf hT sm pr
    have hi1 : i < xs.length := by omega
    have hi2 : i < ys.length := by omega
    refine codeAny_builtin F.entry_extend_loop ?_
    rw [Around.under_plainId F.plain_extend_loop _]
    show wpAny _ A.in1 (pyNext (.ref (n + 4 : Nat)) >>= _) _ _ s
    refine wpAny_bind (ZH.item (A := A.in1) hh I (ItG_src sm q1) (ItG_src sm q2) (List.getElem?_eq_getElem hi1) (List.getElem?_eq_getElem hi2) Z fun u1 u2 h' tk r1 r2 Z' hT2 hk => ?_)
    have hTn : H s.heap.objs.size = none := I.hok.fresh (Nat.le_refl _)
    have new : ObjOk X.prog X.w (upd H s.heap.objs.size (.tup [xs[i], ys[i]])) h' s.heap.objs.size (.tup [xs[i], ys[i]]) :=
      ⟨by show 2 ≤ sizeLine; decide, [u1, u2], .cons r1 (.cons r2 .nil), ⟨_, hT2, rfl, _, rfl⟩⟩
    have I1 : Inv X pins σ (upd H s.heap.objs.size (.tup [xs[i], ys[i]])) { s with heap := h', toks := tk } := I.turnedNew (t' := tk) (ch := zfp n) (fun c o hb q => hk c o hb q) hf (Nat.le_refl _) new
    have nST : S ≠ s.heap.objs.size := fun q => by rw [q, hTn] at hT; cases hT
    have hT1 : upd H s.heap.objs.size (.tup [xs[i], ys[i]]) S = some (.lst ts) := by rw [upd_ne nST]; exact hT
    obtain ⟨zl, us, c, rs, hlen, e⟩ := I1.lstM hT1
    have hts : ts.length = i := by rw [pr.length, List.length_take, List.length_zip]; omega
    show wpAny _ A.in1 (updateSeq S (·.push (Value.ref s.heap.objs.size)) >>= _) _ _ _
    refine wpAny_bind ?_
    have I2 : Inv X pins σ (upd (upd H s.heap.objs.size (.tup [xs[i], ys[i]])) S (.lst (ts ++ [.ref s.heap.objs.size]))) { s with heap := h'.update S (Obj.mapSeq (·.push (Value.ref s.heap.objs.size))), toks := tk } :=
      I1.lset (its' := us ++ [Value.ref s.heap.objs.size]) hT1 e (by simp) (rs.append (.cons rfl .nil)) (by rw [List.length_append, List.length_singleton, ← lim_eq]; omega)
    have hnz : ∀ c ∈ zfp n, c ≠ s.heap.objs.size := fun c m q => by
      have := (hf c m)
      have lt : c < s.heap.objs.size := by
        rcases mem_zfp m with q | q | q | q | q
        · rw [q]; rcases Z.z with ⟨z, _⟩ | ⟨_, _, _, z, _⟩ <;> exact Heap.lt_size z
        · rw [q]; exact Heap.lt_size Z.TI
        · rw [q]
          have : (n + 4 : Nat) < s.heap.objs.size := by rcases Z.z with ⟨z, _⟩ | ⟨_, _, _, z, _⟩ <;> exact Heap.lt_size z
          exact Nat.lt_of_succ_lt this
        · rw [q]; obtain ⟨_, e, _⟩ := Kd.obj Z.a1; exact Heap.lt_size e
        · rw [q]; obtain ⟨_, e, _⟩ := Kd.obj Z.a2; exact Heap.lt_size e
      exact absurd lt (by rw [q]; exact Nat.lt_irrefl _)
    have hT0 : H0 s.heap.objs.size = none := sm.free hTn
    refine wpAny_updateSeq (s := { s with heap := h', toks := tk }) e rfl (wpAny_pure ⟨plainId_quiet F.plain_extend_loop _, ih (i + 1) _ _ (ts ++ [.ref s.heap.objs.size]) (by omega) (by omega) I2 ?_ (fun c m => ?_) upd_same ?_ ?_⟩)
      (by rw [List.size_toArray, ← hlen, ← lim_eq]; omega) (by show (us.toArray.push _).size ≤ sizeLine + 1; rw [Array.size_push, List.size_toArray, ← hlen, ← lim_eq]; omega)
    · exact Z'.keep S hS (fun o _ => ⟨_, Heap.get?_update_self _ e rfl⟩) fun b o hb q => (Heap.get?_update_other _ _ (fun h : S = b => hb h.symm)).trans q
    · obtain ⟨f0, f1⟩ := hf c m
      have ncS : c ≠ S := fun q => hS (by rw [← q]; exact m)
      exact ⟨by rw [upd_ne ncS, upd_ne (hnz c m)]; exact f0, f1⟩
    · intro a o ea
      rw [upd_ne (fun q => by rw [q, h0S] at ea; cases ea), upd_ne (fun q => by rw [q, hT0] at ea; cases ea)]
      exact sm a o ea
    · have et : (xs.zip ys).take (i + 1) = (xs.zip ys).take i ++ [(xs[i], ys[i])] := by
        rw [List.take_add_one, List.getElem?_zip_eq_some (z := (xs[i], ys[i])).mpr ⟨List.getElem?_eq_getElem hi1, List.getElem?_eq_getElem hi2⟩]; rfl
      rw [et]
      have hp1 : Prs H0 (upd (upd H s.heap.objs.size (.tup [xs[i], ys[i]])) S (.lst (ts ++ [.ref s.heap.objs.size]))) S ts ((xs.zip ys).take i) := pr.mono fun a o na ea => by
        rw [upd_ne na, upd_ne (fun q => by rw [q, hTn] at ea; cases ea)]; exact ea
      exact hp1.snoc hT0 (fun q => nST q.symm) (by rw [upd_ne (fun q => nST q.symm)]; exact upd_same)
end
theorem zip_no_len0 : typeLookup (.type "zip") "__len__" = pure none := am_miss_of_fast (by decide +kernel)
theorem zip_no_hint0 : typeLookup (.type "zip") "__length_hint__" = pure none := am_miss_of_fast (by decide +kernel)
section
variable {X : Cx} {pins : List (Addr × Obj)} {σ : St}
theorem ext_zip {k1 k2 : Kd} {n : Nat} {S : Addr} {xs ys : List V} {H0 H : Hp} {s : Shared} {A : Around} {res : Value} {R : Result → Shared → Prop} (hh : A.handled = none) (hS : S ∉ zfp n) (hl : min xs.length ys.length ≤ lim) (h0S : H0 S = none) (q1 : k1.src X.K H0 xs) (q2 : k2.src X.K H0 ys)
    (I : Inv X pins σ H s) (Z : ZH k1 k2 n 0 s.heap) (hf : ∀ c ∈ zfp n, FpOk X pins H c) (hT : H S = some (.lst [])) (sm : Same H0 H)
    (hR : ∀ H' s' ts, Inv X pins σ H' s' → H' S = some (.lst ts) → Same H0 H' → Prs H0 H' S ts (xs.zip ys) → R (.ok (.ret res)) s') :
    wpAny (model X.prog X.w) A.in1 (Builtin.List.listExtendWith (.ref S) (.ref (n + 4 : Nat)) res)
      (fun fin s' => match fin with | .done f => R (.ok f) s' | .again c' => c'.quiet = true ∧ codeAny (model X.prog X.w) A c' R s') (fun e s' => R (.error e) s') s := by
  have hzT : ∃ o, s.heap.get? (n + 4 : Nat) = some o ∧ o.cls = .type "zip" := by rcases Z.z with ⟨z, _⟩ | ⟨_, _, _, z, _⟩ <;> exact ⟨_, z, rfl⟩
  obtain ⟨oz, hz, hzc⟩ := hzT
  have hSI : S ≠ (n + 4 : Nat) := fun q => hS (by rw [q]; simp [zfp])
  unfold Builtin.List.listExtendWith
  refine wpAny_bind (wpAny_typeOf (T := "zip") ⟨oz, hz, hzc⟩ ?_)
  have h1 : Builtin.List.listSameRef (.ref S) (.ref (n + 4 : Nat)) = false := by simp [Builtin.List.listSameRef, hSI]
  have h2 : (Value.type "zip" == Value.type "list") = false := by decide
  have h3 : (Value.type "zip" == Value.type "tuple") = false := by decide
  simp only [h1, h2, h3, Bool.or_false, Bool.false_eq_true, if_false]
  have it : ∀ {Q : Value → Shared → Prop} {E}, Q (.ref (n + 4 : Nat)) s → wpAny (model X.prog X.w) A.in1 (pyIter (.ref (n + 4 : Nat))) Q E s := fun q => by
    rcases Z.z with ⟨z, _⟩ | ⟨_, _, _, z, _⟩
    · exact wpAny_pyIter_zip z q
    · have hT' : s.TypeIs (.ref (n + 4 : Nat)) "zip" := ⟨_, z, rfl⟩
      refine wpAny_pyIter_slot hT' F.slot_zip_iter (wpAny_call_entry F.slot_zip_iter hT' F.entry_zip_iter ?_ (F.args_zip_iter_1 _))
      show wpAny _ _ (ret (.ref (n + 4 : Nat))) _ _ s
      exact wpAny_pure ⟨_, rfl, "zip", _, hT', F.slot_zip_next.lookup, q⟩
  refine wpAny_bind (it ?_)
  refine wpAny_bind (wpAny_holding ?_)
  unfold Builtin.List.listLengthHint
  refine wpAny_bind (wpAny_specialOf ⟨oz, hz, hzc⟩ zip_no_len0 ?_)
  show wpAny _ A.in1 (specialOf (Value.ref (n + 4 : Nat)) (Str.ofString "__length_hint__") >>= _) _ _ _
  refine wpAny_bind (wpAny_specialOf ⟨oz, hz, hzc⟩ zip_no_hint0 ?_)
  refine wpAny_pure ?_
  show wpAny _ A.in1 (rule "list.extend.makes-room" >>= fun _ => Builtin.List.listTouch (.ref S) >>= fun _ =>
    again (.builtin "list.extend.loop" ⟨[.ref S, .ref (n + 4 : Nat), res], []⟩)) _ _ _
  refine wpAny_bind (wpAny_rule ?_)
  obtain ⟨zl, us, c, rs, hlen, e⟩ := I.lstM hT
  have hus : us = [] := by cases us with | nil => rfl | cons => simp at hlen
  subst hus
  refine wpAny_bind ?_
  show wpAny _ A.in1 (updateSeq S (·.push .none) >>= fun _ => updateSeq S (·.pop)) _ _ _
  refine wpAny_bind (wpAny_updateSeq e rfl ?_)
  have hS₂ := Heap.get?_update_self (Obj.mapSeq (·.push Value.none)) e rfl
  refine wpAny_updateSeq hS₂ rfl ?_
  have hS₃ := Heap.get?_update_self (Obj.mapSeq (·.pop)) hS₂ rfl
  have oth : ∀ b o, b ≠ S → s.heap.get? b = some o → ((s.heap.update S (Obj.mapSeq (·.push Value.none))).update S (Obj.mapSeq (·.pop))).get? b = some o :=
    fun b o hb e => (Heap.get?_update_other _ _ (Ne.symm hb)).trans ((Heap.get?_update_other _ _ (Ne.symm hb)).trans e)
  have I2 : Inv X pins σ (upd H S (.lst [])) { s with heap := (s.heap.update S (Obj.mapSeq (·.push Value.none))).update S (Obj.mapSeq (·.pop)) } :=
    I.write (x := S) (e := S) (t' := s.toks) (by rw [hT]; exact trivial) (.inl rfl) oth ⟨_, hS₃⟩ ⟨by show 0 ≤ sizeLine; exact Nat.zero_le _, [], _, .nil, hS₃⟩
  refine wpAny_pure ⟨plainId_quiet F.plain_extend_loop _, zloop (H0 := H0) hh hS hl h0S q1 q2 hR _ 0 _ _ [] rfl (Nat.zero_le _) I2 ?_ (fun c m => ?_) upd_same (fun a o ea => ?_) (by rw [List.take_zero]; exact .nil)⟩
  · exact Z.keep S hS (fun o _ => ⟨_, hS₃⟩) oth
  · obtain ⟨f0, f1⟩ := hf c m
    have ncS : c ≠ S := fun q => hS (by rw [← q]; exact m)
    exact ⟨by rw [upd_ne ncS]; exact f0, f1⟩
  · rw [upd_ne (fun q => by rw [q, h0S] at ea; cases ea)]
    exact sm a o ea
end
end Fx
set_option Elab.async false
set_option linter.all false
set_option maxRecDepth 100000
set_option maxHeartbeats 4000000
noncomputable section
namespace Fx
open PySem PySem.Spec L2
open PyProof.Rows (boot_zip boot_enumerate boot_list args_cons args_nil Call_)
section
variable {X : Cx} {pins : List (Addr × Obj)} {σ : St}
theorem call_listZip {k1 k2 : Kd} {n : Nat} {xs ys : List V} {H : Hp} {s : Shared} {A : Around} {Q : Value → Shared → Prop} {E} (hh : A.handled = none) (hn : n + 5 ≤ s.heap.objs.size) (hl : min xs.length ys.length ≤ lim) (q1 : k1.src X.K H xs) (q2 : k2.src X.K H ys)
    (I : Inv X pins σ H s) (Z : ZH k1 k2 n 0 s.heap) (hf : ∀ c ∈ zfp n, FpOk X pins H c)
    (hQ : ∀ H' s' ts, Inv X pins σ H' s' → H s.heap.objs.size = none → H' s.heap.objs.size = some (.lst ts) → Same H H' → Prs H H' s.heap.objs.size ts (xs.zip ys) → Q (.ref s.heap.objs.size) s') :
    wpAny (model X.prog X.w) A (call (.type "list") [.ref (n + 4 : Nat)]) Q E s := by
  have hTn : H s.heap.objs.size = none := I.fresh
  refine callType_codes (Q₁ := fun obj s₁ => obj = .ref s.heap.objs.size ∧ s₁ = { s with heap := s.heap.push { cls := .type "list", data := .seq #[] } }) F.called_list (F.typeCall_list_1 _) F.entry_list_init
    (code_list_new _ ⟨rfl, rfl⟩) fun obj s₁ h₁ => ?_
  obtain ⟨rfl, rfl⟩ := h₁
  have hS : (s.heap.push { cls := .type "list", data := .seq #[] }).get? s.heap.objs.size = some { cls := .type "list", data := .seq #[] } := Heap.get?_push_size _ rfl
  refine ⟨⟨_, hS, rfl⟩, F.args_list_init_2 _ _, ?_⟩
  show wpAny _ A.in1.in1 (do let old ← Builtin.List.listItems (.ref s.heap.objs.size); Builtin.List.listUpdate (.ref s.heap.objs.size) (fun _ => #[]); letGo old.toList.reverse; Builtin.List.listExtendWith (.ref s.heap.objs.size) (.ref (n + 4 : Nat)) .none) _ _ _
  refine wpAny_bind ?_
  unfold Builtin.List.listItems
  refine wpAny_bind (wpAny_seqItems hS rfl (wpAny_pure ?_))
  show wpAny _ _ (updateSeq s.heap.objs.size (fun _ => #[]) >>= fun _ => letGo (#[] : Array Value).toList.reverse >>= fun _ => Builtin.List.listExtendWith (.ref s.heap.objs.size) (.ref (n + 4 : Nat)) .none) _ _ _
  refine wpAny_bind (wpAny_updateSeq hS rfl ?_)
  have hS₂ := Heap.get?_update_self (Obj.mapSeq (fun _ => (#[] : Array Value))) hS rfl
  have oth : ∀ b o, b ≠ s.heap.objs.size → s.heap.get? b = some o → ((s.heap.push { cls := .type "list", data := .seq #[] }).update s.heap.objs.size (Obj.mapSeq (fun _ => (#[] : Array Value)))).get? b = some o :=
    fun b o hb e => (Heap.get?_update_other _ _ (Ne.symm hb)).trans (Heap.get?_push_of_some _ e)
  have oth2 : ∀ b o, s.heap.get? b = some o → ((s.heap.push { cls := .type "list", data := .seq #[] }).update s.heap.objs.size (Obj.mapSeq (fun _ => (#[] : Array Value)))).get? b = some o :=
    fun b o e => oth b o (Nat.ne_of_lt (Heap.lt_size e)) e
  refine wpAny_bind (wpAny_letGo ?_)
  have nS : s.heap.objs.size ∉ zfp n := fun m => by
    rcases mem_zfp m with q | q | q | q | q <;> omega
  have I1 : Inv X pins σ (upd H s.heap.objs.size (.lst [])) { s with heap := (s.heap.push { cls := .type "list", data := .seq #[] }).update s.heap.objs.size (Obj.mapSeq (fun _ => (#[] : Array Value))) } :=
    I.laid (t' := s.toks) oth2 (Nat.le_refl _) ⟨by show 0 ≤ sizeLine; exact Nat.zero_le _, [], _, .nil, hS₂⟩
  refine ext_zip (H0 := H) hh nS hl hTn q1 q2 I1 (Z.keep s.heap.objs.size nS (fun o e => absurd (Heap.lt_size e) (Nat.lt_irrefl _)) oth) (fun c m => ?_) upd_same (same_new hTn) fun H' s' ts I' hT' sm pr => ?_
  · obtain ⟨f0, f1⟩ := hf c m
    have ncS : c ≠ s.heap.objs.size := fun q => nS (by rw [← q]; exact m)
    exact ⟨by rw [upd_ne ncS]; exact f0, f1⟩
  · exact ⟨rfl, hQ H' s' ts I' hTn hT' sm pr⟩
def tLZip (K : Fg) (ta : TA) : TE := fun σ H Q => ta σ H fun vs H1 => ∃ k1 k2 xs ys, vs = [Kd.v k1, Kd.v k2] ∧ k1.src K H1 xs ∧ k2.src K H1 ys ∧ min xs.length ys.length ≤ lim ∧
  ∀ H' l ts, H1 l = none → H' l = some (.lst ts) → Same H1 H' → Prs H1 H' l ts (xs.zip ys) → Q (.ref l) H'
theorem pe_listZip {e e2 : Expr} {ta : TA} {p p2 pos pos2 : Pos} (hc : X.calm = true) (hg : Gl X "list") (hm : X.mg "list" = none) (hg2 : Gl X "zip") (hm2 : X.mg "zip" = none) (ha : PA X [e, e2] ta)
    (hs : starEach [e, e2] X.env = (false, eval e X.env) :: starEach [e2] X.env := by rfl) (hpl : (backTo pos2 (starEach [e2] X.env)).any (·.1) = false := by rfl)
    (na : starEach [.Call (.Name "zip" p2) [e, e2] [] pos2] X.env = (false, eval (.Call (.Name "zip" p2) [e, e2] [] pos2) X.env) :: starEach [] X.env := by rfl) :
    PE X (.Call (.Name "list" p) [.Call (.Name "zip" p2) [e, e2] [] pos2] [] pos) (tLZip X.K ta) := by
  refine ⟨fun pins s σ H Q I h => ?_⟩
  refine Call_ (ld_blt I hg hm boot_list (PyProof.Rows.callWith_type1 (args_cons ?_ na) na))
  refine Call_ (ld_blt I hg2 hm2 boot_zip (PyProof.Rows.callWith_type1 (thn (ha.run pos2 pins s σ H _ I h) fun us s1 ⟨vs, H1, I1, r1, q1⟩ => ?_) hs hpl))
  obtain ⟨k1, k2, xs, ys, ex, hqx, hqy, hl, q1⟩ := q1
  subst ex
  cases r1 with
  | cons r rr =>
    cases rr with
    | cons r' rr =>
      cases rr
      refine zip_new I1 hqx hqy r r' fun h' Z I2 hk hsz fp => args_nil ?_
      exact call_listZip (I1.ok.hd hc) (by show _ ≤ h'.objs.size; omega) hl hqx hqy I2 Z.zh fp fun H' s' ts I' hn hT sm pr => ⟨.ref _, H', I', rfl, q1 H' _ ts hn hT sm pr⟩
def eLZip (ms : List Arg) : EM := fun env => (evA ms env).bind fun (ds, e) => match ds with
  | [a, b] => a.zseq.bind fun xs => b.zseq.bind fun ys => if min xs.length ys.length ≤ lim then some (.ol (zipD xs ys), e) else none
  | _ => none
/-- the addresses of the pairs -/
theorem Prs.reps {K : Fg} {G H0 H : Hp} {l : Addr} (s0 : Same G H0) : ∀ {ts : List V} {xs ys : List V} {ds es : List D}, Prs H0 H l ts (xs.zip ys) → Reps K G xs ds → Reps K G ys es →
    ∃ f : List Addr, (∀ a ∈ f, H0 a = none ∧ a ≠ l ∧ ∃ o, H a = some o) ∧ Reps K (addF G H f) ts (zipD ds es)
  | ts, [], ys, _, es, p, .nil, _ => by
    cases p
    exact ⟨[], (fun a m => by cases m), Reps.nil⟩
  | ts, x :: xs, [], d :: ds, _, p, .cons _ _, .nil => by
    cases p
    exact ⟨[], (fun a m => by cases m), Reps.nil⟩
  | _, x :: xs, y :: ys, d :: ds, e :: es, .cons (T := T) hT nT hh p, .cons rd rs, .cons re res => by
    obtain ⟨f, hf, r⟩ := Prs.reps s0 p rs res
    refine ⟨T :: f, fun a m => ?_, ?_⟩
    · rcases List.mem_cons.mp m with q | m
      · subst q; exact ⟨hT, nT, _, hh⟩
      · exact hf a m
    · have sG : Same G (addF G H (T :: f)) := addF_same fun a m => by
        rcases List.mem_cons.mp m with q | m
        · subst q; exact none_of_same s0 hT
        · exact none_of_same s0 (hf a m).1
      have s2 : Same (addF G H f) (addF G H (T :: f)) := fun a o ea => by
        unfold addF at ea ⊢
        by_cases m : a ∈ f
        · rw [if_pos m] at ea; rw [if_pos (by simp [m])]; exact ea
        · rw [if_neg m] at ea
          have : a ∉ T :: f := fun z => by
            rcases List.mem_cons.mp z with q | z
            · subst q
              rw [none_of_same s0 hT] at ea; cases ea
            · exact m z
          rw [if_neg this]; exact ea
      exact .cons (.tup (by unfold addF; rw [if_pos (by simp)]; exact hh) (.cons (rd.mono sG) (.cons (re.mono sG) .nil))) (r.mono s2)
theorem ok_lzip {e e2 : Expr} {ms : List Arg} {p p2 pos pos2 : Pos} (hc : X.calm = true) (hg : Gl X "list") (hm : X.mg "list" = none) (hg2 : Gl X "zip") (hm2 : X.mg "zip" = none) (ha : PA X [e, e2] (tAr X.K ms))
    (hs : starEach [e, e2] X.env = (false, eval e X.env) :: starEach [e2] X.env := by rfl) (hpl : (backTo pos2 (starEach [e2] X.env)).any (·.1) = false := by rfl)
    (na : starEach [.Call (.Name "zip" p2) [e, e2] [] pos2] X.env = (false, eval (.Call (.Name "zip" p2) [e, e2] [] pos2) X.env) :: starEach [] X.env := by rfl) :
    EOk X (.Call (.Name "list" p) [.Call (.Name "zip" p2) [e, e2] [] pos2] [] pos) (eLZip ms) := pe_mono (pe_listZip hc hg hm hg2 hm2 (paa ha) hs hpl na) fun σ H Q ⟨env, G, fp, con, c, env', e1, k⟩ => by
  unfold eLZip at e1
  cases q : evA ms env with
  | none => simp [q] at e1
  | some y =>
    obtain ⟨as, e3⟩ := y
    simp only [q, Option.bind_some] at e1
    split at e1
    · rename_i a b
      cases q1 : a.zseq with
      | none => simp [q1] at e1
      | some xs =>
        cases q2 : b.zseq with
        | none => simp [q1, q2] at e1
        | some ys =>
          simp only [q1, q2, Option.bind_some] at e1
          split at e1
          · rename_i hl
            cases e1
            refine ⟨env, G, fp, con, _, _, q, fun vs G' H' fp' c' rv s => ?_⟩
            cases rv with
            | cons r1 rv =>
              cases rv with
              | cons r2 rv =>
                cases rv
                obtain ⟨k1, us, rfl, s1, t1⟩ := r1.kd q1
                obtain ⟨k2, ws, rfl, s2, t2⟩ := r2.kd q2
                refine ⟨k1, k2, us, ws, rfl, ItG_src c'.sub s1, ItG_src c'.sub s2, by rw [t1.length, t2.length]; exact hl, fun H2 l ts hn hT sm pr => ?_⟩
                obtain ⟨f, hf, rr⟩ := pr.reps c'.sub t1 t2
                have sub2 : Same (addF G' H2 f) H2 := addF_sub (c'.sub.trans sm)
                have gl : addF G' H2 f l = none := by
                  unfold addF
                  rw [if_neg fun m => (hf l m).2.1 rfl]
                  exact none_of_same c'.sub hn
                refine k.end_ (W := fun _ => False) (fr := [l]) c' (s.weak (fun _ u => u) fun a u => u.elim .inl fun z => z.elim) (fun a z => z.elim) (G2 := addF G' H2 f) ?_ sub2 (.ol gl hT rr)
                refine ⟨addF_same fun a m => none_of_same c'.sub (hf a m).1, fun a o ea _ => sm a o ea, fun a o ea => ?_, fun a m => ?_⟩
                · rcases addF_gr ea with z | z
                  · exact .inl z
                  · exact .inr (.inl (.inl (hf a z).1))
                · simp at m; subst m; exact .inr hn
          · cases e1
    · cases e1
end
end Fx
set_option Elab.async false
set_option linter.all false
set_option maxRecDepth 100000
set_option maxHeartbeats 4000000
noncomputable section
namespace Fx
open PySem PySem.Spec L2
open PyProof.Rows (boot_list args_cons args_nil Call_ IntsAre seqObj sortedHeap keyLt' tuples' keyKind' sortedAll)
open SrtO (Swo Srtd Stb SortableO Cmp lt2 iv)

/-! ## insertion sort -/
section
variable {α : Type}
def insr (lt : α → α → Bool) (x : α) : List α → List α
  | [] => [x]
  | y :: r => if lt y x then y :: insr lt x r else x :: y :: r
def isrt (lt : α → α → Bool) : List α → List α
  | [] => []
  | x :: r => insr lt x (isrt lt r)
theorem insr_perm (lt : α → α → Bool) (x : α) : ∀ l : List α, (insr lt x l).Perm (x :: l)
  | [] => .refl _
  | y :: r => by
    unfold insr
    split
    · exact ((insr_perm lt x r).cons y).trans (.swap ..)
    · exact .refl _
theorem isrt_perm (lt : α → α → Bool) : ∀ l : List α, (isrt lt l).Perm l
  | [] => .refl _
  | x :: r => (insr_perm lt x _).trans ((isrt_perm lt r).cons x)
theorem insr_srtd {lt : α → α → Bool} (O : Swo lt) (x : α) : ∀ {l : List α}, Srtd lt l → Srtd lt (insr lt x l)
  | [], _ => List.pairwise_singleton _ _
  | y :: r, h => by
    have hp := List.pairwise_cons.mp h
    unfold insr
    split
    · rename_i q
      refine List.pairwise_cons.mpr ⟨fun z m => ?_, insr_srtd O x hp.2⟩
      rcases List.mem_cons.mp ((insr_perm lt x r).mem_iff.mp m) with e | m
      · subst e; exact O.asym _ _ q
      · exact hp.1 z m
    · rename_i q
      have q : lt y x = false := by simpa using q
      refine List.pairwise_cons.mpr ⟨fun z m => ?_, h⟩
      rcases List.mem_cons.mp m with e | m
      · subst e; exact q
      · exact O.tr x y z q (hp.1 z m)
theorem isrt_srtd {lt : α → α → Bool} (O : Swo lt) : ∀ l : List α, Srtd lt (isrt lt l)
  | [] => List.Pairwise.nil
  | x :: r => insr_srtd O x (isrt_srtd O r)
theorem srt_uniq {lt : α → α → Bool} (O : Swo lt) (anti : ∀ x y, lt x y = false → lt y x = false → x = y) : ∀ {l m : List α}, Srtd lt l → Srtd lt m → l.Perm m → l = m
  | [], m, _, _, h => (List.Perm.eq_nil h.symm).symm
  | x :: l, [], _, _, h => absurd h.length_eq (by simp)
  | x :: l, y :: m, hl, hm, h => by
    have h1 : lt x y = false := by
      rcases List.mem_cons.mp (h.mem_iff.mp (List.mem_cons_self (a := x) (l := l))) with e | hx
      · rw [e]; exact O.refl y
      · exact (List.pairwise_cons.mp hm).1 x hx
    have h2 : lt y x = false := by
      rcases List.mem_cons.mp (h.mem_iff.mpr (List.mem_cons_self (a := y) (l := m))) with e | hy
      · rw [e]; exact O.refl x
      · exact (List.pairwise_cons.mp hl).1 y hy
    have e := anti x y h1 h2
    subst e
    rw [srt_uniq O anti (List.pairwise_cons.mp hl).2 (List.pairwise_cons.mp hm).2 h.cons_inv]
end
/-! ## orders -/
def ltI (i j : Int) : Bool := decide (i < j)
theorem swoI : Swo ltI := ⟨fun x y h => by unfold ltI at *; simp at *; omega, fun x y z a b => by unfold ltI at *; simp at *; omega⟩
theorem antiI (x y : Int) (a : ltI x y = false) (b : ltI y x = false) : x = y := by unfold ltI at *; simp at *; omega
def lexL : List Int → List Int → Bool
  | [], [] => false
  | [], _ :: _ => true
  | _ :: _, [] => false
  | x :: xs, y :: ys => if x = y then lexL xs ys else decide (x < y)
theorem lexL_asym : ∀ x y : List Int, lexL x y = true → lexL y x = false
  | [], [], h => by cases h
  | [], _ :: _, _ => rfl
  | _ :: _, [], h => by cases h
  | x :: xs, y :: ys, h => by
    unfold lexL at h ⊢
    by_cases e : x = y
    · rw [if_pos e] at h; rw [if_pos e.symm]; exact lexL_asym xs ys h
    · rw [if_neg e] at h; rw [if_neg fun z => e z.symm]; simp at h ⊢; omega
theorem lexL_tr : ∀ x y z : List Int, lexL y x = false → lexL z y = false → lexL z x = false
  | [], [], [], _, _ => rfl
  | [], [], _ :: _, _, _ => rfl
  | [], _ :: _, [], _, h => by cases h
  | [], _ :: _, _ :: _, _, _ => rfl
  | _ :: _, [], _, h, _ => by cases h
  | _ :: _, _ :: _, [], _, h => by cases h
  | x :: xs, y :: ys, z :: zs, h1, h2 => by
    unfold lexL at h1 h2 ⊢
    by_cases e1 : y = x
    · rw [if_pos e1] at h1
      by_cases e2 : z = y
      · rw [if_pos e2] at h2
        rw [if_pos (e2.trans e1)]
        exact lexL_tr xs ys zs h1 h2
      · rw [if_neg e2] at h2
        rw [if_neg (fun q => e2 (q.trans e1.symm))]
        simp at h2 ⊢; omega
    · rw [if_neg e1] at h1
      by_cases e2 : z = y
      · rw [if_neg (fun q => e1 (e2.symm.trans q))]
        simp at h1 ⊢; omega
      · rw [if_neg e2] at h2
        simp at h1 h2
        rw [if_neg (by omega)]
        simp; omega
theorem lexL_anti : ∀ x y : List Int, lexL x y = false → lexL y x = false → x = y
  | [], [], _, _ => rfl
  | [], _ :: _, h, _ => by cases h
  | _ :: _, [], _, h => by cases h
  | x :: xs, y :: ys, h1, h2 => by
    unfold lexL at h1 h2
    by_cases e : x = y
    · rw [if_pos e] at h1; rw [if_pos e.symm] at h2
      rw [e, lexL_anti xs ys h1 h2]
    · rw [if_neg e] at h1; rw [if_neg fun z => e z.symm] at h2
      simp at h1 h2; omega
theorem swoL : Swo lexL := ⟨lexL_asym, fun x y z => lexL_tr x y z⟩
theorem swo_on {α β : Type} {lt : β → β → Bool} (O : Swo lt) (f : α → β) : Swo fun x y => lt (f x) (f y) := ⟨fun x y h => O.asym _ _ h, fun x y z a b => O.tr _ _ _ a b⟩

/-! ## tuples of ints compared -/
section
variable {prog : Program} {w : World} {A : Around} {E : Value → Shared → Prop} {s : Shared}
theorem kat_ints {fin : Bool} {Q : Bool → Shared → Prop} : ∀ {us ws : List Value} {ns ms : List Int} (i : Nat), IntsAre us ns → IntsAre ws ms → fin = decide (us.length < ws.length) → Q (lexL ns ms) s → PySem.W.KatLex prog w A true fin Q (us.zip ws) i s
  | _, _, _, _, i, .nil, .nil, hf, h => PySem.W.kat_nil (by rw [hf]; exact h)
  | _, _, _, _, i, .nil, .cons .., hf, h => PySem.W.kat_nil (by rw [hf]; simpa [lexL] using h)
  | _, _, _, _, i, .cons .., .nil, hf, h => PySem.W.kat_nil (by rw [hf]; simpa [lexL] using h)
  | _, _, _, _, i, .cons x t r, .cons y u q, hf, h => by
    rw [List.zip_cons_cons]
    refine PySem.W.kat_cons (SeqAt.EqAt.int_int x t y u prog w _ _ ?_)
    refine PySem.W.kat_go (fun e1 => ?_) (fun e1 => ?_)
    · have ex : x = y := by simpa using e1
      exact PySem.W.kat_yes (kat_ints (i + 1) r q (by rw [hf]; simp) (by unfold lexL at h; rwa [if_pos ex] at h))
    · have ex : ¬ x = y := by simpa using e1
      exact PySem.W.kat_no (TS.oneLt_ints _ (by unfold lexL at h; rwa [if_neg ex] at h))
def IsTI (h : Heap) (v : Value) (ns : List Int) : Prop := ∃ a o xs n, v = .ref a ∧ h.get? a = some o ∧ o.cls = .type "tuple" ∧ o.data = .seq xs n ∧ IntsAre xs.toList ns ∧ ns ≠ []
theorem IsTI.keeps {h h' : Heap} {v : Value} {ns : List Int} (t : IsTI h v ns) (k : ∀ b o, h.get? b = some o → o.cls = .type "tuple" → h'.get? b = some o) : IsTI h' v ns := by
  obtain ⟨a, o, xs, n, e, ho, hc, r⟩ := t
  exact ⟨a, o, xs, n, e, k a o ho hc, hc, r⟩
theorem tup_cmp {vs : List Value} {k : Value → List Int} (hp : ∀ v ∈ vs, IsTI s.heap v (k v)) : Cmp prog w A s (tuples' true) (fun p => p.1 ∈ vs) (lt2 fun v u => lexL (k v) (k u)) := by
  intro p q hm hm'
  have h1 := hp _ hm
  have h2 := hp _ hm'
  show wpAny (model prog w) A (keyLt' (tuples' true) p.1 q.1) (fun r s' => s' = s ∧ r = lexL (k p.1) (k q.1)) (fun _ _ => False) s
  generalize k p.1 = ns at h1 ⊢
  generalize k q.1 = ms at h2 ⊢
  obtain ⟨a, o, xs, n, e, ho, hc, hd, hI, _⟩ := h1
  obtain ⟨a', o', xs', n', e', ho', hc', hd', hI', _⟩ := h2
  rw [e, e']
  refine PySem.W.kat_lt ho hd ho' hd' ?_
  exact kat_ints 0 hI hI' (by simp) ⟨rfl, rfl⟩
theorem tup_firsts : ∀ {vs : List Value} {k : Value → List Int}, (∀ v ∈ vs, IsTI s.heap v (k v)) → ∃ fs, PySem.W.KatTups s.heap vs fs ∧ fs.length = vs.length ∧ ∀ f ∈ fs, ∃ x t, f = Value.int x t
  | [], _, _ => ⟨[], .nil, rfl, fun f m => by cases m⟩
  | v :: vs, k, h => by
    obtain ⟨fs, h1, h2, h3⟩ := tup_firsts (vs := vs) (k := k) fun u m => h u (by simp [m])
    obtain ⟨a, o, xs, n, e, ho, hc, hd, hI, hne⟩ := h v (by simp)
    subst e
    cases hx : xs.toList with
    | nil => rw [hx] at hI; generalize k (.ref a) = z at *; cases hI; exact absurd rfl hne
    | cons f r =>
      rw [hx] at hI
      have hf : xs[0]? = some f := by rw [← Array.getElem?_toList, hx]; rfl
      refine ⟨f :: fs, .cons ho hc hd hf h1, by simp [h2], fun g m => ?_⟩
      rcases List.mem_cons.mp m with e | m
      · subst e
        generalize k (.ref a) = z at *
        cases hI with
        | cons x t _ => exact ⟨x, t, rfl⟩
      · exact h3 g m
theorem tup_sortable {a : Addr} {vs : List Value} {k : Value → List Int} (h0 : 0 < vs.length) (hp : ∀ v ∈ vs, IsTI s.heap v (k v)) (ha : ∀ o, s.heap.get? a = some o → o.cls ≠ .type "tuple") : SortableO prog w A s a vs fun v u => lexL (k v) (k u) := by
  intro h' keep
  have hp' : ∀ v ∈ vs, IsTI h' v (k v) := fun v hm => (hp v hm).keeps fun b o e c => keep b o (fun z => by subst z; exact ha o e c) e
  obtain ⟨fs, h1, h2, h3⟩ := tup_firsts (s := { s with heap := h' }) hp'
  refine ⟨tuples' true, fun Q E hq => ?_, tup_cmp hp'⟩
  refine PySem.W.kat_kind (T := .type "int") h1 (by omega) (fun f hm => ?_) (by rfl) ?_
  · obtain ⟨x, t, rfl⟩ := h3 f hm
    exact PySem.W.Looks.now
  · have e : (Value.type "int" != Value.type "tuple") = true := by first | decide +kernel | rfl | decide
    rw [e]
    exact hq
/-- sorted(l), a list or a tuple -/
theorem sorted_seq {l : Addr} {T : String} {ob : Obj} {vs : List Value} {nn : Nat} {ltv : Value → Value → Bool} {Q : Value → Shared → Prop} (O : Swo ltv) (hT : T = "list" ∨ T = "tuple") (ho : s.heap.get? l = some ob) (hc : ob.cls = .type T) (hd : ob.data = .seq vs.toArray nn) (hz : vs.length ≤ sizeLine)
    (hS : 2 ≤ vs.length → ∀ (h₁ : Heap) (a : Addr), h₁.get? a = some (seqObj "list" vs.toArray 0) → (∀ b o, s.heap.get? b = some o → b ≠ a ∧ h₁.get? b = some o) → SortableO prog w A.in1.in1 { s with heap := h₁ } a vs ltv)
    (h : ∀ (out : List Value) (h1 h' : Heap), Srtd ltv out → Stb ltv out vs → (∀ b o, s.heap.get? b = some o → h1.get? b = some o) → (∀ b o, h1.get? b = some o → h'.get? b = some o) → (∃ n, h'.get? h1.objs.size = some (seqObj "list" out.toArray n)) → Q (.ref h1.objs.size) { s with heap := h' }) :
    wpAny (model prog w) A (call (.builtin "sorted") [.ref l]) Q E s := by
  refine Calls.call_function_entry PyProof.Rows.kind_sorted PyProof.Rows.plain_sorted PyProof.Rows.entry_sorted (PyProof.Rows.args_sorted1 _) ?_
  unfold Builtin.«sorted»
  refine wpAny_bind (m := checkCount "sorted" 1 1 _) (wpAny_pure ?_)
  refine wpAny_bind (wpAny_collect_seq l hT ho hc hd (fun h1 k1 => ?_) (by rw [List.size_toArray]; exact hz))
  rw [List.toList_toArray]
  refine wpAny_bind (wpAny_newList ?_ hz)
  have hoL : (h1.push (seqObj "list" vs.toArray 0)).get? h1.objs.size = some (seqObj "list" vs.toArray 0) := Heap.get?_push_size _ rfl
  have keep : ∀ b o, s.heap.get? b = some o → b ≠ h1.objs.size ∧ (h1.push (seqObj "list" vs.toArray 0)).get? b = some o := fun b o q =>
    ⟨Nat.ne_of_lt (Heap.lt_size (k1 b o q)), Heap.get?_push_of_some _ (k1 b o q)⟩
  show wpAny _ _ _ _ _ { s with heap := h1.push (seqObj "list" vs.toArray 0) }
  refine wpAny_bind (wpAny_holding (wpAny_call_entry PyProof.Rows.slot_list_sort ⟨_, hoL, rfl⟩ PyProof.Rows.entry_list_sort (SrtO.list_sort_ord O hoL hz (fun h2 => hS h2 _ _ hoL keep) fun out hs hb => ⟨_, rfl, ?_⟩) (PyProof.Rows.args_list_sort _)))
  refine wpAny_pure ⟨_, rfl, h out _ _ hs hb k1 (fun b o e => ?_) (PyProof.Rows.sortedHeap_at hoL)⟩
  have e2 : (h1.push (seqObj "list" vs.toArray 0)).get? b = some o := Heap.get?_push_of_some _ e
  exact (PyProof.Rows.sortedHeap_old (Nat.ne_of_lt (Heap.lt_size e)) (Heap.lt_size e2)).trans e2
end

def rSortedA (K : Fg) : List V → Hp → VK → Prop := fun vs H Q => ∃ (a : Addr) (xs : List V), vs = [V.ref a] ∧ (SqL K H a xs ∨ SqT K H a xs) ∧ ((∃ ns : List Int, xs = ns.map V.int ∧ ∀ p, H p = none → Q (.ref p) (upd H p (.lst ((isrt ltI ns).map V.int)))) ∨
  ∃ k : V → List Int, (∀ x ∈ xs, ∃ t, x = V.ref t ∧ H t = some (.tup ((k x).map V.int)) ∧ k x ≠ []) ∧ ∀ ys p, ys.Perm xs → ys.map k = isrt lexL (xs.map k) → H p = none → Q (.ref p) (upd H p (.lst ys)))
section
variable {X : Cx}
theorem intsAre_of : ∀ {ns : List Int} {us : List Value}, Vals (ns.map V.int) us → IntsAre us ns := fun {ns us} h => RZ.intsAre_vals h
theorem cr_sortedA : CallR X (.builtin "sorted") (rSortedA X.K) := by
  intro pins s σ H vs us Q I r h
  obtain ⟨a, xs, rfl, hs, q⟩ := h
  obtain ⟨its, T, ob, nn, rv, hT, ho, hc, hd, hz⟩ : ∃ its T ob nn, Vals xs its ∧ (T = "list" ∨ T = "tuple") ∧ s.heap.get? a = some ob ∧ ob.cls = .type T ∧ ob.data = .seq its.toArray nn ∧ xs.length ≤ sizeLine := by
    rcases hs with hs | hs
    · obtain ⟨its, rv, p, hz⟩ := I.list hs
      obtain ⟨ob, ho, hc, n, hd⟩ := p.isList
      exact ⟨its, "list", ob, n, rv, .inl rfl, ho, hc, hd, hz⟩
    · obtain ⟨its, rv, p, hz⟩ := I.tuple hs
      obtain ⟨ob, ho, hc, n, hd⟩ := p
      exact ⟨its, "tuple", ob, n, rv, .inr rfl, ho, hc, hd, hz⟩
  have hzv : its.length ≤ sizeLine := by rw [← rv.length]; exact hz
  rw [Vals.ref1 r]
  have fin : ∀ {h1 h' : Heap} {out : List Value} {ys : List V}, (∀ b o, s.heap.get? b = some o → h1.get? b = some o) → (∀ b o, h1.get? b = some o → h'.get? b = some o) → (∃ n, h'.get? h1.objs.size = some (PyProof.Rows.seqObj "list" out.toArray n)) →
      Vals ys out → ys.length ≤ sizeLine → (∀ p, H p = none → Q (.ref p) (upd H p (.lst ys))) → EP X pins σ Q (.ref h1.objs.size) { s with heap := h' } := fun {h1 h' out ys} k1 k2 hn rv' hl' q => by
    obtain ⟨n, hn⟩ := hn
    have I1 : Inv X pins σ H { s with heap := h1 } := I.kept (t' := s.toks) k1
    exact ⟨.ref _, upd H h1.objs.size (.lst ys), I1.laid (t' := s.toks) k2 (Nat.le_refl _) ⟨hl', out, n, rv', hn⟩, rfl, q _ (I1.hok.fresh (Nat.le_refl _))⟩
  rcases q with ⟨ns, rfl, q⟩ | ⟨k, hk, q⟩
  · have hi := intsAre_of rv
    refine sorted_seq SrtO.swo_int hT ho hc hd hzv (fun h2 h₁ a' _ _ => SrtO.ints_sortable hi h2) fun out h1 h' hs hb k1 k2 hn => ?_
    obtain ⟨g1, g2, g3⟩ := SrtO.ints_out hi hs hb
    have e : out.map iv = isrt ltI ns := by
      refine srt_uniq swoI antiI ?_ (isrt_srtd swoI ns) (g2.trans (isrt_perm ltI ns).symm)
      exact g3.imp fun {x y} h => by unfold ltI; simp; exact h
    refine fin (ys := (isrt ltI ns).map V.int) k1 k2 hn (by rw [← e]; exact vals_of_ints g1) ?_ q
    rw [List.length_map, (isrt_perm ltI ns).length_eq]
    rwa [List.length_map] at hz
  · obtain ⟨e1, e2⟩ := refs_back rv fun x m => by
      obtain ⟨t, e, _⟩ := hk x m
      exact ⟨t, e⟩
    have hti : ∀ (h : Heap), (∀ b o, s.heap.get? b = some o → h.get? b = some o) → ∀ v ∈ its, IsTI h v (k (backV v)) := fun hh kk v hv => by
      obtain ⟨t, rfl⟩ := e2 v hv
      have hm : V.ref t ∈ xs := by rw [e1]; exact List.mem_map.mpr ⟨_, hv, rfl⟩
      obtain ⟨t', e, ht, hne⟩ := hk _ hm
      cases e
      obtain ⟨_, its2, r2, o, ho2, hc2, n, hd2⟩ := I.hok _ _ ht
      exact ⟨_, o, _, n, rfl, kk _ _ ho2, hc2, hd2, by rw [List.toList_toArray]; exact intsAre_of r2, hne⟩
    refine sorted_seq (swo_on swoL fun v => k (backV v)) hT ho hc hd hzv (fun h2 h₁ a' ha kk => ?_) fun out h1 h' hs hb k1 k2 hn => ?_
    · refine tup_sortable (s := { s with heap := h₁ }) (k := fun v => k (backV v)) (by omega) (hti h₁ fun b o e => (kk b o e).2) fun o e => ?_
      have e' : some o = some (PyProof.Rows.seqObj "list" its.toArray 0) := e.symm.trans ha
      cases e'
      intro c
      exact absurd (Value.type.inj c) (by decide)
    · have h3 : ∀ u ∈ out, ∃ a, u = Value.ref a := fun u hu => e2 u (hb.perm.mem_iff.mp hu)
      have hp : (out.map backV).Perm xs := by rw [e1]; exact hb.perm.map backV
      refine fin (ys := out.map backV) k1 k2 hn (vals_back h3) (by rw [hp.length_eq]; exact hz) fun p hp' => q _ p hp ?_ hp'
      refine srt_uniq swoL lexL_anti ?_ (isrt_srtd swoL _) ((hp.map k).trans (isrt_perm lexL _).symm)
      rw [List.map_map]
      exact List.pairwise_map.mpr hs
end
def intTs : List D → Option (List (List Int))
  | [] => some []
  | .tup ds :: r => (intsOf ds).bind fun ns => if ns.isEmpty then none else (intTs r).bind fun l => some (ns :: l)
  | _ :: _ => none
def dTup (ns : List Int) : D := .tup (ns.map D.int)
theorem intTs_inv : ∀ {ds : List D} {l : List (List Int)}, intTs ds = some l → ds = l.map dTup ∧ ∀ ns ∈ l, ns ≠ []
  | [], _, e => by cases e; exact ⟨rfl, fun _ m => by cases m⟩
  | d :: r, l, e => by
    cases d with
    | tup ds =>
      unfold intTs at e
      cases q : intsOf ds with
      | none => simp [q] at e
      | some ns =>
        simp only [q, Option.bind_some] at e
        split at e
        · cases e
        · rename_i hne
          cases q2 : intTs r with
          | none => simp [q2] at e
          | some l2 =>
            simp [q2] at e
            subst e
            obtain ⟨h1, h2⟩ := intTs_inv q2
            refine ⟨by rw [h1, intsOf_inv q]; rfl, fun ms m => ?_⟩
            rcases List.mem_cons.mp m with z | m
            · subst z; intro z; rw [z] at hne; exact hne rfl
            · exact h2 ms m
    | _ => cases e
/-- sorted(x): ints, or tuples of ints -/
def fSorted : List D → Option C
  | [x] => x.seq.bind fun ds => match intsOf ds with
    | some ns => some (.ol ((isrt ltI ns).map D.int))
    | none => (intTs ds).bind fun l => some (.ol ((isrt lexL l).map dTup))
  | _ => none
theorem s_sorted {K : Fg} : OpS K (rSortedA K) fSorted := fun G H vs ds c Q s rv e k => by
  unfold fSorted at e
  split at e
  · rename_i x
    cases rv with
    | cons rx rv =>
      cases rv
      cases q0 : x.seq with
      | none => simp [q0] at e
      | some es =>
        simp only [q0, Option.bind_some] at e
        obtain ⟨a, xs, rfl, hs, rs⟩ : ∃ a xs, _ = V.ref a ∧ (SqL K H a xs ∨ SqT K H a xs) ∧ Reps K G xs es := by
          cases x with
          | tup zs => cases q0; obtain ⟨a, xs, e, h, r⟩ := rx.tup; exact ⟨a, xs, e, .inr (SqT.of (s _ _ h)), r⟩
          | lst zs => cases q0; obtain ⟨a, xs, e, h, r⟩ := rx.lst s; exact ⟨a, xs, e, .inl (SqL.of h), r⟩
          | _ => cases q0
        refine ⟨a, xs, rfl, hs, ?_⟩
        split at e
        · rename_i ns q1
          cases e
          have h1 := intsOf_inv q1
          subst h1
          left
          exact ⟨ns, rs.ints_inv, fun p hp => k.ol s (reps_ints _) hp⟩
        · cases q2 : intTs es with
          | none => simp [q2] at e
          | some l =>
            simp [q2] at e
            subst e
            obtain ⟨h1, h2⟩ := intTs_inv q2
            subst h1
            right
            -- the key of a tuple, by the heap
            let kf : V → List Int := fun x => match x with
              | .ref t => match H t with
                | some (.tup ys) => ys.map fun y => match y with | .int i => i | _ => 0
                | _ => []
              | _ => []
            have key : ∀ {l : List (List Int)} {xs : List V}, Reps K G xs (l.map dTup) → xs.map kf = l ∧ ∀ x ∈ xs, ∃ t, x = V.ref t ∧ H t = some (.tup ((kf x).map V.int)) ∧ Rep K G x (dTup (kf x)) := by
              intro l
              induction l with
              | nil => intro xs r; cases r; exact ⟨rfl, fun x m => by cases m⟩
              | cons ns l ih =>
                intro xs r
                cases r with
                | cons r1 r =>
                  obtain ⟨i1, i2⟩ := ih r
                  cases r1 with
                  | tup h hr =>
                    rename_i t ys
                    have hy := hr.ints_inv
                    subst hy
                    have hH := s _ _ h
                    have ek : kf (.ref t) = ns := by
                      show (match H t with | some (.tup ys) => _ | _ => _) = ns
                      rw [hH]
                      show ((ns.map V.int).map _) = ns
                      rw [List.map_map]
                      exact List.map_id ns
                    refine ⟨by rw [List.map_cons, ek, i1], fun x m => ?_⟩
                    rcases List.mem_cons.mp m with z | m
                    · subst z
                      rw [ek]
                      exact ⟨t, rfl, hH, .tup h hr⟩
                    · exact i2 x m
            obtain ⟨k1, k2⟩ := key rs
            refine ⟨kf, fun x m => ?_, fun ys p hp hys hn => ?_⟩
            · obtain ⟨t, e1, e2, _⟩ := k2 x m
              refine ⟨t, e1, e2, h2 _ ?_⟩
              rw [← k1]; exact List.mem_map.mpr ⟨x, m, rfl⟩
            · rw [k1] at hys
              refine k.ol s ?_ hn
              rw [← hys]
              have : ∀ zs : List V, (∀ z ∈ zs, Rep K G z (dTup (kf z))) → Reps K G zs ((zs.map kf).map dTup) := by
                intro zs
                induction zs with
                | nil => intro _; exact .nil
                | cons z zs ih => intro h; exact .cons (h z (by simp)) (ih fun w m => h w (by simp [m]))
              refine this ys fun z m => ?_
              obtain ⟨_, _, _, r⟩ := k2 z (hp.mem_iff.mp m)
              exact r
  · cases e
end Fx
set_option Elab.async false
set_option linter.all false
set_option maxRecDepth 100000
set_option maxHeartbeats 4000000
noncomputable section
namespace Fx
open PySem PySem.Spec L2

/-! ## ways in the text, to a comprehension's scope -/
def nX : Expr := .Constant .none 0 ⟨0, 0, 0, 0⟩
def nS0 : Stmt := .Pass ⟨0, 0, 0, 0⟩
def nSc : Expr → Scope
  | .ListComp _ _ s _ => s | .DictComp _ _ _ s _ => s | .SetComp _ _ s _ => s | _ => default
def nElt : Expr → Expr
  | .ListComp e _ _ _ => e | _ => nX
def nIter (i : Nat) : Expr → Expr
  | .ListComp _ gs _ _ => match gs[i]? with | some g => g.iter | none => nX
  | _ => nX
def nIf (i j : Nat) : Expr → Expr
  | .ListComp _ gs _ _ => match gs[i]? with | some g => g.ifs.getD j nX | none => nX
  | _ => nX
def nFun : Expr → Expr
  | .Call f _ _ _ => f | _ => nX
def nArg (i : Nat) : Expr → Expr
  | .Call _ as _ _ => as.getD i nX | .Tuple as _ _ => as.getD i nX | .List as _ => as.getD i nX | .BoolOp _ as _ => as.getD i nX | .Compare _ _ as _ => as.getD i nX | _ => nX
def nA : Expr → Expr
  | .BinOp a _ _ _ => a | .Compare a _ _ _ => a | .UnaryOp _ a _ => a | .Subscript a _ _ => a | .Starred a _ => a | .IfExp _ a _ _ => a | .Attribute a _ _ => a | _ => nX
def nB : Expr → Expr
  | .BinOp _ _ b _ => b | .Subscript _ b _ => b | .IfExp _ _ b _ => b | _ => nX
def nT : Expr → Expr
  | .IfExp c _ _ _ => c | _ => nX
def nSt (i : Nat) (l : List Stmt) : Stmt := l.getD i nS0
def nV : Stmt → Expr
  | .Assign _ v _ => v | .AugAssign _ _ v _ => v | .Return (some v) _ => v | .Expr v _ => v | .If c _ _ _ => c | .While c _ _ _ => c | .For _ i _ _ _ => i | _ => nX
def nBody : Stmt → List Stmt
  | .If _ b _ _ => b | .While _ b _ _ => b | .For _ _ b _ _ => b | .Try b _ _ _ _ => b | _ => []
def nElse : Stmt → List Stmt
  | .If _ _ b _ => b | _ => []

def relZ (sc scope : Scope) : Scope := { scope with names := scope.names.map fun (n, k) => if k == .free && sc.kind == .function && sc.names.lookup n == some .cell then (n, .cell) else (n, k) }

/-! ## a def that is not called at this depth -/
theorem never_P {P : Program} {w : World} {K : Fg} {mg : Str → Option Value} {base : Heap} {k : Nat} {f : Addr} {fd : FuncData} {ps : List Str} : FnOk P w K mg base CX0 k f fd ps (spP K fun _ => none) :=
  ⟨(fun vs H Q E h => by obtain ⟨ds, G, _, _, c, e, _⟩ := h; exact (nomatch e)), fun A outer s H args us vs Q E _ _ _ _ h => by obtain ⟨ds, G, _, _, c, e, _⟩ := h; cases e⟩
theorem never_B {P : Program} {w : World} {K : Fg} {mg : Str → Option Value} {base : Heap} {k : Nat} {f : Addr} {fd : FuncData} {ps : List Str} : FnOk P w K mg base CX0 k f fd ps (spB K fun _ _ => none) :=
  ⟨(fun vs H Q E h => by obtain ⟨v0, vs', c0, f0, ds, G, _, _, _, _, c, c0', e, _⟩ := h; exact (nomatch e)), fun A outer s H args us vs Q E _ _ _ _ h => by obtain ⟨v0, vs', c0, f0, ds, G, _, _, _, _, c, c0', e, _⟩ := h; cases e⟩
theorem spP_law {K : Fg} {F : List D → Option C} {ns : List Int} {a : Addr} {H : Hp} {E : XK} (e : F [.scr ns] = some (.sh (.bl true))) (hS : SqL K H a (ns.map V.int)) : spP K F [.ref a] H (fun v _ => v = .bl true) E :=
  ⟨[.scr ns], H, Same.refl _, .cons (.scr hS) .nil, _, e, fun v G' H' fr _ rc _ => by have := rc.of_sh.1; cases this; rfl⟩

/-! ## a dict of the module with text keys, read -/
section
variable {X : Cx}
theorem ix_kd {d : Addr} {es : Array DictEntry} {n : Nat} (D : KDict X.K X.w d es n) :
    IxR X (fun x y H Q => ∃ (z : Str) (u0 : Value) (v0 : V), x = .ref d ∧ y = .str z ∧ PySem.W.nsIn X.K d z = some (some u0) ∧ RelV v0 u0 ∧ Q v0 H) := by
  intro value slice pins s σ H x y v u Q I rx ry h hs
  obtain ⟨z, u0, v0, rfl, rfl, e, r, q⟩ := h
  have hT : s.TypeIs v "dict" := by cases rx; exact kd_type D I
  exact PyProof.Rows.tail_any hT PySem.F.slot_dict_getitem.lookup (op_item_kd D pins s σ H (.ref d) (.str z) v u Q I rx ry ⟨z, u0, v0, rfl, rfl, e, r, q⟩) hs
theorem tab_all {tab : List (Str × D)} {P : Str → D → Prop} (h : ∀ p ∈ tab, P p.1 p.2) {z : Str} {d : D} (e : tab.lookup z = some d) : P z d := by
  induction tab with
  | nil => cases e
  | cons p r ih =>
    obtain ⟨k, v⟩ := p
    rw [List.lookup_cons] at e
    split at e
    · rename_i q
      have q : z = k := by simpa using q
      subst q
      cases e
      exact h (z, d) (by simp)
    · exact ih (fun p m => h p (by simp [m])) e
def eTab (tab : List (Str × D)) (o : Opd) : EM := fun env => (evO [o] env).bind fun (ds, e) => match ds with
  | [.str z] => (tab.lookup z).bind fun d => some (.sh d, e)
  | _ => none
theorem ok_tab {x : Str} {p pos : Pos} {ix : Expr} {d : Addr} {tab : List (Str × D)} {o : Opd} (hg : Gl X x) (hm : X.mg x = some (.ref d)) (hD : ∃ es n, KDict X.K X.w d es n) (ht : ∀ z d', tab.lookup z = some d' → ∃ u0 v0, PySem.W.nsIn X.K d z = some (some u0) ∧ RelV v0 u0 ∧ ∀ G, Rep X.K G v0 d')
    (ho : OOk X ix o) (hs : PlainIx ix := by intro _ _; rfl) (hd : (x == ("__debug__" : Str)) = false := by decide) : EOk X (.Subscript (.Name x p) ix pos) (eTab tab o) := by
  obtain ⟨es, n, D⟩ := hD
  refine pe_mono (pe_ix (ix_kd D) (pe_glob (v := .ref d) hg hm rfl hd) ho hs) fun σ H Q ⟨env, G, fp, con, c, env', e1, k⟩ => ?_
  unfold eTab at e1
  cases q : evO [o] env with
  | none => simp [q] at e1
  | some y =>
    obtain ⟨ds, e2⟩ := y
    simp only [q, Option.bind_some] at e1
    split at e1
    · rename_i z
      cases q2 : tab.lookup z with
      | none => simp [q2] at e1
      | some d' =>
        simp [q2] at e1
        obtain ⟨rfl, rfl⟩ := e1
        obtain ⟨u0, v0, h1, h2, h3⟩ := ht z d' q2
        have hz : tO X.K [o] σ H (fun vs H1 => ∃ y, vs = [y] ∧ ∃ (z : Str) (u0 : Value) (v0 : V), V.ref d = .ref d ∧ y = .str z ∧ PySem.W.nsIn X.K d z = some (some u0) ∧ RelV v0 u0 ∧ Q v0 H1) := ⟨env, G, fp, con, _, _, q, fun vs G' H' fp' c' rv s => by
          cases rv with
          | cons r1 rv =>
            cases rv; cases r1.str
            refine ⟨_, rfl, z, u0, v0, rfl, rfl, h1, h2, ?_⟩
            exact k.sh c' s (h3 G')⟩
        show (tOpd X.K o) σ H _
        refine vk_mono_opd o (fun y H1 h => ?_) (tOs1 (tO_tOs hz))
        obtain ⟨y', ey, h⟩ := h
        cases ey
        exact h
    · cases e1
end

section
variable {X : Cx} {x : Str} {pos : Pos}
theorem ok_gint {i : Int} (hg : Gl X x) (hm : ∃ t, X.mg x = some (.int i t)) (hd : (x == ("__debug__" : Str)) = false := by decide) : EOk X (.Name x pos) (eC (.int i)) := by
  obtain ⟨t, hm⟩ := hm
  exact ok_c (pe_glob (v := .int i) hg hm ⟨_, rfl⟩ hd) fun _ => .int i
theorem ok_gstr {i : Str} (hg : Gl X x) (hm : ∃ t, X.mg x = some (.str i t)) (hd : (x == ("__debug__" : Str)) = false := by decide) : EOk X (.Name x pos) (eC (.str i)) := by
  obtain ⟨t, hm⟩ := hm
  exact ok_c (pe_glob (v := .str i) hg hm ⟨_, rfl⟩ hd) fun _ => .str i
end
/-! ## x, y = a, b where the parts stay one's own -/
def sPar2c (i j : Nat) (a b : EM) : SM := fun env => (a env).bind fun (c, e) => (b e).bind fun (d, e') => if i < e'.length ∧ j < e'.length then some (.nx ((e'.set i (some c)).set j (some d))) else none
section
variable {X : Cx} {p : Nat} {pos : Pos}
theorem s_par2c {i j : Nat} {x y : Str} {a b : Expr} {ma mb : EM} {px py pt : Pos} {kt k2 pt2} (hpi : p ≤ i) (hpj : p ≤ j) (hc : X.calm = true) (hN : X.N.Nodup) (hi : X.N[i]? = some x) (hj : X.N[j]? = some y) (hij : i ≠ j)
    (hx : X.env.scope.names.lookup x = some .local) (hy : X.env.scope.names.lookup y = some .local) (ha : EOk X a ma) (hb : EOk X b mb) (hw : swappedStores [.Tuple [.Name x px, .Name y py] kt pt] (.Tuple [a, b] k2 pt2) X.env = pure (some [x, y])) (hs : swapsWithSole [.Tuple [.Name x px, .Name y py] kt pt] (.Tuple [a, b] k2 pt2) pos.line X.env = pure false := by rfl)
    (h1 : starEach [a, b] X.env = (false, eval a X.env) :: starEach [b] X.env := by rfl) (h2 : starEach [b] X.env = (false, eval b X.env) :: starEach [] X.env := by rfl) :
    SOk X p (.Assign [.Tuple [.Name x px, .Name y py] kt pt] (.Tuple [a, b] k2 pt2) pos) (sPar2c i j ma mb) := ps_mono (ps_par hc hN hi hj hij hx hy (pa_cons ha (pa_cons hb pa_nil h2) h1) hw hs) fun D σ H ⟨env, G, fp, con, o, e1, k⟩ => by
  unfold sPar2c at e1
  cases q : ma env with
  | none => simp [q] at e1
  | some y =>
    obtain ⟨c, e2⟩ := y
    simp only [q, Option.bind_some] at e1
    cases q2 : mb e2 with
    | none => simp [q2] at e1
    | some y =>
      obtain ⟨d, e3⟩ := y
      simp only [q2, Option.bind_some] at e1
      split at e1
      · rename_i hl
        cases e1
        refine ⟨env, G, fp, con, c, e2, q, fun v G1 H1 fp1 fr con1 r1 n1 s1 => ?_⟩
        refine ⟨e2, G1, fp1, con1, d, e3, q2, fun w G2 H2 fp2 fr2 con2 r2 n2 s2 => ?_⟩
        have r1' : RepC X.K G2 H2 v c fr := r1.step s2 n1
        have o1 := r1.out s2 n1
        have con3 := con2.put (i := i) hl.1 r1' fun a m j' _ z => o1 a m (.inl ⟨j', z⟩)
        have con4 := con3.put (i := j) (by simpa using hl.2) r2 fun a m j' hj z => by
          by_cases e : j' = i
          · subst e; rw [Fp.set_same] at z; exact o1 a z (.inr m)
          · rw [Fp.set_ne e] at z; exact n2 a m ⟨j', z⟩
        refine ⟨v, w, rfl, k _ _ _ _ con4 ?_ ((take_set hpj).trans (take_set hpi))⟩
        have a1 : Step G H (U fp) G2 H2 (fun a => (U fp2 a ∨ a ∈ fr2) ∨ a ∈ fr) := by
          refine s1.trans (s2.weak (fun a u => .inl u) fun a u => ?_)
          rcases u with u | u
          · exact .inl u
          · exact .inr (.inl (.inr u))
        refine a1.weak (fun _ u => u) fun a u => ?_
        rcases U_set u with u | u
        · rcases U_set u with u | u
          · exact .inl (.inl (.inl u))
          · exact .inl (.inr u)
        · exact .inl (.inl (.inr u))
      · cases e1
end
end Fx
set_option Elab.async false
set_option linter.all false
set_option maxRecDepth 100000
set_option maxHeartbeats 4000000
noncomputable section
namespace Fx
open PySem PySem.Spec L2

/-! ## chained comparisons of ints -/
section
variable {X : Cx} {a b c : Expr} {pos : Pos}
def eChain (f f' : Int → Int → Bool) (oa ob oc : Opd) : EM := fun env => (evO [oa, ob] env).bind fun (ds, e) => match ds with
  | [.int i, .int j] => if f i j then (evO [oc] e).bind fun (ds', e') => match ds' with
      | [.int l] => some (.sh (.bl (f' j l)), e')
      | _ => none
    else some (.sh (.bl false), e)
  | _ => none
def rB (f : Int → Int → Bool) : R2 := rI0 fun i j => .bl (f i j)
theorem chain_run {K : Fg} {f f' : Int → Int → Bool} {oa ob oc : Opd} {σ : St} {H : Hp} {Q : VK} (q : tE K (eChain f f' oa ob oc) σ H Q) : tChain (rB f) (rB f') (tOpd K oa) (tOpd K ob) (tOpd K oc) σ H Q := by
  obtain ⟨env, G, fp, con, c0, env', e1, k⟩ := q
  unfold eChain at e1
  cases q : evO [oa, ob] env with
  | none => simp [q] at e1
  | some y =>
    obtain ⟨ds, e2⟩ := y
    simp only [q, Option.bind_some] at e1
    split at e1
    · rename_i i j
      have z : tO K [oa, ob] σ H (fun vs H1 => ∃ x y, vs = [x, y] ∧ rB f x y H1 fun z H3 => ∃ k, z = .bl k ∧ (if k = true then tOpd K oc σ H3 fun w' H4 => rB f' y w' H4 Q else Q (.bl false) H3)) := ⟨env, G, fp, con, _, _, q, fun vs G1 H1 fp1 con1 rv s1 => by
        cases rv with
        | cons r1 rv =>
          cases rv with
          | cons r2 rv =>
            cases rv; cases r1.int; cases r2.int
            refine ⟨_, _, rfl, i, j, rfl, rfl, f i j, rfl, ?_⟩
            by_cases hf : f i j = true
            · rw [if_pos hf] at e1
              rw [if_pos hf]
              cases q2 : evO [oc] e2 with
              | none => simp [q2] at e1
              | some y =>
                obtain ⟨ds', e3⟩ := y
                simp only [q2, Option.bind_some] at e1
                split at e1
                · rename_i l
                  cases e1
                  have z2 : tO K [oc] σ H1 (fun vs H4 => ∃ w, vs = [w] ∧ rB f' (.int j) w H4 Q) := ⟨e2, G1, fp1, con1, _, _, q2, fun vs G2 H2 fp2 con2 rv s2 => by
                    cases rv with
                    | cons r3 rv =>
                      cases rv; cases r3.int
                      exact ⟨_, rfl, j, l, rfl, rfl, k.sh con2 (s1.trans s2) (.bl _)⟩⟩
                  refine vk_mono_opd oc (fun w H4 h => ?_) (tOs1 (tO_tOs z2))
                  obtain ⟨w', ew, h⟩ := h
                  cases ew
                  exact h
                · cases e1
            · rw [if_neg hf] at e1
              rw [if_neg hf]
              cases e1
              exact k.sh con1 s1 (.bl false)⟩
      refine vk_mono_opd oa (fun x H1 h1 => vk_mono_opd ob (fun y H2 h2 => ?_) h1) (tOs2 (tO_tOs z))
      obtain ⟨x', y', e, h⟩ := h2
      cases e
      exact h
    · cases e1
theorem ok_chain {op op' : CmpOp} {f f' : Int → Int → Bool} {oa ob oc : Opd} (ho : OpR X (compareOp op) (rB f)) (ho' : OpR X (compareOp op') (rB f')) (ha : OOk X a oa) (hb : OOk X b ob) (hc : OOk X c oc)
    (hm : lastMarks [op, op'] [b, c] = false := by with_unfolding_all rfl) : EOk X (.Compare a [op, op'] [b, c] pos) (eChain f f' oa ob oc) := pe_mono (pe_chain ho ho' ha hb hc hm) fun σ H Q q => chain_run q
theorem k_chain {op op' : CmpOp} {f f' : Int → Int → Bool} {oa ob oc : Opd} (ho : OpR X (compareOp op) (rB f)) (ho' : OpR X (compareOp op') (rB f')) (ha : OOk X a oa) (hb : OOk X b ob) (hc : OOk X c oc)
    (hm : lastMarks [op, op'] [b, c] = false := by with_unfolding_all rfl) : TOk X (.Compare a [op, op'] [b, c] pos) (kVal (eChain f f' oa ob oc)) := pt_mono (pt_chain ho ho' ha hb hc hm) fun σ H Q ⟨env, G, fp, con, b, env', e1, k⟩ => by
  unfold kVal at e1
  split at e1
  · rename_i b0 e0 q
    cases e1
    have q1 : tE X.K (eChain f f' oa ob oc) σ H (fun x H' => ∃ k, x = .bl k ∧ Q k H') := ⟨env, G, fp, con, _, _, q, fun v G' H' fp' fr c' r n s => by
      have r := r.of_sh.1
      cases r
      exact ⟨_, rfl, k G' H' fp' c' (weakT s)⟩⟩
    exact chain_run q1
  · cases e1
abbrev cLt (i j : Int) : Bool := decide (i < j)
abbrev cLe (i j : Int) : Bool := decide (i ≤ j)
end

/-! ## range(a, b, c) -/
def rngC (a c : Int) (n : Nat) : List D := (List.range n).map fun i => D.int (a + (i : Nat) * c)
theorem rngC_length (a c : Int) (n : Nat) : (rngC a c n).length = n := by unfold rngC; simp
theorem wlk_rngC {K : Fg} {G : Hp} (a c : Int) (n : Nat) : Wlk K (Itc a c n) (rngC a c n) G := by
  refine ⟨fun i G1 H1 hi s1 s2 => ?_, fun G1 H1 s1 s2 => ?_⟩
  · rw [rngC_length] at hi
    refine ⟨hi, fun x H2 hy => ?_⟩
    obtain ⟨e, ex⟩ := hy
    subst e ex
    exact ⟨G1, .int (a + (i : Nat) * c), by unfold rngC; simp [hi], .int _, s2, Step.refl ..⟩
  · show n ≤ _
    rw [rngC_length]
    exact Nat.le_refl _
open Classical in
def iR3 (o o' o'' : Opd) : IM := fun env => (evO [o, o', o''] env).bind fun (ds, e) => match ds with
  | [.int a, .int b, .int c] => if RgC a b c (Builtin.Range.rangeSize a b c).toNat then some (rngC a c (Builtin.Range.rangeSize a b c).toNat, e) else none
  | _ => none
theorem i_rng3 {X : Cx} {tg a b c : Expr} {o o' o'' : Opd} {p pos : Pos} (hg : Gl X "range") (hm : X.mg "range" = none) (ha : PA X [a, b, c] (tOs X.K [o, o', o'']))
    (hs : starEach [a, b, c] X.env = (false, eval a X.env) :: starEach [b, c] X.env := by rfl) (hpl : (backTo pos (starEach [b, c] X.env)).any (·.1) = false := by rfl) : IOk X tg (.Call (.Name "range" p) [a, b, c] [] pos) (iR3 o o' o'') :=
  pi_mono (pi_range3 hg hm (pao ha) hs hpl) fun σ H R ⟨env, G, fp, con, ds, env', e1, k⟩ => by
    unfold iR3 at e1
    cases q : evO [o, o', o''] env with
    | none => simp [q] at e1
    | some y =>
      obtain ⟨ds0, e2⟩ := y
      simp only [q, Option.bind_some] at e1
      split at e1
      · rename_i i j l
        split at e1
        · rename_i hn
          cases e1
          refine ⟨env, G, fp, con, _, _, q, fun vs G' H' fp' c' rv s => ?_⟩
          cases rv with
          | cons r1 rv =>
            cases rv with
            | cons r2 rv =>
              cases rv with
              | cons r3 rv =>
                cases rv; cases r1.int; cases r2.int; cases r3.int
                exact ⟨i, j, l, _, rfl, hn, k _ G' H' fp' c' s (wlk_rngC i l _)⟩
        · cases e1
      · cases e1
end Fx
set_option Elab.async false
set_option linter.all false
set_option maxRecDepth 100000
set_option maxHeartbeats 4000000
noncomputable section
namespace Fx
open PySem PySem.Spec L2

/-! ## xs[lo:hi:step] of a list -/
def pickD {α : Type} (ds : List α) (lo hi st : Option Int) : List α := (sliceRange (sliceBounds lo hi st ds.length).1 (sliceBounds lo hi st ds.length).2.1 (sliceBounds lo hi st ds.length).2.2).filterMap (ds[·]?)
theorem vals_pick {xs : List V} {us : List Value} (r : Vals xs us) (lo hi st : Option Int) : Vals (pickD xs lo hi st) (slicePick us.toArray lo hi st).toList := by
  have e : (slicePick us.toArray lo hi st).toList = pickD us lo hi st := by
    unfold slicePick pickD
    simp
  rw [e]
  unfold pickD
  rw [r.length]
  generalize sliceRange _ _ _ = ix
  induction ix with
  | nil => exact .nil
  | cons i ix ih =>
    cases h : xs[i]? with
    | none =>
      have h2 : us[i]? = none := by
        have := List.getElem?_eq_none_iff.mp h
        exact List.getElem?_eq_none (by rw [← r.length]; exact this)
      rw [List.filterMap_cons_none (f := fun x => xs[x]?) h, List.filterMap_cons_none (f := fun x => us[x]?) h2]
      exact ih
    | some x =>
      obtain ⟨u, h2, hu⟩ := r.get h
      rw [List.filterMap_cons_some (f := fun x => xs[x]?) h, List.filterMap_cons_some (f := fun x => us[x]?) h2]
      exact .cons hu ih
theorem Reps.pick {K : Fg} {G : Hp} {xs : List V} {ds : List D} (r : Reps K G xs ds) (lo hi st : Option Int) : Reps K G (pickD xs lo hi st) (pickD ds lo hi st) := by
  unfold pickD
  rw [r.length]
  generalize sliceRange _ _ _ = ix
  induction ix with
  | nil => exact .nil
  | cons i ix ih =>
    cases h : xs[i]? with
    | none =>
      have h2 : ds[i]? = none := by
        have := List.getElem?_eq_none_iff.mp h
        exact List.getElem?_eq_none (by rw [← r.length]; exact this)
      rw [List.filterMap_cons_none (f := fun x => xs[x]?) h, List.filterMap_cons_none (f := fun x => ds[x]?) h2]
      exact ih
    | some x =>
      obtain ⟨d, h2, hd⟩ := r.get h
      rw [List.filterMap_cons_some (f := fun x => xs[x]?) h, List.filterMap_cons_some (f := fun x => ds[x]?) h2]
      exact .cons hd ih
section
variable {X : Cx}
def tSl3 (K : Fg) (te : TE) (tl th ts : TO) : TE := fun σ H Q => te σ H fun x H1 => tl σ H1 fun l H2 => th σ H2 fun u H3 => ts σ H3 fun o H4 => ∃ a xs, x = .ref a ∧ SqL K H4 a xs ∧ o ≠ some 0 ∧ (pickD xs l u o).length ≤ sizeLine ∧ ∀ p, H4 p = none → Q (.ref p) (upd H4 p (.lst (pickD xs l u o)))
theorem pe_sl3 {e st : Expr} {lo hi : Option Expr} {te : TE} {tl th ts : TO} {p3 pos : Pos} (he : PE X e te) (hl : PO X lo tl) (hh : PO X hi th) (hst : PO X (some st) ts) : PE X (.Subscript e (.Slice lo hi (some st) p3) pos) (tSl3 X.K te tl th ts) := by
  refine ⟨fun pins s σ H Q I h => ?_⟩
  refine PyProof.Rows.Subscript_ (thn (he.run pins s σ H _ I h) fun v s1 ⟨x, H1, I1, r1, q1⟩ => ?_)
  refine PySem.wpAny_Slice (thn (hl.run pins s1 σ H1 _ I1 q1) fun vl s2 ⟨l, H2, I2, pl, q2⟩ => ?_)
  refine thn (hh.run pins s2 σ H2 _ I2 q2) fun vu s3 ⟨u, H3, I3, pu, q3⟩ => ?_
  refine thn (hst.run pins s3 σ H3 _ I3 q3) fun vs s4 ⟨o, H4, I4, ps, q4⟩ => ?_
  obtain ⟨a, xs, ex, hx, ho, hlen', q⟩ := q4
  subst ex
  cases r1
  have I5 : Inv X pins σ H4 { s4 with heap := s4.heap.push { cls := .type "slice", data := .fields #[vl, vu, vs] } } := I4.kept (t' := s4.toks) fun b ob q => Heap.get?_push_of_some _ q
  obtain ⟨its, r, ht, hz⟩ := I5.list hx
  have hlen := r.length
  show wpAny (model X.prog X.w) X.A (PyProof.Rows.subscriptTail e (.Slice lo hi (some st) p3) (.ref a) (.ref s4.heap.objs.size)) (EP X pins σ Q) X.xe { s4 with heap := s4.heap.push { cls := .type "slice", data := .fields #[vl, vu, vs] } }
  refine PyProof.Rows.tail_any (ops := [.ref a, .ref s4.heap.objs.size]) ht.isList.typeIs (PySem.slot_list_getitem.lookup) ?_ (by with_unfolding_all rfl)
  refine wpAny_getItem_list_slice ht.isList (Heap.IsSliceOf.new _ vl vu vs) pl pu ps ho ?_ (by rw [List.size_toArray]; omega)
  refine ⟨.ref _, _, I5.laid (t' := s4.toks) (o := .lst (pickD xs l u o)) (fun b ob q => Heap.get?_push_of_some _ q) (Nat.le_refl _) ?_, rfl, q _ (I5.hok.fresh (Nat.le_refl _))⟩
  exact ⟨hlen', (slicePick its.toArray l u o).toList, 0, vals_pick r l u o, by rw [Array.toArray_toList]; exact Heap.get?_push_size _ rfl⟩
def eSl3 (o : Opd) (lo hi st : Part) : EM := fun env => (preO [o] env).bind fun (cs, e1) => (evP lo e1).bind fun (i, e2) => (evP hi e2).bind fun (j, e3) => (evP st e3).bind fun (l, e4) => (finO e4 [o] cs).bind fun ds => match ds with
  | [.lst xs] => if l = some 0 then none else if (pickD xs i j l).length ≤ lim then some (.ol (pickD xs i j l), e4) else none
  | _ => none
theorem ok_sl3 {e st : Expr} {o : Opd} {lo hi : Option Expr} {pl ph ps : Part} {p2 pos : Pos} (h : OOk X e o) (hl : POk X lo pl) (hh : POk X hi ph) (hs : POk X (some st) ps) : EOk X (.Subscript e (.Slice lo hi (some st) p2) pos) (eSl3 o pl ph ps) :=
  pe_mono (pe_sl3 h hl hh hs) fun σ H Q ⟨env, G, fp, con, c, env', e1, k⟩ => by
    unfold eSl3 at e1
    cases q1 : preO [o] env with
    | none => simp [q1] at e1
    | some y1 =>
      obtain ⟨cs, v1⟩ := y1
      simp only [q1, Option.bind_some] at e1
      cases q2 : evP pl v1 with
      | none => simp [q2] at e1
      | some y2 =>
        obtain ⟨i, v2⟩ := y2
        simp only [q2, Option.bind_some] at e1
        cases q3 : evP ph v2 with
        | none => simp [q3] at e1
        | some y3 =>
          obtain ⟨j, v3⟩ := y3
          simp only [q3, Option.bind_some] at e1
          cases q3' : evP ps v3 with
          | none => simp [q3'] at e1
          | some y4 =>
            obtain ⟨l, v4⟩ := y4
            simp only [q3', Option.bind_some] at e1
            cases q4 : finO v4 [o] cs with
            | none => simp [q4] at e1
            | some ds =>
              simp only [q4, Option.bind_some] at e1
              split at e1
              · rename_i xs
                split at e1
                · cases e1
                · rename_i hl0
                  split at e1
                  · rename_i hlim
                    cases e1
                    have z := pre_run (K := X.K) (Q := fun vs H1 => ∃ x, vs = [x] ∧ tPart' X.K pl σ H1 fun l H2 => tPart' X.K ph σ H2 fun u H3 => tPart' X.K ps σ H3 fun o H4 => ∃ a xs, x = .ref a ∧ SqL X.K H4 a xs ∧ o ≠ some 0 ∧ (pickD xs l u o).length ≤ sizeLine ∧ ∀ p, H4 p = none → Q (.ref p) (upd H4 p (.lst (pickD xs l u o)))) [o] con q1 fun vs G1 H1 fp1 c1 p1 s1 => by
                      have : ∃ x, vs = [x] := by
                        cases p1 with
                        | slot h r => cases r; exact ⟨_, rfl⟩
                        | val a b r => cases r; exact ⟨_, rfl⟩
                      obtain ⟨x, rfl⟩ := this
                      refine ⟨x, rfl, evP_run c1 q2 fun G2 H2 fp2 c2 s2 => evP_run c2 q3 fun G3 H3 fp3 c3 s3 => evP_run c3 q3' fun G4 H4 fp4 c4 s4 => ?_⟩
                      have rv := (((p1.step s2).step s3).step s4).fin c4 q4
                      cases rv with
                      | cons r1 rv =>
                        cases rv
                        obtain ⟨a, us, rfl, hu, ru⟩ := r1.lst c4.sub
                        have rp := ru.pick i j l
                        refine ⟨a, us, rfl, SqL.of hu, hl0, by rw [rp.length, ← lim_eq]; exact hlim, fun p hp => ?_⟩
                        exact k.end_ (W := fun _ => False) (fr := [p]) c4 ((((s1.trans s2).trans s3).trans s4).weak (fun _ u => u) fun a u => u.elim .inl fun z => z.elim) (fun a z => z.elim) (Step.newH (o := .lst (pickD us i j l)) hp) (same_newH c4.sub hp) (.ol (none_of_same c4.sub hp) upd_same rp)
                    have z1 := tOs1 z
                    refine vk_mono_opd o (fun x H1 h1 => ?_) z1
                    obtain ⟨x', ex, h1⟩ := h1
                    cases ex
                    exact h1
                  · cases e1
              · cases e1
end
end Fx
set_option Elab.async false
set_option linter.all false
set_option maxRecDepth 100000
set_option maxHeartbeats 4000000
noncomputable section
namespace Fx
open PySem L2

/-! ## comprehensions over two -/
theorem asgT_len {t : Tgt} {d : D} {e e' : Env} (h : asgT t d e = some e') : e'.length = e.length := by
  have k2 : ∀ {is : List Nat} {ds : List D} {e e' : Env}, asg is ds e = some e' → e'.length = e.length := by
    intro is
    induction is with
    | nil => intro ds e e' h; cases ds with | nil => cases h; rfl | cons => simp [asg] at h
    | cons i is ih => intro ds e e' h; cases ds with
      | nil => simp [asg] at h
      | cons d ds =>
        simp only [asg] at h
        split at h
        · rw [ih h, List.length_set]
        · cases h
  cases t with
  | one i =>
    simp only [asgT] at h
    split at h
    · cases h; simp
    · cases h
  | tup is => cases d with
    | tup ds => exact k2 (show asg is ds e = some e' from h)
    | _ => simp [asgT] at h
theorem wipe_sub {vs vs1 : List Nat} {σ : St} (h : ∀ v ∈ vs1, v ∈ vs) : wipe (wipe σ vs1) vs = wipe σ vs := wipe_eq (wipe_length ..) fun j hj => wipe_out fun m => hj (h j m)
theorem inner_run {K : Fg} {vs : List Nat} {t : Tgt} {c : TM} {m : EM} {σ : St} {J : It} {ds : List D} {Ga Ha : Hp} {fpa : Fp} {e0 e3 : Env} {acc0 rs1 rs : List D} {Dl : Addr} (w : Wlk K J ds Ga) (con : Con K σ e0 Ga Ha fpa) (calm : calmE e0 vs = true) (hsub : ∀ i ∈ t.is, i ∈ vs)
    (rD0 : RepC K Ga Ha (.ref Dl) (.ol acc0) [Dl]) (nD0 : ¬ U fpa Dl) (hcomp0 : compN vs t c m ds (wipeE e0 vs) = some (rs1, e3)) (hrs : acc0 ++ rs1 = rs) (hlen : rs.length ≤ lim) {Nx : Hp → Prop}
    (k : ∀ G2 H2 fp2, Con K (wipe σ vs) e3 G2 H2 fp2 → Same Ga G2 → RepC K G2 H2 (.ref Dl) (.ol rs) [Dl] → ¬ U fp2 Dl → Step Ga Ha (fun a => U fpa a ∨ a ∈ [Dl]) G2 H2 (fun a => U fp2 a ∨ a ∈ [Dl]) → Nx H2) :
    ∃ W : Nat → Nat → Hp → Prop, (∃ m, W 0 m Ha) ∧ ∀ i mm H, W i mm H → (J.stop i H ∧ Nx H) ∨ (J.go i H ∧ ∃ Nx1 : Hp → Prop, (∀ H', Nx1 H' → ∃ m', m' < mm ∧ W (i + 1) m' H') ∧ ∀ x H', J.yld i H x H' → gT K t x (wipe σ vs) H' fun σ2 H2 => wipe σ2 vs = wipe σ vs ∧ tT K c σ2 H2 fun b H3 => if b = true then tE K m σ2 H3 fun y H4 => ∃ acc, H4 Dl = some (.lst acc) ∧ acc.length < sizeLine ∧ Nx1 (upd H4 Dl (.lst (acc ++ [y]))) else Nx1 H3) := by
  refine ⟨fun n mm H2 => n + mm = ds.length ∧ ∃ e G2 fp2 acc rest, Con K (wipe σ vs) e G2 H2 fp2 ∧ (∀ v ∈ vs, fp2 v = []) ∧ Same Ga G2 ∧ RepC K G2 H2 (.ref Dl) (.ol acc) [Dl] ∧ ¬ U fp2 Dl ∧ compN vs t c m (ds.drop n) e = some (rest, e3) ∧ acc ++ rest = rs ∧ Step Ga Ha (fun a => U fpa a ∨ a ∈ [Dl]) G2 H2 (fun a => U fp2 a ∨ a ∈ [Dl]), ?_, ?_⟩
  · exact ⟨ds.length, by simp, wipeE e0 vs, Ga, fpa, acc0, rs1, con_wipe con calm, nofp (con_wipe con calm), Same.refl _, rD0, nD0, by simpa using hcomp0, hrs, Step.refl ..⟩
  · rintro n mm H2 ⟨hnm, e, G2, fp2, acc, rest, con2, nf2, sG, rD, nD, hcomp, hacc, st⟩
    by_cases hnl : n < ds.length
    · right
      obtain ⟨hgo, hy⟩ := w.go n G2 H2 hnl sG con2.sub
      have hd : ds.drop n = ds[n] :: ds.drop (n + 1) := List.drop_eq_getElem_cons hnl
      rw [hd] at hcomp
      refine ⟨hgo, fun H3 => ∃ e G2 fp2 acc rest, Con K (wipe σ vs) e G2 H3 fp2 ∧ (∀ v ∈ vs, fp2 v = []) ∧ Same Ga G2 ∧ RepC K G2 H3 (.ref Dl) (.ol acc) [Dl] ∧ ¬ U fp2 Dl ∧ compN vs t c m (ds.drop (n + 1)) e = some (rest, e3) ∧ acc ++ rest = rs ∧ Step Ga (Ha) (fun a => U fpa a ∨ a ∈ [Dl]) G2 H3 (fun a => U fp2 a ∨ a ∈ [Dl]), fun H' w => ⟨mm - 1, by omega, by omega, w⟩, fun x H3 hx => ?_⟩
      obtain ⟨G3, d, ed, rd, sub3, s3⟩ := hy x H3 hx
      have ed' : ds[n] = d := by
        rw [List.getElem?_eq_getElem hnl] at ed
        exact Option.some.inj ed
      rw [ed'] at hcomp
      unfold compN at hcomp
      cases q1 : asgT t d e with
      | none => simp [q1] at hcomp
      | some e4 =>
        simp only [q1, Option.bind_some] at hcomp
        have ew : wipe (wipe σ vs) vs = wipe σ vs := by
          apply List.ext_getElem?
          intro j
          by_cases hj : j ∈ vs
          · have key : ∀ (ws : List Nat) (τ : St), j ∈ ws → (wipe τ ws)[j]? = if j < τ.length then some none else none := by
              intro ws
              induction ws with
              | nil => intro τ m; cases m
              | cons w ws ih =>
                intro τ m
                show ((wipe τ ws).set w none)[j]? = _
                by_cases e : w = j
                · subst e
                  by_cases hw : w < τ.length
                  · rw [if_pos hw]; exact List.getElem?_set_self (by rw [wipe_length]; exact hw)
                  · rw [if_neg hw]; exact List.getElem?_eq_none (by rw [List.length_set, wipe_length]; omega)
                · rw [List.getElem?_set_ne e]
                  rcases List.mem_cons.mp m with m | m
                  · exact absurd m.symm e
                  · exact ih τ m
            rw [key vs _ hj, key vs _ hj, wipe_length]
          · rw [wipe_out hj]
        have con3 : Con K (wipe σ vs) e G3 H3 fp2 := con2.step s3 (fun a u z => z) sub3
        have rD3 : RepC K G3 H3 (.ref Dl) (.ol acc) [Dl] := rD.step s3 fun a m z => z
        refine asgT_run (p := 0) con3 rd q1 (fun _ _ => Nat.zero_le _) fun σ4 fp4 con4 u4 _ st4 => ?_
        have hl4 : σ4.length = (wipe σ vs).length := by
          have a := con4.len
          have b := con3.len
          rw [a, b]
          have key : ∀ {t : Tgt} {d : D} {e e' : Env}, asgT t d e = some e' → e'.length = e.length := by
            intro t d e e' h
            have k2 : ∀ {is : List Nat} {ds : List D} {e e' : Env}, asg is ds e = some e' → e'.length = e.length := by
              intro is
              induction is with
              | nil => intro ds e e' h; cases ds with | nil => cases h; rfl | cons => simp [asg] at h
              | cons i is ih => intro ds e e' h; cases ds with
                | nil => simp [asg] at h
                | cons d ds =>
                  simp only [asg] at h
                  split at h
                  · rw [ih h, List.length_set]
                  · cases h
            cases t with
            | one i =>
              simp only [asgT] at h
              split at h
              · cases h; simp
              · cases h
            | tup is => cases d with
              | tup ds => exact k2 (show asg is ds e = some e' from h)
              | _ => simp [asgT] at h
          exact key q1
        refine ⟨(wipe_eq hl4 fun j hj => st4 j fun z => hj (hsub j z)).trans ew, ?_⟩
        have eq4 : wipe σ4 vs = wipe σ vs := (wipe_eq hl4 fun j hj => st4 j fun z => hj (hsub j z)).trans ew
        have nD4 : ¬ U fp4 Dl := fun z => nD (u4 _ z)
        have st4' : Step Ga (Ha) (fun a => U fpa a ∨ a ∈ [Dl]) G3 H3 (fun a => U fp4 a ∨ a ∈ [Dl]) := st.trans (s3.weak (fun _ z => z.elim) fun a u => .inr (.inl (u.elim (fun z => .inl (u4 a z)) .inr)))
        cases q2' : c e4 with
        | none => simp [q2'] at hcomp
        | some y =>
          obtain ⟨b, e5⟩ := y
          simp only [q2', Option.bind_some] at hcomp
          refine ⟨e4, G3, fp4, con4, b, e5, q2', fun G5 H5 fp5 con5 s5 => ?_⟩
          have rD5 : RepC K G5 H5 (.ref Dl) (.ol acc) [Dl] := rD3.step s5 fun a m z => by simp at m; subst m; exact nD4 z
          have nD5 : ¬ U fp5 Dl := rD3.out s5 (fun a m z => by simp at m; subst m; exact nD4 z) Dl (by simp)
          have st5 : Step Ga (Ha) (fun a => U fpa a ∨ a ∈ [Dl]) G5 H5 (fun a => U fp5 a ∨ a ∈ [Dl]) := st4'.trans (s5.weak (fun _ z => .inl z) fun a u => u.elim .inl fun z => .inr (.inl (.inr z)))
          cases b with
          | false =>
            rw [if_neg Bool.false_ne_true] at hcomp
            refine iteF ?_
            split at hcomp
            · rename_i hc5
              refine ⟨wipeE e5 vs, G5, fp5, acc, rest, by rw [← eq4]; exact con_wipe con5 hc5, nofp (con_wipe con5 hc5), (sG.trans s3.sG).trans s5.sG, rD5, nD5, hcomp, hacc, st5⟩
            · cases hcomp
          | true =>
            rw [if_pos rfl] at hcomp
            refine iteT ?_
            cases q3 : m e5 with
            | none => simp [q3] at hcomp
            | some y =>
              obtain ⟨cx, e6⟩ := y
              simp only [q3, Option.bind_some] at hcomp
              split at hcomp
              · rename_i hc6
                cases q4 : compN vs t c m (ds.drop (n + 1)) (wipeE e6 vs) with
                | none => simp [q4] at hcomp
                | some y =>
                  obtain ⟨r', e7⟩ := y
                  simp [q4] at hcomp
                  obtain ⟨rfl, rfl⟩ := hcomp
                  refine ⟨e5, G5, fp5, con5, cx, e6, q3, fun v G6 H6 fp6 fr con6 r6 n6 s6 => ?_⟩
                  have nm : ∀ a ∈ [Dl], ¬ U fp5 a := fun a m z => by simp at m; subst m; exact nD5 z
                  have rD6 := rD5.step s6 nm
                  have nD6 := rD5.out s6 nm Dl (by simp)
                  have con7 := con_fz2 con6 r6 n6
                  have sf := Step.fz r6
                  have rD7 : RepC K (addF G6 H6 fr) H6 (.ref Dl) (.ol acc) [Dl] := rD6.step sf fun a m z => by simp at m; subst m; exact nD6 (.inr z)
                  have rx := r6.fz
                  cases rD7 with
                  | @ol _ xsD _ gD hD7 rsD =>
                    refine ⟨_, hD7, ?_, ?_⟩
                    · rw [rsD.length]
                      have := compN_len q4
                      have hrl : acc.length < rs.length := by rw [← hacc]; simp
                      rw [← lim_eq]
                      omega
                    · have hsub7 : Same (addF G6 H6 fr) H6 := addF_sub con6.sub
                      have sW : Step (addF G6 H6 fr) H6 (fun a => a ∈ [Dl]) (addF G6 H6 fr) (upd H6 Dl (.lst (xsD ++ [v]))) (fun a => a ∈ [Dl]) := ⟨fun _ _ h => h, fun a o e z => by rw [upd_ne (fun q => z (by simp [q]))]; exact e, fun a o e => .inl e, fun a z => .inl z⟩
                      have con8 : Con K (wipe σ vs) (wipeE e6 vs) (addF G6 H6 fr) (upd H6 Dl (.lst (xsD ++ [v]))) fp6 := by
                        rw [← eq4]
                        exact (con_wipe con7 hc6).step sW (fun a u z => by simp at z; subst z; exact nD6 (.inl u)) fun a o e => by
                          rw [upd_ne (fun q => by rw [q, gD] at e; cases e)]; exact hsub7 a o e
                      refine ⟨wipeE e6 vs, addF G6 H6 fr, fp6, acc ++ [cx.fz], r', con8, nofp (con_wipe con7 hc6), ((sG.trans s3.sG).trans s5.sG).trans (s6.sG.trans sf.sG), .ol gD upd_same (rsD.append (.cons rx .nil)), fun z => nD6 (.inl z), q4, by simpa using hacc, ?_⟩
                      refine st5.trans (?_ : Step G5 H5 (fun a => U fp5 a ∨ a ∈ [Dl]) _ _ (fun a => U fp6 a ∨ a ∈ [Dl]))
                      have a1 : Step G5 H5 (fun a => U fp5 a ∨ a ∈ [Dl]) G6 H6 (fun a => U fp6 a ∨ a ∈ fr ∨ a ∈ [Dl]) := s6.weak (fun _ z => .inl z) fun a u => by
                        rcases u with u | u | u
                        · exact .inl (.inl u)
                        · exact .inl (.inr u)
                        · exact .inr (.inl (.inr u))
                      have a2 : Step G6 H6 (fun a => U fp6 a ∨ a ∈ fr ∨ a ∈ [Dl]) (addF G6 H6 fr) H6 (fun a => U fp6 a ∨ a ∈ [Dl]) := sf.weak (fun _ z => .inr (.inl z)) fun a u => u.elim (fun z => .inr (.inl (.inl z))) fun z => .inr (.inl (.inr (.inr z)))
                      have a3 : Step (addF G6 H6 fr) H6 (fun a => U fp6 a ∨ a ∈ [Dl]) (addF G6 H6 fr) (upd H6 Dl (.lst (xsD ++ [v]))) (fun a => U fp6 a ∨ a ∈ [Dl]) := sW.weak (fun _ z => .inr z) fun a u => .inr (.inl u)
                      exact (a1.trans a2).trans a3
              · cases hcomp
    · left
      have e0 : n = ds.length := by omega
      subst e0
      rw [List.drop_length] at hcomp
      cases hcomp
      rw [List.append_nil] at hacc
      subst hacc
      exact ⟨w.stop G2 H2 sG con2.sub, k G2 H2 fp2 con2 sG rD nD st⟩
def comp2N (vs : List Nat) (t : Tgt) (c : TM) (i1 : IM) (vs1 : List Nat) (t1 : Tgt) (c1 : TM) (m : EM) : List D → Env → Option (List D × Env)
  | [], env => some ([], env)
  | d :: ds, env => (asgT t d env).bind fun e1 => (c e1).bind fun (b, e2) => if b then (i1 e2).bind fun (ds1, e3) => if calmE e3 vs1 then (compN vs1 t1 c1 m ds1 (wipeE e3 vs1)).bind fun (rs1, e4) => if calmE e4 vs then (comp2N vs t c i1 vs1 t1 c1 m ds (wipeE e4 vs)).bind fun (rs, e5) => some (rs1 ++ rs, e5) else none else none
      else if calmE e2 vs then comp2N vs t c i1 vs1 t1 c1 m ds (wipeE e2 vs) else none
def eComp2 (vs : List Nat) (t : Tgt) (i : IM) (c : TM) (i1 : IM) (vs1 : List Nat) (t1 : Tgt) (c1 : TM) (m : EM) : EM := fun env => (i env).bind fun (ds, e1) => if calmE e1 vs then (comp2N vs t c i1 vs1 t1 c1 m ds (wipeE e1 vs)).bind fun (rs, e2) => if rs.length ≤ lim then some (.ol rs, restE e1 vs e2) else none else none
theorem comp2_run {K : Fg} {vs vs1 : List Nat} {t t1 : Tgt} {i i1 : IM} {c c1 : TM} {m : EM} {σ : St} {H : Hp} {Q : VK} (hn : vs.Nodup) (hsub : ∀ i ∈ t.is, i ∈ vs) (hsub1 : ∀ i ∈ t1.is, i ∈ vs1) (hv : ∀ i ∈ vs1, i ∈ vs) (q : tE K (eComp2 vs t i c i1 vs1 t1 c1 m) σ H Q) :
    tLc2 (tI K i) (gT K t) (tT K c) (tI K i1) (gT K t1) (tT K c1) (tE K m) vs vs1 σ H Q := by
  obtain ⟨env, G, fp, con, c0, env', e1, k⟩ := q
  unfold eComp2 at e1
  cases q : i env with
  | none => simp [q] at e1
  | some y =>
    obtain ⟨ds, e2⟩ := y
    simp only [q, Option.bind_some] at e1
    split at e1
    · rename_i hcalm
      cases q2 : comp2N vs t c i1 vs1 t1 c1 m ds (wipeE e2 vs) with
      | none => simp [q2] at e1
      | some y =>
        obtain ⟨rs, e3⟩ := y
        simp only [q2, Option.bind_some] at e1
        split at e1
        · rename_i hlen
          cases e1
          refine ⟨env, G, fp, con, ds, e2, q, fun J G1 H1 fp1 con1 s1 w => fun Dl hD => ?_⟩
          have GD : G1 Dl = none := none_of_same con1.sub hD
          refine ⟨fun n mm H2 => n + mm = ds.length ∧ ∃ e G2 fp2 acc rest, Con K (wipe σ vs) e G2 H2 fp2 ∧ (∀ v ∈ vs, fp2 v = []) ∧ Same G1 G2 ∧ RepC K G2 H2 (.ref Dl) (.ol acc) [Dl] ∧ ¬ U fp2 Dl ∧ comp2N vs t c i1 vs1 t1 c1 m (ds.drop n) e = some (rest, e3) ∧ acc ++ rest = rs ∧ Step G1 (upd H1 Dl (.lst [])) (fun a => U fp1 a ∨ a ∈ [Dl]) G2 H2 (fun a => U fp2 a ∨ a ∈ [Dl]), ?_, ?_⟩
          · refine ⟨ds.length, by simp, wipeE e2 vs, G1, fp1, [], rs, ?_, ?_, Same.refl _, .ol GD upd_same .nil, ?_, by simpa using q2, rfl, Step.refl ..⟩
            · exact (con_wipe con1 hcalm).step (Step.newH (o := .lst []) hD) (fun a u z => z) (same_newH con1.sub hD)
            · exact nofp (con_wipe con1 hcalm)
            · intro u
              obtain ⟨j, mj⟩ := u
              have : ∃ x, e2[j]? = some (some x) := by
                refine Classical.byContradiction fun no => ?_
                have e := con1.nil j fun x e => no ⟨x, e⟩
                rw [e] at mj; cases mj
              obtain ⟨x, ex⟩ := this
              obtain ⟨_, _, rx⟩ := con1.rep j x ex
              obtain ⟨_, o, eo⟩ := rx.mem Dl mj
              rw [eo] at hD; cases hD
          · rintro n mm H2 ⟨hnm, e, G2, fp2, acc, rest, con2, nf2, sG, rD, nD, hcomp, hacc, st⟩
            by_cases hnl : n < ds.length
            · right
              obtain ⟨hgo, hy⟩ := w.go n G2 H2 hnl sG con2.sub
              have hd : ds.drop n = ds[n] :: ds.drop (n + 1) := List.drop_eq_getElem_cons hnl
              rw [hd] at hcomp
              refine ⟨hgo, fun H3 => ∃ e G2 fp2 acc rest, Con K (wipe σ vs) e G2 H3 fp2 ∧ (∀ v ∈ vs, fp2 v = []) ∧ Same G1 G2 ∧ RepC K G2 H3 (.ref Dl) (.ol acc) [Dl] ∧ ¬ U fp2 Dl ∧ comp2N vs t c i1 vs1 t1 c1 m (ds.drop (n + 1)) e = some (rest, e3) ∧ acc ++ rest = rs ∧ Step G1 (upd H1 Dl (.lst [])) (fun a => U fp1 a ∨ a ∈ [Dl]) G2 H3 (fun a => U fp2 a ∨ a ∈ [Dl]), fun H' w => ⟨mm - 1, by omega, by omega, w⟩, fun x H3 hx => ?_⟩
              obtain ⟨G3, d, ed, rd, sub3, s3⟩ := hy x H3 hx
              have ed' : ds[n] = d := by
                rw [List.getElem?_eq_getElem hnl] at ed
                exact Option.some.inj ed
              rw [ed'] at hcomp
              unfold comp2N at hcomp
              cases q1 : asgT t d e with
              | none => simp [q1] at hcomp
              | some e4 =>
                simp only [q1, Option.bind_some] at hcomp
                have ew : wipe (wipe σ vs) vs = wipe σ vs := wipe_sub fun _ m => m
                have con3 : Con K (wipe σ vs) e G3 H3 fp2 := con2.step s3 (fun a u z => z) sub3
                have rD3 : RepC K G3 H3 (.ref Dl) (.ol acc) [Dl] := rD.step s3 fun a m z => z
                refine asgT_run (p := 0) con3 rd q1 (fun _ _ => Nat.zero_le _) fun σ4 fp4 con4 u4 _ st4 => ?_
                have hl4 : σ4.length = (wipe σ vs).length := by
                  have a := con4.len
                  have b := con3.len
                  rw [a, b]
                  exact asgT_len q1
                have eq4 : wipe σ4 vs = wipe σ vs := (wipe_eq hl4 fun j hj => st4 j fun z => hj (hsub j z)).trans ew
                refine ⟨eq4, ?_⟩
                have nD4 : ¬ U fp4 Dl := fun z => nD (u4 _ z)
                have st4' : Step G1 (upd H1 Dl (.lst [])) (fun a => U fp1 a ∨ a ∈ [Dl]) G3 H3 (fun a => U fp4 a ∨ a ∈ [Dl]) := st.trans (s3.weak (fun _ z => z.elim) fun a u => .inr (.inl (u.elim (fun z => .inl (u4 a z)) .inr)))
                cases q2' : c e4 with
                | none => simp [q2'] at hcomp
                | some y =>
                  obtain ⟨b, e5⟩ := y
                  simp only [q2', Option.bind_some] at hcomp
                  refine ⟨e4, G3, fp4, con4, b, e5, q2', fun G5 H5 fp5 con5 s5 => ?_⟩
                  have rD5 : RepC K G5 H5 (.ref Dl) (.ol acc) [Dl] := rD3.step s5 fun a m z => by simp at m; subst m; exact nD4 z
                  have nD5 : ¬ U fp5 Dl := rD3.out s5 (fun a m z => by simp at m; subst m; exact nD4 z) Dl (by simp)
                  have st5 : Step G1 (upd H1 Dl (.lst [])) (fun a => U fp1 a ∨ a ∈ [Dl]) G5 H5 (fun a => U fp5 a ∨ a ∈ [Dl]) := st4'.trans (s5.weak (fun _ z => .inl z) fun a u => u.elim .inl fun z => .inr (.inl (.inr z)))
                  cases b with
                  | false =>
                    rw [if_neg Bool.false_ne_true] at hcomp
                    refine iteF ?_
                    split at hcomp
                    · rename_i hc5
                      refine ⟨wipeE e5 vs, G5, fp5, acc, rest, by rw [← eq4]; exact con_wipe con5 hc5, nofp (con_wipe con5 hc5), (sG.trans s3.sG).trans s5.sG, rD5, nD5, hcomp, hacc, st5⟩
                    · cases hcomp
                  | true =>
                    rw [if_pos rfl] at hcomp
                    refine iteT ?_
                    cases q3 : i1 e5 with
                    | none => simp [q3] at hcomp
                    | some y =>
                      obtain ⟨ds1, e6⟩ := y
                      simp only [q3, Option.bind_some] at hcomp
                      split at hcomp
                      · rename_i hc6
                        cases q4 : compN vs1 t1 c1 m ds1 (wipeE e6 vs1) with
                        | none => simp [q4] at hcomp
                        | some y =>
                          obtain ⟨rs1, e7⟩ := y
                          simp only [q4, Option.bind_some] at hcomp
                          split at hcomp
                          · rename_i hc7
                            cases q5 : comp2N vs t c i1 vs1 t1 c1 m (ds.drop (n + 1)) (wipeE e7 vs) with
                            | none => simp [q5] at hcomp
                            | some y =>
                              obtain ⟨restO, e8⟩ := y
                              simp [q5] at hcomp
                              obtain ⟨rfl, rfl⟩ := hcomp
                              refine ⟨e5, G5, fp5, con5, ds1, e6, q3, fun J1 G6 H6 fp6 con6 s6 w6 => ?_⟩
                              have nm : ∀ a ∈ [Dl], ¬ U fp5 a := fun a m z => by simp at m; subst m; exact nD5 z
                              have rD6 := rD5.step s6 nm
                              have nD6 := rD5.out s6 nm Dl (by simp)
                              have st6 : Step G1 (upd H1 Dl (.lst [])) (fun a => U fp1 a ∨ a ∈ [Dl]) G6 H6 (fun a => U fp6 a ∨ a ∈ [Dl]) := st5.trans (s6.weak (fun _ z => .inl z) fun a u => u.elim .inl fun z => .inr (.inl (.inr z)))
                              refine inner_run (rs := acc ++ rs1) w6 con6 hc6 hsub1 rD6 nD6 q4 rfl (by have : (acc ++ (rs1 ++ restO)).length ≤ lim := by rw [hacc]; exact hlen
                                                                                                       simp at this ⊢; omega) fun G7 H7 fp7 con7 sG7 rD7 nD7 st7 => ?_
                              have cw := con_wipe con7 hc7
                              rw [wipe_sub hv, eq4] at cw
                              exact ⟨wipeE e7 vs, G7, fp7, acc ++ rs1, restO, cw, nofp cw, (((sG.trans s3.sG).trans s5.sG).trans s6.sG).trans sG7, rD7, nD7, q5, by rw [List.append_assoc]; exact hacc, st6.trans st7⟩
                          · cases hcomp
                      · cases hcomp
            · left
              have e0 : n = ds.length := by omega
              subst e0
              rw [List.drop_length] at hcomp
              cases hcomp
              rw [List.append_nil] at hacc
              subst hacc
              refine ⟨w.stop G2 H2 sG con2.sub, ?_⟩
              refine k (.ref Dl) G2 H2 fp2 [Dl] (con_rest con1 hn hcalm sG nf2 con2) rD (fun a m z => by simp at m; subst m; exact nD z) ?_
              refine s1.trans (?_ : Step G1 H1 (U fp1) G2 H2 (fun a => U fp2 a ∨ a ∈ [Dl]))
              have a1 : Step G1 H1 (U fp1) G1 (upd H1 Dl (.lst [])) (fun a => U fp1 a ∨ a ∈ [Dl]) := (Step.newH (o := .lst []) hD).weak (fun _ z => z.elim) fun a u => u.elim (fun z => .inr (.inl z)) .inl
              exact a1.trans st
        · cases e1
    · cases e1
section
variable {X : Cx} {p : Nat} {elt tg iter tg1 iter1 : Expr} {ifs ifs1 : List Expr} {scope : Scope} {pos spos : Pos} {t t1 : Tgt} {i i1 : IM} {c c1 : TM} {m : EM} {vs1 : List Nat}
theorem ok_comp2 (own : List (Str × Nat)) (vs1 : List Nat) (hc : X.calm = true) (hN : X.N.Nodup) (hi : IOk X tg iter i) (ok : BlkOk X.N X.env.scope scope own) (hg : Blk X scope fun Y => GOk Y tg t) (ht : Blk X scope fun Y => PTsOk Y ifs c) (hi1 : Blk X scope fun Y => IOk Y tg1 iter1 i1) (hg1 : Blk X scope fun Y => GOk Y tg1 t1) (ht1 : Blk X scope fun Y => PTsOk Y ifs1 c1) (he : Blk X scope fun Y => EOk Y elt m)
    (hn : (own.map (·.2)).Nodup := by decide) (hsub : ∀ i ∈ t.is, i ∈ own.map (·.2) := by decide) (hsub1 : ∀ i ∈ t1.is, i ∈ vs1 := by decide) (hv : ∀ i ∈ vs1, i ∈ own.map (·.2) := by decide) (hs : ∀ x, foldedSetIterable iter X.env x = pure x := by intro _; rfl) (hs1 : ∀ env x, foldedSetIterable iter1 env x = pure x := by intro _ _; rfl) :
    EOk X (.ListComp elt [⟨tg, iter, ifs, 0⟩, ⟨tg1, iter1, ifs1, 0⟩] scope pos) (eComp2 (own.map (·.2)) t i c i1 vs1 t1 c1 m) :=
  pe_mono (pe_lc2 (g := gT X.K t) (tt := tT X.K c) (te := tE X.K m) (wi1 := tI X.K i1) (g1 := gT X.K t1) (tt1 := tT X.K c1) hc hN hi ok hv hg ht hi1 hg1 ht1 he hs hs1) fun σ H Q q => comp2_run hn hsub hsub1 hv q
theorem s_setc2 (own : List (Str × Nat)) (vs1 : List Nat) {j : Nat} {y : Str} {py : Pos} (hp : p ≤ j) (hc : X.calm = true) (hN : X.N.Nodup) (hy : X.N[j]? = some y) (hyl : X.env.scope.names.lookup y = some .local)
    (hsw : swapsWith (.ListComp elt [⟨tg, iter, ifs, 0⟩, ⟨tg1, iter1, ifs1, 0⟩] scope pos) (some (.Name y py)) spos.line X.env = pure true) (hi : IOk X tg iter i) (ok : BlkOk X.N X.env.scope scope own) (hg : Blk X scope fun Y => GOk Y tg t) (ht : Blk X scope fun Y => PTsOk Y ifs c) (hi1 : Blk X scope fun Y => IOk Y tg1 iter1 i1) (hg1 : Blk X scope fun Y => GOk Y tg1 t1) (ht1 : Blk X scope fun Y => PTsOk Y ifs1 c1) (he : Blk X scope fun Y => EOk Y elt m)
    (hn : (own.map (·.2)).Nodup := by decide) (hsub : ∀ i ∈ t.is, i ∈ own.map (·.2) := by decide) (hsub1 : ∀ i ∈ t1.is, i ∈ vs1 := by decide) (hv : ∀ i ∈ vs1, i ∈ own.map (·.2) := by decide) (hs : ∀ x, foldedSetIterable iter X.env x = pure x := by intro _; rfl) (hs1 : ∀ env x, foldedSetIterable iter1 env x = pure x := by intro _ _; rfl) :
    SOk X p (.Assign [.Name y py] (.ListComp elt [⟨tg, iter, ifs, 0⟩, ⟨tg1, iter1, ifs1, 0⟩] scope pos) spos) (sSet j (eComp2 (own.map (·.2)) t i c i1 vs1 t1 c1 m)) :=
  ps_mono (ps_setLc2 (g := gT X.K t) (tt := tT X.K c) (te := tE X.K m) (wi1 := tI X.K i1) (g1 := gT X.K t1) (tt1 := tT X.K c1) hc hN hy hyl hsw hi ok hv hg ht hi1 hg1 ht1 he hs hs1) fun D σ H q => comp2_run hn hsub hsub1 hv (sSet_run hp q)
end
end Fx
set_option Elab.async false
set_option linter.all false
set_option maxRecDepth 100000
set_option maxHeartbeats 4000000
noncomputable section
namespace Fx
open PySem L2
/-! ## dict comprehensions (keys: ints, texts) -/
def dcN (vs : List Nat) (t : Tgt) (c : TM) (mk mv : EM) : List D → List (Key × D) → Env → Option (List (Key × D) × Env)
  | [], acc, env => some (acc, env)
  | d :: ds, acc, env => (asgT t d env).bind fun e1 => (c e1).bind fun (b, e2) => if b then (mk e2).bind fun (x, e3) => (keyD x.fz).bind fun k => (mv e3).bind fun (y, e4) => if calmE e4 vs = true ∧ acc.length < lim then dcN vs t c mk mv ds (putD acc k y.fz) (wipeE e4 vs) else none
      else if calmE e2 vs then dcN vs t c mk mv ds acc (wipeE e2 vs) else none
def eDC (vs : List Nat) (t : Tgt) (i : IM) (c : TM) (mk mv : EM) : EM := fun env => (i env).bind fun (ds, e1) => if calmE e1 vs then (dcN vs t c mk mv ds [] (wipeE e1 vs)).bind fun (rs, e2) => some (.odk rs, restE e1 vs e2) else none
theorem dc_run {K : Fg} {vs : List Nat} {t : Tgt} {i : IM} {c : TM} {mk mv : EM} {σ : St} {H : Hp} {Q : VK} (hn : vs.Nodup) (hsub : ∀ i ∈ t.is, i ∈ vs) (q : tE K (eDC vs t i c mk mv) σ H Q) :
    tDc (tI K i) (gT K t) (tT K c) (tE K mk) (tE K mv) vs σ H Q := by
  obtain ⟨env, G, fp, con, c0, env', e1, k⟩ := q
  unfold eDC at e1
  cases q : i env with
  | none => simp [q] at e1
  | some y =>
    obtain ⟨ds, e2⟩ := y
    simp only [q, Option.bind_some] at e1
    split at e1
    · rename_i hcalm
      cases q2 : dcN vs t c mk mv ds [] (wipeE e2 vs) with
      | none => simp [q2] at e1
      | some y =>
        obtain ⟨rs, e3⟩ := y
        simp only [q2, Option.bind_some] at e1
        · cases e1
          refine ⟨env, G, fp, con, ds, e2, q, fun J G1 H1 fp1 con1 s1 w => fun Dl hD => ?_⟩
          have GD : G1 Dl = none := none_of_same con1.sub hD
          refine ⟨fun n mm H2 => n + mm = ds.length ∧ ∃ e G2 fp2 acc, Con K (wipe σ vs) e G2 H2 fp2 ∧ (∀ v ∈ vs, fp2 v = []) ∧ Same G1 G2 ∧ RepC K G2 H2 (.ref Dl) (.odk acc) [Dl] ∧ ¬ U fp2 Dl ∧ dcN vs t c mk mv (ds.drop n) acc e = some (rs, e3) ∧ Step G1 (upd H1 Dl (.dK [])) (fun a => U fp1 a ∨ a ∈ [Dl]) G2 H2 (fun a => U fp2 a ∨ a ∈ [Dl]), ?_, ?_⟩
          · refine ⟨ds.length, by simp, wipeE e2 vs, G1, fp1, [], ?_, ?_, Same.refl _, .odk GD upd_same .nil, ?_, by simpa using q2, Step.refl ..⟩
            · exact (con_wipe con1 hcalm).step (Step.newH (o := .dK []) hD) (fun a u z => z) (same_newH con1.sub hD)
            · exact nofp (con_wipe con1 hcalm)
            · intro u
              obtain ⟨j, mj⟩ := u
              have : ∃ x, e2[j]? = some (some x) := by
                refine Classical.byContradiction fun no => ?_
                have e := con1.nil j fun x e => no ⟨x, e⟩
                rw [e] at mj; cases mj
              obtain ⟨x, ex⟩ := this
              obtain ⟨_, _, rx⟩ := con1.rep j x ex
              obtain ⟨_, o, eo⟩ := rx.mem Dl mj
              rw [eo] at hD; cases hD
          · rintro n mm H2 ⟨hnm, e, G2, fp2, acc, con2, nf2, sG, rD, nD, hcomp, st⟩
            by_cases hnl : n < ds.length
            · right
              obtain ⟨hgo, hy⟩ := w.go n G2 H2 hnl sG con2.sub
              have hd : ds.drop n = ds[n] :: ds.drop (n + 1) := List.drop_eq_getElem_cons hnl
              rw [hd] at hcomp
              refine ⟨hgo, fun H3 => ∃ e G2 fp2 acc, Con K (wipe σ vs) e G2 H3 fp2 ∧ (∀ v ∈ vs, fp2 v = []) ∧ Same G1 G2 ∧ RepC K G2 H3 (.ref Dl) (.odk acc) [Dl] ∧ ¬ U fp2 Dl ∧ dcN vs t c mk mv (ds.drop (n + 1)) acc e = some (rs, e3) ∧ Step G1 (upd H1 Dl (.dK [])) (fun a => U fp1 a ∨ a ∈ [Dl]) G2 H3 (fun a => U fp2 a ∨ a ∈ [Dl]), fun H' w => ⟨mm - 1, by omega, by omega, w⟩, fun x H3 hx => ?_⟩
              obtain ⟨G3, d, ed, rd, sub3, s3⟩ := hy x H3 hx
              have ed' : ds[n] = d := by
                rw [List.getElem?_eq_getElem hnl] at ed
                exact Option.some.inj ed
              rw [ed'] at hcomp
              unfold dcN at hcomp
              cases q1 : asgT t d e with
              | none => simp [q1] at hcomp
              | some e4 =>
                simp only [q1, Option.bind_some] at hcomp
                have ew : wipe (wipe σ vs) vs = wipe σ vs := wipe_sub fun _ m => m
                have con3 : Con K (wipe σ vs) e G3 H3 fp2 := con2.step s3 (fun a u z => z) sub3
                have rD3 : RepC K G3 H3 (.ref Dl) (.odk acc) [Dl] := rD.step s3 fun a m z => z
                refine asgT_run (p := 0) con3 rd q1 (fun _ _ => Nat.zero_le _) fun σ4 fp4 con4 u4 _ st4 => ?_
                have hl4 : σ4.length = (wipe σ vs).length := by
                  have a := con4.len
                  have b := con3.len
                  rw [a, b]
                  exact asgT_len q1
                have eq4 : wipe σ4 vs = wipe σ vs := (wipe_eq hl4 fun j hj => st4 j fun z => hj (hsub j z)).trans ew
                refine ⟨eq4, ?_⟩
                have nD4 : ¬ U fp4 Dl := fun z => nD (u4 _ z)
                have st4' : Step G1 (upd H1 Dl (.dK [])) (fun a => U fp1 a ∨ a ∈ [Dl]) G3 H3 (fun a => U fp4 a ∨ a ∈ [Dl]) := st.trans (s3.weak (fun _ z => z.elim) fun a u => .inr (.inl (u.elim (fun z => .inl (u4 a z)) .inr)))
                cases q2' : c e4 with
                | none => simp [q2'] at hcomp
                | some y =>
                  obtain ⟨b, e5⟩ := y
                  simp only [q2', Option.bind_some] at hcomp
                  refine ⟨e4, G3, fp4, con4, b, e5, q2', fun G5 H5 fp5 con5 s5 => ?_⟩
                  have rD5 : RepC K G5 H5 (.ref Dl) (.odk acc) [Dl] := rD3.step s5 fun a m z => by simp at m; subst m; exact nD4 z
                  have nD5 : ¬ U fp5 Dl := rD3.out s5 (fun a m z => by simp at m; subst m; exact nD4 z) Dl (by simp)
                  have st5 : Step G1 (upd H1 Dl (.dK [])) (fun a => U fp1 a ∨ a ∈ [Dl]) G5 H5 (fun a => U fp5 a ∨ a ∈ [Dl]) := st4'.trans (s5.weak (fun _ z => .inl z) fun a u => u.elim .inl fun z => .inr (.inl (.inr z)))
                  cases b with
                  | false =>
                    rw [if_neg Bool.false_ne_true] at hcomp
                    refine iteF ?_
                    split at hcomp
                    · rename_i hc5
                      refine ⟨wipeE e5 vs, G5, fp5, acc, by rw [← eq4]; exact con_wipe con5 hc5, nofp (con_wipe con5 hc5), (sG.trans s3.sG).trans s5.sG, rD5, nD5, hcomp, st5⟩
                    · cases hcomp
                  | true =>
                    rw [if_pos rfl] at hcomp
                    refine iteT ?_
                    cases q3 : mk e5 with
                    | none => simp [q3] at hcomp
                    | some y =>
                      obtain ⟨ck, e6⟩ := y
                      simp only [q3, Option.bind_some] at hcomp
                      cases qk : keyD ck.fz with
                      | none => simp [qk] at hcomp
                      | some key =>
                        simp only [qk, Option.bind_some] at hcomp
                        cases q4 : mv e6 with
                        | none => simp [q4] at hcomp
                        | some y =>
                          obtain ⟨cv, e7⟩ := y
                          simp only [q4, Option.bind_some] at hcomp
                          split at hcomp
                          · rename_i hc7
                            obtain ⟨hc7, hal⟩ := hc7
                            refine ⟨e5, G5, fp5, con5, ck, e6, q3, fun vk G6 H6 fp6 frk con6 r6 n6 s6 => ?_⟩
                            have nm : ∀ a ∈ [Dl], ¬ U fp5 a := fun a m z => by simp at m; subst m; exact nD5 z
                            have rD6 := rD5.step s6 nm
                            have nD6 := rD5.out s6 nm Dl (by simp)
                            have con6' := con_fz2 con6 r6 n6
                            have sf := Step.fz r6
                            have rD6' : RepC K (addF G6 H6 frk) H6 (.ref Dl) (.odk acc) [Dl] := rD6.step sf fun a m z => by simp at m; subst m; exact nD6 (.inr z)
                            have ek := keyD_of r6.fz qk
                            refine ⟨e6, _, fp6, con6', cv, e7, q4, fun vv G7 H7 fp7 frv con7 r7 n7 s7 => ?_⟩
                            have nm2 : ∀ a ∈ [Dl], ¬ U fp6 a := fun a m z => by simp at m; subst m; exact nD6 (.inl z)
                            have rD7 := rD6'.step s7 nm2
                            have nD7 := rD6'.out s7 nm2 Dl (by simp)
                            have con7' := con_fz2 con7 r7 n7
                            have sf7 := Step.fz r7
                            have rD8 : RepC K (addF G7 H7 frv) H7 (.ref Dl) (.odk acc) [Dl] := rD7.step sf7 fun a m z => by simp at m; subst m; exact nD7 (.inr z)
                            have rx := r7.fz
                            have st8 : Step G1 (upd H1 Dl (.dK [])) (fun a => U fp1 a ∨ a ∈ [Dl]) (addF G7 H7 frv) H7 (fun a => U fp7 a ∨ a ∈ [Dl]) := by
                              have a1 : Step G5 H5 (fun a => U fp5 a ∨ a ∈ [Dl]) (addF G6 H6 frk) H6 (fun a => U fp6 a ∨ a ∈ [Dl]) := by
                                have b1 : Step G5 H5 (fun a => U fp5 a ∨ a ∈ [Dl]) G6 H6 (fun a => U fp6 a ∨ a ∈ frk ∨ a ∈ [Dl]) := s6.weak (fun _ z => .inl z) fun a u => by
                                  rcases u with u | u | u
                                  · exact .inl (.inl u)
                                  · exact .inl (.inr u)
                                  · exact .inr (.inl (.inr u))
                                exact b1.trans (sf.weak (fun _ z => .inr (.inl z)) fun a u => u.elim (fun z => .inr (.inl (.inl z))) fun z => .inr (.inl (.inr (.inr z))))
                              have a2 : Step (addF G6 H6 frk) H6 (fun a => U fp6 a ∨ a ∈ [Dl]) (addF G7 H7 frv) H7 (fun a => U fp7 a ∨ a ∈ [Dl]) := by
                                have b1 : Step (addF G6 H6 frk) H6 (fun a => U fp6 a ∨ a ∈ [Dl]) G7 H7 (fun a => U fp7 a ∨ a ∈ frv ∨ a ∈ [Dl]) := s7.weak (fun _ z => .inl z) fun a u => by
                                  rcases u with u | u | u
                                  · exact .inl (.inl u)
                                  · exact .inl (.inr u)
                                  · exact .inr (.inl (.inr u))
                                exact b1.trans (sf7.weak (fun _ z => .inr (.inl z)) fun a u => u.elim (fun z => .inr (.inl (.inl z))) fun z => .inr (.inl (.inr (.inr z))))
                              exact (st5.trans a1).trans a2
                            cases rD8 with
                            | @odk _ xsD _ gD hD7 rsD =>
                              refine ⟨xsD, key, ek, hD7, by rw [repK_len rsD, ← lim_eq]; exact hal, ?_⟩
                              have hsub7 : Same (addF G7 H7 frv) H7 := addF_sub con7.sub
                              have sW : Step (addF G7 H7 frv) H7 (fun a => a ∈ [Dl]) (addF G7 H7 frv) (upd H7 Dl (.dK (putK xsD key vv))) (fun a => a ∈ [Dl]) := ⟨fun _ _ h => h, fun a o e z => by rw [upd_ne (fun q => z (by simp [q]))]; exact e, fun a o e => .inl e, fun a z => .inl z⟩
                              have con8 : Con K (wipe σ vs) (wipeE e7 vs) (addF G7 H7 frv) (upd H7 Dl (.dK (putK xsD key vv))) fp7 := by
                                rw [← eq4]
                                exact (con_wipe con7' hc7).step sW (fun a u z => by simp at z; subst z; exact nD7 (.inl u)) fun a o e => by
                                  rw [upd_ne (fun q => by rw [q, gD] at e; cases e)]; exact hsub7 a o e
                              refine ⟨wipeE e7 vs, addF G7 H7 frv, fp7, putD acc key cv.fz, con8, nofp (con_wipe con7' hc7), (((sG.trans s3.sG).trans s5.sG).trans ((s6.sG.trans sf.sG).trans s7.sG)).trans sf7.sG, .odk gD upd_same (putK_of rx rsD), fun z => nD7 (.inl z), hcomp, ?_⟩
                              exact st8.trans (sW.weak (fun _ z => .inr z) fun a u => .inr (.inl u))
                          · cases hcomp
            · left
              have e0 : n = ds.length := by omega
              subst e0
              rw [List.drop_length] at hcomp
              cases hcomp
              refine ⟨w.stop G2 H2 sG con2.sub, ?_⟩
              refine k (.ref Dl) G2 H2 fp2 [Dl] (con_rest con1 hn hcalm sG nf2 con2) rD (fun a m z => by simp at m; subst m; exact nD z) ?_
              refine s1.trans (?_ : Step G1 H1 (U fp1) G2 H2 (fun a => U fp2 a ∨ a ∈ [Dl]))
              have a1 : Step G1 H1 (U fp1) G1 (upd H1 Dl (.dK [])) (fun a => U fp1 a ∨ a ∈ [Dl]) := (Step.newH (o := .dK []) hD).weak (fun _ z => z.elim) fun a u => u.elim (fun z => .inr (.inl z)) .inl
              exact a1.trans st
    · cases e1
section
variable {X : Cx} {kx vx tg iter : Expr} {ifs : List Expr} {scope : Scope} {pos : Pos} {t : Tgt} {i : IM} {c : TM} {mk mv : EM}
theorem ok_dc (own : List (Str × Nat)) (hc : X.calm = true) (hN : X.N.Nodup) (hi : IOk X tg iter i) (ok : BlkOk X.N X.env.scope scope own) (hg : Blk X scope fun Y => GOk Y tg t) (ht : Blk X scope fun Y => PTsOk Y ifs c) (hk : Blk X scope fun Y => EOk Y kx mk) (he : Blk X scope fun Y => EOk Y vx mv)
    (hn : (own.map (·.2)).Nodup := by decide) (hsub : ∀ i ∈ t.is, i ∈ own.map (·.2) := by decide) (hs : ∀ x, foldedSetIterable iter X.env x = pure x := by intro _; rfl) :
    EOk X (.DictComp kx vx [⟨tg, iter, ifs, 0⟩] scope pos) (eDC (own.map (·.2)) t i c mk mv) :=
  pe_mono (pe_dc (g := gT X.K t) (tt := tT X.K c) (tk := tE X.K mk) (tv := tE X.K mv) hc hN hi ok hg ht hk he hs) fun σ H Q q => dc_run hn hsub q
end
end Fx
set_option Elab.async false
set_option linter.all false
set_option maxRecDepth 100000
set_option maxHeartbeats 4000000
noncomputable section
namespace Fx
open PySem L2

/-! ## reckoning with the functions -/
def getC (env : Env) (i : Nat) : Option C := match env[i]? with
  | some (some c) => some c
  | _ => none
theorem getC_some {env : Env} {i : Nat} {c : C} : getC env i = some c ↔ env[i]? = some (some c) := by
  unfold getC
  cases h : env[i]? with
  | none => simp
  | some x => cases x <;> simp
@[simp] theorem getC_z {c : C} {r : Env} : getC (some c :: r) 0 = some c := rfl
@[simp] theorem getC_zn {r : Env} : getC (none :: r) 0 = none := rfl
@[simp] theorem getC_s {x : Option C} {r : Env} {i : Nat} : getC (x :: r) (i + 1) = getC r i := rfl
section
variable {env : Env} {i : Nat} {d : D} {m m' : EM} {o o' : Opd}
theorem m_getC {α : Type} {f : C → Option α} : (match env[i]? with | some (some c) => f c | _ => none) = (getC env i).bind f := by
  unfold getC
  cases h : env[i]? with
  | none => rfl
  | some x => cases x <;> rfl
@[simp] theorem ev_C : eC d env = some (.sh d, env) := rfl
@[simp] theorem ev_Slot : eSlot i env = (getC env i).bind fun c => some (.sh c.fz, env.set i (some (.sh c.fz))) := m_getC
@[simp] theorem ev_Move : eMove i env = (getC env i).bind fun c => some (c, env.set i none) := m_getC
@[simp] theorem fz_sh : (C.sh d).fz = d := rfl
@[simp] theorem fz_ol {ds : List D} : (C.ol ds).fz = .lst ds := rfl
@[simp] theorem fz_oll {ds : List (List D)} : (C.oll ds).fz = .lst (ds.map D.lst) := rfl
@[simp] theorem vw_sh : (C.sh d).vw = some d := rfl
@[simp] theorem vw_ol {ds : List D} : (C.ol ds).vw = some (.lst ds) := rfl
@[simp] theorem vw_odk {ds} : (C.odk ds).vw = some (.dk ds) := rfl
@[simp] theorem vw_odt {ds} : (C.odt ds).vw = some (.dt ds) := rfl
@[simp] theorem pre_nil : preO [] env = some ([], env) := rfl
@[simp] theorem pre_s {r : List Opd} : preO (.slot i :: r) env = (getC env i).bind fun _ => (preO r env).bind fun (xs, e) => some (.sh .non :: xs, e) := m_getC (f := fun _ => (preO r env).bind fun (xs, e) => some (.sh .non :: xs, e))
@[simp] theorem pre_v {r : List Opd} : preO (.val m :: r) env = (m env).bind fun (c, e) => (preO r e).bind fun (xs, e') => some (c :: xs, e') := rfl
@[simp] theorem fin_nil {xs : List C} : finO env [] xs = some [] := by cases xs <;> rfl
@[simp] theorem fin_s {r : List Opd} {x : C} {xs : List C} : finO env (.slot i :: r) (x :: xs) = (getC env i).bind fun c => c.vw.bind fun d => (finO env r xs).bind fun ds => some (d :: ds) := m_getC (f := fun c => c.vw.bind fun d => (finO env r xs).bind fun ds => some (d :: ds))
@[simp] theorem fin_v {r : List Opd} {x : C} {xs : List C} : finO env (.val m :: r) (x :: xs) = x.vw.bind fun d => (finO env r xs).bind fun ds => some (d :: ds) := rfl
@[simp] theorem ev_Os {os : List Opd} : evO os env = (preO os env).bind fun (cs, e) => (finO e os cs).bind fun ds => some (ds, e) := rfl
@[simp] theorem ev_O {f : List D → Option C} {os : List Opd} : eO f os env = (evO os env).bind fun (ds, e) => (f ds).bind fun c => some (c, e) := rfl
@[simp] theorem evA_nil : evA [] env = some ([], env) := rfl
@[simp] theorem evA_one {r : List Arg} : evA (.one m :: r) env = (m env).bind fun (c, e) => (evA r e).bind fun (ds, e') => some (c.fz :: ds, e') := rfl
@[simp] theorem evA_star {r : List Arg} : evA (.star m :: r) env = (m env).bind fun (c, e) => c.fz.seq.bind fun xs => (evA r e).bind fun (ds, e') => some (xs ++ ds, e') := rfl
@[simp] theorem ev_Tup {ms : List Arg} : eTup ms env = (evA ms env).bind fun (ds, e) => if ds.length ≤ lim then some (.sh (.tup ds), e) else none := rfl
@[simp] theorem ev_Lst {ms : List Arg} : eLst ms env = (evA ms env).bind fun (ds, e) => if ds.length ≤ lim then some (.ol ds, e) else none := rfl
@[simp] theorem ev_If {t : TM} : eIf t m m' env = (t env).bind fun (x, e) => if x then m e else m' e := rfl
@[simp] theorem ev_Call {F : List D → Option C} {ms : List Arg} : eCall F ms env = (evA ms env).bind fun (ds, e) => (F ds).bind fun c => some (c, e) := rfl
@[simp] theorem ev_CallB {F : C → List D → Option (C × C)} {ms : List Arg} : eCallB F i ms env = (getC env i).bind fun _ => (evA ms env).bind fun (ds, e) => (getC e i).bind fun c0 => (F c0 ds).bind fun (c, c0') => some (c, e.set i (some c0')) := by
  refine Eq.trans (m_getC (f := fun _ => (evA ms env).bind fun (ds, e) => match e[i]? with
    | some (some c0) => (F c0 ds).bind fun (c, c0') => some (c, e.set i (some c0'))
    | _ => none)) ?_
  congr 1
  funext _
  congr 1
  funext ⟨ds, e⟩
  exact m_getC
@[simp] theorem ev_MethL {F : List D → List D → Option (C × List D)} {ms : List Arg} : eMethL F i ms env = (getC env i).bind fun c => match c with
  | .ol _ => (evA ms env).bind fun (ds, e) => (getC e i).bind fun c0 => match c0 with
    | .ol zs => (F zs ds).bind fun (c, zs') => some (c, e.set i (some (.ol zs')))
    | _ => none
  | _ => none := by
  unfold eMethL getC
  cases h : env[i]? with
  | none => rfl
  | some x => cases x with
    | none => rfl
    | some c => cases c with
      | ol ds =>
        show eCallB (olOnly F) i ms env = _
        rw [ev_CallB]
        rw [getC_some.mpr h]
        simp only [Option.bind_some]
        congr 1
        funext ⟨ds, e⟩
        unfold getC
        cases h2 : e[i]? with
        | none => rfl
        | some y => cases y with
          | none => rfl
          | some c => cases c with
            | ol zs =>
              show ((F zs ds).bind fun (c, ys) => some (c, C.ol ys)).bind _ = (F zs ds).bind _
              cases F zs ds <;> rfl
            | _ => rfl
      | _ => rfl
@[simp] theorem k_Val : kVal m env = (m env).bind fun (c, e) => match c with | .sh (.bl b) => some (b, e) | _ => none := by
  unfold kVal
  cases m env with
  | none => rfl
  | some x => obtain ⟨c, e⟩ := x; cases c with
    | sh d => cases d <;> rfl
    | _ => rfl
@[simp] theorem k_And {a b : TM} : kAnd a b env = (a env).bind fun (x, e) => if x then b e else some (false, e) := rfl
@[simp] theorem k_Or {a b : TM} : kOr a b env = (a env).bind fun (x, e) => if x then some (true, e) else b e := rfl
@[simp] theorem k_Not {a : TM} : kNot a env = (a env).bind fun (x, e) => some (!x, e) := rfl
@[simp] theorem k_Yes : kYes env = some (true, env) := rfl
@[simp] theorem s_Nx : sNx env = some (.nx env) := rfl
@[simp] theorem s_No : sNo env = none := rfl
@[simp] theorem s_Seq {a b : SM} : sSeq a b env = (a env).bind fun o => match o with | .nx e => b e | .rt c e => some (.rt c e) | .bk e => some (.bk e) | .ct e => some (.ct e) := by
  unfold sSeq
  congr 1
  funext o
  cases o <;> rfl
@[simp] theorem s_If {t : TM} {a b : SM} : sIf t a b env = (t env).bind fun (x, e) => if x then a e else b e := rfl
@[simp] theorem s_Set : sSet i m env = (m env).bind fun (c, e) => if i < e.length then some (.nx (e.set i (some c))) else none := rfl
@[simp] theorem s_Ret : sRet m env = (m env).bind fun (c, e) => some (.rt c e) := rfl
@[simp] theorem s_Drop : sDrop m env = (m env).bind fun (_, e) => some (.nx e) := rfl
@[simp] theorem s_Put {t : Tg} : sPut t m env = (m env).bind fun (c, e) => (asgG t c.fz e).bind fun e' => some (.nx e') := rfl
@[simp] theorem s_For {t : Tgt} {it : IM} {b : SM} : sFor t it b env = (it env).bind fun (ds, e) => forN t b ds e := rfl
@[simp] theorem s_Par2 {j : Nat} : sPar2c i j m m' env = (m env).bind fun (c, e) => (m' e).bind fun (d, e') => if i < e'.length ∧ j < e'.length then some (.nx ((e'.set i (some c)).set j (some d))) else none := rfl
@[simp] theorem s_Par {is : List Nat} {ms : List Arg} : sPar is ms env = (evA ms env).bind fun (ds, e) => (asg is ds e).bind fun e' => some (.nx e') := rfl
@[simp] theorem asg_nil : asg [] [] env = some env := rfl
@[simp] theorem asg_cons {is : List Nat} {ds : List D} : asg (i :: is) (d :: ds) env = if i < env.length then asg is ds (env.set i (some (.sh d))) else none := rfl
@[simp] theorem asgT_one : asgT (.one i) d env = if i < env.length then some (env.set i (some (.sh d))) else none := rfl
@[simp] theorem asgT_tup {is : List Nat} {ds : List D} : asgT (.tup is) (.tup ds) env = asg is ds env := rfl
@[simp] theorem asgG_nm : asgG (.nm i) d env = if i < env.length then some (env.set i (some (.sh d))) else none := rfl
@[simp] theorem asgG_sb : asgG (.sb i o) d env = (getC env i).bind fun _ => (evO [o] env).bind fun (ds, e) => match ds with
    | [y] => (getC e i).bind fun c0 => (putC c0 y d).bind fun c1 => some (e.set i (some c1))
    | _ => none := by
  refine Eq.trans (m_getC (f := fun _ => (evO [o] env).bind fun (ds, e) => match ds, e[i]? with
      | [y], some (some c0) => (putC c0 y d).bind fun c1 => some (e.set i (some c1))
      | _, _ => none)) ?_
  congr 1
  funext _
  congr 1
  funext ⟨ds, e⟩
  rcases ds with _ | ⟨y, _ | ⟨z, r⟩⟩
  · rfl
  · show (match [y], e[i]? with | [y], some (some c0) => (putC c0 y d).bind fun c1 => some (e.set i (some c1)) | _, _ => none) = (getC e i).bind fun c0 => (putC c0 y d).bind fun c1 => some (e.set i (some c1))
    cases h : e[i]? with
    | none => unfold getC; rw [h]; rfl
    | some x => cases x with
      | none => unfold getC; rw [h]; rfl
      | some c => rw [getC_some.mpr h]; rfl
  · rfl
@[simp] theorem asgGs_nil : asgGs [] [] env = some env := rfl
@[simp] theorem asgGs_cons {t : Tg} {ts : List Tg} {ds : List D} : asgGs (t :: ts) (d :: ds) env = (asgG t d env).bind fun e => asgGs ts ds e := rfl
@[simp] theorem s_Unp {ts : List Tg} : sUnp ts m env = (m env).bind fun (c, e) => match c.fz with | .tup ds => (asgGs ts ds e).bind fun e' => some (.nx e') | _ => none := by
  unfold sUnp; rfl
@[simp] theorem s_UnpL {ts : List Tg} : sUnpL ts m env = (m env).bind fun (c, e) => match c.fz with | .lst ds => (asgGs ts ds e).bind fun e' => some (.nx e') | _ => none := by
  unfold sUnpL; rfl
@[simp] theorem evI_v : evI (.val m) env = (m env).bind fun (c, e) => match c with | .sh (.int n) => some (n, e) | _ => none := by
  unfold evI
  show (match m env with | some (.sh (.int n), e) => some (n, e) | _ => none) = _
  cases m env with
  | none => rfl
  | some x => obtain ⟨c, e⟩ := x; cases c with
    | sh d => cases d <;> rfl
    | _ => rfl
@[simp] theorem evI_s : evI (.slot i) env = (getC env i).bind fun c => match c with | .sh (.int n) => some (n, env) | _ => none := by
  unfold evI getC
  show (match env[i]? with | some (some (.sh (.int n))) => some (n, env) | _ => none) = _
  cases env[i]? with
  | none => rfl
  | some x => cases x with
    | none => rfl
    | some c => cases c with
      | sh d => cases d <;> rfl
      | _ => rfl
@[simp] theorem evP_no : evP .no env = some (none, env) := rfl
@[simp] theorem evP_at : evP (.at_ o) env = (evI o env).bind fun (n, e) => some (some n, e) := by unfold evP; rfl
@[simp] theorem ev_Sl {lo hi : Part} : eSl o lo hi env = (preO [o] env).bind fun (cs, e1) => (evP lo e1).bind fun (i, e2) => (evP hi e2).bind fun (j, e3) => (finO e3 [o] cs).bind fun ds => match ds with
  | [d] => (fSl d i j).bind fun c => some (c, e3)
  | _ => none := rfl
@[simp] theorem i_V : iV m env = (m env).bind fun (c, e) => c.fz.seq.bind fun ds => some (ds, e) := rfl
@[simp] theorem seq_lst {ds : List D} : (D.lst ds).seq = some ds := rfl
@[simp] theorem seq_tup {ds : List D} : (D.tup ds).seq = some ds := rfl
@[simp] theorem zseq_lst {ds : List D} : (D.lst ds).zseq = some ds := rfl
@[simp] theorem zseq_tup {ds : List D} : (D.tup ds).zseq = some ds := rfl
@[simp] theorem zseq_str {x : Str} : (D.str x).zseq = some (x.cps.toList.map fun c => .str ⟨#[c]⟩) := rfl
@[simp] theorem i_R1 : iR1 o env = (evO [o] env).bind fun (ds, e) => match ds with
  | [.int n] => if okR n then some (rng 0 n, e) else none
  | _ => none := rfl
@[simp] theorem i_R2 : iR2 o o' env = (evO [o, o'] env).bind fun (ds, e) => match ds with
  | [.int a, .int b] => if okR a && okR b then some (rng a b, e) else none
  | _ => none := rfl
@[simp] theorem ev_LZip {ms : List Arg} : eLZip ms env = (evA ms env).bind fun (ds, e) => match ds with
  | [a, b] => a.zseq.bind fun xs => b.zseq.bind fun ys => if min xs.length ys.length ≤ lim then some (.ol (zipD xs ys), e) else none
  | _ => none := rfl
@[simp] theorem ev_Isi {bs : List String} : eIsi bs o env = (evO [o] env).bind fun (ds, e) => match ds with
  | [d] => if d.noScr then some (.sh (.bl (d.isT bs)), e) else none
  | _ => none := by unfold eIsi; rfl
@[simp] theorem s_Aug {g : Int → Int → Int} : sAug i g m env = (getC env i).bind fun c => match c with
  | .sh (.int a) => (m env).bind fun (c, e) => match c with
    | .sh (.int b) => if i < e.length then some (.nx (e.set i (some (.sh (.int (g a b)))))) else none
    | _ => none
  | _ => none := by
  unfold sAug getC
  cases h : env[i]? with
  | none => rfl
  | some x => cases x with
    | none => rfl
    | some c => cases c with
      | sh d => cases d with
        | int a =>
          show (match m env with | some (.sh (.int b), e) => _ | _ => none) = (m env).bind _
          cases m env with
          | none => rfl
          | some y => obtain ⟨c, e⟩ := y; cases c with
            | sh d => cases d <;> rfl
            | _ => rfl
        | _ => rfl
      | _ => rfl
@[simp] theorem s_AugIx {g : Int → Int → Int} : sAugIx i o g m env = (getC env i).bind fun c => match c with
  | .ol _ => (evI o env).bind fun (n, e) => (getC e i).bind fun c => match c with
    | .ol ds => (atI ds n).bind fun a => match a with
      | .int a => (m e).bind fun (c, e2) => match c with
        | .sh (.int b) => (getC e2 i).bind fun c => match c with
          | .ol ds2 => (ixN ds2.length n).bind fun j => some (.nx (e2.set i (some (.ol (ds2.set j (.int (g a b)))))))
          | _ => none
        | _ => none
      | _ => none
    | _ => none
  | _ => none := by
  unfold sAugIx
  cases h : env[i]? with
  | none => unfold getC; rw [h]; rfl
  | some x => cases x with
    | none => unfold getC; rw [h]; rfl
    | some c =>
      rw [getC_some.mpr h]
      cases c with
      | ol l0 =>
        show ((evI o env).bind _) = ((evI o env).bind _)
        congr 1
        funext ⟨n, e⟩
        show (match e[i]? with | some (some (.ol ds)) => _ | _ => none) = (getC e i).bind _
        cases h2 : e[i]? with
        | none => unfold getC; rw [h2]; rfl
        | some x => cases x with
          | none => unfold getC; rw [h2]; rfl
          | some c =>
            rw [getC_some.mpr h2]
            cases c with
            | ol ds =>
              show (match atI ds n, m e with | some (.int a), some (.sh (.int b), e2) => _ | _, _ => none) = (atI ds n).bind _
              cases atI ds n with
              | none => rfl
              | some a => cases a with
                | int a =>
                  show _ = (m e).bind _
                  cases m e with
                  | none => rfl
                  | some y =>
                    obtain ⟨c, e2⟩ := y
                    cases c with
                    | sh d => cases d with
                      | int b =>
                        show (match e2[i]? with | some (some (.ol ds2)) => _ | _ => none) = (getC e2 i).bind _
                        cases h3 : e2[i]? with
                        | none => unfold getC; rw [h3]; rfl
                        | some x => cases x with
                          | none => unfold getC; rw [h3]; rfl
                          | some c => rw [getC_some.mpr h3]; cases c <;> rfl
                      | _ => rfl
                    | _ => rfl
                | _ => rfl
            | _ => rfl
      | _ => rfl
/-! comprehensions, for -/
theorem forN_nil {t : Tgt} {b : SM} : forN t b [] env = some (.nx env) := rfl
theorem forN_cons {t : Tgt} {b : SM} {ds : List D} : forN t b (d :: ds) env = (asgT t d env).bind fun e => (b e).bind fun o => match o with
    | .nx e => forN t b ds e
    | .ct e => forN t b ds e
    | .bk e => some (.nx e)
    | .rt c e => some (.rt c e) := rfl
/-- a loop with an invariant -/
theorem forN_inv {t : Tgt} {b : SM} (I : Env → Prop) : ∀ {ds : List D} {env : Env}, I env → (∀ d ∈ ds, ∀ env, I env → ∃ e e', asgT t d env = some e ∧ b e = some (.nx e') ∧ I e') → ∃ e, forN t b ds env = some (.nx e) ∧ I e
  | [], env, h, _ => ⟨env, rfl, h⟩
  | d :: ds, env, h, k => by
    obtain ⟨e, e', h1, h2, h3⟩ := k d (by simp) env h
    obtain ⟨e2, h4, h5⟩ := forN_inv I (ds := ds) h3 fun x m => k x (by simp [m])
    exact ⟨e2, by rw [forN_cons, h1]; simp only [Option.bind_some, h2]; exact h4, h5⟩
end
end Fx
set_option Elab.async false
set_option linter.all false
set_option maxRecDepth 100000
set_option maxHeartbeats 4000000
noncomputable section
namespace Fx
open PySem L2

/-! ## the operations, by what they are given -/
section
variable {i j : Int} {x y : Str} {ds es : List D} {d e : D} {a b : Bool}
@[simp] theorem fIx_l : fIx [.lst ds, .int i] = (atI ds i).bind fun d => some (.sh d) := rfl
@[simp] theorem fIx_t : fIx [.tup ds, .int i] = (atI ds i).bind fun d => some (.sh d) := rfl
@[simp] theorem fAdd_i : fAdd [.int i, .int j] = some (.sh (.int (i + j))) := rfl
@[simp] theorem fAdd_t : fAdd [.tup ds, .tup es] = if ds.length + es.length ≤ lim then some (.sh (.tup (ds ++ es))) else none := rfl
@[simp] theorem fAdd_l : fAdd [.lst ds, .lst es] = if ds.length + es.length ≤ lim then some (.ol (ds ++ es)) else none := rfl
@[simp] theorem fMul_i : fMul [.int i, .int j] = if sm i || sm j then some (.sh (.int (i * j))) else none := rfl
@[simp] theorem fII_i {g : Int → Int → Option D} : fII g [.int i, .int j] = (g i j).bind fun d => some (.sh d) := rfl
@[simp] theorem gSub_i : gSub i j = some (.int (i - j)) := rfl
@[simp] theorem gDiv_i : gDiv i j = if 0 < j ∧ j < 1073741824 then some (.int (i / j)) else none := rfl
@[simp] theorem gMod_i : gMod i j = if 0 < j then some (.int (i % j)) else none := rfl
@[simp] theorem gLt_i : gLt i j = some (.bl (decide (i < j))) := rfl
@[simp] theorem gLe_i : gLe i j = some (.bl (decide (i ≤ j))) := rfl
@[simp] theorem gGt_i : gGt i j = some (.bl (decide (j < i))) := rfl
@[simp] theorem gGe_i : gGe i j = some (.bl (decide (j ≤ i))) := rfl
@[simp] theorem gPow_i : gPow i j = if 0 ≤ j ∧ j ≤ 1000000 ∧ sm i then some (.int (i ^ j.toNat)) else none := rfl
@[simp] theorem fEq_i : fEq [.int i, .int j] = some (.sh (.bl (decide (i = j)))) := rfl
@[simp] theorem fNe_i : fNe [.int i, .int j] = some (.sh (.bl (!decide (i = j)))) := rfl
@[simp] theorem fEq_s (hx : (D.str x).okq = true) (hy : (D.str y).okq = true) : fEq [.str x, .str y] = some (.sh (.bl (x == y))) := if_pos (by unfold D.cmpable; rw [hx, hy]; rfl)
@[simp] theorem fNe_s (hx : (D.str x).okq = true) (hy : (D.str y).okq = true) : fNe [.str x, .str y] = some (.sh (.bl (!(x == y)))) := if_pos (by unfold D.cmpable; rw [hx, hy]; rfl)
@[simp] theorem fEq_b : fEq [.bl a, .bl b] = some (.sh (.bl (a == b))) := rfl
@[simp] theorem fNe_b : fNe [.bl a, .bl b] = some (.sh (.bl (!(a == b)))) := rfl
@[simp] theorem fInt_i : fInt [.int i] = some (.sh (.int i)) := rfl
@[simp] theorem fInt_b : fInt [.bl a] = some (.sh (.int (if a then 1 else 0))) := rfl
@[simp] theorem fNeg_i : fNeg [.int i] = some (.sh (.int (-i))) := rfl
@[simp] theorem fAbs_i : fAbs [.int i] = some (.sh (.int (if i < 0 then -i else i))) := rfl
@[simp] theorem fLen_t : fLen [.tup ds] = some (.sh (.int ds.length)) := rfl
@[simp] theorem fLen_l : fLen [.lst ds] = some (.sh (.int ds.length)) := rfl
@[simp] theorem fList_t : fList [.tup ds] = some (.ol ds) := rfl
@[simp] theorem fList_l : fList [.lst ds] = some (.ol ds) := rfl
@[simp] theorem fTuple_t : fTuple [.tup ds] = some (.sh (.tup ds)) := rfl
@[simp] theorem fTuple_l : fTuple [.lst ds] = some (.sh (.tup ds)) := rfl
@[simp] theorem fAppend_l : fAppend ds [d] = if ds.length < lim then some (.sh .non, ds ++ [d]) else none := rfl
@[simp] theorem fExtend_l : fExtend ds [.lst es] = if ds.length + es.length ≤ lim then some (.sh .non, ds ++ es) else none := rfl
@[simp] theorem fSl_l {lo hi : Option Int} : fSl (.lst ds) lo hi = some (.ol (cutD ds lo hi)) := rfl
@[simp] theorem fSl_t {lo hi : Option Int} : fSl (.tup ds) lo hi = some (.sh (.tup (cutD ds lo hi))) := rfl
@[simp] theorem fSl_s {ns : List Int} {lo hi : Option Int} : fSl (.scr ns) lo hi = some (.ol (cutD (ns.map D.int) lo hi)) := rfl
@[simp] theorem putC_l : putC (.ol ds) (.int i) d = (ixN ds.length i).bind fun j => some (.ol (ds.set j d)) := rfl
@[simp] theorem fIn_v : fIn [d, e] = (fInB d e).bind fun b => some (.sh (.bl b)) := rfl
@[simp] theorem fEq_v (h : d.cmpable e = true) : fEq [d, e] = some (.sh (.bl (D.eqv d e))) := if_pos h
@[simp] theorem fNe_v (h : d.cmpable e = true) : fNe [d, e] = some (.sh (.bl (!D.eqv d e))) := if_pos h
theorem l1 (n : Nat) (h : n ≤ 1000000) : n ≤ lim := Nat.le_trans h (by rw [lim_val]; omega)
@[simp] theorem sm_emod {x k : Int} (h : 0 < k) (h2 : k ≤ 9223372036854775808) : sm (x % k) = true := by
  have a := Int.emod_nonneg x (by omega : k ≠ 0)
  have b := Int.emod_lt_of_pos x h
  exact sm_iff.mpr ⟨by omega, by omega⟩
@[simp] theorem sm_of {x : Int} (h : -18446744073709551616 < x) (h2 : x < 18446744073709551616) : sm x = true := sm_iff.mpr ⟨h, h2⟩
@[simp] theorem okR_of {n : Int} (h : -4611686018427387904 ≤ n) (h2 : n < 4611686018427387904) : okR n = true := okR_iff.mpr ⟨h, h2⟩
theorem atI_z {α : Type} {x : α} {r : List α} : atI (x :: r) 0 = some x := by simp [atI, ixN]
theorem atI_nat {α : Type} {l : List α} {n : Nat} : atI l (n : Int) = l[n]? := by
  unfold atI ixN
  by_cases h : n < l.length
  · simp [h]
  · simp [h]
end

/-! ## comprehensions -/
def cStep (vs : List Nat) (t : Tgt) (c : TM) (m : EM) (d : D) (env : Env) : Option (Option D × Env) := (asgT t d env).bind fun e1 => (c e1).bind fun (b, e2) => if b then (m e2).bind fun (x, e3) => if calmE e3 vs then some (some x.fz, wipeE e3 vs) else none
  else if calmE e2 vs then some (none, wipeE e2 vs) else none
section
variable {vs : List Nat} {t : Tgt} {c : TM} {m : EM} {ds : List D} {d : D} {env : Env}
theorem compN_nil : compN vs t c m [] env = some ([], env) := rfl
theorem compN_cons : compN vs t c m (d :: ds) env = (cStep vs t c m d env).bind fun (o, e) => (compN vs t c m ds e).bind fun (rs, e') => some (o.toList ++ rs, e') := by
  unfold cStep
  rw [compN]
  cases asgT t d env with
  | none => rfl
  | some e1 =>
    simp only [Option.bind_some]
    cases c e1 with
    | none => rfl
    | some y =>
      obtain ⟨b, e2⟩ := y
      simp only [Option.bind_some]
      cases b with
      | false =>
        simp only [Bool.false_eq_true, if_false]
        by_cases h : calmE e2 vs = true
        · simp only [h, if_true, Option.bind_some]
          cases compN vs t c m ds (wipeE e2 vs) <;> rfl
        · simp only [h, if_false]; rfl
      | true =>
        simp only [if_true]
        cases m e2 with
        | none => rfl
        | some y =>
          obtain ⟨x, e3⟩ := y
          simp only [Option.bind_some]
          by_cases h : calmE e3 vs = true
          · simp only [h, if_true, Option.bind_some]; rfl
          · simp only [h, if_false]; rfl
theorem compN_pure {g : D → Option D} : ∀ {ds : List D} {env : Env}, (∀ d ∈ ds, cStep vs t c m d env = some (g d, env)) → compN vs t c m ds env = some (ds.filterMap g, env)
  | [], _, _ => rfl
  | d :: ds, env, h => by
    rw [compN_cons, h d (by simp)]
    simp only [Option.bind_some]
    rw [compN_pure fun x hx => h x (by simp [hx])]
    simp only [Option.bind_some]
    cases q : g d with
    | none => rw [List.filterMap_cons_none q]; rfl
    | some y => rw [List.filterMap_cons_some q]; rfl
theorem compN_inv (I : Env → Prop) (R : D → D → Prop) : ∀ {ds : List D} {env : Env}, I env → (∀ d ∈ ds, ∀ e, I e → ∃ x e', cStep vs t c m d e = some (some x, e') ∧ I e' ∧ R d x) →
    ∃ rs e', compN vs t c m ds env = some (rs, e') ∧ I e' ∧ rs.length = ds.length ∧ ∀ r ∈ rs, ∃ d ∈ ds, R d r
  | [], env, h, _ => ⟨[], env, rfl, h, rfl, fun _ m => by cases m⟩
  | d :: ds, env, h, k => by
    obtain ⟨x, e1, h1, h2, h3⟩ := k d (by simp) env h
    obtain ⟨rs, e2, h4, h5, h6, h7⟩ := compN_inv I R (ds := ds) h2 fun y hy => k y (by simp [hy])
    refine ⟨x :: rs, e2, ?_, h5, by simp [h6], fun r hr => ?_⟩
    · rw [compN_cons, h1]
      simp only [Option.bind_some, h4]
      rfl
    · rcases List.mem_cons.mp hr with z | z
      · subst z; exact ⟨d, by simp, h3⟩
      · obtain ⟨d', m1, m2⟩ := h7 r z; exact ⟨d', by simp [m1], m2⟩
@[simp] theorem ev_Comp {i : IM} : eComp vs t i c m env = (i env).bind fun (ds, e1) => if calmE e1 vs then (compN vs t c m ds (wipeE e1 vs)).bind fun (rs, e2) => if rs.length ≤ lim then some (.ol rs, restE e1 vs e2) else none else none := rfl
@[simp] theorem calmE_nil : calmE env [] = true := rfl
@[simp] theorem calmE_cons {v : Nat} : calmE env (v :: vs) = (calm1 env[v]? && calmE env vs) := rfl
@[simp] theorem calm1_n : calm1 (some none) = true := rfl
@[simp] theorem calm1_s : calm1 (some (some (.sh d))) = true := rfl
@[simp] theorem wipeE_nil : wipeE env [] = env := rfl
@[simp] theorem wipeE_cons {v : Nat} : wipeE env (v :: vs) = (wipeE env vs).set v none := rfl
@[simp] theorem restE_nil {e : Env} : restE env [] e = e := rfl
@[simp] theorem restE_cons {v : Nat} {e : Env} : restE env (v :: vs) e = match env[v]? with | some c => restE env vs (e.set v c) | none => restE env vs e := rfl
end
section
variable {env : Env} {ms : List Arg} {m : EM}
@[simp] theorem ev_Tab {tab : List (Str × D)} {o : Opd} : eTab tab o env = (evO [o] env).bind fun (ds, e) => match ds with
  | [.str z] => (tab.lookup z).bind fun d => some (.sh d, e)
  | _ => none := rfl
@[simp] theorem i_Zip : iZip ms env = (evA ms env).bind fun (ds, e) => match ds with
  | [a, b] => a.zseq.bind fun xs => b.zseq.bind fun ys => some (zipD xs ys, e)
  | _ => none := rfl
@[simp] theorem i_Enum : iEnumM m env = (m env).bind fun (c, e) => c.fz.zseq.bind fun xs => some (enumD xs, e) := rfl
theorem zipD_nil {ys : List D} : zipD [] ys = [] := rfl
theorem zipD_cons {x y : D} {xs ys : List D} : zipD (x :: xs) (y :: ys) = .tup [x, y] :: zipD xs ys := rfl
end
end Fx
namespace Fx
open PySem L2
section
variable {α : Type} {vs : List Nat} {t : Tgt} {c : TM} {m : EM} {env : Env}
theorem compN_map {f g : α → D} : ∀ {l : List α}, (∀ a ∈ l, cStep vs t c m (f a) env = some (some (g a), env)) → compN vs t c m (l.map f) env = some (l.map g, env)
  | [], _ => rfl
  | a :: l, h => by
    rw [List.map_cons, compN_cons, h a (by simp)]
    simp only [Option.bind_some]
    rw [compN_map fun x hx => h x (by simp [hx])]
    rfl
theorem compN_fil {f g : α → D} {b : α → Bool} : ∀ {l : List α}, (∀ a ∈ l, cStep vs t c m (f a) env = some (if b a then some (g a) else none, env)) → compN vs t c m (l.map f) env = some ((l.filter b).map g, env)
  | [], _ => rfl
  | a :: l, h => by
    rw [List.map_cons, compN_cons, h a (by simp)]
    simp only [Option.bind_some]
    rw [compN_fil fun x hx => h x (by simp [hx])]
    simp only [Option.bind_some]
    cases q : b a with
    | false => rw [List.filter_cons_of_neg (by simp [q])]; rfl
    | true => rw [List.filter_cons_of_pos q]; rfl
theorem seq_nx {a b : SM} {e : Env} (h : a env = some (.nx e)) : sSeq a b env = b e := by rw [s_Seq, h]; rfl
end
end Fx
set_option Elab.async false
set_option linter.all false
set_option maxRecDepth 100000
set_option maxHeartbeats 4000000
noncomputable section
namespace Fx
open PySem L2

/-! ## reckoning: what FxC, FxJ, FxK, FxM, FxN bring -/
section
variable {env : Env} {i : Nat} {d : D} {m m' : EM} {o o' o'' : Opd}
@[simp] theorem ev_DK : eDK env = some (.odk [], env) := rfl
@[simp] theorem ev_DT : eDT env = some (.odt [], env) := rfl
@[simp] theorem ev_Sl3 {lo hi st : Part} : eSl3 o lo hi st env = (preO [o] env).bind fun (cs, e1) => (evP lo e1).bind fun (i, e2) => (evP hi e2).bind fun (j, e3) => (evP st e3).bind fun (l, e4) => (finO e4 [o] cs).bind fun ds => match ds with
  | [.lst xs] => if l = some 0 then none else if (pickD xs i j l).length ≤ lim then some (.ol (pickD xs i j l), e4) else none
  | _ => none := rfl
@[simp] theorem ev_Chain {f f' : Int → Int → Bool} : eChain f f' o o' o'' env = (evO [o, o'] env).bind fun (ds, e) => match ds with
  | [.int i, .int j] => if f i j then (evO [o''] e).bind fun (ds', e') => match ds' with
      | [.int l] => some (.sh (.bl (f' j l)), e')
      | _ => none
    else some (.sh (.bl false), e)
  | _ => none := rfl
@[simp] theorem ev_Comp2 {vs vs1 : List Nat} {t t1 : Tgt} {it i1 : IM} {c c1 : TM} : eComp2 vs t it c i1 vs1 t1 c1 m env = (it env).bind fun (ds, e1) => if calmE e1 vs then (comp2N vs t c i1 vs1 t1 c1 m ds (wipeE e1 vs)).bind fun (rs, e2) => if rs.length ≤ lim then some (.ol rs, restE e1 vs e2) else none else none := rfl
@[simp] theorem ev_Len2 : eLen2 i env = (getC env i).bind fun c => (match c with | .oll dss => some (.sh (.int dss.length), env) | .ol ds => some (.sh (.int ds.length), env) | _ => none : Option (C × Env)) := by
  unfold eLen2 getC
  cases h : env[i]? with
  | none => rfl
  | some x => cases x with
    | none => rfl
    | some c => cases c <;> simp
@[simp] theorem ev_App2 : eApp2 i m env = (getC env i).bind fun c00 => (eApp2.seqC c00).bind fun _ => (m env).bind fun (c, e) => match c with
    | .ol ds => (getC e i).bind fun c0 => (eApp2.seqC c0).bind fun dss => if dss.length < lim then some (.sh .non, e.set i (some (.oll (dss ++ [ds])))) else none
    | _ => none := by
  refine Eq.trans (m_getC (env := env) (i := i) (f := fun c00 => (eApp2.seqC c00).bind fun _ => (m env).bind fun (c, e) => match c, e[i]? with
    | .ol ds, some (some c0) => (eApp2.seqC c0).bind fun dss => if dss.length < lim then some (C.sh .non, e.set i (some (.oll (dss ++ [ds])))) else none
    | _, _ => none)) ?_
  congr 1
  funext c00
  congr 1
  funext _
  congr 1
  funext ⟨c, e⟩
  cases c with
  | ol ds =>
    show (match C.ol ds, e[i]? with | .ol ds, some (some c0) => _ | _, _ => none) = (getC e i).bind _
    cases h : e[i]? with
    | none => unfold getC; rw [h]; rfl
    | some x => cases x with
      | none => unfold getC; rw [h]; rfl
      | some c => rw [getC_some.mpr h]; rfl
  | _ => rfl
@[simp] theorem seqC_nil : eApp2.seqC (.ol []) = some [] := rfl
@[simp] theorem seqC_oll {dss : List (List D)} : eApp2.seqC (.oll dss) = some dss := rfl
@[simp] theorem ev_App3 : eApp3 i o m env = (getC env i).bind fun c00 => match c00 with
  | .oll _ => (evI o env).bind fun (n, e) => (getC e i).bind fun c0 => match c0 with
    | .oll dss => (ixN dss.length n).bind fun j => (m (e.set i none)).bind fun (c, e2) => (dss[j]?).bind fun ds => if ds.length < lim then some (.sh .non, e2.set i (some (.oll (dss.set j (ds ++ [c.fz]))))) else none
    | _ => none
  | _ => none := by
  unfold eApp3
  cases h : env[i]? with
  | none => unfold getC; rw [h]; rfl
  | some x => cases x with
    | none => unfold getC; rw [h]; rfl
    | some c =>
      rw [getC_some.mpr h]
      cases c with
      | oll l0 =>
        show ((evI o env).bind _) = ((evI o env).bind _)
        congr 1
        funext ⟨n, e⟩
        show (match e[i]? with | some (some (.oll dss)) => _ | _ => none) = (getC e i).bind _
        cases h2 : e[i]? with
        | none => unfold getC; rw [h2]; rfl
        | some x => cases x with
          | none => unfold getC; rw [h2]; rfl
          | some c => rw [getC_some.mpr h2]; cases c <;> rfl
      | _ => rfl
end
end Fx
set_option Elab.async false
set_option linter.all false
set_option maxRecDepth 100000
set_option maxHeartbeats 4000000
noncomputable section
namespace Fx
open PySem L2

/-! ## states by names: what the printed records lean on -/
@[simp] theorem getC_h {x : Option C} {r : Env} : getC (x :: r) 0 = x := by cases x <;> rfl
def outP (o : Option Out) : Option C := match o with
  | some (.rt c _) => some c
  | some (.nx _) => some (.sh .non)
  | _ => none
def outB (o : Option Out) : Option (C × C) := match o with
  | some (.rt c e) => (get0 e).bind fun c0' => some (c, c0')
  | some (.nx e) => (get0 e).bind fun c0' => some (.sh .non, c0')
  | _ => none
@[simp] theorem outP_rt {c : C} {e : Env} : outP (some (.rt c e)) = some c := rfl
@[simp] theorem outP_nx {e : Env} : outP (some (.nx e)) = some (.sh .non) := rfl
@[simp] theorem outB_rt {c : C} {e : Env} : outB (some (.rt c e)) = (get0 e).bind fun c0' => some (c, c0') := rfl
@[simp] theorem outB_nx {e : Env} : outB (some (.nx e)) = (get0 e).bind fun c0' => some (.sh .non, c0') := rfl
theorem fnP_eq {k n : Nat} {m : SM} {ds : List D} (h : ds.length = k) : fnP k n m ds = outP (m (startE n (ds.map C.sh))) := by
  unfold fnP
  rw [if_pos h]
  rfl
theorem fnB_eq {k n : Nat} {m : SM} {c0 : C} {ds : List D} (h : ds.length + 1 = k) : fnB k n m c0 ds = outB (m (startE n (c0 :: ds.map C.sh))) := by
  unfold fnB
  rw [if_pos h]
  rfl
section
variable {S : Type} {E : S → Env} {t : Tgt} {b : SM}
/-- a loop with an invariant of the turns done -/
theorem forS' (J : Nat → S → Prop) : ∀ {ds : List D} {k : Nat} {s : S}, J k s → (∀ i d s, ds[i]? = some d → J (k + i) s → ∃ s', (asgT t d (E s)).bind b = some (.nx (E s')) ∧ J (k + i + 1) s') →
    ∃ s', forN t b ds (E s) = some (.nx (E s')) ∧ J (k + ds.length) s'
  | [], k, s, h, _ => ⟨s, rfl, h⟩
  | d :: ds, k, s, h, st => by
    obtain ⟨s1, h1, h2⟩ := st 0 d s (by simp) h
    obtain ⟨s2, h3, h4⟩ := forS' J (ds := ds) (k := k + 1) (s := s1) h2 fun i x s' hx hj => by
      obtain ⟨s3, a, c⟩ := st (i + 1) x s' (by simpa using hx) (by rw [show k + (i + 1) = k + 1 + i by omega]; exact hj)
      exact ⟨s3, a, by rw [show k + 1 + i + 1 = k + (i + 1) + 1 by omega]; exact c⟩
    refine ⟨s2, ?_, by rw [List.length_cons, show k + (ds.length + 1) = k + 1 + ds.length by omega]; exact h4⟩
    rw [forN_cons]
    cases q : asgT t d (E s) with
    | none => rw [q] at h1; cases h1
    | some e =>
      rw [q] at h1
      simp only [Option.bind_some] at h1 ⊢
      rw [h1]
      exact h3
theorem forS (J : Nat → S → Prop) {ds : List D} {s : S} (h : J 0 s) (st : ∀ i d s, ds[i]? = some d → J i s → ∃ s', (asgT t d (E s)).bind b = some (.nx (E s')) ∧ J (i + 1) s') :
    ∃ s', forN t b ds (E s) = some (.nx (E s')) ∧ J ds.length s' := by
  have := forS' (E := E) (t := t) (b := b) J (ds := ds) (k := 0) (s := s) h fun i d s hd hj => by
    rw [Nat.zero_add] at hj ⊢
    exact st i d s hd hj
  simpa using this
/-- the same over what a list is a map of -/
theorem forM {α : Type} {f : α → D} (J : List α → S → Prop) {l : List α} {s : S} (h : J [] s) (st : ∀ p a r s, l = p ++ a :: r → J p s → ∃ s', (asgT t (f a) (E s)).bind b = some (.nx (E s')) ∧ J (p ++ [a]) s') :
    ∃ s', forN t b (l.map f) (E s) = some (.nx (E s')) ∧ J l s' := by
  obtain ⟨s', h1, h2⟩ := forS (E := E) (t := t) (b := b) (fun i s => J (l.take i) s) (ds := l.map f) (s := s) (by simpa using h) fun i d s hd hj => by
    rw [List.getElem?_map] at hd
    cases hl : l[i]? with
    | none => rw [hl] at hd; cases hd
    | some a =>
      rw [hl] at hd
      cases hd
      obtain ⟨hi, ha⟩ := List.getElem?_eq_some_iff.mp hl
      obtain ⟨s', h1, h2⟩ := st (l.take i) a (l.drop (i + 1)) s (by rw [← ha, List.getElem_cons_drop, List.take_append_drop]) hj
      refine ⟨s', h1, ?_⟩
      rw [List.take_succ, hl]
      exact h2
  refine ⟨s', h1, ?_⟩
  rw [List.length_map, List.take_length] at h2
  exact h2
/-- a loop whose turns each do what f says -/
theorem forF {α : Type} {f : α → D} {g : S → α → S} : ∀ {l : List α} {s : S}, (∀ a ∈ l, ∀ s, (asgT t (f a) (E s)).bind b = some (.nx (E (g s a)))) → forN t b (l.map f) (E s) = some (.nx (E (l.foldl g s)))
  | [], s, _ => rfl
  | a :: l, s, h => by
    have h1 := h a (by simp) s
    rw [List.map_cons, forN_cons]
    cases q : asgT t (f a) (E s) with
    | none => rw [q] at h1; cases h1
    | some e =>
      rw [q] at h1
      simp only [Option.bind_some] at h1 ⊢
      rw [h1]
      exact forF fun x hx => h x (by simp [hx])
/-- while, by a measure -/
theorem whileS {t : TM} {b : SM} (J : S → Prop) (μ : S → Nat) (R : Option Out → Prop) (st : ∀ s, J s → ∃ x s1, t (E s) = some (x, E s1) ∧ (x = false → R (some (.nx (E s1)))) ∧ (x = true → (∃ s2, b (E s1) = some (.nx (E s2)) ∧ J s2 ∧ μ s2 < μ s) ∨ ∃ c e, b (E s1) = some (.rt c e) ∧ R (some (.rt c e)))) {s : S} (h : J s) : R (sWhile t b (E s)) := by
  suffices ∀ n s, μ s < n → J s → ∃ o, whileN n t b (E s) = some o ∧ R (some o) by
    obtain ⟨o, h1, h2⟩ := this (μ s + 1) s (by omega) h
    rw [sWhile_of h1]; exact h2
  intro n
  induction n with
  | zero => intro s hs; omega
  | succ n ih =>
    intro s hs hj
    obtain ⟨x, s1, h1, h2, h3⟩ := st s hj
    unfold whileN
    rw [h1]
    simp only [Option.bind_some]
    cases x with
    | false => exact ⟨_, rfl, h2 rfl⟩
    | true =>
      rw [if_pos rfl]
      rcases h3 rfl with ⟨s2, h4, h5, h6⟩ | ⟨c, e, h4, h5⟩
      · rw [h4]; simp only [Option.bind_some]; exact ih s2 (by omega) h5
      · rw [h4]; simp only [Option.bind_some]; exact ⟨_, rfl, h5⟩
end
end Fx
set_option Elab.async false
set_option linter.all false
set_option maxRecDepth 100000
set_option maxHeartbeats 4000000
noncomputable section
namespace Fx
open PySem L2

/-! ## dicts: reading behind a store -/
section
variable {κ : Type} [DecidableEq κ]
theorem valD_put {kvs : List (κ × D)} {k j : κ} {v : D} : valD (putD kvs k v) j = if j = k then some v else valD kvs j := by
  unfold putD valD
  by_cases h : kvs.any (fun kv => decide (kv.1 = k)) = true
  · rw [if_pos h]
    induction kvs with
    | nil => simp at h
    | cons a r ih =>
      obtain ⟨i, d⟩ := a
      by_cases e : i = k
      · subst e
        simp only [List.map_cons, if_pos]
        by_cases q : j = i
        · subst q; simp
        · rw [if_neg q]
          have q' : ¬ i = j := fun z => q z.symm
          simp only [List.find?_cons, q', decide_false]
          by_cases hr : r.any (fun kv => decide (kv.1 = i)) = true
          · have := ih hr
            rw [if_neg q] at this
            exact this
          · have e2 : (r.map fun kv => if kv.1 = i then (kv.1, v) else kv) = r := by
              conv => rhs; rw [← List.map_id r]
              apply List.map_congr_left
              intro kv m
              have : ¬ kv.1 = i := fun z => hr (List.any_eq_true.mpr ⟨kv, m, by simp [z]⟩)
              simp [this]
            rw [e2]
      · have hr : r.any (fun kv => decide (kv.1 = k)) = true := by simpa [e] using h
        simp only [List.map_cons, if_neg e, List.find?_cons]
        by_cases q : i = j
        · subst q
          simp [e]
        · simp only [q, decide_false]
          exact ih hr
  · rw [if_neg h]
    rw [List.find?_append]
    by_cases q : j = k
    · subst q
      have : kvs.find? (fun kv => decide (kv.1 = j)) = none := by
        rw [List.find?_eq_none]
        intro kv m z
        exact h (List.any_eq_true.mpr ⟨kv, m, z⟩)
      simp [this]
    · rw [if_neg q]
      cases hf : kvs.find? (fun kv => decide (kv.1 = j)) with
      | none =>
        have q' : ¬ k = j := fun z => q z.symm
        simp [q']
      | some x => simp
theorem len_put {kvs : List (κ × D)} {k : κ} {v : D} : (putD kvs k v).length ≤ kvs.length + 1 := by
  unfold putD
  split
  · simp
  · simp
end
open Classical in
@[simp] theorem i_R3 {env : Env} {o o' o'' : Opd} : iR3 o o' o'' env = (evO [o, o', o''] env).bind fun (ds, e) => match ds with
  | [.int a, .int b, .int c] => if RgC a b c (Builtin.Range.rangeSize a b c).toNat then some (rngC a c (Builtin.Range.rangeSize a b c).toNat, e) else none
  | _ => none := by unfold iR3; rfl
@[simp] theorem ev_Get2 {env : Env} {i : Nat} {a b : EM} : eGet2 i a b env = (getC env i).bind fun c00 => (c00.vw.bind eGet2.isDct).bind fun _ => (evA [.one a, .one b] env).bind fun (ds, e) => match ds with
  | [y, z] => (getC e i).bind fun c0 => c0.vw.bind fun d => (getK d y).bind fun o => some (.sh (o.getD z), e)
  | _ => none := by
  refine Eq.trans (m_getC (f := fun c00 => (c00.vw.bind eGet2.isDct).bind fun _ => (evA [.one a, .one b] env).bind fun (ds, e) => match ds, e[i]? with
    | [y, z], some (some c0) => c0.vw.bind fun d => (getK d y).bind fun o => some (C.sh (o.getD z), e)
    | _, _ => none)) ?_
  congr 1
  funext c00
  congr 1
  funext _
  congr 1
  funext ⟨ds, e⟩
  rcases ds with _ | ⟨y, _ | ⟨z, _ | ⟨w, r⟩⟩⟩
  · rfl
  · rfl
  · show (match [y, z], e[i]? with | [y, z], some (some c0) => c0.vw.bind fun d => (getK d y).bind fun o => some (C.sh (o.getD z), e) | _, _ => none) = (getC e i).bind fun c0 => c0.vw.bind fun d => (getK d y).bind fun o => some (C.sh (o.getD z), e)
    cases h : e[i]? with
    | none => unfold getC; rw [h]; rfl
    | some x => cases x with
      | none => unfold getC; rw [h]; rfl
      | some c => rw [getC_some.mpr h]; rfl
  · rfl
@[simp] theorem isDct_k {kvs} : eGet2.isDct (.dk kvs) = some () := rfl
@[simp] theorem isDct_t {kvs} : eGet2.isDct (.dt kvs) = some () := rfl
@[simp] theorem getK_i {kvs : List (Key × D)} {i : Int} : getK (.dk kvs) (.int i) = some (valD kvs (.inl i)) := rfl
@[simp] theorem putC_k {kvs : List (Key × D)} {i : Int} {d : D} : putC (.odk kvs) (.int i) d = if kvs.length < lim then some (.odk (putD kvs (.inl i) d)) else none := rfl
/-! ## slices -/
theorem cut_take {α : Type} {xs : List α} {k : Nat} : cutD xs none (some (k : Int)) = xs.take k := by
  unfold cutD
  rw [HT.sIx_none, HT.sIx_nat, List.drop_zero, Nat.sub_zero]
  by_cases h : k ≤ xs.length
  · rw [Nat.min_eq_left h]
  · rw [Nat.min_eq_right (by omega), List.take_of_length_le (Nat.le_refl _), List.take_of_length_le (by omega)]
theorem cut_drop {α : Type} {xs : List α} {k : Nat} : cutD xs (some (k : Int)) none = xs.drop k := by
  unfold cutD
  rw [HT.sIx_none, HT.sIx_nat]
  by_cases h : k ≤ xs.length
  · rw [Nat.min_eq_left h, List.take_of_length_le (by simp)]
  · rw [Nat.min_eq_right (by omega), List.drop_length, List.drop_eq_nil_of_le (by omega), List.take_nil]
theorem cut_mid {α : Type} {xs : List α} {i j : Nat} (hj : j ≤ xs.length) (hi : i ≤ j) : cutD xs (some (i : Int)) (some (j : Int)) = (xs.drop i).take (j - i) := by
  unfold cutD
  rw [HT.sIx_nat, HT.sIx_nat, Nat.min_eq_left hj, Nat.min_eq_left (by omega)]
/-! ## sorted -/
theorem sorted_T {x : D} {l : List (List Int)} (hx : x.seq = some (l.map dTup)) (h : ∀ ns ∈ l, ns ≠ []) : fSorted [x] = some (.ol ((isrt lexL l).map dTup)) := by
  have hT : ∀ l : List (List Int), (∀ ns ∈ l, ns ≠ []) → intTs (l.map dTup) = some l := by
    intro l
    induction l with
    | nil => intro _; rfl
    | cons x r ih =>
      intro h
      have := ih fun y hy => h y (by simp [hy])
      show ((intsOf (x.map D.int)).bind fun ns => if ns.isEmpty then none else (intTs (r.map dTup)).bind fun l => some (ns :: l)) = _
      rw [intsOf_map, this]; simp [h x (by simp)]
  unfold fSorted
  simp only [hx, Option.bind_some]
  cases l with
  | nil => rfl
  | cons x r =>
    have h1 : intsOf ((x :: r).map dTup) = none := rfl
    rw [h1, hT _ h]
    rfl
theorem sorted_I {x : D} {l : List Int} (hx : x.seq = some (l.map D.int)) : fSorted [x] = some (.ol ((isrt ltI l).map D.int)) := by
  unfold fSorted
  simp only [hx, Option.bind_some, intsOf_map]
/-! ## comprehensions, place by place -/
theorem compN_ix {vs : List Nat} {t : Tgt} {c : TM} {m : EM} (I : Env → Prop) (R : D → D → Prop) : ∀ {ds : List D} {env : Env}, I env → (∀ d ∈ ds, ∀ e, I e → ∃ x e', cStep vs t c m d e = some (some x, e') ∧ I e' ∧ R d x) →
    ∃ rs e', compN vs t c m ds env = some (rs, e') ∧ I e' ∧ rs.length = ds.length ∧ ∀ (i : Nat) (d r : D), ds[i]? = some d → rs[i]? = some r → R d r
  | [], env, h, _ => ⟨[], env, rfl, h, rfl, fun i d r hd => by simp at hd⟩
  | d :: ds, env, h, k => by
    obtain ⟨x, e1, h1, h2, h3⟩ := k d (by simp) env h
    obtain ⟨rs, e2, h4, h5, h6, h7⟩ := compN_ix I R (ds := ds) h2 fun y hy => k y (by simp [hy])
    refine ⟨x :: rs, e2, ?_, h5, by simp [h6], fun i d' r hd hr => ?_⟩
    · rw [compN_cons, h1]
      simp only [Option.bind_some, h4]
      rfl
    · cases i with
      | zero => simp at hd hr; subst hd; subst hr; exact h3
      | succ i => simp at hd hr; exact h7 i d' r hd hr
/-- a comprehension over range, each value an int that f lets -/
theorem rng_get {n i : Nat} {d : D} (h : (rng 0 (n : Int))[i]? = some d) : d = .int (i : Nat) ∧ i < n := by
  unfold rng at h
  rw [List.getElem?_map] at h
  simp at h
  obtain ⟨a, h1, rfl⟩ := h
  have := List.getElem?_eq_some_iff.mp h1
  obtain ⟨h2, h3⟩ := this
  simp at h2 h3
  exact ⟨by rw [h3], h2⟩
theorem rng_mem {n : Nat} {d : D} (h : d ∈ rng 0 (n : Int)) : ∃ i : Nat, d = .int (i : Nat) ∧ i < n := by
  obtain ⟨i, hi⟩ := List.mem_iff_getElem?.mp h
  exact ⟨i, rng_get hi⟩
theorem rng_len (n : Nat) : (rng 0 (n : Int)).length = n := by rw [rng_length]; omega
/-- a list of data each of which is an f of something -/
theorem maps_of {α : Type} {f : α → D} {Q : Nat → α → Prop} : ∀ {rs : List D}, (∀ i r, rs[i]? = some r → ∃ a, r = f a ∧ Q i a) → ∃ l : List α, rs = l.map f ∧ ∀ i a, l[i]? = some a → Q i a := by
  intro rs
  induction rs generalizing Q with
  | nil => intro _; exact ⟨[], rfl, fun i a h => by simp at h⟩
  | cons r rs ih =>
    intro h
    obtain ⟨a, h1, h2⟩ := h 0 r rfl
    obtain ⟨l, h3, h4⟩ := ih (Q := fun i => Q (i + 1)) fun i r hr => h (i + 1) r (by simpa using hr)
    refine ⟨a :: l, by rw [h1, h3]; rfl, fun i b hb => ?_⟩
    cases i with
    | zero => simp at hb; subst hb; exact h2
    | succ i => simp at hb; exact h4 i b hb
/-! ## comprehensions over two -/
theorem comp2N_map {α : Type} {vs vs1 : List Nat} {t t1 : Tgt} {c c1 : TM} {i1 : IM} {m : EM} {env : Env} {f : α → D} {g : α → List D} : ∀ {l : List α}, (∀ a ∈ l, ∃ e1 e2 ds1 e3 e4, asgT t (f a) env = some e1 ∧ c e1 = some (true, e2) ∧ i1 e2 = some (ds1, e3) ∧ calmE e3 vs1 = true ∧ compN vs1 t1 c1 m ds1 (wipeE e3 vs1) = some (g a, e4) ∧ calmE e4 vs = true ∧ wipeE e4 vs = env) →
    comp2N vs t c i1 vs1 t1 c1 m (l.map f) env = some ((l.map g).flatten, env)
  | [], _ => rfl
  | a :: l, h => by
    obtain ⟨e1, e2, ds1, e3, e4, h1, h2, h3, h4, h5, h6, h7⟩ := h a (by simp)
    rw [List.map_cons, comp2N, h1]
    simp only [Option.bind_some, h2, if_true, h3, h4, h5, h6, h7]
    rw [comp2N_map fun x hx => h x (by simp [hx])]
    simp
end Fx
set_option Elab.async false
set_option linter.all false
set_option maxRecDepth 100000
set_option maxHeartbeats 4000000
noncomputable section
namespace Fx
open PySem L2
section
variable {K : Fg}
/-! ## < of ints, of tuples of ints -/
def fLt : List D → Option C
  | [.int i, .int j] => some (.sh (.bl (decide (i < j))))
  | [.tup x, .tup y] => (intsOf x).bind fun ns => (intsOf y).bind fun ms => some (.sh (.bl (HT.lexLt ns ms)))
  | _ => none
def rLtA (K : Fg) : R2 := fun x y H Q => (rI0 (fun i j => .bl (decide (i < j))) x y H Q) ∨ rLtT K x y H Q
theorem op_ltA {X : Cx} {k : Nat} (hr : Room k X.A) : OpR X (compareOp .Lt) (rLtA X.K) := OpR.or op_lt (op_ltT hr.units0)
theorem s_ltA : OpS K (op2r (rLtA K)) fLt := fun G H vs ds c Q s rv e k => by
  unfold fLt at e
  split at e
  · rename_i i j
    cases e
    cases rv with
    | cons r1 rv => cases rv with | cons r2 rv => cases rv; cases r1.int; cases r2.int; exact ⟨_, _, rfl, .inl ⟨i, j, rfl, rfl, k.sh s (.bl _)⟩⟩
  · rename_i x y
    cases q1 : intsOf x with
    | none => simp [q1] at e
    | some ns =>
      cases q2 : intsOf y with
      | none => simp [q1, q2] at e
      | some ms =>
        simp [q1, q2] at e
        subst e
        cases rv with
        | cons r1 rv =>
          cases rv with
          | cons r2 rv =>
            cases rv
            obtain ⟨a, xs, rfl, h1, p1⟩ := r1.tup
            obtain ⟨b, ys, rfl, h2, p2⟩ := r2.tup
            have e1 := intsOf_inv q1
            have e2 := intsOf_inv q2
            subst e1
            subst e2
            rw [p1.ints_inv] at h1
            rw [p2.ints_inv] at h2
            exact ⟨_, _, rfl, .inr ⟨a, b, ns, ms, rfl, rfl, SqT.of (s _ _ h1), SqT.of (s _ _ h2), k.sh s (.bl _)⟩⟩
  · cases e
@[simp] theorem fLt_i {i j : Int} : fLt [.int i, .int j] = some (.sh (.bl (decide (i < j)))) := rfl
/-! ## is of truths -/
def fIsB : List D → Option C
  | [.bl a, .bl b] => some (.sh (.bl (decide (a = b))))
  | _ => none
theorem s_isB : OpS K (op2r rIsB) fIsB := fun G H vs ds c Q s rv e k => by
  unfold fIsB at e
  split at e
  · rename_i a b
    cases e
    cases rv with
    | cons r1 rv => cases rv with | cons r2 rv => cases rv; cases r1.bl; cases r2.bl; exact ⟨_, _, rfl, a, b, rfl, rfl, k.sh s (.bl _)⟩
  · cases e
@[simp] theorem fIsB_b {a b : Bool} : fIsB [.bl a, .bl b] = some (.sh (.bl (decide (a = b)))) := rfl
@[simp] theorem fIsN_n {d : D} : fIsN [d, .non] = some (.sh (.bl d.isN)) := rfl
@[simp] theorem fNotN_n {d : D} : fNotN [d, .non] = some (.sh (.bl (!d.isN))) := rfl
/-! ## in a list of data of any depth -/
def inB (x : D) (ds : List D) : Option Bool := if x.cmpable (.lst ds) then some (ds.any fun z => D.eqv z x) else none
def fInD : List D → Option C
  | [x, .lst ds] => (inB x ds).bind fun b => some (.sh (.bl b))
  | _ => none
def fNotInD : List D → Option C
  | [x, .lst ds] => (inB x ds).bind fun b => some (.sh (.bl (!b)))
  | _ => none
theorem any_py {x : D} (hx : x.okq = true) : ∀ {ds : List D}, D.okqs ds = true → ((D.pys ds).any fun z => PyData.eqv z x.py) = ds.any fun z => D.eqv z x
  | [], _ => by simp [D.pys]
  | d :: ds, h => by
    simp only [D.okqs, Bool.and_eq_true] at h
    simp only [D.pys, List.any_cons, D.eqv_py d x h.1 hx, any_py hx h.2]
theorem s_inDD : OpS K (op2r (rInD K)) fInD := fun G H vs ds c Q s rv e k => by
  unfold fInD at e
  split at e
  · rename_i x ys
    unfold inB at e
    split at e
    · rename_i h
      cases e
      simp only [D.cmpable, Bool.and_eq_true, decide_eq_true_eq] at h
      obtain ⟨⟨⟨h1, h2⟩, h3⟩, h4⟩ := h
      cases rv with
      | cons r1 rv =>
        cases rv with
        | cons r2 rv =>
          cases rv
          have d2 := (r2.all s).dp h2
          have s2 := D.shaped h2 h4
          simp only [D.py] at d2 s2
          exact ⟨_, _, rfl, x.py, D.pys ys, (r1.all s).dp h1, d2, D.shaped h1 h3, s2, by rw [any_py h1 (by simpa [D.okq] using h2)]; exact k.sh s (.bl _)⟩
    · cases e
  · cases e
theorem s_notInDD : OpS K (op2r (rNotInD K)) fNotInD := fun G H vs ds c Q s rv e k => by
  unfold fNotInD at e
  split at e
  · rename_i x ys
    unfold inB at e
    split at e
    · rename_i h
      cases e
      simp only [D.cmpable, Bool.and_eq_true, decide_eq_true_eq] at h
      obtain ⟨⟨⟨h1, h2⟩, h3⟩, h4⟩ := h
      cases rv with
      | cons r1 rv =>
        cases rv with
        | cons r2 rv =>
          cases rv
          have d2 := (r2.all s).dp h2
          have s2 := D.shaped h2 h4
          simp only [D.py] at d2 s2
          exact ⟨_, _, rfl, x.py, D.pys ys, (r1.all s).dp h1, d2, D.shaped h1 h3, s2, by rw [any_py h1 (by simpa [D.okq] using h2)]; exact k.sh s (.bl _)⟩
    · cases e
  · cases e
theorem op_inDD {X : Cx} {k : Nat} (hr : Room k X.A) : OpR X (compareOp .In) (rInD X.K) := L2.op_inD (by have := hr.un; omega)
theorem op_notInDD {X : Cx} {k : Nat} (hr : Room k X.A) : OpR X (compareOp .NotIn) (rNotInD X.K) := L2.op_notInD (by have := hr.un; omega)
@[simp] theorem fInD_l {x : D} {ds : List D} : fInD [x, .lst ds] = (inB x ds).bind fun b => some (.sh (.bl b)) := rfl
@[simp] theorem fNotInD_l {x : D} {ds : List D} : fNotInD [x, .lst ds] = (inB x ds).bind fun b => some (.sh (.bl !b)) := rfl
end
/-! ## a loop that may hand back -/
section
variable {S α : Type} {E : S → Env} {t : Tgt} {b : SM} {f : α → D}
theorem forR (J : S → Prop) (P : α → Bool) (ret : α → C) : ∀ {l : List α} {s : S}, J s → (∀ a ∈ l, ∀ s, J s → (P a = true → ∃ e, (asgT t (f a) (E s)).bind b = some (.rt (ret a) e)) ∧ (P a = false → ∃ s', (asgT t (f a) (E s)).bind b = some (.nx (E s')) ∧ J s')) →
    (∀ a, l.find? P = some a → ∃ e, forN t b (l.map f) (E s) = some (.rt (ret a) e)) ∧ (l.find? P = none → ∃ s', forN t b (l.map f) (E s) = some (.nx (E s')) ∧ J s')
  | [], s, h, _ => ⟨fun a h => (by cases h), fun _ => ⟨s, rfl, h⟩⟩
  | x :: l, s, h, k => by
    obtain ⟨k1, k2⟩ := k x (by simp) s h
    rw [List.map_cons, forN_cons]
    cases q : P x with
    | true =>
      obtain ⟨e, he⟩ := k1 q
      rw [List.find?_cons_of_pos q]
      cases q2 : asgT t (f x) (E s) with
      | none => rw [q2] at he; cases he
      | some e0 =>
        rw [q2] at he
        simp only [Option.bind_some] at he ⊢
        rw [he]
        exact ⟨fun a ha => (by cases ha; exact ⟨e, rfl⟩), fun h => (by cases h)⟩
    | false =>
      obtain ⟨s', he, hj⟩ := k2 q
      rw [List.find?_cons_of_neg (by simp [q])]
      cases q2 : asgT t (f x) (E s) with
      | none => rw [q2] at he; cases he
      | some e0 =>
        rw [q2] at he
        simp only [Option.bind_some] at he ⊢
        rw [he]
        exact forR J P ret hj fun a ha => k a (by simp [ha])
end
end Fx
set_option Elab.async false
set_option linter.all false
set_option maxRecDepth 100000
set_option maxHeartbeats 4000000
noncomputable section
namespace Fx
open PySem L2
open PyProof.Rows (IntsAre)

abbrev E0 (w : World) : Obj := { cls := .type "set", dict := none, data := .set #[] 0 (.fresh 0 0 (!w.params.followText "set-order")) }
section
variable {P : Program} {w : World} {A : Around} {E : Value → Shared → Prop} {s : Shared}
set_option maxRecDepth 100000 in
set_option maxHeartbeats 3200000 in
/-- set(l) of a list of ints -/
theorem call_set_lstI {l : Addr} {items : Array Value} (ns : List Int) {Q : Value → Shared → Prop} (hh : A.handled = none) (hl : s.heap.IsList l items) (zt : IntsAre items.toList ns) (hb : ns.length + 1 < scanBound)
    (h : ∀ (h' : Heap) (tk c : Nat), SetR w h' s.heap.objs.size (fun j => decide (j ∈ ns)) c → c ≤ ns.length → (∀ b o, s.heap.get? b = some o → h'.get? b = some o) → Q (.ref s.heap.objs.size) { s with heap := h', toks := tk }) :
    wpAny (model P w) A (call (.type "set") [.ref l]) Q E s := by
  have zs : items.size = ns.length := by
    have q := IntsAre.length zt
    rw [Array.length_toList] at q
    exact q
  obtain ⟨c, tl, ur⟩ := F.called_set.mro
  have um := F.called_set.made
  have us := F.called_set.sub
  refine wpAny_call (codeAny_of_tree ?_)
  show wpAny _ _ (callAny (.type "set") _) _ _ _
  refine wpAny_pure ⟨Code.quiet_builtin _ (by decide +kernel), codeAny_builtin F.entry_type_call ?_⟩
  rw [Around.under_plain (weight_type_call_type "set" [.ref l] []) rfl]
  have h1 := F.called_set.notType
  have h2 := F.called_set.canCreate
  have uc := F.typeCall_set_1 (.ref l)
  (repeat (any_goals (first | wp_step | assumption)))

  refine codeAny_mono (code_set_led1 (.ref l) (E := E) (Q₁ := fun obj s₁ => obj = .ref s.heap.objs.size ∧ s₁ = { s with heap := s.heap.push (E0 w) }) ⟨rfl, rfl⟩) fun r s₁ hr => ?_
  cases r with
  | error e => exact hr
  | ok fl =>
    cases fl with
    | ret obj =>
      obtain ⟨rfl, rfl⟩ := hr
      have hS : (s.heap.push (E0 w)).get? s.heap.objs.size = some (E0 w) := Heap.get?_push_size _ rfl
      have hT : Shared.TypeIs { s with heap := s.heap.push (E0 w) } (.ref s.heap.objs.size) "set" := ⟨_, hS, rfl⟩
      have ui := F.called_set.init.lookup
      have ub := F.called_set.init.bind (.ref s.heap.objs.size)
      (repeat (any_goals (first | wp_step | assumption)))

      refine codeAny_mono (codeAny_call_builtin (R := wants (fun r s₂ => r = .none ∧ ∃ h' tk c, s₂ = { s with heap := h', toks := tk } ∧ SetR w h' s.heap.objs.size (fun j => decide (j ∈ ns)) c ∧ c ≤ ns.length ∧
          (∀ b o, s.heap.get? b = some o → h'.get? b = some o)) E) F.called_set.init.plain F.entry_set_init (check_set_init_1 hT ?_)) fun r₂ s₂ hr₂ => ?_
      · obtain ⟨ol, ga, hcl, nl, hdl⟩ := hl
        obtain ⟨ocls, odict, odata, oslots⟩ := ol
        simp only at hcl hdl
        subst hcl; subst hdl
        have gb : (s.heap.push (E0 w)).get? l = some { cls := .type "list", dict := odict, data := .seq items nl, slots := oslots } := Heap.get?_push_of_some _ ga
        have ut := F.sub_list_set
        have uf := F.sub_list_frozenset
        have zn : (Value.type "list" == Value.type "dict") = false := by decide
        have g1 : (s.heap.push (E0 w)).IsList l items := ⟨_, gb, rfl, nl, rfl⟩
        unfold Builtin.«set.__init__» noKeywords Builtin.Frozenset.updateFrom
        generalize hPI : pyIter = PI
        wp_walk
        subst hPI

        refine wpAny_pyIter_list g1 ?_
        refine wpAny_bind (wpAny_runValue ?_)
        have zl : l < s.heap.objs.size := Heap.lt_size ga
        have z3 : A.in1.in1.in1.handled = none := by simp [hh]
        have zz : (s.heap.push (E0 w)).objs.size = s.heap.objs.size + 1 := Heap.size_push ..
        have zi : l ≠ (s.heap.push (E0 w)).objs.size := by
          rw [Heap.size_push]; exact Nat.ne_of_lt (Nat.lt_succ_of_lt zl)
        have zf : s.heap.objs.size ∉ [(s.heap.push (E0 w)).objs.size, l] := by
          rw [Heap.size_push]; simp only [List.mem_cons, List.mem_singleton, List.not_mem_nil, or_false, not_or]
          exact ⟨Nat.ne_of_lt (Nat.lt_succ_self _), Nat.ne_of_gt zl⟩
        have zv : ∀ (i : Nat) (v : Value), items[i]? = some v → ∃ k t, ns[i]? = some k ∧ v = .int k t := fun i v hv => by
          have hi : i < ns.length := by rw [← zs]; exact (Array.getElem?_eq_some_iff.mp hv).1
          obtain ⟨t, e⟩ := PyProof.Rows.IntsAre.int_at zt i v (by rw [Array.getElem?_toList]; exact hv)
          refine ⟨ns[i], t, List.getElem?_eq_getElem hi, ?_⟩
          rw [e, List.getD_eq_getElem?_getD, List.getElem?_eq_getElem hi] <;> rfl
        refine set_update_ints ((Walks.list z3 _ l zi items).toS) s.heap.objs.size
          zf ns zs hb zv (items.size - 0) 0 _ (by omega) (Nat.zero_le _)
          ⟨⟨_, Heap.get?_push_size _ rfl, rfl, rfl⟩, (g1.push _)⟩ ?hS0 ?hR
        case hS0 =>
          have zg : ((s.heap.push (E0 w)).push { cls := .type "list_iterator", data := .fields #[.ref l, .int 0 0] }).get? s.heap.objs.size
              = some (E0 w) := Heap.get?_push_of_some _ hS
          exact ⟨0, Nat.le_refl 0, setR_new_at zg⟩
        case hR =>
          intro s' c' hm hc' hS'
          obtain ⟨h', g2, d', tk', os'⟩ := s'
          have eg : g2 = s.gens := hm.gens
          have ed : d' = s.drawn := hm.drawn
          have eo : os' = s.os := hm.os
          subst eg; subst ed; subst eo
          show wpAny _ _ _ _ _ _
          refine wpAny_pure ?_
          show wpAny _ _ (ret Value.none) _ _ _
          rw [zs] at hc'
          refine wpAny_pure ⟨rfl, h', tk', c', rfl, hS', hc', fun b o e => ?_⟩
          have hb0 : b < s.heap.objs.size := Heap.lt_size e
          have hb1 : b ≠ s.heap.objs.size := Nat.ne_of_lt hb0
          have hb2 : b ≠ (s.heap.push (E0 w)).objs.size := by
            rw [Heap.size_push]; exact Nat.ne_of_lt (Nat.lt_succ_of_lt hb0)
          exact hm.heap b o (by simp only [List.mem_cons, List.mem_singleton, List.not_mem_nil, or_false, not_or]; exact ⟨hb1, hb2⟩) (Heap.get?_push_of_some _ (Heap.get?_push_of_some _ e))

      · cases r₂ with
        | error e => exact hr₂
        | ok fl₂ =>
          cases fl₂ with
          | ret r =>
            obtain ⟨rfl, h', tk, c', rfl, hS', hc', hk'⟩ := hr₂
            (repeat (any_goals (first | wp_step | assumption)))
            exact h _ _ _ hS' hc' hk'
          | _ => exact hr₂.elim
    | _ => exact hr.elim

end
end Fx
set_option Elab.async false
set_option linter.all false
set_option maxRecDepth 100000
set_option maxHeartbeats 4000000
noncomputable section
namespace Fx
open PySem L2
open PyProof.Rows (IntsAre)
/-! ## set(l), sorted(set(l)) -/
section
variable {X : Cx}
def rSetLI (K : Fg) (w : World) : List V → Hp → VK → Prop := fun xs H Q => ∃ (l : Addr) (ns : List Int), xs = [V.ref l] ∧ SqL K H l (ns.map V.int) ∧ ns.length ≤ 1000 ∧
  ∀ p c, c ≤ ns.length → H p = none → Q (.ref p) (upd H p (SetO w p (fun j => decide (j ∈ ns)) c))
theorem cr_setLI (hc : X.calm = true) : CallR X (.type "set") (rSetLI X.K X.w) := by
  intro pins s σ H xs us Q I r h
  obtain ⟨l, ns, rfl, hl, hn, q⟩ := h
  obtain ⟨u, rfl, ru⟩ := vals1 r
  cases ru
  obtain ⟨its, rv, pt, hz⟩ := I.list hl
  refine call_set_lstI ns (I.ok.hd hc) pt.isList (by simpa using ints_of_vals rv) (by unfold scanBound; omega) fun h' tk c R1 hcn k => ?_
  exact ⟨.ref _, upd H s.heap.objs.size (SetO X.w s.heap.objs.size (fun j => decide (j ∈ ns)) c), I.laid (t' := tk) k (Nat.le_refl _) (setO_new R1), rfl, q _ c hcn (I.hok.fresh (Nat.le_refl _))⟩
/-- the numbers of a list, each once, rising -/
def insS (x : Int) : List Int → List Int
  | [] => [x]
  | y :: r => if x < y then x :: y :: r else if x = y then y :: r else y :: insS x r
def srtS (ns : List Int) : List Int := ns.foldr insS []
theorem insS_mem (x k : Int) : ∀ l : List Int, k ∈ insS x l ↔ k = x ∨ k ∈ l
  | [] => by simp [insS]
  | y :: r => by
    unfold insS
    split
    · simp
    · split
      · rename_i h; subst h; simp
      · rw [List.mem_cons, insS_mem x k r, List.mem_cons]
        constructor
        · rintro (h | h | h) <;> simp [h]
        · rintro (h | h | h) <;> simp [h]
theorem insS_up (x : Int) : ∀ {l : List Int}, l.Pairwise (· < ·) → (insS x l).Pairwise (· < ·)
  | [], _ => List.pairwise_singleton _ _
  | y :: r, h => by
    have hp := List.pairwise_cons.mp h
    unfold insS
    split
    · rename_i q
      refine List.pairwise_cons.mpr ⟨fun z m => ?_, h⟩
      rcases List.mem_cons.mp m with e | m
      · subst e; exact q
      · exact Int.lt_trans q (hp.1 z m)
    · split
      · exact h
      · rename_i q1 q2
        refine List.pairwise_cons.mpr ⟨fun z m => ?_, insS_up x hp.2⟩
        rcases (insS_mem x z r).mp m with e | m
        · subst e; omega
        · exact hp.1 z m
theorem srtS_mem (k : Int) : ∀ ns : List Int, k ∈ srtS ns ↔ k ∈ ns
  | [] => by simp [srtS]
  | x :: r => by
    show k ∈ insS x (srtS r) ↔ _
    rw [insS_mem, srtS_mem k r, List.mem_cons]
theorem srtS_up : ∀ ns : List Int, (srtS ns).Pairwise (· < ·)
  | [] => List.Pairwise.nil
  | x :: r => insS_up x (srtS_up r)
theorem up_uniq : ∀ {l m : List Int}, l.Pairwise (· < ·) → m.Pairwise (· < ·) → (∀ k, k ∈ l ↔ k ∈ m) → l = m
  | [], [], _, _, _ => rfl
  | [], y :: m, _, _, h => absurd ((h y).mpr (by simp)) (by simp)
  | x :: l, [], _, _, h => absurd ((h x).mp (by simp)) (by simp)
  | x :: l, y :: m, hl, hm, h => by
    have pl := List.pairwise_cons.mp hl
    have pm := List.pairwise_cons.mp hm
    have e : x = y := by
      rcases List.mem_cons.mp ((h x).mp (by simp)) with e | a
      · exact e
      · rcases List.mem_cons.mp ((h y).mpr (by simp)) with e | b
        · exact e.symm
        · have := pm.1 x a; have := pl.1 y b; omega
    subst e
    have : l = m := up_uniq pl.2 pm.2 fun k => by
      have hk := h k
      rw [List.mem_cons, List.mem_cons] at hk
      constructor
      · intro a
        rcases hk.mp (.inr a) with e | b
        · subst e; have := pl.1 k a; omega
        · exact b
      · intro a
        rcases hk.mpr (.inr a) with e | b
        · subst e; have := pm.1 k a; omega
        · exact b
    rw [this]
def fSrtSet : List D → Option C
  | [.lst xs] => (intsOf xs).bind fun ns => if ns.length < 64 then some (.ol ((srtS ns).map D.int)) else none
  | _ => none
theorem s_srtSet {K : Fg} {w : World} : OpS K (fun vs H Q => rSetLI K w vs H fun v H2 => rSortedSet w [v] H2 Q) fSrtSet := fun G H vs ds c Q s rv e k => by
  unfold fSrtSet at e
  split at e
  · rename_i xs
    cases q : intsOf xs with
    | none => simp [q] at e
    | some ns =>
      simp only [q, Option.bind_some] at e
      split at e
      · rename_i hl
        cases e
        have hx := intsOf_inv q
        subst hx
        cases rv with
        | cons r1 rv =>
          cases rv
          obtain ⟨a, us, rfl, h1, p1⟩ := r1.lst s
          rw [p1.ints_inv] at h1
          refine ⟨a, ns, rfl, SqL.of h1, by omega, fun p c hc hp => ?_⟩
          refine ⟨p, _, c, rfl, upd_same, by omega, fun ys q hy hm hyl hq => ?_⟩
          have ey : ys = srtS ns := up_uniq hy (srtS_up ns) fun k => by rw [hm k, srtS_mem, decide_eq_true_eq]
          subst ey
          have hqp : q ≠ p := fun z => by subst z; rw [upd_same] at hq; cases hq
          have hq' : H q = none := by rw [upd_ne hqp] at hq; exact hq
          have st : Step G H (fun _ => False) G (upd (upd H p (SetO w p (fun j => decide (j ∈ ns)) c)) q (.lst ((srtS ns).map V.int))) (fun a => a ∈ [q]) :=
            ⟨fun _ _ e => e, fun a o e _ => by rw [upd_ne (ne_of_none e hq'), upd_ne (ne_of_none e hp)]; exact e, fun a o e => .inl e, fun a m => by simp at m; subst m; exact .inr hq'⟩
          exact k _ G _ [q] (fun a o e => by rw [upd_ne (ne_of_none (s a o e) hq'), upd_ne (ne_of_none (s a o e) hp)]; exact s a o e) (.ol (none_of_same s hq') upd_same (reps_ints _)) st
      · cases e
  · cases e
theorem ok_srtSet {e : Expr} {o : Opd} {p p2 pos pos2 : Pos} (hc : X.calm = true) (hg : Gl X "sorted") (hm : X.mg "sorted" = none) (hg2 : Gl X "set") (hm2 : X.mg "set" = none) (ha : PA X [e] (tOs X.K [o]))
    (hs : starEach [.Call (.Name "set" p2) [e] [] pos2] X.env = (false, eval (.Call (.Name "set" p2) [e] [] pos2) X.env) :: starEach [] X.env := by rfl) (hs2 : starEach [e] X.env = (false, eval e X.env) :: starEach [] X.env := by rfl) :
    EOk X (.Call (.Name "sorted" p) [.Call (.Name "set" p2) [e] [] pos2] [] pos) (eO fSrtSet [o]) :=
  pe_mono (pe_callB (cr_sortedSet hc) hg hm (by decide +kernel) (pa_cons (pe_callTy (cr_setLI hc) hg2 hm2 (by decide +kernel) (pao ha) (by decide) (by decide) hs2) pa_nil hs) (by decide) (by decide) hs) fun σ H Q q => eO_run (s_srtSet (w := X.w)) q
end
/-! ## d.update(d2), sorted(d) -/
section
variable {X : Cx} {pins : List (Addr × Obj)} {σ : St} {H : Hp} {s : Shared} {A : Around} {E : Value → Shared → Prop}
theorem d_update {a b : Addr} {kvs more : List (Key × V)} {Q : Value → Shared → Prop} (I : Inv X pins σ H s) (e : H a = some (.dK kvs)) (e2 : H b = some (.dK more)) (hne : a ≠ b) (hl : kvs.length + more.length ≤ sizeLine)
    (h : ∀ s', Inv X pins σ (upd H a (.dK (mergeK kvs more))) s' → Q .none s') : wpAny (model X.prog X.w) A (call (.builtin "dict.update") [.ref a, .ref b]) Q E s := by
  obtain ⟨z, hd, vs, rel, dd⟩ := dk_of I.hok e
  obtain ⟨z2, hd2, vs2, rel2, dd2⟩ := dk_of I.hok e2
  refine call_meetsIn PySem.F.slot_dict_update dd.typeIs PySem.F.entry_dict_update (PySem.F.args_dict_update_2 _ _) (meets_dict_update (mixKind X.prog X.w) a b hne hd2)
    ⟨vs, vs2, dd, dd2, by rw [← rel.length, ← rel2.length]; exact hl, fun h' dd' _ hs => h _ ?_⟩
  exact d_write I (by rw [e]; exact True.intro) hs (let ⟨q, _, _, hq, _⟩ := dd'; ⟨q, hq⟩) (dk_new (Nat.le_trans (length_mergeK more kvs) hl) hd (KV.merge rel2 rel) dd')
end
def rUpd : V → List V → Hp → VK → Prop := fun x vs H Q => ∃ a b kvs more, x = .ref a ∧ vs = [.ref b] ∧ H a = some (.dK kvs) ∧ H b = some (.dK more) ∧ a ≠ b ∧ kvs.length + more.length ≤ sizeLine ∧ Q .non (upd H a (.dK (mergeK kvs more)))
theorem mt_upd {X : Cx} : MtR X "dict.update" rUpd := by
  intro pins s σ H x vs v us Q I rx rv h
  obtain ⟨a, b, kvs, more, rfl, rfl, e, e2, hne, hl, q⟩ := h
  obtain rfl : v = Value.ref a := rx
  obtain ⟨u, rfl, ru⟩ := rv.one
  obtain rfl : u = Value.ref b := ru
  exact d_update I e e2 hne hl fun s' I' => ⟨.non, _, I', rfl, q⟩
def mergeD (kvs more : List (Key × D)) : List (Key × D) := more.foldl (fun acc kv => putD acc kv.1 kv.2) kvs
theorem mergeK_of {K : Fg} {G : Hp} : ∀ {ds : List (Key × D)} {vs : List (Key × V)} {es : List (Key × D)} {us : List (Key × V)}, RepK K G vs ds → RepK K G us es → RepK K G (mergeK us vs) (mergeD es ds)
  | _, _, _, _, .nil, r => r
  | _, _, es, us, .cons h t, r => by
    show RepK K G (mergeK (putK us _ _) _) (mergeD (putD es _ _) _)
    exact mergeK_of t (putK_of h r)
theorem RepK.length {K : Fg} {G : Hp} : ∀ {ds : List (Key × D)} {vs : List (Key × V)}, RepK K G vs ds → vs.length = ds.length
  | _, _, .nil => rfl
  | _, _, .cons _ r => by simp [RepK.length r]
def fUpd : C → List D → Option (C × C)
  | .odk kvs, [.dk more] => if kvs.length + more.length ≤ lim then some (.sh .non, .odk (mergeD kvs more)) else none
  | _, _ => none
theorem m_upd {K : Fg} : MutS K rUpd fUpd := fun v0 vs H Q h => by
  obtain ⟨c0, f0, ds, G, s, r0, r, c, c0', e, k⟩ := h
  unfold fUpd at e
  split at e
  · rename_i kvs more
    split at e
    · rename_i hl
      cases e
      cases r0 with
      | odk g h r0 =>
        rename_i l xs
        cases r with
        | cons rm r =>
          cases r
          cases rm with
          | dk h2 r2 =>
            rename_i b ys
            have hne : l ≠ b := fun z => by rw [z, h2] at g; cases g
            refine ⟨l, b, xs, ys, rfl, rfl, h, s _ _ h2, hne, by rw [r0.length, r2.length, ← lim_eq]; exact hl, ?_⟩
            have sub : Same G (upd H l (.dK (mergeK xs ys))) := fun a o e => by rw [upd_ne (fun z => by rw [z, g] at e; cases e)]; exact s a o e
            refine k .non G _ [l] [] sub (.odk g upd_same (mergeK_of r2 r0)) (.sh .non) (fun a m => by cases m) ⟨fun _ _ e => e, fun a o e n => by rw [upd_ne (fun z => n (by simp [z]))]; exact e, fun a o e => .inl e, fun a m => m.elim .inl fun z => by cases z⟩
    · cases e
  · cases e
def eMethD (F : C → List D → Option (C × C)) (i : Nat) (ms : List Arg) : EM := fun env => match env[i]? with
  | some (some (.odk _)) => eCallB F i ms env
  | _ => none
section
variable {X : Cx} {o e : Expr} {es : List Expr} {name : Str} {apos cpos : Pos} {id : String} {r : V → List V → Hp → VK → Prop} {F : C → List D → Option (C × C)} {i : Nat} {ms : List Arg}
theorem methD_run {K : Fg} {σ : St} {H : Hp} {Q : VK} (q : tE K (eMethD F i ms) σ H Q) :
    ∃ l xs, σ[i]? = some (some (.ref l)) ∧ H l = some (.dK xs) ∧ tAr K ms σ H fun vs H1 => Mt K F (.ref l) vs H1 Q := by
  obtain ⟨env, G, fp, con, c, env', e1, k⟩ := q
  unfold eMethD at e1
  split at e1
  · rename_i ds q0
    obtain ⟨v0, hv0, r0⟩ := con.rep i _ q0
    obtain ⟨v1, cc, f0, G1, h1, h2, h3, h4⟩ := mut_run (F := F) ⟨env, G, fp, con, c, env', e1, k⟩
    rw [hv0] at h1; cases h1
    generalize hf : fp i = fi at r0
    cases r0 with
    | odk g h r => exact ⟨_, _, hv0, h, h4⟩
  · cases e1
theorem ok_methD (slot : Slot "dict" name id) (hty : typeOf (.builtin id) = pure (.type "method_descriptor")) (hm : MtR X id r) (hF : MutS X.K r F) (ho : PE X o (tVar i)) (ha : PA X (e :: es) (tAr X.K ms))
    (hbase : attributeBase o name X.env (eval o X.env) = eval o X.env := by rfl)
    (hfew : ((backTo cpos (starEach (e :: es) X.env)).all (fun x => !x.1) && (backToKw cpos (keywordEach [] X.env)).all (fun x => x.1.isSome)
      && decide ((e :: es).length + ([] : List Keyword).length + (if ([] : List Keyword).isEmpty then 0 else 1) < 30)) = true := by rfl)
    (hline : (apos.endLine == cpos.line) = true := by rfl) (hs : starEach (e :: es) X.env = (false, eval e X.env) :: starEach es X.env := by rfl) (hplain : (backTo cpos (starEach es X.env)).any (·.1) = false := by rfl) :
    EOk X (.Call (.Attribute o name apos) (e :: es) [] cpos) (eMethD F i ms) :=
  pe_mono (pe_bm PySem.F.plainAttrs_dict slot hty hm ho ha hbase hfew hline hs hplain) fun σ H Q q => by
    obtain ⟨l, xs, hv, hl, z⟩ := methD_run q
    exact ⟨_, hv, .inr (.inr (.inl ⟨rfl, .inl ⟨xs, hl⟩⟩)), ok_methL.ta_mono ms z fun vs H1 h => hF _ _ _ _ h⟩
@[simp] theorem ev_MethD {env : Env} : eMethD F i ms env = (getC env i).bind fun c => match c with
  | .odk _ => eCallB F i ms env
  | _ => none := by
  unfold eMethD getC
  cases h : env[i]? with
  | none => rfl
  | some x => cases x with
    | none => rfl
    | some c => cases c <;> rfl
@[simp] theorem fUpd_k {kvs more : List (Key × D)} : fUpd (.odk kvs) [.dk more] = if kvs.length + more.length ≤ lim then some (.sh .non, .odk (mergeD kvs more)) else none := rfl
end
/-! sorted(d): the keys are ints -/
def keysI : List (Key × D) → Option (List Int)
  | [] => some []
  | (.inl i, _) :: r => (keysI r).bind fun ks => some (i :: ks)
  | _ :: _ => none
theorem keysI_inv : ∀ {kvs : List (Key × D)} {ks : List Int}, keysI kvs = some ks → kvs.map (·.1) = ks.map Sum.inl
  | [], ks, h => by cases h; rfl
  | (.inl i, d) :: r, ks, h => by
    unfold keysI at h
    cases q : keysI r with
    | none => simp [q] at h
    | some l => simp [q] at h; subst h; simp [keysI_inv q]
  | (.inr x, d) :: r, ks, h => by cases h
def fSortedD : List D → Option C
  | [.dk kvs] => (keysI kvs).bind fun ks => if ks.length < 64 then some (.ol ((isrt ltI ks).map D.int)) else none
  | _ => none
theorem RepK.keys {K : Fg} {G : Hp} : ∀ {ds : List (Key × D)} {vs : List (Key × V)}, RepK K G vs ds → vs.map (·.1) = ds.map (·.1)
  | _, _, .nil => rfl
  | _, _, .cons _ r => by simp [RepK.keys r]
def rSortedDI : List V → Hp → VK → Prop := fun xs H Q => ∃ (a : Addr) (kvs : List (Key × V)) (ks : List Int), xs = [.ref a] ∧ Rd H a (.dK kvs) ∧ kvs.map (·.1) = ks.map Sum.inl ∧ ks.length < 64 ∧
    ∀ (ys : List Int) (p : Addr), ys.Perm ks → ys.Pairwise (· ≤ ·) → H p = none → Q (.ref p) (upd H p (.lst (ys.map V.int)))
theorem s_sortedD {K : Fg} : OpS K rSortedDI fSortedD := fun G H vs ds c Q s rv e k => by
  unfold fSortedD at e
  split at e
  · rename_i kvs
    cases q : keysI kvs with
    | none => simp [q] at e
    | some ks =>
      simp only [q, Option.bind_some] at e
      split at e
      · rename_i hl
        cases e
        cases rv with
        | cons r1 rv =>
          cases rv
          obtain ⟨a, us, rfl, h1, p1⟩ := r1.dk_ s
          refine ⟨a, us, ks, rfl, .of h1, by rw [p1.keys]; exact keysI_inv q, hl, fun ys p hp hs hn => ?_⟩
          have e : ys = isrt ltI ks := by
            refine srt_uniq swoI antiI (hs.imp fun {a b} h => ?_) (isrt_srtd swoI ks) (hp.trans (isrt_perm ltI ks).symm)
            unfold ltI; simp; exact h
          subst e
          exact k.ol s (reps_ints _) hn
      · cases e
  · cases e
theorem cr_sortedDI {X : Cx} (hc : X.calm = true) : CallR X (.builtin "sorted") rSortedDI := call_sortedDI hc
/-! x not in a module's dict: where it is there -/
def eNotTab (tab : List (Str × D)) (o : Opd) : EM := fun env => (evO [o] env).bind fun (ds, e) => match ds with
  | [.str z] => (tab.lookup z).bind fun _ => some (.sh (.bl false), e)
  | _ => none
theorem ok_notTab {X : Cx} {x : Str} {p pos : Pos} {a : Expr} {d : Addr} {tab : List (Str × D)} {o : Opd} (hg : Gl X x) (hm : X.mg x = some (.ref d)) (hD : ∃ es n, KDict X.K X.w d es n) (ht : ∀ z d', tab.lookup z = some d' → ∃ u0 v0, PySem.W.nsIn X.K d z = some (some u0) ∧ RelV v0 u0 ∧ ∀ G, Rep X.K G v0 d')
    (ho : OOk X a o) (hd : (x == ("__debug__" : Str)) = false := by decide) (hmk : behindInMarks .NotIn (.Name x p) = false := by first | exact nomark _ | rfl) : TOk X (.Compare a [.NotIn] [.Name x p] pos) (kVal (eNotTab tab o)) := by
  obtain ⟨es, n, kd⟩ := hD
  refine pt_mono (pt_cmpR (op_notIn_kd kd) ho (pe_glob (v := .ref d) hg hm rfl hd) hmk) fun σ H Q ⟨env, G, fp, con, b, env', e1, k⟩ => ?_
  unfold kVal eNotTab at e1
  cases q : evO [o] env with
  | none => rw [q] at e1; cases e1
  | some y =>
    obtain ⟨ds, e2⟩ := y
    rw [q] at e1
    simp only [Option.bind_some] at e1
    split at e1
    · rename_i b0 e0 q0
      split at q0
      · rename_i z
        cases q2 : tab.lookup z with
        | none => rw [q2] at q0; cases q0
        | some d' =>
          rw [q2] at q0
          cases q0
          simp only [Option.some.injEq, Prod.mk.injEq] at e1
          obtain ⟨rfl, rfl⟩ := e1
          obtain ⟨u0, v0, h1, _, _⟩ := ht z d' q2
          have hz : tO X.K [o] σ H (fun vs H1 => ∃ y, vs = [y] ∧ ∃ (z : Str) (r : Option Value), y = .str z ∧ V.ref d = .ref d ∧ PySem.W.nsIn X.K d z = some r ∧ ∃ k, V.bl (!r.isSome) = .bl k ∧ Q k H1) := ⟨env, G, fp, con, _, _, q, fun vs G' H' fp' c' rv s => by
            cases rv with
            | cons r1 rv =>
              cases rv; cases r1.str
              exact ⟨_, rfl, z, some u0, rfl, rfl, h1, false, rfl, k G' H' fp' c' s⟩⟩
          show (tOpd X.K o) σ H _
          refine vk_mono_opd o (fun y H1 h => ?_) (tOs1 (tO_tOs hz))
          obtain ⟨y', ey, h⟩ := h
          cases ey
          exact h
      · cases q0
    · cases e1
@[simp] theorem ev_NotTab {env : Env} {tab : List (Str × D)} {o : Opd} : eNotTab tab o env = (evO [o] env).bind fun (ds, e) => match ds with
  | [.str z] => (tab.lookup z).bind fun _ => some (.sh (.bl false), e)
  | _ => none := rfl
end Fx
set_option Elab.async false
set_option linter.all false
set_option maxRecDepth 100000
set_option maxHeartbeats 4000000
namespace Fx
open PySem L2
/-! more reckoning: and/or/not as values, dict comprehensions, == on the same -/
section
variable {env : Env} {a b : EM}
@[simp] theorem ev_And : eAnd a b env = (a env).bind fun (c, e) => match c with | .sh (.bl x) => if x then b e else some (.sh (.bl false), e) | _ => none := by
  unfold eAnd
  cases a env with
  | none => rfl
  | some y =>
    obtain ⟨c, e⟩ := y
    cases c with
    | sh d => cases d <;> rfl
    | _ => rfl
@[simp] theorem ev_Or : eOr a b env = (a env).bind fun (c, e) => match c with | .sh (.bl x) => if x then some (.sh (.bl true), e) else b e | _ => none := by
  unfold eOr
  cases a env with
  | none => rfl
  | some y =>
    obtain ⟨c, e⟩ := y
    cases c with
    | sh d => cases d <;> rfl
    | _ => rfl
@[simp] theorem ev_Not : eNot a env = (a env).bind fun (c, e) => match c with | .sh (.bl x) => some (.sh (.bl (!x)), e) | _ => none := by
  unfold eNot
  cases a env with
  | none => rfl
  | some y =>
    obtain ⟨c, e⟩ := y
    cases c with
    | sh d => cases d <;> rfl
    | _ => rfl
@[simp] theorem ev_DC {vs : List Nat} {t : Tgt} {i : IM} {c : TM} {mk mv : EM} : eDC vs t i c mk mv env = (i env).bind fun (ds, e1) => if calmE e1 vs then (dcN vs t c mk mv ds [] (wipeE e1 vs)).bind fun (rs, e2) => some (.odk rs, restE e1 vs e2) else none := rfl
end
theorem dcN_nil {vs : List Nat} {t : Tgt} {c : TM} {mk mv : EM} {acc : List (Key × D)} {env : Env} : dcN vs t c mk mv [] acc env = some (acc, env) := rfl
theorem dcN_cons {vs : List Nat} {t : Tgt} {c : TM} {mk mv : EM} {d : D} {ds : List D} {acc : List (Key × D)} {env : Env} : dcN vs t c mk mv (d :: ds) acc env = (asgT t d env).bind fun e1 => (c e1).bind fun (b, e2) => if b then (mk e2).bind fun (x, e3) => (keyD x.fz).bind fun k => (mv e3).bind fun (y, e4) => if calmE e4 vs = true ∧ acc.length < lim then dcN vs t c mk mv ds (putD acc k y.fz) (wipeE e4 vs) else none
      else if calmE e2 vs then dcN vs t c mk mv ds acc (wipeE e2 vs) else none := rfl
/-! the same datum is equal to itself -/
mutual
theorem D.eqv_refl : ∀ d : D, d.okq = true → D.eqv d d = true
  | .non, _ => rfl
  | .bl b, _ => by simp [D.eqv]
  | .int i, _ => by simp [D.eqv]
  | .str x, _ => by simp [D.eqv]
  | .tup ds, h => by simp only [D.eqv]; exact D.eqvs_refl ds (by simpa [D.okq] using h)
  | .lst ds, h => by simp only [D.eqv]; exact D.eqvs_refl ds (by simpa [D.okq] using h)
  | .dk _, h => by cases h
  | .dt _, h => by cases h
  | .scr _, h => by cases h
  | .obj _ _ _, h => by cases h
theorem D.eqvs_refl : ∀ ds : List D, D.okqs ds = true → D.eqvs ds ds = true
  | [], _ => rfl
  | d :: ds, h => by
    simp only [D.okqs, Bool.and_eq_true] at h
    simp only [D.eqvs, D.eqv_refl d h.1, D.eqvs_refl ds h.2, Bool.and_self]
end
theorem fNe_self {d : D} (h : d.okq = true) (h2 : d.dep ≤ 63) : fNe [d, d] = some (.sh (.bl false)) := by
  rw [fNe_v (by unfold D.cmpable; simp [h, h2]), D.eqv_refl d h]; rfl
theorem fEq_self {d : D} (h : d.okq = true) (h2 : d.dep ≤ 63) : fEq [d, d] = some (.sh (.bl true)) := by
  rw [fEq_v (by unfold D.cmpable; simp [h, h2]), D.eqv_refl d h]
theorem okqs_ints : ∀ l : List Int, D.okqs (l.map D.int) = true
  | [] => rfl
  | x :: r => by simp [D.okqs, D.okq, okqs_ints r]
theorem deps_ints : ∀ l : List Int, D.deps (l.map D.int) = 0
  | [] => rfl
  | x :: r => by simp [D.deps, D.dep, deps_ints r]
theorem eqvs_ints : ∀ l m : List Int, D.eqvs (l.map D.int) (m.map D.int) = decide (l = m)
  | [], [] => rfl
  | [], x :: m => by simp [D.eqvs]
  | x :: l, [] => by simp [D.eqvs]
  | x :: l, y :: m => by
    have e := eqvs_ints l m
    by_cases h : x = y <;> by_cases h2 : l = m <;> simp_all [D.eqvs, D.eqv]
theorem fEq_ti (l m : List Int) : fEq [.tup (l.map D.int), .tup (m.map D.int)] = some (.sh (.bl (decide (l = m)))) := by
  rw [fEq_v (by unfold D.cmpable; simp [D.okq, D.dep, okqs_ints, deps_ints])]
  simp [D.eqv, eqvs_ints]
theorem fEq_li (l m : List Int) : fEq [.lst (l.map D.int), .lst (m.map D.int)] = some (.sh (.bl (decide (l = m)))) := by
  rw [fEq_v (by unfold D.cmpable; simp [D.okq, D.dep, okqs_ints, deps_ints])]
  simp [D.eqv, eqvs_ints]
theorem fNe_ti (l m : List Int) : fNe [.tup (l.map D.int), .tup (m.map D.int)] = some (.sh (.bl (!decide (l = m)))) := by
  rw [fNe_v (by unfold D.cmpable; simp [D.okq, D.dep, okqs_ints, deps_ints])]
  simp [D.eqv, eqvs_ints]
theorem fNe_li (l m : List Int) : fNe [.lst (l.map D.int), .lst (m.map D.int)] = some (.sh (.bl (!decide (l = m)))) := by
  rw [fNe_v (by unfold D.cmpable; simp [D.okq, D.dep, okqs_ints, deps_ints])]
  simp [D.eqv, eqvs_ints]
/-! dicts whose values are all True: their keys -/
def kD (ks : List Int) : List (Key × D) := ks.map fun k => (.inl k, .bl true)
def inK (ks : List Int) (k : Int) : List Int := if k ∈ ks then ks else ks ++ [k]
theorem putD_kD (ks : List Int) (k : Int) : putD (kD ks) (.inl k) (.bl true) = kD (inK ks k) := by
  unfold putD kD inK
  by_cases h : k ∈ ks
  · rw [if_pos h, if_pos (by simp; exact h)]
    rw [List.map_map]
    apply List.map_congr_left
    intro x hx
    by_cases q : x = k <;> simp [q]
  · rw [if_neg h, if_neg (by simp; exact fun e => h e)]
    simp
theorem kD_len (ks : List Int) : (kD ks).length = ks.length := by simp [kD]
theorem mergeD_kD : ∀ (b a : List Int), mergeD (kD a) (kD b) = kD (b.foldl inK a)
  | [], a => rfl
  | k :: b, a => by
    show mergeD (putD (kD a) _ _) (kD b) = _
    rw [putD_kD, mergeD_kD b]; rfl
theorem inK_mem {ks : List Int} {k x : Int} : x ∈ inK ks k ↔ x ∈ ks ∨ x = k := by
  unfold inK
  by_cases h : k ∈ ks
  · rw [if_pos h]; constructor
    · exact .inl
    · rintro (a | rfl)
      · exact a
      · exact h
  · rw [if_neg h]; simp
theorem inK_nodup {ks : List Int} {k : Int} (h : ks.Nodup) : (inK ks k).Nodup := by
  unfold inK
  by_cases q : k ∈ ks
  · rw [if_pos q]; exact h
  · rw [if_neg q]
    refine List.nodup_append.mpr ⟨h, by simp, fun a ha b hb => ?_⟩
    simp at hb; subst hb; intro e; subst e; exact q ha
theorem inK_len {ks : List Int} {k : Int} : (inK ks k).length ≤ ks.length + 1 := by
  unfold inK; split <;> simp
theorem foldK_mem : ∀ {b a : List Int} {x : Int}, x ∈ b.foldl inK a ↔ x ∈ a ∨ x ∈ b
  | [], a, x => by simp
  | k :: b, a, x => by rw [List.foldl_cons, foldK_mem, inK_mem, List.mem_cons, or_assoc]
theorem foldK_nodup : ∀ {b a : List Int}, a.Nodup → (b.foldl inK a).Nodup
  | [], a, h => h
  | k :: b, a, h => foldK_nodup (b := b) (a := inK a k) (inK_nodup h)
theorem foldK_len : ∀ {b a : List Int}, (b.foldl inK a).length ≤ a.length + b.length
  | [], a => Nat.le_refl _
  | k :: b, a => by
    have := foldK_len (b := b) (a := inK a k)
    have := inK_len (ks := a) (k := k)
    simp only [List.foldl_cons, List.length_cons]; omega
theorem keysI_kD : ∀ ks : List Int, keysI (kD ks) = some ks
  | [] => rfl
  | k :: r => by
    show (keysI (kD r)).bind _ = _
    rw [keysI_kD r]; rfl
theorem isrt_srtS {ks ns : List Int} (h : ks.Nodup) (m : ∀ k, k ∈ ks ↔ k ∈ ns) : isrt ltI ks = srtS ns := by
  refine up_uniq ?_ (srtS_up ns) fun k => by rw [srtS_mem, ← m, (isrt_perm ltI ks).mem_iff]
  have h1 := isrt_srtd swoI ks
  have h2 : (isrt ltI ks).Nodup := (isrt_perm ltI ks).nodup_iff.mpr h
  exact List.Pairwise.imp₂ (fun a b p q => by unfold ltI at p; simp at p; omega) h1 h2
theorem fSortedD_kD {ks ns : List Int} (h : ks.Nodup) (m : ∀ k, k ∈ ks ↔ k ∈ ns) (hl : ks.length < 64) : fSortedD [.dk (kD ks)] = some (.ol ((srtS ns).map D.int)) := by
  show ((keysI (kD ks)).bind _) = _
  rw [keysI_kD]
  simp [hl, isrt_srtS h m]
theorem fSrtSet_i {ns : List Int} (hl : ns.length < 64) : fSrtSet [.lst (ns.map D.int)] = some (.ol ((srtS ns).map D.int)) := by
  show ((intsOf (ns.map D.int)).bind _) = _
  rw [intsOf_map]
  simp [hl]
theorem srtS_congr {a b : List Int} (h : ∀ k, k ∈ a ↔ k ∈ b) : srtS a = srtS b := up_uniq (srtS_up a) (srtS_up b) fun k => by rw [srtS_mem, srtS_mem, h]
theorem srtS_nil {ns : List Int} : srtS ns = [] ↔ ns = [] := by
  constructor
  · intro h
    apply List.eq_nil_iff_forall_not_mem.mpr
    intro k hk
    have := (srtS_mem k ns).mpr hk
    rw [h] at this; cases this
  · rintro rfl; rfl
theorem up_len : ∀ {l : List Int} {lo hi : Int}, l.Pairwise (· < ·) → (∀ x ∈ l, lo ≤ x ∧ x < hi) → (l.length : Int) ≤ max 0 (hi - lo)
  | [], lo, hi, _, _ => by simp; omega
  | x :: r, lo, hi, h, b => by
    have hp := List.pairwise_cons.mp h
    have hx := b x (by simp)
    have := up_len (l := r) (lo := x + 1) (hi := hi) hp.2 fun y hy => ⟨by have := hp.1 y hy; omega, (b y (by simp [hy])).2⟩
    simp only [List.length_cons]
    push_cast
    omega
end Fx
set_option Elab.async false
set_option linter.all false
set_option maxRecDepth 100000
set_option maxHeartbeats 4000000
/-! min and max of two: tuples of ints -/
namespace PySem
section
variable {prog : Program} {w : World} {A : Around} {E : Value → Shared → Prop} {s : Shared}
theorem call_min_twoH {a b : Value} {Q : Value → Shared → Prop}
    (h : wpAny (model prog w) A.in1 (pyIter (.ref s.heap.objs.size)) (fun it s₂ => ∃ I fp wr G n P St H bt, it = .ref I ∧ WalksS prog w A.in1 I fp wr G n P St ∧ St 0 s₂ ∧ (∀ b ∈ fp, b < s₂.heap.objs.size) ∧ 0 < n ∧
      (∀ b o, H.get? b = some o → b ∉ wr) ∧ (∀ b o, H.get? b = some o → s₂.heap.get? b = some o) ∧ CmpIn prog w A.in1 .Lt H P bt ∧ ∀ v s', P (argBest bt (n - 1)) v → Moved wr G s₂ s' → Q v s') E
      { s with heap := s.heap.push { cls := .type "tuple", data := .seq #[a, b] } }) :
    wpAny (model prog w) A (call (.builtin "min") [a, b]) Q E s := by
  have hname : (toString "min" ++ toString ".loop" : String) = "min.loop" := by decide
  refine call_function_tree F.kind_min F.plain_min F.entry_min (F.args_min2 _ _) ?_
  show wpAny _ A.in1 (Builtin.Builtins.bindParams "min" ["key", "default"] 0 ⟨[], []⟩ >>= _) _ _ s
  refine wpAny_bind (wpAny_of_eq (show Builtin.Builtins.bindParams "min" ["key", "default"] 0 ⟨[], []⟩ = pure [none, none] from rfl) ?_)
  show wpAny _ A.in1 (newTuple [a, b] >>= _) _ _ s
  refine wpAny_bind (wpAny_newObj_type ?_)
  refine wpAny_bind (wpAny_mono h (fun it s₂ h₂ => ?_) fun _ _ e => e)
  obtain ⟨I, fp, wr, G, n, P, St, H, bt, rfl, W, hst, hfp, hn, hw, hkeep, hcmp, hQ⟩ := h₂
  refine wpAny_bind (wpAny_newObj_type ?_)
  have hSf : s₂.heap.objs.size ∉ fp := fun hm => Nat.lt_irrefl _ (hfp _ hm)
  rw [hname]
  refine wpAny_pure ⟨plainId_quiet F.plain_min_loop _, codeAny_min_loop_firstH W H hw bt hcmp s₂.heap.objs.size hSf (fresh_in hkeep) _ hn (fun b o e => Heap.get?_push_of_some _ (hkeep b o e)) (W.frame 0 s₂ _ s₂.toks hst (Nat.le_refl _) fun b _ o e => Heap.get?_push_of_some _ e) (Heap.get?_push_size _ rfl) fun v s' hP hm => ?_⟩
  exact hQ v s' hP (Moved.drop_new (tk := s₂.toks) hm (Nat.le_refl _))
theorem call_max_twoH {a b : Value} {Q : Value → Shared → Prop}
    (h : wpAny (model prog w) A.in1 (pyIter (.ref s.heap.objs.size)) (fun it s₂ => ∃ I fp wr G n P St H bt, it = .ref I ∧ WalksS prog w A.in1 I fp wr G n P St ∧ St 0 s₂ ∧ (∀ b ∈ fp, b < s₂.heap.objs.size) ∧ 0 < n ∧
      (∀ b o, H.get? b = some o → b ∉ wr) ∧ (∀ b o, H.get? b = some o → s₂.heap.get? b = some o) ∧ CmpIn prog w A.in1 .Gt H P bt ∧ ∀ v s', P (argBest bt (n - 1)) v → Moved wr G s₂ s' → Q v s') E
      { s with heap := s.heap.push { cls := .type "tuple", data := .seq #[a, b] } }) :
    wpAny (model prog w) A (call (.builtin "max") [a, b]) Q E s := by
  have hname : (toString "max" ++ toString ".loop" : String) = "max.loop" := by decide
  refine call_function_tree F.kind_max F.plain_max F.entry_max (F.args_max2 _ _) ?_
  show wpAny _ A.in1 (Builtin.Builtins.bindParams "max" ["key", "default"] 0 ⟨[], []⟩ >>= _) _ _ s
  refine wpAny_bind (wpAny_of_eq (show Builtin.Builtins.bindParams "max" ["key", "default"] 0 ⟨[], []⟩ = pure [none, none] from rfl) ?_)
  show wpAny _ A.in1 (newTuple [a, b] >>= _) _ _ s
  refine wpAny_bind (wpAny_newObj_type ?_)
  refine wpAny_bind (wpAny_mono h (fun it s₂ h₂ => ?_) fun _ _ e => e)
  obtain ⟨I, fp, wr, G, n, P, St, H, bt, rfl, W, hst, hfp, hn, hw, hkeep, hcmp, hQ⟩ := h₂
  refine wpAny_bind (wpAny_newObj_type ?_)
  have hSf : s₂.heap.objs.size ∉ fp := fun hm => Nat.lt_irrefl _ (hfp _ hm)
  rw [hname]
  refine wpAny_pure ⟨plainId_quiet F.plain_max_loop _, codeAny_max_loop_firstH W H hw bt hcmp s₂.heap.objs.size hSf (fresh_in hkeep) _ hn (fun b o e => Heap.get?_push_of_some _ (hkeep b o e)) (W.frame 0 s₂ _ s₂.toks hst (Nat.le_refl _) fun b _ o e => Heap.get?_push_of_some _ e) (Heap.get?_push_size _ rfl) fun v s' hP hm => ?_⟩
  exact hQ v s' hP (Moved.drop_new (tk := s₂.toks) hm (Nat.le_refl _))
open PySem.W PySem.SeqAt PyProof.Rows in
theorem min_two_data {a b : Value} {d e : PyData} {as : List Addr} {Q : Value → Shared → Prop} (hh : A.handled = none) (hr : ReadsAll s.heap [a, b] [d, e] as) (ha : AlikeAll [d, e]) (hu : A.units + 1 + PyData.depthAll [d, e] < cLine)
    (h : ∀ h' tk, (∀ c o, s.heap.get? c = some o → h'.get? c = some o) → Q (if dataLt e d then b else a) { s with heap := h', toks := tk }) :
    wpAny (model prog w) A (call (.builtin "min") [a, b]) Q E s := by
  have hT : (s.heap.push { cls := .type "tuple", data := .seq #[a, b] }).IsTuple s.heap.objs.size #[a, b] := ⟨_, Heap.get?_push_size _ rfl, rfl, 0, rfl⟩
  have hk0 : ∀ c o, s.heap.get? c = some o → (s.heap.push { cls := .type "tuple", data := .seq #[a, b] }).get? c = some o := fun c o e => Heap.get?_push_of_some _ e
  refine call_min_twoH (iter_tupleW (A := A.in1) hh hT fun s₂ e0 W st hfp hw hk => ?_)
  refine ⟨_, _, _, _, _, _, _, s.heap.push { cls := .type "tuple", data := .seq #[a, b] }, _, rfl, W, st, hfp, by simp, hw, hk, cmpIn_lt (s := { s with heap := s.heap.push { cls := .type "tuple", data := .seq #[a, b] } }) (A := A.in1) (xs := [d, e]) (ReadsAll.keeps hk0 hr) ha (by show A.units + 1 + _ < _; exact hu), fun v s' hP m => ?_⟩
  obtain ⟨h', tk, rfl, hk'⟩ := moved_old e0 rfl m
  have hv : v = if dataLt e d then b else a := by
    have hP' : (#[a, b] : Array Value)[argBest (fun i j => dataLt ([d, e].getD i .none) ([d, e].getD j .none)) 1]? = some v := hP
    have hb : argBest (fun i j => dataLt ([d, e].getD i .none) ([d, e].getD j .none)) 1 = if dataLt e d then 1 else 0 := rfl
    rw [hb] at hP'
    by_cases q : dataLt e d = true
    · rw [if_pos q] at hP' ⊢; simpa using hP'.symm
    · rw [if_neg q] at hP' ⊢; simpa using hP'.symm
  rw [hv]
  exact h h' tk fun c o e => hk' c o (hk0 c o e)
open PySem.W PySem.SeqAt PyProof.Rows in
theorem max_two_data {a b : Value} {d e : PyData} {as : List Addr} {Q : Value → Shared → Prop} (hh : A.handled = none) (hr : ReadsAll s.heap [a, b] [d, e] as) (ha : AlikeAll [d, e]) (hu : A.units + 1 + PyData.depthAll [d, e] < cLine)
    (h : ∀ h' tk, (∀ c o, s.heap.get? c = some o → h'.get? c = some o) → Q (if dataLt d e then b else a) { s with heap := h', toks := tk }) :
    wpAny (model prog w) A (call (.builtin "max") [a, b]) Q E s := by
  have hT : (s.heap.push { cls := .type "tuple", data := .seq #[a, b] }).IsTuple s.heap.objs.size #[a, b] := ⟨_, Heap.get?_push_size _ rfl, rfl, 0, rfl⟩
  have hk0 : ∀ c o, s.heap.get? c = some o → (s.heap.push { cls := .type "tuple", data := .seq #[a, b] }).get? c = some o := fun c o e => Heap.get?_push_of_some _ e
  refine call_max_twoH (iter_tupleW (A := A.in1) hh hT fun s₂ e0 W st hfp hw hk => ?_)
  refine ⟨_, _, _, _, _, _, _, s.heap.push { cls := .type "tuple", data := .seq #[a, b] }, _, rfl, W, st, hfp, by simp, hw, hk, cmpIn_gt (s := { s with heap := s.heap.push { cls := .type "tuple", data := .seq #[a, b] } }) (A := A.in1) (xs := [d, e]) (ReadsAll.keeps hk0 hr) ha (by show A.units + 1 + _ < _; exact hu), fun v s' hP m => ?_⟩
  obtain ⟨h', tk, rfl, hk'⟩ := moved_old e0 rfl m
  have hv : v = if dataLt d e then b else a := by
    have hP' : (#[a, b] : Array Value)[argBest (fun i j => dataLt ([d, e].getD j .none) ([d, e].getD i .none)) 1]? = some v := hP
    have hb : argBest (fun i j => dataLt ([d, e].getD j .none) ([d, e].getD i .none)) 1 = if dataLt d e then 1 else 0 := rfl
    rw [hb] at hP'
    by_cases q : dataLt d e = true
    · rw [if_pos q] at hP' ⊢; simpa using hP'.symm
    · rw [if_neg q] at hP' ⊢; simpa using hP'.symm
  rw [hv]
  exact h h' tk fun c o e => hk' c o (hk0 c o e)
end
end PySem
namespace Fx
open PySem L2
theorem lexLt_dec : ∀ ns ms : List Int, HT.lexLt ns ms = decide (ns < ms)
  | [], [] => by simp [HT.lexLt]
  | [], y :: ms => by simp [HT.lexLt]
  | x :: ns, [] => by simp [HT.lexLt]
  | x :: ns, y :: ms => by
    rw [HT.lexLt_cons, lexLt_dec ns ms]
    by_cases h : x = y
    · subst h; simp [List.cons_lt_cons_iff]
    · simp [h, List.cons_lt_cons_iff]
theorem dataLt_t (ns ms : List Int) : PySem.W.dataLt (.tuple (ns.map .int)) (.tuple (ms.map .int)) = HT.lexLt ns ms := by
  rw [lexLt_dec, ← PySem.W.dataLt_ints ns ms, PySem.W.dataLt_tuple]; rfl
theorem alike_t (ns ms : List Int) : PySem.W.AlikeAll [.tuple (ns.map .int), .tuple (ms.map .int)] := by
  constructor
  · intro x hx y hy
    simp at hx hy
    rcases hx with rfl | rfl <;> rcases hy with rfl | rfl <;> (show PySem.W.alikeAll _ _ = true; exact PySem.W.alike_ints _ _)
  · intro x hx
    simp at hx
    rcases hx with rfl | rfl <;> (intro e; cases e)
theorem depth_ints : ∀ ns : List Int, PyData.depthAll (ns.map .int) = 0
  | [] => rfl
  | x :: r => by simp [PyData.depthAll, PyData.depth, depth_ints r]
noncomputable section
section
variable {K : Fg}
def rMinT (K : Fg) : List V → Hp → VK → Prop := fun xs H Q => rMinA K xs H Q ∨ ∃ a b ns ms, xs = [.ref a, .ref b] ∧ SqT K H a (ns.map V.int) ∧ SqT K H b (ms.map V.int) ∧ Q (if HT.lexLt ms ns then .ref b else .ref a) H
def rMaxT (K : Fg) : List V → Hp → VK → Prop := fun xs H Q => rMaxA K xs H Q ∨ ∃ a b ns ms, xs = [.ref a, .ref b] ∧ SqT K H a (ns.map V.int) ∧ SqT K H b (ms.map V.int) ∧ Q (if HT.lexLt ns ms then .ref b else .ref a) H
theorem dp_ints {H : Hp} : ∀ ns : List Int, DpAll K H (ns.map V.int) (ns.map PyData.int)
  | [] => .nil
  | x :: r => .cons (.int x) (dp_ints r)
theorem reads_tt {X : Cx} {pins : List (Addr × Obj)} {σ : St} {H : Hp} {s : Shared} (I : Inv X pins σ H s) {a b : Addr} {ns ms : List Int} (h1 : SqT X.K H a (ns.map V.int)) (h2 : SqT X.K H b (ms.map V.int)) : ∃ as, ReadsAll s.heap [.ref a, .ref b] [.tuple (ns.map .int), .tuple (ms.map .int)] as :=
  Dp.readsAll I [.tuple (ns.map .int), .tuple (ms.map .int)] [.ref a, .ref b] [.ref a, .ref b] (.cons (.tup h1 (dp_ints _)) (.cons (.tup h2 (dp_ints _)) .nil)) (.cons rfl (.cons rfl .nil))
theorem call_minT {X : Cx} {k : Nat} (hr : Room k X.A) (hc : X.calm = true) : CallR X (.builtin "min") (rMinT X.K) := CallR.or (call_minA hc) (by
  intro pins s σ H xs us Q I r h
  obtain ⟨a, b, ns, ms, rfl, h1, h2, q⟩ := h
  obtain ⟨u, w', rfl, ru, rw'⟩ := vals2 r
  obtain rfl : u = Value.ref a := ru
  obtain rfl : w' = Value.ref b := rw'
  obtain ⟨as, hr1⟩ := reads_tt I h1 h2
  refine min_two_data (I.ok.hd hc) hr1 (alike_t ns ms) (by simp [PyData.depthAll, PyData.depth, depth_ints]; have := hr.un; omega) fun h' tk kp => ⟨_, H, I.kept kp, ?_, q⟩
  rw [dataLt_t]
  split <;> rfl)
theorem call_maxT {X : Cx} {k : Nat} (hr : Room k X.A) (hc : X.calm = true) : CallR X (.builtin "max") (rMaxT X.K) := CallR.or (call_maxA hc) (by
  intro pins s σ H xs us Q I r h
  obtain ⟨a, b, ns, ms, rfl, h1, h2, q⟩ := h
  obtain ⟨u, w', rfl, ru, rw'⟩ := vals2 r
  obtain rfl : u = Value.ref a := ru
  obtain rfl : w' = Value.ref b := rw'
  obtain ⟨as, hr1⟩ := reads_tt I h1 h2
  refine max_two_data (I.ok.hd hc) hr1 (alike_t ns ms) (by simp [PyData.depthAll, PyData.depth, depth_ints]; have := hr.un; omega) fun h' tk kp => ⟨_, H, I.kept kp, ?_, q⟩
  rw [dataLt_t]
  split <;> rfl)
def fMinT : List D → Option C
  | [.tup x, .tup y] => (intsOf x).bind fun ns => (intsOf y).bind fun ms => some (.sh (if HT.lexLt ms ns then .tup y else .tup x))
  | ds => fMin ds
def fMaxT : List D → Option C
  | [.tup x, .tup y] => (intsOf x).bind fun ns => (intsOf y).bind fun ms => some (.sh (if HT.lexLt ns ms then .tup y else .tup x))
  | ds => fMax ds
theorem s_minT : OpS K (rMinT K) fMinT := fun G H vs ds c Q s rv e k => by
  unfold fMinT at e
  split at e
  · rename_i x y
    cases q1 : intsOf x with
    | none => simp [q1] at e
    | some ns =>
      cases q2 : intsOf y with
      | none => simp [q1, q2] at e
      | some ms =>
        simp [q1, q2] at e
        subst e
        cases rv with
        | cons r1 rv =>
          cases rv with
          | cons r2 rv =>
            cases rv
            obtain ⟨a, xs, rfl, h1, p1⟩ := r1.tup
            obtain ⟨b, ys, rfl, h2, p2⟩ := r2.tup
            have e1 := intsOf_inv q1
            have e2 := intsOf_inv q2
            subst e1
            subst e2
            have r1' : Rep K G (.ref a) (.tup (ns.map D.int)) := .tup h1 p1
            have r2' : Rep K G (.ref b) (.tup (ms.map D.int)) := .tup h2 p2
            rw [p1.ints_inv] at h1
            rw [p2.ints_inv] at h2
            refine .inr ⟨a, b, ns, ms, rfl, SqT.of (s _ _ h1), SqT.of (s _ _ h2), ?_⟩
            by_cases q : HT.lexLt ms ns = true
            · rw [if_pos q]; rw [if_pos q] at k; exact k.sh s r2'
            · rw [if_neg q]; rw [if_neg q] at k; exact k.sh s r1'
  · exact .inl (s_min G H vs _ c Q s rv e k)
theorem s_maxT : OpS K (rMaxT K) fMaxT := fun G H vs ds c Q s rv e k => by
  unfold fMaxT at e
  split at e
  · rename_i x y
    cases q1 : intsOf x with
    | none => simp [q1] at e
    | some ns =>
      cases q2 : intsOf y with
      | none => simp [q1, q2] at e
      | some ms =>
        simp [q1, q2] at e
        subst e
        cases rv with
        | cons r1 rv =>
          cases rv with
          | cons r2 rv =>
            cases rv
            obtain ⟨a, xs, rfl, h1, p1⟩ := r1.tup
            obtain ⟨b, ys, rfl, h2, p2⟩ := r2.tup
            have e1 := intsOf_inv q1
            have e2 := intsOf_inv q2
            subst e1
            subst e2
            have r1' : Rep K G (.ref a) (.tup (ns.map D.int)) := .tup h1 p1
            have r2' : Rep K G (.ref b) (.tup (ms.map D.int)) := .tup h2 p2
            rw [p1.ints_inv] at h1
            rw [p2.ints_inv] at h2
            refine .inr ⟨a, b, ns, ms, rfl, SqT.of (s _ _ h1), SqT.of (s _ _ h2), ?_⟩
            by_cases q : HT.lexLt ns ms = true
            · rw [if_pos q]; rw [if_pos q] at k; exact k.sh s r2'
            · rw [if_neg q]; rw [if_neg q] at k; exact k.sh s r1'
  · exact .inl (s_max G H vs _ c Q s rv e k)
end
@[simp] theorem fMinT_t {ns ms : List Int} : fMinT [.tup (ns.map D.int), .tup (ms.map D.int)] = some (.sh (if HT.lexLt ms ns then .tup (ms.map D.int) else .tup (ns.map D.int))) := by simp [fMinT]
@[simp] theorem fMaxT_t {ns ms : List Int} : fMaxT [.tup (ns.map D.int), .tup (ms.map D.int)] = some (.sh (if HT.lexLt ns ms then .tup (ms.map D.int) else .tup (ns.map D.int))) := by simp [fMaxT]
@[simp] theorem fMinT_i {i j : Int} : fMinT [.int i, .int j] = some (.sh (.int (mn2 i j))) := rfl
@[simp] theorem fMaxT_i {i j : Int} : fMaxT [.int i, .int j] = some (.sh (.int (mx2 i j))) := rfl
end
end Fx
set_option Elab.async false
set_option linter.all false
set_option maxRecDepth 100000
set_option maxHeartbeats 4000000
noncomputable section
namespace Fx
open PySem L2
/-! a def that may raise, called where it does not -/
theorem calm_fn {P : Program} {w : World} {K : PySem.W.Frag} {mg : Str → Option Value} {base : Heap} {k : Nat} {f : Addr} {fd : FuncData} {ps : List Str} {sp : Sp} (F : FnOk P w K mg base (L2.CX P w) k f fd ps sp) :
    FnOk P w K mg base CX0 k f fd ps (fun vs H Q _ => sp vs H Q L2.E0) :=
  ⟨fun vs H Q _ h => F.len vs H Q L2.E0 h, fun A outer s H args us vs Q E hr he hb hv hs => by
    have := F.run A outer s H args us vs Q L2.E0 hr he hb hv hs
    refine codeAny_mono this ?_
    intro r s' h
    cases r with
    | ok r => cases r <;> first | exact h | exact h.elim
    | error e =>
      obtain ⟨a, B, H', cls, d, _, _, _, _, _, _, _, h⟩ := h
      exact h.elim⟩
end Fx
set_option Elab.async false
set_option linter.all false
set_option maxRecDepth 100000
set_option maxHeartbeats 4000000
noncomputable section
namespace Fx
open PySem L2
open PySem.W (EachIs AllAlike Sortable)
/-! sorted(l) of a list of nested data that can be compared place by place -/
def leP (x y : V × PyData) : Bool := PySem.W.dataLe false (fun z : V × PyData => z.2) x y
def rSortDat (K : Fg) : List V → Hp → VK → Prop := fun vs H Q => ∃ (a : Addr) (zs : List (V × PyData)), vs = [V.ref a] ∧ SqL K H a (zs.map (·.1)) ∧ (∀ z ∈ zs, Dp K H z.1 z.2) ∧ AllAlike (zs.map (·.2)) ∧ Sortable (zs.map (·.2)) ∧ (∀ z ∈ zs, z.2.depth ≤ 20) ∧
  ∀ p, H p = none → Q (.ref p) (upd H p (.lst ((zs.mergeSort leP).map (·.1))))
theorem each_vals : ∀ {zs : List (V × PyData)} {us : List Value}, Vals (zs.map (·.1)) us → EachIs (fun v z => RelV z.1 v) us zs
  | [], _, h => by cases h; exact .nil
  | z :: r, _, h => by
    cases h with
    | cons h1 h2 => exact .cons h1 (each_vals h2)
theorem vals_each : ∀ {zs : List (V × PyData)} {us : List Value}, EachIs (fun v z => RelV z.1 v) us zs → Vals (zs.map (·.1)) us
  | _, _, .nil => .nil
  | _, _, .cons h1 h2 => .cons h1 (vals_each h2)
theorem cr_sortDat {X : Cx} {k : Nat} (hr : Room k X.A) : CallR X (.builtin "sorted") (rSortDat X.K) := by
  intro pins s σ H vs us Q I r h
  obtain ⟨a, zs, rfl, hs, hd, hal, hk, hdp, q⟩ := h
  obtain ⟨its, rv, hl, hz⟩ := I.list hs
  rw [Vals.ref1 r]
  have e := each_vals rv
  have er : ∀ {zs : List (V × PyData)} {us : List Value}, EachIs (fun v z => RelV z.1 v) us zs → (∀ z ∈ zs, Dp X.K H z.1 z.2) → EachIs (fun v (z : V × PyData) => ∃ as, Reads s.heap v z.2 as) us zs := by
    intro zs us e
    induction e with
    | nil => intro _; exact .nil
    | cons h1 h2 ih => intro hd; exact .cons (Dp.reads I _ _ _ (hd _ (List.mem_cons_self ..)) h1) (ih fun z m => hd z (List.mem_cons_of_mem _ m))
  refine PySem.W.sorted_data (R := fun v (z : V × PyData) => RelV z.1 v) (enc := fun z : V × PyData => z.2) hl.isList e (er e hd) hal hk (by simpa using hz) (fun b hb => ?_) fun out hlen hout => ?_
  · have := hdp b hb
    have := hr.un
    omega
  obtain ⟨ep, he'⟩ := PyProof.Rows.sortedAll_at s.heap its out.toArray
  have hlen2 : ((zs.mergeSort leP).map (·.1)).length ≤ sizeLine := by
    rw [List.length_map, List.length_mergeSort]; simpa using hz
  exact ⟨.ref _, upd H (s.heap.objs.size + 1) (.lst ((zs.mergeSort leP).map (·.1))), I.laid (t' := s.toks) (fun _ _ => PyProof.Rows.sortedAll_old) (Nat.le_succ _) ⟨hlen2, out, ep, vals_each hout, he'⟩, rfl, q _ (I.hok.fresh (Nat.le_succ _))⟩
def leD (x y : D) : Bool := PySem.W.dataLe false D.py x y
def isTup1 : D → Bool
  | .tup (_ :: _) => true | _ => false
/-- alike: the same kinds place by place; tuples with an item at least -/
def sortable (xs : List D) : Bool := D.okqs xs && (xs.all isTup1 && (xs.all fun x => xs.all fun y => PySem.W.alike x.py y.py)) && decide (D.deps xs ≤ 19)
def fSortN : List D → Option C
  | [.lst xs] => if sortable xs then some (.ol (xs.mergeSort leD)) else none
  | _ => none
theorem deps_mem {ds : List D} {d : D} (h : d ∈ ds) : d.dep ≤ D.deps ds := by
  induction ds with
  | nil => cases h
  | cons x r ih =>
    simp only [D.deps]
    rcases List.mem_cons.mp h with rfl | h
    · omega
    · have := ih h; omega
theorem okqs_mem {ds : List D} {d : D} (h : d ∈ ds) (q : D.okqs ds = true) : d.okq = true := by
  induction ds with
  | nil => cases h
  | cons x r ih =>
    simp only [D.okqs, Bool.and_eq_true] at q
    rcases List.mem_cons.mp h with rfl | h
    · exact q.1
    · exact ih h q.2
theorem reps_pairs {K : Fg} {G : Hp} : ∀ {vs : List V} {ds : List D}, Reps K G vs ds → ∃ t : List (V × D), t.map (·.1) = vs ∧ t.map (·.2) = ds ∧ ∀ p ∈ t, Rep K G p.1 p.2
  | _, _, .nil => ⟨[], rfl, rfl, fun p h => by cases h⟩
  | v :: _, d :: _, .cons h r => by
    obtain ⟨t, h1, h2, h3⟩ := reps_pairs r
    refine ⟨(v, d) :: t, by simp [h1], by simp [h2], fun p m => ?_⟩
    rcases List.mem_cons.mp m with rfl | m
    · exact h
    · exact h3 p m
theorem pairs_reps {K : Fg} {G : Hp} : ∀ {t : List (V × D)}, (∀ p ∈ t, Rep K G p.1 p.2) → Reps K G (t.map (·.1)) (t.map (·.2))
  | [], _ => .nil
  | p :: t, h => .cons (h p (List.mem_cons_self ..)) (pairs_reps fun q m => h q (List.mem_cons_of_mem _ m))
theorem s_sortN {K : Fg} : OpS K (rSortDat K) fSortN := fun G H vs ds c Q s rv e k => by
  unfold fSortN at e
  split at e
  · rename_i xs
    split at e
    · rename_i hq
      cases e
      cases rv with
      | cons r1 rv =>
        cases rv
        obtain ⟨a, us, rfl, h1, p1⟩ := r1.lst s
        obtain ⟨t, rfl, rfl, h3⟩ := reps_pairs p1
        simp only [sortable, Bool.and_eq_true, decide_eq_true_eq, List.all_eq_true] at hq
        obtain ⟨⟨q1, q2, q3⟩, q4⟩ := hq
        have ok : ∀ p ∈ t, p.2.okq = true := fun p hp => okqs_mem (List.mem_map.mpr ⟨p, hp, rfl⟩) q1
        have e1 : (t.map fun p => (p.1, p.2.py)).map (·.1) = t.map (·.1) := by simp
        refine ⟨a, t.map fun p => (p.1, p.2.py), rfl, by rw [e1]; exact SqL.of h1, fun z hz => ?_, fun d hd d' hd' => ?_, .inl fun d hd => ?_, fun z hz => ?_, fun p hp => ?_⟩
        · obtain ⟨p, hp, rfl⟩ := List.mem_map.mp hz
          exact ((RepV.sh (h3 p hp)).all s).dp (ok p hp)
        · simp only [List.map_map, List.mem_map] at hd hd'
          obtain ⟨p, hp, rfl⟩ := hd
          obtain ⟨p', hp', rfl⟩ := hd'
          exact q3 p.2 (List.mem_map.mpr ⟨p, hp, rfl⟩) p'.2 (List.mem_map.mpr ⟨p', hp', rfl⟩)
        · simp only [List.map_map, List.mem_map] at hd
          obtain ⟨p, hp, rfl⟩ := hd
          have := q2 p.2 (List.mem_map.mpr ⟨p, hp, rfl⟩)
          show ∃ x r, p.2.py = .tuple (x :: r)
          obtain ⟨v, d⟩ := p
          match d, this with
          | .tup (x :: r), _ => exact ⟨x.py, D.pys r, rfl⟩
        · obtain ⟨p, hp, rfl⟩ := List.mem_map.mp hz
          have h1 := deps_mem (ds := t.map (·.2)) (List.mem_map.mpr ⟨p, hp, rfl⟩)
          have h2 := D.py_dep p.2
          show p.2.py.depth ≤ 20
          omega
        · have f1 : ((t.map fun p : V × D => (p.1, p.2.py)).mergeSort leP) = (t.mergeSort fun x y => leD x.2 y.2).map fun p => (p.1, p.2.py) :=
            (List.map_mergeSort (r := fun x y : V × D => leD x.2 y.2) (s := leP) (f := fun p : V × D => (p.1, p.2.py)) (fun a _ b _ => rfl)).symm
          have f2 : (t.map (·.2)).mergeSort leD = (t.mergeSort fun x y => leD x.2 y.2).map (·.2) := (List.map_mergeSort (r := fun x y : V × D => leD x.2 y.2) (s := leD) (f := fun p : V × D => p.2) (fun a _ b _ => rfl)).symm
          rw [f1]
          rw [f2] at k
          have f3 : ((t.mergeSort fun x y => leD x.2 y.2).map fun p : V × D => (p.1, p.2.py)).map (·.1) = (t.mergeSort fun x y => leD x.2 y.2).map (·.1) := by simp
          rw [f3]
          exact k.ol s (pairs_reps fun p hp => h3 p ((List.mergeSort_perm _ _).mem_iff.mp hp)) hp
    · cases e
  · cases e
end Fx
set_option Elab.async false
set_option linter.all false
set_option maxRecDepth 100000
set_option maxHeartbeats 4000000
noncomputable section
namespace Fx
open PySem PySem.Spec PyProof.Rows
open L2
/-! {**a, **b} of two dicts with int and text keys -/
section
variable {prog : Program} {w : World} {K : Type} [DecidableEq K] {knd : KeyKind prog w K} {A : Around} {E : Value → Shared → Prop} {s : Shared}
theorem wpAny_dictPut_pairs {d : Addr} {kvs : List (K × Value)} {k : K} {key v : Value} {Q : Unit → Shared → Prop} (hkey : knd.is k key = true) (hm : s.heap.DictOf knd d kvs)
    (hQ : ∀ h', h'.DictOf knd d (stored kvs k v) → Heap.SameBut d s.heap h' → Q () { s with heap := h' })
    (hsz : kvs.length ≤ sizeLine) :
    wpAny (model prog w) A (dictPut d (knd.hash k) key v) Q E s := by
  obtain ⟨o, es, ep, ho, hc, hd, hk, hp, hn⟩ := hm
  have hes : es.size ≤ sizeLine := by
    have e1 := hp.length
    have e2 : es.toList.length = es.size := by simp
    omega
  unfold dictPut
  refine wpAny_bind (wpAny_dictFind_of hkey ho hd hk ?_)
  have hidx : (es.findIdx? fun e => knd.is k e.key) = kvs.findIdx? fun kv => decide (kv.1 = k) := by
    rw [← hp.findIdx k]; obtain ⟨l⟩ := es; simp
  cases hi : es.findIdx? fun e => knd.is k e.key with
  | some i =>
    refine wpAny_updateDict ho hd (hQ _ ⟨_, _, ep, Heap.get?_update_self _ ho (Obj.isFreed_of_dict (Obj.data_mapDict hd _)),
      hc.mapDict _, Obj.data_mapDict hd _, hk.modify _ _, ?_, ?_⟩ (Heap.SameBut.update ..))
    · rw [stored, if_pos (any_of_findIdx_some (hidx ▸ hi))]
      have hl : (es.toList.findIdx? fun e => knd.is k e.key) = some i := by rw [← hi]; obtain ⟨l⟩ := es; simp
      have := hp.modify hn hl v
      obtain ⟨l⟩ := es
      simpa using this
    · rw [stored, if_pos (any_of_findIdx_some (hidx ▸ hi)), keys_map_store]; exact hn
  | none =>
    have hnot : k ∉ kvs.map (·.1) := not_mem_of_findIdx_none (hidx ▸ hi)
    have hany : ¬ (kvs.any fun kv => decide (kv.1 = k)) = true := by
      rw [List.any_eq_true]; rintro ⟨kv, hkv, he⟩
      exact hnot (List.mem_map.mpr ⟨kv, hkv, of_decide_eq_true he⟩)
    refine wpAny_updateDictKeys (hz := hes) ho hd (hQ _ ⟨_, _, ep + 1, Heap.get?_update_self _ ho (Obj.isFreed_of_dict (Obj.data_mapDictKeys hd _)),
      hc.mapDictKeys _, Obj.data_mapDictKeys hd _, hk.push hkey _, ?_, ?_⟩ (Heap.SameBut.update ..))
    · rw [stored, if_neg hany]
      have := hp.append hkey (knd.hash k) v
      obtain ⟨l⟩ := es
      simpa using this
    · rw [stored, if_neg hany, List.map_append, List.nodup_append]
      refine ⟨hn, by simp, ?_⟩
      intro a ha b hb
      simp only [List.map_cons, List.map_nil, List.mem_singleton] at hb
      subst hb
      exact fun e => hnot (e ▸ ha)

theorem forIn_skip {α : Type} {f : α → PUnit → Sem (ForInStep PUnit)} {Q : PUnit → Shared → Prop} : ∀ (l : List α), (∀ a ∈ l, f a ⟨⟩ = pure (.yield ⟨⟩)) → Q ⟨⟩ s → wpAny (model prog w) A (forIn l PUnit.unit f) Q E s
  | [], _, h => wpAny_pure h
  | a :: l, hf, h => by
    rw [List.forIn_cons, hf a List.mem_cons_self]
    exact wpAny_bind (wpAny_pure (forIn_skip l (fun b m => hf b (List.mem_cons_of_mem _ m)) h))

theorem wpAny_mergeMapping {d o : Addr} {kvs more : List (K × Value)} {Q : Unit → Shared → Prop} (hdo : d ≠ o) (hoS : (o == sysModules) = false) (hnr : ∀ k (v : Value) a, knd.is k v = true → v ≠ .ref a)
    (hd : s.heap.DictOf knd d kvs) (ho : s.heap.DictOf knd o more)
    (hQ : ∀ h', h'.DictOf knd d (merged kvs more) → h'.DictOf knd o more → Heap.SameBut d s.heap h' → Q () { s with heap := h' })
    (hsz : kvs.length + more.length ≤ sizeLine) :
    wpAny (model prog w) A (mergeMapping d (.ref o) false) Q E s := by
  obtain ⟨od, esd, epd, hod, hcd, hdd, hkd, hpd, hnd⟩ := id hd
  obtain ⟨oo, eso, epo, hoo, hco, hdo', hko, hpo, hno⟩ := id ho
  have hlen : more.length = eso.size := by rw [← hpo.length]; simp
  unfold mergeMapping
  refine wpAny_bind (wpAny_isInstance ho.typeIs isSubtype_dict_dict ?_)
  simp only [if_true]
  refine wpAny_bind (wpAny_specialOf ho.typeIs F.slot_dict_iter.lookup ?_)
  refine wpAny_bind (wpAny_pure ?_)
  simp only [beq_self_eq_true]
  rw [if_neg (by rw [hoS]; exact Bool.false_ne_true)]
  refine wpAny_bind (wpAny_dictEntries hod hdd ?_)
  have loop : wpAny (model prog w) A (do
      let l ← dictEntries o
      let epoch ← dictEpoch o
      forIn (List.range l.size) PUnit.unit fun i (_ : PUnit) => (do
          let l' ← dictEntries o
          match l'[i]? with
            | some e => do
              holding [e.key, e.val] (dictPut d e.hash e.key e.val)
              let ep' ← dictEpoch o
              if (ep' != epoch) = true then do
                  (unsupported "dict.changed-during-merge" : Sem PUnit)
                  pure (ForInStep.yield PUnit.unit)
                else pure (ForInStep.yield PUnit.unit)
            | _ => do
              (unsupported "dict.changed-during-merge" : Sem PUnit)
              pure (ForInStep.yield PUnit.unit) : Sem (ForInStep PUnit))
      pure ()) Q E s := by
    refine wpAny_bind (wpAny_dictEntries hoo hdo' ?_)
    refine wpAny_bind (wpAny_dictEpoch hoo hdo' ?_)
    refine wpAny_bind ?_
    rw [List.range_eq_range']
    refine wpAny_forIn_list _
      (fun rest _ s' => ∃ h' i, s' = { s with heap := h' } ∧ rest = List.range' i (eso.size - i) ∧ i ≤ eso.size ∧ h'.DictOf knd d (merged kvs (more.take i)) ∧ h'.get? o = some oo ∧ Heap.SameBut d s.heap h')
      _ ?_ ?_ _ _ ⟨s.heap, 0, rfl, by simp, Nat.zero_le _, by simpa [merged] using hd, hoo, Heap.SameBut.refl _ _⟩
    · rintro x rest b s' ⟨h', i, rfl, hr, hi, hd', hoo', hs'⟩
      have hlt : i < eso.size := by
        rcases Nat.lt_or_ge i eso.size with h | h
        · exact h
        · rw [Nat.sub_eq_zero_of_le h] at hr; simp at hr
      obtain ⟨rfl, hrest⟩ : x = i ∧ rest = List.range' (i + 1) (eso.size - (i + 1)) := by
        have e : eso.size - i = (eso.size - (i + 1)) + 1 := by omega
        rw [e, List.range'_succ] at hr
        injection hr with h1 h2
        exact ⟨h1, h2⟩
      refine wpAny_bind (wpAny_dictEntries hoo' hdo' ?_)
      rw [Array.getElem?_eq_getElem hlt]
      obtain ⟨kv, hkv⟩ : ∃ kv, more[x]? = some kv := ⟨more[x]'(by rw [hlen]; exact hlt), List.getElem?_eq_getElem _⟩
      obtain ⟨k, v⟩ := kv
      obtain ⟨hkey, hval⟩ := hpo.get? (e := eso[x]) (by simp [hlt]) hkv
      obtain ⟨k', hkey', hhash⟩ := hko eso[x] (Array.getElem_mem hlt)
      obtain rfl : k' = k := knd.inj _ _ _ hkey' hkey
      show wpAny _ _ (holding [eso[x].key, eso[x].val] (dictPut d eso[x].hash eso[x].key eso[x].val) >>= _) _ _ _
      rw [hhash, hval]
      have hmx : (merged kvs (more.take x)).length ≤ sizeLine := by
        have e1 := merged_length_le kvs (more.take x)
        have e2 : (more.take x).length ≤ more.length := by rw [List.length_take]; omega
        omega
      refine wpAny_bind (wpAny_holding (wpAny_dictPut_pairs (hsz := hmx) hkey hd' fun h'' hd'' hs'' => ?_))
      have hoo'' : h''.get? o = some oo := (hs''.2 o (Ne.symm hdo)).trans hoo'
      refine wpAny_bind (wpAny_dictEpoch hoo'' hdo' ?_)
      rw [if_neg (by simp)]
      exact wpAny_pure ⟨h'', x + 1, rfl, hrest, hlt, by rw [merged_take_succ kvs more x (k', v) hkv]; exact hd'', hoo'', hs'.trans hs''⟩
    · rintro b s' ⟨h', i, rfl, hr, hi, hd', hoo', hs'⟩
      have hin : i = eso.size := by
        rcases Nat.lt_or_ge i eso.size with h | h
        · have e : eso.size - i = (eso.size - (i + 1)) + 1 := by omega
          rw [e, List.range'_succ] at hr; exact nomatch hr
        · exact Nat.le_antisymm hi h
      refine wpAny_pure (hQ h' ?_ ⟨oo, eso, epo, hoo', hco, hdo', hko, hpo, hno⟩ hs')
      rw [hin, ← hlen, List.take_length] at hd'; exact hd'
  split
  · refine wpAny_bind (wpAny_dictEntries hoo hdo' ?_)
    refine wpAny_bind ?_
    rw [← Array.forIn_toList]
    refine forIn_skip eso.toList (fun e he => ?_) ?_
    · obtain ⟨k', hkey', _⟩ := hko e (by simpa using he)
      split
      · rename_i a q; exact absurd q (hnr k' _ a hkey')
      · rfl
    · exact loop
  · exact loop
end
end Fx
namespace Fx
open PySem PySem.Spec PyProof.Rows
open L2
theorem wpAny_merge_shield {prog : Program} {w : World} {A : Around} {E : Value → Shared → Prop} {s : Shared} {m : Sem Unit} {k1 k2 k3 : Value → Sem Unit} {l : List Value} {Q : Unit → Shared → Prop}
    (h : wpAny (model prog w) A m Q (fun _ _ => False) s) : wpAny (model prog w) A ((((holding l m).onRaise k1).tryCatch k2).onRaise k3) Q E s :=
  wpAny_onRaise (wpAny_tryCatch (wpAny_onRaise (wpAny_holding (wpAny_mono h (fun _ _ q => q) fun _ _ z => z.elim))))
theorem wpAny_Dict_two {prog : Program} {w : World} {A : Around} {E : Value → Shared → Prop} {s : Shared} {env : PySem.Env} {e1 e2 : Expr} {pos : Pos} {Q : Value → Shared → Prop}
    (h : wpAny (model prog w) A (eval e1 env) (fun u s1 => wpAny (model prog w) A (mergeMapping s.heap.objs.size u false) (fun _ s2 => wpAny (model prog w) A (eval e2 env) (fun u2 s3 => wpAny (model prog w) A (mergeMapping s.heap.objs.size u2 false) (fun _ s4 => Q (.ref s.heap.objs.size) s4) (fun _ _ => False) s3) E s2) (fun _ _ => False) s1) E
      { s with heap := s.heap.push { cls := .type "dict", data := .dict #[] } }) :
    wpAny (model prog w) A (eval (.Dict [none, none] [e1, e2] pos) env) Q E s := by
  rw [arm_eval_Dict]
  refine wpAny_bind (wpAny_standAt ?_)
  show wpAny _ _ (dictDisplay [(none, do let x ← eval e1 env; standAt pos; pure x), (none, do let x ← eval e2 env; standAt pos; pure x)]) _ _ _
  unfold dictDisplay
  simp only [List.forIn_cons, List.forIn_nil, List.isEmpty_nil, if_true, pure_bind, bind_assoc]
  refine wpAny_bind (wpAny_alloc ?_)
  refine wpAny_bind (wpAny_holding (wpAny_bind (wpAny_mono h (fun u s1 h1 => ?_) fun _ _ z => z)))
  refine wpAny_bind (wpAny_standAt (wpAny_pure ?_))
  refine wpAny_bind (wpAny_merge_shield (wpAny_mono h1 (fun _ s2 h2 => ?_) fun _ _ z => z))
  refine wpAny_bind (wpAny_holding (wpAny_bind (wpAny_mono h2 (fun u2 s3 h3 => ?_) fun _ _ z => z)))
  refine wpAny_bind (wpAny_standAt (wpAny_pure ?_))
  refine wpAny_bind (wpAny_merge_shield (wpAny_mono h3 (fun _ s4 h4 => ?_) fun _ _ z => z))
  exact wpAny_pure h4
end Fx
namespace Fx
open PySem L2
def tDU (ta tb : TE) : TE := fun σ H Q => ∀ p, H p = none → ta σ (upd H p (.dK [])) fun x H1 => ∃ a kvs, x = .ref a ∧ a ≠ p ∧ H1 a = some (.dK kvs) ∧ H1 p = some (.dK []) ∧ kvs.length ≤ sizeLine ∧
  tb σ (upd H1 p (.dK (mergeK [] kvs))) fun y H2 => ∃ b kv2, y = .ref b ∧ b ≠ p ∧ H2 b = some (.dK kv2) ∧ H2 p = some (.dK (mergeK [] kvs)) ∧ (mergeK [] kvs).length + kv2.length ≤ sizeLine ∧
    Q (.ref p) (upd H2 p (.dK (mergeK (mergeK [] kvs) kv2)))
theorem key_noref {P : Program} {w : World} : ∀ (k : Key) (v : Value) (a : Addr), (mixKind P w).is k v = true → v ≠ .ref a := fun k v a h e => by
  rcases keyIs_shape h with ⟨i, t, _, rfl⟩ | ⟨x, t, _, rfl⟩ <;> cases e
theorem merge_run {X : Cx} {pins : List (Addr × Obj)} {σ : St} {H : Hp} {s : Shared} {p a : Addr} {kvs more : List (Key × V)} {A : Around} {E : Value → Shared → Prop} {Q : Unit → Shared → Prop} (I : Inv X pins σ H s) (hp : H p = some (.dK kvs)) (ha : H a = some (.dK more)) (hne : a ≠ p) (hl : kvs.length + more.length ≤ sizeLine)
    (h : ∀ s', Inv X pins σ (upd H p (.dK (mergeK kvs more))) s' → Q () s') : wpAny (model X.prog X.w) A (mergeMapping p (.ref a) false) Q E s := by
  obtain ⟨z, hd, vs, rel, dd⟩ := dk_of I.hok hp
  obtain ⟨z2, hd2, vs2, rel2, dd2⟩ := dk_of I.hok ha
  refine wpAny_mergeMapping (knd := mixKind X.prog X.w) (Ne.symm hne) hd2 key_noref dd dd2 (fun h' dd' _ hs => h _ ?_) (by rw [← rel.length, ← rel2.length]; exact hl)
  have mu : Mut (H p) := by rw [hp]; exact True.intro
  exact d_write (t' := s.toks) I mu hs (let ⟨q, _, _, hq, _⟩ := dd'; ⟨q, hq⟩) (dk_new (Nat.le_trans (length_mergeK more kvs) hl) hd (KV.merge rel2 rel) dd')
theorem pe_du {X : Cx} {e1 e2 : Expr} {ta tb : TE} {pos : Pos} (h1 : PE X e1 ta) (h2 : PE X e2 tb) : PE X (.Dict [none, none] [e1, e2] pos) (tDU ta tb) := by
  refine ⟨fun pins s σ H Q I q => ?_⟩
  have hn := I.hok.fresh (Nat.le_refl s.heap.objs.size)
  have I1 := I.laid (a := s.heap.objs.size) (o := .dK []) (h' := s.heap.push { cls := .type "dict", data := .dict #[] }) (t' := s.toks) (fun _ _ q => Heap.get?_push_of_some _ q) (Nat.le_refl _) (dk_empty s.heap I.big)
  refine wpAny_Dict_two ?_
  refine thn (h1.run pins _ σ _ _ I1 (q _ hn)) fun u s1 ⟨x, H1, I2, rx, a, kvs, ex, ne, ha, hp, hl, q1⟩ => ?_
  subst ex
  obtain rfl : u = Value.ref a := rx
  refine merge_run I2 hp ha ne (by simpa using hl) fun s2 I3 => ?_
  refine thn (h2.run pins _ σ _ _ I3 q1) fun u2 s3 ⟨y, H2, I4, ry, b, kv2, ey, ne2, hb, hp2, hl2, q2⟩ => ?_
  subst ey
  obtain rfl : u2 = Value.ref b := ry
  exact merge_run I4 hp2 hb ne2 hl2 fun s4 I5 => ⟨.ref s.heap.objs.size, _, I5, rfl, q2⟩
def C.dkOf : C → Option (List (Key × D))
  | .sh (.dk k) => some k | .odk k => some k | _ => none
def eDU (m1 m2 : EM) : EM := fun env => (m1 env).bind fun (c1, e1) => c1.dkOf.bind fun a => if a.length ≤ lim then (m2 e1).bind fun (c2, e2) => c2.dkOf.bind fun b =>
  if (mergeD [] a).length + b.length ≤ lim then some (.odk (mergeD (mergeD [] a) b), e2) else none else none
theorem dkOf_at {K : Fg} {G H : Hp} {v : V} {c : C} {fr : List Addr} {ds : List (Key × D)} (r : RepC K G H v c fr) (e : c.dkOf = some ds) (s : Same G H) : ∃ a xs, v = .ref a ∧ H a = some (.dK xs) ∧ RepK K G xs ds ∧ (a ∈ fr ∨ ∃ o, G a = some o) := by
  cases r with
  | sh r =>
    rename_i d
    cases d with
    | dk k => cases e; cases r with | dk h r => exact ⟨_, _, rfl, s _ _ h, r, .inr ⟨_, h⟩⟩
    | _ => cases e
  | odk g h r => cases e; exact ⟨_, _, rfl, h, r, .inl (by simp)⟩
  | _ => cases e
theorem Step.wr {G H : Hp} {p : Addr} {o : HO} (g : G p = none) : Step G H (fun a => a = p) G (upd H p o) (fun a => a = p) :=
  ⟨fun _ _ e => e, fun a u e n => by rw [upd_ne n]; exact e, fun a u e => .inl e, fun a e => .inl e⟩
theorem same_wr {G H : Hp} {p : Addr} {o : HO} (s : Same G H) (g : G p = none) : Same G (upd H p o) := fun a u e => by rw [upd_ne (fun z => by rw [z, g] at e; cases e)]; exact s a u e
theorem Con.dom {K : Fg} {σ : St} {env : Env} {G H : Hp} {fp : Fp} (c : Con K σ env G H fp) {a : Addr} (u : U fp a) : ∃ o, H a = some o := by
  obtain ⟨i, hi⟩ := u
  have : ∃ x, env[i]? = some (some x) := Classical.byContradiction fun no => by
    rw [c.nil i fun x e => no ⟨x, e⟩] at hi; cases hi
  obtain ⟨x, e⟩ := this
  obtain ⟨v, _, r⟩ := c.rep i x e
  exact (r.mem a hi).2
theorem length_mergeD {K : Fg} {G : Hp} {xs ys : List (Key × V)} {as bs : List (Key × D)} (h1 : RepK K G xs as) (h2 : RepK K G ys bs) : (mergeK xs ys).length = (mergeD as bs).length := (mergeK_of h2 h1).length
theorem ok_du {X : Cx} {e1 e2 : Expr} {m1 m2 : EM} {pos : Pos} (h1 : EOk X e1 m1) (h2 : EOk X e2 m2) : EOk X (.Dict [none, none] [e1, e2] pos) (eDU m1 m2) :=
  pe_mono (pe_du h1 h2) fun σ H Q ⟨env, G, fp, con, c, env', e, k⟩ => by
    unfold eDU at e
    cases q1 : m1 env with
    | none => simp [q1] at e
    | some y1 =>
      obtain ⟨c1, v1⟩ := y1
      simp only [q1, Option.bind_some] at e
      cases q2 : c1.dkOf with
      | none => simp [q2] at e
      | some as =>
        simp only [q2, Option.bind_some] at e
        split at e
        · rename_i la
          cases q3 : m2 v1 with
          | none => simp [q3] at e
          | some y2 =>
            obtain ⟨c2, v2⟩ := y2
            simp only [q3, Option.bind_some] at e
            cases q4 : c2.dkOf with
            | none => simp [q4] at e
            | some bs =>
              simp only [q4, Option.bind_some] at e
              split at e
              · rename_i lb
                cases e
                intro p hp
                have g0 : G p = none := none_of_same con.sub hp
                have nup : ¬ U fp p := fun u => by obtain ⟨o, eo⟩ := con.dom u; rw [hp] at eo; cases eo
                have s0 : Step G H (U fp) G (upd H p (.dK [])) (fun a => U fp a ∨ a = p) := (Step.newH (o := .dK []) hp).weak (fun _ z => z.elim) fun a z => z.elim (fun z => .inr (.inl z)) fun z => by subst z; exact .inr (.inr hp)
                have con0 : Con X.K σ env G (upd H p (.dK [])) fp := con.step (Step.newH (o := .dK []) hp) (fun a _ z => z) (same_newH con.sub hp)
                refine ⟨env, G, fp, con0, c1, v1, q1, fun v G1 H1 fp1 fr con1 r1 n1 s1 => ?_⟩
                have p1 : H1 p = some (.dK []) := s1.keep p _ upd_same nup
                have gp1 : G1 p = none := by
                  cases z : G1 p with
                  | none => rfl
                  | some o =>
                    rcases s1.gr p o z with z | (z | ⟨xs, z⟩) | z
                    · rw [g0] at z; cases z
                    · rw [upd_same] at z; cases z
                    · rw [upd_same] at z; cases z
                    · exact absurd z nup
                have pf1 : ¬ (U fp1 p ∨ p ∈ fr) := fun z => by
                  rcases s1.fr p z with z | z
                  · exact nup z
                  · rw [upd_same] at z; cases z
                obtain ⟨a, xs, rfl, ha, ra, wa⟩ := dkOf_at r1 q2 con1.sub
                have nea : a ≠ p := fun z => by
                  subst z
                  rcases wa with w | ⟨o, w⟩
                  · exact pf1 (.inr w)
                  · rw [gp1] at w; cases w
                refine ⟨a, xs, rfl, nea, ha, p1, by rw [ra.length, ← lim_eq]; exact la, ?_⟩
                have con2 : Con X.K σ v1 G1 (upd H1 p (.dK (mergeK [] xs))) fp1 := con1.step (Step.wr gp1) (fun a u z => by subst z; exact pf1 (.inl u)) (same_wr con1.sub gp1)
                have s1' : Step G H (U fp) G1 H1 (fun a => U fp1 a ∨ a = p) := by
                  refine s0.trans (s1.weak (fun a u => .inl u) fun a z => ?_)
                  rcases z with z | z
                  · exact .inl (.inl z)
                  · exact .inr (.inl (.inr z))
                have s2 : Step G H (U fp) G1 (upd H1 p (.dK (mergeK [] xs))) (fun a => U fp1 a ∨ a = p) := s1'.trans ((Step.wr gp1).weak (fun a z => .inr z) fun a z => .inr (.inl z))
                refine ⟨v1, G1, fp1, con2, c2, env', q3, fun u G2 H2 fp2 fr2 con3 r2 n2 s3 => ?_⟩
                have nup1 : ¬ U fp1 p := fun z => pf1 (.inl z)
                have p2 : H2 p = some (.dK (mergeK [] xs)) := s3.keep p _ upd_same nup1
                have gp2 : G2 p = none := by
                  cases z : G2 p with
                  | none => rfl
                  | some o =>
                    rcases s3.gr p o z with z | (z | ⟨xs, z⟩) | z
                    · rw [gp1] at z; cases z
                    · rw [upd_same] at z; cases z
                    · rw [upd_same] at z; cases z
                    · exact absurd z nup1
                have pf2 : ¬ (U fp2 p ∨ p ∈ fr2) := fun z => by
                  rcases s3.fr p z with z | z
                  · exact nup1 z
                  · rw [upd_same] at z; cases z
                obtain ⟨b, ys, rfl, hb, rb, wb⟩ := dkOf_at r2 q4 con3.sub
                have neb : b ≠ p := fun z => by
                  subst z
                  rcases wb with w | ⟨o, w⟩
                  · exact pf2 (.inr w)
                  · rw [gp2] at w; cases w
                have ra2 : RepK X.K G2 xs as := ra.mono s3.sG
                have rm : RepK X.K G2 (mergeK [] xs) (mergeD [] as) := mergeK_of ra2 .nil
                refine ⟨b, ys, rfl, neb, hb, p2, by rw [rm.length, rb.length, ← lim_eq]; exact lb, ?_⟩
                have con4 : Con X.K σ env' G2 (upd H2 p (.dK (mergeK (mergeK [] xs) ys))) fp2 := con3.step (Step.wr gp2) (fun a u z => by subst z; exact pf2 (.inl u)) (same_wr con3.sub gp2)
                refine k _ G2 _ fp2 [p] con4 (.odk gp2 upd_same (mergeK_of rb rm)) (fun a m u => by simp at m; subst m; exact pf2 (.inl u)) ?_
                have s4 : Step G H (U fp) G2 H2 (fun a => U fp2 a ∨ a = p) := by
                  refine s2.trans (s3.weak (fun a u => .inl u) fun a z => ?_)
                  rcases z with z | z
                  · exact .inl (.inl z)
                  · exact .inr (.inl (.inr z))
                have s5 := s4.trans ((Step.wr (H := H2) (o := .dK (mergeK (mergeK [] xs) ys)) gp2).weak (W := fun a => U fp2 a ∨ a = p) (W' := fun a => U fp2 a ∨ a = p) (fun a z => .inr z) fun a z => .inr (.inl z))
                exact s5.weak (fun _ z => z) fun a z => .inl (z.imp id fun z => by simpa using z)
              · cases e
        · cases e
@[simp] theorem ev_DU {m1 m2 : EM} {env : Env} : eDU m1 m2 env = (m1 env).bind fun (c1, e1) => c1.dkOf.bind fun a => if a.length ≤ lim then (m2 e1).bind fun (c2, e2) => c2.dkOf.bind fun b =>
  if (mergeD [] a).length + b.length ≤ lim then some (.odk (mergeD (mergeD [] a) b), e2) else none else none := rfl
@[simp] theorem dkOf_odk {k : List (Key × D)} : (C.odk k).dkOf = some k := rfl
@[simp] theorem dkOf_sh {k : List (Key × D)} : (C.sh (.dk k)).dkOf = some k := rfl
end Fx
set_option Elab.async false
set_option linter.all false
set_option maxRecDepth 100000
set_option maxHeartbeats 4000000
noncomputable section
namespace Fx
open PySem L2 PySem.Spec
/-- d.get(k), d a name -/
def eGet1 (i : Nat) (a : EM) : EM := fun env => match env[i]? with
  | some (some c00) => (c00.vw.bind eGet2.isDct).bind fun _ => (evA [.one a] env).bind fun (ds, e) => match ds, e[i]? with
    | [y], some (some c0) => c0.vw.bind fun d => (getK d y).bind fun o => some (.sh (o.getD .non), e)
    | _, _ => none
  | _ => none
section
variable {X : Cx}
theorem ok_get1 {o e : Expr} {apos cpos : Pos} {i k : Nat} {a : EM} (hr : Room k X.A) (ho : PE X o (tVar i)) (he : EOk X e a) (m : M1 X o "get" apos e cpos) : EOk X (.Call (.Attribute o "get" apos) [e] [] cpos) (eGet1 i a) :=
  pe_mono (pe_dget1 (hu_of hr) ho he m) fun σ H Q ⟨env, G, fp, con, c, env', e1, k⟩ => by
    unfold eGet1 at e1
    split at e1
    · rename_i c00 q0
      obtain ⟨v0, hv0, rc0⟩ := con.rep i _ q0
      cases qv : c00.vw.bind eGet2.isDct with
      | none => simp [qv] at e1
      | some u =>
        simp only [qv, Option.bind_some] at e1
        cases qw : c00.vw with
        | none => simp [qw] at qv
        | some d00 =>
          simp only [qw, Option.bind_some] at qv
          obtain ⟨ad, ea, hd⟩ := isD_of con.sub (rc0.vw qw) qv
          cases q : evA [.one a] env with
          | none => simp [q] at e1
          | some y =>
            obtain ⟨ds, e2⟩ := y
            simp only [q, Option.bind_some] at e1
            split at e1
            · rename_i y c0 q1
              cases q3 : c0.vw with
              | none => simp [q3] at e1
              | some d =>
                simp only [q3, Option.bind_some] at e1
                cases q4 : getK d y with
                | none => simp [q4] at e1
                | some ov =>
                  simp [q4] at e1
                  obtain ⟨rfl, rfl⟩ := e1
                  subst ea
                  refine ⟨_, hv0, ad, rfl, hd, ?_⟩
                  have w := args_run (Q := fun vs H3 => ∃ yv, vs = [yv] ∧ ∃ o, DGet H3 ad yv o ∧ Q (o.getD .non) H3) [.one a] con q fun vs G1 H1 fp1 con1 r s => by
                    cases r with
                    | cons r1 r =>
                      cases r
                      obtain ⟨v0', hv0', rc⟩ := con1.rep i _ q1
                      rw [hv0] at hv0'; cases hv0'
                      obtain ⟨a', ea', _, ov', g, h⟩ := getK_of con1.sub (rc.vw q3) (.sh r1) q4
                      cases ea'
                      refine ⟨_, rfl, ov', g, ?_⟩
                      rcases h with ⟨v, d', h1, h2, h3⟩ | ⟨h1, h2⟩
                      · subst h1 h2; exact k.sh con1 s h3
                      · subst h1 h2; exact k.sh con1 s .non
                  refine vk_mono_opd (.val a) (fun yv H1 h1 => ?_) w
                  obtain ⟨yv', e', h⟩ := h1
                  cases e'
                  exact h
            · cases e1
    · cases e1
end
@[simp] theorem ev_Get1 {env : Env} {i : Nat} {a : EM} : eGet1 i a env = (getC env i).bind fun c00 => (c00.vw.bind eGet2.isDct).bind fun _ => (evA [.one a] env).bind fun (ds, e) => match ds with
  | [y] => (getC e i).bind fun c0 => c0.vw.bind fun d => (getK d y).bind fun o => some (.sh (o.getD .non), e)
  | _ => none := by
  refine Eq.trans (m_getC (f := fun c00 => (c00.vw.bind eGet2.isDct).bind fun _ => (evA [.one a] env).bind fun (ds, e) => match ds, e[i]? with
    | [y], some (some c0) => c0.vw.bind fun d => (getK d y).bind fun o => some (C.sh (o.getD .non), e)
    | _, _ => none)) ?_
  congr 1
  funext c00
  congr 1
  funext _
  congr 1
  funext ⟨ds, e⟩
  rcases ds with _ | ⟨y, _ | ⟨z, r⟩⟩
  · rfl
  · show (match [y], e[i]? with | [y], some (some c0) => c0.vw.bind fun d => (getK d y).bind fun o => some (C.sh (o.getD .non), e) | _, _ => none) = (getC e i).bind fun c0 => c0.vw.bind fun d => (getK d y).bind fun o => some (C.sh (o.getD .non), e)
    cases h : e[i]? with
    | none => unfold getC; rw [h]; rfl
    | some x => cases x with
      | none => unfold getC; rw [h]; rfl
      | some c => rw [getC_some.mpr h]; rfl
  · rfl
/-! d[k] of a dict -/
def fDix : List D → Option C
  | [d, y] => (getK d y).bind fun o => o.bind fun x => some (.sh x)
  | _ => none
theorem s_dix {K : Fg} : OpS K (op2r (fun x y H Q => ∃ a v, x = .ref a ∧ DGet H a y (some v) ∧ Q v H)) fDix := fun G H vs ds c Q s rv e k => by
  unfold fDix at e
  split at e
  · rename_i d y
    cases q : getK d y with
    | none => simp [q] at e
    | some o =>
      cases o with
      | none => simp [q] at e
      | some x =>
        simp [q] at e
        subst e
        cases rv with
        | cons r1 rv =>
          cases rv with
          | cons r2 rv =>
            cases rv
            obtain ⟨a, ea, _, ov, g, h⟩ := getK_of s r1 r2 q
            rcases h with ⟨v, d', h1, h2, h3⟩ | ⟨h1, h2⟩
            · subst h1
              cases h2
              exact ⟨_, _, rfl, a, v, ea, g, k.sh s h3⟩
            · cases h2
  · cases e
theorem ok_dix {X : Cx} {a b : Expr} {oa ob : Opd} {k : Nat} {pos : Pos} (hr : Room k X.A) (ha : OOk X a oa) (hb : OOk X b ob) (hs : NoSl b := by intro _ _; rfl) : EOk X (.Subscript a b pos) (eO fDix [oa, ob]) :=
  pe_mono (pe_dget (hu_of hr) ha hb hs) fun σ H Q q => by
    refine vk_mono_opd oa (fun x H1 h1 => vk_mono_opd ob (fun y H2 h2 => ?_) h1) (tOs2 (tO_tOs (eO_run s_dix q)))
    obtain ⟨x', y', e, h⟩ := h2
    cases e
    exact h
@[simp] theorem fDix_v {d y : D} : fDix [d, y] = (getK d y).bind fun o => o.bind fun x => some (.sh x) := rfl
/-! name = {.. for ..} -/
section
variable {X : Cx}
theorem ps_setDc {i : Nat} {y : Str} {py : Pos} {kx vx tg iter : Expr} {ifs : List Expr} {scope : Scope} {own : List (Str × Nat)} {pos spos : Pos} {wi : TI} {g : TG} {tt : TT} {tk tv : TE} (hc : X.calm = true) (hN : X.N.Nodup) (hy : X.N[i]? = some y) (hyl : X.env.scope.names.lookup y = some .local)
    (hsw : swapsWith (.DictComp kx vx [⟨tg, iter, ifs, 0⟩] scope pos) (some (.Name y py)) spos.line X.env = pure true) (hi : PI X tg iter wi) (ok : BlkOk X.N X.env.scope scope own)
    (hg : ∀ (s : Shared) (H : Hp) (C : Addr) (cl : List (Str × Addr)) (fp : List Addr), PG (X.blk s H scope (compEnvC scope cl C X.env) fp) tg g) (ht : ∀ (s : Shared) (H : Hp) (C : Addr) (cl : List (Str × Addr)) (fp : List Addr), PTs (X.blk s H scope (compEnvC scope cl C X.env) fp) ifs tt)
    (hk : ∀ (s : Shared) (H : Hp) (C : Addr) (cl : List (Str × Addr)) (fp : List Addr), PE (X.blk s H scope (compEnvC scope cl C X.env) fp) kx tk)
    (he : ∀ (s : Shared) (H : Hp) (C : Addr) (cl : List (Str × Addr)) (fp : List Addr), PE (X.blk s H scope (compEnvC scope cl C X.env) fp) vx tv) (hs : ∀ x, foldedSetIterable iter X.env x = pure x := by intro _; rfl) :
    PS X (.Assign [.Name y py] (.DictComp kx vx [⟨tg, iter, ifs, 0⟩] scope pos) spos) (tAsg (tDc wi g tt tk tv (own.map (·.2))) (gName i)) := by
  refine ⟨fun pins s σ H D I h => ?_⟩
  rw [exec_Assign_Name_used _ _ _ _ hsw]
  refine wpAny_bind (wpAny_standAt (wpAny_bind ?_))
  show wpAny _ X.A (do let _ ← comprehension (.DictComp kx vx [⟨tg, iter, ifs, 0⟩] scope pos) scope X.env (firstIterPos [⟨tg, iter, ifs, 0⟩] pos) newDict false (eval iter X.env) (some (assign (.Name y py) X.env))) _ _ s
  have h : tDc wi g tt tk tv (own.map (·.2)) σ H (fun x H1 => gName i x σ H1 D.nx) := h
  refine wpAny_bind (thn (dc_core (Qf := fun _ s' => SP X pins D .next s') hc hN I hi ok hg ht hk he hs h fun L C s' m H' I' q hn f => ?_) fun _ s' hq => wpAny_pure (wpAny_pure hq))
  show wpAny _ _ (assign (.Name y py) X.env (.ref L)) _ _ _
  refine wpAny_assign_Name (store_ok2 (v := V.ref L) I' hN hy (.inl hyl) rfl (fun s2 I2 ⟨a, sb, ha⟩ => ?_) (.inr hyl))
  obtain ⟨f0, f1, f2, f3, f4, f5⟩ := f
  have haC : C ≠ a := by
    rcases ha with z | z
    · rw [z]; exact f1
    · exact fun e => f4 y a z e.symm
  refine ⟨m, hn.sameBut sb haC, fun h3 sb3 => ?_⟩
  exact ⟨_, H', I2.turned (t' := s2.toks) (fun b o hb e => (sb3.2 b hb).trans e) f0 f1 f3 f4 f5, q⟩
theorem sw_trueD {kx vx : Expr} {gs : List Comprehension} {scope : Scope} {pos py : Pos} {y : Str} {l : Nat} {env : PySem.Env} (hk : env.scope.kind = .function) (hy : env.scope.names.lookup y = some .local) (hl : (py.line == pos.line) = true)
    (ha : (scope.names.any fun (n, k) => n == y && (k == .local || k == .cell)) = false) : swapsWith (.DictComp kx vx gs scope pos) (some (.Name y py)) l env = pure true := by
  have ky : env.kindOf y = some .local := hy
  have hb : env.blockKind = .function := by unfold Env.blockKind; rw [hk]; rfl
  unfold swapsWith
  simp only [hb, ky, ha, Expr.pos, hl]
  rfl
theorem s_setdc {p : Nat} {kx vx tg iter : Expr} {ifs : List Expr} {scope : Scope} {pos spos : Pos} {t : Tgt} {i : IM} {c : TM} {mk mv : EM} (own : List (Str × Nat)) {j : Nat} {y : Str} {py : Pos} (hp : p ≤ j) (hc : X.calm = true) (hN : X.N.Nodup) (hy : X.N[j]? = some y) (hyl : X.env.scope.names.lookup y = some .local)
    (hsw : swapsWith (.DictComp kx vx [⟨tg, iter, ifs, 0⟩] scope pos) (some (.Name y py)) spos.line X.env = pure true) (hi : IOk X tg iter i) (ok : BlkOk X.N X.env.scope scope own) (hg : Blk X scope fun Y => GOk Y tg t) (ht : Blk X scope fun Y => PTsOk Y ifs c) (hk : Blk X scope fun Y => EOk Y kx mk) (he : Blk X scope fun Y => EOk Y vx mv)
    (hn : (own.map (·.2)).Nodup := by decide) (hsub : ∀ i ∈ t.is, i ∈ own.map (·.2) := by decide) (hs : ∀ x, foldedSetIterable iter X.env x = pure x := by intro _; rfl) :
    SOk X p (.Assign [.Name y py] (.DictComp kx vx [⟨tg, iter, ifs, 0⟩] scope pos) spos) (sSet j (eDC (own.map (·.2)) t i c mk mv)) :=
  ps_mono (ps_setDc (g := gT X.K t) (tt := tT X.K c) (tk := tE X.K mk) (tv := tE X.K mv) hc hN hy hyl hsw hi ok hg ht hk he hs) fun D σ H q => dc_run hn hsub (sSet_run hp q)
end
end Fx
set_option Elab.async false
set_option linter.all false
set_option maxRecDepth 100000
set_option maxHeartbeats 4000000
noncomputable section
namespace Fx
open PySem L2
/-! dict comprehensions told turn by turn; what a merged dict holds -/
def dStep (vs : List Nat) (t : Tgt) (c : TM) (mk mv : EM) (d : D) (env : Env) : Option (Option (Key × D) × Env) :=
  (asgT t d env).bind fun e1 => (c e1).bind fun (b, e2) => if b then (mk e2).bind fun (x, e3) => (keyD x.fz).bind fun k => (mv e3).bind fun (y, e4) => if calmE e4 vs = true then some (some (k, y.fz), wipeE e4 vs) else none
    else if calmE e2 vs then some (none, wipeE e2 vs) else none
def putsD {α : Type} (kf : α → Key) (vf : α → D) (l : List α) (acc : List (Key × D)) : List (Key × D) := l.foldl (fun acc a => putD acc (kf a) (vf a)) acc
theorem putsD_len {α : Type} {kf : α → Key} {vf : α → D} : ∀ {l : List α} {acc : List (Key × D)}, (putsD kf vf l acc).length ≤ acc.length + l.length
  | [], acc => Nat.le_refl _
  | a :: l, acc => by
    have h1 := putsD_len (kf := kf) (vf := vf) (l := l) (acc := putD acc (kf a) (vf a))
    have h2 := len_put (kvs := acc) (k := kf a) (v := vf a)
    show (putsD kf vf l (putD acc (kf a) (vf a))).length ≤ _
    simp only [List.length_cons]; omega
theorem dcN_map {α : Type} {f : α → D} {kf : α → Key} {vf : α → D} {vs : List Nat} {t : Tgt} {c : TM} {mk mv : EM} {env : Env} : ∀ {l : List α} {acc : List (Key × D)}, acc.length + l.length ≤ lim → (∀ a ∈ l, dStep vs t c mk mv (f a) env = some (some (kf a, vf a), env)) →
    dcN vs t c mk mv (l.map f) acc env = some (putsD kf vf l acc, env)
  | [], acc, _, _ => rfl
  | a :: l, acc, hl, h => by
    have h1 := h a (by simp)
    unfold dStep at h1
    rw [List.map_cons]
    unfold dcN
    cases q1 : asgT t (f a) env with
    | none => simp [q1] at h1
    | some e1 =>
      simp only [q1, Option.bind_some] at h1 ⊢
      cases q2 : c e1 with
      | none => simp [q2] at h1
      | some y =>
        obtain ⟨b, e2⟩ := y
        simp only [q2, Option.bind_some] at h1 ⊢
        cases b with
        | false =>
          simp only [Bool.false_eq_true, if_false] at h1
          split at h1 <;> cases h1
        | true =>
          simp only [if_true] at h1 ⊢
          cases q3 : mk e2 with
          | none => simp [q3] at h1
          | some y =>
            obtain ⟨x, e3⟩ := y
            simp only [q3, Option.bind_some] at h1 ⊢
            cases q4 : keyD x.fz with
            | none => simp [q4] at h1
            | some k =>
              simp only [q4, Option.bind_some] at h1 ⊢
              cases q5 : mv e3 with
              | none => simp [q5] at h1
              | some y =>
                obtain ⟨v, e4⟩ := y
                simp only [q5, Option.bind_some] at h1 ⊢
                split at h1
                · rename_i hc
                  simp only [Option.some.injEq, Prod.mk.injEq] at h1
                  obtain ⟨⟨rfl, hv⟩, h3⟩ := h1
                  simp only [List.length_cons] at hl
                  rw [if_pos ⟨hc, by omega⟩, h3, hv]
                  refine dcN_map ?_ fun b m => h b (by simp [m])
                  have := len_put (kvs := acc) (k := kf a) (v := vf a)
                  omega
                · cases h1
open Classical in
theorem valD_puts {α : Type} {kf : α → Key} {v : D} (j : Key) : ∀ {l : List α} {acc : List (Key × D)}, valD (putsD kf (fun _ => v) l acc) j = if j ∈ l.map kf then some v else valD acc j
  | [], acc => by simp [putsD]
  | a :: l, acc => by
    show valD (putsD kf (fun _ => v) l (putD acc (kf a) v)) j = _
    rw [valD_puts j, valD_put]
    by_cases h : j ∈ l.map kf
    · rw [if_pos h, if_pos (by simp only [List.map_cons, List.mem_cons]; exact .inr h)]
    · rw [if_neg h]
      by_cases h2 : j = kf a
      · rw [if_pos h2, if_pos (by simp [h2])]
      · rw [if_neg h2, if_neg (by simp only [List.map_cons, List.mem_cons]; exact fun z => z.elim h2 h)]
/-- keys that are all unlike: the dict in turn -/
theorem puts_fresh {α : Type} {kf : α → Key} {vf : α → D} : ∀ {l : List α} {acc : List (Key × D)}, ((acc.map (·.1)) ++ l.map kf).Nodup → putsD kf vf l acc = acc ++ l.map fun a => (kf a, vf a)
  | [], acc, _ => by simp [putsD]
  | a :: l, acc, h => by
    show putsD kf vf l (putD acc (kf a) (vf a)) = _
    have hn : ¬ (acc.any fun kv => decide (kv.1 = kf a)) = true := by
      rw [List.any_eq_true]
      rintro ⟨x, hx, he⟩
      have := (List.nodup_append.mp h).2.2 x.1 (List.mem_map.mpr ⟨x, hx, rfl⟩) (kf a) (by simp)
      exact this (by simpa using he)
    have hp : putD acc (kf a) (vf a) = acc ++ [(kf a, vf a)] := by
      unfold putD
      rw [if_neg hn]
    rw [hp, puts_fresh (by simpa using h)]
    simp
theorem mergeD_nil {b : List (Key × D)} (h : (b.map (·.1)).Nodup) : mergeD [] b = b := by
  have := puts_fresh (kf := fun x : Key × D => x.1) (vf := fun x => x.2) (l := b) (acc := []) (by simpa using h)
  simpa [putsD, mergeD] using this
theorem valD_merge (j : Key) : ∀ {b a : List (Key × D)}, (b.map (·.1)).Nodup → valD (mergeD a b) j = (valD b j).or (valD a j)
  | [], a, _ => by simp [mergeD, valD]
  | kv :: b, a, h => by
    show valD (mergeD (putD a kv.1 kv.2) b) j = _
    have hn := List.nodup_cons.mp (show (kv.1 :: b.map (·.1)).Nodup from h)
    rw [valD_merge j hn.2, valD_put]
    by_cases q : j = kv.1
    · subst q
      have h0 : valD b kv.1 = none := by
        unfold valD
        rw [Option.map_eq_none_iff, List.find?_eq_none]
        intro x hx z
        exact hn.1 (List.mem_map.mpr ⟨x, hx, by simpa using z⟩)
      rw [h0, if_pos rfl]
      simp [valD]
    · rw [if_neg q]
      have : valD (kv :: b) j = valD b j := by
        unfold valD
        rw [List.find?_cons_of_neg (by simpa using fun z => q z.symm)]
      rw [this]
theorem mergeD_len' : ∀ (b a : List (Key × D)), (mergeD a b).length ≤ a.length + b.length
  | [], a => Nat.le_refl _
  | kv :: b, a => by
    have h1 := mergeD_len' b (putD a kv.1 kv.2)
    have h2 := len_put (kvs := a) (k := kv.1) (v := kv.2)
    show (mergeD (putD a kv.1 kv.2) b).length ≤ _
    simp only [List.length_cons]; omega
theorem valD_map {α : Type} {kf : α → Key} {vf : α → D} (inj : ∀ a b, kf a = kf b → a = b) (x : α) : ∀ {l : List α}, x ∈ l → valD (l.map fun a => (kf a, vf a)) (kf x) = some (vf x)
  | [], h => by cases h
  | a :: l, h => by
    by_cases q : kf a = kf x
    · have := inj _ _ q; subst this
      simp [valD]
    · have hx : x ∈ l := (List.mem_cons.mp h).resolve_left fun z => q (by rw [z])
      have := valD_map (vf := vf) inj x hx
      unfold valD at this ⊢
      rw [List.map_cons, List.find?_cons_of_neg (by simpa using q)]
      exact this
theorem enumD_map' {α : Type} {f : α → D} {l : List α} : enumD (l.map f) = l.zipIdx.map fun q => .tup [.int (q.2 : Nat), f q.1] := by
  apply List.ext_getElem?
  intro i
  cases h : l[i]? with
  | none =>
    have h1 := List.getElem?_eq_none_iff.mp h
    rw [List.getElem?_eq_none (by unfold enumD zipD; simp; omega), List.getElem?_eq_none (by simp; omega)]
  | some x =>
    rw [enumD_get (d := f x) (by simp [h])]
    simp [h]
@[simp] theorem k_Tru {o : Opd} {env : Env} : kTru o env = (evO [o] env).bind fun (ds, e) => match ds with
  | [d] => (fTru d).bind fun b => some (b, e)
  | _ => none := rfl
@[simp] theorem fTru_b {b : Bool} : fTru (.bl b) = some b := rfl
end Fx
set_option Elab.async false
set_option linter.all false
set_option maxRecDepth 100000
set_option maxHeartbeats 4000000
noncomputable section
namespace Fx
open PySem L2
/-! max of three ints -/
def fMax3 : List D → Option C
  | [.int x, .int y, .int z] => some (.sh (.int (max (max x y) z)))
  | _ => none
theorem nuMax2_i (x y : Int) : nuMax2 (.int x) (.int y) = some (.int (max x y)) := by
  show some (if decide (x < y) = true then V.int y else V.int x) = _
  congr 1
  by_cases h : x < y
  · rw [if_pos (by simpa using h), Int.max_eq_right (by omega)]
  · rw [if_neg (by simpa using h), Int.max_eq_left (by omega)]
theorem s_max3 {K : Fg} : OpS K (rNuC3 nuMax3) fMax3 := fun G H vs ds c Q s rv e k => by
  unfold fMax3 at e
  split at e
  · rename_i x y z
    cases e
    cases rv with
    | cons r1 rv =>
      cases rv with
      | cons r2 rv =>
        cases rv with
        | cons r3 rv =>
          cases rv
          cases r1.int; cases r2.int; cases r3.int
          refine ⟨_, _, _, .int (max (max x y) z), rfl, ?_, k.sh s (.int _)⟩
          unfold nuMax3
          rw [nuMax2_i]
          exact nuMax2_i _ _
  · cases e
@[simp] theorem fMax3_i {x y z : Int} : fMax3 [.int x, .int y, .int z] = some (.sh (.int (max (max x y) z))) := rfl
end Fx
set_option Elab.async false
set_option linter.all false
set_option maxRecDepth 100000
set_option maxHeartbeats 4000000
noncomputable section
namespace L2
open PySem PySem.Spec PyProof.Rows
/-- o.f = .. as a target -/
def gFld (K : PySem.W.Frag) (to : TE) (f : Str) : TG := fun v σ H Q => to σ H fun x H2 => ∃ a C dx fs, x = .ref a ∧ H2 a = some (.ins C dx fs) ∧ Cls K C ∧ NoAttr K C f ∧ fs.length < 1000 ∧ Q σ (upd H2 a (.ins C dx (putF f v fs)))
theorem pg_fld {X : Cx} {o : Expr} {f : Str} {pos : Pos} {to : TE} (ho : PE X o to)
    (ha : ∀ v, assign (.Attribute o f pos) X.env v = (do
      let ov ← holding [v] (eval o X.env)
      standAt pos.atName
      holding [v, ov] (setAttr ov f v)
      release [v, ov] []) := by intro _; rfl) : PG X (.Attribute o f pos) (gFld X.K to f) := by
  refine ⟨fun pins s σ H v u Q I r h => ?_⟩
  rw [ha]
  refine wpAny_bind (wpAny_holding (thn (ho.run pins s σ H _ I h) fun ov s1 ⟨x, H1, I1, r1, a, C, dx, fs, ex, ea, c, n, l, q1⟩ => ?_))
  subst ex
  obtain rfl : ov = Value.ref a := r1
  refine wpAny_bind (wpAny_standAt (wpAny_bind (wpAny_holding (setattr_ok I1 ea c n l r fun s3 I3 => ?_))))
  exact wpAny_release ⟨σ, _, I3, q1⟩
end L2
namespace Fx
open PySem L2
section
variable {X : Cx}
theorem Rep.obj_inv {K : Fg} {G : Hp} {v : V} {c : Str} {ns : List Str} {ds : List D} (r : Rep K G v (.obj c ns ds)) :
    ∃ a C dx xs, v = .ref a ∧ PySem.W.nsIn K mainGlobals c = some (some (.ref C)) ∧ G a = some (.ins C dx xs) ∧ xs.map (·.1) = ns ∧ Reps K G (xs.map (·.2)) ds := by
  cases r with
  | obj hC h h1 h2 r => subst h2; exact ⟨_, _, _, _, rfl, hC, h, h1, r⟩
theorem RepV.obj_inv {K : Fg} {G H : Hp} {v : V} {c : Str} {ns : List Str} {ds : List D} (s : Same G H) (r : RepV K G H v (.obj c ns ds)) :
    ∃ a C dx xs, v = .ref a ∧ PySem.W.nsIn K mainGlobals c = some (some (.ref C)) ∧ H a = some (.ins C dx xs) ∧ G a = some (.ins C dx xs) ∧ xs.map (·.1) = ns ∧ Reps K G (xs.map (·.2)) ds := by
  cases r with
  | sh r =>
    obtain ⟨a, C, dx, xs, e, hC, h, h1, r⟩ := r.obj_inv
    exact ⟨a, C, dx, xs, e, hC, s _ _ h, h, h1, r⟩
/-! ## o.f -/
def fldD (f : Str) : List Str → List D → Option D
  | n :: ns, d :: ds => if n = f then some d else fldD f ns ds
  | _, _ => none
theorem fld_of {K : Fg} {G : Hp} {f : Str} : ∀ {xs : List (Str × V)} {ds : List D} {d : D}, Reps K G (xs.map (·.2)) ds → fldD f (xs.map (·.1)) ds = some d → ∃ v, xs.lookup f = some v ∧ Rep K G v d
  | [], _, _, _, e => by simp [fldD] at e
  | (n, v) :: xs, ds, d, r, e => by
    cases r with
    | cons r1 r =>
      simp only [List.map_cons, fldD] at e
      by_cases h : n = f
      · rw [if_pos h] at e
        cases e
        subst h
        exact ⟨v, by simp [List.lookup], r1⟩
      · rw [if_neg h] at e
        obtain ⟨u, h1, h2⟩ := fld_of r e
        refine ⟨u, ?_, h2⟩
        have hb : (f == n) = false := by
          rw [beq_eq_false_iff_ne]
          exact fun z => h z.symm
        simp [List.lookup, hb, h1]
def fFld (c f : Str) : List D → Option C
  | [.obj k ns ds] => if k = c then (fldD f ns ds).bind fun d => some (.sh d) else none
  | _ => none
/-- what the rules ask of a class -/
structure KCl (K : Fg) (c : Str) (C : Addr) : Prop where
  at_ : PySem.W.nsIn K mainGlobals c = some (some (.ref C))
  cl : Cls K C
def rFld (K : Fg) (f : Str) : V → Hp → VK → Prop := fun x H1 Q => ∃ a C dx fs v, x = .ref a ∧ H1 a = some (.ins C dx fs) ∧ Cls K C ∧ NoAttr K C f ∧ fs.lookup f = some v ∧ Q v H1
theorem s_fld {K : Fg} {c f : Str} {C : Addr} (T : KCl K c C) (n : NoAttr K C f) : OpS K (op1r (rFld K f)) (fFld c f) := fun G H vs ds c0 Q s rv e k => by
  unfold fFld at e
  split at e
  · rename_i kc ns fs
    split at e
    · rename_i hk
      subst hk
      cases q : fldD f ns fs with
      | none => simp [q] at e
      | some d =>
        simp [q] at e
        subst e
        cases rv with
        | cons r1 rv =>
          cases rv
          obtain ⟨a, C', dx, xs, rfl, hC, h, _, h1, r⟩ := r1.obj_inv s
          have := hC.symm.trans T.at_
          cases this
          subst h1
          obtain ⟨v, h2, h3⟩ := fld_of r q
          exact ⟨_, rfl, a, C, dx, xs, v, rfl, h, T.cl, n, h2, k.sh s h3⟩
    · cases e
  · cases e
theorem ok_fld {a : Expr} {oa : Opd} {c f : Str} {C : Addr} {pos : Pos} (T : KCl X.K c C) (n : NoAttr X.K C f) (ha : OOk X a oa) (hb : attributeBase a f X.env (eval a X.env) = eval a X.env := by rfl) : EOk X (.Attribute a f pos) (eO (fFld c f) [oa]) :=
  pe_mono (pe_fld ha hb) fun σ H Q q => by
    refine vk_mono_opd oa (fun x H1 h1 => ?_) (tOs1 (tO_tOs (eO_run (s_fld T n) q)))
    obtain ⟨x', e, h⟩ := h1
    cases e
    exact h
/-! ## o.m(..) -/
def eMeth (c m : Str) (F : List D → Option C) (m0 : EM) (ms : List Arg) : EM := fun env => (m0 env).bind fun (c0, e) => match c0 with
  | .sh (.obj k ns ds) => if k = c ∧ ns.contains m = false then (evA ms e).bind fun (xs, e') => (F (.obj k ns ds :: xs)).bind fun r => some (r, e') else none
  | _ => none
theorem lookup_no {f : Str} : ∀ {xs : List (Str × V)}, (xs.map (·.1)).contains f = false → xs.lookup f = none
  | [], _ => rfl
  | (n, v) :: xs, h => by
    simp only [List.map_cons, List.contains_cons, Bool.or_eq_false_iff] at h
    simp [List.lookup, h.1, lookup_no h.2]
theorem meth_run {c m : Str} {C : Addr} {F : List D → Option Fx.C} {m0 : EM} {ms : List Arg} {σ : St} {H : Hp} {Q : VK} {E : XK} (T : KCl X.K c C) (q : tE X.K (eMeth c m F m0 ms) σ H Q) :
    tMeth C m (spP X.K F) [] E (tE X.K m0) (tA X.K ms) σ H Q := by
  obtain ⟨env, G, fp, con, r, env', e1, k⟩ := q
  unfold eMeth at e1
  cases q0 : m0 env with
  | none => simp [q0] at e1
  | some y =>
    obtain ⟨c0, e2⟩ := y
    simp only [q0, Option.bind_some] at e1
    split at e1
    · rename_i kc ns ds
      split at e1
      · rename_i hk
        obtain ⟨rfl, hno⟩ := hk
        cases q1 : evA ms e2 with
        | none => simp [q1] at e1
        | some y =>
          obtain ⟨xs, e3⟩ := y
          simp only [q1, Option.bind_some] at e1
          cases q2 : F (.obj kc ns ds :: xs) with
          | none => simp [q2] at e1
          | some r0 =>
            simp [q2] at e1
            obtain ⟨rfl, rfl⟩ := e1
            refine ⟨env, G, fp, con, _, e2, q0, fun v G1 H1 fp1 fr con1 r1 n1 s1 => ?_⟩
            cases r1 with
            | sh r1 =>
              obtain ⟨a, C', dx, fs, rfl, hC, h, h1, _⟩ := r1.obj_inv
              have := hC.symm.trans T.at_
              cases this
              refine ⟨a, dx, fs, rfl, con1.sub _ _ h, lookup_no (by rw [h1]; exact hno), e2, G1, fp1, con1, xs, e3, q1, fun vs G2 H2 fp2 con2 r2 s2 => ?_⟩
              have s1' : Step G H (U fp) G1 H1 (U fp1) := s1.weak (fun _ u => u) fun a u => .inl (.inl u)
              refine ⟨_, G2, con2.sub, (by rw [List.append_nil]; exact .cons (r1.mono s2.sG) r2), r0, q2, fun v G3 H3 fr sub rc s3 => ?_⟩
              exact k.end_ (W := fun _ => False) con2 ((s1'.trans s2).weak (fun _ u => u) fun a u => u.elim .inl fun z => z.elim) (fun a z => z.elim) s3 sub rc
      · cases e1
    · cases e1
theorem ok_meth {pl : Sem Bool} {c m : Str} {C f : Addr} {fd : FuncData} {ps : List Str} {k : Nat} {o e : Expr} {es : List Expr} {m0 : EM} {ms : List Arg} {apos pos : Pos} {F : List D → Option Fx.C} (T : KCl X.K c C) (hm : Meth X.K C m f) (hF : FnOk X.prog X.w X.K X.mg X.base CX0 k f fd ps (spP X.K F)) (hr : Room k X.A) (hb : Binds X.K fd ps [])
    (ho : EOk X o m0) (ha : PA X (e :: es) (tAr X.K ms))
    (hst : starEach (e :: es) X.env = (false, eval e X.env) :: starEach es X.env := by rfl) (hpl : (backTo pos (starEach es X.env)).any (·.1) = false := by rfl)
    (ht : eval (.Call (.Attribute o m apos) (e :: es) [] pos) X.env = (do
      let ov ← eval o X.env
      standAt apos.atName
      let (f, first) ← holding [ov] (getMethod ov m pl)
      callWith pos f first (backTo pos (starEach (e :: es) X.env)) (backToKw pos (keywordEach [] X.env))) := by rfl) : EOk X (.Call (.Attribute o m apos) (e :: es) [] pos) (eMeth c m F m0 ms) :=
  pe_mono (pe_meth ho T.cl hm hF hr hb .nil pass0 (paa ha) hst hpl ht) fun σ H Q q => meth_run T q
theorem ok_meth0 {pl : Sem Bool} {c m : Str} {C f : Addr} {fd : FuncData} {ps : List Str} {k : Nat} {o : Expr} {m0 : EM} {apos pos : Pos} {F : List D → Option Fx.C} (T : KCl X.K c C) (hm : Meth X.K C m f) (hF : FnOk X.prog X.w X.K X.mg X.base CX0 k f fd ps (spP X.K F)) (hr : Room k X.A) (hb : Binds X.K fd ps [])
    (ho : EOk X o m0)
    (ht : eval (.Call (.Attribute o m apos) [] [] pos) X.env = (do
      let ov ← eval o X.env
      standAt apos.atName
      let (f, first) ← holding [ov] (getMethod ov m pl)
      callWith pos f first (backTo pos (starEach [] X.env)) (backToKw pos (keywordEach [] X.env))) := by rfl) : EOk X (.Call (.Attribute o m apos) [] [] pos) (eMeth c m F m0 []) :=
  pe_mono (pe_meth0 ho T.cl hm hF hr hb .nil pass0 ht) fun σ H Q q => by
    obtain ⟨env, G, fp, con, c0, env', e, k⟩ := meth_run (E := fun _ _ _ => False) T q
    refine ⟨env, G, fp, con, c0, env', e, fun v G' H' fp' fr a b n s => ?_⟩
    obtain ⟨a', dx, fs, ex, ea, l, env2, G2, fp2, con2, ds, env3, e3, k3⟩ := k v G' H' fp' fr a b n s
    refine ⟨a', dx, fs, ex, ea, l, ?_⟩
    cases e3
    exact k3 [] G2 H' fp2 con2 .nil (Step.refl ..)
end
@[simp] theorem fFld_v {c f k : Str} {ns : List Str} {ds : List D} : fFld c f [.obj k ns ds] = if k = c then (fldD f ns ds).bind fun d => some (.sh d) else none := rfl
@[simp] theorem ev_Meth {c m : Str} {F : List D → Option C} {m0 : EM} {ms : List Arg} {env : Env} : eMeth c m F m0 ms env = (m0 env).bind fun (c0, e) => match c0 with
  | .sh (.obj k ns ds) => if k = c ∧ ns.contains m = false then (evA ms e).bind fun (xs, e') => (F (.obj k ns ds :: xs)).bind fun r => some (r, e') else none
  | _ => none := rfl
end Fx
set_option Elab.async false
set_option linter.all false
set_option maxRecDepth 100000
set_option maxHeartbeats 4000000
noncomputable section
namespace Fx
open PySem L2 L2.DX
theorem repT_pairs {K : Fg} {G : Hp} : ∀ {us : List (List Key × V)} {ds : List (List Key × D)}, RepT K G us ds → ∃ t : List (List Key × V × D), t.map (fun z => (z.1, z.2.1)) = us ∧ t.map (fun z => (z.1, z.2.2)) = ds ∧ ∀ z ∈ t, Rep K G z.2.1 z.2.2
  | _, _, .nil => ⟨[], rfl, rfl, fun p h => by cases h⟩
  | _, _, .cons (k := k) (v := v) (d := d) h r => by
    obtain ⟨t, h1, h2, h3⟩ := repT_pairs r
    refine ⟨(k, v, d) :: t, by simp [h1], by simp [h2], fun p m => ?_⟩
    rcases List.mem_cons.mp m with rfl | m
    · exact h
    · exact h3 p m
theorem RepV.dtR {K : Fg} {G H : Hp} {v : V} {kvs : List (List Key × D)} (s : Same G H) (r : RepV K G H v (.dt kvs)) : ∃ a us, v = .ref a ∧ H a = some (.dT us) ∧ RepT K G us kvs := by
  cases r with
  | sh r => cases r with | dt h r => exact ⟨_, _, rfl, s _ _ h, r⟩
  | dt h r => exact ⟨_, _, rfl, h, r⟩
def keyDD : Key → D
  | .inl i => .int i
  | .inr x => .str x
def kyD (k : List Key) : D := .tup (k.map keyDD)
def itD (t : List Key × D) : D := .tup [kyD t.1, t.2]
def isIntsK : List Key → Bool
  | [] => true | .inl _ :: r => isIntsK r | .inr _ :: _ => false
theorem isIntsK_of : ∀ {k : List Key}, isIntsK k = true → ∃ ns : List Int, k = ns.map Sum.inl
  | [], _ => ⟨[], rfl⟩
  | .inl i :: r, h => by
    obtain ⟨ns, e⟩ := isIntsK_of (k := r) h
    exact ⟨i :: ns, by rw [e]; rfl⟩
  | .inr _ :: _, h => by cases h
theorem pys_keys : ∀ k : List Key, D.pys (k.map keyDD) = k.map keyP
  | [] => rfl
  | .inl i :: r => by simp only [List.map_cons, D.pys, keyDD, D.py, keyP, pys_keys r]
  | .inr x :: r => by simp only [List.map_cons, D.pys, keyDD, D.py, keyP, pys_keys r]
theorem py_ky (k : List Key) : (kyD k).py = encK k := by simp only [kyD, D.py, pys_keys, encK]
theorem py_it (k : List Key) (v : V) (d : D) : (itD (k, d)).py = encT ((k, v), d.py) := by
  unfold itD encT
  simp only [D.py, D.pys, py_ky, encK]
def itOk (kvs : List (List Key × D)) : Bool := (kvs.all fun t => isIntsK t.1 && t.2.okq && decide (t.2.dep ≤ 18)) && kvs.all fun x => kvs.all fun y => PySem.W.alike (itD x).py (itD y).py
/-- sorted(d.items()) -/
def fSortIt : List D → Option C
  | [.dt kvs] => if itOk kvs then some (.ol ((kvs.map itD).mergeSort leD)) else none
  | _ => none
def rSI (K : Fg) : List V → Hp → VK → Prop := fun vs H Q => ∃ x, vs = [x] ∧ tyV K "dict" x H ∧ rItemsT x [] H fun v H2 => rSortItD K [v] H2 Q
theorem reps_rows {K : Fg} {G' H1 : Hp} : ∀ {ps : List Row} {t : List (List Key × V × D)}, ps.map (·.2.2) = t.map (fun z => ((z.1, z.2.1), z.2.2.py)) →
    (∀ z ∈ ps, G' z.1 = some (.tup [.ref z.2.1, z.2.2.1.2]) ∧ G' z.2.1 = some (.tup (z.2.2.1.1.map kV))) → (∀ z ∈ t, Rep K G' z.2.1 z.2.2) → Reps K G' (ps.map fun z => V.ref z.1) (t.map fun z => itD (z.1, z.2.2))
  | [], [], _, _, _ => .nil
  | p :: ps, z :: t, e, h, r => by
    simp only [List.map_cons, List.cons.injEq] at e
    obtain ⟨e1, e2⟩ := e
    obtain ⟨g1, g2⟩ := h p (List.mem_cons_self ..)
    refine .cons ?_ (reps_rows (H1 := H1) e2 (fun y m => h y (List.mem_cons_of_mem _ m)) fun y m => r y (List.mem_cons_of_mem _ m))
    rw [e1] at g1 g2
    have rk : ∀ k : List Key, Reps K G' (k.map kV) (k.map keyDD) := by
      intro k
      induction k with
      | nil => exact .nil
      | cons x k ih =>
        refine .cons ?_ ih
        cases x with
        | inl i => exact .int i
        | inr x => exact .str x
    exact .tup g1 (.cons (.tup g2 (rk _)) (.cons (r z (List.mem_cons_self ..)) .nil))
  | [], _ :: _, e, _, _ => by simp at e
  | _ :: _, [], e, _, _ => by simp at e
theorem s_srtIt {K : Fg} : OpS K (rSI K) fSortIt := fun G H vs ds c Q s rv e k => by
  unfold fSortIt at e
  split at e
  · rename_i kvs
    split at e
    · rename_i hq
      cases e
      cases rv with
      | cons r1 rv =>
        cases rv
        obtain ⟨a, us, rfl, ha, rt⟩ := r1.dtR s
        obtain ⟨t, rfl, rfl, ht⟩ := repT_pairs rt
        simp only [itOk, Bool.and_eq_true, List.all_eq_true, decide_eq_true_eq] at hq
        obtain ⟨q1, q2⟩ := hq
        refine ⟨_, rfl, ?_, a, _, rfl, rfl, ha, fun p hp => ?_⟩
        · exact .inr (.inr (.inl ⟨rfl, .inr ⟨_, ha⟩⟩))
        have nap : a ≠ p := ne_of_none ha hp
        have sH : Same H (upd H p (itemsO p a)) := same_new hp
        have ets : (t.map fun z => ((z.1, z.2.1), z.2.2.py)).map (·.1) = t.map fun z => (z.1, z.2.1) := by rw [List.map_map]; rfl
        refine ⟨p, a, t.map fun z => ((z.1, z.2.1), z.2.2.py), rfl, upd_same, by rw [upd_ne nap, ets]; exact ha, fun y hy => ?_, fun d hd d' hd' => ?_, fun H' l ps hx hps hl hl' hz => ?_⟩
        · obtain ⟨z, hz, rfl⟩ := List.mem_map.mp hy
          obtain ⟨⟨z1, z2⟩, z3⟩ := q1 (z.1, z.2.2) (List.mem_map.mpr ⟨z, hz, rfl⟩)
          refine ⟨isIntsK_of z1, (((ht z hz).mono (s.trans sH))).dp z2, ?_⟩
          have := D.py_dep z.2.2
          show z.2.2.py.depth ≤ 20
          have : z.2.2.dep ≤ 18 := z3
          omega
        · simp only [List.map_map, List.mem_map] at hd hd'
          obtain ⟨z, hz, rfl⟩ := hd
          obtain ⟨z', hz', rfl⟩ := hd'
          have := q2 (z.1, z.2.2) (List.mem_map.mpr ⟨z, hz, rfl⟩) (z'.1, z'.2.2) (List.mem_map.mpr ⟨z', hz', rfl⟩)
          rw [py_it z.1 z.2.1, py_it z'.1 z'.2.1] at this
          exact this
        · -- the sorted rows
          have hn : ∀ b, upd H p (itemsO p a) b = none → H b = none := fun b e => by
            by_cases q : b = p
            · subst q; exact hp
            · rw [upd_ne q] at e; exact e
          have hsort : ps.map (·.2.2) = (t.mergeSort fun x y => leD (itD (x.1, x.2.2)) (itD (y.1, y.2.2))).map fun z => ((z.1, z.2.1), z.2.2.py) := by
            rw [hps]
            refine (List.map_mergeSort fun x _ y _ => ?_).symm
            show PySem.W.dataLe false D.py (itD (x.1, x.2.2)) (itD (y.1, y.2.2)) = PySem.W.dataLe false encT ((x.1, x.2.1), x.2.2.py) ((y.1, y.2.1), y.2.2.py)
            rw [PySem.W.dataLe_eq, PySem.W.dataLe_eq]
            show (!PySem.W.dataLt (itD (y.1, y.2.2)).py (itD (x.1, x.2.2)).py) = (!PySem.W.dataLt (encT ((y.1, y.2.1), y.2.2.py)) (encT ((x.1, x.2.1), x.2.2.py)))
            rw [py_it x.1 x.2.1, py_it y.1 y.2.1]
          have hres : ((t.map fun z => (z.1, z.2.2)).map itD).mergeSort leD = (t.mergeSort fun x y => leD (itD (x.1, x.2.2)) (itD (y.1, y.2.2))).map fun z => itD (z.1, z.2.2) := by
            rw [List.map_map]
            exact (List.map_mergeSort (f := itD ∘ fun z : List Key × V × D => (z.1, z.2.2)) (s := leD) (r := fun x y => leD (itD (x.1, x.2.2)) (itD (y.1, y.2.2))) fun x _ y _ => rfl).symm
          rw [hres] at k
          generalize htt : (t.mergeSort fun x y => leD (itD (x.1, x.2.2)) (itD (y.1, y.2.2))) = tt at hsort k
          have ptt : ∀ z ∈ tt, z ∈ t := fun z m => by rw [← htt] at m; exact (List.mergeSort_perm _ _).mem_iff.mp m
          let f : List Addr := ps.map (·.1) ++ ps.map (·.2.1)
          have hf : ∀ b ∈ f, (H b = none ∨ ∃ xs, H b = some (.tup xs) ∧ H' b = some (.tup xs)) ∧ b ≠ l := fun b m => by
            rcases List.mem_append.mp m with m | m
            · obtain ⟨z, hzm, rfl⟩ := List.mem_map.mp m
              obtain ⟨a1, a2, _, _⟩ := hz z hzm
              exact ⟨.inl (hn _ a1), Ne.symm a2⟩
            · obtain ⟨z, hzm, rfl⟩ := List.mem_map.mp m
              obtain ⟨_, _, _, a4⟩ := hz z hzm
              have np : z.2.1 ≠ p := fun q => by rw [q, upd_same] at a4; cases a4
              have a5 : H z.2.1 = some (.tup (z.2.2.1.1.map kV)) := by rw [upd_ne np] at a4; exact a4
              exact ⟨.inr ⟨_, a5, hx _ _ a4⟩, fun q => by rw [q, hl] at a4; cases a4⟩
          have sGH' : Same G H' := fun b o e => hx _ _ (sH _ _ (s _ _ e))
          have sG : Same G (addF G H' f) := fun b o e => by
            unfold addF
            by_cases m : b ∈ f
            · rw [if_pos m]; exact sGH' b o e
            · rw [if_neg m]; exact e
          have inF : ∀ b ∈ f, addF G H' f b = H' b := fun b m => by unfold addF; rw [if_pos m]
          refine k (.ref l) (addF G H' f) H' [l] (addF_sub sGH') (.ol ?_ hl' (reps_rows (H1 := H) hsort (fun z m => ?_) fun z m => (ht z (ptt z m)).mono sG)) ⟨sG, fun b o e _ => hx _ _ (sH _ _ e), fun b o e => ?_, fun b m => ?_⟩
          · unfold addF
            rw [if_neg fun m => (hf l m).2 rfl]
            exact none_of_same s (hn _ hl)
          · obtain ⟨_, _, a3, a4⟩ := hz z m
            rw [inF _ (List.mem_append_left _ (List.mem_map.mpr ⟨z, m, rfl⟩)), inF _ (List.mem_append_right _ (List.mem_map.mpr ⟨z, m, rfl⟩))]
            exact ⟨a3, hx _ _ a4⟩
          · rcases addF_gr e with z | z
            · exact .inl z
            · rcases (hf b z).1 with q | ⟨xs, q, _⟩
              · exact .inr (.inl (.inl q))
              · exact .inr (.inl (.inr ⟨xs, q⟩))
          · simp at m; subst m; exact .inr (hn _ hl)
    · cases e
  · cases e
section
variable {X : Cx}
theorem ok_srtIt {a : Expr} {o : Opd} {k : Nat} {p p2 apos pos : Pos} (hc : X.calm = true) (hr : Room k X.A) (hg : Gl X "sorted") (hm : X.mg "sorted" = none) (ha : OOk X a o) (hbase : attributeBase a "items" X.env (eval a X.env) = eval a X.env := by rfl) (hline : (apos.endLine == p2.line) = true := by rfl)
    (hst : starEach [.Call (.Attribute a "items" apos) [] [] p2] X.env = (false, eval (.Call (.Attribute a "items" apos) [] [] p2) X.env) :: starEach [] X.env := by rfl) : EOk X (.Call (.Name "sorted" p) [.Call (.Attribute a "items" apos) [] [] p2] [] pos) (eO fSortIt [o]) :=
  pe_mono (pe_callB (cr_sortItD hc hr) hg hm (by decide +kernel) (pa_cons (pe_bm0 PySem.F.plainAttrs_dict PySem.F.slot_dict_items PySem.F.type_dict_items mt_itemsT ha hbase hline) pa_nil hst)) fun σ H Q q => by
    refine vk_mono_opd o (fun x H1 h1 => ?_) (tOs1 (tO_tOs (eO_run s_srtIt q)))
    obtain ⟨x', e, h, h2⟩ := h1
    cases e
    exact ⟨h, h2⟩
end
@[simp] theorem fSortIt_v {kvs : List (List Key × D)} : fSortIt [.dt kvs] = if itOk kvs then some (.ol ((kvs.map itD).mergeSort leD)) else none := rfl
/-! ## sorted(d): the keys -/
def kyOk (kvs : List (List Key × D)) : Bool := (kvs.all fun t => isIntsK t.1 && !t.1.isEmpty) && kvs.all fun x => kvs.all fun y => PySem.W.alike (kyD x.1).py (kyD y.1).py
def fSortKT : List D → Option C
  | [.dt kvs] => if kyOk kvs then some (.ol ((kvs.map fun t => kyD t.1).mergeSort leD)) else none
  | _ => none
theorem reps_keys {K : Fg} {G' : Hp} : ∀ {ps : List RowK}, (∀ z ∈ ps, G' z.1 = some (.tup (z.2.map kV))) → Reps K G' (ps.map fun z => V.ref z.1) (ps.map fun z => kyD z.2)
  | [], _ => .nil
  | p :: ps, h => by
    refine .cons (.tup (h p (List.mem_cons_self ..)) ?_) (reps_keys fun z m => h z (List.mem_cons_of_mem _ m))
    have rk : ∀ k : List Key, Reps K G' (k.map kV) (k.map keyDD) := by
      intro k
      induction k with
      | nil => exact .nil
      | cons x k ih =>
        refine .cons ?_ ih
        cases x with
        | inl i => exact .int i
        | inr x => exact .str x
    exact rk _
theorem s_sortKT {K : Fg} : OpS K rSortKT fSortKT := fun G H vs ds c Q s rv e k => by
  unfold fSortKT at e
  split at e
  · rename_i kvs
    split at e
    · rename_i hq
      cases e
      cases rv with
      | cons r1 rv =>
        cases rv
        obtain ⟨a, us, rfl, ha, rt⟩ := r1.dtR s
        obtain ⟨t, rfl, rfl, ht⟩ := repT_pairs rt
        simp only [kyOk, Bool.and_eq_true, List.all_eq_true, Bool.not_eq_true'] at hq
        obtain ⟨q1, q2⟩ := hq
        refine ⟨a, _, rfl, .of ha, fun y hy => ?_, fun d hd d' hd' => ?_, fun l ps hps hl hz => ?_⟩
        · obtain ⟨z, hz, rfl⟩ := List.mem_map.mp hy
          obtain ⟨z1, z2⟩ := q1 (z.1, z.2.2) (List.mem_map.mpr ⟨z, hz, rfl⟩)
          obtain ⟨ns, e⟩ := isIntsK_of z1
          refine ⟨ns, e, fun h0 => ?_⟩
          subst h0
          simp at z2
          exact z2 (by simpa using e)
        · simp only [List.map_map, List.mem_map] at hd hd'
          obtain ⟨z, hz, rfl⟩ := hd
          obtain ⟨z', hz', rfl⟩ := hd'
          have := q2 (z.1, z.2.2) (List.mem_map.mpr ⟨z, hz, rfl⟩) (z'.1, z'.2.2) (List.mem_map.mpr ⟨z', hz', rfl⟩)
          rw [py_ky, py_ky] at this
          exact this
        · have hres : ((t.map fun z => (z.1, z.2.2)).map fun t => kyD t.1).mergeSort leD = ps.map fun z => kyD z.2 := by
            have e1 : ps.map (fun z => kyD z.2) = (ps.map (·.2)).map kyD := by rw [List.map_map]; rfl
            rw [e1, hps, List.map_map, List.map_map]
            have e2 : (((fun t : List Key × D => kyD t.1) ∘ fun z : List Key × V × D => (z.1, z.2.2))) = kyD ∘ (fun z : List Key × V × D => z.1) := rfl
            have e3 : ((fun x : List Key × V => x.1) ∘ fun z : List Key × V × D => (z.1, z.2.1)) = fun z : List Key × V × D => z.1 := rfl
            rw [e2, e3, ← List.map_map]
            refine (List.map_mergeSort fun x _ y _ => ?_).symm
            show PySem.W.dataLe false encK x y = PySem.W.dataLe false D.py (kyD x) (kyD y)
            rw [PySem.W.dataLe_eq, PySem.W.dataLe_eq]
            show (!PySem.W.dataLt (encK y) (encK x)) = (!PySem.W.dataLt (kyD y).py (kyD x).py)
            rw [py_ky, py_ky]
          rw [hres] at k
          let f : List Addr := ps.map (·.1)
          have hf : ∀ b ∈ f, (∃ xs, H b = some (.tup xs)) ∧ b ≠ l := fun b m => by
            obtain ⟨z, hzm, rfl⟩ := List.mem_map.mp m
            have a4 := hz z hzm
            exact ⟨⟨_, a4⟩, ne_of_none a4 hl⟩
          have sGH' : Same G (upd H l (.lst (ps.map fun z => V.ref z.1))) := same_newH s hl
          have sG : Same G (addF G (upd H l (.lst (ps.map fun z => V.ref z.1))) f) := fun b o e => by
            unfold addF
            by_cases m : b ∈ f
            · rw [if_pos m]; exact sGH' b o e
            · rw [if_neg m]; exact e
          refine k (.ref l) (addF G (upd H l (.lst (ps.map fun z => V.ref z.1))) f) _ [l] (addF_sub sGH') (.ol ?_ upd_same (reps_keys fun z m => ?_)) ⟨sG, fun b o e _ => by rw [upd_ne (ne_of_none e hl)]; exact e, fun b o e => ?_, fun b m => ?_⟩
          · unfold addF
            rw [if_neg fun m => (hf l m).2 rfl]
            exact none_of_same s hl
          · have mf : z.1 ∈ f := List.mem_map.mpr ⟨z, m, rfl⟩
            unfold addF
            rw [if_pos mf, upd_ne (hf _ mf).2]
            exact hz z m
          · rcases addF_gr e with z | z
            · exact .inl z
            · obtain ⟨xs, q⟩ := (hf b z).1
              exact .inr (.inl (.inr ⟨xs, q⟩))
          · simp at m; subst m; exact .inr hl
    · cases e
  · cases e
@[simp] theorem fSortKT_v {kvs : List (List Key × D)} : fSortKT [.dt kvs] = if kyOk kvs then some (.ol ((kvs.map fun t => kyD t.1).mergeSort leD)) else none := rfl
/-! ## e.get(k), e an expression -/
def eGetO (m0 a : EM) : EM := fun env => (m0 env).bind fun (c0, e) => match c0 with
  | .sh d0 => (eGet2.isDct d0).bind fun _ => (evA [.one a] e).bind fun (ds, e2) => match ds with
    | [y] => (getK d0 y).bind fun o => some (.sh (o.getD .non), e2)
    | _ => none
  | _ => none
theorem ok_getO {X : Cx} {o e : Expr} {apos cpos : Pos} {k : Nat} {m0 a : EM} (hr : Room k X.A) (ho : EOk X o m0) (he : EOk X e a) (m : M1 X o "get" apos e cpos) : EOk X (.Call (.Attribute o "get" apos) [e] [] cpos) (eGetO m0 a) :=
  pe_mono (pe_dget1 (hu_of hr) ho he m) fun σ H Q ⟨env, G, fp, con, c, env', e1, k⟩ => by
    unfold eGetO at e1
    cases q0 : m0 env with
    | none => simp [q0] at e1
    | some y =>
      obtain ⟨c0, e0⟩ := y
      simp only [q0, Option.bind_some] at e1
      split at e1
      · rename_i d0
        cases qv : eGet2.isDct d0 with
        | none => simp [qv] at e1
        | some u =>
          simp only [qv, Option.bind_some] at e1
          cases q : evA [.one a] e0 with
          | none => simp [q] at e1
          | some y =>
            obtain ⟨ds, e2⟩ := y
            simp only [q, Option.bind_some] at e1
            split at e1
            · rename_i y
              cases q4 : getK d0 y with
              | none => simp [q4] at e1
              | some ov =>
                simp [q4] at e1
                obtain ⟨rfl, rfl⟩ := e1
                refine ⟨env, G, fp, con, _, e0, q0, fun v G1 H1 fp1 fr con1 r1 n1 s1 => ?_⟩
                cases r1 with
                | sh r1 =>
                  obtain ⟨ad, ea, hd⟩ := isD_of con1.sub (.sh r1) qv
                  refine ⟨ad, ea, hd, ?_⟩
                  have s1' : Step G H (U fp) G1 H1 (U fp1) := s1.weak (fun _ u => u) fun a u => .inl (.inl u)
                  have w := args_run (Q := fun vs H3 => ∃ yv, vs = [yv] ∧ ∃ o, DGet H3 ad yv o ∧ Q (o.getD .non) H3) [.one a] con1 q fun vs G2 H2 fp2 con2 r s => by
                    cases r with
                    | cons r2 r =>
                      cases r
                      obtain ⟨a', ea', _, ov', g, h⟩ := getK_of con2.sub (.sh (r1.mono s.sG)) (.sh r2) q4
                      rw [ea] at ea'
                      cases ea'
                      refine ⟨_, rfl, ov', g, ?_⟩
                      rcases h with ⟨v, d', h1, h2, h3⟩ | ⟨h1, h2⟩
                      · subst h1 h2; exact k.sh con2 (s1'.trans s) h3
                      · subst h1 h2; exact k.sh con2 (s1'.trans s) .non
                  refine vk_mono_opd (.val a) (fun yv H1 h1 => ?_) w
                  obtain ⟨yv', e', h⟩ := h1
                  cases e'
                  exact h
            · cases e1
      · cases e1
@[simp] theorem ev_GetO {m0 a : EM} {env : Env} : eGetO m0 a env = (m0 env).bind fun (c0, e) => match c0 with
  | .sh d0 => (eGet2.isDct d0).bind fun _ => (evA [.one a] e).bind fun (ds, e2) => match ds with
    | [y] => (getK d0 y).bind fun o => some (.sh (o.getD .non), e2)
    | _ => none
  | _ => none := rfl
end Fx
set_option Elab.async false
set_option linter.all false
set_option maxRecDepth 100000
set_option maxHeartbeats 4000000
noncomputable section
/-! The class Tape: __init__, copied, with_signs, by hand -/
namespace Fx.Tp
open PySem L2 L2.DX Fx
theorem putF_no {f : Str} {y : V} : ∀ {fs : List (Str × V)}, (fs.map (·.1)).contains f = false → putF f y fs = fs ++ [(f, y)]
  | [], _ => rfl
  | (n, v) :: fs, h => by
    simp only [List.map_cons, List.contains_cons, Bool.or_eq_false_iff] at h
    have hn : ¬ n = f := fun z => by subst z; simp at h
    show (if n = f then (n, y) :: fs else (n, v) :: putF f y fs) = _
    rw [if_neg hn, putF_no h.2]
    rfl
theorem putF_last {f : Str} {y z : V} : ∀ {fs : List (Str × V)}, (fs.map (·.1)).contains f = false → putF f y (fs ++ [(f, z)]) = fs ++ [(f, y)]
  | [], _ => by
    show (if f = f then (f, y) :: [] else (f, z) :: putF f y []) = _
    rw [if_pos rfl]
    rfl
  | (n, v) :: fs, h => by
    simp only [List.map_cons, List.contains_cons, Bool.or_eq_false_iff] at h
    have hn : ¬ n = f := fun z => by subst z; simp at h
    show (if n = f then (n, y) :: (fs ++ [(f, z)]) else (n, v) :: putF f y (fs ++ [(f, z)])) = _
    rw [if_neg hn, putF_last h.2]
    rfl
def nms : List Str := ["its_p", "its_v", "its_key", "its_seed", "its_changes"]
def flds (p v k s c : V) : List (Str × V) := [("its_p", p), ("its_v", v), ("its_key", k), ("its_seed", s), ("its_changes", c)]
def f1 (p : V) : List (Str × V) := [("its_p", p)]
def f2 (p v : V) : List (Str × V) := [("its_p", p), ("its_v", v)]
def f3 (p v k : V) : List (Str × V) := [("its_p", p), ("its_v", v), ("its_key", k)]
def f4 (p v k s : V) : List (Str × V) := [("its_p", p), ("its_v", v), ("its_key", k), ("its_seed", s)]
theorem put1 {p : V} : putF "its_p" p [] = f1 p := rfl
theorem put2 {p v : V} : putF "its_v" v (f1 p) = f2 p v := putF_no (fs := f1 p) (show (["its_p"] : List Str).contains "its_v" = false by decide +kernel)
theorem put3 {p v k : V} : putF "its_key" k (f2 p v) = f3 p v k := putF_no (fs := f2 p v) (show (["its_p", "its_v"] : List Str).contains "its_key" = false by decide +kernel)
theorem put4 {p v k s : V} : putF "its_seed" s (f3 p v k) = f4 p v k s := putF_no (fs := f3 p v k) (show (["its_p", "its_v", "its_key"] : List Str).contains "its_seed" = false by decide +kernel)
theorem put5 {p v k s c : V} : putF "its_changes" c (f4 p v k s) = flds p v k s c := putF_no (fs := f4 p v k s) (show (["its_p", "its_v", "its_key", "its_seed"] : List Str).contains "its_changes" = false by decide +kernel)
theorem put6 {p v k s c d : V} : putF "its_changes" d (flds p v k s c) = flds p v k s d := putF_last (fs := f4 p v k s) (show (["its_p", "its_v", "its_key", "its_seed"] : List Str).contains "its_changes" = false by decide +kernel)
theorem lk {p v k s c : V} {f : Str} (h : nms.contains f = false) : (flds p v k s c).lookup f = none := lookup_no h
theorem lk1 {p v k s c : V} : (flds p v k s c).lookup ("its_p" : Str) = some p := by
  have e : (("its_p" : Str) == "its_p") = true := by decide +kernel
  simp only [flds, List.lookup, e]
theorem lk2 {p v k s c : V} : (flds p v k s c).lookup ("its_v" : Str) = some v := by
  have e : (("its_v" : Str) == "its_v") = true := by decide +kernel
  have e1 : (("its_v" : Str) == "its_p") = false := by decide +kernel
  simp only [flds, List.lookup, e, e1]
theorem lk3 {p v k s c : V} : (flds p v k s c).lookup ("its_key" : Str) = some k := by
  have e : (("its_key" : Str) == "its_key") = true := by decide +kernel
  have e1 : (("its_key" : Str) == "its_p") = false := by decide +kernel
  have e2 : (("its_key" : Str) == "its_v") = false := by decide +kernel
  simp only [flds, List.lookup, e, e1, e2]
theorem lk4 {p v k s c : V} : (flds p v k s c).lookup ("its_seed" : Str) = some s := by
  have e : (("its_seed" : Str) == "its_seed") = true := by decide +kernel
  have e1 : (("its_seed" : Str) == "its_p") = false := by decide +kernel
  have e2 : (("its_seed" : Str) == "its_v") = false := by decide +kernel
  have e3 : (("its_seed" : Str) == "its_key") = false := by decide +kernel
  simp only [flds, List.lookup, e, e1, e2, e3]
theorem lk5 {p v k s c : V} : (flds p v k s c).lookup ("its_changes" : Str) = some c := by
  have e : (("its_changes" : Str) == "its_changes") = true := by decide +kernel
  have e1 : (("its_changes" : Str) == "its_p") = false := by decide +kernel
  have e2 : (("its_changes" : Str) == "its_v") = false := by decide +kernel
  have e3 : (("its_changes" : Str) == "its_key") = false := by decide +kernel
  have e4 : (("its_changes" : Str) == "its_seed") = false := by decide +kernel
  simp only [flds, List.lookup, e, e1, e2, e3, e4]
structure TpC (K : Fg) (C : Addr) : Prop where
  kc : KCl K "Tape" C
  n1 : NoAttr K C "its_p"
  n2 : NoAttr K C "its_v"
  n3 : NoAttr K C "its_key"
  n4 : NoAttr K C "its_seed"
  n5 : NoAttr K C "its_changes"
/-! ## __init__ -/
def spInit (C : Addr) : Sp := fun vs H Q _ => ∃ (x dx : Addr) (p v k s : V), vs = [.ref x, p, v, k, s] ∧ H x = some (.ins C dx []) ∧
  ∀ (H' : Hp) (l : Addr), (∀ a o, a ≠ x → H a = some o → H' a = some o) → H l = none → H' x = some (.ins C dx (flds p v k s (.ref l))) → H' l = some (.dT []) → Q .non H'
def tInit (K : Fg) : TS := tSeq (tAsg (tTup (tCons (tVar 1) (tCons (tVar 2) (tCons (tVar 3) (tCons (tVar 4) tNil))))) (gTup K 4 (gCons (gFld K (tVar 0) "its_p") (gCons (gFld K (tVar 0) "its_v") (gCons (gFld K (tVar 0) "its_key") (gCons (gFld K (tVar 0) "its_seed") gNil))))))
  (sFld K (tVar 0) tDNewT "its_changes")
theorem init_read {K : Fg} {C : Addr} (T : TpC K C) {vs : List V} {H : Hp} {Q : VK} {E : XK} (h : spInit C vs H Q E) : tInit K { nx := fun _ H' => Q .non H', rt := Q } (L2.start ["self", "p", "v", "key", "seed"] vs) H := by
  obtain ⟨x, dx, p, v, k, s, rfl, hx, q⟩ := h
  refine ⟨p, rfl, v, rfl, k, rfl, s, rfl, by rw [sizeLine_eq]; show 4 ≤ 16777216; decide, fun t ht => ?_⟩
  have xt : x ≠ t := ne_of_none hx ht
  refine ⟨t, [p, v, k, s], rfl, SqT.of upd_same, rfl, p, [v, k, s], rfl, .ref x, rfl, x, C, dx, [], rfl, (by rw [upd_ne xt]; exact hx), T.kc.cl, T.n1, by decide, ?_⟩
  rw [put1]
  refine ⟨v, [k, s], rfl, .ref x, rfl, x, C, dx, _, rfl, upd_same, T.kc.cl, T.n2, (by show 1 < 1000; decide), ?_⟩
  rw [put2]
  refine ⟨k, [s], rfl, .ref x, rfl, x, C, dx, _, rfl, upd_same, T.kc.cl, T.n3, (by show 2 < 1000; decide), ?_⟩
  rw [put3]
  refine ⟨s, [], rfl, .ref x, rfl, x, C, dx, _, rfl, upd_same, T.kc.cl, T.n4, (by show 3 < 1000; decide), ?_⟩
  rw [put4]
  refine ⟨rfl, fun l hl => ?_⟩
  have lx : l ≠ x := fun z => by subst z; rw [upd_same] at hl; cases hl
  simp only [upd_ne lx] at hl
  have lt : l ≠ t := fun z => by subst z; rw [upd_same] at hl; cases hl
  rw [upd_ne lt] at hl
  refine ⟨.ref x, rfl, x, C, dx, _, rfl, (by rw [upd_ne lx.symm]; exact upd_same), T.kc.cl, T.n5, (by show 4 < 1000; decide), ?_⟩
  rw [put5]
  refine q _ l (fun a o ax e => ?_) hl upd_same (by rw [upd_ne lx, upd_same])
  have at_ : a ≠ t := ne_of_none e ht
  have al : a ≠ l := ne_of_none e hl
  rw [upd_ne ax, upd_ne al, upd_ne ax, upd_ne ax, upd_ne ax, upd_ne ax, upd_ne at_]
  exact e
theorem init_len {C : Addr} {vs : List V} {H : Hp} {Q : VK} {E : XK} (h : spInit C vs H Q E) : vs.length = (["self", "p", "v", "key", "seed"] : List Str).length := by
  obtain ⟨x, dx, p, v, k, s, rfl, _⟩ := h; rfl
/-! ## Tape(p, v, key, seed) as an expression -/
def tpD (p v k s : D) (ch : List (List Key × D)) : D := .obj "Tape" nms [p, v, k, s, .dt ch]
theorem rep_tape {K : Fg} {C : Addr} (T : TpC K C) {G : Hp} {x dx l : Addr} {p v k s : V} {dp dv dk ds : D} {us : List (List Key × V)} {ch : List (List Key × D)} (hx : G x = some (.ins C dx (flds p v k s (.ref l)))) (hl : G l = some (.dT us))
    (rp : Rep K G p dp) (rv : Rep K G v dv) (rk : Rep K G k dk) (rs : Rep K G s ds) (rc : RepT K G us ch) : Rep K G (.ref x) (tpD dp dv dk ds ch) :=
  .obj T.kc.at_ hx rfl rfl (.cons rp (.cons rv (.cons rk (.cons rs (.cons (.dt hl rc) .nil)))))
/-- G with a tape at x, its changes at l -/
def addT (G H : Hp) (x l : Addr) : Hp := addF G H [x, l]
theorem addT_x {G H : Hp} {x l : Addr} : addT G H x l x = H x := by unfold addT addF; rw [if_pos (by simp)]
theorem addT_l {G H : Hp} {x l : Addr} : addT G H x l l = H l := by unfold addT addF; rw [if_pos (by simp)]
theorem addT_same {G H : Hp} {x l : Addr} (hx : G x = none) (hl : G l = none) : Same G (addT G H x l) := addF_same fun a m => by
  simp at m
  rcases m with rfl | rfl
  · exact hx
  · exact hl
theorem addT_sub {G H : Hp} {x l : Addr} (s : Same G H) : Same (addT G H x l) H := addF_sub s
theorem addT_step {G H G2 H' : Hp} {x l : Addr} (hx : H x = none) (hl : H l = none) (gx : G2 x = none) (gl : G2 l = none) (sG : Same G G2) (e : ∀ a o, H a = some o → H' a = some o) (g : ∀ a o, G2 a = some o → G a = some o ∨ H a = none) :
    Step G H (fun _ => False) (addT G2 H' x l) H' (fun a => a ∈ ([] : List Addr)) :=
  ⟨fun a o q => addT_same gx gl a o (sG a o q), fun a o q _ => e a o q, fun a o q => by
    rcases addF_gr q with z | z
    · rcases g a o z with w | w
      · exact .inl w
      · exact .inr (.inl (.inl w))
    · simp at z
      rcases z with rfl | rfl
      · exact .inr (.inl (.inl hx))
      · exact .inr (.inl (.inl hl)), fun a m => by cases m⟩
def eTape (ms : List Arg) : EM := fun env => (evA ms env).bind fun (ds, e) => match ds with
  | [p, v, k, s] => some (.sh (tpD p v k s []), e)
  | _ => none
theorem ok_tape {X : Cx} {C f : Addr} {fd : FuncData} {k : Nat} {x : Str} {p pos : Pos} {e : Expr} {es : List Expr} {ms : List Arg} (T : TpC X.K C) (M : Mk X.K C f) (F : FnOk X.prog X.w X.K X.mg X.base CX0 k f fd ["self", "p", "v", "key", "seed"] (spInit C)) (hr : Room (k + 1) X.A) (hg : Gl X x) (hm : X.mg x = some (.ref C)) (hb : Binds X.K fd ["self", "p", "v", "key", "seed"] [])
    (ha : PA X (e :: es) (tAr X.K ms)) (hdb : (x == ("__debug__" : Str)) = false := by decide) (he : starEach (e :: es) X.env = (false, eval e X.env) :: starEach es X.env := by rfl) (hpl : (backTo pos (starEach es X.env)).any (·.1) = false := by rfl) : EOk X (.Call (.Name x p) (e :: es) [] pos) (eTape ms) :=
  pe_mono (pe_make M F hr hg hm hb .nil pass0 (paa ha) hdb he hpl) fun σ H Q ⟨env, G, fp, con, c, env', e1, k⟩ => by
    unfold eTape at e1
    cases q : evA ms env with
    | none => rw [q] at e1; cases e1
    | some y =>
      obtain ⟨ds, e2⟩ := y
      rw [q] at e1
      simp only [Option.bind_some] at e1
      split at e1
      · rename_i dp dv dk dss
        cases e1
        refine ⟨env, G, fp, con, _, _, q, fun vs G1 H1 fp1 con1 r s1 => fun x dx nx ndx nex => ?_⟩
        cases r with
        | cons rp r => cases r with
          | cons rv r => cases r with
            | cons rk r => cases r with
              | cons rs r =>
                cases r
                refine ⟨x, dx, _, _, _, _, rfl, upd_same, fun H' l hk hl hx hl' => ⟨rfl, ?_⟩⟩
                have lx : l ≠ x := fun z => by subst z; rw [upd_same] at hl; cases hl
                rw [upd_ne lx] at hl
                have ldx : l ≠ dx := fun z => by subst z; rw [upd_same] at hl; cases hl
                rw [upd_ne ldx] at hl
                have ext : ∀ a o, H1 a = some o → H' a = some o := fun a o e => by
                  have ax : a ≠ x := ne_of_none e nx
                  exact hk a o ax (by rw [upd_ne ax, upd_ne (ne_of_none e ndx)]; exact e)
                have gx := none_of_same con1.sub nx
                have gl := none_of_same con1.sub hl
                have sG : Same G1 H' := fun a o e => ext a o (con1.sub a o e)
                refine k.end_ (W := fun _ => False) (fr := []) con1 (s1.weak (fun _ u => u) fun a u => u.elim .inl fun z => z.elim) (fun a z => z.elim) (addT_step nx hl gx gl (Same.refl _) ext fun a o e => .inl e) (addT_sub sG) (.sh ?_)
                have m := addT_same (H := H') gx gl
                exact rep_tape T (by rw [addT_x]; exact hx) (by rw [addT_l]; exact hl') (rp.mono m) (rv.mono m) (rk.mono m) (rs.mono m) .nil
      · cases e1
@[simp] theorem ev_Tape {ms : List Arg} {env : Env} : eTape ms env = (evA ms env).bind fun (ds, e) => match ds with
  | [p, v, k, s] => some (.sh (tpD p v k s []), e)
  | _ => none := rfl
end Fx.Tp
set_option Elab.async false
set_option linter.all false
set_option maxRecDepth 100000
set_option maxHeartbeats 4000000
noncomputable section
namespace Fx.Tp
open PySem L2 L2.DX Fx
/-! ## copied -/
def spCop (w : World) (C : Addr) : Sp := fun vs H Q _ => ∃ (a dx l : Addr) (p v k s key : V) (kvs : List (List Key × V)), vs = [.ref a, key] ∧ H a = some (.ins C dx (flds p v k s (.ref l))) ∧ H l = some (.dT kvs) ∧ (kvs.map fun t => hashK w t.1).Nodup ∧
  ∀ (H' : Hp) (x dx' l' : Addr), (∀ b o, H b = some o → H' b = some o) → H x = none → H l' = none → x ≠ l' → H' x = some (.ins C dx' (flds p v key s (.ref l'))) → H' l' = some (.dT kvs) → Q (.ref x) H'
def tCopied (K : Fg) (w : World) (C : Addr) (E : XK) : TS := tSeq (tAsg (tMake C (spInit C) [] E (tCons (tFld K (tVar 0) "its_p") (tCons (tFld K (tVar 0) "its_v") (tCons (tVar 1) (tCons (tFld K (tVar 0) "its_seed") tNil))))) (gName 2))
  (tSeq (sFld K (tVar 2) (tCB (rDictT w) (tCons (tFld K (tVar 0) "its_changes") tNil)) "its_changes") (tRet (tVar 2)))
theorem copied_len {w : World} {C : Addr} {vs : List V} {H : Hp} {Q : VK} {E : XK} (h : spCop w C vs H Q E) : vs.length = (["self", "key"] : List Str).length := by
  obtain ⟨a, dx, l, p, v, k, s, key, kvs, rfl, _⟩ := h; rfl
theorem copied_read {K : Fg} {w : World} {C : Addr} {E0 : XK} (T : TpC K C) {vs : List V} {H : Hp} {Q : VK} {E : XK} (h : spCop w C vs H Q E) : tCopied K w C E0 { nx := fun _ H' => Q .non H', rt := Q } (L2.start ["self", "key", "found"] vs) H := by
  obtain ⟨a, dx, l, p, v, k, s, key, kvs, rfl, ha, hl, hn, q⟩ := h
  refine ⟨.ref a, rfl, a, C, dx, _, p, rfl, ha, T.kc.cl, T.n1, lk1, .ref a, rfl, a, C, dx, _, v, rfl, ha, T.kc.cl, T.n2, lk2, key, rfl, .ref a, rfl, a, C, dx, _, s, rfl, ha, T.kc.cl, T.n4, lk4, ?_⟩
  intro x dx' nx ndx nex
  refine ⟨x, dx', p, v, key, s, rfl, upd_same, fun H1 l1 hk hl1 hx1 hl1' => ⟨rfl, ?_⟩⟩
  have lx : l1 ≠ x := fun z => by subst z; rw [upd_same] at hl1; cases hl1
  rw [upd_ne lx] at hl1
  have ldx : l1 ≠ dx' := fun z => by subst z; rw [upd_same] at hl1; cases hl1
  rw [upd_ne ldx] at hl1
  have ext : ∀ b o, H b = some o → H1 b = some o := fun b o e => by
    have bx : b ≠ x := ne_of_none e nx
    exact hk b o bx (by rw [upd_ne bx, upd_ne (ne_of_none e ndx)]; exact e)
  refine ⟨.ref a, rfl, a, C, dx, _, .ref l, rfl, ext _ _ ha, T.kc.cl, T.n5, lk5, l, kvs, rfl, .of (ext _ _ hl), hn, fun p2 hp2 => ?_⟩
  have xp : x ≠ p2 := ne_of_none hx1 hp2
  refine ⟨.ref x, rfl, x, C, dx', _, rfl, (by rw [upd_ne xp]; exact hx1), T.kc.cl, T.n5, (by show 5 < 1000; decide), ?_⟩
  rw [put6]
  refine ⟨.ref x, rfl, q _ x dx' p2 (fun b o e => ?_) nx ?_ xp upd_same (by rw [upd_ne xp.symm]; exact upd_same)⟩
  · have bx : b ≠ x := ne_of_none e nx
    rw [upd_ne bx, upd_ne (ne_of_none (ext _ _ e) hp2)]
    exact ext _ _ e
  · cases e : H p2 with
    | none => rfl
    | some o => rw [ext _ _ e] at hp2; cases hp2
/-- keys that are told apart by their hashes -/
def hashD (k : List Key) : Option Int := (k.mapM fun (x : Key) => match x with | .inl i => some (hashInt i) | .inr _ => none).map fun hs => reduceHash (Builtin.Tuple.tupleHashOf hs)
theorem hashD_of {w : World} {k : List Key} (h : isIntsK k = true) : hashD k = some (hashK w k) := by
  obtain ⟨ns, rfl⟩ := isIntsK_of h
  unfold hashD hashK
  have e : (ns.map (Sum.inl (β := Str))).mapM (fun x : Key => match x with | .inl i => some (hashInt i) | .inr _ => none) = some ((ns.map (Sum.inl (β := Str))).map (keyH w)) := by
    induction ns with
    | nil => rfl
    | cons n ns ih => 
      have h' : isIntsK (ns.map (Sum.inl (β := Str))) = true := by
        clear ih h
        induction ns with
        | nil => rfl
        | cons n ns ih => exact ih
      simp only [List.map_cons, List.mapM_cons, ih h']
      rfl
  rw [e]
  rfl
/-- may be copied by dict(..) -/
def apart (ch : List (List Key × D)) : Bool := (ch.all fun t => isIntsK t.1) && decide ((ch.map fun t => hashD t.1).Nodup)
theorem apart_of {K : Fg} {G : Hp} {w : World} {us : List (List Key × V)} {ch : List (List Key × D)} (r : RepT K G us ch) (h : apart ch = true) : (us.map fun t => hashK w t.1).Nodup := by
  simp only [apart, Bool.and_eq_true, List.all_eq_true, decide_eq_true_eq] at h
  obtain ⟨h1, h2⟩ := h
  obtain ⟨t, rfl, rfl, _⟩ := repT_pairs r
  rw [List.map_map] at h2 ⊢
  have e : t.map ((fun t : List Key × D => hashD t.1) ∘ fun z => (z.1, z.2.2)) = (t.map ((fun t : List Key × V => hashK w t.1) ∘ fun z => (z.1, z.2.1))).map some := by
    rw [List.map_map]
    refine List.map_congr_left fun z hz => ?_
    exact hashD_of (h1 (z.1, z.2.2) (List.mem_map.mpr ⟨z, hz, rfl⟩))
  rw [e] at h2
  exact (List.pairwise_map.mp h2).imp fun h z => h (congrArg some z)
/-- the tape at a -/
theorem tape_inv {K : Fg} {C : Addr} (T : TpC K C) {G : Hp} {x : V} {p v k s : D} {ch : List (List Key × D)} (r : Rep K G x (tpD p v k s ch)) : ∃ a dx l pv vv kv sv us, x = .ref a ∧ G a = some (.ins C dx (flds pv vv kv sv (.ref l))) ∧ G l = some (.dT us) ∧
    Rep K G pv p ∧ Rep K G vv v ∧ Rep K G kv k ∧ Rep K G sv s ∧ RepT K G us ch := by
  obtain ⟨a, C', dx, xs, rfl, hC, h, h1, h2⟩ := r.obj_inv
  have := hC.symm.trans T.kc.at_
  cases this
  obtain _ | ⟨⟨n1, v1⟩, xs⟩ := xs
  · cases h1
  obtain _ | ⟨⟨n2, v2⟩, xs⟩ := xs
  · simp [nms] at h1
  obtain _ | ⟨⟨n3, v3⟩, xs⟩ := xs
  · simp [nms] at h1
  obtain _ | ⟨⟨n4, v4⟩, xs⟩ := xs
  · simp [nms] at h1
  obtain _ | ⟨⟨n5, v5⟩, xs⟩ := xs
  · simp [nms] at h1
  obtain _ | ⟨y, xs⟩ := xs
  · simp only [nms, List.map_cons, List.map_nil, List.cons.injEq, and_true] at h1
    obtain ⟨rfl, rfl, rfl, rfl, rfl⟩ := h1
    cases h2 with
    | cons r1 h2 => cases h2 with
      | cons r2 h2 => cases h2 with
        | cons r3 h2 => cases h2 with
          | cons r4 h2 => cases h2 with
            | cons r5 h2 =>
              cases r5 with
              | dt hl rt => exact ⟨a, dx, _, v1, v2, v3, v4, _, rfl, h, hl, r1, r2, r3, r4, rt⟩
  · simp [nms] at h1
def F_copied : List D → Option C
  | [.obj c ns [p, v, _, s, .dt ch], key] => if c = "Tape" ∧ ns = nms ∧ apart ch = true then some (.sh (tpD p v key s ch)) else none
  | _ => none
theorem copied_spP {K : Fg} {w : World} {C : Addr} (T : TpC K C) {vs : List V} {H : Hp} {Q : VK} {E : XK} (h : spP K F_copied vs H Q E) : spCop w C vs H Q E := by
  obtain ⟨ds, G, s, r, c, e, kk⟩ := h
  unfold F_copied at e
  split at e
  · rename_i c0 ns p v k sd ch key
    split at e
    · rename_i hq
      obtain ⟨rfl, rfl, hap⟩ := hq
      cases e
      cases r with
      | cons r1 r => cases r with
        | cons r2 r =>
          cases r
          obtain ⟨a, dx, l, pv, vv, kv, sv, us, rfl, ha, hl, rp, rv, rk, rs, rt⟩ := tape_inv T r1
          refine ⟨a, dx, l, pv, vv, kv, sv, _, us, rfl, s _ _ ha, s _ _ hl, apart_of rt hap, fun H' x dx' l' ext hx hl' ne hx' hll => ?_⟩
          have gx := none_of_same s hx
          have gl := none_of_same s hl'
          have sG : Same G H' := fun b o e => ext b o (s b o e)
          have m := addT_same (H := H') gx gl
          exact kk (.ref x) (addT G H' x l') H' [] (addT_sub sG) (.sh (rep_tape T (by rw [addT_x]; exact hx') (by rw [addT_l]; exact hll) (rp.mono m) (rv.mono m) (r2.mono m) (rs.mono m) (RepT.mono m rt)))
            (addT_step hx hl' gx gl (Same.refl _) ext fun b o e => .inl e)
    · cases e
  · cases e
end Fx.Tp
set_option Elab.async false
set_option linter.all false
set_option maxRecDepth 100000
set_option maxHeartbeats 4000000
noncomputable section
namespace Fx.Tp
open PySem L2 L2.DX Fx
theorem dropT_of {K : Fg} {G : Hp} (k : List Key) : ∀ {ds : List (List Key × D)} {vs : List (List Key × V)}, RepT K G vs ds → RepT K G (dropK vs k) (dropD ds k)
  | _, _, .nil => .nil
  | _, _, .cons (k := j) (v := v) (d := d) (vs := vs) (ds := ds) h r => by
    have ih := dropT_of k r
    unfold dropK dropD at ih ⊢
    rw [List.filter_cons, List.filter_cons]
    by_cases e : j = k
    · rw [if_neg (by simp [e]), if_neg (by simp [e])]; exact ih
    · rw [if_pos (by simp [e]), if_pos (by simp [e])]; exact .cons h ih
theorem repT_len {K : Fg} {G : Hp} : ∀ {ds : List (List Key × D)} {vs : List (List Key × V)}, RepT K G vs ds → vs.length = ds.length
  | _, _, .nil => rfl
  | _, _, .cons h r => by rw [List.length_cons, List.length_cons, repT_len r]
/-! ## with_signs -/
def key2 (e g : Int) : List Key := [.inl e, .inl g]
/-- one turn of with_signs -/
def wsStep (F1 : List D → Option C) (p v k s : D) (ch : List (List Key × D)) : D → Option (List (List Key × D))
  | .tup [.int e, .int g, pads, sign] => if ch.length < lim then match F1 [tpD p v k s (putD ch (key2 e g) (.tup [pads, sign])), .int e, .int g] with
      | some (.sh d) => if d.cmpable (.tup [pads, sign]) then some (if D.eqv d (.tup [pads, sign]) then dropD (putD ch (key2 e g) (.tup [pads, sign])) (key2 e g) else putD ch (key2 e g) (.tup [pads, sign])) else none
      | _ => none
    else none
  | _ => none
def wsFold (F1 : List D → Option C) (p v k s : D) : List (List Key × D) → List D → Option (List (List Key × D))
  | ch, [] => some ch
  | ch, d :: ds => (wsStep F1 p v k s ch d).bind fun ch' => wsFold F1 p v k s ch' ds
def F_ws (F1 : List D → Option C) : List D → Option C
  | [.obj c ns [p, v, k, s, .dt ch], .tup some_] => if c = "Tape" ∧ ns = nms ∧ apart ch = true then (wsFold F1 p v k s ch some_).bind fun ch' => some (.sh (tpD p v k s ch')) else none
  | _ => none
theorem ws_len {K : Fg} {F1 : List D → Option C} {vs : List V} {H : Hp} {Q : VK} {E : XK} (h : spP K (F_ws F1) vs H Q E) : vs.length = (["self", "some"] : List Str).length := by
  obtain ⟨ds, G, s, r, c, e, _⟩ := h
  rw [r.length]
  unfold F_ws at e
  split at e
  · rfl
  · cases e
def tPair (i j : Nat) : TE := tTup (tCons (tVar i) (tCons (tVar j) tNil))
def tWsT (K : Fg) (C : Addr) (F1 : List D → Option Fx.C) (E : XK) : TS := tSeq (tAsg (tPair 5 6) (L2.gSub (tFld K (tVar 2) "its_changes") (tPair 3 4) rSetD))
  (tIfS (tTest (tOp (rEqD K) (tMeth C "first" (spP K F1) [] E (tVar 2) (tCons (tVar 3) (tCons (tVar 4) tNil))) (tPair 5 6))) (tDrop (tBM K "dict" rPopT1 (tFld K (tVar 2) "its_changes") (tCons (tPair 3 4) tNil))) tNext)
def tWs (K : Fg) (w : World) (C : Addr) (F1 : List D → Option Fx.C) (E : XK) : TS := tSeq (tAsg (tMeth C "copied" (spCop w C) [] E (tVar 0) (tCons (tFld K (tVar 0) "its_key") tNil)) (gName 2))
  (tSeq (tFor (iTup K (tVar 1)) (gTup K 4 (gCons (gName 3) (gCons (gName 4) (gCons (gName 5) (gCons (gName 6) gNil))))) (tWsT K C F1 E)) (tRet (tVar 2)))
/-- the state between two turns -/
structure WsI (K : Fg) (C : Addr) (F1 : List D → Option Fx.C) (ra rb : V) (x dx l : Addr) (pv vv kv sv : V) (p v k s : D) (G H : Hp) (chF : List (List Key × D)) (rest : List D) (σ : St) (H2 : Hp) : Prop where
  ex : ∃ (G2 : Hp) (us2 : List (List Key × V)) (ch2 : List (List Key × D)) (o3 o4 o5 o6 : Option V), σ = [some ra, some rb, some (.ref x), o3, o4, o5, o6] ∧ Same G G2 ∧ Same G2 H2 ∧ (∀ b o, H b = some o → H2 b = some o) ∧ (∀ b o, G2 b = some o → G b = some o ∨ H b = none) ∧ G2 x = none ∧ G2 l = none ∧
    H2 x = some (.ins C dx (flds pv vv kv sv (.ref l))) ∧ H2 l = some (.dT us2) ∧ RepT K G2 us2 ch2 ∧ wsFold F1 p v k s ch2 rest = some chF
theorem ws_turn {K : Fg} {C : Addr} {F1 : List D → Option Fx.C} {E : XK} (T : TpC K C) {ra rb : V} {x dx l : Addr} {pv vv kv sv : V} {p v k s : D} {G H : Hp} {chF : List (List Key × D)} {d : D} {rest : List D} {y : V} {σ : St} {H2 : Hp} {bk : St → Hp → Prop} {rt : VK}
    (sGH : Same G H) (hx0 : H x = none) (hl0 : H l = none) (rp : Rep K G pv p) (rv : Rep K G vv v) (rk : Rep K G kv k) (rs : Rep K G sv s) (ry : Rep K G y d) (I : WsI K C F1 ra rb x dx l pv vv kv sv p v k s G H chF (d :: rest) σ H2) :
    gTup K 4 (gCons (gName 3) (gCons (gName 4) (gCons (gName 5) (gCons (gName 6) gNil)))) y σ H2 fun σ2 H3 => tWsT K C F1 E { nx := WsI K C F1 ra rb x dx l pv vv kv sv p v k s G H chF rest, ct := WsI K C F1 ra rb x dx l pv vv kv sv p v k s G H chF rest, bk := bk, rt := rt } σ2 H3 := by
  obtain ⟨G2, us2, ch2, o3, o4, o5, o6, rfl, sG, s2, hH, hG, gx, gl, hx, hl, rt2, hf⟩ := I.ex
  unfold wsFold at hf
  cases hst : wsStep F1 p v k s ch2 d with
  | none => rw [hst] at hf; cases hf
  | some ch3 =>
    rw [hst] at hf
    simp only [Option.bind_some] at hf
    unfold wsStep at hst
    split at hst
    · rename_i e g pads sign
      split at hst
      · rename_i hlen
        split at hst
        · rename_i dr hF1
          split at hst
          · rename_i hcmp
            simp only [Option.some.injEq] at hst
            cases ry with
            | @tup t xs _ ht r =>
              cases r with
              | cons re r => cases r with
                | cons rg r => cases r with
                  | @cons vp _ _ _ rpd r => cases r with
                    | @cons vs _ _ _ rsg r =>
                      cases r
                      cases re
                      cases rg
                      refine ⟨t, _, rfl, SqT.of (hH _ _ (sGH _ _ ht)), rfl, .int e, _, rfl, .int g, _, rfl, vp, _, rfl, vs, _, rfl, rfl, ?_⟩
                      have xl : x ≠ l := fun z => by subst z; rw [hx] at hl; cases hl
                      refine ⟨vp, rfl, vs, rfl, (by rw [sizeLine_eq]; show 2 ≤ 16777216; decide), fun q hq => ?_⟩
                      have xq : x ≠ q := ne_of_none hx hq
                      have lq : l ≠ q := ne_of_none hl hq
                      refine ⟨.ref x, rfl, x, C, dx, _, .ref l, rfl, (by rw [upd_ne xq]; exact hx), T.kc.cl, T.n5, lk5, .int e, rfl, .int g, rfl, (by rw [sizeLine_eq]; show 2 ≤ 16777216; decide), fun r0 hr0 => ?_⟩
                      have qr : q ≠ r0 := fun z => by subst z; rw [upd_same] at hr0; cases hr0
                      have hr0' : H2 r0 = none := by rw [upd_ne qr.symm] at hr0; exact hr0
                      have xr : x ≠ r0 := ne_of_none hx hr0'
                      have lr : l ≠ r0 := ne_of_none hl hr0'
                      refine ⟨l, _, rfl, DPut.t (k := key2 e g) (kvs := us2) (by rw [upd_ne lr, upd_ne lq]; exact hl) upd_same (by rw [repT_len rt2, ← lim_eq]; exact hlen), ?_⟩
                      -- behind the store
                      have gq : G2 q = none := none_of_same s2 hq
                      have G3x : upd G2 q (.tup [vp, vs]) x = none := by rw [upd_ne xq]; exact gx
                      have G3l : upd G2 q (.tup [vp, vs]) l = none := by rw [upd_ne lq]; exact gl
                      have s3 : Same G2 (upd G2 q (.tup [vp, vs])) := same_new gq
                      have rq : Rep K (upd G2 q (.tup [vp, vs])) (.ref q) (.tup [pads, sign]) := .tup upd_same (.cons ((rpd.mono sG).mono s3) (.cons ((rsg.mono sG).mono s3) .nil))
                      have rt3 : RepT K (upd G2 q (.tup [vp, vs])) (putK us2 (key2 e g) (.ref q)) (putD ch2 (key2 e g) (.tup [pads, sign])) := putT_of rq (RepT.mono s3 rt2)
                      generalize hH5 : upd (upd (upd H2 q (.tup [vp, vs])) r0 (.tup [.int e, .int g])) l (.dT (putK us2 (key2 e g) (.ref q))) = H5
                      have ext5 : ∀ b o, b ≠ l → H2 b = some o → H5 b = some o := fun b o bl e => by
                        rw [← hH5, upd_ne bl, upd_ne (ne_of_none e hr0'), upd_ne (ne_of_none e hq)]; exact e
                      have hx5 : H5 x = some (.ins C dx (flds pv vv kv sv (.ref l))) := ext5 _ _ xl hx
                      have hl5 : H5 l = some (.dT (putK us2 (key2 e g) (.ref q))) := by rw [← hH5]; exact upd_same
                      have hq5 : H5 q = some (.tup [vp, vs]) := by rw [← hH5, upd_ne lq.symm, upd_ne qr]; exact upd_same
                      have s5 : Same (upd G2 q (.tup [vp, vs])) H5 := fun b o e => by
                        by_cases z : b = q
                        · subst z; rw [upd_same] at e; rw [← e]; exact hq5
                        · rw [upd_ne z] at e
                          have bl : b ≠ l := fun w => by subst w; rw [gl] at e; cases e
                          exact ext5 b o bl (s2 b o e)
                      have sG3 : Same G (upd G2 q (.tup [vp, vs])) := fun b o e => s3 b o (sG b o e)
                      have gr3 : ∀ b o, upd G2 q (.tup [vp, vs]) b = some o → G b = some o ∨ H b = none := fun b o e => by
                        by_cases z : b = q
                        · subst z
                          refine .inr ?_
                          cases w : H b with
                          | none => rfl
                          | some o' => have := hH b o' w; rw [hq] at this; cases this
                        · rw [upd_ne z] at e; exact hG b o e
                      have m4 : Same (upd G2 q (.tup [vp, vs])) (addT (upd G2 q (.tup [vp, vs])) H5 x l) := addT_same G3x G3l
                      refine ⟨.ref x, rfl, x, dx, _, rfl, hx5, lk (by decide +kernel), .int e, rfl, .int g, rfl, [tpD p v k s (putD ch2 (key2 e g) (.tup [pads, sign])), .int e, .int g], addT (upd G2 q (.tup [vp, vs])) H5 x l, addT_sub s5,
                        .cons (rep_tape T (by rw [addT_x]; exact hx5) (by rw [addT_l]; exact hl5) ((rp.mono sG3).mono m4) ((rv.mono sG3).mono m4) ((rk.mono sG3).mono m4) ((rs.mono sG3).mono m4) (RepT.mono m4 rt3)) (.cons (.int e) (.cons (.int g) .nil)), _, hF1, fun v6 G6 H6 fr sub6 rc6 st6 => ?_⟩
                      refine ⟨vp, rfl, vs, rfl, (by rw [sizeLine_eq]; show 2 ≤ 16777216; decide), fun q2 hq2 => ?_⟩
                      have g62 : G6 q2 = none := none_of_same sub6 hq2
                      have m7 : Same G6 (upd G6 q2 (.tup [vp, vs])) := same_new g62
                      have r6 : Rep K G6 v6 dr := by cases rc6 with | sh r => exact r
                      have mG7 : Same G (upd G6 q2 (.tup [vp, vs])) := fun b o e => m7 b o (st6.sG b o (m4 b o (sG3 b o e)))
                      have rv7 : RepVs K (upd G6 q2 (.tup [vp, vs])) (upd H6 q2 (.tup [vp, vs])) [v6, .ref q2] [dr, .tup [pads, sign]] := .cons (.sh (r6.mono m7)) (.cons (.sh (.tup upd_same (.cons (rpd.mono mG7) (.cons (rsg.mono mG7) .nil)))) .nil)
                      have hfe : fEq [dr, .tup [pads, sign]] = some (.sh (.bl (D.eqv dr (.tup [pads, sign])))) := by
                        show (if dr.cmpable (.tup [pads, sign]) then _ else _) = _
                        rw [if_pos hcmp]
                      have fin := s_eq (K := K) _ _ _ _ _ (fun vv0 H8 => ∃ b, vv0 = .bl b ∧ (if b = true then tDrop (tBM K "dict" rPopT1 (tFld K (tVar 2) "its_changes") (tCons (tPair 3 4) tNil)) { nx := WsI K C F1 ra rb x dx l pv vv kv sv p v k s G H chF rest, ct := WsI K C F1 ra rb x dx l pv vv kv sv p v k s G H chF rest, bk := bk, rt := rt } [some ra, some rb, some (.ref x), some (.int e), some (.int g), some vp, some vs] H8 else tNext { nx := WsI K C F1 ra rb x dx l pv vv kv sv p v k s G H chF rest, ct := WsI K C F1 ra rb x dx l pv vv kv sv p v k s G H chF rest, bk := bk, rt := rt } [some ra, some rb, some (.ref x), some (.int e), some (.int g), some vp, some vs] H8)) (same_upd2 sub6 hq2) rv7 hfe fun v8 G8 H8 fr8 sub8 rc8 st8 => by
                        cases rc8 with
                        | sh r8 =>
                          cases r8
                          refine ⟨_, rfl, ?_⟩
                          have ext8 : ∀ b o, H5 b = some o → H8 b = some o := fun b o e => by
                            have e6 := st6.keep b o e (fun z => z)
                            exact st8.keep b o (by rw [upd_ne (ne_of_none e6 hq2)]; exact e6) (fun z => z)
                          have hx8 := ext8 _ _ hx5
                          have hl8 := ext8 _ _ hl5
                          have s8 : Same (upd G2 q (.tup [vp, vs])) H8 := fun b o e => ext8 b o (s5 b o e)
                          have hH8 : ∀ b o, H b = some o → H8 b = some o := fun b o e => by
                            have bl : b ≠ l := ne_of_none e hl0
                            exact ext8 b o (ext5 b o bl (hH b o e))
                          cases hb : D.eqv dr (.tup [pads, sign]) with
                          | true =>
                            rw [if_pos rfl]
                            rw [hb, if_pos rfl] at hst
                            subst hst
                            refine ⟨.ref x, rfl, x, C, dx, _, .ref l, rfl, hx8, T.kc.cl, T.n5, lk5, .inr (.inr (.inl ⟨rfl, .inr ⟨_, hl8⟩⟩)), .int e, rfl, .int g, rfl, (by rw [sizeLine_eq]; show 2 ≤ 16777216; decide), fun r9 hr9 => ?_⟩
                            have lr9 : l ≠ r9 := ne_of_none hl8 hr9
                            have xr9 : x ≠ r9 := ne_of_none hx8 hr9
                            refine ⟨l, _, key2 e g, r9, .ref q, rfl, rfl, (by rw [upd_ne lr9]; exact hl8), upd_same, (by rw [valV_put, if_pos rfl]), ?_⟩
                            refine ⟨upd G2 q (.tup [vp, vs]), _, _, _, _, _, _, rfl, sG3, fun b o e => ?_, fun b o e => ?_, gr3, G3x, G3l, (by rw [upd_ne xl, upd_ne xr9]; exact hx8), upd_same, dropT_of _ rt3, hf⟩
                            · have bl : b ≠ l := fun w => by subst w; rw [G3l] at e; cases e
                              have e8 := s8 b o e
                              rw [upd_ne bl, upd_ne (ne_of_none e8 hr9)]
                              exact e8
                            · have bl : b ≠ l := ne_of_none e hl0
                              have e8 := hH8 b o e
                              rw [upd_ne bl, upd_ne (ne_of_none e8 hr9)]
                              exact e8
                          | false =>
                            rw [if_neg (by decide)]
                            rw [hb, if_neg (by decide)] at hst
                            subst hst
                            exact ⟨upd G2 q (.tup [vp, vs]), _, _, _, _, _, _, rfl, sG3, s8, hH8, gr3, G3x, G3l, hx8, hl8, rt3, hf⟩
                      obtain ⟨x', y', ee, hh⟩ := fin
                      cases ee
                      exact hh
          · cases hst
        · cases hst
      · cases hst
    · cases hst
theorem ws_read {K : Fg} {w : World} {C : Addr} {F1 : List D → Option Fx.C} {E0 : XK} (T : TpC K C) {vs : List V} {H : Hp} {Q : VK} {E : XK} (h : spP K (F_ws F1) vs H Q E) : tWs K w C F1 E0 { nx := fun _ H' => Q .non H', rt := Q } (L2.start ["self", "some", "found", "epoch", "give", "pads", "sign"] vs) H := by
  obtain ⟨ds, G, s, r, c, e, kk⟩ := h
  unfold F_ws at e
  split at e
  · rename_i c0 ns p v k sd ch some_
    split at e
    · rename_i hq
      obtain ⟨rfl, rfl, hap⟩ := hq
      cases hws : wsFold F1 p v k sd ch some_ with
      | none => rw [hws] at e; cases e
      | some chF =>
        rw [hws] at e
        cases e
        cases r with
        | cons r1 r => cases r with
          | cons r2 r =>
            cases r
            obtain ⟨a, dx, l, pv, vv, kv, sv, us, rfl, ha, hl, rp, rv, rk, rs, rt⟩ := tape_inv T r1
            cases r2 with
            | @tup b ws _ hb rw_ =>
              refine ⟨.ref a, rfl, a, dx, _, rfl, s _ _ ha, lk (by decide +kernel), .ref a, rfl, a, C, dx, _, kv, rfl, s _ _ ha, T.kc.cl, T.n3, lk3, ?_⟩
              refine ⟨a, dx, l, pv, vv, kv, sv, kv, us, rfl, s _ _ ha, s _ _ hl, apart_of rt hap, fun H1 x dx' l' ext hx hl' ne hx1 hl1 => ?_⟩
              refine ⟨.ref b, rfl, b, rfl, ⟨ws, SqT.of (ext _ _ (s _ _ hb))⟩, ?_⟩
              have lw := rw_.length
              refine for_tup (K := K) (a := b) (xs := ws) (fun i σ H2 => WsI K C F1 (.ref a) (.ref b) x dx' l' pv vv kv sv p v k sd G H chF (some_.drop i) σ H2) ?_ (fun i σ H2 _ I => ?_) (fun i y σ H2 hi I => ?_) (fun σ H2 I => ?_)
              · exact ⟨G, us, ch, none, none, none, none, rfl, Same.refl _, fun b o e => ext b o (s b o e), ext, fun b o e => .inl e, none_of_same s hx, none_of_same s hl', hx1, hl1, rt, hws⟩
              · obtain ⟨G2, us2, ch2, o3, o4, o5, o6, _, sG, s2, hH, _⟩ := I.ex
                exact SqT.of (hH _ _ (s _ _ hb))
              · have hlt := (List.getElem?_eq_some_iff.mp hi).1
                have hd : i < some_.length := by omega
                obtain ⟨d, e1, e2⟩ := rw_.get hi
                have ed : some_.drop i = d :: some_.drop (i + 1) := by
                  rw [List.drop_eq_getElem_cons hd]
                  congr 1
                  have := List.getElem?_eq_getElem hd
                  rw [this] at e1
                  exact Option.some.inj e1
                rw [ed] at I
                exact ws_turn T s hx hl' rp rv rk rs e2 I
              · obtain ⟨G2, us2, ch2, o3, o4, o5, o6, rfl, sG, s2, hH, hG, gx, gl, hx2, hl2, rt2, hf⟩ := I.ex
                rw [lw, List.drop_length] at hf
                cases hf
                have m := addT_same (H := H2) gx gl
                refine ⟨.ref x, rfl, kk (.ref x) (addT G2 H2 x l') H2 [] (addT_sub s2) (.sh (rep_tape T (by rw [addT_x]; exact hx2) (by rw [addT_l]; exact hl2) ((rp.mono sG).mono m) ((rv.mono sG).mono m) ((rk.mono sG).mono m) ((rs.mono sG).mono m) (RepT.mono m rt2))) (addT_step hx hl' gx gl sG hH hG)⟩
            | _ => trivial
    · cases e
  · cases e
theorem fn_sub {P : Program} {w : World} {K : Fg} {mg : Str → Option Value} {base : Heap} {CX : CXT} {k : Nat} {f : Addr} {fd : FuncData} {ps : List Str} {sp sp' : Sp} (F : FnOk P w K mg base CX k f fd ps sp) (h : ∀ vs H Q E, sp' vs H Q E → sp vs H Q E) : FnOk P w K mg base CX k f fd ps sp' :=
  ⟨fun vs H Q E q => F.len vs H Q E (h vs H Q E q), fun A outer s H args us vs Q E hr e0 b r q => F.run A outer s H args us vs Q E hr e0 b r (h vs H Q E q)⟩
end Fx.Tp
set_option Elab.async false
set_option linter.all false
set_option maxRecDepth 100000
set_option maxHeartbeats 4000000
noncomputable section
namespace Fx
open PySem L2
/-! ## list(range(a, b)) -/
section
variable {X : Cx} {a b : Expr}
def eLR2 (o o' : Opd) : EM := fun env => (evO [o, o'] env).bind fun (ds, e) => match ds with
  | [.int i, .int j] => if rgOk i j then some (.ol (rng i j), e) else none
  | _ => none
theorem ok_lrg2 {o o' : Opd} {p p2 pos pos2 : Pos} (hc : X.calm = true) (hg : Gl X "list") (hm : X.mg "list" = none) (hg2 : Gl X "range") (hm2 : X.mg "range" = none) (ha : OOk X a o) (hb : OOk X b o') (na : starEach [a, b] X.env = (false, eval a X.env) :: starEach [b] X.env := by rfl) (nb : starEach [b] X.env = (false, eval b X.env) :: starEach [] X.env := by rfl)
    (hp : (backTo pos2 (starEach [b] X.env)).any (·.1) = false := by rfl)
    (na2 : starEach [.Call (.Name "range" p2) [a, b] [] pos2] X.env = (false, eval (.Call (.Name "range" p2) [a, b] [] pos2) X.env) :: starEach [] X.env := by rfl) : EOk X (.Call (.Name "list" p) [.Call (.Name "range" p2) [a, b] [] pos2] [] pos) (eLR2 o o') :=
  pe_mono (pe_listRg hc hg hm (prg_2 hg2 hm2 ha hb na nb hp) na2) fun σ H Q ⟨env, G, fp, con, c, env', e1, k⟩ => by
    unfold eLR2 at e1
    cases q : evO [o, o'] env with
    | none => rw [q] at e1; cases e1
    | some y =>
      obtain ⟨ds, e2⟩ := y
      simp only [q, Option.bind_some] at e1
      split at e1
      · rename_i i j
        split at e1
        · rename_i hn
          cases e1
          have z : tO X.K [o, o'] σ H (fun vs H1 => ∃ x y, vs = [x, y] ∧ ∃ i j, x = .int i ∧ y = .int j ∧ RgOk i j ∧ ∀ q, H1 q = none → Q (.ref q) (upd H1 q (.lst (rgV i j)))) := ⟨env, G, fp, con, _, _, q, fun vs G' H' fp' c' rv s => by
            cases rv with
            | cons r1 rv =>
              cases rv with
              | cons r2 rv =>
                cases rv; cases r1.int; cases r2.int
                refine ⟨_, _, rfl, i, j, rfl, rfl, rgOk_iff hn, fun l hl => ?_⟩
                exact k.end_ (W := fun _ => False) (fr := [l]) c' (s.weak (fun _ u => u) fun a u => u.elim .inl fun z => z.elim) (fun a z => z.elim) (Step.newH (o := .lst (rgV i j)) hl) (same_newH c'.sub hl) (.ol (none_of_same c'.sub hl) upd_same (reps_rg i j))⟩
          refine vk_mono_opd o (fun x H1 h1 => vk_mono_opd o' (fun y H2 h2 => ?_) h1) (tOs2 (tO_tOs z))
          obtain ⟨x', y', e, h⟩ := h2
          cases e
          exact h
        · cases e1
      · cases e1
def eTR1 (o : Opd) : EM := fun env => (evO [o] env).bind fun (ds, e) => match ds with
  | [.int n] => if rgOk 0 n then some (.sh (.tup (rng 0 n)), e) else none
  | _ => none
theorem ok_trg1 {o : Opd} {p p2 pos pos2 : Pos} (hc : X.calm = true) (hg : Gl X "tuple") (hm : X.mg "tuple" = none) (hg2 : Gl X "range") (hm2 : X.mg "range" = none) (ha : OOk X a o) (na : starEach [a] X.env = (false, eval a X.env) :: starEach [] X.env := by rfl)
    (na2 : starEach [.Call (.Name "range" p2) [a] [] pos2] X.env = (false, eval (.Call (.Name "range" p2) [a] [] pos2) X.env) :: starEach [] X.env := by rfl) : EOk X (.Call (.Name "tuple" p) [.Call (.Name "range" p2) [a] [] pos2] [] pos) (eTR1 o) :=
  pe_mono (pe_tupRg hc hg hm (prg_1 hg2 hm2 ha na) na2) fun σ H Q ⟨env, G, fp, con, c, env', e1, k⟩ => by
    unfold eTR1 at e1
    cases q : evO [o] env with
    | none => rw [q] at e1; cases e1
    | some y =>
      obtain ⟨ds, e2⟩ := y
      simp only [q, Option.bind_some] at e1
      split at e1
      · rename_i n
        split at e1
        · rename_i hn
          cases e1
          have z : tO X.K [o] σ H (fun vs H1 => ∃ x, vs = [x] ∧ ∃ n, x = .int n ∧ RgOk 0 n ∧ ∀ q, H1 q = none → Q (.ref q) (upd H1 q (.tup (rgV 0 n)))) := ⟨env, G, fp, con, _, _, q, fun vs G' H' fp' c' rv s => by
            cases rv with
            | cons r1 rv =>
              cases rv; cases r1.int
              refine ⟨_, rfl, n, rfl, rgOk_iff hn, fun p hp => ?_⟩
              refine k.end_ (W := fun _ => False) (fr := []) c' (s.weak (fun _ u => u) fun a u => u.elim .inl fun z => z.elim) (fun a z => z.elim) ((Step.newG (o := .tup (rgV 0 n)) c'.sub hp).weak (fun _ z => z.elim) fun a z => by cases z) (same_upd2 c'.sub hp) ?_
              exact .sh (.tup upd_same ((reps_rg 0 n).mono (same_new (none_of_same c'.sub hp))))⟩
          refine vk_mono_opd o (fun x H1 h1 => ?_) (tOs1 (tO_tOs z))
          obtain ⟨x', ex, h1⟩ := h1
          cases ex
          obtain ⟨n', en, h1⟩ := h1
          exact ⟨n', en, h1⟩
        · cases e1
      · cases e1
end
end Fx
set_option Elab.async false
set_option linter.all false
set_option maxRecDepth 100000
set_option maxHeartbeats 4000000
noncomputable section
namespace Fx.L
open PySem L2 Fx

noncomputable def b_u_law_bag : SM :=
  (sRet (eLst [.one (eC (.int 0)), .one (eC (.int 1234567891)), .one (eC (.int 0)), .one (eComp [1] (.one 1) (iV (eSl (.slot 0) .no (.at_ (.val (eC (.int 63)))))) kYes (eO fAbs [(.slot 1)]))]))
noncomputable def F_u_law_bag : List D → Option C := fnP 1 2 b_u_law_bag
noncomputable def b_u_law_take : SM :=
  (sSeq (sIf (kVal (eO fEq [(.val (eO fIx [(.slot 0), (.val (eC (.int 0)))])), (.val (eC (.int 0)))])) (sSeq (sSet 2 (eO fIx [(.val (eO fAdd [(.val (eSl (.val (eO fIx [(.slot 0), (.val (eC (.int 3)))])) (.at_ (.val (eO fIx [(.slot 0), (.val (eC (.int 2)))]))) .no)), (.val (eLst [.one (eC (.int 0))]))])), (.val (eC (.int 0)))]))
    (sSeq (sAugIx 0 (.val (eC (.int 2))) (fun i j => i + j) (eC (.int 1)))
    (sSeq (sIf (kVal (eO (fII gGe) [(.slot 2), (.val (eO (fII gPow) [(.val (eC (.int 10))), (.val (eC (.int 18)))]))])) (sPut (.sb 0 (.val (eC (.int 0)))) (eSlot 2)) sNx)
    (sSeq (sSet 3 (eO fAdd [(.val (eO fAdd [(.val (eO fMul [(.val (eO fIx [(.slot 0), (.val (eC (.int 1)))])), (.val (eC (.int 48271)))])), (.val (eO (fII gMod) [(.val (eO fInt [(.slot 2)])), (.val (eC (.int 2147483647)))]))])), (.val (eO fMul [(.val (eC (.int 7919))), (.val (eO fIx [(.slot 0), (.val (eC (.int 2)))]))]))]))
    (sPut (.sb 0 (.val (eC (.int 1)))) (eO (fII gMod) [(.val (eO fInt [(.slot 3)])), (.val (eC (.int 2147483647)))])))))) sNx)
    (sSeq (sIf (kVal (eO (fII gGt) [(.val (eO fIx [(.slot 0), (.val (eC (.int 0)))])), (.val (eC (.int 0)))])) (sSeq (sSet 4 (eO (fII gMod) [(.val (eO fInt [(.val (eO fIx [(.slot 0), (.val (eC (.int 0)))]))])), (.slot 1)]))
    (sSeq (sPut (.sb 0 (.val (eC (.int 0)))) (eO (fII gDiv) [(.val (eO fInt [(.val (eO fIx [(.slot 0), (.val (eC (.int 0)))]))])), (.slot 1)]))
    (sRet (eMove 4)))) sNx)
    (sSeq (sSet 5 (eO (fII gMod) [(.val (eO fInt [(.val (eO fMul [(.val (eO fAdd [(.val (eO fIx [(.slot 0), (.val (eC (.int 1)))])), (.val (eC (.int 1)))])), (.val (eC (.int 39373)))]))])), (.val (eC (.int 1000000007)))]))
    (sSeq (sSet 6 (eO (fII gMod) [(.val (eO fInt [(.val (eO fMul [(.val (eO (fII gMod) [(.val (eO fInt [(.val (eO fMul [(.slot 5), (.slot 5)]))])), (.val (eC (.int 998244353)))])), (.val (eC (.int 30011)))]))])), (.val (eC (.int 998244353)))]))
    (sRet (eO (fII gMod) [(.val (eO fInt [(.val (eO (fII gDiv) [(.slot 6), (.val (eC (.int 7)))]))])), (.slot 1)]))))))
noncomputable def F_u_law_take : C → List D → Option (C × C) := fnB 2 7 b_u_law_take
noncomputable def b_u_law_some : SM :=
  (sRet (eO fIx [(.slot 1), (.val (eCallB F_u_law_take 0 [.one (eO fLen [(.slot 1)])]))]))
noncomputable def F_u_law_some : C → List D → Option (C × C) := fnB 2 2 b_u_law_some
noncomputable def b_u_law_alike : SM :=
  (sSeq (sPar2c 2 3 (eLst [.one (eTup [.one (eSlot 0), .one (eSlot 1)])]) (eC (.int 0)))
    (sSeq (sWhile (kVal (eO (fII gLt) [(.slot 3), (.val (eO fLen [(.slot 2)]))])) (sSeq (sUnp [(.nm 4), (.nm 5)] (eO fIx [(.slot 2), (.slot 3)]))
    (sSeq (sAug 3 (fun i j => i + j) (eC (.int 1)))
    (sSeq (sIf (kOr (kVal (eO fNe [(.val (eIsi ["bool"] (.slot 4))), (.val (eIsi ["bool"] (.slot 5)))])) (kVal (eO fNe [(.val (eIsi ["str"] (.slot 4))), (.val (eIsi ["str"] (.slot 5)))]))) (sRet (eC (.bl false))) sNx)
    (sSeq (sIf (kVal (eO fNe [(.val (eIsi ["tuple", "list"] (.slot 4))), (.val (eIsi ["tuple", "list"] (.slot 5)))])) (sRet (eC (.bl false))) sNx)
    (sIf (kVal (eIsi ["tuple", "list"] (.slot 4))) (sSeq (sIf (kOr (kVal (eO fNe [(.val (eIsi ["tuple"] (.slot 4))), (.val (eIsi ["tuple"] (.slot 5)))])) (kVal (eO fNe [(.val (eO fLen [(.slot 4)])), (.val (eO fLen [(.slot 5)]))]))) (sRet (eC (.bl false))) sNx)
    (sDrop (eMethL fExtend 2 [.one (eLZip [.one (eSlot 4), .one (eSlot 5)])]))) (sIf (kVal (eO fNe [(.slot 4), (.slot 5)])) (sRet (eC (.bl false))) sNx)))))))
    (sRet (eC (.bl true)))))
noncomputable def F_u_law_alike : List D → Option C := fnP 2 6 b_u_law_alike

/-- a bag as it stands -/
structure BagOk (c : C) : Prop where
  ex : ∃ (a b n : Int) (cells : List Int), c = .ol [.int a, .int b, .int n, .lst (cells.map D.int)] ∧ 0 ≤ a ∧ 0 ≤ b ∧ cells.length ≤ 63 ∧ ∀ x ∈ cells, 0 ≤ x
theorem cut_head {cells : List Int} {n : Int} (hc : ∀ x ∈ cells, 0 ≤ x) : ∃ cell rest, cutD (cells.map D.int) (some n) none ++ [.int 0] = .int cell :: rest ∧ 0 ≤ cell ∧ (cutD (cells.map D.int) (some n) none).length ≤ cells.length := by
  have hl : (cutD (cells.map D.int) (some n) none).length ≤ cells.length := by unfold cutD; simp only [List.length_take, List.length_drop, List.length_map]; omega
  cases q : cutD (cells.map D.int) (some n) none with
  | nil => exact ⟨0, [], rfl, Int.le_refl _, by simp⟩
  | cons x r =>
    have hx : x ∈ cells.map D.int := by
      have : x ∈ cutD (cells.map D.int) (some n) none := by rw [q]; simp
      unfold cutD at this
      exact List.mem_of_mem_drop (List.mem_of_mem_take this)
    obtain ⟨y, hy, rfl⟩ := List.mem_map.mp hx
    exact ⟨y, r ++ [.int 0], rfl, hc y hy, by rw [← q]; exact hl⟩
theorem take_ok {c : C} (h : BagOk c) {m : Int} (h1 : 1 ≤ m) (h2 : m < 1073741824) : ∃ v c', F_u_law_take c [.int m] = some (.sh (.int v), c') ∧ 0 ≤ v ∧ v < m ∧ BagOk c' := by
  obtain ⟨a, b, n, cells, rfl, ha, hb, hl, hc⟩ := h.ex
  obtain ⟨cell, rest, e1, e2, e3⟩ := cut_head (n := n) hc
  have hlen : (cutD (cells.map D.int) (some n) none).length + 1 ≤ 16777216 := by omega
  have m0 : 0 < m := by omega
  have hbag : ∀ a b n : Int, 0 ≤ a → 0 ≤ b → BagOk (.ol [.int a, .int b, .int n, .lst (cells.map D.int)]) := fun a b n ha hb => ⟨⟨a, b, n, cells, rfl, ha, hb, hl, hc⟩⟩
  have s1 : sm 48271 = true := sm_of (by decide) (by decide)
  have s2 : sm 7919 = true := sm_of (by decide) (by decide)
  have s3 : sm 39373 = true := sm_of (by decide) (by decide)
  have s4 : sm 30011 = true := sm_of (by decide) (by decide)
  have s5 : sm 10 = true := sm_of (by decide) (by decide)
  unfold F_u_law_take fnB b_u_law_take
  simp [startE, atI, ixN, lim_val, hlen, e1, s1, s2, s3, s4, s5]
  by_cases h0 : a = 0
  · subst h0
    by_cases h10 : 1000000000000000000 ≤ cell
    · simp [h10, m0, h2, get0, atI, ixN, s1, s2, s3, s4, s5]
      have hp : 0 < cell := by omega
      simp [hp, m0, h2, get0, atI, ixN, s1, s2, s3, s4, s5]
      refine ⟨_, _, ⟨rfl, rfl⟩, Int.emod_nonneg _ (by omega), Int.emod_lt_of_pos _ m0, hbag _ _ _ (Int.ediv_nonneg e2 (by omega)) (Int.emod_nonneg _ (by omega))⟩
    · simp [h10, m0, h2, get0, atI, ixN, s1, s2, s3, s4, s5]
      refine ⟨_, _, ⟨rfl, rfl⟩, Int.emod_nonneg _ (by omega), Int.emod_lt_of_pos _ m0, hbag _ _ _ (Int.le_refl _) (Int.emod_nonneg _ (by omega))⟩
  · have hp : 0 < a := by omega
    simp [h0, hp, m0, h2, get0, atI, ixN, s1, s2, s3, s4, s5]
    refine ⟨_, _, ⟨rfl, rfl⟩, Int.emod_nonneg _ (by omega), Int.emod_lt_of_pos _ m0, hbag _ _ _ (Int.ediv_nonneg ha (by omega)) hb⟩
theorem some_l {c : C} (h : BagOk c) {ds : List D} (hne : ds ≠ []) (hl : ds.length < 1073741824) : ∃ d ∈ ds, ∃ c', F_u_law_some c [.lst ds] = some (.sh d, c') ∧ BagOk c' := by
  have hp : 0 < ds.length := List.length_pos_iff.mpr hne
  obtain ⟨v, c', e, h1, h2, h3⟩ := take_ok h (m := ds.length) (by omega) (by omega)
  obtain ⟨n, rfl⟩ : ∃ n : Nat, v = n := ⟨v.toNat, by omega⟩
  have hn : n < ds.length := by omega
  refine ⟨ds[n], by simp, c', ?_, h3⟩
  unfold F_u_law_some fnB b_u_law_some
  simp [startE, e, atI_nat, hn, get0]
theorem some_t {c : C} (h : BagOk c) {ds : List D} (hne : ds ≠ []) (hl : ds.length < 1073741824) : ∃ d ∈ ds, ∃ c', F_u_law_some c [.tup ds] = some (.sh d, c') ∧ BagOk c' := by
  have hp : 0 < ds.length := List.length_pos_iff.mpr hne
  obtain ⟨v, c', e, h1, h2, h3⟩ := take_ok h (m := ds.length) (by omega) (by omega)
  obtain ⟨n, rfl⟩ : ∃ n : Nat, v = n := ⟨v.toNat, by omega⟩
  have hn : n < ds.length := by omega
  refine ⟨ds[n], by simp, c', ?_, h3⟩
  unfold F_u_law_some fnB b_u_law_some
  simp [startE, e, atI_nat, hn, get0]
theorem bag_ok (ns : List Int) : ∃ c, F_u_law_bag [.scr ns] = some c ∧ BagOk c := by
  let g : D → Option D := fun d => match d with | .int i => some (.int (if i < 0 then -i else i)) | _ => none
  have hc : ∀ e : Env, ∀ d ∈ cutD (ns.map D.int) none (some 63), cStep [1] (.one 1) kYes (eO fAbs [(.slot 1)]) d [some (.sh (.scr ns)), none] = some (g d, [some (.sh (.scr ns)), none]) := by
    intro _ d hd
    unfold cutD at hd
    obtain ⟨i, _, rfl⟩ := List.mem_map.mp (List.mem_of_mem_drop (List.mem_of_mem_take hd))
    simp [cStep, g]
  have hl : (cutD (ns.map D.int) none (some 63)).length ≤ 63 := by
    unfold cutD
    have : HT.sIx (ns.map D.int).length (ns.map D.int).length (some 63) ≤ 63 := by unfold HT.sIx; simp; omega
    simp only [List.length_take, List.length_drop]
    omega
  have hg : ∃ cells : List Int, (cutD (ns.map D.int) none (some 63)).filterMap g = cells.map D.int ∧ cells.length ≤ 63 ∧ ∀ x ∈ cells, 0 ≤ x := by
    have key : ∀ l : List Int, ∃ cells : List Int, (l.map D.int).filterMap g = cells.map D.int ∧ cells.length = l.length ∧ ∀ x ∈ cells, 0 ≤ x := by
      intro l
      induction l with
      | nil => exact ⟨[], rfl, rfl, fun x m => by cases m⟩
      | cons y r ih =>
        obtain ⟨cells, h1, h2, h3⟩ := ih
        refine ⟨(if y < 0 then -y else y) :: cells, ?_, by simp [h2], fun x m => ?_⟩
        · show D.int (if y < 0 then -y else y) :: (r.map D.int).filterMap g = _; rw [h1]; rfl
        · rcases List.mem_cons.mp m with e | m
          · subst e; split <;> omega
          · exact h3 x m
    have hm : cutD (ns.map D.int) none (some 63) = ((ns.drop (HT.sIx (ns.map D.int).length 0 none)).take (HT.sIx (ns.map D.int).length (ns.map D.int).length (some 63) - HT.sIx (ns.map D.int).length 0 none)).map D.int := by
      unfold cutD; rw [List.map_take, List.map_drop]
    obtain ⟨cells, h1, h2, h3⟩ := key ((ns.drop (HT.sIx (ns.map D.int).length 0 none)).take (HT.sIx (ns.map D.int).length (ns.map D.int).length (some 63) - HT.sIx (ns.map D.int).length 0 none))
    rw [← hm] at h1
    refine ⟨cells, h1, ?_, h3⟩
    rw [h2]
    have := congrArg List.length hm
    rw [List.length_map] at this
    omega
  obtain ⟨cells, h1, h2, h3⟩ := hg
  have hlc : cells.length ≤ 16777216 := by omega
  refine ⟨.ol [.int 0, .int 1234567891, .int 0, .lst (cells.map D.int)], ?_, ⟨⟨0, 1234567891, 0, cells, rfl, by decide, by decide, h2, h3⟩⟩⟩
  unfold F_u_law_bag fnP b_u_law_bag
  simp [startE, compN_pure (hc []), h1, hlc, lim_val]

/-! ## what is alike -/
mutual
def cnt : D → Nat
  | .tup ds => cnts ds + 1
  | .lst ds => cnts ds + 1
  | _ => 1
def cnts : List D → Nat
  | [] => 0
  | d :: ds => cnt d + cnts ds
end
mutual
def smp : D → Bool
  | .tup ds | .lst ds => smps ds
  | d => d.okq
def smps : List D → Bool
  | [] => true
  | d :: ds => smp d && smps ds
end
theorem cnt_pos (d : D) : 1 ≤ cnt d := by cases d <;> simp [cnt]
def dbl (d : D) : D := .tup [d, d]
theorem len_cnts : ∀ ds : List D, ds.length ≤ cnts ds
  | [] => Nat.le_refl _
  | d :: ds => by have := cnt_pos d; have := len_cnts ds; simp [cnts]; omega
theorem zip_self : ∀ ds : List D, zipD ds ds = ds.map dbl
  | [] => rfl
  | d :: ds => by have := zip_self ds; unfold zipD at *; simp [dbl] at *; exact this
def seqD : D → List D
  | .tup ds => ds | .lst ds => ds | _ => []
def wt (q : List D) : Nat := cnts q
theorem cnts_app : ∀ a b : List D, cnts (a ++ b) = cnts a + cnts b
  | [], b => by simp [cnts]
  | d :: a, b => by simp [cnts, cnts_app a b]; omega
theorem smps_app : ∀ a b : List D, smps (a ++ b) = (smps a && smps b)
  | [], b => by simp [smps]
  | d :: a, b => by simp [smps, smps_app a b, Bool.and_assoc]
theorem drop_cons {L : List D} {x : D} {r : List D} {n : Nat} (h : L.drop n = x :: r) : L[n]? = some x ∧ L.drop (n + 1) = r ∧ n < L.length := by
  have hn : n < L.length := by
    by_cases q : n < L.length
    · exact q
    · rw [List.drop_eq_nil_of_le (by omega)] at h; cases h
  rw [List.drop_eq_getElem_cons hn] at h
  obtain ⟨h1, h2⟩ := List.cons.inj h
  exact ⟨by rw [List.getElem?_eq_getElem hn, h1], h2, hn⟩
theorem eqv_self : ∀ d : D, d.okq = true → (∀ ds, d ≠ .tup ds ∧ d ≠ .lst ds) → D.eqv d d = true
  | .non, _, _ => rfl
  | .bl b, _, _ => by simp [D.eqv]
  | .int i, _, _ => by simp [D.eqv]
  | .str x, _, _ => by simp [D.eqv]
  | .tup ds, _, h => absurd rfl (h ds).1
  | .lst ds, _, h => absurd rfl (h ds).2
  | .dk _, h, _ => by cases h
  | .dt _, h, _ => by cases h
  | .scr _, h, _ => by cases h
  | .obj _ _ _, h, _ => by cases h
abbrev tA : TM := kVal (eO (fII gLt) [(.slot 3), (.val (eO fLen [(.slot 2)]))])
theorem alike_ok {d : D} (hs : smp d = true) (hc : cnt d ≤ 1000000) : F_u_law_alike [d, d] = some (.sh (.bl true)) := by
  unfold F_u_law_alike fnP b_u_law_alike
  generalize hB : (sSeq (sUnp [(.nm 4), (.nm 5)] (eO fIx [(.slot 2), (.slot 3)])) _ : SM) = B
  have hl : (1 : Nat) ≤ lim := by rw [lim_val]; omega
  -- one turn
  have turn : ∀ (L : List D) (n : Nat) (x : D) (r : List D) (s4 s5 : Option C), L.drop n = (x :: r).map dbl → smp x = true → L.length + cnt x ≤ 2000000 →
      ∃ s4' s5', B [some (.sh d), some (.sh d), some (.ol L), some (.sh (.int (n : Int))), s4, s5] = some (.nx [some (.sh d), some (.sh d), some (.ol (L ++ (seqD x).map dbl)), some (.sh (.int ((n + 1 : Nat) : Int))), s4', s5']) := by
    intro L n x r s4 s5 hd hx hlen
    obtain ⟨g1, g2, g3⟩ := drop_cons hd
    have hix : atI L (n : Int) = some (dbl x) := by rw [atI_nat]; exact g1
    rw [← hB]
    have hn : x.noScr = true := by cases x <;> first | rfl | (simp [smp, D.okq] at hx)
    refine ⟨some (.sh x), some (.sh x), ?_⟩
    cases x with
    | tup ds =>
      have hl2 : ds.length ≤ lim := by have := len_cnts ds; simp [cnt] at hlen; rw [lim_val]; omega
      have hl3 : L.length + ds.length ≤ lim := by have := len_cnts ds; simp [cnt] at hlen; rw [lim_val]; omega
      simp [hix, dbl, D.noScr, D.isT, D.ty, subT, zip_self, seqD, hl2, hl3]
    | lst ds =>
      have hl2 : ds.length ≤ lim := by have := len_cnts ds; simp [cnt] at hlen; rw [lim_val]; omega
      have hl3 : L.length + ds.length ≤ lim := by have := len_cnts ds; simp [cnt] at hlen; rw [lim_val]; omega
      simp [hix, dbl, D.noScr, D.isT, D.ty, subT, zip_self, seqD, hl2, hl3]
    | non => simp [hix, dbl, D.noScr, D.isT, D.ty, subT, seqD, fNe, D.cmpable, D.okq, D.dep, D.eqv]
    | bl b => simp [hix, dbl, D.noScr, D.isT, D.ty, subT, seqD]
    | int i => simp [hix, dbl, D.noScr, D.isT, D.ty, subT, seqD]
    | str y =>
      have hy : (D.str y).okq = true := hx
      simp [hix, dbl, D.noScr, D.isT, D.ty, subT, seqD, hy]
    | _ => simp [smp, D.okq] at hx
  have wx : ∀ x : D, cnt x = cnts (seqD x) + 1 := fun x => by cases x <;> simp [cnt, cnts, seqD]
  have sx : ∀ x : D, smp x = true → smps (seqD x) = true := fun x h => by cases x <;> first | exact h | rfl
  have loop : ∀ (w : Nat) (L : List D) (n : Nat) (rest : List D) (s4 s5 : Option C), L.drop n = rest.map dbl → smps rest = true → cnts rest = w → L.length + w ≤ 1000000 + rest.length →
      ∃ e, whileN (w + 1) tA B [some (.sh d), some (.sh d), some (.ol L), some (.sh (.int (n : Int))), s4, s5] = some (.nx e) := by
    intro w
    induction w with
    | zero =>
      intro L n rest s4 s5 hd hs hw hb
      cases rest with
      | cons x r => have := cnt_pos x; simp [cnts] at hw; omega
      | nil =>
        have hn : ¬ n < L.length := fun q => by
          have := congrArg List.length hd
          simp at this; omega
        refine ⟨[some (.sh d), some (.sh d), some (.ol L), some (.sh (.int (n : Int))), s4, s5], ?_⟩
        unfold whileN
        simp [hn]
    | succ w ih =>
      intro L n rest s4 s5 hd hs hw hb
      cases rest with
      | nil => simp [cnts] at hw
      | cons x r =>
        simp only [smps, Bool.and_eq_true] at hs
        have hw2 : cnts (seqD x) + 1 + cnts r = w + 1 := by rw [← wx]; simpa [cnts] using hw
        have hr := len_cnts r
        obtain ⟨g1, g2, g3⟩ := drop_cons hd
        have hbx : L.length + cnt x ≤ 2000000 := by rw [wx]; simp at hb; omega
        obtain ⟨s4', s5', ht⟩ := turn L n x r s4 s5 hd hs.1 hbx
        obtain ⟨e, he⟩ := ih (L ++ (seqD x).map dbl) (n + 1) (r ++ seqD x) s4' s5' (by rw [List.drop_append_of_le_length (by omega), g2]; simp) (by rw [smps_app, hs.2, sx x hs.1]; rfl) (by rw [cnts_app]; omega) (by simp; simp at hb; omega)
        refine ⟨e, ?_⟩
        rw [whileN]
        have h1 : tA [some (.sh d), some (.sh d), some (.ol L), some (.sh (.int (n : Int))), s4, s5] = some (true, [some (.sh d), some (.sh d), some (.ol L), some (.sh (.int (n : Int))), s4, s5]) := by simp [g3]
        rw [h1]
        simp only [Option.bind_some, if_true, ht]
        exact he
  obtain ⟨e, he⟩ := loop (cnt d) [dbl d] 0 [d] none none (by simp) (by simp [smps, hs]) (by simp [cnts]) (by simp; omega)
  have he' := sWhile_of he
  have he2 : sWhile tA B [some (.sh d), some (.sh d), some (.ol [.tup [d, d]]), some (.sh (.int 0)), none, none] = some (.nx e) := he'
  have hl2 : (2 : Nat) ≤ lim := by rw [lim_val]; omega
  simp [startE, hl, hl2, he2]
end Fx.L
set_option Elab.async false
set_option linter.all false
set_option maxRecDepth 100000
set_option maxHeartbeats 4000000
noncomputable section
/-! zip of three -/
namespace Fx
open PySem PySem.Spec L2
open PyProof.Rows (boot_zip boot_enumerate boot_list args_cons args_nil Call_)
theorem zip_sep3' {k1 k2 k3 : Kd} {n : Nat} (h1 : k1.lt n) (h2 : k2.lt n) (h3 : k3.lt n) : ZipSep3 (n + 5) (n + 3) (n + 4) n (n + 1) (n + 2) (k1.fps n) (k2.fps (n + 1)) (k3.fps (n + 2)) := by
  have mm : ∀ (k : Kd) (j : Nat), k.lt n → ∀ c : Nat, @Membership.mem Addr _ _ (k.fps j) c → @Eq Nat c j ∨ @LT.lt Nat _ c n := fun k j h c m => by
    cases k <;> simp only [Kd.fps, Kd.lt, List.mem_cons, List.not_mem_nil, or_false] at * <;> (try rcases m with m | m) <;> subst_vars <;> first | exact .inl rfl | exact .inr h
  have gg : ∀ (k : Kd) (j : Nat), (j : Addr) ∈ k.fps j := fun k j => by cases k <;> simp [Kd.fps]
  have no : ∀ (k : Kd) (j c : Nat), k.lt n → c ≠ j → n ≤ c → (c : Addr) ∉ k.fps j := fun k j c h hc hn m => by
    rcases mm k j h c m with z | z
    · exact hc z
    · omega
  exact ⟨ne_nat (by omega), ne_nat (by omega), ne_nat (by omega), ne_nat (by omega), gg _ _, no _ _ _ h1 (by omega) (by omega), no _ _ _ h1 (by omega) (by omega),
    ne_nat (by omega), gg _ _, no _ _ _ h2 (by omega) (by omega), no _ _ _ h2 (by omega) (by omega), ne_nat (by omega), gg _ _, no _ _ _ h3 (by omega) (by omega), no _ _ _ h3 (by omega) (by omega),
    no _ _ _ h2 (by omega) (by omega), no _ _ _ h3 (by omega) (by omega), no _ _ _ h1 (by omega) (by omega), no _ _ _ h3 (by omega) (by omega), no _ _ _ h1 (by omega) (by omega), no _ _ _ h2 (by omega) (by omega)⟩
def ItG3 (K : Fg) (k1 k2 k3 : Kd) : It :=
  ⟨fun i H => ∃ (xs ys zs : List V) (x y z : V), k1.src K H xs ∧ k2.src K H ys ∧ k3.src K H zs ∧ xs[i]? = some x ∧ ys[i]? = some y ∧ zs[i]? = some z,
    fun i H v H' => ∃ T x y z, v = .ref T ∧ H T = none ∧ H' = upd H T (.tup [x, y, z]) ∧ (∀ xs, k1.src K H xs → xs[i]? = some x) ∧ (∀ ys, k2.src K H ys → ys[i]? = some y) ∧ ∀ zs, k3.src K H zs → zs[i]? = some z,
    fun i H => ∃ xs ys zs : List V, k1.src K H xs ∧ k2.src K H ys ∧ k3.src K H zs ∧ i ≤ xs.length ∧ i ≤ ys.length ∧ i ≤ zs.length ∧ (i = xs.length ∨ i = ys.length ∨ i = zs.length)⟩
structure ZAt3 (k1 k2 k3 : Kd) (n i : Nat) (h : Heap) : Prop where
  lt1 : k1.lt n
  lt2 : k2.lt n
  lt3 : k3.lt n
  z : IsZip h (n + 5) (n + 3) (n + 4) .none
  TI : IsTupOf3 h (n + 3) (.ref n) (.ref (n + 1)) (.ref (n + 2))
  TO : ∃ x y u, IsTupOf3 h (n + 4) x y u
  a1 : k1.at_ h n i
  a2 : k2.at_ h (n + 1) i
  a3 : k3.at_ h (n + 2) i
def zfp3 (n : Nat) : List Addr := [n + 5, n + 3, n + 4, n, n + 1, n + 2]
theorem mem_zfp3 {n c : Nat} (h : c ∈ zfp3 n) : c = n + 5 ∨ c = n + 3 ∨ c = n + 4 ∨ c = n ∨ c = n + 1 ∨ c = n + 2 := by simpa [zfp3] using h
theorem ZAt3.lt {k1 k2 k3 : Kd} {n i : Nat} {h : Heap} (Z : ZAt3 k1 k2 k3 n i h) {c : Addr} (m : c ∈ zfp3 n) : c < h.objs.size := by
  obtain ⟨x, y, u, hTO⟩ := Z.TO
  rcases mem_zfp3 m with q | q | q | q | q | q
  · rw [q]; exact Heap.lt_size Z.z
  · rw [q]; exact Heap.lt_size Z.TI
  · rw [q]; exact Heap.lt_size hTO
  · rw [q]; obtain ⟨_, e, _⟩ := Kd.obj Z.a1; exact Heap.lt_size e
  · rw [q]; obtain ⟨_, e, _⟩ := Kd.obj Z.a2; exact Heap.lt_size e
  · rw [q]; obtain ⟨_, e, _⟩ := Kd.obj Z.a3; exact Heap.lt_size e
theorem turn_zipG3 {P : Program} {w : World} {K : Fg} {elts : List Expr} {kk : Nat} {tpos : Pos} (k1 k2 k3 : Kd) (n : Nat) : Turn P w K (.Tuple elts kk tpos) (ItG3 K k1 k2 k3) (zfp3 n) (n + 5) (ZAt3 k1 k2 k3 n) where
  mem := by simp [zfp3]
  obj := fun i h st c hc => by
    obtain ⟨x, y, u, hTO⟩ := st.TO
    rcases mem_zfp3 hc with q | q | q | q | q | q
    · rw [q]; exact ⟨_, st.z, fun v q => nomatch q⟩
    · rw [q]; exact ⟨_, st.TI, fun v q => nomatch q⟩
    · rw [q]; exact ⟨_, hTO, fun v q => nomatch q⟩
    · rw [q]; exact Kd.obj st.a1
    · rw [q]; exact Kd.obj st.a2
    · rw [q]; exact Kd.obj st.a3
  keep := fun i h h' st k => by
    obtain ⟨x, y, u, hTO⟩ := st.TO
    exact ⟨st.lt1, st.lt2, st.lt3, k _ (by simp [zfp3]) _ st.z, k _ (by simp [zfp3]) _ st.TI, ⟨x, y, u, k _ (by simp [zfp3]) _ hTO⟩, Kd.keep st.a1 (k _ (by simp [zfp3])), Kd.keep st.a2 (k _ (by simp [zfp3])), Kd.keep st.a3 (k _ (by simp [zfp3]))⟩
  item := by
    intro X hP hw hK hc i pins s σ H E I hf st hg
    subst hP hw hK
    obtain ⟨xs, ys, zs, x, y, z, hqx, hqy, hqz, hx, hy, hz⟩ := hg
    obtain ⟨x0, y0, u0, hTO⟩ := st.TO
    have S := zip_sep3' st.lt1 st.lt2 st.lt3
    have hh : X.A.in1.handled = none := I.ok.hd hc
    obtain ⟨P1, St1, D1, s1, r1, v1⟩ := Kd.draws (w := X.w) (P := X.prog) (A := X.A.in1) I hqx (apart1 st.lt1 (Nat.le_refl _)) hh st.a1
    obtain ⟨P2, St2, D2, s2, r2, v2⟩ := Kd.draws (w := X.w) (P := X.prog) (A := X.A.in1) I hqy (apart1 st.lt2 (Nat.le_succ _)) hh st.a2
    obtain ⟨P3, St3, D3, s3, r3, v3⟩ := Kd.draws (w := X.w) (P := X.prog) (A := X.A.in1) I hqz (apart1 st.lt3 (show n ≤ n + 2 from Nat.le_add_right n 2)) hh st.a3
    have hi1 : i < xs.length := (List.getElem?_eq_some_iff.mp hx).1
    have hi2 : i < ys.length := (List.getElem?_eq_some_iff.mp hy).1
    have hi3 : i < zs.length := (List.getElem?_eq_some_iff.mp hz).1
    refine wpAny_pyNext_zipD3_item S D1 D2 D3 st.z st.TI hTO s1 s2 s3 hi1 hi2 hi3 fun u1 u2 u3 h' tk p1 p2 p3 z' TO' t1 t2 t3 hT hsz hk => ?_
    refine ⟨_, rfl, wpAny_letOwnedTupleGo_zip (s := { s with heap := h', toks := tk }) z' fun h'' z'' sb => ?_⟩
    have ru1 : RelV x u1 := by
      obtain ⟨y', e1, e2⟩ := v1 i u1 p1
      rw [hx] at e1; cases e1; exact e2
    have ru2 : RelV y u2 := by
      obtain ⟨y', e1, e2⟩ := v2 i u2 p2
      rw [hy] at e1; cases e1; exact e2
    have ru3 : RelV z u3 := by
      obtain ⟨y', e1, e2⟩ := v3 i u3 p3
      rw [hz] at e1; cases e1; exact e2
    have hzl : n + 5 < s.heap.objs.size := Heap.lt_size st.z
    have hT2 : h''.get? s.heap.objs.size = some { cls := .type "tuple", data := .seq #[u1, u2, u3] } := (sb.2 _ (Nat.ne_of_gt hzl)).trans hT
    have new : ObjOk X.prog X.w (upd H s.heap.objs.size (.tup [x, y, z])) h'' s.heap.objs.size (.tup [x, y, z]) :=
      ⟨by show 3 ≤ sizeLine; decide, [u1, u2, u3], .cons ru1 (.cons ru2 (.cons ru3 .nil)), ⟨_, hT2, rfl, _, rfl⟩⟩
    have I1 : Inv X pins σ (upd H s.heap.objs.size (.tup [x, y, z])) { s with heap := h'', toks := tk } :=
      I.turnedNew (t' := tk) (ch := zfp3 n) (fun c o hb q => (sb.2 c (fun q' => hb (by simp [zfp3, q']))).trans (hk c o (fun q' => hb (by simp [zfp3, q'])) (fun q' => hb (by simp [zfp3, q'])) (fun q' => hb (by simp [zfp3, q'])) (fun q' => hb (by simp [zfp3, q'])) (fun q' => hb (by simp [zfp3, q'])) q)) hf (Nat.le_refl _) new
    refine ⟨.ref s.heap.objs.size, _, I1, rfl, ⟨_, x, y, z, rfl, I.hok.fresh (Nat.le_refl _), rfl, fun l hl => by rw [Kd.src_inj I hl hqx]; exact hx, fun l hl => by rw [Kd.src_inj I hl hqy]; exact hy, fun l hl => by rw [Kd.src_inj I hl hqz]; exact hz⟩, ⟨st.lt1, st.lt2, st.lt3, z'', ?_, ⟨u1, u2, u3, ?_⟩, ?_, ?_, ?_⟩, fun c hcm => ?_⟩
    · exact (sb.2 _ S.TIz).trans (hk _ _ S.TIz S.TITO S.TIi1 S.TIi2 S.TIi3 st.TI)
    · exact (sb.2 _ S.TOz).trans TO'
    · exact Kd.keep (r1 _ _ t1) fun o q => (sb.2 _ S.zi1.symm).trans q
    · exact Kd.keep (r2 _ _ t2) fun o q => (sb.2 _ S.zi2.symm).trans q
    · exact Kd.keep (r3 _ _ t3) fun o q => (sb.2 _ S.zi3.symm).trans q
    · rw [upd_ne (Nat.ne_of_lt (st.lt hcm))]
      exact (hf c hcm).1
  done := by
    intro X hP hw hK hc i pins s σ H E I hf st hg
    subst hP hw hK
    obtain ⟨xs, ys, zs, hqx, hqy, hqz, l1, l2, l3, hend⟩ := hg
    obtain ⟨x0, y0, u0, hTO⟩ := st.TO
    have S := zip_sep3' st.lt1 st.lt2 st.lt3
    have hh : X.A.in1.handled = none := I.ok.hd hc
    obtain ⟨P1, St1, D1, s1, r1, v1⟩ := Kd.draws (w := X.w) (P := X.prog) (A := X.A.in1) I hqx (apart1 st.lt1 (Nat.le_refl _)) hh st.a1
    obtain ⟨P2, St2, D2, s2, r2, v2⟩ := Kd.draws (w := X.w) (P := X.prog) (A := X.A.in1) I hqy (apart1 st.lt2 (Nat.le_succ _)) hh st.a2
    obtain ⟨P3, St3, D3, s3, r3, v3⟩ := Kd.draws (w := X.w) (P := X.prog) (A := X.A.in1) I hqz (apart1 st.lt3 (show n ≤ n + 2 from Nat.le_add_right n 2)) hh st.a3
    exact wpAny_pyNext_zipD3_end S D1 D2 D3 st.z st.TI hTO s1 s2 s3 l1 l2 l3 hend fun h' tk hk => ⟨rfl, I.turnedL (t' := tk) (ch := zfp3 n) (fun c o hb q =>
      hk c o (fun q' => hb (by simp [zfp3, q'])) (fun q' => hb (by simp [zfp3, q'])) (fun q' => hb (by simp [zfp3, q'])) (fun q' => hb (by simp [zfp3, q'])) (fun q' => hb (by simp [zfp3, q'])) q) hf⟩
  self := fun A i s Q E st h => wpAny_pyIter_zip st.z h
def iZipG3 (K : Fg) (ta : TA) : TI := fun σ H R => ta σ H fun vs H1 => ∃ k1 k2 k3 xs ys zs, vs = [Kd.v k1, Kd.v k2, Kd.v k3] ∧ k1.src K H1 xs ∧ k2.src K H1 ys ∧ k3.src K H1 zs ∧ R (ItG3 K k1 k2 k3) H1
section
variable {X : Cx}
theorem zip_new3 {pins : List (Addr × Obj)} {σ : St} {H : Hp} {s : Shared} {k1 k2 k3 : Kd} {xs ys zs : List V} {u1 u2 u3 : Value} {A : Around} {Q E} (I : Inv X pins σ H s) (hx : k1.src X.K H xs) (hy : k2.src X.K H ys) (hz : k3.src X.K H zs) (r1 : RelV k1.v u1) (r2 : RelV k2.v u2) (r3 : RelV k3.v u3)
    (h : ∀ h', ZAt3 k1 k2 k3 s.heap.objs.size 0 h' → Inv X pins σ H { s with heap := h' } → (∀ c o, s.heap.get? c = some o → h'.get? c = some o) → h'.objs.size = s.heap.objs.size + 6 → (∀ c ∈ zfp3 s.heap.objs.size, FpOk X pins H c) → Q (.ref (s.heap.objs.size + 5)) { s with heap := h' }) :
    wpAny (model X.prog X.w) A (call (.type "zip") [u1, u2, u3]) Q E s := by
  obtain ⟨o1, H1, B1, c1, f1⟩ := Kd.begins I hx r1
  obtain ⟨o2, H2, B2, c2, f2⟩ := Kd.begins I hy r2
  obtain ⟨o3, H3, B3, c3, f3⟩ := Kd.begins I hz r3
  refine zip_begins3 B1 B2 B3 c1 c2 c3 fun h' hz' hTI hTO g1 g2 g3 hsz hk => h h' ⟨Kd.src_lt I hx, Kd.src_lt I hy, Kd.src_lt I hz, hz', hTI, ⟨_, _, _, hTO⟩, f1 _ _ g1, f2 _ _ g2, f3 _ _ g3⟩ (I.kept (t' := s.toks) hk) hk hsz fun c hcm => ?_
  have hge : s.heap.objs.size ≤ c := by
    rcases mem_zfp3 hcm with q | q | q | q | q | q <;> rw [q] <;> first | exact Nat.le_refl _ | exact Nat.le_add_right _ _
  exact I.fpOk hge (I.hok.fresh hge)
theorem pi_zipG3 {e e2 e3 : Expr} {ta : TA} {p pos tpos : Pos} {elts : List Expr} {kk : Nat} (hg : Gl X "zip") (hm : X.mg "zip" = none) (ha : PA X [e, e2, e3] ta)
    (hs : starEach [e, e2, e3] X.env = (false, eval e X.env) :: starEach [e2, e3] X.env := by rfl) (hpl : (backTo pos (starEach [e2, e3] X.env)).any (·.1) = false := by rfl) :
    PI X (.Tuple elts kk tpos) (.Call (.Name "zip" p) [e, e2, e3] [] pos) (iZipG3 X.K ta) := by
  refine ⟨fun pins s σ H R I h => ?_⟩
  refine Call_ (ld_blt I hg hm PyProof.Rows.boot_zip (PyProof.Rows.callWith_type1 (thn (ha.run pos pins s σ H _ I h) fun us s1 ⟨vs, H1, I1, r1, q1⟩ => ?_) hs hpl))
  obtain ⟨k1, k2, k3, xs, ys, zs, ex, hqx, hqy, hqz, q1⟩ := q1
  subst ex
  cases r1 with
  | cons r rr =>
    cases rr with
    | cons r' rr =>
      cases rr with
      | cons r'' rr =>
        cases rr
        refine zip_new3 I1 hqx hqy hqz r r' r'' fun h' Z I2 hk hsz fp => wpAny_pyIter_zip Z.z ?_
        exact ⟨_, zfp3 s1.heap.objs.size, _, _, H1, rfl, I2, turn_zipG3 k1 k2 k3 _, Z, fp, q1⟩
end
def zipD3 (xs ys zs : List D) : List D := (xs.zip (ys.zip zs)).map fun p => .tup [p.1, p.2.1, p.2.2]
theorem wlk_zip3 {K : Fg} {G : Hp} {k1 k2 k3 : Kd} {xs ys zs : List V} {ds es fs : List D} (h1 : k1.src K G xs) (h2 : k2.src K G ys) (h3 : k3.src K G zs) (r1 : Reps K G xs ds) (r2 : Reps K G ys es) (r3 : Reps K G zs fs) : Wlk K (ItG3 K k1 k2 k3) (zipD3 ds es fs) G := by
  have hl : (zipD3 ds es fs).length = min xs.length (min ys.length zs.length) := by simp [zipD3, r1.length, r2.length, r3.length]
  refine ⟨fun i G1 H1 hi s1 s2 => ?_, fun G1 H1 s1 s2 => ⟨xs, ys, zs, ItG_src s2 (ItG_src s1 h1), ItG_src s2 (ItG_src s1 h2), ItG_src s2 (ItG_src s1 h3), by omega, by omega, by omega, by omega⟩⟩
  have hx : i < xs.length := by omega
  have hy : i < ys.length := by omega
  have hz : i < zs.length := by omega
  have q1 := ItG_src s2 (ItG_src s1 h1)
  have q2 := ItG_src s2 (ItG_src s1 h2)
  have q3 := ItG_src s2 (ItG_src s1 h3)
  refine ⟨⟨xs, ys, zs, xs[i], ys[i], zs[i], q1, q2, q3, by simp [hx], by simp [hy], by simp [hz]⟩, fun v H2 hv => ?_⟩
  obtain ⟨T, x, y, z, rfl, hT, rfl, f1, f2, f3⟩ := hv
  obtain ⟨d, e1, rd⟩ := r1.get (f1 xs q1)
  obtain ⟨e, e2, re⟩ := r2.get (f2 ys q2)
  obtain ⟨f, e3, rf⟩ := r3.get (f3 zs q3)
  have gT : G1 T = none := none_of_same s2 hT
  have sn : Same G1 (upd G1 T (.tup [x, y, z])) := same_new gT
  refine ⟨upd G1 T (.tup [x, y, z]), .tup [d, e, f], ?_, .tup upd_same (.cons (rd.mono (s1.trans sn)) (.cons (re.mono (s1.trans sn)) (.cons (rf.mono (s1.trans sn)) .nil))), same_upd2 s2 hT, Step.newG s2 hT⟩
  unfold zipD3
  rw [List.getElem?_map]
  have : (ds.zip (es.zip fs))[i]? = some (d, e, f) := by
    rw [List.getElem?_zip_eq_some]; exact ⟨e1, by rw [List.getElem?_zip_eq_some]; exact ⟨e2, e3⟩⟩
  rw [this]; rfl
def iZip3 (ms : List Arg) : IM := fun env => (evA ms env).bind fun (ds, e) => match ds with
  | [a, b, c] => a.zseq.bind fun xs => b.zseq.bind fun ys => c.zseq.bind fun zs => some (zipD3 xs ys zs, e)
  | _ => none
section
variable {X : Cx} {e e2 e3 : Expr} {p pos tpos : Pos} {elts : List Expr} {kk : Nat}
theorem i_zip3 {ms : List Arg} (hg : Gl X "zip") (hm : X.mg "zip" = none) (ha : PA X [e, e2, e3] (tAr X.K ms))
    (hs : starEach [e, e2, e3] X.env = (false, eval e X.env) :: starEach [e2, e3] X.env := by rfl) (hpl : (backTo pos (starEach [e2, e3] X.env)).any (·.1) = false := by rfl) :
    IOk X (.Tuple elts kk tpos) (.Call (.Name "zip" p) [e, e2, e3] [] pos) (iZip3 ms) := pi_mono (pi_zipG3 hg hm (paa ha) hs hpl) fun σ H R ⟨env, G, fp, con, ds, env', e1, k⟩ => by
  unfold iZip3 at e1
  cases q : evA ms env with
  | none => rw [q] at e1; cases e1
  | some y =>
    obtain ⟨as, e4⟩ := y
    rw [q] at e1
    simp only [Option.bind_some] at e1
    split at e1
    · rename_i a b c
      cases q1 : a.zseq with
      | none => rw [q1] at e1; cases e1
      | some xs =>
        rw [q1] at e1
        simp only [Option.bind_some] at e1
        cases q2 : b.zseq with
        | none => rw [q2] at e1; cases e1
        | some ys =>
          rw [q2] at e1
          simp only [Option.bind_some] at e1
          cases q3 : c.zseq with
          | none => rw [q3] at e1; cases e1
          | some zs =>
            rw [q3] at e1
            simp only [Option.bind_some, Option.some.injEq, Prod.mk.injEq] at e1
            obtain ⟨rfl, rfl⟩ := e1
            refine ⟨env, G, fp, con, _, _, q, fun vs G' H' fp' c' rv s => ?_⟩
            cases rv with
            | cons r1 rv =>
              cases rv with
              | cons r2 rv =>
                cases rv with
                | cons r3 rv =>
                  cases rv
                  obtain ⟨k1, us, rfl, s1, t1⟩ := r1.kd q1
                  obtain ⟨k2, ws, rfl, s2, t2⟩ := r2.kd q2
                  obtain ⟨k3, ts, rfl, s3, t3⟩ := r3.kd q3
                  exact ⟨k1, k2, k3, us, ws, ts, rfl, ItG_src c'.sub s1, ItG_src c'.sub s2, ItG_src c'.sub s3, k _ G' H' fp' c' s (wlk_zip3 s1 s2 s3 t1 t2 t3)⟩
    · cases e1
end
@[simp] theorem ev_Zip3 {ms : List Arg} {env : Env} : iZip3 ms env = (evA ms env).bind fun (ds, e) => match ds with
  | [a, b, c] => a.zseq.bind fun xs => b.zseq.bind fun ys => c.zseq.bind fun zs => some (zipD3 xs ys zs, e)
  | _ => none := rfl
end Fx
set_option Elab.async false
set_option linter.all false
set_option maxRecDepth 100000
set_option maxHeartbeats 4000000
noncomputable section
/-! own == and != of instances; isinstance(.., an own class) -/
namespace L2
open PySem PySem.Spec PyProof.Rows
section
variable {prog : Program} {w : World} {A : Around} {E : Value → Shared → Prop} {s : Shared} {K : PySem.W.Frag} {x C f : Addr} {ox : Obj} {od : Option Obj} {name : Str} {b : Value}
theorem ifBound_B {M : Model} {args : List Value} {id : String} {Q : Option Value → Shared → Prop} (X : K.In s.heap) (I : PySem.W.InstAt s.heap x ox C od) (hs : PySem.W.findIn K (.ref C) name = some (some (.builtin id)))
    (hbi : ∀ self, bindSpecial (.builtin id) self = pure (.builtin id, [self]))
    (h : wpAny M A (call (.builtin id) (.ref x :: args)) (fun v => Q (some v)) E s) : wpAny M A (callSpecialIfBound? (.ref x) name args) Q E s := by
  simp only [callSpecialIfBound?, bindSpecialIfBound?]
  refine wpAny_holding (wpAny_bind (wpAny_bind (wpAny_bind (I.type.here ((PySem.W.looks_findIn X hs).here ?_)))))
  refine wpAny_bind (wpAny_askSetting (wpAny_ite ?_))
  have fin : wpAny M A (call (.builtin id) ([.ref x] ++ args) >>= fun v => pure (some v)) Q E s := wpAny_bind (wpAny_mono h (fun v s' h' => wpAny_pure h') fun _ _ h' => h')
  split
  · exact wpAny_bind ((PySem.W.Looks.of_pure (hbi _)).here (wpAny_pure (by exact fin)))
  · exact wpAny_tryCatch (wpAny_bind ((PySem.W.Looks.of_pure (hbi _)).here (wpAny_pure (by exact fin))))
theorem ne_body (X : K.In s.heap) (I : PySem.W.InstAt s.heap x ox C od) (hs : PySem.W.findIn K (.ref C) "__eq__" = some (some (.ref f))) (hf : PySem.W.isFn K (.ref f) = true) (hu : A.units < cLine) {Q : Fin → Shared → Prop}
    (h : wpAny (model prog w) A (call (.ref f) [.ref x, b]) (fun v s' => ∃ r, v = .bool r ∧ Q (.done (.ret (.bool (!r)))) s') E s) :
    wpAny (model prog w) A (Builtin.«object.__ne__» ⟨[.ref x, b], []⟩) Q E s := by
  have hq : wpAny (model prog w) A (callSpecialIfBound? (.ref x) (Str.ofString "__eq__") [b]) (fun r s' => ∃ t, r = some (.bool t) ∧ Q (.done (.ret (.bool (!t)))) s') E s :=
    PySem.W.ifBound_K X I hs hf (wpAny_mono h (fun r s' hr => by obtain ⟨t, rfl, q⟩ := hr; exact ⟨t, rfl, q⟩) fun _ _ e => e)
  obtain ⟨hp, g, d, t, os⟩ := s
  unfold Builtin.«object.__ne__»
  repeat (first
    | with_reducible refine wpAny_cRoomFor hu ?_
    | (refine wpAny_bind (m := callSpecialIfBound? (.ref x) (Str.ofString "__eq__") [b])
        (wpAny_mono hq (fun r s' hr => by
          obtain ⟨t, rfl, q⟩ := hr
          repeat (first | exact q | exact wpAny_pure q | exact wpAny_truthy_bool q | (refine wpAny_bind (m := truthy (.bool _)) (wpAny_truthy_bool ?_)) | wp_step)) fun _ _ e => e))
    | wp_step)
theorem cmpNe_K {L : Addr} {h₀ : Heap} {m : Str → Option Value} {tb : Value} {Q : Value → Shared → Prop} (hu : A.units + 1 < cLine) (hF0 : Fr h₀ L s.heap m) (X₀ : K.In h₀) (I : PySem.W.InstAt s.heap x ox C od) (hb : PySem.W.Looks (model prog w) s.heap (typeOf b) tb) (hn : PySem.W.notFirst K C tb = true)
    (hne : PySem.W.findIn K (.ref C) "__ne__" = some (some (.builtin "object.__ne__"))) (hm : PySem.W.mroIn K C (.type "object") = some true)
    (hs : PySem.W.findIn K (.ref C) "__eq__" = some (some (.ref f))) (hf : PySem.W.isFn K (.ref f) = true)
    (h : wpAny (model prog w) A.in1 (call (.ref f) [.ref x, b]) (fun v s' => ∃ r, v = .bool r ∧ Q (.bool (!r)) s') E s) : wpAny (model prog w) A (richCompare .NotEq (.ref x) b) Q E s := by
  have X := X₀.keeps hF0.keep
  have hi : PySem.W.Looks (model prog w) s.heap (isInstance (.ref x) (.type "object")) true := I.type.andThen (PySem.W.looks_mroIn X hm)
  have one : wpAny (model prog w) A (tryCompare (.ref x) "__ne__" b) (fun r s' => ∃ v, r = some v ∧ Q v s') E s := by
    unfold tryCompare
    refine wpAny_bind (ifBound_B X I hne (PySem.F.cmp_object.ne.bind) (wpAny_call (codeAny_call_builtin PySem.F.cmp_object.ne.plain PySem.F.cmpEntry_ne
      (PySem.W.check_slot PySem.F.cmpKind_ne PySem.F.cmpSplit_ne hi (by unfold argsOk; kernel_rfl) (ne_body (A := A.in1) X I hs hf (by exact hu) (wpAny_mono h (fun v s' hv => ?_) fun _ _ e => e))))))
    obtain ⟨r, rfl, q⟩ := hv
    first | exact ⟨r, rfl, wpAny_pure ⟨_, rfl, q⟩⟩ | exact ⟨r, rfl, wpAny_pure (wpAny_pure ⟨_, rfl, q⟩)⟩ | exact ⟨r, rfl, ⟨_, rfl, q⟩⟩
  unfold richCompare
  simp only [oneThing_ref]
  refine wpAny_holding (wpAny_bind (wpAny_cRoomFor (Nat.lt_of_succ_lt hu) ?_))
  refine wpAny_bind (I.type.here (wpAny_bind (hb.here ?_)))
  split
  · rename_i q
    have e : PySem.W.subIn K tb (.ref C) = some false := by
      rcases Bool.or_eq_true_iff.mp hn with e | e
      · rw [beq_iff_eq.mp e] at q; simp at q
      · exact beq_iff_eq.mp e
    refine wpAny_bind ((PySem.W.looks_subIn X e).here ?_)
    simp only [Bool.false_eq_true, if_false]
    refine wpAny_bind (wpAny_mono one (fun r s' z => ?_) fun _ _ e => e)
    obtain ⟨v, rfl, hq⟩ := z
    exact wpAny_pure hq
  · refine wpAny_bind (wpAny_pure ?_)
    simp only [Bool.false_eq_true, if_false]
    refine wpAny_bind (wpAny_mono one (fun r s' z => ?_) fun _ _ e => e)
    obtain ⟨v, rfl, hq⟩ := z
    exact wpAny_pure hq
end
section
variable {X : Cx} {C f : Addr} {fd : FuncData} {ps : List Str} {n : Nat} {sp : Sp}
/-- x == y, x an instance of the class at C -/
def rOwnE (K : PySem.W.Frag) (C : Addr) (sp : Sp) : R2 := fun x y H Q => ∃ a dx fs t, x = .ref a ∧ H a = some (.ins C dx fs) ∧ TyX K H y t ∧ PySem.W.notFirst K C t = true ∧ sp [x, y] H Q (fun _ _ _ => False)
def rOwnN (K : PySem.W.Frag) (C : Addr) (sp : Sp) : R2 := fun x y H Q => ∃ a dx fs t, x = .ref a ∧ H a = some (.ins C dx fs) ∧ TyX K H y t ∧ PySem.W.notFirst K C t = true ∧ sp [x, y] H (fun z H' => ∃ b, z = .bl b ∧ Q (.bl (!b)) H') (fun _ _ _ => False)
theorem own_run {A : Around} {pins : List (Addr × Obj)} {σ : St} {H : Hp} {s : Shared} {Q : VK} {x y : V} {v u : Value} (F : FnOk X.prog X.w X.K X.mg X.base CX0 n f fd ps sp) (hb : Binds X.K fd ps []) (hr : Room n A) (e0 : Env0 X.prog X.w X.K X.mg X.base A X.stack s H)
    (I : Inv X pins σ H s) (rx : RelV x v) (ry : RelV y u) (hsp : sp [x, y] H Q (fun _ _ _ => False)) : wpAny (model X.prog X.w) A (call (.ref f) [v, u]) (EP X pins σ Q) X.xe s := by
  have hl := F.len _ _ _ _ hsp
  have r2 : Vals [x, y] [v, u] := .cons rx (.cons ry .nil)
  refine wpAny_call (codeAny_mono (F.run A X.stack s H ⟨[v, u], []⟩ [v, u] [x, y] _ _ hr e0 (by
    have := hb s [v, u] I.kIn (by simpa using hl)
    simpa using this) r2 hsp) fun r s' hq => ?_)
  cases r with
  | error e => exact pass0 pins σ H s e s' I hq
  | ok fl =>
    cases fl with
    | ret w => exact I.after hq
    | next => exact False.elim hq
    | brk => exact False.elim hq
    | cont => exact False.elim hq
theorem op_ownE (F : FnOk X.prog X.w X.K X.mg X.base CX0 n f fd ps sp) (hs : PySem.W.findIn X.K (.ref C) "__eq__" = some (some (.ref f))) (hf : PySem.W.isFn X.K (.ref f) = true) (hb : Binds X.K fd ps []) (hr : Room n X.A) : OpR X (compareOp .Eq) (rOwnE X.K C sp) := by
  intro pins s σ H x y v u Q I rx ry h
  obtain ⟨a, dx, fs, t, rfl, ha, ty, hn, q⟩ := h
  cases (show v = Value.ref a from rx)
  obtain ⟨mA, J, _⟩ := ins_get I.hok ha
  obtain ⟨od, J, _⟩ := J.look
  obtain ⟨m, hF⟩ := I.fr
  obtain ⟨P, Z, hP, _⟩ := kit_of I ry ty
  show wpAny (model X.prog X.w) X.A (richCompare .Eq (.ref a) u) (EP X pins σ Q) X.xe s
  refine PySem.W.cmp_K (op := .Eq) (tb := t) hr.units0 hF I.ok.mod.kin J (Z.ty _ _ I.kIn hP) hn hs hf ?_
  refine wpAny_mono (own_run (x := .ref a) F hb hr I.env0 I rfl ry q) (fun w s' z => ?_) fun _ _ x => x
  obtain ⟨z', H', I', rz, qz⟩ := z
  exact SlX.cmpback rz ⟨z', H', I', rz, qz⟩
theorem op_ownN (F : FnOk X.prog X.w X.K X.mg X.base CX0 n f fd ps sp) (hs : PySem.W.findIn X.K (.ref C) "__eq__" = some (some (.ref f))) (hf : PySem.W.isFn X.K (.ref f) = true) (hb : Binds X.K fd ps []) (hr : Room (n + 1) X.A)
    (hne : PySem.W.findIn X.K (.ref C) "__ne__" = some (some (.builtin "object.__ne__"))) (hm : PySem.W.mroIn X.K C (.type "object") = some true) : OpR X (compareOp .NotEq) (rOwnN X.K C sp) := by
  intro pins s σ H x y v u Q I rx ry h
  obtain ⟨a, dx, fs, t, rfl, ha, ty, hn, q⟩ := h
  cases (show v = Value.ref a from rx)
  obtain ⟨mA, J, _⟩ := ins_get I.hok ha
  obtain ⟨od, J, _⟩ := J.look
  obtain ⟨m, hF⟩ := I.fr
  obtain ⟨P, Z, hP, _⟩ := kit_of I ry ty
  show wpAny (model X.prog X.w) X.A (richCompare .NotEq (.ref a) u) (EP X pins σ Q) X.xe s
  refine cmpNe_K (tb := t) (by have := hr.un; omega) hF I.ok.mod.kin J (Z.ty _ _ I.kIn hP) hn hne hm hs hf ?_
  refine wpAny_mono (own_run (x := .ref a) F hb hr.in1 I.env0.in1 I rfl ry q) (fun w s' z => ?_) fun _ _ x => x
  obtain ⟨z', H', I', rz, b, ez, qz⟩ := z
  subst ez
  cases (show w = Value.bool b from rz)
  exact ⟨b, rfl, .bl (!b), H', I', rfl, qz⟩
end
end L2
namespace Fx.Tp
open PySem L2 L2.DX Fx
/-- what own == and isinstance ask of the class, besides TpC -/
structure TpE (K : Fg) (C : Addr) : Prop where
  ha : PySem.W.findIn K (.ref C) "__class__" = some (some (.builtin "object.__class__"))
  hn : PySem.W.specialIn K (.builtin "object.__class__") "__get__" = some (some (.builtin "getset_descriptor.__get__"))
  htk : PySem.W.takesIn K (.builtin "object.__class__") = some true
  hm : PySem.W.mroIn K C (.type "object") = some true
  ti : PySem.W.typeIn K (.ref C) = some (.type "type")
  ne : PySem.W.findIn K (.ref C) "__ne__" = some (some (.builtin "object.__ne__"))
def isTp : D → Bool
  | .obj c _ _ => decide (c = ("Tape" : Str)) | _ => false
def okT : D → Bool
  | .obj c _ _ => decide (c = ("Tape" : Str))
  | .non => true | .bl _ => true | .int _ => true | .str _ => true | .tup _ => true
  | _ => false
theorem sub_ty {K : Fg} {C : Addr} : ∀ a ∈ ["NoneType", "bool", "int", "str", "tuple"], PySem.W.subIn K (.type a) (.ref C) = some false := by
  intro a m
  simp only [List.mem_cons, List.not_mem_nil, or_false] at m
  rcases m with rfl | rfl | rfl | rfl | rfl <;> rfl
theorem ty_any {K : Fg} {C : Addr} {G H : Hp} {x : V} {d : D} (T : TpC K C) (E : TpE K C) (s : Same G H) (r : RepV K G H x d) (h : okT d = true) :
    Rep K G x d ∧ ∃ t, TyX K H x t ∧ PySem.W.notFirst K C t = true ∧ PySem.W.kitOne K t (.ref C) = some (isTp d) := by
  have cls : (PySem.W.clsIn K C).isSome = true := by
    have := T.kc.cl.hd
    unfold PySem.W.hasDictIn at this
    cases e : PySem.W.clsIn K C with
    | none => rw [e] at this; cases this
    | some _ => rfl
  have key : ∀ a ∈ ["NoneType", "bool", "int", "str", "tuple"], PySem.W.notFirst K C (.type a) = true ∧ PySem.W.kitOne K (.type a) (.ref C) = some false := by
    intro a m
    have h1 := sub_ty (K := K) (C := C) a m
    refine ⟨by unfold PySem.W.notFirst; rw [h1]; simp, ?_⟩
    unfold PySem.W.kitOne
    rw [if_neg (by simp)]
    unfold PySem.W.kitCls
    simp only
    rw [if_pos (by rw [cls, E.ti]; simp), h1]
  cases r with
  | sh r =>
    refine ⟨r, ?_⟩
    cases r with
    | non => exact ⟨_, .base .non, key _ (by simp)⟩
    | bl b => exact ⟨_, .base (.bl b), key _ (by simp)⟩
    | int i => exact ⟨_, .base (.int i), key _ (by simp)⟩
    | str x => exact ⟨_, .base (.str x), key _ (by simp)⟩
    | tup h1 r => exact ⟨_, .base (.tup (s _ _ h1)), key _ (by simp)⟩
    | lst h1 r => cases h
    | dk h1 r => cases h
    | dt h1 r => cases h
    | scr h1 => cases h
    | @obj c _ _ _ _ _ _ _ hC h1 _ _ _ =>
      have hc : c = ("Tape" : Str) := by simpa [okT] using h
      subst hc
      have := hC.symm.trans T.kc.at_
      cases this
      refine ⟨_, .base (.ins (s _ _ h1) T.kc.cl E.ha E.hn E.htk E.hm), by simp [PySem.W.notFirst], ?_⟩
      unfold PySem.W.kitOne
      rw [if_pos (by simp)]
      simp [isTp]
  | ol h1 r => cases h
  | dk h1 r => cases h
  | dt h1 r => cases h
/-! ## x == y, x a tape -/
def fOwnE (F : List D → Option C) : List D → Option C
  | [.obj c ns ds, e] => if c = ("Tape" : Str) ∧ okT e = true then F [.obj c ns ds, e] else none
  | _ => none
def fOwnN (F : List D → Option C) : List D → Option C
  | [.obj c ns ds, e] => if c = ("Tape" : Str) ∧ okT e = true then (F [.obj c ns ds, e]).bind fun r => match r with | .sh (.bl b) => some (.sh (.bl (!b))) | _ => none else none
  | _ => none
theorem s_ownE {K : Fg} {C : Addr} {F : List D → Option Fx.C} (T : TpC K C) (E : TpE K C) : OpS K (op2r (rOwnE K C (spP K F))) (fOwnE F) := fun G H vs ds c Q s rv e k => by
  unfold fOwnE at e
  split at e
  · rename_i kc ns fs y
    split at e
    · rename_i hk
      obtain ⟨rfl, hy⟩ := hk
      cases rv with
      | cons r1 rv =>
        cases rv with
        | cons r2 rv =>
          cases rv
          obtain ⟨a, C', dx, xs, rfl, hC, h, _, h1, r⟩ := r1.obj_inv s
          have := hC.symm.trans T.kc.at_
          cases this
          obtain ⟨q1, _⟩ := ty_any T E s r1 (by simp [okT])
          obtain ⟨q2, t, ty, hn, _⟩ := ty_any T E s r2 hy
          exact ⟨_, _, rfl, a, dx, xs, t, rfl, h, ty, hn, _, G, s, .cons q1 (.cons q2 .nil), c, e, k⟩
    · cases e
  · cases e
theorem s_ownN {K : Fg} {C : Addr} {F : List D → Option Fx.C} (T : TpC K C) (E : TpE K C) : OpS K (op2r (rOwnN K C (spP K F))) (fOwnN F) := fun G H vs ds c Q s rv e k => by
  unfold fOwnN at e
  split at e
  · rename_i kc ns fs y
    split at e
    · rename_i hk
      obtain ⟨rfl, hy⟩ := hk
      cases q0 : F [.obj ("Tape" : Str) ns fs, y] with
      | none => rw [q0] at e; cases e
      | some r0 =>
        rw [q0] at e
        simp only [Option.bind_some] at e
        split at e
        · rename_i b
          cases e
          cases rv with
          | cons r1 rv =>
            cases rv with
            | cons r2 rv =>
              cases rv
              obtain ⟨a, C', dx, xs, rfl, hC, h, _, h1, r⟩ := r1.obj_inv s
              have := hC.symm.trans T.kc.at_
              cases this
              obtain ⟨q1, _⟩ := ty_any T E s r1 (by simp [okT])
              obtain ⟨q2, t, ty, hn, _⟩ := ty_any T E s r2 hy
              refine ⟨_, _, rfl, a, dx, xs, t, rfl, h, ty, hn, _, G, s, .cons q1 (.cons q2 .nil), _, q0, fun v G' H' fr sub rc st => ?_⟩
              cases rc with
              | sh rb =>
                cases rb
                exact ⟨b, rfl, k _ G' H' [] sub (.sh (.bl _)) st⟩
        · cases e
    · cases e
  · cases e
/-! ## isinstance(x, Tape) -/
def fIsTp : List D → Option C
  | [d] => if okT d = true then some (.sh (.bl (isTp d))) else none
  | _ => none
def rIsC (K : Fg) (C : Addr) : V → Hp → VK → Prop := fun x H Q => ∃ t b, TyX K H x t ∧ PySem.W.kitOne K t (.ref C) = some b ∧ Q (.bl b) H
theorem s_isTp {K : Fg} {C : Addr} (T : TpC K C) (E : TpE K C) : OpS K (op1r (rIsC K C)) fIsTp := fun G H vs ds c Q s rv e k => by
  unfold fIsTp at e
  split at e
  · rename_i d
    split at e
    · rename_i hd
      cases e
      cases rv with
      | cons r1 rv =>
        cases rv
        obtain ⟨_, t, ty, _, hk⟩ := ty_any T E s r1 hd
        exact ⟨_, rfl, t, _, ty, hk, k.sh s (.bl _)⟩
    · cases e
  · cases e
section
variable {X : Cx} {a : Expr} {o : Opd} {p pos : Pos}
theorem ok_isTp {x : Str} {C : Addr} {p2 : Pos} (T : TpC X.K C) (E : TpE X.K C) (hg : Gl X "isinstance") (hm : X.mg "isinstance" = none) (ha : OOk X a o) (hg2 : Gl X x) (hm2 : X.mg x = some (.ref C))
    (hd2 : (x == ("__debug__" : Str)) = false := by decide)
    (h1 : starEach [a, .Name x p2] X.env = (false, eval a X.env) :: starEach [.Name x p2] X.env := by rfl) (h2 : starEach [.Name x p2] X.env = (false, eval (.Name x p2) X.env) :: starEach [] X.env := by rfl) (hpl : (backTo pos (starEach [.Name x p2] X.env)).any (·.1) = false := by rfl) :
    EOk X (.Call (.Name "isinstance" p) [a, .Name x p2] [] pos) (eO fIsTp [o]) :=
  pe_mono (pe_callB call_isi hg hm (by decide +kernel) (pa_cons ha (pa_cons (pe_glob (v := .ref C) hg2 hm2 rfl hd2) pa_nil h2) h1) (by decide) (by decide) h1 hpl) fun σ H Q q => by
    refine vk_mono_opd o (fun x H1 h => ?_) (tOs1 (tO_tOs (eO_run (s_isTp T E) q)))
    obtain ⟨x', ex, t, b, ty, hk, q1⟩ := h
    cases ex
    exact ⟨_, .ref C, t, .ref C, b, rfl, .own C, ty, hk, q1⟩
theorem ok_ownE {b : Expr} {ob : Opd} {C f : Addr} {fd : FuncData} {k : Nat} {ps : List Str} {F : List D → Option Fx.C} (T : TpC X.K C) (E : TpE X.K C) (M : Meth X.K C "__eq__" f) (hF : FnOk X.prog X.w X.K X.mg X.base CX0 k f fd ps (spP X.K F)) (hb : Binds X.K fd ps []) (hr : Room k X.A) (ha : OOk X a o) (hob : OOk X b ob)
    (hm : behindInMarks .Eq b = false := by first | exact nomark _ | rfl) : EOk X (.Compare a [.Eq] [b] pos) (eO (fOwnE F) [o, ob]) :=
  ok_cmp (op_ownE hF M.at_ M.fn hb hr) (s_ownE T E) ha hob hm
theorem ok_ownN {b : Expr} {ob : Opd} {C f : Addr} {fd : FuncData} {k : Nat} {ps : List Str} {F : List D → Option Fx.C} (T : TpC X.K C) (E : TpE X.K C) (M : Meth X.K C "__eq__" f) (hF : FnOk X.prog X.w X.K X.mg X.base CX0 k f fd ps (spP X.K F)) (hb : Binds X.K fd ps []) (hr : Room (k + 1) X.A) (ha : OOk X a o) (hob : OOk X b ob)
    (hm : behindInMarks .NotEq b = false := by first | exact nomark _ | rfl) : EOk X (.Compare a [.NotEq] [b] pos) (eO (fOwnN F) [o, ob]) :=
  ok_cmp (op_ownN hF M.at_ M.fn hb hr E.ne E.hm) (s_ownN T E) ha hob hm
end
@[simp] theorem fOwnE_v {F : List D → Option C} {c : Str} {ns : List Str} {ds : List D} {e : D} : fOwnE F [.obj c ns ds, e] = if c = ("Tape" : Str) ∧ okT e = true then F [.obj c ns ds, e] else none := rfl
@[simp] theorem fOwnN_v {F : List D → Option C} {c : Str} {ns : List Str} {ds : List D} {e : D} : fOwnN F [.obj c ns ds, e] = if c = ("Tape" : Str) ∧ okT e = true then (F [.obj c ns ds, e]).bind fun r => match r with | .sh (.bl b) => some (.sh (.bl (!b))) | _ => none else none := rfl
@[simp] theorem fIsTp_v {d : D} : fIsTp [d] = if okT d = true then some (.sh (.bl (isTp d))) else none := rfl
end Fx.Tp
set_option Elab.async false
set_option linter.all false
set_option maxRecDepth 100000
set_option maxHeartbeats 4000000
namespace Fx.Tt
open PySem L2 Fx

open Fx.L
/-! ## what is computed -/
noncomputable def c1_u_law_tape : EM :=
  (eCallB F_u_law_take 0 [.one (eSlot 1)])
noncomputable def l1_u_law_tape : SM :=
  (sSeq (sSet 5 (eO fTuple [(.val (eComp [6] (.one 6) (iR1 (.slot 2)) kYes c1_u_law_tape))]))
    (sPut (.sb 3 (.val (eTup [.one (eCallB F_u_law_take 0 [.one (eC (.int 3))]), .one (eCallB F_u_law_take 0 [.one (eC (.int 6))])]))) (eTup [.one (eSlot 5), .one (eCallB F_u_law_take 0 [.one (eSlot 1)])])))
noncomputable def c2_u_law_tape : EM :=
  (eCallB F_u_law_take 0 [.one (eSlot 1)])
noncomputable def b_u_law_tape : SM :=
  (sSeq (sSet 3 eDT)
    (sSeq (sFor (.one 4) (iR1 (.val (eCallB F_u_law_take 0 [.one (eC (.int 4))]))) l1_u_law_tape)
    (sRet (eTup [.one (eSlot 1), .one (eSlot 2), .one (eO fTuple [(.val (eComp [6] (.one 6) (iR1 (.slot 2)) kYes c2_u_law_tape))]), .one (eCallB F_u_law_take 0 [.one (eC (.int 100000))]), .one (eSlot 3)]))))
noncomputable def F_u_law_tape : C → List D → Option (C × C) := fnB 3 7 b_u_law_tape
noncomputable def l1_u_law_signs : SM :=
  (sSet 10 (eO (fII gMod) [(.val (eO fInt [(.val (eO fAdd [(.val (eO fMul [(.slot 10), (.val (eC (.int 48271)))])), (.val (eC (.int 11)))]))])), (.val (eC (.int 2147483647)))]))
noncomputable def l2_u_law_signs : SM :=
  (sSeq (sSet 10 (eO fAdd [(.val (eO fAdd [(.val (eO fAdd [(.slot 6), (.val (eO fMul [(.val (eC (.int 7919))), (.slot 1)]))])), (.val (eO fMul [(.val (eC (.int 104729))), (.slot 2)]))])), (.val (eO fMul [(.val (eC (.int 1299709))), (.slot 9)]))]))
    (sSeq (sFor (.one 11) (iR1 (.val (eC (.int 2)))) l1_u_law_signs)
    (sDrop (eMethL fAppend 8 [.one (eO (fII gMod) [(.val (eO fInt [(.val (eO (fII gDiv) [(.slot 10), (.val (eC (.int 7)))]))])), (.slot 3)])]))))
noncomputable def b_u_law_signs : SM :=
  (sSeq (sUnp [(.nm 3), (.nm 4), (.nm 5), (.nm 6), (.nm 7)] (eSlot 0))
    (sSeq (sIf (kVal (eO fIn [(.val (eTup [.one (eSlot 1), .one (eSlot 2)])), (.slot 7)])) (sRet (eO fDix [(.slot 7), (.val (eTup [.one (eSlot 1), .one (eSlot 2)]))])) sNx)
    (sSeq (sSet 8 (eLst []))
    (sSeq (sFor (.one 9) (iR1 (.val (eO fAdd [(.slot 4), (.val (eC (.int 1)))]))) l2_u_law_signs)
    (sRet (eTup [.one (eO fTuple [(.val (eSl (.slot 8) .no (.at_ (.slot 4))))]), .one (eO fIx [(.slot 8), (.slot 4)])]))))))
noncomputable def F_u_law_signs : List D → Option C := fnP 3 12 b_u_law_signs
noncomputable def F_Tape__copied : List D → Option C := Tp.F_copied
noncomputable def b_stirred : SM :=
  (sRet (eO (fII gMod) [(.val (eO fAdd [(.val (eO fMul [(.slot 0), (.val (eC (.int 48271)))])), (.val (eC (.int 11)))])), (.val (eC (.int 2147483647)))]))
noncomputable def F_stirred : List D → Option C := fnP 1 1 b_stirred
noncomputable def l1_Tape__first : SM :=
  (sDrop (eMethL fAppend 4 [.one (eO (fII gMod) [(.val (eO (fII gDiv) [(.val (eCall F_stirred [.one (eCall F_stirred [.one (eO fAdd [(.slot 3), (.val (eO fMul [(.val (eC (.int 1299709))), (.slot 5)]))])])])), (.val (eC (.int 7)))])), (.val (eO (fFld "Tape" "its_p") [(.slot 0)]))])]))
noncomputable def b_Tape__first : SM :=
  (sSeq (sPar2c 3 4 (eO fAdd [(.val (eO fAdd [(.val (eO (fFld "Tape" "its_seed") [(.slot 0)])), (.val (eO fMul [(.val (eC (.int 7919))), (.slot 1)]))])), (.val (eO fMul [(.val (eC (.int 104729))), (.slot 2)]))]) (eLst []))
    (sSeq (sFor (.one 5) (iR1 (.val (eO fAdd [(.val (eO (fFld "Tape" "its_v") [(.slot 0)])), (.val (eC (.int 1)))]))) l1_Tape__first)
    (sRet (eTup [.one (eO fTuple [(.val (eSl (.slot 4) .no (.at_ (.val (eO fNeg [(.val (eC (.int 1)))])))))]), .one (eO fIx [(.slot 4), (.val (eO fNeg [(.val (eC (.int 1)))]))])]))))
noncomputable def F_Tape__first : List D → Option C := fnP 3 6 b_Tape__first
noncomputable def F_Tape__with_signs : List D → Option C := Tp.F_ws F_Tape__first
noncomputable def c1_u_law_changes : EM :=
  (eO fAdd [(.slot 1), (.val (eO fDix [(.val (eO fIx [(.slot 0), (.val (eC (.int 4)))])), (.slot 1)]))])
noncomputable def b_u_law_changes : SM :=
  (sRet (eO fTuple [(.val (eComp [1] (.one 1) (iV (eO fSortKT [(.val (eO fIx [(.slot 0), (.val (eC (.int 4)))]))])) kYes c1_u_law_changes))]))
noncomputable def F_u_law_changes : List D → Option C := fnP 1 2 b_u_law_changes
noncomputable def b_Tape__signs : SM :=
  (sSeq (sSet 3 (eGetO (eO (fFld "Tape" "its_changes") [(.slot 0)]) (eTup [.one (eSlot 1), .one (eSlot 2)])))
    (sRet (eIf (kVal (eO fIsN [(.slot 3), (.val (eC .non))])) (eMeth "Tape" "first" F_Tape__first (eSlot 0) [.one (eSlot 1), .one (eSlot 2)]) (eSlot 3))))
noncomputable def F_Tape__signs : List D → Option C := fnP 3 4 b_Tape__signs
noncomputable def b_Tape__key : SM :=
  (sRet (eO (fFld "Tape" "its_key") [(.slot 0)]))
noncomputable def F_Tape__key : List D → Option C := fnP 1 1 b_Tape__key
noncomputable def b_Tape__p : SM :=
  (sRet (eO (fFld "Tape" "its_p") [(.slot 0)]))
noncomputable def F_Tape__p : List D → Option C := fnP 1 1 b_Tape__p
/-! ## states by names -/
structure S_u_law_tape where
  v_bag : Option C := none
  v_p : Option C := none
  v_v : Option C := none
  v_changes : Option C := none
  v_turn : Option C := none
  v_pads : Option C := none
  v_at : Option C := none
namespace S_u_law_tape
def e (s : S_u_law_tape) : Fx.Env := [s.v_bag, s.v_p, s.v_v, s.v_changes, s.v_turn, s.v_pads, s.v_at]
variable (s : S_u_law_tape) (c : Option C)
@[simp] theorem g0 : getC s.e 0 = s.v_bag := by unfold e; simp only [getC_s, getC_h]
@[simp] theorem p0 : s.e.set 0 c = ({ s with v_bag := c } : S_u_law_tape).e := rfl
@[simp] theorem i0 : s.e[0]? = some s.v_bag := rfl
@[simp] theorem g1 : getC s.e 1 = s.v_p := by unfold e; simp only [getC_s, getC_h]
@[simp] theorem p1 : s.e.set 1 c = ({ s with v_p := c } : S_u_law_tape).e := rfl
@[simp] theorem i1 : s.e[1]? = some s.v_p := rfl
@[simp] theorem g2 : getC s.e 2 = s.v_v := by unfold e; simp only [getC_s, getC_h]
@[simp] theorem p2 : s.e.set 2 c = ({ s with v_v := c } : S_u_law_tape).e := rfl
@[simp] theorem i2 : s.e[2]? = some s.v_v := rfl
@[simp] theorem g3 : getC s.e 3 = s.v_changes := by unfold e; simp only [getC_s, getC_h]
@[simp] theorem p3 : s.e.set 3 c = ({ s with v_changes := c } : S_u_law_tape).e := rfl
@[simp] theorem i3 : s.e[3]? = some s.v_changes := rfl
@[simp] theorem g4 : getC s.e 4 = s.v_turn := by unfold e; simp only [getC_s, getC_h]
@[simp] theorem p4 : s.e.set 4 c = ({ s with v_turn := c } : S_u_law_tape).e := rfl
@[simp] theorem i4 : s.e[4]? = some s.v_turn := rfl
@[simp] theorem g5 : getC s.e 5 = s.v_pads := by unfold e; simp only [getC_s, getC_h]
@[simp] theorem p5 : s.e.set 5 c = ({ s with v_pads := c } : S_u_law_tape).e := rfl
@[simp] theorem i5 : s.e[5]? = some s.v_pads := rfl
@[simp] theorem g6 : getC s.e 6 = s.v_at := by unfold e; simp only [getC_s, getC_h]
@[simp] theorem p6 : s.e.set 6 c = ({ s with v_at := c } : S_u_law_tape).e := rfl
@[simp] theorem i6 : s.e[6]? = some s.v_at := rfl
@[simp] theorem len_ : s.e.length = 7 := rfl
@[simp] theorem eta_ : (S_u_law_tape.mk s.v_bag s.v_p s.v_v s.v_changes s.v_turn s.v_pads s.v_at) = s := rfl
@[simp] theorem get0_ : get0 s.e = s.v_bag := by unfold e get0; cases s.v_bag <;> rfl
end S_u_law_tape
theorem F_u_law_tape_eq (c0 : C) (d0 d1 : D) : F_u_law_tape c0 [d0, d1] = outB (b_u_law_tape ({ v_bag := some c0, v_p := some (.sh d0), v_v := some (.sh d1) } : S_u_law_tape).e) := fnB_eq (m := b_u_law_tape) rfl
structure S_u_law_signs where
  v_tape : Option C := none
  v_epoch : Option C := none
  v_give : Option C := none
  v_p : Option C := none
  v_v : Option C := none
  v_key : Option C := none
  v_seed : Option C := none
  v_changes : Option C := none
  v_words : Option C := none
  v_at : Option C := none
  v_state : Option C := none
  v_turn : Option C := none
namespace S_u_law_signs
def e (s : S_u_law_signs) : Fx.Env := [s.v_tape, s.v_epoch, s.v_give, s.v_p, s.v_v, s.v_key, s.v_seed, s.v_changes, s.v_words, s.v_at, s.v_state, s.v_turn]
variable (s : S_u_law_signs) (c : Option C)
@[simp] theorem g0 : getC s.e 0 = s.v_tape := by unfold e; simp only [getC_s, getC_h]
@[simp] theorem p0 : s.e.set 0 c = ({ s with v_tape := c } : S_u_law_signs).e := rfl
@[simp] theorem i0 : s.e[0]? = some s.v_tape := rfl
@[simp] theorem g1 : getC s.e 1 = s.v_epoch := by unfold e; simp only [getC_s, getC_h]
@[simp] theorem p1 : s.e.set 1 c = ({ s with v_epoch := c } : S_u_law_signs).e := rfl
@[simp] theorem i1 : s.e[1]? = some s.v_epoch := rfl
@[simp] theorem g2 : getC s.e 2 = s.v_give := by unfold e; simp only [getC_s, getC_h]
@[simp] theorem p2 : s.e.set 2 c = ({ s with v_give := c } : S_u_law_signs).e := rfl
@[simp] theorem i2 : s.e[2]? = some s.v_give := rfl
@[simp] theorem g3 : getC s.e 3 = s.v_p := by unfold e; simp only [getC_s, getC_h]
@[simp] theorem p3 : s.e.set 3 c = ({ s with v_p := c } : S_u_law_signs).e := rfl
@[simp] theorem i3 : s.e[3]? = some s.v_p := rfl
@[simp] theorem g4 : getC s.e 4 = s.v_v := by unfold e; simp only [getC_s, getC_h]
@[simp] theorem p4 : s.e.set 4 c = ({ s with v_v := c } : S_u_law_signs).e := rfl
@[simp] theorem i4 : s.e[4]? = some s.v_v := rfl
@[simp] theorem g5 : getC s.e 5 = s.v_key := by unfold e; simp only [getC_s, getC_h]
@[simp] theorem p5 : s.e.set 5 c = ({ s with v_key := c } : S_u_law_signs).e := rfl
@[simp] theorem i5 : s.e[5]? = some s.v_key := rfl
@[simp] theorem g6 : getC s.e 6 = s.v_seed := by unfold e; simp only [getC_s, getC_h]
@[simp] theorem p6 : s.e.set 6 c = ({ s with v_seed := c } : S_u_law_signs).e := rfl
@[simp] theorem i6 : s.e[6]? = some s.v_seed := rfl
@[simp] theorem g7 : getC s.e 7 = s.v_changes := by unfold e; simp only [getC_s, getC_h]
@[simp] theorem p7 : s.e.set 7 c = ({ s with v_changes := c } : S_u_law_signs).e := rfl
@[simp] theorem i7 : s.e[7]? = some s.v_changes := rfl
@[simp] theorem g8 : getC s.e 8 = s.v_words := by unfold e; simp only [getC_s, getC_h]
@[simp] theorem p8 : s.e.set 8 c = ({ s with v_words := c } : S_u_law_signs).e := rfl
@[simp] theorem i8 : s.e[8]? = some s.v_words := rfl
@[simp] theorem g9 : getC s.e 9 = s.v_at := by unfold e; simp only [getC_s, getC_h]
@[simp] theorem p9 : s.e.set 9 c = ({ s with v_at := c } : S_u_law_signs).e := rfl
@[simp] theorem i9 : s.e[9]? = some s.v_at := rfl
@[simp] theorem g10 : getC s.e 10 = s.v_state := by unfold e; simp only [getC_s, getC_h]
@[simp] theorem p10 : s.e.set 10 c = ({ s with v_state := c } : S_u_law_signs).e := rfl
@[simp] theorem i10 : s.e[10]? = some s.v_state := rfl
@[simp] theorem g11 : getC s.e 11 = s.v_turn := by unfold e; simp only [getC_s, getC_h]
@[simp] theorem p11 : s.e.set 11 c = ({ s with v_turn := c } : S_u_law_signs).e := rfl
@[simp] theorem i11 : s.e[11]? = some s.v_turn := rfl
@[simp] theorem len_ : s.e.length = 12 := rfl
@[simp] theorem eta_ : (S_u_law_signs.mk s.v_tape s.v_epoch s.v_give s.v_p s.v_v s.v_key s.v_seed s.v_changes s.v_words s.v_at s.v_state s.v_turn) = s := rfl
end S_u_law_signs
theorem F_u_law_signs_eq (d0 d1 d2 : D) : F_u_law_signs [d0, d1, d2] = outP (b_u_law_signs ({ v_tape := some (.sh d0), v_epoch := some (.sh d1), v_give := some (.sh d2) } : S_u_law_signs).e) := fnP_eq (m := b_u_law_signs) rfl
structure S_stirred where
  v_state : Option C := none
namespace S_stirred
def e (s : S_stirred) : Fx.Env := [s.v_state]
variable (s : S_stirred) (c : Option C)
@[simp] theorem g0 : getC s.e 0 = s.v_state := by unfold e; simp only [getC_s, getC_h]
@[simp] theorem p0 : s.e.set 0 c = ({ s with v_state := c } : S_stirred).e := rfl
@[simp] theorem i0 : s.e[0]? = some s.v_state := rfl
@[simp] theorem len_ : s.e.length = 1 := rfl
@[simp] theorem eta_ : (S_stirred.mk s.v_state) = s := rfl
end S_stirred
theorem F_stirred_eq (d0 : D) : F_stirred [d0] = outP (b_stirred ({ v_state := some (.sh d0) } : S_stirred).e) := fnP_eq (m := b_stirred) rfl
structure S_Tape__first where
  v_self : Option C := none
  v_epoch : Option C := none
  v_give : Option C := none
  v_begin : Option C := none
  v_found : Option C := none
  v_at : Option C := none
namespace S_Tape__first
def e (s : S_Tape__first) : Fx.Env := [s.v_self, s.v_epoch, s.v_give, s.v_begin, s.v_found, s.v_at]
variable (s : S_Tape__first) (c : Option C)
@[simp] theorem g0 : getC s.e 0 = s.v_self := by unfold e; simp only [getC_s, getC_h]
@[simp] theorem p0 : s.e.set 0 c = ({ s with v_self := c } : S_Tape__first).e := rfl
@[simp] theorem i0 : s.e[0]? = some s.v_self := rfl
@[simp] theorem g1 : getC s.e 1 = s.v_epoch := by unfold e; simp only [getC_s, getC_h]
@[simp] theorem p1 : s.e.set 1 c = ({ s with v_epoch := c } : S_Tape__first).e := rfl
@[simp] theorem i1 : s.e[1]? = some s.v_epoch := rfl
@[simp] theorem g2 : getC s.e 2 = s.v_give := by unfold e; simp only [getC_s, getC_h]
@[simp] theorem p2 : s.e.set 2 c = ({ s with v_give := c } : S_Tape__first).e := rfl
@[simp] theorem i2 : s.e[2]? = some s.v_give := rfl
@[simp] theorem g3 : getC s.e 3 = s.v_begin := by unfold e; simp only [getC_s, getC_h]
@[simp] theorem p3 : s.e.set 3 c = ({ s with v_begin := c } : S_Tape__first).e := rfl
@[simp] theorem i3 : s.e[3]? = some s.v_begin := rfl
@[simp] theorem g4 : getC s.e 4 = s.v_found := by unfold e; simp only [getC_s, getC_h]
@[simp] theorem p4 : s.e.set 4 c = ({ s with v_found := c } : S_Tape__first).e := rfl
@[simp] theorem i4 : s.e[4]? = some s.v_found := rfl
@[simp] theorem g5 : getC s.e 5 = s.v_at := by unfold e; simp only [getC_s, getC_h]
@[simp] theorem p5 : s.e.set 5 c = ({ s with v_at := c } : S_Tape__first).e := rfl
@[simp] theorem i5 : s.e[5]? = some s.v_at := rfl
@[simp] theorem len_ : s.e.length = 6 := rfl
@[simp] theorem eta_ : (S_Tape__first.mk s.v_self s.v_epoch s.v_give s.v_begin s.v_found s.v_at) = s := rfl
end S_Tape__first
theorem F_Tape__first_eq (d0 d1 d2 : D) : F_Tape__first [d0, d1, d2] = outP (b_Tape__first ({ v_self := some (.sh d0), v_epoch := some (.sh d1), v_give := some (.sh d2) } : S_Tape__first).e) := fnP_eq (m := b_Tape__first) rfl
structure S_u_law_changes where
  v_tape : Option C := none
  v_place : Option C := none
namespace S_u_law_changes
def e (s : S_u_law_changes) : Fx.Env := [s.v_tape, s.v_place]
variable (s : S_u_law_changes) (c : Option C)
@[simp] theorem g0 : getC s.e 0 = s.v_tape := by unfold e; simp only [getC_s, getC_h]
@[simp] theorem p0 : s.e.set 0 c = ({ s with v_tape := c } : S_u_law_changes).e := rfl
@[simp] theorem i0 : s.e[0]? = some s.v_tape := rfl
@[simp] theorem g1 : getC s.e 1 = s.v_place := by unfold e; simp only [getC_s, getC_h]
@[simp] theorem p1 : s.e.set 1 c = ({ s with v_place := c } : S_u_law_changes).e := rfl
@[simp] theorem i1 : s.e[1]? = some s.v_place := rfl
@[simp] theorem len_ : s.e.length = 2 := rfl
@[simp] theorem eta_ : (S_u_law_changes.mk s.v_tape s.v_place) = s := rfl
end S_u_law_changes
theorem F_u_law_changes_eq (d0 : D) : F_u_law_changes [d0] = outP (b_u_law_changes ({ v_tape := some (.sh d0) } : S_u_law_changes).e) := fnP_eq (m := b_u_law_changes) rfl
structure S_Tape__signs where
  v_self : Option C := none
  v_epoch : Option C := none
  v_give : Option C := none
  v_found : Option C := none
namespace S_Tape__signs
def e (s : S_Tape__signs) : Fx.Env := [s.v_self, s.v_epoch, s.v_give, s.v_found]
variable (s : S_Tape__signs) (c : Option C)
@[simp] theorem g0 : getC s.e 0 = s.v_self := by unfold e; simp only [getC_s, getC_h]
@[simp] theorem p0 : s.e.set 0 c = ({ s with v_self := c } : S_Tape__signs).e := rfl
@[simp] theorem i0 : s.e[0]? = some s.v_self := rfl
@[simp] theorem g1 : getC s.e 1 = s.v_epoch := by unfold e; simp only [getC_s, getC_h]
@[simp] theorem p1 : s.e.set 1 c = ({ s with v_epoch := c } : S_Tape__signs).e := rfl
@[simp] theorem i1 : s.e[1]? = some s.v_epoch := rfl
@[simp] theorem g2 : getC s.e 2 = s.v_give := by unfold e; simp only [getC_s, getC_h]
@[simp] theorem p2 : s.e.set 2 c = ({ s with v_give := c } : S_Tape__signs).e := rfl
@[simp] theorem i2 : s.e[2]? = some s.v_give := rfl
@[simp] theorem g3 : getC s.e 3 = s.v_found := by unfold e; simp only [getC_s, getC_h]
@[simp] theorem p3 : s.e.set 3 c = ({ s with v_found := c } : S_Tape__signs).e := rfl
@[simp] theorem i3 : s.e[3]? = some s.v_found := rfl
@[simp] theorem len_ : s.e.length = 4 := rfl
@[simp] theorem eta_ : (S_Tape__signs.mk s.v_self s.v_epoch s.v_give s.v_found) = s := rfl
end S_Tape__signs
theorem F_Tape__signs_eq (d0 d1 d2 : D) : F_Tape__signs [d0, d1, d2] = outP (b_Tape__signs ({ v_self := some (.sh d0), v_epoch := some (.sh d1), v_give := some (.sh d2) } : S_Tape__signs).e) := fnP_eq (m := b_Tape__signs) rfl
structure S_Tape__key where
  v_self : Option C := none
namespace S_Tape__key
def e (s : S_Tape__key) : Fx.Env := [s.v_self]
variable (s : S_Tape__key) (c : Option C)
@[simp] theorem g0 : getC s.e 0 = s.v_self := by unfold e; simp only [getC_s, getC_h]
@[simp] theorem p0 : s.e.set 0 c = ({ s with v_self := c } : S_Tape__key).e := rfl
@[simp] theorem i0 : s.e[0]? = some s.v_self := rfl
@[simp] theorem len_ : s.e.length = 1 := rfl
@[simp] theorem eta_ : (S_Tape__key.mk s.v_self) = s := rfl
end S_Tape__key
theorem F_Tape__key_eq (d0 : D) : F_Tape__key [d0] = outP (b_Tape__key ({ v_self := some (.sh d0) } : S_Tape__key).e) := fnP_eq (m := b_Tape__key) rfl
structure S_Tape__p where
  v_self : Option C := none
namespace S_Tape__p
def e (s : S_Tape__p) : Fx.Env := [s.v_self]
variable (s : S_Tape__p) (c : Option C)
@[simp] theorem g0 : getC s.e 0 = s.v_self := by unfold e; simp only [getC_s, getC_h]
@[simp] theorem p0 : s.e.set 0 c = ({ s with v_self := c } : S_Tape__p).e := rfl
@[simp] theorem i0 : s.e[0]? = some s.v_self := rfl
@[simp] theorem len_ : s.e.length = 1 := rfl
@[simp] theorem eta_ : (S_Tape__p.mk s.v_self) = s := rfl
end S_Tape__p
theorem F_Tape__p_eq (d0 : D) : F_Tape__p [d0] = outP (b_Tape__p ({ v_self := some (.sh d0) } : S_Tape__p).e) := fnP_eq (m := b_Tape__p) rfl
end Fx.Tt
set_option Elab.async false
set_option linter.all false
set_option maxRecDepth 100000
set_option maxHeartbeats 4000000
namespace K28
open PySem L2 Fx

open Fx.L
open Fx.Tt
/-! ## what is computed -/
noncomputable def c1_Tape__changes : EM :=
  (eTup [.star (eSlot 1), .star (eSlot 2)])
noncomputable def b_Tape__changes : SM :=
  (sRet (eO fTuple [(.val (eComp [1, 2] (.tup [1, 2]) (iV (eO fSortIt [(.val (eO (fFld "Tape" "its_changes") [(.slot 0)]))])) kYes c1_Tape__changes))]))
noncomputable def F_Tape__changes : List D → Option C := fnP 1 3 b_Tape__changes
noncomputable def b_Tape__width : SM :=
  (sRet (eO (fFld "Tape" "its_v") [(.slot 0)]))
noncomputable def F_Tape__width : List D → Option C := fnP 1 1 b_Tape__width
noncomputable def b_Tape____eq__ : SM :=
  (sSeq (sIf (kNot (kVal (eO Tp.fIsTp [(.slot 1)]))) (sRet (eC (.bl false))) sNx)
    (sSeq (sSet 2 (eTup [.one (eO (fFld "Tape" "its_p") [(.slot 0)]), .one (eO (fFld "Tape" "its_v") [(.slot 0)]), .one (eO (fFld "Tape" "its_key") [(.slot 0)]), .one (eO (fFld "Tape" "its_seed") [(.slot 0)]), .one (eMeth "Tape" "changes" F_Tape__changes (eSlot 0) [])]))
    (sRet (eO fEq [(.slot 2), (.val (eTup [.one (eO (fFld "Tape" "its_p") [(.slot 1)]), .one (eO (fFld "Tape" "its_v") [(.slot 1)]), .one (eO (fFld "Tape" "its_key") [(.slot 1)]), .one (eO (fFld "Tape" "its_seed") [(.slot 1)]), .one (eMeth "Tape" "changes" F_Tape__changes (eSlot 1) [])]))]))))
noncomputable def F_Tape____eq__ : List D → Option C := fnP 2 3 b_Tape____eq__
noncomputable def b_Tape__with_key : SM :=
  (sRet (eMeth "Tape" "copied" F_Tape__copied (eSlot 0) [.one (eSlot 1)]))
noncomputable def F_Tape__with_key : List D → Option C := fnP 2 2 b_Tape__with_key
noncomputable def l1_law : SM :=
  (sIf (kVal (eO fNe [(.val (eO fDix [(.val (eO fIx [(.slot 5), (.val (eC (.int 4)))])), (.slot 9)])), (.val (eCall F_u_law_signs [.one (eO fAdd [(.val (eSl (.slot 5) .no (.at_ (.val (eC (.int 4)))))), (.val (eTup [.one eDT]))]), .one (eO fIx [(.slot 9), (.val (eC (.int 0)))]), .one (eO fIx [(.slot 9), (.val (eC (.int 1)))])]))])) (sDrop (eMethL fAppend 8 [.one (eO fAdd [(.slot 9), (.val (eO fDix [(.val (eO fIx [(.slot 5), (.val (eC (.int 4)))])), (.slot 9)]))])])) sNx)
noncomputable def l2_law : SM :=
  (sSeq (sPar [11, 12] [.one (eCallB F_u_law_take 1 [.one (eC (.int 4))]), .one (eCallB F_u_law_take 1 [.one (eC (.int 7))])])
    (sSeq (sIf (kNot (kVal (eCall F_u_law_alike [.one (eMeth "Tape" "signs" F_Tape__signs (eSlot 7) [.one (eSlot 11), .one (eSlot 12)]), .one (eCall F_u_law_signs [.one (eSlot 5), .one (eSlot 11), .one (eSlot 12)])]))) (sRet (eC (.bl false))) sNx)
    (sIf (kNot (kVal (eCall F_u_law_alike [.one (eMeth "Tape" "signs" F_Tape__signs (eSlot 6) [.one (eSlot 11), .one (eSlot 12)]), .one (eCall F_u_law_signs [.one (eO fAdd [(.val (eSl (.slot 5) .no (.at_ (.val (eC (.int 4)))))), (.val (eTup [.one eDT]))]), .one (eSlot 11), .one (eSlot 12)])]))) (sRet (eC (.bl false))) sNx)))
noncomputable def c1_law : EM :=
  (eCallB F_u_law_take 1 [.one (eSlot 3)])
noncomputable def c2_law : EM :=
  (eCallB F_u_law_take 1 [.one (eSlot 3)])
noncomputable def l3_law : SM :=
  (sSeq (sUnp [(.nm 3), (.nm 4)] (eTup [.one (eCallB F_u_law_some 1 [.one (eLst [.one (eC (.int 5)), .one (eC (.int 7)), .one (eC (.int 101)), .one (eC (.int 10007))])]), .one (eO fAdd [(.val (eC (.int 1))), (.val (eCallB F_u_law_take 1 [.one (eC (.int 16))]))])]))
    (sSeq (sSet 5 (eCallB F_u_law_tape 1 [.one (eSlot 3), .one (eSlot 4)]))
    (sSeq (sSet 6 (Tp.eTape [.one (eSlot 3), .one (eSlot 4), .one (eO fIx [(.slot 5), (.val (eC (.int 2)))]), .one (eO fIx [(.slot 5), (.val (eC (.int 3)))])]))
    (sSeq (sSet 7 (eMeth "Tape" "with_signs" F_Tape__with_signs (eSlot 6) [.one (eCall F_u_law_changes [.one (eSlot 5)])]))
    (sSeq (sSet 8 (eLst []))
    (sSeq (sFor (.one 9) (iV (eO fSortKT [(.val (eO fIx [(.slot 5), (.val (eC (.int 4)))]))])) l1_law)
    (sSeq (sIf (kNot (kVal (eCall F_u_law_alike [.one (eLst [.one (eMeth "Tape" "key" F_Tape__key (eSlot 7) []), .one (eMeth "Tape" "p" F_Tape__p (eSlot 7) []), .one (eMeth "Tape" "width" F_Tape__width (eSlot 7) []), .one (eMeth "Tape" "changes" F_Tape__changes (eSlot 7) []), .one (eMeth "Tape" "changes" F_Tape__changes (eSlot 6) [])]), .one (eLst [.one (eO fIx [(.slot 5), (.val (eC (.int 2)))]), .one (eSlot 3), .one (eSlot 4), .one (eO fTuple [(.slot 8)]), .one (eTup [])])]))) (sRet (eC (.bl false))) sNx)
    (sSeq (sFor (.one 10) (iR1 (.val (eC (.int 6)))) l2_law)
    (sSeq (sPar [11, 12] [.one (eCallB F_u_law_take 1 [.one (eC (.int 3))]), .one (eCallB F_u_law_take 1 [.one (eC (.int 5))])])
    (sSeq (sPar [13, 14] [.one (eO fTuple [(.val (eComp [15] (.one 15) (iR1 (.slot 4)) kYes c1_law))]), .one (eCallB F_u_law_take 1 [.one (eSlot 3)])])
    (sSeq (sSet 16 (eMeth "Tape" "with_signs" F_Tape__with_signs (eSlot 7) [.one (eTup [.one (eTup [.one (eSlot 11), .one (eSlot 12), .one (eSlot 13), .one (eO (fII gMod) [(.val (eO fInt [(.val (eO fAdd [(.slot 14), (.val (eC (.int 1)))]))])), (.slot 3)])]), .one (eTup [.one (eSlot 11), .one (eSlot 12), .one (eSlot 13), .one (eSlot 14)])])]))
    (sSeq (sIf (kOr (kNot (kVal (eCall F_u_law_alike [.one (eMeth "Tape" "signs" F_Tape__signs (eSlot 16) [.one (eSlot 11), .one (eSlot 12)]), .one (eTup [.one (eSlot 13), .one (eSlot 14)])]))) (kVal (eO fNe [(.val (eO (Tp.fOwnE F_Tape____eq__) [(.slot 16), (.slot 7)])), (.val (eO fEq [(.val (eCall F_u_law_signs [.one (eSlot 5), .one (eSlot 11), .one (eSlot 12)])), (.val (eTup [.one (eSlot 13), .one (eSlot 14)]))]))]))) (sRet (eC (.bl false))) sNx)
    (sSeq (sSet 17 (eMeth "Tape" "with_signs" F_Tape__with_signs (eSlot 16) [.one (eTup [.one (eO fAdd [(.val (eTup [.one (eSlot 11), .one (eSlot 12)])), (.val (eCall F_u_law_signs [.one (eSlot 5), .one (eSlot 11), .one (eSlot 12)]))])])]))
    (sSeq (sSet 18 (eO fTuple [(.val (eComp [15] (.one 15) (iR1 (.slot 4)) kYes c2_law))]))
    (sSeq (sIf (kOr (kVal (eO (Tp.fOwnN F_Tape____eq__) [(.slot 17), (.slot 7)])) (kOr (kVal (eO fNe [(.val (eO (Tp.fOwnE F_Tape____eq__) [(.val (eMeth "Tape" "with_key" F_Tape__with_key (eSlot 7) [.one (eSlot 18)])), (.slot 7)])), (.val (eO fEq [(.slot 18), (.val (eO fIx [(.slot 5), (.val (eC (.int 2)))]))]))])) (kOr (kVal (eO fNe [(.val (eMeth "Tape" "key" F_Tape__key (eMeth "Tape" "with_key" F_Tape__with_key (eSlot 7) [.one (eSlot 18)]) [])), (.slot 18)])) (kVal (eO fNe [(.val (eMeth "Tape" "key" F_Tape__key (eSlot 7) [])), (.val (eO fIx [(.slot 5), (.val (eC (.int 2)))]))]))))) (sRet (eC (.bl false))) sNx)
    (sIf (kOr (kVal (eO (Tp.fOwnE F_Tape____eq__) [(.slot 7), (.slot 5)])) (kOr (kVal (eO (Tp.fOwnE F_Tape____eq__) [(.slot 7), (.val (eC (.int 7)))])) (kOr (kVal (eO (Tp.fOwnE F_Tape____eq__) [(.val (Tp.eTape [.one (eSlot 3), .one (eSlot 4), .one (eO fIx [(.slot 5), (.val (eC (.int 2)))]), .one (eO fAdd [(.val (eO fIx [(.slot 5), (.val (eC (.int 3)))])), (.val (eC (.int 1)))])])), (.slot 6)])) (kVal (eO (Tp.fOwnN F_Tape____eq__) [(.val (Tp.eTape [.one (eSlot 3), .one (eSlot 4), .one (eO fIx [(.slot 5), (.val (eC (.int 2)))]), .one (eO fIx [(.slot 5), (.val (eC (.int 3)))])])), (.slot 6)]))))) (sRet (eC (.bl false))) sNx))))))))))))))))
noncomputable def b_law : SM :=
  (sSeq (sSet 1 (eCall F_u_law_bag [.one (eSlot 0)]))
    (sSeq (sFor (.one 2) (iR1 (.val (eC (.int 5)))) l3_law)
    (sRet (eC (.bl true)))))
noncomputable def F_law : List D → Option C := fnP 1 19 b_law
/-! ## states by names -/
structure S_Tape__changes where
  v_self : Option C := none
  v_place : Option C := none
  v_its : Option C := none
namespace S_Tape__changes
def e (s : S_Tape__changes) : Fx.Env := [s.v_self, s.v_place, s.v_its]
variable (s : S_Tape__changes) (c : Option C)
@[simp] theorem g0 : getC s.e 0 = s.v_self := by unfold e; simp only [getC_s, getC_h]
@[simp] theorem p0 : s.e.set 0 c = ({ s with v_self := c } : S_Tape__changes).e := rfl
@[simp] theorem i0 : s.e[0]? = some s.v_self := rfl
@[simp] theorem g1 : getC s.e 1 = s.v_place := by unfold e; simp only [getC_s, getC_h]
@[simp] theorem p1 : s.e.set 1 c = ({ s with v_place := c } : S_Tape__changes).e := rfl
@[simp] theorem i1 : s.e[1]? = some s.v_place := rfl
@[simp] theorem g2 : getC s.e 2 = s.v_its := by unfold e; simp only [getC_s, getC_h]
@[simp] theorem p2 : s.e.set 2 c = ({ s with v_its := c } : S_Tape__changes).e := rfl
@[simp] theorem i2 : s.e[2]? = some s.v_its := rfl
@[simp] theorem len_ : s.e.length = 3 := rfl
@[simp] theorem eta_ : (S_Tape__changes.mk s.v_self s.v_place s.v_its) = s := rfl
end S_Tape__changes
theorem F_Tape__changes_eq (d0 : D) : F_Tape__changes [d0] = outP (b_Tape__changes ({ v_self := some (.sh d0) } : S_Tape__changes).e) := fnP_eq (m := b_Tape__changes) rfl
structure S_Tape__width where
  v_self : Option C := none
namespace S_Tape__width
def e (s : S_Tape__width) : Fx.Env := [s.v_self]
variable (s : S_Tape__width) (c : Option C)
@[simp] theorem g0 : getC s.e 0 = s.v_self := by unfold e; simp only [getC_s, getC_h]
@[simp] theorem p0 : s.e.set 0 c = ({ s with v_self := c } : S_Tape__width).e := rfl
@[simp] theorem i0 : s.e[0]? = some s.v_self := rfl
@[simp] theorem len_ : s.e.length = 1 := rfl
@[simp] theorem eta_ : (S_Tape__width.mk s.v_self) = s := rfl
end S_Tape__width
theorem F_Tape__width_eq (d0 : D) : F_Tape__width [d0] = outP (b_Tape__width ({ v_self := some (.sh d0) } : S_Tape__width).e) := fnP_eq (m := b_Tape__width) rfl
structure S_Tape____eq__ where
  v_self : Option C := none
  v_other : Option C := none
  v_mine : Option C := none
namespace S_Tape____eq__
def e (s : S_Tape____eq__) : Fx.Env := [s.v_self, s.v_other, s.v_mine]
variable (s : S_Tape____eq__) (c : Option C)
@[simp] theorem g0 : getC s.e 0 = s.v_self := by unfold e; simp only [getC_s, getC_h]
@[simp] theorem p0 : s.e.set 0 c = ({ s with v_self := c } : S_Tape____eq__).e := rfl
@[simp] theorem i0 : s.e[0]? = some s.v_self := rfl
@[simp] theorem g1 : getC s.e 1 = s.v_other := by unfold e; simp only [getC_s, getC_h]
@[simp] theorem p1 : s.e.set 1 c = ({ s with v_other := c } : S_Tape____eq__).e := rfl
@[simp] theorem i1 : s.e[1]? = some s.v_other := rfl
@[simp] theorem g2 : getC s.e 2 = s.v_mine := by unfold e; simp only [getC_s, getC_h]
@[simp] theorem p2 : s.e.set 2 c = ({ s with v_mine := c } : S_Tape____eq__).e := rfl
@[simp] theorem i2 : s.e[2]? = some s.v_mine := rfl
@[simp] theorem len_ : s.e.length = 3 := rfl
@[simp] theorem eta_ : (S_Tape____eq__.mk s.v_self s.v_other s.v_mine) = s := rfl
end S_Tape____eq__
theorem F_Tape____eq___eq (d0 d1 : D) : F_Tape____eq__ [d0, d1] = outP (b_Tape____eq__ ({ v_self := some (.sh d0), v_other := some (.sh d1) } : S_Tape____eq__).e) := fnP_eq (m := b_Tape____eq__) rfl
structure S_Tape__with_key where
  v_self : Option C := none
  v_key : Option C := none
namespace S_Tape__with_key
def e (s : S_Tape__with_key) : Fx.Env := [s.v_self, s.v_key]
variable (s : S_Tape__with_key) (c : Option C)
@[simp] theorem g0 : getC s.e 0 = s.v_self := by unfold e; simp only [getC_s, getC_h]
@[simp] theorem p0 : s.e.set 0 c = ({ s with v_self := c } : S_Tape__with_key).e := rfl
@[simp] theorem i0 : s.e[0]? = some s.v_self := rfl
@[simp] theorem g1 : getC s.e 1 = s.v_key := by unfold e; simp only [getC_s, getC_h]
@[simp] theorem p1 : s.e.set 1 c = ({ s with v_key := c } : S_Tape__with_key).e := rfl
@[simp] theorem i1 : s.e[1]? = some s.v_key := rfl
@[simp] theorem len_ : s.e.length = 2 := rfl
@[simp] theorem eta_ : (S_Tape__with_key.mk s.v_self s.v_key) = s := rfl
end S_Tape__with_key
theorem F_Tape__with_key_eq (d0 d1 : D) : F_Tape__with_key [d0, d1] = outP (b_Tape__with_key ({ v_self := some (.sh d0), v_key := some (.sh d1) } : S_Tape__with_key).e) := fnP_eq (m := b_Tape__with_key) rfl
structure S_law where
  v_script : Option C := none
  v_bag : Option C := none
  v_turn : Option C := none
  v_p : Option C := none
  v_v : Option C := none
  v_own : Option C := none
  v_plain : Option C := none
  v_tape : Option C := none
  v_due : Option C := none
  v_place : Option C := none
  v_again : Option C := none
  v_epoch : Option C := none
  v_give : Option C := none
  v_pads : Option C := none
  v_sign : Option C := none
  v_at : Option C := none
  v_other : Option C := none
  v_back : Option C := none
  v_key : Option C := none
namespace S_law
def e (s : S_law) : Fx.Env := [s.v_script, s.v_bag, s.v_turn, s.v_p, s.v_v, s.v_own, s.v_plain, s.v_tape, s.v_due, s.v_place, s.v_again, s.v_epoch, s.v_give, s.v_pads, s.v_sign, s.v_at, s.v_other, s.v_back, s.v_key]
variable (s : S_law) (c : Option C)
@[simp] theorem g0 : getC s.e 0 = s.v_script := by unfold e; simp only [getC_s, getC_h]
@[simp] theorem p0 : s.e.set 0 c = ({ s with v_script := c } : S_law).e := rfl
@[simp] theorem i0 : s.e[0]? = some s.v_script := rfl
@[simp] theorem g1 : getC s.e 1 = s.v_bag := by unfold e; simp only [getC_s, getC_h]
@[simp] theorem p1 : s.e.set 1 c = ({ s with v_bag := c } : S_law).e := rfl
@[simp] theorem i1 : s.e[1]? = some s.v_bag := rfl
@[simp] theorem g2 : getC s.e 2 = s.v_turn := by unfold e; simp only [getC_s, getC_h]
@[simp] theorem p2 : s.e.set 2 c = ({ s with v_turn := c } : S_law).e := rfl
@[simp] theorem i2 : s.e[2]? = some s.v_turn := rfl
@[simp] theorem g3 : getC s.e 3 = s.v_p := by unfold e; simp only [getC_s, getC_h]
@[simp] theorem p3 : s.e.set 3 c = ({ s with v_p := c } : S_law).e := rfl
@[simp] theorem i3 : s.e[3]? = some s.v_p := rfl
@[simp] theorem g4 : getC s.e 4 = s.v_v := by unfold e; simp only [getC_s, getC_h]
@[simp] theorem p4 : s.e.set 4 c = ({ s with v_v := c } : S_law).e := rfl
@[simp] theorem i4 : s.e[4]? = some s.v_v := rfl
@[simp] theorem g5 : getC s.e 5 = s.v_own := by unfold e; simp only [getC_s, getC_h]
@[simp] theorem p5 : s.e.set 5 c = ({ s with v_own := c } : S_law).e := rfl
@[simp] theorem i5 : s.e[5]? = some s.v_own := rfl
@[simp] theorem g6 : getC s.e 6 = s.v_plain := by unfold e; simp only [getC_s, getC_h]
@[simp] theorem p6 : s.e.set 6 c = ({ s with v_plain := c } : S_law).e := rfl
@[simp] theorem i6 : s.e[6]? = some s.v_plain := rfl
@[simp] theorem g7 : getC s.e 7 = s.v_tape := by unfold e; simp only [getC_s, getC_h]
@[simp] theorem p7 : s.e.set 7 c = ({ s with v_tape := c } : S_law).e := rfl
@[simp] theorem i7 : s.e[7]? = some s.v_tape := rfl
@[simp] theorem g8 : getC s.e 8 = s.v_due := by unfold e; simp only [getC_s, getC_h]
@[simp] theorem p8 : s.e.set 8 c = ({ s with v_due := c } : S_law).e := rfl
@[simp] theorem i8 : s.e[8]? = some s.v_due := rfl
@[simp] theorem g9 : getC s.e 9 = s.v_place := by unfold e; simp only [getC_s, getC_h]
@[simp] theorem p9 : s.e.set 9 c = ({ s with v_place := c } : S_law).e := rfl
@[simp] theorem i9 : s.e[9]? = some s.v_place := rfl
@[simp] theorem g10 : getC s.e 10 = s.v_again := by unfold e; simp only [getC_s, getC_h]
@[simp] theorem p10 : s.e.set 10 c = ({ s with v_again := c } : S_law).e := rfl
@[simp] theorem i10 : s.e[10]? = some s.v_again := rfl
@[simp] theorem g11 : getC s.e 11 = s.v_epoch := by unfold e; simp only [getC_s, getC_h]
@[simp] theorem p11 : s.e.set 11 c = ({ s with v_epoch := c } : S_law).e := rfl
@[simp] theorem i11 : s.e[11]? = some s.v_epoch := rfl
@[simp] theorem g12 : getC s.e 12 = s.v_give := by unfold e; simp only [getC_s, getC_h]
@[simp] theorem p12 : s.e.set 12 c = ({ s with v_give := c } : S_law).e := rfl
@[simp] theorem i12 : s.e[12]? = some s.v_give := rfl
@[simp] theorem g13 : getC s.e 13 = s.v_pads := by unfold e; simp only [getC_s, getC_h]
@[simp] theorem p13 : s.e.set 13 c = ({ s with v_pads := c } : S_law).e := rfl
@[simp] theorem i13 : s.e[13]? = some s.v_pads := rfl
@[simp] theorem g14 : getC s.e 14 = s.v_sign := by unfold e; simp only [getC_s, getC_h]
@[simp] theorem p14 : s.e.set 14 c = ({ s with v_sign := c } : S_law).e := rfl
@[simp] theorem i14 : s.e[14]? = some s.v_sign := rfl
@[simp] theorem g15 : getC s.e 15 = s.v_at := by unfold e; simp only [getC_s, getC_h]
@[simp] theorem p15 : s.e.set 15 c = ({ s with v_at := c } : S_law).e := rfl
@[simp] theorem i15 : s.e[15]? = some s.v_at := rfl
@[simp] theorem g16 : getC s.e 16 = s.v_other := by unfold e; simp only [getC_s, getC_h]
@[simp] theorem p16 : s.e.set 16 c = ({ s with v_other := c } : S_law).e := rfl
@[simp] theorem i16 : s.e[16]? = some s.v_other := rfl
@[simp] theorem g17 : getC s.e 17 = s.v_back := by unfold e; simp only [getC_s, getC_h]
@[simp] theorem p17 : s.e.set 17 c = ({ s with v_back := c } : S_law).e := rfl
@[simp] theorem i17 : s.e[17]? = some s.v_back := rfl
@[simp] theorem g18 : getC s.e 18 = s.v_key := by unfold e; simp only [getC_s, getC_h]
@[simp] theorem p18 : s.e.set 18 c = ({ s with v_key := c } : S_law).e := rfl
@[simp] theorem i18 : s.e[18]? = some s.v_key := rfl
@[simp] theorem len_ : s.e.length = 19 := rfl
@[simp] theorem eta_ : (S_law.mk s.v_script s.v_bag s.v_turn s.v_p s.v_v s.v_own s.v_plain s.v_tape s.v_due s.v_place s.v_again s.v_epoch s.v_give s.v_pads s.v_sign s.v_at s.v_other s.v_back s.v_key) = s := rfl
end S_law
theorem F_law_eq (d0 : D) : F_law [d0] = outP (b_law ({ v_script := some (.sh d0) } : S_law).e) := fnP_eq (m := b_law) rfl
end K28
set_option Elab.async false
set_option linter.all false
set_option maxRecDepth 100000
set_option maxHeartbeats 4000000
namespace K28
open PySem L2 Fx

open Fx.L
open Fx.Tt
def top (i : Nat) : Stmt := PySem.Challenge.pw_nolooking_k28_tapes_and_their_changes.main.body.getD i (.Pass ⟨0, 0, 0, 0⟩)
abbrev d_u_law_bag : Stmt := top 10
def N_u_law_bag : List Str := ["script", "cell"]
theorem sc_u_law_bag : FnScope N_u_law_bag ["script"] (defScope d_u_law_bag) := ⟨rfl, rfl, rfl, by decide +kernel, rfl, by decide +kernel, by decide +kernel⟩
def sq_u_law_bag_1 : Scope := nSc (nArg 3 (nV (nSt 0 (defBody d_u_law_bag))))
abbrev d_u_law_take : Stmt := top 11
def N_u_law_take : List Str := ["bag", "many", "cell", "stirred_v", "value", "begin", "second"]
theorem sc_u_law_take : FnScope N_u_law_take ["bag", "many"] (defScope d_u_law_take) := ⟨rfl, rfl, rfl, by decide +kernel, rfl, by decide +kernel, by decide +kernel⟩
abbrev d_u_law_some : Stmt := top 12
def N_u_law_some : List Str := ["bag", "things"]
theorem sc_u_law_some : FnScope N_u_law_some ["bag", "things"] (defScope d_u_law_some) := ⟨rfl, rfl, rfl, by decide +kernel, rfl, by decide +kernel, by decide +kernel⟩
abbrev d_u_law_tape : Stmt := top 15
def N_u_law_tape : List Str := ["bag", "p", "v", "changes", "turn", "pads", "at"]
theorem sc_u_law_tape : FnScope N_u_law_tape ["bag", "p", "v"] (defScope d_u_law_tape) := ⟨rfl, rfl, rfl, by decide +kernel, rfl, by decide +kernel, by decide +kernel⟩
def sq_u_law_tape_1 : Scope := nSc (nArg 0 (nV (nSt 0 (nBody (nSt 1 (defBody d_u_law_tape))))))
def sq_u_law_tape_2 : Scope := nSc (nArg 0 (nArg 2 (nV (nSt 2 (defBody d_u_law_tape)))))
abbrev d_Tape____init__ : Stmt := inClass (top 8) 0
def N_Tape____init__ : List Str := ["self", "p", "v", "key", "seed"]
theorem sc_Tape____init__ : FnScope N_Tape____init__ ["self", "p", "v", "key", "seed"] (defScope d_Tape____init__) := ⟨rfl, rfl, rfl, by decide +kernel, rfl, by decide +kernel, by decide +kernel⟩
abbrev d_Tape__copied : Stmt := inClass (top 8) 7
def N_Tape__copied : List Str := ["self", "key", "found"]
theorem sc_Tape__copied : FnScope N_Tape__copied ["self", "key"] (defScope d_Tape__copied) := ⟨rfl, rfl, rfl, by decide +kernel, rfl, by decide +kernel, by decide +kernel⟩
abbrev d_stirred : Stmt := top 7
def N_stirred : List Str := ["state"]
theorem sc_stirred : FnScope N_stirred ["state"] (defScope d_stirred) := ⟨rfl, rfl, rfl, by decide +kernel, rfl, by decide +kernel, by decide +kernel⟩
abbrev d_Tape__first : Stmt := inClass (top 8) 2
def N_Tape__first : List Str := ["self", "epoch", "give", "begin", "found", "at"]
theorem sc_Tape__first : FnScope N_Tape__first ["self", "epoch", "give"] (defScope d_Tape__first) := ⟨rfl, rfl, rfl, by decide +kernel, rfl, by decide +kernel, by decide +kernel⟩
abbrev d_Tape__with_signs : Stmt := inClass (top 8) 9
def N_Tape__with_signs : List Str := ["self", "some", "found", "epoch", "give", "pads", "sign"]
theorem sc_Tape__with_signs : FnScope N_Tape__with_signs ["self", "some"] (defScope d_Tape__with_signs) := ⟨rfl, rfl, rfl, by decide +kernel, rfl, by decide +kernel, by decide +kernel⟩
abbrev d_u_law_changes : Stmt := top 16
def N_u_law_changes : List Str := ["tape", "place"]
theorem sc_u_law_changes : FnScope N_u_law_changes ["tape"] (defScope d_u_law_changes) := ⟨rfl, rfl, rfl, by decide +kernel, rfl, by decide +kernel, by decide +kernel⟩
def sq_u_law_changes_1 : Scope := nSc (nArg 0 (nV (nSt 0 (defBody d_u_law_changes))))
abbrev d_u_law_signs : Stmt := top 14
def N_u_law_signs : List Str := ["tape", "epoch", "give", "p", "v", "key", "seed", "changes", "words", "at", "state", "turn"]
theorem sc_u_law_signs : FnScope N_u_law_signs ["tape", "epoch", "give"] (defScope d_u_law_signs) := ⟨rfl, rfl, rfl, by decide +kernel, rfl, by decide +kernel, by decide +kernel⟩
abbrev d_u_law_alike : Stmt := top 13
def N_u_law_alike : List Str := ["found", "due", "pairs", "at", "one", "other"]
theorem sc_u_law_alike : FnScope N_u_law_alike ["found", "due"] (defScope d_u_law_alike) := ⟨rfl, rfl, rfl, by decide +kernel, rfl, by decide +kernel, by decide +kernel⟩
abbrev d_Tape__changes : Stmt := inClass (top 8) 10
def N_Tape__changes : List Str := ["self", "place", "its"]
theorem sc_Tape__changes : FnScope N_Tape__changes ["self"] (defScope d_Tape__changes) := ⟨rfl, rfl, rfl, by decide +kernel, rfl, by decide +kernel, by decide +kernel⟩
def sq_Tape__changes_1 : Scope := nSc (nArg 0 (nV (nSt 0 (defBody d_Tape__changes))))
abbrev d_Tape__width : Stmt := inClass (top 8) 6
def N_Tape__width : List Str := ["self"]
theorem sc_Tape__width : FnScope N_Tape__width ["self"] (defScope d_Tape__width) := ⟨rfl, rfl, rfl, by decide +kernel, rfl, by decide +kernel, by decide +kernel⟩
abbrev d_Tape__p : Stmt := inClass (top 8) 5
def N_Tape__p : List Str := ["self"]
theorem sc_Tape__p : FnScope N_Tape__p ["self"] (defScope d_Tape__p) := ⟨rfl, rfl, rfl, by decide +kernel, rfl, by decide +kernel, by decide +kernel⟩
abbrev d_Tape__key : Stmt := inClass (top 8) 4
def N_Tape__key : List Str := ["self"]
theorem sc_Tape__key : FnScope N_Tape__key ["self"] (defScope d_Tape__key) := ⟨rfl, rfl, rfl, by decide +kernel, rfl, by decide +kernel, by decide +kernel⟩
abbrev d_Tape__signs : Stmt := inClass (top 8) 3
def N_Tape__signs : List Str := ["self", "epoch", "give", "found"]
theorem sc_Tape__signs : FnScope N_Tape__signs ["self", "epoch", "give"] (defScope d_Tape__signs) := ⟨rfl, rfl, rfl, by decide +kernel, rfl, by decide +kernel, by decide +kernel⟩
abbrev d_Tape____eq__ : Stmt := inClass (top 8) 1
def N_Tape____eq__ : List Str := ["self", "other", "mine"]
theorem sc_Tape____eq__ : FnScope N_Tape____eq__ ["self", "other"] (defScope d_Tape____eq__) := ⟨rfl, rfl, rfl, by decide +kernel, rfl, by decide +kernel, by decide +kernel⟩
abbrev d_Tape__with_key : Stmt := inClass (top 8) 8
def N_Tape__with_key : List Str := ["self", "key"]
theorem sc_Tape__with_key : FnScope N_Tape__with_key ["self", "key"] (defScope d_Tape__with_key) := ⟨rfl, rfl, rfl, by decide +kernel, rfl, by decide +kernel, by decide +kernel⟩
abbrev d_law : Stmt := top 17
def N_law : List Str := ["script", "bag", "turn", "p", "v", "own", "plain", "tape", "due", "place", "again", "epoch", "give", "pads", "sign", "at", "other", "back", "key"]
theorem sc_law : FnScope N_law ["script"] (defScope d_law) := ⟨rfl, rfl, rfl, by decide +kernel, rfl, by decide +kernel, by decide +kernel⟩
def sq_law_1 : Scope := nSc (nArg 0 (nArg 0 (nV (nSt 9 (nBody (nSt 1 (defBody d_law)))))))
def sq_law_2 : Scope := nSc (nArg 0 (nV (nSt 13 (nBody (nSt 1 (defBody d_law))))))
/-! ## what the top has written -/
structure Ad where
  a_u_law_bag : Addr
  f_u_law_bag : FuncData
  a_u_law_take : Addr
  f_u_law_take : FuncData
  a_u_law_some : Addr
  f_u_law_some : FuncData
  a_u_law_tape : Addr
  f_u_law_tape : FuncData
  a_Tape____init__ : Addr
  f_Tape____init__ : FuncData
  a_Tape__copied : Addr
  f_Tape__copied : FuncData
  a_stirred : Addr
  f_stirred : FuncData
  a_Tape__first : Addr
  f_Tape__first : FuncData
  a_Tape__with_signs : Addr
  f_Tape__with_signs : FuncData
  a_u_law_changes : Addr
  f_u_law_changes : FuncData
  a_u_law_signs : Addr
  f_u_law_signs : FuncData
  a_u_law_alike : Addr
  f_u_law_alike : FuncData
  a_Tape__changes : Addr
  f_Tape__changes : FuncData
  a_Tape__width : Addr
  f_Tape__width : FuncData
  a_Tape__p : Addr
  f_Tape__p : FuncData
  a_Tape__key : Addr
  f_Tape__key : FuncData
  a_Tape__signs : Addr
  f_Tape__signs : FuncData
  a_Tape____eq__ : Addr
  f_Tape____eq__ : FuncData
  a_Tape__with_key : Addr
  f_Tape__with_key : FuncData
  a_law : Addr
  f_law : FuncData
  C_Tape : Addr

structure Txt (w : World) (K : PySem.W.Frag) (mg : Str → Option Value) (a : Ad) : Prop where
  k_u_law_bag : PySem.W.keepIn K (.ref a.a_u_law_bag) = true
  F_u_law_bag : Fun K "_law_bag" "_law_bag" d_u_law_bag a.a_u_law_bag a.f_u_law_bag
  b_u_law_bag : Binds K a.f_u_law_bag ["script"] []
  k_u_law_take : PySem.W.keepIn K (.ref a.a_u_law_take) = true
  F_u_law_take : Fun K "_law_take" "_law_take" d_u_law_take a.a_u_law_take a.f_u_law_take
  b_u_law_take : Binds K a.f_u_law_take ["bag", "many"] []
  k_u_law_some : PySem.W.keepIn K (.ref a.a_u_law_some) = true
  F_u_law_some : Fun K "_law_some" "_law_some" d_u_law_some a.a_u_law_some a.f_u_law_some
  b_u_law_some : Binds K a.f_u_law_some ["bag", "things"] []
  k_u_law_tape : PySem.W.keepIn K (.ref a.a_u_law_tape) = true
  F_u_law_tape : Fun K "_law_tape" "_law_tape" d_u_law_tape a.a_u_law_tape a.f_u_law_tape
  b_u_law_tape : Binds K a.f_u_law_tape ["bag", "p", "v"] []
  k_Tape____init__ : PySem.W.keepIn K (.ref a.a_Tape____init__) = true
  F_Tape____init__ : Fun K "__init__" "Tape.__init__" d_Tape____init__ a.a_Tape____init__ a.f_Tape____init__
  M_Tape____init__ : Meth K a.C_Tape "__init__" a.a_Tape____init__
  b_Tape____init__ : Binds K a.f_Tape____init__ ["self", "p", "v", "key", "seed"] []
  k_Tape__copied : PySem.W.keepIn K (.ref a.a_Tape__copied) = true
  F_Tape__copied : Fun K "copied" "Tape.copied" d_Tape__copied a.a_Tape__copied a.f_Tape__copied
  M_Tape__copied : Meth K a.C_Tape "copied" a.a_Tape__copied
  b_Tape__copied : Binds K a.f_Tape__copied ["self", "key"] []
  k_stirred : PySem.W.keepIn K (.ref a.a_stirred) = true
  F_stirred : Fun K "stirred" "stirred" d_stirred a.a_stirred a.f_stirred
  b_stirred : Binds K a.f_stirred ["state"] []
  k_Tape__first : PySem.W.keepIn K (.ref a.a_Tape__first) = true
  F_Tape__first : Fun K "first" "Tape.first" d_Tape__first a.a_Tape__first a.f_Tape__first
  M_Tape__first : Meth K a.C_Tape "first" a.a_Tape__first
  b_Tape__first : Binds K a.f_Tape__first ["self", "epoch", "give"] []
  k_Tape__with_signs : PySem.W.keepIn K (.ref a.a_Tape__with_signs) = true
  F_Tape__with_signs : Fun K "with_signs" "Tape.with_signs" d_Tape__with_signs a.a_Tape__with_signs a.f_Tape__with_signs
  M_Tape__with_signs : Meth K a.C_Tape "with_signs" a.a_Tape__with_signs
  b_Tape__with_signs : Binds K a.f_Tape__with_signs ["self", "some"] []
  k_u_law_changes : PySem.W.keepIn K (.ref a.a_u_law_changes) = true
  F_u_law_changes : Fun K "_law_changes" "_law_changes" d_u_law_changes a.a_u_law_changes a.f_u_law_changes
  b_u_law_changes : Binds K a.f_u_law_changes ["tape"] []
  k_u_law_signs : PySem.W.keepIn K (.ref a.a_u_law_signs) = true
  F_u_law_signs : Fun K "_law_signs" "_law_signs" d_u_law_signs a.a_u_law_signs a.f_u_law_signs
  b_u_law_signs : Binds K a.f_u_law_signs ["tape", "epoch", "give"] []
  k_u_law_alike : PySem.W.keepIn K (.ref a.a_u_law_alike) = true
  F_u_law_alike : Fun K "_law_alike" "_law_alike" d_u_law_alike a.a_u_law_alike a.f_u_law_alike
  b_u_law_alike : Binds K a.f_u_law_alike ["found", "due"] []
  k_Tape__changes : PySem.W.keepIn K (.ref a.a_Tape__changes) = true
  F_Tape__changes : Fun K "changes" "Tape.changes" d_Tape__changes a.a_Tape__changes a.f_Tape__changes
  M_Tape__changes : Meth K a.C_Tape "changes" a.a_Tape__changes
  b_Tape__changes : Binds K a.f_Tape__changes ["self"] []
  k_Tape__width : PySem.W.keepIn K (.ref a.a_Tape__width) = true
  F_Tape__width : Fun K "width" "Tape.width" d_Tape__width a.a_Tape__width a.f_Tape__width
  M_Tape__width : Meth K a.C_Tape "width" a.a_Tape__width
  b_Tape__width : Binds K a.f_Tape__width ["self"] []
  k_Tape__p : PySem.W.keepIn K (.ref a.a_Tape__p) = true
  F_Tape__p : Fun K "p" "Tape.p" d_Tape__p a.a_Tape__p a.f_Tape__p
  M_Tape__p : Meth K a.C_Tape "p" a.a_Tape__p
  b_Tape__p : Binds K a.f_Tape__p ["self"] []
  k_Tape__key : PySem.W.keepIn K (.ref a.a_Tape__key) = true
  F_Tape__key : Fun K "key" "Tape.key" d_Tape__key a.a_Tape__key a.f_Tape__key
  M_Tape__key : Meth K a.C_Tape "key" a.a_Tape__key
  b_Tape__key : Binds K a.f_Tape__key ["self"] []
  k_Tape__signs : PySem.W.keepIn K (.ref a.a_Tape__signs) = true
  F_Tape__signs : Fun K "signs" "Tape.signs" d_Tape__signs a.a_Tape__signs a.f_Tape__signs
  M_Tape__signs : Meth K a.C_Tape "signs" a.a_Tape__signs
  b_Tape__signs : Binds K a.f_Tape__signs ["self", "epoch", "give"] []
  k_Tape____eq__ : PySem.W.keepIn K (.ref a.a_Tape____eq__) = true
  F_Tape____eq__ : Fun K "__eq__" "Tape.__eq__" d_Tape____eq__ a.a_Tape____eq__ a.f_Tape____eq__
  M_Tape____eq__ : Meth K a.C_Tape "__eq__" a.a_Tape____eq__
  b_Tape____eq__ : Binds K a.f_Tape____eq__ ["self", "other"] []
  k_Tape__with_key : PySem.W.keepIn K (.ref a.a_Tape__with_key) = true
  F_Tape__with_key : Fun K "with_key" "Tape.with_key" d_Tape__with_key a.a_Tape__with_key a.f_Tape__with_key
  M_Tape__with_key : Meth K a.C_Tape "with_key" a.a_Tape__with_key
  b_Tape__with_key : Binds K a.f_Tape__with_key ["self", "key"] []
  k_law : PySem.W.keepIn K (.ref a.a_law) = true
  F_law : Fun K "law" "law" d_law a.a_law a.f_law
  b_law : Binds K a.f_law ["script"] []
  C_Tape : Tp.TpC K a.C_Tape
  Mk_Tape : Mk K a.C_Tape a.a_Tape____init__
  m_Tape : mg "Tape" = some (.ref a.C_Tape)
  E_Tape : Tp.TpE K a.C_Tape
  m_u_law_alike : mg "_law_alike" = some (.ref a.a_u_law_alike)
  m_u_law_bag : mg "_law_bag" = some (.ref a.a_u_law_bag)
  m_u_law_changes : mg "_law_changes" = some (.ref a.a_u_law_changes)
  m_u_law_signs : mg "_law_signs" = some (.ref a.a_u_law_signs)
  m_u_law_some : mg "_law_some" = some (.ref a.a_u_law_some)
  m_u_law_take : mg "_law_take" = some (.ref a.a_u_law_take)
  m_u_law_tape : mg "_law_tape" = some (.ref a.a_u_law_tape)
  m_stirred : mg "stirred" = some (.ref a.a_stirred)
  z_abs : mg "abs" = none
  z_bool : mg "bool" = none
  z_dict : mg "dict" = none
  z_int : mg "int" = none
  z_isinstance : mg "isinstance" = none
  z_len : mg "len" = none
  z_list : mg "list" = none
  z_range : mg "range" = none
  z_sorted : mg "sorted" = none
  z_str : mg "str" = none
  z_tuple : mg "tuple" = none
  z_zip : mg "zip" = none
  c_BY_EPOCH : ∃ t, mg "BY_EPOCH" = some (.int 7919 t)
  c_BY_GIVE : ∃ t, mg "BY_GIVE" = some (.int 104729 t)
  c_BY_INDEX : ∃ t, mg "BY_INDEX" = some (.int 1299709 t)
  c_FACTOR : ∃ t, mg "FACTOR" = some (.int 48271 t)
  c_MODULUS : ∃ t, mg "MODULUS" = some (.int 2147483647 t)
  c_STEP : ∃ t, mg "STEP" = some (.int 11 t)
section
variable {P : Program} {w : World} {K : PySem.W.Frag} {mg : Str → Option Value} {base : Heap} {a : Ad}
theorem o_u_law_bag (T : Txt w K mg a) : FnOk P w K mg base CX0 1 a.a_u_law_bag a.f_u_law_bag ["script"] (spP K F_u_law_bag) := by
  refine fokP (N := N_u_law_bag) (k := 0) T.F_u_law_bag sc_u_law_bag fun cdv A outer s H E hr => ?_
  exact (ss_one (s_ret (ok_lst (paa_cons ok_int (paa_cons ok_int (paa_cons ok_int (paa_cons (ok_comp [("cell", 1)] rfl sc_u_law_bag.nd (i_seq (ok_sl (pv 0) part_no (part_at ok_int))) (blkOk_by (N := N_u_law_bag) (sc := defScope d_u_law_bag) (by decide +kernel)) (fun _ _ _ _ _ => (g_one sc_u_law_bag.nd rfl (by first | exact .inl rfl | exact .inr rfl))) (fun _ _ _ _ _ => ts_nil) (fun _ _ _ _ _ => (ok_callB call_abs s_abs (by rfl) T.z_abs (by decide +kernel) (pao_cons (pv 1) pao_nil)))) paa_nil)))))))
theorem o_u_law_take (T : Txt w K mg a) : FnOk P w K mg base CX0 1 a.a_u_law_take a.f_u_law_take ["bag", "many"] (spB K F_u_law_take) := by
  refine fokB (N := N_u_law_take) (k := 0) T.F_u_law_take sc_u_law_take fun cdv A outer s H E hr => ?_
  exact (ss_cons (s_if (kVal_cmp (op_eqD hr.units) s_eq (ok_ix ix_seq s_ix (pv 0) ok_int) ok_int) (ss_cons (s_set (i := 2) (by decide) (ok_ix ix_seq s_ix (ok_op op_addAll s_add (ok_sl (ok_ix ix_seq s_ix (pv 0) ok_int) (part_at (ok_ix ix_seq s_ix (pv 0) ok_int)) part_no) (ok_lst (paa_cons ok_int paa_nil))) ok_int) sc_u_law_take.nd rfl (by first | exact .inl rfl | exact .inr rfl)) (ss_cons (s_augIx (pv 0) ok_int ok_int ip_add) (ss_cons (s_if (kVal_cmp op_ge s_ge (pv 2) (ok_op op_pow s_pow ok_int ok_int)) (ss_one (s_put (by decide) (ok_slot (pv 2)) (gg_sb hr (pv 0) ok_int))) ss_nil) (ss_cons (s_set (i := 3) (by decide) (ok_op op_addAll s_add (ok_op op_addAll s_add (ok_op op_mulAll s_mul (ok_ix ix_seq s_ix (pv 0) ok_int) ok_int) (ok_op op_mod s_mod (ok_callTy call_int1 s_int (by rfl) T.z_int (by decide +kernel) (pao_cons (pv 2) pao_nil)) ok_int)) (ok_op op_mulAll s_mul ok_int (ok_ix ix_seq s_ix (pv 0) ok_int))) sc_u_law_take.nd rfl (by first | exact .inl rfl | exact .inr rfl)) (ss_one (s_put (by decide) (ok_op op_mod s_mod (ok_callTy call_int1 s_int (by rfl) T.z_int (by decide +kernel) (pao_cons (pv 3) pao_nil)) ok_int) (gg_sb hr (pv 0) ok_int))))))) ss_nil) (ss_cons (s_if (kVal_cmp op_gt s_gt (ok_ix ix_seq s_ix (pv 0) ok_int) ok_int) (ss_cons (s_set (i := 4) (by decide) (ok_op op_mod s_mod (ok_callTy call_int1 s_int (by rfl) T.z_int (by decide +kernel) (pao_cons (ok_ix ix_seq s_ix (pv 0) ok_int) pao_nil)) (pv 1)) sc_u_law_take.nd rfl (by first | exact .inl rfl | exact .inr rfl)) (ss_cons (s_put (by decide) (ok_op op_fdiv s_div (ok_callTy call_int1 s_int (by rfl) T.z_int (by decide +kernel) (pao_cons (ok_ix ix_seq s_ix (pv 0) ok_int) pao_nil)) (pv 1)) (gg_sb hr (pv 0) ok_int)) (ss_one (s_ret (ok_move (pv 4)))))) ss_nil) (ss_cons (s_set (i := 5) (by decide) (ok_op op_mod s_mod (ok_callTy call_int1 s_int (by rfl) T.z_int (by decide +kernel) (pao_cons (ok_op op_mulAll s_mul (ok_op op_addAll s_add (ok_ix ix_seq s_ix (pv 0) ok_int) ok_int) ok_int) pao_nil)) ok_int) sc_u_law_take.nd rfl (by first | exact .inl rfl | exact .inr rfl)) (ss_cons (s_set (i := 6) (by decide) (ok_op op_mod s_mod (ok_callTy call_int1 s_int (by rfl) T.z_int (by decide +kernel) (pao_cons (ok_op op_mulAll s_mul (ok_op op_mod s_mod (ok_callTy call_int1 s_int (by rfl) T.z_int (by decide +kernel) (pao_cons (ok_op op_mulAll s_mul (pv 5) (pv 5)) pao_nil)) ok_int) ok_int) pao_nil)) ok_int) sc_u_law_take.nd rfl (by first | exact .inl rfl | exact .inr rfl)) (ss_one (s_ret (ok_op op_mod s_mod (ok_callTy call_int1 s_int (by rfl) T.z_int (by decide +kernel) (pao_cons (ok_op op_fdiv s_div (pv 6) ok_int) pao_nil)) (pv 1))))))))
theorem o_u_law_some (T : Txt w K mg a) : FnOk P w K mg base CX0 2 a.a_u_law_some a.f_u_law_some ["bag", "things"] (spB K F_u_law_some) := by
  refine fokB (N := N_u_law_some) (k := 1) T.F_u_law_some sc_u_law_some fun cdv A outer s H E hr => ?_
  exact (ss_one (s_ret (ok_ix ix_seq s_ix (pv 1) (ok_callB' (o_u_law_take T) (hr.mono (by decide)) (by rfl) T.m_u_law_take T.k_u_law_take T.b_u_law_take (pv 0) (paa_cons (ok_callB call_lenA s_len (by rfl) T.z_len (by decide +kernel) (pao_cons (pv 1) pao_nil)) paa_nil)))))
theorem o_u_law_tape (T : Txt w K mg a) : FnOk P w K mg base CX0 2 a.a_u_law_tape a.f_u_law_tape ["bag", "p", "v"] (spB K F_u_law_tape) := by
  refine fokB (N := N_u_law_tape) (k := 1) T.F_u_law_tape sc_u_law_tape fun cdv A outer s H E hr => ?_
  exact (ss_cons (s_set (i := 3) (by decide) ok_dt sc_u_law_tape.nd rfl (by first | exact .inl rfl | exact .inr rfl)) (ss_cons (s_for (by decide) PassesOwn.never rfl (i_rng1 (by rfl) T.z_range (pao_cons (ok_callB' (o_u_law_take T) (hr.mono (by decide)) (by rfl) T.m_u_law_take T.k_u_law_take T.b_u_law_take (pv 0) (paa_cons ok_int paa_nil)) pao_nil)) (g_one sc_u_law_tape.nd rfl (by first | exact .inl rfl | exact .inr rfl)) (ss_cons (s_set (i := 5) (by decide) (ok_callTy call_tuple_of s_tuple (by rfl) T.z_tuple (by decide +kernel) (pao_cons (ok_comp [("at", 6)] rfl sc_u_law_tape.nd (i_rng1 (by rfl) T.z_range (pao_cons (pv 2) pao_nil)) (blkOk_by (N := N_u_law_tape) (sc := defScope d_u_law_tape) (by decide +kernel)) (fun _ _ _ _ _ => (g_one sc_u_law_tape.nd rfl (by first | exact .inl rfl | exact .inr rfl))) (fun _ _ _ _ _ => ts_nil) (fun _ _ _ _ _ => (ok_callB' (o_u_law_take T) (hr.mono (by decide)) (by rfl) T.m_u_law_take T.k_u_law_take T.b_u_law_take (pv 0) (paa_cons (ok_slot (pv 1)) paa_nil)))) pao_nil)) sc_u_law_tape.nd rfl (by first | exact .inl rfl | exact .inr rfl)) (ss_one (s_put (by decide) (ok_tup (paa_cons (ok_slot (pv 5)) (paa_cons (ok_callB' (o_u_law_take T) (hr.mono (by decide)) (by rfl) T.m_u_law_take T.k_u_law_take T.b_u_law_take (pv 0) (paa_cons (ok_slot (pv 1)) paa_nil)) paa_nil))) (gg_sb hr (pv 3) (ok_tup (paa_cons (ok_callB' (o_u_law_take T) (hr.mono (by decide)) (by rfl) T.m_u_law_take T.k_u_law_take T.b_u_law_take (pv 0) (paa_cons ok_int paa_nil)) (paa_cons (ok_callB' (o_u_law_take T) (hr.mono (by decide)) (by rfl) T.m_u_law_take T.k_u_law_take T.b_u_law_take (pv 0) (paa_cons ok_int paa_nil)) paa_nil)))))))) (ss_one (s_ret (ok_tup (paa_cons (ok_slot (pv 1)) (paa_cons (ok_slot (pv 2)) (paa_cons (ok_callTy call_tuple_of s_tuple (by rfl) T.z_tuple (by decide +kernel) (pao_cons (ok_comp [("at", 6)] rfl sc_u_law_tape.nd (i_rng1 (by rfl) T.z_range (pao_cons (pv 2) pao_nil)) (blkOk_by (N := N_u_law_tape) (sc := defScope d_u_law_tape) (by decide +kernel)) (fun _ _ _ _ _ => (g_one sc_u_law_tape.nd rfl (by first | exact .inl rfl | exact .inr rfl))) (fun _ _ _ _ _ => ts_nil) (fun _ _ _ _ _ => (ok_callB' (o_u_law_take T) (hr.mono (by decide)) (by rfl) T.m_u_law_take T.k_u_law_take T.b_u_law_take (pv 0) (paa_cons (ok_slot (pv 1)) paa_nil)))) pao_nil)) (paa_cons (ok_callB' (o_u_law_take T) (hr.mono (by decide)) (by rfl) T.m_u_law_take T.k_u_law_take T.b_u_law_take (pv 0) (paa_cons ok_int paa_nil)) (paa_cons (ok_slot (pv 3)) paa_nil))))))))))
theorem o_Tape____init__ (T : Txt w K mg a) : FnOk P w K mg base CX0 1 a.a_Tape____init__ a.f_Tape____init__ ["self", "p", "v", "key", "seed"] (Tp.spInit a.C_Tape) := by
  refine T.F_Tape____init__.ok sc_Tape____init__ (fun vs H Q E h => Tp.init_len h) (fun cdv A outer s H vs Q E hr h => ?_)
  exact ⟨_, pss_cons (ps_asg (pe_tup (pa_cons (pv 1) (pa_cons (pv 2) (pa_cons (pv 3) (pa_cons (pv 4) pa_nil))))) (pg_tup rfl (pgs_cons (pg_fld (pv 0)) (pgs_cons (pg_fld (pv 0)) (pgs_cons (pg_fld (pv 0)) (pgs_cons (pg_fld (pv 0)) pgs_nil)))))) (pss_one (ps_fld (pv 0) pe_dnewT rfl)), Tp.init_read T.C_Tape h⟩
theorem o_Tape__copied (T : Txt w K mg a) : FnOk P w K mg base CX0 3 a.a_Tape__copied a.f_Tape__copied ["self", "key"] (Tp.spCop w a.C_Tape) := by
  refine T.F_Tape__copied.ok sc_Tape__copied (fun vs H Q E h => Tp.copied_len h) (fun cdv A outer s H vs Q E hr h => ?_)
  exact ⟨_, pss_cons (ps_set (i := 2) sc_Tape__copied.nd rfl (Or.inl rfl) (pe_make T.Mk_Tape (o_Tape____init__ T) hr (by rfl) T.m_Tape T.b_Tape____init__ .nil pass0 (pa_cons (pe_fld (pv 0) rfl) (pa_cons (pe_fld (pv 0) rfl) (pa_cons (pv 1) (pa_cons (pe_fld (pv 0) rfl) pa_nil)))))) (pss_cons (ps_fld (pv 2) (pe_callTy (DX.call_dictT hr) (by rfl) T.z_dict (by decide +kernel) (pa_cons (pe_fld (pv 0) rfl) pa_nil)) rfl) (pss_one (ps_ret (pv 2)))), Tp.copied_read (E0 := E) T.C_Tape h⟩
theorem oP_Tape__copied (T : Txt w K mg a) : FnOk P w K mg base CX0 3 a.a_Tape__copied a.f_Tape__copied ["self", "key"] (spP K F_Tape__copied) := Tp.fn_sub (o_Tape__copied T) fun vs H Q E h => Tp.copied_spP T.C_Tape h
theorem o_stirred (T : Txt w K mg a) : FnOk P w K mg base CX0 1 a.a_stirred a.f_stirred ["state"] (spP K F_stirred) := by
  refine fokP (N := N_stirred) (k := 0) T.F_stirred sc_stirred fun cdv A outer s H E hr => ?_
  exact (ss_one (s_ret (ok_op op_mod s_mod (ok_op op_addAll s_add (ok_op op_mulAll s_mul (pv 0) (ok_gint (by rfl) T.c_FACTOR)) (ok_gint (by rfl) T.c_STEP)) (ok_gint (by rfl) T.c_MODULUS))))
theorem o_Tape__first (T : Txt w K mg a) : FnOk P w K mg base CX0 2 a.a_Tape__first a.f_Tape__first ["self", "epoch", "give"] (spP K F_Tape__first) := by
  refine fokP (N := N_Tape__first) (k := 1) T.F_Tape__first sc_Tape__first fun cdv A outer s H E hr => ?_
  exact (ss_cons (s_par2c (by decide) (by decide) rfl sc_Tape__first.nd rfl rfl (by decide) rfl rfl (ok_op op_addAll s_add (ok_op op_addAll s_add (ok_fld T.C_Tape.kc T.C_Tape.n4 (pv 0)) (ok_op op_mulAll s_mul (ok_gint (by rfl) T.c_BY_EPOCH) (pv 1))) (ok_op op_mulAll s_mul (ok_gint (by rfl) T.c_BY_GIVE) (pv 2))) (ok_lst paa_nil) (by rfl)) (ss_cons (s_for (by decide) PassesOwn.never rfl (i_rng1 (by rfl) T.z_range (pao_cons (ok_op op_addAll s_add (ok_fld T.C_Tape.kc T.C_Tape.n2 (pv 0)) ok_int) pao_nil)) (g_one sc_Tape__first.nd rfl (by first | exact .inl rfl | exact .inr rfl)) (ss_one (s_drop (ok_methL PySem.F.slot_list_append PySem.F.type_list_append mt_append m_append (pv 4) (paa_cons (ok_op op_mod s_mod (ok_op op_fdiv s_div (ok_call (o_stirred T) (hr.mono (by decide)) (by rfl) T.m_stirred T.k_stirred T.b_stirred (paa_cons (ok_call (o_stirred T) (hr.mono (by decide)) (by rfl) T.m_stirred T.k_stirred T.b_stirred (paa_cons (ok_op op_addAll s_add (pv 3) (ok_op op_mulAll s_mul (ok_gint (by rfl) T.c_BY_INDEX) (pv 5))) paa_nil)) paa_nil)) ok_int) (ok_fld T.C_Tape.kc T.C_Tape.n1 (pv 0))) paa_nil))))) (ss_one (s_ret (ok_tup (paa_cons (ok_callTy call_tuple_of s_tuple (by rfl) T.z_tuple (by decide +kernel) (pao_cons (ok_sl (pv 4) part_no (part_at (ok_un un_neg s_neg ok_int))) pao_nil)) (paa_cons (ok_ix ix_seq s_ix (pv 4) (ok_un un_neg s_neg ok_int)) paa_nil)))))))
theorem o_Tape__with_signs (T : Txt w K mg a) : FnOk P w K mg base CX0 4 a.a_Tape__with_signs a.f_Tape__with_signs ["self", "some"] (spP K F_Tape__with_signs) := by
  refine T.F_Tape__with_signs.ok sc_Tape__with_signs (fun vs H Q E h => Tp.ws_len h) (fun cdv A outer s H vs Q E hr h => ?_)
  exact ⟨_, pss_cons (ps_set (i := 2) sc_Tape__with_signs.nd rfl (Or.inl rfl) (pe_meth (pv 0) T.C_Tape.kc.cl T.M_Tape__copied (o_Tape__copied T) (hr.mono (by decide)) T.b_Tape__copied .nil pass0 (pa_cons (pe_fld (pv 0) rfl) pa_nil))) (pss_cons (ps_for PassesOwn.never rfl (pi_tup (pv 1)) (pg_tup rfl (pgs_cons (pg_name (i := 3) sc_Tape__with_signs.nd rfl (Or.inl rfl)) (pgs_cons (pg_name (i := 4) sc_Tape__with_signs.nd rfl (Or.inl rfl)) (pgs_cons (pg_name (i := 5) sc_Tape__with_signs.nd rfl (Or.inl rfl)) (pgs_cons (pg_name (i := 6) sc_Tape__with_signs.nd rfl (Or.inl rfl)) pgs_nil))))) (pss_cons (ps_asg (pe_tup (pa_cons (pv 5) (pa_cons (pv 6) pa_nil))) (pg_sub (pe_fld (pv 2) rfl) (pe_tup (pa_cons (pv 3) (pa_cons (pv 4) pa_nil))) (set_dict (hu_of hr)))) (pss_one (ps_if (pt_cmpR (op_eqD hr.units) (pe_meth (pv 2) T.C_Tape.kc.cl T.M_Tape__first (o_Tape__first T) (hr.mono (by decide)) T.b_Tape__first .nil pass0 (pa_cons (pv 3) (pa_cons (pv 4) pa_nil))) (pe_tup (pa_cons (pv 5) (pa_cons (pv 6) pa_nil))) (nomark _)) (pss_one (ps_expr (pe_bm PySem.F.plainAttrs_dict PySem.F.slot_dict_pop PySem.F.type_dict_pop (DX.mt_popT1 (hu_of hr)) (pe_fld (pv 2) rfl) (pa_cons (pe_tup (pa_cons (pv 3) (pa_cons (pv 4) pa_nil))) pa_nil)))) pss_nil)))) (pss_one (ps_ret (pv 2)))), Tp.ws_read (E0 := E) T.C_Tape h⟩
theorem o_u_law_changes (T : Txt w K mg a) : FnOk P w K mg base CX0 1 a.a_u_law_changes a.f_u_law_changes ["tape"] (spP K F_u_law_changes) := by
  refine fokP (N := N_u_law_changes) (k := 0) T.F_u_law_changes sc_u_law_changes fun cdv A outer s H E hr => ?_
  exact (ss_one (s_ret (ok_callTy call_tuple_of s_tuple (by rfl) T.z_tuple (by decide +kernel) (pao_cons (ok_comp [("place", 1)] rfl sc_u_law_changes.nd (i_seq (ok_callB (DX.cr_sortKT rfl hr) s_sortKT (by rfl) T.z_sorted (by decide +kernel) (pao_cons (ok_ix ix_seq s_ix (pv 0) ok_int) pao_nil))) (blkOk_by (N := N_u_law_changes) (sc := defScope d_u_law_changes) (by decide +kernel)) (fun _ _ _ _ _ => (g_one sc_u_law_changes.nd rfl (by first | exact .inl rfl | exact .inr rfl))) (fun _ _ _ _ _ => ts_nil) (fun _ _ _ _ _ => (ok_op op_addAll s_add (pv 1) (ok_dix hr (ok_ix ix_seq s_ix (pv 0) ok_int) (pv 1))))) pao_nil))))
theorem o_u_law_signs (T : Txt w K mg a) : FnOk P w K mg base CX0 1 a.a_u_law_signs a.f_u_law_signs ["tape", "epoch", "give"] (spP K F_u_law_signs) := by
  refine fokP (N := N_u_law_signs) (k := 0) T.F_u_law_signs sc_u_law_signs fun cdv A outer s H E hr => ?_
  exact (ss_cons (s_unp (by decide) rfl (ok_slot (pv 0)) (ggs_cons (gg_nm sc_u_law_signs.nd rfl (by first | exact .inl rfl | exact .inr rfl)) (ggs_cons (gg_nm sc_u_law_signs.nd rfl (by first | exact .inl rfl | exact .inr rfl)) (ggs_cons (gg_nm sc_u_law_signs.nd rfl (by first | exact .inl rfl | exact .inr rfl)) (ggs_cons (gg_nm sc_u_law_signs.nd rfl (by first | exact .inl rfl | exact .inr rfl)) (ggs_cons (gg_nm sc_u_law_signs.nd rfl (by first | exact .inl rfl | exact .inr rfl)) ggs_nil)))))) (ss_cons (s_if (kVal_cmp (op_inA hr) s_in (ok_tup (paa_cons (ok_slot (pv 1)) (paa_cons (ok_slot (pv 2)) paa_nil))) (pv 7)) (ss_one (s_ret (ok_dix hr (pv 7) (ok_tup (paa_cons (ok_slot (pv 1)) (paa_cons (ok_slot (pv 2)) paa_nil)))))) ss_nil) (ss_cons (s_set (i := 8) (by decide) (ok_lst paa_nil) sc_u_law_signs.nd rfl (by first | exact .inl rfl | exact .inr rfl)) (ss_cons (s_for (by decide) PassesOwn.never rfl (i_rng1 (by rfl) T.z_range (pao_cons (ok_op op_addAll s_add (pv 4) ok_int) pao_nil)) (g_one sc_u_law_signs.nd rfl (by first | exact .inl rfl | exact .inr rfl)) (ss_cons (s_set (i := 10) (by decide) (ok_op op_addAll s_add (ok_op op_addAll s_add (ok_op op_addAll s_add (pv 6) (ok_op op_mulAll s_mul ok_int (pv 1))) (ok_op op_mulAll s_mul ok_int (pv 2))) (ok_op op_mulAll s_mul ok_int (pv 9))) sc_u_law_signs.nd rfl (by first | exact .inl rfl | exact .inr rfl)) (ss_cons (s_for (by decide) PassesOwn.never rfl (i_rng1 (by rfl) T.z_range (pao_cons ok_int pao_nil)) (g_one sc_u_law_signs.nd rfl (by first | exact .inl rfl | exact .inr rfl)) (ss_one (s_set (i := 10) (by decide) (ok_op op_mod s_mod (ok_callTy call_int1 s_int (by rfl) T.z_int (by decide +kernel) (pao_cons (ok_op op_addAll s_add (ok_op op_mulAll s_mul (pv 10) ok_int) ok_int) pao_nil)) ok_int) sc_u_law_signs.nd rfl (by first | exact .inl rfl | exact .inr rfl)))) (ss_one (s_drop (ok_methL PySem.F.slot_list_append PySem.F.type_list_append mt_append m_append (pv 8) (paa_cons (ok_op op_mod s_mod (ok_callTy call_int1 s_int (by rfl) T.z_int (by decide +kernel) (pao_cons (ok_op op_fdiv s_div (pv 10) ok_int) pao_nil)) (pv 3)) paa_nil))))))) (ss_one (s_ret (ok_tup (paa_cons (ok_callTy call_tuple_of s_tuple (by rfl) T.z_tuple (by decide +kernel) (pao_cons (ok_sl (pv 8) part_no (part_at (pv 4))) pao_nil)) (paa_cons (ok_ix ix_seq s_ix (pv 8) (pv 4)) paa_nil)))))))))
theorem o_u_law_alike (T : Txt w K mg a) : FnOk P w K mg base CX0 1 a.a_u_law_alike a.f_u_law_alike ["found", "due"] (spP K F_u_law_alike) := by
  refine fokP (N := N_u_law_alike) (k := 0) T.F_u_law_alike sc_u_law_alike fun cdv A outer s H E hr => ?_
  exact (ss_cons (s_par2c (by decide) (by decide) rfl sc_u_law_alike.nd rfl rfl (by decide) rfl rfl (ok_lst (paa_cons (ok_tup (paa_cons (ok_slot (pv 0)) (paa_cons (ok_slot (pv 1)) paa_nil))) paa_nil)) ok_int (by rfl)) (ss_cons (s_while PassesOwn.never (kVal_cmp op_lt s_lt (pv 3) (ok_callB call_lenA s_len (by rfl) T.z_len (by decide +kernel) (pao_cons (pv 2) pao_nil))) (ss_cons (s_unp (by decide) rfl (ok_ix ix_seq s_ix (pv 2) (pv 3)) (ggs_cons (gg_nm sc_u_law_alike.nd rfl (by first | exact .inl rfl | exact .inr rfl)) (ggs_cons (gg_nm sc_u_law_alike.nd rfl (by first | exact .inl rfl | exact .inr rfl)) ggs_nil))) (ss_cons (s_aug (i := 3) (by decide) ok_int sc_u_law_alike.nd rfl (by first | exact .inl rfl | exact .inr rfl) ip_add) (ss_cons (s_if (k_w (kw_or (kVal_cmp (op_neD hr.units) s_ne (ok_isi (b := "bool") (by rfl) T.z_isinstance (pv 4) (by rfl) T.z_bool (by decide +kernel) (by decide)) (ok_isi (b := "bool") (by rfl) T.z_isinstance (pv 5) (by rfl) T.z_bool (by decide +kernel) (by decide))) (kw_or1 (kVal_cmp (op_neD hr.units) s_ne (ok_isi (b := "str") (by rfl) T.z_isinstance (pv 4) (by rfl) T.z_str (by decide +kernel) (by decide)) (ok_isi (b := "str") (by rfl) T.z_isinstance (pv 5) (by rfl) T.z_str (by decide +kernel) (by decide)))))) (ss_one (s_ret ok_bl)) ss_nil) (ss_cons (s_if (kVal_cmp (op_neD hr.units) s_ne (ok_isi2 (b := "tuple") (c := "list") (by rfl) T.z_isinstance (pv 4) (by rfl) T.z_tuple (by decide +kernel) (by rfl) T.z_list (by decide +kernel) (by decide) (by decide)) (ok_isi2 (b := "tuple") (c := "list") (by rfl) T.z_isinstance (pv 5) (by rfl) T.z_tuple (by decide +kernel) (by rfl) T.z_list (by decide +kernel) (by decide) (by decide))) (ss_one (s_ret ok_bl)) ss_nil) (ss_one (s_if (kVal_val (ok_isi2 (b := "tuple") (c := "list") (by rfl) T.z_isinstance (pv 4) (by rfl) T.z_tuple (by decide +kernel) (by rfl) T.z_list (by decide +kernel) (by decide) (by decide))) (ss_cons (s_if (k_w (kw_or (kVal_cmp (op_neD hr.units) s_ne (ok_isi (b := "tuple") (by rfl) T.z_isinstance (pv 4) (by rfl) T.z_tuple (by decide +kernel) (by decide)) (ok_isi (b := "tuple") (by rfl) T.z_isinstance (pv 5) (by rfl) T.z_tuple (by decide +kernel) (by decide))) (kw_or1 (kVal_cmp (op_neD hr.units) s_ne (ok_callB call_lenA s_len (by rfl) T.z_len (by decide +kernel) (pao_cons (pv 4) pao_nil)) (ok_callB call_lenA s_len (by rfl) T.z_len (by decide +kernel) (pao_cons (pv 5) pao_nil)))))) (ss_one (s_ret ok_bl)) ss_nil) (ss_one (s_drop (ok_methL PySem.F.slot_list_extend PySem.F.type_list_extend mt_extend m_extend (pv 2) (paa_cons (ok_lzip rfl (by rfl) T.z_list (by rfl) T.z_zip (paa_cons (ok_slot (pv 4)) (paa_cons (ok_slot (pv 5)) paa_nil))) paa_nil))))) (ss_one (s_if (kVal_cmp (op_neD hr.units) s_ne (pv 4) (pv 5)) (ss_one (s_ret ok_bl)) ss_nil))))))))) (ss_one (s_ret ok_bl))))
theorem o_Tape__changes (T : Txt w K mg a) : FnOk P w K mg base CX0 1 a.a_Tape__changes a.f_Tape__changes ["self"] (spP K F_Tape__changes) := by
  refine fokP (N := N_Tape__changes) (k := 0) T.F_Tape__changes sc_Tape__changes fun cdv A outer s H E hr => ?_
  exact (ss_one (s_ret (ok_callTy call_tuple_of s_tuple (by rfl) T.z_tuple (by decide +kernel) (pao_cons (ok_comp [("place", 1), ("its", 2)] rfl sc_Tape__changes.nd (i_seq (ok_srtIt rfl hr (by rfl) T.z_sorted (ok_fld T.C_Tape.kc T.C_Tape.n5 (pv 0)))) (blkOk_by (N := N_Tape__changes) (sc := defScope d_Tape__changes) (by decide +kernel)) (fun _ _ _ _ _ => (g_tup rfl (gn_cons (g_one sc_Tape__changes.nd rfl (by first | exact .inl rfl | exact .inr rfl)) (gn_cons (g_one sc_Tape__changes.nd rfl (by first | exact .inl rfl | exact .inr rfl)) gn_nil)))) (fun _ _ _ _ _ => ts_nil) (fun _ _ _ _ _ => (ok_tup (paa_star (ok_slot (pv 1)) (paa_star (ok_slot (pv 2)) paa_nil))))) pao_nil))))
theorem o_Tape__width (T : Txt w K mg a) : FnOk P w K mg base CX0 1 a.a_Tape__width a.f_Tape__width ["self"] (spP K F_Tape__width) := by
  refine fokP (N := N_Tape__width) (k := 0) T.F_Tape__width sc_Tape__width fun cdv A outer s H E hr => ?_
  exact (ss_one (s_ret (ok_fld T.C_Tape.kc T.C_Tape.n2 (pv 0))))
theorem o_Tape__p (T : Txt w K mg a) : FnOk P w K mg base CX0 1 a.a_Tape__p a.f_Tape__p ["self"] (spP K F_Tape__p) := by
  refine fokP (N := N_Tape__p) (k := 0) T.F_Tape__p sc_Tape__p fun cdv A outer s H E hr => ?_
  exact (ss_one (s_ret (ok_fld T.C_Tape.kc T.C_Tape.n1 (pv 0))))
theorem o_Tape__key (T : Txt w K mg a) : FnOk P w K mg base CX0 1 a.a_Tape__key a.f_Tape__key ["self"] (spP K F_Tape__key) := by
  refine fokP (N := N_Tape__key) (k := 0) T.F_Tape__key sc_Tape__key fun cdv A outer s H E hr => ?_
  exact (ss_one (s_ret (ok_fld T.C_Tape.kc T.C_Tape.n3 (pv 0))))
theorem o_Tape__signs (T : Txt w K mg a) : FnOk P w K mg base CX0 3 a.a_Tape__signs a.f_Tape__signs ["self", "epoch", "give"] (spP K F_Tape__signs) := by
  refine fokP (N := N_Tape__signs) (k := 2) T.F_Tape__signs sc_Tape__signs fun cdv A outer s H E hr => ?_
  exact (ss_cons (s_set (i := 3) (by decide) (ok_getO hr (ok_fld T.C_Tape.kc T.C_Tape.n5 (pv 0)) (ok_tup (paa_cons (ok_slot (pv 1)) (paa_cons (ok_slot (pv 2)) paa_nil))) ⟨rfl, rfl, rfl, rfl⟩) sc_Tape__signs.nd rfl (by first | exact .inl rfl | exact .inr rfl)) (ss_one (s_ret (ok_if (kVal_cmp op_isN s_isN (pv 3) ok_non) (ok_meth T.C_Tape.kc T.M_Tape__first (o_Tape__first T) (hr.mono (by decide)) T.b_Tape__first (ok_slot (pv 0)) (paa_cons (ok_slot (pv 1)) (paa_cons (ok_slot (pv 2)) paa_nil))) (ok_slot (pv 3))))))
theorem o_Tape____eq__ (T : Txt w K mg a) : FnOk P w K mg base CX0 2 a.a_Tape____eq__ a.f_Tape____eq__ ["self", "other"] (spP K F_Tape____eq__) := by
  refine fokP (N := N_Tape____eq__) (k := 1) T.F_Tape____eq__ sc_Tape____eq__ fun cdv A outer s H E hr => ?_
  exact (ss_cons (s_if (k_not (kVal_val (Tp.ok_isTp T.C_Tape T.E_Tape (by rfl) T.z_isinstance (pv 1) (by rfl) T.m_Tape))) (ss_one (s_ret ok_bl)) ss_nil) (ss_cons (s_set (i := 2) (by decide) (ok_tup (paa_cons (ok_fld T.C_Tape.kc T.C_Tape.n1 (pv 0)) (paa_cons (ok_fld T.C_Tape.kc T.C_Tape.n2 (pv 0)) (paa_cons (ok_fld T.C_Tape.kc T.C_Tape.n3 (pv 0)) (paa_cons (ok_fld T.C_Tape.kc T.C_Tape.n4 (pv 0)) (paa_cons (ok_meth0 T.C_Tape.kc T.M_Tape__changes (o_Tape__changes T) (hr.mono (by decide)) T.b_Tape__changes (ok_slot (pv 0))) paa_nil)))))) sc_Tape____eq__.nd rfl (by first | exact .inl rfl | exact .inr rfl)) (ss_one (s_ret (ok_cmp (op_eqD hr.units) s_eq (pv 2) (ok_tup (paa_cons (ok_fld T.C_Tape.kc T.C_Tape.n1 (pv 1)) (paa_cons (ok_fld T.C_Tape.kc T.C_Tape.n2 (pv 1)) (paa_cons (ok_fld T.C_Tape.kc T.C_Tape.n3 (pv 1)) (paa_cons (ok_fld T.C_Tape.kc T.C_Tape.n4 (pv 1)) (paa_cons (ok_meth0 T.C_Tape.kc T.M_Tape__changes (o_Tape__changes T) (hr.mono (by decide)) T.b_Tape__changes (ok_slot (pv 1))) paa_nil)))))))))))
theorem o_Tape__with_key (T : Txt w K mg a) : FnOk P w K mg base CX0 4 a.a_Tape__with_key a.f_Tape__with_key ["self", "key"] (spP K F_Tape__with_key) := by
  refine fokP (N := N_Tape__with_key) (k := 3) T.F_Tape__with_key sc_Tape__with_key fun cdv A outer s H E hr => ?_
  exact (ss_one (s_ret (ok_meth T.C_Tape.kc T.M_Tape__copied (oP_Tape__copied T) (hr.mono (by decide)) T.b_Tape__copied (ok_slot (pv 0)) (paa_cons (ok_slot (pv 1)) paa_nil))))
theorem o_law (T : Txt w K mg a) : FnOk P w K mg base CX0 5 a.a_law a.f_law ["script"] (spP K F_law) := by
  refine fokP (N := N_law) (k := 4) T.F_law sc_law fun cdv A outer s H E hr => ?_
  exact (ss_cons (s_set (i := 1) (by decide) (ok_call (o_u_law_bag T) (hr.mono (by decide)) (by rfl) T.m_u_law_bag T.k_u_law_bag T.b_u_law_bag (paa_cons (ok_slot (pv 0)) paa_nil)) sc_law.nd rfl (by first | exact .inl rfl | exact .inr rfl)) (ss_cons (s_for (by decide) PassesOwn.never rfl (i_rng1 (by rfl) T.z_range (pao_cons ok_int pao_nil)) (g_one sc_law.nd rfl (by first | exact .inl rfl | exact .inr rfl)) (ss_cons (s_unp (by decide) rfl (ok_tup (paa_cons (ok_callB' (o_u_law_some T) (hr.mono (by decide)) (by rfl) T.m_u_law_some T.k_u_law_some T.b_u_law_some (pv 1) (paa_cons (ok_lst (paa_cons ok_int (paa_cons ok_int (paa_cons ok_int (paa_cons ok_int paa_nil))))) paa_nil)) (paa_cons (ok_op op_addAll s_add ok_int (ok_callB' (o_u_law_take T) (hr.mono (by decide)) (by rfl) T.m_u_law_take T.k_u_law_take T.b_u_law_take (pv 1) (paa_cons ok_int paa_nil))) paa_nil))) (ggs_cons (gg_nm sc_law.nd rfl (by first | exact .inl rfl | exact .inr rfl)) (ggs_cons (gg_nm sc_law.nd rfl (by first | exact .inl rfl | exact .inr rfl)) ggs_nil))) (ss_cons (s_set (i := 5) (by decide) (ok_callB' (o_u_law_tape T) (hr.mono (by decide)) (by rfl) T.m_u_law_tape T.k_u_law_tape T.b_u_law_tape (pv 1) (paa_cons (ok_slot (pv 3)) (paa_cons (ok_slot (pv 4)) paa_nil))) sc_law.nd rfl (by first | exact .inl rfl | exact .inr rfl)) (ss_cons (s_set (i := 6) (by decide) (Tp.ok_tape T.C_Tape T.Mk_Tape (o_Tape____init__ T) (hr.mono (by decide)) (by rfl) T.m_Tape T.b_Tape____init__ (paa_cons (ok_slot (pv 3)) (paa_cons (ok_slot (pv 4)) (paa_cons (ok_ix ix_seq s_ix (pv 5) ok_int) (paa_cons (ok_ix ix_seq s_ix (pv 5) ok_int) paa_nil))))) sc_law.nd rfl (by first | exact .inl rfl | exact .inr rfl)) (ss_cons (s_set (i := 7) (by decide) (ok_meth T.C_Tape.kc T.M_Tape__with_signs (o_Tape__with_signs T) (hr.mono (by decide)) T.b_Tape__with_signs (ok_slot (pv 6)) (paa_cons (ok_call (o_u_law_changes T) (hr.mono (by decide)) (by rfl) T.m_u_law_changes T.k_u_law_changes T.b_u_law_changes (paa_cons (ok_slot (pv 5)) paa_nil)) paa_nil)) sc_law.nd rfl (by first | exact .inl rfl | exact .inr rfl)) (ss_cons (s_set (i := 8) (by decide) (ok_lst paa_nil) sc_law.nd rfl (by first | exact .inl rfl | exact .inr rfl)) (ss_cons (s_for (by decide) PassesOwn.never rfl (i_seq (ok_callB (DX.cr_sortKT rfl hr) s_sortKT (by rfl) T.z_sorted (by decide +kernel) (pao_cons (ok_ix ix_seq s_ix (pv 5) ok_int) pao_nil))) (g_one sc_law.nd rfl (by first | exact .inl rfl | exact .inr rfl)) (ss_one (s_if (kVal_cmp (op_neD hr.units) s_ne (ok_dix hr (ok_ix ix_seq s_ix (pv 5) ok_int) (pv 9)) (ok_call (o_u_law_signs T) (hr.mono (by decide)) (by rfl) T.m_u_law_signs T.k_u_law_signs T.b_u_law_signs (paa_cons (ok_op op_addAll s_add (ok_sl (pv 5) part_no (part_at ok_int)) (ok_tup (paa_cons ok_dt paa_nil))) (paa_cons (ok_ix ix_seq s_ix (pv 9) ok_int) (paa_cons (ok_ix ix_seq s_ix (pv 9) ok_int) paa_nil))))) (ss_one (s_drop (ok_methL PySem.F.slot_list_append PySem.F.type_list_append mt_append m_append (pv 8) (paa_cons (ok_op op_addAll s_add (pv 9) (ok_dix hr (ok_ix ix_seq s_ix (pv 5) ok_int) (pv 9))) paa_nil)))) ss_nil))) (ss_cons (s_if (k_not (kVal_val (ok_call (o_u_law_alike T) (hr.mono (by decide)) (by rfl) T.m_u_law_alike T.k_u_law_alike T.b_u_law_alike (paa_cons (ok_lst (paa_cons (ok_meth0 T.C_Tape.kc T.M_Tape__key (o_Tape__key T) (hr.mono (by decide)) T.b_Tape__key (ok_slot (pv 7))) (paa_cons (ok_meth0 T.C_Tape.kc T.M_Tape__p (o_Tape__p T) (hr.mono (by decide)) T.b_Tape__p (ok_slot (pv 7))) (paa_cons (ok_meth0 T.C_Tape.kc T.M_Tape__width (o_Tape__width T) (hr.mono (by decide)) T.b_Tape__width (ok_slot (pv 7))) (paa_cons (ok_meth0 T.C_Tape.kc T.M_Tape__changes (o_Tape__changes T) (hr.mono (by decide)) T.b_Tape__changes (ok_slot (pv 7))) (paa_cons (ok_meth0 T.C_Tape.kc T.M_Tape__changes (o_Tape__changes T) (hr.mono (by decide)) T.b_Tape__changes (ok_slot (pv 6))) paa_nil)))))) (paa_cons (ok_lst (paa_cons (ok_ix ix_seq s_ix (pv 5) ok_int) (paa_cons (ok_slot (pv 3)) (paa_cons (ok_slot (pv 4)) (paa_cons (ok_callTy call_tuple_of s_tuple (by rfl) T.z_tuple (by decide +kernel) (pao_cons (pv 8) pao_nil)) (paa_cons (ok_tup paa_nil) paa_nil)))))) paa_nil))))) (ss_one (s_ret ok_bl)) ss_nil) (ss_cons (s_for (by decide) PassesOwn.never rfl (i_rng1 (by rfl) T.z_range (pao_cons ok_int pao_nil)) (g_one sc_law.nd rfl (by first | exact .inl rfl | exact .inr rfl)) (ss_cons (s_par (by decide) (by decide) rfl sc_law.nd rfl rfl (by decide) rfl rfl (paa_cons (ok_callB' (o_u_law_take T) (hr.mono (by decide)) (by rfl) T.m_u_law_take T.k_u_law_take T.b_u_law_take (pv 1) (paa_cons ok_int paa_nil)) (paa_cons (ok_callB' (o_u_law_take T) (hr.mono (by decide)) (by rfl) T.m_u_law_take T.k_u_law_take T.b_u_law_take (pv 1) (paa_cons ok_int paa_nil)) paa_nil)) (by rfl)) (ss_cons (s_if (k_not (kVal_val (ok_call (o_u_law_alike T) (hr.mono (by decide)) (by rfl) T.m_u_law_alike T.k_u_law_alike T.b_u_law_alike (paa_cons (ok_meth T.C_Tape.kc T.M_Tape__signs (o_Tape__signs T) (hr.mono (by decide)) T.b_Tape__signs (ok_slot (pv 7)) (paa_cons (ok_slot (pv 11)) (paa_cons (ok_slot (pv 12)) paa_nil))) (paa_cons (ok_call (o_u_law_signs T) (hr.mono (by decide)) (by rfl) T.m_u_law_signs T.k_u_law_signs T.b_u_law_signs (paa_cons (ok_slot (pv 5)) (paa_cons (ok_slot (pv 11)) (paa_cons (ok_slot (pv 12)) paa_nil)))) paa_nil))))) (ss_one (s_ret ok_bl)) ss_nil) (ss_one (s_if (k_not (kVal_val (ok_call (o_u_law_alike T) (hr.mono (by decide)) (by rfl) T.m_u_law_alike T.k_u_law_alike T.b_u_law_alike (paa_cons (ok_meth T.C_Tape.kc T.M_Tape__signs (o_Tape__signs T) (hr.mono (by decide)) T.b_Tape__signs (ok_slot (pv 6)) (paa_cons (ok_slot (pv 11)) (paa_cons (ok_slot (pv 12)) paa_nil))) (paa_cons (ok_call (o_u_law_signs T) (hr.mono (by decide)) (by rfl) T.m_u_law_signs T.k_u_law_signs T.b_u_law_signs (paa_cons (ok_op op_addAll s_add (ok_sl (pv 5) part_no (part_at ok_int)) (ok_tup (paa_cons ok_dt paa_nil))) (paa_cons (ok_slot (pv 11)) (paa_cons (ok_slot (pv 12)) paa_nil)))) paa_nil))))) (ss_one (s_ret ok_bl)) ss_nil))))) (ss_cons (s_par (by decide) (by decide) rfl sc_law.nd rfl rfl (by decide) rfl rfl (paa_cons (ok_callB' (o_u_law_take T) (hr.mono (by decide)) (by rfl) T.m_u_law_take T.k_u_law_take T.b_u_law_take (pv 1) (paa_cons ok_int paa_nil)) (paa_cons (ok_callB' (o_u_law_take T) (hr.mono (by decide)) (by rfl) T.m_u_law_take T.k_u_law_take T.b_u_law_take (pv 1) (paa_cons ok_int paa_nil)) paa_nil)) (by rfl)) (ss_cons (s_par (by decide) (by decide) rfl sc_law.nd rfl rfl (by decide) rfl rfl (paa_cons (ok_callTy call_tuple_of s_tuple (by rfl) T.z_tuple (by decide +kernel) (pao_cons (ok_comp [("at", 15)] rfl sc_law.nd (i_rng1 (by rfl) T.z_range (pao_cons (pv 4) pao_nil)) (blkOk_by (N := N_law) (sc := defScope d_law) (by decide +kernel)) (fun _ _ _ _ _ => (g_one sc_law.nd rfl (by first | exact .inl rfl | exact .inr rfl))) (fun _ _ _ _ _ => ts_nil) (fun _ _ _ _ _ => (ok_callB' (o_u_law_take T) (hr.mono (by decide)) (by rfl) T.m_u_law_take T.k_u_law_take T.b_u_law_take (pv 1) (paa_cons (ok_slot (pv 3)) paa_nil)))) pao_nil)) (paa_cons (ok_callB' (o_u_law_take T) (hr.mono (by decide)) (by rfl) T.m_u_law_take T.k_u_law_take T.b_u_law_take (pv 1) (paa_cons (ok_slot (pv 3)) paa_nil)) paa_nil)) (by rfl)) (ss_cons (s_set (i := 16) (by decide) (ok_meth T.C_Tape.kc T.M_Tape__with_signs (o_Tape__with_signs T) (hr.mono (by decide)) T.b_Tape__with_signs (ok_slot (pv 7)) (paa_cons (ok_tup (paa_cons (ok_tup (paa_cons (ok_slot (pv 11)) (paa_cons (ok_slot (pv 12)) (paa_cons (ok_slot (pv 13)) (paa_cons (ok_op op_mod s_mod (ok_callTy call_int1 s_int (by rfl) T.z_int (by decide +kernel) (pao_cons (ok_op op_addAll s_add (pv 14) ok_int) pao_nil)) (pv 3)) paa_nil))))) (paa_cons (ok_tup (paa_cons (ok_slot (pv 11)) (paa_cons (ok_slot (pv 12)) (paa_cons (ok_slot (pv 13)) (paa_cons (ok_slot (pv 14)) paa_nil))))) paa_nil))) paa_nil)) sc_law.nd rfl (by first | exact .inl rfl | exact .inr rfl)) (ss_cons (s_if (k_w (kw_or (k_not (kVal_val (ok_call (o_u_law_alike T) (hr.mono (by decide)) (by rfl) T.m_u_law_alike T.k_u_law_alike T.b_u_law_alike (paa_cons (ok_meth T.C_Tape.kc T.M_Tape__signs (o_Tape__signs T) (hr.mono (by decide)) T.b_Tape__signs (ok_slot (pv 16)) (paa_cons (ok_slot (pv 11)) (paa_cons (ok_slot (pv 12)) paa_nil))) (paa_cons (ok_tup (paa_cons (ok_slot (pv 13)) (paa_cons (ok_slot (pv 14)) paa_nil))) paa_nil))))) (kw_or1 (kVal_cmp (op_neD hr.units) s_ne (ok_cmp (op_ownE (o_Tape____eq__ T) T.M_Tape____eq__.at_ T.M_Tape____eq__.fn T.b_Tape____eq__ (hr.mono (by decide))) (Tp.s_ownE T.C_Tape T.E_Tape) (pv 16) (pv 7)) (ok_cmp (op_eqD hr.units) s_eq (ok_call (o_u_law_signs T) (hr.mono (by decide)) (by rfl) T.m_u_law_signs T.k_u_law_signs T.b_u_law_signs (paa_cons (ok_slot (pv 5)) (paa_cons (ok_slot (pv 11)) (paa_cons (ok_slot (pv 12)) paa_nil)))) (ok_tup (paa_cons (ok_slot (pv 13)) (paa_cons (ok_slot (pv 14)) paa_nil)))))))) (ss_one (s_ret ok_bl)) ss_nil) (ss_cons (s_set (i := 17) (by decide) (ok_meth T.C_Tape.kc T.M_Tape__with_signs (o_Tape__with_signs T) (hr.mono (by decide)) T.b_Tape__with_signs (ok_slot (pv 16)) (paa_cons (ok_tup (paa_cons (ok_op op_addAll s_add (ok_tup (paa_cons (ok_slot (pv 11)) (paa_cons (ok_slot (pv 12)) paa_nil))) (ok_call (o_u_law_signs T) (hr.mono (by decide)) (by rfl) T.m_u_law_signs T.k_u_law_signs T.b_u_law_signs (paa_cons (ok_slot (pv 5)) (paa_cons (ok_slot (pv 11)) (paa_cons (ok_slot (pv 12)) paa_nil))))) paa_nil)) paa_nil)) sc_law.nd rfl (by first | exact .inl rfl | exact .inr rfl)) (ss_cons (s_set (i := 18) (by decide) (ok_callTy call_tuple_of s_tuple (by rfl) T.z_tuple (by decide +kernel) (pao_cons (ok_comp [("at", 15)] rfl sc_law.nd (i_rng1 (by rfl) T.z_range (pao_cons (pv 4) pao_nil)) (blkOk_by (N := N_law) (sc := defScope d_law) (by decide +kernel)) (fun _ _ _ _ _ => (g_one sc_law.nd rfl (by first | exact .inl rfl | exact .inr rfl))) (fun _ _ _ _ _ => ts_nil) (fun _ _ _ _ _ => (ok_callB' (o_u_law_take T) (hr.mono (by decide)) (by rfl) T.m_u_law_take T.k_u_law_take T.b_u_law_take (pv 1) (paa_cons (ok_slot (pv 3)) paa_nil)))) pao_nil)) sc_law.nd rfl (by first | exact .inl rfl | exact .inr rfl)) (ss_cons (s_if (k_w (kw_or (kVal_cmp (op_ownN (o_Tape____eq__ T) T.M_Tape____eq__.at_ T.M_Tape____eq__.fn T.b_Tape____eq__ (hr.mono (by decide)) T.E_Tape.ne T.E_Tape.hm) (Tp.s_ownN T.C_Tape T.E_Tape) (pv 17) (pv 7)) (kw_or (kVal_cmp (op_neD hr.units) s_ne (ok_cmp (op_ownE (o_Tape____eq__ T) T.M_Tape____eq__.at_ T.M_Tape____eq__.fn T.b_Tape____eq__ (hr.mono (by decide))) (Tp.s_ownE T.C_Tape T.E_Tape) (ok_meth T.C_Tape.kc T.M_Tape__with_key (o_Tape__with_key T) (hr.mono (by decide)) T.b_Tape__with_key (ok_slot (pv 7)) (paa_cons (ok_slot (pv 18)) paa_nil)) (pv 7)) (ok_cmp (op_eqD hr.units) s_eq (pv 18) (ok_ix ix_seq s_ix (pv 5) ok_int))) (kw_or (kVal_cmp (op_neD hr.units) s_ne (ok_meth0 T.C_Tape.kc T.M_Tape__key (o_Tape__key T) (hr.mono (by decide)) T.b_Tape__key (ok_meth T.C_Tape.kc T.M_Tape__with_key (o_Tape__with_key T) (hr.mono (by decide)) T.b_Tape__with_key (ok_slot (pv 7)) (paa_cons (ok_slot (pv 18)) paa_nil))) (pv 18)) (kw_or1 (kVal_cmp (op_neD hr.units) s_ne (ok_meth0 T.C_Tape.kc T.M_Tape__key (o_Tape__key T) (hr.mono (by decide)) T.b_Tape__key (ok_slot (pv 7))) (ok_ix ix_seq s_ix (pv 5) ok_int))))))) (ss_one (s_ret ok_bl)) ss_nil) (ss_one (s_if (k_w (kw_or (kVal_cmp (op_ownE (o_Tape____eq__ T) T.M_Tape____eq__.at_ T.M_Tape____eq__.fn T.b_Tape____eq__ (hr.mono (by decide))) (Tp.s_ownE T.C_Tape T.E_Tape) (pv 7) (pv 5)) (kw_or (kVal_cmp (op_ownE (o_Tape____eq__ T) T.M_Tape____eq__.at_ T.M_Tape____eq__.fn T.b_Tape____eq__ (hr.mono (by decide))) (Tp.s_ownE T.C_Tape T.E_Tape) (pv 7) ok_int) (kw_or (kVal_cmp (op_ownE (o_Tape____eq__ T) T.M_Tape____eq__.at_ T.M_Tape____eq__.fn T.b_Tape____eq__ (hr.mono (by decide))) (Tp.s_ownE T.C_Tape T.E_Tape) (Tp.ok_tape T.C_Tape T.Mk_Tape (o_Tape____init__ T) (hr.mono (by decide)) (by rfl) T.m_Tape T.b_Tape____init__ (paa_cons (ok_slot (pv 3)) (paa_cons (ok_slot (pv 4)) (paa_cons (ok_ix ix_seq s_ix (pv 5) ok_int) (paa_cons (ok_op op_addAll s_add (ok_ix ix_seq s_ix (pv 5) ok_int) ok_int) paa_nil))))) (pv 6)) (kw_or1 (kVal_cmp (op_ownN (o_Tape____eq__ T) T.M_Tape____eq__.at_ T.M_Tape____eq__.fn T.b_Tape____eq__ (hr.mono (by decide)) T.E_Tape.ne T.E_Tape.hm) (Tp.s_ownN T.C_Tape T.E_Tape) (Tp.ok_tape T.C_Tape T.Mk_Tape (o_Tape____init__ T) (hr.mono (by decide)) (by rfl) T.m_Tape T.b_Tape____init__ (paa_cons (ok_slot (pv 3)) (paa_cons (ok_slot (pv 4)) (paa_cons (ok_ix ix_seq s_ix (pv 5) ok_int) (paa_cons (ok_ix ix_seq s_ix (pv 5) ok_int) paa_nil))))) (pv 6))))))) (ss_one (s_ret ok_bl)) ss_nil)))))))))))))))))) (ss_one (s_ret ok_bl))))
end
theorem all_mk {l : PySem.W.OpenLaw} {w : World} {K : PySem.W.Frag} {h : Heap} {mg : Str → Option Value} {fa : Addr} {f0 f1 f2 f3 f4 f5 f6 f7 f8 f9 f10 f11 f12 f13 f14 f15 f16 f17 f18 f19 CT : Addr} (X : K.In h) (G : h.Ns mainGlobals mg) (hfa : mg "law" = some (.ref fa))
    {od0 an0 : Option Addr} {sl0 : Array (Option Value)} {oc0 kV0 dc0 pm0 cd0 ct0 : Value}
    {od1 an1 : Option Addr} {sl1 : Array (Option Value)} {oc1 kV1 dc1 pm1 cd1 ct1 : Value}
    {od2 an2 : Option Addr} {sl2 : Array (Option Value)} {oc2 kV2 dc2 pm2 cd2 ct2 : Value}
    {od3 an3 : Option Addr} {sl3 : Array (Option Value)} {oc3 kV3 dc3 pm3 cd3 ct3 : Value}
    {od4 an4 : Option Addr} {sl4 : Array (Option Value)} {oc4 kV4 dc4 pm4 cd4 ct4 : Value}
    {od5 an5 : Option Addr} {sl5 : Array (Option Value)} {oc5 kV5 dc5 pm5 cd5 ct5 : Value}
    {od6 an6 : Option Addr} {sl6 : Array (Option Value)} {oc6 kV6 dc6 pm6 cd6 ct6 : Value}
    {od7 an7 : Option Addr} {sl7 : Array (Option Value)} {oc7 kV7 dc7 pm7 cd7 ct7 : Value}
    {od8 an8 : Option Addr} {sl8 : Array (Option Value)} {oc8 kV8 dc8 pm8 cd8 ct8 : Value}
    {od9 an9 : Option Addr} {sl9 : Array (Option Value)} {oc9 kV9 dc9 pm9 cd9 ct9 : Value}
    {od10 an10 : Option Addr} {sl10 : Array (Option Value)} {oc10 kV10 dc10 pm10 cd10 ct10 : Value}
    {od11 an11 : Option Addr} {sl11 : Array (Option Value)} {oc11 kV11 dc11 pm11 cd11 ct11 : Value}
    {od12 an12 : Option Addr} {sl12 : Array (Option Value)} {oc12 kV12 dc12 pm12 cd12 ct12 : Value}
    {od13 an13 : Option Addr} {sl13 : Array (Option Value)} {oc13 kV13 dc13 pm13 cd13 ct13 : Value}
    {od14 an14 : Option Addr} {sl14 : Array (Option Value)} {oc14 kV14 dc14 pm14 cd14 ct14 : Value}
    {od15 an15 : Option Addr} {sl15 : Array (Option Value)} {oc15 kV15 dc15 pm15 cd15 ct15 : Value}
    {od16 an16 : Option Addr} {sl16 : Array (Option Value)} {oc16 kV16 dc16 pm16 cd16 ct16 : Value}
    {od17 an17 : Option Addr} {sl17 : Array (Option Value)} {oc17 kV17 dc17 pm17 cd17 ct17 : Value}
    {od18 an18 : Option Addr} {sl18 : Array (Option Value)} {oc18 kV18 dc18 pm18 cd18 ct18 : Value}
    {od19 an19 : Option Addr} {sl19 : Array (Option Value)} {oc19 kV19 dc19 pm19 cd19 ct19 : Value}
    (a0 : PySem.W.nsIn K mainGlobals "_law_bag" = some (some (.ref f0))) (l0 : K.lookup f0 = some ⟨oc0, od0, .func (PySem.W.fnOf "_law_bag" "_law_bag" (defArgs d_u_law_bag) (defBody d_u_law_bag) (defScope d_u_law_bag) .none kV0 dc0 pm0 an0 cd0 ct0), sl0⟩) (c0 : PySem.W.codeIn K cd0 "_law_bag" = true) (k0 : PySem.W.keepIn K (.ref f0) = true)
    (a1 : PySem.W.nsIn K mainGlobals "_law_take" = some (some (.ref f1))) (l1 : K.lookup f1 = some ⟨oc1, od1, .func (PySem.W.fnOf "_law_take" "_law_take" (defArgs d_u_law_take) (defBody d_u_law_take) (defScope d_u_law_take) .none kV1 dc1 pm1 an1 cd1 ct1), sl1⟩) (c1 : PySem.W.codeIn K cd1 "_law_take" = true) (k1 : PySem.W.keepIn K (.ref f1) = true)
    (a2 : PySem.W.nsIn K mainGlobals "_law_some" = some (some (.ref f2))) (l2 : K.lookup f2 = some ⟨oc2, od2, .func (PySem.W.fnOf "_law_some" "_law_some" (defArgs d_u_law_some) (defBody d_u_law_some) (defScope d_u_law_some) .none kV2 dc2 pm2 an2 cd2 ct2), sl2⟩) (c2 : PySem.W.codeIn K cd2 "_law_some" = true) (k2 : PySem.W.keepIn K (.ref f2) = true)
    (a3 : PySem.W.nsIn K mainGlobals "_law_tape" = some (some (.ref f3))) (l3 : K.lookup f3 = some ⟨oc3, od3, .func (PySem.W.fnOf "_law_tape" "_law_tape" (defArgs d_u_law_tape) (defBody d_u_law_tape) (defScope d_u_law_tape) .none kV3 dc3 pm3 an3 cd3 ct3), sl3⟩) (c3 : PySem.W.codeIn K cd3 "_law_tape" = true) (k3 : PySem.W.keepIn K (.ref f3) = true)
    (a4 : PySem.W.findIn K (.ref CT) "__init__" = some (some (.ref f4))) (i4 : PySem.W.isFn K (.ref f4) = true) (l4 : K.lookup f4 = some ⟨oc4, od4, .func (PySem.W.fnOf "__init__" "Tape.__init__" (defArgs d_Tape____init__) (defBody d_Tape____init__) (defScope d_Tape____init__) .none kV4 dc4 pm4 an4 cd4 ct4), sl4⟩) (c4 : PySem.W.codeIn K cd4 "Tape.__init__" = true) (k4 : PySem.W.keepIn K (.ref f4) = true)
    (a5 : PySem.W.findIn K (.ref CT) "copied" = some (some (.ref f5))) (i5 : PySem.W.isFn K (.ref f5) = true) (l5 : K.lookup f5 = some ⟨oc5, od5, .func (PySem.W.fnOf "copied" "Tape.copied" (defArgs d_Tape__copied) (defBody d_Tape__copied) (defScope d_Tape__copied) .none kV5 dc5 pm5 an5 cd5 ct5), sl5⟩) (c5 : PySem.W.codeIn K cd5 "Tape.copied" = true) (k5 : PySem.W.keepIn K (.ref f5) = true)
    (a6 : PySem.W.nsIn K mainGlobals "stirred" = some (some (.ref f6))) (l6 : K.lookup f6 = some ⟨oc6, od6, .func (PySem.W.fnOf "stirred" "stirred" (defArgs d_stirred) (defBody d_stirred) (defScope d_stirred) .none kV6 dc6 pm6 an6 cd6 ct6), sl6⟩) (c6 : PySem.W.codeIn K cd6 "stirred" = true) (k6 : PySem.W.keepIn K (.ref f6) = true)
    (a7 : PySem.W.findIn K (.ref CT) "first" = some (some (.ref f7))) (i7 : PySem.W.isFn K (.ref f7) = true) (l7 : K.lookup f7 = some ⟨oc7, od7, .func (PySem.W.fnOf "first" "Tape.first" (defArgs d_Tape__first) (defBody d_Tape__first) (defScope d_Tape__first) .none kV7 dc7 pm7 an7 cd7 ct7), sl7⟩) (c7 : PySem.W.codeIn K cd7 "Tape.first" = true) (k7 : PySem.W.keepIn K (.ref f7) = true)
    (a8 : PySem.W.findIn K (.ref CT) "with_signs" = some (some (.ref f8))) (i8 : PySem.W.isFn K (.ref f8) = true) (l8 : K.lookup f8 = some ⟨oc8, od8, .func (PySem.W.fnOf "with_signs" "Tape.with_signs" (defArgs d_Tape__with_signs) (defBody d_Tape__with_signs) (defScope d_Tape__with_signs) .none kV8 dc8 pm8 an8 cd8 ct8), sl8⟩) (c8 : PySem.W.codeIn K cd8 "Tape.with_signs" = true) (k8 : PySem.W.keepIn K (.ref f8) = true)
    (a9 : PySem.W.nsIn K mainGlobals "_law_changes" = some (some (.ref f9))) (l9 : K.lookup f9 = some ⟨oc9, od9, .func (PySem.W.fnOf "_law_changes" "_law_changes" (defArgs d_u_law_changes) (defBody d_u_law_changes) (defScope d_u_law_changes) .none kV9 dc9 pm9 an9 cd9 ct9), sl9⟩) (c9 : PySem.W.codeIn K cd9 "_law_changes" = true) (k9 : PySem.W.keepIn K (.ref f9) = true)
    (a10 : PySem.W.nsIn K mainGlobals "_law_signs" = some (some (.ref f10))) (l10 : K.lookup f10 = some ⟨oc10, od10, .func (PySem.W.fnOf "_law_signs" "_law_signs" (defArgs d_u_law_signs) (defBody d_u_law_signs) (defScope d_u_law_signs) .none kV10 dc10 pm10 an10 cd10 ct10), sl10⟩) (c10 : PySem.W.codeIn K cd10 "_law_signs" = true) (k10 : PySem.W.keepIn K (.ref f10) = true)
    (a11 : PySem.W.nsIn K mainGlobals "_law_alike" = some (some (.ref f11))) (l11 : K.lookup f11 = some ⟨oc11, od11, .func (PySem.W.fnOf "_law_alike" "_law_alike" (defArgs d_u_law_alike) (defBody d_u_law_alike) (defScope d_u_law_alike) .none kV11 dc11 pm11 an11 cd11 ct11), sl11⟩) (c11 : PySem.W.codeIn K cd11 "_law_alike" = true) (k11 : PySem.W.keepIn K (.ref f11) = true)
    (a12 : PySem.W.findIn K (.ref CT) "changes" = some (some (.ref f12))) (i12 : PySem.W.isFn K (.ref f12) = true) (l12 : K.lookup f12 = some ⟨oc12, od12, .func (PySem.W.fnOf "changes" "Tape.changes" (defArgs d_Tape__changes) (defBody d_Tape__changes) (defScope d_Tape__changes) .none kV12 dc12 pm12 an12 cd12 ct12), sl12⟩) (c12 : PySem.W.codeIn K cd12 "Tape.changes" = true) (k12 : PySem.W.keepIn K (.ref f12) = true)
    (a13 : PySem.W.findIn K (.ref CT) "width" = some (some (.ref f13))) (i13 : PySem.W.isFn K (.ref f13) = true) (l13 : K.lookup f13 = some ⟨oc13, od13, .func (PySem.W.fnOf "width" "Tape.width" (defArgs d_Tape__width) (defBody d_Tape__width) (defScope d_Tape__width) .none kV13 dc13 pm13 an13 cd13 ct13), sl13⟩) (c13 : PySem.W.codeIn K cd13 "Tape.width" = true) (k13 : PySem.W.keepIn K (.ref f13) = true)
    (a14 : PySem.W.findIn K (.ref CT) "p" = some (some (.ref f14))) (i14 : PySem.W.isFn K (.ref f14) = true) (l14 : K.lookup f14 = some ⟨oc14, od14, .func (PySem.W.fnOf "p" "Tape.p" (defArgs d_Tape__p) (defBody d_Tape__p) (defScope d_Tape__p) .none kV14 dc14 pm14 an14 cd14 ct14), sl14⟩) (c14 : PySem.W.codeIn K cd14 "Tape.p" = true) (k14 : PySem.W.keepIn K (.ref f14) = true)
    (a15 : PySem.W.findIn K (.ref CT) "key" = some (some (.ref f15))) (i15 : PySem.W.isFn K (.ref f15) = true) (l15 : K.lookup f15 = some ⟨oc15, od15, .func (PySem.W.fnOf "key" "Tape.key" (defArgs d_Tape__key) (defBody d_Tape__key) (defScope d_Tape__key) .none kV15 dc15 pm15 an15 cd15 ct15), sl15⟩) (c15 : PySem.W.codeIn K cd15 "Tape.key" = true) (k15 : PySem.W.keepIn K (.ref f15) = true)
    (a16 : PySem.W.findIn K (.ref CT) "signs" = some (some (.ref f16))) (i16 : PySem.W.isFn K (.ref f16) = true) (l16 : K.lookup f16 = some ⟨oc16, od16, .func (PySem.W.fnOf "signs" "Tape.signs" (defArgs d_Tape__signs) (defBody d_Tape__signs) (defScope d_Tape__signs) .none kV16 dc16 pm16 an16 cd16 ct16), sl16⟩) (c16 : PySem.W.codeIn K cd16 "Tape.signs" = true) (k16 : PySem.W.keepIn K (.ref f16) = true)
    (a17 : PySem.W.findIn K (.ref CT) "__eq__" = some (some (.ref f17))) (i17 : PySem.W.isFn K (.ref f17) = true) (l17 : K.lookup f17 = some ⟨oc17, od17, .func (PySem.W.fnOf "__eq__" "Tape.__eq__" (defArgs d_Tape____eq__) (defBody d_Tape____eq__) (defScope d_Tape____eq__) .none kV17 dc17 pm17 an17 cd17 ct17), sl17⟩) (c17 : PySem.W.codeIn K cd17 "Tape.__eq__" = true) (k17 : PySem.W.keepIn K (.ref f17) = true)
    (a18 : PySem.W.findIn K (.ref CT) "with_key" = some (some (.ref f18))) (i18 : PySem.W.isFn K (.ref f18) = true) (l18 : K.lookup f18 = some ⟨oc18, od18, .func (PySem.W.fnOf "with_key" "Tape.with_key" (defArgs d_Tape__with_key) (defBody d_Tape__with_key) (defScope d_Tape__with_key) .none kV18 dc18 pm18 an18 cd18 ct18), sl18⟩) (c18 : PySem.W.codeIn K cd18 "Tape.with_key" = true) (k18 : PySem.W.keepIn K (.ref f18) = true)
    (a19 : PySem.W.nsIn K mainGlobals "law" = some (some (.ref f19))) (l19 : K.lookup f19 = some ⟨oc19, od19, .func (PySem.W.fnOf "law" "law" (defArgs d_law) (defBody d_law) (defScope d_law) .none kV19 dc19 pm19 an19 cd19 ct19), sl19⟩) (c19 : PySem.W.codeIn K cd19 "law" = true) (k19 : PySem.W.keepIn K (.ref f19) = true)
    (aCT : PySem.W.nsIn K mainGlobals "Tape" = some (some (.ref CT))) (pg : PySem.W.plainGet K CT Str.empty = true) (hd : PySem.W.hasDictIn K CT = true) (po : PySem.W.plainOver K CT = true) (sa : PySem.W.findIn K (.ref CT) "__setattr__" = some (some (.builtin "object.__setattr__"))) (mk : PySem.W.makesIn K CT = true) (kc : PySem.W.keepIn K (.ref CT) = true)
    (n1 : PySem.W.findIn K (.ref CT) "its_p" = some none) (n2 : PySem.W.findIn K (.ref CT) "its_v" = some none) (n3 : PySem.W.findIn K (.ref CT) "its_key" = some none) (n4 : PySem.W.findIn K (.ref CT) "its_seed" = some none) (n5 : PySem.W.findIn K (.ref CT) "its_changes" = some none)
    (eha : PySem.W.findIn K (.ref CT) "__class__" = some (some (.builtin "object.__class__"))) (ehn : PySem.W.specialIn K (.builtin "object.__class__") "__get__" = some (some (.builtin "getset_descriptor.__get__"))) (ehtk : PySem.W.takesIn K (.builtin "object.__class__") = some true) (ehm : PySem.W.mroIn K CT (.type "object") = some true) (eti : PySem.W.typeIn K (.ref CT) = some (.type "type")) (ene : PySem.W.findIn K (.ref CT) "__ne__" = some (some (.builtin "object.__ne__")))
    (z_abs : PySem.W.nsIn K mainGlobals "abs" = some none)
    (z_bool : PySem.W.nsIn K mainGlobals "bool" = some none)
    (z_dict : PySem.W.nsIn K mainGlobals "dict" = some none)
    (z_int : PySem.W.nsIn K mainGlobals "int" = some none)
    (z_isinstance : PySem.W.nsIn K mainGlobals "isinstance" = some none)
    (z_len : PySem.W.nsIn K mainGlobals "len" = some none)
    (z_list : PySem.W.nsIn K mainGlobals "list" = some none)
    (z_range : PySem.W.nsIn K mainGlobals "range" = some none)
    (z_sorted : PySem.W.nsIn K mainGlobals "sorted" = some none)
    (z_str : PySem.W.nsIn K mainGlobals "str" = some none)
    (z_tuple : PySem.W.nsIn K mainGlobals "tuple" = some none)
    (z_zip : PySem.W.nsIn K mainGlobals "zip" = some none)
    (ye_BY_EPOCH : ∃ t, PySem.W.nsIn K mainGlobals "BY_EPOCH" = some (some (.int 7919 t)))
    (ye_BY_GIVE : ∃ t, PySem.W.nsIn K mainGlobals "BY_GIVE" = some (some (.int 104729 t)))
    (ye_BY_INDEX : ∃ t, PySem.W.nsIn K mainGlobals "BY_INDEX" = some (some (.int 1299709 t)))
    (ye_FACTOR : ∃ t, PySem.W.nsIn K mainGlobals "FACTOR" = some (some (.int 48271 t)))
    (ye_MODULUS : ∃ t, PySem.W.nsIn K mainGlobals "MODULUS" = some (some (.int 2147483647 t)))
    (ye_STEP : ∃ t, PySem.W.nsIn K mainGlobals "STEP" = some (some (.int 11 t)))
    : ∃ fd : FuncData, (∀ (s : Shared) (v : Value), BindsTo s fd ⟨[v], []⟩ [("script", v)]) ∧ ∀ base : Heap, K.In base → base.Ns mainGlobals mg → FnOk l.prog w K mg base CX0 5 fa fd ["script"] (spP K F_law) := by
  have e := hfa.symm.trans (PySem.W.mg_of X G a19)
  cases e
  have F0 := fun_mk (st := d_u_law_bag) l0 c0 k0
  have b0 := F0.binds (ps := ["script"]) fun _ _ _ _ _ _ us hl => match us, hl with | [_], _ => rfl
  have F1 := fun_mk (st := d_u_law_take) l1 c1 k1
  have b1 := F1.binds (ps := ["bag", "many"]) fun _ _ _ _ _ _ us hl => match us, hl with | [_, _], _ => rfl
  have F2 := fun_mk (st := d_u_law_some) l2 c2 k2
  have b2 := F2.binds (ps := ["bag", "things"]) fun _ _ _ _ _ _ us hl => match us, hl with | [_, _], _ => rfl
  have F3 := fun_mk (st := d_u_law_tape) l3 c3 k3
  have b3 := F3.binds (ps := ["bag", "p", "v"]) fun _ _ _ _ _ _ us hl => match us, hl with | [_, _, _], _ => rfl
  have F4 := fun_mk (st := d_Tape____init__) l4 c4 k4
  have b4 := F4.binds (ps := ["self", "p", "v", "key", "seed"]) fun _ _ _ _ _ _ us hl => match us, hl with | [_, _, _, _, _], _ => rfl
  have F5 := fun_mk (st := d_Tape__copied) l5 c5 k5
  have b5 := F5.binds (ps := ["self", "key"]) fun _ _ _ _ _ _ us hl => match us, hl with | [_, _], _ => rfl
  have F6 := fun_mk (st := d_stirred) l6 c6 k6
  have b6 := F6.binds (ps := ["state"]) fun _ _ _ _ _ _ us hl => match us, hl with | [_], _ => rfl
  have F7 := fun_mk (st := d_Tape__first) l7 c7 k7
  have b7 := F7.binds (ps := ["self", "epoch", "give"]) fun _ _ _ _ _ _ us hl => match us, hl with | [_, _, _], _ => rfl
  have F8 := fun_mk (st := d_Tape__with_signs) l8 c8 k8
  have b8 := F8.binds (ps := ["self", "some"]) fun _ _ _ _ _ _ us hl => match us, hl with | [_, _], _ => rfl
  have F9 := fun_mk (st := d_u_law_changes) l9 c9 k9
  have b9 := F9.binds (ps := ["tape"]) fun _ _ _ _ _ _ us hl => match us, hl with | [_], _ => rfl
  have F10 := fun_mk (st := d_u_law_signs) l10 c10 k10
  have b10 := F10.binds (ps := ["tape", "epoch", "give"]) fun _ _ _ _ _ _ us hl => match us, hl with | [_, _, _], _ => rfl
  have F11 := fun_mk (st := d_u_law_alike) l11 c11 k11
  have b11 := F11.binds (ps := ["found", "due"]) fun _ _ _ _ _ _ us hl => match us, hl with | [_, _], _ => rfl
  have F12 := fun_mk (st := d_Tape__changes) l12 c12 k12
  have b12 := F12.binds (ps := ["self"]) fun _ _ _ _ _ _ us hl => match us, hl with | [_], _ => rfl
  have F13 := fun_mk (st := d_Tape__width) l13 c13 k13
  have b13 := F13.binds (ps := ["self"]) fun _ _ _ _ _ _ us hl => match us, hl with | [_], _ => rfl
  have F14 := fun_mk (st := d_Tape__p) l14 c14 k14
  have b14 := F14.binds (ps := ["self"]) fun _ _ _ _ _ _ us hl => match us, hl with | [_], _ => rfl
  have F15 := fun_mk (st := d_Tape__key) l15 c15 k15
  have b15 := F15.binds (ps := ["self"]) fun _ _ _ _ _ _ us hl => match us, hl with | [_], _ => rfl
  have F16 := fun_mk (st := d_Tape__signs) l16 c16 k16
  have b16 := F16.binds (ps := ["self", "epoch", "give"]) fun _ _ _ _ _ _ us hl => match us, hl with | [_, _, _], _ => rfl
  have F17 := fun_mk (st := d_Tape____eq__) l17 c17 k17
  have b17 := F17.binds (ps := ["self", "other"]) fun _ _ _ _ _ _ us hl => match us, hl with | [_, _], _ => rfl
  have F18 := fun_mk (st := d_Tape__with_key) l18 c18 k18
  have b18 := F18.binds (ps := ["self", "key"]) fun _ _ _ _ _ _ us hl => match us, hl with | [_, _], _ => rfl
  have F19 := fun_mk (st := d_law) l19 c19 k19
  have b19 := F19.binds (ps := ["script"]) fun _ _ _ _ _ _ us hl => match us, hl with | [_], _ => rfl
  have T : Txt w K mg ⟨f0, _, f1, _, f2, _, f3, _, f4, _, f5, _, f6, _, f7, _, f8, _, f9, _, f10, _, f11, _, f12, _, f13, _, f14, _, f15, _, f16, _, f17, _, f18, _, fa, _, CT⟩ := ⟨k0, F0, b0, k1, F1, b1, k2, F2, b2, k3, F3, b3, k4, F4, ⟨a4, i4, k4⟩, b4, k5, F5, ⟨a5, i5, k5⟩, b5, k6, F6, b6, k7, F7, ⟨a7, i7, k7⟩, b7, k8, F8, ⟨a8, i8, k8⟩, b8, k9, F9, b9, k10, F10, b10, k11, F11, b11, k12, F12, ⟨a12, i12, k12⟩, b12, k13, F13, ⟨a13, i13, k13⟩, b13, k14, F14, ⟨a14, i14, k14⟩, b14, k15, F15, ⟨a15, i15, k15⟩, b15, k16, F16, ⟨a16, i16, k16⟩, b16, k17, F17, ⟨a17, i17, k17⟩, b17, k18, F18, ⟨a18, i18, k18⟩, b18, k19, F19, b19, ⟨⟨aCT, ⟨pg, hd, po, sa⟩⟩, n1, n2, n3, n4, n5⟩, ⟨mk, a4, i4, kc⟩, PySem.W.mg_of X G aCT, ⟨eha, ehn, ehtk, ehm, eti, ene⟩, PySem.W.mg_of X G a11, PySem.W.mg_of X G a0, PySem.W.mg_of X G a9, PySem.W.mg_of X G a10, PySem.W.mg_of X G a2, PySem.W.mg_of X G a1, PySem.W.mg_of X G a3, PySem.W.mg_of X G a6, PySem.W.mg_none_of X G z_abs, PySem.W.mg_none_of X G z_bool, PySem.W.mg_none_of X G z_dict, PySem.W.mg_none_of X G z_int, PySem.W.mg_none_of X G z_isinstance, PySem.W.mg_none_of X G z_len, PySem.W.mg_none_of X G z_list, PySem.W.mg_none_of X G z_range, PySem.W.mg_none_of X G z_sorted, PySem.W.mg_none_of X G z_str, PySem.W.mg_none_of X G z_tuple, PySem.W.mg_none_of X G z_zip, (let ⟨t, h⟩ := ye_BY_EPOCH; ⟨t, PySem.W.mg_of X G h⟩), (let ⟨t, h⟩ := ye_BY_GIVE; ⟨t, PySem.W.mg_of X G h⟩), (let ⟨t, h⟩ := ye_BY_INDEX; ⟨t, PySem.W.mg_of X G h⟩), (let ⟨t, h⟩ := ye_FACTOR; ⟨t, PySem.W.mg_of X G h⟩), (let ⟨t, h⟩ := ye_MODULUS; ⟨t, PySem.W.mg_of X G h⟩), (let ⟨t, h⟩ := ye_STEP; ⟨t, PySem.W.mg_of X G h⟩)⟩
  exact ⟨_, fun s v => .of_eq rfl, fun base _ _ => o_law T⟩
theorem walk {l : PySem.W.OpenLaw} {q : Program} {loose : List Str} {XP : (Str → Option Value) → Heap → Prop} {YP : World → Heap → Prop} {d : DefRec} {K : Params → PySem.W.Frag} (plain : ∀ ns : List Int, ns.length ≤ 63 → F_law [.scr ns] = some (.sh (.bl true))) (hn : l.most = some 63) (hdf : d.params.defaults = [])
    (hY : ∀ (w : World) (h : Heap), YP w h → (K w.params).In h)
    (F : ∀ (w : World) (mg : Str → Option Value) (fa : Addr) (h : Heap), (K w.params).In h → h.Ns mainGlobals mg → mg d.name = some (.ref fa) →
      ∃ fd : FuncData, (∀ (s : Shared) (u : Value), BindsTo s fd ⟨[u], []⟩ [("script", u)]) ∧ ∀ base : Heap, (K w.params).In base → base.Ns mainGlobals mg → FnOk l.prog w (K w.params) mg base CX0 5 fa fd ["script"] (spP (K w.params) F_law)) :
    PySem.W.WalkO q loose XP YP l.row.toRowW d [] (fun f vs => PySem.call f vs) :=
  L2.walk_of (n := 63) (k := 5) (x := "script") (CX := fun _ => CX0) (sp := fun w => spP (K w.params) F_law) hn (by decide) hdf ⟨rfl, by decide, by decide⟩ hY F
    (fun _ _ a ns hl _ hS => spP_law (plain ns hl) hS) fun _ _ _ _ _ z => z
end K28
set_option Elab.async false
set_option linter.all false
set_option maxRecDepth 100000
set_option maxHeartbeats 4000000
/-! what tapes tell -/
namespace Fx.Tt
open PySem L2 Fx Fx.L Fx.Tp
theorem rng_map (n : Nat) : rng 0 (n : Int) = (List.range n).map fun i => D.int (i : Nat) := by
  apply List.ext_getElem?
  intro i
  rw [List.getElem?_map]
  by_cases h : i < n
  · obtain ⟨d, hd⟩ : ∃ d, (rng 0 (n : Int))[i]? = some d := ⟨_, List.getElem?_eq_getElem (by rw [rng_len]; exact h)⟩
    obtain ⟨h1, _⟩ := rng_get hd
    rw [hd, h1]; simp [h]
  · rw [List.getElem?_eq_none (by rw [rng_len]; omega), List.getElem?_eq_none (by simp; omega)]; rfl
theorem cut_m1 {α : Type} {xs : List α} {x : α} : cutD (xs ++ [x]) none (some (-1)) = xs := by
  unfold cutD
  have e : HT.sIx (xs ++ [x]).length (xs ++ [x]).length (some (-1)) = xs.length := by
    show (if ((-1 : Int)) < 0 then ((-1 : Int) + ((xs ++ [x]).length : Int)).toNat else min ((-1 : Int)).toNat (xs ++ [x]).length) = _
    rw [if_pos (by decide), List.length_append, List.length_singleton]
    omega
  rw [HT.sIx_none, e, List.drop_zero, Nat.sub_zero, List.take_left' rfl]
theorem at_m1 {α : Type} {xs : List α} {x : α} : atI (xs ++ [x]) (-1) = some x := by
  have e : ixN (xs ++ [x]).length (-1) = some xs.length := by
    unfold ixN
    simp
    try omega
  unfold atI
  rw [e]
  simp
def st (x : Int) : Int := (x * 48271 + 11) % 2147483647
def wd (p seed e g : Int) (at_ : Nat) : Int := st (st (seed + 7919 * e + 104729 * g + 1299709 * (at_ : Int))) / 7 % p
def wds (p seed e g : Int) (n : Nat) : List Int := (List.range n).map (wd p seed e g)
abbrev Sg := List Int × Int
/-- as it is at first -/
def fs (p : Int) (v : Nat) (seed e g : Int) : Sg := (wds p seed e g v, wd p seed e g v)
def rwD (r : List Int) : D := .tup (r.map D.int)
def sgD (s : Sg) : D := .tup [rwD s.1, .int s.2]
theorem stirred_ok (x : Int) : F_stirred [.int x] = some (.sh (.int (st x))) := by
  have s1 : sm 48271 = true := sm_of (by decide) (by decide)
  unfold F_stirred fnP b_stirred
  simp [startE, s1, st]
theorem wds_len {p seed e g : Int} {n : Nat} : (wds p seed e g n).length = n := by simp [wds]
theorem wds_succ {p seed e g : Int} {n : Nat} : wds p seed e g (n + 1) = wds p seed e g n ++ [wd p seed e g n] := by simp [wds, List.range_succ]
structure Pv (p : Int) (v : Nat) : Prop where
  p0 : 1 ≤ p
  p1 : p < 1000000
  v1 : v ≤ 1000
theorem first_ok {p : Int} {v : Nat} {k : D} {seed e g : Int} {ch : List (List Key × D)} (h : Pv p v) : F_Tape__first [tpD (.int p) (.int v) k (.int seed) ch, .int e, .int g] = some (.sh (sgD (fs p v seed e g))) := by
  have s1 : sm 7919 = true := sm_of (by decide) (by decide)
  have s2 : sm 104729 = true := sm_of (by decide) (by decide)
  have s3 : sm 1299709 = true := sm_of (by decide) (by decide)
  have p0 := h.p0
  have v1 := h.v1
  have f1 : fldD "its_p" nms [.int p, .int v, k, .int seed, .dt ch] = some (.int p) := rfl
  have f2 : fldD "its_v" nms [.int p, .int v, k, .int seed, .dt ch] = some (.int v) := by
    show (if ("its_p" : Str) = "its_v" then _ else if ("its_v" : Str) = "its_v" then some (D.int v) else _) = _
    rw [if_neg (by decide +kernel), if_pos rfl]
  have f4 : fldD "its_seed" nms [.int p, .int v, k, .int seed, .dt ch] = some (.int seed) := by
    show (if ("its_p" : Str) = "its_seed" then _ else if ("its_v" : Str) = "its_seed" then _ else if ("its_key" : Str) = "its_seed" then _ else if ("its_seed" : Str) = "its_seed" then some (D.int seed) else _) = _
    rw [if_neg (by decide +kernel), if_neg (by decide +kernel), if_neg (by decide +kernel), if_pos rfl]
  have loop := forM (E := S_Tape__first.e) (t := .one 5) (b := l1_Tape__first) (f := fun i : Nat => D.int (i : Nat)) (fun q s => s.v_self = some (.sh (tpD (.int p) (.int v) k (.int seed) ch)) ∧ s.v_begin = some (.sh (.int (seed + 7919 * e + 104729 * g))) ∧ s.v_found = some (.ol ((wds p seed e g q.length).map D.int)))
    (l := List.range (v + 1)) (s := { v_self := some (.sh (tpD (.int p) (.int v) k (.int seed) ch)), v_epoch := some (.sh (.int e)), v_give := some (.sh (.int g)), v_begin := some (.sh (.int (seed + 7919 * e + 104729 * g))), v_found := some (.ol []) }) ⟨rfl, rfl, by simp [wds]⟩ (by
      rintro q a r s hl ⟨h1, h2, h3⟩
      have ha : a = q.length := by
        have := congrArg (fun l => l[q.length]?) hl
        simp at this
        by_cases hq : q.length < v + 1
        · have hh := this
          rw [List.getElem?_eq_getElem (by simpa using hq)] at hh
          simp at hh
          exact hh.symm
        · rw [List.getElem?_eq_none (by simp; omega)] at this
          cases this
      have hlen := congrArg List.length hl
      simp at hlen
      have hq : (wds p seed e g q.length).length < lim := by rw [wds_len, lim_val]; omega
      have hq' : q.length < lim := by rw [lim_val]; omega
      refine ⟨{ s with v_at := some (.sh (.int a)), v_found := some (.ol ((wds p seed e g (q ++ [a]).length).map D.int)) }, ?_, h1, h2, rfl⟩
      subst ha
      have e1 : ((wds p seed e g (q ++ [q.length]).length).map D.int) = (wds p seed e g q.length).map D.int ++ [.int (wd p seed e g q.length)] := by simp [wds_succ]
      rw [e1]
      have h1' : s.v_self = some (.sh (.obj "Tape" nms [.int p, .int v, k, .int seed, .dt ch])) := h1
      have hp : 0 < p := by omega
      simp [l1_Tape__first, h1', h2, h3, f1, stirred_ok, s3, hp, hq', wds_len, wd])
  obtain ⟨s', hloop, h1, h2, h3⟩ := loop
  rw [F_Tape__first_eq, b_Tape__first]
  have hr : okR ((v : Int) + 1) = true := okR_of (by omega) (by omega)
  have er : rng 0 ((v : Int) + 1) = (List.range (v + 1)).map fun i => D.int (i : Nat) := rng_map (v + 1)
  have c1 : cutD ((wds p seed e g (v + 1)).map D.int) none (some (-1)) = (wds p seed e g v).map D.int := by
    rw [wds_succ, List.map_append]
    exact cut_m1
  have c2 : atI ((wds p seed e g (v + 1)).map D.int) (-1) = some (.int (wd p seed e g v)) := by
    rw [wds_succ, List.map_append]
    exact at_m1
  rw [List.length_range] at h3
  have l0 : (0 : Nat) ≤ lim := by omega
  have l2 : (2 : Nat) ≤ lim := by rw [lim_val]; omega
  rw [seq_nx (e := ({ v_self := some (.sh (tpD (.int p) (.int v) k (.int seed) ch)), v_epoch := some (.sh (.int e)), v_give := some (.sh (.int g)), v_begin := some (.sh (.int (seed + 7919 * e + 104729 * g))), v_found := some (.ol []) } : S_Tape__first).e) (by simp [tpD, f4, s1, s2])]
  rw [seq_nx (e := s'.e) (by simp [tpD, f2, hr, er]; exact hloop)]
  simp [h3, c1, c2, l2, sgD, fs, rwD]
/-! ## a dict of changes -/
abbrev Ch := List ((Int × Int) × Sg)
def kD (k : Int × Int) : List Key := key2 k.1 k.2
def chD (ch : Ch) : List (List Key × D) := ch.map fun z => (kD z.1, sgD z.2)
def look (ch : Ch) (k : Int × Int) : Option Sg := (ch.find? fun z => decide (z.1 = k)).map (·.2)
theorem kD_inj {j k : Int × Int} : kD j = kD k ↔ j = k := by
  obtain ⟨a, b⟩ := j; obtain ⟨c, d⟩ := k
  simp [kD, key2]
theorem val_ch (ch : Ch) (k : Int × Int) : valD (chD ch) (kD k) = (look ch k).map sgD := by
  unfold valD chD look
  induction ch with
  | nil => rfl
  | cons z r ih =>
    simp only [List.map_cons, List.find?_cons, kD_inj]
    by_cases h : z.1 = k
    · simp [h]
    · simp only [h, decide_false]
      exact ih
/-- what a tape with these changes tells -/
def sgs (p : Int) (v : Nat) (seed : Int) (ch : Ch) (k : Int × Int) : Sg := (look ch k).getD (fs p v seed k.1 k.2)
theorem getK_ch (ch : Ch) (e g : Int) : getK (.dt (chD ch)) (.tup [.int e, .int g]) = some ((look ch (e, g)).map sgD) := by
  show (keysD [.int e, .int g]).bind (fun k => some (valD (chD ch) k)) = _
  have : keysD [.int e, .int g] = some (kD (e, g)) := rfl
  rw [this]
  show some (valD (chD ch) (kD (e, g))) = _
  rw [val_ch]
theorem signs_ok {p : Int} {v : Nat} {k : D} {seed e g : Int} {ch : Ch} (h : Pv p v) : F_Tape__signs [tpD (.int p) (.int v) k (.int seed) (chD ch), .int e, .int g] = some (.sh (sgD (sgs p v seed ch (e, g)))) := by
  have f5 : fldD "its_changes" nms [.int p, .int v, k, .int seed, .dt (chD ch)] = some (.dt (chD ch)) := by
    show (if ("its_p" : Str) = "its_changes" then _ else if ("its_v" : Str) = "its_changes" then _ else if ("its_key" : Str) = "its_changes" then _ else if ("its_seed" : Str) = "its_changes" then _ else if ("its_changes" : Str) = "its_changes" then some (D.dt (chD ch)) else _) = _
    rw [if_neg (by decide +kernel), if_neg (by decide +kernel), if_neg (by decide +kernel), if_neg (by decide +kernel), if_pos rfl]
  have hf := first_ok (k := k) (seed := seed) (e := e) (g := g) (ch := chD ch) h
  unfold tpD at hf ⊢
  have l2 : (2 : Nat) ≤ lim := by rw [lim_val]; omega
  have hno : ¬ (("first" : Str) ∈ nms) := by decide +kernel
  rw [F_Tape__signs_eq, b_Tape__signs]
  have hg := getK_ch ch e g
  cases q : look ch (e, g) with
  | none =>
    rw [q] at hg
    simp only [Option.map_none] at hg
    simp [f5, l2, hg, hf, hno, sgs, q, D.isN]
  | some s =>
    rw [q] at hg
    simp only [Option.map_some] at hg
    simp [f5, l2, hg, sgs, q, sgD, D.isN]
structure Own where
  p : Int
  v : Nat
  key : List Int
  seed : Int
  ch : Ch
def Own.d (o : Own) : D := .tup [.int o.p, .int o.v, rwD o.key, .int o.seed, .dt (chD o.ch)]
def Own.sg (o : Own) (k : Int × Int) : Sg := sgs o.p o.v o.seed o.ch k
theorem law_signs_ok {o : Own} {e g : Int} (h : Pv o.p o.v) : F_u_law_signs [o.d, .int e, .int g] = some (.sh (sgD (o.sg (e, g)))) := by
  have s1 : sm 7919 = true := sm_of (by decide) (by decide)
  have s2 : sm 104729 = true := sm_of (by decide) (by decide)
  have s3 : sm 1299709 = true := sm_of (by decide) (by decide)
  have s4 : sm 48271 = true := sm_of (by decide) (by decide)
  have p0 := h.p0
  have v1 := h.v1
  have hp : 0 < o.p := by omega
  have l2 : (2 : Nat) ≤ lim := by rw [lim_val]; omega
  have hg := getK_ch o.ch e g
  rw [F_u_law_signs_eq, b_u_law_signs]
  let s0 : S_u_law_signs := { v_tape := some (.sh o.d), v_epoch := some (.sh (.int e)), v_give := some (.sh (.int g)), v_p := some (.sh (.int o.p)), v_v := some (.sh (.int o.v)), v_key := some (.sh (rwD o.key)), v_seed := some (.sh (.int o.seed)), v_changes := some (.sh (.dt (chD o.ch))) }
  rw [seq_nx (e := s0.e) (by simp [Own.d, s0])]
  cases q : look o.ch (e, g) with
  | some s =>
    rw [q] at hg
    simp only [Option.map_some] at hg
    simp [s0, l2, hg, fInB, Own.sg, sgs, q]
  | none =>
    rw [q] at hg
    simp only [Option.map_none] at hg
    rw [seq_nx (e := s0.e) (by simp [s0, l2, hg, fInB])]
    rw [seq_nx (e := ({ s0 with v_words := some (.ol []) } : S_u_law_signs).e) (by simp [s0])]
    have inner : ∀ (s : S_u_law_signs) (x : Int), s.v_state = some (.sh (.int x)) → ∃ s', forN (.one 11) l1_u_law_signs (rng 0 2) s.e = some (.nx (S_u_law_signs.e s')) ∧ s' = { s with v_state := some (.sh (.int (st (st x)))), v_turn := some (.sh (.int 1)) } := fun s x hs => by
      have er : rng 0 2 = [.int 0, .int 1] := rfl
      refine ⟨_, ?_, rfl⟩
      rw [er]
      simp [l1_u_law_signs, hs, s4, st, forN_cons, forN_nil]
    have loop := forM (E := S_u_law_signs.e) (t := .one 9) (b := l2_u_law_signs) (f := fun i : Nat => D.int (i : Nat)) (fun q s => s.v_epoch = some (.sh (.int e)) ∧ s.v_give = some (.sh (.int g)) ∧ s.v_p = some (.sh (.int o.p)) ∧ s.v_v = some (.sh (.int o.v)) ∧ s.v_seed = some (.sh (.int o.seed)) ∧ s.v_words = some (.ol ((wds o.p o.seed e g q.length).map D.int)))
      (l := List.range (o.v + 1)) (s := { s0 with v_words := some (.ol []) }) ⟨rfl, rfl, rfl, rfl, rfl, by simp [wds]⟩ (by
        rintro q a r s hl ⟨h1, h2, h3, h4, h5, h6⟩
        have ha : a = q.length := by
          have := congrArg (fun l => l[q.length]?) hl
          simp at this
          by_cases hq : q.length < o.v + 1
          · have hh := this
            rw [List.getElem?_eq_getElem (by simpa using hq)] at hh
            simp at hh
            exact hh.symm
          · rw [List.getElem?_eq_none (by simp; omega)] at this
            cases this
        have hlen := congrArg List.length hl
        simp at hlen
        have hq' : q.length < lim := by rw [lim_val]; omega
        subst ha
        have e1 : ((wds o.p o.seed e g (q ++ [q.length]).length).map D.int) = (wds o.p o.seed e g q.length).map D.int ++ [.int (wd o.p o.seed e g q.length)] := by simp [wds_succ]
        obtain ⟨s', hi, es⟩ := inner { s with v_at := some (.sh (.int q.length)), v_state := some (.sh (.int (o.seed + 7919 * e + 104729 * g + 1299709 * (q.length : Int)))) } _ rfl
        subst es
        refine ⟨{ s with v_at := some (.sh (.int q.length)), v_state := some (.sh (.int (st (st (o.seed + 7919 * e + 104729 * g + 1299709 * (q.length : Int)))))), v_turn := some (.sh (.int 1)), v_words := some (.ol ((wds o.p o.seed e g (q ++ [q.length]).length).map D.int)) }, ?_, h1, h2, h3, h4, h5, rfl⟩
        rw [e1]
        refine (congrArg (fun z => Option.bind z l2_u_law_signs) (show asgT (.one 9) (.int (q.length : Nat)) s.e = some ({ s with v_at := some (.sh (.int q.length)) } : S_u_law_signs).e by simp)).trans ?_
        show l2_u_law_signs _ = _
        rw [l2_u_law_signs, seq_nx (e := ({ s with v_at := some (.sh (.int q.length)), v_state := some (.sh (.int (o.seed + 7919 * e + 104729 * g + 1299709 * (q.length : Int)))) } : S_u_law_signs).e) (by simp [h1, h2, h5, s1, s2, s3])]
        have ok2 : okR 2 = true := okR_of (by decide) (by decide)
        rw [seq_nx (e := _) (by simp [ok2]; exact hi)]
        simp [h3, h6, hp, hq', wds_len, wd])
    obtain ⟨s', hloop, h1, h2, h3, h4, h5, h6⟩ := loop
    have hr : okR ((o.v : Int) + 1) = true := okR_of (by omega) (by omega)
    have er : rng 0 ((o.v : Int) + 1) = (List.range (o.v + 1)).map fun i => D.int (i : Nat) := rng_map (o.v + 1)
    rw [List.length_range] at h6
    rw [seq_nx (e := s'.e) (by simp [s0, hr, er]; exact hloop)]
    have c1 : cutD ((wds o.p o.seed e g (o.v + 1)).map D.int) none (some (o.v : Int)) = (wds o.p o.seed e g o.v).map D.int := by
      rw [cut_take, wds_succ, List.map_append, List.take_left' (by simp [wds_len])]
    have c2 : atI ((wds o.p o.seed e g (o.v + 1)).map D.int) (o.v : Int) = some (.int (wd o.p o.seed e g o.v)) := by
      rw [Fx.atI_nat, wds_succ, List.map_append]
      simp [wds_len]
    simp [h6, h4, c1, c2, l2, sgD, Own.sg, sgs, q, fs, rwD]
end Fx.Tt
set_option Elab.async false
set_option linter.all false
set_option maxRecDepth 100000
set_option maxHeartbeats 4000000
/-! tapes with other signs -/
namespace Fx.Tt
open PySem L2 Fx Fx.L Fx.Tp
def anyC (ch : Ch) (k : Int × Int) : Bool := ch.any fun z => decide (z.1 = k)
def putCh (ch : Ch) (k : Int × Int) (s : Sg) : Ch := if anyC ch k = true then ch.map fun z => if z.1 = k then (z.1, s) else z else ch ++ [(k, s)]
def dropCh (ch : Ch) (k : Int × Int) : Ch := ch.filter fun z => decide (z.1 ≠ k)
theorem put_ch (ch : Ch) (k : Int × Int) (s : Sg) : putD (chD ch) (kD k) (sgD s) = chD (putCh ch k s) := by
  unfold putD putCh chD anyC
  have e : ((ch.map fun z => (kD z.1, sgD z.2)).any fun kv => decide (kv.1 = kD k)) = ch.any fun z => decide (z.1 = k) := by
    rw [List.any_map]
    congr 1
    funext z
    simp [kD_inj]
  rw [e]
  split
  · rw [List.map_map, List.map_map]
    refine List.map_congr_left fun z _ => ?_
    simp only [Function.comp, kD_inj]
    split <;> rfl
  · simp
theorem drop_ch (ch : Ch) (k : Int × Int) : dropD (chD ch) (kD k) = chD (dropCh ch k) := by
  unfold dropD dropCh chD
  rw [List.filter_map]
  congr 1
  refine List.filter_congr fun z _ => ?_
  simp [kD_inj]
theorem look_cons (z : (Int × Int) × Sg) (r : Ch) (j : Int × Int) : look (z :: r) j = if z.1 = j then some z.2 else look r j := by
  unfold look
  rw [List.find?_cons]
  by_cases h : z.1 = j
  · simp [h]
  · simp [h]
theorem look_app (a b : Ch) (j : Int × Int) : look (a ++ b) j = (look a j).or (look b j) := by
  induction a with
  | nil => simp [look]
  | cons z r ih =>
    rw [List.cons_append, look_cons, look_cons, ih]
    split <;> rfl
theorem any_look (ch : Ch) (k : Int × Int) : anyC ch k = (look ch k).isSome := by
  unfold anyC
  induction ch with
  | nil => rfl
  | cons z r ih =>
    rw [List.any_cons, look_cons, ih]
    by_cases h : z.1 = k <;> simp [h]
theorem look_map (ch : Ch) (k j : Int × Int) (s : Sg) : look (ch.map fun z => if z.1 = k then (z.1, s) else z) j = if j = k then (look ch k).map fun _ => s else look ch j := by
  induction ch with
  | nil => simp [look]
  | cons z r ih =>
    rw [List.map_cons, look_cons, look_cons, look_cons, ih]
    by_cases h1 : z.1 = k
    · rw [if_pos h1]
      by_cases h2 : j = k
      · subst h2; simp [h1]
      · have : ¬ z.1 = j := fun q => h2 (q.symm.trans h1)
        simp [h2, this]
    · rw [if_neg h1]
      by_cases h2 : j = k
      · subst h2; simp [h1]
      · simp [h2]
theorem look_put (ch : Ch) (k j : Int × Int) (s : Sg) : look (putCh ch k s) j = if j = k then some s else look ch j := by
  unfold putCh
  rw [any_look]
  cases h : look ch k with
  | some x =>
    simp only [Option.isSome_some, if_true]
    rw [look_map, h]
    rfl
  | none =>
    rw [if_neg (by simp), look_app, look_cons]
    by_cases h2 : j = k
    · subst h2; simp [h]
    · have : ¬ k = j := fun q => h2 q.symm
      simp [h2, this, look]
theorem look_drop (ch : Ch) (k j : Int × Int) : look (dropCh ch k) j = if j = k then none else look ch j := by
  unfold dropCh
  induction ch with
  | nil => simp [look]
  | cons z r ih =>
    rw [List.filter_cons]
    by_cases h1 : z.1 = k
    · rw [if_neg (by simp [h1]), ih, look_cons]
      by_cases h2 : j = k
      · simp [h2]
      · have : ¬ z.1 = j := fun q => h2 (q.symm.trans h1)
        simp [h2, this]
    · rw [if_pos (by simp [h1]), look_cons, look_cons, ih]
      by_cases h2 : j = k
      · subst h2; simp [h1]
      · simp [h2]
/-- changes at places within 8 by 8 -/
structure Good (ch : Ch) : Prop where
  nd : (ch.map (·.1)).Nodup
  rg : ∀ z ∈ ch, 0 ≤ z.1.1 ∧ z.1.1 < 8 ∧ 0 ≤ z.1.2 ∧ z.1.2 < 8
theorem keys_put (ch : Ch) (k : Int × Int) (s : Sg) : (putCh ch k s).map (·.1) = if anyC ch k = true then ch.map (·.1) else ch.map (·.1) ++ [k] := by
  unfold putCh
  split
  · rw [List.map_map]
    refine List.map_congr_left fun z _ => ?_
    simp only [Function.comp]
    split <;> rfl
  · simp
theorem Good.put {ch : Ch} (h : Good ch) {k : Int × Int} {s : Sg} (hk : 0 ≤ k.1 ∧ k.1 < 8 ∧ 0 ≤ k.2 ∧ k.2 < 8) : Good (putCh ch k s) := by
  have hm : ∀ j ∈ (putCh ch k s).map (·.1), 0 ≤ j.1 ∧ j.1 < 8 ∧ 0 ≤ j.2 ∧ j.2 < 8 := fun j hj => by
    rw [keys_put] at hj
    split at hj
    · obtain ⟨z, hz, rfl⟩ := List.mem_map.mp hj; exact h.rg z hz
    · rcases List.mem_append.mp hj with hj | hj
      · obtain ⟨z, hz, rfl⟩ := List.mem_map.mp hj; exact h.rg z hz
      · simp at hj; subst hj; exact hk
  refine ⟨?_, fun z hz => hm z.1 (List.mem_map.mpr ⟨z, hz, rfl⟩)⟩
  rw [keys_put]
  split
  · exact h.nd
  · rename_i hn
    rw [List.nodup_append]
    refine ⟨h.nd, by simp, fun a ha b hb => ?_⟩
    simp at hb; subst hb
    intro e; subst e
    obtain ⟨z, hz, e⟩ := List.mem_map.mp ha
    exact hn (List.any_eq_true.mpr ⟨z, hz, by simp [e]⟩)
theorem Good.drop {ch : Ch} (h : Good ch) {k : Int × Int} : Good (dropCh ch k) :=
  ⟨h.nd.sublist ((List.filter_sublist).map _), fun z hz => h.rg z (List.mem_filter.mp hz).1⟩
theorem look_mem {ch : Ch} {k : Int × Int} {s : Sg} (h : look ch k = some s) : (k, s) ∈ ch := by
  unfold look at h
  cases q : ch.find? fun z => decide (z.1 = k) with
  | none => rw [q] at h; cases h
  | some z =>
    rw [q] at h
    have h1 := List.mem_of_find?_eq_some q
    have h2 := List.find?_some q
    simp at h h2
    rw [← h2, ← h]; exact h1
theorem mem_look {ch : Ch} (nd : (ch.map (·.1)).Nodup) {k : Int × Int} {s : Sg} (h : (k, s) ∈ ch) : look ch k = some s := by
  induction ch with
  | nil => cases h
  | cons z r ih =>
    rw [look_cons]
    rw [List.map_cons, List.nodup_cons] at nd
    rcases List.mem_cons.mp h with q | h
    · subst q; simp
    · have : ¬ z.1 = k := fun e => nd.1 (List.mem_map.mpr ⟨_, h, e.symm⟩)
      rw [if_neg this]
      exact ih nd.2 h
/-! the hashes tell the places apart -/
def kks : List (Int × Int) := (List.range 64).map fun i => (((i / 8 : Nat) : Int), ((i % 8 : Nat) : Int))
theorem kks_mem {k : Int × Int} (h : 0 ≤ k.1 ∧ k.1 < 8 ∧ 0 ≤ k.2 ∧ k.2 < 8) : k ∈ kks := by
  obtain ⟨a, b⟩ := k
  obtain ⟨h1, h2, h3, h4⟩ := h
  refine List.mem_map.mpr ⟨a.toNat * 8 + b.toNat, by simp at *; omega, ?_⟩
  simp at *
  constructor <;> omega
theorem hash_apart : (kks.all fun j => kks.all fun k => decide (hashD (kD j) = hashD (kD k) → j = k)) = true := by decide +kernel
theorem hash_inj {j k : Int × Int} (hj : 0 ≤ j.1 ∧ j.1 < 8 ∧ 0 ≤ j.2 ∧ j.2 < 8) (hk : 0 ≤ k.1 ∧ k.1 < 8 ∧ 0 ≤ k.2 ∧ k.2 < 8) (h : hashD (kD j) = hashD (kD k)) : j = k := by
  have := hash_apart
  rw [List.all_eq_true] at this
  have := this j (kks_mem hj)
  rw [List.all_eq_true] at this
  have := this k (kks_mem hk)
  exact of_decide_eq_true this h
theorem Good.apart {ch : Ch} (h : Good ch) : apart (chD ch) = true := by
  unfold Tp.apart chD
  simp only [Bool.and_eq_true, List.all_eq_true, decide_eq_true_eq]
  refine ⟨fun t ht => ?_, ?_⟩
  · obtain ⟨z, _, rfl⟩ := List.mem_map.mp ht
    rfl
  · rw [List.map_map]
    have nd := h.nd
    rw [List.Nodup, List.pairwise_map] at nd ⊢
    exact nd.imp_of_mem fun {a b} ha hb hne e => hne (hash_inj (h.rg a ha) (h.rg b hb) e)
/-! one turn -/
def wsS (p : Int) (v : Nat) (seed : Int) (ch : Ch) (z : (Int × Int) × Sg) : Ch := if fs p v seed z.1.1 z.1.2 = z.2 then dropCh (putCh ch z.1 z.2) z.1 else putCh ch z.1 z.2
def itC (z : (Int × Int) × Sg) : D := .tup [.int z.1.1, .int z.1.2, rwD z.2.1, .int z.2.2]
theorem okq_ints (l : List Int) : D.okqs (l.map D.int) = true := by
  induction l with
  | nil => rfl
  | cons a l ih => simp [D.okqs, D.okq, ih]
theorem dep_ints (l : List Int) : D.deps (l.map D.int) = 0 := by
  induction l with
  | nil => rfl
  | cons a l ih => simp [D.deps, D.dep, ih]
theorem eqv_ints (a b : List Int) : D.eqvs (a.map D.int) (b.map D.int) = decide (a = b) := by
  induction a generalizing b with
  | nil => cases b <;> simp [D.eqvs]
  | cons x a ih =>
    cases b with
    | nil => simp [D.eqvs]
    | cons y b =>
      simp only [List.map_cons, D.eqvs, D.eqv, ih]
      rw [Bool.eq_iff_iff]
      simp
theorem sg_cmp (a b : Sg) : (sgD a).cmpable (sgD b) = true := by
  simp [D.cmpable, sgD, rwD, D.okq, D.okqs, okq_ints, D.dep, D.deps, dep_ints]
theorem sg_eqv (a b : Sg) : D.eqv (sgD a) (sgD b) = decide (a = b) := by
  simp only [sgD, rwD, D.eqv, D.eqvs, eqv_ints]
  rw [Bool.eq_iff_iff]
  simp [Prod.ext_iff]
theorem ws_step {p : Int} {v : Nat} {k : D} {seed : Int} {ch : Ch} {z : (Int × Int) × Sg} (h : Pv p v) (hl : ch.length < 1000) : wsStep F_Tape__first (.int p) (.int v) k (.int seed) (chD ch) (itC z) = some (chD (wsS p v seed ch z)) := by
  obtain ⟨⟨e, g⟩, s⟩ := z
  have e1 : putD (chD ch) (key2 e g) (.tup [rwD s.1, .int s.2]) = chD (putCh ch (e, g) s) := put_ch ch (e, g) s
  have e2 : dropD (chD (putCh ch (e, g) s)) (key2 e g) = chD (dropCh (putCh ch (e, g) s) (e, g)) := drop_ch _ (e, g)
  have hf := first_ok (k := k) (seed := seed) (e := e) (g := g) (ch := chD (putCh ch (e, g) s)) h
  have hlen : (chD ch).length < lim := by rw [lim_val]; simp [chD]; omega
  unfold itC wsStep
  simp only
  rw [if_pos hlen, e1, hf]
  simp only
  have c1 : (sgD (fs p v seed e g)).cmpable (.tup [rwD s.1, .int s.2]) = true := sg_cmp _ s
  have c2 : D.eqv (sgD (fs p v seed e g)) (.tup [rwD s.1, .int s.2]) = decide (fs p v seed e g = s) := sg_eqv _ s
  rw [if_pos c1, c2, e2]
  unfold wsS
  by_cases q : fs p v seed e g = s
  · simp [q]
  · simp [q]
theorem ws_len {p : Int} {v : Nat} {seed : Int} {ch : Ch} {z : (Int × Int) × Sg} : (wsS p v seed ch z).length ≤ ch.length + 1 := by
  have h1 : (putCh ch z.1 z.2).length ≤ ch.length + 1 := by unfold putCh; split <;> simp
  unfold wsS
  split
  · exact Nat.le_trans (List.length_filter_le _ _) h1
  · exact h1
theorem ws_good {p : Int} {v : Nat} {seed : Int} {ch : Ch} {z : (Int × Int) × Sg} (h : Good ch) (hk : 0 ≤ z.1.1 ∧ z.1.1 < 8 ∧ 0 ≤ z.1.2 ∧ z.1.2 < 8) : Good (wsS p v seed ch z) := by
  unfold wsS
  split
  · exact (h.put hk).drop
  · exact h.put hk
theorem ws_sgs {p : Int} {v : Nat} {seed : Int} {ch : Ch} {z : (Int × Int) × Sg} (j : Int × Int) : sgs p v seed (wsS p v seed ch z) j = if j = z.1 then z.2 else sgs p v seed ch j := by
  unfold wsS sgs
  by_cases q : fs p v seed z.1.1 z.1.2 = z.2
  · rw [if_pos q, look_drop, look_put]
    by_cases hj : j = z.1
    · subst hj; simp [q]
    · simp [hj]
  · rw [if_neg q, look_put]
    by_cases hj : j = z.1
    · subst hj; simp
    · simp [hj]
def wsF (p : Int) (v : Nat) (seed : Int) (ch : Ch) (l : List ((Int × Int) × Sg)) : Ch := l.foldl (wsS p v seed) ch
theorem ws_fold {p : Int} {v : Nat} {k : D} {seed : Int} (h : Pv p v) : ∀ {l : List ((Int × Int) × Sg)} {ch : Ch}, ch.length + l.length < 1000 → wsFold F_Tape__first (.int p) (.int v) k (.int seed) (chD ch) (l.map itC) = some (chD (wsF p v seed ch l))
  | [], ch, _ => rfl
  | z :: l, ch, hl => by
    simp only [List.length_cons] at hl
    rw [List.map_cons, wsFold, ws_step h (by omega)]
    have := ws_len (p := p) (v := v) (seed := seed) (ch := ch) (z := z)
    simp only [Option.bind_some]
    rw [ws_fold h (by omega)]
    rfl
theorem wsF_good {p : Int} {v : Nat} {seed : Int} : ∀ {l : List ((Int × Int) × Sg)} {ch : Ch}, Good ch → (∀ z ∈ l, 0 ≤ z.1.1 ∧ z.1.1 < 8 ∧ 0 ≤ z.1.2 ∧ z.1.2 < 8) → Good (wsF p v seed ch l)
  | [], ch, h, _ => h
  | z :: l, ch, h, hl => wsF_good (l := l) (ws_good h (hl z (List.mem_cons_self ..))) fun y hy => hl y (List.mem_cons_of_mem _ hy)
theorem wsF_len {p : Int} {v : Nat} {seed : Int} : ∀ {l : List ((Int × Int) × Sg)} {ch : Ch}, (wsF p v seed ch l).length ≤ ch.length + l.length
  | [], ch => Nat.le_refl _
  | z :: l, ch => by
    have h1 := wsF_len (p := p) (v := v) (seed := seed) (l := l) (ch := wsS p v seed ch z)
    have h2 := ws_len (p := p) (v := v) (seed := seed) (ch := ch) (z := z)
    show (wsF p v seed (wsS p v seed ch z) l).length ≤ _
    simp only [List.length_cons]
    omega
theorem wsF_no {p : Int} {v : Nat} {seed : Int} {j : Int × Int} : ∀ {l : List ((Int × Int) × Sg)} {ch : Ch}, j ∉ l.map (·.1) → sgs p v seed (wsF p v seed ch l) j = sgs p v seed ch j
  | [], ch, _ => rfl
  | z :: l, ch, h => by
    simp only [List.map_cons, List.mem_cons, not_or] at h
    show sgs p v seed (wsF p v seed (wsS p v seed ch z) l) j = _
    rw [wsF_no h.2, ws_sgs, if_neg h.1]
theorem wsF_in {p : Int} {v : Nat} {seed : Int} {j : Int × Int} {s : Sg} : ∀ {l : List ((Int × Int) × Sg)} {ch : Ch}, (l.map (·.1)).Nodup → (j, s) ∈ l → sgs p v seed (wsF p v seed ch l) j = s
  | [], ch, _, h => by cases h
  | z :: l, ch, nd, h => by
    rw [List.map_cons, List.nodup_cons] at nd
    show sgs p v seed (wsF p v seed (wsS p v seed ch z) l) j = _
    rcases List.mem_cons.mp h with q | h
    · subst q
      rw [wsF_no nd.1, ws_sgs, if_pos rfl]
    · exact wsF_in nd.2 h
/-- all of ch's changes put into a tape without any -/
theorem wsF_all {p : Int} {v : Nat} {seed : Int} {ch : Ch} {l : List ((Int × Int) × Sg)} (h : Good ch) (hp : l.Perm ch) (j : Int × Int) : sgs p v seed (wsF p v seed [] l) j = sgs p v seed ch j := by
  have nd : (l.map (·.1)).Nodup := (hp.map _).nodup_iff.mpr h.nd
  by_cases hj : j ∈ l.map (·.1)
  · obtain ⟨⟨j', s⟩, hz, rfl⟩ := List.mem_map.mp hj
    rw [wsF_in nd hz]
    unfold sgs
    rw [mem_look h.nd (hp.mem_iff.mp hz)]
    rfl
  · rw [wsF_no hj]
    unfold sgs
    have : look ch j = none := by
      cases q : look ch j with
      | none => rfl
      | some s => exact absurd (List.mem_map.mpr ⟨_, hp.mem_iff.mpr (look_mem q), rfl⟩) hj
    rw [this]
    rfl
theorem with_signs_ok {p : Int} {v : Nat} {k : D} {seed : Int} {ch : Ch} {l : List ((Int × Int) × Sg)} (h : Pv p v) (hg : Good ch) (hl : ch.length + l.length < 1000) :
    F_Tape__with_signs [tpD (.int p) (.int v) k (.int seed) (chD ch), .tup (l.map itC)] = some (.sh (tpD (.int p) (.int v) k (.int seed) (chD (wsF p v seed ch l)))) := by
  show F_ws F_Tape__first _ = _
  unfold F_ws tpD
  simp only
  rw [if_pos (by simp [hg.apart]), ws_fold h hl]
  rfl
theorem copied_ok {p : Int} {v : Nat} {k key : D} {seed : Int} {ch : Ch} (hg : Good ch) : F_Tape__copied [tpD (.int p) (.int v) k (.int seed) (chD ch), key] = some (.sh (tpD (.int p) (.int v) key (.int seed) (chD ch))) := by
  show F_copied _ = _
  unfold F_copied tpD
  simp only
  rw [if_pos (by simp [hg.apart])]
theorem good_nil : Good [] := ⟨List.nodup_nil, fun z h => by cases h⟩
end Fx.Tt
set_option Elab.async false
set_option linter.all false
set_option maxRecDepth 100000
set_option maxHeartbeats 4000000
/-! the law's own tapes -/
namespace Fx.Tt
open PySem L2 Fx Fx.L Fx.Tp
theorem ky_k (k : Int × Int) : kyD (kD k) = .tup [.int k.1, .int k.2] := rfl
theorem kyOk_ch {ch : Ch} : kyOk (chD ch) = true := by
  unfold kyOk chD
  simp only [Bool.and_eq_true, List.all_eq_true]
  refine ⟨fun t ht => ?_, fun t ht u hu => ?_⟩
  · obtain ⟨z, _, rfl⟩ := List.mem_map.mp ht
    exact ⟨rfl, rfl⟩
  · obtain ⟨z, _, rfl⟩ := List.mem_map.mp ht
    obtain ⟨y, _, rfl⟩ := List.mem_map.mp hu
    rfl
theorem law_changes_ok {o : Own} (hg : Good o.ch) (hl : o.ch.length ≤ 1000) : ∃ l : Ch, l.Perm o.ch ∧ F_u_law_changes [o.d] = some (.sh (.tup (l.map itC))) := by
  have l4 : (4 : Nat) ≤ lim := by rw [lim_val]; omega
  refine ⟨o.ch.mergeSort fun a b => leD (kyD (kD a.1)) (kyD (kD b.1)), List.mergeSort_perm _ _, ?_⟩
  have hs : (o.ch.map fun z => kyD (kD z.1)).mergeSort leD = (o.ch.mergeSort fun a b => leD (kyD (kD a.1)) (kyD (kD b.1))).map fun z => kyD (kD z.1) := (List.map_mergeSort (f := fun z : (Int × Int) × Sg => kyD (kD z.1)) (s := leD) (r := fun a b => leD (kyD (kD a.1)) (kyD (kD b.1))) fun x _ y _ => rfl).symm
  have hm : (chD o.ch).map (fun t => kyD t.1) = o.ch.map fun z => kyD (kD z.1) := by unfold chD; rw [List.map_map]; rfl
  have hp := List.mergeSort_perm o.ch fun a b => leD (kyD (kD a.1)) (kyD (kD b.1))
  generalize (o.ch.mergeSort fun a b => leD (kyD (kD a.1)) (kyD (kD b.1))) = l at hs hp ⊢
  rw [F_u_law_changes_eq, b_u_law_changes]
  have hc : compN [1] (.one 1) kYes c1_u_law_changes (l.map fun z => kyD (kD z.1)) ({ v_tape := some (.sh o.d) } : S_u_law_changes).e = some (l.map itC, ({ v_tape := some (.sh o.d) } : S_u_law_changes).e) := by
    refine compN_map (f := fun z : (Int × Int) × Sg => kyD (kD z.1)) fun z hz => ?_
    have h1 := getK_ch o.ch z.1.1 z.1.2
    rw [mem_look hg.nd (k := (z.1.1, z.1.2)) (s := z.2) (hp.mem_iff.mp hz)] at h1
    simp only [Option.map_some] at h1
    rw [ky_k]
    simp [cStep, c1_u_law_changes, Own.d, atI, ixN, h1, sgD, itC, l4]
  have hll : l.length ≤ lim := by rw [hp.length_eq, lim_val]; omega
  simp [Own.d, atI, ixN, kyOk_ch, hm, hs]
  simp only [Own.d] at hc
  rw [hc]
  simp [hll]
structure RowOk (p : Int) (v : Nat) (l : List Int) : Prop where
  len : l.length = v
  rg : ∀ x ∈ l, 0 ≤ x ∧ x < p
structure SgOk (p : Int) (v : Nat) (s : Sg) : Prop where
  row : RowOk p v s.1
  lo : 0 ≤ s.2
  hi : s.2 < p
theorem wd_rg {p seed e g : Int} {a : Nat} (h : 1 ≤ p) : 0 ≤ wd p seed e g a ∧ wd p seed e g a < p := by
  unfold wd
  exact ⟨Int.emod_nonneg _ (by omega), Int.emod_lt_of_pos _ (by omega)⟩
theorem fs_ok {p : Int} {v : Nat} {seed e g : Int} (h : 1 ≤ p) : SgOk p v (fs p v seed e g) := by
  refine ⟨⟨wds_len, fun x hx => ?_⟩, (wd_rg h).1, (wd_rg h).2⟩
  obtain ⟨a, _, rfl⟩ := List.mem_map.mp hx
  exact wd_rg h
structure OwnOk (o : Own) : Prop where
  pv : Pv o.p o.v
  key : RowOk o.p o.v o.key
  seed : 0 ≤ o.seed
  good : Good o.ch
  sgs : ∀ z ∈ o.ch, SgOk o.p o.v z.2
  len : o.ch.length ≤ 3
theorem sgs_ok {p : Int} {v : Nat} {seed : Int} {ch : Ch} (h : 1 ≤ p) (hs : ∀ z ∈ ch, SgOk p v z.2) (k : Int × Int) : SgOk p v (sgs p v seed ch k) := by
  unfold Tt.sgs
  cases q : look ch k with
  | none => exact fs_ok h
  | some s => exact hs _ (look_mem q)
theorem OwnOk.sg {o : Own} (h : OwnOk o) (k : Int × Int) : SgOk o.p o.v (o.sg k) := sgs_ok h.pv.p0 h.sgs k
theorem ints_of {p : Int} {rs : List D} (h : ∀ r ∈ rs, ∃ z : Int, r = .int z ∧ 0 ≤ z ∧ z < p) : ∃ l : List Int, rs = l.map D.int ∧ ∀ x ∈ l, 0 ≤ x ∧ x < p := by
  induction rs with
  | nil => exact ⟨[], rfl, fun x h => by cases h⟩
  | cons r rs ih =>
    obtain ⟨z, h1, h2⟩ := h r (List.mem_cons_self ..)
    obtain ⟨l, h3, h4⟩ := ih fun r hr => h r (List.mem_cons_of_mem _ hr)
    refine ⟨z :: l, by rw [h1, h3]; rfl, fun x hx => ?_⟩
    rcases List.mem_cons.mp hx with rfl | hx
    · exact h2
    · exact h4 x hx
/-- a row that is drawn -/
theorem row_draw (s : S_u_law_tape) {c : C} {p : Int} {v : Nat} (hb : BagOk c) (h0 : s.v_bag = some c) (hp : s.v_p = some (.sh (.int p))) (ha : s.v_at = none) (h : Pv p v) :
    ∃ l c', compN [6] (.one 6) kYes c1_u_law_tape (rng 0 (v : Int)) s.e = some (l.map D.int, ({ s with v_bag := some c' } : S_u_law_tape).e) ∧ BagOk c' ∧ RowOk p v l := by
  have p0 := h.p0
  have p1 := h.p1
  obtain ⟨rs, e', h1, ⟨b, rfl, h2⟩, h3, h4⟩ := compN_ix (vs := [6]) (t := .one 6) (c := kYes) (m := c1_u_law_tape) (fun e => ∃ b, e = ({ s with v_bag := some b } : S_u_law_tape).e ∧ BagOk b) (fun _ x => ∃ z : Int, x = .int z ∧ 0 ≤ z ∧ z < p) (ds := rng 0 (v : Int)) (env := s.e) ⟨c, by rw [← h0], hb⟩ fun d hd e ⟨b, he, hb⟩ => by
    subst he
    obtain ⟨i, rfl, hi⟩ := rng_mem hd
    obtain ⟨z, b', e1, z1, z2, b2⟩ := take_ok hb (m := p) (by omega) (by omega)
    refine ⟨.int z, ({ s with v_bag := some b' } : S_u_law_tape).e, ?_, ⟨b', rfl, b2⟩, z, rfl, z1, z2⟩
    simp [cStep, c1_u_law_tape, hp, e1, ha]
  obtain ⟨l, e1, e2⟩ := ints_of (p := p) (rs := rs) fun r hr => by
    obtain ⟨i, hi⟩ := List.mem_iff_getElem?.mp hr
    have hlt := (List.getElem?_eq_some_iff.mp hi).1
    exact h4 i _ r (List.getElem?_eq_getElem (by omega)) hi
  subst e1
  exact ⟨l, b, h1, h2, by have := h3; rw [rng_len] at this; simpa using this, e2⟩
theorem law_tape_ok {c : C} {p : Int} {v : Nat} (hb : BagOk c) (h : Pv p v) : ∃ o c', F_u_law_tape c [.int p, .int v] = some (.sh o.d, c') ∧ BagOk c' ∧ OwnOk o ∧ o.p = p ∧ o.v = v := by
  have p0 := h.p0
  have p1 := h.p1
  have v1 := h.v1
  have l5 : (5 : Nat) ≤ lim := by rw [lim_val]; omega
  have l2 : (2 : Nat) ≤ lim := by rw [lim_val]; omega
  have hr : okR (v : Int) = true := okR_of (by omega) (by omega)
  obtain ⟨n, c1, e1, n0, n1, b1⟩ := take_ok hb (m := 4) (by omega) (by omega)
  obtain ⟨n, rfl⟩ : ∃ k : Nat, n = k := ⟨n.toNat, by omega⟩
  have hn : okR (n : Int) = true := okR_of (by omega) (by omega)
  rw [F_u_law_tape_eq, b_u_law_tape]
  rw [seq_nx (e := ({ v_bag := some c, v_p := some (.sh (.int p)), v_v := some (.sh (.int v)), v_changes := some (.odt []) } : S_u_law_tape).e) (by simp [eDT])]
  obtain ⟨s', hloop, c2, ch, g1, g2, g3, g4, g5, g6, g7, g8, g9⟩ := forS (E := S_u_law_tape.e) (t := .one 4) (b := l1_u_law_tape) (fun i s => ∃ c ch, s.v_bag = some c ∧ BagOk c ∧ s.v_changes = some (.odt (chD ch)) ∧ Good ch ∧ (∀ z ∈ ch, SgOk p v z.2) ∧ ch.length ≤ i ∧ s.v_p = some (.sh (.int p)) ∧ s.v_v = some (.sh (.int v)) ∧ s.v_at = none)
    (ds := rng 0 (n : Int)) (s := { v_bag := some c1, v_p := some (.sh (.int p)), v_v := some (.sh (.int v)), v_changes := some (.odt []) }) ⟨c1, [], rfl, b1, rfl, good_nil, (fun z h => by cases h), Nat.le_refl _, rfl, rfl, rfl⟩ (by
      rintro i d ⟨bg, pp, vv, cg, tn, pd, at_⟩ hd ⟨c, ch, g1, g2, g3, g4, g5, g6, g7, g8, g9⟩
      simp only at g1 g3 g7 g8 g9
      subst g1 g3 g7 g8 g9
      obtain ⟨rfl, hi⟩ := rng_get hd
      obtain ⟨l, c3, k1, k2, k3⟩ := row_draw ⟨some c, some (.sh (.int p)), some (.sh (.int v)), some (.odt (chD ch)), some (.sh (.int (i : Nat))), pd, none⟩ g2 rfl rfl rfl h
      obtain ⟨sg, c4, e4, s1, s2, b4⟩ := take_ok k2 (m := p) (by omega) (by omega)
      obtain ⟨ep, c5, e5, a1, a2, b5⟩ := take_ok b4 (m := 3) (by omega) (by omega)
      obtain ⟨gi, c6, e6, a3, a4, b6⟩ := take_ok b5 (m := 6) (by omega) (by omega)
      have hlen : l.length ≤ lim := by rw [k3.len, lim_val]; omega
      have hlc : (chD ch).length < lim := by rw [lim_val]; simp [chD]; omega
      have hput : putD (chD ch) (key2 ep gi) (.tup [.tup (l.map D.int), .int sg]) = chD (putCh ch (ep, gi) (l, sg)) := put_ch ch (ep, gi) (l, sg)
      have hpc : putC (.odt (chD ch)) (.tup [.int ep, .int gi]) (.tup [.tup (l.map D.int), .int sg]) = some (.odt (chD (putCh ch (ep, gi) (l, sg)))) := by
        show (keysD [.int ep, .int gi]).bind (fun k => if (chD ch).length < lim then some (C.odt (putD (chD ch) k _)) else none) = _
        have : keysD [.int ep, .int gi] = some (key2 ep gi) := rfl
        rw [this]
        simp only [Option.bind_some]
        rw [if_pos hlc, hput]
      refine ⟨⟨some c6, some (.sh (.int p)), some (.sh (.int v)), some (.odt (chD (putCh ch (ep, gi) (l, sg)))), some (.sh (.int (i : Nat))), some (.sh (.tup (l.map D.int))), none⟩, ?_, c6, putCh ch (ep, gi) (l, sg), rfl, b6, rfl, g4.put ⟨a1, by simp; omega, a3, by simp; omega⟩, fun z hz => ?_, ?_, rfl, rfl, rfl⟩
      · refine (congrArg (fun z => Option.bind z l1_u_law_tape) (show asgT (.one 4) (.int (i : Nat)) _ = some (S_u_law_tape.mk (some c) (some (.sh (.int p))) (some (.sh (.int v))) (some (.odt (chD ch))) (some (.sh (.int (i : Nat)))) pd none).e by simp)).trans ?_
        show l1_u_law_tape _ = _
        rw [l1_u_law_tape, seq_nx (e := (S_u_law_tape.mk (some c3) (some (.sh (.int p))) (some (.sh (.int v))) (some (.odt (chD ch))) (some (.sh (.int (i : Nat)))) (some (.sh (.tup (l.map D.int)))) none).e) (by simp [hr, k1, hlen])]
        simp [e4, e5, e6, l2, hpc]
      · by_cases hz1 : z.1 = (ep, gi)
        · have : look (putCh ch (ep, gi) (l, sg)) z.1 = some z.2 := mem_look (g4.put ⟨a1, by simp; omega, a3, by simp; omega⟩).nd hz
          rw [look_put, if_pos hz1] at this
          rw [← Option.some.inj this]
          exact ⟨k3, s1, s2⟩
        · have : look (putCh ch (ep, gi) (l, sg)) z.1 = some z.2 := mem_look (g4.put ⟨a1, by simp; omega, a3, by simp; omega⟩).nd hz
          rw [look_put, if_neg hz1] at this
          exact g5 _ (look_mem this)
      · have : (putCh ch (ep, gi) (l, sg)).length ≤ ch.length + 1 := by unfold putCh; split <;> simp
        omega)
  rw [seq_nx (e := s'.e) (by simp [e1, hn]; exact hloop)]
  obtain ⟨bg, pp, vv, cg, tn, pd, at_⟩ := s'
  simp only at g1 g3 g7 g8 g9
  subst g1 g3 g7 g8 g9
  obtain ⟨l, c3, k1, k2, k3⟩ := row_draw ⟨some c2, some (.sh (.int p)), some (.sh (.int v)), some (.odt (chD ch)), tn, pd, none⟩ g2 rfl rfl rfl h
  obtain ⟨sd, c4, e4, s1, s2, b4⟩ := take_ok k2 (m := 100000) (by omega) (by omega)
  have hlen : l.length ≤ lim := by rw [k3.len, lim_val]; omega
  have k1' : compN [6] (.one 6) kYes c2_u_law_tape (rng 0 (v : Int)) (S_u_law_tape.mk (some c2) (some (.sh (.int p))) (some (.sh (.int v))) (some (.odt (chD ch))) tn pd none).e = some (l.map D.int, (S_u_law_tape.mk (some c3) (some (.sh (.int p))) (some (.sh (.int v))) (some (.odt (chD ch))) tn pd none).e) := k1
  rw [rng_len] at g6
  refine ⟨⟨p, v, l, sd, ch⟩, c4, ?_, b4, ⟨h, k3, s1, g4, g5, by show ch.length ≤ 3; omega⟩, rfl, rfl⟩
  simp [hr, k1', hlen, e4, l5, Own.d, rwD]
  rfl
end Fx.Tt
set_option Elab.async false
set_option linter.all false
set_option maxRecDepth 100000
set_option maxHeartbeats 4000000
/-! changes in order; when two tapes are equal -/
namespace K28
open PySem L2 Fx Fx.L Fx.Tt Fx.Tp
open PyProof.Rows (lexLt itemOrd itemLt)
def klt (a b : Int × Int) : Bool := decide (a.1 < b.1 ∨ a.1 = b.1 ∧ a.2 < b.2)
def kle (a b : Int × Int) : Bool := !klt b a
def lx (a b : List (Int ⊕ List Nat)) : Bool := lexLt itemOrd a b
theorem lex_nil : lx [] [] = false := rfl
theorem lex_int {a b : Int} {r t : List (Int ⊕ List Nat)} : lx (.inl a :: r) (.inl b :: t) = (decide (a < b) || (decide (a = b) && lx r t)) := by
  show (decide (a < b) || (!decide (b < a) && lx r t)) = _
  by_cases h1 : a < b
  · simp [h1]
  · by_cases h2 : a = b
    · subst h2; simp
    · have h3 : b < a := by omega
      simp [h1, h2, h3]
theorem toks_key (k : Int × Int) : PySem.W.keyToks (kyD (kD k)).py = [.inl 1, .inl k.1, .inl 1, .inl k.2, .inl 0] := rfl
theorem toks_it (z : (Int × Int) × Sg) : PySem.W.keyToks (itD (kD z.1, sgD z.2)).py = .inl 1 :: .inl 1 :: .inl z.1.1 :: .inl 1 :: .inl z.1.2 :: .inl 0 :: .inl 1 :: (PySem.W.keyToks (sgD z.2).py ++ [.inl 0]) := rfl
theorem le_key (a b : Int × Int) : leD (kyD (kD a)) (kyD (kD b)) = kle a b := by
  show (!lx (PySem.W.keyToks (kyD (kD b)).py) (PySem.W.keyToks (kyD (kD a)).py)) = _
  rw [toks_key, toks_key]
  simp only [lex_int]
  unfold kle klt
  rw [Bool.eq_iff_iff]
  simp [lex_nil]
theorem le_it {a b : (Int × Int) × Sg} (h : a.1 ≠ b.1) : leD (itD (kD a.1, sgD a.2)) (itD (kD b.1, sgD b.2)) = kle a.1 b.1 := by
  show (!lx (PySem.W.keyToks (itD (kD b.1, sgD b.2)).py) (PySem.W.keyToks (itD (kD a.1, sgD a.2)).py)) = _
  rw [toks_it, toks_it]
  simp only [lex_int]
  unfold kle klt
  have hn : ¬ (b.1.1 = a.1.1 ∧ b.1.2 = a.1.2) := fun q => h (Prod.ext q.1.symm q.2.symm)
  rw [Bool.eq_iff_iff]
  by_cases h1 : b.1.1 = a.1.1
  · have h2 : b.1.2 ≠ a.1.2 := fun q => hn ⟨h1, q⟩
    simp [h1, h2]
  · simp [h1]
theorem le_self (x : D) : leD x x = true := by
  have := (PySem.W.sortLe_total (PyProof.Rows.listOrd itemOrd) false fun b : D => PySem.W.keyToks b.py).total x x
  exact this.elim id id
theorem kle_trans (a b c : Int × Int) (h1 : kle a b = true) (h2 : kle b c = true) : kle a c = true := by
  unfold kle klt at *
  simp only [Bool.not_eq_true', decide_eq_false_iff_not, not_or, not_and] at *
  omega
theorem kle_total (a b : Int × Int) : (kle a b || kle b a) = true := by
  unfold kle klt
  rw [Bool.or_eq_true]
  simp only [Bool.not_eq_true', decide_eq_false_iff_not, not_or, not_and]
  omega
theorem kle_anti {a b : Int × Int} (h1 : kle a b = true) (h2 : kle b a = true) : a = b := by
  unfold kle klt at *
  simp only [Bool.not_eq_true', decide_eq_false_iff_not, not_or, not_and] at *
  exact Prod.ext (by omega) (by omega)
/-- the changes in order -/
def S (ch : Ch) : Ch := ch.mergeSort fun a b => kle a.1 b.1
theorem S_perm (ch : Ch) : (S ch).Perm ch := List.mergeSort_perm _ _
theorem S_pw (ch : Ch) : (S ch).Pairwise fun a b => kle a.1 b.1 = true := List.pairwise_mergeSort (le := fun a b : (Int × Int) × Sg => kle a.1 b.1) (fun a b c => kle_trans a.1 b.1 c.1) (fun a b => kle_total a.1 b.1) ch
theorem key_inj {ch : Ch} (nd : (ch.map (·.1)).Nodup) {a b : (Int × Int) × Sg} (ha : a ∈ ch) (hb : b ∈ ch) (h : a.1 = b.1) : a = b := by
  obtain ⟨k, s⟩ := a
  obtain ⟨j, t⟩ := b
  cases h
  have h1 := mem_look nd ha
  have h2 := mem_look nd hb
  rw [h1] at h2
  cases h2
  rfl
theorem sorted_eq {a b : Ch} (hp : a.Perm b) (nd : (b.map (·.1)).Nodup) (h1 : a.Pairwise fun x y => kle x.1 y.1 = true) (h2 : b.Pairwise fun x y => kle x.1 y.1 = true) : a = b :=
  List.Perm.eq_of_pairwise (fun x y hx hy l1 l2 => key_inj nd (hp.mem_iff.mp hx) hy (kle_anti l1 l2)) h1 h2 hp
theorem S_eq {a b : Ch} (hp : a.Perm b) (hb : Good b) : S a = S b :=
  sorted_eq ((S_perm a).trans (hp.trans (S_perm b).symm)) (((S_perm b).map _).nodup_iff.mpr hb.nd) (S_pw a) (S_pw b)
theorem sort_it {ch : Ch} (h : Good ch) : ((chD ch).map itD).mergeSort leD = (S ch).map fun z => itD (kD z.1, sgD z.2) := by
  have e1 : (chD ch).map itD = ch.map fun z => itD (kD z.1, sgD z.2) := by unfold chD; rw [List.map_map]; rfl
  rw [e1]
  refine (List.map_mergeSort (f := fun z : (Int × Int) × Sg => itD (kD z.1, sgD z.2)) (s := leD) (r := fun a b => kle a.1 b.1) fun x hx y hy => ?_).symm
  by_cases q : x.1 = y.1
  · have := key_inj h.nd hx hy q
    subst this
    rw [le_self]
    have := kle_total x.1 x.1
    simpa using this
  · exact (le_it q).symm
theorem sort_key {ch : Ch} : ((chD ch).map fun t => kyD t.1).mergeSort leD = (S ch).map fun z => kyD (kD z.1) := by
  have e1 : (chD ch).map (fun t => kyD t.1) = ch.map fun z => kyD (kD z.1) := by unfold chD; rw [List.map_map]; rfl
  rw [e1]
  exact (List.map_mergeSort (f := fun z : (Int × Int) × Sg => kyD (kD z.1)) (s := leD) (r := fun a b => kle a.1 b.1) fun x hx y hy => (le_key _ _).symm).symm
theorem alike_row (a b : List Int) : PySem.W.alikeAll (D.pys (a.map D.int)) (D.pys (b.map D.int)) = true := by
  induction a generalizing b with
  | nil => rfl
  | cons x a ih =>
    cases b with
    | nil => rfl
    | cons y b => simp only [List.map_cons, D.pys, D.py, PySem.W.alikeAll, PySem.W.alike, ih, Bool.and_self]
theorem itOk_ch {ch : Ch} : itOk (chD ch) = true := by
  unfold itOk chD
  simp only [Bool.and_eq_true, List.all_eq_true]
  refine ⟨fun t ht => ?_, fun t ht u hu => ?_⟩
  · obtain ⟨z, _, rfl⟩ := List.mem_map.mp ht
    refine ⟨⟨rfl, ?_⟩, ?_⟩
    · simp [sgD, rwD, D.okq, D.okqs, okq_ints]
    · simp [sgD, rwD, D.dep, D.deps, dep_ints]
  · obtain ⟨z, _, rfl⟩ := List.mem_map.mp ht
    obtain ⟨y, _, rfl⟩ := List.mem_map.mp hu
    simp only [itD, kyD, Tt.kD, key2, keyDD, sgD, rwD, D.py, D.pys, List.map_cons, List.map_nil, PySem.W.alike, PySem.W.alikeAll, alike_row, Bool.and_self]
/-- the changes of a tape as they are told -/
def chs (ch : Ch) : D := .tup ((S ch).map itC)
theorem changes_ok {p v k s : D} {ch : Ch} (h : Good ch) (hl : ch.length ≤ 1000) : F_Tape__changes [tpD p v k s (chD ch)] = some (.sh (chs ch)) := by
  have l4 : (4 : Nat) ≤ lim := by rw [lim_val]; omega
  have hs := sort_it h
  have f5 : fldD "its_changes" nms [p, v, k, s, .dt (chD ch)] = some (.dt (chD ch)) := by
    show (if ("its_p" : Str) = "its_changes" then _ else if ("its_v" : Str) = "its_changes" then _ else if ("its_key" : Str) = "its_changes" then _ else if ("its_seed" : Str) = "its_changes" then _ else if ("its_changes" : Str) = "its_changes" then some (D.dt (chD ch)) else _) = _
    rw [if_neg (by decide +kernel), if_neg (by decide +kernel), if_neg (by decide +kernel), if_neg (by decide +kernel), if_pos rfl]
  have hll : (S ch).length ≤ lim := by rw [(S_perm ch).length_eq, lim_val]; omega
  rw [F_Tape__changes_eq, b_Tape__changes]
  have hc : compN [1, 2] (.tup [1, 2]) kYes c1_Tape__changes ((S ch).map fun z => itD (kD z.1, sgD z.2)) ({ v_self := some (.sh (tpD p v k s (chD ch))) } : S_Tape__changes).e = some ((S ch).map itC, ({ v_self := some (.sh (tpD p v k s (chD ch))) } : S_Tape__changes).e) := by
    refine compN_map (f := fun z : (Int × Int) × Sg => itD (kD z.1, sgD z.2)) fun z hz => ?_
    have e1 : itD (kD z.1, sgD z.2) = .tup [.tup [.int z.1.1, .int z.1.2], .tup [rwD z.2.1, .int z.2.2]] := rfl
    rw [e1]
    simp [cStep, c1_Tape__changes, itC, l4]
  simp only [tpD] at hc ⊢
  simp [f5, itOk_ch, hs]
  rw [hc]
  simp [hll, chs]
end K28
set_option Elab.async false
set_option linter.all false
set_option maxRecDepth 100000
set_option maxHeartbeats 4000000
/-! when two tapes are equal -/
namespace K28
open PySem L2 Fx Fx.L Fx.Tt Fx.Tp
def tp (p : Int) (v : Nat) (k : List Int) (seed : Int) (ch : Ch) : D := tpD (.int p) (.int v) (rwD k) (.int seed) (chD ch)
theorem eqv_it (a b : (Int × Int) × Sg) : D.eqv (itC a) (itC b) = decide (a = b) := by
  simp only [itC, rwD, D.eqv, D.eqvs, eqv_ints]
  rw [Bool.eq_iff_iff]
  simp [Prod.ext_iff, and_assoc]
theorem eqv_its (a b : Ch) : D.eqvs (a.map itC) (b.map itC) = decide (a = b) := by
  induction a generalizing b with
  | nil => cases b <;> simp [D.eqvs]
  | cons x a ih =>
    cases b with
    | nil => simp [D.eqvs]
    | cons y b =>
      simp only [List.map_cons, D.eqvs, eqv_it, ih]
      rw [Bool.eq_iff_iff]
      simp
theorem okq_its (a : Ch) : D.okqs (a.map itC) = true := by
  induction a with
  | nil => rfl
  | cons x a ih => simp [D.okqs, D.okq, ih, itC, rwD, okq_ints]
theorem dep_its (a : Ch) : D.deps (a.map itC) ≤ 3 := by
  induction a with
  | nil => simp [D.deps]
  | cons x a ih => simp [D.deps, D.dep, itC, rwD, dep_ints] at ih ⊢; omega
def tpl (p : Int) (v : Nat) (k : List Int) (seed : Int) (ch : Ch) : D := .tup [.int p, .int v, rwD k, .int seed, chs ch]
theorem tpl_cmp {p p' : Int} {v v' : Nat} {k k' : List Int} {s s' : Int} {c c' : Ch} : (tpl p v k s c).cmpable (tpl p' v' k' s' c') = true := by
  have h1 := dep_its (S c)
  have h2 := dep_its (S c')
  simp [D.cmpable, tpl, chs, rwD, D.okq, D.okqs, okq_ints, okq_its, D.dep, D.deps, dep_ints]
  omega
theorem tpl_eqv {p : Int} {v : Nat} {k k' : List Int} {s s' : Int} {c c' : Ch} : D.eqv (tpl p v k s c) (tpl p v k' s' c') = decide (k = k' ∧ s = s' ∧ S c = S c') := by
  simp only [tpl, chs, rwD, D.eqv, D.eqvs, eqv_ints, eqv_its]
  rw [Bool.eq_iff_iff]
  simp
theorem eq_ok {p : Int} {v : Nat} {k k' : List Int} {s s' : Int} {c c' : Ch} (h : Good c) (h' : Good c') (hl : c.length ≤ 1000) (hl' : c'.length ≤ 1000) :
    F_Tape____eq__ [tp p v k s c, tp p v k' s' c'] = some (.sh (.bl (decide (k = k' ∧ s = s' ∧ S c = S c')))) := by
  have l5 : (5 : Nat) ≤ lim := by rw [lim_val]; omega
  have f1 : ∀ (p v k s c : D), fldD "its_p" nms [p, v, k, s, c] = some p := fun _ _ _ _ _ => rfl
  have f2 : ∀ (p v k s c : D), fldD "its_v" nms [p, v, k, s, c] = some v := fun p v k s c => by
    show (if ("its_p" : Str) = "its_v" then _ else if ("its_v" : Str) = "its_v" then some v else _) = _
    rw [if_neg (by decide +kernel), if_pos rfl]
  have f3 : ∀ (p v k s c : D), fldD "its_key" nms [p, v, k, s, c] = some k := fun p v k s c => by
    show (if ("its_p" : Str) = "its_key" then _ else if ("its_v" : Str) = "its_key" then _ else if ("its_key" : Str) = "its_key" then some k else _) = _
    rw [if_neg (by decide +kernel), if_neg (by decide +kernel), if_pos rfl]
  have f4 : ∀ (p v k s c : D), fldD "its_seed" nms [p, v, k, s, c] = some s := fun p v k s c => by
    show (if ("its_p" : Str) = "its_seed" then _ else if ("its_v" : Str) = "its_seed" then _ else if ("its_key" : Str) = "its_seed" then _ else if ("its_seed" : Str) = "its_seed" then some s else _) = _
    rw [if_neg (by decide +kernel), if_neg (by decide +kernel), if_neg (by decide +kernel), if_pos rfl]
  have hno : ¬ (("changes" : Str) ∈ nms) := by decide +kernel
  have c1 := changes_ok (p := .int p) (v := .int v) (k := rwD k) (s := .int s) h hl
  have c2 := changes_ok (p := .int p) (v := .int v) (k := rwD k') (s := .int s') h' hl'
  have e1 := tpl_cmp (p := p) (v := v) (k := k) (s := s) (c := c) (p' := p) (v' := v) (k' := k') (s' := s') (c' := c')
  have e2 := tpl_eqv (p := p) (v := v) (k := k) (s := s) (c := c) (k' := k') (s' := s') (c' := c')
  unfold tpl at e1 e2
  unfold tp
  unfold tpD at c1 c2 ⊢
  rw [F_Tape____eq___eq, b_Tape____eq__]
  simp [okT, isTp, f1, f2, f3, f4, hno, c1, c2, l5, fEq_v e1, e2]
theorem eq_int {p : Int} {v : Nat} {k : List Int} {s : Int} {c : Ch} {n : Int} : F_Tape____eq__ [tp p v k s c, .int n] = some (.sh (.bl false)) := by
  rw [F_Tape____eq___eq, b_Tape____eq__]
  simp [okT, isTp]
theorem eq_tup {p : Int} {v : Nat} {k : List Int} {s : Int} {c : Ch} {ds : List D} : F_Tape____eq__ [tp p v k s c, .tup ds] = some (.sh (.bl false)) := by
  rw [F_Tape____eq___eq, b_Tape____eq__]
  simp [okT, isTp]
/-! ## changes that change something -/
def Can (p : Int) (v : Nat) (seed : Int) (ch : Ch) : Prop := ∀ k s, look ch k = some s → fs p v seed k.1 k.2 ≠ s
section
variable {p : Int} {v : Nat} {seed : Int}
theorem can_nil : Can p v seed [] := fun k s h => by cases h
theorem ws_can {ch : Ch} {z : (Int × Int) × Sg} (h : Can p v seed ch) : Can p v seed (wsS p v seed ch z) := fun k s e => by
  unfold wsS at e
  by_cases q : fs p v seed z.1.1 z.1.2 = z.2
  · rw [if_pos q, look_drop] at e
    split at e
    · cases e
    · rename_i hk
      rw [look_put, if_neg hk] at e
      exact h k s e
  · rw [if_neg q, look_put] at e
    split at e
    · rename_i hk
      cases e
      subst hk
      exact q
    · exact h k s e
theorem wsF_can : ∀ {l : List ((Int × Int) × Sg)} {ch : Ch}, Can p v seed ch → Can p v seed (wsF p v seed ch l)
  | [], _, h => h
  | z :: l, ch, h => wsF_can (l := l) (ws_can h)
theorem nd_of {ch : Ch} (h : Good ch) : ch.Nodup := (List.pairwise_map.mp h.nd).imp fun hne e => hne (congrArg _ e)
theorem perm_look {a b : Ch} (ha : Good a) (hb : Good b) (h : ∀ j, look a j = look b j) : a.Perm b :=
  (List.perm_ext_iff_of_nodup (nd_of ha) (nd_of hb)).mpr fun z => by
    obtain ⟨k, s⟩ := z
    constructor
    · intro hz; have := mem_look ha.nd hz; rw [h] at this; exact look_mem this
    · intro hz; have := mem_look hb.nd hz; rw [← h] at this; exact look_mem this
theorem look_perm {a b : Ch} (ha : Good a) (hb : Good b) (h : a.Perm b) (j : Int × Int) : look a j = look b j := by
  cases q : look a j with
  | some s => exact (mem_look hb.nd (h.mem_iff.mp (look_mem q))).symm
  | none =>
    cases r : look b j with
    | none => rfl
    | some s =>
      have := mem_look ha.nd (h.mem_iff.mpr (look_mem r))
      rw [q] at this
      cases this
theorem can_eq {a b : Ch} (ha : Good a) (hb : Good b) (ca : Can p v seed a) (cb : Can p v seed b) : S a = S b ↔ ∀ j, sgs p v seed a j = sgs p v seed b j := by
  constructor
  · intro h j
    have hp : a.Perm b := (S_perm a).symm.trans ((h ▸ .refl _ : (S a).Perm (S b)).trans (S_perm b))
    unfold sgs
    rw [look_perm ha hb hp]
  · intro h
    refine S_eq (perm_look ha hb fun j => ?_) hb
    have hj := h j
    unfold sgs at hj
    cases q : look a j with
    | some s =>
      have n1 := ca j s q
      cases r : look b j with
      | some t => rw [q, r] at hj; exact congrArg some hj
      | none => rw [q, r] at hj; exact absurd hj.symm n1
    | none =>
      cases r : look b j with
      | some t => rw [q, r] at hj; exact absurd hj (cb j t r)
      | none => rfl
/-- those of the law that change something -/
def real (p : Int) (v : Nat) (seed : Int) (ch : Ch) : Ch := ch.filter fun z => decide (fs p v seed z.1.1 z.1.2 ≠ z.2)
theorem real_good {ch : Ch} (h : Good ch) : Good (real p v seed ch) :=
  ⟨h.nd.sublist ((List.filter_sublist (l := ch)).map _), fun z hz => h.rg z (List.mem_filter.mp hz).1⟩
theorem real_can {ch : Ch} : Can p v seed (real p v seed ch) := fun k s e => by
  have := (List.mem_filter.mp (look_mem e)).2
  simpa using this
theorem real_sgs {ch : Ch} (h : Good ch) (j : Int × Int) : sgs p v seed (real p v seed ch) j = sgs p v seed ch j := by
  unfold sgs
  cases q : look ch j with
  | some s =>
    by_cases e : fs p v seed j.1 j.2 = s
    · have : look (real p v seed ch) j = none := by
        cases r : look (real p v seed ch) j with
        | none => rfl
        | some t =>
          have hm := mem_look h.nd (List.mem_filter.mp (look_mem r)).1
          rw [q] at hm
          cases hm
          exact absurd e (real_can j s r)
      rw [this]
      exact e
    · have : (j, s) ∈ real p v seed ch := List.mem_filter.mpr ⟨look_mem q, by simpa using e⟩
      rw [mem_look (real_good h).nd this]
  | none =>
    have : look (real p v seed ch) j = none := by
      cases r : look (real p v seed ch) j with
      | none => rfl
      | some t =>
        have hm := mem_look h.nd (List.mem_filter.mp (look_mem r)).1
        rw [q] at hm
        cases hm
    rw [this]
theorem real_S {ch : Ch} (h : Good ch) : S (real p v seed ch) = real p v seed (S ch) :=
  sorted_eq ((S_perm _).trans ((S_perm ch).filter _).symm) (((((S_perm ch).filter _).map _).nodup_iff).mpr (real_good h).nd) (S_pw _) ((S_pw ch).filter _)
end
end K28
set_option Elab.async false
set_option linter.all false
set_option maxRecDepth 100000
set_option maxHeartbeats 4000000
/-! the parts of a turn -/
namespace K28
open PySem L2 Fx Fx.L Fx.Tt Fx.Tp
theorem fz_ol {ds : List D} : (C.ol ds).fz = .lst ds := rfl
theorem fz_odt {kvs : List (List Key × D)} : (C.odt kvs).fz = .dt kvs := rfl
theorem cnts_ints (l : List Int) : cnts (l.map D.int) = l.length := by
  induction l with
  | nil => rfl
  | cons a l ih => simp [cnts, cnt, ih]; omega
theorem smps_ints (l : List Int) : smps (l.map D.int) = true := by
  induction l with
  | nil => rfl
  | cons a l ih => simp [smps, smp, D.okq, ih]
theorem smps_its (l : Ch) : smps (l.map itC) = true := by
  induction l with
  | nil => rfl
  | cons a l ih => simp [smps, smp, D.okq, ih, itC, rwD, smps_ints]
theorem cnts_its : ∀ (l : Ch), (∀ z ∈ l, z.2.1.length ≤ 1000) → cnts (l.map itC) ≤ l.length * 1010
  | [], _ => Nat.le_refl _
  | a :: l, h => by
    have ih := cnts_its l fun z hz => h z (List.mem_cons_of_mem _ hz)
    have := h a (List.mem_cons_self ..)
    simp [cnts, cnt, itC, rwD, cnts_ints] at ih ⊢
    omega
theorem al_sg {s : Sg} (h : s.1.length ≤ 2000) : F_u_law_alike [sgD s, sgD s] = some (.sh (.bl true)) :=
  alike_ok (by simp [sgD, rwD, smp, smps, smps_ints, D.okq]) (by simp [sgD, rwD, cnt, cnts, cnts_ints]; omega)
theorem fld_p {p v k s c : D} : fldD "its_p" nms [p, v, k, s, c] = some p := rfl
theorem fld_v {p v k s c : D} : fldD "its_v" nms [p, v, k, s, c] = some v := by
  show (if ("its_p" : Str) = "its_v" then _ else if ("its_v" : Str) = "its_v" then some v else _) = _
  rw [if_neg (by decide +kernel), if_pos rfl]
theorem fld_k {p v k s c : D} : fldD "its_key" nms [p, v, k, s, c] = some k := by
  show (if ("its_p" : Str) = "its_key" then _ else if ("its_v" : Str) = "its_key" then _ else if ("its_key" : Str) = "its_key" then some k else _) = _
  rw [if_neg (by decide +kernel), if_neg (by decide +kernel), if_pos rfl]
theorem p_ok {p v k sd : D} {ch : List (List Key × D)} : F_Tape__p [tpD p v k sd ch] = some (.sh p) := by
  rw [F_Tape__p_eq, b_Tape__p]
  simp [tpD, fld_p]
theorem key_ok {p v k sd : D} {ch : List (List Key × D)} : F_Tape__key [tpD p v k sd ch] = some (.sh k) := by
  rw [F_Tape__key_eq, b_Tape__key]
  simp [tpD, fld_k]
theorem width_ok {p v k sd : D} {ch : List (List Key × D)} : F_Tape__width [tpD p v k sd ch] = some (.sh v) := by
  rw [F_Tape__width_eq, b_Tape__width]
  simp [tpD, fld_v]
theorem no_cop : ¬ (("copied" : Str) ∈ nms) := by decide +kernel
theorem with_key_ok {p : Int} {v : Nat} {k key : D} {seed : Int} {ch : Ch} (hg : Good ch) : F_Tape__with_key [tpD (.int p) (.int v) k (.int seed) (chD ch), key] = some (.sh (tpD (.int p) (.int v) key (.int seed) (chD ch))) := by
  have h := copied_ok (p := p) (v := v) (k := k) (key := key) (seed := seed) hg
  have nc := no_cop
  unfold tpD at h ⊢
  rw [F_Tape__with_key_eq, b_Tape__with_key]
  simp [nc, h]
/-- the law's signs of a tape without changes -/
theorem plain_signs {o : Own} {e g : Int} (h : Pv o.p o.v) : F_u_law_signs [.tup [.int o.p, .int o.v, rwD o.key, .int o.seed, .dt []], .int e, .int g] = some (.sh (sgD (fs o.p o.v o.seed e g))) :=
  law_signs_ok (o := { o with ch := [] }) h
def stT (sc bg tn p v ow pl ta du pc ag ep gi pa si ot ba ke : Option C) : S_law := { v_script := sc, v_bag := bg, v_turn := tn, v_p := p, v_v := v, v_own := ow, v_plain := pl, v_tape := ta, v_due := du, v_place := pc, v_again := ag, v_epoch := ep, v_give := gi, v_pads := pa, v_sign := si, v_other := ot, v_back := ba, v_key := ke }
/-- a row that is drawn -/
theorem rowL (s : S_law) {c : C} {p : Int} {n : Nat} (hb : BagOk c) (h0 : s.v_bag = some c) (hp : s.v_p = some (.sh (.int p))) (ha : s.v_at = none) (p0 : 1 ≤ p) (p1 : p < 1000000) :
    ∃ l c', compN [15] (.one 15) kYes c1_law (rng 0 (n : Int)) s.e = some (l.map D.int, ({ s with v_bag := some c' } : S_law).e) ∧ BagOk c' ∧ RowOk p n l := by
  obtain ⟨rs, e', h1, ⟨b, rfl, h2⟩, h3, h4⟩ := compN_ix (vs := [15]) (t := .one 15) (c := kYes) (m := c1_law) (fun e => ∃ b, e = ({ s with v_bag := some b } : S_law).e ∧ BagOk b) (fun _ x => ∃ z : Int, x = .int z ∧ 0 ≤ z ∧ z < p) (ds := rng 0 (n : Int)) (env := s.e) ⟨c, by rw [← h0], hb⟩ fun d hd e ⟨b, he, hb⟩ => by
    subst he
    obtain ⟨i, rfl, hi⟩ := rng_mem hd
    obtain ⟨z, b', e1, z1, z2, b2⟩ := take_ok hb (m := p) (by omega) (by omega)
    refine ⟨.int z, ({ s with v_bag := some b' } : S_law).e, ?_, ⟨b', rfl, b2⟩, z, rfl, z1, z2⟩
    simp [cStep, c1_law, hp, e1, ha]
  obtain ⟨l, e1, e2⟩ := ints_of (p := p) (rs := rs) fun r hr => by
    obtain ⟨i, hi⟩ := List.mem_iff_getElem?.mp hr
    have hlt := (List.getElem?_eq_some_iff.mp hi).1
    exact h4 i _ r (List.getElem?_eq_getElem (by omega)) hi
  subst e1
  exact ⟨l, b, h1, h2, by have := h3; rw [rng_len] at this; simpa using this, e2⟩
def one1 (o : Own) (z : (Int × Int) × Sg) : Ch := if fs o.p o.v o.seed z.1.1 z.1.2 = z.2 then [] else [z]
theorem place_ok (sc bg tn p v ow pl ta du pc ag ep gi pa si ot ba ke : Option C) {o : Own} (oo : OwnOk o) {z : (Int × Int) × Sg} (hz : z ∈ S o.ch) (pre : Ch) (hp : pre.length ≤ 10) :
    l1_law (stT sc bg tn p v (some (.sh o.d)) pl ta (some (.ol (pre.map itC))) (some (.sh (.tup [.int z.1.1, .int z.1.2]))) ag ep gi pa si ot ba ke).e = some (.nx (stT sc bg tn p v (some (.sh o.d)) pl ta (some (.ol ((pre ++ one1 o z).map itC))) (some (.sh (.tup [.int z.1.1, .int z.1.2]))) ag ep gi pa si ot ba ke).e) := by
  have l4 : (4 : Nat) ≤ lim := by rw [lim_val]; omega
  have l5 : (5 : Nat) ≤ lim := by rw [lim_val]; omega
  have lp : pre.length < lim := by rw [lim_val]; omega
  have hg := getK_ch o.ch z.1.1 z.1.2
  rw [mem_look oo.good.nd (k := (z.1.1, z.1.2)) (s := z.2) ((S_perm o.ch).mem_iff.mp hz)] at hg
  have hg' : getK (.dt (chD o.ch)) (.tup [.int z.1.1, .int z.1.2]) = some (some (.tup [rwD z.2.1, .int z.2.2])) := hg
  have hs := plain_signs (o := o) (e := z.1.1) (g := z.1.2) oo.pv
  obtain ⟨f, hf⟩ : ∃ f, fs o.p o.v o.seed z.1.1 z.1.2 = f := ⟨_, rfl⟩
  rw [hf] at hs
  have hs' : F_u_law_signs [.tup [.int o.p, .int o.v, rwD o.key, .int o.seed, .dt []], .int z.1.1, .int z.1.2] = some (.sh (.tup [rwD f.1, .int f.2])) := hs
  have hn : fNe [.tup [rwD z.2.1, .int z.2.2], .tup [rwD f.1, .int f.2]] = some (.sh (.bl (!decide (z.2 = f)))) := by
    have h1 : (D.tup [rwD z.2.1, .int z.2.2]).cmpable (.tup [rwD f.1, .int f.2]) = true := sg_cmp z.2 f
    have h2 : D.eqv (D.tup [rwD z.2.1, .int z.2.2]) (.tup [rwD f.1, .int f.2]) = decide (z.2 = f) := sg_eqv z.2 f
    rw [fNe_v h1, h2]
  have i4 : atI [D.int o.p, .int o.v, rwD o.key, .int o.seed, .dt (chD o.ch)] 4 = some (.dt (chD o.ch)) := rfl
  have c4 : cutD [D.int o.p, .int o.v, rwD o.key, .int o.seed, .dt (chD o.ch)] none (some 4) = [D.int o.p, .int o.v, rwD o.key, .int o.seed] := rfl
  have i0 : atI [D.int z.1.1, .int z.1.2] 0 = some (.int z.1.1) := rfl
  have i1 : atI [D.int z.1.1, .int z.1.2] 1 = some (.int z.1.2) := rfl
  have l1 : (1 : Nat) ≤ lim := by rw [lim_val]; omega
  unfold one1
  rw [hf]
  by_cases q : z.2 = f
  · rw [if_pos q.symm]
    rw [decide_eq_true q] at hn
    simp [l1_law, stT, Own.d, i4, hg', c4, i0, i1, fz_odt, hs', hn, l1, l5]
  · rw [if_neg fun e => q e.symm]
    rw [decide_eq_false q] at hn
    simp [l1_law, stT, Own.d, i4, hg', c4, i0, i1, fz_odt, hs', hn, l1, l4, l5, lp, itC]
theorem real_take {o : Own} {l : Ch} {i : Nat} {z : (Int × Int) × Sg} (h : l[i]? = some z) : real o.p o.v o.seed (l.take (i + 1)) = real o.p o.v o.seed (l.take i) ++ one1 o z := by
  rw [List.take_succ, h]
  unfold real one1
  rw [List.filter_append]
  congr 1
  by_cases q : fs o.p o.v o.seed z.1.1 z.1.2 = z.2 <;> simp [q]
/-- one look at a place of both tapes -/
theorem look_ok (sc bg tn p v ow pl ta du pc ag ep gi pa si ot ba ke : Option C) {o : Own} {ch : Ch} {c : C} (oo : OwnOk o) (hb : BagOk c) (hsame : ∀ k, sgs o.p o.v o.seed ch k = o.sg k) (hv : o.v ≤ 20) :
    ∃ c' ep' gi', l2_law (stT sc (some c) tn p v (some (.sh o.d)) (some (.sh (tp o.p o.v o.key o.seed []))) (some (.sh (tp o.p o.v o.key o.seed ch))) du pc ag ep gi pa si ot ba ke).e = some (.nx (stT sc (some c') tn p v (some (.sh o.d)) (some (.sh (tp o.p o.v o.key o.seed []))) (some (.sh (tp o.p o.v o.key o.seed ch))) du pc ag ep' gi' pa si ot ba ke).e) ∧ BagOk c' := by
  have l1 : (1 : Nat) ≤ lim := by rw [lim_val]; omega
  have l2 : (2 : Nat) ≤ lim := by rw [lim_val]; omega
  have l5 : (5 : Nat) ≤ lim := by rw [lim_val]; omega
  obtain ⟨e, c1, e1, ea, eb, b1⟩ := take_ok hb (m := 4) (by omega) (by omega)
  obtain ⟨g, c2, e2, ga, gb, b2⟩ := take_ok b1 (m := 7) (by omega) (by omega)
  refine ⟨c2, some (.sh (.int e)), some (.sh (.int g)), ?_, b2⟩
  have h1 := signs_ok (k := rwD o.key) (seed := o.seed) (e := e) (g := g) (ch := ch) oo.pv
  have h2 := signs_ok (k := rwD o.key) (seed := o.seed) (e := e) (g := g) (ch := []) oo.pv
  have h3 := law_signs_ok (e := e) (g := g) oo.pv
  have h4 := plain_signs (o := o) (e := e) (g := g) oo.pv
  rw [hsame] at h1
  have hf : sgs o.p o.v o.seed [] (e, g) = fs o.p o.v o.seed e g := rfl
  rw [hf] at h2
  have k1 := (oo.sg (e, g)).row.len
  have k2 := (fs_ok (p := o.p) (v := o.v) (seed := o.seed) (e := e) (g := g) oo.pv.p0).row.len
  have a1 := al_sg (s := o.sg (e, g)) (by omega)
  have a2 := al_sg (s := fs o.p o.v o.seed e g) (by omega)
  have c4 : cutD [D.int o.p, .int o.v, rwD o.key, .int o.seed, .dt (chD o.ch)] none (some 4) = [D.int o.p, .int o.v, rwD o.key, .int o.seed] := rfl
  have nosg : ¬ (("signs" : Str) ∈ nms) := by decide +kernel
  generalize sgD (o.sg (e, g)) = s1 at h1 h3 a1
  generalize sgD (fs o.p o.v o.seed e g) = s2 at h2 h4 a2
  rw [l2_law, seq_nx (e := (stT sc (some c2) tn p v (some (.sh o.d)) (some (.sh (tp o.p o.v o.key o.seed []))) (some (.sh (tp o.p o.v o.key o.seed ch))) du pc ag (some (.sh (.int e))) (some (.sh (.int g))) pa si ot ba ke).e) (by simp [stT, e1, e2])]
  unfold tpD at h1 h2
  unfold Own.d at h3
  simp [stT, tp, tpD, Own.d, nosg, fz_odt, h1, h2, h3, h4, a1, a2, c4, l1, l2, l5]
end K28
set_option Elab.async false
set_option linter.all false
set_option maxRecDepth 100000
set_option maxHeartbeats 4000000
/-! a turn -/
namespace K28
open PySem L2 Fx Fx.L Fx.Tt Fx.Tp
theorem no_ws : ¬ (("with_signs" : Str) ∈ nms) := by decide +kernel
theorem no_key : ¬ (("key" : Str) ∈ nms) := by decide +kernel
theorem no_p : ¬ (("p" : Str) ∈ nms) := by decide +kernel
theorem no_width : ¬ (("width" : Str) ∈ nms) := by decide +kernel
theorem no_changes : ¬ (("changes" : Str) ∈ nms) := by decide +kernel
theorem no_sg : ¬ (("signs" : Str) ∈ nms) := by decide +kernel
theorem no_wk : ¬ (("with_key" : Str) ∈ nms) := by decide +kernel
theorem chD_nil : chD [] = [] := rfl
theorem eq_bl (a b : Bool) : fNe [.bl a, .bl b] = some (.sh (.bl (a != b))) := by
  cases a <;> cases b <;> rfl
theorem ne_rows (a b : List Int) : fNe [rwD a, rwD b] = some (.sh (.bl (!decide (a = b)))) := by
  have hc : (rwD a).cmpable (rwD b) = true := by simp [D.cmpable, rwD, D.okq, okq_ints, D.dep, dep_ints]
  rw [fNe_v hc]
  simp only [rwD, D.eqv, eqv_ints]
theorem eq_rows (a b : List Int) : fEq [rwD a, rwD b] = some (.sh (.bl (decide (a = b)))) := by
  have hc : (rwD a).cmpable (rwD b) = true := by simp [D.cmpable, rwD, D.okq, okq_ints, D.dep, dep_ints]
  rw [fEq_v hc]
  simp only [rwD, D.eqv, eqv_ints]
theorem eq_sg (a b : Sg) : fEq [sgD a, sgD b] = some (.sh (.bl (decide (a = b)))) := by
  rw [fEq_v (sg_cmp a b), sg_eqv]
/-- own ==, != of tapes -/
theorem eqb_ok {p : Int} {v : Nat} {k k' : List Int} {s s' : Int} {c c' : Ch} {b : Bool} (h : Good c) (h' : Good c') (hl : c.length ≤ 1000) (hl' : c'.length ≤ 1000) (hb : b = decide (k = k' ∧ s = s' ∧ S c = S c')) :
    F_Tape____eq__ [tp p v k s c, tp p v k' s' c'] = some (.sh (.bl b)) := by
  subst hb
  exact eq_ok h h' hl hl'
theorem okTp {ns : List Str} {ds : List D} : okT (.obj "Tape" ns ds) = true := by simp [okT]
theorem okTi {n : Int} : okT (.int n) = true := rfl
theorem okTt {ds : List D} : okT (.tup ds) = true := rfl
/-- signs put in again: equal just if they are what they were -/
theorem put_eq {p : Int} {v : Nat} {seed : Int} {ch c : Ch} {k : Int × Int} {s : Sg} (hg : Good ch) (hg' : Good c) (hc : Can p v seed ch) (hc' : Can p v seed c) (hs : ∀ j, sgs p v seed c j = if j = k then s else sgs p v seed ch j) : (S c = S ch) ↔ sgs p v seed ch k = s := by
  rw [can_eq hg' hg hc' hc]
  constructor
  · intro h
    have := h k
    rw [hs, if_pos rfl] at this
    exact this.symm
  · intro h j
    rw [hs]
    split
    · rename_i q; subst q; exact h.symm
    · rfl
theorem turn_ok (sc tn p v ow pl ta du pc ag ep gi pa si ot ba ke : Option C) {c : C} (hb : BagOk c) :
    ∃ c' p' v' ow' pl' ta' du' pc' ag' ep' gi' pa' si' ot' ba' ke', l3_law (stT sc (some c) tn p v ow pl ta du pc ag ep gi pa si ot ba ke).e = some (.nx (stT sc (some c') tn p' v' ow' pl' ta' du' pc' ag' ep' gi' pa' si' ot' ba' ke').e) ∧ BagOk c' := by
  have l1 : (1 : Nat) ≤ lim := by rw [lim_val]; omega
  have l2 : (2 : Nat) ≤ lim := by rw [lim_val]; omega
  have l3 : (3 : Nat) ≤ lim := by rw [lim_val]; omega
  have l4 : (4 : Nat) ≤ lim := by rw [lim_val]; omega
  have l5 : (5 : Nat) ≤ lim := by rw [lim_val]; omega
  obtain ⟨d, hd, c1, e1, b1⟩ := some_l hb (ds := [.int 5, .int 7, .int 101, .int 10007]) (by simp) (by simp)
  obtain ⟨p, rfl, p0, p1⟩ : ∃ p : Int, d = .int p ∧ 5 ≤ p ∧ p < 1000000 := by
    simp at hd
    rcases hd with rfl | rfl | rfl | rfl
    · exact ⟨_, rfl, by omega, by omega⟩
    · exact ⟨_, rfl, by omega, by omega⟩
    · exact ⟨_, rfl, by omega, by omega⟩
    · exact ⟨_, rfl, by omega, by omega⟩
  obtain ⟨v0, c2, e2, v1, v2, b2⟩ := take_ok b1 (m := 16) (by omega) (by omega)
  obtain ⟨v, hv⟩ : ∃ v : Nat, 1 + v0 = (v : Int) := ⟨(1 + v0).toNat, by omega⟩
  have pv_ : Pv p v := ⟨by omega, p1, by omega⟩
  rw [l3_law, seq_nx (e := (stT sc (some c2) tn (some (.sh (.int p))) (some (.sh (.int v))) ow pl ta du pc ag ep gi pa si ot ba ke).e) (by simp [stT, e1, e2, l2, l3, l4, hv, fz_ol])]
  obtain ⟨o, c3, e3, b3, oo, op, ov⟩ := law_tape_ok b2 pv_
  subst op
  have vb : o.v ≤ 16 := by omega
  rw [seq_nx (e := (stT sc (some c3) tn (some (.sh (.int o.p))) (some (.sh (.int v))) (some (.sh o.d)) pl ta du pc ag ep gi pa si ot ba ke).e) (by simp [stT, e3])]
  subst ov
  have h0 : 0 < o.p := by omega
  have i2 : atI [D.int o.p, .int o.v, rwD o.key, .int o.seed, .dt (chD o.ch)] 2 = some (rwD o.key) := rfl
  have i3 : atI [D.int o.p, .int o.v, rwD o.key, .int o.seed, .dt (chD o.ch)] 3 = some (.int o.seed) := rfl
  have i4 : atI [D.int o.p, .int o.v, rwD o.key, .int o.seed, .dt (chD o.ch)] 4 = some (.dt (chD o.ch)) := rfl
  -- the tapes
  rw [seq_nx (e := (stT sc (some c3) tn (some (.sh (.int o.p))) (some (.sh (.int o.v))) (some (.sh o.d)) (some (.sh (tp o.p o.v o.key o.seed []))) ta du pc ag ep gi pa si ot ba ke).e) (by simp [stT, Own.d, i2, i3, tp, chD_nil])]
  obtain ⟨l, hl, e7⟩ := law_changes_ok oo.good (by have := oo.len; omega)
  have hll : l.length ≤ 3 := by have := oo.len; have := hl.length_eq; omega
  have e8 : F_Tape__with_signs [tp o.p o.v o.key o.seed [], .tup (l.map itC)] = some (.sh (tp o.p o.v o.key o.seed (wsF o.p o.v o.seed [] l))) :=
    with_signs_ok (k := rwD o.key) (ch := []) oo.pv good_nil (by simp; omega)
  have hsame : ∀ k, sgs o.p o.v o.seed (wsF o.p o.v o.seed [] l) k = o.sg k := fun k => by rw [wsF_all oo.good hl]; rfl
  have hgood : Good (wsF o.p o.v o.seed [] l) := wsF_good good_nil fun z hz => oo.good.rg z (hl.mem_iff.mp hz)
  have hcan : Can o.p o.v o.seed (wsF o.p o.v o.seed [] l) := wsF_can can_nil
  have hlen : (wsF o.p o.v o.seed [] l).length ≤ 3 := by have := wsF_len (p := o.p) (v := o.v) (seed := o.seed) (l := l) (ch := []); simp at this; omega
  generalize wsF o.p o.v o.seed [] l = ch at e8 hsame hgood hcan hlen
  have nws := no_ws
  rw [seq_nx (e := (stT sc (some c3) tn (some (.sh (.int o.p))) (some (.sh (.int o.v))) (some (.sh o.d)) (some (.sh (tp o.p o.v o.key o.seed []))) (some (.sh (tp o.p o.v o.key o.seed ch))) du pc ag ep gi pa si ot ba ke).e) (by
    unfold Own.d at e7
    unfold tp tpD at e8
    simp [stT, Own.d, tp, tpD, nws, e7, e8])]
  rw [seq_nx (e := (stT sc (some c3) tn (some (.sh (.int o.p))) (some (.sh (.int o.v))) (some (.sh o.d)) (some (.sh (tp o.p o.v o.key o.seed []))) (some (.sh (tp o.p o.v o.key o.seed ch))) (some (.ol [])) pc ag ep gi pa si ot ba ke).e) (by simp [stT])]
  -- what is due
  obtain ⟨s', hloop, pc2, rfl⟩ := forS (E := S_law.e) (t := .one 9) (b := l1_law) (fun i s => ∃ pc, s = (stT sc (some c3) tn (some (.sh (.int o.p))) (some (.sh (.int o.v))) (some (.sh o.d)) (some (.sh (tp o.p o.v o.key o.seed []))) (some (.sh (tp o.p o.v o.key o.seed ch))) (some (.ol ((real o.p o.v o.seed ((S o.ch).take i)).map itC))) pc ag ep gi pa si ot ba ke))
    (ds := (S o.ch).map fun z => kyD (kD z.1)) (s := (stT sc (some c3) tn (some (.sh (.int o.p))) (some (.sh (.int o.v))) (some (.sh o.d)) (some (.sh (tp o.p o.v o.key o.seed []))) (some (.sh (tp o.p o.v o.key o.seed ch))) (some (.ol [])) pc ag ep gi pa si ot ba ke)) ⟨pc, rfl⟩ (by
      rintro i d s hd ⟨pc, rfl⟩
      rw [List.getElem?_map] at hd
      cases hz : (S o.ch)[i]? with
      | none => rw [hz] at hd; cases hd
      | some z =>
        rw [hz] at hd
        simp only [Option.map_some, Option.some.injEq] at hd
        subst hd
        have hm : z ∈ S o.ch := List.mem_of_getElem? hz
        have hpl : (real o.p o.v o.seed ((S o.ch).take i)).length ≤ 10 := by
          have h1 : (real o.p o.v o.seed ((S o.ch).take i)).length ≤ ((S o.ch).take i).length := List.length_filter_le _ _
          have h2 : ((S o.ch).take i).length ≤ (S o.ch).length := List.length_take_le' ..
          have h3 := (S_perm o.ch).length_eq
          have := oo.len
          omega
        refine ⟨(stT sc (some c3) tn (some (.sh (.int o.p))) (some (.sh (.int o.v))) (some (.sh o.d)) (some (.sh (tp o.p o.v o.key o.seed []))) (some (.sh (tp o.p o.v o.key o.seed ch))) (some (.ol ((real o.p o.v o.seed ((S o.ch).take (i + 1))).map itC))) (some (.sh (.tup [.int z.1.1, .int z.1.2]))) ag ep gi pa si ot ba ke), ?_, _, rfl⟩
        refine (congrArg (fun y => Option.bind y l1_law) (show asgT (.one 9) (kyD (kD z.1)) _ = some (stT sc (some c3) tn (some (.sh (.int o.p))) (some (.sh (.int o.v))) (some (.sh o.d)) (some (.sh (tp o.p o.v o.key o.seed []))) (some (.sh (tp o.p o.v o.key o.seed ch))) (some (.ol ((real o.p o.v o.seed ((S o.ch).take i)).map itC))) (some (.sh (.tup [.int z.1.1, .int z.1.2]))) ag ep gi pa si ot ba ke).e by rw [ky_k]; simp [stT])).trans ?_
        rw [real_take hz]
        exact place_ok sc (some c3) tn (some (.sh (.int o.p))) (some (.sh (.int o.v))) ow (some (.sh (tp o.p o.v o.key o.seed []))) (some (.sh (tp o.p o.v o.key o.seed ch))) du pc ag ep gi pa si ot ba ke oo hm _ hpl)
  have hdue : real o.p o.v o.seed ((S o.ch).take ((S o.ch).map fun z => kyD (kD z.1)).length) = S ch := by
    rw [List.length_map, List.take_length, ← real_S oo.good]
    exact (can_eq (real_good oo.good) hgood real_can hcan).mpr fun j => by rw [real_sgs oo.good, hsame]; rfl
  rw [hdue] at hloop
  have hsk := sort_key (ch := o.ch)
  rw [seq_nx (e := (stT sc (some c3) tn (some (.sh (.int o.p))) (some (.sh (.int o.v))) (some (.sh o.d)) (some (.sh (tp o.p o.v o.key o.seed []))) (some (.sh (tp o.p o.v o.key o.seed ch))) (some (.ol ((S ch).map itC))) pc2 ag ep gi pa si ot ba ke).e) (by
    simp only [stT, Own.d] at hloop
    simp [stT, Own.d, i4, kyOk_ch, hsk]
    exact hloop)]
  -- what the tapes tell
  have hch := changes_ok (p := .int o.p) (v := .int o.v) (k := rwD o.key) (s := .int o.seed) hgood (by omega)
  have hch0 := changes_ok (p := .int o.p) (v := .int o.v) (k := rwD o.key) (s := .int o.seed) good_nil (by simp)
  have hS0 : chs [] = .tup [] := by simp [chs, S]
  rw [hS0] at hch0
  have hk := key_ok (p := .int o.p) (v := .int o.v) (k := rwD o.key) (sd := .int o.seed) (ch := chD ch)
  have hpk := p_ok (p := .int o.p) (v := .int o.v) (k := rwD o.key) (sd := .int o.seed) (ch := chD ch)
  have hw := width_ok (p := .int o.p) (v := .int o.v) (k := rwD o.key) (sd := .int o.seed) (ch := chD ch)
  have hrows : ∀ z ∈ S ch, z.2.1.length ≤ 1000 := fun z hz => by
    have h1 := mem_look hgood.nd (k := z.1) (s := z.2) ((S_perm ch).mem_iff.mp hz)
    have h2 : sgs o.p o.v o.seed ch z.1 = z.2 := by unfold sgs; rw [h1]; rfl
    rw [hsame] at h2
    have := (oo.sg z.1).row.len
    rw [h2] at this
    omega
  have lk := oo.key.len
  have hal : F_u_law_alike [.lst [rwD o.key, .int o.p, .int o.v, .tup ((S ch).map itC), .tup []], .lst [rwD o.key, .int o.p, .int o.v, .tup ((S ch).map itC), .tup []]] = some (.sh (.bl true)) := alike_ok (by simp [rwD, smp, smps, smps_ints, smps_its, D.okq]) (by
    have h1 := cnts_its (S ch) hrows
    have h2 := (S_perm ch).length_eq
    simp [rwD, cnt, cnts, cnts_ints]
    omega)
  have hsl : (S ch).length ≤ lim := by rw [(S_perm ch).length_eq, lim_val]; omega
  have nk := no_key
  have np := no_p
  have nw := no_width
  have nc := no_changes
  rw [seq_nx (e := (stT sc (some c3) tn (some (.sh (.int o.p))) (some (.sh (.int o.v))) (some (.sh o.d)) (some (.sh (tp o.p o.v o.key o.seed []))) (some (.sh (tp o.p o.v o.key o.seed ch))) (some (.ol ((S ch).map itC))) pc2 ag ep gi pa si ot ba ke).e) (by
    unfold chs at hch
    unfold tpD at hk hpk hw hch hch0
    rw [chD_nil] at hch0
    simp [stT, Own.d, tp, tpD, i2, chD_nil, nk, np, nw, nc, hk, hpk, hw, hch, hch0, hal, fz_ol, l5, hsl, D.seq])]
  -- looks at places
  obtain ⟨s', hloop2, c4, ag2, ep2, gi2, rfl, b4⟩ := forS (E := S_law.e) (t := .one 10) (b := l2_law) (fun i s => ∃ c ag ep gi, s = (stT sc (some c) tn (some (.sh (.int o.p))) (some (.sh (.int o.v))) (some (.sh o.d)) (some (.sh (tp o.p o.v o.key o.seed []))) (some (.sh (tp o.p o.v o.key o.seed ch))) (some (.ol ((S ch).map itC))) pc2 ag ep gi pa si ot ba ke) ∧ BagOk c)
    (ds := rng 0 6) (s := (stT sc (some c3) tn (some (.sh (.int o.p))) (some (.sh (.int o.v))) (some (.sh o.d)) (some (.sh (tp o.p o.v o.key o.seed []))) (some (.sh (tp o.p o.v o.key o.seed ch))) (some (.ol ((S ch).map itC))) pc2 ag ep gi pa si ot ba ke)) ⟨c3, ag, ep, gi, rfl, b3⟩ (by
      rintro i d s hd ⟨c, ag, ep, gi, rfl, hbc⟩
      obtain ⟨c', ep', gi', h1, h2⟩ := look_ok sc (some c) tn (some (.sh (.int o.p))) (some (.sh (.int o.v))) ow pl ta (some (.ol ((S ch).map itC))) pc2 (some (.sh d)) ep gi pa si ot ba ke oo hbc hsame (by omega)
      refine ⟨(stT sc (some c') tn (some (.sh (.int o.p))) (some (.sh (.int o.v))) (some (.sh o.d)) (some (.sh (tp o.p o.v o.key o.seed []))) (some (.sh (tp o.p o.v o.key o.seed ch))) (some (.ol ((S ch).map itC))) pc2 (some (.sh d)) ep' gi' pa si ot ba ke), ?_, c', _, _, _, rfl, h2⟩
      refine (congrArg (fun y => Option.bind y l2_law) (show asgT (.one 10) d _ = some (stT sc (some c) tn (some (.sh (.int o.p))) (some (.sh (.int o.v))) (some (.sh o.d)) (some (.sh (tp o.p o.v o.key o.seed []))) (some (.sh (tp o.p o.v o.key o.seed ch))) (some (.ol ((S ch).map itC))) pc2 (some (.sh d)) ep gi pa si ot ba ke).e by simp [stT])).trans ?_
      exact h1)
  have ok6 : okR 6 = true := okR_of (by decide) (by decide)
  rw [seq_nx (e := (stT sc (some c4) tn (some (.sh (.int o.p))) (some (.sh (.int o.v))) (some (.sh o.d)) (some (.sh (tp o.p o.v o.key o.seed []))) (some (.sh (tp o.p o.v o.key o.seed ch))) (some (.ol ((S ch).map itC))) pc2 ag2 ep2 gi2 pa si ot ba ke).e) (by simp [ok6]; exact hloop2)]
  -- words put in
  obtain ⟨e, c5, e4, ea, eb, b5⟩ := take_ok b4 (m := 3) (by omega) (by omega)
  obtain ⟨g, c6, e5, ga, gb, b6⟩ := take_ok b5 (m := 5) (by omega) (by omega)
  rw [seq_nx (e := (stT sc (some c6) tn (some (.sh (.int o.p))) (some (.sh (.int o.v))) (some (.sh o.d)) (some (.sh (tp o.p o.v o.key o.seed []))) (some (.sh (tp o.p o.v o.key o.seed ch))) (some (.ol ((S ch).map itC))) pc2 ag2 (some (.sh (.int e))) (some (.sh (.int g))) pa si ot ba ke).e) (by simp [stT, e4, e5])]
  have hr : okR (o.v : Int) = true := okR_of (by omega) (by omega)
  obtain ⟨pads, c7, e6, b7, kp⟩ := rowL (stT sc (some c6) tn (some (.sh (.int o.p))) (some (.sh (.int o.v))) (some (.sh o.d)) (some (.sh (tp o.p o.v o.key o.seed []))) (some (.sh (tp o.p o.v o.key o.seed ch))) (some (.ol ((S ch).map itC))) pc2 ag2 (some (.sh (.int e))) (some (.sh (.int g))) pa si ot ba ke) (n := o.v) b6 rfl rfl rfl (by omega) p1
  have pll : pads.length ≤ lim := by rw [kp.len, lim_val]; omega
  obtain ⟨sign, c8, e9, s0, s1, b8⟩ := take_ok b7 (m := o.p) (by omega) (by omega)
  rw [seq_nx (e := (stT sc (some c8) tn (some (.sh (.int o.p))) (some (.sh (.int o.v))) (some (.sh o.d)) (some (.sh (tp o.p o.v o.key o.seed []))) (some (.sh (tp o.p o.v o.key o.seed ch))) (some (.ol ((S ch).map itC))) pc2 ag2 (some (.sh (.int e))) (some (.sh (.int g))) (some (.sh (rwD pads))) (some (.sh (.int sign))) ot ba ke).e) (by
    simp only [stT] at e6
    simp [stT, hr, e6, pll, rwD, e9])]
  -- other
  obtain ⟨x, hx⟩ : ∃ x, (sign + 1) % o.p = x := ⟨_, rfl⟩
  have ho1 : F_Tape__with_signs [tp o.p o.v o.key o.seed ch, .tup ([((e, g), (pads, x)), ((e, g), (pads, sign))].map itC)] = some (.sh (tp o.p o.v o.key o.seed (wsF o.p o.v o.seed ch [((e, g), (pads, x)), ((e, g), (pads, sign))]))) :=
    with_signs_ok (k := rwD o.key) oo.pv hgood (by simp; omega)
  have hkr : 0 ≤ e ∧ e < 8 ∧ 0 ≤ g ∧ g < 8 := ⟨by omega, by omega, by omega, by omega⟩
  have hog : Good (wsF o.p o.v o.seed ch [((e, g), (pads, x)), ((e, g), (pads, sign))]) := wsF_good hgood fun z hz => by
    simp only [List.mem_cons, List.not_mem_nil, or_false] at hz
    rcases hz with rfl | rfl <;> exact hkr
  have hoc : Can o.p o.v o.seed (wsF o.p o.v o.seed ch [((e, g), (pads, x)), ((e, g), (pads, sign))]) := wsF_can hcan
  have hol : (wsF o.p o.v o.seed ch [((e, g), (pads, x)), ((e, g), (pads, sign))]).length ≤ 5 := by have := wsF_len (p := o.p) (v := o.v) (seed := o.seed) (l := [((e, g), (pads, x)), ((e, g), (pads, sign))]) (ch := ch); simp at this; omega
  have hos : ∀ j, sgs o.p o.v o.seed (wsF o.p o.v o.seed ch [((e, g), (pads, x)), ((e, g), (pads, sign))]) j = if j = (e, g) then (pads, sign) else sgs o.p o.v o.seed ch j := fun j => by
    show sgs o.p o.v o.seed (wsS o.p o.v o.seed (wsS o.p o.v o.seed ch ((e, g), (pads, x))) ((e, g), (pads, sign))) j = _
    rw [ws_sgs, ws_sgs]
    split <;> rfl
  generalize wsF o.p o.v o.seed ch [((e, g), (pads, x)), ((e, g), (pads, sign))] = c1 at ho1 hog hoc hol hos
  have ho1' : F_Tape__with_signs [.obj "Tape" nms [.int o.p, .int o.v, rwD o.key, .int o.seed, .dt (chD ch)], .tup [.tup [.int e, .int g, rwD pads, .int x], .tup [.int e, .int g, rwD pads, .int sign]]] = some (.sh (tp o.p o.v o.key o.seed c1)) := ho1
  rw [seq_nx (e := (stT sc (some c8) tn (some (.sh (.int o.p))) (some (.sh (.int o.v))) (some (.sh o.d)) (some (.sh (tp o.p o.v o.key o.seed []))) (some (.sh (tp o.p o.v o.key o.seed ch))) (some (.ol ((S ch).map itC))) pc2 ag2 (some (.sh (.int e))) (some (.sh (.int g))) (some (.sh (rwD pads))) (some (.sh (.int sign))) (some (.sh (tp o.p o.v o.key o.seed c1))) ba ke).e) (by
    simp [stT, tp, tpD, nws, h0, hx, l2, l4]
    rw [ho1']
    simp [tp, tpD])]
  -- other == tape
  have hse := put_eq hgood hog hcan hoc hos
  rw [hsame] at hse
  have hE := eqb_ok (p := o.p) (v := o.v) (k := o.key) (k' := o.key) (s := o.seed) (s' := o.seed) (b := decide (o.sg (e, g) = (pads, sign))) hog hgood (by omega) (by omega) (by rw [Bool.eq_iff_iff]; simp [hse])
  have hsg1 := signs_ok (k := rwD o.key) (seed := o.seed) (e := e) (g := g) (ch := c1) oo.pv
  rw [hos, if_pos rfl] at hsg1
  have hls := law_signs_ok (e := e) (g := g) oo.pv
  have hes := eq_sg (o.sg (e, g)) (pads, sign)
  have ha2 := al_sg (s := (pads, sign)) (by rw [kp.len]; omega)
  have hsd : sgD (pads, sign) = .tup [rwD pads, .int sign] := rfl
  rw [hsd] at hsg1 hes ha2
  have nsg := no_sg
  have hnn := eq_bl (decide (o.sg (e, g) = (pads, sign))) (decide (o.sg (e, g) = (pads, sign)))
  rw [show (decide (o.sg (e, g) = (pads, sign)) != decide (o.sg (e, g) = (pads, sign))) = false by simp] at hnn
  rw [seq_nx (e := (stT sc (some c8) tn (some (.sh (.int o.p))) (some (.sh (.int o.v))) (some (.sh o.d)) (some (.sh (tp o.p o.v o.key o.seed []))) (some (.sh (tp o.p o.v o.key o.seed ch))) (some (.ol ((S ch).map itC))) pc2 ag2 (some (.sh (.int e))) (some (.sh (.int g))) (some (.sh (rwD pads))) (some (.sh (.int sign))) (some (.sh (tp o.p o.v o.key o.seed c1))) ba ke).e) (by
    obtain ⟨so, hso⟩ : ∃ so, sgD (o.sg (e, g)) = so := ⟨_, rfl⟩
    rw [hso] at hls hes
    obtain ⟨bo, hbo⟩ : ∃ bo, decide (o.sg (e, g) = (pads, sign)) = bo := ⟨_, rfl⟩
    rw [hbo] at hes hE hnn
    unfold tpD at hsg1
    unfold Own.d at hls
    unfold tp tpD at hE
    simp [stT, tp, tpD, Own.d, nsg, okTp, hsg1, hls, hes, ha2, l2, hE, hnn])]
  -- back
  obtain ⟨s, hsv⟩ : ∃ s, o.sg (e, g) = s := ⟨_, rfl⟩
  rw [hsv] at hls
  have hls' : F_u_law_signs [o.d, .int e, .int g] = some (.sh (.tup [rwD s.1, .int s.2])) := hls
  have hb1 : F_Tape__with_signs [tp o.p o.v o.key o.seed c1, .tup ([((e, g), s)].map itC)] = some (.sh (tp o.p o.v o.key o.seed (wsF o.p o.v o.seed c1 [((e, g), s)]))) :=
    with_signs_ok (k := rwD o.key) oo.pv hog (by simp; omega)
  have hbg : Good (wsF o.p o.v o.seed c1 [((e, g), s)]) := wsF_good hog fun z hz => by
    simp only [List.mem_cons, List.not_mem_nil, or_false] at hz
    rcases hz with rfl
    exact hkr
  have hbc : Can o.p o.v o.seed (wsF o.p o.v o.seed c1 [((e, g), s)]) := wsF_can hoc
  have hbl : (wsF o.p o.v o.seed c1 [((e, g), s)]).length ≤ 6 := by have := wsF_len (p := o.p) (v := o.v) (seed := o.seed) (l := [((e, g), s)]) (ch := c1); simp at this; omega
  have hbs : S (wsF o.p o.v o.seed c1 [((e, g), s)]) = S ch := (can_eq hbg hgood hbc hcan).mpr fun j => by
    show sgs o.p o.v o.seed (wsS o.p o.v o.seed c1 ((e, g), s)) j = _
    rw [ws_sgs, hos, hsame]
    by_cases hj : j = (e, g)
    · subst hj; simp [hsv]
    · simp [hj, hsame]
  generalize wsF o.p o.v o.seed c1 [((e, g), s)] = c2 at hb1 hbg hbc hbl hbs
  have hb1' : F_Tape__with_signs [.obj "Tape" nms [.int o.p, .int o.v, rwD o.key, .int o.seed, .dt (chD c1)], .tup [.tup [.int e, .int g, rwD s.1, .int s.2]]] = some (.sh (tp o.p o.v o.key o.seed c2)) := hb1
  rw [seq_nx (e := (stT sc (some c8) tn (some (.sh (.int o.p))) (some (.sh (.int o.v))) (some (.sh o.d)) (some (.sh (tp o.p o.v o.key o.seed []))) (some (.sh (tp o.p o.v o.key o.seed ch))) (some (.ol ((S ch).map itC))) pc2 ag2 (some (.sh (.int e))) (some (.sh (.int g))) (some (.sh (rwD pads))) (some (.sh (.int sign))) (some (.sh (tp o.p o.v o.key o.seed c1))) (some (.sh (tp o.p o.v o.key o.seed c2))) ke).e) (by
    unfold Own.d at hls'
    simp [stT, tp, tpD, Own.d, nws, hls', l1, l2, l4]
    rw [hb1']
    simp [tp, tpD])]
  -- another key
  obtain ⟨key, c9, e10, b9, kk⟩ := rowL (stT sc (some c8) tn (some (.sh (.int o.p))) (some (.sh (.int o.v))) (some (.sh o.d)) (some (.sh (tp o.p o.v o.key o.seed []))) (some (.sh (tp o.p o.v o.key o.seed ch))) (some (.ol ((S ch).map itC))) pc2 ag2 (some (.sh (.int e))) (some (.sh (.int g))) (some (.sh (rwD pads))) (some (.sh (.int sign))) (some (.sh (tp o.p o.v o.key o.seed c1))) (some (.sh (tp o.p o.v o.key o.seed c2))) ke) (n := o.v) b8 rfl rfl rfl (by omega) p1
  have e10' : ∀ d e, compN [15] (.one 15) kYes c2_law d e = compN [15] (.one 15) kYes c1_law d e := fun _ _ => rfl
  have kll : key.length ≤ lim := by rw [kk.len, lim_val]; omega
  rw [seq_nx (e := (stT sc (some c9) tn (some (.sh (.int o.p))) (some (.sh (.int o.v))) (some (.sh o.d)) (some (.sh (tp o.p o.v o.key o.seed []))) (some (.sh (tp o.p o.v o.key o.seed ch))) (some (.ol ((S ch).map itC))) pc2 ag2 (some (.sh (.int e))) (some (.sh (.int g))) (some (.sh (rwD pads))) (some (.sh (.int sign))) (some (.sh (tp o.p o.v o.key o.seed c1))) (some (.sh (tp o.p o.v o.key o.seed c2))) (some (.sh (rwD key)))).e) (by
    simp only [stT, rwD] at e10
    simp [stT, hr, e10', e10, kll, rwD])]
  have hN := eqb_ok (p := o.p) (v := o.v) (k := o.key) (k' := o.key) (s := o.seed) (s' := o.seed) (b := true) hbg hgood (by omega) (by omega) (by simp [hbs])
  have hwk := with_key_ok (p := o.p) (v := o.v) (k := rwD o.key) (key := rwD key) (seed := o.seed) hgood
  have hE2 := eqb_ok (p := o.p) (v := o.v) (k := key) (k' := o.key) (s := o.seed) (s' := o.seed) (b := decide (key = o.key)) hgood hgood (by omega) (by omega) (by simp)
  have hq2 := eq_rows key o.key
  have hnn2 := eq_bl (decide (key = o.key)) (decide (key = o.key))
  rw [show (decide (key = o.key) != decide (key = o.key)) = false by simp] at hnn2
  have hk2 := key_ok (p := .int o.p) (v := .int o.v) (k := rwD key) (sd := .int o.seed) (ch := chD ch)
  have hn3 := ne_rows key key
  have hn4 := ne_rows o.key o.key
  rw [show (!decide (key = key)) = false by simp] at hn3
  rw [show (!decide (o.key = o.key)) = false by simp] at hn4
  have nwk := no_wk
  rw [seq_nx (e := (stT sc (some c9) tn (some (.sh (.int o.p))) (some (.sh (.int o.v))) (some (.sh o.d)) (some (.sh (tp o.p o.v o.key o.seed []))) (some (.sh (tp o.p o.v o.key o.seed ch))) (some (.ol ((S ch).map itC))) pc2 ag2 (some (.sh (.int e))) (some (.sh (.int g))) (some (.sh (rwD pads))) (some (.sh (.int sign))) (some (.sh (tp o.p o.v o.key o.seed c1))) (some (.sh (tp o.p o.v o.key o.seed c2))) (some (.sh (rwD key)))).e) (by
    obtain ⟨bo, hbo⟩ : ∃ bo, decide (key = o.key) = bo := ⟨_, rfl⟩
    rw [hbo] at hE2 hq2 hnn2
    unfold tpD at hwk hk2 hk
    unfold tp tpD at hN hE2
    simp [stT, tp, tpD, Own.d, i2, nk, nwk, okTp, hN, hwk, hE2, hq2, hnn2, hk2, hn3, hk, hn4])]
  -- others
  have hF1 := eq_tup (p := o.p) (v := o.v) (k := o.key) (s := o.seed) (c := ch) (ds := [.int o.p, .int o.v, rwD o.key, .int o.seed, .dt (chD o.ch)])
  have hF2 := eq_int (p := o.p) (v := o.v) (k := o.key) (s := o.seed) (c := ch) (n := 7)
  have hF3 := eqb_ok (p := o.p) (v := o.v) (k := o.key) (k' := o.key) (s := o.seed + 1) (s' := o.seed) (b := false) good_nil good_nil (by simp) (by simp) (by simp; omega)
  have hF4 := eqb_ok (p := o.p) (v := o.v) (k := o.key) (k' := o.key) (s := o.seed) (s' := o.seed) (b := true) good_nil good_nil (by simp) (by simp) (by simp)
  refine ⟨c9, (some (.sh (.int o.p))), (some (.sh (.int o.v))), (some (.sh o.d)), (some (.sh (tp o.p o.v o.key o.seed []))), (some (.sh (tp o.p o.v o.key o.seed ch))), (some (.ol ((S ch).map itC))), pc2, ag2, (some (.sh (.int e))), (some (.sh (.int g))), (some (.sh (rwD pads))), (some (.sh (.int sign))), (some (.sh (tp o.p o.v o.key o.seed c1))), (some (.sh (tp o.p o.v o.key o.seed c2))), (some (.sh (rwD key))), ?_, b9⟩
  unfold tp tpD at hF1 hF2 hF3 hF4
  rw [chD_nil] at hF3 hF4
  simp [stT, tp, tpD, Own.d, i2, i3, chD_nil, okTp, okTi, okTt, hF1, hF2, hF3, hF4]

end K28
set_option Elab.async false
set_option linter.all false
set_option maxRecDepth 100000
set_option maxHeartbeats 4000000
namespace K28
open PySem L2 Fx Fx.L Fx.Tt Fx.Tp
theorem plain (ns : List Int) (hns : ns.length ≤ 63) : F_law [.scr ns] = some (.sh (.bl true)) := by
  obtain ⟨c0, h0, b0⟩ := bag_ok ns
  rw [F_law_eq, b_law]
  rw [seq_nx (e := (stT (some (.sh (.scr ns))) (some c0) none none none none none none none none none none none none none none none none).e) (by simp [stT, h0])]
  obtain ⟨s', hloop, c, tn, p, v, ow, pl, ta, du, pc, ag, ep, gi, pa, si, ot, ba, ke, rfl, b1⟩ := forS (E := S_law.e) (t := .one 2) (b := l3_law) (fun i s => ∃ c tn p v ow pl ta du pc ag ep gi pa si ot ba ke, s = (stT (some (.sh (.scr ns))) (some c) tn p v ow pl ta du pc ag ep gi pa si ot ba ke) ∧ BagOk c)
    (ds := rng 0 5) (s := (stT (some (.sh (.scr ns))) (some c0) none none none none none none none none none none none none none none none none)) ⟨c0, _, _, _, _, _, _, _, _, _, _, _, _, _, _, _, _, rfl, b0⟩ (by
      rintro i d s hd ⟨c, tn, p, v, ow, pl, ta, du, pc, ag, ep, gi, pa, si, ot, ba, ke, rfl, b1⟩
      obtain ⟨c', p', v', ow', pl', ta', du', pc', ag', ep', gi', pa', si', ot', ba', ke', h1, h2⟩ := turn_ok (some (.sh (.scr ns))) (some (.sh d)) p v ow pl ta du pc ag ep gi pa si ot ba ke b1
      refine ⟨(stT (some (.sh (.scr ns))) (some c') (some (.sh d)) p' v' ow' pl' ta' du' pc' ag' ep' gi' pa' si' ot' ba' ke'), ?_, c', _, _, _, _, _, _, _, _, _, _, _, _, _, _, _, _, rfl, h2⟩
      refine (congrArg (fun z => Option.bind z l3_law) (show asgT (.one 2) d _ = some (stT (some (.sh (.scr ns))) (some c) (some (.sh d)) p v ow pl ta du pc ag ep gi pa si ot ba ke).e by simp [stT])).trans ?_
      exact h1)
  have ok5 : okR 5 = true := okR_of (by decide) (by decide)
  rw [seq_nx (e := _) (by simp [ok5]; exact hloop)]
  simp
end K28
open PySem PySem.W PyProof.Rows in
set_option maxRecDepth 100000 in
set_option maxHeartbeats 0 in
theorem PySem.Challenge.cw_nolooking_k28_tapes_and_their_changes_holds : PySem.Challenge.rw_nolooking_k28_tapes_and_their_changes.Holds := by
  w_on; o_law; k_head; (case hw => w_witness2)
  k_fill
  refine K28.walk (l := PySem.Challenge.rw_nolooking_k28_tapes_and_their_changes) K28.plain rfl rfl (fun w h Y => PySem.W.kIn_of Y) ?F
  case F =>
    intro w mg fa h KX G hmg
    refine' K28.all_mk KX G hmg ?a0 ?l0 ?c0 ?k0 ?a1 ?l1 ?c1 ?k1 ?a2 ?l2 ?c2 ?k2 ?a3 ?l3 ?c3 ?k3 ?a4 ?i4 ?l4 ?c4 ?k4 ?a5 ?i5 ?l5 ?c5 ?k5 ?a6 ?l6 ?c6 ?k6 ?a7 ?i7 ?l7 ?c7 ?k7 ?a8 ?i8 ?l8 ?c8 ?k8 ?a9 ?l9 ?c9 ?k9 ?a10 ?l10 ?c10 ?k10 ?a11 ?l11 ?c11 ?k11 ?a12 ?i12 ?l12 ?c12 ?k12 ?a13 ?i13 ?l13 ?c13 ?k13 ?a14 ?i14 ?l14 ?c14 ?k14 ?a15 ?i15 ?l15 ?c15 ?k15 ?a16 ?i16 ?l16 ?c16 ?k16 ?a17 ?i17 ?l17 ?c17 ?k17 ?a18 ?i18 ?l18 ?c18 ?k18 ?a19 ?l19 ?c19 ?k19 ?aCT ?pg ?hd ?po ?sa ?mk ?kc ?n1 ?n2 ?n3 ?n4 ?n5 ?eha ?ehn ?ehtk ?ehm ?eti ?ene ?z_abs ?z_bool ?z_dict ?z_int ?z_isinstance ?z_len ?z_list ?z_range ?z_sorted ?z_str ?z_tuple ?z_zip ?ye_BY_EPOCH ?ye_BY_GIVE ?ye_BY_INDEX ?ye_FACTOR ?ye_MODULUS ?ye_STEP
    (case aCT => k_is)
    (case a0 => k_is)
    (case l0 => k_is)
    (case c0 => k_is)
    (case k0 => k_is)
    (case a1 => k_is)
    (case l1 => k_is)
    (case c1 => k_is)
    (case k1 => k_is)
    (case a2 => k_is)
    (case l2 => k_is)
    (case c2 => k_is)
    (case k2 => k_is)
    (case a3 => k_is)
    (case l3 => k_is)
    (case c3 => k_is)
    (case k3 => k_is)
    (case a4 => k_is)
    (case i4 => k_is)
    (case l4 => k_is)
    (case c4 => k_is)
    (case k4 => k_is)
    (case a5 => k_is)
    (case i5 => k_is)
    (case l5 => k_is)
    (case c5 => k_is)
    (case k5 => k_is)
    (case a6 => k_is)
    (case l6 => k_is)
    (case c6 => k_is)
    (case k6 => k_is)
    (case a7 => k_is)
    (case i7 => k_is)
    (case l7 => k_is)
    (case c7 => k_is)
    (case k7 => k_is)
    (case a8 => k_is)
    (case i8 => k_is)
    (case l8 => k_is)
    (case c8 => k_is)
    (case k8 => k_is)
    (case a9 => k_is)
    (case l9 => k_is)
    (case c9 => k_is)
    (case k9 => k_is)
    (case a10 => k_is)
    (case l10 => k_is)
    (case c10 => k_is)
    (case k10 => k_is)
    (case a11 => k_is)
    (case l11 => k_is)
    (case c11 => k_is)
    (case k11 => k_is)
    (case a12 => k_is)
    (case i12 => k_is)
    (case l12 => k_is)
    (case c12 => k_is)
    (case k12 => k_is)
    (case a13 => k_is)
    (case i13 => k_is)
    (case l13 => k_is)
    (case c13 => k_is)
    (case k13 => k_is)
    (case a14 => k_is)
    (case i14 => k_is)
    (case l14 => k_is)
    (case c14 => k_is)
    (case k14 => k_is)
    (case a15 => k_is)
    (case i15 => k_is)
    (case l15 => k_is)
    (case c15 => k_is)
    (case k15 => k_is)
    (case a16 => k_is)
    (case i16 => k_is)
    (case l16 => k_is)
    (case c16 => k_is)
    (case k16 => k_is)
    (case a17 => k_is)
    (case i17 => k_is)
    (case l17 => k_is)
    (case c17 => k_is)
    (case k17 => k_is)
    (case a18 => k_is)
    (case i18 => k_is)
    (case l18 => k_is)
    (case c18 => k_is)
    (case k18 => k_is)
    (case a19 => k_is)
    (case l19 => k_is)
    (case c19 => k_is)
    (case k19 => k_is)
    (case pg => k_is)
    (case hd => k_is)
    (case po => k_is)
    (case sa => k_is)
    (case mk => k_is)
    (case kc => k_is)
    (case n1 => k_is)
    (case n2 => k_is)
    (case n3 => k_is)
    (case n4 => k_is)
    (case n5 => k_is)
    (case eha => k_is)
    (case ehn => k_is)
    (case ehtk => k_is)
    (case ehm => k_is)
    (case eti => k_is)
    (case ene => k_is)
    (case z_abs => k_is)
    (case z_bool => k_is)
    (case z_dict => k_is)
    (case z_int => k_is)
    (case z_isinstance => k_is)
    (case z_len => k_is)
    (case z_list => k_is)
    (case z_range => k_is)
    (case z_sorted => k_is)
    (case z_str => k_is)
    (case z_tuple => k_is)
    (case z_zip => k_is)
    (case ye_BY_EPOCH => exact ⟨_, by k_is⟩)
    (case ye_BY_GIVE => exact ⟨_, by k_is⟩)
    (case ye_BY_INDEX => exact ⟨_, by k_is⟩)
    (case ye_FACTOR => exact ⟨_, by k_is⟩)
    (case ye_MODULUS => exact ⟨_, by k_is⟩)
    (case ye_STEP => exact ⟨_, by k_is⟩)
#print axioms PySem.Challenge.cw_nolooking_k28_tapes_and_their_changes_holds
