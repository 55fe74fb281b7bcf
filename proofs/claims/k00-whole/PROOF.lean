import PyProof.Rows.All
import Wide.All
import OpenK.AllK
import Wide.FinOn
import HandS.ForMost
import HandS.Star
import HandS.Exc
import HandS.ExcOwn
import HandS.TryMany
import HandS.DictComp
import HandS.IsInst
import HandS.Conv
import HandS.Zip
import HandS.Lambda
import KE.KDictCopyH
import HandS.TupLen
import HandS.DictTup
import HandS.Iter
import KE.KDictItemsList
import HandS.ListItems
import HandS.ExcValue
import HandS.ExcInit
import HandS.ExcIs
import KE.KExcIs
import HandS.TupAny
import HandS.TupMul
import HandS.TupLe
import HandS.Wide
import HandS.StrMore
import HandS.Style
import HandS.SortInts
import HandS.WordsDict
import HandS.RaiseMore
import KE.SortData
import KE.DataMinMax
import PyProof.ReprRoads
import KE.KExcSuper
import KE.KExcRaise
import HandS.ExcSuper
import HandS.HeadWalk
import HandS.ExcField
import KE.GoesMore
import HandS.Deep
import PyProof.P3In
import KE.KTupSum
import PyProof.ReprLen
import HandS.EndTab
import HandS.Head2
import HandS.HeadHook2
import HandS.TryOnly
import KE.KDflt
import HandS.SetFor
import HandS.Strs
import HandS.SetKeys
import PySem.Challenge.RW_sumlots_k00_whole_errors_and_constants
set_option Elab.async false
set_option linter.all false
set_option maxRecDepth 100000
set_option maxHeartbeats 2000000
/-! PF0: dicts whose keys are tuples of ints, told by their entries. -/
namespace PF
open PySem PySem.Spec PyProof.Rows L2

/-! ### a dict whose keys are tuples of ints, as an object told by its entries -/
abbrev En := List L2.Key × Addr × Value
def kInts (ns : List Int) : List L2.Key := ns.map Sum.inl
theorem kInts_inj {a b : List Int} (h : kInts a = kInts b) : a = b := by
  refine List.map_inj_right (f := (Sum.inl : Int → L2.Key)) (fun x y e => ?_) |>.mp h
  exact Sum.inl.inj e
/-- the hash of a tuple of ints, in any world -/
def key0 : L2.Key → Int
  | .inl i => hashInt i
  | .inr _ => 0
def ent0 (x : En) : DictEntry := ⟨reduceHash (Builtin.Tuple.tupleHashOf (x.1.map key0)), .ref x.2.1, x.2.2⟩
theorem ent0_eq (P : Program) (w : World) {xs : List En} (h : ∀ x ∈ xs, ∃ ms : List Int, x.1 = kInts ms) : xs.map ent0 = xs.map (entryOfKey (tupleKind (mixKind P w))) := by
  refine List.map_congr_left fun x hx => ?_
  obtain ⟨ms, e⟩ := h x hx
  have e2 : x.1.map key0 = x.1.map (mixKind P w).hash := by
    rw [e, kInts, List.map_map, List.map_map]
    rfl
  show (⟨reduceHash (Builtin.Tuple.tupleHashOf (x.1.map key0)), .ref x.2.1, x.2.2⟩ : DictEntry) = ⟨reduceHash (Builtin.Tuple.tupleHashOf (x.1.map (mixKind P w).hash)), .ref x.2.1, x.2.2⟩
  rw [e2]
theorem keys_stored {xs : List En} {ns : List Int} {b : Addr} {u : Value} (h : ∀ x ∈ xs, ∃ ms : List Int, x.1 = kInts ms) : ∀ x ∈ storedH xs (kInts ns) b u, ∃ ms : List Int, x.1 = kInts ms := by
  intro x hx
  unfold storedH at hx
  split at hx
  · obtain ⟨y, hy, rfl⟩ := List.mem_map.mp hx
    obtain ⟨ms, e⟩ := h y hy
    refine ⟨ms, ?_⟩
    unfold putAt
    split <;> exact e
  · rcases List.mem_append.mp hx with hx | hx
    · exact h x hx
    · rw [List.mem_singleton.mp hx]; exact ⟨ns, rfl⟩
def entsAt (a : Addr) (xs : List En) (h : Heap) : Prop :=
  (a == sysModules) = false ∧ xs.length ≤ sizeLine ∧ ∃ o es ep, h.get? a = some o ∧ o.ExactDict ∧ o.data = .dict es ep ∧ es.toList = xs.map ent0 ∧ (xs.map (·.1)).Nodup
def entsO (a : Addr) (xs : List En) : HO := .ext (entsAt a xs)
theorem entsO_ok {P : Program} {w : World} {H : Hp} {h : Heap} {a : Addr} {xs : List En} (p : entsAt a xs h) : ObjOk P w H h a (entsO a xs) := by
  obtain ⟨l, z, o, es, ep, e, r⟩ := p
  refine ⟨⟨l, z, o, es, ep, e, r⟩, ⟨o, e⟩, ?_⟩
  rintro h1 h2 ⟨l', z', o', es', ep', e', r'⟩ k
  exact ⟨l', z', o', es', ep', k _ e', r'⟩
theorem storedH_le (xs : List En) (k : List L2.Key) (b : Addr) (u : Value) : (storedH xs k b u).length ≤ xs.length + 1 := by
  unfold storedH
  split
  · rw [List.length_map]; omega
  · rw [List.length_append]; simp
section
variable {X : Cx} {pins : List (Addr × Obj)} {σ : L2.St} {H : Hp} {s : Shared} {D b : Addr} {xs : List En} {ns : List Int}
theorem key_ints (I : Inv X pins σ H s) (q : SqT X.K H b (ns.map V.int)) : (tupleKind (mixKind X.prog X.w)).is s.heap (kInts ns) b := by
  obtain ⟨its, r, ⟨o, e, hc, n, hd⟩, _⟩ := I.tuple q
  have r2 : Vals ((kInts ns).map kV) its := by
    have e2 : (kInts ns).map kV = ns.map V.int := by rw [kInts, List.map_map]; rfl
    rw [e2]; exact r
  exact ⟨o, its.toArray, n, e, hc, hd, by simpa using items_are r2⟩
/-- what is known of the entries' keys -/
def KeysOk (K : PySem.W.Frag) (H : Hp) (xs : List En) : Prop := ∀ x ∈ xs, ∃ ms : List Int, x.1 = kInts ms ∧ SqT K H x.2.1 (ms.map V.int)
theorem ents_dd (I : Inv X pins σ H s) (hD : Rd H D (entsO D xs)) (hk : KeysOk X.K H xs) : (D == sysModules) = false ∧ xs.length ≤ sizeLine ∧ s.heap.DictOfH (tupleKind (mixKind X.prog X.w)) D xs := by
  obtain ⟨⟨lo, z, o, es, ep, e1, e2, e3, e4, e5⟩, _⟩ := (show ObjOk X.prog X.w H s.heap D (entsO D xs) from hD.ok I.hok)
  refine ⟨lo, z, o, es, ep, e1, e2, e3, e4.trans (ent0_eq _ _ fun x hx => ?_), fun x hx => ?_, e5⟩
  · obtain ⟨ms, a1, _⟩ := hk x hx
    exact ⟨ms, a1⟩
  · obtain ⟨ms, a1, a2⟩ := hk x hx
    rw [a1]; exact key_ints I a2
theorem len_ents {A : Around} {E : Value → Shared → Prop} {Q : Value → Shared → Prop} (I : Inv X pins σ H s) (hD : Rd H D (entsO D xs)) (hk : KeysOk X.K H xs) (h : ∀ t s', Inv X pins σ H s' → Q (.int xs.length t) s') : wpAny (model X.prog X.w) A (call (.builtin "len") [.ref D]) Q E s := by
  obtain ⟨lo, z, dd⟩ := ents_dd I hD hk
  exact call_len_dictH lo dd (by rw [sizeLine_eq] at z; omega) (h _ _ (I.tok _))
theorem type_ents (I : Inv X pins σ H s) (hD : Rd H D (entsO D xs)) : ∃ o, s.heap.get? D = some o ∧ o.cls = .type "dict" := by
  obtain ⟨⟨lo, z, o, es, ep, e1, e2, e3, e4, e5⟩, _⟩ := (show ObjOk X.prog X.w H s.heap D (entsO D xs) from hD.ok I.hok)
  exact ⟨o, e1, e2.1⟩
theorem ents_put {E : Value → Shared → Prop} {u : Value} {Q : Unit → Shared → Prop} (hu : X.A.units < cLine) (I : Inv X pins σ H s) (hD : H D = some (entsO D xs)) (hk : KeysOk X.K H xs) (q : SqT X.K H b (ns.map V.int)) (hz : xs.length < sizeLine)
    (k : ∀ s', Inv X pins σ (upd H D (entsO D (storedH xs (kInts ns) b u))) s' → Q () s') : wpAny (model X.prog X.w) X.A (dictSet D (.ref b) u) Q E s := by
  obtain ⟨⟨lo, z, o, es, ep, e1, e2, e3, e4, e5⟩, _⟩ := (show ObjOk X.prog X.w H s.heap D (entsO D xs) from I.hok D _ hD)
  have hk0 : ∀ x ∈ xs, ∃ ms : List Int, x.1 = kInts ms := fun x hx => let ⟨ms, a1, _⟩ := hk x hx; ⟨ms, a1⟩
  have dd : s.heap.DictOfH (tupleKind (mixKind X.prog X.w)) D xs := ⟨o, es, ep, e1, e2, e3, e4.trans (ent0_eq _ _ hk0), fun x hx => by
    obtain ⟨ms, a1, a2⟩ := hk x hx
    rw [a1]; exact key_ints I a2, e5⟩
  refine wpAny_dictSet_heap (hsz := by omega) (knd := tupleKind (mixKind X.prog X.w)) hu (key_ints I q) dd fun h' dd' hs => k _ ?_
  obtain ⟨o', es', ep', a1, a2, a3, a4, _, a5⟩ := dd'
  have := storedH_le xs (kInts ns) b u
  exact d_write I (by rw [hD]; exact True.intro) hs ⟨o', a1⟩ (entsO_ok ⟨lo, by omega, o', es', ep', a1, a2, a3, a4.trans (ent0_eq _ _ (keys_stored hk0)).symm, a5⟩)
end

/-! ### reading, writing -/
/-- the dict at D reads as these entries -/
def RdE (K : PySem.W.Frag) (H : Hp) (D : Addr) (xs : List En) : Prop := (Rd H D (entsO D xs) ∨ (xs = [] ∧ Rd H D (.dK []))) ∧ KeysOk K H xs
def AtE (xs : List En) (ns : List Int) (o : Option V) : Prop := RelO o ((atKey xs (kInts ns)).map Prod.snd)
def DGetE (K : PySem.W.Frag) (H : Hp) (a : Addr) (y : V) (o : Option V) : Prop := DGet H a y o ∨ ∃ xs ns b, RdE K H a xs ∧ y = .ref b ∧ SqT K H b (ns.map V.int) ∧ AtE xs ns o
def IsDE (H : Hp) (a : Addr) : Prop := IsD H a ∨ ∃ xs, Rd H a (entsO a xs)
section
variable {X : Cx} {pins : List (Addr × Obj)} {σ : L2.St} {H : Hp} {s : Shared} {D a b : Addr} {xs : List En} {ns : List Int} {A : Around} {E : Value → Shared → Prop} {y v : V} {u r : Value} {o : Option V}
theorem ents_empty (I : Inv X pins σ H s) (h : Rd H D (.dK [])) : entsAt D [] s.heap := by
  obtain ⟨z, hd, vs, rel, o, es, ep, e1, e2, e3, _, e5, _⟩ := (show ObjOk X.prog X.w H s.heap D (.dK []) from h.ok I.hok)
  cases rel
  have : es.toList = [] := by
    have := e5.length
    simpa using this
  exact ⟨hd, Nat.zero_le _, o, es, ep, e1, e2, e3, this, List.nodup_nil⟩
theorem RdE.at (I : Inv X pins σ H s) (h : RdE X.K H D xs) : entsAt D xs s.heap := by
  obtain ⟨h | ⟨rfl, h⟩, _⟩ := h
  · obtain ⟨q, _⟩ := (show ObjOk X.prog X.w H s.heap D (entsO D xs) from h.ok I.hok)
    exact q
  · exact ents_empty I h
theorem RdE.dd (I : Inv X pins σ H s) (h : RdE X.K H D xs) : (D == sysModules) = false ∧ xs.length ≤ sizeLine ∧ s.heap.DictOfH (tupleKind (mixKind X.prog X.w)) D xs := by
  obtain ⟨lo, z, o, es, ep, e1, e2, e3, e4, e5⟩ := h.at I
  refine ⟨lo, z, o, es, ep, e1, e2, e3, e4.trans (ent0_eq _ _ fun x hx => ?_), fun x hx => ?_, e5⟩
  · obtain ⟨ms, a1, _⟩ := h.2 x hx
    exact ⟨ms, a1⟩
  · obtain ⟨ms, a1, a2⟩ := h.2 x hx
    rw [a1]; exact key_ints I a2
theorem isDE_at (I : Inv X pins σ H s) (d : IsDE H a) : s.TypeIs (.ref a) "dict" ∧ (∀ b, Value.ref a = .ref b → ∃ ob, s.heap.get? b = some ob ∧ ob.dict = none) ∧ (a == sysModules) = false := by
  rcases d with d | ⟨xs, e⟩
  · exact isD_at I d
  · obtain ⟨⟨lo, z, o, es, ep, e1, e2, e3, e4, e5⟩, _⟩ := (show ObjOk X.prog X.w H s.heap a (entsO a xs) from e.ok I.hok)
    refine ⟨⟨o, e1, e2.1⟩, fun b q => ?_, lo⟩
    cases q
    exact ⟨o, e1, e2.2.1⟩
theorem DGetE.isD (g : DGetE X.K H a y o) : IsDE H a := by
  rcases g with (⟨kvs, k, e, _⟩ | ⟨kvs, k, b, e, _⟩) | ⟨xs, ns, b, ⟨h | ⟨_, h⟩, _⟩, _⟩
  · exact .inl (.inl ⟨_, e⟩)
  · exact .inl (.inr ⟨_, e⟩)
  · exact .inr ⟨_, h⟩
  · exact .inl (.inl ⟨_, h⟩)
theorem e_getItem {Q : Value → Shared → Prop} (hu : A.units + 1 < cLine) (I : Inv X pins σ H s) (g : DGetE X.K H a y (some v)) (ry : RelV y u) (h : ∀ w' s', Inv X pins σ H s' → RelV v w' → Q w' s') :
    wpAny (model X.prog X.w) A (getItem (.ref a) u) Q E s := by
  rcases g with g | ⟨xs, ns, b, e, ey, q, l⟩
  · exact d_getItem hu I g ry h
  · subst ey
    cases (show u = Value.ref b from ry)
    obtain ⟨hd, z, dd⟩ := e.dd I
    obtain ⟨w', hw, rw'⟩ := RelO.some_of (v := v) (show RelO (some v) ((atKey xs (kInts ns)).map Prod.snd) from l)
    obtain ⟨p, hp, hp2⟩ := Option.map_eq_some_iff.mp hw
    refine wpAny_getItem_heap (tupleKind_room_in1 hu) (key_ints I q) dd hp ?_
    rw [hp2]
    exact h w' _ (I.tok _) rw'
theorem e_in {Q : Value → Shared → Prop} (hu : A.units + 1 < cLine) (I : Inv X pins σ H s) (g : DGetE X.K H a y o) (ry : RelV y u) (h : ∀ s', Inv X pins σ H s' → Q (.bool o.isSome) s') :
    wpAny (model X.prog X.w) A (compareOp .In u (.ref a)) Q E s := by
  rcases g with g | ⟨xs, ns, b, e, ey, q, l⟩
  · exact d_in hu I g ry h
  · subst ey
    cases (show u = Value.ref b from ry)
    obtain ⟨hd, z, dd⟩ := e.dd I
    refine wpAny_in_heap (tupleKind_room_in1 hu) (key_ints I q) hd dd ?_
    have q := RelO.isSome_eq l
    rw [Option.isSome_map] at q
    rw [← q]
    exact h _ (I.tok _)
theorem e_notIn {Q : Value → Shared → Prop} (hu : A.units + 1 < cLine) (I : Inv X pins σ H s) (g : DGetE X.K H a y o) (ry : RelV y u) (h : ∀ s', Inv X pins σ H s' → Q (.bool (!o.isSome)) s') :
    wpAny (model X.prog X.w) A (compareOp .NotIn u (.ref a)) Q E s := by
  rcases g with g | ⟨xs, ns, b, e, ey, q, l⟩
  · exact d_notIn hu I g ry h
  · subst ey
    cases (show u = Value.ref b from ry)
    obtain ⟨hd, z, dd⟩ := e.dd I
    refine wpAny_notIn_heap (tupleKind_room_in1 hu) (key_ints I q) hd dd ?_
    have q := RelO.isSome_eq l
    rw [Option.isSome_map] at q
    rw [← q]
    exact h _ (I.tok _)
theorem e_get1 {Q : Value → Shared → Prop} (hu : A.units + 1 < cLine) (I : Inv X pins σ H s) (g : DGetE X.K H a y o) (ry : RelV y u) (h : ∀ w' s', Inv X pins σ H s' → RelV (o.getD .non) w' → Q w' s') :
    wpAny (model X.prog X.w) A (call (.builtin "dict.get") [.ref a, u]) Q E s := by
  rcases g with g | ⟨xs, ns, b, e, ey, q, l⟩
  · exact d_get1 hu I g ry h
  · subst ey
    cases (show u = Value.ref b from ry)
    obtain ⟨hd, z, dd⟩ := e.dd I
    exact call_meetsIn PySem.F.slot_dict_get dd.typeIs PySem.F.entry_dict_get (PySem.F.args_dict_get_2 _ _) (meetsH_dict_get (tupleKind (mixKind X.prog X.w)) a b hd) ⟨tupleKind_room_in1 hu, kInts ns, xs, key_ints I q, dd, h _ _ (I.tok _) (RelO.getD l rfl)⟩
theorem e_get2 {d : V} {Q : Value → Shared → Prop} (hu : A.units + 1 < cLine) (I : Inv X pins σ H s) (g : DGetE X.K H a y o) (ry : RelV y u) (rd : RelV d r) (h : ∀ w' s', Inv X pins σ H s' → RelV (o.getD d) w' → Q w' s') :
    wpAny (model X.prog X.w) A (call (.builtin "dict.get") [.ref a, u, r]) Q E s := by
  rcases g with g | ⟨xs, ns, b, e, ey, q, l⟩
  · exact d_get2 hu I g ry rd h
  · subst ey
    cases (show u = Value.ref b from ry)
    obtain ⟨hd, z, dd⟩ := e.dd I
    exact call_meetsIn PySem.F.slot_dict_get dd.typeIs PySem.F.entry_dict_get (PySem.F.args_dict_get_3 _ _ _) (meetsH_dict_get_default (tupleKind (mixKind X.prog X.w)) a b hd r) ⟨tupleKind_room_in1 hu, kInts ns, xs, key_ints I q, dd, h _ _ (I.tok _) (RelO.getD l rd)⟩
/-- the dict at D, own, reads as these entries -/
def WrE (K : PySem.W.Frag) (H : Hp) (D : Addr) (xs : List En) : Prop := (H D = some (entsO D xs) ∨ (xs = [] ∧ H D = some (.dK []))) ∧ KeysOk K H xs
theorem WrE.rd {K : PySem.W.Frag} (h : WrE K H D xs) : RdE K H D xs := ⟨h.1.imp .inl fun q => ⟨q.1, .inl q.2⟩, h.2⟩
/-- what stands at D behind a store -/
def DPutE (K : PySem.W.Frag) (H : Hp) (a : Addr) (y v : V) (N : Hp → Prop) : Prop := (∃ H', DPut H a y v H' ∧ N H') ∨
  ∃ xs ns b, WrE K H a xs ∧ y = .ref b ∧ SqT K H b (ns.map V.int) ∧ xs.length < sizeLine ∧ ∀ r, RelV v r → N (upd H a (entsO a (storedH xs (kInts ns) b r)))
theorem e_setItem {N : Hp → Prop} {Q : Unit → Shared → Prop} (hu : A.units + 1 < cLine) (I : Inv X pins σ H s) (g : DPutE X.K H a y v N) (ry : RelV y u) (rv : RelV v r) (h : ∀ H' s', N H' → Inv X pins σ H' s' → Q () s') :
    wpAny (model X.prog X.w) A (setItem (.ref a) u r) Q E s := by
  rcases g with ⟨H', g, n⟩ | ⟨xs, ns, b, e, ey, q, l, n⟩
  · exact d_setItem hu I g ry rv fun s' I' => h H' s' n I'
  · subst ey
    cases (show u = Value.ref b from ry)
    obtain ⟨hd, z, dd⟩ := e.rd.dd I
    refine wpAny_setItem_heap (hsz := z) (tupleKind_room_in1 hu) (key_ints I q) dd fun h' dd' hs => h _ _ (n r rv) ?_
    obtain ⟨o', es', ep', a1, a2, a3, a4, _, a5⟩ := dd'
    have hl := storedH_le xs (kInts ns) b r
    have hk0 : ∀ x ∈ xs, ∃ ms : List Int, x.1 = kInts ms := fun x hx => let ⟨ms, a1, _⟩ := e.2 x hx; ⟨ms, a1⟩
    have mu : Mut (H a) := by
      rcases e.1 with e | ⟨_, e⟩ <;> (rw [e]; exact True.intro)
    exact d_write I mu hs ⟨o', a1⟩ (entsO_ok ⟨hd, by omega, o', es', ep', a1, a2, a3, a4.trans (ent0_eq _ _ (keys_stored hk0)).symm, a5⟩)
end
def tDGetE (K : PySem.W.Frag) (td ty : TE) : TE := fun σ H Q => td σ H fun x H1 => ty σ H1 fun y H2 => ∃ a v, x = .ref a ∧ DGetE K H2 a y (some v) ∧ Q v H2
def sDPutE (K : PySem.W.Frag) (td ty tv : TE) : TS := fun D σ H => tv σ H fun v H1 => td σ H1 fun x H2 => ty σ H2 fun y H3 => ∃ a, x = .ref a ∧ DPutE K H3 a y v (D.nx σ)
def tDGet1E (K : PySem.W.Frag) (td ty : TE) : TE := fun σ H Q => td σ H fun x H1 => ∃ a, x = .ref a ∧ IsDE H1 a ∧ ty σ H1 fun y H2 => ∃ o, DGetE K H2 a y o ∧ Q (o.getD .non) H2
def tDGet2E (K : PySem.W.Frag) (td ty tx : TE) : TE := fun σ H Q => td σ H fun x H1 => ∃ a, x = .ref a ∧ IsDE H1 a ∧ ty σ H1 fun y H2 => tx σ H2 fun z H3 => ∃ o, DGetE K H3 a y o ∧ Q (o.getD z) H3
section
variable {X : Cx} {o i e f value : Expr} {pos pos' apos cpos : Pos} {td ty tv tx : TE}
theorem pe_dgetE (hu : X.A.units + 1 < cLine) (ho : PE X o td) (hi : PE X i ty) (hs : NoSl i) : PE X (.Subscript o i pos) (tDGetE X.K td ty) := by
  refine ⟨fun pins s σ H Q I h => ?_⟩
  refine subD_of PySem.F.slot_dict_getitem.lookup hs (thn (ho.run pins s σ H _ I h) fun u s1 ⟨x, H1, I1, rx, q1⟩ => thn (hi.run pins s1 σ H1 _ I1 q1) fun iv s2 ⟨y, H2, I2, ry, a, v, ex, g, q2⟩ => ?_)
  subst ex
  obtain rfl : u = Value.ref a := rx
  exact ⟨(isDE_at I2 g.isD).1, e_getItem hu I2 g ry fun w' s3 I3 rw' => ⟨v, H2, I3, rw', q2⟩⟩
theorem ps_dputE (hu : X.A.units + 1 < cLine) (ho : PE X o td) (hi : PE X i ty) (hv : PE X value tv) (hs : swapsWith value (some (.Subscript o i pos')) pos.line X.env = pure false) :
    PS X (.Assign [.Subscript o i pos'] value pos) (sDPutE X.K td ty tv) := by
  refine ⟨fun pins s σ H D I h => ?_⟩
  refine wpAny_Assign_Subscript (thn (hv.run pins s σ H _ I h) fun r s1 ⟨v, H1, I1, rv, q1⟩ => thn (ho.run pins s1 σ H1 _ I1 q1) fun u s2 ⟨x, H2, I2, rx, q2⟩ => thn (hi.run pins s2 σ H2 _ I2 q2) fun iv s3 ⟨y, H3, I3, ry, a, ex, g⟩ => ?_) hs
  subst ex
  obtain rfl : u = Value.ref a := rx
  exact e_setItem hu I3 g ry rv fun H4 s4 q3 I4 => ⟨σ, H4, I4, q3⟩
theorem pe_dget1E (hu : X.A.units + 1 < cLine) (ho : PE X o td) (he : PE X e ty) (m : M1 X o "get" apos e cpos) : PE X (.Call (.Attribute o "get" apos) [e] [] cpos) (tDGet1E X.K td ty) := by
  refine ⟨fun pins s σ H Q I h => ?_⟩
  refine wpAny_Call_method m.base m.few m.line PySem.F.plainAttrs_dict PySem.F.slot_dict_get PySem.F.type_dict_get (thn (ho.run pins s σ H _ I h) fun u s1 ⟨x, H1, I1, rx, a, ex, d, q1⟩ => ?_)
  subst ex
  obtain rfl : u = Value.ref a := rx
  obtain ⟨t1, t2, _⟩ := isDE_at I1 d
  refine ⟨t1, t2, ?_⟩
  rw [m.trees]
  refine Calls.callWith_builtin rfl (Calls.evalArgs_plain (Calls.spliced_cons (thn (he.run pins s1 σ H1 _ I1 q1) fun iv s2 ⟨y, H2, I2, ry, ov, g, q2⟩ => Calls.spliced_nil ?_)))
  exact e_get1 hu I2 g ry fun w' s3 I3 rw' => ⟨_, H2, I3, rw', q2⟩
theorem pe_dget2E (hu : X.A.units + 1 < cLine) (ho : PE X o td) (he : PE X e ty) (hf : PE X f tx) (m : M2 X o "get" apos e f cpos) : PE X (.Call (.Attribute o "get" apos) [e, f] [] cpos) (tDGet2E X.K td ty tx) := by
  refine ⟨fun pins s σ H Q I h => ?_⟩
  refine wpAny_Call_method m.base m.few m.line PySem.F.plainAttrs_dict PySem.F.slot_dict_get PySem.F.type_dict_get (thn (ho.run pins s σ H _ I h) fun u s1 ⟨x, H1, I1, rx, a, ex, d, q1⟩ => ?_)
  subst ex
  obtain rfl : u = Value.ref a := rx
  obtain ⟨t1, t2, _⟩ := isDE_at I1 d
  refine ⟨t1, t2, ?_⟩
  rw [m.trees]
  refine Calls.callWith_builtin rfl (Calls.evalArgs_plain (Calls.spliced_cons (thn (he.run pins s1 σ H1 _ I1 q1) fun iv s2 ⟨y, H2, I2, ry, q2⟩ =>
    Calls.spliced_cons (thn (hf.run pins s2 σ H2 _ I2 q2) fun fv s3 ⟨z, H3, I3, rz, ov, g, q3⟩ => Calls.spliced_nil ?_))))
  exact e_get2 hu I3 g ry rz fun w' s4 I4 rw' => ⟨_, H3, I4, rw', q3⟩
end
/-! ### it is no code object -/
theorem heap_code (q : Str) (n : Nat) : ∃ h : Heap, h.objs.size = n ∧ ∀ i, i < n → h.get? i = some { cls := .none, data := .fields #[.none, .str q 0] } := by
  induction n with
  | zero => exact ⟨{}, rfl, fun i z => absurd z (Nat.not_lt_zero i)⟩
  | succ n ih =>
    obtain ⟨h, e, k⟩ := ih
    refine ⟨h.push { cls := .none, data := .fields #[.none, .str q 0] }, by rw [Heap.size_push, e], fun i z => ?_⟩
    by_cases hi : i < n
    · exact Heap.get?_push_of_some _ (k i hi)
    · have hi : i = n := by omega
      subst hi
      rw [← e]
      exact Heap.get?_push_size _ rfl
theorem entsO_ne {D : Addr} {xs : List En} {c : Addr} {q : Str} : entsO D xs ≠ LamX.CodeO c q := fun z => by
  have hf := HO.ext.inj z
  obtain ⟨h, e, k⟩ := heap_code q (c + 1)
  have hp := congrFun hf h
  have h2 : entsAt D xs h := by
    rw [hp]
    exact ⟨_, _, 0, k c (Nat.lt_succ_self c), rfl, rfl⟩
  obtain ⟨_, _, o, es, ep, e1, _, e3, _⟩ := h2
  have hl := Heap.lt_size e1
  rw [e] at hl
  rw [k D hl] at e1
  cases e1
  cases e3
end PF

set_option Elab.async false
set_option linter.all false
set_option maxRecDepth 100000
set_option maxHeartbeats 2000000
/-! PF66: tuple(x.items()), tuple(x), x a dict: the raw roads. -/
namespace PF
open PySem PySem.Spec PyProof.Rows L2
/-! ### tuple(x.items()) -/
section
variable {prog : Program} {w : World} {A : Around} {E : Value → Shared → Prop} {s : Shared} {r d : Addr} {es : Array DictEntry} {ep : Nat}
theorem code_tuple_new_items {Q₁ : Value → Shared → Prop} (hh : A.handled = none) (hv : s.heap.IsItemsView r d) (hm : s.heap.DictRaw d es ep) (hn : es.size ≤ sizeLine)
    (h : ∀ (h' : Heap) (tk : Nat) (as : List Addr), (∀ b o, s.heap.get? b = some o → h'.get? b = some o) → as.length = es.size → PySem.W.DilG es s.heap.objs.size h' as →
      Q₁ (.ref h'.objs.size) { s with heap := h'.push { cls := .type "tuple", data := .seq (as.map Value.ref).toArray }, toks := tk }) :
    codeAny (model prog w) A (.call (.builtin "tuple.__new__") ⟨[.type "tuple", .ref r], []⟩) (wants Q₁ E) s := by
  refine codeAny_of_tree ?_
  show wpAny _ A.in1 (do checkBuiltinCall "tuple.__new__" ⟨[.type "tuple", .ref r], []⟩; again (.builtin "tuple.__new__" ⟨[.type "tuple", .ref r], []⟩)) _ _ s
  refine wpAny_bind (wpAny_of_eq (F.newCall_tuple_1 _) (wpAny_pure ⟨plainId_quiet F.plain_tuple_new _, codeAny_builtin F.entry_tuple_new ?_⟩))
  rw [Around.under_plainId F.plain_tuple_new _]
  have hsub := sub_tuple_self
  have hinit := init_tuple_lookup
  have hmh := madeHere_tuple
  have hTI : s.TypeIs (.ref r) "dict_items" := let ⟨o, h1, h2, _⟩ := hv; ⟨o, h1, h2⟩
  have hh1 : A.in1.handled = none := hh
  wp_walk using wpAny_typeOf hTI, PySem.W.dil_collect (A := A.in1) hh1 hv hm hn
  intro h' tk as hk hl hG
  show wpAny _ _ (Builtin.Tuple.tupleExact (as.map Value.ref).toArray >>= fun v => ret v) _ _ _
  unfold Builtin.Tuple.tupleExact
  refine wpAny_bind (wpAny_newObj_type ?_ (by show (as.map Value.ref).toArray.size ≤ sizeLine; simp only [List.size_toArray, List.length_map]; omega))
  exact wpAny_pure (h h' tk as hk hl hG)
theorem call_tuple_items {Q : Value → Shared → Prop} (hh : A.handled = none) (hv : s.heap.IsItemsView r d) (hm : s.heap.DictRaw d es ep) (hn : es.size ≤ sizeLine)
    (hQ : ∀ (h' : Heap) (tk : Nat) (as : List Addr), (∀ b o, s.heap.get? b = some o → h'.get? b = some o) → as.length = es.size → PySem.W.DilG es s.heap.objs.size h' as →
      Q (.ref h'.objs.size) { s with heap := h'.push { cls := .type "tuple", data := .seq (as.map Value.ref).toArray }, toks := tk }) :
    wpAny (model prog w) A (call (.type "tuple") [.ref r]) Q E s := by
  refine callType_codes (Q₁ := fun obj s₁ => s₁.TypeIs obj "tuple" ∧ Q obj s₁) F.called_tuple (F.typeCall_tuple_1 _) F.entry_object_init
    (code_tuple_new_items (A := A.in1) hh hv hm hn fun h' tk as hk hl hG => ⟨⟨_, Heap.get?_push_size _ rfl, rfl⟩, hQ h' tk as hk hl hG⟩) fun obj s₁ h₁ => ?_
  exact ⟨h₁.1, F.args_object_init_2 obj _, object_init_meets F.called_tuple.init.lookup F.called_tuple.made (by decide) prog w A.in1 _ s₁ ⟨h₁.1, rfl, h₁.2⟩⟩
end
/-- what the dict at a has, pair by pair -/
def ItemsR (H : Hp) (a : Addr) (prs : List (V × V)) : Prop := (∃ kvs : List (Key × V), Rd H a (.dK kvs) ∧ prs = kvs.map fun kv => (kV kv.1, kv.2)) ∨
  ∃ xs : List En, Rd H a (entsO a xs) ∧ Paired (fun (q : V × V) (x : En) => q.1 = .ref x.2.1 ∧ RelV q.2 x.2.2) prs xs
section
variable {X : Cx} {pins : List (Addr × Obj)} {σ : L2.St} {H : Hp} {s : Shared} {a : Addr} {prs : List (V × V)}
theorem items_raw (I : Inv X pins σ H s) (h : ItemsR H a prs) : (a == sysModules) = false ∧ ∃ es ep, s.heap.DictRaw a es ep ∧ es.size ≤ sizeLine ∧ es.size = prs.length ∧ ∀ (j : Nat) (hj : j < es.size) (q : V × V), prs[j]? = some q → RelV q.1 es[j].key ∧ RelV q.2 es[j].val := by
  rcases h with ⟨kvs, e, rfl⟩ | ⟨xs, e, pr⟩
  · obtain ⟨z, hd, vs, rel, o, es, ep, e1, e2, e3, _, e5, _⟩ := (show ObjOk X.prog X.w H s.heap a (.dK kvs) from e.ok I.hok)
    have l1 : kvs.length = vs.length := Paired.length rel
    have l2 := e5.length
    rw [Array.length_toList] at l2
    refine ⟨hd, es, ep, ⟨o, e1, e2, e3⟩, by omega, by rw [List.length_map]; omega, fun j hj q hq => ?_⟩
    rw [List.getElem?_map] at hq
    obtain ⟨kv, hkv, rfl⟩ := Option.map_eq_some_iff.mp hq
    obtain ⟨u, hu, ru⟩ := kv_get rel hkv
    have gen : ∀ {l : List DictEntry} {vs : List (Key × Value)} {j : Nat} {k : Key} {u : Value}, Pairs (mixKind X.prog X.w) l vs → vs[j]? = some (k, u) → ∃ en, l[j]? = some en ∧ (mixKind X.prog X.w).is k en.key = true ∧ en.val = u := by
      intro l vs j k u hp
      induction hp generalizing j with
      | nil => intro h; simp at h
      | @cons e kv es kvs h1 h2 _ ih =>
        intro h
        cases j with
        | zero =>
          have h := Option.some.inj h
          subst h
          exact ⟨e, rfl, h1, h2⟩
        | succ j => exact ih h
    obtain ⟨en, he, hk, hv⟩ := gen e5 hu
    rw [Array.getElem?_toList, Array.getElem?_eq_getElem hj] at he
    have he := Option.some.inj he
    rw [he]
    exact ⟨relV_key (show keyIs kv.1 en.key = true from hk), by rw [hv]; exact ru⟩
  · obtain ⟨⟨lo, z, o, es, ep, e1, e2, e3, e4, e5⟩, _⟩ := (show ObjOk X.prog X.w H s.heap a (entsO a xs) from e.ok I.hok)
    have hes : es.size = xs.length := by
      have := congrArg List.length e4
      rw [List.length_map] at this
      simpa using this
    have lp : prs.length = xs.length := Paired.length pr
    refine ⟨lo, es, ep, ⟨o, e1, e2, e3⟩, by omega, by omega, fun j hj q hq => ?_⟩
    obtain ⟨x, hx, r1, r2⟩ := paired_get pr hq
    have ee : es.toList[j]? = (xs.map ent0)[j]? := by rw [e4]
    rw [Array.getElem?_toList, Array.getElem?_eq_getElem hj, List.getElem?_map, hx] at ee
    have ee2 : es[j] = ent0 x := Option.some.inj ee
    rw [ee2]
    exact ⟨by rw [r1]; exact rfl, r2⟩
/-- the pairs' tuples tracked -/
def putP : Hp → List Addr → List (V × V) → Hp
  | H, a :: as, p :: ps => putP (upd H a (.tup [p.1, p.2])) as ps
  | H, _, _ => H
theorem putP_off {b : Addr} : ∀ (as : List Addr) (ps : List (V × V)) (H : Hp), b ∉ as → putP H as ps b = H b
  | [], _, _, _ => rfl
  | _ :: _, [], _, _ => rfl
  | a :: as, p :: ps, H, h => by
    show putP (upd H a (.tup [p.1, p.2])) as ps b = H b
    rw [putP_off as ps _ (fun z => h (List.mem_cons_of_mem _ z)), upd_ne (fun z => h (by rw [z]; exact List.mem_cons_self))]
theorem putP_at : ∀ (as : List Addr) (ps : List (V × V)) (H : Hp), as.length = ps.length → as.Nodup → Paired (fun (t : Addr) (p : V × V) => putP H as ps t = some (.tup [p.1, p.2])) as ps
  | [], [], _, _, _ => .nil
  | [], _ :: _, _, h, _ => by cases h
  | _ :: _, [], _, h, _ => by cases h
  | a :: as, p :: ps, H, h, hn => by
    have hn' := List.nodup_cons.mp hn
    have ih := putP_at as ps (upd H a (.tup [p.1, p.2])) (Nat.succ.inj h) hn'.2
    refine .cons ?_ ih
    show putP (upd H a (.tup [p.1, p.2])) as ps a = some (.tup [p.1, p.2])
    rw [putP_off as ps _ hn'.1, upd_same]
theorem tuples_laid {h' : Heap} {tk : Nat} {es : Array DictEntry} {as : List Addr} (I : Inv X pins σ H s) (hr : ∀ (j : Nat) (hj : j < es.size) (q : V × V), prs[j]? = some q → RelV q.1 es[j].key ∧ RelV q.2 es[j].val) (hpl : es.size = prs.length)
    (hk : ∀ b o, s.heap.get? b = some o → h'.get? b = some o) (hl : as.length = es.size) (hG : PySem.W.DilG es s.heap.objs.size h' as) :
    (∀ b o, H b = some o → putP H as prs b = some o) ∧ (∀ t ∈ as, H t = none) ∧ Paired (fun (t : Addr) (q : V × V) => putP H as prs t = some (.tup [q.1, q.2])) as prs ∧ Inv X pins σ (putP H as prs) { s with heap := h', toks := tk } := by
  have nd : as.Nodup := List.Pairwise.imp (fun {a b} (h : a < b) => Nat.ne_of_lt h) hG.rise
  have new : ∀ t ∈ as, H t = none := fun t ht => I.hok.fresh (Nat.le_of_lt (hG.above t ht))
  have atP := putP_at as prs H (by omega) nd
  have off : ∀ b, b ∉ as → putP H as prs b = H b := fun b h1 => putP_off as prs _ h1
  have low : ∀ b o, s.heap.get? b = some o → b ∉ as := fun b o e z => absurd (Heap.lt_size e) (Nat.not_lt.mpr (Nat.le_of_lt (hG.above b z)))
  have kp : ∀ b u, H b = some u → putP H as prs b = some u := fun b u e => by
    rw [off b (fun z => by rw [new b z] at e; cases e)]
    exact e
  refine ⟨kp, new, atP, ?_⟩
  refine I.call' (ch := []) rfl ⟨fun b o q _ _ _ => hk b o q, fun b o q _ _ _ => ⟨o.slots, hk b o q⟩, fun b o q n _ => ?_, fun b o q _ => ⟨o, hk b o q⟩, fun b xs q => kp b _ q, fun b o u q => kp b _ q, fun b ps q => ⟨#[], by rw [kp b _ q]; simp⟩⟩ (fun b u q => ?_) I.bare fun b z => by simp at z
  · rw [off b (low b o q)]
    exact n
  · by_cases hb : b ∈ as
    · obtain ⟨j, pk, e1, e2, e3⟩ := LiI.paired_ix atP hb
      rw [e3] at q
      cases q
      obtain ⟨hj, f3⟩ := hG.pairs j b e1
      obtain ⟨g2, g3⟩ := hr j hj pk e2
      exact ⟨by show 2 ≤ sizeLine; decide, [es[j].key, es[j].val], .cons g2 (.cons g3 .nil), ⟨_, f3, rfl, _, rfl⟩⟩
    · rw [off b hb] at q
      exact (I.hok b u q).stay (fun d v _ y => hk d v y) (fun d y => kp d _ y) fun d xs y => kp d _ y
end
def rTupItems : V → Hp → VK → Prop := fun x H Q => ∃ (a : Addr) (prs : List (V × V)), x = .ref a ∧ ItemsR H a prs ∧
  ∀ (H' : Hp) (ts : List Addr) (p : Addr), (∀ b o, H b = some o → H' b = some o) → (∀ b, H b = none ∨ H' b = H b) → Paired (fun (t : Addr) (q : V × V) => H' t = some (.tup [q.1, q.2])) ts prs → H' p = none → Q (.ref p) (upd H' p (.tup (ts.map V.ref)))
section
variable {X : Cx} {e : Expr} {te : TE} {p apos cpos pos : Pos}
theorem pe_tupItems (hc : X.calm = true) (he : PE X e te) (hg : Gl X "tuple") (hm : X.mg "tuple" = none) (hbase : attributeBase e "items" X.env (eval e X.env) = eval e X.env := by rfl) (hline : (apos.endLine == cpos.line) = true := by rfl)
    (hs : starEach [.Call (.Attribute e "items" apos) [] [] cpos] X.env = (false, eval (.Call (.Attribute e "items" apos) [] [] cpos) X.env) :: starEach [] X.env := by rfl) :
    PE X (.Call (.Name "tuple" p) [.Call (.Attribute e "items" apos) [] [] cpos] [] pos) (fun σ H Q => te σ H fun x H1 => rTupItems x H1 Q) := by
  refine ⟨fun pins s σ H Q I hq => ?_⟩
  refine Call_ (ld_blt I hg hm boot_tuple (PyProof.Rows.callWith_type1 ?_ hs rfl))
  rw [hs]
  show wpAny _ _ (spliced ((false, eval (.Call (.Attribute e "items" apos) [] [] cpos) X.env) :: backTo pos (starEach [] X.env))) _ _ s
  refine Calls.spliced_cons ?_
  refine wpAny_Call_method (T := "dict") (id := "dict.items") hbase rfl hline F.plainAttrs_dict F.slot_dict_items F.type_dict_items (thn (he.run pins s σ H _ I hq) fun u s1 ⟨x, H1, I1, rx, d, prs, ex, hd, q⟩ => ?_)
  subst ex
  obtain rfl : u = Value.ref d := rx
  obtain ⟨hs0, es, ep, hm, hz, hpl, hr⟩ := items_raw I1 hd
  have I2 : Inv X pins σ H1 { s1 with heap := s1.heap.push { cls := .type "dict_items", data := .fields #[.ref d] } } := I1.kept (t' := s1.toks) fun b ob q => Heap.get?_push_of_some _ q
  refine ⟨hm.typeIs, fun b q => ?_, ?_⟩
  · cases q
    obtain ⟨o, h1, h2, _⟩ := hm
    exact ⟨o, h1, h2.2.1⟩
  show wpAny _ _ (callWith cpos (.builtin "dict.items") [.ref d] [] []) _ X.xe s1
  refine method_meetsIn F.slot_dict_items F.entry_dict_items rfl (PySem.evalArgs_none ⟨rfl, hm.typeIs, F.args_dict_items_1 _, _, DT.meetsItems (es := es) (ep := ep) hs0, hm, ?_⟩)
  refine Calls.spliced_nil ?_
  refine call_tuple_items (es := es) (ep := ep) (I1.ok.hd hc) ⟨_, Heap.get?_push_size _ rfl, rfl, rfl⟩ (hm.at fun o e => Heap.get?_push_of_some _ e) hz fun h' tk as hk hl hG => ?_
  obtain ⟨k1, k2, k3, J⟩ := tuples_laid (tk := tk) (prs := prs) I2 hr hpl hk hl hG
  have hp : putP H1 as prs h'.objs.size = none := J.hok.fresh (Nat.le_refl _)
  refine ⟨.ref h'.objs.size, _, J.laid (a := h'.objs.size) (o := .tup (as.map V.ref)) (t' := tk) (fun b o e => Heap.get?_push_of_some _ e) (Nat.le_refl _) ⟨by rw [List.length_map]; omega, as.map Value.ref, LiI.vals_refs as, ⟨_, Heap.get?_push_size _ rfl, rfl, _, rfl⟩⟩, rfl, q _ as _ k1 (fun b => ?_) k3 hp⟩
  by_cases hb : b ∈ as
  · exact .inl (k2 b hb)
  · exact .inr (putP_off as prs _ hb)
end
/-! ### tuple(x), x a dict -/
section
variable {prog : Program} {w : World} {A : Around} {E : Value → Shared → Prop} {s : Shared} {d : Addr} {es : Array DictEntry} {ep : Nat}
theorem code_tuple_new_keys {Q₁ : Value → Shared → Prop} (hh : A.handled = none) (lo : (d == sysModules) = false) (hm : s.heap.DictRaw d es ep) (hn : es.size ≤ sizeLine)
    (h : ∀ (h' : Heap) (tk : Nat) (acc : List Value), (∀ b o, s.heap.get? b = some o → h'.get? b = some o) → acc = es.toList.map (·.key) →
      Q₁ (.ref h'.objs.size) { s with heap := h'.push { cls := .type "tuple", data := .seq acc.toArray }, toks := tk }) :
    codeAny (model prog w) A (.call (.builtin "tuple.__new__") ⟨[.type "tuple", .ref d], []⟩) (wants Q₁ E) s := by
  refine codeAny_of_tree ?_
  show wpAny _ A.in1 (do checkBuiltinCall "tuple.__new__" ⟨[.type "tuple", .ref d], []⟩; again (.builtin "tuple.__new__" ⟨[.type "tuple", .ref d], []⟩)) _ _ s
  refine wpAny_bind (wpAny_of_eq (F.newCall_tuple_1 _) (wpAny_pure ⟨plainId_quiet F.plain_tuple_new _, codeAny_builtin F.entry_tuple_new ?_⟩))
  rw [Around.under_plainId F.plain_tuple_new _]
  have hsub := sub_tuple_self
  have hinit := init_tuple_lookup
  have hmh := madeHere_tuple
  have hTI : s.TypeIs (.ref d) "dict" := hm.typeIs
  have hh1 : A.in1.handled = none := hh
  wp_walk using wpAny_typeOf hTI, PySem.W.kdu_collect (A := A.in1) (KdlSrc.rawDict lo) hh1 hm hn
  intro h' tk acc hk hacc
  have e : acc.toList = es.toList.map (·.key) := by
    refine List.ext_getElem? fun j => ?_
    have hsz : acc.size = es.size := hacc.1
    by_cases hj : j < es.size
    · have hja : j < acc.size := by omega
      obtain ⟨hi, ev⟩ := hacc.2 j acc[j] (Array.getElem?_eq_getElem hja)
      rw [Array.getElem?_toList, Array.getElem?_eq_getElem hja, ev, List.getElem?_map, Array.getElem?_toList, Array.getElem?_eq_getElem hj]
      rfl
    · rw [Array.getElem?_toList, Array.getElem?_eq_none (by omega), List.getElem?_map, Array.getElem?_toList, Array.getElem?_eq_none (by omega)]
      rfl
  show wpAny _ _ (Builtin.Tuple.tupleExact acc.toList.toArray >>= fun v => ret v) _ _ _
  unfold Builtin.Tuple.tupleExact
  refine wpAny_bind (wpAny_newObj_type ?_ (by show acc.toList.toArray.size ≤ sizeLine; rw [Array.toArray_toList, hacc.1]; omega))
  exact wpAny_pure (h h' tk acc.toList hk e)
theorem call_tuple_keys {Q : Value → Shared → Prop} (hh : A.handled = none) (lo : (d == sysModules) = false) (hm : s.heap.DictRaw d es ep) (hn : es.size ≤ sizeLine)
    (hQ : ∀ (h' : Heap) (tk : Nat) (acc : List Value), (∀ b o, s.heap.get? b = some o → h'.get? b = some o) → acc = es.toList.map (·.key) →
      Q (.ref h'.objs.size) { s with heap := h'.push { cls := .type "tuple", data := .seq acc.toArray }, toks := tk }) :
    wpAny (model prog w) A (call (.type "tuple") [.ref d]) Q E s := by
  refine callType_codes (Q₁ := fun obj s₁ => s₁.TypeIs obj "tuple" ∧ Q obj s₁) F.called_tuple (F.typeCall_tuple_1 _) F.entry_object_init
    (code_tuple_new_keys (A := A.in1) hh lo hm hn fun h' tk acc hk hacc => ⟨⟨_, Heap.get?_push_size _ rfl, rfl⟩, hQ h' tk acc hk hacc⟩) fun obj s₁ h₁ => ?_
  exact ⟨h₁.1, F.args_object_init_2 obj _, object_init_meets F.called_tuple.init.lookup F.called_tuple.made (by decide) prog w A.in1 _ s₁ ⟨h₁.1, rfl, h₁.2⟩⟩
end
def rTupKeys : List V → Hp → VK → Prop := fun vs H Q => ∃ (a : Addr) (prs : List (V × V)), vs = [.ref a] ∧ ItemsR H a prs ∧ ∀ p, H p = none → Q (.ref p) (upd H p (.tup (prs.map (·.1))))
theorem call_tupKeys {X : Cx} (hc : X.calm = true) {pins : List (Addr × Obj)} {σ : L2.St} {H : Hp} {s : Shared} {vs : List V} {us : List Value} {Q : VK} (I : Inv X pins σ H s) (rv : Vals vs us) (h : rTupKeys vs H Q) :
    wpAny (model X.prog X.w) X.A (call (.type "tuple") us) (fun z s' => ∃ v' H', Inv X pins σ H' s' ∧ RelV v' z ∧ Q v' H') X.xe s := by
  obtain ⟨a, prs, rfl, hI, q⟩ := h
  rw [Vals.ref1 rv]
  obtain ⟨lo, es, ep, hm, hz, hpl, hr⟩ := items_raw I hI
  refine call_tuple_keys (I.ok.hd hc) lo hm hz fun h' tk acc hk hacc => ?_
  have I1 : Inv X pins σ H { s with heap := h', toks := tk } := I.kept hk
  have hp : H h'.objs.size = none := I1.hok.fresh (Nat.le_refl _)
  have vals : Vals (prs.map (·.1)) acc := by
    rw [hacc]
    have gen : ∀ (prs : List (V × V)) (l : List DictEntry), l.length = prs.length → (∀ (j : Nat) (hj : j < l.length) (q : V × V), prs[j]? = some q → RelV q.1 l[j].key) → Vals (prs.map (·.1)) (l.map (·.key)) := by
      intro prs
      induction prs with
      | nil => intro l hl _; cases l with | nil => exact .nil | cons _ _ => cases hl
      | cons q prs ih =>
        intro l hl hr
        cases l with
        | nil => cases hl
        | cons e l =>
          exact .cons (hr 0 (by simp) q rfl) (ih l (by simpa using hl) fun j hj q' hq' => by
            have := hr (j + 1) (by simpa using hj) q' (by simpa using hq')
            simpa using this)
    exact gen prs es.toList (by simpa using hpl) fun j hj q hq => by
      have := (hr j (by simpa using hj) q hq).1
      simpa using this
  refine ⟨.ref h'.objs.size, _, I1.laid (a := h'.objs.size) (o := .tup (prs.map (·.1))) (t' := tk) (fun b o e => Heap.get?_push_of_some _ e) (Nat.le_refl _) ⟨by rw [List.length_map]; omega, acc, vals, ⟨_, Heap.get?_push_size _ rfl, rfl, _, rfl⟩⟩, rfl, q _ hp⟩
end PF

set_option Elab.async false
set_option linter.all false
set_option maxRecDepth 100000
set_option maxHeartbeats 2000000
/-! PF1: plain data in place of heaps. What a value of the abstract heap stands for; the state of a running def; outcomes. -/
namespace PF
open PySem PySem.Spec PyProof.Rows L2

abbrev D := PyData

/-! ### outcomes -/
inductive Res (α : Type) where
  | ok (a : α) (g : List Int)
  | exc (c : Nat) (p : D) (g : List Int)
  | fail

abbrev M (α : Type) := List Int → Res α

def Res.bind {α β : Type} (r : Res α) (k : α → M β) : Res β :=
  match r with
  | .ok a g => k a g
  | .exc c p g => .exc c p g
  | .fail => .fail

@[reducible] def M.pure {α : Type} (a : α) : M α := fun g => .ok a g
@[reducible] def M.bind {α β : Type} (m : M α) (k : α → M β) : M β := fun g => (m g).bind k
@[reducible] def M.fail {α : Type} : M α := fun _ => .fail
instance : Monad M where
  pure := M.pure
  bind := M.bind

/-! ### what a value stands for -/
def kD : Key → D
  | .inl i => .int i
  | .inr x => .str x

/-- a list that never changes any more -/
def LstAt (K : PySem.W.Frag) (F : Addr → Prop) (H : Hp) (a : Addr) (vs : List V) : Prop :=
  (F a ∧ Rd H a (.lst vs)) ∨
    ∃ (o : Obj) (its : Array Value) (n : Nat), K.lookup a = some o ∧ o.cls = .type "list" ∧ o.dict = none ∧ o.data = .seq its n ∧ its.size ≤ sizeLine ∧ Vals vs its.toList
theorem LstAt.seq {K : PySem.W.Frag} {F : Addr → Prop} {H : Hp} {a : Addr} {vs : List V} (h : LstAt K F H a vs) : SqL K H a vs := by
  rcases h with ⟨_, h⟩ | h
  · exact .inl h
  · exact .inr h

structure ClsInfo where
  addr : Addr
  field : Option Str
/-- the tables of code objects of the defs that make lambdas; the lambdas' names; the classes of exceptions -/
class TabT where
  T : List (Addr × Str)
  cl : Nat → ClsInfo
variable [TabT]
/-- a class of exceptions: what isinstance asks of it; it is none of the kinds of plain data -/
structure XcOk (K : PySem.W.Frag) (C : Addr) : Prop where
  ex : ExcC K C
  no : ∀ T : String, T ∈ ["int", "bool", "tuple", "str", "list", "dict"] → PySem.W.kitOne K (.ref C) (.type T) = some false
/-- an exception as a value: its class, what it keeps -/
def excD (c : Nat) : Option (Str × D) → D
  | none => .dict [(.none, .int c)]
  | some (f, d) => .dict [(.none, .int c), (.str f, d)]
mutual
inductive Rep (K : PySem.W.Frag) (F : Addr → Prop) (H : Hp) : V → D → Prop
  | non : Rep K F H .non .none
  | bl (b : Bool) : Rep K F H (.bl b) (.bool b)
  | int (i : Int) : Rep K F H (.int i) (.int i)
  | str (x : Str) : Rep K F H (.str x) (.str x)
  | lst {a : Addr} {vs : List V} {ds : List D} : LstAt K F H a vs → RepAll K F H vs ds → Rep K F H (.ref a) (.list ds)
  | tup {a : Addr} {vs : List V} {ds : List D} : SqT K H a vs → RepAll K F H vs ds → Rep K F H (.ref a) (.tuple ds)
  | dct {a : Addr} {o : Obj} {u : HO} {ps : List (D × D)} : F a → H a = some (.frz o u) → RepDo K F H a u ps → Rep K F H (.ref a) (.dict ps)
  | exc {a : Addr} {c : Nat} : F a → Rd H a (ExO (.ref (TabT.cl c).addr) a) → (TabT.cl c).field = none → XcOk K (TabT.cl c).addr → Rep K F H (.ref a) (.dict [(.none, .int c)])
  | excf {a dx : Addr} {c : Nat} {f : Str} {v : V} {d : D} : F a → Rd H a (exo a (TabT.cl c).addr (some dx)) → F dx → Rd H dx (exd dx [(f, v)]) → (TabT.cl c).field = some f → XcOk K (TabT.cl c).addr → Rep K F H v d → Rep K F H (.ref a) (.dict [(.none, .int c), (.str f, d)])
inductive RepAll (K : PySem.W.Frag) (F : Addr → Prop) (H : Hp) : List V → List D → Prop
  | nil : RepAll K F H [] []
  | cons {v : V} {vs : List V} {d : D} {ds : List D} : Rep K F H v d → RepAll K F H vs ds → RepAll K F H (v :: vs) (d :: ds)
inductive RepKv (K : PySem.W.Frag) (F : Addr → Prop) (H : Hp) : List (Key × V) → List (D × D) → Prop
  | nil : RepKv K F H [] []
  | cons {k : Key} {v : V} {r : List (Key × V)} {d : D} {ps : List (D × D)} : Rep K F H v d → RepKv K F H r ps → RepKv K F H ((k, v) :: r) ((kD k, d) :: ps)
inductive RepEn (K : PySem.W.Frag) (F : Addr → Prop) (H : Hp) : List En → List (D × D) → Prop
  | nil : RepEn K F H [] []
  | cons {ns : List Int} {b : Addr} {u : Value} {v : V} {r : List En} {d : D} {ps : List (D × D)} : Rep K F H (.ref b) (.tuple (ns.map .int)) → RelV v u → Rep K F H v d → RepEn K F H r ps → RepEn K F H ((kInts ns, b, u) :: r) ((.tuple (ns.map .int), d) :: ps)
/-- what a dict's object stands for: keys that are ints and texts, or (not empty) tuples of ints -/
inductive RepDo (K : PySem.W.Frag) (F : Addr → Prop) (H : Hp) : Addr → HO → List (D × D) → Prop
  | dk {a : Addr} {u : HO} {kvs : List (Key × V)} {ps : List (D × D)} : u = .dK kvs → RepKv K F H kvs ps → RepDo K F H a u ps
  | en {a : Addr} {u : HO} {x : En} {xs : List En} {ps : List (D × D)} : u = entsO a (x :: xs) → RepEn K F H (x :: xs) ps → RepDo K F H a u ps
end

/-- no table of code objects; neither that nor a code object -/
def NT (o : HO) : Prop := ∀ ps, o ≠ .tbl ps
def Pl (o : HO) : Prop := (∀ ps, o ≠ .tbl ps) ∧ ∀ c q, o ≠ LamX.CodeO c q
theorem Pl.nt {o : HO} (h : Pl o) : NT o := h.1
theorem nt_lst {vs : List V} : NT (.lst vs) := fun _ z => nomatch z
theorem nt_dK {kvs : List (Key × V)} : NT (.dK kvs) := fun _ z => nomatch z
theorem pl_lst {vs : List V} : Pl (.lst vs) := ⟨fun _ z => (nomatch z), fun _ _ z => (nomatch z)⟩
theorem pl_dK {kvs : List (Key × V)} : Pl (.dK kvs) := ⟨fun _ z => (nomatch z), fun _ _ z => (nomatch z)⟩
theorem nt_ents {a : Addr} {xs : List En} : NT (entsO a xs) := fun _ z => nomatch z
theorem pl_ents {a : Addr} {xs : List En} : Pl (entsO a xs) := ⟨fun _ z => (nomatch z), fun _ _ z => entsO_ne z⟩
theorem nt_frz {o : Obj} {u : HO} : NT (.frz o u) := fun _ z => nomatch z
theorem RepDo.nt {K : PySem.W.Frag} {F : Addr → Prop} {H : Hp} {a : Addr} {u : HO} {ps : List (D × D)} (r : RepDo K F H a u ps) : NT u := by
  cases r with
  | dk e _ => rw [e]; exact nt_dK
  | en e _ => rw [e]; exact nt_ents
theorem RepDo.pl {K : PySem.W.Frag} {F : Addr → Prop} {H : Hp} {a : Addr} {u : HO} {ps : List (D × D)} (r : RepDo K F H a u ps) : Pl u := by
  cases r with
  | dk e _ => rw [e]; exact pl_dK
  | en e _ => rw [e]; exact pl_ents
theorem RepDo.mut {K : PySem.W.Frag} {F : Addr → Prop} {H : Hp} {a : Addr} {u : HO} {ps : List (D × D)} (r : RepDo K F H a u ps) : Mut (some u) := by
  cases r with
  | dk e _ => rw [e]; exact True.intro
  | en e _ => rw [e]; exact True.intro
theorem RepDo.nfrz {K : PySem.W.Frag} {F : Addr → Prop} {H : Hp} {a : Addr} {u : HO} {ps : List (D × D)} (r : RepDo K F H a u ps) (o : Obj) (w : HO) : u ≠ .frz o w := by
  cases r with
  | dk e _ => rw [e]; exact fun z => nomatch z
  | en e _ => rw [e]; exact fun z => nomatch z
theorem RepDo.ntup {K : PySem.W.Frag} {F : Addr → Prop} {H : Hp} {a : Addr} {u : HO} {ps : List (D × D)} (r : RepDo K F H a u ps) (ws : List V) : u ≠ .tup ws := by
  cases r with
  | dk e _ => rw [e]; exact fun z => nomatch z
  | en e _ => rw [e]; exact fun z => nomatch z
/-- the tables of code objects grow -/
structure TabE (H H' : Hp) : Prop where
  tab : ∀ p ∈ TabT.T, LamX.TabS H p.1 p.2 → LamX.TabS H' p.1 p.2
theorem TabE.refl {H : Hp} : TabE H H := ⟨fun _ _ h => h⟩
theorem TabE.trans {H H1 H2 : Hp} (e : TabE H H1) (f : TabE H1 H2) : TabE H H2 := ⟨fun p m h => f.tab p m (e.tab p m h)⟩
theorem TabE.upd {H : Hp} {p : Addr} {o : HO} (h : ∀ o', H p = some o' → Pl o') (ho : NT o) : TabE H (L2.upd H p o) := by
  have ne : ∀ {a : Addr} {o' : HO}, H a = some o' → ¬ Pl o' → a ≠ p := fun {a o'} e n z => n (h o' (z ▸ e))
  have nt : ∀ ps : Array Value, ¬ Pl (.tbl ps) := fun ps z => z.1 ps rfl
  refine ⟨fun p' _ ⟨ps, e, h1, h2⟩ => ⟨ps, by rw [upd_ne (ne e (nt ps))]; exact e, h1, fun pos cv hc => ?_⟩⟩
  obtain ⟨c, ec, hc'⟩ := h2 pos cv hc
  exact ⟨c, ec, by rw [upd_ne (ne hc' fun z => z.2 _ _ rfl)]; exact hc'⟩
/-- nothing there, or a table -/
def Nn (H : Hp) (a : Addr) : Prop := ∀ o, H a = some o → ¬ NT o
theorem nn_of {H : Hp} {a : Addr} (h : H a = none) : Nn H a := fun o e => by rw [h] at e; cases e
theorem nn_ne {H : Hp} {a p : Addr} {o : HO} (h : H a = some o) (nt : NT o) (n : Nn H p) : a ≠ p := fun z => n o (z ▸ h) nt

structure TabA (H : Hp) : Prop where
  all : LamX.Tabs TabT.T H
theorem TabA.ext {H H' : Hp} (t : TabA H) (e : TabE H H') : TabA H' := ⟨fun p hp => e.tab p hp (t.all p hp)⟩
/-- what stands stays; F grows by new addresses alone -/
structure Ext (b : Option Addr) (F : Addr → Prop) (H : Hp) (F' : Addr → Prop) (H' : Hp) : Prop where
  mono : ∀ a, F a → F' a
  fresh : ∀ a, F' a → F a ∨ Nn H a
  keep0 : ∀ a o, H a = some o → b ≠ some a → NT o → H' a = some o
  wf : ∀ a, F' a → ∃ o, H' a = some o ∧ NT o
  bag : ∀ a, b = some a → ¬ F' a ∧ ∃ vs, H' a = some (.lst vs)
  tb : TabE H H'
theorem Ext.keep {b : Option Addr} {F F' : Addr → Prop} {H H' : Hp} (e : Ext b F H F' H') (a : Addr) (o : HO) (h : H a = some o) (n : b ≠ some a) (nt : NT o := by intro _ z; cases z) : H' a = some o := e.keep0 a o h n nt

/-- the state without the frame -/
structure Bg (b : Option Addr) (g : List Int) (F : Addr → Prop) (H : Hp) : Prop where
  wf : ∀ a, F a → ∃ o, H a = some o ∧ NT o
  bag : ∀ a, b = some a → H a = some (.lst (g.map V.int)) ∧ ¬ F a

/-- what a monotone step of the heap keeps -/
structure Mono (F : Addr → Prop) (H : Hp) (F' : Addr → Prop) (H' : Hp) : Prop where
  mono : ∀ a, F a → F' a
  fz : ∀ a u, F a → Rd H a u → Rd H' a u
  tup : ∀ a vs, Rd H a (.tup vs) → Rd H' a (.tup vs)
  fx : ∀ a o u, F a → H a = some (.frz o u) → H' a = some (.frz o u)

section
variable {K : PySem.W.Frag} {F F' F1 F2 : Addr → Prop} {H H' H1 H2 : Hp} {b : Option Addr} {g g' : List Int}

theorem LstAt.up {a : Addr} {vs : List V} (h : LstAt K F H a vs) (m : Mono F H F' H') : LstAt K F' H' a vs := by
  rcases h with ⟨f, h⟩ | h
  · exact .inl ⟨m.mono a f, m.fz a _ f h⟩
  · exact .inr h
theorem sqT_up {a : Addr} {vs : List V} (h : SqT K H a vs) (m : Mono F H F' H') : SqT K H' a vs := by
  rcases h with h | h
  · exact .inl (m.tup a vs h)
  · exact .inr h
mutual
theorem Rep.up (m : Mono F H F' H') : ∀ {v : V} {d : D}, Rep K F H v d → Rep K F' H' v d
  | _, _, .non => .non
  | _, _, .bl b => .bl b
  | _, _, .int i => .int i
  | _, _, .str x => .str x
  | _, _, .lst h r => .lst (h.up m) (RepAll.up m r)
  | _, _, .tup h r => .tup (sqT_up h m) (RepAll.up m r)
  | _, _, .dct f h r => .dct (m.mono _ f) (m.fx _ _ _ f h) (RepDo.up m r)
  | _, _, .exc f h e x => .exc (m.mono _ f) (m.fz _ _ f h) e x
  | _, _, .excf f h g k e x r => .excf (m.mono _ f) (m.fz _ _ f h) (m.mono _ g) (m.fz _ _ g k) e x (Rep.up m r)
theorem RepAll.up (m : Mono F H F' H') : ∀ {vs : List V} {ds : List D}, RepAll K F H vs ds → RepAll K F' H' vs ds
  | _, _, .nil => .nil
  | _, _, .cons r t => .cons (Rep.up m r) (RepAll.up m t)
theorem RepKv.up (m : Mono F H F' H') : ∀ {vs : List (Key × V)} {ds : List (D × D)}, RepKv K F H vs ds → RepKv K F' H' vs ds
  | _, _, .nil => .nil
  | _, _, .cons r t => .cons (Rep.up m r) (RepKv.up m t)
theorem RepEn.up (m : Mono F H F' H') : ∀ {vs : List En} {ds : List (D × D)}, RepEn K F H vs ds → RepEn K F' H' vs ds
  | _, _, .nil => .nil
  | _, _, .cons k q r t => .cons (Rep.up m k) q (Rep.up m r) (RepEn.up m t)
theorem RepDo.up (m : Mono F H F' H') : ∀ {a : Addr} {u : HO} {ds : List (D × D)}, RepDo K F H a u ds → RepDo K F' H' a u ds
  | _, _, _, .dk e r => .dk e (RepKv.up m r)
  | _, _, _, .en e r => .en e (RepEn.up m r)
end
/-- keys that are no tuples -/
def plainD : List (D × D) → Bool
  | (.tuple _, _) :: _ => false
  | (.none, _) :: _ => false
  | _ => true
theorem RepDo.plain {a : Addr} {u : HO} {ps : List (D × D)} (r : RepDo K F H a u ps) (h : plainD ps = true) : ∃ kvs, u = .dK kvs ∧ RepKv K F H kvs ps := by
  cases r with
  | dk e r => exact ⟨_, e, r⟩
  | en e r => cases r with | cons k q v t => cases h
theorem RepKv.plain {kvs : List (Key × V)} {ps : List (D × D)} (r : RepKv K F H kvs ps) : plainD ps = true := by
  cases r with
  | nil => rfl
  | @cons k _ _ _ _ _ _ => cases k <;> rfl
/-- an exception's datum -/
def excP : List (D × D) → Bool
  | (.none, _) :: _ => true
  | _ => false
/-- is it one -/
def excV : D → Bool
  | .dict ps => excP ps
  | _ => false
theorem RepDo.nexc {a : Addr} {u : HO} {ps : List (D × D)} (r : RepDo K F H a u ps) : excP ps = false := by
  cases r with
  | dk e r =>
    cases r with
    | nil => rfl
    | @cons k _ _ _ _ _ _ => cases k <;> rfl
  | en e r => cases r with | cons k q v t => rfl
theorem plain_nexc {ps : List (D × D)} (h : plainD ps = true) : excP ps = false := by
  match ps, h with
  | [], _ => rfl
  | (.none, _) :: _, h => cases h
  | (.bool _, _) :: _, _ => rfl
  | (.int _, _) :: _, _ => rfl
  | (.str _, _) :: _, _ => rfl
  | (.list _, _) :: _, _ => rfl
  | (.tuple _, _) :: _, h => cases h
  | (.dict _, _) :: _, _ => rfl
theorem RepDo.ents {a : Addr} {u : HO} {ps : List (D × D)} (r : RepDo K F H a u ps) (h : plainD ps = false) : ∃ x xs, u = entsO a (x :: xs) ∧ RepEn K F H (x :: xs) ps := by
  cases r with
  | dk e r => rw [r.plain] at h; cases h
  | en e r => exact ⟨_, _, e, r⟩

theorem Bg.notF (B : Bg b g F H) {a : Addr} (f : F a) : b ≠ some a := fun e => (B.bag a e).2 f
theorem Bg.neTup (B : Bg b g F H) {a : Addr} {vs : List V} (h : Rd H a (.tup vs)) : b ≠ some a := fun e => by
  have z := (B.bag a e).1
  rcases h with h | ⟨o, h⟩
  · rw [h] at z; cases z
  · rw [h] at z; cases z
theorem Ext.rd (e : Ext b F H F' H') {a : Addr} {u : HO} (n : b ≠ some a) (nt : NT u) (h : Rd H a u) : Rd H' a u := by
  rcases h with h | ⟨o, h⟩
  · exact .inl (e.keep a _ h n nt)
  · exact .inr ⟨o, e.keep a _ h n⟩
theorem Bg.fnt (B : Bg b g F H) {a : Addr} {o : HO} (f : F a) (h : H a = some o) : NT o := by
  obtain ⟨o', h', n⟩ := B.wf a f
  rw [h] at h'; cases h'; exact n
theorem Ext.up (e : Ext b F H F' H') (B : Bg b g F H) : Mono F H F' H' :=
  ⟨e.mono, fun a u f h => by
    rcases h with h | ⟨o, h⟩
    · exact .inl (e.keep a _ h (B.notF f) (B.fnt f h))
    · exact .inr ⟨o, e.keep a _ h (B.notF f)⟩, fun _ _ h => e.rd (B.neTup h) (fun _ z => nomatch z) h, fun a _ _ f h => e.keep a _ h (B.notF f)⟩
theorem Ext.refl (B : Bg b g F H) : Ext b F H F H :=
  ⟨fun _ f => f, fun _ f => .inl f, fun _ _ h _ _ => h, B.wf, fun a e => ⟨(B.bag a e).2, _, (B.bag a e).1⟩, TabE.refl⟩
theorem Ext.none_of (e : Ext b F H F' H') {a : Addr} (n : b ≠ some a) (h : Nn H' a) : Nn H a := fun o q nt => h o (e.keep a o q n nt) nt
theorem Ext.trans (e : Ext b F H F1 H1) (e' : Ext b F1 H1 F2 H2) : Ext b F H F2 H2 where
  mono := fun a f => e'.mono a (e.mono a f)
  fresh := fun a f => by
    have n : b ≠ some a := fun z => (e'.bag a z).1 f
    rcases e'.fresh a f with h | h
    · exact e.fresh a h
    · exact .inr (e.none_of n h)
  keep0 := fun a o h n nt => e'.keep a o (e.keep a o h n nt) n nt
  wf := e'.wf
  bag := e'.bag
  tb := e.tb.trans e'.tb
/-- a new object that is not among the frozen -/
theorem Ext.new {p : Addr} {o : HO} (B : Bg b g F H) (hp : H p = none) (nt : NT o := by intro _ z; cases z) : Ext b F H F (upd H p o) where
  mono := fun _ f => f
  fresh := fun _ f => .inl f
  keep0 := fun a o' h _ _ => by rw [upd_ne (ne_of_none h hp)]; exact h
  tb := TabE.upd (fun o' q => by rw [hp] at q; cases q) nt
  wf := fun a f => by
    obtain ⟨o', h⟩ := B.wf a f
    exact ⟨o', by rw [upd_ne (ne_of_none h.1 hp)]; exact h⟩
  bag := fun a e => by
    obtain ⟨h, n⟩ := B.bag a e
    exact ⟨n, _, by rw [upd_ne (ne_of_none h hp)]; exact h⟩
theorem Bg.new {p : Addr} {o : HO} (B : Bg b g F H) (hp : H p = none) (nt : NT o := by intro _ z; cases z) : Bg b g F (upd H p o) where
  wf := (Ext.new B hp nt).wf
  bag := fun a e => by
    obtain ⟨h, n⟩ := B.bag a e
    exact ⟨by rw [upd_ne (ne_of_none h hp)]; exact h, n⟩
/-- .. that is frozen at once -/
def addF (F : Addr → Prop) (p : Addr) : Addr → Prop := fun a => F a ∨ a = p
theorem Bg.neNew {p : Addr} (B : Bg b g F H) (hp : H p = none) : b ≠ some p := fun e => by
  have := (B.bag p e).1
  rw [hp] at this; cases this
theorem Ext.newF {p : Addr} {o : HO} (B : Bg b g F H) (hp : H p = none) (nt : NT o := by intro _ z; cases z) : Ext b F H (addF F p) (upd H p o) where
  mono := fun _ f => .inl f
  fresh := fun a f => by
    rcases f with f | rfl
    · exact .inl f
    · exact .inr (nn_of hp)
  keep0 := fun a o' h _ _ => by rw [upd_ne (ne_of_none h hp)]; exact h
  tb := TabE.upd (fun o' q => by rw [hp] at q; cases q) nt
  wf := fun a f => by
    rcases f with f | rfl
    · obtain ⟨o', h⟩ := B.wf a f
      exact ⟨o', by rw [upd_ne (ne_of_none h.1 hp)]; exact h⟩
    · exact ⟨o, upd_same, nt⟩
  bag := fun a e => by
    obtain ⟨h, n⟩ := B.bag a e
    refine ⟨?_, _, by rw [upd_ne (ne_of_none h hp)]; exact h⟩
    rintro (f | rfl)
    · exact n f
    · exact B.neNew hp e
theorem Bg.newF {p : Addr} {o : HO} (B : Bg b g F H) (hp : H p = none) (nt : NT o := by intro _ z; cases z) : Bg b g (addF F p) (upd H p o) where
  wf := (Ext.newF (o := o) B hp nt).wf
  bag := fun a e => by
    obtain ⟨h, n⟩ := B.bag a e
    exact ⟨by rw [upd_ne (ne_of_none h hp)]; exact h, ((Ext.newF (o := o) B hp nt).bag a e).1⟩
theorem Ext.same (e : Ext b F H F' H') (B : Bg b g F H) {a : Addr} {o : HO} (f : F a) (h : H a = some o) : H' a = some o := e.keep a o h (B.notF f) (B.fnt f h)

/-! ### the frame -/
end

inductive Slot where
  | val (d : D)
  | own (ds : List D)
  | ownd (ps : List (D × D))
  | bag

abbrev Env := List (Option Slot)

def RelSlot (K : PySem.W.Frag) (b : Option Addr) (F : Addr → Prop) (H : Hp) (oa : Option Addr) (x : Option (Option V)) : Slot → Prop
  | .val d => ∃ v, x = some (some v) ∧ Rep K F H v d
  | .own ds => ∃ a vs, oa = some a ∧ x = some (some (.ref a)) ∧ ¬ F a ∧ H a = some (.lst vs) ∧ RepAll K F H vs ds
  | .ownd ps => ∃ a u, oa = some a ∧ x = some (some (.ref a)) ∧ ¬ F a ∧ H a = some u ∧ RepDo K F H a u ps
  | .bag => ∃ a, b = some a ∧ x = some (some (.ref a))


structure StR (K : PySem.W.Frag) (b : Option Addr) (F : Addr → Prop) (H : Hp) (ow : Nat → Option Addr) (σ : L2.St) (ρ : Env) (g : List Int) : Prop extends Bg b g F H where
  len : σ.length = ρ.length
  slot : ∀ i s, ρ[i]? = some (some s) → RelSlot K b F H (ow i) σ[i]? s
  inj : ∀ i j a, ow i = some a → ow j = some a → i = j
  nb : ∀ i a, ow i = some a → b ≠ some a
  oat : ∀ i a, ow i = some a → ∃ o, H a = some o ∧ NT o
  tabs : TabA H

section
variable {K : PySem.W.Frag} {F F' F1 F2 : Addr → Prop} {H H' H1 H2 : Hp} {b : Option Addr} {g g' : List Int} {ow : Nat → Option Addr} {σ : L2.St} {ρ : Env}

theorem RelSlot.up {oa : Option Addr} {x : Option (Option V)} {s : Slot} (h : RelSlot K b F H oa x s) (e : Ext b F H F' H') (B : Bg b g F H) (nb : ∀ a, oa = some a → b ≠ some a) : RelSlot K b F' H' oa x s := by
  have m := e.up B
  cases s with
  | val d => obtain ⟨v, e1, r⟩ := h; exact ⟨v, e1, r.up m⟩
  | own ds =>
    obtain ⟨a, vs, e0, e1, nf, h1, r⟩ := h
    refine ⟨a, vs, e0, e1, fun f => ?_, e.keep a _ h1 (nb a e0), r.up m⟩
    rcases e.fresh a f with z | z
    · exact nf z
    · exact z _ h1 nt_lst
  | ownd ps =>
    obtain ⟨a, vs, e0, e1, nf, h1, r⟩ := h
    refine ⟨a, vs, e0, e1, fun f => ?_, e.keep a _ h1 (nb a e0) r.nt, r.up m⟩
    rcases e.fresh a f with z | z
    · exact nf z
    · exact z _ h1 r.nt
  | bag => exact h
theorem StR.up (S : StR K b F H ow σ ρ g) (e : Ext b F H F' H') (B : Bg b g' F' H') : StR K b F' H' ow σ ρ g' where
  toBg := B
  len := S.len
  slot := fun i s hi => (S.slot i s hi).up e S.toBg fun a ha => S.nb i a ha
  inj := S.inj
  nb := S.nb
  oat := fun i a h => by
    obtain ⟨o, q, n⟩ := S.oat i a h
    exact ⟨o, e.keep a o q (S.nb i a h) n, n⟩
  tabs := S.tabs.ext e.tb
theorem StR.get (S : StR K b F H ow σ ρ g) {i : Nat} {d : D} (h : ρ[i]? = some (some (.val d))) : ∃ v, σ[i]? = some (some v) ∧ Rep K F H v d := S.slot i _ h
/-- a value stored -/
theorem StR.set (S : StR K b F H ow σ ρ g) (i : Nat) {v : V} {d : D} (r : Rep K F H v d) : StR K b F H (fun j => if j = i then none else ow j) (σ.set i (some v)) (ρ.set i (some (.val d))) g where
  toBg := S.toBg
  len := by simp [S.len]
  slot := fun j s hj => by
    by_cases e : j = i
    · subst e
      have hlt : j < ρ.length := by
        rcases Nat.lt_or_ge j ρ.length with h | h
        · exact h
        · rw [List.getElem?_eq_none_iff.mpr (by simpa using h)] at hj; cases hj
      rw [List.getElem?_set_self hlt] at hj
      cases hj
      rw [List.getElem?_set_self (by rw [S.len]; exact hlt)]
      exact ⟨v, rfl, r⟩
    · rw [List.getElem?_set_ne (Ne.symm e)] at hj
      rw [List.getElem?_set_ne (Ne.symm e), if_neg e]
      exact S.slot j s hj
  inj := fun i' j' a h1 h2 => by
    by_cases e1 : i' = i
    · simp [e1] at h1
    · by_cases e2 : j' = i
      · simp [e2] at h2
      · simp [e1] at h1; simp [e2] at h2; exact S.inj _ _ _ h1 h2
  nb := fun j a h => by
    by_cases e1 : j = i
    · simp [e1] at h
    · simp [e1] at h; exact S.nb j a h
  oat := fun j a h => by
    by_cases e1 : j = i
    · simp [e1] at h
    · simp [e1] at h; exact S.oat j a h
  tabs := S.tabs
/-- names forgotten -/
def wipeE (ρ : Env) : List Nat → Env
  | [] => ρ
  | v :: vs => (wipeE ρ vs).set v none
theorem StR.forget (S : StR K b F H ow σ ρ g) (i : Nat) (x : Option V) : StR K b F H ow (σ.set i x) (ρ.set i none) g where
  toBg := S.toBg
  len := by simp [S.len]
  slot := fun j s hj => by
    by_cases e : j = i
    · subst e
      rw [List.getElem?_set] at hj
      simp at hj
    · rw [List.getElem?_set_ne (Ne.symm e)] at hj
      rw [List.getElem?_set_ne (Ne.symm e)]
      exact S.slot j s hj
  inj := S.inj
  nb := S.nb
  oat := S.oat
  tabs := S.tabs
theorem StR.wipe (S : StR K b F H ow σ ρ g) : ∀ vs : List Nat, StR K b F H ow (wipe σ vs) (wipeE ρ vs) g
  | [] => S
  | v :: vs => (StR.wipe S vs).forget v none
end

/-! ### outcomes, over the heap -/
def ExcAt (K : PySem.W.Frag) (ci : ClsInfo) (p : D) (dx : Option Addr) (F : Addr → Prop) (H : Hp) : Prop :=
  match ci.field with
  | none => dx = none
  | some f => ∃ d v, dx = some d ∧ H d = some (.xd [(f, v)]) ∧ Rep K F H v p

/-- the wish about exceptions at a place -/
abbrev WK := Value → Option Addr → Hp → Prop

def Out {α : Type} (K : PySem.W.Frag) (ct : Nat → ClsInfo) (b : Option Addr) (F : Addr → Prop) (H : Hp) (W : WK) (P : α → List Int → (Addr → Prop) → Hp → Prop) : Res α → Prop
  | .ok x g' => ∀ F' H', Ext b F H F' H' → Bg b g' F' H' → P x g' F' H'
  | .exc c p g' => ∀ F' H' dx, Ext b F H F' H' → Bg b g' F' H' → ExcAt K (ct c) p dx F' H' → W (.ref (ct c).addr) dx H'
  | .fail => False

section
variable {α β : Type} {K : PySem.W.Frag} {ct : Nat → ClsInfo} {F F' F1 F2 : Addr → Prop} {H H' H1 H2 : Hp} {b : Option Addr} {g g' : List Int} {W : WK}
theorem Out.imp {P P' : α → List Int → (Addr → Prop) → Hp → Prop} {r : Res α} (h : Out K ct b F H W P r)
    (f : ∀ x g' F' H', Ext b F H F' H' → Bg b g' F' H' → P x g' F' H' → P' x g' F' H') : Out K ct b F H W P' r := by
  cases r with
  | ok x g' => exact fun F' H' e B => f x g' F' H' e B (h F' H' e B)
  | exc c p g' => exact h
  | fail => exact h
theorem Out.shift {P : α → List Int → (Addr → Prop) → Hp → Prop} {r : Res α} (h : Out K ct b F H W P r) (e : Ext b F H F1 H1) : Out K ct b F1 H1 W P r := by
  cases r with
  | ok x g' => exact fun F' H' e' B => h F' H' (e.trans e') B
  | exc c p g' => exact fun F' H' dx e' B => h F' H' dx (e.trans e') B
  | fail => exact h
/-- a bind: the first part's outcome, then the rest from where it stands -/
theorem Out.bind {P : β → List Int → (Addr → Prop) → Hp → Prop} {r : Res α} {k : α → M β} (h : Out K ct b F H W P (r.bind k)) :
    Out K ct b F H W (fun x g' F' H' => Out K ct b F' H' W P (k x g')) r := by
  cases r with
  | ok x g' => exact fun F' H' e B => Out.shift (r := k x g') h e
  | exc c p g' => exact h
  | fail => exact h
theorem Out.ok {P : α → List Int → (Addr → Prop) → Hp → Prop} {x : α} (h : Out K ct b F H W P (.ok x g)) (B : Bg b g F H) : P x g F H := h F H (Ext.refl B) B
theorem Out.okE {P : α → List Int → (Addr → Prop) → Hp → Prop} {x : α} (h : Out K ct b F H W P (.ok x g)) (e : Ext b F H F1 H1) (B : Bg b g F1 H1) : P x g F1 H1 := h F1 H1 e B
end
end PF

set_option Elab.async false
set_option linter.all false
set_option maxRecDepth 100000
set_option maxHeartbeats 2000000
/-! PF2: judgements over plain data. -/
namespace PF
open PySem PySem.Spec PyProof.Rows L2
variable [TabT]

theorem Out.bind0 {α β : Type} {K : PySem.W.Frag} {ct : Nat → ClsInfo} {F : Addr → Prop} {H : Hp} {b : Option Addr} {W : WK} {P : β → List Int → (Addr → Prop) → Hp → Prop} {r : Res α} {k : α → M β} (h : Out K ct b F H W P (r.bind k)) :
    Out K ct b F H W (fun x g' F' H' => Out K ct b F H W P (k x g')) r := by
  cases r with
  | ok x g' => exact fun F' H' e B => h
  | exc c p g' => exact h
  | fail => exact h
theorem Out.wish {α : Type} {K : PySem.W.Frag} {ct : Nat → ClsInfo} {F : Addr → Prop} {H : Hp} {b : Option Addr} {W W' : WK} {P : α → List Int → (Addr → Prop) → Hp → Prop} {r : Res α} (h : Out K ct b F H W P r) (f : ∀ c d H, W c d H → W' c d H) : Out K ct b F H W' P r := by
  cases r with
  | ok x g' => exact h
  | exc c p g' => exact fun F' H' dx e B x => f _ _ _ (h F' H' dx e B x)
  | fail => exact h

/-! ### what may be looked at: data, or a list or dict that the frame owns -/
inductive RepO (K : PySem.W.Frag) (b : Option Addr) (F : Addr → Prop) (H : Hp) : V → D → Prop
  | rep {v : V} {d : D} (r : Rep K F H v d) : RepO K b F H v d
  | own {a : Addr} {vs : List V} {ds : List D} (n : b ≠ some a) (h : H a = some (.lst vs)) (r : RepAll K F H vs ds) : RepO K b F H (.ref a) (.list ds)
  | ownd {a : Addr} {u : HO} {ps : List (D × D)} (n : b ≠ some a) (h : H a = some u) (r : RepDo K F H a u ps) : RepO K b F H (.ref a) (.dict ps)

section
variable {K : PySem.W.Frag} {ct : Nat → ClsInfo} {F F' F1 F2 : Addr → Prop} {H H' H1 H2 : Hp} {b : Option Addr} {g g' : List Int} {ow : Nat → Option Addr} {σ : L2.St} {ρ : Env}
theorem RepO.up {v : V} {d : D} (r : RepO K b F H v d) (e : Ext b F H F' H') (B : Bg b g F H) : RepO K b F' H' v d := by
  cases r with
  | rep r => exact .rep (r.up (e.up B))
  | own n h r => exact .own n (e.keep _ _ h n) (r.up (e.up B))
  | ownd n h r => exact .ownd n (e.keep _ _ h n r.nt) (r.up (e.up B))
theorem RepO.list {v : V} {ds : List D} (r : RepO K b F H v (.list ds)) : ∃ a vs, v = .ref a ∧ SqL K H a vs ∧ RepAll K F H vs ds := by
  cases r with
  | rep r => cases r with | lst h r => exact ⟨_, _, rfl, h.seq, r⟩
  | own n h r => exact ⟨_, _, rfl, .of h, r⟩
theorem Rep.tuple {v : V} {ds : List D} (r : Rep K F H v (.tuple ds)) : ∃ a vs, v = .ref a ∧ SqT K H a vs ∧ RepAll K F H vs ds := by
  cases r with
  | tup h r => exact ⟨_, _, rfl, h, r⟩
theorem RepO.tuple {v : V} {ds : List D} (r : RepO K b F H v (.tuple ds)) : ∃ a vs, v = .ref a ∧ SqT K H a vs ∧ RepAll K F H vs ds := by
  cases r with
  | rep r => exact r.tuple
theorem RepO.dict {v : V} {ps : List (D × D)} (r : RepO K b F H v (.dict ps)) (n : excP ps = false) : ∃ a u, v = .ref a ∧ Rd H a u ∧ RepDo K F H a u ps := by
  cases r with
  | rep r =>
    cases r with
    | dct f h r => exact ⟨_, _, rfl, .inr ⟨_, h⟩, r⟩
    | exc _ _ _ _ => cases n
    | excf _ _ _ _ _ _ _ => cases n
  | ownd n h r => exact ⟨_, _, rfl, .inl h, r⟩
theorem RepEn.keysOk : ∀ {xs : List En} {ps : List (D × D)}, RepEn K F H xs ps → KeysOk K H xs
  | _, _, .nil => fun x m => nomatch m
  | _, _, .cons (ns := ns) k q r t => fun x m => by
    rcases List.mem_cons.mp m with rfl | m
    · obtain ⟨a, vs, e, h, r2⟩ := k.tuple
      cases e
      have : vs = ns.map V.int := by
        have gen : ∀ {vs : List V} {ns : List Int}, RepAll K F H vs (ns.map .int) → vs = ns.map V.int := by
          intro vs ns
          induction ns generalizing vs with
          | nil => intro h; cases h; rfl
          | cons n ns ih =>
            intro h
            cases h with
            | cons h t =>
              cases h
              rw [ih t]
              rfl
        exact gen r2
      subst this
      exact ⟨ns, rfl, h⟩
    · exact RepEn.keysOk t x m
theorem RepO.int {v : V} {i : Int} (r : RepO K b F H v (.int i)) : v = .int i := by cases r with | rep r => cases r; rfl
theorem RepO.bl {v : V} {i : Bool} (r : RepO K b F H v (.bool i)) : v = .bl i := by cases r with | rep r => cases r; rfl
theorem RepO.str {v : V} {i : Str} (r : RepO K b F H v (.str i)) : v = .str i := by cases r with | rep r => cases r; rfl
theorem RepO.non {v : V} (r : RepO K b F H v .none) : v = .non := by cases r with | rep r => cases r; rfl
theorem RepAll.length : ∀ {vs : List V} {ds : List D}, RepAll K F H vs ds → vs.length = ds.length
  | _, _, .nil => rfl
  | _, _, .cons _ t => by rw [List.length_cons, List.length_cons, RepAll.length t]
theorem RepAll.get : ∀ {vs : List V} {ds : List D} {i : Nat} {d : D}, RepAll K F H vs ds → ds[i]? = some d → ∃ v, vs[i]? = some v ∧ Rep K F H v d
  | _, _, _, _, .nil, e => by simp at e
  | _, _, 0, _, .cons r _, e => by simp at e; subst e; exact ⟨_, rfl, r⟩
  | _, _, i + 1, d, .cons _ t, e => by
    obtain ⟨v, h1, h2⟩ := RepAll.get (i := i) (d := d) t (by simpa using e)
    exact ⟨v, by simpa using h1, h2⟩
theorem RepAll.get' : ∀ {vs : List V} {ds : List D} {i : Nat} {v : V}, RepAll K F H vs ds → vs[i]? = some v → ∃ d, ds[i]? = some d ∧ Rep K F H v d
  | _, _, _, _, .nil, e => by simp at e
  | _, _, 0, _, .cons r _, e => by simp at e; subst e; exact ⟨_, rfl, r⟩
  | _, _, i + 1, d, .cons _ t, e => by
    obtain ⟨v, h1, h2⟩ := RepAll.get' (i := i) (v := d) t (by simpa using e)
    exact ⟨v, by simpa using h1, h2⟩
theorem RepAll.append : ∀ {vs us : List V} {ds es : List D}, RepAll K F H vs ds → RepAll K F H us es → RepAll K F H (vs ++ us) (ds ++ es)
  | _, _, _, _, .nil, s => s
  | _, _, _, _, .cons r t, s => .cons r (RepAll.append t s)
theorem RepAll.take : ∀ {vs : List V} {ds : List D} (n : Nat), RepAll K F H vs ds → RepAll K F H (vs.take n) (ds.take n)
  | _, _, 0, _ => .nil
  | _, _, _ + 1, .nil => .nil
  | _, _, n + 1, .cons r t => .cons r (RepAll.take n t)
theorem RepAll.drop : ∀ {vs : List V} {ds : List D} (n : Nat), RepAll K F H vs ds → RepAll K F H (vs.drop n) (ds.drop n)
  | _, _, 0, r => r
  | _, _, _ + 1, .nil => .nil
  | _, _, n + 1, .cons _ t => RepAll.drop n t
theorem RepAll.set : ∀ {vs : List V} {ds : List D} (n : Nat) {v : V} {d : D}, RepAll K F H vs ds → Rep K F H v d → RepAll K F H (vs.set n v) (ds.set n d)
  | _, _, _, _, _, .nil, _ => .nil
  | _, _, 0, _, _, .cons _ t, q => .cons q t
  | _, _, n + 1, _, _, .cons r t, q => .cons r (RepAll.set n t q)
theorem RepAll.ints : ∀ {vs : List V} {ns : List Int}, RepAll K F H vs (ns.map .int) → vs = ns.map V.int
  | _, [], .nil => rfl
  | _, n :: r, .cons h t => by
    cases h
    rw [RepAll.ints t]
    rfl
theorem RepAll.ofInts : ∀ ns : List Int, RepAll K F H (ns.map V.int) (ns.map .int)
  | [] => .nil
  | n :: r => .cons (.int n) (RepAll.ofInts r)
/-- as the library's deep == reads it -/
inductive NoDict : D → Prop
  | mk {d : D} (h : d.hasDict = false) : NoDict d
mutual
theorem Rep.dp : ∀ {v : V} {d : D}, Rep K F H v d → d.hasDict = false → Dp K H v d
  | _, _, .non, _ => .non
  | _, _, .bl b, _ => .bl b
  | _, _, .int i, _ => .int i
  | _, _, .str x, _ => .str x
  | _, _, .lst h r, n => .lst h.seq (RepAll.dp r (by simpa [PyData.hasDict] using n))
  | _, _, .tup h r, n => .tup h (RepAll.dp r (by simpa [PyData.hasDict] using n))
  | _, _, .dct _ _ _, n => by simp [PyData.hasDict] at n
  | _, _, .exc _ _ _ _, n => by simp [PyData.hasDict] at n
  | _, _, .excf _ _ _ _ _ _ _, n => by simp [PyData.hasDict] at n
theorem RepAll.dp : ∀ {vs : List V} {ds : List D}, RepAll K F H vs ds → PyData.hasDictAll ds = false → DpAll K H vs ds
  | _, _, .nil, _ => .nil
  | _, _, .cons r t, n => by
    simp only [PyData.hasDictAll, Bool.or_eq_false_iff] at n
    exact .cons (Rep.dp r n.1) (RepAll.dp t n.2)
end
theorem RepO.dp {v : V} {d : D} (r : RepO K b F H v d) (n : d.hasDict = false) : Dp K H v d := by
  cases r with
  | rep r => exact r.dp n
  | own _ h r => exact .lst (.of h) (r.dp (by simpa [PyData.hasDict] using n))
  | ownd _ _ _ => simp [PyData.hasDict] at n
end

/-! ### the readings -/
def PV (K : PySem.W.Frag) (Q : VK) : D → List Int → (Addr → Prop) → Hp → Prop := fun x _ F' H' => ∀ v, Rep K F' H' v x → Q v H'
def PVO (K : PySem.W.Frag) (b : Option Addr) (Q : VK) : D → List Int → (Addr → Prop) → Hp → Prop := fun x _ F' H' => ∀ v, RepO K b F' H' v x → Q v H'
def PVA (K : PySem.W.Frag) (Q : List V → Hp → Prop) : List D → List Int → (Addr → Prop) → Hp → Prop := fun x _ F' H' => ∀ vs, RepAll K F' H' vs x → Q vs H'
def PVB (Q : Bool → Hp → Prop) : Bool → List Int → (Addr → Prop) → Hp → Prop := fun x _ _ H' => Q x H'

def rdE (K : PySem.W.Frag) (ct : Nat → ClsInfo) (W : WX) (d : Env → M D) : TE := fun σ H Q =>
  ∃ b F ow ρ g, StR K b F H ow σ ρ g ∧ Out K ct b F H (fun c dx H' => W c dx σ H') (PV K Q) (d ρ g)
def rdO (K : PySem.W.Frag) (ct : Nat → ClsInfo) (W : WX) (d : Env → M D) : TE := fun σ H Q =>
  ∃ b F ow ρ g, StR K b F H ow σ ρ g ∧ Out K ct b F H (fun c dx H' => W c dx σ H') (PVO K b Q) (d ρ g)
def rdA (K : PySem.W.Frag) (ct : Nat → ClsInfo) (W : WX) (d : Env → M (List D)) : TA := fun σ H Q =>
  ∃ b F ow ρ g, StR K b F H ow σ ρ g ∧ Out K ct b F H (fun c dx H' => W c dx σ H') (PVA K Q) (d ρ g)
def rdT (K : PySem.W.Frag) (ct : Nat → ClsInfo) (W : WX) (d : Env → M Bool) : TT := fun σ H Q =>
  ∃ b F ow ρ g, StR K b F H ow σ ρ g ∧ Out K ct b F H (fun c dx H' => W c dx σ H') (PVB Q) (d ρ g)

/-- the expression e means d -/
def SE (X : Cx) (ct : Nat → ClsInfo) (d : Env → M D) (e : Expr) : Prop := ∀ W : WX, Takes X W → PE X e (rdE X.K ct W d)
/-- .. its value is only looked at -/
def SO (X : Cx) (ct : Nat → ClsInfo) (d : Env → M D) (e : Expr) : Prop := ∀ W : WX, Takes X W → PE X e (rdO X.K ct W d)
def SA (X : Cx) (ct : Nat → ClsInfo) (d : Env → M (List D)) (es : List Expr) : Prop := ∀ W : WX, Takes X W → PA X es (rdA X.K ct W d)
def ST (X : Cx) (ct : Nat → ClsInfo) (d : Env → M Bool) (e : Expr) : Prop := ∀ W : WX, Takes X W → PT X e (rdT X.K ct W d)

theorem peW {X : Cx} {e : Expr} {t t' : TE} (h : PE X e t) (i : ∀ σ H Q, t' σ H Q → t σ H Q) : PE X e t' := ⟨fun pins s σ H Q I q => h.run pins s σ H Q I (i σ H Q q)⟩
theorem ptW {X : Cx} {e : Expr} {t t' : TT} (h : PT X e t) (i : ∀ σ H Q, t' σ H Q → t σ H Q) : PT X e t' := ⟨fun pins s σ H Q I q => h.run pins s σ H Q I (i σ H Q q)⟩
theorem paW {X : Cx} {es : List Expr} {t t' : TA} (h : PA X es t) (i : ∀ σ H Q, t' σ H Q → t σ H Q) : PA X es t' := ⟨fun pos pins s σ H Q I q => h.run pos pins s σ H Q I (i σ H Q q)⟩

section
variable {X : Cx} {ct : Nat → ClsInfo} {e a c : Expr} {es : List Expr} {d da dc : Env → M D} {W : WX}

theorem SE.so (h : SE X ct d e) : SO X ct d e := fun W tk => peW (h W tk) fun σ H Q ⟨b, F, ow, ρ, g, S, o⟩ =>
  ⟨b, F, ow, ρ, g, S, o.imp fun x g' F' H' _ _ p v r => p v (.rep r)⟩

/-! ### the plumbing: one part, then what follows -/
/-- one operand looked at, then k -/
theorem rd1 {K : PySem.W.Frag} {σ : L2.St} {H : Hp} {R : V → Hp → Prop} {α : Type} {P : α → List Int → (Addr → Prop) → Hp → Prop} {b : Option Addr} {F : Addr → Prop} {ow : Nat → Option Addr} {ρ : Env} {g : List Int} {k : D → M α}
    (S : StR K b F H ow σ ρ g) (o : Out K ct b F H (fun c dx H' => W c dx σ H') P ((da ρ g).bind k))
    (f : ∀ x g' F' H' v, Ext b F H F' H' → StR K b F' H' ow σ ρ g' → RepO K b F' H' v x → Out K ct b F' H' (fun c dx H' => W c dx σ H') P (k x g') → R v H') : rdO K ct W da σ H R :=
  ⟨b, F, ow, ρ, g, S, o.bind.imp fun x g' F' H' e B p v r => f x g' F' H' v e (S.up e B) r p⟩
theorem rd1e {K : PySem.W.Frag} {σ : L2.St} {H : Hp} {R : V → Hp → Prop} {α : Type} {P : α → List Int → (Addr → Prop) → Hp → Prop} {b : Option Addr} {F : Addr → Prop} {ow : Nat → Option Addr} {ρ : Env} {g : List Int} {k : D → M α}
    (S : StR K b F H ow σ ρ g) (o : Out K ct b F H (fun c dx H' => W c dx σ H') P ((da ρ g).bind k))
    (f : ∀ x g' F' H' v, Ext b F H F' H' → StR K b F' H' ow σ ρ g' → Rep K F' H' v x → Out K ct b F' H' (fun c dx H' => W c dx σ H') P (k x g') → R v H') : rdE K ct W da σ H R :=
  ⟨b, F, ow, ρ, g, S, o.bind.imp fun x g' F' H' e B p v r => f x g' F' H' v e (S.up e B) r p⟩
theorem rd1a {K : PySem.W.Frag} {σ : L2.St} {H : Hp} {R : List V → Hp → Prop} {α : Type} {P : α → List Int → (Addr → Prop) → Hp → Prop} {b : Option Addr} {F : Addr → Prop} {ow : Nat → Option Addr} {ρ : Env} {g : List Int} {da : Env → M (List D)} {k : List D → M α}
    (S : StR K b F H ow σ ρ g) (o : Out K ct b F H (fun c dx H' => W c dx σ H') P ((da ρ g).bind k))
    (f : ∀ x g' F' H' v, Ext b F H F' H' → StR K b F' H' ow σ ρ g' → RepAll K F' H' v x → Out K ct b F' H' (fun c dx H' => W c dx σ H') P (k x g') → R v H') : rdA K ct W da σ H R :=
  ⟨b, F, ow, ρ, g, S, o.bind.imp fun x g' F' H' e B p v r => f x g' F' H' v e (S.up e B) r p⟩
theorem rd1t {K : PySem.W.Frag} {σ : L2.St} {H : Hp} {R : Bool → Hp → Prop} {α : Type} {P : α → List Int → (Addr → Prop) → Hp → Prop} {b : Option Addr} {F : Addr → Prop} {ow : Nat → Option Addr} {ρ : Env} {g : List Int} {da : Env → M Bool} {k : Bool → M α}
    (S : StR K b F H ow σ ρ g) (o : Out K ct b F H (fun c dx H' => W c dx σ H') P ((da ρ g).bind k))
    (f : ∀ x g' F' H', Ext b F H F' H' → StR K b F' H' ow σ ρ g' → Out K ct b F' H' (fun c dx H' => W c dx σ H') P (k x g') → R x H') : rdT K ct W da σ H R :=
  ⟨b, F, ow, ρ, g, S, o.bind.imp fun x g' F' H' e B p => f x g' F' H' e (S.up e B) p⟩

/-- what a two-place operation does by data -/
def Op2 (X : Cx) (f : Value → Value → Sem Value) (op : D → D → Option D) : Prop :=
  ∃ r : R2, OpR X f r ∧ ∀ (b : Option Addr) (F : Addr → Prop) (H : Hp) (g : List Int) (v w : V) (x y z : D) (Q : VK), Bg b g F H → RepO X.K b F H v x → RepO X.K b F H w y → op x y = some z →
    (∀ F' H' u, Ext b F H F' H' → Bg b g F' H' → Rep X.K F' H' u z → Q u H') → r v w H Q
def lift2 (op : D → D → Option D) (da dc : Env → M D) : Env → M D := fun ρ g => (da ρ g).bind fun x g1 => (dc ρ g1).bind fun y g2 => match op x y with | some z => .ok z g2 | none => .fail
theorem so_read {op : D → D → Option D} {r : R2}
    (hr : ∀ (b : Option Addr) (F : Addr → Prop) (H : Hp) (g : List Int) (v w : V) (x y z : D) (Q : VK), Bg b g F H → RepO X.K b F H v x → RepO X.K b F H w y → op x y = some z →
      (∀ F' H' u, Ext b F H F' H' → Bg b g F' H' → Rep X.K F' H' u z → Q u H') → r v w H Q) {σ : L2.St} {H : Hp} {Q : VK}
    (h : rdE X.K ct W (lift2 op da dc) σ H Q) : tOp r (rdO X.K ct W da) (rdO X.K ct W dc) σ H Q := by
  obtain ⟨b, F, ow, ρ, g, S, o⟩ := h
  refine rd1 S o fun x g1 F1 H1 v e1 S1 r1 o1 => ?_
  refine rd1 S1 o1 fun y g2 F2 H2 w e2 S2 r2 o2 => ?_
  cases hop : op x y with
  | none => rw [hop] at o2; exact o2.elim
  | some z =>
    rw [hop] at o2
    exact hr b F2 H2 g2 v w x y z Q S2.toBg (r1.up e2 S1.toBg) r2 hop fun F' H' u e B r => o2 F' H' e B u r
theorem se_bin {op : Operator} {f : D → D → Option D} {pos : Pos} (ho : Op2 X (binaryOp op) f) (ha : SO X ct da a) (hc : SO X ct dc c) : SE X ct (lift2 f da dc) (.BinOp a op c pos) := fun W tk => by
  obtain ⟨r, hr, hf⟩ := ho
  exact peW (pe_op hr (ha W tk) (hc W tk)) fun σ H Q h => so_read hf h
theorem se_cmp {op : CmpOp} {f : D → D → Option D} {pos : Pos} (ho : Op2 X (compareOp op) f) (hm : behindInMarks op c = false) (ha : SO X ct da a) (hc : SO X ct dc c) : SE X ct (lift2 f da dc) (.Compare a [op] [c] pos) := fun W tk => by
  obtain ⟨r, hr, hf⟩ := ho
  exact peW (pe_cmpR hr (ha W tk) (hc W tk) hm) fun σ H Q h => so_read hf h
def asB (d : Env → M D) : Env → M Bool := fun ρ g => (d ρ g).bind fun x g1 => match x with | .bool k => .ok k g1 | _ => .fail
theorem read_b {σ : L2.St} {H : Hp} {Q : Bool → Hp → Prop} (h : rdT X.K ct W (asB d) σ H Q) : tTest (rdE X.K ct W d) σ H Q := by
  obtain ⟨b, F, ow, ρ, g, S, o⟩ := h
  refine rd1e S o fun x g1 F1 H1 v e1 S1 r1 o1 => ?_
  cases x with
  | bool k => cases r1; exact ⟨k, rfl, Out.ok o1 S1.toBg⟩
  | _ => exact o1.elim
theorem st_cmp {op : CmpOp} {f : D → D → Option D} {pos : Pos} (ho : Op2 X (compareOp op) f) (hm : behindInMarks op c = false) (ha : SO X ct da a) (hc : SO X ct dc c) : ST X ct (asB (lift2 f da dc)) (.Compare a [op] [c] pos) := fun W tk => by
  obtain ⟨r, hr, hf⟩ := ho
  refine ptW (pt_cmpR hr (ha W tk) (hc W tk) hm) fun σ H Q h => ?_
  have h2 := read_b h
  exact so_read hf h2
/-- a value as a test -/
theorem st_val (h : SE X ct d e) (he : ∀ whole, isTrue e X.env whole = (do let v ← whole; standAt e.pos; holding [v] (truthy v))) : ST X ct (asB d) e := fun W tk =>
  ptW (pt_val (h W tk) he) fun σ H Q q => read_b q
end
end PF

set_option Elab.async false
set_option linter.all false
set_option maxRecDepth 100000
set_option maxHeartbeats 2000000
/-! PF3: operators by data. -/
namespace PF
open PySem PySem.Spec PyProof.Rows L2
variable [TabT]
variable {X : Cx} {ct : Nat → ClsInfo}

/-! list + list, list * int, whatever the lists' own objects are -/
def rCatL (K : PySem.W.Frag) : R2 := fun x y H Q => ∃ l b xs zs, x = .ref l ∧ y = .ref b ∧ SqL K H l xs ∧ SqL K H b zs ∧ xs.length + zs.length ≤ sizeLine ∧ ∀ p, H p = none → Q (.ref p) (upd H p (.lst (xs ++ zs)))
theorem op_catL : OpR X (binaryOp .Add) (rCatL X.K) := by
  intro pins s σ H x y v u Q I rx ry h
  obtain ⟨l, b, xs, zs, rfl, rfl, hH, hB, hz, q⟩ := h
  cases rx
  cases ry
  obtain ⟨its, r, hl, hzl⟩ := I.list hH
  obtain ⟨its2, r2, hb, hzb⟩ := I.list hB
  obtain ⟨⟨cls, dd, data, sl⟩, n, ho, hc, hdd, hd⟩ := id hl
  obtain ⟨⟨cls2, dd2, data2, sl2⟩, n2, ho2, hc2, hdd2, hd2⟩ := id hb
  simp only at hc hd hc2 hd2
  subst hc hd hc2 hd2
  have e : its.toArray ++ its2.toArray = (its ++ its2).toArray := by simp
  have e1 := r.length
  have e2 := r2.length
  refine concat_meets ⟨_, ho, rfl⟩ ⟨_, ho2, rfl⟩ noFill_list_add seq_list_add PySem.F.slot_list_add PySem.F.entry_list_add (PySem.F.args_list_add_2 _ _) (list_addW l b its.toArray its2.toArray n n2 dd dd2 sl sl2 (by rw [List.size_toArray, List.size_toArray]; omega)) ⟨ho, ho2, ?_⟩
  rw [e]
  exact ⟨.ref _, _, I.lnew (t' := s.toks) (r.append r2) (by rw [List.length_append]; omega), rfl, q _ I.fresh⟩
open PySem.AutoSeq1 PySem.AutoListH in
theorem int_rmul_listG (a : Int) (t : Tok) (l : Addr) (items : Array Value) (n : Nat) (dd : Option Addr) (sl : Array (Option Value)) :
    Meets (Builtin.«int.__rmul__» ⟨[.int a t, .ref l], []⟩) (fun _ R s => s.heap.get? l = some { cls := .type "list", dict := dd, data := .seq items n, slots := sl } ∧ R (.ok (.ret Value.notImplemented)) s) :=
  .of_wp fun prog w A R s h => by obtain ⟨hp, g, d, tk, os⟩ := s; obtain ⟨hl, h⟩ := h; wp_walk using wpAny_loadPart' hl; exact ⟨_, rfl, h⟩
open PySem.AutoSeq1 PySem.AutoListH in
theorem list_mulG (l : Addr) (items : Array Value) (n : Nat) (dd : Option Addr) (sl : Array (Option Value)) (x : Int) (u : Tok) (hc0 : ¬(!Builtin.List.listFitsIndex x) = true) (hc1 : ¬items.size * x.toNat > (2 ^ 63 - 1) / 8) (hc2 : ¬Builtin.List.listTooLong (items.size * x.toNat) = true) :
    Meets (Builtin.«list.__mul__» ⟨[.ref l, .int x u], []⟩) (fun _ R s => s.heap.get? l = some { cls := .type "list", dict := dd, data := .seq items n, slots := sl } ∧ R (.ok (.ret (Value.ref s.heap.objs.size))) { s with heap := s.heap.push { cls := Value.type "list", data := Data.seq (List.foldl (fun x1 x2 => x1 ++ x2) #[] (List.replicate (if items.isEmpty = true then 0 else x.toNat) items)) }, toks := s.toks }) :=
  .of_wp fun prog w A R s h => by
    obtain ⟨hp, g, d, tk, os⟩ := s; obtain ⟨hl, h⟩ := h
    have hsz := joined_fits hc2
    wp_walk using wpAny_loadPart' hl; refine wpAny_ite_false (decide_eq_false (Nat.not_lt.mpr hsz)) ?_; wp_walk using wpAny_loadPart' hl; exact ⟨_, rfl, h⟩
def rRepL (K : PySem.W.Frag) : R2 := fun x y H Q => ∃ l k xs, x = .ref l ∧ y = .int k ∧ SqL K H l xs ∧ -(2 ^ 63) ≤ k ∧ k < 2 ^ 63 ∧ xs.length * k.toNat ≤ sizeLine ∧
  ∀ p, H p = none → Q (.ref p) (upd H p (.lst (List.replicate k.toNat xs).flatten))
theorem op_repL : OpR X (binaryOp .Mult) (rRepL X.K) := by
  intro pins s σ H x y v u Q I rx ry h
  obtain ⟨l, k, xs, rfl, rfl, hH, h1, h2, hz, q⟩ := h
  cases rx
  obtain ⟨t, rfl⟩ := ry
  obtain ⟨its, r, hp, hzl⟩ := I.list hH
  obtain ⟨⟨cls, dd, data, sl⟩, n, e, hc, hdd, hd⟩ := id hp
  simp only at hc hd
  subst hc hd
  have hl := r.length
  have hlen : its.toArray.size * k.toNat ≤ sizeLine := by rw [List.size_toArray, ← hl]; exact hz
  have hcap : ¬ its.toArray.size * k.toNat > (2 ^ 63 - 1) / 8 := by
    have : (sizeLine : Nat) ≤ (2 ^ 63 - 1) / 8 := by decide
    omega
  have hfit : ¬ (!Builtin.List.listFitsIndex k) = true := by
    rw [fitsIndex_both h1 h2]
    exact Bool.false_ne_true
  have hlong : ¬ Builtin.List.listTooLong (its.toArray.size * k.toNat) = true := by
    rw [notLongL hlen]
    exact Bool.false_ne_true
  have hnew : List.foldl (fun x1 x2 => x1 ++ x2) #[] (List.replicate (if its.toArray.isEmpty = true then 0 else k.toNat) its.toArray) = (List.replicate k.toNat its).flatten.toArray := by
    rw [size_rep]
    cases its with
    | nil => simp
    | cons a r' => rw [if_neg (by simp)]
  refine wpAny_binaryOp_repeat_ref (T := "list") (U := "int") (by decide) ⟨_, e, rfl⟩ (fun s' => typeIs_int s' k t) noFill_list_mul F.fills_int_mul F.slot_int_rmul repeat_list F.slot_int_index.lookup
    (call_meets F.slot_int_rmul (typeIs_int s k t) F.entry_int_rmul (F.args_int_rmul_2 _ _) (int_rmul_listG k t l its.toArray n dd sl)
      ⟨e, rfl, ⟨_, e, rfl⟩, call_meets F.slot_list_mul ⟨_, e, rfl⟩ F.entry_list_mul (F.args_list_mul_2 _ _) (list_mulG l its.toArray n dd sl k t hfit hcap hlong) ⟨e, ?_⟩⟩)
  rw [hnew]
  exact ⟨.ref _, _, I.lnew (t' := s.toks) (r.rep k.toNat) (by rw [PyProof.Rows.lm_len_rep_flat, Nat.mul_comm]; exact hz), rfl, q _ I.fresh⟩

/-! ### data -/
theorem OpR.fls {f : Value → Value → Sem Value} : OpR X f (fun _ _ _ _ => False) := fun _ _ _ _ _ _ _ _ _ _ _ _ h => h.elim
theorem Op2.or {f : Value → Value → Sem Value} {p q : D → D → Option D} (hp : Op2 X f p) (hq : Op2 X f q) : Op2 X f (fun x y => match p x y with | some z => some z | none => q x y) := by
  obtain ⟨r, h1, h2⟩ := hp
  obtain ⟨r', h1', h2'⟩ := hq
  refine ⟨_, OpR.or h1 h1', fun b F H g v w x y z Q B rx ry e k => ?_⟩
  have e : (match p x y with | some z => some z | none => q x y) = some z := e
  cases hh : p x y with
  | some z' =>
    rw [hh] at e
    cases e
    exact .inl (h2 b F H g v w x y _ Q B rx ry hh k)
  | none =>
    rw [hh] at e
    exact .inr (h2' b F H g v w x y z Q B rx ry e k)
section
variable {b : Option Addr} {F : Addr → Prop} {H : Hp} {g : List Int} {Q : VK}
/-- the answer is a value without an object -/
theorem fin0 {z : D} {u : V} (B : Bg b g F H) (r : Rep X.K F H u z) (k : ∀ F' H' u, Ext b F H F' H' → Bg b g F' H' → Rep X.K F' H' u z → Q u H') : Q u H := k F H u (Ext.refl B) B r
/-- a new tuple, a new list -/
theorem rep_newT {vs : List V} {ds : List D} {p : Addr} (hp : H p = none) (r : RepAll X.K F H vs ds) (B : Bg b g F H) : Rep X.K F (upd H p (.tup vs)) (.ref p) (.tuple ds) :=
  .tup (.inl (.inl upd_same)) (r.up ((Ext.new B hp).up B))
theorem rep_newL {vs : List V} {ds : List D} {p : Addr} (hp : H p = none) (r : RepAll X.K F H vs ds) (B : Bg b g F H) : Rep X.K (addF F p) (upd H p (.lst vs)) (.ref p) (.list ds) :=
  .lst (.inl ⟨.inr rfl, .inl upd_same⟩) (r.up ((Ext.newF B hp).up B))
theorem finT {vs : List V} {ds : List D} {p : Addr} (B : Bg b g F H) (hp : H p = none) (r : RepAll X.K F H vs ds) (k : ∀ F' H' u, Ext b F H F' H' → Bg b g F' H' → Rep X.K F' H' u (.tuple ds) → Q u H') : Q (.ref p) (upd H p (.tup vs)) :=
  k F _ _ (Ext.new B hp) (B.new hp) (rep_newT hp r B)
theorem finL {vs : List V} {ds : List D} {p : Addr} (B : Bg b g F H) (hp : H p = none) (r : RepAll X.K F H vs ds) (k : ∀ F' H' u, Ext b F H F' H' → Bg b g F' H' → Rep X.K F' H' u (.list ds) → Q u H') : Q (.ref p) (upd H p (.lst vs)) :=
  k _ _ _ (Ext.newF B hp) (B.newF hp) (rep_newL hp r B)
end

/-- ints in, out of them a value, under a test -/
def opII (C : Int → Int → Bool) (f : Int → Int → D) : D → D → Option D
  | .int i, .int j => if C i j = true then some (f i j) else none
  | _, _ => none
theorem op2_ii {f : Value → Value → Sem Value} {C : Int → Int → Prop} {T : Int → Int → Bool} {gv : Int → Int → V} {gd : Int → Int → D} (h : OpR X f (rI C gv)) (hT : ∀ i j, T i j = true → C i j)
    (hg : ∀ i j (F : Addr → Prop) H, Rep X.K F H (gv i j) (gd i j)) : Op2 X f (opII T gd) := by
  refine ⟨_, h, fun b F H g v w x y z Q B rx ry e k => ?_⟩
  cases x <;> first | (cases e; done) | skip
  cases y <;> first | (cases e; done) | skip
  rename_i i j
  simp only [opII] at e
  split at e
  · rename_i hc
    cases e
    exact ⟨i, j, rx.int, ry.int, hT i j hc, fin0 B (hg i j F H) k⟩
  · cases e
theorem op2_ii0 {f : Value → Value → Sem Value} {gv : Int → Int → V} {gd : Int → Int → D} (h : OpR X f (rI0 gv))
    (hg : ∀ i j (F : Addr → Prop) H, Rep X.K F H (gv i j) (gd i j)) : Op2 X f (opII (fun _ _ => true) gd) := by
  refine ⟨_, h, fun b F H g v w x y z Q B rx ry e k => ?_⟩
  cases x <;> first | (cases e; done) | skip
  cases y <;> first | (cases e; done) | skip
  rename_i i j
  simp only [opII, if_true] at e
  cases e
  exact ⟨i, j, rx.int, ry.int, fin0 B (hg i j F H) k⟩

/-! ### + -/
def dAdd : D → D → Option D
  | .int i, .int j => some (.int (i + j))
  | .str x, .str y => if x.length + y.length ≤ sizeLine then some (.str (x ++ y)) else none
  | .tuple xs, .tuple ys => if xs.length + ys.length ≤ sizeLine then some (.tuple (xs ++ ys)) else none
  | .list xs, .list ys => if xs.length + ys.length ≤ sizeLine then some (.list (xs ++ ys)) else none
  | _, _ => none
theorem op2_add : Op2 X (binaryOp .Add) dAdd := by
  refine ⟨_, OpR.or (OpR.or op_add op_add_str) (OpR.or op_catA op_catL), fun b F H g v w x y z Q B rx ry e k => ?_⟩
  cases x <;> first | (cases e; done) | skip
  · cases y <;> first | (cases e; done) | skip
    cases e
    exact .inl (.inl ⟨_, _, rx.int, ry.int, fin0 B (.int _) k⟩)
  · cases y <;> first | (cases e; done) | skip
    simp only [dAdd] at e
    split at e
    · rename_i hz
      cases e
      exact .inl (.inr ⟨_, _, rx.str, ry.str, hz, fin0 B (.str _) k⟩)
    · cases e
  · cases y <;> first | (cases e; done) | skip
    simp only [dAdd] at e
    split at e
    · rename_i hz
      cases e
      obtain ⟨a, vs, rfl, h1, r1⟩ := rx.list
      obtain ⟨c, ws, rfl, h2, r2⟩ := ry.list
      exact .inr (.inr ⟨a, c, vs, ws, rfl, rfl, h1, h2, by rw [r1.length, r2.length]; exact hz, fun p hp => finL B hp (r1.append r2) k⟩)
    · cases e
  · cases y <;> first | (cases e; done) | skip
    simp only [dAdd] at e
    split at e
    · rename_i hz
      cases e
      obtain ⟨a, vs, rfl, h1, r1⟩ := rx.tuple
      obtain ⟨c, ws, rfl, h2, r2⟩ := ry.tuple
      refine .inr (.inl ⟨a, c, vs, ws, rfl, rfl, h1, h2, by rw [r1.length, r2.length]; exact hz, fun hn => ?_, fun _ hn => ?_, fun _ _ p hp => finT B hp (r1.append r2) k⟩)
      · subst hn
        cases r1
        exact fin0 B (.tup h2 r2) k
      · subst hn
        cases r2
        exact fin0 B (by rw [List.append_nil]; exact .tup h1 r1) k
    · cases e

/-! ### the other operators of ints -/
def dSub := opII (fun _ _ => true) (fun i j => .int (i - j))
theorem op2_sub : Op2 X (binaryOp .Sub) dSub := op2_ii0 op_sub fun _ _ _ _ => .int _
/-- // by a positive divisor -/
def okDiv (_ j : Int) : Bool := decide (0 < j) && decide (j.natAbs.log2 < 9000)
def dFdiv := opII okDiv (fun i j => .int (i / j))
theorem op2_fdiv : Op2 X (binaryOp .FloorDiv) dFdiv := op2_ii op_fdivW (fun i j h => by
  simp only [okDiv, Bool.and_eq_true, decide_eq_true_eq] at h
  exact h) fun _ _ _ _ => .int _
def okMod (_ j : Int) : Bool := decide (0 < j)
def dMod := opII okMod (fun i j => .int (i % j))
theorem op2_mod : Op2 X (binaryOp .Mod) dMod := op2_ii op_mod (fun i j h => by simpa [okMod] using h) fun _ _ _ _ => .int _
/-- a power -/
def okPow (i j : Int) : Bool := decide (0 ≤ j) && decide ((Builtin.Int.intBits i : Int) * j ≤ 2 ^ 27)
def dPow := opII okPow (fun i j => .int (i ^ j.toNat))
theorem op_powG : OpR X (binaryOp .Pow) (rI (fun i j => 0 ≤ j ∧ (Builtin.Int.intBits i : Int) * j ≤ 2 ^ 27) fun i j => .int (i ^ j.toNat)) :=
  opI fun i j t u s Q E h q => pow_int h.1 h.2 q
theorem op2_pow : Op2 X (binaryOp .Pow) dPow := op2_ii op_powG (fun i j h => by simpa [okPow] using h) fun _ _ _ _ => .int _

/-! ### * -/
def okMul (i j : Int) : Bool := (decide (-(2 ^ 64) < i) && decide (i < 2 ^ 64)) || (decide (-(2 ^ 64) < j) && decide (j < 2 ^ 64)) || decide (i.natAbs.log2 + j.natAbs.log2 < 1000000)
def dMulI := opII okMul (fun i j => .int (i * j))
theorem op_mulG : OpR X (binaryOp .Mult) (rI (fun i j => CMul i j ∨ CMulW i j) fun i j => .int (i * j)) :=
  opI fun i j t u s Q E h q => mul_int q (h.elim CMul.ok CMulW.ok)
theorem op2_mulI : Op2 X (binaryOp .Mult) dMulI := op2_ii op_mulG (fun i j h => by
  simp only [okMul, Bool.or_eq_true, Bool.and_eq_true, decide_eq_true_eq] at h
  rcases h with (h | h) | h
  · exact .inl (.inl h)
  · exact .inl (.inr h)
  · exact .inr h) fun _ _ _ _ => .int _
def repD (k : Nat) (xs : List D) : List D := (List.replicate k xs).flatten
def dMul : D → D → Option D
  | .int i, .int j => if okMul i j = true then some (.int (i * j)) else none
  | .list xs, .int k => if -(2 ^ 63) ≤ k ∧ k < 2 ^ 63 ∧ xs.length * k.toNat ≤ sizeLine then some (.list (repD k.toNat xs)) else none
  | .tuple xs, .int k => if xs ≠ [] ∧ 2 ≤ k ∧ k ≤ 1000 ∧ xs.length ≤ 1000 then some (.tuple (repD k.toNat xs)) else none
  | _, _ => none
theorem RepAll.rep {K : PySem.W.Frag} {F : Addr → Prop} {H : Hp} {vs : List V} {ds : List D} (r : RepAll K F H vs ds) : ∀ k : Nat, RepAll K F H (List.replicate k vs).flatten (repD k ds)
  | 0 => .nil
  | k + 1 => by
    unfold repD
    rw [List.replicate_succ, List.replicate_succ, List.flatten_cons, List.flatten_cons]
    exact r.append (RepAll.rep r k)
theorem op2_mul : Op2 X (binaryOp .Mult) dMul := by
  refine ⟨_, OpR.or op_mulG (OpR.or op_repL op_repT), fun b F H g v w x y z Q B rx ry e k => ?_⟩
  cases x <;> first | (cases e; done) | skip
  · cases y <;> first | (cases e; done) | skip
    rename_i i j
    have q := (op2_mulI (X := X))
    simp only [dMul] at e
    split at e
    · rename_i h
      cases e
      simp only [okMul, Bool.or_eq_true, Bool.and_eq_true, decide_eq_true_eq] at h
      refine .inl ⟨i, j, rx.int, ry.int, ?_, fin0 B (.int _) k⟩
      rcases h with (h | h) | h
      · exact .inl (.inl h)
      · exact .inl (.inr h)
      · exact .inr h
    · cases e
  · cases y <;> first | (cases e; done) | skip
    rename_i xs n
    simp only [dMul] at e
    split at e
    · rename_i hz
      cases e
      obtain ⟨a, vs, rfl, h1, r1⟩ := rx.list
      exact .inr (.inl ⟨a, n, vs, rfl, ry.int, h1, hz.1, hz.2.1, by rw [r1.length]; exact hz.2.2, fun p hp => finL B hp (r1.rep _) k⟩)
    · cases e
  · cases y <;> first | (cases e; done) | skip
    rename_i xs n
    simp only [dMul] at e
    split at e
    · rename_i hz
      cases e
      obtain ⟨a, vs, rfl, h1, r1⟩ := rx.tuple
      exact .inr (.inr ⟨a, n, vs, rfl, ry.int, h1, (fun h => hz.1 (by subst h; cases r1; rfl)), hz.2.1, hz.2.2.1, by rw [r1.length]; exact hz.2.2.2, fun p hp => finT B hp (r1.rep _) k⟩)
    · cases e

/-! ### comparisons -/
def intsD : List D → Option (List Int)
  | [] => some []
  | .int c :: r => (intsD r).map (c :: ·)
  | _ :: _ => none
theorem ints_eq : ∀ {ds : List D} {bs : List Int}, intsD ds = some bs → ds = bs.map .int
  | [], bs, h => by cases h; rfl
  | d :: r, bs, h => by
    cases d <;> first | (cases h; done) | skip
    rename_i c
    unfold intsD at h
    cases hr : intsD r with
    | none => rw [hr] at h; cases h
    | some q => rw [hr] at h; cases h; rw [ints_eq hr]; rfl
def dLt (x y : D) : Option D := match x, y with
  | .int i, .int j => some (.bool (decide (i < j)))
  | .tuple xs, .tuple ys => (match intsD xs, intsD ys with
    | some ns, some ms => some (.bool (HT.lexLt ns ms))
    | _, _ => none)
  | _, _ => none
def dLe := opII (fun _ _ => true) (fun i j => .bool (decide (i ≤ j)))
def dGt := opII (fun _ _ => true) (fun i j => .bool (decide (j < i)))
def dGe := opII (fun _ _ => true) (fun i j => .bool (decide (j ≤ i)))
theorem op_ltB (hu : X.A.units < cLine) : OpR X (compareOp .Lt) (fun x y H Q => rI0 (fun i j => .bl (decide (i < j))) x y H Q ∨ rLtT X.K x y H Q) := fun pins s σ H x y v u Q I rx ry h =>
  h.elim (fun h => op_lt pins s σ H x y v u Q I rx ry h) (fun h => op_ltT hu pins s σ H x y v u Q I rx ry h)
theorem op2_lt (hu : X.A.units < cLine) : Op2 X (compareOp .Lt) dLt := by
  refine ⟨_, op_ltB hu, fun b F H g v w x y z Q B rx ry e k => ?_⟩
  cases x <;> first | (cases e; done) | skip
  · cases y <;> first | (cases e; done) | skip
    rename_i i j
    cases e
    exact .inl ⟨i, j, rx.int, ry.int, fin0 B (.bl _) k⟩
  · cases y <;> first | (cases e; done) | skip
    rename_i xs ys
    simp only [dLt] at e
    split at e
    · rename_i ns ms h1 h2
      cases e
      obtain ⟨a, vs, rfl, q1, r1⟩ := rx.tuple
      obtain ⟨c, ws, rfl, q2, r2⟩ := ry.tuple
      rw [ints_eq h1] at r1
      rw [ints_eq h2] at r2
      exact .inr ⟨a, c, ns, ms, rfl, rfl, by rw [← r1.ints]; exact q1, by rw [← r2.ints]; exact q2, fin0 B (.bl _) k⟩
    · cases e
theorem op2_le : Op2 X (compareOp .LtE) dLe := op2_ii0 op_le fun _ _ _ _ => .bl _
theorem op2_gt : Op2 X (compareOp .Gt) dGt := op2_ii0 op_gt fun _ _ _ _ => .bl _
theorem op2_ge : Op2 X (compareOp .GtE) dGe := op2_ii0 op_ge fun _ _ _ _ => .bl _
/-- == of data -/
def dEq (x y : D) : Option D := if (SeqAt.shaped x && SeqAt.shaped y) = true then some (.bool (PyData.eqv x y)) else none
def dNe (x y : D) : Option D := if (SeqAt.shaped x && SeqAt.shaped y) = true then some (.bool (!PyData.eqv x y)) else none
theorem noDict_shaped {d : D} (h : SeqAt.shaped d = true) : d.hasDict = false := PyData.hasDict_of_canLay d (SeqAt.canLay_of_shaped h)
theorem op2_eq (hu : X.A.units + 64 < cLine) : Op2 X (compareOp .Eq) dEq := by
  refine ⟨_, op_eqD hu, fun b F H g v w x y z Q B rx ry e k => ?_⟩
  unfold dEq at e
  split at e
  · rename_i h
    cases e
    simp only [Bool.and_eq_true] at h
    exact ⟨x, y, rx.dp (noDict_shaped h.1), ry.dp (noDict_shaped h.2), h.1, h.2, fin0 B (.bl _) k⟩
  · cases e
theorem op2_ne (hu : X.A.units + 64 < cLine) : Op2 X (compareOp .NotEq) dNe := by
  refine ⟨_, op_neD hu, fun b F H g v w x y z Q B rx ry e k => ?_⟩
  unfold dNe at e
  split at e
  · rename_i h
    cases e
    simp only [Bool.and_eq_true] at h
    exact ⟨x, y, rx.dp (noDict_shaped h.1), ry.dp (noDict_shaped h.2), h.1, h.2, fin0 B (.bl _) k⟩
  · cases e
/-- is, is not of None and of bools -/
def dIs : D → D → Option D
  | .bool a, .bool c => some (.bool (decide (a = c)))
  | .none, .none => some (.bool true)
  | .none, _ => none
  | .bool _, .none => some (.bool false)
  | .int _, .none => some (.bool false)
  | .str _, .none => some (.bool false)
  | .list _, .none => some (.bool false)
  | .tuple _, .none => some (.bool false)
  | .dict _, .none => some (.bool false)
  | _, _ => none
def dNot1 : D → Option D
  | .bool a => some (.bool (!a))
  | _ => none
def dIsNot (x y : D) : Option D := (dIs x y).bind dNot1
theorem RepO.nonIff {b : Option Addr} {F : Addr → Prop} {H : Hp} {v : V} {d : D} (r : RepO X.K b F H v d) : decide (v = .non) = (match d with | .none => true | _ => false) := by
  cases r with
  | rep r => cases r <;> rfl
  | own _ _ _ => rfl
  | ownd _ _ _ => rfl
theorem op2_is : Op2 X (compareOp .Is) dIs := by
  refine ⟨_, OpR.or op_is_bl op_isN, fun b F H g v w x y z Q B rx ry e k => ?_⟩
  have nn : ∀ c, decide (v = .non) = c → w = .non → z = .bool c → (fun (x y : V) H Q => y = V.non ∧ Q (.bl (decide (x = .non))) H) v w H Q := fun c h1 h2 h3 => by
    subst h3
    exact ⟨h2, by rw [h1]; exact fin0 B (.bl _) k⟩
  cases x <;> cases y <;> first | (cases e; done) | skip
  all_goals first
    | (cases e; exact .inr (nn _ rx.nonIff ry.non rfl))
    | (cases e; exact .inl ⟨_, _, rx.bl, ry.bl, fin0 B (.bl _) k⟩)
theorem op2_isnot : Op2 X (compareOp .IsNot) dIsNot := by
  refine ⟨_, OpR.or op_isnot_bl op_notN, fun b F H g v w x y z Q B rx ry e k => ?_⟩
  have nn : ∀ c, decide (v = .non) = c → w = .non → z = .bool (!c) → (fun (x y : V) H Q => y = V.non ∧ Q (.bl (!decide (x = .non))) H) v w H Q := fun c h1 h2 h3 => by
    subst h3
    exact ⟨h2, by rw [h1]; exact fin0 B (.bl _) k⟩
  cases x <;> cases y <;> first | (cases e; done) | skip
  all_goals first
    | (cases e; exact .inr (nn _ rx.nonIff ry.non rfl))
    | (cases e; exact .inl ⟨_, _, rx.bl, ry.bl, fin0 B (.bl _) k⟩)

/-! ### in, not in, of flat items -/
def flatD : D → Bool
  | .none => true
  | .bool _ => true
  | .int _ => true
  | .str _ => true
  | _ => false
def inD (x : D) (ys : List D) : Bool := ys.any fun y => PyData.eqv y x
def dIn : D → D → Option D
  | x, .tuple ys => if (flatD x && ys.all flatD) = true then some (.bool (inD x ys)) else none
  | x, .list ys => if (flatD x && ys.all flatD) = true then some (.bool (inD x ys)) else none
  | _, _ => none
def dNotIn (x y : D) : Option D := (dIn x y).bind dNot1
section
variable {K : PySem.W.Frag} {b : Option Addr} {F : Addr → Prop} {H : Hp}
theorem Rep.flat {v : V} {d : D} (r : Rep K F H v d) (f : flatD d = true) : flatV v = true := by cases r <;> first | rfl | (cases f; done)
theorem RepO.flat {v : V} {d : D} (r : RepO K b F H v d) (f : flatD d = true) : flatV v = true ∧ Rep K F H v d := by
  cases r with
  | rep r => exact ⟨r.flat f, r⟩
  | own _ _ _ => cases f
  | ownd _ _ _ => cases f
theorem RepAll.flat : ∀ {vs : List V} {ds : List D}, RepAll K F H vs ds → ds.all flatD = true → vs.all flatV = true
  | _, _, .nil, _ => rfl
  | _, _, .cons r t, f => by
    simp only [List.all_cons, Bool.and_eq_true] at f ⊢
    exact ⟨r.flat f.1, RepAll.flat t f.2⟩
theorem eqV_eqv {v w : V} {x y : D} (rx : Rep K F H v x) (ry : Rep K F H w y) (fx : flatD x = true) (fy : flatD y = true) : eqV v w = PyData.eqv x y := by
  cases rx <;> cases ry <;> first | (cases fx; done) | (cases fy; done) | rfl | simp [eqV, PyData.eqv]
theorem inV_inD {v : V} {x : D} (rx : Rep K F H v x) (fx : flatD x = true) : ∀ {vs : List V} {ds : List D}, RepAll K F H vs ds → ds.all flatD = true → inV v vs = inD x ds
  | _, _, .nil, _ => rfl
  | _, _, .cons r t, f => by
    simp only [List.all_cons, Bool.and_eq_true] at f
    have ih := inV_inD rx fx t f.2
    unfold inV inD at ih ⊢
    rw [List.any_cons, List.any_cons, ih, eqV_eqv r rx f.1 fx]
end
theorem op2_inG {neg : Bool} {op : CmpOp} {f : D → D → Option D} (h : OpR X (compareOp op) (rIn X.K neg))
    (hf : ∀ x y z, f x y = some z → ∃ ys, (y = .tuple ys ∨ y = .list ys) ∧ flatD x = true ∧ ys.all flatD = true ∧ z = .bool (if neg then !inD x ys else inD x ys)) : Op2 X (compareOp op) f := by
  refine ⟨_, h, fun b F H g v w x y z Q B rx ry e k => ?_⟩
  obtain ⟨ys, ey, fx, fy, rfl⟩ := hf x y z e
  obtain ⟨fv, rv⟩ := rx.flat fx
  rcases ey with rfl | rfl
  · obtain ⟨a, vs, rfl, h1, r1⟩ := ry.tuple
    refine ⟨a, vs, rfl, .inr h1, fv, r1.flat fy, ?_⟩
    rw [inV_inD rv fx r1 fy]
    exact fin0 B (.bl _) k
  · obtain ⟨a, vs, rfl, h1, r1⟩ := ry.list
    refine ⟨a, vs, rfl, .inl h1, fv, r1.flat fy, ?_⟩
    rw [inV_inD rv fx r1 fy]
    exact fin0 B (.bl _) k
theorem dIn_inv (x y z : D) (e : dIn x y = some z) : ∃ ys, (y = .tuple ys ∨ y = .list ys) ∧ flatD x = true ∧ ys.all flatD = true ∧ z = .bool (inD x ys) := by
  cases y <;> first | (cases e; done) | skip
  all_goals
    simp only [dIn] at e
    split at e
    · rename_i h
      cases e
      simp only [Bool.and_eq_true] at h
      first
        | exact ⟨_, .inl rfl, h.1, h.2, rfl⟩
        | exact ⟨_, .inr rfl, h.1, h.2, rfl⟩
    · cases e
theorem op2_in : Op2 X (compareOp .In) dIn := op2_inG op_in_seq fun x y z e => dIn_inv x y z e
theorem op2_notin : Op2 X (compareOp .NotIn) dNotIn := op2_inG op_notIn_seq fun x y z e => by
  unfold dNotIn at e
  cases h : dIn x y with
  | none => rw [h] at e; cases e
  | some u =>
    obtain ⟨ys, e1, e2, e3, e4⟩ := dIn_inv x y u h
    rw [h, e4] at e
    cases e
    exact ⟨ys, e1, e2, e3, rfl⟩
end PF

set_option Elab.async false
set_option linter.all false
set_option maxRecDepth 100000
set_option maxHeartbeats 2000000
/-! PF4: expressions by data: names, constants, tests, displays, subscripts, slices, calls of built-ins. -/
namespace PF
open PySem PySem.Spec PyProof.Rows L2
variable [TabT]
section
variable {X : Cx} {ct : Nat → ClsInfo} {e a c e3 : Expr} {es : List Expr} {d da dc d3 : Env → M D} {W : WX} {pos : Pos}

/-! ### names and constants -/
def dVar (i : Nat) : Env → M D := fun ρ g => match ρ[i]? with | some (some (.val d)) => .ok d g | _ => .fail
def dVarO (i : Nat) : Env → M D := fun ρ g => match ρ[i]? with | some (some (.val d)) => .ok d g | some (some (.own ds)) => .ok (.list ds) g | some (some (.ownd ps)) => .ok (.dict ps) g | _ => .fail
def dC (x : D) : Env → M D := fun _ g => .ok x g
theorem se_var {i : Nat} {x : Str} (hN : X.N[i]? = some x) (hv : Vis X.env.scope x) (hd : (x == ("__debug__" : Str)) = false) (hcd : (x == ("__classdict__" : Str)) = false) : SE X ct (dVar i) (.Name x pos) := fun W tk => by
  refine peW (pe_var hN hv hd hcd) fun σ H Q ⟨b, F, ow, ρ, g, S, o⟩ => ?_
  unfold dVar at o
  split at o
  · rename_i d hd'
    obtain ⟨v, e1, r⟩ := S.get hd'
    exact ⟨v, e1, Out.ok o S.toBg v r⟩
  · exact o.elim
theorem so_var {i : Nat} {x : Str} (hN : X.N[i]? = some x) (hv : Vis X.env.scope x) (hd : (x == ("__debug__" : Str)) = false) (hcd : (x == ("__classdict__" : Str)) = false) : SO X ct (dVarO i) (.Name x pos) := fun W tk => by
  refine peW (pe_var hN hv hd hcd) fun σ H Q ⟨b, F, ow, ρ, g, S, o⟩ => ?_
  unfold dVarO at o
  split at o
  · rename_i d hd'
    obtain ⟨v, e1, r⟩ := S.get hd'
    exact ⟨v, e1, Out.ok o S.toBg v (.rep r)⟩
  · rename_i ds hd'
    obtain ⟨p, vs, e0, e1, nf, h1, r⟩ := S.slot i _ hd'
    exact ⟨.ref p, e1, Out.ok o S.toBg _ (.own (S.nb i p e0) h1 r)⟩
  · rename_i ds hd'
    obtain ⟨p, vs, e0, e1, nf, h1, r⟩ := S.slot i _ hd'
    exact ⟨.ref p, e1, Out.ok o S.toBg _ (.ownd (S.nb i p e0) h1 r)⟩
  · exact o.elim
theorem se_const0 {x : D} {v : V} (h : PE X e (tC v)) (r : ∀ F H, Rep X.K F H v x) : SE X ct (dC x) e := fun W tk =>
  peW h fun σ H Q ⟨b, F, ow, ρ, g, S, o⟩ => Out.ok o S.toBg v (r F H)
theorem se_int {i : Int} {j : Nat} : SE X ct (dC (.int i)) (.Constant (.int i) j pos) := se_const0 pe_int fun _ _ => .int i
theorem se_bl {i : Bool} {j : Nat} : SE X ct (dC (.bool i)) (.Constant (.bool i) j pos) := se_const0 pe_bl fun _ _ => .bl i
theorem se_non {j : Nat} : SE X ct (dC .none) (.Constant .none j pos) := se_const0 pe_non fun _ _ => .non
theorem se_str {i : Str} {j : Nat} : SE X ct (dC (.str i)) (.Constant (.str i) j pos) := se_const0 pe_str fun _ _ => .str i
theorem se_glob {x : Str} {z : D} {v : V} {u : Value} (hg : Gl X x) (hm : X.mg x = some u) (r : RelV v u) (rz : ∀ F H, Rep X.K F H v z) (hd : (x == ("__debug__" : Str)) = false) : SE X ct (dC z) (.Name x pos) := se_const0 (pe_glob hg hm r hd) rz
/-- what has no meaning here -/
def dFail {α : Type} : Env → M α := fun _ _ => .fail
theorem se_fail : SE X ct dFail e := fun W tk => ⟨fun _ _ _ _ _ _ h => by obtain ⟨_, _, _, _, _, _, o⟩ := h; exact o.elim⟩
theorem so_fail : SO X ct dFail e := fun W tk => ⟨fun _ _ _ _ _ _ h => by obtain ⟨_, _, _, _, _, _, o⟩ := h; exact o.elim⟩
theorem sa_fail : SA X ct dFail es := fun W tk => ⟨fun _ _ _ _ _ _ _ h => by obtain ⟨_, _, _, _, _, _, o⟩ := h; exact o.elim⟩
theorem st_fail : ST X ct dFail e := fun W tk => ⟨fun _ _ _ _ _ _ h => by obtain ⟨_, _, _, _, _, _, o⟩ := h; exact o.elim⟩

/-! ### one operand -/
def lift1 (op : D → Option D) (da : Env → M D) : Env → M D := fun ρ g => (da ρ g).bind fun x g1 => match op x with | some z => .ok z g1 | none => .fail
def dNeg : D → Option D
  | .int i => some (.int (-i))
  | _ => none
theorem se_neg (ha : SO X ct da a) : SE X ct (lift1 dNeg da) (.UnaryOp .USub a pos) := fun W tk => by
  refine peW (pe_un un_neg (ha W tk)) fun σ H Q ⟨b, F, ow, ρ, g, S, o⟩ => ?_
  refine rd1 S o fun x g1 F1 H1 v e1 S1 r1 o1 => ?_
  cases x <;> first | (exact o1.elim) | skip
  exact ⟨_, r1.int, Out.ok o1 S1.toBg _ (.int _)⟩

/-! ### tests -/
def tNotD (t : Env → M Bool) : Env → M Bool := fun ρ g => (t ρ g).bind fun k g1 => .ok (!k) g1
def tAndD (t u : Env → M Bool) : Env → M Bool := fun ρ g => (t ρ g).bind fun k g1 => if k = true then u ρ g1 else .ok false g1
def tOrD (t u : Env → M Bool) : Env → M Bool := fun ρ g => (t ρ g).bind fun k g1 => if k = true then .ok true g1 else u ρ g1
variable {t u : Env → M Bool}
theorem st_not (ha : ST X ct t a) : ST X ct (tNotD t) (.UnaryOp .Not a pos) := fun W tk => by
  refine ptW (pt_not (ha W tk)) fun σ H Q ⟨b, F, ow, ρ, g, S, o⟩ => ?_
  exact rd1t S o fun x g1 F1 H1 e1 S1 o1 => Out.ok o1 S1.toBg
/-- .. whatever the whole is -/
def SW (X : Cx) (ct : Nat → ClsInfo) (d : Env → M Bool) (e : Expr) : Prop := ∀ W : WX, Takes X W → PW X e (rdT X.K ct W d)
theorem pwW {t t' : TT} (h : PW X e t) (i : ∀ σ H Q, t' σ H Q → t σ H Q) : PW X e t' := ⟨fun wh pins s σ H Q I q => h.run wh pins s σ H Q I (i σ H Q q)⟩
theorem SW.st (h : SW X ct t e) : ST X ct t e := fun W tk => (h W tk).pt
theorem sw_and1 (ha : ST X ct t a) : SW X ct t (.BoolOp .And [a] pos) := fun W tk => pw_and1 (ha W tk)
theorem sw_or1 (ha : ST X ct t a) : SW X ct t (.BoolOp .Or [a] pos) := fun W tk => pw_or1 (ha W tk)
theorem sw_and {rest : List Expr} (ha : ST X ct t a) (hb : SW X ct u (.BoolOp .And (c :: rest) pos)) : SW X ct (tAndD t u) (.BoolOp .And (a :: c :: rest) pos) := fun W tk => by
  refine pwW (pw_and (ha W tk) (hb W tk)) fun σ H Q ⟨b, F, ow, ρ, g, S, o⟩ => ?_
  refine rd1t S o fun x g1 F1 H1 e1 S1 o1 => ?_
  cases x with
  | true => exact ⟨b, F1, ow, ρ, g1, S1, o1⟩
  | false => exact Out.ok o1 S1.toBg
theorem sw_or {rest : List Expr} (ha : ST X ct t a) (hb : SW X ct u (.BoolOp .Or (c :: rest) pos)) : SW X ct (tOrD t u) (.BoolOp .Or (a :: c :: rest) pos) := fun W tk => by
  refine pwW (pw_or (ha W tk) (hb W tk)) fun σ H Q ⟨b, F, ow, ρ, g, S, o⟩ => ?_
  refine rd1t S o fun x g1 F1 H1 e1 S1 o1 => ?_
  cases x with
  | true => exact Out.ok o1 S1.toBg
  | false => exact ⟨b, F1, ow, ρ, g1, S1, o1⟩
/-- .. as values -/
def dAndV (da dc : Env → M D) : Env → M D := fun ρ g => (da ρ g).bind fun x g1 => match x with | .bool k => (if k = true then dc ρ g1 else .ok (.bool false) g1) | _ => .fail
def dOrV (da dc : Env → M D) : Env → M D := fun ρ g => (da ρ g).bind fun x g1 => match x with | .bool k => (if k = true then .ok (.bool true) g1 else dc ρ g1) | _ => .fail
def dNotV (da : Env → M D) : Env → M D := lift1 dNot1 da
theorem se_one {op : BoolOp} (h : SE X ct d a) : SE X ct d (.BoolOp op [a] pos) := fun W tk => pe_one (h W tk)
theorem se_and {rest : List Expr} (ha : SE X ct da a) (hb : SE X ct dc (.BoolOp .And (c :: rest) pos)) : SE X ct (dAndV da dc) (.BoolOp .And (a :: c :: rest) pos) := fun W tk => by
  refine peW (pe_and (ha W tk) (hb W tk)) fun σ H Q ⟨b, F, ow, ρ, g, S, o⟩ => ?_
  refine rd1e S o fun x g1 F1 H1 v e1 S1 r1 o1 => ?_
  cases x <;> first | (exact o1.elim) | skip
  cases r1
  rename_i k
  refine ⟨k, rfl, ?_⟩
  cases k with
  | true => exact ⟨b, F1, ow, ρ, g1, S1, o1⟩
  | false => exact Out.ok o1 S1.toBg _ (.bl _)
theorem se_or {rest : List Expr} (ha : SE X ct da a) (hb : SE X ct dc (.BoolOp .Or (c :: rest) pos)) : SE X ct (dOrV da dc) (.BoolOp .Or (a :: c :: rest) pos) := fun W tk => by
  refine peW (pe_or (ha W tk) (hb W tk)) fun σ H Q ⟨b, F, ow, ρ, g, S, o⟩ => ?_
  refine rd1e S o fun x g1 F1 H1 v e1 S1 r1 o1 => ?_
  cases x <;> first | (exact o1.elim) | skip
  cases r1
  rename_i k
  refine ⟨k, rfl, ?_⟩
  cases k with
  | true => exact Out.ok o1 S1.toBg _ (.bl _)
  | false => exact ⟨b, F1, ow, ρ, g1, S1, o1⟩
theorem se_not (ha : SE X ct da a) : SE X ct (dNotV da) (.UnaryOp .Not a pos) := fun W tk => by
  refine peW (pe_not (ha W tk)) fun σ H Q ⟨b, F, ow, ρ, g, S, o⟩ => ?_
  refine rd1e S o fun x g1 F1 H1 v e1 S1 r1 o1 => ?_
  cases x <;> first | (exact o1.elim) | skip
  cases r1
  exact ⟨_, rfl, Out.ok o1 S1.toBg _ (.bl _)⟩
def dIf (t : Env → M Bool) (da dc : Env → M D) : Env → M D := fun ρ g => (t ρ g).bind fun k g1 => if k = true then da ρ g1 else dc ρ g1
theorem se_if {c0 : Expr} (h0 : ST X ct t c0) (ha : SE X ct da a) (hb : SE X ct dc c) : SE X ct (dIf t da dc) (.IfExp c0 a c pos) := fun W tk => by
  refine peW (pe_ifExp (h0 W tk) (ha W tk) (hb W tk)) fun σ H Q ⟨b, F, ow, ρ, g, S, o⟩ => ?_
  refine rd1t S o fun x g1 F1 H1 e1 S1 o1 => ?_
  cases x with
  | true => exact ⟨b, F1, ow, ρ, g1, S1, o1⟩
  | false => exact ⟨b, F1, ow, ρ, g1, S1, o1⟩

/-! ### a op b op c -/
def dChain (op op' : D → D → Option D) (da dc d3 : Env → M D) : Env → M D := fun ρ g => (da ρ g).bind fun x g1 => (dc ρ g1).bind fun y g2 => match op x y with
  | some (.bool true) => (d3 ρ g2).bind fun z g3 => match op' y z with | some w => .ok w g3 | none => .fail
  | some (.bool false) => .ok (.bool false) g2
  | _ => .fail
theorem chain_read {op op' : D → D → Option D} {r r' : R2}
    (hr : ∀ (b : Option Addr) (F : Addr → Prop) (H : Hp) (g : List Int) (v w : V) (x y z : D) (Q : VK), Bg b g F H → RepO X.K b F H v x → RepO X.K b F H w y → op x y = some z →
      (∀ F' H' u, Ext b F H F' H' → Bg b g F' H' → Rep X.K F' H' u z → Q u H') → r v w H Q)
    (hr' : ∀ (b : Option Addr) (F : Addr → Prop) (H : Hp) (g : List Int) (v w : V) (x y z : D) (Q : VK), Bg b g F H → RepO X.K b F H v x → RepO X.K b F H w y → op' x y = some z →
      (∀ F' H' u, Ext b F H F' H' → Bg b g F' H' → Rep X.K F' H' u z → Q u H') → r' v w H Q) {σ : L2.St} {H : Hp} {Q : VK}
    (h : rdE X.K ct W (dChain op op' da dc d3) σ H Q) : tChain r r' (rdO X.K ct W da) (rdO X.K ct W dc) (rdO X.K ct W d3) σ H Q := by
  obtain ⟨b, F, ow, ρ, g, S, o⟩ := h
  refine rd1 S o fun x g1 F1 H1 v e1 S1 r1 o1 => ?_
  refine rd1 S1 o1 fun y g2 F2 H2 w e2 S2 r2 o2 => ?_
  cases hop : op x y with
  | none => rw [hop] at o2; exact o2.elim
  | some z =>
    rw [hop] at o2
    refine hr b F2 H2 g2 v w x y z _ S2.toBg (r1.up e2 S1.toBg) r2 hop fun F' H' u e B rz => ?_
    cases z with
    | bool k =>
      cases rz
      refine ⟨k, rfl, ?_⟩
      cases k with
      | false => exact o2 F' H' e B _ (.bl _)
      | true =>
        have S3 := S2.up e B
        refine rd1 S3 (Out.shift (r := (d3 ρ g2).bind _) o2 e) fun z g3 F3 H3 w' e3 S4 r3 o3 => ?_
        cases hop' : op' y z with
        | none => rw [hop'] at o3; exact o3.elim
        | some q =>
          rw [hop'] at o3
          exact hr' b F3 H3 g3 w w' y z q Q S4.toBg ((r2.up e S2.toBg).up e3 B) r3 hop' fun F' H' u e B r => o3 F' H' e B u r
    | _ => exact o2.elim
theorem se_chain {op op' : CmpOp} {f f' : D → D → Option D} (ho : Op2 X (compareOp op) f) (ho' : Op2 X (compareOp op') f') (hm : lastMarks [op, op'] [c, e3] = false) (ha : SO X ct da a) (hc : SO X ct dc c) (h3 : SO X ct d3 e3) :
    SE X ct (dChain f f' da dc d3) (.Compare a [op, op'] [c, e3] pos) := fun W tk => by
  obtain ⟨r, hr, hf⟩ := ho
  obtain ⟨r', hr', hf'⟩ := ho'
  exact peW (pe_chain hr hr' (ha W tk) (hc W tk) (h3 W tk) hm) fun σ H Q h => chain_read hf hf' h
theorem st_chain {op op' : CmpOp} {f f' : D → D → Option D} (ho : Op2 X (compareOp op) f) (ho' : Op2 X (compareOp op') f') (hm : lastMarks [op, op'] [c, e3] = false) (ha : SO X ct da a) (hc : SO X ct dc c) (h3 : SO X ct d3 e3) :
    ST X ct (asB (dChain f f' da dc d3)) (.Compare a [op, op'] [c, e3] pos) := fun W tk => by
  obtain ⟨r, hr, hf⟩ := ho
  obtain ⟨r', hr', hf'⟩ := ho'
  refine ptW (pt_chain hr hr' (ha W tk) (hc W tk) (h3 W tk) hm) fun σ H Q h => ?_
  have h2 := read_b h
  exact chain_read hf hf' h2

/-! ### argument lists and displays -/
def isStarB : Expr → Bool
  | .Starred _ _ => true
  | _ => false
theorem star_no {env : PySem.Env} (h : isStarB e = false) : starEach (e :: es) env = (false, eval e env) :: starEach es env := by
  cases e <;> first | rfl | (cases h; done)
def aNil : Env → M (List D) := fun _ g => .ok [] g
def aCons (d : Env → M D) (r : Env → M (List D)) : Env → M (List D) := fun ρ g => (d ρ g).bind fun x g1 => (r ρ g1).bind fun xs g2 => .ok (x :: xs) g2
/-- the items of a tuple or list -/
def itemsD : D → Option (List D)
  | .tuple xs => some xs
  | .list xs => some xs
  | _ => none
def aStar (d : Env → M D) (r : Env → M (List D)) : Env → M (List D) := fun ρ g => (d ρ g).bind fun x g1 => match itemsD x with
  | some xs => (r ρ g1).bind fun ys g2 => .ok (xs ++ ys) g2
  | none => .fail
variable {r : Env → M (List D)}
theorem sa_nil : SA X ct aNil [] := fun W tk => paW pa_nil fun σ H Q ⟨b, F, ow, ρ, g, S, o⟩ => Out.ok o S.toBg [] .nil
theorem sa_cons (ha : SE X ct d e) (hr : SA X ct r es) (hs : isStarB e = false) : SA X ct (aCons d r) (e :: es) := fun W tk => by
  refine paW (pa_cons (ha W tk) (hr W tk) (star_no hs)) fun σ H Q ⟨b, F, ow, ρ, g, S, o⟩ => ?_
  refine rd1e S o fun x g1 F1 H1 v e1 S1 r1 o1 => ?_
  refine rd1a S1 o1 fun xs g2 F2 H2 vs e2 S2 r2 o2 => ?_
  exact Out.ok o2 S2.toBg _ (.cons (r1.up (e2.up S1.toBg)) r2)
theorem sa_star {p : Pos} (ha : SO X ct d e) (hr : SA X ct r es) : SA X ct (aStar d r) (.Starred e p :: es) := fun W tk => by
  refine paW (StX.pa_star (ha W tk) (hr W tk)) fun σ H Q ⟨b, F, ow, ρ, g, S, o⟩ => ?_
  refine rd1 S o fun x g1 F1 H1 v e1 S1 r1 o1 => ?_
  cases x <;> first | (exact o1.elim) | skip
  · obtain ⟨p, vs, rfl, h, q⟩ := r1.list
    refine ⟨p, vs, rfl, .inr h, ?_⟩
    refine rd1a S1 o1 fun xs g2 F2 H2 ys e2 S2 r2 o2 => ?_
    exact Out.ok o2 S2.toBg _ ((q.up (e2.up S1.toBg)).append r2)
  · obtain ⟨p, vs, rfl, h, q⟩ := r1.tuple
    refine ⟨p, vs, rfl, .inl h, ?_⟩
    refine rd1a S1 o1 fun xs g2 F2 H2 ys e2 S2 r2 o2 => ?_
    exact Out.ok o2 S2.toBg _ ((q.up (e2.up S1.toBg)).append r2)
def dTup (r : Env → M (List D)) : Env → M D := fun ρ g => (r ρ g).bind fun xs g1 => if xs.length ≤ sizeLine then .ok (.tuple xs) g1 else .fail
def dLst (r : Env → M (List D)) : Env → M D := fun ρ g => (r ρ g).bind fun xs g1 => if xs.length ≤ sizeLine then .ok (.list xs) g1 else .fail
theorem se_tup {k : Nat} (h : SA X ct r es) : SE X ct (dTup r) (.Tuple es k pos) := fun W tk => by
  refine peW (pe_tup (h W tk)) fun σ H Q ⟨b, F, ow, ρ, g, S, o⟩ => ?_
  refine rd1a S o fun xs g1 F1 H1 vs e1 S1 r1 o1 => ?_
  by_cases hl : xs.length ≤ sizeLine
  · rw [if_pos hl] at o1
    exact ⟨by rw [r1.length]; exact hl, fun p hp => finT S1.toBg hp r1 fun F' H' u e B r => o1 F' H' e B u r⟩
  · rw [if_neg hl] at o1; exact o1.elim
theorem se_lst (h : SA X ct r es) : SE X ct (dLst r) (.List es pos) := fun W tk => by
  refine peW (pe_lst (h W tk)) fun σ H Q ⟨b, F, ow, ρ, g, S, o⟩ => ?_
  refine rd1a S o fun xs g1 F1 H1 vs e1 S1 r1 o1 => ?_
  by_cases hl : xs.length ≤ sizeLine
  · rw [if_pos hl] at o1
    exact ⟨by rw [r1.length]; exact hl, fun p hp => finL S1.toBg hp r1 fun F' H' u e B r => o1 F' H' e B u r⟩
  · rw [if_neg hl] at o1; exact o1.elim

/-! ### subscripts -/
def dIx : D → D → Option D
  | .tuple xs, .int i => atI xs i
  | .list xs, .int i => atI xs i
  | _, _ => none
theorem RepAll.at {K : PySem.W.Frag} {F : Addr → Prop} {H : Hp} {vs : List V} {ds : List D} {i : Int} {z : D} (q : RepAll K F H vs ds) (h : atI ds i = some z) : ∃ v, atI vs i = some v ∧ Rep K F H v z := by
  unfold atI at h ⊢
  rw [q.length]
  cases hj : ixN ds.length i with
  | none => rw [hj] at h; cases h
  | some j =>
    rw [hj] at h
    exact q.get h
def noSlice : Expr → Bool
  | .Slice _ _ _ _ => false
  | _ => true
theorem plain_ix (h : noSlice c = true) : PlainIx c := by
  intro o i
  cases c <;> first | rfl | (cases h; done)
theorem se_ix (hs : noSlice c = true) (ha : SO X ct da a) (hc : SO X ct dc c) : SE X ct (lift2 dIx da dc) (.Subscript a c pos) := fun W tk => by
  refine peW (pe_ix (IxR.or ix_list ix_tup) (ha W tk) (hc W tk) (plain_ix hs)) fun σ H Q h => so_read (fun b F H g v w x y z Q B rx ry e k => ?_) h
  cases x <;> first | (cases e; done) | skip
  · cases y <;> first | (cases e; done) | skip
    obtain ⟨p, vs, rfl, h1, q⟩ := rx.list
    obtain ⟨u, hu, ru⟩ := q.at e
    exact .inl ⟨p, vs, _, u, rfl, ry.int, h1, hu, fin0 B ru k⟩
  · cases y <;> first | (cases e; done) | skip
    obtain ⟨p, vs, rfl, h1, q⟩ := rx.tuple
    obtain ⟨u, hu, ru⟩ := q.at e
    exact .inr ⟨p, vs, _, u, rfl, ry.int, h1, hu, fin0 B ru k⟩
/-- a part of a slice -/
def SPo (X : Cx) (ct : Nat → ClsInfo) (d : Env → M (Option Int)) (e : Option Expr) : Prop := ∀ W : WX, Takes X W → PO X e (fun σ H Q => ∃ b F ow ρ g, StR X.K b F H ow σ ρ g ∧ Out X.K ct b F H (fun c dx H' => W c dx σ H') (fun x _ _ H' => Q x H') (d ρ g))
def poNone : Env → M (Option Int) := fun _ g => .ok none g
def poSome (d : Env → M D) : Env → M (Option Int) := fun ρ g => (d ρ g).bind fun x g1 => match x with | .int i => .ok (some i) g1 | _ => .fail
theorem poW {e : Option Expr} {t t' : TO} (h : PO X e t) (i : ∀ σ H Q, t' σ H Q → t σ H Q) : PO X e t' := ⟨fun pins s σ H Q I q => h.run pins s σ H Q I (i σ H Q q)⟩
theorem sp_none : SPo X ct poNone none := fun W tk => poW po_none fun σ H Q ⟨b, F, ow, ρ, g, S, o⟩ => Out.ok o S.toBg
theorem sp_some (h : SO X ct d e) : SPo X ct (poSome d) (some e) := fun W tk => by
  refine poW (po_some (h W tk)) fun σ H Q ⟨b, F, ow, ρ, g, S, o⟩ => ?_
  refine rd1 S o fun x g1 F1 H1 v e1 S1 r1 o1 => ?_
  cases x <;> first | (exact o1.elim) | skip
  exact ⟨_, r1.int, Out.ok o1 S1.toBg⟩
/-- the items of xs[lo:hi] -/
def cutD (xs : List D) (lo hi : Option Int) : List D := (xs.drop (HT.sIx xs.length 0 lo)).take (HT.sIx xs.length xs.length hi - HT.sIx xs.length 0 lo)
def dSl : D → Option Int → Option Int → Option D
  | .tuple xs, lo, hi => some (.tuple (cutD xs lo hi))
  | .list xs, lo, hi => some (.list (cutD xs lo hi))
  | _, _, _ => none
theorem RepAll.cut {K : PySem.W.Frag} {F : Addr → Prop} {H : Hp} {vs : List V} {ds : List D} (q : RepAll K F H vs ds) (lo hi : Option Int) : RepAll K F H (cutV vs lo hi) (cutD ds lo hi) := by
  unfold cutV cutD
  rw [q.length]
  exact (q.drop _).take _
def dSlice (da : Env → M D) (lo hi : Env → M (Option Int)) : Env → M D := fun ρ g => (da ρ g).bind fun x g1 => (lo ρ g1).bind fun l g2 => (hi ρ g2).bind fun h g3 => match dSl x l h with | some z => .ok z g3 | none => .fail
theorem cut_whole (vs : List V) (lo hi : Option Int) (h : HT.sIx vs.length 0 lo = 0 ∧ HT.sIx vs.length vs.length hi = vs.length) : cutV vs lo hi = vs := by
  unfold cutV
  rw [h.1, h.2]
  simp
theorem cutD_whole (vs : List D) (lo hi : Option Int) (h : HT.sIx vs.length 0 lo = 0 ∧ HT.sIx vs.length vs.length hi = vs.length) : cutD vs lo hi = vs := by
  unfold cutD
  rw [h.1, h.2]
  simp
theorem se_slice {lo hi : Option Expr} {dl dh : Env → M (Option Int)} {p2 : Pos} (ha : SO X ct da a) (hl : SPo X ct dl lo) (hh : SPo X ct dh hi) : SE X ct (dSlice da dl dh) (.Subscript a (.Slice lo hi none p2) pos) := fun W tk => by
  refine peW (pe_slice (SlR.or sl_list sl_tupA) (ha W tk) (hl W tk) (hh W tk)) fun σ H Q ⟨b, F, ow, ρ, g, S, o⟩ => ?_
  refine rd1 S o fun x g1 F1 H1 v e1 S1 r1 o1 => ?_
  refine ⟨b, F1, ow, ρ, g1, S1, o1.bind.imp fun l g2 F2 H2 e2 B2 o2 => ?_⟩
  have S2 := S1.up e2 B2
  refine ⟨b, F2, ow, ρ, g2, S2, o2.bind.imp fun h g3 F3 H3 e3 B3 o3 => ?_⟩
  have S3 := S2.up e3 B3
  have r3 := (r1.up e2 S1.toBg).up e3 B2
  cases x <;> first | (exact o3.elim) | skip
  · obtain ⟨p, vs, rfl, h1, q⟩ := r3.list
    exact .inl ⟨p, vs, rfl, h1, fun n hn => finL B3 hn (q.cut l h) fun F' H' u e B r => o3 F' H' e B u r⟩
  · obtain ⟨p, vs, rfl, h1, q⟩ := r3.tuple
    refine .inr ⟨p, vs, rfl, h1, fun hw => ?_, fun _ n hn => finT B3 hn (q.cut l h) fun F' H' u e B r => o3 F' H' e B u r⟩
    rw [q.length] at hw
    have o3' : Out X.K ct b F3 H3 (fun c dx H' => W c dx σ H') (PV X.K Q) (.ok (.tuple (cutD _ l h)) g3) := o3
    rw [cutD_whole _ l h hw] at o3'
    exact Out.ok o3' B3 _ (.tup h1 q)
end
end PF

set_option Elab.async false
set_option linter.all false
set_option maxRecDepth 100000
set_option maxHeartbeats 2000000
/-! PF5: statements by data. -/
namespace PF
open PySem PySem.Spec PyProof.Rows L2
variable [TabT]

section
variable {K : PySem.W.Frag} {F F' F1 F2 : Addr → Prop} {H H' H1 H2 : Hp} {b : Option Addr} {g g' : List Int}
theorem Mono.refl : Mono F H F H := ⟨fun _ f => f, fun _ _ _ h => h, fun _ _ h => h, fun _ _ _ _ h => h⟩
theorem Mono.trans (m : Mono F H F1 H1) (m' : Mono F1 H1 F2 H2) : Mono F H F2 H2 :=
  ⟨fun a f => m'.mono a (m.mono a f), fun a u f h => m'.fz a u (m.mono a f) (m.fz a u f h), fun a vs h => m'.tup a vs (m.tup a vs h), fun a o u f h => m'.fx a o u (m.mono a f) (m.fx a o u f h)⟩
end

/-- what a frame may do: the condition that holds through it, the addresses that it may write -/
structure FrC where
  Fr : Option Addr → (Addr → Prop) → Hp → Prop
  Fo : Addr → Prop
  ext : ∀ {b g F H F' H'}, Fr b F H → Ext b F H F' H' → Bg b g F H → Fr b F' H'
  new : ∀ {b F H p}, Fr b F H → Nn H p → b ≠ some p → Fo p
  wr : ∀ {b g F H a o o'}, Fr b F H → Bg b g F H → Fo a → ¬ F a → b ≠ some a → H a = some o → Pl o → NT o' → Fr b F (upd H a o')
  frz : ∀ {b g F H a o}, Fr b F H → Bg b g F H → Fo a → ¬ F a → b ≠ some a → H a = some o → NT o → Fr b (addF F a) H
  bagw : ∀ {b g F H a o'}, Fr b F H → Bg b g F H → b = some a → (∃ vs, o' = HO.lst vs) → Fr b F (upd H a o')

/-- the state within a def -/
structure SSt (C : FrC) (K : PySem.W.Frag) (b : Option Addr) (F : Addr → Prop) (H : Hp) (ow : Nat → Option Addr) (σ : L2.St) (ρ : Env) (g : List Int) : Prop where
  st : StR K b F H ow σ ρ g
  fr : C.Fr b F H
  fo : ∀ i a, ow i = some a → C.Fo a

inductive Fl where
  | next (ρ : Env)
  | ret (d : D)

abbrev WS := Value → Option Addr → Hp → Prop
/-- a statement's outcome: b0 F0 H0 where it began -/
def OutS (C : FrC) (K : PySem.W.Frag) (ct : Nat → ClsInfo) (F0 : Addr → Prop) (H0 : Hp) (W : WS) (D' : Ends) : Res Fl → Prop
  | .ok (.next ρ') g' => ∀ b' F' H' ow' σ', SSt C K b' F' H' ow' σ' ρ' g' → Mono F0 H0 F' H' → D'.nx σ' H'
  | .ok (.ret x) g' => ∀ b' F' H' v, C.Fr b' F' H' → Bg b' g' F' H' → Rep K F' H' v x → D'.rt v H'
  | .exc c p g' => ∀ b' F' H' dx, C.Fr b' F' H' → Bg b' g' F' H' → ExcAt K (ct c) p dx F' H' → W (.ref (ct c).addr) dx H'
  | .fail => False

def rdS (C : FrC) (K : PySem.W.Frag) (ct : Nat → ClsInfo) (W : WS) (d : Env → M Fl) : TS := fun D' σ H =>
  ∃ b F ow ρ g, SSt C K b F H ow σ ρ g ∧ OutS C K ct F H W D' (d ρ g)
abbrev WXof (W : WS) : WX := fun c dx _ H => W c dx H
def SS (C : FrC) (X : Cx) (ct : Nat → ClsInfo) (d : Env → M Fl) (st : Stmt) : Prop := ∀ W : WS, Takes X (WXof W) → PS X st (rdS C X.K ct W d)
def SSs (C : FrC) (X : Cx) (ct : Nat → ClsInfo) (d : Env → M Fl) (sts : List Stmt) : Prop := ∀ W : WS, Takes X (WXof W) → PSs X sts (rdS C X.K ct W d)
theorem psW {X : Cx} {s : Stmt} {t t' : TS} (h : PS X s t) (i : ∀ D σ H, t' D σ H → t D σ H) : PS X s t' := ⟨fun pins s σ H D I q => h.run pins s σ H D I (i D σ H q)⟩
theorem pssW {X : Cx} {s : List Stmt} {t t' : TS} (h : PSs X s t) (i : ∀ D σ H, t' D σ H → t D σ H) : PSs X s t' := ⟨fun pins s σ H D I q => h.run pins s σ H D I (i D σ H q)⟩

section
variable {C : FrC} {X : Cx} {ct : Nat → ClsInfo} {W : WS} {pos : Pos} {K : PySem.W.Frag} {F F' F1 F2 F0 : Addr → Prop} {H H' H1 H2 H0 : Hp} {b : Option Addr} {g g' : List Int} {ow : Nat → Option Addr} {σ : L2.St} {ρ : Env}

theorem SSt.up (S : SSt C K b F H ow σ ρ g) (e : Ext b F H F' H') (B : Bg b g' F' H') : SSt C K b F' H' ow σ ρ g' := ⟨S.st.up e B, C.ext S.fr e S.st.toBg, S.fo⟩
theorem SSt.bg (S : SSt C K b F H ow σ ρ g) : Bg b g F H := S.st.toBg
theorem OutS.imp {D1 D2 : Ends} {r : Res Fl} (h : OutS C K ct F0 H0 W D1 r) (hn : ∀ σ H, D1.nx σ H → D2.nx σ H) (hr : ∀ v H, D1.rt v H → D2.rt v H) : OutS C K ct F0 H0 W D2 r := by
  match r, h with
  | .ok (.next ρ') g', h => exact fun b' F' H' ow' σ' S m => hn _ _ (h b' F' H' ow' σ' S m)
  | .ok (.ret x) g', h => exact fun b' F' H' v f B r => hr _ _ (h b' F' H' v f B r)
  | .exc c p g', h => exact h
theorem OutS.shift {D' : Ends} {r : Res Fl} (h : OutS C K ct F H W D' r) (m : Mono F H F1 H1) : OutS C K ct F1 H1 W D' r := by
  match r, h with
  | .ok (.next ρ') g', h => exact fun b' F' H' ow' σ' S m' => h b' F' H' ow' σ' S (m.trans m')
  | .ok (.ret x) g', h => exact h
  | .exc c p g', h => exact h
/-- an expression, then the rest of the statement -/
theorem OutS.ofE {α : Type} {D' : Ends} {r : Res α} {k : α → M Fl} (S : SSt C K b F H ow σ ρ g) (h : OutS C K ct F H W D' (r.bind k)) :
    Out K ct b F H (fun c dx H' => W c dx H') (fun x g' F' H' => OutS C K ct F' H' W D' (k x g')) r := by
  cases r with
  | ok x g' => exact fun F' H' e B => OutS.shift (r := k x g') h (e.up S.bg)
  | exc c p g' => exact fun F' H' dx e B x => h b F' H' dx (C.ext S.fr e S.bg) B x
  | fail => exact h

theorem rs1e {D' : Ends} {R : V → Hp → Prop} {k : D → M Fl} {da : Env → M D} (S : SSt C K b F H ow σ ρ g) (o : OutS C K ct F H W D' ((da ρ g).bind k))
    (f : ∀ x g' F' H' v, SSt C K b F' H' ow σ ρ g' → Rep K F' H' v x → OutS C K ct F' H' W D' (k x g') → R v H') : rdE K ct (WXof W) da σ H R :=
  ⟨b, F, ow, ρ, g, S.st, (OutS.ofE S o).imp fun x g' F' H' e B p v r => f x g' F' H' v (S.up e B) r p⟩
theorem rs1t {D' : Ends} {R : Bool → Hp → Prop} {k : Bool → M Fl} {da : Env → M Bool} (S : SSt C K b F H ow σ ρ g) (o : OutS C K ct F H W D' ((da ρ g).bind k))
    (f : ∀ x g' F' H', SSt C K b F' H' ow σ ρ g' → OutS C K ct F' H' W D' (k x g') → R x H') : rdT K ct (WXof W) da σ H R :=
  ⟨b, F, ow, ρ, g, S.st, (OutS.ofE S o).imp fun x g' F' H' e B p => f x g' F' H' (S.up e B) p⟩

/-! ### small statements, blocks -/
def sNext : Env → M Fl := fun ρ g => .ok (.next ρ) g
def sSeq (d1 d2 : Env → M Fl) : Env → M Fl := fun ρ g => (d1 ρ g).bind fun f g1 => match f with | .next ρ1 => d2 ρ1 g1 | .ret x => .ok (.ret x) g1
theorem OutS.next {D' : Ends} (S : SSt C K b F H ow σ ρ g) (o : OutS C K ct F H W D' (.ok (.next ρ) g)) : D'.nx σ H := o b F H ow σ S Mono.refl
theorem OutS.seq {D' : Ends} {r : Res Fl} {d2 : Env → M Fl} (h : OutS C K ct F H W D' (r.bind fun f g1 => match f with | .next ρ1 => d2 ρ1 g1 | .ret x => .ok (.ret x) g1)) :
    OutS C K ct F H W { D' with nx := rdS C K ct W d2 D' } r := by
  match r, h with
  | .ok (.next ρ') g', h => exact fun b' F' H' ow' σ' S m => ⟨b', F', ow', ρ', g', S, OutS.shift (r := d2 ρ' g') h m⟩
  | .ok (.ret x) g', h => exact h
  | .exc c p g', h => exact h
theorem sss_nil : SSs C X ct sNext [] := fun W tk => pssW pss_nil fun D σ H ⟨b, F, ow, ρ, g, S, o⟩ => OutS.next S o
theorem sss_cons {s : Stmt} {sts : List Stmt} {d1 d2 : Env → M Fl} (h1 : SS C X ct d1 s) (h2 : SSs C X ct d2 sts) : SSs C X ct (sSeq d1 d2) (s :: sts) := fun W tk =>
  pssW (pss_cons (h1 W tk) (h2 W tk)) fun D σ H ⟨b, F, ow, ρ, g, S, o⟩ => ⟨b, F, ow, ρ, g, S, OutS.seq o⟩
theorem sss_one {s : Stmt} {d1 : Env → M Fl} (h1 : SS C X ct d1 s) : SSs C X ct d1 [s] := fun W tk => pss_one (h1 W tk)
theorem ss_pass : SS C X ct sNext (.Pass pos) := fun W tk => psW ps_pass fun D σ H ⟨b, F, ow, ρ, g, S, o⟩ => OutS.next S o
def sFail : Env → M Fl := fun _ _ => .fail
theorem ss_fail {s : Stmt} : SS C X ct sFail s := fun W tk => ⟨fun _ _ _ _ _ _ h => by obtain ⟨_, _, _, _, _, _, o⟩ := h; exact o.elim⟩
theorem sss_fail {s : List Stmt} : SSs C X ct sFail s := fun W tk => ⟨fun _ _ _ _ _ _ h => by obtain ⟨_, _, _, _, _, _, o⟩ := h; exact o.elim⟩
def sExpr (d : Env → M D) : Env → M Fl := fun ρ g => (d ρ g).bind fun _ g1 => .ok (.next ρ) g1
theorem ss_expr {e : Expr} {d : Env → M D} (h : SE X ct d e) (hs : swapsWith e none pos.line X.env = pure false) : SS C X ct (sExpr d) (.Expr e pos) := fun W tk => by
  refine psW (ps_expr (h (WXof W) tk) hs) fun D σ H ⟨b, F, ow, ρ, g, S, o⟩ => ?_
  exact rs1e S o fun x g' F' H' v S' r o' => OutS.next S' o'
def sRet (d : Env → M D) : Env → M Fl := fun ρ g => (d ρ g).bind fun x g1 => .ok (.ret x) g1
theorem ss_ret {e : Expr} {d : Env → M D} (h : SE X ct d e) : SS C X ct (sRet d) (.Return (some e) pos) := fun W tk => by
  refine psW (ps_ret (h (WXof W) tk)) fun D σ H ⟨b, F, ow, ρ, g, S, o⟩ => ?_
  show rdE X.K ct (WXof W) d σ H D.rt
  exact rs1e S o fun x g' F' H' v S' r o' => o' b F' H' v S'.fr S'.bg r
def sRetN : Env → M Fl := fun ρ g => .ok (.ret .none) g
theorem ss_retN : SS C X ct sRetN (.Return none pos) := fun W tk =>
  psW ps_retN fun D σ H ⟨b, F, ow, ρ, g, S, o⟩ => o b F H .non S.fr S.bg .non
def sIf (t : Env → M Bool) (d1 d2 : Env → M Fl) : Env → M Fl := fun ρ g => (t ρ g).bind fun k g1 => if k = true then d1 ρ g1 else d2 ρ g1
theorem ss_if {e : Expr} {t : Env → M Bool} {s1 s2 : List Stmt} {d1 d2 : Env → M Fl} (ht : ST X ct t e) (h1 : SSs C X ct d1 s1) (h2 : SSs C X ct d2 s2) : SS C X ct (sIf t d1 d2) (.If e s1 s2 pos) := fun W tk => by
  refine psW (ps_if (ht (WXof W) tk) (h1 W tk) (h2 W tk)) fun D σ H ⟨b, F, ow, ρ, g, S, o⟩ => ?_
  refine rs1t S o fun x g' F' H' S' o' => ?_
  cases x with
  | true => exact ⟨b, F', ow, ρ, g', S', o'⟩
  | false => exact ⟨b, F', ow, ρ, g', S', o'⟩

/-! ### stores -/
theorem SSt.set (S : SSt C K b F H ow σ ρ g) (i : Nat) {v : V} {d : D} (r : Rep K F H v d) : ∃ ow', SSt C K b F H ow' (σ.set i (some v)) (ρ.set i (some (.val d))) g :=
  ⟨_, S.st.set i r, S.fr, fun j a h => S.fo j a (by
    by_cases e : j = i
    · simp [e] at h
    · simpa [e] using h)⟩
def sSet (i : Nat) (d : Env → M D) : Env → M Fl := fun ρ g => (d ρ g).bind fun x g1 => .ok (.next (ρ.set i (some (.val x)))) g1
theorem ss_set {i : Nat} {x : Str} {e : Expr} {d : Env → M D} {pos' : Pos} (hN : X.N.Nodup) (hi : X.N[i]? = some x) (hx : Loc X.env.scope x) (h : SE X ct d e) (hs : swapsWith e (some (.Name x pos')) pos.line X.env = pure false)
    (hf : X.fn x = true ∨ X.env.scope.names.lookup x = some .local) : SS C X ct (sSet i d) (.Assign [.Name x pos'] e pos) := fun W tk => by
  refine psW (ps_set hN hi hx (h (WXof W) tk) hs hf) fun D σ H ⟨b, F, ow, ρ, g, S, o⟩ => ?_
  refine rs1e S o fun x g' F' H' v S' r o' => ?_
  obtain ⟨ow', S2⟩ := S'.set i r
  exact o' b F' H' ow' _ S2 Mono.refl
end

/-! ### targets -/
inductive Tgt where
  | name (i : Nat)
  | tup (ts : List Nat)
  | two (a b : Tgt)

def setAll : List Nat → List D → Env → Env
  | i :: is, x :: xs, ρ => setAll is xs (ρ.set i (some (.val x)))
  | _, _, ρ => ρ
def Tgt.put : Tgt → D → Env → Option Env
  | .name i, x, ρ => some (ρ.set i (some (.val x)))
  | .tup is, .tuple xs, ρ => if xs.length = is.length then some (setAll is xs ρ) else none
  | .tup _, _, _ => none
  | .two a b, .tuple [x, y], ρ => match a.put x ρ with
    | some ρ1 => b.put y ρ1
    | none => none
  | .two _ _, _, _ => none
def Tgt.idx : Tgt → List Nat
  | .name i => [i]
  | .tup is => is
  | .two a b => a.idx ++ b.idx
theorem wipe_set {σ : L2.St} {i : Nat} {x : Option V} : ∀ {vs : List Nat}, i ∈ vs → wipe (σ.set i x) vs = wipe σ vs
  | [], h => by simp at h
  | v :: vs, h => by
    show (wipe (σ.set i x) vs).set v none = (wipe σ vs).set v none
    by_cases e : i ∈ vs
    · rw [wipe_set e]
    · have ev : i = v := by
        rcases List.mem_cons.mp h with h | h
        · exact h
        · exact absurd h e
      subst ev
      have gen : ∀ (us : List Nat), i ∉ us → wipe (σ.set i x) us = (wipe σ us).set i x := by
        intro us
        induction us with
        | nil => intro _; rfl
        | cons u us ih =>
          intro hu
          simp only [List.mem_cons, not_or] at hu
          show (wipe (σ.set i x) us).set u none = ((wipe σ us).set u none).set i x
          rw [ih hu.2, List.set_comm _ _ hu.1]
      rw [gen vs e, List.set_set]

def gList : List Nat → TGs
  | [] => gNil
  | i :: is => gCons (gName i) (gList is)
def gtOf (K : PySem.W.Frag) : Tgt → TG
  | .name i => gName i
  | .tup is => gTup K is.length (gList is)
  | .two a b => gTup K 2 (gCons (gtOf K a) (gCons (gtOf K b) gNil))
def SG (X : Cx) (tg : Tgt) (e : Expr) : Prop := PG X e (gtOf X.K tg)
theorem ow_none {ow : Nat → Option Addr} {i j : Nat} {a : Addr} (h : (if j = i then none else ow j) = some a) : ow j = some a := by
  by_cases e : j = i
  · simp [e] at h
  · simpa [e] using h
section
variable {K : PySem.W.Frag} {b : Option Addr} {F : Addr → Prop} {H : Hp} {g : List Int}
theorem glist_read : ∀ (is : List Nat) {ow : Nat → Option Addr} {σ : L2.St} {ρ : Env} {vs : List V} {ds : List D} {Q : L2.St → Hp → Prop}, StR K b F H ow σ ρ g → RepAll K F H vs ds → ds.length = is.length →
    (∀ σ' ow', StR K b F H ow' σ' (setAll is ds ρ) g → (∀ i a, ow' i = some a → ow i = some a) → (∀ ws, (∀ i ∈ is, i ∈ ws) → wipe σ' ws = wipe σ ws) → Q σ' H) → gList is vs σ H Q
  | [], ow, σ, ρ, vs, ds, Q, S, r, hl, k => by
    cases r with
    | nil => exact ⟨rfl, k σ ow S (fun _ _ h => h) fun _ _ => rfl⟩
    | cons _ _ => simp at hl
  | i :: is, ow, σ, ρ, vs, ds, Q, S, r, hl, k => by
    cases r with
    | nil => simp at hl
    | cons r1 r2 =>
      refine ⟨_, _, rfl, glist_read is (S.set i r1) r2 (by simpa using hl) fun σ' ow' S' hs hw => k σ' ow' S' (fun j a q => ow_none (hs j a q)) fun ws hq => ?_⟩
      rw [hw ws fun j hj => hq j (List.mem_cons_of_mem _ hj)]
      exact wipe_set (hq i List.mem_cons_self)
/-- storing: what is kept of the slots -/
theorem gt_read : ∀ {tg : Tgt} {ow : Nat → Option Addr} {σ : L2.St} {ρ ρ' : Env} {v : V} {d : D} {Q : L2.St → Hp → Prop} (_ : StR K b F H ow σ ρ g) (_ : Rep K F H v d) (_ : tg.put d ρ = some ρ')
    (_ : ∀ σ' ow', StR K b F H ow' σ' ρ' g → (∀ i a, ow' i = some a → ow i = some a) → (∀ vs, (∀ i ∈ tg.idx, i ∈ vs) → wipe σ' vs = wipe σ vs) → Q σ' H), gtOf K tg v σ H Q
  | .name i, ow, σ, ρ, ρ', v, d, Q, S, r, e, k => by
    cases e
    exact k _ _ (S.set i r) (fun j a h => ow_none h) fun vs h => wipe_set (h i (by simp [Tgt.idx]))
  | .tup is, ow, σ, ρ, ρ', v, d, Q, S, r, e, k => by
    cases d <;> first | (cases e; done) | skip
    rename_i xs
    simp only [Tgt.put] at e
    split at e
    · rename_i hx
      cases e
      obtain ⟨p, vs, rfl, ht, rv⟩ := r.tuple
      exact ⟨p, vs, rfl, ht, by rw [rv.length]; exact hx, glist_read is S rv hx k⟩
    · cases e
  | .two a c, ow, σ, ρ, ρ', v, d, Q, S, r, e, k => by
    cases d <;> first | (cases e; done) | skip
    rename_i xs
    match xs, e with
    | [x, y], e =>
      simp only [Tgt.put] at e
      split at e
      · rename_i ρ1 h1
        obtain ⟨p, vs, rfl, ht, rv⟩ := r.tuple
        cases rv with
        | cons r1 rv =>
          cases rv with
          | cons r2 rv =>
            cases rv with
            | nil =>
              refine ⟨p, _, rfl, ht, rfl, _, _, rfl, gt_read S r1 h1 fun σ1 ow1 S1 hs1 hw1 => ⟨_, _, rfl, gt_read S1 r2 e fun σ2 ow2 S2 hs2 hw2 => ⟨rfl, k σ2 ow2 S2 (fun i a h => hs1 i a (hs2 i a h)) fun ws hq => ?_⟩⟩⟩
              rw [hw2 ws fun i hi => hq i (List.mem_append_right _ hi), hw1 ws fun i hi => hq i (List.mem_append_left _ hi)]
      · cases e
end
section
variable {X : Cx} {pos : Pos}
theorem sg_name {i : Nat} {x : Str} (hN : X.N.Nodup) (hi : X.N[i]? = some x) (hx : Loc X.env.scope x) (hf : X.fn x = true ∨ X.env.scope.names.lookup x = some .local) : SG X (.name i) (.Name x pos) := pg_name hN hi hx hf
/-- names, one after the other -/
def NamesAre (X : Cx) : List Expr → List Nat → Prop
  | [], [] => True
  | e :: es, i :: is => (∃ x p, e = .Name x p ∧ X.N[i]? = some x ∧ Loc X.env.scope x ∧ (X.fn x = true ∨ X.env.scope.names.lookup x = some .local)) ∧ NamesAre X es is
  | _, _ => False
theorem pgs_names (hN : X.N.Nodup) : ∀ (es : List Expr) (is : List Nat), NamesAre X es is → PGs X es (gList is) ∧ (assignEach es X.env).length = is.length ∧ (assignEach es X.env).all (fun p => !p.1) = true
  | [], [], _ => ⟨pgs_nil, rfl, rfl⟩
  | e :: es, i :: is, h => by
    obtain ⟨⟨x, p, rfl, hi, hx, hf⟩, hr⟩ := h
    obtain ⟨h1, hl1, ha1⟩ := pgs_names hN es is hr
    refine ⟨pgs_cons (pg_name hN hi hx hf) h1, ?_, ?_⟩
    · show (assignEach es X.env).length + 1 = is.length + 1
      rw [hl1]
    · show (!false && (assignEach es X.env).all fun p => !p.1) = true
      rw [ha1]; rfl
  | [], _ :: _, h => h.elim
  | _ :: _, [], h => h.elim
theorem sg_tup (hc : X.calm = true) (hN : X.N.Nodup) {es : List Expr} {is : List Nat} {k : Nat} (h : NamesAre X es is) : SG X (.tup is) (.Tuple es k pos) := by
  obtain ⟨h1, hl, ha⟩ := pgs_names hN es is h
  have hst : (assignEach es X.env).findIdx? (·.1) = none := by
    rw [List.findIdx?_eq_none_iff]
    intro x hx
    have := List.all_eq_true.mp ha x hx
    simpa using this
  exact pg_tup hc h1 hl hst
theorem assign_no {x : Expr} {r : List Expr} {env : PySem.Env} (h : isStarB x = false) : assignEach (x :: r) env = (false, assign x env) :: assignEach r env := by
  cases x <;> first | (cases h; done) | rfl
theorem sg_two (hc : X.calm = true) {a b : Tgt} {x y : Expr} {k : Nat} (h1 : SG X a x) (h2 : SG X b y) (n1 : isStarB x = false) (n2 : isStarB y = false) : SG X (.two a b) (.Tuple [x, y] k pos) := by
  have e2 : assignEach [y] X.env = [(false, assign y X.env)] := assign_no n2
  have e1 : assignEach [x, y] X.env = [(false, assign x X.env), (false, assign y X.env)] := by rw [assign_no n1, e2]
  exact pg_tup hc (pgs_cons h1 (pgs_cons h2 pgs_nil (by rw [e2]; rfl)) (by rw [e1, e2]; rfl)) (by rw [e1]; rfl) (by rw [e1]; rfl)
end
end PF

set_option Elab.async false
set_option linter.all false
set_option maxRecDepth 100000
set_option maxHeartbeats 2000000
/-! PF6: assignments (values, lists and dicts of the frame's own), loops. -/
namespace PF
open PySem PySem.Spec PyProof.Rows L2
variable [TabT]

section
variable {K : PySem.W.Frag} {F F' F1 F2 F0 : Addr → Prop} {H H' H1 H2 H0 : Hp} {b : Option Addr} {g g' : List Int} {ow : Nat → Option Addr} {σ : L2.St} {ρ : Env}

/-! ### what is stored: a value, or a new list or dict of the frame's own -/
inductive NewS (K : PySem.W.Frag) (b : Option Addr) (H0 : Hp) (F' : Addr → Prop) (H' : Hp) : V → Slot → Option Addr → Prop
  | val {v : V} {d : D} (r : Rep K F' H' v d) : NewS K b H0 F' H' v (.val d) none
  | own {p : Addr} {vs : List V} {ds : List D} (h0 : Nn H0 p) (nf : ¬ F' p) (nb : b ≠ some p) (h : H' p = some (.lst vs)) (r : RepAll K F' H' vs ds) : NewS K b H0 F' H' (.ref p) (.own ds) (some p)
  | ownd {p : Addr} {u : HO} {ps : List (D × D)} (h0 : Nn H0 p) (nf : ¬ F' p) (nb : b ≠ some p) (h : H' p = some u) (r : RepDo K F' H' p u ps) : NewS K b H0 F' H' (.ref p) (.ownd ps) (some p)
theorem NewS.up {v : V} {s : Slot} {oa : Option Addr} (n : NewS K b H0 F H v s oa) (e : Ext b F H F' H') (B : Bg b g F H) : NewS K b H0 F' H' v s oa := by
  cases n with
  | val r => exact .val (r.up (e.up B))
  | own h0 nf nb h r =>
    refine .own h0 (fun f => ?_) nb (e.keep _ _ h nb) (r.up (e.up B))
    rcases e.fresh _ f with z | z
    · exact nf z
    · exact z _ h nt_lst
  | ownd h0 nf nb h r =>
    refine .ownd h0 (fun f => ?_) nb (e.keep _ _ h nb r.nt) (r.up (e.up B))
    rcases e.fresh _ f with z | z
    · exact nf z
    · exact z _ h r.nt
/-- how the places of the frame's own move -/
def owSet (ow : Nat → Option Addr) (i : Nat) (oa : Option Addr) : Nat → Option Addr := fun j => if j = i then oa else ow j
theorem StR.setS (S : StR K b F H ow σ ρ g) (i : Nat) {v : V} {s : Slot} {oa : Option Addr} (n : NewS K b H0 F H v s oa) (hfr : ∀ j a, ow j = some a → ∃ o, H0 a = some o ∧ NT o) :
    StR K b F H (owSet ow i oa) (σ.set i (some v)) (ρ.set i (some s)) g where
  toBg := S.toBg
  tabs := S.tabs
  len := by simp [S.len]
  slot := fun j s' hj => by
    by_cases e : j = i
    · subst e
      have hlt : j < ρ.length := by
        rcases Nat.lt_or_ge j ρ.length with h | h
        · exact h
        · rw [List.getElem?_eq_none_iff.mpr (by simpa using h)] at hj; cases hj
      rw [List.getElem?_set_self hlt] at hj
      cases hj
      rw [List.getElem?_set_self (by rw [S.len]; exact hlt)]
      unfold owSet
      rw [if_pos rfl]
      cases n with
      | val r => exact ⟨v, rfl, r⟩
      | own h0 nf nb h r => exact ⟨_, _, rfl, rfl, nf, h, r⟩
      | ownd h0 nf nb h r => exact ⟨_, _, rfl, rfl, nf, h, r⟩
    · rw [List.getElem?_set_ne (Ne.symm e)] at hj
      rw [List.getElem?_set_ne (Ne.symm e)]
      unfold owSet
      rw [if_neg e]
      exact S.slot j s' hj
  inj := fun i' j' a h1 h2 => by
    have hoa : ∀ p, oa = some p → Nn H0 p := fun p hp => by
      cases n with
      | val r => cases hp
      | own h0 nf nb h r => cases hp; exact h0
      | ownd h0 nf nb h r => cases hp; exact h0
    unfold owSet at h1 h2
    by_cases e1 : i' = i
    · by_cases e2 : j' = i
      · rw [e1, e2]
      · rw [if_pos e1] at h1; rw [if_neg e2] at h2
        obtain ⟨o, q⟩ := hfr j' a h2
        exact (hoa a h1 _ q.1 q.2).elim
    · by_cases e2 : j' = i
      · rw [if_neg e1] at h1; rw [if_pos e2] at h2
        obtain ⟨o, q⟩ := hfr i' a h1
        exact (hoa a h2 _ q.1 q.2).elim
      · rw [if_neg e1] at h1; rw [if_neg e2] at h2
        exact S.inj _ _ _ h1 h2
  nb := fun j a h => by
    unfold owSet at h
    by_cases e1 : j = i
    · rw [if_pos e1] at h
      cases n with
      | val r => cases h
      | own h0 nf nb h' r => cases h; exact nb
      | ownd h0 nf nb h' r => cases h; exact nb
    · rw [if_neg e1] at h; exact S.nb j a h
  oat := fun j a h => by
    unfold owSet at h
    by_cases e1 : j = i
    · rw [if_pos e1] at h
      cases n with
      | val r => cases h
      | own h0 nf nb h' r => cases h; exact ⟨_, h', nt_lst⟩
      | ownd h0 nf nb h' r => cases h; exact ⟨_, h', r.nt⟩
    · rw [if_neg e1] at h; exact S.oat j a h
/-- a write to a thing of the frame's own -/
theorem StR.write (S : StR K b F H ow σ ρ g) {i : Nat} {a : Addr} {o : HO} {s : Slot} (hi : ow i = some a) (nf : ¬ F a) (nt : ∀ vs, H a ≠ some (.tup vs)) (nz : ∀ o u, H a ≠ some (.frz o u)) (np : ∀ o', H a = some o' → Pl o') (no : NT o) (hlt : i < ρ.length)
    (hs : RelSlot K b F (upd H a o) (some a) σ[i]? s) : StR K b F (upd H a o) ow σ (ρ.set i (some s)) g := by
  have m : Mono F H F (upd H a o) := by
    refine ⟨fun _ f => f, fun c u f h => ?_, fun c vs h => ?_, fun c _ _ f h => by rw [upd_ne (fun (e : c = a) => nf (e ▸ f))]; exact h⟩
    · have hc : c ≠ a := fun e => nf (e ▸ f)
      rcases h with h | ⟨o', h⟩
      · exact .inl (by rw [upd_ne hc]; exact h)
      · exact .inr ⟨o', by rw [upd_ne hc]; exact h⟩
    · rcases h with h | ⟨o', h⟩
      · exact .inl (by rw [upd_ne (fun (e : c = a) => nt vs (by rw [← e]; exact h))]; exact h)
      · exact .inr ⟨o', by rw [upd_ne (fun (e : c = a) => nz o' _ (by rw [← e]; exact h))]; exact h⟩
  have other : ∀ c, c ≠ a → upd H a o c = H c := fun c h => upd_ne h
  refine { wf := fun c f => ?_, bag := fun c e => ?_, len := by simp [S.len], slot := fun j s' hj => ?_, inj := S.inj, nb := S.nb, oat := fun j c h => ?_, tabs := S.tabs.ext (TabE.upd np no) }
  · obtain ⟨o', q⟩ := S.wf c f
    exact ⟨o', by rw [other c fun e => nf (e ▸ f)]; exact q⟩
  · obtain ⟨q, n⟩ := S.bag c e
    exact ⟨by rw [other c fun z => S.nb i a hi (z ▸ e)]; exact q, n⟩
  · by_cases e : j = i
    · subst e
      rw [List.getElem?_set_self hlt] at hj
      cases hj
      rw [hi]
      exact hs
    · rw [List.getElem?_set_ne (Ne.symm e)] at hj
      have hne : ∀ c, ow j = some c → c ≠ a := fun c hc z => e (S.inj j i a (z ▸ hc) hi)
      have q := S.slot j s' hj
      cases s' with
      | val d => obtain ⟨v, e1, r⟩ := q; exact ⟨v, e1, r.up m⟩
      | own ds => obtain ⟨c, vs, e0, e1, nf', h1, r⟩ := q; exact ⟨c, vs, e0, e1, nf', by rw [other c (hne c e0)]; exact h1, r.up m⟩
      | ownd ds => obtain ⟨c, vs, e0, e1, nf', h1, r⟩ := q; exact ⟨c, vs, e0, e1, nf', by rw [other c (hne c e0)]; exact h1, r.up m⟩
      | bag => exact q
  · by_cases e : c = a
    · exact ⟨o, by rw [e]; exact upd_same, no⟩
    · obtain ⟨o', q⟩ := S.oat j c h
      exact ⟨o', by rw [other c e]; exact q⟩
/-- a thing of the frame's own is frozen: from now on a value -/
theorem StR.freeze (S : StR K b F H ow σ ρ g) {i : Nat} {ds : List D} (h : ρ[i]? = some (some (.own ds))) :
    ∃ a vs, ow i = some a ∧ ¬ F a ∧ H a = some (.lst vs) ∧ StR K b (addF F a) H (owSet ow i none) σ (ρ.set i (some (.val (.list ds)))) g := by
  obtain ⟨a, vs, e0, e1, nf, h1, r⟩ := S.slot i _ h
  refine ⟨a, vs, e0, nf, h1, ?_⟩
  have m : Mono F H (addF F a) H := ⟨fun _ f => .inl f, fun _ _ _ h => h, fun _ _ h => h, fun _ _ _ _ h => h⟩
  have hlt : i < ρ.length := by
    rcases Nat.lt_or_ge i ρ.length with q | q
    · exact q
    · rw [List.getElem?_eq_none_iff.mpr q] at h; cases h
  refine { wf := fun c f => ?_, bag := fun c e => ?_, len := by simp [S.len], slot := fun j s' hj => ?_, inj := fun i' j' c h1 h2 => ?_, nb := fun j c q => ?_, oat := fun j c q => ?_, tabs := S.tabs }
  · rcases f with f | rfl
    · exact S.wf c f
    · exact ⟨_, h1, nt_lst⟩
  · obtain ⟨q, n⟩ := S.bag c e
    refine ⟨q, ?_⟩
    rintro (f | rfl)
    · exact n f
    · exact S.nb i c e0 e
  · by_cases e : j = i
    · subst e
      rw [List.getElem?_set_self hlt] at hj
      cases hj
      exact ⟨.ref a, e1, .lst (.inl ⟨.inr rfl, .inl h1⟩) (r.up m)⟩
    · rw [List.getElem?_set_ne (Ne.symm e)] at hj
      have hne : ∀ c, ow j = some c → c ≠ a := fun c hc z => e (S.inj j i a (z ▸ hc) e0)
      have q := S.slot j s' hj
      unfold owSet
      rw [if_neg e]
      cases s' with
      | val d => obtain ⟨v, e1, r⟩ := q; exact ⟨v, e1, r.up m⟩
      | own ds => obtain ⟨c, vs, e0, e1, nf', h1, r⟩ := q; exact ⟨c, vs, e0, e1, fun f => f.elim nf' (hne c e0), h1, r.up m⟩
      | ownd ds => obtain ⟨c, vs, e0, e1, nf', h1, r⟩ := q; exact ⟨c, vs, e0, e1, fun f => f.elim nf' (hne c e0), h1, r.up m⟩
      | bag => exact q
  · unfold owSet at h1 h2
    by_cases e1 : i' = i
    · simp [e1] at h1
    · by_cases e2 : j' = i
      · simp [e2] at h2
      · rw [if_neg e1] at h1; rw [if_neg e2] at h2; exact S.inj _ _ _ h1 h2
  · exact S.nb j c (ow_none q)
  · exact S.oat j c (ow_none q)
end

section
variable {C : FrC} {X : Cx} {ct : Nat → ClsInfo} {W : WS} {pos : Pos} {K : PySem.W.Frag} {F F' F1 F2 F0 : Addr → Prop} {H H' H1 H2 H0 : Hp} {b : Option Addr} {g g' : List Int} {ow : Nat → Option Addr} {σ : L2.St} {ρ : Env}

/-- what may be assigned -/
inductive Ad where
  | v (d : Env → M D)
  | l (d : Env → M (List D))
  | k (d : Env → M (List (D × D)))
def Ad.run : Ad → Env → M Slot
  | .v d, ρ => fun g => (d ρ g).bind fun x g1 => .ok (.val x) g1
  | .l d, ρ => fun g => (d ρ g).bind fun x g1 => .ok (.own x) g1
  | .k d, ρ => fun g => (d ρ g).bind fun x g1 => .ok (.ownd x) g1
def PVS (K : PySem.W.Frag) (b : Option Addr) (H : Hp) (Q : VK) : Slot → List Int → (Addr → Prop) → Hp → Prop := fun s _ F' H' => ∀ v oa, NewS K b H F' H' v s oa → Q v H'
def rdAd (K : PySem.W.Frag) (ct : Nat → ClsInfo) (W : WX) (ad : Ad) : TE := fun σ H Q =>
  ∃ b F ow ρ g, StR K b F H ow σ ρ g ∧ Out K ct b F H (fun c dx H' => W c dx σ H') (PVS K b H Q) (ad.run ρ g)
def SAd (X : Cx) (ct : Nat → ClsInfo) (ad : Ad) (e : Expr) : Prop := ∀ W : WX, Takes X W → PE X e (rdAd X.K ct W ad)
theorem sad_v {e : Expr} {d : Env → M D} (h : SE X ct d e) : SAd X ct (.v d) e := fun W tk => peW (h W tk) fun σ H Q ⟨b, F, ow, ρ, g, S, o⟩ =>
  ⟨b, F, ow, ρ, g, S, Out.imp (P := fun x g' F' H' => Out X.K ct b F' H' _ (PVS X.K b H Q) (.ok (.val x) g')) (Out.bind o) fun x g' F' H' e B p v r => Out.ok p B v none (.val r)⟩

/-- fresh lists, fresh dicts -/
def PVF (K : PySem.W.Frag) (b : Option Addr) (H : Hp) (Q : VK) : List D → List Int → (Addr → Prop) → Hp → Prop := fun ds _ F' H' => ∀ p vs, Nn H p → ¬ F' p → b ≠ some p → H' p = some (.lst vs) → RepAll K F' H' vs ds → Q (.ref p) H'
def rdF (K : PySem.W.Frag) (ct : Nat → ClsInfo) (W : WX) (d : Env → M (List D)) : TE := fun σ H Q =>
  ∃ b F ow ρ g, StR K b F H ow σ ρ g ∧ Out K ct b F H (fun c dx H' => W c dx σ H') (PVF K b H Q) (d ρ g)
def SF (X : Cx) (ct : Nat → ClsInfo) (d : Env → M (List D)) (e : Expr) : Prop := ∀ W : WX, Takes X W → PE X e (rdF X.K ct W d)
def PVFd (K : PySem.W.Frag) (b : Option Addr) (H : Hp) (Q : VK) : List (D × D) → List Int → (Addr → Prop) → Hp → Prop := fun ds _ F' H' => ∀ p u, Nn H p → ¬ F' p → b ≠ some p → H' p = some u → RepDo K F' H' p u ds → Q (.ref p) H'
def rdFd (K : PySem.W.Frag) (ct : Nat → ClsInfo) (W : WX) (d : Env → M (List (D × D))) : TE := fun σ H Q =>
  ∃ b F ow ρ g, StR K b F H ow σ ρ g ∧ Out K ct b F H (fun c dx H' => W c dx σ H') (PVFd K b H Q) (d ρ g)
def SFd (X : Cx) (ct : Nat → ClsInfo) (d : Env → M (List (D × D))) (e : Expr) : Prop := ∀ W : WX, Takes X W → PE X e (rdFd X.K ct W d)
theorem sad_l {e : Expr} {d : Env → M (List D)} (h : SF X ct d e) : SAd X ct (.l d) e := fun W tk => peW (h W tk) fun σ H Q ⟨b, F, ow, ρ, g, S, o⟩ =>
  ⟨b, F, ow, ρ, g, S, Out.imp (P := fun x g' F' H' => Out X.K ct b F' H' _ (PVS X.K b H Q) (.ok (.own x) g')) (Out.bind o) fun x g' F' H' e B p q vs h0 nf nb h1 r => Out.ok p B _ (some q) (.own h0 nf nb h1 r)⟩
theorem sad_k {e : Expr} {d : Env → M (List (D × D))} (h : SFd X ct d e) : SAd X ct (.k d) e := fun W tk => peW (h W tk) fun σ H Q ⟨b, F, ow, ρ, g, S, o⟩ =>
  ⟨b, F, ow, ρ, g, S, Out.imp (P := fun x g' F' H' => Out X.K ct b F' H' _ (PVS X.K b H Q) (.ok (.ownd x) g')) (Out.bind o) fun x g' F' H' e B p q vs h0 nf nb h1 r => Out.ok p B _ (some q) (.ownd h0 nf nb h1 r)⟩
/-- a fresh list is a value, too -/
def frL (d : Env → M (List D)) : Env → M D := fun ρ g => (d ρ g).bind fun x g1 => .ok (.list x) g1
def frD (d : Env → M (List (D × D))) : Env → M D := fun ρ g => (d ρ g).bind fun x g1 => .ok (.dict x) g1
theorem ext_frz {p : Addr} {o : HO} (e : Ext b F H F' H') (B : Bg b g F' H') (h0 : Nn H p) (nb : b ≠ some p) (h : H' p = some o) (nt : NT o := by intro _ z; cases z) : Ext b F H (addF F' p) H' ∧ Bg b g (addF F' p) H' := by
  refine ⟨⟨fun a f => .inl (e.mono a f), fun a f => ?_, e.keep0, fun a f => ?_, fun a z => ?_, e.tb⟩, ⟨fun a f => ?_, fun a z => ?_⟩⟩
  · rcases f with f | rfl
    · exact e.fresh a f
    · exact .inr h0
  · rcases f with f | rfl
    · exact e.wf a f
    · exact ⟨_, h, nt⟩
  · obtain ⟨n, q⟩ := e.bag a z
    refine ⟨?_, q⟩
    rintro (f | rfl)
    · exact n f
    · exact nb z
  · rcases f with f | rfl
    · exact e.wf a f
    · exact ⟨_, h, nt⟩
  · obtain ⟨q, n⟩ := B.bag a z
    refine ⟨q, ?_⟩
    rintro (f | rfl)
    · exact n f
    · exact nb z
theorem mono_addF {p : Addr} : Mono F H (addF F p) H := ⟨fun _ f => .inl f, fun _ _ _ h => h, fun _ _ h => h, fun _ _ _ _ h => h⟩
theorem SF.se {e : Expr} {d : Env → M (List D)} (h : SF X ct d e) : SE X ct (frL d) e := fun W tk => peW (h W tk) fun σ H Q ⟨b, F, ow, ρ, g, S, o⟩ =>
  ⟨b, F, ow, ρ, g, S, (Out.bind0 o).imp fun x g' F' H' e B p q vs h0 nf nb h1 r => by
    obtain ⟨e2, B2⟩ := ext_frz e B h0 nb h1
    exact p _ _ e2 B2 _ (.lst (.inl ⟨.inr rfl, .inl h1⟩) (r.up mono_addF))⟩
/-- a value that is locked from now on -/
theorem pe_lockV {e : Expr} {t : TE} (h : PE X e t) : PE X e (fun σ H Q => t σ H fun v H1 => ∃ a u, v = .ref a ∧ H1 a = some u ∧ Mut (some u) ∧ ∀ od, Q v (upd H1 a (.frz od u))) := ⟨fun pins s σ H Q I q => by
  refine thn (h.run pins s σ H _ I q) fun v s1 ⟨x, H1, I1, r1, a, u, ex, h1, mu, k⟩ => ?_
  obtain ⟨od, I2⟩ := I1.lock h1 mu
  exact ⟨x, _, I2, r1, k od⟩⟩
theorem ext_lock {b : Option Addr} {g : List Int} {F0 F : Addr → Prop} {H0 H : Hp} {p : Addr} {od : Obj} {w : HO} (e : Ext b F0 H0 F H) (B : Bg b g F H) (h0 : Nn H0 p) (nf : ¬ F p) (nb : b ≠ some p) (h1 : H p = some w) (pl : Pl w) (nz : ∀ o u, w ≠ .frz o u) (nu' : ∀ ws, w ≠ .tup ws) :
    Ext b F0 H0 (addF F p) (upd H p (.frz od w)) ∧ Bg b g (addF F p) (upd H p (.frz od w)) ∧ Mono F H (addF F p) (upd H p (.frz od w)) := by
  have ne : ∀ c, F c → c ≠ p := fun c f z => nf (z ▸ f)
  have tE : TabE H (upd H p (.frz od w)) := TabE.upd (fun o2 h2 => by rw [h1] at h2; cases h2; exact pl) (by intro _ z; cases z)
  have wf : ∀ c, addF F p c → ∃ o, upd H p (.frz od w) c = some o ∧ NT o := fun c f => by
    rcases f with f | rfl
    · obtain ⟨o', q⟩ := B.wf c f
      exact ⟨o', by rw [upd_ne (ne c f)]; exact q⟩
    · exact ⟨_, upd_same, by intro _ z; cases z⟩
  have nbc : ∀ c, b = some c → c ≠ p := fun c z w => nb (by rw [z, w])
  refine ⟨⟨fun c f => .inl (e.mono c f), fun c f => ?_, fun c u h n nu => ?_, wf, fun c z => ?_, e.tb.trans tE⟩, ⟨wf, fun c z => ?_⟩, ⟨fun c f => .inl f, fun c u f h => ?_, fun c ws h => ?_, fun c _ _ f h => by rw [upd_ne (ne c f)]; exact h⟩⟩
  · rcases f with f | rfl
    · exact e.fresh c f
    · exact .inr h0
  · rw [upd_ne (nn_ne h nu h0)]; exact e.keep0 c u h n nu
  · obtain ⟨n, ws, q⟩ := e.bag c z
    exact ⟨fun f => f.elim n (nbc c z), ws, by rw [upd_ne (nbc c z)]; exact q⟩
  · obtain ⟨q, n⟩ := B.bag c z
    exact ⟨by rw [upd_ne (nbc c z)]; exact q, fun f => f.elim n (nbc c z)⟩
  · rcases h with h | ⟨o', h⟩
    · exact .inl (by rw [upd_ne (ne c f)]; exact h)
    · exact .inr ⟨o', by rw [upd_ne (ne c f)]; exact h⟩
  · rcases h with h | ⟨o', h⟩
    · exact .inl (by rw [upd_ne (fun (z : c = p) => by rw [z, h1] at h; exact nu' _ (Option.some.inj h))]; exact h)
    · exact .inr ⟨o', by rw [upd_ne (fun (z : c = p) => by rw [z, h1] at h; exact nz _ _ (Option.some.inj h))]; exact h⟩
theorem SFd.se {e : Expr} {d : Env → M (List (D × D))} (h : SFd X ct d e) : SE X ct (frD d) e := fun W tk => peW (pe_lockV (h W tk)) fun σ H Q ⟨b, F, ow, ρ, g, S, o⟩ =>
  ⟨b, F, ow, ρ, g, S, (Out.bind0 o).imp fun x g' F' H' e B p q vs h0 nf nb h1 r => by
    refine ⟨q, _, rfl, h1, r.mut, fun od => ?_⟩
    obtain ⟨e2, B2, m⟩ := ext_lock (od := od) e B h0 nf nb h1 r.pl r.nfrz r.ntup
    exact p _ _ e2 B2 _ (.dct (.inr rfl) upd_same (r.up m))⟩
theorem sf_lst {es : List Expr} {r : Env → M (List D)} (h : SA X ct r es) : SF X ct (fun ρ g => (r ρ g).bind fun xs g1 => if xs.length ≤ sizeLine then .ok xs g1 else .fail) (.List es pos) := fun W tk => by
  refine peW (pe_lst (h W tk)) fun σ H Q ⟨b, F, ow, ρ, g, S, o⟩ => ?_
  refine ⟨b, F, ow, ρ, g, S, (Out.bind0 o).imp fun xs g1 F1 H1 e1 B1 o1 vs r1 => ?_⟩
  have n0 : ∀ p, H1 p = none → Nn H p := fun p hp => e1.none_of (B1.neNew hp) (nn_of hp)
  by_cases hl : xs.length ≤ sizeLine
  · rw [if_pos hl] at o1
    refine ⟨by rw [r1.length]; exact hl, fun p hp => ?_⟩
    have nf : ¬ F1 p := fun f => by
      obtain ⟨o', q, _⟩ := B1.wf p f
      rw [hp] at q; cases q
    have e2 := Ext.new (o := .lst vs) B1 hp
    exact o1 F1 _ (e1.trans e2) (B1.new hp) p vs (n0 p hp) nf (B1.neNew hp) upd_same (r1.up (e2.up B1))
  · rw [if_neg hl] at o1; exact o1.elim

/-! ### name = .. -/
theorem SSt.setS (S : SSt C K b F H ow σ ρ g) {F' : Addr → Prop} {H' : Hp} {g' : List Int} (S' : SSt C K b F' H' ow σ ρ g') (i : Nat) {v : V} {s : Slot} {oa : Option Addr} (n : NewS K b H F' H' v s oa) : SSt C K b F' H' (owSet ow i oa) (σ.set i (some v)) (ρ.set i (some s)) g' where
  st := S'.st.setS i n S.st.oat
  fr := S'.fr
  fo := fun j a h => by
    unfold owSet at h
    by_cases e1 : j = i
    · rw [if_pos e1] at h
      cases n with
      | val r => cases h
      | own h0 nf nb h' r => cases h; exact C.new S.fr h0 nb
      | ownd h0 nf nb h' r => cases h; exact C.new S.fr h0 nb
    · rw [if_neg e1] at h; exact S.fo j a h
def sSetA (i : Nat) (ad : Ad) : Env → M Fl := fun ρ g => (ad.run ρ g).bind fun s g1 => .ok (.next (ρ.set i (some s))) g1
theorem ss_setA {i : Nat} {x : Str} {e : Expr} {ad : Ad} {pos' : Pos} (hN : X.N.Nodup) (hi : X.N[i]? = some x) (hx : Loc X.env.scope x) (h : SAd X ct ad e) (hs : swapsWith e (some (.Name x pos')) pos.line X.env = pure false)
    (hf : X.fn x = true ∨ X.env.scope.names.lookup x = some .local) : SS C X ct (sSetA i ad) (.Assign [.Name x pos'] e pos) := fun W tk => by
  refine psW (ps_set hN hi hx (h (WXof W) tk) hs hf) fun D σ H ⟨b, F, ow, ρ, g, S, o⟩ => ?_
  refine ⟨b, F, ow, ρ, g, S.st, (OutS.ofE S o).imp fun s g' F' H' e B p v oa n => ?_⟩
  have S' := S.up e B
  exact p b F' H' _ _ (S.setS S' i n) Mono.refl
/-- x, y = e, e' with plain names -/
def sPar (i j : Nat) (a1 a2 : Ad) : Env → M Fl := fun ρ g => (a1.run ρ g).bind fun s1 g1 => (a2.run ρ g1).bind fun s2 g2 => .ok (.next ((ρ.set i (some s1)).set j (some s2))) g2
theorem par_read {i j : Nat} {a1 a2 : Ad} {σ : L2.St} {H : Hp} {D' : Ends} (h : rdS C X.K ct W (sPar i j a1 a2) D' σ H) :
    tPar i j (tCons (rdAd X.K ct (WXof W) a1) (tCons (rdAd X.K ct (WXof W) a2) tNil)) D' σ H := by
  obtain ⟨b, F, ow, ρ, g, S, o⟩ := h
  refine ⟨b, F, ow, ρ, g, S.st, (OutS.ofE S o).imp fun s1 g1 F1 H1 e1 B1 o1 v1 oa1 n1 => ?_⟩
  have S1 := S.up e1 B1
  refine ⟨b, F1, ow, ρ, g1, S1.st, (OutS.ofE S1 o1).imp fun s2 g2 F2 H2 e2 B2 o2 v2 oa2 n2 => ?_⟩
  have S2 := S1.up e2 B2
  refine ⟨v1, v2, rfl, ?_⟩
  have n1' := n1.up e2 B1
  have T1 := S.setS S2 i n1'
  -- the second one: fresh against the state behind the first
  have oat1 : ∀ k a, owSet ow i oa1 k = some a → ∃ o, H1 a = some o ∧ NT o := fun k a q => by
    unfold owSet at q
    by_cases ek : k = i
    · rw [if_pos ek] at q
      cases n1 with
      | val r => cases q
      | own h0 nf nb h' r => cases q; exact ⟨_, h', nt_lst⟩
      | ownd h0 nf nb h' r => cases q; exact ⟨_, h', r.nt⟩
    · rw [if_neg ek] at q; exact S1.st.oat k a q
  refine o2 b F2 H2 (owSet (owSet ow i oa1) j oa2) _ ⟨T1.st.setS j n2 oat1, T1.fr, fun k a q => ?_⟩ Mono.refl
  unfold owSet at q
  by_cases ek : k = j
  · rw [if_pos ek] at q
    cases n2 with
    | val r => cases q
    | own h0 nf nb h' r => cases q; exact C.new S1.fr h0 nb
    | ownd h0 nf nb h' r => cases q; exact C.new S1.fr h0 nb
  · rw [if_neg ek] at q; exact T1.fo k a q
theorem ss_par {i j : Nat} {x y : Str} {a c : Expr} {a1 a2 : Ad} {px py pt : Pos} {kt k2 pt2} (hc : X.calm = true) (hN : X.N.Nodup) (hi : X.N[i]? = some x) (hj : X.N[j]? = some y) (hij : i ≠ j)
    (hx : X.env.scope.names.lookup x = some .local) (hy : X.env.scope.names.lookup y = some .local) (ha : SAd X ct a1 a) (hb : SAd X ct a2 c) (sa : isStarB a = false) (sb : isStarB c = false)
    (hw : swappedStores [.Tuple [.Name x px, .Name y py] kt pt] (.Tuple [a, c] k2 pt2) X.env = pure (some [x, y])) :
    SS C X ct (sPar i j a1 a2) (.Assign [.Tuple [.Name x px, .Name y py] kt pt] (.Tuple [a, c] k2 pt2) pos) := fun W tk =>
  psW (ps_par hc hN hi hj hij hx hy (pa_cons (ha (WXof W) tk) (pa_cons (hb (WXof W) tk) pa_nil (star_no sb)) (star_no sa)) hw) fun D σ H h => par_read h
/-- target = value, by unpacking -/
def sUnp (tg : Tgt) (d : Env → M D) : Env → M Fl := fun ρ g => (d ρ g).bind fun x g1 => match tg.put x ρ with | some ρ' => .ok (.next ρ') g1 | none => .fail
theorem ss_unp {tge e : Expr} {tg : Tgt} {d : Env → M D} (hg : SG X tg tge) (h : SE X ct d e) (hs : swapsWithSole [tge] e pos.line X.env = pure false) (hw : swappedStores [tge] e X.env = pure none) (h1 : (assignEach [tge] X.env).map (·.2) = [assign tge X.env]) :
    SS C X ct (sUnp tg d) (.Assign [tge] e pos) := fun W tk => by
  refine psW (ps_asg (h (WXof W) tk) hg hs hw h1) fun D σ H ⟨b, F, ow, ρ, g, S, o⟩ => ?_
  refine rs1e S o fun x g' F' H' v S' r o' => ?_
  cases hx : tg.put x ρ with
  | none => rw [hx] at o'; exact o'.elim
  | some ρ' =>
    rw [hx] at o'
    exact gt_read S'.st r hx fun σ' ow' St' hs' _ => o' b F' H' ow' σ' ⟨St', S'.fr, fun k a q => S'.fo k a (hs' k a q)⟩ Mono.refl
end
end PF

set_option Elab.async false
set_option linter.all false
set_option maxRecDepth 100000
set_option maxHeartbeats 2000000
/-! PF7: freezing, loops, what is walked, lists of the frame's own that grow. -/
namespace PF
open PySem PySem.Spec PyProof.Rows L2
variable [TabT]

section
variable {C : FrC} {X : Cx} {ct : Nat → ClsInfo} {W : WS} {pos : Pos} {K : PySem.W.Frag} {F F' F1 F2 F0 : Addr → Prop} {H H' H1 H2 H0 : Hp} {b : Option Addr} {g g' : List Int} {ow : Nat → Option Addr} {σ : L2.St} {ρ : Env}

/-! ### freezing -/
def frz (i : Nat) (ρ : Env) : Env := match ρ[i]? with
  | some (some (.own ds)) => ρ.set i (some (.val (.list ds)))
  | some (some (.ownd ds)) => ρ.set i (some (.val (.dict ds)))
  | _ => ρ
theorem ext_lockM {p : Addr} {od : Obj} {w : HO} (B : Bg b g F H) (nf : ¬ F p) (nb : b ≠ some p) (h1 : H p = some w) (pl : Pl w) (nz : ∀ o u, w ≠ .frz o u) (nu' : ∀ ws, w ≠ .tup ws) :
    TabE H (upd H p (.frz od w)) ∧ Bg b g (addF F p) (upd H p (.frz od w)) ∧ Mono F H (addF F p) (upd H p (.frz od w)) := by
  have ne : ∀ c, F c → c ≠ p := fun c f z => nf (z ▸ f)
  have nbc : ∀ c, b = some c → c ≠ p := fun c z w => nb (by rw [z, w])
  refine ⟨TabE.upd (fun o2 h2 => by rw [h1] at h2; cases h2; exact pl) (by intro _ z; cases z), ⟨fun c f => ?_, fun c z => ?_⟩, ⟨fun c f => .inl f, fun c u f h => ?_, fun c ws h => ?_, fun c _ _ f h => by rw [upd_ne (ne c f)]; exact h⟩⟩
  · rcases f with f | rfl
    · obtain ⟨o', q⟩ := B.wf c f
      exact ⟨o', by rw [upd_ne (ne c f)]; exact q⟩
    · exact ⟨_, upd_same, by intro _ z; cases z⟩
  · obtain ⟨q, n⟩ := B.bag c z
    exact ⟨by rw [upd_ne (nbc c z)]; exact q, fun f => f.elim n (nbc c z)⟩
  · rcases h with h | ⟨o', h⟩
    · exact .inl (by rw [upd_ne (ne c f)]; exact h)
    · exact .inr ⟨o', by rw [upd_ne (ne c f)]; exact h⟩
  · rcases h with h | ⟨o', h⟩
    · exact .inl (by rw [upd_ne (fun (z : c = p) => by rw [z, h1] at h; exact nu' _ (Option.some.inj h))]; exact h)
    · exact .inr ⟨o', by rw [upd_ne (fun (z : c = p) => by rw [z, h1] at h; exact nz _ _ (Option.some.inj h))]; exact h⟩
theorem StR.freezeD (S : StR K b F H ow σ ρ g) {i : Nat} {ds : List (D × D)} (h : ρ[i]? = some (some (.ownd ds))) :
    ∃ a w, ow i = some a ∧ ¬ F a ∧ H a = some w ∧ RepDo K F H a w ds ∧ ∀ od, StR K b (addF F a) (upd H a (.frz od w)) (owSet ow i none) σ (ρ.set i (some (.val (.dict ds)))) g ∧ Mono F H (addF F a) (upd H a (.frz od w)) := by
  obtain ⟨a, w, e0, e1, nf, h1, r⟩ := S.slot i _ h
  refine ⟨a, w, e0, nf, h1, r, fun od => ?_⟩
  obtain ⟨eX, BX, m⟩ := ext_lockM (od := od) S.toBg nf (S.nb i a e0) h1 r.pl r.nfrz r.ntup
  have hlt : i < ρ.length := by
    rcases Nat.lt_or_ge i ρ.length with q | q
    · exact q
    · rw [List.getElem?_eq_none_iff.mpr q] at h; cases h
  refine ⟨{ wf := BX.wf, bag := BX.bag, len := by simp [S.len], slot := fun j s' hj => ?_, inj := fun i' j' c h1 h2 => ?_, nb := fun j c q => ?_, oat := fun j c q => ?_, tabs := S.tabs.ext eX }, m⟩
  · by_cases e : j = i
    · subst e
      rw [List.getElem?_set_self hlt] at hj
      cases hj
      exact ⟨.ref a, e1, .dct (.inr rfl) upd_same (r.up m)⟩
    · rw [List.getElem?_set_ne (Ne.symm e)] at hj
      have hne : ∀ c, ow j = some c → c ≠ a := fun c hc z => e (S.inj j i a (z ▸ hc) e0)
      have q := S.slot j s' hj
      unfold owSet
      rw [if_neg e]
      cases s' with
      | val d => obtain ⟨v, e1, r⟩ := q; exact ⟨v, e1, r.up m⟩
      | own ds => obtain ⟨c, vs, e0, e1, nf', h1, r⟩ := q; exact ⟨c, vs, e0, e1, fun f => f.elim nf' (hne c e0), by rw [upd_ne (hne c e0)]; exact h1, r.up m⟩
      | ownd ds => obtain ⟨c, vs, e0, e1, nf', h1, r⟩ := q; exact ⟨c, vs, e0, e1, fun f => f.elim nf' (hne c e0), by rw [upd_ne (hne c e0)]; exact h1, r.up m⟩
      | bag => exact q
  · unfold owSet at h1 h2
    by_cases e1 : i' = i
    · simp [e1] at h1
    · by_cases e2 : j' = i
      · simp [e2] at h2
      · rw [if_neg e1] at h1; rw [if_neg e2] at h2; exact S.inj _ _ _ h1 h2
  · exact S.nb j c (ow_none q)
  · obtain ⟨o, z, nt⟩ := S.oat j c (ow_none q)
    by_cases e : c = a
    · exact ⟨_, by rw [e]; exact upd_same, by intro _ z; cases z⟩
    · exact ⟨o, by rw [upd_ne e]; exact z, nt⟩
theorem SSt.freeze1 (S : SSt C K b F H ow σ ρ g) (i : Nat) : (∃ F' ow', SSt C K b F' H ow' σ (frz i ρ) g ∧ Mono F H F' H) ∨
    ∃ a u, H a = some u ∧ Mut (some u) ∧ ∀ od, ∃ F' ow', SSt C K b F' (upd H a (.frz od u)) ow' σ (frz i ρ) g ∧ Mono F H F' (upd H a (.frz od u)) := by
  unfold frz
  split
  · rename_i ds hd
    obtain ⟨a, vs, e0, nf, h1, S'⟩ := S.st.freeze hd
    exact .inl ⟨_, _, ⟨S', C.frz S.fr S.bg (S.fo i a e0) nf (S.st.nb i a e0) h1 (by intro _ z; cases z), fun j c q => S.fo j c (ow_none q)⟩, mono_addF⟩
  · rename_i ds hd
    obtain ⟨a, w, e0, nf, h1, rw0, k⟩ := S.st.freezeD hd
    refine .inr ⟨a, _, h1, rw0.mut, fun od => ?_⟩
    obtain ⟨S', m⟩ := k od
    have nt : NT (.frz od w) := by intro _ z; cases z
    have ne : ∀ c, F c → c ≠ a := fun c f z => nf (z ▸ f)
    have f1 : C.Fr b F (upd H a (.frz od w)) := C.wr S.fr S.bg (S.fo i a e0) nf (S.st.nb i a e0) h1 rw0.pl nt
    have B1 : Bg b g F (upd H a (.frz od w)) := by
      refine ⟨fun c f => ?_, fun c z => ?_⟩
      · obtain ⟨o', q⟩ := S.bg.wf c f
        exact ⟨o', by rw [upd_ne (ne c f)]; exact q⟩
      · obtain ⟨q, n⟩ := S.bg.bag c z
        exact ⟨by rw [upd_ne fun w => S.st.nb i a e0 (by rw [z, w])]; exact q, n⟩
    exact ⟨_, _, ⟨S', C.frz f1 B1 (S.fo i a e0) nf (S.st.nb i a e0) upd_same nt, fun j c q => S.fo j c (ow_none q)⟩, m⟩
  · exact .inl ⟨F, ow, S, Mono.refl⟩
def frzAll : List Nat → Env → Env
  | [], ρ => ρ
  | i :: is, ρ => frzAll is (frz i ρ)
def sFrz (is : List Nat) (d : Env → M Fl) : Env → M Fl := fun ρ g => d (frzAll is ρ) g
theorem ss_frz1 {s : Stmt} {i : Nat} {d : Env → M Fl} (h : SS C X ct d s) : SS C X ct (fun ρ g => d (frz i ρ) g) s := fun W tk => by
  refine ⟨fun pins s0 σ H D I hq => ?_⟩
  obtain ⟨b, F, ow, ρ, g, S, o⟩ := hq
  rcases S.freeze1 i with ⟨F', ow', S', m⟩ | ⟨a, u, h1, mu, k⟩
  · exact (h W tk).run pins s0 σ H D I ⟨b, F', ow', _, g, S', OutS.shift (r := d (frz i ρ) g) o m⟩
  · obtain ⟨od, I2⟩ := I.lock h1 mu
    obtain ⟨F', ow', S', m⟩ := k od
    exact (h W tk).run pins s0 σ _ D I2 ⟨b, F', ow', _, g, S', OutS.shift (r := d (frz i ρ) g) o m⟩
theorem ss_frz {s : Stmt} {d : Env → M Fl} (h : SS C X ct d s) : ∀ {is : List Nat}, SS C X ct (sFrz is d) s
  | [] => h
  | i :: is => ss_frz1 (i := i) (ss_frz h (is := is))

/-! ### what is walked -/
/-- J gives the items xs, from any state that has grown from F0 H0 -/
def Walks (K : PySem.W.Frag) (J : It) (F0 : Addr → Prop) (H0 : Hp) (xs : List D) : Prop :=
  ∀ (i : Nat) (b : Option Addr) (g : List Int) (F : Addr → Prop) (H : Hp), Mono F0 H0 F H → Bg b g F H →
    (∀ x, xs[i]? = some x → J.go i H ∧ ∀ v H', J.yld i H v H' → Ext b F H F H' ∧ Bg b g F H' ∧ Rep K F H' v x) ∧ (xs[i]? = none → J.stop i H)
def rdI (K : PySem.W.Frag) (ct : Nat → ClsInfo) (W : WX) (d : Env → M (List D)) : TI := fun σ H R =>
  ∃ b F ow ρ g, StR K b F H ow σ ρ g ∧ Out K ct b F H (fun c dx H' => W c dx σ H') (fun xs g' F' H' => ∀ J, Walks K J F' H' xs → R J H') (d ρ g)
def SI (X : Cx) (ct : Nat → ClsInfo) (tg : Expr) (d : Env → M (List D)) (e : Expr) : Prop := ∀ W : WX, Takes X W → PI X tg e (rdI X.K ct W d)
theorem piW {tg e : Expr} {t t' : TI} (h : PI X tg e t) (i : ∀ σ H Q, t' σ H Q → t σ H Q) : PI X tg e t' := ⟨fun pins s σ H Q I q => h.run pins s σ H Q I (i σ H Q q)⟩
theorem si_fail {tg e : Expr} : SI X ct tg dFail e := fun W tk => ⟨fun _ _ _ _ _ _ h => by obtain ⟨_, _, _, _, _, _, o⟩ := h; exact o.elim⟩
theorem get_of_ge {α : Type} {xs : List α} {i : Nat} (h : xs[i]? = none) : xs.length ≤ i := List.getElem?_eq_none_iff.mp h
theorem walks_list {a : Addr} {vs : List V} {xs : List D} (h : LstAt K F0 H0 a vs) (r : RepAll K F0 H0 vs xs) : Walks K (Itl K a) F0 H0 xs := fun i b g F H m B => by
  have h' := (h.up m).seq
  have r' := r.up m
  refine ⟨fun x hx => ?_, fun hn => ⟨vs, h', by rw [r.length]; exact get_of_ge hn⟩⟩
  obtain ⟨v, hv, rv⟩ := r'.get hx
  refine ⟨⟨vs, v, h', hv⟩, fun w H' hy => ?_⟩
  obtain ⟨rfl, hw⟩ := hy
  have e : some w = some v := (hw vs h').symm.trans hv
  cases e
  exact ⟨Ext.refl B, B, rv⟩
theorem walks_tup {a : Addr} {vs : List V} {xs : List D} (h : SqT K H0 a vs) (r : RepAll K F0 H0 vs xs) : Walks K (Itt K a) F0 H0 xs := fun i b g F H m B => by
  have h' := sqT_up h m
  have r' := r.up m
  refine ⟨fun x hx => ?_, fun hn => ⟨vs, h', by rw [r.length]; exact get_of_ge hn⟩⟩
  obtain ⟨v, hv, rv⟩ := r'.get hx
  refine ⟨⟨vs, v, h', hv⟩, fun w H' hy => ?_⟩
  obtain ⟨rfl, hw⟩ := hy
  have e : some w = some v := (hw vs h').symm.trans hv
  cases e
  exact ⟨Ext.refl B, B, rv⟩
/-- lo, lo + 1, .., n of them -/
def rngD (lo : Int) (n : Nat) : List D := (List.range n).map fun i => .int (lo + (i : Nat))
theorem rngD_get {lo : Int} {n i : Nat} : (rngD lo n)[i]? = if i < n then some (.int (lo + (i : Nat))) else none := by
  unfold rngD
  rw [List.getElem?_map]
  by_cases h : i < n
  · rw [if_pos h, List.getElem?_range h]; rfl
  · rw [if_neg h, List.getElem?_eq_none_iff.mpr (by simpa using h)]; rfl
theorem walks_range {lo : Int} {n : Nat} : Walks K (Itr lo n) F0 H0 (rngD lo n) := fun i b g F H m B => by
  rw [rngD_get]
  by_cases h : i < n
  · rw [if_pos h]
    refine ⟨fun x hx => ⟨h, fun v H' hy => ?_⟩, fun hn => nomatch hn⟩
    obtain ⟨e1, e2⟩ : H' = H ∧ v = .int (lo + i) := hy
    subst e1 e2
    cases hx
    exact ⟨Ext.refl B, B, .int _⟩
  · rw [if_neg h]
    exact ⟨fun x hx => (nomatch hx), fun _ => (show n ≤ i by omega)⟩
/-- a dict that is locked: its keys -/
theorem walks_keys {a : Addr} {od : Obj} {kvs : List (Key × V)} {ps : List (D × D)} (f : F0 a) (h : H0 a = some (.frz od (.dK kvs))) (r : RepKv K F0 H0 kvs ps) : Walks K (Itk a od kvs) F0 H0 (ps.map (·.1)) := fun i b g F H m B => by
  have h' := m.fx _ _ _ f h
  have get : ∀ {kvs : List (Key × V)} {ps : List (D × D)}, RepKv K F0 H0 kvs ps → ∀ i : Nat, (∀ x, (ps.map (·.1))[i]? = some x → ∃ k v, kvs[i]? = some (k, v) ∧ x = kD k) ∧ ((ps.map (·.1))[i]? = none → kvs.length ≤ i) := by
    intro kvs ps r
    induction ps generalizing kvs with
    | nil => cases r; exact fun i => ⟨fun x hx => by simp at hx, fun _ => Nat.zero_le _⟩
    | cons p ps ih =>
      cases r with
      | cons r t =>
        rintro (_ | i)
        · exact ⟨fun x hx => ⟨_, _, rfl, by simpa using hx.symm⟩, fun hn => by simp at hn⟩
        · obtain ⟨a, b⟩ := ih t i
          exact ⟨fun x hx => a x (by simpa using hx), fun hn => by have := b (by simpa using hn); rw [List.length_cons]; omega⟩
  obtain ⟨g1, g2⟩ := get r i
  refine ⟨fun x hx => ?_, fun hn => ⟨h', g2 hn⟩⟩
  obtain ⟨k, v, hk, rfl⟩ := g1 x hx
  refine ⟨⟨h', (List.getElem?_eq_some_iff.mp hk).1⟩, fun u H' hy => ?_⟩
  obtain ⟨rfl, k', v', hk', rfl⟩ := hy
  rw [hk] at hk'
  cases hk'
  refine ⟨Ext.refl B, B, ?_⟩
  cases k with
  | inl i => exact .int i
  | inr x => exact .str x
/-- .. with keys that are tuples -/
def Itke (d : Addr) (o : Obj) (xs : List En) : It :=
  ⟨fun i H => H d = some (.frz o (entsO d xs)) ∧ i < xs.length, fun i H x H' => H' = H ∧ ∃ en, xs[i]? = some en ∧ x = .ref en.2.1, fun i H => H d = some (.frz o (entsO d xs)) ∧ xs.length ≤ i⟩
theorem frzE {X : Cx} {pins : List (Addr × Obj)} {σ : L2.St} {H : Hp} {s : Shared} {d : Addr} {o : Obj} {xs : List En} (I : Inv X pins σ H s) (h : H d = some (.frz o (entsO d xs))) :
    (d == sysModules) = false ∧ s.heap.get? d = some o ∧ o.ExactDict ∧ ∃ (es : Array DictEntry) (ep : Nat), o.data = .dict es ep ∧ es.size = xs.length ∧ ∀ (i : Nat) (en : En), xs[i]? = some en → es[i]? = some (ent0 en) := by
  obtain ⟨hd, ⟨⟨hs, z, o', es, ep, ho, hx, hdt, he, _⟩, _⟩⟩ := (show ObjOk X.prog X.w H s.heap d (.frz o (entsO d xs)) from I.hok d _ h)
  rw [hd] at ho
  cases ho
  refine ⟨hs, hd, hx, es, ep, hdt, ?_, fun i en e => ?_⟩
  · have := congrArg List.length he
    rw [List.length_map] at this
    simpa using this
  · have : es.toList[i]? = (xs.map ent0)[i]? := by rw [he]
    rw [List.getElem?_map, e, Array.getElem?_toList] at this
    exact this
theorem turn_keysE {P : Program} {w : World} {K : PySem.W.Frag} {tg : Expr} {d : Addr} {o : Obj} {es : Array DictEntry} {ep : Nat} {xs : List En} (it : Addr) (hod : o.data = .dict es ep) : Turn P w K tg (Itke d o xs) [it] it (fun i h => h.IsKeyIter it d i xs.length ep) where
  mem := by simp
  obj := fun i h st b hb => by
    have e : b = it := by simpa using hb
    subst e
    obtain ⟨oi, e, c, dd⟩ := st
    exact ⟨oi, e, fun v z => by rw [dd] at z; cases z⟩
  keep := fun i h h' st k => st.at fun oi e => k it (by simp) oi e
  item := by
    intro X hP hw hK hc i pins s σ H E I hf st hg
    subst hP hw hK
    obtain ⟨hd, hi⟩ := hg
    obtain ⟨f0, f1, f2, f3, f4, f5⟩ := hf it (by simp)
    obtain ⟨hs, hgd, hx, es', ep', hdt, hsz, ent⟩ := frzE I hd
    obtain ⟨rfl, rfl⟩ := dict_ep hod hdt
    have hkv : xs[i]? = some xs[i] := List.getElem?_eq_getElem hi
    refine next_key_item st hgd hdt hsz (ent i _ hkv) fun h' st' sb => ?_
    have I1 : Inv X pins σ H { s with heap := h' } := I.turned (t' := s.toks) (fun b ob hb e => (sb.2 b hb).trans e) f0 f1 f3 f4 f5
    obtain ⟨oi, e, c, dd⟩ := id st'
    exact ⟨_, rfl, go_of (s := { s with heap := h' }) e c dd (by decide) ⟨.ref xs[i].2.1, H, I1, rfl, ⟨rfl, xs[i], hkv, rfl⟩, st', fun b hb => (hf b hb).1⟩⟩
  done := by
    intro X hP hw hK hc i pins s σ H E I hf st hg
    subst hP hw hK
    obtain ⟨hd, hi⟩ := hg
    obtain ⟨f0, f1, f2, f3, f4, f5⟩ := hf it (by simp)
    obtain ⟨hs, hgd, hx, es', ep', hdt, hsz, ent⟩ := frzE I hd
    obtain ⟨rfl, rfl⟩ := dict_ep hod hdt
    exact next_key_end (I.ok.hd hc) st hgd hdt hsz hi fun h' eb => ⟨rfl, I.turned (t' := s.toks) (fun b ob hb e => eb b ob hb e) f0 f1 f3 f4 f5⟩
  self := fun A i s Q E st h => by
    refine wpAny_pyIter_slot st.typeIs F.slot_dict_keyiterator_iter (wpAny_call_entry F.slot_dict_keyiterator_iter st.typeIs F.entry_dict_keyiterator_iter ?_ (F.args_dict_keyiterator_iter_1 _))
    show wpAny _ _ (ret (.ref it)) _ _ s
    exact wpAny_pure ⟨_, rfl, "dict_keyiterator", _, st.typeIs, F.slot_dict_keyiterator_next.lookup, h⟩
theorem repEn_get {K : PySem.W.Frag} {F : Addr → Prop} {H : Hp} : ∀ {xs : List En} {ps : List (D × D)}, RepEn K F H xs ps → ∀ i : Nat, (∀ p, ps[i]? = some p → ∃ en v, xs[i]? = some en ∧ Rep K F H (.ref en.2.1) p.1 ∧ RelV v en.2.2 ∧ Rep K F H v p.2) ∧ (ps[i]? = none → xs.length ≤ i)
  | _, _, .nil, i => ⟨fun p hp => by simp at hp, fun _ => Nat.zero_le _⟩
  | _, _, .cons k q r t, 0 => ⟨fun p hp => by
      have hp := Option.some.inj hp
      subst hp
      exact ⟨_, _, rfl, k, q, r⟩, fun hn => by simp at hn⟩
  | _, _, .cons k q r t, i + 1 => by
    obtain ⟨a, b⟩ := repEn_get t i
    exact ⟨fun p hp => a p (by simpa using hp), fun hn => by
      have := b (by simpa using hn)
      rw [List.length_cons]; omega⟩
theorem walks_keysE {a : Addr} {od : Obj} {xs : List En} {ps : List (D × D)} (f : F0 a) (h : H0 a = some (.frz od (entsO a xs))) (r : RepEn K F0 H0 xs ps) : Walks K (Itke a od xs) F0 H0 (ps.map (·.1)) := fun i b g F H m B => by
  have h' := m.fx _ _ _ f h
  obtain ⟨g1, g2⟩ := repEn_get r i
  rw [List.getElem?_map]
  refine ⟨fun x hx => ?_, fun hn => ⟨h', g2 (by simpa using hn)⟩⟩
  obtain ⟨p, hp, rfl⟩ := Option.map_eq_some_iff.mp hx
  obtain ⟨en, v, he, rk, _, _⟩ := g1 p hp
  refine ⟨⟨h', (List.getElem?_eq_some_iff.mp he).1⟩, fun u H' hy => ?_⟩
  obtain ⟨rfl, en', he', rfl⟩ := hy
  rw [he] at he'
  cases he'
  exact ⟨Ext.refl B, B, rk.up m⟩
/-- a value that is walked: a list, a tuple or a dict -/
def itemsI : D → Option (List D)
  | .list xs => some xs
  | .tuple xs => some xs
  | .dict ps => if excP ps = true then none else some (ps.map (·.1))
  | _ => none
def iSeq (d : Env → M D) : Env → M (List D) := fun ρ g => (d ρ g).bind fun x g1 => match itemsI x with | some xs => .ok xs g1 | none => .fail
/-- one rule for both: the value's kind is known only then -/
theorem pi_both {tg e : Expr} {te : TE} (he : PE X e te) : PI X tg e (fun σ H R => te σ H fun x H1 => ∃ a, x = .ref a ∧ ((∃ xs, SqL X.K H1 a xs ∧ R (Itl X.K a) H1) ∨ (∃ xs, SqT X.K H1 a xs ∧ R (Itt X.K a) H1) ∨ (∃ od kvs, H1 a = some (.frz od (.dK kvs)) ∧ R (Itk a od kvs) H1) ∨ (∃ od xs, H1 a = some (.frz od (entsO a xs)) ∧ R (Itke a od xs) H1))) := by
  refine ⟨fun pins s σ H R I q => ?_⟩
  refine thn (he.run pins s σ H _ I q) fun v s1 ⟨x, H1, I1, r1, a, e1, hh⟩ => ?_
  subst e1
  cases r1
  rcases hh with ⟨xs, hq, q⟩ | ⟨xs, hq, q⟩ | ⟨od, kvs, hd, q⟩ | ⟨od, xs, hd, q⟩
  · obtain ⟨its, rv, p, hz⟩ := I1.list hq
    refine wpAny_pyIter_list p.isList ?_
    refine ⟨s1.heap.objs.size, [s1.heap.objs.size], _, _, H1, rfl, I1.kept (t' := s1.toks) fun b o e => Heap.get?_push_of_some _ e, turn_list a _, ⟨_, Heap.get?_push_size _ rfl, rfl, rfl⟩, fun b hb => ?_, q⟩
    have e : b = s1.heap.objs.size := by simpa using hb
    subst e
    exact I1.fpOk (Nat.le_refl _) (I1.hok.fresh (Nat.le_refl _))
  · obtain ⟨its, rv, p, hz⟩ := I1.tuple hq
    refine wpAny_pyIter_tuple (show s1.heap.IsTuple a its.toArray from p) ?_
    refine ⟨s1.heap.objs.size, [s1.heap.objs.size], _, _, H1, rfl, I1.kept (t' := s1.toks) fun b o e => Heap.get?_push_of_some _ e, turn_tuple a _, ⟨_, Heap.get?_push_size _ rfl, rfl, rfl⟩, fun b hb => ?_, q⟩
    have e : b = s1.heap.objs.size := by simpa using hb
    subst e
    exact I1.fpOk (Nat.le_refl _) (I1.hok.fresh (Nat.le_refl _))
  · obtain ⟨hs, hgd, hx, es, ep, vs, hdt, hsz, kv, hm⟩ := I1.frzK hd
    refine iter_keys hs hgd hx hdt (pi_one (tk := s1.toks) I1 _ (turn_keys _ hdt) ⟨_, Heap.get?_push_size _ rfl, rfl, ?_⟩ q)
    rw [hsz]
    rfl
  · obtain ⟨hs, hgd, hx, es, ep, hdt, hsz, ent⟩ := frzE I1 hd
    refine iter_keys hs hgd hx hdt (pi_one (tk := s1.toks) I1 _ (turn_keysE _ hdt) ⟨_, Heap.get?_push_size _ rfl, rfl, ?_⟩ q)
    rw [hsz]
    rfl
theorem si_seq {tg e : Expr} {d : Env → M D} (h : SE X ct d e) : SI X ct tg (iSeq d) e := fun W tk => by
  refine piW (pi_both (h W tk)) fun σ H R ⟨b, F, ow, ρ, g, S, o⟩ => ?_
  refine ⟨b, F, ow, ρ, g, S, Out.imp (P := fun x g' F' H' => Out X.K ct b F' H' _ (fun xs g' F' H' => ∀ J, Walks X.K J F' H' xs → R J H') ((match itemsI x with | some xs => Res.ok xs g' | none => Res.fail))) (Out.bind o) fun x g' F' H' e B p v r => ?_⟩
  cases x <;> first | (exact p.elim) | skip
  · cases r with
    | lst h q => exact ⟨_, rfl, .inl ⟨_, h.seq, Out.ok p B _ (walks_list h q)⟩⟩
  · cases r with
    | tup h q => exact ⟨_, rfl, .inr (.inl ⟨_, h, Out.ok p B _ (walks_tup h q)⟩)⟩
  · rename_i ps
    by_cases hx : excP ps = true
    · have p : Out X.K ct b F' H' _ _ ((match (if excP ps = true then none else some (ps.map (·.1)) : Option (List D)) with | some xs => Res.ok xs g' | none => Res.fail)) := p
      rw [if_pos hx] at p
      exact p.elim
    have p : Out X.K ct b F' H' _ _ ((match (if excP ps = true then none else some (ps.map (·.1)) : Option (List D)) with | some xs => Res.ok xs g' | none => Res.fail)) := p
    rw [if_neg hx] at p
    cases r with
    | exc _ _ _ _ => exact absurd rfl hx
    | excf _ _ _ _ _ _ _ => exact absurd rfl hx
    | dct f h q =>
      cases q with
      | dk e q => subst e; exact ⟨_, rfl, .inr (.inr (.inl ⟨_, _, h, Out.ok p B _ (walks_keys f h q)⟩))⟩
      | en e q => subst e; exact ⟨_, rfl, .inr (.inr (.inr ⟨_, _, h, Out.ok p B _ (walks_keysE f h q)⟩))⟩
/-- range -/
def okRg (i : Int) : Bool := decide (-(2 ^ 62) ≤ i) && decide (i < 2 ^ 62)
def iRng1D (d : Env → M D) : Env → M (List D) := fun ρ g => (d ρ g).bind fun x g1 => match x with | .int j => (if okRg j = true then .ok (rngD 0 j.toNat) g1 else .fail) | _ => .fail
def iRng2D (d d2 : Env → M D) : Env → M (List D) := fun ρ g => (d ρ g).bind fun x g1 => (d2 ρ g1).bind fun y g2 => match x, y with | .int i, .int j => (if (okRg i && okRg j) = true then .ok (rngD i (j - i).toNat) g2 else .fail) | _, _ => .fail
theorem pa_so1 {a : Expr} {da : Env → M D} {W : WX} (h : SO X ct da a) (tk : Takes X W) (hs : isStarB a = false) : PA X [a] (tCons (rdO X.K ct W da) tNil) := pa_cons (h W tk) pa_nil (star_no hs)
theorem pa_so2 {a c : Expr} {da dc : Env → M D} {W : WX} (h : SO X ct da a) (h2 : SO X ct dc c) (tk : Takes X W) (hs : isStarB a = false) (hs2 : isStarB c = false) : PA X [a, c] (tCons (rdO X.K ct W da) (tCons (rdO X.K ct W dc) tNil)) :=
  pa_cons (h W tk) (pa_cons (h2 W tk) pa_nil (star_no hs2)) (star_no hs)
theorem si_range1 {tg a : Expr} {da : Env → M D} {p : Pos} (hg : Gl X "range") (hm : X.mg "range" = none) (ha : SO X ct da a) (hs : isStarB a = false) : SI X ct tg (iRng1D da) (.Call (.Name "range" p) [a] [] pos) := fun W tk => by
  refine piW (pi_range1 hg hm (pa_so1 ha tk hs) (star_no hs)) fun σ H R ⟨b, F, ow, ρ, g, S, o⟩ => ?_
  refine rd1 S o fun x g1 F1 H1 v e1 S1 r1 o1 => ?_
  cases x <;> first | (exact o1.elim) | skip
  rename_i j
  dsimp only at o1
  split at o1
  · rename_i hj
    simp only [okRg, Bool.and_eq_true, decide_eq_true_eq] at hj
    exact ⟨j, by rw [r1.int], hj.1, hj.2, Out.ok o1 S1.toBg _ walks_range⟩
  · exact o1.elim
theorem si_range2 {tg a c : Expr} {da dc : Env → M D} {p : Pos} (hg : Gl X "range") (hm : X.mg "range" = none) (ha : SO X ct da a) (hc : SO X ct dc c) (hs : isStarB a = false) (hs2 : isStarB c = false) : SI X ct tg (iRng2D da dc) (.Call (.Name "range" p) [a, c] [] pos) := fun W tk => by
  refine piW (pi_range2 hg hm (pa_so2 ha hc tk hs hs2) (by rw [star_no hs, star_no hs2]; rfl) (by rw [star_no hs2]; rfl)) fun σ H R ⟨b, F, ow, ρ, g, S, o⟩ => ?_
  refine rd1 S o fun x g1 F1 H1 v e1 S1 r1 o1 => ?_
  refine rd1 S1 o1 fun y g2 F2 H2 w e2 S2 r2 o2 => ?_
  cases x <;> first | (exact o2.elim) | skip
  cases y <;> first | (exact o2.elim) | skip
  rename_i i j
  dsimp only at o2
  split at o2
  · rename_i hj
    simp only [okRg, Bool.and_eq_true, decide_eq_true_eq] at hj
    exact ⟨i, j, by rw [r1.int, r2.int], ⟨hj.1.1, hj.1.2, hj.2.1, hj.2.2⟩, Out.ok o2 S2.toBg _ walks_range⟩
  · exact o2.elim

/-! ### for -/
def sFor (tg : Tgt) (body : Env → M Fl) : List D → Env → M Fl
  | [], ρ => fun g => .ok (.next ρ) g
  | x :: xs, ρ => fun g => match tg.put x ρ with
    | some ρ1 => (body ρ1 g).bind fun f g1 => match f with | .next ρ2 => sFor tg body xs ρ2 g1 | .ret z => .ok (.ret z) g1
    | none => .fail
def sForD (tg : Tgt) (it : Env → M (List D)) (body : Env → M Fl) : Env → M Fl := fun ρ g => (it ρ g).bind fun xs g1 => sFor tg body xs ρ g1
theorem ss_for {tge iter : Expr} {body : List Stmt} {tg : Tgt} {it : Env → M (List D)} {bd : Env → M Fl} (hp : ∀ W, Takes X (WXof W) → PassesOwn (model X.prog X.w) X.A X.env X.xe) (hc : X.calm = true) (hg : SG X tg tge) (hi : SI X ct tge it iter) (hb : SSs C X ct bd body)
    (hs : ∀ x, foldedSetIterable iter X.env x = pure x) : SS C X ct (sForD tg it bd) (.For tge iter body [] pos) := fun W tk => by
  refine psW (ps_for (hp W tk) hc (hi (WXof W) tk) hg (hb W tk) hs) fun D σ H ⟨b, F, ow, ρ, g, S, o⟩ => ?_
  refine ⟨b, F, ow, ρ, g, S.st, (OutS.ofE S o).imp fun xs g1 F1 H1 e1 B1 o1 J hJ => ?_⟩
  have S1 := S.up e1 B1
  refine ⟨fun i m σ' H' => ∃ b' F' ow' ρ' g', SSt C X.K b' F' H' ow' σ' ρ' g' ∧ Mono F1 H1 F' H' ∧ m = xs.length - i ∧ i ≤ xs.length ∧ OutS C X.K ct F' H' W D (sFor tg bd (xs.drop i) ρ' g'), ⟨xs.length, b, F1, ow, ρ, g1, S1, Mono.refl, rfl, Nat.zero_le _, o1⟩, ?_⟩
  rintro i m σ' H' ⟨b', F', ow', ρ', g', S', mo, rfl, hi', o'⟩
  obtain ⟨w1, w2⟩ := hJ i b' g' F' H' mo S'.bg
  by_cases hlt : i < xs.length
  · have hget : xs[i]? = some xs[i] := List.getElem?_eq_getElem hlt
    obtain ⟨hgo, hy⟩ := w1 _ hget
    have hdrop : xs.drop i = xs[i] :: xs.drop (i + 1) := List.drop_eq_getElem_cons hlt
    rw [hdrop] at o'
    refine .inr ⟨hgo, fun σ2 H2 => ∃ b2 F2 ow2 ρ2 g2, SSt C X.K b2 F2 H2 ow2 σ2 ρ2 g2 ∧ Mono F1 H1 F2 H2 ∧ OutS C X.K ct F2 H2 W D (sFor tg bd (xs.drop (i + 1)) ρ2 g2), ?_, fun v H'' hv => ?_⟩
    · rintro σ2 H2 ⟨b2, F2, ow2, ρ2, g2, S2, m2, o2⟩
      exact ⟨xs.length - (i + 1), by omega, b2, F2, ow2, ρ2, g2, S2, m2, rfl, hlt, o2⟩
    · obtain ⟨e2, B2, rv⟩ := hy v H'' hv
      have S2 := S'.up e2 B2
      have mo2 := mo.trans (e2.up S'.bg)
      cases hx : tg.put xs[i] ρ' with
      | none =>
        unfold sFor at o'
        rw [hx] at o'
        exact o'.elim
      | some ρ1 =>
        unfold sFor at o'
        rw [hx] at o'
        have o2 := OutS.shift (r := (bd ρ1 g').bind _) o' (e2.up S'.bg)
        refine gt_read S2.st rv hx fun σ3 ow3 S3 hs3 _ => ?_
        refine ⟨b', F', ow3, ρ1, g', ⟨S3, S2.fr, fun k a q => S2.fo k a (hs3 k a q)⟩, ?_⟩
        show OutS C X.K ct F' H'' W { nx := _, rt := D.rt, bk := _, ct := _ } (bd ρ1 g')
        cases hr : bd ρ1 g' with
        | ok f g2 =>
          rw [hr] at o2
          cases f with
          | next ρ2 => exact fun b4 F4 H4 ow4 σ4 S4 m4 => ⟨b4, F4, ow4, ρ2, g2, S4, mo2.trans m4, OutS.shift (r := sFor tg bd (xs.drop (i + 1)) ρ2 g2) o2 m4⟩
          | ret z => exact o2
        | exc c p g2 => rw [hr] at o2; exact o2
        | fail => rw [hr] at o2; exact o2.elim
  · have hge : xs.length ≤ i := by omega
    have hn : xs[i]? = none := List.getElem?_eq_none_iff.mpr hge
    refine .inl ⟨w2 hn, ?_⟩
    rw [List.drop_eq_nil_of_le hge] at o'
    exact o' b' F' H' ow' σ' S' Mono.refl

/-! ### while -/
def sWhile (t : Env → M Bool) (body : Env → M Fl) : Nat → Env → M Fl
  | 0, _ => fun _ => .fail
  | m + 1, ρ => fun g => (t ρ g).bind fun k g1 => if k = true then (body ρ g1).bind fun f g2 => match f with | .next ρ2 => sWhile t body m ρ2 g2 | .ret z => .ok (.ret z) g2 else .ok (.next ρ) g1
theorem ss_while {most : Nat} {c : Expr} {body : List Stmt} {t : Env → M Bool} {bd : Env → M Fl} (hp : ∀ W, Takes X (WXof W) → PassesOwn (model X.prog X.w) X.A X.env X.xe) (hc : ST X ct t c) (hb : SSs C X ct bd body) : SS C X ct (sWhile t bd most) (.While c body [] pos) := fun W tk => by
  refine psW (ps_while (hp W tk) (hc (WXof W) tk) (hb W tk)) fun D σ H ⟨b, F, ow, ρ, g, S, o⟩ => ?_
  refine ⟨fun m σ' H' => ∃ b' F' ow' ρ' g', SSt C X.K b' F' H' ow' σ' ρ' g' ∧ OutS C X.K ct F' H' W D (sWhile t bd m ρ' g'), ⟨most, b, F, ow, ρ, g, S, o⟩, ?_⟩
  rintro m σ' H' ⟨b', F', ow', ρ', g', S', o'⟩
  cases m with
  | zero => exact o'.elim
  | succ m =>
    refine rs1t S' o' fun k g1 F1 H1 S1 o1 => ?_
    cases k with
    | false => exact OutS.next S1 o1
    | true =>
      refine ⟨fun σ2 H2 => ∃ b2 F2 ow2 ρ2 g2, SSt C X.K b2 F2 H2 ow2 σ2 ρ2 g2 ∧ OutS C X.K ct F2 H2 W D (sWhile t bd m ρ2 g2), ?_, b', F1, ow', ρ', g1, S1, ?_⟩
      · rintro σ2 H2 ⟨b2, F2, ow2, ρ2, g2, S2, o2⟩
        exact ⟨m, Nat.lt_succ_self m, b2, F2, ow2, ρ2, g2, S2, o2⟩
      · show OutS C X.K ct F1 H1 W { nx := _, rt := D.rt, bk := _, ct := _ } (bd ρ' g1)
        rw [if_pos rfl] at o1
        cases hr : bd ρ' g1 with
        | ok f g2 =>
          rw [hr] at o1
          cases f with
          | next ρ2 => exact fun b4 F4 H4 ow4 σ4 S4 m4 => ⟨b4, F4, ow4, ρ2, g2, S4, OutS.shift (r := sWhile t bd m ρ2 g2) o1 m4⟩
          | ret z => exact o1
        | exc c p g2 => rw [hr] at o1; exact o1
        | fail => rw [hr] at o1; exact o1.elim
end
end PF

set_option Elab.async false
set_option linter.all false
set_option maxRecDepth 100000
set_option maxHeartbeats 2000000
/-! PF8: defs and their calls by data. -/
namespace PF
open PySem PySem.Spec PyProof.Rows L2
variable [TabT]

/-! ### the frames -/
def fnFr (b0 : Option Addr) (F0 : Addr → Prop) (H0 : Hp) : FrC where
  Fr := fun b F H => b = b0 ∧ Ext b0 F0 H0 F H
  Fo := fun a => Nn H0 a
  ext := fun ⟨e, x⟩ y _ => ⟨e, x.trans (e ▸ y)⟩
  new := fun ⟨e, x⟩ hp nb => x.none_of (e ▸ nb) hp
  wr := fun {b g F H a o o'} ⟨e, x⟩ B fo nf nb h pl nt => by
    subst e
    have ne : ∀ c, F c → c ≠ a := fun c f z => nf (z ▸ f)
    refine ⟨rfl, ⟨x.mono, x.fresh, fun c u hc nc nu => ?_, fun c f => ?_, fun c z => ?_, x.tb.trans (TabE.upd (fun o2 h2 => by rw [h] at h2; cases h2; exact pl) nt)⟩⟩
    · have hca : c ≠ a := nn_ne hc nu fo
      rw [upd_ne hca]; exact x.keep c u hc nc nu
    · obtain ⟨u, q⟩ := x.wf c f
      exact ⟨u, by rw [upd_ne (ne c f)]; exact q⟩
    · obtain ⟨n, vs, q⟩ := x.bag c z
      exact ⟨n, vs, by rw [upd_ne (fun (q : c = a) => nb (z.trans (by rw [q])))]; exact q⟩
  frz := fun {b g F H a o} ⟨e, x⟩ B fo nf nb h nt => by
    subst e
    refine ⟨rfl, ⟨fun c f => .inl (x.mono c f), fun c f => ?_, x.keep0, fun c f => ?_, fun c z => ?_, x.tb⟩⟩
    · rcases f with f | rfl
      · exact x.fresh c f
      · exact .inr fo
    · rcases f with f | rfl
      · exact x.wf c f
      · exact ⟨_, h, nt⟩
    · obtain ⟨n, q⟩ := x.bag c z
      refine ⟨?_, q⟩
      rintro (f | rfl)
      · exact n f
      · exact nb z
  bagw := fun {b g F H a o'} ⟨e, x⟩ B hb ⟨vs, ho⟩ => by
    subst e
    refine ⟨rfl, ⟨x.mono, x.fresh, fun c u hc nc nu => ?_, fun c f => ?_, fun c z => ?_, x.tb.trans (TabE.upd (fun o2 h2 => by rw [(B.bag a hb).1] at h2; cases h2; exact pl_lst) (by rw [ho]; exact nt_lst))⟩⟩
    · have hca : c ≠ a := fun z => nc (hb.trans (by rw [z]))
      rw [upd_ne hca]; exact x.keep c u hc nc nu
    · obtain ⟨u, q⟩ := x.wf c f
      have hca : c ≠ a := fun z => (x.bag a hb).1 (z ▸ f)
      exact ⟨u, by rw [upd_ne hca]; exact q⟩
    · have hca : c = a := by rw [hb] at z; cases z; rfl
      subst hca
      exact ⟨(x.bag c z).1, vs, by rw [upd_same, ho]⟩
/-- the law's own frame: nothing is asked of it -/
def topFr : FrC where
  Fr := fun _ _ _ => True
  Fo := fun _ => True
  ext := fun _ _ _ => trivial
  new := fun _ _ _ => trivial
  wr := fun _ _ _ _ _ _ _ _ => trivial
  frz := fun _ _ _ _ _ _ _ => trivial
  bagw := fun _ _ _ _ => trivial

/-! ### promises -/
/-- a def of plain data; bag: its first parameter is the bag -/
structure Callee where
  bag : Bool
  den : List D → M D
def ArgsR (K : PySem.W.Frag) (bag : Bool) (b : Option Addr) (F : Addr → Prop) (H : Hp) (vs : List V) (ds : List D) : Prop :=
  match bag with
  | false => RepAll K F H vs ds
  | true => ∃ a ws, b = some a ∧ vs = .ref a :: ws ∧ RepAll K F H ws ds
def spC (K : PySem.W.Frag) (ct : Nat → ClsInfo) (c : Callee) : Sp := fun vs H Q E =>
  ∃ b F g ds, Bg b g F H ∧ TabA H ∧ ArgsR K c.bag b F H vs ds ∧ Out K ct b F H E (PV K Q) (c.den ds g)
/-- what is known of the guards -/
def GdOk (gq : Bool) (A : Around) : Prop := gq = true → A.guards = some []
def FnG (P : Program) (w : World) (K : PySem.W.Frag) (mg : Str → Option Value) (base : Heap) (k : Nat) (gq : Bool) (f : Addr) (sp : Sp) : Prop :=
  ∀ (A : Around) (outer : List PySem.Env) (s : Shared) (H : Hp) (us : List Value) (vs : List V) (Q : VK) (E : XK), Room k A → GdOk gq A → Env0 P w K mg base A outer s H → Vals vs us → sp vs H Q E →
    codeAny (model P w) A (.call (.ref f) ⟨us, []⟩) (CR (L2.CX P w) outer P w H s Q E) s
theorem FnG.mono {P : Program} {w : World} {K : PySem.W.Frag} {mg : Str → Option Value} {base : Heap} {j k : Nat} {gq : Bool} {f : Addr} {sp : Sp} (F : FnG P w K mg base j gq f sp) (h : j ≤ k) : FnG P w K mg base k gq f sp :=
  fun A outer s H us vs Q E hr => F A outer s H us vs Q E (hr.mono h)

/-! ### calls -/
def callD (c : Callee) (r : Env → M (List D)) : Env → M D := fun ρ g => (r ρ g).bind fun ds g1 => c.den ds g1
/-- f(bag, ..): the bag stands in slot i -/
def callB (c : Callee) (i : Nat) (r : Env → M (List D)) : Env → M D := fun ρ g => match ρ[i]? with | some (some .bag) => (r ρ g).bind fun ds g1 => c.den ds g1 | _ => .fail
section
variable {X : Cx} {ct : Nat → ClsInfo} {c : Callee} {k : Nat} {gq : Bool} {f : Addr} {x : Str} {p pos : Pos} {e : Expr} {es : List Expr} {r : Env → M (List D)} {W : WX}
theorem run_fnG {sp : Sp} {pins : List (Addr × Obj)} {σ : L2.St} {H : Hp} {s : Shared} {Q : VK} {us : List Value} {vs : List V} (F : FnG X.prog X.w X.K X.mg X.base k gq f sp) (hr : Room k X.A) (hg : GdOk gq X.A) (tk : Takes X W)
    (I : Inv X pins σ H s) (rv : Vals vs us) (h : sp vs H Q (WE W σ)) : wpAny (model X.prog X.w) X.A (call (.ref f) us) (EP X pins σ Q) X.xe s := by
  refine wpAny_call (codeAny_mono (F X.A X.stack s H us vs Q (WE W σ) hr hg I.env0 rv h) fun r s' hq => ?_)
  cases r with
  | error e => exact passAt tk σ pins H s e s' I hq
  | ok fl =>
    cases fl with
    | ret u => exact I.after hq
    | next => exact False.elim hq
    | brk => exact False.elim hq
    | cont => exact False.elim hq
def anyStar (es : List Expr) : Bool := es.any isStarB
theorem star_any_eq {env : PySem.Env} {pos : Pos} : ∀ es : List Expr, (backTo pos (starEach es env)).any (·.1) = anyStar es
  | [] => rfl
  | e :: es => by
    have ih := star_any_eq (env := env) (pos := pos) es
    unfold anyStar at ih ⊢
    rw [List.any_cons]
    cases e <;> first
      | (show (false || (backTo pos (starEach es env)).any (·.1)) = _; rw [ih]; rfl)
      | (show (true || (backTo pos (starEach es env)).any (·.1)) = _; rfl)
theorem pe_callG {sp : Sp} {t : TA} (F : FnG X.prog X.w X.K X.mg X.base k gq f sp) (hr : Room k X.A) (hgd : GdOk gq X.A) (hg : Gl X x) (hm : X.mg x = some (.ref f)) (hk : PySem.W.keepIn X.K (.ref f) = true) (tk : Takes X W)
    (ha : PA X (e :: es) t) (hs : isStarB e = false) (hdb : (x == ("__debug__" : Str)) = false) :
    PE X (.Call (.Name x p) (e :: es) [] pos) (fun σ H Q => t σ H fun vs H1 => sp vs H1 Q (WE W σ)) := by
  refine ⟨fun pins s σ H Q I h => ?_⟩
  refine wpAny_Call_Name_kw (ld_glob I hg hm ?_ hdb)
  have body : wpAny (model X.prog X.w) X.A (spliced (backTo pos (starEach (e :: es) X.env))) (fun us s1 => X.K.In s1.heap ∧ wpAny (model X.prog X.w) X.A (call (.ref f) ([] ++ us)) (EP X pins σ Q) X.xe s1) X.xe s :=
    thn (ha.run pos pins s σ H _ I h) fun us s1 ⟨vs, H1, I1, r, q⟩ => ⟨I1.kIn, run_fnG F hr hgd tk I1 r q⟩
  cases hst : anyStar es with
  | false => exact PySem.W.callWith_K (h₀ := X.base) I.ok.mod.kin hk body (star_no hs) (by rw [star_any_eq, hst])
  | true => exact PySem.W.callWith_S2 (h₀ := X.base) I.ok.mod.kin hk body (star_no hs) (by rw [star_any_eq, hst])
theorem out_call {b : Option Addr} {F : Addr → Prop} {H : Hp} {σ : L2.St} {ow : Nat → Option Addr} {ρ : Env} {g : List Int} {Q : VK} {K : PySem.W.Frag} (hb : c.bag = false) (S : StR K b F H ow σ ρ g) (o : Out K ct b F H (fun c dx H' => W c dx σ H') (PV K Q) ((r ρ g).bind fun ds g1 => c.den ds g1)) :
    rdA K ct W r σ H (fun vs H1 => spC K ct c vs H1 Q (WE W σ)) :=
  rd1a S o fun ds g1 F1 H1 vs e1 S1 r1 o1 => ⟨b, F1, g1, ds, S1.toBg, S1.tabs, by unfold ArgsR; rw [hb]; exact r1, o1⟩
theorem se_call (hb : c.bag = false) (F : FnG X.prog X.w X.K X.mg X.base k gq f (spC X.K ct c)) (hr : Room k X.A) (hgd : GdOk gq X.A) (hg : Gl X x) (hm : X.mg x = some (.ref f)) (hk : PySem.W.keepIn X.K (.ref f) = true)
    (ha : SA X ct r (e :: es)) (hs : isStarB e = false) (hdb : (x == ("__debug__" : Str)) = false) : SE X ct (callD c r) (.Call (.Name x p) (e :: es) [] pos) := fun W tk =>
  peW (pe_callG F hr hgd hg hm hk tk (ha W tk) hs hdb) fun σ H Q ⟨b, F, ow, ρ, g, S, o⟩ => out_call hb S o
/-- f(*y) -/
theorem se_callS {d : Env → M D} {sp_ : Pos} (hb : c.bag = false) (F : FnG X.prog X.w X.K X.mg X.base k gq f (spC X.K ct c)) (hr : Room k X.A) (hgd : GdOk gq X.A) (hg : Gl X x) (hm : X.mg x = some (.ref f)) (hk : PySem.W.keepIn X.K (.ref f) = true)
    (ha : SE X ct d e) (hdb : (x == ("__debug__" : Str)) = false) : SE X ct (callD c (aStar d aNil)) (.Call (.Name x p) [.Starred e sp_] [] pos) := fun W tk => by
  have h1 : PE X (.Call (.Name x p) [.Starred e sp_] [] pos) (fun σ H Q => rdE X.K ct W d σ H fun y H1 => ∃ a xs, y = V.ref a ∧ (SqT X.K H1 a xs ∨ SqL X.K H1 a xs) ∧ spC X.K ct c xs H1 Q (WE W σ)) := by
    refine ⟨fun pins s σ H Q I h => ?_⟩
    refine wpAny_Call_Name_kw (ld_glob I hg hm ?_ hdb)
    refine PySem.W.callWith_S (h₀ := X.base) I.ok.mod.kin hk (thn ((ha W tk).run pins s σ H _ I h) fun v s1 ⟨y, H1, I1, ry, a, xs, ey, hxs, q⟩ => ?_) rfl
    subst ey
    obtain rfl : v = Value.ref a := ry
    exact StX.star_any I1 hxs fun us s2 I2 rv => ⟨I2.kIn, run_fnG F hr hgd tk I2 rv q⟩
  refine peW h1 fun σ H Q ⟨b, F, ow, ρ, g, S, o⟩ => ?_
  unfold callD aStar at o
  cases hd : d ρ g with
  | ok x g1 =>
    rw [hd] at o
    refine ⟨b, F, ow, ρ, g, S, ?_⟩
    rw [hd]
    refine fun F1 H1 e1 B1 v rx => ?_
    have o2 := Out.shift o e1
    cases x <;> first | (exact o2.elim) | skip
    · cases rx with
      | lst h q =>
        refine ⟨_, _, rfl, .inr h.seq, b, F1, g1, _, B1, S.tabs.ext e1.tb, by unfold ArgsR; rw [hb]; exact q, ?_⟩
        simpa [Res.bind, itemsD, aNil] using o2
    · cases rx with
      | tup h q =>
        refine ⟨_, _, rfl, .inl h, b, F1, g1, _, B1, S.tabs.ext e1.tb, by unfold ArgsR; rw [hb]; exact q, ?_⟩
        simpa [Res.bind, itemsD, aNil] using o2
  | exc c p g1 =>
    rw [hd] at o
    exact ⟨b, F, ow, ρ, g, S, by rw [hd]; exact o⟩
  | fail => rw [hd] at o; exact o.elim
/-- f(bag, ..) -/
theorem se_callB {i : Nat} {y : Str} {py : Pos} (hb : c.bag = true) (F : FnG X.prog X.w X.K X.mg X.base k gq f (spC X.K ct c)) (hr : Room k X.A) (hgd : GdOk gq X.A) (hg : Gl X x) (hm : X.mg x = some (.ref f)) (hk : PySem.W.keepIn X.K (.ref f) = true)
    (hN : X.N[i]? = some y) (hv : Vis X.env.scope y) (hd : (y == ("__debug__" : Str)) = false) (hcd : (y == ("__classdict__" : Str)) = false)
    (ha : SA X ct r es) (hdb : (x == ("__debug__" : Str)) = false) : SE X ct (callB c i r) (.Call (.Name x p) (.Name y py :: es) [] pos) := fun W tk => by
  refine peW (pe_callG F hr hgd hg hm hk tk (pa_cons (pe_var hN hv hd hcd) (ha W tk)) rfl hdb) fun σ H Q ⟨b, F, ow, ρ, g, S, o⟩ => ?_
  unfold callB at o
  split at o
  · rename_i hi
    obtain ⟨a, eb, ex⟩ := S.slot i _ hi
    refine ⟨.ref a, ex, ?_⟩
    exact rd1a S o fun ds g1 F1 H1 vs e1 S1 r1 o1 => ⟨b, F1, g1, ds, S1.toBg, S1.tabs, by unfold ArgsR; rw [hb]; exact ⟨a, vs, eb, rfl, r1⟩, o1⟩
  · exact o.elim
end

/-! ### a def's body -/
def initE (n : Nat) (ds : List D) : Env := ds.map (fun d => some (.val d)) ++ List.replicate (n - ds.length) none
def initB (n : Nat) (ds : List D) : Env := some .bag :: initE (n - 1) ds
def denOf (np n : Nat) (bd : Env → M Fl) : List D → M D := fun ds g => if ds.length = np then (bd (initE n ds) g).bind fun f g1 => match f with | .ret x => .ok x g1 | .next _ => .ok .none g1 else .fail
def denOfB (np n : Nat) (bd : Env → M Fl) : List D → M D := fun ds g => if ds.length = np then (bd (initB n ds) g).bind fun f g1 => match f with | .ret x => .ok x g1 | .next _ => .ok .none g1 else .fail
section
variable {K : PySem.W.Frag} {ct : Nat → ClsInfo} {b : Option Addr} {F : Addr → Prop} {H : Hp} {g : List Int} {N : List Str} {vs : List V} {ds : List D}
theorem bg_str (B : Bg b g F H) (T : TabA H) {σ : L2.St} {ρ : Env} (hl : σ.length = ρ.length) (hs : ∀ (i : Nat) s, ρ[i]? = some (some s) → RelSlot K b F H none σ[i]? s) : StR K b F H (fun _ => none) σ ρ g :=
  ⟨B, hl, hs, fun _ _ _ h => (nomatch h), fun _ _ h => (nomatch h), fun _ _ h => (nomatch h), T⟩
theorem init_slot : ∀ {n : Nat} {vs : List V} {ds : List D}, RepAll K F H vs ds → ∀ (i : Nat) (s : Slot), (initE n ds)[i]? = some (some s) → RelSlot K b F H none (vs.map some ++ List.replicate (n - vs.length) none)[i]? s
  | n, _, _, .nil, i, s, h => by
    unfold initE at h
    rw [List.map_nil, List.nil_append, List.getElem?_replicate] at h
    split at h
    · cases h
    · cases h
  | n, _, _, .cons (v := v) (d := d) r t, 0, s, h => by
    have h' : some (some (Slot.val d)) = some (some s) := h
    cases h'
    exact ⟨v, rfl, r⟩
  | n, _, _, .cons (v := v) (vs := vs) (d := d) (ds := ds) r t, i + 1, s, h => by
    have h' : (initE (n - 1) ds)[i]? = some (some s) := by
      have e : n - (ds.length + 1) = n - 1 - ds.length := by omega
      unfold initE at h ⊢
      rw [List.map_cons, List.length_cons, List.cons_append, List.getElem?_cons_succ, e] at h
      exact h
    have q := init_slot t i s h'
    have e : n - (vs.length + 1) = n - 1 - vs.length := by omega
    rw [List.map_cons, List.length_cons, List.cons_append, List.getElem?_cons_succ, e]
    exact q
theorem init_str (B : Bg b g F H) (T : TabA H) (r : RepAll K F H vs ds) : StR K b F H (fun _ => none) (L2.start N vs) (initE N.length ds) g :=
  bg_str B T (by unfold L2.start initE; simp [r.length]) fun i s h => init_slot r i s h
theorem initB_str {a : Addr} (B : Bg b g F H) (T : TabA H) (hb : b = some a) (hn : 0 < N.length) (r : RepAll K F H vs ds) : StR K b F H (fun _ => none) (L2.start N (.ref a :: vs)) (initB N.length ds) g := by
  refine bg_str B T ?_ fun i s h => ?_
  · unfold L2.start initB initE
    simp only [List.length_append, List.length_map, List.length_cons, List.length_replicate, r.length]
    omega
  · cases i with
    | zero =>
      have h' : some (some Slot.bag) = some (some s) := h
      cases h'
      exact ⟨a, hb, rfl⟩
    | succ i =>
      have h' : (initE (N.length - 1) ds)[i]? = some (some s) := h
      have q := init_slot (b := b) r i s h'
      have e : N.length - (vs.length + 1) = N.length - 1 - vs.length := by omega
      unfold L2.start
      rw [List.map_cons, List.length_cons, List.cons_append, List.getElem?_cons_succ, e]
      exact q
end
section
variable {P : Program} {w : World} {K : PySem.W.Frag} {mg : Str → Option Value} {base : Heap} {ct : Nat → ClsInfo} {k : Nat} {gq : Bool} {f : Addr} {name qual : Str} {params : Arguments} {body : List Stmt} {scope : Scope} {dV kV doc pm cdv ct' oc : Value} {an od : Option Addr}
  {osl : Array (Option Value)} {N ps : List Str} {bd : Env → M Fl}
/-- the context of a def's body -/
abbrev fnCx (P : Program) (w : World) (K : PySem.W.Frag) (mg : Str → Option Value) (base : Heap) (N : List Str) (qual : Str) (scope : Scope) (f : Addr) (cdv : Value) (A : Around) (outer : List PySem.Env) (s : Shared) (H : Hp) (E : XK) : Cx :=
  cxOf (L2.CX P w) P w K mg base N qual scope f cdv A outer s H E
/-- the body means bd, at every entry -/
def BodyG (P : Program) (w : World) (K : PySem.W.Frag) (mg : Str → Option Value) (base : Heap) (ct : Nat → ClsInfo) (k : Nat) (gq : Bool) (N : List Str) (qual : Str) (scope : Scope) (f : Addr) (cdv : Value) (body : List Stmt) (bd : Env → M Fl) : Prop :=
  ∀ (C : FrC) (A : Around) (outer : List PySem.Env) (s : Shared) (H : Hp) (E : XK), Room k (A.deeper (envOfC qual scope s.heap.objs.size f cdv)) → GdOk gq A → SSs C (fnCx P w K mg base N qual scope f cdv A outer s H E) ct bd body
theorem body_run {b : Option Addr} {F : Addr → Prop} {H : Hp} {g : List Int} {σ : L2.St} {ρ : Env} {A : Around} {outer : List PySem.Env} {s : Shared} {Q : VK} {E : XK}
    (hb : BodyG P w K mg base ct k gq N qual scope f cdv body bd) (hr : Room k (A.deeper (envOfC qual scope s.heap.objs.size f cdv))) (hg : GdOk gq A) (S : StR K b F H (fun _ => none) σ ρ g)
    (o : Out K ct b F H E (PV K Q) ((bd ρ g).bind fun f g1 => match f with | .ret x => Res.ok x g1 | .next _ => .ok .none g1)) :
    ∃ t, PSs (fnCx P w K mg base N qual scope f cdv A outer s H E) body t ∧ t { nx := fun _ H' => Q .non H', rt := Q } σ H := by
  have tk : Takes (fnCx P w K mg base N qual scope f cdv A outer s H E) (WXof fun c d H => E c d H) := takes_of rfl rfl rfl (E₁ := fun e' s'' => L2.CX P w outer H s E e' s'') rfl
  refine ⟨_, hb (fnFr b F H) A outer s H E hr hg _ tk, b, F, _, ρ, g, ⟨S, ⟨rfl, Ext.refl S.toBg⟩, fun _ _ h => (nomatch h)⟩, ?_⟩
  generalize bd ρ g = z at o ⊢
  match z, o with
  | .ok (.next ρ') g1, o =>
    intro b' F' H' ow' σ' S' m
    obtain ⟨e, x⟩ := S'.fr
    subst e
    exact o F' H' x S'.bg _ .non
  | .ok (.ret y) g1, o =>
    intro b' F' H' v fr B r
    obtain ⟨e, x⟩ := fr
    subst e
    exact o F' H' x B _ r
  | .exc c p g1, o =>
    intro b' F' H' dx fr B r
    obtain ⟨e, x⟩ := fr
    subst e
    exact o F' H' dx x B r

theorem bnd_plain {us : List Value} {vs : List V} {A : Around} {outer : List PySem.Env} {s : Shared} {H : Hp} {E : XK} {fd : FuncData} (hb : bindArgs fd ⟨us, []⟩ = pure (ps.zip us)) (e0 : Env0 P w K mg base A outer s H) (r : Vals vs us) (hl : vs.length = ps.length) :
    StX.Bnd (L2.CX P w) P w K mg base fd ⟨us, []⟩ ps A outer s H E (fun xs H2 => xs = vs ∧ H2 = H) := fun A' Ex Q h => by
  rw [hb]
  exact wpAny_pure (h s H vs us e0 Un.refl rfl (fun _ _ z => z) r hl ⟨rfl, rfl⟩)
/-- THE RULE for a def -/
theorem fn_ofG (lk : K.lookup f = some ⟨oc, od, .func (PySem.W.fnOf name qual params body scope dV kV doc pm an cdv ct'), osl⟩) (hcd : PySem.W.codeIn K cdv qual = true) (S : FnScope N ps scope)
    (hb : ∀ us : List Value, us.length = ps.length → bindArgs (PySem.W.fnOf name qual params body scope dV kV doc pm an cdv ct') ⟨us, []⟩ = pure (ps.zip us))
    (hbody : BodyG P w K mg base ct k gq N qual scope f cdv body bd) : FnG P w K mg base (k + 1) gq f (spC K ct ⟨false, denOf ps.length N.length bd⟩) := by
  intro A outer s H us vs Q E hr hgd e0 r ⟨b, F, g, ds, B, tA, ha, o⟩
  have ha : RepAll K F H vs ds := ha
  have o : Out K ct b F H E (PV K Q) (denOf ps.length N.length bd ds g) := o
  by_cases hl : ds.length = ps.length
  · have hv : vs.length = ps.length := by rw [ha.length]; exact hl
    have hu : us.length = ps.length := by rw [← r.length]; exact hv
    refine StX.run_bnd lk hcd S hr e0 (bnd_plain (hb us hu) e0 r hv) fun s2 H2 xs hG hr' => ?_
    obtain ⟨ex, eH⟩ := hG
    subst ex eH
    unfold denOf at o
    rw [if_pos hl] at o
    exact body_run hbody hr' hgd (init_str B tA ha) o
  · unfold denOf at o
    rw [if_neg hl] at o
    exact o.elim
/-- .. whose first parameter is the bag -/
theorem fn_ofB (lk : K.lookup f = some ⟨oc, od, .func (PySem.W.fnOf name qual params body scope dV kV doc pm an cdv ct'), osl⟩) (hcd : PySem.W.codeIn K cdv qual = true) (S : FnScope N ps scope)
    (hb : ∀ us : List Value, us.length = ps.length → bindArgs (PySem.W.fnOf name qual params body scope dV kV doc pm an cdv ct') ⟨us, []⟩ = pure (ps.zip us)) (h1 : 0 < ps.length) (hN : 0 < N.length)
    (hbody : BodyG P w K mg base ct k gq N qual scope f cdv body bd) : FnG P w K mg base (k + 1) gq f (spC K ct ⟨true, denOfB (ps.length - 1) N.length bd⟩) := by
  intro A outer s H us vs Q E hr hgd e0 r ⟨b, F, g, ds, B, tA, ha, o⟩
  obtain ⟨a, ws, eb, ev, ha⟩ := ha
  subst ev
  have o : Out K ct b F H E (PV K Q) (denOfB (ps.length - 1) N.length bd ds g) := o
  by_cases hl : ds.length = ps.length - 1
  · have hv : (V.ref a :: ws).length = ps.length := by rw [List.length_cons, ha.length, hl]; omega
    have hu : us.length = ps.length := by rw [← r.length]; exact hv
    refine StX.run_bnd lk hcd S hr e0 (bnd_plain (hb us hu) e0 r hv) fun s2 H2 xs hG hr' => ?_
    obtain ⟨ex, eH⟩ := hG
    subst ex eH
    unfold denOfB at o
    rw [if_pos hl] at o
    exact body_run hbody hr' hgd (initB_str B tA eb hN ha) o
  · unfold denOfB at o
    rw [if_neg hl] at o
    exact o.elim
/-- def f(a, .., *v): what is left over is a tuple -/
def denOfS (np n : Nat) (bd : Env → M Fl) : List D → M D := fun ds g => if np ≤ ds.length ∧ ds.length ≤ sizeLine then (bd (initE n (ds.take np ++ [.tuple (ds.drop np)])) g).bind fun f g1 => match f with | .ret x => .ok x g1 | .next _ => .ok .none g1 else .fail
theorem fn_ofS {pv : Str} (lk : K.lookup f = some ⟨oc, od, .func (PySem.W.fnOf name qual params body scope dV kV doc pm an cdv ct'), osl⟩) (hcd : PySem.W.codeIn K cdv qual = true) (S : FnScope N (ps ++ [pv]) scope)
    (hb : ∀ us rest : List Value, us.length = ps.length → bindArgs (PySem.W.fnOf name qual params body scope dV kV doc pm an cdv ct') ⟨us ++ rest, []⟩ = (newTuple rest >>= fun t => pure (ps.zip us ++ [(pv, t)])))
    (hbody : BodyG P w K mg base ct k gq N qual scope f cdv body bd) : FnG P w K mg base (k + 1) gq f (spC K ct ⟨false, denOfS ps.length N.length bd⟩) := by
  intro A outer s H us vs Q E hr hgd e0 r ⟨b, F, g, ds, B, tA, ha, o⟩
  have ha : RepAll K F H vs ds := ha
  have o : Out K ct b F H E (PV K Q) (denOfS ps.length N.length bd ds g) := o
  by_cases hl : ps.length ≤ ds.length ∧ ds.length ≤ sizeLine
  · unfold denOfS at o
    rw [if_pos hl] at o
    have e0v : vs.take ps.length ++ vs.drop ps.length = vs := List.take_append_drop _ _
    have r' : Vals (vs.take ps.length ++ vs.drop ps.length) us := by rw [e0v]; exact r
    obtain ⟨u1, u2, eu, r1, r2⟩ := StX.vals_split r'
    subst eu
    have hn : H s.heap.objs.size = Option.none := e0.hok.fresh (Nat.le_refl _)
    have hv : vs.length = ds.length := ha.length
    have hl1 : u1.length = ps.length := by rw [← r1.length, List.length_take]; omega
    have hz : (vs.drop ps.length).length ≤ sizeLine := by rw [List.length_drop]; omega
    have hl2 : u2.length ≤ sizeLine := by rw [← r2.length]; exact hz
    refine StX.run_bnd lk hcd S hr e0 (G := fun xs H2 => ∃ p, H p = Option.none ∧ xs = vs.take ps.length ++ [V.ref p] ∧ H2 = upd H p (.tup (vs.drop ps.length))) (fun A' Ex Q' h => ?_) fun s2 H2 xs ⟨p, hp, ex, eH⟩ hr' => ?_
    · rw [hb u1 u2 hl1]
      refine wpAny_bind (wpAny_newTuple (wpAny_pure ?_) hl2)
      have new : ObjOk P w (upd H s.heap.objs.size (.tup (vs.drop ps.length))) (s.heap.push ({ cls := .type "tuple", data := .seq u2.toArray } : Obj)) s.heap.objs.size (.tup (vs.drop ps.length)) := ⟨hz, u2, r2, ⟨_, Heap.get?_push_size _ rfl, rfl, _, rfl⟩⟩
      have un := StX.un_laid (fs := frs outer) (s := s) (o := ({ cls := .type "tuple", data := .seq u2.toArray } : Obj)) (u := .tup (vs.drop ps.length)) hn
      have z := h _ _ (vs.take ps.length ++ [V.ref s.heap.objs.size]) (u1 ++ [Value.ref s.heap.objs.size]) (StX.env0_laid e0 new) un rfl (fun e s' => StX.cxUp outer s H _ _ E e s' un (fun b o q => Heap.get?_push_of_some _ q) rfl) (r1.append (.cons rfl .nil))
        (by rw [List.length_append, List.length_append, List.length_take]; simp; omega) ⟨_, hn, rfl, rfl⟩
      rw [List.zip_append hl1.symm] at z
      exact z
    · subst ex eH
      have e1 := Ext.new (o := .tup (vs.drop ps.length)) B hp
      have B1 := B.new (o := .tup (vs.drop ps.length)) hp
      have m := e1.up B
      exact body_run hbody hr' hgd (init_str B1 (tA.ext e1.tb) (((ha.take _).up m).append (.cons (.tup (.inl (.inl upd_same)) ((ha.drop _).up m)) .nil))) (Out.shift o e1)
  · unfold denOfS at o
    rw [if_neg hl] at o
    exact o.elim
end
end PF

set_option Elab.async false
set_option linter.all false
set_option maxRecDepth 100000
set_option maxHeartbeats 2000000
/-! PF9: built-ins by data. -/
namespace PF
open PySem PySem.Spec PyProof.Rows L2
variable [TabT]

/-! ### arguments that are looked at -/
inductive RepOs (K : PySem.W.Frag) (b : Option Addr) (F : Addr → Prop) (H : Hp) : List V → List D → Prop
  | nil : RepOs K b F H [] []
  | cons {v : V} {vs : List V} {d : D} {ds : List D} : RepO K b F H v d → RepOs K b F H vs ds → RepOs K b F H (v :: vs) (d :: ds)
theorem RepOs.up {K : PySem.W.Frag} {b : Option Addr} {F F' : Addr → Prop} {H H' : Hp} {g : List Int} (e : Ext b F H F' H') (B : Bg b g F H) : ∀ {vs : List V} {ds : List D}, RepOs K b F H vs ds → RepOs K b F' H' vs ds
  | _, _, .nil => .nil
  | _, _, .cons r t => .cons (r.up e B) (RepOs.up e B t)
def PVOs (K : PySem.W.Frag) (b : Option Addr) (Q : List V → Hp → Prop) : List D → List Int → (Addr → Prop) → Hp → Prop := fun x _ F' H' => ∀ vs, RepOs K b F' H' vs x → Q vs H'
def rdOs (K : PySem.W.Frag) (ct : Nat → ClsInfo) (W : WX) (d : Env → M (List D)) : TA := fun σ H Q =>
  ∃ b F ow ρ g, StR K b F H ow σ ρ g ∧ Out K ct b F H (fun c dx H' => W c dx σ H') (PVOs K b Q) (d ρ g)
def SOs (X : Cx) (ct : Nat → ClsInfo) (d : Env → M (List D)) (es : List Expr) : Prop := ∀ W : WX, Takes X W → PA X es (rdOs X.K ct W d)
/-- what a built-in does by data -/
def Bi (X : Cx) (f : Value) (op : List D → Option D) : Prop :=
  ∃ r, CallR X f r ∧ ∀ (b : Option Addr) (F : Addr → Prop) (H : Hp) (g : List Int) (vs : List V) (ds : List D) (z : D) (Q : VK), Bg b g F H → RepOs X.K b F H vs ds → op ds = some z →
    (∀ F' H' u, Ext b F H F' H' → Bg b g F' H' → Rep X.K F' H' u z → Q u H') → r vs H Q
def callO (op : List D → Option D) (r : Env → M (List D)) : Env → M D := fun ρ g => (r ρ g).bind fun ds g1 => match op ds with | some z => .ok z g1 | none => .fail
section
variable {X : Cx} {ct : Nat → ClsInfo} {e a c : Expr} {es : List Expr} {d da dc : Env → M D} {W : WX} {pos p : Pos} {r : Env → M (List D)} {x : Str} {id T : String}
theorem sos_nil : SOs X ct aNil [] := fun W tk => paW pa_nil fun σ H Q ⟨b, F, ow, ρ, g, S, o⟩ => Out.ok o S.toBg [] .nil
theorem sos_cons (ha : SO X ct d e) (hr : SOs X ct r es) (hs : isStarB e = false) : SOs X ct (aCons d r) (e :: es) := fun W tk => by
  refine paW (pa_cons (ha W tk) (hr W tk) (star_no hs)) fun σ H Q ⟨b, F, ow, ρ, g, S, o⟩ => ?_
  refine rd1 S o fun x g1 F1 H1 v e1 S1 r1 o1 => ?_
  refine ⟨b, F1, ow, ρ, g1, S1, o1.bind.imp fun xs g2 F2 H2 e2 B2 o2 vs r2 => ?_⟩
  exact Out.ok o2 B2 _ (.cons (r1.up e2 S1.toBg) r2)
theorem read_bi {rr : List V → Hp → VK → Prop} {op : List D → Option D} (hf : ∀ (b : Option Addr) (F : Addr → Prop) (H : Hp) (g : List Int) (vs : List V) (ds : List D) (z : D) (Q : VK), Bg b g F H → RepOs X.K b F H vs ds → op ds = some z →
    (∀ F' H' u, Ext b F H F' H' → Bg b g F' H' → Rep X.K F' H' u z → Q u H') → rr vs H Q) {σ : L2.St} {H : Hp} {Q : VK} (h : rdE X.K ct W (callO op r) σ H Q) : tCB rr (rdOs X.K ct W r) σ H Q := by
  obtain ⟨b, F, ow, ρ, g, S, o⟩ := h
  refine ⟨b, F, ow, ρ, g, S, Out.imp (P := fun x g' F' H' => Out X.K ct b F' H' _ (PV X.K Q) ((match op x with | some z => Res.ok z g' | none => Res.fail))) (Out.bind o) fun ds g1 F1 H1 e1 B1 o1 vs rv => ?_⟩
  cases hop : op ds with
  | none => rw [hop] at o1; exact o1.elim
  | some z =>
    rw [hop] at o1
    exact hf b F1 H1 g1 vs ds z Q B1 rv hop fun F' H' u e B r => o1 F' H' e B u r
theorem se_bi {op : List D → Option D} (h : Bi X (.builtin id) op) (hg : Gl X x) (hm : X.mg x = none) (hv : bootBuiltins x = some (.builtin id)) (ha : SOs X ct r (e :: es)) (hs : isStarB e = false) (hst : anyStar es = false) (hn : x ≠ "__name__") (hdb : (x == ("__debug__" : Str)) = false) :
    SE X ct (callO op r) (.Call (.Name x p) (e :: es) [] pos) := fun W tk => by
  obtain ⟨rr, hc, hf⟩ := h
  exact peW (pe_callB hc hg hm hv (ha W tk) hn hdb (star_no hs) (by rw [star_any_eq, hst])) fun σ H Q h => read_bi hf h
theorem se_biT {op : List D → Option D} (h : Bi X (.type T) op) (hg : Gl X x) (hm : X.mg x = none) (hv : bootBuiltins x = some (.type T)) (ha : SOs X ct r (e :: es)) (hs : isStarB e = false) (hst : anyStar es = false) (hn : x ≠ "__name__") (hdb : (x == ("__debug__" : Str)) = false) :
    SE X ct (callO op r) (.Call (.Name x p) (e :: es) [] pos) := fun W tk => by
  obtain ⟨rr, hc, hf⟩ := h
  exact peW (pe_callTy hc hg hm hv (ha W tk) hn hdb (star_no hs) (by rw [star_any_eq, hst])) fun σ H Q h => read_bi hf h

theorem Bi.or {f : Value} {p q : List D → Option D} (hp : Bi X f p) (hq : Bi X f q) : Bi X f (fun ds => match p ds with | some z => some z | none => q ds) := by
  obtain ⟨r, h1, h2⟩ := hp
  obtain ⟨r', h1', h2'⟩ := hq
  refine ⟨fun vs H Q => r vs H Q ∨ r' vs H Q, fun pins s σ H xs us Q I rv h => ?_, fun b F H g vs ds z Q B rv e k => ?_⟩
  · rcases h with h | h
    · exact h1 pins s σ H xs us Q I rv h
    · exact h1' pins s σ H xs us Q I rv h
  · have e : (match p ds with | some z => some z | none => q ds) = some z := e
    cases hh : p ds with
    | some z' => rw [hh] at e; cases e; exact .inl (h2 b F H g vs ds _ Q B rv hh k)
    | none => rw [hh] at e; exact .inr (h2' b F H g vs ds z Q B rv e k)

/-! ### intsD -/
def bAbs : List D → Option D
  | [.int i] => some (.int (if i < 0 then -i else i))
  | _ => none
theorem bi_abs : Bi X (.builtin "abs") bAbs := by
  refine ⟨_, call_abs, fun b F H g vs ds z Q B rv e k => ?_⟩
  cases rv with
  | nil => cases e
  | cons r1 t =>
    rename_i v vs d ds
    cases t with
    | nil => cases d <;> first | (cases e; done) | (cases e; exact ⟨_, by rw [r1.int], fin0 B (.int _) k⟩)
    | cons _ _ => cases d <;> (cases e)
def bInt : List D → Option D
  | [.int i] => some (.int i)
  | [.bool c] => some (.int (if c = true then 1 else 0))
  | _ => none
theorem bi_int : Bi X (.type "int") bInt := by
  refine ⟨_, call_int1, fun b F H g vs ds z Q B rv e k => ?_⟩
  cases rv with
  | nil => cases e
  | cons r1 t =>
    rename_i v vs d ds
    cases t with
    | nil => cases d <;> first | (cases e; done) | (cases e; exact .inl ⟨_, by rw [r1.int], fin0 B (.int _) k⟩) | (cases e; exact .inr ⟨_, by rw [r1.bl], fin0 B (.int _) k⟩)
    | cons _ _ => cases d <;> (cases e)
def bMax2 : List D → Option D
  | [.int i, .int j] => some (.int (if j > i then j else i))
  | _ => none
def bMin2 : List D → Option D
  | [.int i, .int j] => some (.int (if j < i then j else i))
  | _ => none
theorem two_ints {op : Int → Int → D} {ops : List D → Option D} (ho : ∀ ds z, ops ds = some z → ∃ i j, ds = [.int i, .int j] ∧ z = op i j) {rr : List V → Hp → VK → Prop} {b : Option Addr} {F : Addr → Prop} {H : Hp} {g : List Int} {vs : List V} {ds : List D} {z : D} {Q : VK} (B : Bg b g F H) (rv : RepOs X.K b F H vs ds) (e : ops ds = some z) :
    ∃ i j, vs = [.int i, .int j] ∧ z = op i j := by
  obtain ⟨i, j, rfl, ez⟩ := ho ds z e
  cases rv with
  | cons r1 t =>
    cases t with
    | cons r2 t2 =>
      cases t2
      exact ⟨i, j, by rw [r1.int, r2.int], ez⟩
theorem inv_max2 (ds : List D) (z : D) (h : bMax2 ds = some z) : ∃ i j, ds = [.int i, .int j] ∧ z = (fun i j => PyData.int (if j > i then j else i)) i j := by
  unfold bMax2 at h
  split at h
  · cases h; exact ⟨_, _, rfl, rfl⟩
  · cases h
theorem inv_min2 (ds : List D) (z : D) (h : bMin2 ds = some z) : ∃ i j, ds = [.int i, .int j] ∧ z = (fun i j => PyData.int (if j < i then j else i)) i j := by
  unfold bMin2 at h
  split at h
  · cases h; exact ⟨_, _, rfl, rfl⟩
  · cases h
theorem bi_max2 (hc : X.calm = true) : Bi X (.builtin "max") bMax2 := by
  refine ⟨_, call_max2 hc, fun b F H g vs ds z Q B rv e k => ?_⟩
  obtain ⟨i, j, rfl, rfl⟩ := two_ints (X := X) (rr := fun _ _ _ => True) (Q := Q) inv_max2 B rv e
  exact ⟨i, j, rfl, fin0 B (.int _) k⟩
theorem bi_min2 (hc : X.calm = true) : Bi X (.builtin "min") bMin2 := by
  refine ⟨_, call_min2 hc, fun b F H g vs ds z Q B rv e k => ?_⟩
  obtain ⟨i, j, rfl, rfl⟩ := two_ints (X := X) (rr := fun _ _ _ => True) (Q := Q) inv_min2 B rv e
  exact ⟨i, j, rfl, fin0 B (.int _) k⟩

/-! ### one argument -/
theorem one_of {b : Option Addr} {F : Addr → Prop} {H : Hp} {vs : List V} {d : D} (rv : RepOs X.K b F H vs [d]) : ∃ v, vs = [v] ∧ RepO X.K b F H v d := by
  cases rv with
  | cons r1 t => cases t; exact ⟨_, rfl, r1⟩
def on1 (op : D → Option D) : List D → Option D
  | [d] => op d
  | _ => none
theorem on1_inv {op : D → Option D} {ds : List D} {z : D} (h : on1 op ds = some z) : ∃ d, ds = [d] ∧ op d = some z := by
  unfold on1 at h
  split at h
  · exact ⟨_, rfl, h⟩
  · cases h
def bLen : D → Option D
  | .list xs => some (.int xs.length)
  | .tuple xs => some (.int xs.length)
  | .str x => if x.length ≤ sizeLine then some (.int x.length) else none
  | .dict ps => if excP ps = true then none else some (.int ps.length)
  | _ => none
theorem repKv_len {K : PySem.W.Frag} {F : Addr → Prop} {H : Hp} : ∀ {kvs : List (Key × V)} {ps : List (D × D)}, RepKv K F H kvs ps → kvs.length = ps.length
  | _, _, .nil => rfl
  | _, _, .cons _ t => by rw [List.length_cons, List.length_cons, repKv_len t]
section
variable {K : PySem.W.Frag} {F : Addr → Prop} {H : Hp}
theorem rep_key {F : Addr → Prop} {H : Hp} (k : Key) : Rep K F H (kV k) (kD k) := by
  cases k with
  | inl i => exact .int i
  | inr x => exact .str x
def RepPr (K : PySem.W.Frag) (F : Addr → Prop) (H : Hp) (prs : List (V × V)) (ps : List (D × D)) : Prop := Paired (fun (q : V × V) (p : D × D) => Rep K F H q.1 p.1 ∧ Rep K F H q.2 p.2) prs ps
theorem RepKv.pr : ∀ {kvs : List (Key × V)} {ps : List (D × D)}, RepKv K F H kvs ps → RepPr K F H (kvs.map fun kv => (kV kv.1, kv.2)) ps
  | _, _, .nil => .nil
  | _, _, .cons r t => .cons ⟨rep_key _, r⟩ (RepKv.pr t)
theorem RepEn.pr : ∀ {xs : List En} {ps : List (D × D)}, RepEn K F H xs ps → ∃ prs, Paired (fun (q : V × V) (x : En) => q.1 = .ref x.2.1 ∧ RelV q.2 x.2.2) prs xs ∧ RepPr K F H prs ps
  | _, _, .nil => ⟨[], .nil, .nil⟩
  | _, _, .cons (b := b) (v := v) k q r t => by
    obtain ⟨prs, h1, h2⟩ := RepEn.pr t
    exact ⟨(.ref b, v) :: prs, .cons ⟨rfl, q⟩ h1, .cons ⟨k, r⟩ h2⟩
theorem RepDo.items {a : Addr} {u : HO} {ps : List (D × D)} (r : RepDo K F H a u ps) (hR : Rd H a u) : ∃ prs, ItemsR H a prs ∧ RepPr K F H prs ps := by
  cases r with
  | dk e r => subst e; exact ⟨_, .inl ⟨_, hR, rfl⟩, r.pr⟩
  | en e r =>
    subst e
    obtain ⟨prs, h1, h2⟩ := r.pr
    exact ⟨prs, .inr ⟨_, hR, h1⟩, h2⟩
theorem RepPr.fst : ∀ {prs : List (V × V)} {ps : List (D × D)}, RepPr K F H prs ps → RepAll K F H (prs.map (·.1)) (ps.map (·.1))
  | _, _, .nil => .nil
  | _, _, .cons r t => .cons r.1 (RepPr.fst t)
end
theorem repEn_len {K : PySem.W.Frag} {F : Addr → Prop} {H : Hp} : ∀ {xs : List En} {ps : List (D × D)}, RepEn K F H xs ps → xs.length = ps.length
  | _, _, .nil => rfl
  | _, _, .cons _ _ _ t => by rw [List.length_cons, List.length_cons, repEn_len t]
theorem bi_len : Bi X (.builtin "len") (on1 bLen) := by
  refine ⟨fun xs H Q => (∃ p ys, xs = [.ref p] ∧ (SqL X.K H p ys ∨ SqT X.K H p ys) ∧ Q (.int ys.length) H) ∨ (∃ z, xs = [.str z] ∧ z.length ≤ sizeLine ∧ Q (.int z.length) H) ∨ (∃ p kvs, xs = [.ref p] ∧ Rd H p (.dK kvs) ∧ Q (.int kvs.length) H) ∨ (∃ p es, xs = [.ref p] ∧ Rd H p (entsO p es) ∧ KeysOk X.K H es ∧ Q (.int es.length) H), fun pins s σ H xs us Q I rv h => ?_, fun b F H g vs ds z Q B rv e k => ?_⟩
  · rcases h with h | h | h | h
    · exact call_len_seq pins s σ H xs us Q I rv h
    · exact call_len_str pins s σ H xs us Q I rv h
    · obtain ⟨p, kvs, rfl, hd, q⟩ := h
      rw [Vals.ref1 rv]
      exact d_len I hd fun t s' I' => ⟨.int kvs.length, H, I', ⟨t, rfl⟩, q⟩
    · obtain ⟨p, es, rfl, hd, hk, q⟩ := h
      rw [Vals.ref1 rv]
      exact len_ents I hd hk fun t s' I' => ⟨.int es.length, H, I', ⟨t, rfl⟩, q⟩
  · obtain ⟨d, hdd, e'⟩ := on1_inv e
    clear e
    subst hdd
    have e := e'
    clear e'
    obtain ⟨v, rfl, r1⟩ := one_of rv
    cases d <;> first | (cases e; done) | skip
    · rename_i y
      have e : (if y.length ≤ sizeLine then some (PyData.int y.length) else none) = some z := e
      split at e
      · rename_i hz
        cases e
        exact .inr (.inl ⟨_, by rw [r1.str], hz, fin0 B (.int _) k⟩)
      · cases e
    · cases e
      obtain ⟨p, vs, rfl, h, q⟩ := r1.list
      exact .inl ⟨p, vs, rfl, .inl h, by rw [q.length]; exact fin0 B (.int _) k⟩
    · cases e
      obtain ⟨p, vs, rfl, h, q⟩ := r1.tuple
      exact .inl ⟨p, vs, rfl, .inr h, by rw [q.length]; exact fin0 B (.int _) k⟩
    · rename_i ps
      have e : (if excP ps = true then none else some (PyData.int ps.length)) = some z := e
      by_cases hx : excP ps = true
      · rw [if_pos hx] at e; cases e
      rw [if_neg hx] at e
      cases e
      obtain ⟨p, u, rfl, h, q⟩ := r1.dict (by simpa using hx)
      cases q with
      | dk e q => subst e; exact .inr (.inr (.inl ⟨p, _, rfl, h, by rw [repKv_len q]; exact fin0 B (.int _) k⟩))
      | en e q => subst e; exact .inr (.inr (.inr ⟨p, _, rfl, h, q.keysOk, by rw [repEn_len q]; exact fin0 B (.int _) k⟩))
def bTuple : D → Option D
  | .list xs => some (.tuple xs)
  | .tuple xs => some (.tuple xs)
  | .dict ps => if excP ps = true then none else some (.tuple (ps.map (·.1)))
  | _ => none
theorem bi_tuple (hc : X.calm = true) : Bi X (.type "tuple") (on1 bTuple) := by
  refine ⟨fun vs H Q => (∃ p xs, vs = [.ref p] ∧ ((SqL X.K H p xs ∧ ∀ q, H q = none → Q (.ref q) (upd H q (.tup xs))) ∨ (SqT X.K H p xs ∧ Q (.ref p) H))) ∨ rTupKeys vs H Q, fun pins s σ H xs us Q I rv h => ?_, fun b F H g vs ds z Q B rv e k => ?_⟩
  · rcases h with h | h
    · exact call_tuple_of pins s σ H xs us Q I rv h
    · exact call_tupKeys hc I rv h
  · obtain ⟨d, hdd, e'⟩ := on1_inv e
    clear e
    subst hdd
    have e := e'
    clear e'
    obtain ⟨v, rfl, r1⟩ := one_of rv
    cases d <;> first | (cases e; done) | skip
    · cases e
      obtain ⟨p, vs, rfl, h, q⟩ := r1.list
      exact .inl ⟨p, vs, rfl, .inl ⟨h, fun l hl => finT B hl q k⟩⟩
    · cases e
      obtain ⟨p, vs, rfl, h, q⟩ := r1.tuple
      exact .inl ⟨p, vs, rfl, .inr ⟨h, fin0 B (.tup h q) k⟩⟩
    · rename_i ps
      have e : (if excP ps = true then none else some (PyData.tuple (ps.map (·.1)))) = some z := e
      by_cases hx : excP ps = true
      · rw [if_pos hx] at e; cases e
      rw [if_neg hx] at e
      cases e
      obtain ⟨a, u, rfl, hR, r⟩ := r1.dict (by simpa using hx)
      obtain ⟨prs, hI, hp⟩ := r.items hR
      exact .inr ⟨a, prs, rfl, hI, fun l hl => finT B hl hp.fst k⟩
def bList : D → Option D
  | .list xs => some (.list xs)
  | .tuple xs => some (.list xs)
  | _ => none
theorem bi_list : Bi X (.type "list") (on1 bList) := by
  refine ⟨_, call_list_of, fun b F H g vs ds z Q B rv e k => ?_⟩
  obtain ⟨d, hdd, e'⟩ := on1_inv e
  clear e
  subst hdd
  have e := e'
  clear e'
  obtain ⟨v, rfl, r1⟩ := one_of rv
  cases d <;> first | (cases e; done) | skip
  · cases e
    obtain ⟨p, vs, rfl, h, q⟩ := r1.list
    exact ⟨p, vs, rfl, .inl h, fun l hl => finL B hl q k⟩
  · cases e
    obtain ⟨p, vs, rfl, h, q⟩ := r1.tuple
    exact ⟨p, vs, rfl, .inr h, fun l hl => finL B hl q k⟩

/-! ### lists of boolsD, of intsD -/
def boolsD : List D → Option (List Bool)
  | [] => some []
  | .bool c :: r => (boolsD r).map (c :: ·)
  | _ :: _ => none
theorem bools_eq : ∀ {ds : List D} {bs : List Bool}, boolsD ds = some bs → ds = bs.map .bool
  | [], bs, h => by cases h; rfl
  | d :: r, bs, h => by
    cases d <;> first | (cases h; done) | skip
    rename_i c
    unfold boolsD at h
    cases hr : boolsD r with
    | none => rw [hr] at h; cases h
    | some q => rw [hr] at h; cases h; rw [bools_eq hr]; rfl
theorem RepAll.bools {K : PySem.W.Frag} {F : Addr → Prop} {H : Hp} : ∀ {vs : List V} {bs : List Bool}, RepAll K F H vs (bs.map .bool) → vs = bs.map V.bl
  | _, [], .nil => rfl
  | _, n :: r, .cons h t => by
    cases h
    rw [RepAll.bools t]
    rfl
def onL {α : Type} (p : List D → Option α) (op : α → Option D) : D → Option D
  | .list xs => (p xs).bind op
  | _ => none
theorem onL_inv {α : Type} {p : List D → Option α} {op : α → Option D} {d z : D} (h : onL p op d = some z) : ∃ xs y, d = .list xs ∧ p xs = some y ∧ op y = some z := by
  unfold onL at h
  split at h
  · cases hp : p _ with
    | none => rw [hp] at h; cases h
    | some y => rw [hp] at h; exact ⟨_, y, rfl, hp, h⟩
  · cases h
def bAll : D → Option D := onL boolsD fun bs => some (.bool (bs.all (fun c => c)))
def bAny : D → Option D := onL boolsD fun bs => some (.bool (bs.any (fun c => c)))
theorem bi_all (hc : X.calm = true) : Bi X (.builtin "all") (on1 bAll) := by
  refine ⟨_, cr_all hc, fun b F H g vs ds z Q B rv e k => ?_⟩
  obtain ⟨d, hdd, e'⟩ := on1_inv e
  clear e
  subst hdd
  have e := e'
  clear e'
  obtain ⟨xs, bs, rfl, e1, e2⟩ := onL_inv e
  obtain ⟨v, rfl, r1⟩ := one_of rv
  cases e2
  obtain ⟨p, vs, rfl, h, q⟩ := r1.list
  rw [bools_eq e1] at q
  exact ⟨p, bs, rfl, by rw [← q.bools]; exact h, fin0 B (.bl _) k⟩
theorem bi_any (hc : X.calm = true) : Bi X (.builtin "any") (on1 bAny) := by
  refine ⟨_, cr_any hc, fun b F H g vs ds z Q B rv e k => ?_⟩
  obtain ⟨d, hdd, e'⟩ := on1_inv e
  clear e
  subst hdd
  have e := e'
  clear e'
  obtain ⟨xs, bs, rfl, e1, e2⟩ := onL_inv e
  obtain ⟨v, rfl, r1⟩ := one_of rv
  cases e2
  obtain ⟨p, vs, rfl, h, q⟩ := r1.list
  rw [bools_eq e1] at q
  exact ⟨p, bs, rfl, by rw [← q.bools]; exact h, fin0 B (.bl _) k⟩
def bSum : D → Option D := onL intsD fun ns => some (.int ns.sum)
theorem bi_sum (hc : X.calm = true) : Bi X (.builtin "sum") (on1 bSum) := by
  refine ⟨_, cr_sum hc, fun b F H g vs ds z Q B rv e k => ?_⟩
  obtain ⟨d, hdd, e'⟩ := on1_inv e
  clear e
  subst hdd
  have e := e'
  clear e'
  obtain ⟨xs, bs, rfl, e1, e2⟩ := onL_inv e
  obtain ⟨v, rfl, r1⟩ := one_of rv
  cases e2
  obtain ⟨p, vs, rfl, h, q⟩ := r1.list
  rw [ints_eq e1] at q
  exact ⟨p, bs, rfl, by rw [← q.ints]; exact h, fin0 B (.int _) k⟩

/-! ### sorted -/
def ins (n : Int) : List Int → List Int
  | [] => [n]
  | m :: r => if n ≤ m then n :: m :: r else m :: ins n r
def isort : List Int → List Int
  | [] => []
  | n :: r => ins n (isort r)
theorem ins_perm (n : Int) : ∀ l : List Int, (ins n l).Perm (n :: l)
  | [] => .refl _
  | m :: r => by
    unfold ins
    split
    · exact .refl _
    · exact ((ins_perm n r).cons m).trans (.swap n m r)
theorem isort_perm : ∀ l : List Int, (isort l).Perm l
  | [] => .refl _
  | n :: r => (ins_perm n _).trans ((isort_perm r).cons n)
theorem ins_sorted (n : Int) : ∀ l : List Int, l.Pairwise (· ≤ ·) → (ins n l).Pairwise (· ≤ ·)
  | [], _ => by simp [ins]
  | m :: r, h => by
    unfold ins
    rw [List.pairwise_cons] at h
    split
    · rename_i hnm
      refine List.pairwise_cons.mpr ⟨fun y hy => ?_, List.pairwise_cons.mpr h⟩
      rcases List.mem_cons.mp hy with rfl | hy
      · exact hnm
      · exact Int.le_trans hnm (h.1 y hy)
    · rename_i hnm
      refine List.pairwise_cons.mpr ⟨fun y hy => ?_, ins_sorted n r h.2⟩
      rcases List.mem_cons.mp ((ins_perm n r).mem_iff.mp hy) with rfl | hy
      · omega
      · exact h.1 y hy
theorem isort_sorted : ∀ l : List Int, (isort l).Pairwise (· ≤ ·)
  | [] => .nil
  | n :: r => ins_sorted n _ (isort_sorted r)
theorem sorted_one : ∀ {l l' : List Int}, l.Perm l' → l.Pairwise (· ≤ ·) → l'.Pairwise (· ≤ ·) → l = l'
  | [], l', p, _, _ => p.nil_eq
  | x :: r, [], p, _, _ => p.symm.nil_eq.symm
  | x :: r, y :: r', p, h, h' => by
    rw [List.pairwise_cons] at h h'
    have h1 : x ≤ y := by
      rcases List.mem_cons.mp (p.symm.mem_iff.mp List.mem_cons_self : y ∈ x :: r) with e | e
      · omega
      · exact h.1 y e
    have h2 : y ≤ x := by
      rcases List.mem_cons.mp (p.mem_iff.mp List.mem_cons_self : x ∈ y :: r') with e | e
      · omega
      · exact h'.1 x e
    have e : x = y := by omega
    subst e
    rw [sorted_one (p.cons_inv) h.2 h'.2]
def keysI : List (D × D) → Option (List Int)
  | [] => some []
  | (.int k, _) :: r => (keysI r).map (k :: ·)
  | _ :: _ => none
def bSorted : D → Option D
  | .list xs => (intsD xs).bind fun ns => some (.list ((isort ns).map .int))
  | .dict ps => (keysI ps).bind fun ns => if ns.length < 64 then some (.list ((isort ns).map .int)) else none
  | _ => none
theorem keysI_plain {ps : List (D × D)} {ns : List Int} (h : keysI ps = some ns) : plainD ps = true := by
  unfold keysI at h
  split at h
  · rfl
  · rfl
  · cases h
theorem RepKv.keysI {K : PySem.W.Frag} {F : Addr → Prop} {H : Hp} : ∀ {kvs : List (Key × V)} {ps : List (D × D)} {ns : List Int}, RepKv K F H kvs ps → PF.keysI ps = some ns → kvs.map (·.1) = ns.map Sum.inl
  | _, _, ns, .nil, h => by cases h; rfl
  | _, _, ns, .cons (k := k) (ps := ps) r t, h => by
    cases k with
    | inr x => cases h
    | inl i =>
      have h : (PF.keysI ps).map (i :: ·) = some ns := h
      cases hr : PF.keysI ps with
      | none => rw [hr] at h; cases h
      | some q =>
        rw [hr] at h
        cases h
        rw [List.map_cons, List.map_cons, RepKv.keysI t hr]
theorem repInts {F : Addr → Prop} {H : Hp} (ns : List Int) : RepAll X.K F H (ns.map V.int) (ns.map .int) := .ofInts ns
theorem bi_sorted (hc : X.calm = true) : Bi X (.builtin "sorted") (on1 bSorted) := by
  refine ⟨fun vs H Q => rSortedI X.K vs H Q ∨ (∃ (a : Addr) (kvs : List (Key × V)) (ks : List Int), vs = [.ref a] ∧ Rd H a (.dK kvs) ∧ kvs.map (·.1) = ks.map Sum.inl ∧ ks.length < 64 ∧
    ∀ (ys : List Int) (p : Addr), ys.Perm ks → ys.Pairwise (· ≤ ·) → H p = none → Q (.ref p) (upd H p (.lst (ys.map V.int)))), fun pins s σ H xs us Q I rv h => ?_, fun b F H g vs ds z Q B rv e k => ?_⟩
  · rcases h with h | h
    · exact cr_sortedI pins s σ H xs us Q I rv h
    · exact call_sortedDI hc pins s σ H xs us Q I rv h
  · obtain ⟨d, hdd, e'⟩ := on1_inv e
    clear e
    subst hdd
    have e := e'
    clear e'
    obtain ⟨v, rfl, r1⟩ := one_of rv
    cases d <;> first | (cases e; done) | skip
    · rename_i xs
      have e : ((intsD xs).bind fun ns => some (PyData.list ((isort ns).map .int))) = some z := e
      cases hi : intsD xs with
      | none => rw [hi] at e; cases e
      | some ns =>
        rw [hi] at e
        cases e
        obtain ⟨p, vs, rfl, h, q⟩ := r1.list
        rw [ints_eq hi] at q
        refine .inl ⟨p, ns, rfl, by rw [← q.ints]; exact h, fun ns' l h1 h2 hl => ?_⟩
        have : ns' = isort ns := sorted_one (h1.trans (isort_perm ns).symm) h2 (isort_sorted ns)
        subst this
        exact finL B hl (repInts _) k
    · rename_i ps
      have e : ((keysI ps).bind fun ns => if ns.length < 64 then some (PyData.list ((isort ns).map .int)) else none) = some z := e
      cases hi : keysI ps with
      | none => rw [hi] at e; cases e
      | some ns =>
        rw [hi] at e
        have e : (if ns.length < 64 then some (PyData.list ((isort ns).map .int)) else none) = some z := e
        split at e
        · rename_i h64
          cases e
          obtain ⟨p, u, rfl, h, q⟩ := r1.dict (plain_nexc (keysI_plain hi))
          obtain ⟨kvs, eu, q2⟩ := q.plain (keysI_plain hi)
          subst eu
          refine .inr ⟨p, kvs, ns, rfl, h, q2.keysI hi, h64, fun ns' l h1 h2 hl => ?_⟩
          have : ns' = isort ns := sorted_one (h1.trans (isort_perm ns).symm) h2 (isort_sorted ns)
          subst this
          exact finL B hl (repInts _) k
        · cases e

/-! ### max, min of a list -/
def bMaxL : D → Option D := onL intsD fun ns => match ns with | [] => none | n :: r => some (.int (r.foldl max n))
def bMinL : D → Option D := onL intsD fun ns => match ns with | [] => none | n :: r => some (.int (r.foldl min n))
theorem foldl_max_mem : ∀ (r : List Int) (n : Int), r.foldl max n ∈ n :: r ∧ ∀ y ∈ n :: r, y ≤ r.foldl max n
  | [], n => ⟨by simp, by simp⟩
  | m :: r, n => by
    obtain ⟨h1, h2⟩ := foldl_max_mem r (max n m)
    rw [List.foldl_cons]
    refine ⟨?_, fun y hy => ?_⟩
    · rcases List.mem_cons.mp h1 with h | h
      · rw [h]
        by_cases hnm : n ≤ m
        · rw [Int.max_eq_right hnm]; simp
        · rw [Int.max_eq_left (by omega)]; simp
      · simp [h]
    · have hm := h2 (max n m) (by simp)
      rcases List.mem_cons.mp hy with rfl | hy
      · have := Int.le_max_left y m; omega
      · rcases List.mem_cons.mp hy with rfl | hy
        · have := Int.le_max_right n y; omega
        · exact h2 y (by simp [hy])
theorem foldl_min_mem : ∀ (r : List Int) (n : Int), r.foldl min n ∈ n :: r ∧ ∀ y ∈ n :: r, r.foldl min n ≤ y
  | [], n => ⟨by simp, by simp⟩
  | m :: r, n => by
    obtain ⟨h1, h2⟩ := foldl_min_mem r (min n m)
    rw [List.foldl_cons]
    refine ⟨?_, fun y hy => ?_⟩
    · rcases List.mem_cons.mp h1 with h | h
      · rw [h]
        by_cases hnm : n ≤ m
        · rw [Int.min_eq_left hnm]; simp
        · rw [Int.min_eq_right (by omega)]; simp
      · simp [h]
    · have hm := h2 (min n m) (by simp)
      rcases List.mem_cons.mp hy with rfl | hy
      · have := Int.min_le_left y m; omega
      · rcases List.mem_cons.mp hy with rfl | hy
        · have := Int.min_le_right n y; omega
        · exact h2 y (by simp [hy])
theorem bi_maxL (hc : X.calm = true) : Bi X (.builtin "max") (on1 bMaxL) := by
  refine ⟨_, cr_max hc, fun b F H g vs ds z Q B rv e k => ?_⟩
  obtain ⟨d, hdd, e'⟩ := on1_inv e
  clear e
  subst hdd
  have e := e'
  clear e'
  obtain ⟨xs, ns, rfl, e1, e2⟩ := onL_inv e
  obtain ⟨v, rfl, r1⟩ := one_of rv
  obtain ⟨p, vs, rfl, h, q⟩ := r1.list
  rw [ints_eq e1] at q
  cases ns with
  | nil => cases e2
  | cons n r =>
    cases e2
    refine ⟨p, n :: r, rfl, by rw [← q.ints]; exact h, Nat.succ_pos _, fun m h1 h2 => ?_⟩
    obtain ⟨k1, k2⟩ := foldl_max_mem r n
    have : m = r.foldl max n := by
      have a1 := h2 _ k1
      have a2 := k2 m h1
      omega
    subst this
    exact fin0 B (.int _) k
theorem bi_minL (hc : X.calm = true) : Bi X (.builtin "min") (on1 bMinL) := by
  refine ⟨_, cr_min hc, fun b F H g vs ds z Q B rv e k => ?_⟩
  obtain ⟨d, hdd, e'⟩ := on1_inv e
  clear e
  subst hdd
  have e := e'
  clear e'
  obtain ⟨xs, ns, rfl, e1, e2⟩ := onL_inv e
  obtain ⟨v, rfl, r1⟩ := one_of rv
  obtain ⟨p, vs, rfl, h, q⟩ := r1.list
  rw [ints_eq e1] at q
  cases ns with
  | nil => cases e2
  | cons n r =>
    cases e2
    refine ⟨p, n :: r, rfl, by rw [← q.ints]; exact h, Nat.succ_pos _, fun m h1 h2 => ?_⟩
    obtain ⟨k1, k2⟩ := foldl_min_mem r n
    have : m = r.foldl min n := by
      have a1 := h2 _ k1
      have a2 := k2 m h1
      omega
    subst this
    exact fin0 B (.int _) k

/-! ### repr -/
def bRepr (d : D) : Option D := if (SeqAt.shaped d && d.showable && decide (d.shown.length ≤ sizeLine)) = true then some (.str d.shown) else none
def rRepr (K : PySem.W.Frag) : List V → Hp → VK → Prop := fun vs H Q => ∃ v d, vs = [v] ∧ Dp K H v d ∧ SeqAt.shaped d = true ∧ d.showable = true ∧ d.shown.length ≤ sizeLine ∧ Q (.str d.shown) H
theorem cr_repr (hg : X.A.guards = some []) (hu : X.A.units + 128 < cLine) : CallR X (.builtin "repr") (rRepr X.K) := by
  intro pins s σ H vs us Q I r h
  obtain ⟨v, d, rfl, hd, hsh, hs, hz, q⟩ := h
  obtain ⟨u, rfl, ru⟩ := vals1 r
  have nd := noDict_shaped hsh
  obtain ⟨as, hr⟩ := Dp.reads I d v u hd ru
  have fin : ∀ (h' : Heap) (tk t : Nat), (∀ b o, s.heap.get? b = some o → h'.get? b = some o) → EP X pins σ Q (.str d.shown t) { s with heap := h', toks := tk } := fun h' tk t hk => ⟨.str d.shown, H, I.kept hk, ⟨t, rfl⟩, q⟩
  have keep0 : ∀ b o, s.heap.get? b = some o → s.heap.get? b = some o := fun _ _ e => e
  have dd : d.depth ≤ 64 := SeqAt.depth_of_shaped hsh
  have viaRef : ∀ a, u = .ref a → wpAny (model X.prog X.w) X.A (call (.builtin "repr") [u]) (EP X pins σ Q) X.xe s := fun a e => by
    subst e
    obtain ⟨T, idr, SB⟩ := showsBy_of_reads (prog := X.prog) (w := X.w) hr hs (PyData.noDict_hsm nd) hz
    refine call_repr_slot (by omega) (SB.typeIs s keep0) SB.slotRepr ?_
    exact SB.call X.A.in1 _ s _ hg (by show X.A.units + 1 + d.depth < cLine; omega) keep0 fun h' t tk hk => ⟨_, _, rfl, fin h' tk t hk⟩
  cases hd with
  | non =>
    obtain rfl : u = Value.none := ru
    exact P.repr_of_none (fin s.heap _ _ keep0)
  | bl b =>
    obtain rfl : u = Value.bool b := ru
    exact P.repr_of_bool (fin s.heap _ _ keep0)
  | int i =>
    obtain ⟨t, rfl⟩ := ru
    exact P.repr_of_int (by simpa [PyData.showable] using hs) (fin s.heap _ _ keep0)
  | str x =>
    obtain ⟨t, rfl⟩ := ru
    exact P.repr_of_str (fin s.heap _ _ keep0) hz
  | lst _ _ => exact viaRef _ ru
  | tup _ _ => exact viaRef _ ru
theorem bi_repr (hg : X.A.guards = some []) (hu : X.A.units + 128 < cLine) : Bi X (.builtin "repr") (on1 bRepr) := by
  refine ⟨_, cr_repr hg hu, fun b F H g vs ds z Q B rv e k => ?_⟩
  obtain ⟨d, hdd, e'⟩ := on1_inv e
  clear e
  subst hdd
  have e := e'
  clear e'
  obtain ⟨v, rfl, r1⟩ := one_of rv
  unfold bRepr at e
  split at e
  · rename_i h
    cases e
    simp only [Bool.and_eq_true, decide_eq_true_eq] at h
    exact ⟨v, d, rfl, r1.dp (noDict_shaped h.1.1), h.1.1, h.1.2, h.2, fin0 B (.str _) k⟩
  · cases e
end
end PF

set_option Elab.async false
set_option linter.all false
set_option maxRecDepth 100000
set_option maxHeartbeats 2000000
/-! PF10: comprehensions, isinstance by data. -/
namespace PF
open PySem PySem.Spec PyProof.Rows L2
variable [TabT]

/-! ### nothing is raised within a comprehension -/
def calmR {α : Type} : Res α → Res α
  | .exc _ _ _ => .fail
  | r => r
theorem Out.calm {α : Type} {K : PySem.W.Frag} {ct : Nat → ClsInfo} {b : Option Addr} {F : Addr → Prop} {H : Hp} {W W' : WK} {P : α → List Int → (Addr → Prop) → Hp → Prop} {r : Res α} (h : Out K ct b F H W P (calmR r)) : Out K ct b F H W' P r := by
  cases r with
  | ok x g => exact h
  | exc c p g => exact h.elim
  | fail => exact h
def noW : WX := fun _ _ _ _ => False
/-- the block of a comprehension -/
abbrev blkCx (X : Cx) (scope : Scope) (s : Shared) (H : Hp) (C : Addr) (cl : List (Str × Addr)) (fp : List Addr) : Cx := X.blk s H scope (compEnvC scope cl C X.env) fp
theorem takes_blk {X : Cx} {scope : Scope} {s : Shared} {H : Hp} {C : Addr} {cl : List (Str × Addr)} {fp : List Addr} : Takes (blkCx X scope s H C cl fp) noW := fun u s' h => by
  obtain ⟨_, _, _, _, _, _, _, _, _, _, _, _, _, _, _, _, w⟩ := h
  exact w.elim
/-- a clause's tests -/
def STs (X : Cx) (ct : Nat → ClsInfo) (d : Env → M Bool) (es : List Expr) : Prop := ∀ W : WX, Takes X W → PTs X es (rdT X.K ct W d)
def tTrue : Env → M Bool := fun _ g => .ok true g
theorem ptsW {X : Cx} {es : List Expr} {t t' : TT} (h : PTs X es t) (i : ∀ σ H Q, t' σ H Q → t σ H Q) : PTs X es t' := ⟨fun pins s σ H Q I q => h.run pins s σ H Q I (i σ H Q q)⟩
theorem sts_nil {X : Cx} {ct : Nat → ClsInfo} : STs X ct tTrue [] := fun W tk => ptsW pts_nil fun σ H Q ⟨b, F, ow, ρ, g, S, o⟩ => Out.ok o S.toBg
theorem sts_one {X : Cx} {ct : Nat → ClsInfo} {t : Env → M Bool} {e : Expr} (h : ST X ct t e) : STs X ct t [e] := fun W tk => pts_one (h W tk)

/-! ### [el for tg in it if t] -/
def cLoop (tg : Tgt) (t : Env → M Bool) (el : Env → M D) (ρ : Env) : List D → M (List D)
  | [] => fun g => .ok [] g
  | x :: xs => fun g => match tg.put x ρ with
    | some ρ1 => (calmR (t ρ1 g)).bind fun k g1 => if k = true then (calmR (el ρ1 g1)).bind fun y g2 => (cLoop tg t el ρ xs g2).bind fun ys g3 => .ok (y :: ys) g3 else cLoop tg t el ρ xs g1
    | none => .fail
def fComp (tg : Tgt) (vs : List Nat) (it : Env → M (List D)) (t : Env → M Bool) (el : Env → M D) : Env → M (List D) := fun ρ g => (it ρ g).bind fun xs g1 => if xs.length ≤ sizeLine then cLoop tg t el (wipeE ρ vs) xs g1 else .fail
section
variable {X : Cx} {ct : Nat → ClsInfo} {W : WX} {pos : Pos}
theorem Out.map {α β : Type} {K : PySem.W.Frag} {b : Option Addr} {F : Addr → Prop} {H : Hp} {W : WK} {P : β → List Int → (Addr → Prop) → Hp → Prop} {r : Res α} {f : α → β} (h : Out K ct b F H W P (r.bind fun x g => .ok (f x) g)) :
    Out K ct b F H W (fun x g' F' H' => P (f x) g' F' H') r := by
  cases r with
  | ok x g => exact h
  | exc c p g => exact h
  | fail => exact h
/-- another list is written: none of the frame's -/
theorem StR.other {K : PySem.W.Frag} {b : Option Addr} {F : Addr → Prop} {H : Hp} {ow : Nat → Option Addr} {σ : L2.St} {ρ : Env} {g : List Int} {a : Addr} {o : HO} (S : StR K b F H ow σ ρ g) (nf : ¬ F a) (nb : b ≠ some a) (no : ∀ i, ow i ≠ some a) (nt : ∀ vs, H a ≠ some (.tup vs)) (nz : ∀ o u, H a ≠ some (.frz o u)) (np : ∀ o', H a = some o' → Pl o') (nn : NT o := by intro _ z; cases z) :
    StR K b F (upd H a o) ow σ ρ g := by
  have m : Mono F H F (upd H a o) := by
    refine ⟨fun _ f => f, fun c u f h => ?_, fun c vs h => ?_, fun c _ _ f h => by rw [upd_ne (fun (e : c = a) => nf (e ▸ f))]; exact h⟩
    · have hc : c ≠ a := fun e => nf (e ▸ f)
      rcases h with h | ⟨o', h⟩
      · exact .inl (by rw [upd_ne hc]; exact h)
      · exact .inr ⟨o', by rw [upd_ne hc]; exact h⟩
    · rcases h with h | ⟨o', h⟩
      · exact .inl (by rw [upd_ne (fun (e : c = a) => nt vs (by rw [← e]; exact h))]; exact h)
      · exact .inr ⟨o', by rw [upd_ne (fun (e : c = a) => nz o' _ (by rw [← e]; exact h))]; exact h⟩
  have other : ∀ c, c ≠ a → upd H a o c = H c := fun c h => upd_ne h
  refine { wf := fun c f => ?_, bag := fun c e => ?_, len := S.len, slot := fun j s' hj => ?_, inj := S.inj, nb := S.nb, oat := fun j c h => ?_, tabs := S.tabs.ext (TabE.upd np nn) }
  · obtain ⟨o', q⟩ := S.wf c f
    exact ⟨o', by rw [other c fun e => nf (e ▸ f)]; exact q⟩
  · obtain ⟨q, n⟩ := S.bag c e
    exact ⟨by rw [other c fun (z : c = a) => nb (e.trans (by rw [z]))]; exact q, n⟩
  · have q := S.slot j s' hj
    cases s' with
    | val d => obtain ⟨v, e1, r⟩ := q; exact ⟨v, e1, r.up m⟩
    | own ds => obtain ⟨c, vs, e0, e1, nf', h1, r⟩ := q; exact ⟨c, vs, e0, e1, nf', by rw [other c fun (z : c = a) => no j (by rw [← z]; exact e0)]; exact h1, r.up m⟩
    | ownd ds => obtain ⟨c, vs, e0, e1, nf', h1, r⟩ := q; exact ⟨c, vs, e0, e1, nf', by rw [other c fun (z : c = a) => no j (by rw [← z]; exact e0)]; exact h1, r.up m⟩
    | bag => exact q
  · obtain ⟨o', q⟩ := S.oat j c h
    exact ⟨o', by rw [other c fun (z : c = a) => no j (by rw [← z]; exact h)]; exact q⟩
theorem wipe_wipe {vs : List Nat} {σ : L2.St} : wipe (wipe σ vs) vs = wipe σ vs := by
  have gen : ∀ (us : List Nat) (τ : L2.St), (∀ i ∈ us, i ∈ vs) → wipe (wipe τ us) vs = wipe τ vs := by
    intro us
    induction us with
    | nil => intro τ _; rfl
    | cons u us ih =>
      intro τ h
      show wipe ((wipe τ us).set u none) vs = wipe τ vs
      rw [wipe_set (h u List.mem_cons_self)]
      exact ih τ fun i hi => h i (List.mem_cons_of_mem _ hi)
  exact gen vs σ fun _ h => h
/-- one reading of the loop: Ps the end, from the very start Fs Hs; fin: how the items so far are held at D -/
theorem lc_read {K : PySem.W.Frag} {b : Option Addr} {Fs : Addr → Prop} {Hs : Hp} {F1 : Addr → Prop} {H1 : Hp} {ow : Nat → Option Addr} {σ : L2.St} {ρ : Env} {g1 : List Int} {Dl : Addr} {vs : List Nat} {tg : Tgt} {t : Env → M Bool} {el : Env → M D} {xs : List D} {J : It} {Q : VK} {WK' : WK}
    (hix : ∀ i ∈ tg.idx, i ∈ vs) (S1 : StR K b F1 H1 ow σ ρ g1) (e1 : Ext b Fs Hs F1 H1) (hJ : Walks K J F1 H1 xs) (hD : H1 Dl = none) (hz : xs.length ≤ sizeLine)
    (o : Out K ct b Fs Hs WK' (PVF K b Hs Q) (cLoop tg t el (wipeE ρ vs) xs g1)) :
    ∃ Wi : Nat → Nat → Hp → Prop, (∃ m, Wi 0 m (upd H1 Dl (.lst []))) ∧ ∀ i m H, Wi i m H →
      (J.stop i H ∧ Q (.ref Dl) H) ∨ (J.go i H ∧ ∃ Nx : Hp → Prop, (∀ H', Nx H' → ∃ m', m' < m ∧ Wi (i + 1) m' H') ∧ ∀ x H', J.yld i H x H' → gtOf K tg x (wipe σ vs) H' fun σ2 H2 => wipe σ2 vs = wipe σ vs ∧ rdT K ct noW t σ2 H2 fun b H3 =>
        if b = true then rdE K ct noW el σ2 H3 fun y H4 => ∃ acc, H4 Dl = some (.lst acc) ∧ acc.length < sizeLine ∧ Nx (upd H4 Dl (.lst (acc ++ [y]))) else Nx H3) := by
  have hDs : Nn Hs Dl := e1.none_of (S1.neNew hD) (nn_of hD)
  have nbD : b ≠ some Dl := S1.neNew hD
  -- what holds between two turns
  let Wi : Nat → Nat → Hp → Prop := fun i m H => ∃ F g acc accD, StR K b F H ow σ ρ g ∧ Ext b Fs Hs F H ∧ Mono F1 H1 F H ∧ ¬ F Dl ∧ H Dl = some (.lst acc) ∧ RepAll K F H acc accD ∧ acc.length ≤ i ∧ m = xs.length - i ∧ i ≤ xs.length ∧
    Out K ct b Fs Hs WK' (fun zs g' F' H' => PVF K b Hs Q (accD ++ zs) g' F' H') (cLoop tg t el (wipeE ρ vs) (xs.drop i) g)
  refine ⟨Wi, ⟨xs.length, ?_⟩, ?_⟩
  · have e2 := Ext.new (o := .lst []) S1.toBg hD
    have nf : ¬ F1 Dl := fun f => by
      obtain ⟨o', q, _⟩ := S1.wf Dl f
      rw [hD] at q; cases q
    exact ⟨F1, g1, [], [], S1.up e2 (S1.toBg.new hD), e1.trans e2, e2.up S1.toBg, nf, upd_same, .nil, Nat.le_refl _, rfl, Nat.zero_le _, o⟩
  · rintro i m H ⟨F, g, acc, accD, S, eS, mo, nf, hDl, ra, hal, rfl, hi, oo⟩
    obtain ⟨w1, w2⟩ := hJ i b g F H mo S.toBg
    by_cases hlt : i < xs.length
    · have hget : xs[i]? = some xs[i] := List.getElem?_eq_getElem hlt
      obtain ⟨hgo, hy⟩ := w1 _ hget
      rw [List.drop_eq_getElem_cons hlt] at oo
      unfold cLoop at oo
      cases hx : tg.put xs[i] (wipeE ρ vs) with
      | none => rw [hx] at oo; exact oo.elim
      | some ρ1 =>
        rw [hx] at oo
        refine .inr ⟨hgo, Wi (i + 1) (xs.length - (i + 1)), fun H' hN => ⟨_, by omega, hN⟩, fun v H' hv => ?_⟩
        obtain ⟨e2, B2, rv⟩ := hy v H' hv
        have S2 := S.up e2 B2
        have Sw : StR K b F H' ow (wipe σ vs) (wipeE ρ vs) g := S2.wipe vs
        refine gt_read Sw rv hx fun σ2 ow2 S3 hs3 hw3 => ?_
        have hwz : wipe σ2 vs = wipe σ vs := (hw3 vs hix).trans wipe_wipe
        refine ⟨hwz, b, F, ow2, ρ1, g, S3, ?_⟩
        -- the test
        have oT := (Out.bind0 oo)
        have oT2 : Out K ct b F H' (fun c dx H' => noW c dx σ2 H') _ (t ρ1 g) := Out.calm (Out.shift oT (eS.trans e2))
        refine oT2.imp fun k g3 F3 H3 e3 B3 o3 => ?_
        have S4 := S3.up e3 B3
        have eS3 := (eS.trans e2).trans e3
        have nf3 : ¬ F3 Dl := fun f => by
          rcases e3.fresh Dl f with z | z
          · exact nf z
          · exact z _ (e2.keep Dl _ hDl nbD) (by intro _ q; cases q)
        have hD3 : H3 Dl = some (.lst acc) := e3.keep Dl _ (e2.keep Dl _ hDl nbD) nbD
        have ra3 := (ra.up (e2.up S.toBg)).up (e3.up B2)
        have mo3 := (mo.trans (e2.up S.toBg)).trans (e3.up B2)
        cases k with
        | false => exact ⟨F3, g3, acc, accD, (S2.up e3 B3), eS3, mo3, nf3, hD3, ra3, by omega, rfl, hlt, o3⟩
        | true =>
          have o3 : Out K ct b Fs Hs WK' (fun zs g' F' H' => PVF K b Hs Q (accD ++ zs) g' F' H') ((calmR (el ρ1 g3)).bind fun y g2 => (cLoop tg t el (wipeE ρ vs) (xs.drop (i + 1)) g2).bind fun ys g3 => .ok (y :: ys) g3) := o3
          refine ⟨b, F3, ow2, ρ1, g3, S4, ?_⟩
          have oE : Out K ct b F3 H3 (fun c dx H' => noW c dx σ2 H') _ (el ρ1 g3) := Out.calm (Out.shift (Out.bind0 o3) eS3)
          refine oE.imp fun y g4 F4 H4 e4 B4 o4 v4 r4 => ?_
          have hD4 : H4 Dl = some (.lst acc) := e4.keep Dl _ hD3 nbD
          have nf4 : ¬ F4 Dl := fun f => by
            rcases e4.fresh Dl f with z | z
            · exact nf3 z
            · exact z _ hD3 (by intro _ q; cases q)
          refine ⟨acc, hD4, by omega, ?_⟩
          -- the item is put behind
          have eS4 := eS3.trans e4
          have hne : ∀ c, F4 c → c ≠ Dl := fun c f z => nf4 (z ▸ f)
          have m5 : Mono F4 H4 F4 (upd H4 Dl (.lst (acc ++ [v4]))) := by
            refine ⟨fun _ f => f, fun c u f h => ?_, fun c ws h => ?_, fun c _ _ f h => by rw [upd_ne (hne c f)]; exact h⟩
            · rcases h with h | ⟨o', h⟩
              · exact .inl (by rw [upd_ne (hne c f)]; exact h)
              · exact .inr ⟨o', by rw [upd_ne (hne c f)]; exact h⟩
            · rcases h with h | ⟨o', h⟩
              · exact .inl (by rw [upd_ne (fun (z : c = Dl) => by rw [z, hD4] at h; cases h)]; exact h)
              · exact .inr ⟨o', by rw [upd_ne (fun (z : c = Dl) => by rw [z, hD4] at h; cases h)]; exact h⟩
          have eS5 : Ext b Fs Hs F4 (upd H4 Dl (.lst (acc ++ [v4]))) := by
            refine ⟨eS4.mono, eS4.fresh, fun c u h n nu => ?_, fun c f => ?_, fun c z => ?_, eS4.tb.trans (TabE.upd (fun o2 h2 => by rw [hD4] at h2; cases h2; exact pl_lst) (by intro _ z; cases z))⟩
            · rw [upd_ne (nn_ne h nu hDs)]; exact eS4.keep c u h n nu
            · obtain ⟨o', q⟩ := eS4.wf c f
              exact ⟨o', by rw [upd_ne (hne c f)]; exact q⟩
            · obtain ⟨n, ws, q⟩ := eS4.bag c z
              exact ⟨n, ws, by rw [upd_ne (fun (q : c = Dl) => nbD (z.trans (by rw [q])))]; exact q⟩
          have B5 : Bg b g4 F4 (upd H4 Dl (.lst (acc ++ [v4]))) := by
            refine ⟨eS5.wf, fun c z => ?_⟩
            obtain ⟨q, n⟩ := B4.bag c z
            exact ⟨by rw [upd_ne (fun (q : c = Dl) => nbD (z.trans (by rw [q])))]; exact q, n⟩
          have S5 : StR K b F4 (upd H4 Dl (.lst (acc ++ [v4]))) ow σ ρ g4 :=
            ((S2.up e3 B3).up e4 B4).other nf4 nbD (fun j q => by
              obtain ⟨o', z, _⟩ := S1.oat j Dl q
              rw [hD] at z; cases z) (fun ws q => by rw [hD4] at q; cases q) (fun o' u q => by rw [hD4] at q; cases q) (fun o2 h2 => by rw [hD4] at h2; cases h2; exact pl_lst)
          refine ⟨F4, g4, acc ++ [v4], accD ++ [y], S5, eS5, (mo3.trans (e4.up B3)).trans m5, nf4, upd_same, ((ra3.up (e4.up B3)).append (.cons r4 .nil)).up m5, by rw [List.length_append]; simp; omega, rfl, hlt, ?_⟩
          refine (Out.map o4).imp fun zs g6 F6 H6 e6 B6 q => ?_
          rw [List.append_assoc]
          exact q
    · have hge : xs.length ≤ i := by omega
      refine .inl ⟨w2 (List.getElem?_eq_none_iff.mpr hge), ?_⟩
      rw [List.drop_eq_nil_of_le hge] at oo
      have oo' : PVF K b Hs Q (accD ++ []) g F H := oo F H eS S.toBg
      rw [List.append_nil] at oo'
      exact oo' Dl acc hDs nf nbD hDl ra
theorem sf_lc {elt tge iter : Expr} {ifs : List Expr} {scope : Scope} {own : List (Str × Nat)} {tg : Tgt} {it : Env → M (List D)} {t : Env → M Bool} {el : Env → M D} (hc : X.calm = true) (hN : X.N.Nodup) (hi : SI X ct tge it iter) (ok : BlkOk X.N X.env.scope scope own)
    (hg : ∀ s H C cl fp, SG (blkCx X scope s H C cl fp) tg tge) (ht : ∀ s H C cl fp, STs (blkCx X scope s H C cl fp) ct t ifs) (he : ∀ s H C cl fp, SE (blkCx X scope s H C cl fp) ct el elt)
    (hs : ∀ x, foldedSetIterable iter X.env x = pure x) (hix : ∀ i ∈ tg.idx, i ∈ own.map (·.2)) : SF X ct (fComp tg (own.map (·.2)) it t el) (.ListComp elt [⟨tge, iter, ifs, 0⟩] scope pos) := fun W tk => by
  refine peW (pe_lc (g := gtOf X.K tg) (tt := rdT X.K ct noW t) (te := rdE X.K ct noW el) hc hN (hi W tk) ok (fun s H C cl fp => hg s H C cl fp) (fun s H C cl fp => ht s H C cl fp noW takes_blk) (fun s H C cl fp => he s H C cl fp noW takes_blk) hs) fun σ H Q ⟨b, F, ow, ρ, g, S, o⟩ => ?_
  refine ⟨b, F, ow, ρ, g, S, (Out.bind0 o).imp fun xs g1 F1 H1 e1 B1 o1 J hJ Dl hD => ?_⟩
  by_cases hz : xs.length ≤ sizeLine
  · rw [if_pos hz] at o1
    exact lc_read hix (S.up e1 B1) e1 hJ hD hz o1
  · rw [if_neg hz] at o1; exact o1.elim
end

/-! ### isinstance -/
inductive TyN where
  | int | bool | tuple | str | list | dict
def TyN.name : TyN → String
  | .int => "int" | .bool => "bool" | .tuple => "tuple" | .str => "str" | .list => "list" | .dict => "dict"
def tyD : D → String
  | .none => "NoneType" | .bool _ => "bool" | .int _ => "int" | .str _ => "str" | .list _ => "list" | .tuple _ => "tuple" | .dict _ => "dict"
def isTy0 : TyN → D → Bool
  | .int, .int _ => true
  | .int, .bool _ => true
  | .bool, .bool _ => true
  | .tuple, .tuple _ => true
  | .str, .str _ => true
  | .list, .list _ => true
  | .dict, .dict _ => true
  | _, _ => false
def isTy : TyN → D → Bool
  | .int, .int _ => true
  | .int, .bool _ => true
  | .bool, .bool _ => true
  | .tuple, .tuple _ => true
  | .str, .str _ => true
  | .list, .list _ => true
  | .dict, .dict ps => !excP ps
  | _, _ => false
theorem kit_tab (T : TyN) (d : D) (nx : excV d = false) : kitB (tyD d) T.name = some (isTy T d) := by
  have e : isTy .dict d = isTy0 .dict d := by
    cases d <;> first | rfl | skip
    rename_i ps
    show (!excP ps) = true
    rw [show excP ps = false from nx]; rfl
  have e2 : isTy T d = isTy0 T d := by cases T <;> first | exact e | (cases d <;> rfl)
  rw [e2]
  clear e e2 nx
  cases T <;> cases d <;> (show kitB _ _ = some _) <;> (dsimp only [tyD, TyN.name, isTy0]) <;> decide +kernel
section
variable {X : Cx} {ct : Nat → ClsInfo} {pos : Pos}
/-- the type of what may be looked at: a dict, too, whose keys are tuples -/
def TyY (K : PySem.W.Frag) (H : Hp) (v : V) (t : Value) : Prop := TyX K H v t ∨ (∃ a xs, v = .ref a ∧ Rd H a (entsO a xs) ∧ t = .type "dict") ∨ ∃ a C, v = .ref a ∧ (Rd H a (ExO (.ref C) a) ∨ ∃ dx fs, Rd H a (exo a C (some dx)) ∧ Rd H dx (exd dx fs)) ∧ ExcC K C ∧ t = .ref C
/-- an exception's object -/
theorem exc_at {pins : List (Addr × Obj)} {σ : L2.St} {H : Hp} {s : Shared} {a C : Addr} (I : Inv X pins σ H s) (h : Rd H a (ExO (.ref C) a) ∨ ∃ dx fs, Rd H a (exo a C (some dx)) ∧ Rd H dx (exd dx fs)) : ∃ o od, PySem.W.InstAt s.heap a o C od := by
  have fin : ∀ {a : Addr} {u : HO}, Rd H a u → ObjOk X.prog X.w H s.heap a u := fun h => by
    rcases h with h | ⟨o, h⟩
    · exact I.hok _ _ h
    · exact (I.hok _ _ h).2
  rcases h with h | ⟨dx, fs, h, h2⟩
  · have x := fin h
    obtain ⟨⟨oe, vs, ho, hz, hd, _⟩, _, _⟩ := x
    obtain ⟨oc, od, oda, osl⟩ := oe
    obtain ⟨h1, h2⟩ := hz
    dsimp only at h1 h2 hd
    subst h1 h2 hd
    exact ⟨_, none, ho, rfl, rfl, trivial⟩
  · obtain ⟨⟨t1, ho⟩, _, _⟩ := fin h
    obtain ⟨_, ⟨od, hd⟩, _⟩ := fin h2
    exact ⟨_, some od, ho, rfl, rfl, hd⟩
theorem kit_ofY {pins : List (Addr × Obj)} {σ : L2.St} {H : Hp} {s : Shared} {x : V} {u t : Value} (I : Inv X pins σ H s) (rx : RelV x u) (ty : TyY X.K H x t) : ∃ P : Heap → Prop, PySem.W.KitX X.K u t P ∧ P s.heap ∧ u ≠ .builtin "__main__.__loader__#opaque" := by
  rcases ty with ty | ⟨a, xs, rfl, h, rfl⟩ | ⟨a, C, rfl, h, C1, rfl⟩
  · exact kit_of I rx ty
  · cases (show u = Value.ref a from rx)
    exact ⟨_, PySem.W.kitx_dict, type_ents I h, fun z => nomatch z⟩
  · cases (show u = Value.ref a from rx)
    obtain ⟨o, od, hI⟩ := exc_at I h
    exact ⟨_, PySem.W.kitx_exc (ox := o) (od := od) (by obtain ⟨cd, hc, _⟩ := PySem.W.any_some C1.hd; rw [hc]; rfl) C1.hg C1.hk C1.hs C1.ha C1.hn C1.ht C1.hm, hI, fun z => nomatch z⟩
/-- an exception's datum, what it stands for -/
theorem RepO.excTy {K : PySem.W.Frag} {b : Option Addr} {F : Addr → Prop} {H : Hp} {v : V} {d : D} (r : RepO K b F H v d) (nx : excV d = true) : ∃ (c : Nat) (ps : List (D × D)), d = .dict ((.none, .int c) :: ps) ∧ XcOk K (TabT.cl c).addr ∧ TyY K H v (.ref (TabT.cl c).addr) := by
  cases r with
  | own _ h _ => cases nx
  | ownd _ h r => rw [show excV (.dict _) = excP _ from rfl, r.nexc] at nx; cases nx
  | rep r =>
    cases r with
    | non => cases nx
    | bl b => cases nx
    | int i => cases nx
    | str x => cases nx
    | lst h _ => cases nx
    | tup h _ => cases nx
    | dct _ h r => rw [show excV (.dict _) = excP _ from rfl, r.nexc] at nx; cases nx
    | exc f h e x => exact ⟨_, _, rfl, x, .inr (.inr ⟨_, _, rfl, .inl h, x.ex, rfl⟩)⟩
    | excf f h g k e x r => exact ⟨_, _, rfl, x, .inr (.inr ⟨_, _, rfl, .inr ⟨_, _, h, k⟩, x.ex, rfl⟩)⟩
def rIsiY (K : PySem.W.Frag) : List V → Hp → VK → Prop := fun xs H Q => ∃ (x c : V) (t u : Value) (b : Bool), xs = [x, c] ∧ ClsV c u ∧ TyY K H x t ∧ PySem.W.kitOne K t u = some b ∧ Q (.bl b) H
theorem call_isiY : CallR X (.builtin "isinstance") (rIsiY X.K) := by
  intro pins s σ H xs us Q I r h
  obtain ⟨x, c, t, u, b, rfl, k, ty, e, q⟩ := h
  obtain ⟨u1, u2, rfl, r1, r2⟩ := vals2 r
  have e2 := k.eq r2
  subst e2
  obtain ⟨P, Z, p, hx⟩ := kit_ofY I r1 ty
  exact PySem.W.kia_one Z I.kIn p e hx fun tk => ⟨.bl b, H, I.tok tk, rfl, q⟩
theorem RepO.tyX {K : PySem.W.Frag} {b : Option Addr} {F : Addr → Prop} {H : Hp} {v : V} {d : D} (r : RepO K b F H v d) (nx : excV d = false) : TyY K H v (.type (tyD d)) := by
  cases r with
  | own _ h _ => exact .inl <| .base (.lst h)
  | ownd _ h r =>
    cases r with
    | dk e _ => subst e; exact .inl (.base (.dK h))
    | en e _ => subst e; exact .inr (.inl ⟨_, _, rfl, .inl h, rfl⟩)
  | rep r =>
    cases r with
    | non => exact .inl <| .base .non
    | bl b => exact .inl <| .base (.bl b)
    | int i => exact .inl <| .base (.int i)
    | str x => exact .inl <| .base (.str x)
    | lst h _ =>
      rcases h with ⟨_, h | ⟨o, h⟩⟩ | ⟨o, its, n, h1, h2, _⟩
      · exact .inl <| .base (.lst h)
      · exact .inl <| .base (.frz h)
      · exact .inl <| .kList h1 h2
    | tup h _ =>
      rcases h with (h | ⟨o, h⟩) | ⟨o, its, n, h1, h2, _⟩
      · exact .inl <| .base (.tup h)
      · exact .inl <| .fTuple h
      · exact .inl <| .kTuple h1 h2
    | dct _ h r =>
      cases r with
      | dk e _ => subst e; exact .inl (.fDict h)
      | en e _ => subst e; exact .inr (.inl ⟨_, _, rfl, .inr ⟨_, h⟩, rfl⟩)
    | exc _ _ _ _ => cases nx
    | excf _ _ _ _ _ _ _ => cases nx
def dIsi (T : TyN) (d : Env → M D) : Env → M D := lift1 (fun x => some (.bool (isTy T x))) d
theorem se_isi {e : Expr} {d : Env → M D} {T : TyN} {x y : Str} {p p2 : Pos} (hg : Gl X x) (hm : X.mg x = none) (hv : bootBuiltins x = some (.builtin "isinstance")) (hg2 : Gl X y) (hm2 : X.mg y = none) (hv2 : bootBuiltins y = some (.type T.name)) (ha : SO X ct d e) (hs : isStarB e = false)
    (hn : x ≠ "__name__") (hdb : (x == ("__debug__" : Str)) = false) (hn2 : y ≠ "__name__") (hdb2 : (y == ("__debug__" : Str)) = false) : SE X ct (dIsi T d) (.Call (.Name x p) [e, .Name y p2] [] pos) := fun W tk => by
  refine peW (pe_callB call_isiY hg hm hv (pa_cons (ha W tk) (pa_cons (pe_bltn (v := .ty T.name) hg2 hm2 hv2 rfl hn2 hdb2) pa_nil) (star_no hs)) hn hdb (star_no hs) rfl) fun σ H Q ⟨b, F, ow, ρ, g, S, o⟩ => ?_
  refine rd1 S o fun z g1 F1 H1 v e1 S1 r1 o1 => ?_
  by_cases hx : excV z = true
  · obtain ⟨c, ps, rfl, xo, ty⟩ := r1.excTy hx
    have e0 : isTy T (.dict ((.none, .int c) :: ps)) = false := by cases T <;> rfl
    refine ⟨v, .ty T.name, _, .type T.name, _, rfl, .ty _, ty, ?_, Out.ok o1 S1.toBg _ (.bl _)⟩
    rw [e0]
    exact xo.no _ (by cases T <;> decide)
  · exact ⟨v, .ty T.name, .type (tyD z), .type T.name, isTy T z, rfl, .ty _, r1.tyX (by simpa using hx), kit_ty (kit_tab T z (by simpa using hx)), Out.ok o1 S1.toBg _ (.bl _)⟩
end
end PF

set_option Elab.async false
set_option linter.all false
set_option maxRecDepth 100000
set_option maxHeartbeats 2000000
/-! PF11: dict comprehensions; what else is walked. -/
namespace PF
open PySem PySem.Spec PyProof.Rows L2
variable [TabT]

def isKeyD : D → Bool
  | .int _ => true
  | .str _ => true
  | _ => false
def eqID : List D → List D → Bool
  | [], [] => true
  | .int i :: r, .int j :: s => if i = j then eqID r s else false
  | _, _ => false
theorem eqID_ints : ∀ a b : List Int, eqID (a.map .int) (b.map .int) = decide (a = b)
  | [], [] => rfl
  | [], _ :: _ => rfl
  | _ :: _, [] => rfl
  | a :: r, b :: s => by
    rw [List.map_cons, List.map_cons]
    unfold eqID
    rw [eqID_ints r s]
    by_cases h : a = b
    · rw [if_pos h]; simp [h]
    · rw [if_neg h]; simp [h]
def sameKey : D → D → Bool
  | .int i, .int j => decide (i = j)
  | .str x, .str y => decide (x = y)
  | .tuple a, .tuple b => eqID a b
  | _, _ => false
/-- a tuple of ints -/
def tupKD : D → Option (List Int)
  | .tuple xs => intsD xs
  | _ => none
theorem tupKD_eq {y : D} {ns : List Int} (h : tupKD y = some ns) : y = .tuple (ns.map .int) := by
  cases y <;> first | (cases h; done) | skip
  rename_i xs
  rw [← ints_eq (show intsD xs = some ns from h)]
theorem sameKey_tup (ms ns : List Int) : sameKey (.tuple (ms.map .int)) (.tuple (ns.map .int)) = decide (kInts ms = kInts ns) := by
  show eqID _ _ = _
  rw [eqID_ints]
  by_cases h : ms = ns
  · subst h; simp
  · rw [decide_eq_false h, decide_eq_false fun z => h (kInts_inj z)]
def putD (ps : List (D × D)) (k d : D) : List (D × D) :=
  if (ps.any fun p => sameKey p.1 k) = true then ps.map (fun p => if sameKey p.1 k = true then (p.1, d) else p) else ps ++ [(k, d)]
theorem isKey_eq {y : D} (h : isKeyD y = true) : ∃ k : Key, y = kD k := by
  cases y <;> first | (cases h; done) | skip
  · exact ⟨.inl _, rfl⟩
  · exact ⟨.inr _, rfl⟩
theorem repKey {K : PySem.W.Frag} {F : Addr → Prop} {H : Hp} {v : V} {k : Key} (r : Rep K F H v (kD k)) : v = kV k := by
  cases k with
  | inl i => cases r; rfl
  | inr x => cases r; rfl
theorem sameKey_eq (k k' : Key) : sameKey (kD k) (kD k') = decide (k = k') := by
  cases k <;> cases k' <;> simp [sameKey, kD]
theorem putK_le (acc : List (Key × V)) (k : Key) (v : V) : (putK acc k v).length ≤ acc.length + 1 := by
  unfold putK
  split
  · rw [List.length_map]; omega
  · rw [List.length_append]; simp
section
variable {K : PySem.W.Frag} {F : Addr → Prop} {H : Hp}
theorem RepKv.any : ∀ {kvs : List (Key × V)} {ps : List (D × D)} (k : Key), RepKv K F H kvs ps → (kvs.any fun kv => decide (kv.1 = k)) = ps.any fun p => sameKey p.1 (kD k)
  | _, _, k, .nil => rfl
  | _, _, k, .cons r t => by rw [List.any_cons, List.any_cons, RepKv.any k t, sameKey_eq]
theorem RepKv.mapPut {v : V} {d : D} (k : Key) (q : Rep K F H v d) : ∀ {kvs : List (Key × V)} {ps : List (D × D)}, RepKv K F H kvs ps → RepKv K F H (kvs.map fun kv => if kv.1 = k then (kv.1, v) else kv) (ps.map fun p => if sameKey p.1 (kD k) = true then (p.1, d) else p)
  | _, _, .nil => .nil
  | _, _, .cons (k := k') r t => by
    rw [List.map_cons, List.map_cons]
    dsimp only
    rw [sameKey_eq]
    by_cases e : k' = k
    · rw [if_pos e, if_pos (decide_eq_true e)]
      exact .cons q (RepKv.mapPut k q t)
    · rw [if_neg e, if_neg (by simpa using e)]
      exact .cons r (RepKv.mapPut k q t)
theorem RepKv.app : ∀ {kvs us : List (Key × V)} {ps qs : List (D × D)}, RepKv K F H kvs ps → RepKv K F H us qs → RepKv K F H (kvs ++ us) (ps ++ qs)
  | _, _, _, _, .nil, s => s
  | _, _, _, _, .cons r t, s => .cons r (RepKv.app t s)
theorem RepKv.put {kvs : List (Key × V)} {ps : List (D × D)} {v : V} {d : D} (t : RepKv K F H kvs ps) (k : Key) (q : Rep K F H v d) : RepKv K F H (putK kvs k v) (putD ps (kD k) d) := by
  unfold putK putD
  rw [t.any k]
  split
  · exact t.mapPut k q
  · exact t.app (.cons q .nil)
theorem RepKv.length : ∀ {kvs : List (Key × V)} {ps : List (D × D)}, RepKv K F H kvs ps → kvs.length = ps.length
  | _, _, .nil => rfl
  | _, _, .cons _ t => by rw [List.length_cons, List.length_cons, RepKv.length t]
theorem atKey_any {k : List L2.Key} : ∀ {xs : List En}, (atKey xs k).isSome = xs.any fun x => decide (x.1 = k)
  | [] => rfl
  | x :: xs => by
    have ih := atKey_any (k := k) (xs := xs)
    unfold atKey at ih ⊢
    rw [List.find?_cons, List.any_cons]
    cases h : decide (x.1 = k) with
    | true => rfl
    | false => exact ih
theorem RepEn.any (ns : List Int) : ∀ {xs : List En} {ps : List (D × D)}, RepEn K F H xs ps → (xs.any fun x => decide (x.1 = kInts ns)) = ps.any fun p => sameKey p.1 (.tuple (ns.map .int))
  | _, _, .nil => rfl
  | _, _, .cons _ _ _ t => by rw [List.any_cons, List.any_cons, RepEn.any ns t, sameKey_tup]
theorem RepEn.mapPut {v : V} {d : D} {u : Value} (ns : List Int) (qv : RelV v u) (q : Rep K F H v d) : ∀ {xs : List En} {ps : List (D × D)}, RepEn K F H xs ps → RepEn K F H (xs.map (putAt (kInts ns) u)) (ps.map fun p => if sameKey p.1 (.tuple (ns.map .int)) = true then (p.1, d) else p)
  | _, _, .nil => .nil
  | _, _, .cons (ns := ms) k qu r t => by
    rw [List.map_cons, List.map_cons]
    unfold putAt
    dsimp only
    rw [sameKey_tup]
    by_cases e : kInts ms = kInts ns
    · rw [if_pos e, if_pos (decide_eq_true e)]
      exact .cons k qv q (RepEn.mapPut ns qv q t)
    · rw [if_neg e, if_neg (by simpa using e)]
      exact .cons k qu r (RepEn.mapPut ns qv q t)
theorem RepEn.app : ∀ {xs ys : List En} {ps qs : List (D × D)}, RepEn K F H xs ps → RepEn K F H ys qs → RepEn K F H (xs ++ ys) (ps ++ qs)
  | _, _, _, _, .nil, s => s
  | _, _, _, _, .cons k q r t, s => .cons k q r (RepEn.app t s)
theorem RepEn.put {xs : List En} {ps : List (D × D)} {v : V} {d : D} {u : Value} {b : Addr} {ns : List Int} (t : RepEn K F H xs ps) (k : Rep K F H (.ref b) (.tuple (ns.map .int))) (qv : RelV v u) (q : Rep K F H v d) :
    RepEn K F H (storedH xs (kInts ns) b u) (putD ps (.tuple (ns.map .int)) d) := by
  unfold storedH putD
  rw [atKey_any, t.any ns]
  split
  · exact t.mapPut ns qv q
  · exact t.app (.cons k qv q .nil)
theorem stored_ne (xs : List En) (k : List L2.Key) (b : Addr) (u : Value) : ∃ x r, storedH xs k b u = x :: r := by
  unfold storedH
  split
  · rename_i h
    cases xs with
    | nil => cases h
    | cons x r => exact ⟨_, _, rfl⟩
  · cases xs with
    | nil => exact ⟨_, _, rfl⟩
    | cons x r => exact ⟨_, _, rfl⟩
/-- all keys are tuples of ints -/
def entsD : List (D × D) → Bool
  | [] => true
  | (.tuple _, _) :: _ => true
  | _ => false
theorem ents_nexc {ps : List (D × D)} (h : entsD ps = true) : excP ps = false := by
  match ps, h with
  | [], _ => rfl
  | (.none, _) :: _, h => cases h
  | (.bool _, _) :: _, _ => rfl
  | (.int _, _) :: _, _ => rfl
  | (.str _, _) :: _, _ => rfl
  | (.list _, _) :: _, _ => rfl
  | (.tuple _, _) :: _, _ => rfl
  | (.dict _, _) :: _, _ => rfl
theorem RepDo.entsR {a : Addr} {u : HO} {ps : List (D × D)} (r : RepDo K F H a u ps) (h : entsD ps = true) : ∃ xs, (u = entsO a xs ∨ (xs = [] ∧ u = .dK [])) ∧ RepEn K F H xs ps := by
  cases r with
  | dk e q =>
    cases q with
    | nil => exact ⟨[], .inr ⟨rfl, e⟩, .nil⟩
    | @cons k _ _ _ _ _ _ => cases k <;> cases h
  | en e q => exact ⟨_, .inl e, q⟩
theorem RepDo.rdE {a : Addr} {u : HO} {ps : List (D × D)} (r : RepDo K F H a u ps) (hR : Rd H a u) (h : entsD ps = true) : ∃ xs, RdE K H a xs ∧ RepEn K F H xs ps := by
  obtain ⟨xs, e, q⟩ := r.entsR h
  refine ⟨xs, ⟨?_, q.keysOk⟩, q⟩
  rcases e with rfl | ⟨e, rfl⟩
  · exact .inl hR
  · exact .inr ⟨e, hR⟩
theorem RepDo.wrE {a : Addr} {u : HO} {ps : List (D × D)} (r : RepDo K F H a u ps) (hR : H a = some u) (h : entsD ps = true) : ∃ xs, WrE K H a xs ∧ RepEn K F H xs ps := by
  obtain ⟨xs, e, q⟩ := r.entsR h
  refine ⟨xs, ⟨?_, q.keysOk⟩, q⟩
  rcases e with rfl | ⟨e, rfl⟩
  · exact .inl hR
  · exact .inr ⟨e, hR⟩
theorem repEn_length : ∀ {xs : List En} {ps : List (D × D)}, RepEn K F H xs ps → xs.length = ps.length
  | _, _, .nil => rfl
  | _, _, .cons _ _ _ t => by rw [List.length_cons, List.length_cons, repEn_length t]
theorem repTup {b : Addr} {ns : List Int} (r : Rep K F H (.ref b) (.tuple (ns.map .int))) : SqT K H b (ns.map V.int) := by
  obtain ⟨a, vs, e, q, r2⟩ := r.tuple
  cases e
  rw [← r2.ints]
  exact q
end
/-! ### {kx: vx for tg in it if t} -/
def dLoop (tg : Tgt) (t : Env → M Bool) (kx vx : Env → M D) (ρ : Env) : List D → List (D × D) → M (List (D × D))
  | [], acc => fun g => .ok acc g
  | x :: xs, acc => fun g => match tg.put x ρ with
    | some ρ1 => (calmR (t ρ1 g)).bind fun k g1 => if k = true then (calmR (kx ρ1 g1)).bind fun y g2 => (calmR (vx ρ1 g2)).bind fun z g3 => if isKeyD y = true then dLoop tg t kx vx ρ xs (putD acc y z) g3 else .fail else dLoop tg t kx vx ρ xs acc g1
    | none => .fail
def fDComp (tg : Tgt) (vs : List Nat) (it : Env → M (List D)) (t : Env → M Bool) (kx vx : Env → M D) : Env → M (List (D × D)) := fun ρ g => (it ρ g).bind fun xs g1 => if xs.length ≤ sizeLine then dLoop tg t kx vx (wipeE ρ vs) xs [] g1 else .fail
section
variable {X : Cx} {ct : Nat → ClsInfo} {W : WX} {pos : Pos}
/-- the same for a dict -/
theorem dc_read {K : PySem.W.Frag} {b : Option Addr} {Fs : Addr → Prop} {Hs : Hp} {F1 : Addr → Prop} {H1 : Hp} {ow : Nat → Option Addr} {σ : L2.St} {ρ : Env} {g1 : List Int} {Dl : Addr} {vs : List Nat} {tg : Tgt} {t : Env → M Bool} {kx vx : Env → M D} {xs : List D} {J : It} {Q : VK} {WK' : WK}
    (hix : ∀ i ∈ tg.idx, i ∈ vs) (S1 : StR K b F1 H1 ow σ ρ g1) (e1 : Ext b Fs Hs F1 H1) (hJ : Walks K J F1 H1 xs) (hD : H1 Dl = none) (hz : xs.length ≤ sizeLine)
    (o : Out K ct b Fs Hs WK' (PVFd K b Hs Q) (dLoop tg t kx vx (wipeE ρ vs) xs [] g1)) :
    ∃ Wi : Nat → Nat → Hp → Prop, (∃ m, Wi 0 m (upd H1 Dl (.dK []))) ∧ ∀ i m H, Wi i m H →
      (J.stop i H ∧ Q (.ref Dl) H) ∨ (J.go i H ∧ ∃ Nx : Hp → Prop, (∀ H', Nx H' → ∃ m', m' < m ∧ Wi (i + 1) m' H') ∧ ∀ x H', J.yld i H x H' → gtOf K tg x (wipe σ vs) H' fun σ2 H2 => wipe σ2 vs = wipe σ vs ∧ rdT K ct noW t σ2 H2 fun b H3 =>
        if b = true then rdE K ct noW kx σ2 H3 fun y H4 => rdE K ct noW vx σ2 H4 fun z H5 => ∃ kvs k, y = kV k ∧ H5 Dl = some (.dK kvs) ∧ kvs.length < sizeLine ∧ Nx (upd H5 Dl (.dK (putK kvs k z))) else Nx H3) := by
  have hDs : Nn Hs Dl := e1.none_of (S1.neNew hD) (nn_of hD)
  have nbD : b ≠ some Dl := S1.neNew hD
  -- what holds between two turns
  let Wi : Nat → Nat → Hp → Prop := fun i m H => ∃ F g acc accD, StR K b F H ow σ ρ g ∧ Ext b Fs Hs F H ∧ Mono F1 H1 F H ∧ ¬ F Dl ∧ H Dl = some (.dK acc) ∧ RepKv K F H acc accD ∧ acc.length ≤ i ∧ m = xs.length - i ∧ i ≤ xs.length ∧
    Out K ct b Fs Hs WK' (PVFd K b Hs Q) (dLoop tg t kx vx (wipeE ρ vs) (xs.drop i) accD g)
  refine ⟨Wi, ⟨xs.length, ?_⟩, ?_⟩
  · have e2 := Ext.new (o := .dK []) S1.toBg hD
    have nf : ¬ F1 Dl := fun f => by
      obtain ⟨o', q, _⟩ := S1.wf Dl f
      rw [hD] at q; cases q
    exact ⟨F1, g1, [], [], S1.up e2 (S1.toBg.new hD), e1.trans e2, e2.up S1.toBg, nf, upd_same, .nil, Nat.le_refl _, rfl, Nat.zero_le _, o⟩
  · rintro i m H ⟨F, g, acc, accD, S, eS, mo, nf, hDl, ra, hal, rfl, hi, oo⟩
    obtain ⟨w1, w2⟩ := hJ i b g F H mo S.toBg
    by_cases hlt : i < xs.length
    · have hget : xs[i]? = some xs[i] := List.getElem?_eq_getElem hlt
      obtain ⟨hgo, hy⟩ := w1 _ hget
      rw [List.drop_eq_getElem_cons hlt] at oo
      unfold dLoop at oo
      cases hx : tg.put xs[i] (wipeE ρ vs) with
      | none => rw [hx] at oo; exact oo.elim
      | some ρ1 =>
        rw [hx] at oo
        refine .inr ⟨hgo, Wi (i + 1) (xs.length - (i + 1)), fun H' hN => ⟨_, by omega, hN⟩, fun v H' hv => ?_⟩
        obtain ⟨e2, B2, rv⟩ := hy v H' hv
        have S2 := S.up e2 B2
        have Sw : StR K b F H' ow (wipe σ vs) (wipeE ρ vs) g := S2.wipe vs
        refine gt_read Sw rv hx fun σ2 ow2 S3 hs3 hw3 => ?_
        have hwz : wipe σ2 vs = wipe σ vs := (hw3 vs hix).trans wipe_wipe
        refine ⟨hwz, b, F, ow2, ρ1, g, S3, ?_⟩
        -- the test
        have oT := (Out.bind0 oo)
        have oT2 : Out K ct b F H' (fun c dx H' => noW c dx σ2 H') _ (t ρ1 g) := Out.calm (Out.shift oT (eS.trans e2))
        refine oT2.imp fun k g3 F3 H3 e3 B3 o3 => ?_
        have S4 := S3.up e3 B3
        have eS3 := (eS.trans e2).trans e3
        have nf3 : ¬ F3 Dl := fun f => by
          rcases e3.fresh Dl f with z | z
          · exact nf z
          · exact z _ (e2.keep Dl _ hDl nbD) (by intro _ q; cases q)
        have hD3 : H3 Dl = some (.dK acc) := e3.keep Dl _ (e2.keep Dl _ hDl nbD) nbD
        have ra3 := (ra.up (e2.up S.toBg)).up (e3.up B2)
        have mo3 := (mo.trans (e2.up S.toBg)).trans (e3.up B2)
        cases k with
        | false => exact ⟨F3, g3, acc, accD, (S2.up e3 B3), eS3, mo3, nf3, hD3, ra3, by omega, rfl, hlt, o3⟩
        | true =>
          have o3 : Out K ct b Fs Hs WK' (PVFd K b Hs Q) ((calmR (kx ρ1 g3)).bind fun y g2 => (calmR (vx ρ1 g2)).bind fun z g4 => if isKeyD y = true then dLoop tg t kx vx (wipeE ρ vs) (xs.drop (i + 1)) (putD accD y z) g4 else .fail) := o3
          refine ⟨b, F3, ow2, ρ1, g3, S4, ?_⟩
          have oE : Out K ct b F3 H3 (fun c dx H' => noW c dx σ2 H') _ (kx ρ1 g3) := Out.calm (Out.shift (Out.bind0 o3) eS3)
          refine oE.imp fun y g4 F4 H4 e4 B4 o4 v4 r4 => ?_
          have S6 := S4.up e4 B4
          have eS4 := eS3.trans e4
          refine ⟨b, F4, ow2, ρ1, g4, S6, ?_⟩
          have oV : Out K ct b F4 H4 (fun c dx H' => noW c dx σ2 H') _ (vx ρ1 g4) := Out.calm (Out.shift (Out.bind0 o4) eS4)
          refine oV.imp fun z g5 F5 H5 e5 B5 o5 v5 r5 => ?_
          have hD4 : H4 Dl = some (.dK acc) := e4.keep Dl _ hD3 nbD
          have hD5 : H5 Dl = some (.dK acc) := e5.keep Dl _ hD4 nbD
          have nf4 : ¬ F4 Dl := fun f => by
            rcases e4.fresh Dl f with z | z
            · exact nf3 z
            · exact z _ hD3 (by intro _ q; cases q)
          have nf5 : ¬ F5 Dl := fun f => by
            rcases e5.fresh Dl f with z | z
            · exact nf4 z
            · exact z _ hD4 (by intro _ q; cases q)
          have eS5 := eS4.trans e5
          by_cases hk : isKeyD y = true
          · rw [if_pos hk] at o5
            obtain ⟨k, rfl⟩ := isKey_eq hk
            obtain rfl : v4 = kV k := repKey r4
            refine ⟨acc, k, rfl, hD5, by omega, ?_⟩
            have hne : ∀ c, F5 c → c ≠ Dl := fun c f z => nf5 (z ▸ f)
            have m6 : Mono F5 H5 F5 (upd H5 Dl (.dK (putK acc k v5))) := by
              refine ⟨fun _ f => f, fun c u f h => ?_, fun c ws h => ?_, fun c _ _ f h => by rw [upd_ne (hne c f)]; exact h⟩
              · rcases h with h | ⟨o', h⟩
                · exact .inl (by rw [upd_ne (hne c f)]; exact h)
                · exact .inr ⟨o', by rw [upd_ne (hne c f)]; exact h⟩
              · rcases h with h | ⟨o', h⟩
                · exact .inl (by rw [upd_ne (fun (z : c = Dl) => by rw [z, hD5] at h; cases h)]; exact h)
                · exact .inr ⟨o', by rw [upd_ne (fun (z : c = Dl) => by rw [z, hD5] at h; cases h)]; exact h⟩
            have eS6 : Ext b Fs Hs F5 (upd H5 Dl (.dK (putK acc k v5))) := by
              refine ⟨eS5.mono, eS5.fresh, fun c u h n nu => ?_, fun c f => ?_, fun c z => ?_, eS5.tb.trans (TabE.upd (fun o2 h2 => by rw [hD5] at h2; cases h2; exact pl_dK) (by intro _ z; cases z))⟩
              · rw [upd_ne (nn_ne h nu hDs)]; exact eS5.keep c u h n nu
              · obtain ⟨o', q⟩ := eS5.wf c f
                exact ⟨o', by rw [upd_ne (hne c f)]; exact q⟩
              · obtain ⟨n, ws, q⟩ := eS5.bag c z
                exact ⟨n, ws, by rw [upd_ne (fun (q : c = Dl) => nbD (z.trans (by rw [q])))]; exact q⟩
            have S7 : StR K b F5 (upd H5 Dl (.dK (putK acc k v5))) ow σ ρ g5 :=
              (((S2.up e3 B3).up e4 B4).up e5 B5).other nf5 nbD (fun j q => by
                obtain ⟨o', z, _⟩ := S1.oat j Dl q
                rw [hD] at z; cases z) (fun ws q => by rw [hD5] at q; cases q) (fun o' u q => by rw [hD5] at q; cases q) (fun o2 h2 => by rw [hD5] at h2; cases h2; exact pl_dK)
            have ra5 := (ra3.up (e4.up B3)).up (e5.up B4)
            have hlen : (putK acc k v5).length ≤ acc.length + 1 := putK_le acc k v5
            exact ⟨F5, g5, putK acc k v5, putD accD (kD k) z, S7, eS6, ((mo3.trans (e4.up B3)).trans (e5.up B4)).trans m6, nf5, upd_same, (ra5.put k r5).up m6, by omega, rfl, hlt, o5⟩
          · rw [if_neg hk] at o5; exact o5.elim
    · have hge : xs.length ≤ i := by omega
      refine .inl ⟨w2 (List.getElem?_eq_none_iff.mpr hge), ?_⟩
      rw [List.drop_eq_nil_of_le hge] at oo
      have oo' : PVFd K b Hs Q accD g F H := oo F H eS S.toBg
      exact oo' Dl _ hDs nf nbD hDl (.dk rfl ra)
theorem sfd_dc {kxe vxe tge iter : Expr} {ifs : List Expr} {scope : Scope} {own : List (Str × Nat)} {tg : Tgt} {it : Env → M (List D)} {t : Env → M Bool} {kx vx : Env → M D} (hc : X.calm = true) (hN : X.N.Nodup) (hi : SI X ct tge it iter) (ok : BlkOk X.N X.env.scope scope own)
    (hg : ∀ s H C cl fp, SG (blkCx X scope s H C cl fp) tg tge) (ht : ∀ s H C cl fp, STs (blkCx X scope s H C cl fp) ct t ifs) (hk : ∀ s H C cl fp, SE (blkCx X scope s H C cl fp) ct kx kxe) (hv : ∀ s H C cl fp, SE (blkCx X scope s H C cl fp) ct vx vxe)
    (hs : ∀ x, foldedSetIterable iter X.env x = pure x) (hix : ∀ i ∈ tg.idx, i ∈ own.map (·.2)) : SFd X ct (fDComp tg (own.map (·.2)) it t kx vx) (.DictComp kxe vxe [⟨tge, iter, ifs, 0⟩] scope pos) := fun W tk => by
  refine peW (pe_dc (g := gtOf X.K tg) (tt := rdT X.K ct noW t) (tk := rdE X.K ct noW kx) (tv := rdE X.K ct noW vx) hc hN (hi W tk) ok (fun s H C cl fp => hg s H C cl fp) (fun s H C cl fp => ht s H C cl fp noW takes_blk) (fun s H C cl fp => hk s H C cl fp noW takes_blk) (fun s H C cl fp => hv s H C cl fp noW takes_blk) hs) fun σ H Q ⟨b, F, ow, ρ, g, S, o⟩ => ?_
  refine ⟨b, F, ow, ρ, g, S, (Out.bind0 o).imp fun xs g1 F1 H1 e1 B1 o1 J hJ Dl hD => ?_⟩
  by_cases hz : xs.length ≤ sizeLine
  · rw [if_pos hz] at o1
    exact dc_read hix (S.up e1 B1) e1 hJ hD hz o1
  · rw [if_neg hz] at o1; exact o1.elim
end
end PF

set_option Elab.async false
set_option linter.all false
set_option maxRecDepth 100000
set_option maxHeartbeats 2000000
/-! PF12: exceptions of own classes whose __init__ is «super().__init__(x); self.f = x», over any built-in base. -/
namespace PF
open PySem PySem.Spec PyProof.Rows L2 PySem.W PySem.Calls Builtin Builtin.ObjectAttr
variable [TabT]

/-- the body of such an __init__ -/
abbrev supBody (a : Str) (sf : Str) (f : Str) (p0 p1 p2 p3 p4 p5 p6 p7 p8 p9 : Pos) : List Stmt :=
  [Stmt.Expr (.Call (.Attribute (.Call (.Name "super" p0) [] [] p1) "__init__" p2) [.Name a p3] [] p4) p5, .Assign [.Attribute (.Name sf p6) f p7] (.Name a p8) p9]
/-- what is asked of the class at C -/
structure SupC (prog : Program) (K : Frag) (C : Addr) (f : Str) where
  B : String
  newId : String
  initId : String
  bmB : List Value
  FB : ExcBaseFacts B newId initId bmB
  KF : KxsFacts B initId
  SF : StoreFacts B bmB "object.__setattr__" "object"
  cls : excInitIn K C bmB newId = true
  over : excOver K C bmB = true
  sa : findIn K (.ref C) "__setattr__" = some (some (.builtin "object.__setattr__"))
  tk : takerIn K C f = some none
  hd : hasDictIn K C = true
  sub : subIn K (.ref C) (.type B) = some true
  subB : subIn K (.ref C) (.type "BaseException") = some true
  ty : typeIn K (.ref C) = some (.type "type")
  kC : keepIn K (.ref C) = true
  sup : ks_superIn K C C "__init__" = some (some (.builtin initId))
  mroC : mroIn K C (.ref C) = some true
  tp : nsIn K cStatics "thirdparty.any" = some none
  sn : nsIn K mainGlobals "super" = some none
  fI : Addr
  cda : Addr
  cc : Addr
  a : Str
  sf : Str
  name : Str
  qual : Str
  params : Arguments
  scope : Scope
  dV : Value
  kV : Value
  doc : Value
  pm : Value
  ct : Value
  an : Option Addr
  oc : Value
  od : Option Addr
  osl : Array (Option Value)
  p0 : Pos
  p1 : Pos
  p2 : Pos
  p3 : Pos
  p4 : Pos
  p5 : Pos
  p6 : Pos
  p7 : Pos
  p8 : Pos
  p9 : Pos
  lk : K.lookup fI = some ⟨oc, od, .func (ksFn name qual params (supBody a sf f p0 p1 p2 p3 p4 p5 p6 p7 p8 p9) scope dV kV doc pm an (.ref cda) ct cc), osl⟩
  iC : findIn K (.ref C) "__init__" = some (some (.ref fI))
  tI : typeIn K (.ref fI) = some (.type "function")
  cd : codeIn K (.ref cda) qual = true
  vs : Array Value
  ccl : Value
  cdd : Option Addr
  ccs : Array (Option Value)
  file : Str
  tf : Tok
  hcode : K.lookup cda = some ⟨ccl, cdd, .fields vs, ccs⟩
  hvs : vs[2]? = some (.str file tf)
  hfile : ((prog.main.file : Str) == file) = true
  cl : Value
  cld : Option Addr
  csl : Array (Option Value)
  hcell : K.lookup cc = some ⟨cl, cld, .cell (some (.ref C)), csl⟩
  bind : ∀ x u : Value, bindArgs (ksFn name qual params (supBody a sf f p0 p1 p2 p3 p4 p5 p6 p7 p8 p9) scope dV kV doc pm an (.ref cda) ct cc) ⟨[x, u], []⟩ = pure [(sf, x), (a, u)]
  ar : Arg
  har : (params.posonlyargs ++ params.args).head? = some ar
  hsf : ar.arg = sf
  ne : (a == sf) = false
  ks : scope.names.lookup ("super" : Str) = some .globalImplicit
  kc : scope.names.lookup ("__class__" : Str) = some .free
  ka : scope.names.lookup a = some .local
  ksf : scope.names.lookup sf = some .local
  kind : scope.kind = .function
  co : scope.isCoroutine = false
  gen : scope.isGenerator = false
  nocell : ∀ x ∈ scope.names, x.2 ≠ .cell
  top : (prog.main.scope.names.lookup ("super" : Str)).isSome = false
  line : (p2.endLine == p4.line) = true
  da : (a == ("__debug__" : Str)) = false
  dsf : (sf == ("__debug__" : Str)) = false

section
variable {prog : Program} {w : World} {A : Around} {K : Frag} {mg : Str → Option Value}

/-- self.f = v: the first store -/
theorem supStore {bmB : List Value} {B : String} {R : Result → Shared → Prop} {hp : Heap} {g : Array GenState} {d : Drawn} {t : Nat} {os : OsState} {name : Str} {tk : Tok} {v : Value} {x C : Addr} {fv : Array Value}
    (SF : StoreFacts B bmB "object.__setattr__" "object") (X : K.In hp) (hx : hp.get? x = some { cls := .ref C, data := .fields fv }) (ov : excOver K C bmB = true) (ht : takerIn K C name = some none) (hh : hasDictIn K C = true)
    (hq : ∀ h' tk' dx, (∀ b o, b ≠ x → hp.get? b = some o → h'.get? b = some o) → hp.objs.size ≤ dx → dx ≠ x → h'.get? x = some { cls := .ref C, dict := some dx, data := .fields fv } →
      h'.Ns1 dx (fun y => if y = name then some v else none) → R (.ok (.ret .none)) ⟨h', g, d, tk', os⟩) :
    codeAny (model prog w) A (.call (.builtin "object.__setattr__") ⟨[.ref x, .str name tk, v], []⟩) R ⟨hp, g, d, t, os⟩ := by
  have inst : InstAt hp x { cls := .ref C, data := .fields fv } C none := ⟨hx, rfl, rfl, trivial⟩
  have xlt : x ≠ hp.objs.size := Nat.ne_of_lt (Heap.lt_size hx)
  obtain ⟨cd, hcd, hhd⟩ := any_some hh
  have lookC : Looks (model prog w) hp (classData C) cd := looks_clsIn X hcd
  refine osa_openX SF X inst ov ht fun b => ?_
  show wpAny _ _ (storeInOwnDict (.ref x) (.ref C) (.str name tk) name v b) _ _ _
  obtain ⟨nm, bs, mro, ns, qn, hd', sn, sb, ab, col, del⟩ := cd
  dsimp only at hhd
  subst hhd
  unfold storeInOwnDict ownDictForStores
  repeat (first | with_reducible refine PySem.HandSPX.store_in_new ?_ ?_ | with_reducible refine wpAny_loadPart_at hx ?_ | with_reducible refine lookC.at ?_ | wp_step)
  · exact ⟨_, #[], _, (Heap.get?_update_ne _ _ _ _ xlt.symm).trans (Heap.get?_push_at rfl rfl), rfl, fun e he => absurd he (by simp), fun _ => rfl⟩
  · intro h' tk' hn' hs
    have old := Heap.get?_push_of_some (h := hp) ({ cls := .type "dict", data := .dict #[] } : Obj) hx
    refine hq h' tk' hp.objs.size (fun c o hc ho => ?_) (Nat.le_refl _) xlt.symm ?_ hn'
    · exact (hs.2 c (Nat.ne_of_lt (Heap.lt_size ho))).trans ((Heap.get?_update_ne _ _ _ _ hc).trans (Heap.get?_push_of_some _ ho))
    · exact (hs.2 x xlt).trans (Heap.get?_update_self _ old rfl)

theorem sup_in {h : Heap} {e : Addr} (X : K.In h) (hK : K.lookup e = none) : K.In (h.hide e) := fun a o q => by
  have ne : a ≠ e := fun z => by rw [z, hK] at q; cases q
  exact (Heap.hide_ne h ne).trans (X a o q)
/-- the whole __init__ -/
theorem sup_init {C : Addr} {f : Str} (T : SupC prog K C f) {R : Result → Shared → Prop} {s : Shared} {e t0 : Addr} {u : Value} (he : s.heap.get? e = some (excObj C t0 none .none)) (hK : K.lookup e = none) (X : K.In s.heap)
    (glob : s.heap.Ns mainGlobals mg) (blt : ∃ mb, s.heap.Ns builtinsNs mb ∧ ∀ x : Str, x ≠ "__name__" → mb x = bootBuiltins x) (lim : s.heap.NoLimit) (room : A.depth < recursionLimit)
    (h : ∀ (s' : Shared) (d t1 : Addr), s'.os = s.os → s'.gens = s.gens → (∀ b o, b ≠ e → s.heap.get? b = some o → s'.heap.get? b = some o) → s'.heap.get? e = some (excObj C t1 (some d) .none) → s.heap.objs.size ≤ d → d ≠ e →
      s'.heap.Ns1 d (fun y => if y = f then some u else none) → R (.ok (.ret .none)) s') :
    codeAny (model prog w) A (.call (.ref T.fI) ⟨[.ref e, u], []⟩) R s := by
  obtain ⟨hp, g, dr, tk, os⟩ := s
  refine ks_codeAny_call_defAt (binds := [(T.sf, .ref e), (T.a, u)]) room (X _ _ T.lk) rfl lim (codeRec_of X T.cd) rfl (BindsTo.of_eq (T.bind _ _)) T.nocell (fun y hy => ?_) (fun h1 hns hk1 => ?_) T.co T.gen T.kind
  · rcases List.mem_cons.mp hy with z | z
    · rw [z]; exact T.ksf
    · rcases List.mem_cons.mp z with z | z
      · rw [z]; exact T.ka
      · cases z
  have ltE : e < hp.objs.size := Heap.lt_size he
  have he1 : h1.get? e = some (excObj C t0 none .none) := hk1 _ _ he
  -- the ground: all but e
  have F1 : Fr (hp.hide e) hp.objs.size h1 (fun y => ([(T.sf, Value.ref e), (T.a, u)] : List (Str × Value)).reverse.lookup y) :=
    ⟨hns, fun b o q => hk1 b o (Heap.of_hide q), Nat.le_of_eq (Heap.hide_size hp e)⟩
  have N1 : News (hp.hide e) hp.objs.size h1 [(e, excObj C t0 none .none)] := fun p hp' => by
    have z : p = (e, excObj C t0 none .none) := by simpa using hp'
    rw [z]
    exact ⟨he1, Nat.ne_of_lt ltE, Heap.hide_self hp e⟩
  have X0 : K.In (hp.hide e) := sup_in X hK
  have vA : (fun y => ([(T.sf, Value.ref e), (T.a, u)] : List (Str × Value)).reverse.lookup y) T.a = some u := by
    show List.lookup T.a [(T.a, u), (T.sf, Value.ref e)] = some u
    rw [List.lookup_cons, beq_self_eq_true]
  have vS : (fun y => ([(T.sf, Value.ref e), (T.a, u)] : List (Str × Value)).reverse.lookup y) T.sf = some (.ref e) := by
    show List.lookup T.sf [(T.a, u), (T.sf, Value.ref e)] = some (.ref e)
    have z : (T.sf == T.a) = false := by
      have := T.ne
      rw [beq_eq_false_iff_ne] at this ⊢
      exact Ne.symm this
    rw [List.lookup_cons, z, List.lookup_cons, beq_self_eq_true]
  have ldv : ∀ {x : Str} {v : Value} {p : Pos} {A' : Around} {hh : Heap} {tt : Nat} {Q : Value → Shared → Prop} {E : Value → Shared → Prop} {m : Str → Option Value}, Fr (hp.hide e) hp.objs.size hh m → m x = some v → T.scope.names.lookup x = some .local → (x == ("__debug__" : Str)) = false → Q v ⟨hh, g, dr, tt, os⟩ →
      wpAny (model prog w) A' (eval (.Name x p) (ksEnv T.qual T.scope hp.objs.size T.fI (.ref T.cda) T.cc)) Q E ⟨hh, g, dr, tt, os⟩ := fun {x v p A' hh tt Q E m} F hv hl hdb q =>
    wpAny_Name (wpAny_loadName_local T.kind hl F.ns hv q) hdb
  have eqn : PySem.eval (.Call (.Attribute (.Call (.Name "super" T.p0) [] [] T.p1) "__init__" T.p2) [.Name T.a T.p3] [] T.p4) (ksEnv T.qual T.scope hp.objs.size T.fI (.ref T.cda) T.cc) = (do
      let ov ← attributeBase (.Call (.Name "super" T.p0) [] [] T.p1) "__init__" (ksEnv T.qual T.scope hp.objs.size T.fI (.ref T.cda) T.cc) (PySem.eval (.Call (.Name "super" T.p0) [] [] T.p1) (ksEnv T.qual T.scope hp.objs.size T.fI (.ref T.cda) T.cc))
      standAt T.p2.atName
      let (f, first) ← holding [ov] (getMethod ov "__init__" (plainOf (.Call (.Name "super" T.p0) [] [] T.p1) (ksEnv T.qual T.scope hp.objs.size T.fI (.ref T.cda) T.cc)))
      callWith T.p4 f first (backTo T.p4 (starEach [.Name T.a T.p3] (ksEnv T.qual T.scope hp.objs.size T.fI (.ref T.cda) T.cc))) []) := by
    show (do
      let ov ← attributeBase (.Call (.Name "super" T.p0) [] [] T.p1) "__init__" (ksEnv T.qual T.scope hp.objs.size T.fI (.ref T.cda) T.cc) (PySem.eval (.Call (.Name "super" T.p0) [] [] T.p1) (ksEnv T.qual T.scope hp.objs.size T.fI (.ref T.cda) T.cc))
      standAt T.p2.atName
      methodCall (.Call (.Name "super" T.p0) [] [] T.p1) "__init__" T.p2 T.p4 (ksEnv T.qual T.scope hp.objs.size T.fI (.ref T.cda) T.cc) ov 1 (backTo T.p4 (starEach [.Name T.a T.p3] (ksEnv T.qual T.scope hp.objs.size T.fI (.ref T.cda) T.cc))) []) = _
    congr 1
    funext ov
    congr 1
    funext _
    exact mcall_line rfl T.line
  have inter : interactive (ksEnv T.qual T.scope hp.objs.size T.fI (.ref T.cda) T.cc) = false := by
    unfold interactive
    simp [T.kind]
  refine ks_wpAt_execs_cons (ks_wpAt_Expr_any (hi := inter) (ks_wpAt_MethodCall (pl := plainOf (.Call (.Name "super" T.p0) [] [] T.p1) (ksEnv T.qual T.scope hp.objs.size T.fI (.ref T.cda) T.cc)) ?_ eqn))
  -- super()
  have kX : ∀ {h' : Heap} {m : Str → Option Value}, Fr (hp.hide e) hp.objs.size h' m → K.In h' := fun F => X0.keeps F.keep
  obtain ⟨cdC, hcdC, _⟩ := any_some T.hd
  obtain ⟨oD, hD1, hD2⟩ : ∃ oD, h1.get? C = some oD ∧ oD.data = .cls cdC := by
    unfold clsIn at hcdC
    split at hcdC
    · rename_i ho
      cases hcdC
      exact ⟨_, (kX F1) _ _ ho, rfl⟩
    · cases hcdC
  refine ks_wpAt_super_base (env := ksEnv T.qual T.scope hp.objs.size T.fI (.ref T.cda) T.cc) T.ks T.kc rfl rfl ((kX F1) _ _ T.lk) rfl T.har rfl ((kX F1) _ _ T.hcode) rfl T.hvs T.hfile T.top ?_
  obtain ⟨mb, hmb, hbb⟩ := blt
  have gl1 : h1.Ns mainGlobals mg := glob.keeps hk1
  have bl1 : h1.Ns builtinsNs mb := hmb.keeps hk1
  have boot : mb "super" = some (.type "super") := (hbb _ (by decide)).trans (by first | rfl | kernel_rfl)
  refine ks_loadName_global T.kind T.ks (loadGlobal_builtin (env := ksEnv T.qual T.scope hp.objs.size T.fI (.ref T.cda) T.cc) gl1 (mg_none_of (kX F1) gl1 T.sn) bl1 boot ⟨rfl, ?_⟩)
  refine wpAny_loadName_free T.kind T.kc rfl ⟨_, (kX F1) _ _ T.hcell, rfl⟩ ?_
  refine wpAny_loadName_local T.kind (by rw [T.hsf]; exact T.ksf) F1.ns (by rw [T.hsf]; exact vS) ?_
  refine ks_wpAny_isType_cls hD1 hD2 ⟨rfl, ?_⟩
  refine ks_wpAny_call_super hD1 hD2 he1 rfl (fun c q => by cases q) (looks_mroIn (kX F1) T.mroC) (fun h2 e2 k2 => ?_)
  obtain ⟨F2, N2, l2⟩ := ks_newsPush (s := ⟨h1, g, dr, tk + 2, os⟩) F1 N1 rfl e2 k2
  -- .__init__
  have I2 : InstAt h2 e (excObj C t0 none .none) C none := ⟨(N2 _ (.tail _ (.head _))).1, rfl, rfl, trivial⟩
  refine kxs_method T.KF F2 X0 N2 (.head _) I2 T.tp T.sup T.sub rfl fun q h3 F3 N3 l3 => ?_
  refine kxs_callWith1 N3 (.head _) ?_
  refine spliced_cons (ldv F3 vA T.ka T.da (spliced_nil ⟨kxs_at N3 (.head _), ?_⟩))
  have ltS : e < h1.objs.size := l2 (e, excObj C t0 none .none) (.head _)
  have ltQ : e < q := l3 (e, excObj C t0 none .none) (.tail _ (.head _))
  refine kxs_call F3 X0 N3 T.FB T.cls (.head _) (.tail (Nat.ne_of_gt ltQ) (.tail (Nat.ne_of_gt ltS) (.head fun p hp' => nomatch hp'))) (by rw [sizeLine_eq]; exact Nat.le_of_ble_eq_true rfl) fun t1 h4 F4 N4 l4 => ?_
  -- self.f = x
  refine ks_wpAt_execs_cons (ks_wpAt_Assign_Attr (wpAt_of_wpAny (ldv F4 vA T.ka T.da (ldv F4 vS T.ksf T.dsf ?_))))
  have he4 : h4.get? e = some (excObj C t1 none .none) := (N4 _ (.tail _ (.tail _ (.tail _ (.head _))))).1
  refine set_plain (kX F4) (ox := excObj C t1 none .none) (od := none) ⟨he4, rfl, rfl, trivial⟩ T.sa ?_
  refine supStore T.SF (kX F4) he4 T.over T.tk T.hd fun h5 tk5 d k5 hd5 dne he5 hns5 => ?_
  refine wpAt_of_wpAny (wpAny_execs_nil (h _ d t1 rfl rfl (fun b o hb q => k5 b o hb (F4.keep b o ((Heap.hide_ne hp hb).trans q))) he5 (Nat.le_trans (Nat.le_of_lt F4.ns.lt) hd5) dne hns5))
end
end PF

set_option Elab.async false
set_option linter.all false
set_option maxRecDepth 100000
set_option maxHeartbeats 2000000
/-! PF13: raise, try. -/
namespace PF
open PySem PySem.Spec PyProof.Rows L2
variable [TabT]

section
variable {X : Cx} {ct : Nat → ClsInfo} {e : Expr} {pos : Pos} {C : Addr} {f : Str}
theorem sup_end {pins : List (Addr × Obj)} {σ : L2.St} {H1 : Hp} {Q : XK} {hp : Heap} {g : Array GenState} {dr : Drawn} {tk : Nat} {os : OsState} {s2 : Shared} {d t1 : Addr} {u : Value} {y : V} {o1 o2 : Obj} (r : Raises X (.ref C)) (I1 : Inv X pins σ H1 ⟨hp, g, dr, tk, os⟩)
    (hos : s2.os = os) (hgs : s2.gens = g) (kp : ∀ b o, b ≠ hp.objs.size + 1 → ((hp.push o1).push o2).get? b = some o → s2.heap.get? b = some o) (he : s2.heap.get? (hp.objs.size + 1) = some (PySem.W.excObj C t1 (some d) .none))
    (hd : ((hp.push o1).push o2).objs.size ≤ d) (dne : d ≠ hp.objs.size + 1) (hns : s2.heap.Ns1 d (fun n => if n = f then some u else none)) (ry : RelV y u) (q : Q (.ref C) (some d) (upd H1 d (.xd [(f, y)]))) : MkP X pins σ Q (.ref (hp.objs.size + 1)) s2 := by
  obtain ⟨hh, gg, dd, tt, oo⟩ := s2
  obtain rfl : oo = os := hos
  obtain rfl : gg = g := hgs
  have ksz : ∀ b o, hp.get? b = some o → ((hp.push o1).push o2).get? b = some o := fun b o z => Heap.get?_push_of_some _ (Heap.get?_push_of_some _ z)
  have sz : hp.objs.size ≤ hp.objs.size + 1 := Nat.le_succ _
  have nA : H1 (hp.objs.size + 1) = none := I1.hok.fresh sz
  have ltd : hp.objs.size ≤ d := Nat.le_trans (by rw [Heap.size_push, Heap.size_push]; omega) hd
  have nD : H1 d = none := I1.hok.fresh ltd
  let H2 : Hp := upd (upd (upd H1 (hp.objs.size + 1) (exo (hp.objs.size + 1) C none)) d (exd d [(f, y)])) (hp.objs.size + 1) (exo (hp.objs.size + 1) C (some d))
  have other : ∀ b, b ≠ hp.objs.size + 1 → b ≠ d → H2 b = H1 b := fun b n1 n2 => by
    show upd _ _ _ b = _
    rw [upd_ne n1, upd_ne n2, upd_ne n1]
  have eH : upd (del H2 (hp.objs.size + 1)) d (.xd [(f, y)]) = upd H1 d (.xd [(f, y)]) := by
    funext b
    by_cases hb : b = d
    · rw [hb, upd_same, upd_same]
    · rw [upd_ne hb, upd_ne hb]
      by_cases ha : b = hp.objs.size + 1
      · rw [ha, del_same, nA]
      · rw [del_ne ha, other b ha hb]
  have ltp : ∀ {b : Addr} {o : Obj}, ((hp.push o1).push o2).get? b = some o → b ≠ d := fun {b o} z => Nat.ne_of_lt (Nat.lt_of_lt_of_le (Heap.lt_size z) hd)
  have nlt : ∀ {b : Addr} {o : HO}, H1 b = some o → b ≠ hp.objs.size + 1 ∧ b ≠ d := fun {b o} z => ⟨fun q => (by rw [q, nA] at z; cases z), fun q => (by rw [q, nD] at z; cases z)⟩
  have un : Un (frs X.stack) [] (upd H1 (hp.objs.size + 1) (exo (hp.objs.size + 1) C none)) H2 ((hp.push o1).push o2) hh := {
    keep := fun b o z n _ _ => kp b o (fun w => by rw [w, upd_same] at n; cases n) z
    slot := fun b o z n _ _ => ⟨o.slots, kp b o (fun w => by rw [w, upd_same] at n; cases n) z⟩
    free := fun b o z n _ => by
      have na : b ≠ hp.objs.size + 1 := fun w => by rw [w, upd_same] at n; cases n
      rw [other b na (ltp z)]
      rw [upd_ne na] at n
      exact n
    there := fun b o z _ => by
      by_cases ha : b = hp.objs.size + 1
      · exact ⟨_, by rw [ha]; exact he⟩
      · exact ⟨o, kp b o ha z⟩
    tups := fun b xs z => by
      by_cases ha : b = hp.objs.size + 1
      · rw [ha, upd_same] at z; exact absurd (Option.some.inj z) exo_tup
      · rw [upd_ne ha] at z
        rw [other b ha (nlt z).2]; exact z
    frzs := fun b o v z => by
      by_cases ha : b = hp.objs.size + 1
      · rw [ha, upd_same] at z; exact absurd (Option.some.inj z) exo_frz
      · rw [upd_ne ha] at z
        rw [other b ha (nlt z).2]; exact z
    tbls := fun b ps z => by
      by_cases ha : b = hp.objs.size + 1
      · rw [ha, upd_same] at z; exact absurd (Option.some.inj z) exo_tbl
      · rw [upd_ne ha] at z
        refine ⟨#[], ?_⟩
        rw [other b ha (nlt z).2, z]; simp }
  have hok : HOk X.prog X.w H2 hh := fun b o z => by
    by_cases ha : b = hp.objs.size + 1
    · subst ha
      have z' : some (exo (hp.objs.size + 1) C (some d)) = some o := by rw [← z]; exact upd_same.symm
      cases z'
      exact exo_ok he
    · by_cases hb : b = d
      · subst hb
        have z' : some (exd b [(f, y)]) = some o := by
          rw [← z]
          show _ = upd _ _ _ b
          rw [upd_ne ha, upd_same]
        cases z'
        exact exd_ok hns (fun n => by
          by_cases hn : n = f
          · subst hn
            rw [if_pos rfl]
            show RelO (List.lookup n [(n, y)]) _
            rw [List.lookup_cons, beq_self_eq_true]
            exact ry
          · rw [if_neg hn]
            show RelO (List.lookup n [(f, y)]) _
            rw [List.lookup_cons, show (n == f) = false by simpa using hn]
            exact True.intro)
      · rw [other b ha hb] at z
        refine (I1.hok b o z).stay (fun c v hc w => ?_) (fun c hc => ?_) (fun c xs hc => ?_)
        · have hcs : H1 c ≠ none := by
            rcases hc with hc | hc
            · rw [hc, z]; simp
            · rw [hc]; simp
          exact kp c v (fun q => hcs (by rw [q]; exact nA)) (ksz c v w)
        · rw [other c (nlt hc).1 (nlt hc).2]; exact hc
        · rw [other c (nlt hc).1 (nlt hc).2]; exact hc
  exact mk_end r I1 sz ksz un hok rfl I1.bare (a := hp.objs.size + 1) (d := d) (fs := [(f, y)]) upd_same (by show upd _ _ _ d = _; rw [upd_ne dne, upd_same]) nD (by rw [eH]; exact q)

/-- C(x), a class whose __init__ is «super().__init__(x); self.f = x» -/
theorem pmk_sup {te : TE} {x : Str} {p : Pos} {k : Nat} (T : SupC X.prog X.K C f) (hr : Room (k + 1) X.A) (hg : Gl X x) (hm : X.mg x = some (.ref C)) (ha : PE X e te) (hs : isStarB e = false) (hdb : (x == ("__debug__" : Str)) = false) :
    PMk X (.Call (.Name x p) [e] [] pos) (fun σ H Q => te σ H fun y H1 => ∀ d, H1 d = none → Q (.ref C) (some d) (upd H1 d (.xd [(f, y)]))) := by
  intro pins s σ H Q I h
  refine wpAny_Call_Name_kw (ld_glob I hg hm ?_ hdb)
  refine PySem.W.callWith_K (h₀ := X.base) I.ok.mod.kin T.kC (thn ((pa_cons ha pa_nil (star_no hs)).run pos pins s σ H (fun vs H1 => match vs with | [y] => ∀ d, H1 d = none → Q (.ref C) (some d) (upd H1 d (.xd [(f, y)])) | _ => False) I h) fun us s1 ⟨vs, H1, I1, r1, q1⟩ => ⟨I1.kIn, ?_⟩) (star_no hs) rfl
  · match vs, q1, r1 with
    | [y], q1, r1 =>
      show wpAny _ _ (call (.ref C) us) _ _ _
      obtain ⟨hp, g, dr, tk, os⟩ := s1
      cases r1 with
      | @cons _ u0 _ ur ru rn =>
      cases rn
      obtain ⟨nm, N', qn, bs, bm, hdct, sn, sub, ab, col, dd, k0, k1, k2, k3, k5, hC, hT⟩ := PySem.W.excInit_of I1.kIn T.cls
      refine wpAny_call (PySem.HandSPX.call_own T.FB hT hC (PySem.W.looks_findIn I1.kIn T.iC) (fun self => PySem.W.bind_fn I1.kIn self T.tI) (by rw [sizeLine_eq]; exact Nat.le_of_ble_eq_true rfl) ?_)
      have kk : ∀ b o, hp.get? b = some o → ((hp.push (PySem.W.kdv_tup [u0])).push (PySem.HandSPX.excO C hp.objs.size)).get? b = some o := fun b o z => Heap.get?_push_of_some _ (Heap.get?_push_of_some _ z)
      have hget : ((hp.push (PySem.W.kdv_tup [u0])).push (PySem.HandSPX.excO C hp.objs.size)).get? (hp.objs.size + 1) = some (PySem.HandSPX.excO C hp.objs.size) := by heap_get
      have q1 : ∀ d, H1 d = none → Q (.ref C) (some d) (upd H1 d (.xd [(f, y)])) := q1
      have hK : X.K.lookup (hp.objs.size + 1) = none := by
        cases z : X.K.lookup (hp.objs.size + 1) with
        | none => rfl
        | some o => exact absurd (Heap.lt_size (I1.kIn _ _ z)) (by show ¬ (hp.objs.size + 1 < hp.objs.size); omega)
      obtain ⟨mb, h1, h2⟩ := I1.mod.blt
      have kb : ∀ b o, X.base.get? b = some o → ((hp.push (PySem.W.kdv_tup [u0])).push (PySem.HandSPX.excO C hp.objs.size)).get? b = some o := fun b o z => kk b o (I1.bk b o z)
      refine sup_init T (mg := X.mg) (s := ⟨(hp.push (PySem.W.kdv_tup [u0])).push (PySem.HandSPX.excO C hp.objs.size), g, dr, tk, os⟩) (e := hp.objs.size + 1) (t0 := hp.objs.size) (u := u0) hget hK (I1.kIn.keeps kk) (I1.mod.glob.keeps kb) ⟨mb, h1.keeps kb, h2⟩ (I1.mod.nolimit.keeps kb)
        (by have := (hr.make C [u0] []).dp; omega) fun s2 d t1 e1 e2 kp he hd dne hns => ?_
      exact ⟨rfl, sup_end (raises_own T.subB T.ty) I1 e1 e2 kp he hd dne hns ru (q1 d (I1.hok.fresh (Nat.le_trans (by rw [Heap.size_push, Heap.size_push]; show hp.objs.size ≤ hp.objs.size + 1 + 1; omega) hd)))⟩
end
end PF

set_option Elab.async false
set_option linter.all false
set_option maxRecDepth 100000
set_option maxHeartbeats 2000000
/-! PF14: try with several clauses «except C: return e», «except C as n: return e»; a lambda handed to a def that tries it. -/
namespace PF
open PySem PySem.Spec PyProof.Rows L2
variable [TabT]

/-- a clause: the class, the name's slot, what the returned expression reads -/
abbrev Cl := Value × Option Nat × (Addr → Value → Option Addr → TE)
def sfx (oi : Option Nat) (a : Addr) (σ : L2.St) : L2.St := match oi with
  | none => σ
  | some i => σ.set i (some (.ref a))
/-- what the clauses wish of an exception, one after the other -/
def wMix (K : PySem.W.Frag) (n : Nat) (Wout : WX) (D : Ends) : List Cl → WX
  | [] => Wout
  | (c, oi, te) :: r => fun cls d σ H => ∃ k, PySem.W.exmOne K cls c = some k ∧ (k = true → ∀ a, H a = none → σ.length = n → te a cls d (sfx oi a σ) H D.rt) ∧ (k = false → wMix K n Wout D r cls d σ H)
inductive ClsOk (X : Cx) : List ExceptHandler → List Cl → Prop
  | nil : ClsOk X [] []
  | plain {x : Str} {c : Value} {te : Addr → Value → Option Addr → TE} {e : Expr} {np pr ph : Pos} {hs : List ExceptHandler} {l : List Cl} (hc : Names X x c)
      (hp : ∀ (a : Addr) (oe : Obj) (cls : Value) (d : Option Addr) (pn : List (Addr × Obj)), Zc cls d oe → (∃ vs, oe.data = .fields vs) → PE (X.suite a ((a, oe) :: pn)) e (te a cls d)) (r : ClsOk X hs l) :
      ClsOk X (.ExceptHandler (some (.Name x np)) none [.Return (some e) pr] ph :: hs) ((c, none, te) :: l)
  | named {x n : Str} {i : Nat} {c : Value} {te : Addr → Value → Option Addr → TE} {e : Expr} {np pr ph : Pos} {hs : List ExceptHandler} {l : List Cl} (hc : Names X x c) (hi : X.N[i]? = some n) (hl : X.env.kindOf n = some .local)
      (hp : ∀ (a : Addr) (oe : Obj) (cls : Value) (d : Option Addr) (pn : List (Addr × Obj)), Zc cls d oe → (∃ vs, oe.data = .fields vs) → PE (X.suite a ((a, oe) :: pn)) e (te a cls d)) (r : ClsOk X hs l) :
      ClsOk X (.ExceptHandler (some (.Name x np)) (some n) [.Return (some e) pr] ph :: hs) ((c, some i, te) :: l)

section
variable {X : Cx} {pins : List (Addr × Obj)} {D : Ends} {Wout : WX}
/-- the class that a clause names, evaluated in the suite's place -/
theorem name_at {x : Str} {c : Value} {p : Pos} {a : Addr} {pn : List (Addr × Obj)} {σ : L2.St} {H : Hp} {s : Shared} {Q : Value → Shared → Prop} {E : Value → Shared → Prop} (hc : Names X x c) (S : Inv (X.suite a pn) [] σ H s) (q : Q c s) :
    wpAny (model X.prog X.w) (X.A.mark (some (.ref a))) (eval (.Name x p) X.env) Q E s := by
  obtain ⟨g1, g2, z⟩ := hc
  rcases z with z | ⟨z1, z2, z3⟩
  · exact ld_glob (X := X.suite a pn) S g1 z q g2
  · exact ld_blt (X := X.suite a pn) S g1 z1 z2 q z3 g2

/-- the clauses, tried in turn -/
theorem clauses {hs : List ExceptHandler} {l : List Cl} (ok : X.Ok) (hst : X.stack = X.env :: X.outer) (hfr : X.env.frame = some X.env.locals) (hN : X.N.Nodup) (tk : Takes X Wout) (hh : ClsOk X hs l)
    {a : Addr} {B : Heap} {sI s' : Shared} {h3 : Heap} {σ : L2.St} {H : Hp} {cls : Value} {d : Option Addr} (J : Inv X pins σ H sI) (nb : ∀ b o, sI.heap.get? b = some o → b ∉ frs X.stack → B.get? b = some o) (up : sI.heap.UpToSlots h3)
    (fl : HandSPX.FlyingZ B (X.env :: X.outer) a (Zc cls d) h3) (na : H a = none) (os : s'.os = sI.os) (ag : AllBare s'.gens) (w : wMix X.K X.N.length Wout D l cls d σ H) :
    wpAny (model X.prog X.w) X.A (handleBy (.ref a) X.env hs) (SP X pins D) X.xe { s' with heap := h3 } := by
  obtain ⟨oe, vs0, g3, z3, e3⟩ := fl.there
  have J3 : Inv X pins σ H { s' with heap := h3 } := J.landed nb fl.1 up os ag
  have off : ∀ {h : Heap} {o : Obj} {vs : Array Value}, h.FunFrames B (X.env :: X.outer) → h.get? a = some o → o.data = .fields vs → a ∉ frs (X.env :: X.outer) := by
    intro h o vs ff e dd hm
    obtain ⟨_, o', e', hn⟩ := ff.mem hm
    rw [e] at e'
    cases e'
    exact hn _ dd
  have out := off fl.2.2.1 g3 e3
  have nL : a ≠ X.env.locals := fun z => out (List.mem_filterMap.mpr ⟨X.env, List.mem_cons_self, by rw [hfr, z]⟩)
  have nF : a ∉ X.fs := fun hm => by
    obtain ⟨y, hy, q⟩ := List.mem_filterMap.mp hm
    exact out (List.mem_filterMap.mpr ⟨y, List.mem_cons_of_mem _ hy, q⟩)
  have S3 := J3.suite g3 e3 na nL nF
  have kind : PySem.W.Looks (model X.prog X.w) h3 (typeOf (.ref a)) cls := fun A Q E s k q => wpAny_typeOf_ref (k _ _ g3) (by rw [z3.1]; exact q)
  induction hh with
  | nil =>
    refine wpAny_handleBy_nil ?_
    obtain ⟨_, _, _, o1, v1, T, _, _, q1, _, q2, q3, _⟩ := id fl
    unfold PySem.passOn
    refine wpAny_bind (wpAny_field q1 q2 q3 ?_)
    rw [if_neg (show ¬ ((Value.ref T == Value.none) = true) from by simp)]
    have last : wpAny (model X.prog X.w) X.A (setFlight (.ref a) X.env.frame) (fun _ s4 => wpAny (model X.prog X.w) X.A (throw (.ref a) : Sem Flow) (SP X pins D) X.xe s4) X.xe { s' with heap := h3 } := by
      rw [hfr]
      exact HandSPX.setFlight_upZ fl fun h4 hh4 up4 => wpAny_throw (tk _ _ ⟨a, B, sI, pins, σ, H, cls, d, rfl, J, nb, up.trans up4, .inr (.inr (by rw [hst]; exact hh4)), na, os, ag, w⟩)
    first
      | exact wpAny_bind (wpAny_pure (wpAny_bind last))
      | exact wpAny_bind last
  | @plain x c te e np pr ph hs2 l2 hc hp r ih =>
    obtain ⟨k, hk, yes, no⟩ := w
    have look := PySem.W.exm_one (M := model X.prog X.w) J3.kIn kind hk
    refine wpAny_handleBy_cons (codeAny_handlers_test (name_at hc S3 (look.here ?_))) (by intro q; cases q)
    cases k with
    | false => exact ih (no rfl)
    | true =>
      refine codeAny_handlers_suite (HandSPX.lands_againZ fl fun h4 fl4 up4 => ?_)
      have J4 : Inv X pins σ H { s' with heap := h4 } := J.landed nb fl4.1 (up.trans up4) os ag
      obtain ⟨oe4, vs4, g4, z4, e4⟩ := fl4.there
      have S4 := J4.suite g4 e4 na nL nF
      have goal := (pss_one (ps_ret (pos := pr) (hp a oe4 cls d (X.pn ++ pins) z4 ⟨_, e4⟩))).run [] { s' with heap := h4 } σ H D S4 (yes rfl a na J4.len)
      refine wpAny_mono goal (fun fw s6 q6 => ?_) fun _ _ z => False.elim z
      cases fw with
      | ret u =>
        obtain ⟨v6, σ6, H6, S6, r6, q6⟩ := q6
        exact ⟨_, _, _, S6.unsuite ok, r6, q6⟩
      | next => obtain ⟨σ6, H6, S6, q6⟩ := q6; exact ⟨_, _, S6.unsuite ok, q6⟩
      | brk => obtain ⟨σ6, H6, S6, q6⟩ := q6; exact ⟨_, _, S6.unsuite ok, q6⟩
      | cont => obtain ⟨σ6, H6, S6, q6⟩ := q6; exact ⟨_, _, S6.unsuite ok, q6⟩
  | @named x n i c te e np pr ph hs2 l2 hc hi hl hp r ih =>
    obtain ⟨k, hk, yes, no⟩ := w
    have look := PySem.W.exm_one (M := model X.prog X.w) J3.kIn kind hk
    refine wpAny_handleBy_cons (codeAny_handlers_test (name_at hc S3 (look.here ?_))) (by intro q; cases q)
    cases k with
    | false => exact ih (no rfl)
    | true =>
      refine codeAny_handlers_suite_as (HandSPX.lands_againZ fl fun h4 fl4 up4 => ?_)
      have J4 : Inv X pins σ H { s' with heap := h4 } := J.landed nb fl4.1 (up.trans up4) os ag
      obtain ⟨oe4, vs4, g4, z4, e4⟩ := fl4.there
      have S4 := J4.suite g4 e4 na nL nF
      refine store_ok (X := X.suite a ((a, oe4) :: (X.pn ++ pins))) (v := .ref a) S4 hN hi (.inl hl) rfl (fun s5 S5 => ?_) (.inr hl)
      have goal := (pss_one (ps_ret (pos := pr) (hp a oe4 cls d (X.pn ++ pins) z4 ⟨_, e4⟩))).run [] s5 (σ.set i (some (.ref a))) H { nx := fun _ _ => False, rt := D.rt, bk := fun _ _ => False, ct := fun _ _ => False } S5 (yes rfl a na J4.len)
      refine wpAny_mono goal (fun fw s6 q6 => ?_) fun _ _ z => False.elim z
      cases fw with
      | ret u =>
        obtain ⟨v6, σ6, H6, S6, r6, q6⟩ := q6
        exact gone_ok (S6.unsuite ok) hN hi hl fun s7 J7 => ⟨_, _, _, J7, r6, q6⟩
      | next => obtain ⟨σ6, H6, S6, q6⟩ := q6; exact q6.elim
      | brk => obtain ⟨σ6, H6, S6, q6⟩ := q6; exact q6.elim
      | cont => obtain ⟨σ6, H6, S6, q6⟩ := q6; exact q6.elim

theorem ps_mix {body : List Stmt} {h0 : ExceptHandler} {hs : List ExceptHandler} {l : List Cl} {pos : Pos} {tb : WX → TS} (hst : X.stack = X.env :: X.outer) (hfr : X.env.frame = some X.env.locals) (hN : X.N.Nodup) (tk : Takes X Wout)
    (hb : ∀ (W : WX) (pn : List (Addr × Obj)) (xe : Value → Shared → Prop), Takes (X.tr pn xe) W → PassesOwn (model X.prog X.w) X.A X.env xe → PSs (X.tr pn xe) body (tb W))
    (hh : ClsOk X (h0 :: hs) l) : PS X (.Try body (h0 :: hs) [] [] pos) (fun D σ H => tb (wMix X.K X.N.length Wout D l) D σ H) := by
  refine ⟨fun pins s σ H D I h => ?_⟩
  have ok := I.ok
  have fr : X.A.frames = some (X.env :: X.outer) := by rw [ok.frames, hst]
  refine wpAny_Try_except ?_
  have run := (hb (wMix X.K X.N.length Wout D l) (X.pn ++ pins) (fun e s1 => wpAny (model X.prog X.w) X.A (noteFrame e X.env) (fun _ s2 => wpAny (model X.prog X.w) X.A (setFlight e none) (fun _ s3 =>
    wpAny (model X.prog X.w) X.A (handleBy e X.env (h0 :: hs)) (SP X pins D) X.xe s3) X.xe s2) X.xe s1) (fun u s' x => ?_) PassesOwn.looking).run [] s σ H D (I.toTry _) h
  · refine wpAny_mono run (fun fw s1 q => ?_) fun _ _ z => z
    cases fw with
    | next => obtain ⟨σ', H', J', q⟩ := q; exact wpAny_execs_nil ⟨σ', H', J'.ofTry ok, q⟩
    | brk => obtain ⟨σ', H', J', q⟩ := q; exact ⟨σ', H', J'.ofTry ok, q⟩
    | cont => obtain ⟨σ', H', J', q⟩ := q; exact ⟨σ', H', J'.ofTry ok, q⟩
    | ret u => obtain ⟨v, σ', H', J', r, q⟩ := q; exact ⟨v, σ', H', J'.ofTry ok, r, q⟩
  · obtain ⟨a, B, sI, pins', σ', H', cls, d, rfl, J', nb, up, sky, na, os, ag, w⟩ := x
    have J : Inv X pins σ' H' sI := J'.ofTry ok
    have sky2 : Sky B (X.env :: X.outer) a (Zc cls d) X.env.locals s'.heap := by rw [← hst]; exact sky
    show wpAny (model X.prog X.w) X.A (noteFrame (.ref a) X.env) _ _ _
    exact Sky.land Zc.steady fr hfr sky2 fun h3 fl3 up3 => clauses ok hst hfr hN tk hh J nb (up.trans up3) fl3 na os ag w
end
end PF

set_option Elab.async false
set_option linter.all false
set_option maxRecDepth 100000
set_option maxHeartbeats 2000000
/-! PF15: what a clause returns; a lambda handed to a def that tries it. -/
namespace PF
open PySem PySem.Spec PyProof.Rows L2
variable [TabT]

abbrev noWK : WK := fun _ _ _ => False
def rdX (K : PySem.W.Frag) (ct : Nat → ClsInfo) (ci : ClsInfo) (i : Option Nat) (a : Addr) (dx : Option Addr) (den : D → M D) : TE := fun σ H Q =>
  ∃ b F g p, Bg b g F H ∧ ExcAt K ci p dx F H ∧ (∀ j, i = some j → σ[j]? = some (some (.ref a))) ∧ Out K ct b F H noWK (PV K Q) (den p g)
def rdXs (K : PySem.W.Frag) (ct : Nat → ClsInfo) (ci : ClsInfo) (i : Option Nat) (a : Addr) (dx : Option Addr) (den : D → M (List D)) : TA := fun σ H Q =>
  ∃ b F g p, Bg b g F H ∧ ExcAt K ci p dx F H ∧ (∀ j, i = some j → σ[j]? = some (some (.ref a))) ∧ Out K ct b F H noWK (PVA K Q) (den p g)
def SX (X : Cx) (ct : Nat → ClsInfo) (ci : ClsInfo) (i : Option Nat) (den : D → M D) (e : Expr) : Prop :=
  ∀ (a : Addr) (oe : Obj) (cls : Value) (dx : Option Addr) (pn : List (Addr × Obj)), Zc cls dx oe → (∃ vs, oe.data = .fields vs) → cls = .ref ci.addr → PE (X.suite a ((a, oe) :: pn)) e (rdX X.K ct ci i a dx den)
def SXs (X : Cx) (ct : Nat → ClsInfo) (ci : ClsInfo) (i : Option Nat) (den : D → M (List D)) (es : List Expr) : Prop :=
  ∀ (a : Addr) (oe : Obj) (cls : Value) (dx : Option Addr) (pn : List (Addr × Obj)), Zc cls dx oe → (∃ vs, oe.data = .fields vs) → cls = .ref ci.addr → PA (X.suite a ((a, oe) :: pn)) es (rdXs X.K ct ci i a dx den)
section
variable {K : PySem.W.Frag} {ct : Nat → ClsInfo} {ci : ClsInfo} {i : Option Nat} {a : Addr} {dx : Option Addr} {b : Option Addr} {F F' : Addr → Prop} {H H' : Hp} {g g' : List Int} {p : D} {σ : L2.St}
theorem ExcAt.up (h : ExcAt K ci p dx F H) (e : Ext b F H F' H') (B : Bg b g F H) : ExcAt K ci p dx F' H' := by
  unfold ExcAt at h ⊢
  split at h
  · exact h
  · obtain ⟨d, v, e1, e2, r⟩ := h
    exact ⟨d, v, e1, e.keep d _ e2 (fun z => by rw [(B.bag d z).1] at e2; cases e2), r.up (e.up B)⟩
theorem rx1 {α : Type} {P : α → List Int → (Addr → Prop) → Hp → Prop} {R : V → Hp → Prop} {k : D → M α} {da : D → M D} (B : Bg b g F H) (E : ExcAt K ci p dx F H) (hi : ∀ j, i = some j → σ[j]? = some (some (.ref a))) (o : Out K ct b F H noWK P ((da p g).bind k))
    (f : ∀ x g' F' H' v, Ext b F H F' H' → Bg b g' F' H' → ExcAt K ci p dx F' H' → Rep K F' H' v x → Out K ct b F' H' noWK P (k x g') → R v H') : rdX K ct ci i a dx da σ H R :=
  ⟨b, F, g, p, B, E, hi, o.bind.imp fun x g' F' H' e B' pp v r => f x g' F' H' v e B' (E.up e B) r pp⟩
theorem rxs1 {α : Type} {P : α → List Int → (Addr → Prop) → Hp → Prop} {R : List V → Hp → Prop} {k : List D → M α} {da : D → M (List D)} (B : Bg b g F H) (E : ExcAt K ci p dx F H) (hi : ∀ j, i = some j → σ[j]? = some (some (.ref a))) (o : Out K ct b F H noWK P ((da p g).bind k))
    (f : ∀ x g' F' H' v, Ext b F H F' H' → Bg b g' F' H' → ExcAt K ci p dx F' H' → RepAll K F' H' v x → Out K ct b F' H' noWK P (k x g') → R v H') : rdXs K ct ci i a dx da σ H R :=
  ⟨b, F, g, p, B, E, hi, o.bind.imp fun x g' F' H' e B' pp v r => f x g' F' H' v e B' (E.up e B) r pp⟩
end
theorem repOs_of {K : PySem.W.Frag} {b : Option Addr} {F : Addr → Prop} {H : Hp} : ∀ {vs : List V} {ds : List D}, RepAll K F H vs ds → RepOs K b F H vs ds
  | _, _, .nil => .nil
  | _, _, .cons r t => .cons (.rep r) (repOs_of t)
section
variable {X : Cx} {ct : Nat → ClsInfo} {ci : ClsInfo} {i : Option Nat} {e c : Expr} {es : List Expr} {da dc : D → M D} {ds : D → M (List D)} {pos : Pos}
def xC (x : D) : D → M D := fun _ g => .ok x g
def xFail : D → M D := fun _ _ => .fail
theorem sx_fail : SX X ct ci i xFail e := fun a oe cls dx pn _ _ _ => ⟨fun _ _ _ _ _ _ h => by obtain ⟨_, _, _, _, _, _, _, o⟩ := h; exact o.elim⟩
theorem sx_const {x : D} {v : V} (h : ∀ Y : Cx, PE Y e (tC v)) (r : ∀ F H, Rep X.K F H v x) : SX X ct ci i (xC x) e := fun a oe cls dx pn _ _ _ =>
  peW (h _) fun σ H Q ⟨b, F, g, p, B, E, hi, o⟩ => Out.ok o B v (r F H)
theorem sx_str {z : Str} {j : Nat} : SX X ct ci i (xC (.str z)) (.Constant (.str z) j pos) := sx_const (fun _ => pe_str) fun _ _ => .str z
theorem sx_int {z : Int} {j : Nat} : SX X ct ci i (xC (.int z)) (.Constant (.int z) j pos) := sx_const (fun _ => pe_int) fun _ _ => .int z
theorem sx_bl {z : Bool} {j : Nat} : SX X ct ci i (xC (.bool z)) (.Constant (.bool z) j pos) := sx_const (fun _ => pe_bl) fun _ _ => .bl z
theorem sx_non {j : Nat} : SX X ct ci i (xC .none) (.Constant .none j pos) := sx_const (fun _ => pe_non) fun _ _ => .non
/-- error.f -/
def xFld (ci : ClsInfo) (f : Str) : D → M D := fun p g => if ci.field = some f then .ok p g else .fail
theorem sx_fld {n f : Str} {j : Nat} {p1 : Pos} (hx : ci.field = some f → XfC X.K ci.addr ∧ PySem.W.findIn X.K (.ref ci.addr) f = some none) (hN : X.N[j]? = some n) (hv : Vis X.env.scope n) (hd : (n == ("__debug__" : Str)) = false) (hcd : (n == ("__classdict__" : Str)) = false)
    (hb : attributeBase (.Name n p1) f X.env (eval (.Name n p1) X.env) = eval (.Name n p1) X.env) : SX X ct ci (some j) (xFld ci f) (.Attribute (.Name n p1) f pos) := fun a oe cls dx pn hz hf ec => by
  by_cases hfld : ci.field = some f
  · obtain ⟨T, hno⟩ := hx hfld
    refine peW (pe_xf T hno hz hf (pe_var (X := X.suite a ((a, oe) :: pn)) hN hv hd hcd) hb) fun σ H Q ⟨b, F, g, p, B, E, hi, o⟩ => ?_
    unfold xFld at o
    rw [if_pos hfld] at o
    unfold ExcAt at E
    rw [hfld] at E
    obtain ⟨d, v, e1, e2, r⟩ := E
    refine ⟨_, hi j rfl, rfl, ec, d, _, v, e1, e2, ?_, Out.ok o B v r⟩
    rw [List.lookup_cons, beq_self_eq_true]
  · exact ⟨fun _ _ _ _ _ _ h => by
      obtain ⟨_, _, _, _, _, _, _, o⟩ := h
      unfold xFld at o
      rw [if_neg hfld] at o
      exact o.elim⟩
def xCall (op : List D → Option D) (ds : D → M (List D)) : D → M D := fun p g => (ds p g).bind fun xs g1 => match op xs with | some z => .ok z g1 | none => .fail
theorem sx_bi {op : List D → Option D} {x : Str} {id : String} {p : Pos} (h : ∀ a pn, Bi (X.suite a pn) (.builtin id) op) (hg : Gl X x) (hm : X.mg x = none) (hv : bootBuiltins x = some (.builtin id)) (ha : SXs X ct ci i ds (e :: es)) (hs : isStarB e = false) (hst : anyStar es = false) (hn : x ≠ "__name__") (hdb : (x == ("__debug__" : Str)) = false) :
    SX X ct ci i (xCall op ds) (.Call (.Name x p) (e :: es) [] pos) := fun a oe cls dx pn hz hf ec => by
  obtain ⟨rr, hc, hop⟩ := h a ((a, oe) :: pn)
  refine peW (pe_callB (X := X.suite a ((a, oe) :: pn)) hc hg hm hv (ha a oe cls dx pn hz hf ec) hn hdb (star_no hs) (by rw [star_any_eq, hst])) fun σ H Q ⟨b, F, g, p, B, E, hi, o⟩ => ?_
  refine rxs1 B E hi o fun xs g1 F1 H1 vs e1 B1 E1 r1 o1 => ?_
  cases hz' : op xs with
  | none => rw [hz'] at o1; exact o1.elim
  | some z =>
    rw [hz'] at o1
    exact hop b F1 H1 g1 vs xs z Q B1 (repOs_of r1) hz' fun F' H' u e B r => o1 F' H' e B u r
def xBin (op : D → D → Option D) (da dc : D → M D) : D → M D := fun p g => (da p g).bind fun x g1 => (dc p g1).bind fun y g2 => match op x y with | some z => .ok z g2 | none => .fail
theorem sx_bin {op : Operator} {f : D → D → Option D} (ho : ∀ a pn, Op2 (X.suite a pn) (binaryOp op) f) (ha : SX X ct ci i da e) (hc : SX X ct ci i dc c) : SX X ct ci i (xBin f da dc) (.BinOp e op c pos) := fun a oe cls dx pn hz hf ec => by
  obtain ⟨r, hr, hop⟩ := ho a ((a, oe) :: pn)
  refine peW (pe_op (X := X.suite a ((a, oe) :: pn)) hr (ha a oe cls dx pn hz hf ec) (hc a oe cls dx pn hz hf ec)) fun σ H Q ⟨b, F, g, p, B, E, hi, o⟩ => ?_
  refine rx1 B E hi o fun x g1 F1 H1 v e1 B1 E1 r1 o1 => ?_
  refine rx1 B1 E1 hi o1 fun y g2 F2 H2 w e2 B2 E2 r2 o2 => ?_
  cases hz' : f x y with
  | none => rw [hz'] at o2; exact o2.elim
  | some z =>
    rw [hz'] at o2
    exact hop b F2 H2 g2 v w x y z Q B2 (.rep (r1.up (e2.up B1))) (.rep r2) hz' fun F' H' u e B r => o2 F' H' e B u r
def xNil : D → M (List D) := fun _ g => .ok [] g
def xCons (da : D → M D) (ds : D → M (List D)) : D → M (List D) := fun p g => (da p g).bind fun x g1 => (ds p g1).bind fun xs g2 => .ok (x :: xs) g2
theorem sxs_nil : SXs X ct ci i xNil [] := fun a oe cls dx pn _ _ _ => paW pa_nil fun σ H Q ⟨b, F, g, p, B, E, hi, o⟩ => Out.ok o B [] .nil
theorem sxs_cons (ha : SX X ct ci i da e) (hr : SXs X ct ci i ds es) (hs : isStarB e = false) : SXs X ct ci i (xCons da ds) (e :: es) := fun a oe cls dx pn hz hf ec => by
  refine paW (pa_cons (X := X.suite a ((a, oe) :: pn)) (ha a oe cls dx pn hz hf ec) (hr a oe cls dx pn hz hf ec) (star_no hs)) fun σ H Q ⟨b, F, g, p, B, E, hi, o⟩ => ?_
  refine rx1 B E hi o fun x g1 F1 H1 v e1 B1 E1 r1 o1 => ?_
  refine rxs1 B1 E1 hi o1 fun xs g2 F2 H2 vs e2 B2 E2 r2 o2 => ?_
  exact Out.ok o2 B2 _ (.cons (r1.up (e2.up B1)) r2)
theorem sxs_fail : SXs X ct ci i (fun _ _ => .fail) es := fun a oe cls dx pn _ _ _ => ⟨fun _ _ _ _ _ _ _ h => by obtain ⟨_, _, _, _, _, _, _, o⟩ := h; exact o.elim⟩
def xTup (ds : D → M (List D)) : D → M D := fun p g => (ds p g).bind fun xs g1 => if xs.length ≤ sizeLine then .ok (.tuple xs) g1 else .fail
theorem sx_tup {k : Nat} (h : SXs X ct ci i ds es) : SX X ct ci i (xTup ds) (.Tuple es k pos) := fun a oe cls dx pn hz hf ec => by
  refine peW (pe_tup (h a oe cls dx pn hz hf ec)) fun σ H Q ⟨b, F, g, p, B, E, hi, o⟩ => ?_
  refine rxs1 B E hi o fun xs g1 F1 H1 vs e1 B1 E1 r1 o1 => ?_
  by_cases hl : xs.length ≤ sizeLine
  · rw [if_pos hl] at o1
    exact ⟨by rw [r1.length]; exact hl, fun q hq => finT (X := X) B1 hq r1 fun F' H' u e B r => o1 F' H' e B u r⟩
  · rw [if_neg hl] at o1; exact o1.elim
end

/-! ### the def that tries what it got -/
/-- what it does with the value of the call -/
inductive MetK where
  | drop
  | ret
  | pair (w : D)
/-- kind; clauses: does the clause take the class? the slot, the value; what is returned behind the try -/
structure Met where
  kind : MetK
  hds : List ((Nat → Bool) × (Nat → D → M D))
  rest : D
def hdsD : List ((Nat → Bool) × (Nat → D → M D)) → Nat → D → M D
  | [], _, _ => fun _ => .fail
  | (tk, den) :: r, c, p => fun g => if tk c = true then calmR (den c p g) else hdsD r c p g
def metD (m : Met) (dl : M D) : M D := fun g => match dl g with
  | .ok x g1 => (match m.kind with
    | .drop => .ok m.rest g1
    | .ret => .ok x g1
    | .pair w => .ok (.tuple [w, x]) g1)
  | .exc c p g1 => hdsD m.hds c p g1
  | .fail => .fail

structure ClHd where
  A : Addr
  oi : Option Nat
  tk : Nat → Bool
  den : Nat → D → M D
def ClHd.cl (K : PySem.W.Frag) (ct : Nat → ClsInfo) (h : ClHd) : Cl := (.ref h.A, h.oi, fun a cls d σ H Q => ∃ c, cls = .ref (ct c).addr ∧ rdX K ct (ct c) h.oi a d (h.den c) σ H Q)
def hdsOf (L : List ClHd) : List ((Nat → Bool) × (Nat → D → M D)) := L.map fun h => (h.tk, h.den)
theorem clHd_pe {X : Cx} {ct : Nat → ClsInfo} {h : ClHd} {e : Expr} (hx : ∀ c, SX X ct (ct c) h.oi (h.den c) e) (a : Addr) (oe : Obj) (cls : Value) (d : Option Addr) (pn : List (Addr × Obj)) (hz : Zc cls d oe) (hf : ∃ vs, oe.data = .fields vs) :
    PE (X.suite a ((a, oe) :: pn)) e ((h.cl X.K ct).2.2 a cls d) :=
  ⟨fun pins s σ H Q I ⟨c, ec, q⟩ => (hx c a oe cls d pn hz hf ec).run pins s σ H Q I q⟩
theorem met_wish {K : PySem.W.Frag} {ct : Nat → ClsInfo} {n : Nat} {Wout : WX} {D' : Ends} {b : Option Addr} {F : Addr → Prop} {H : Hp} {g : List Int} {c : Nat} {p : D} {dx : Option Addr} {σ : L2.St} (B : Bg b g F H) (E : ExcAt K (ct c) p dx F H) :
    ∀ (L : List ClHd), (∀ h ∈ L, ∀ c, PySem.W.exmOne K (.ref (ct c).addr) (.ref h.A) = some (h.tk c)) → (∀ h ∈ L, ∀ j, h.oi = some j → j < n) → Out K ct b F H noWK (PV K D'.rt) (hdsD (hdsOf L) c p g) → wMix K n Wout D' (L.map (ClHd.cl K ct)) (.ref (ct c).addr) dx σ H
  | [], _, _, o => o.elim
  | h :: L, hx, hj, o => by
    refine ⟨h.tk c, hx h List.mem_cons_self c, fun hk a na len => ?_, fun hk => ?_⟩
    · have o1 : Out K ct b F H noWK (PV K D'.rt) (if h.tk c = true then calmR (h.den c p g) else hdsD (hdsOf L) c p g) := o
      rw [if_pos hk] at o1
      refine ⟨c, rfl, b, F, g, p, B, E, fun j ej => ?_, o1.calm⟩
      rw [ej]
      exact List.getElem?_set_self (by rw [len]; exact hj h List.mem_cons_self j ej)
    · have o1 : Out K ct b F H noWK (PV K D'.rt) (if h.tk c = true then calmR (h.den c p g) else hdsD (hdsOf L) c p g) := o
      rw [if_neg (by rw [hk]; exact Bool.false_ne_true)] at o1
      exact met_wish B E L (fun h' hm => hx h' (List.mem_cons_of_mem _ hm)) (fun h' hm => hj h' (List.mem_cons_of_mem _ hm)) o1
def TTm (K : PySem.W.Frag) (ct : Nat → ClsInfo) (m : Met) : (XK → Hp → VK → Prop) → Hp → VK → Prop := fun tl H Q =>
  ∃ b F g dl, Bg b g F H ∧ (∀ (E : XK) (Q' : VK), Out K ct b F H E (PV K Q') (dl g) → tl E H Q') ∧ Out K ct b F H noWK (PV K Q) (metD m dl g)
section
variable {X : Cx} {ct : Nat → ClsInfo} {Ng : List Str} {x a q : Str} {sg : Scope} {g : Addr} {cdg : Value} {L : List ClHd} {h0 : ExceptHandler} {hs : List ExceptHandler} {p1 p2 p3 p4 p5 p6 : Pos} {z : Str} {j k : Nat}
/-- the context in which the def's body stands -/
abbrev metCx (X : Cx) (Ng : List Str) (x : Str) (sg : Scope) (g : Addr) (cdg : Value) (s : Shared) (H : Hp) : Cx := (cxOf C8.CX0 X.prog X.w X.K X.mg X.base Ng x sg g cdg X.A X.stack s H C8.E0).nox
/-- what the clauses must be -/
structure MetOk (X : Cx) (ct : Nat → ClsInfo) (Ng : List Str) (x : Str) (sg : Scope) (g : Addr) (cdg : Value) (hs : List ExceptHandler) (L : List ClHd) : Prop where
  nd : Ng.Nodup
  ex : ∀ h ∈ L, ∀ c, PySem.W.exmOne X.K (.ref (ct c).addr) (.ref h.A) = some (h.tk c)
  oi : ∀ h ∈ L, ∀ j, h.oi = some j → j < Ng.length
  cls : ∀ s H, ClsOk (metCx X Ng x sg g cdg s H) hs (L.map (ClHd.cl X.K ct))
  h0 : ∀ f : Addr, (L2.start Ng [V.ref f])[0]? = some (some (V.ref f))
/-- try: call() / except ..; return z -/
theorem met_drop (M : MetOk X ct Ng x sg g cdg (h0 :: hs) L) :
    LamX.GivesTo X Ng x sg g cdg [.Try [.Expr (.Call (.Name a p1) [] [] p2) p3] (h0 :: hs) [] [] p4, .Return (some (.Constant (.str z) j p5)) p6] a q (TTm X.K ct ⟨.drop, hdsOf L, .str z⟩) := by
  intro f c' s H Q tl act hc ⟨b, F, gg, dl, B, ht, o⟩
  refine ⟨_, pss_cons (ps_mix (X := metCx X Ng x sg g cdg s H) (Wout := fun _ _ _ _ => False)
    (tb := fun W D' σ H' => ∃ Ech : XK, (∀ cls d σ' H', Ech cls d H' → W cls d σ' H') ∧ σ[0]? = some (some (.ref f)) ∧ H' c' = some (LamX.CodeO c' q) ∧ tl Ech H' (fun _ H2 => D'.nx σ H2)) rfl rfl M.nd LamX.takes0 (fun W pn xe tk _ => ?_) (M.cls s H)) (pss_one (ps_ret pe_str)), ?_⟩
  · refine ⟨fun pins s' σ H' D' I' ⟨Ech, hW, e1, e2, e3⟩ => ?_⟩
    exact (pss_one (ps_expr (act W pn xe Ech p1 p2 tk hW) rfl)).run pins s' σ H' D' I' ⟨e1, e2, e3⟩
  · refine ⟨fun cls d H' => ∀ σ', wMix X.K Ng.length (fun _ _ _ _ => False) _ (L.map (ClHd.cl X.K ct)) cls d σ' H', fun cls d σ' H' h => h σ', M.h0 f, hc, ht _ _ ?_⟩
    unfold metD at o
    cases hd : dl gg with
    | ok y g1 =>
      rw [hd] at o
      exact fun F' H' e B' v _ => o F' H' e B' (.str z) (.str z)
    | exc c p g1 =>
      rw [hd] at o
      exact fun F' H' dx e B' E σ' => met_wish B' E L M.ex M.oi (Out.shift o e)
    | fail => rw [hd] at o; exact o.elim
/-- try: return call() / except .. -/
theorem met_ret (M : MetOk X ct Ng x sg g cdg (h0 :: hs) L) {r : D} :
    LamX.GivesTo X Ng x sg g cdg [.Try [.Return (some (.Call (.Name a p1) [] [] p2)) p3] (h0 :: hs) [] [] p4] a q (TTm X.K ct ⟨.ret, hdsOf L, r⟩) := by
  intro f c' s H Q tl act hc ⟨b, F, gg, dl, B, ht, o⟩
  refine ⟨_, pss_one (ps_mix (X := metCx X Ng x sg g cdg s H) (Wout := fun _ _ _ _ => False)
    (tb := fun W D' σ H' => ∃ Ech : XK, (∀ cls d σ' H', Ech cls d H' → W cls d σ' H') ∧ σ[0]? = some (some (.ref f)) ∧ H' c' = some (LamX.CodeO c' q) ∧ tl Ech H' D'.rt) rfl rfl M.nd LamX.takes0 (fun W pn xe tk _ => ?_) (M.cls s H)), ?_⟩
  · refine ⟨fun pins s' σ H' D' I' ⟨Ech, hW, e1, e2, e3⟩ => ?_⟩
    exact (pss_one (ps_ret (act W pn xe Ech p1 p2 tk hW))).run pins s' σ H' D' I' ⟨e1, e2, e3⟩
  · refine ⟨fun cls d H' => ∀ σ', wMix X.K Ng.length (fun _ _ _ _ => False) _ (L.map (ClHd.cl X.K ct)) cls d σ' H', fun cls d σ' H' h => h σ', M.h0 f, hc, ht _ _ ?_⟩
    unfold metD at o
    cases hd : dl gg with
    | ok y g1 =>
      rw [hd] at o
      exact fun F' H' e B' v r => o F' H' e B' v r
    | exc c p g1 =>
      rw [hd] at o
      exact fun F' H' dx e B' E σ' => met_wish B' E L M.ex M.oi (Out.shift o e)
    | fail => rw [hd] at o; exact o.elim
/-- try: return (z, call()) / except .. -/
theorem met_pair (M : MetOk X ct Ng x sg g cdg (h0 :: hs) L) {r : D} :
    LamX.GivesTo X Ng x sg g cdg [.Try [.Return (some (.Tuple [.Constant (.str z) j p5, .Call (.Name a p1) [] [] p2] k p6)) p3] (h0 :: hs) [] [] p4] a q (TTm X.K ct ⟨.pair (.str z), hdsOf L, r⟩) := by
  intro f c' s H Q tl act hc ⟨b, F, gg, dl, B, ht, o⟩
  refine ⟨_, pss_one (ps_mix (X := metCx X Ng x sg g cdg s H) (Wout := fun _ _ _ _ => False)
    (tb := fun W D' σ H' => ∃ Ech : XK, (∀ cls d σ' H', Ech cls d H' → W cls d σ' H') ∧ σ[0]? = some (some (.ref f)) ∧ H' c' = some (LamX.CodeO c' q) ∧ tl Ech H' (fun v H2 => [V.str z, v].length ≤ sizeLine ∧ ∀ pp, H2 pp = none → D'.rt (.ref pp) (upd H2 pp (.tup [.str z, v])))) rfl rfl M.nd LamX.takes0 (fun W pn xe tk _ => ?_) (M.cls s H)), ?_⟩
  · refine ⟨fun pins s' σ H' D' I' ⟨Ech, hW, e1, e2, e3⟩ => ?_⟩
    exact (pss_one (ps_ret (pe_tup (pa_cons pe_str (pa_cons (peW (act W pn xe Ech p1 p2 tk hW) (t' := fun σ H' Q => σ[0]? = some (some (.ref f)) ∧ H' c' = some (LamX.CodeO c' q) ∧ tl Ech H' Q) fun _ _ _ h => h) pa_nil rfl) rfl)))).run pins s' σ H' D' I' ⟨e1, e2, e3⟩
  · refine ⟨fun cls d H' => ∀ σ', wMix X.K Ng.length (fun _ _ _ _ => False) _ (L.map (ClHd.cl X.K ct)) cls d σ' H', fun cls d σ' H' h => h σ', M.h0 f, hc, ht _ _ ?_⟩
    unfold metD at o
    cases hd : dl gg with
    | ok y g1 =>
      rw [hd] at o
      intro F' H' e B' v r
      refine ⟨by rw [sizeLine_eq]; exact Nat.le_of_ble_eq_true rfl, fun pp hpp => finT (X := X) B' hpp (.cons (.str z) (.cons r .nil)) fun F2 H2 u e2 B2 r2 => o F2 H2 (e.trans e2) B2 u r2⟩
    | exc c p g1 =>
      rw [hd] at o
      exact fun F' H' dx e B' E σ' => met_wish B' E L M.ex M.oi (Out.shift o e)
    | fail => rw [hd] at o; exact o.elim
end
end PF

set_option Elab.async false
set_option linter.all false
set_option maxRecDepth 100000
set_option maxHeartbeats 2000000
/-! PF16: f(lambda: e), f a def that tries what it got. -/
namespace PF
open PySem PySem.Spec PyProof.Rows L2
variable [TabT]

section
variable {b : Option Addr} {F : Addr → Prop} {H H1 : Hp} {g : List Int}
theorem ext_lam (B : Bg b g F H) (e : LamX.ExtN H H1) (t1 : LamX.Tabs TabT.T H1) : Ext b F H F H1 where
  mono := fun _ f => f
  fresh := fun _ f => .inl f
  keep0 := fun a o h _ nt => e a o h nt
  wf := fun a f => by
    obtain ⟨o, h, nt⟩ := B.wf a f
    exact ⟨o, e a o h nt, nt⟩
  bag := fun a z => ⟨(B.bag a z).2, _, e a _ (B.bag a z).1 nt_lst⟩
  tb := ⟨fun p hp _ => t1 p hp⟩
theorem bg_lam (B : Bg b g F H) (e : LamX.ExtN H H1) : Bg b g F H1 where
  wf := fun a f => by
    obtain ⟨o, h, nt⟩ := B.wf a f
    exact ⟨o, e a o h nt, nt⟩
  bag := fun a z => ⟨e a _ (B.bag a z).1 nt_lst, (B.bag a z).2⟩
end
section
variable {X : Cx} {ct : Nat → ClsInfo} {m : Met} {dl : Env → M D}
def lamD (m : Met) (dl : Env → M D) : Env → M D := fun ρ g => calmR (metD m (dl ρ) g)
theorem se_lam {x a : Str} {gf c P : Addr} {k : Nat} {pg : Arguments} {bg : List Stmt} {sg : Scope} {dV kV doc pm cdv ctv oc : Value} {an od : Option Addr} {osl : Array (Option Value)} {Ng : List Str} {params : Arguments} {body : Expr} {scope : Scope} {p lpos pos : Pos}
    (hg : Gl X x) (hm : X.mg x = some (.ref gf)) (hk : PySem.W.keepIn X.K (.ref gf) = true) (lk : X.K.lookup gf = some ⟨oc, od, .func (PySem.W.fnOf x x pg bg sg dV kV doc pm an cdv ctv), osl⟩) (hcg : PySem.W.codeIn X.K cdv x = true)
    (hb : L2.Binds X.K (PySem.W.fnOf x x pg bg sg dV kV doc pm an cdv ctv) [a] []) (Sg : FnScope Ng [a] sg) (hNg : Ng[0]? = some a) (hva : Vis sg a) (hG : LamX.GivesTo X Ng x sg gf cdv bg a (X.env.qual ++ "<lambda>") (TTm X.K ct m))
    (TB : LamX.TabB X.base X.mg c P) (hcode : X.env.code = .ref c) (hmT : (P, X.env.qual ++ ("<lambda>" : Str)) ∈ TabT.T) (hu : ∀ p ∈ TabT.T, p.1 = P → p.2 = X.env.qual ++ "<lambda>") (hr : Room (k + 2) X.A) (L : LamX.LamS X.env.scope scope) (hdef : defaultsOf params X.env = ([], []))
    (hbind : ∀ (q : Str) (cl : List (Str × Addr)) (pm cv ctv : Value), bindArgs (PySem.W.kla_fn "<lambda>" q params body scope cl pm cv ctv) ⟨[], []⟩ = pure [])
    (hbody : ∀ (A : Around) (outer : List PySem.Env) (s : Shared) (H : Hp) (E : XK) (f c' : Addr), Room k (A.deeper (LamX.lamEnv X scope s.heap.objs.size f c')) → SE (LamX.lamCx X A outer s H E scope f c') ct dl body)
    (hdb : (x == ("__debug__" : Str)) = false) (hd : (a == ("__debug__" : Str)) = false) (hcd : (a == ("__classdict__" : Str)) = false) : SE X ct (lamD m dl) (.Call (.Name x p) [.Lambda params body scope lpos] [] pos) := fun W tk => by
  refine peW (LamX.pe_lamcall (T := TabT.T) (t := fun E => rdE X.K ct (fun c dx _ H => E c dx H) dl) hg hm hk lk hcg hb Sg hNg hva hG TB hcode hmT hu hr L hdef hbind (fun A outer s H E f c' hr' => ?_) hdb hd hcd) fun σ H Q ⟨b, F, ow, ρ, g, S, o⟩ => ?_
  · exact hbody A outer s H E f c' hr' _ (takes_of rfl rfl rfl rfl)
  · refine ⟨S.tabs.all, fun H1 e1 t1 => ?_⟩
    have x1 := ext_lam S.toBg e1 t1
    have B1 := bg_lam S.toBg e1
    have S1 := S.up x1 B1
    refine ⟨b, F, g, dl ρ, B1, fun E Q' oo => ⟨b, F, ow, ρ, g, S1, oo⟩, ?_⟩
    exact Out.calm (Out.shift o x1)
end
end PF

set_option Elab.async false
set_option linter.all false
set_option maxRecDepth 100000
set_option maxHeartbeats 2000000
/-! PF17: writes to lists and dicts of the frame's own, to the bag; what else is walked. -/
namespace PF
open PySem PySem.Spec PyProof.Rows L2
variable [TabT]

section
variable {C : FrC} {K : PySem.W.Frag} {F F' F1 F2 F0 : Addr → Prop} {H H' H1 H2 H0 : Hp} {b : Option Addr} {g g' : List Int} {ow : Nat → Option Addr} {σ : L2.St} {ρ : Env}
theorem mono_upd {a : Addr} {o : HO} (nf : ¬ F a) (nt : ∀ vs, H a ≠ some (.tup vs)) (nz : ∀ o u, H a ≠ some (.frz o u)) : Mono F H F (upd H a o) := by
  refine ⟨fun _ f => f, fun c u f h => ?_, fun c vs h => ?_, fun c _ _ f h => by rw [upd_ne (fun (e : c = a) => nf (e ▸ f))]; exact h⟩
  · have hc : c ≠ a := fun e => nf (e ▸ f)
    rcases h with h | ⟨o', h⟩
    · exact .inl (by rw [upd_ne hc]; exact h)
    · exact .inr ⟨o', by rw [upd_ne hc]; exact h⟩
  · rcases h with h | ⟨o', h⟩
    · exact .inl (by rw [upd_ne (fun (e : c = a) => nt vs (by rw [← e]; exact h))]; exact h)
    · exact .inr ⟨o', by rw [upd_ne (fun (e : c = a) => nz o' _ (by rw [← e]; exact h))]; exact h⟩
theorem slot_lt {i : Nat} {s : Slot} (h : ρ[i]? = some (some s)) : i < ρ.length := by
  rcases Nat.lt_or_ge i ρ.length with q | q
  · exact q
  · rw [List.getElem?_eq_none_iff.mpr q] at h; cases h
/-- a list of the frame's own is written -/
theorem SSt.writeL (S : SSt C K b F H ow σ ρ g) {i : Nat} {ds ds' : List D} (hi : ρ[i]? = some (some (.own ds))) {a : Addr} {vs vs' : List V} (e0 : ow i = some a) (nf : ¬ F a) (h1 : H a = some (.lst vs)) (r : RepAll K F H vs' ds') :
    SSt C K b F (upd H a (.lst vs')) ow σ (ρ.set i (some (.own ds'))) g ∧ Mono F H F (upd H a (.lst vs')) := by
  have nt : ∀ ws, H a ≠ some (.tup ws) := fun ws q => by rw [h1] at q; cases q
  have nz : ∀ o u, H a ≠ some (.frz o u) := fun o u q => by rw [h1] at q; cases q
  have np : ∀ o', H a = some o' → Pl o' := fun o' q => by rw [h1] at q; cases q; exact pl_lst
  have m := mono_upd (o := .lst vs') nf nt nz
  obtain ⟨a', vs0, e0', ex, nf', h1', r0⟩ := S.st.slot i _ hi
  have ea : a' = a := by rw [e0] at e0'; cases e0'; rfl
  subst ea
  refine ⟨⟨S.st.write e0 nf nt nz np nt_lst (slot_lt hi) ⟨_, vs', rfl, ex, nf, upd_same, r.up m⟩, ?_, S.fo⟩, m⟩
  exact C.wr S.fr S.bg (S.fo i _ e0) nf (S.st.nb i _ e0) h1 pl_lst nt_lst
theorem SSt.writeDo (S : SSt C K b F H ow σ ρ g) {i : Nat} {ds ds' : List (D × D)} (hi : ρ[i]? = some (some (.ownd ds))) {a : Addr} {w : HO} (e0 : ow i = some a) (r : RepDo K F H a w ds') :
    SSt C K b F (upd H a w) ow σ (ρ.set i (some (.ownd ds'))) g ∧ Mono F H F (upd H a w) := by
  obtain ⟨a', w0, e0', ex, nf, h1, r0⟩ := S.st.slot i _ hi
  have ea : a' = a := by rw [e0] at e0'; cases e0'; rfl
  subst ea
  have nt : ∀ ws, H a' ≠ some (.tup ws) := fun ws q => by rw [h1] at q; exact r0.ntup _ (Option.some.inj q)
  have nz : ∀ o u, H a' ≠ some (.frz o u) := fun o u q => by rw [h1] at q; exact r0.nfrz _ _ (Option.some.inj q)
  have np : ∀ o', H a' = some o' → Pl o' := fun o' q => by rw [h1] at q; cases q; exact r0.pl
  have m := mono_upd (o := w) nf nt nz
  refine ⟨⟨S.st.write e0 nf nt nz np r.nt (slot_lt hi) ⟨_, w, rfl, ex, nf, upd_same, r.up m⟩, ?_, S.fo⟩, m⟩
  exact C.wr S.fr S.bg (S.fo i _ e0) nf (S.st.nb i _ e0) h1 r0.pl r.nt
theorem SSt.writeD (S : SSt C K b F H ow σ ρ g) {i : Nat} {ds ds' : List (D × D)} (hi : ρ[i]? = some (some (.ownd ds))) {a : Addr} {vs vs' : List (Key × V)} (e0 : ow i = some a) (nf : ¬ F a) (h1 : H a = some (.dK vs)) (r : RepKv K F H vs' ds') :
    SSt C K b F (upd H a (.dK vs')) ow σ (ρ.set i (some (.ownd ds'))) g ∧ Mono F H F (upd H a (.dK vs')) := S.writeDo hi e0 (.dk rfl r)
/-- the bag is written -/
theorem SSt.writeB (S : SSt C K b F H ow σ ρ g) {a : Addr} (eb : b = some a) (ns : List Int) :
    SSt C K b F (upd H a (.lst (ns.map V.int))) ow σ ρ ns ∧ Mono F H F (upd H a (.lst (ns.map V.int))) := by
  obtain ⟨h1, nf⟩ := S.bg.bag a eb
  have nt : ∀ ws, H a ≠ some (.tup ws) := fun ws q => by rw [h1] at q; cases q
  have nz : ∀ o u, H a ≠ some (.frz o u) := fun o u q => by rw [h1] at q; cases q
  have np : ∀ o', H a = some o' → Pl o' := fun o' q => by rw [h1] at q; cases q; exact pl_lst
  have m := mono_upd (o := .lst (ns.map V.int)) nf nt nz
  have other : ∀ c, c ≠ a → upd H a (.lst (ns.map V.int)) c = H c := fun c h => upd_ne h
  have hne : ∀ j c, ow j = some c → c ≠ a := fun j c hc z => S.st.nb j c hc (by rw [z]; exact eb)
  refine ⟨⟨{ wf := fun c f => ?_, bag := fun c e => ?_, len := S.st.len, slot := fun j s' hj => ?_, inj := S.st.inj, nb := S.st.nb, oat := fun j c h => ?_, tabs := S.st.tabs.ext (TabE.upd np nt_lst) }, ?_, S.fo⟩, m⟩
  · obtain ⟨o', q⟩ := S.st.wf c f
    exact ⟨o', by rw [other c fun e => nf (e ▸ f)]; exact q⟩
  · rw [eb] at e
    cases e
    exact ⟨upd_same, nf⟩
  · have q := S.st.slot j s' hj
    cases s' with
    | val d => obtain ⟨v, e1, r⟩ := q; exact ⟨v, e1, r.up m⟩
    | own ds => obtain ⟨c, vs, e0, e1, nf', h1', r⟩ := q; exact ⟨c, vs, e0, e1, nf', by rw [other c (hne j c e0)]; exact h1', r.up m⟩
    | ownd ds => obtain ⟨c, vs, e0, e1, nf', h1', r⟩ := q; exact ⟨c, vs, e0, e1, nf', by rw [other c (hne j c e0)]; exact h1', r.up m⟩
    | bag => exact q
  · obtain ⟨o', q⟩ := S.st.oat j c h
    exact ⟨o', by rw [other c (hne j c h)]; exact q⟩
  · exact C.bagw S.fr S.bg eb ⟨_, rfl⟩
end

section
variable {C : FrC} {X : Cx} {ct : Nat → ClsInfo} {W : WS} {pos p p1 p2 : Pos} {e c : Expr} {i : Nat} {y : Str} {d dv di : Env → M D}
/-! ### y.append(e), y[k] = e -/
def sApp (i : Nat) (dv : Env → M D) : Env → M Fl := fun ρ g => match ρ[i]? with
  | some (some (.own ds)) => (dv ρ g).bind fun x g1 => if ds.length < sizeLine then .ok (.next (ρ.set i (some (.own (ds ++ [x]))))) g1 else .fail
  | _ => .fail
/-- names in the frame -/
structure NmOk (X : Cx) (i : Nat) (y : Str) : Prop where
  hN : X.N[i]? = some y
  hv : Vis X.env.scope y
  hd : (y == ("__debug__" : Str)) = false
  hcd : (y == ("__classdict__" : Str)) = false
theorem ss_app {cpos : Pos} (n : NmOk X i y) (he : SE X ct dv e) (hs : isStarB e = false) (hsw : swapsWith (.Call (.Attribute (.Name y p) "append" p1) [e] [] cpos) none pos.line X.env = pure false)
    (hbase : attributeBase (.Name y p) "append" X.env (eval (.Name y p) X.env) = eval (.Name y p) X.env) (hline : (p1.endLine == cpos.line) = true) :
    SS C X ct (sApp i dv) (.Expr (.Call (.Attribute (.Name y p) "append" p1) [e] [] cpos) pos) := fun W tk => by
  have hfew : ((backTo cpos (starEach [e] X.env)).all (fun x => !x.1) && (backToKw cpos (keywordEach [] X.env)).all (fun x => x.1.isSome) && decide ([e].length + ([] : List Keyword).length + (if ([] : List Keyword).isEmpty then 0 else 1) < 30)) = true := by
    rw [star_no hs]; rfl
  refine psW (ps_expr (pe_bm F.plainAttrs_list F.slot_list_append (by first | rfl | kernel_rfl) (show MtR X _ _ from mt_append) (pe_var n.hN n.hv n.hd n.hcd) (pa_cons (he (WXof W) tk) pa_nil (star_no hs)) hbase hfew hline (star_no hs) rfl) hsw) fun D σ H ⟨b, F, ow, ρ, g, S, o⟩ => ?_
  unfold sApp at o
  split at o
  · rename_i ds hi
    obtain ⟨a, vs, e0, ex, nf, h1, r0⟩ := S.st.slot i _ hi
    refine ⟨.ref a, ex, .inl ⟨rfl, vs, .of h1⟩, ?_⟩
    refine rs1e S o fun x g1 F1 H1 v S1 rv o1 => ?_
    obtain ⟨a1, vs1, e01, ex1, nf1, h11, r1⟩ := S1.st.slot i _ hi
    have ea : a1 = a := by rw [e0] at e01; cases e01; rfl
    subst ea
    by_cases hl : ds.length < sizeLine
    · rw [if_pos hl] at o1
      obtain ⟨S2, m⟩ := S1.writeL (ds' := ds ++ [x]) hi e01 nf1 h11 (r1.append (.cons rv .nil))
      exact ⟨a1, vs1, v, rfl, rfl, h11, by rw [r1.length]; exact hl, o1 b F1 _ ow σ S2 m⟩
    · rw [if_neg hl] at o1; exact o1.elim
  · exact o.elim
def sSetL (i : Nat) (di dv : Env → M D) : Env → M Fl := fun ρ g => (dv ρ g).bind fun x g1 => match ρ[i]? with
  | some (some (.own ds)) => (di ρ g1).bind fun k g2 => match k with
    | .int k => (match ixN ds.length k with | some j => .ok (.next (ρ.set i (some (.own (ds.set j x))))) g2 | none => .fail)
    | _ => .fail
  | some (some .bag) => (di ρ g1).bind fun k g2 => match k, x with
    | .int k, .int z => (match ixN g2.length k with | some j => .ok (.next ρ) (g2.set j z) | none => .fail)
    | _, _ => .fail
  | _ => .fail
/-- how a store by a subscript is laid out -/
structure SubOk (X : Cx) (o c e : Expr) (p2 pos : Pos) : Prop where
  ha : ∀ v, assign (.Subscript o c p2) X.env v = (do
      let ov ← holding [v] (eval o X.env)
      let iv ← holding [v, ov] (eval c X.env)
      standAt p2
      holding [v, ov, iv] (setItem ov iv v)
      release [v, ov, iv] [])
  hs : swapsWithSole [.Subscript o c p2] e pos.line X.env = pure false
  hw : swappedStores [.Subscript o c p2] e X.env = pure none
  h1 : (assignEach [.Subscript o c p2] X.env).map (·.2) = [assign (.Subscript o c p2) X.env]
theorem map_set_int : ∀ (ns : List Int) (j : Nat) (z : Int), (ns.map V.int).set j (.int z) = (ns.set j z).map V.int
  | [], _, _ => rfl
  | _ :: _, 0, _ => rfl
  | n :: r, j + 1, z => by
    show V.int n :: (r.map V.int).set j (.int z) = V.int n :: (r.set j z).map V.int
    rw [map_set_int r j z]
theorem ss_setL (n : NmOk X i y) (sub : SubOk X (.Name y p) c e p2 pos) (hc : SE X ct di c) (he : SE X ct dv e) : SS C X ct (sSetL i di dv) (.Assign [.Subscript (.Name y p) c p2] e pos) := fun W tk => by
  refine psW (ps_asg (he (WXof W) tk) (pg_sub (pe_var n.hN n.hv n.hd n.hcd) (hc (WXof W) tk) set_list sub.ha) sub.hs sub.hw sub.h1) fun D σ H ⟨b, F, ow, ρ, g, S, o⟩ => ?_
  refine rs1e S o fun x g1 F1 H1 v S1 rv o1 => ?_
  split at o1
  · rename_i ds hi
    obtain ⟨a, vs, e0, ex, nf, h1, r0⟩ := S1.st.slot i _ hi
    refine ⟨.ref a, ex, ?_⟩
    refine ⟨b, F1, ow, ρ, g1, S1.st, (OutS.ofE S1 o1).imp fun k g2 F2 H2 e2 B2 o2 u ru => ?_⟩
    have S2 := S1.up e2 B2
    have rv2 := rv.up (e2.up S1.bg)
    obtain ⟨a1, vs1, e01, ex1, nf1, h11, r1⟩ := S2.st.slot i _ hi
    have ea : a1 = a := by rw [e0] at e01; cases e01; rfl
    subst ea
    cases k with
    | int k =>
      cases ru
      dsimp only at o2
      split at o2
      · rename_i j hj
        obtain ⟨S3, m⟩ := S2.writeL (ds' := ds.set j x) hi e01 nf1 h11 (r1.set j rv2)
        exact ⟨a1, vs1, k, j, rfl, rfl, h11, by rw [r1.length]; exact hj, o2 b F2 _ ow σ S3 m⟩
      · exact o2.elim
    | _ => exact o2.elim
  · rename_i hi
    obtain ⟨a, eb, ex⟩ := S1.st.slot i _ hi
    refine ⟨.ref a, ex, ?_⟩
    refine ⟨b, F1, ow, ρ, g1, S1.st, (OutS.ofE S1 o1).imp fun k g2 F2 H2 e2 B2 o2 u ru => ?_⟩
    have S2 := S1.up e2 B2
    cases k with
    | int k =>
      cases ru
      cases x with
      | int z =>
        cases rv
        dsimp only at o2
        split at o2
        · rename_i j hj
          obtain ⟨S3, m⟩ := S2.writeB eb (g2.set j z)
          refine ⟨a, g2.map V.int, k, j, rfl, rfl, (S2.bg.bag a eb).1, by rw [List.length_map]; exact hj, ?_⟩
          rw [map_set_int]
          exact o2 b F2 _ ow σ S3 m
        · exact o2.elim
      | _ => exact o2.elim
    | _ => exact o2.elim
  · exact o1.elim
/-- bag[k] -/
def dBag (i : Nat) (di : Env → M D) : Env → M D := fun ρ g => match ρ[i]? with
  | some (some .bag) => (di ρ g).bind fun k g1 => match k with
    | .int k => (match atI g1 k with | some z => .ok (.int z) g1 | none => .fail)
    | _ => .fail
  | _ => .fail
theorem se_bag (n : NmOk X i y) (hs : noSlice c = true) (hc : SE X ct di c) : SE X ct (dBag i di) (.Subscript (.Name y p) c pos) := fun W tk => by
  refine peW (pe_ix ix_list (pe_var n.hN n.hv n.hd n.hcd) (hc W tk) (plain_ix hs)) fun σ H Q ⟨b, F, ow, ρ, g, S, o⟩ => ?_
  unfold dBag at o
  split at o
  · rename_i hi
    obtain ⟨a, eb, ex⟩ := S.slot i _ hi
    refine ⟨.ref a, ex, ?_⟩
    refine rd1e S o fun k g1 F1 H1 v e1 S1 rk o1 => ?_
    cases k with
    | int k =>
      cases rk
      dsimp only at o1
      split at o1
      · rename_i z hz
        refine ⟨a, g1.map V.int, k, .int z, rfl, rfl, .of (S1.bag a eb).1, ?_, Out.ok o1 S1.toBg _ (.int z)⟩
        unfold atI at hz ⊢
        rw [List.length_map]
        cases hj : ixN g1.length k with
        | none => rw [hj] at hz; cases hz
        | some j =>
          rw [hj] at hz
          have hz : g1[j]? = some z := hz
          show (g1.map V.int)[j]? = _
          rw [List.getElem?_map, hz]; rfl
      · exact o1.elim
    | _ => exact o1.elim
  · exact o.elim
end
end PF

set_option Elab.async false
set_option linter.all false
set_option maxRecDepth 100000
set_option maxHeartbeats 2000000
/-! PF18: zip, enumerate, range(a, b, c); raise; defs that return a new list; the bag made. -/
namespace PF
open PySem PySem.Spec PyProof.Rows L2
variable [TabT]

section
variable {X : Cx} {ct : Nat → ClsInfo} {e a c : Expr} {es : List Expr} {d da dc d3 : Env → M D} {W : WX} {pos p tpos : Pos} {K : PySem.W.Frag} {F0 : Addr → Prop} {H0 : Hp}
/-! ### zip, enumerate, range -/
def zipD : List D → List D → List D
  | x :: xs, y :: ys => .tuple [x, y] :: zipD xs ys
  | _, _ => []
theorem zipD_get : ∀ (xs ys : List D) (i : Nat), (zipD xs ys)[i]? = match xs[i]?, ys[i]? with | some x, some y => some (.tuple [x, y]) | _, _ => none
  | [], ys, i => by simp [zipD]
  | x :: xs, [], i => by
    cases h : (x :: xs)[i]? <;> simp [zipD]
  | x :: xs, y :: ys, 0 => rfl
  | x :: xs, y :: ys, i + 1 => by
    show (zipD xs ys)[i]? = _
    rw [zipD_get xs ys i]
    simp
theorem walks_zipT {a c : Addr} {vs ws : List V} {xs ys : List D} (h : SqT K H0 a vs) (r : RepAll K F0 H0 vs xs) (h' : SqT K H0 c ws) (r' : RepAll K F0 H0 ws ys) : Walks K (RZ.ItzT K a c) F0 H0 (zipD xs ys) := fun i b g F H m B => by
  have s1 := sqT_up h m
  have s2 := sqT_up h' m
  have r1 := r.up m
  have r2 := r'.up m
  rw [zipD_get]
  cases hx : xs[i]? with
  | none => exact ⟨fun x hx' => (nomatch hx'), fun _ => ⟨vs, ws, s1, s2, .inl (by rw [r1.length]; exact get_of_ge hx)⟩⟩
  | some x =>
    cases hy : ys[i]? with
    | none => exact ⟨fun x hx' => (nomatch hx'), fun _ => ⟨vs, ws, s1, s2, .inr (by rw [r2.length]; exact get_of_ge hy)⟩⟩
    | some y =>
      obtain ⟨v, hv, rv⟩ := r1.get hx
      obtain ⟨w, hw, rw'⟩ := r2.get hy
      refine ⟨fun z hz => ⟨⟨vs, ws, v, w, s1, s2, hv, hw⟩, fun u H' hu => ?_⟩, fun hn => nomatch hn⟩
      cases hz
      obtain ⟨T, v', w', rfl, hT, rfl, k1, k2⟩ := hu
      have e1 : some v' = some v := ((k1 vs s1).symm.trans hv)
      cases e1
      have e2 : some w' = some w := ((k2 ws s2).symm.trans hw)
      cases e2
      have x := Ext.new (o := .tup [v, w]) B hT
      exact ⟨x, B.new hT, .tup (.inl (.inl upd_same)) (.cons (rv.up (x.up B)) (.cons (rw'.up (x.up B)) .nil))⟩
theorem walks_zipL {a c : Addr} {vs ws : List V} {xs ys : List D} (h : LstAt K F0 H0 a vs) (r : RepAll K F0 H0 vs xs) (h' : LstAt K F0 H0 c ws) (r' : RepAll K F0 H0 ws ys) : Walks K (L2.Itz K a c) F0 H0 (zipD xs ys) := fun i b g F H m B => by
  have s1 := (h.up m).seq
  have s2 := (h'.up m).seq
  have r1 := r.up m
  have r2 := r'.up m
  rw [zipD_get]
  cases hx : xs[i]? with
  | none => exact ⟨fun x hx' => (nomatch hx'), fun _ => ⟨vs, ws, s1, s2, .inl (by rw [r1.length]; exact get_of_ge hx)⟩⟩
  | some x =>
    cases hy : ys[i]? with
    | none => exact ⟨fun x hx' => (nomatch hx'), fun _ => ⟨vs, ws, s1, s2, .inr (by rw [r2.length]; exact get_of_ge hy)⟩⟩
    | some y =>
      obtain ⟨v, hv, rv⟩ := r1.get hx
      obtain ⟨w, hw, rw'⟩ := r2.get hy
      refine ⟨fun z hz => ⟨⟨vs, ws, v, w, s1, s2, hv, hw⟩, fun u H' hu => ?_⟩, fun hn => nomatch hn⟩
      cases hz
      obtain ⟨T, v', w', rfl, hT, rfl, k1, k2⟩ := hu
      have e1 : some v' = some v := ((k1 vs s1).symm.trans hv)
      cases e1
      have e2 : some w' = some w := ((k2 ws s2).symm.trans hw)
      cases e2
      have x := Ext.new (o := .tup [v, w]) B hT
      exact ⟨x, B.new hT, .tup (.inl (.inl upd_same)) (.cons (rv.up (x.up B)) (.cons (rw'.up (x.up B)) .nil))⟩
def iZip (da dc : Env → M D) : Env → M (List D) := fun ρ g => (da ρ g).bind fun x g1 => (dc ρ g1).bind fun y g2 => match x, y with
  | .tuple xs, .tuple ys => .ok (zipD xs ys) g2
  | .list xs, .list ys => .ok (zipD xs ys) g2
  | _, _ => .fail
theorem si_zip {elts : List Expr} {kk : Nat} (hg : Gl X "zip") (hm : X.mg "zip" = none) (ha : SE X ct da a) (hc : SE X ct dc c) (hs : isStarB a = false) (hs2 : isStarB c = false) :
    SI X ct (.Tuple elts kk tpos) (iZip da dc) (.Call (.Name "zip" p) [a, c] [] pos) := fun W tk => by
  refine piW (RZ.pi_zipA hg hm (pa_cons (ha W tk) (pa_cons (hc W tk) pa_nil (star_no hs2)) (star_no hs)) (by rw [star_no hs]) (by rw [star_no hs2]; rfl)) fun σ H R ⟨b, F, ow, ρ, g, S, o⟩ => ?_
  refine rd1e S o fun x g1 F1 H1 v e1 S1 r1 o1 => ?_
  refine rd1e S1 o1 fun y g2 F2 H2 w e2 S2 r2 o2 => ?_
  have r1' := r1.up (e2.up S1.toBg)
  cases x <;> first | (exact o2.elim) | skip
  · cases y <;> first | (exact o2.elim) | skip
    cases r1' with
    | lst h q =>
      cases r2 with
      | lst h' q' => exact ⟨_, _, _, _, rfl, .inl ⟨h.seq, h'.seq, Out.ok o2 S2.toBg _ (walks_zipL h q h' q')⟩⟩
  · cases y <;> first | (exact o2.elim) | skip
    cases r1' with
    | tup h q =>
      cases r2 with
      | tup h' q' => exact ⟨_, _, _, _, rfl, .inr ⟨h, h', Out.ok o2 S2.toBg _ (walks_zipT h q h' q')⟩⟩
def enumD : Nat → List D → List D
  | _, [] => []
  | n, x :: xs => .tuple [.int n, x] :: enumD (n + 1) xs
theorem enumD_get : ∀ (xs : List D) (n i : Nat), (enumD n xs)[i]? = (xs[i]?).map fun x => .tuple [.int (n + i : Nat), x]
  | [], n, i => by simp [enumD]
  | x :: xs, n, 0 => by simp [enumD]
  | x :: xs, n, i + 1 => by
    show (enumD (n + 1) xs)[i]? = _
    rw [enumD_get xs (n + 1) i]
    simp [Nat.add_assoc, Nat.add_comm 1 i]
theorem walks_enum {a : Addr} {vs : List V} {xs : List D} (h : LstAt K F0 H0 a vs) (r : RepAll K F0 H0 vs xs) : Walks K (Ite K a) F0 H0 (enumD 0 xs) := fun i b g F H m B => by
  have s1 := (h.up m).seq
  have r1 := r.up m
  rw [enumD_get]
  cases hx : xs[i]? with
  | none => exact ⟨fun x hx' => (nomatch hx'), fun _ => ⟨vs, s1, by rw [r1.length]; exact get_of_ge hx⟩⟩
  | some x =>
    obtain ⟨v, hv, rv⟩ := r1.get hx
    refine ⟨fun z hz => ⟨⟨vs, v, s1, hv⟩, fun u H' hu => ?_⟩, fun hn => nomatch hn⟩
    have hz : some (PyData.tuple [.int ((0 + i : Nat) : Int), x]) = some z := hz
    cases hz
    obtain ⟨T, v', rfl, hT, rfl, k1⟩ := hu
    have e1 : some v' = some v := ((k1 vs s1).symm.trans hv)
    cases e1
    have x := Ext.new (o := .tup [.int (i : Nat), v]) B hT
    refine ⟨x, B.new hT, .tup (.inl (.inl upd_same)) (.cons ?_ (.cons (rv.up (x.up B)) .nil))⟩
    rw [Nat.zero_add]
    exact .int _
def iEnumD (da : Env → M D) : Env → M (List D) := fun ρ g => (da ρ g).bind fun x g1 => match x with | .list xs => .ok (enumD 0 xs) g1 | _ => .fail
theorem si_enum {elts : List Expr} {kk : Nat} (hg : Gl X "enumerate") (hm : X.mg "enumerate" = none) (ha : SE X ct da a) (hs : isStarB a = false) : SI X ct (.Tuple elts kk tpos) (iEnumD da) (.Call (.Name "enumerate" p) [a] [] pos) := fun W tk => by
  refine piW (pi_enum hg hm (pa_cons (ha W tk) pa_nil (star_no hs)) (star_no hs)) fun σ H R ⟨b, F, ow, ρ, g, S, o⟩ => ?_
  refine rd1e S o fun x g1 F1 H1 v e1 S1 r1 o1 => ?_
  cases x <;> first | (exact o1.elim) | skip
  cases r1 with
  | lst h q => exact ⟨_, _, rfl, h.seq, Out.ok o1 S1.toBg _ (walks_enum h q)⟩
/-- lo, lo + c, .., n of them -/
def rngC (lo c : Int) (n : Nat) : List D := (List.range n).map fun i => .int (lo + (i : Nat) * c)
theorem rngC_get {lo c : Int} {n i : Nat} : (rngC lo c n)[i]? = if i < n then some (.int (lo + (i : Nat) * c)) else none := by
  unfold rngC
  rw [List.getElem?_map]
  by_cases h : i < n
  · rw [if_pos h, List.getElem?_range h]; rfl
  · rw [if_neg h, List.getElem?_eq_none_iff.mpr (by simpa using h)]; rfl
theorem walks_rangeC {lo c : Int} {n : Nat} : Walks K (Itc lo c n) F0 H0 (rngC lo c n) := fun i b g F H m B => by
  rw [rngC_get]
  by_cases h : i < n
  · rw [if_pos h]
    refine ⟨fun x hx => ⟨h, fun v H' hy => ?_⟩, fun hn => nomatch hn⟩
    obtain ⟨e1, e2⟩ : H' = H ∧ v = .int (lo + i * c) := hy
    subst e1 e2
    cases hx
    exact ⟨Ext.refl B, B, .int _⟩
  · rw [if_neg h]
    exact ⟨fun x hx => (nomatch hx), fun _ => (show n ≤ i by omega)⟩
/-- how many: a step that is not nought -/
def cntC (i j c : Int) : Nat := if 0 < c then ((j - i + c - 1) / c).toNat else ((i - j + (-c) - 1) / (-c)).toNat
def okRg3 (i j c : Int) : Bool := decide (c ≠ 0) && decide (c.natAbs < 1073741824) && Builtin.Range.small i j c && decide (Builtin.Range.rangeSize i j c = cntC i j c)
def iRng3D (da dc d3 : Env → M D) : Env → M (List D) := fun ρ g => (da ρ g).bind fun x g1 => (dc ρ g1).bind fun y g2 => (d3 ρ g2).bind fun z g3 => match x, y, z with
  | .int i, .int j, .int c => (if okRg3 i j c = true then .ok (rngC i c (cntC i j c)) g3 else .fail)
  | _, _, _ => .fail
theorem si_range3 {tg e3 : Expr} (hg : Gl X "range") (hm : X.mg "range" = none) (ha : SO X ct da a) (hc : SO X ct dc c) (h3 : SO X ct d3 e3) (hs : isStarB a = false) (hs2 : isStarB c = false) (hs3 : isStarB e3 = false) :
    SI X ct tg (iRng3D da dc d3) (.Call (.Name "range" p) [a, c, e3] [] pos) := fun W tk => by
  refine piW (pi_range3 hg hm (pa_cons (ha W tk) (pa_so2 hc h3 tk hs2 hs3) (star_no hs)) (by rw [star_no hs]) (by rw [star_no hs2, star_no hs3]; rfl)) fun σ H R ⟨b, F, ow, ρ, g, S, o⟩ => ?_
  refine rd1 S o fun x g1 F1 H1 v e1 S1 r1 o1 => ?_
  refine rd1 S1 o1 fun y g2 F2 H2 w e2 S2 r2 o2 => ?_
  refine rd1 S2 o2 fun z g3 F3 H3 u e3 S3 r3 o3 => ?_
  cases x <;> first | (exact o3.elim) | skip
  cases y <;> first | (exact o3.elim) | skip
  cases z <;> first | (exact o3.elim) | skip
  rename_i i j c
  dsimp only at o3
  split at o3
  · rename_i hj
    simp only [okRg3, Bool.and_eq_true, decide_eq_true_eq] at hj
    exact ⟨i, j, c, _, by rw [r1.int, r2.int, r3.int], ⟨hj.1.1.1, hj.1.1.2, hj.1.2, hj.2⟩, Out.ok o3 S3.toBg _ walks_rangeC⟩
  · exact o3.elim
end
end PF

set_option Elab.async false
set_option linter.all false
set_option maxRecDepth 100000
set_option maxHeartbeats 2000000
/-! PF19: raise; defs that return a new list; the bag made. -/
namespace PF
open PySem PySem.Spec PyProof.Rows L2
variable [TabT]

section
variable {C : FrC} {X : Cx} {ct : Nat → ClsInfo} {W : WS} {pos p : Pos} {e : Expr} {es : List Expr} {x : Str} {d : Env → M D} {c : Nat}
/-! ### raise -/
def sRaise (c : Nat) (d : Env → M D) : Env → M Fl := fun ρ g => (d ρ g).bind fun x g1 => .exc c x g1
theorem ss_raise {f : Str} {k : Nat} {pos' : Pos} (T : SupC X.prog X.K (ct c).addr f) (hfl : (ct c).field = some f) (hc : X.calm = true) (hr : Room (k + 1) X.A) (hg : Gl X x) (hm : X.mg x = some (.ref (ct c).addr)) (ha : SE X ct d e) (hs : isStarB e = false) (hdb : (x == ("__debug__" : Str)) = false) :
    SS C X ct (sRaise c d) (.Raise (some (.Call (.Name x p) [e] [] pos)) none pos') := fun W tk => by
  refine psW (ps_raise hc tk (pmk_sup T hr hg hm (ha (WXof W) tk) hs hdb)) fun D σ H ⟨b, F, ow, ρ, g, S, o⟩ => ?_
  refine rs1e S o fun x g1 F1 H1 v S1 rv o1 => ?_
  intro d hd
  have e2 := Ext.new (o := .xd [(f, v)]) S1.bg hd
  refine o1 b F1 (upd H1 d (.xd [(f, v)])) (some d) (C.ext S1.fr e2 S1.bg) (S1.bg.new hd) ?_
  unfold ExcAt
  rw [hfl]
  exact ⟨d, v, rfl, upd_same, rv.up (e2.up S1.bg)⟩
/-- raise C('text'), C without own __init__ -/
def sRaiseT (c : Nat) : Env → M Fl := fun _ g => .exc c .none g
theorem ss_raiseT {B newId initId : String} {bmB : List Value} {m : Str} {j : Nat} {p2 pos' : Pos} (Fb : ExcBaseFacts B newId initId bmB) (q : PySem.W.excIn X.K (ct c).addr bmB newId = true) (hfl : (ct c).field = none) (hc : X.calm = true) (hg : Gl X x) (hm : X.mg x = some (.ref (ct c).addr)) (kC : PySem.W.keepIn X.K (.ref (ct c).addr) = true)
    (r : Raises X (.ref (ct c).addr)) (hdb : (x == ("__debug__" : Str)) = false) : SS C X ct (sRaiseT c) (.Raise (some (.Call (.Name x p) [.Constant (.str m) j p2] [] pos)) none pos') := fun W tk => by
  refine psW (ps_raise hc tk (pmk_own Fb q hm kC r hg hdb)) fun D σ H ⟨b, F, ow, ρ, g, S, o⟩ => ?_
  exact o b F H none S.fr S.bg (by unfold ExcAt; rw [hfl])
end

/-! ### blocks that return a new list -/
def OutSF (C : FrC) (K : PySem.W.Frag) (ct : Nat → ClsInfo) (W : WS) (D' : Ends) : Res (List D) → Prop
  | .ok xs g' => ∀ b' F' H' a vs, C.Fr b' F' H' → Bg b' g' F' H' → C.Fo a → ¬ F' a → b' ≠ some a → H' a = some (.lst vs) → RepAll K F' H' vs xs → D'.rt (.ref a) H'
  | .exc c p g' => ∀ b' F' H' dx, C.Fr b' F' H' → Bg b' g' F' H' → ExcAt K (ct c) p dx F' H' → W (.ref (ct c).addr) dx H'
  | .fail => False
def rdSF (C : FrC) (K : PySem.W.Frag) (ct : Nat → ClsInfo) (W : WS) (d : Env → M (List D)) : TS := fun D' σ H => ∃ b F ow ρ g, SSt C K b F H ow σ ρ g ∧ OutSF C K ct W D' (d ρ g)
def SSsF (C : FrC) (X : Cx) (ct : Nat → ClsInfo) (d : Env → M (List D)) (sts : List Stmt) : Prop := ∀ W : WS, Takes X (WXof W) → PSs X sts (rdSF C X.K ct W d)
section
variable {C : FrC} {X : Cx} {ct : Nat → ClsInfo} {W : WS} {pos p : Pos} {e : Expr} {s : Stmt} {sts : List Stmt} {d1 : Env → M Fl} {d d2 : Env → M (List D)}
def sSeqF (d1 : Env → M Fl) (d2 : Env → M (List D)) : Env → M (List D) := fun ρ g => (d1 ρ g).bind fun f g1 => match f with | .next ρ1 => d2 ρ1 g1 | .ret _ => .fail
theorem ssf_cons (h1 : SS C X ct d1 s) (h2 : SSsF C X ct d2 sts) : SSsF C X ct (sSeqF d1 d2) (s :: sts) := fun W tk => by
  refine pssW (pss_cons (h1 W tk) (h2 W tk)) fun D σ H ⟨b, F, ow, ρ, g, S, o⟩ => ⟨b, F, ow, ρ, g, S, ?_⟩
  unfold sSeqF at o
  generalize d1 ρ g = z at o ⊢
  match z, o with
  | .ok (.next ρ') g', o => exact fun b' F' H' ow' σ' S' m => ⟨b', F', ow', ρ', g', S', o⟩
  | .ok (.ret x) g', o => exact o.elim
  | .exc c p g', o => exact o
theorem ssf_ret (h : SF X ct d e) : SSsF C X ct d [.Return (some e) pos] := fun W tk => by
  refine pssW (pss_one (ps_ret (h (WXof W) tk))) fun D σ H ⟨b, F, ow, ρ, g, S, o⟩ => ⟨b, F, ow, ρ, g, S.st, ?_⟩
  generalize d ρ g = z at o ⊢
  match z, o with
  | .ok xs g', o => exact fun F' H' x B q vs h0 nf nb h1 r => o b F' H' q vs (C.ext S.fr x S.bg) B (C.new S.fr h0 nb) nf nb h1 r
  | .exc c p g', o => exact fun F' H' dx x B y => o b F' H' dx (C.ext S.fr x S.bg) B y
theorem ssf_fail : SSsF C X ct (fun _ _ => .fail) sts := fun W tk => ⟨fun _ _ _ _ _ _ h => by obtain ⟨_, _, _, _, _, _, o⟩ := h; exact o.elim⟩
end
/-- a def that returns a new list -/
def spF (K : PySem.W.Frag) (ct : Nat → ClsInfo) (den : List D → M (List D)) : Sp := fun vs H Q E =>
  ∃ b F g ds, Bg b g F H ∧ TabA H ∧ RepAll K F H vs ds ∧ Out K ct b F H E (PVF K b H Q) (den ds g)
def denOfF (np n : Nat) (bd : Env → M (List D)) : List D → M (List D) := fun ds g => if ds.length = np then bd (initE n ds) g else .fail
section
variable {P : Program} {w : World} {K : PySem.W.Frag} {mg : Str → Option Value} {base : Heap} {ct : Nat → ClsInfo} {k : Nat} {gq : Bool} {f : Addr} {name qual : Str} {params : Arguments} {body : List Stmt} {scope : Scope} {dV kV doc pm cdv ct' oc : Value} {an od : Option Addr}
  {osl : Array (Option Value)} {N ps : List Str} {bd : Env → M (List D)}
theorem fn_ofF (lk : K.lookup f = some ⟨oc, od, .func (PySem.W.fnOf name qual params body scope dV kV doc pm an cdv ct'), osl⟩) (hcd : PySem.W.codeIn K cdv qual = true) (S : FnScope N ps scope)
    (hb : ∀ us : List Value, us.length = ps.length → bindArgs (PySem.W.fnOf name qual params body scope dV kV doc pm an cdv ct') ⟨us, []⟩ = pure (ps.zip us))
    (hbody : ∀ (C : FrC) (A : Around) (outer : List PySem.Env) (s : Shared) (H : Hp) (E : XK), Room k (A.deeper (envOfC qual scope s.heap.objs.size f cdv)) → GdOk gq A → SSsF C (fnCx P w K mg base N qual scope f cdv A outer s H E) ct bd body) :
    FnG P w K mg base (k + 1) gq f (spF K ct (denOfF ps.length N.length bd)) := by
  intro A outer s H us vs Q E hr hgd e0 r ⟨b, F, g, ds, B, tA, ha, o⟩
  by_cases hl : ds.length = ps.length
  · have hv : vs.length = ps.length := by rw [ha.length]; exact hl
    have hu : us.length = ps.length := by rw [← r.length]; exact hv
    refine StX.run_bnd lk hcd S hr e0 (bnd_plain (hb us hu) e0 r hv) fun s2 H2 xs hG hr' => ?_
    obtain ⟨ex, eH⟩ := hG
    subst ex eH
    unfold denOfF at o
    rw [if_pos hl] at o
    have tk : Takes (fnCx P w K mg base N qual scope f cdv A outer s2 H2 E) (WXof fun c d H => E c d H) := takes_of rfl rfl rfl (E₁ := fun e' s'' => L2.CX P w outer H2 s2 E e' s'') rfl
    have st := init_str (N := N) B tA ha
    refine ⟨_, hbody (fnFr b F H2) A outer s2 H2 E hr' hgd _ tk, b, F, _, _, g, ⟨st, ⟨rfl, Ext.refl B⟩, fun _ _ h => (nomatch h)⟩, ?_⟩
    generalize bd (initE N.length ds) g = z at o ⊢
    match z, o with
    | .ok ys g1, o =>
      intro b' F' H' a ws fr B' fo nf nb h1 r1
      obtain ⟨e, x⟩ := fr
      subst e
      exact o F' H' x B' a ws fo nf nb h1 r1
    | .exc c p g1, o =>
      intro b' F' H' dx fr B' r
      obtain ⟨e, x⟩ := fr
      subst e
      exact o F' H' dx x B' r
  · unfold denOfF at o
    rw [if_neg hl] at o
    exact o.elim
end
section
variable {C : FrC} {X : Cx} {ct : Nat → ClsInfo} {k i : Nat} {gq : Bool} {f : Addr} {x : Str} {p pos pos' : Pos} {e : Expr} {es : List Expr} {r : Env → M (List D)} {den : List D → M (List D)} {d : Env → M (List D)}
def callF (den : List D → M (List D)) (r : Env → M (List D)) : Env → M (List D) := fun ρ g => (r ρ g).bind fun ds g1 => den ds g1
theorem sf_call (F : FnG X.prog X.w X.K X.mg X.base k gq f (spF X.K ct den)) (hr : Room k X.A) (hgd : GdOk gq X.A) (hg : Gl X x) (hm : X.mg x = some (.ref f)) (hk : PySem.W.keepIn X.K (.ref f) = true)
    (ha : SA X ct r (e :: es)) (hs : isStarB e = false) (hdb : (x == ("__debug__" : Str)) = false) : SF X ct (callF den r) (.Call (.Name x p) (e :: es) [] pos) := fun W tk => by
  refine peW (pe_callG F hr hgd hg hm hk tk (ha W tk) hs hdb) fun σ H Q ⟨b, F, ow, ρ, g, S, o⟩ => ?_
  refine rd1a S o fun ds g1 F1 H1 vs e1 S1 r1 o1 => ⟨b, F1, g1, ds, S1.toBg, S1.tabs, r1, o1.imp fun ys g2 F2 H2 e2 B2 q p vs h0 nf nb h1 r2 => ?_⟩
  exact q p vs (e1.none_of nb h0) nf nb h1 r2
/-! ### the bag is made -/
def bagI : List D → Option (List Int)
  | [] => some []
  | .int i :: r => (bagI r).map (i :: ·)
  | _ :: _ => none
theorem bagI_eq : ∀ {xs : List D} {ns : List Int}, bagI xs = some ns → xs = ns.map .int
  | [], ns, h => by cases h; rfl
  | .int i :: r, ns, h => by
    simp only [bagI, Option.map_eq_some_iff] at h
    obtain ⟨ms, h1, rfl⟩ := h
    rw [bagI_eq h1]; rfl
  | .none :: _, _, h => by cases h
  | .bool _ :: _, _, h => by cases h
  | .str _ :: _, _, h => by cases h
  | .list _ :: _, _, h => by cases h
  | .tuple _ :: _, _, h => by cases h
  | .dict _ :: _, _, h => by cases h
def noBag : Option Slot → Option Slot
  | some .bag => none
  | s => s
def sBag (i : Nat) (d : Env → M (List D)) : Env → M Fl := fun ρ g => (d ρ g).bind fun xs _ => match bagI xs with
  | some ns => .ok (.next ((ρ.map noBag).set i (some .bag))) ns
  | none => .fail
theorem ss_bag (hN : X.N.Nodup) (hi : X.N[i]? = some x) (hx : Loc X.env.scope x) (h : SF X ct d e) (hs : swapsWith e (some (.Name x pos')) pos.line X.env = pure false) (hf : X.fn x = true ∨ X.env.scope.names.lookup x = some .local) :
    SS topFr X ct (sBag i d) (.Assign [.Name x pos'] e pos) := fun W tk => by
  refine psW (ps_set hN hi hx (h (WXof W) tk) hs hf) fun D σ H ⟨b, F, ow, ρ, g, S, o⟩ => ?_
  refine ⟨b, F, ow, ρ, g, S.st, (OutS.ofE S o).imp fun xs g1 F1 H1 e1 B1 o1 q vs h0 nf nb h1 r => ?_⟩
  cases hns : bagI xs with
  | none => rw [hns] at o1; exact o1.elim
  | some ns =>
    rw [hns] at o1
    rw [bagI_eq hns] at r
    obtain rfl := r.ints
    have S1 := S.st.up e1 B1
    have nq : ∀ j a, ow j = some a → some q ≠ some a := fun j a ha z => by
      cases z
      obtain ⟨o', q1, q2⟩ := S.st.oat j q ha
      exact h0 o' q1 q2
    have get : ∀ j, ((ρ.map noBag).set i (some .bag))[j]? = if j = i then (if i < ρ.length then some (some .bag) else none) else (ρ[j]?).map noBag := fun j => by
      rw [List.getElem?_set]
      by_cases z : i = j
      · subst z
        simp
      · rw [if_neg z, if_neg (Ne.symm z), List.getElem?_map]
    refine o1 (some q) F1 H1 (fun j => if j = i then none else ow j) (σ.set i (some (.ref q))) ⟨{ wf := S1.wf, bag := fun a z => ?_, len := by simp [S1.len], slot := fun j s hj => ?_, inj := fun j j' a z z' => ?_, nb := fun j a z => nq j a (ow_none z), oat := fun j a z => S1.oat j a (ow_none z), tabs := S1.tabs }, trivial, fun _ _ _ => trivial⟩ Mono.refl
    · cases z
      exact ⟨h1, nf⟩
    · rw [get j] at hj
      by_cases z : j = i
      · subst z
        rw [if_pos rfl] at hj
        split at hj
        · rename_i hlt
          cases hj
          exact ⟨q, rfl, by rw [List.getElem?_set_self (by rw [S1.len]; exact hlt)]⟩
        · cases hj
      · rw [if_neg z] at hj
        rw [List.getElem?_set_ne (Ne.symm z)]
        have hs : ρ[j]? = some (some s) ∧ s ≠ .bag := by
          cases hr : ρ[j]? with
          | none => rw [hr] at hj; cases hj
          | some u =>
            rw [hr] at hj
            have hj : some (noBag u) = some (some s) := hj
            cases u with
            | none => cases hj
            | some t =>
              cases t <;> (first | (cases hj; exact ⟨rfl, fun h => nomatch h⟩) | (cases hj; done))
        have w := S1.slot j s hs.1
        rw [show (if j = i then none else ow j) = ow j from if_neg z]
        cases s with
        | val d => exact w
        | own ds => exact w
        | ownd ds => exact w
        | bag => exact absurd rfl hs.2
    · exact S1.inj j j' a (ow_none z) (ow_none z')
end
end PF

set_option Elab.async false
set_option linter.all false
set_option maxRecDepth 100000
set_option maxHeartbeats 2000000
/-! PF35: min, max of lists of alike data. -/
namespace PF
open PySem PySem.Spec PyProof.Rows L2
variable [TabT]

section
variable {X : Cx}
def alikeB (xs : List D) : Bool := xs.all fun x => SeqAt.shaped x && (match x with | .none => false | _ => true) && xs.all fun y => PySem.W.alike x y
theorem alikeB_ok {xs : List D} (h : alikeB xs = true) : PySem.W.AlikeAll xs ∧ (∀ x ∈ xs, SeqAt.shaped x = true) ∧ PySem.W.AllAlike xs := by
  have z : ∀ x ∈ xs, SeqAt.shaped x = true ∧ x ≠ .none ∧ ∀ y ∈ xs, PySem.W.alike x y = true := fun x hx => by
    have q := List.all_eq_true.mp h x hx
    simp only [Bool.and_eq_true] at q
    refine ⟨q.1.1, fun e => ?_, fun y hy => List.all_eq_true.mp q.2 y hy⟩
    subst e
    exact absurd q.1.2 (by decide)
  exact ⟨⟨fun x hx y hy => (z x hx).2.2 y hy, fun x hx => (z x hx).2.1⟩, fun x hx => (z x hx).1, fun x hx y hy => (z x hx).2.2 y hy⟩
theorem depthAll_le {n : Nat} : ∀ {xs : List D}, (∀ x ∈ xs, x.depth ≤ n) → PyData.depthAll xs ≤ n
  | [], _ => Nat.zero_le _
  | x :: r, h => by
    show max x.depth (PyData.depthAll r) ≤ n
    exact Nat.max_le.mpr ⟨h x List.mem_cons_self, depthAll_le fun y hy => h y (List.mem_cons_of_mem _ hy)⟩
theorem hasDictAll_of : ∀ {xs : List D}, (∀ x ∈ xs, SeqAt.shaped x = true) → PyData.hasDictAll xs = false
  | [], _ => rfl
  | x :: r, h => by
    show (x.hasDict || PyData.hasDictAll r) = false
    rw [noDict_shaped (h x List.mem_cons_self), hasDictAll_of fun y hy => h y (List.mem_cons_of_mem _ hy)]
    rfl
def bMinA : D → Option D
  | .list (x :: xs) => if alikeB (x :: xs) = true then some (PySem.W.minD x xs) else none
  | _ => none
def bMaxA : D → Option D
  | .list (x :: xs) => if alikeB (x :: xs) = true then some (PySem.W.maxD x xs) else none
  | _ => none
/-- the one: f of data, an item of the list -/
def rPick (K : PySem.W.Frag) (f : PyData → List PyData → PyData) : List V → Hp → VK → Prop := fun vs H Q => ∃ (a : Addr) (zs : List V) (x : PyData) (xs : List PyData), vs = [V.ref a] ∧ SqL K H a zs ∧ DpAll K H zs (x :: xs) ∧ alikeB (x :: xs) = true ∧ ∀ (i : Nat) (v : V), zs[i]? = some v → (x :: xs)[i]? = some (f x xs) → Q v H
theorem vals_get : ∀ {xs : List V} {us : List Value} {i : Nat} {u : Value}, Vals xs us → us[i]? = some u → ∃ v, xs[i]? = some v ∧ RelV v u
  | _, _, _, _, .nil, e => by simp at e
  | _, _, 0, _, .cons r t, e => by simp at e; subst e; exact ⟨_, rfl, r⟩
  | _, _, i + 1, _, .cons r t, e => by simpa using vals_get t (by simpa using e)
theorem pick_ok {pins : List (Addr × Obj)} {σ : L2.St} {H : Hp} {s : Shared} {Q : VK} {zs : List V} {x : PyData} {xs : List PyData} {f : PyData → List PyData → PyData} {its : List Value} {as : List Addr} (I : Inv X pins σ H s) (rv : Vals zs its) (hr : ReadsAll s.heap its (x :: xs) as)
    (q : ∀ (i : Nat) (v : V), zs[i]? = some v → (x :: xs)[i]? = some (f x xs) → Q v H) (i : Nat) (v : Value) (h' : Heap) (tk : Nat) (bs : List Addr) (e : its[i]? = some v) (r : Reads h' v (f x xs) bs) (k : ∀ b o, s.heap.get? b = some o → h'.get? b = some o) : EP X pins σ Q v { s with heap := h', toks := tk } := by
  obtain ⟨y, h1, r1⟩ := vals_get rv e
  obtain ⟨cs, hq, hi, _⟩ := PySem.W.readsAll_at hr i v e
  obtain ⟨e2, _⟩ := reads_det (fun b o hb _ => k b o hb) hq r
  refine ⟨y, H, I.kept k, r1, q i y h1 ?_⟩
  rw [e2, List.getD_eq_getElem?_getD, List.getElem?_eq_getElem hi]
  rfl
theorem cr_minA (hc : X.calm = true) (hu : X.A.units + 128 < cLine) : CallR X (.builtin "min") (rPick X.K PySem.W.minD) := by
  intro pins s σ H vs us Q I r h
  obtain ⟨a, zs, x, xs, rfl, hs, hd, hal, q⟩ := h
  obtain ⟨its, rv, hl, _⟩ := I.list hs
  rw [Vals.ref1 r]
  obtain ⟨as, hr⟩ := Dp.readsAll I _ _ its hd rv
  obtain ⟨h1, h2, _⟩ := alikeB_ok hal
  have hdp : PyData.depthAll (x :: xs) ≤ 64 := depthAll_le fun y hy => SeqAt.depth_of_shaped (h2 y hy)
  exact PySem.W.min_list_data (I.ok.hd hc) hl.isList (by simpa using hr) h1 (by omega) fun i v h' tk bs e rr k => pick_ok I rv hr q i v h' tk bs (by simpa using e) rr k
theorem cr_maxA (hc : X.calm = true) (hu : X.A.units + 128 < cLine) : CallR X (.builtin "max") (rPick X.K PySem.W.maxD) := by
  intro pins s σ H vs us Q I r h
  obtain ⟨a, zs, x, xs, rfl, hs, hd, hal, q⟩ := h
  obtain ⟨its, rv, hl, _⟩ := I.list hs
  rw [Vals.ref1 r]
  obtain ⟨as, hr⟩ := Dp.readsAll I _ _ its hd rv
  obtain ⟨h1, h2, _⟩ := alikeB_ok hal
  have hdp : PyData.depthAll (x :: xs) ≤ 64 := depthAll_le fun y hy => SeqAt.depth_of_shaped (h2 y hy)
  exact PySem.W.max_list_data (I.ok.hd hc) hl.isList (by simpa using hr) h1 (by omega) fun i v h' tk bs e rr k => pick_ok I rv hr q i v h' tk bs (by simpa using e) rr k
theorem fin_rep {b : Option Addr} {F : Addr → Prop} {H : Hp} {g : List Int} {u : V} {z : D} {Q : VK} (B : Bg b g F H) (r : Rep X.K F H u z) (k : ∀ F' H' u, Ext b F H F' H' → Bg b g F' H' → Rep X.K F' H' u z → Q u H') : Q u H := k F H u (Ext.refl B) B r
theorem bi_pick {nm : String} {f : PyData → List PyData → PyData} {op : D → Option D} (hcr : CallR X (.builtin nm) (rPick X.K f)) (hop : ∀ d z, op d = some z → ∃ x xs, d = .list (x :: xs) ∧ alikeB (x :: xs) = true ∧ z = f x xs) : Bi X (.builtin nm) (on1 op) := by
  refine ⟨_, hcr, fun b F H g vs ds z Q B rv e k => ?_⟩
  obtain ⟨d, hdd, e'⟩ := on1_inv e
  clear e
  subst hdd
  obtain ⟨x, xs, rfl, hal, rfl⟩ := hop _ _ e'
  obtain ⟨v, rfl, r1⟩ := one_of rv
  obtain ⟨p, zs, rfl, h, q⟩ := r1.list
  obtain ⟨_, h2, _⟩ := alikeB_ok hal
  refine ⟨p, zs, x, xs, rfl, h, q.dp (hasDictAll_of h2), hal, fun i u hz hx => ?_⟩
  obtain ⟨w, hw, rw'⟩ := q.get hx
  rw [hz] at hw
  cases hw
  exact fin_rep B rw' k
theorem bi_minA (hc : X.calm = true) (hu : X.A.units + 128 < cLine) : Bi X (.builtin "min") (on1 bMinA) := bi_pick (cr_minA hc hu) fun d z e => by
  unfold bMinA at e
  split at e
  · split at e
    · rename_i h; cases e; exact ⟨_, _, rfl, h, rfl⟩
    · cases e
  · cases e
theorem bi_maxA (hc : X.calm = true) (hu : X.A.units + 128 < cLine) : Bi X (.builtin "max") (on1 bMaxA) := bi_pick (cr_maxA hc hu) fun d z e => by
  unfold bMaxA at e
  split at e
  · split at e
    · rename_i h; cases e; exact ⟨_, _, rfl, h, rfl⟩
    · cases e
  · cases e
end
end PF

set_option Elab.async false
set_option linter.all false
set_option maxRecDepth 100000
set_option maxHeartbeats 400000
/-! PF37: sorted, min, max of tuples. -/
namespace PF
open PySem PySem.Spec PyProof.Rows L2

section
variable {prog : Program} {w : World} {A : Around} {E : Value → Shared → Prop} {s : Shared}
abbrev hpC (h : Heap) (zs : List Value) : Heap := (h.push (seqObj "list" #[] 0)).update h.objs.size (Obj.mapSeq (· ++ zs.toArray))
theorem clT {l : Addr} {zs : List Value} {Q : List Value → Shared → Prop} (ht : IsTup s.heap l zs.toArray) (hz : zs.length ≤ sizeLine) (k : Q zs { s with heap := hpC s.heap zs }) : wpAny (model prog w) A (collect (.ref l)) Q E s := by
  obtain ⟨ob, g1, g2, m, g3⟩ := ht
  unfold collect
  have z1 : (s.heap.push (seqObj "list" #[] 0)).get? l = some ob := Heap.get?_push_of_some _ g1
  refine wpAny_bind (wpAny_runValue (codeAny_builtin entry_proto_collect' (?_ : wpAny _ _ (do again (.builtin "list.__iadd__" ⟨[← newList [], .ref l], []⟩)) _ _ s)))
  refine wpAny_bind (wpAny_newList (wpAny_pure ⟨Code.quiet_builtin _ (by decide +kernel), codeAny_builtin entry_list_iadd' ?_⟩) (Nat.zero_le _))
  show wpAny _ _ (Builtin.List.listExtendWith (.ref s.heap.objs.size) (.ref l) (.ref s.heap.objs.size)) _ _ ({ s with heap := s.heap.push (seqObj "list" #[] 0) } : Shared)
  unfold Builtin.List.listExtendWith
  refine wpAny_bind (wpAny_typeOf (T := "tuple") ⟨ob, z1, g2⟩ ?_)
  rw [if_pos (by simp)]
  refine wpAny_bind (listItems_at z1 g3 (wpAny_bind (listItems_at (xs := #[]) (n := 0) (Heap.get?_push_size _ rfl) rfl ?_)))
  rw [if_neg (by simp)]
  refine wpAny_bind (listUpdate_at (n := 0) (xs := #[]) (Heap.get?_push_size _ rfl) rfl ?_ (Nat.zero_le _) (by show (#[] ++ zs.toArray).size ≤ sizeLine + 1; simp only [Array.size_append, List.size_toArray, List.length_nil]; omega))
  refine wpAny_pure (?_ : wpAny (model prog w) A (do
      let ob ← load s.heap.objs.size
      match ob.data with
      | .seq ys _ => pure ys.toList
      | _ => unsupported "internal:collect") Q E { s with heap := hpC s.heap zs })
  refine wpAny_bind (wpAny_load (get?_update_seq (Heap.get?_push_size _ rfl) _) ?_)
  show wpAny _ _ (pure ((#[] : Array Value) ++ zs.toArray).toList) Q E _
  have e : ((#[] : Array Value) ++ zs.toArray).toList = zs := by simp
  rw [e]
  exact wpAny_pure k
theorem srtT {l : Addr} {zs : List Value} {lt : Value → Value → Bool} {Q : Value → Shared → Prop} (O : SrtO.Swo lt) (ht : IsTup s.heap l zs.toArray) (hz : zs.length ≤ sizeLine)
    (hS : 2 ≤ zs.length → ∀ (h₁ : Heap) (a : Addr), h₁.get? a = some (seqObj "list" zs.toArray 0) → SrtO.SortableO prog w A.in1.in1 { s with heap := h₁ } a zs lt)
    (k : ∀ out : List Value, SrtO.Srtd lt out → SrtO.Stb lt out zs → Q (.ref (s.heap.objs.size + 1)) { s with heap := sortedAll s.heap zs out.toArray }) : wpAny (model prog w) A (call (.builtin "sorted") [.ref l]) Q E s := by
  refine Calls.call_function_entry kind_sorted plain_sorted entry_sorted (args_sorted1 _) (?_ : wpAny _ _ (Builtin.«sorted» _) _ _ _)
  unfold Builtin.«sorted»
  refine wpAny_bind (m := checkCount "sorted" 1 1 _) (wpAny_pure (wpAny_bind (clT ht hz (wpAny_bind (wpAny_newList ?_ hz)))))
  have n1 : (hpC s.heap zs).objs.size = s.heap.objs.size + 1 := by rw [Heap.size_update, size_push']
  have n2 : ((hpC s.heap zs).push (seqObj "list" zs.toArray 0)).get? (s.heap.objs.size + 1) = some (seqObj "list" zs.toArray 0) := by rw [← n1]; exact Heap.get?_push_size _ rfl
  have kp : ∀ b o, s.heap.get? b = some o → b ≠ s.heap.objs.size + 1 ∧ ((hpC s.heap zs).push (seqObj "list" zs.toArray 0)).get? b = some o := fun b o q => ⟨Nat.ne_of_lt (Nat.lt_succ_of_lt (Heap.lt_size q)), Heap.get?_push_of_some _ (by rw [Heap.get?_update_ne _ _ _ _ (Nat.ne_of_lt (Heap.lt_size q))]; exact Heap.get?_push_of_some _ q)⟩
  show wpAny _ _ _ _ _ { s with heap := (hpC s.heap zs).push (seqObj "list" zs.toArray 0) }
  rw [n1]
  refine wpAny_bind (wpAny_holding (wpAny_call_entry slot_list_sort ⟨_, n2, rfl⟩ entry_list_sort (SrtO.list_sort_ord O n2 hz (fun h2 => hS h2 _ _ n2) fun out hs hb => ⟨_, rfl, ?_⟩) (args_list_sort _)))
  exact wpAny_pure ⟨_, rfl, k out hs hb⟩
end
section
variable [TabT] {X : Cx}
def rSrtT (K : PySem.W.Frag) : List V → Hp → VK → Prop := fun vs H Q => ∃ (a : Addr) (ns : List Int), vs = [V.ref a] ∧ SqT K H a (ns.map V.int) ∧ ∀ (ms : List Int) (p : Addr), ms.Perm ns → ms.Pairwise (· ≤ ·) → H p = none → Q (.ref p) (upd H p (.lst (ms.map V.int)))
theorem cr_srtT : CallR X (.builtin "sorted") (rSrtT X.K) := by
  intro pins s σ H vs us Q I r h
  obtain ⟨a, ns, rfl, ha, q⟩ := h
  obtain ⟨its, rv, ht, hz⟩ := I.tuple ha
  rw [Vals.ref1 r]
  have hi := rv.ints
  refine srtT SrtO.swo_int ht (by rw [← rv.length]; exact hz) (fun h2 h₁ a' _ => SrtO.ints_sortable hi h2) fun out h1 h2 => ?_
  obtain ⟨k1, k2, k3⟩ := SrtO.ints_out hi h1 h2
  obtain ⟨ep, he⟩ := PyProof.Rows.sortedAll_at s.heap its out.toArray
  have hln : ((out.map SrtO.iv).map V.int).length ≤ sizeLine := by
    rw [List.length_map] at hz
    rw [List.length_map, k2.length_eq]
    exact hz
  exact ⟨.ref _, upd H (s.heap.objs.size + 1) (.lst ((out.map SrtO.iv).map V.int)), I.laid (t' := s.toks) (fun _ _ => PyProof.Rows.sortedAll_old) (Nat.le_succ _) ⟨hln, out, ep, vals_of_ints k1, he⟩, rfl, q _ _ k2 k3 (I.hok.fresh (Nat.le_succ _))⟩
def bSrtT : D → Option D
  | .tuple xs => (intsD xs).bind fun ns => some (.list ((isort ns).map .int))
  | _ => none
theorem bi_srtT : Bi X (.builtin "sorted") (on1 bSrtT) := by
  refine ⟨_, cr_srtT, fun b F H g vs ds z Q B rv e k => ?_⟩
  obtain ⟨d, hdd, e'⟩ := on1_inv e
  clear e
  subst hdd
  obtain ⟨v, rfl, r1⟩ := one_of rv
  cases d <;> first | (cases e'; done) | skip
  rename_i xs
  have e : ((intsD xs).bind fun ns => some (PyData.list ((isort ns).map .int))) = some z := e'
  cases hi : intsD xs with
  | none => rw [hi] at e; cases e
  | some ns =>
    rw [hi] at e
    cases e
    obtain ⟨p, zs, rfl, h, q⟩ := r1.tuple
    rw [ints_eq hi] at q
    refine ⟨p, ns, rfl, by rw [← q.ints]; exact h, fun ms l h1 h2 hl => ?_⟩
    have : ms = isort ns := sorted_one (h1.trans (isort_perm ns).symm) h2 (isort_sorted ns)
    subst this
    exact finL B hl (repInts _) k

/-! ### min, max of tuples -/
def bMinT : D → Option D
  | .tuple (x :: xs) => if alikeB (x :: xs) = true then some (PySem.W.minD x xs) else none
  | _ => none
def bMaxT : D → Option D
  | .tuple (x :: xs) => if alikeB (x :: xs) = true then some (PySem.W.maxD x xs) else none
  | _ => none
def rPickT (K : PySem.W.Frag) (f : PyData → List PyData → PyData) : List V → Hp → VK → Prop := fun vs H Q => ∃ (a : Addr) (zs : List V) (x : PyData) (xs : List PyData), vs = [V.ref a] ∧ SqT K H a zs ∧ DpAll K H zs (x :: xs) ∧ alikeB (x :: xs) = true ∧ ∀ (i : Nat) (v : V), zs[i]? = some v → (x :: xs)[i]? = some (f x xs) → Q v H
theorem cr_minT (hc : X.calm = true) (hu : X.A.units + 128 < cLine) : CallR X (.builtin "min") (rPickT X.K PySem.W.minD) := by
  intro pins s σ H vs us Q I r h
  obtain ⟨a, zs, x, xs, rfl, hs, hd, hal, q⟩ := h
  obtain ⟨its, rv, hl, _⟩ := I.tuple hs
  rw [Vals.ref1 r]
  obtain ⟨as, hr⟩ := Dp.readsAll I _ _ its hd rv
  obtain ⟨h1, h2, _⟩ := alikeB_ok hal
  have hdp : PyData.depthAll (x :: xs) ≤ 64 := depthAll_le fun y hy => SeqAt.depth_of_shaped (h2 y hy)
  exact PySem.W.min_tuple_data (I.ok.hd hc) hl (by simpa using hr) h1 (by omega) fun i v h' tk bs e rr k => pick_ok I rv hr q i v h' tk bs (by simpa using e) rr k
theorem cr_maxT (hc : X.calm = true) (hu : X.A.units + 128 < cLine) : CallR X (.builtin "max") (rPickT X.K PySem.W.maxD) := by
  intro pins s σ H vs us Q I r h
  obtain ⟨a, zs, x, xs, rfl, hs, hd, hal, q⟩ := h
  obtain ⟨its, rv, hl, _⟩ := I.tuple hs
  rw [Vals.ref1 r]
  obtain ⟨as, hr⟩ := Dp.readsAll I _ _ its hd rv
  obtain ⟨h1, h2, _⟩ := alikeB_ok hal
  have hdp : PyData.depthAll (x :: xs) ≤ 64 := depthAll_le fun y hy => SeqAt.depth_of_shaped (h2 y hy)
  exact PySem.W.max_tuple_data (I.ok.hd hc) hl (by simpa using hr) h1 (by omega) fun i v h' tk bs e rr k => pick_ok I rv hr q i v h' tk bs (by simpa using e) rr k
theorem bi_pickT {nm : String} {f : PyData → List PyData → PyData} {op : D → Option D} (hcr : CallR X (.builtin nm) (rPickT X.K f)) (hop : ∀ d z, op d = some z → ∃ x xs, d = .tuple (x :: xs) ∧ alikeB (x :: xs) = true ∧ z = f x xs) : Bi X (.builtin nm) (on1 op) := by
  refine ⟨_, hcr, fun b F H g vs ds z Q B rv e k => ?_⟩
  obtain ⟨d, hdd, e'⟩ := on1_inv e
  clear e
  subst hdd
  obtain ⟨x, xs, rfl, hal, rfl⟩ := hop _ _ e'
  obtain ⟨v, rfl, r1⟩ := one_of rv
  obtain ⟨p, zs, rfl, h, q⟩ := r1.tuple
  obtain ⟨_, h2, _⟩ := alikeB_ok hal
  refine ⟨p, zs, x, xs, rfl, h, q.dp (hasDictAll_of h2), hal, fun i u hz hx => ?_⟩
  obtain ⟨w, hw, rw'⟩ := q.get hx
  rw [hz] at hw
  cases hw
  exact fin_rep B rw' k
theorem bi_minT (hc : X.calm = true) (hu : X.A.units + 128 < cLine) : Bi X (.builtin "min") (on1 bMinT) := bi_pickT (cr_minT hc hu) fun d z e => by
  unfold bMinT at e
  split at e
  · split at e
    · rename_i h; cases e; exact ⟨_, _, rfl, h, rfl⟩
    · cases e
  · cases e
theorem bi_maxT (hc : X.calm = true) (hu : X.A.units + 128 < cLine) : Bi X (.builtin "max") (on1 bMaxT) := bi_pickT (cr_maxT hc hu) fun d z e => by
  unfold bMaxT at e
  split at e
  · split at e
    · rename_i h; cases e; exact ⟨_, _, rfl, h, rfl⟩
    · cases e
  · cases e
end
end PF

set_option Elab.async false
set_option linter.all false
set_option maxRecDepth 100000
set_option maxHeartbeats 1000000
/-! PF38: enumerate over tuples. -/
namespace PF
open PySem PySem.Spec PyProof.Rows L2
theorem mk_enumB {v : Value} {o : Obj} {H : Heap → Prop} (B : PySem.Begins v o H) :
    Meets (Builtin.«enumerate.__new__» ⟨[.type "enumerate", v], []⟩) (fun _ R s => H s.heap ∧ R (.ok (.ret (.ref (s.heap.push o).objs.size))) { s with heap := (s.heap.push o).push { cls := .type "enumerate", data := .fields #[.none, .bool false, .ref s.heap.objs.size, rawInt 0, .none, .none] } }) :=
  .of_wp fun prog w A R s ⟨h1, h⟩ => by
    obtain ⟨hp, g, d, tk, os⟩ := s
    have hsub := sub_enumerate
    have q1 : ∀ {A' : Around} {E : Value → Shared → Prop} {Q : Value → Shared → Prop}, Q (.ref hp.objs.size) ⟨hp.push o, g, d, tk, os⟩ → wpAny (model prog w) A' (pyIter v) Q E ⟨hp, g, d, tk, os⟩ := fun q => B.iter prog w _ _ ⟨hp, g, d, tk, os⟩ _ h1 q
    wp_walk using q1
    refine wpAny_stack_any fun st => wpAny_pure ?_
    split
    · rename_i c _ _ _ _ _
      cases (c == Value.type "enumerate") <;> (wp_walk using q1; exact ⟨_, rfl, h⟩)
    · wp_walk using q1; exact ⟨_, rfl, h⟩
section
variable {prog : Program} {w : World} {A : Around} {E : Value → Shared → Prop} {s : Shared}
theorem call_enumB {v : Value} {o : Obj} {H : Heap → Prop} {Q : Value → Shared → Prop} (B : PySem.Begins v o H) (h1 : H s.heap)
    (k : ∀ h', IsEnum h' (s.heap.objs.size + 1) s.heap.objs.size 0 .none → h'.get? s.heap.objs.size = some o → h'.objs.size = s.heap.objs.size + 2 → (∀ b u, s.heap.get? b = some u → h'.get? b = some u) → Q (.ref (s.heap.objs.size + 1)) { s with heap := h' }) :
    wpAny (model prog w) A (call (.type "enumerate") [v]) Q E s := by
  refine callType_new F.called_enumerate (by decide) (F.typeCall_enumerate_1 _) (F.newCall_enumerate_1 _) (fun obj => F.args_object_init_2 obj _) F.entry_enumerate_new (mk_enumB B) ⟨h1, ?_⟩
  have zz : (s.heap.push o).objs.size = s.heap.objs.size + 1 := Heap.size_push ..
  show _ ∧ _
  rw [zz]
  have en : IsEnum ((s.heap.push o).push { cls := .type "enumerate", data := .fields #[.none, .bool false, .ref s.heap.objs.size, rawInt 0, .none, .none] }) (s.heap.objs.size + 1) s.heap.objs.size 0 .none := by
    have q := Heap.get?_push_size (s.heap.push o) (o := { cls := .type "enumerate", data := .fields #[.none, .bool false, .ref s.heap.objs.size, rawInt 0, .none, .none] }) rfl
    rw [zz] at q
    exact q
  exact ⟨⟨_, en, rfl⟩, k _ en (Heap.get?_push_of_some _ (Heap.get?_push_size _ B.free)) (by rw [Heap.size_push, zz]) fun b u x => Heap.get?_push_of_some _ (Heap.get?_push_of_some _ x)⟩
end
/-- the tuple at a, each item in a new pair -/
def IteT (K : PySem.W.Frag) (a : Addr) (n : Nat) : It :=
  ⟨fun i H => ∃ (xs : List V) (x : V), SqT K H a xs ∧ xs[i]? = some x ∧ xs.length = n, fun i H v H' => ∃ T x, v = .ref T ∧ H T = none ∧ H' = upd H T (.tup [.int (i : Nat), x]) ∧ ∀ xs, SqT K H a xs → xs[i]? = some x, fun i H => ∃ xs : List V, SqT K H a xs ∧ xs.length = n ∧ n ≤ i⟩
theorem turn_enumT [TabT] {P : Program} {w : World} {K : PySem.W.Frag} {elts : List Expr} {kk : Nat} {tpos : Pos} (a e it : Addr) (n : Nat) (hai : a ≠ it) (hae : e ≠ a) :
    Turn P w K (.Tuple elts kk tpos) (IteT K a n) [e, it] e (fun i h => (∃ old, IsEnum h e it ((i : Nat) : Int) old) ∧ h.IsTupleIter it a i ∧ e ≠ it ∧ i ≤ n) where
  mem := List.mem_cons_self
  obj := fun i h st b hb => by
    obtain ⟨⟨old, en⟩, ⟨o, ho, hc, hd⟩, _⟩ := st
    rcases (show b = e ∨ b = it by simpa using hb) with rfl | rfl
    · exact ⟨_, en, fun v q => nomatch q⟩
    · exact ⟨o, ho, fun v q => by rw [hd] at q; cases q⟩
  keep := fun i h h' ⟨⟨old, en⟩, hi, hne, hn⟩ k => ⟨⟨old, k e (by simp) _ en⟩, hi.at fun o q => k it (by simp) o q, hne, hn⟩
  item := by
    intro X hP hw hK hc i pins s σ H E I hf st ⟨xs, x, hq, hx, hlen⟩
    subst hP hw hK
    obtain ⟨⟨old, en⟩, hit, hne, hin⟩ := st
    obtain ⟨its, rv, p, hz⟩ := I.tuple hq
    have hl := rv.length
    have lt1 : e < s.heap.objs.size := Heap.lt_size en
    have lt2 : it < s.heap.objs.size := by obtain ⟨_, q, _⟩ := hit; exact Heap.lt_size q
    have hi : i < its.toArray.size := by
      have := (List.getElem?_eq_some_iff.mp hx).1
      simpa [← hl] using this
    refine wpAny_pyNext_enum_itemD (Draws.tuple (A := X.A.in1) (show X.A.in1.handled = none from I.ok.hd hc) it a hai its.toArray) en ⟨hit, p⟩ hi hne (by simp [hne, hae]) fun u h' tk hu ho hit' hT hsz hk => ?_
    have hu2 : its[i]? = some u := by simpa using hu
    obtain ⟨x', hx', ru⟩ := vals_get rv hu2
    rw [hx] at hx'
    cases hx'
    refine ⟨_, rfl, wpAny_letOwnedTupleGo_enum (s := { s with heap := h', toks := tk + 1 }) ho fun h'' en' sb => ?_⟩
    have hT2 : h''.get? s.heap.objs.size = some { cls := .type "tuple", data := .seq #[.int i tk, u] } := (sb.2 _ (Nat.ne_of_gt lt1)).trans hT
    have new : ObjOk X.prog X.w (upd H s.heap.objs.size (.tup [.int (i : Nat), x])) h'' s.heap.objs.size (.tup [.int (i : Nat), x]) := ⟨by show 2 ≤ sizeLine; decide, [.int i tk, u], .cons ⟨_, rfl⟩ (.cons ru .nil), ⟨_, hT2, rfl, _, rfl⟩⟩
    have I1 : Inv X pins σ (upd H s.heap.objs.size (.tup [.int (i : Nat), x])) { s with heap := h'', toks := tk + 1 } :=
      I.turnedNew (ch := [e, it]) (fun b ob hb q => (sb.2 b (fun z => hb (by simp [z]))).trans (hk b ob (fun z => hb (by simp [z])) (fun z => hb (by simp [z])) q)) hf (Nat.le_refl _) new
    refine ⟨.ref s.heap.objs.size, _, I1, rfl, ⟨_, x, rfl, I.hok.fresh (Nat.le_refl _), rfl, fun ys hy => by rw [I.tuple_inj hy hq]; exact hx⟩, ⟨⟨u, ?_⟩, hit'.1.at fun o q => (sb.2 it (Ne.symm hne)).trans q, hne, by rw [← hlen, hl]; exact Nat.succ_le_of_lt (by simpa using hi)⟩, fun b hb => ?_⟩
    · rw [show ((i + 1 : Nat) : Int) = (i : Int) + 1 by omega]
      exact en'
    · have lb : b < s.heap.objs.size := by
        rcases (show b = e ∨ b = it by simpa using hb) with rfl | rfl
        · exact lt1
        · exact lt2
      rw [upd_ne (Nat.ne_of_lt lb)]
      exact (hf b hb).1
  done := by
    intro X hP hw hK hc i pins s σ H E I hf st ⟨xs, hq, hlen, hx⟩
    subst hP hw hK
    obtain ⟨⟨old, en⟩, hit, hne, hin⟩ := st
    obtain ⟨its, rv, p, hz⟩ := I.tuple hq
    obtain ⟨f0, f1, f2, f3, f4, f5⟩ := hf it (by simp)
    have hl := rv.length
    have hi : i = its.toArray.size := by
      rw [List.size_toArray]
      omega
    exact wpAny_pyNext_enum_endD (Draws.tuple (A := X.A.in1) (show X.A.in1.handled = none from I.ok.hd hc) it a hai its.toArray) en ⟨hi ▸ hit, p⟩ fun h' eb => ⟨rfl, I.turned (t' := s.toks) (fun b o hb q => eb b o hb q) f0 f1 f3 f4 f5⟩
  self := fun A i s Q E ⟨⟨_, en⟩, _⟩ h => wpAny_pyIter_enum en h
section
variable [TabT] {X : Cx} {ct : Nat → ClsInfo} {a : Expr} {da : Env → M D} {p pos tpos : Pos} {K : PySem.W.Frag} {F0 : Addr → Prop} {H0 : Hp}
theorem walks_enumT {a : Addr} {vs : List V} {xs : List D} (h : SqT K H0 a vs) (r : RepAll K F0 H0 vs xs) (hup : ∀ {F : Addr → Prop} {H : Hp}, Mono F0 H0 F H → SqT K H a vs) : Walks K (IteT K a vs.length) F0 H0 (enumD 0 xs) := fun i b g F H m B => by
  have s1 := hup m
  have r1 := r.up m
  rw [enumD_get]
  cases hx : xs[i]? with
  | none => exact ⟨fun x hx' => (nomatch hx'), fun _ => ⟨vs, s1, rfl, by rw [r1.length]; exact get_of_ge hx⟩⟩
  | some x =>
    obtain ⟨v, hv, rv⟩ := r1.get hx
    refine ⟨fun z hz => ⟨⟨vs, v, s1, hv, rfl⟩, fun u H' hu => ?_⟩, fun hn => nomatch hn⟩
    have hz : some (PyData.tuple [.int ((0 + i : Nat) : Int), x]) = some z := hz
    cases hz
    obtain ⟨T, v', rfl, hT, rfl, k1⟩ := hu
    have e1 : some v' = some v := ((k1 vs s1).symm.trans hv)
    cases e1
    have x := Ext.new (o := .tup [.int (i : Nat), v]) B hT
    refine ⟨x, B.new hT, .tup (.inl (.inl upd_same)) (.cons ?_ (.cons (rv.up (x.up B)) .nil))⟩
    rw [Nat.zero_add]
    exact .int _
def rEnB (K : PySem.W.Frag) (ta : TA) : TI := fun σ H R => ta σ H fun vs H1 => ∃ a, vs = [.ref a] ∧ ((∃ xs, SqL K H1 a xs ∧ R (Ite K a) H1) ∨ (∃ xs : List V, SqT K H1 a xs ∧ R (IteT K a xs.length) H1))
theorem pi_enumB {e : Expr} {ta : TA} {elts : List Expr} {kk : Nat} (hg : Gl X "enumerate") (hm : X.mg "enumerate" = none) (ha : PA X [e] ta) (hs : starEach [e] X.env = [(false, eval e X.env)]) : PI X (.Tuple elts kk tpos) (.Call (.Name "enumerate" p) [e] [] pos) (rEnB X.K ta) := by
  refine ⟨fun pins s σ H R I h => Call_ (ld_blt I hg hm boot_enumerate (PyProof.Rows.callWith_type1 (thn (ha.run pos pins s σ H _ I h) fun us s1 ⟨vs, H1, I1, r1, q1⟩ => ?_) hs rfl))⟩
  obtain ⟨a, rfl, q1⟩ := q1
  rw [Vals.ref1 r1]
  have fr : ∀ b, b ∈ [s1.heap.objs.size + 1, s1.heap.objs.size] → s1.heap.objs.size ≤ b := fun b hb => by
    rcases (show b = s1.heap.objs.size + 1 ∨ b = s1.heap.objs.size by simpa using hb) with rfl | rfl
    · exact Nat.le_succ _
    · exact Nat.le_refl _
  rcases q1 with ⟨xs, hq, q⟩ | ⟨xs, hq, q⟩
  · obtain ⟨its, rv, p', hz⟩ := I1.list hq
    refine call_enumerate_list p'.isList fun h' en hit hsz hk => wpAny_pyIter_enum en ?_
    exact ⟨s1.heap.objs.size + 1, [s1.heap.objs.size + 1, s1.heap.objs.size], _, _, H1, rfl, I1.kept (t' := s1.toks) hk, turn_enum a (s1.heap.objs.size + 1) s1.heap.objs.size, ⟨⟨.none, en⟩, hit, Nat.succ_ne_self _⟩, fun b hb => I1.fpOk (fr b hb) (I1.hok.fresh (fr b hb)), q⟩
  · obtain ⟨its, rv, p', hz⟩ := I1.tuple hq
    have la : a < s1.heap.objs.size := by obtain ⟨_, g, _⟩ := p'; exact Heap.lt_size g
    refine call_enumB (begins_tuple a its.toArray) p' fun h' en hit hsz hk => wpAny_pyIter_enum en ?_
    exact ⟨s1.heap.objs.size + 1, [s1.heap.objs.size + 1, s1.heap.objs.size], _, _, H1, rfl, I1.kept (t' := s1.toks) hk, turn_enumT a (s1.heap.objs.size + 1) s1.heap.objs.size xs.length (Nat.ne_of_lt la) (Nat.ne_of_gt (Nat.lt_succ_of_lt la)), ⟨⟨.none, en⟩, ⟨_, hit, rfl, rfl⟩, Nat.succ_ne_self _, Nat.zero_le _⟩, fun b hb => I1.fpOk (fr b hb) (I1.hok.fresh (fr b hb)), q⟩
def iEnB (da : Env → M D) : Env → M (List D) := fun ρ g => (da ρ g).bind fun x g1 => match itemsD x with | some xs => .ok (enumD 0 xs) g1 | none => .fail
theorem si_enumB {elts : List Expr} {kk : Nat} (hg : Gl X "enumerate") (hm : X.mg "enumerate" = none) (ha : SE X ct da a) (hs : isStarB a = false) : SI X ct (.Tuple elts kk tpos) (iEnB da) (.Call (.Name "enumerate" p) [a] [] pos) := fun W tk => by
  refine piW (pi_enumB hg hm (pa_cons (ha W tk) pa_nil (star_no hs)) (star_no hs)) fun σ H R ⟨b, F, ow, ρ, g, S, o⟩ => ?_
  refine rd1e S o fun x g1 F1 H1 v e1 S1 r1 o1 => ?_
  cases x <;> first | (exact o1.elim) | skip
  · cases r1 with
    | lst h q => exact ⟨_, rfl, .inl ⟨_, h.seq, Out.ok o1 S1.toBg _ (walks_enum h q)⟩⟩
  · cases r1 with
    | tup h q => exact ⟨_, rfl, .inr ⟨_, h, Out.ok o1 S1.toBg _ (walks_enumT h q fun m => sqT_up h m)⟩⟩
end
end PF

set_option Elab.async false
set_option linter.all false
set_option maxRecDepth 100000
set_option maxHeartbeats 1000000
/-! PF41: k in d, d a dict. -/
namespace PF
open PySem PySem.Spec PyProof.Rows L2
variable [TabT]

def getDK (ps : List (D × D)) (k : D) : Option D := (ps.find? fun p => sameKey p.1 k).map (·.2)
theorem RepKv.val {K : PySem.W.Frag} {F : Addr → Prop} {H : Hp} : ∀ {kvs : List (Key × V)} {ps : List (D × D)} (k : Key), RepKv K F H kvs ps → (valV kvs k = none ∧ getDK ps (kD k) = none) ∨ ∃ v z, valV kvs k = some v ∧ getDK ps (kD k) = some z ∧ Rep K F H v z
  | _, _, k, .nil => .inl ⟨rfl, rfl⟩
  | _, _, k, .cons (k := k') r t => by
    unfold valV getDK
    rw [List.find?_cons, List.find?_cons]
    dsimp only
    rw [sameKey_eq]
    by_cases e : k' = k
    · rw [decide_eq_true e]
      exact .inr ⟨_, _, rfl, rfl, r⟩
    · rw [decide_eq_false e]
      exact RepKv.val k t
theorem RepEn.val {K : PySem.W.Frag} {F : Addr → Prop} {H : Hp} (ns : List Int) : ∀ {xs : List En} {ps : List (D × D)}, RepEn K F H xs ps → (getDK ps (.tuple (ns.map .int)) = none ∧ AtE xs ns none) ∨ ∃ v z, AtE xs ns (some v) ∧ getDK ps (.tuple (ns.map .int)) = some z ∧ Rep K F H v z
  | _, _, .nil => .inl ⟨rfl, True.intro⟩
  | _, _, .cons (ns := ms) k q r t => by
    have ih := RepEn.val ns t
    unfold getDK AtE atKey at *
    rw [List.find?_cons, List.find?_cons]
    dsimp only
    rw [sameKey_tup]
    by_cases e : kInts ms = kInts ns
    · rw [decide_eq_true e]
      exact .inr ⟨_, _, q, rfl, r⟩
    · rw [decide_eq_false e]
      exact ih
section
variable {X : Cx}
def dInK (x : D) : D → Option D
  | .dict ps => if (isKeyD x && plainD ps) = true then some (.bool (getDK ps x).isSome) else (match tupKD x with
    | some _ => if entsD ps = true then some (.bool (getDK ps x).isSome) else none
    | none => none)
  | _ => none
def dNotInK (x : D) : D → Option D
  | .dict ps => if (isKeyD x && plainD ps) = true then some (.bool (!(getDK ps x).isSome)) else (match tupKD x with
    | some _ => if entsD ps = true then some (.bool (!(getDK ps x).isSome)) else none
    | none => none)
  | _ => none
theorem op_inK (hu : X.A.units + 1 < cLine) : OpR X (compareOp .In) (fun x y H Q => ∃ a o, y = .ref a ∧ DGetE X.K H a x o ∧ Q (.bl o.isSome) H) := by
  intro pins s σ H x y v u Q I rx ry h
  obtain ⟨a, o, rfl, g, q⟩ := h
  obtain rfl : u = Value.ref a := ry
  exact e_in hu I g rx fun s3 I3 => ⟨.bl o.isSome, H, I3, rfl, q⟩
theorem op_notInK (hu : X.A.units + 1 < cLine) : OpR X (compareOp .NotIn) (fun x y H Q => ∃ a o, y = .ref a ∧ DGetE X.K H a x o ∧ Q (.bl (!o.isSome)) H) := by
  intro pins s σ H x y v u Q I rx ry h
  obtain ⟨a, o, rfl, g, q⟩ := h
  obtain rfl : u = Value.ref a := ry
  exact e_notIn hu I g rx fun s3 I3 => ⟨.bl (!o.isSome), H, I3, rfl, q⟩
theorem keyOf {b : Option Addr} {F : Addr → Prop} {H : Hp} {v : V} {k : Key} (r : RepO X.K b F H v (kD k)) : v = kV k := by
  cases k with
  | inl i => exact r.int
  | inr z =>
    cases r with
    | rep r => exact repKey (k := .inr z) r
theorem op2_inK (hu : X.A.units + 1 < cLine) : Op2 X (compareOp .In) dInK := by
  refine ⟨_, op_inK hu, fun b F H g v w x y z Q B rx ry e k => ?_⟩
  cases y <;> first | (cases e; done) | skip
  rename_i ps
  simp only [dInK] at e
  split at e
  · rename_i hk
    cases e
    obtain ⟨hk, hp⟩ := Bool.and_eq_true_iff.mp hk
    obtain ⟨a, u, rfl, h, q⟩ := ry.dict (plain_nexc hp)
    obtain ⟨kk, rfl⟩ := isKey_eq hk
    obtain ⟨kvs, eu, q2⟩ := q.plain hp
    subst eu
    obtain rfl := keyOf rx
    refine ⟨a, valV kvs kk, rfl, .inl (.inl ⟨kvs, kk, h, rfl, rfl⟩), ?_⟩
    rcases q2.val kk with ⟨h1, h2⟩ | ⟨v1, z1, h1, h2, _⟩
    · rw [h1]; rw [h2] at k; exact fin0 B (.bl _) k
    · rw [h1]; rw [h2] at k; exact fin0 B (.bl _) k
  · split at e
    · rename_i ns ht
      split at e
      · rename_i hp
        cases e
        obtain rfl := tupKD_eq ht
        obtain ⟨a, u, rfl, h, q⟩ := ry.dict (ents_nexc hp)
        obtain ⟨xs, hR, q2⟩ := q.rdE h hp
        obtain ⟨b', vs, rfl, hb, r2⟩ := rx.tuple
        rw [r2.ints] at hb
        rcases q2.val ns with ⟨h1, h2⟩ | ⟨v1, z1, h2, h1, _⟩
        · exact ⟨a, none, rfl, .inr ⟨xs, ns, b', hR, rfl, hb, h2⟩, by rw [h1] at k; exact fin0 B (.bl _) k⟩
        · exact ⟨a, some v1, rfl, .inr ⟨xs, ns, b', hR, rfl, hb, h2⟩, by rw [h1] at k; exact fin0 B (.bl _) k⟩
      · cases e
    · cases e
theorem op2_notInK (hu : X.A.units + 1 < cLine) : Op2 X (compareOp .NotIn) dNotInK := by
  refine ⟨_, op_notInK hu, fun b F H g v w x y z Q B rx ry e k => ?_⟩
  cases y <;> first | (cases e; done) | skip
  rename_i ps
  simp only [dNotInK] at e
  split at e
  · rename_i hk
    cases e
    obtain ⟨hk, hp⟩ := Bool.and_eq_true_iff.mp hk
    obtain ⟨a, u, rfl, h, q⟩ := ry.dict (plain_nexc hp)
    obtain ⟨kk, rfl⟩ := isKey_eq hk
    obtain ⟨kvs, eu, q2⟩ := q.plain hp
    subst eu
    obtain rfl := keyOf rx
    refine ⟨a, valV kvs kk, rfl, .inl (.inl ⟨kvs, kk, h, rfl, rfl⟩), ?_⟩
    rcases q2.val kk with ⟨h1, h2⟩ | ⟨v1, z1, h1, h2, _⟩
    · rw [h1]; rw [h2] at k; exact fin0 B (.bl _) k
    · rw [h1]; rw [h2] at k; exact fin0 B (.bl _) k
  · split at e
    · rename_i ns ht
      split at e
      · rename_i hp
        cases e
        obtain rfl := tupKD_eq ht
        obtain ⟨a, u, rfl, h, q⟩ := ry.dict (ents_nexc hp)
        obtain ⟨xs, hR, q2⟩ := q.rdE h hp
        obtain ⟨b', vs, rfl, hb, r2⟩ := rx.tuple
        rw [r2.ints] at hb
        rcases q2.val ns with ⟨h1, h2⟩ | ⟨v1, z1, h2, h1, _⟩
        · exact ⟨a, none, rfl, .inr ⟨xs, ns, b', hR, rfl, hb, h2⟩, by rw [h1] at k; exact fin0 B (.bl _) k⟩
        · exact ⟨a, some v1, rfl, .inr ⟨xs, ns, b', hR, rfl, hb, h2⟩, by rw [h1] at k; exact fin0 B (.bl _) k⟩
      · cases e
    · cases e
/-- x in y, items of any depth -/
def itemsQ : D → Option (List D)
  | .list ds => some ds
  | .tuple ds => some ds
  | _ => none
def dInD (x y : D) : Option D := if (SeqAt.shaped x && SeqAt.shaped y) = true then (itemsQ y).map fun ds => .bool (ds.any fun z => PyData.eqv z x) else none
def dNotInD (x y : D) : Option D := if (SeqAt.shaped x && SeqAt.shaped y) = true then (itemsQ y).map fun ds => .bool (!ds.any fun z => PyData.eqv z x) else none
def rInQ (K : PySem.W.Frag) (f : Bool → Bool) : R2 := fun x y H Q => ∃ d c ds, Dp K H x d ∧ Dp K H y c ∧ SeqAt.shaped d = true ∧ SeqAt.shaped c = true ∧ itemsQ c = some ds ∧ Q (.bl (f (ds.any fun z => PyData.eqv z d))) H
theorem op_inQ (hu : X.A.units + 65 < cLine) : OpR X (compareOp .In) (rInQ X.K id) := by
  intro pins s σ H x y v u Q I rx ry h
  obtain ⟨d, c, ds, hd, he, sd, se, hi, q⟩ := h
  obtain ⟨as, r1⟩ := Dp.reads I d x v hd rx
  obtain ⟨bs, r2⟩ := Dp.reads I c y u he ry
  cases c <;> first | (cases hi; done) | skip
  · cases hi
    refine SeqAt.in_list_reads r2 r1 (SeqAt.canLay_of_shaped se) (SeqAt.canLay_of_shaped sd) (room_in_shaped sd hu) (show EP X pins σ Q _ s from ⟨.bl _, H, I, rfl, q⟩)
  · cases hi
    refine SeqAt.in_tuple_reads r2 r1 (SeqAt.canLay_of_shaped se) (SeqAt.canLay_of_shaped sd) (room_in_shaped sd hu) (show EP X pins σ Q _ s from ⟨.bl _, H, I, rfl, q⟩)
theorem op_notInQ (hu : X.A.units + 65 < cLine) : OpR X (compareOp .NotIn) (rInQ X.K not) := by
  intro pins s σ H x y v u Q I rx ry h
  obtain ⟨d, c, ds, hd, he, sd, se, hi, q⟩ := h
  obtain ⟨as, r1⟩ := Dp.reads I d x v hd rx
  obtain ⟨bs, r2⟩ := Dp.reads I c y u he ry
  cases c <;> first | (cases hi; done) | skip
  · cases hi
    refine SeqAt.notIn_list_reads r2 r1 (SeqAt.canLay_of_shaped se) (SeqAt.canLay_of_shaped sd) (room_in_shaped sd hu) (show EP X pins σ Q _ s from ⟨.bl _, H, I, rfl, q⟩)
  · cases hi
    refine SeqAt.notIn_tuple_reads r2 r1 (SeqAt.canLay_of_shaped se) (SeqAt.canLay_of_shaped sd) (room_in_shaped sd hu) (show EP X pins σ Q _ s from ⟨.bl _, H, I, rfl, q⟩)
theorem op2_inD (hu : X.A.units + 65 < cLine) : Op2 X (compareOp .In) dInD := by
  refine ⟨_, op_inQ hu, fun b F H g v w x y z Q B rx ry e k => ?_⟩
  unfold dInD at e
  split at e
  · rename_i h
    simp only [Bool.and_eq_true] at h
    obtain ⟨ds, hi, rfl⟩ := Option.map_eq_some_iff.mp e
    exact ⟨x, y, ds, rx.dp (noDict_shaped h.1), ry.dp (noDict_shaped h.2), h.1, h.2, hi, fin0 B (.bl _) k⟩
  · cases e
theorem op2_notInD (hu : X.A.units + 65 < cLine) : Op2 X (compareOp .NotIn) dNotInD := by
  refine ⟨_, op_notInQ hu, fun b F H g v w x y z Q B rx ry e k => ?_⟩
  unfold dNotInD at e
  split at e
  · rename_i h
    simp only [Bool.and_eq_true] at h
    obtain ⟨ds, hi, rfl⟩ := Option.map_eq_some_iff.mp e
    exact ⟨x, y, ds, rx.dp (noDict_shaped h.1), ry.dp (noDict_shaped h.2), h.1, h.2, hi, fin0 B (.bl _) k⟩
  · cases e
def dInB (x y : D) : Option D := match dInK x y with | some z => some z | none => dInD x y
def dNotInB (x y : D) : Option D := match dNotInK x y with | some z => some z | none => dNotInD x y
def dInA (x y : D) : Option D := match dIn x y with | some z => some z | none => dInB x y
def dNotInA (x y : D) : Option D := match dNotIn x y with | some z => some z | none => dNotInB x y
theorem op2_inA (hu : X.A.units + 65 < cLine) : Op2 X (compareOp .In) dInA := op2_in.or ((op2_inK (by omega)).or (op2_inD hu))
theorem op2_notinA (hu : X.A.units + 65 < cLine) : Op2 X (compareOp .NotIn) dNotInA := op2_notin.or ((op2_notInK (by omega)).or (op2_notInD hu))
end
end PF

set_option Elab.async false
set_option linter.all false
set_option maxRecDepth 100000
set_option maxHeartbeats 2000000
/-! PF48: sum of a tuple of ints. -/
namespace PF
open PySem PySem.Spec PyProof.Rows L2
variable [TabT]

section
variable {X : Cx}
def rSumT (K : PySem.W.Frag) : List V → Hp → VK → Prop := fun vs H Q => ∃ (a : Addr) (ns : List Int), vs = [V.ref a] ∧ SqT K H a (ns.map V.int) ∧ Q (.int ns.sum) H
theorem cr_sumT (hc : X.calm = true) : CallR X (.builtin "sum") (rSumT X.K) := by
  intro pins s σ H vs us Q I r h
  obtain ⟨a, ns, rfl, hs, q⟩ := h
  obtain ⟨its, rv, pl, _⟩ := I.tuple hs
  rw [Vals.ref1 r]
  have hl : s.heap.IsTuple a its.toArray := pl
  have hi : IntsAre its ns := by simpa using rv.ints
  obtain ⟨xs, hx⟩ := hi.allInts.items
  have hn : numsOf its.toArray.toList = ns := by rw [show its.toArray.toList = its from rfl, hi.numsOf]
  rw [show its.toArray = intItems xs from hx] at hl hn
  rw [nums_intItems] at hn
  refine PySem.W.ktm_sumG (I.ok.hd hc) hl fun h' tk t' hk => ?_
  have e : preSum (numAt xs) xs.size = ns.sum := by rw [preSum_eq, List.take_of_length_le (by simp), hn]
  rw [e]
  exact ⟨.int _, H, I.kept hk, ⟨_, rfl⟩, q⟩
def onT {α : Type} (r : List D → Option α) (f : α → Option D) : D → Option D
  | .tuple xs => match r xs with | some a => f a | none => none
  | _ => none
theorem onT_inv {α : Type} {r : List D → Option α} {f : α → Option D} {d z : D} (e : onT r f d = some z) : ∃ xs a, d = .tuple xs ∧ r xs = some a ∧ f a = some z := by
  unfold onT at e
  split at e
  · split at e
    · exact ⟨_, _, rfl, by assumption, e⟩
    · cases e
  · cases e
def bSumT : D → Option D := onT intsD fun ns => some (.int ns.sum)
theorem bi_sumT (hc : X.calm = true) : Bi X (.builtin "sum") (on1 bSumT) := by
  refine ⟨_, cr_sumT hc, fun b F H g vs ds z Q B rv e k => ?_⟩
  obtain ⟨d, hdd, e'⟩ := on1_inv e
  clear e
  subst hdd
  obtain ⟨xs, bs, rfl, e1, e2⟩ := onT_inv e'
  obtain ⟨v, rfl, r1⟩ := one_of rv
  cases e2
  obtain ⟨p, vs, rfl, h, q⟩ := r1.tuple
  rw [ints_eq e1] at q
  exact ⟨p, bs, rfl, by rw [← q.ints]; exact h, fin0 B (.int _) k⟩
end
end PF

set_option Elab.async false
set_option linter.all false
set_option maxRecDepth 100000
set_option maxHeartbeats 2000000
/-! PF56: sorted of a list of tuples of ints. -/
namespace PF
open PySem PySem.Spec PyProof.Rows L2

/-! ### the order -/
def leL : List Int → List Int → Bool
  | [], _ => true
  | _ :: _, [] => false
  | a :: r, b :: q => if a < b then true else if a = b then leL r q else false
theorem leL_iff : ∀ a b : List Int, leL a b = true ↔ a ≤ b
  | [], b => by simp [leL]
  | a :: r, [] => by simp [leL]
  | a :: r, b :: q => by
    rw [List.cons_le_cons_iff]
    unfold leL
    by_cases h1 : a < b
    · simp [h1]
    · by_cases h2 : a = b
      · subst h2; simp [leL_iff r q]
      · simp [h1, h2]
theorem leL_total (a b : List Int) : leL a b = true ∨ leL b a = true := by rw [leL_iff, leL_iff]; exact List.le_total a b
theorem leL_trans {a b c : List Int} (h : leL a b = true) (k : leL b c = true) : leL a c = true := by rw [leL_iff] at *; exact List.le_trans h k
theorem leL_anti {a b : List Int} (h : leL a b = true) (k : leL b a = true) : a = b := by rw [leL_iff] at *; exact List.le_antisymm h k
def insL (n : List Int) : List (List Int) → List (List Int)
  | [] => [n]
  | m :: r => if leL n m then n :: m :: r else m :: insL n r
def isortL : List (List Int) → List (List Int)
  | [] => []
  | n :: r => insL n (isortL r)
theorem insL_perm (n : List Int) : ∀ l, (insL n l).Perm (n :: l)
  | [] => .refl _
  | m :: r => by
    unfold insL
    split
    · exact .refl _
    · exact ((insL_perm n r).cons m).trans (.swap n m r)
theorem isortL_perm : ∀ l, (isortL l).Perm l
  | [] => .refl _
  | n :: r => (insL_perm n _).trans ((isortL_perm r).cons n)
theorem insL_sorted (n : List Int) : ∀ {l}, l.Pairwise (fun a b => leL a b = true) → (insL n l).Pairwise (fun a b => leL a b = true)
  | [], _ => by simp [insL]
  | m :: r, h => by
    unfold insL
    obtain ⟨h1, h2⟩ := List.pairwise_cons.mp h
    split
    · rename_i e
      exact List.pairwise_cons.mpr ⟨fun x hx => by rcases List.mem_cons.mp hx with rfl | hx; exact e; exact leL_trans e (h1 x hx), h⟩
    · rename_i e
      have e2 : leL m n = true := (leL_total m n).resolve_right e
      refine List.pairwise_cons.mpr ⟨fun x hx => ?_, insL_sorted n h2⟩
      rcases List.mem_cons.mp ((insL_perm n r).mem_iff.mp hx) with rfl | hx
      · exact e2
      · exact h1 x hx
theorem isortL_sorted : ∀ l, (isortL l).Pairwise (fun a b => leL a b = true)
  | [] => .nil
  | n :: r => insL_sorted n (isortL_sorted r)
theorem isortL_one {l m : List (List Int)} (h : l.Perm m) (s : l.Pairwise (fun a b => leL a b = true)) : l = isortL m :=
  List.Perm.eq_of_pairwise (fun a b _ _ h k => leL_anti h k) s (isortL_sorted m) (h.trans (isortL_perm m).symm)
def tupI (ns : List Int) : D := .tuple (ns.map .int)
theorem dataLe_tup {β : Type} (x : β → List Int) : PySem.W.dataLe false (fun b => tupI (x b)) = fun p q => leL (x p) (x q) := by
  rw [PySem.W.dataLe_eq]
  funext p q
  show (!PySem.W.dataLt (.tuple ((x q).map .int)) (.tuple ((x p).map .int))) = _
  rw [PySem.W.dataLt_tuple]
  have e : PyProof.Rows.lexLt itemOrd (PySem.W.keyToksAll ((x q).map .int)) (PySem.W.keyToksAll ((x p).map .int)) = decide (x q < x p) := PySem.W.dataLt_ints _ _
  rw [e]
  by_cases h : x q < x p
  · rw [decide_eq_true h]
    refine (Bool.eq_false_iff.mpr fun z => ?_).symm
    exact absurd h ((leL_iff _ _).mp z)
  · rw [decide_eq_false h]
    exact ((leL_iff _ _).mpr h).symm
section
variable [TabT] {X : Cx}
theorem zip_each {h : Heap} : ∀ {zs : List V} {nss : List (List Int)} {its : List Value} {as : List Addr}, Vals zs its → ReadsAll h its (nss.map tupI) as →
    PySem.W.EachIs (fun v (q : V × List Int) => RelV q.1 v) its (zs.zip nss) ∧ PySem.W.EachIs (fun v (q : V × List Int) => ∃ as, Reads h v (tupI q.2) as) its (zs.zip nss)
  | [], [], _, _, .nil, _ => ⟨.nil, .nil⟩
  | z :: zs, n :: nss, _, _, .cons r t, e => by
    cases e with
    | cons e1 e2 =>
      obtain ⟨a, b⟩ := zip_each t e2
      exact ⟨.cons r a, .cons ⟨_, e1⟩ b⟩
  | [], n :: nss, _, _, .nil, e => by cases e
  | z :: zs, [], _, _, .cons r t, e => by cases e
theorem ra_length {h : Heap} : ∀ {its : List Value} {ds : List D} {as : List Addr}, ReadsAll h its ds as → its.length = ds.length
  | _, _, _, .nil => rfl
  | _, _, _, .cons _ t => by rw [List.length_cons, List.length_cons, ra_length t]
theorem each_vals : ∀ {out : List Value} {cs : List (V × List Int)}, PySem.W.EachIs (fun v (q : V × List Int) => RelV q.1 v) out cs → Vals (cs.map (·.1)) out
  | _, _, .nil => .nil
  | _, _, .cons r t => .cons r (each_vals t)
def rSrtL (K : PySem.W.Frag) : List V → Hp → VK → Prop := fun vs H Q => ∃ (a : Addr) (zs : List V) (nss : List (List Int)), vs = [V.ref a] ∧ SqL K H a zs ∧ DpAll K H zs (nss.map tupI) ∧ (∀ ns ∈ nss, ns ≠ []) ∧
  ∀ (cs : List (V × List Int)) (p : Addr), cs.Perm (zs.zip nss) → cs.map (·.2) = isortL nss → H p = none → Q (.ref p) (upd H p (.lst (cs.map (·.1))))
theorem cr_srtL (hc : X.calm = true) (hu : X.A.units + 128 < cLine) : CallR X (.builtin "sorted") (rSrtL X.K) := by
  intro pins s σ H vs us Q I r h
  obtain ⟨a, zs, nss, rfl, hs, hd, hne, q⟩ := h
  obtain ⟨its, rv, hl, hz⟩ := I.list hs
  rw [Vals.ref1 r]
  obtain ⟨as, hr⟩ := Dp.readsAll I _ _ its hd rv
  obtain ⟨e1, e2⟩ := zip_each rv (by simpa using hr)
  have hlen : zs.length = nss.length := by
    have h1 := rv.length
    have h2 := ra_length hr
    simp at h2
    omega
  have hb : (zs.zip nss).length = zs.length := by rw [List.length_zip, hlen, Nat.min_self]
  have hal : PySem.W.AllAlike ((zs.zip nss).map fun q => tupI q.2) := PySem.W.AllAlike.of fun b b' => by
    show PySem.W.alike (.tuple (b.2.map .int)) (.tuple (b'.2.map .int)) = true
    rw [PySem.W.alike]
    exact PySem.W.alike_ints _ _
  have hk : PySem.W.Sortable ((zs.zip nss).map fun q => tupI q.2) := .inl fun d hd => by
    obtain ⟨q, hq, rfl⟩ := List.mem_map.mp hd
    have := hne _ (List.of_mem_zip hq).2
    cases hq2 : q.2 with
    | nil => exact absurd hq2 this
    | cons n r => exact ⟨.int n, r.map .int, rfl⟩
  refine PySem.W.sorted_data (enc := fun q : V × List Int => tupI q.2) hl.isList e1 e2 hal hk (by rw [hb]; exact hz) (fun b _ => ?_) fun out hlo ho => ?_
  · have e : (tupI b.2).depth = 1 := by
      show PyData.depth (.tuple (b.2.map .int)) = 1
      rw [PyData.depth, PySem.W.depth_ints]
    rw [e]
    omega
  · rw [dataLe_tup (fun q : V × List Int => q.2)] at ho
    have hp : ((zs.zip nss).mergeSort fun p q => leL p.2 q.2).Perm (zs.zip nss) := List.mergeSort_perm _ _
    have hv := each_vals ho
    have es : ((zs.zip nss).mergeSort fun p q => leL p.2 q.2).map (·.2) = isortL nss := by
      refine isortL_one ((hp.map _).trans (by rw [List.map_snd_zip (by omega)])) ?_
      refine List.pairwise_map.mpr ?_
      exact List.pairwise_mergeSort (fun (a b c : V × List Int) h k => leL_trans (a := a.2) (b := b.2) (c := c.2) h k) (fun (a b : V × List Int) => by simpa using leL_total a.2 b.2) _
    obtain ⟨ep, he⟩ := PyProof.Rows.sortedAll_at s.heap its out.toArray
    have hln : (((zs.zip nss).mergeSort fun p q => leL p.2 q.2).map (·.1)).length ≤ sizeLine := by
      rw [List.length_map, hp.length_eq, hb]; exact hz
    exact ⟨.ref _, upd H (s.heap.objs.size + 1) (.lst _), I.laid (t' := s.toks) (fun _ _ => PyProof.Rows.sortedAll_old) (Nat.le_succ _) ⟨hln, out, ep, hv, he⟩, rfl, q _ _ hp es (I.hok.fresh (Nat.le_succ _))⟩

/-! ### by data -/
def tupsD : List D → Option (List (List Int))
  | [] => some []
  | .tuple xs :: r => (match intsD xs, tupsD r with
    | some (n :: ns), some q => some ((n :: ns) :: q)
    | _, _ => none)
  | _ :: _ => none
theorem tups_eq : ∀ {ds : List D} {nss : List (List Int)}, tupsD ds = some nss → ds = nss.map tupI ∧ ∀ ns ∈ nss, ns ≠ []
  | [], nss, h => by cases h; exact ⟨rfl, fun _ m => by cases m⟩
  | d :: r, nss, h => by
    cases d <;> first | (cases h; done) | skip
    rename_i xs
    unfold tupsD at h
    split at h
    · rename_i n ns q h1 h2
      cases h
      obtain ⟨e1, e2⟩ := tups_eq h2
      refine ⟨by rw [List.map_cons, ← e1, tupI, ← ints_eq h1], fun z m => ?_⟩
      rcases List.mem_cons.mp m with rfl | m
      · exact List.cons_ne_nil _ _
      · exact e2 z m
    · cases h
theorem noDict_ints : ∀ ns : List Int, PyData.hasDictAll (ns.map .int) = false
  | [] => rfl
  | n :: r => by
    show ((PyData.int n).hasDict || PyData.hasDictAll (r.map .int)) = false
    rw [noDict_ints r]
    rfl
theorem noDict_tups : ∀ nss : List (List Int), PyData.hasDictAll (nss.map tupI) = false
  | [] => rfl
  | n :: r => by
    show ((tupI n).hasDict || PyData.hasDictAll (r.map tupI)) = false
    rw [noDict_tups r, show (tupI n).hasDict = PyData.hasDictAll (n.map .int) from rfl, noDict_ints n]
    rfl
theorem rep_zip {K : PySem.W.Frag} {F : Addr → Prop} {H : Hp} : ∀ {zs : List V} {nss : List (List Int)}, RepAll K F H zs (nss.map tupI) → ∀ q ∈ zs.zip nss, Rep K F H q.1 (tupI q.2)
  | _, [], .nil, q, m => by cases m
  | _, n :: r, .cons h t, q, m => by
    rcases List.mem_cons.mp m with rfl | m
    · exact h
    · exact rep_zip t q m
theorem rep_pairs {K : PySem.W.Frag} {F : Addr → Prop} {H : Hp} : ∀ {cs : List (V × List Int)}, (∀ q ∈ cs, Rep K F H q.1 (tupI q.2)) → RepAll K F H (cs.map (·.1)) ((cs.map (·.2)).map tupI)
  | [], _ => .nil
  | c :: r, h => .cons (h c List.mem_cons_self) (rep_pairs fun q m => h q (List.mem_cons_of_mem _ m))
def bSrtL : D → Option D
  | .list xs => (tupsD xs).map fun nss => .list ((isortL nss).map tupI)
  | _ => none
theorem bi_srtL (hc : X.calm = true) (hu : X.A.units + 128 < cLine) : Bi X (.builtin "sorted") (on1 bSrtL) := by
  refine ⟨_, cr_srtL hc hu, fun b F H g vs ds z Q B rv e k => ?_⟩
  obtain ⟨d, hdd, e'⟩ := on1_inv e
  clear e
  subst hdd
  obtain ⟨v, rfl, r1⟩ := one_of rv
  cases d <;> first | (cases e'; done) | skip
  rename_i xs
  have e : ((tupsD xs).map fun nss => PyData.list ((isortL nss).map tupI)) = some z := e'
  obtain ⟨nss, h1, rfl⟩ := Option.map_eq_some_iff.mp e
  obtain ⟨rfl, hne⟩ := tups_eq h1
  obtain ⟨p, zs, rfl, h, q⟩ := r1.list
  refine ⟨p, zs, nss, rfl, h, q.dp (noDict_tups nss), hne, fun cs a hp hs ha => ?_⟩
  rw [← hs] at k
  exact finL B ha (rep_pairs fun q m => rep_zip ‹RepAll _ _ _ zs _› q (hp.mem_iff.mp m)) k
end
end PF

set_option Elab.async false
set_option linter.all false
set_option maxRecDepth 100000
set_option maxHeartbeats 2000000
/-! PF20: from a def's text to what it means: the rules, each proved; expressions. -/
namespace PF
open PySem PySem.Spec PyProof.Rows L2
variable [TabT]

/-! ### what is known of the place -/
inductive FE where
  | val (f : Addr) (j : Nat) (gq : Bool) (c : Callee)
  | new (f : Addr) (j : Nat) (gq : Bool) (den : List D → M (List D))
  | met (m : Met)
structure Sta where
  N : List Str
  sc : Scope
  k : Nat
  gd : Bool
  fnC : Str → Bool
  fns : Str → Option FE
  cns : Str → Option D
  nog : Str → Bool
  cls : Str → Option Nat
  ct : Nat → ClsInfo
  lam : Option (Addr × Addr)
  mu : Str → Bool
  isi : Str → Option (Nat × List Nat)
/-- a def that tries a lambda, wherever it is called -/
structure MetAt (Y : Cx) (ct : Nat → ClsInfo) (x : Str) (m : Met) where
  gf : Addr
  a : Str
  pg : Arguments
  bg : List Stmt
  sg : Scope
  dV : Value
  kV : Value
  doc : Value
  pm : Value
  cdv : Value
  ctv : Value
  oc : Value
  an : Option Addr
  od : Option Addr
  osl : Array (Option Value)
  Ng : List Str
  hm : Y.mg x = some (.ref gf)
  hk : PySem.W.keepIn Y.K (.ref gf) = true
  lk : Y.K.lookup gf = some ⟨oc, od, .func (PySem.W.fnOf x x pg bg sg dV kV doc pm an cdv ctv), osl⟩
  hcg : PySem.W.codeIn Y.K cdv x = true
  hb : L2.Binds Y.K (PySem.W.fnOf x x pg bg sg dV kV doc pm an cdv ctv) [a] []
  Sg : FnScope Ng [a] sg
  hNg : Ng[0]? = some a
  hva : Vis sg a
  hG : ∀ q, LamX.GivesTo Y Ng x sg gf cdv bg a q (TTm Y.K ct m)
  hdb : (x == ("__debug__" : Str)) = false
  hd : (a == ("__debug__" : Str)) = false
  hcd : (a == ("__classdict__" : Str)) = false
def FeOk (X : Cx) (ct : Nat → ClsInfo) (k : Nat) (x : Str) : FE → Prop
  | .val f j gq c => j ≤ k ∧ FnG X.prog X.w X.K X.mg X.base j gq f (spC X.K ct c) ∧ X.mg x = some (.ref f) ∧ PySem.W.keepIn X.K (.ref f) = true ∧ (x == ("__debug__" : Str)) = false
  | .new f j gq den => j ≤ k ∧ FnG X.prog X.w X.K X.mg X.base j gq f (spF X.K ct den) ∧ X.mg x = some (.ref f) ∧ PySem.W.keepIn X.K (.ref f) = true ∧ (x == ("__debug__" : Str)) = false
  | .met m => ∀ Y : Cx, Y.prog = X.prog → Y.w = X.w → Y.K = X.K → Y.mg = X.mg → Y.base = X.base → Y.A.guards = some [] → (∃ k, Room k Y.A) → Nonempty (MetAt Y ct x m)
/-- what is known of an exception class that the name x stands for -/
structure ClsAt (X : Cx) (ci : ClsInfo) (x : Str) : Prop where
  hm : X.mg x = some (.ref ci.addr)
  hdb : (x == ("__debug__" : Str)) = false
  kp : PySem.W.keepIn X.K (.ref ci.addr) = true
  sub : PySem.W.subIn X.K (.ref ci.addr) (.type "BaseException") = some true
  ty : PySem.W.typeIn X.K (.ref ci.addr) = some (.type "type")
  sup : ∀ f, ci.field = some f → Nonempty (SupC X.prog X.K ci.addr f)
  own : ci.field = none → ∃ (B newId initId : String) (bmB : List Value), ExcBaseFacts B newId initId bmB ∧ PySem.W.excIn X.K ci.addr bmB newId = true
/-- which exceptions are of the class x: of the first n those in l -/
structure IsiAt (K : PySem.W.Frag) (mg : Str → Option Value) (ct : Nat → ClsInfo) (x : Str) (n : Nat) (l : List Nat) : Prop where
  cv : ∃ (v : V) (cv : Value), ((∃ a, mg x = some (.ref a) ∧ v = .ref a ∧ cv = .ref a) ∨ (mg x = none ∧ x ≠ "__name__" ∧ ∃ T, bootBuiltins x = some (.type T) ∧ v = .ty T ∧ cv = .type T)) ∧
    ∀ c, c < n → PySem.W.kitOne K (.ref (ct c).addr) cv = some (l.contains c)
  hdb : (x == ("__debug__" : Str)) = false
  exc : ∀ c, c < n → XcOk K (ct c).addr
structure StaOk (X : Cx) (S : Sta) : Prop where
  tcl : ∀ c, TabT.cl c = S.ct c
  xf : ∀ c f, (S.ct c).field = some f → XfC X.K (S.ct c).addr ∧ PySem.W.findIn X.K (.ref (S.ct c).addr) f = some none
  isi : ∀ x n l, S.isi x = some (n, l) → IsiAt X.K X.mg S.ct x n l
  cls : ∀ x c, S.cls x = some c → ClsAt X (S.ct c) x
  N : X.N = S.N
  nd : S.N.Nodup
  sc : X.env.scope = S.sc
  calm : X.calm = true
  room : Room S.k X.A
  gd : S.gd = true → X.A.guards = some []
  fn : ∀ x, S.fnC x = true → X.fn x = true
  fns : ∀ x fe, S.fns x = some fe → FeOk X S.ct S.k x fe
  cns : ∀ x z, S.cns x = some z → ∃ v u, X.mg x = some u ∧ RelV v u ∧ ∀ F H, Rep X.K F H v z
  nog : ∀ x, S.nog x = true → X.mg x = none
  lam : ∀ c P, S.lam = some (c, P) → LamX.TabB X.base X.mg c P ∧ X.env.code = .ref c ∧ (P, X.env.qual ++ ("<lambda>" : Str)) ∈ TabT.T ∧ ∀ p ∈ TabT.T, p.1 = P → p.2 = X.env.qual ++ "<lambda>"
theorem StaOk.un {X : Cx} {S : Sta} (h : StaOk X S) : X.A.units + 128 < cLine := by have := h.room.un; omega
theorem StaOk.un2 {X : Cx} {S : Sta} (h : StaOk X S) : X.A.units + 64 < cLine := by have := h.room.un; omega
theorem StaOk.un3 {X : Cx} {S : Sta} (h : StaOk X S) : X.A.units + 65 < cLine := by have := h.room.un; omega

/-! ### names -/
def idxIn : List Str → Str → Option Nat
  | [], _ => none
  | y :: r, x => if y == x then some 0 else (idxIn r x).map (· + 1)
theorem idxIn_ok : ∀ {N : List Str} {x : Str} {i : Nat}, idxIn N x = some i → N[i]? = some x
  | [], _, _, h => by cases h
  | y :: r, x, i, h => by
    unfold idxIn at h
    split at h
    · rename_i e
      cases h
      rw [eq_of_beq e]; rfl
    · obtain ⟨j, h1, rfl⟩ := Option.map_eq_some_iff.mp h
      simpa using idxIn_ok h1
def visB (sc : Scope) (x : Str) : Bool := match sc.names.lookup x with
  | some .local => true
  | some .cell => true
  | some .free => true
  | _ => false
theorem vis_ok {sc : Scope} {x : Str} (h : visB sc x = true) : Vis sc x := by
  unfold visB at h
  split at h <;> first | (rename_i e; exact .inl e) | (rename_i e; exact .inr (.inl e)) | (rename_i e; exact .inr (.inr e)) | (cases h; done)
def plainNm (x : Str) : Bool := !(x == ("__debug__" : Str)) && !(x == ("__classdict__" : Str))
def slotOf (S : Sta) (x : Str) : Option Nat := if visB S.sc x && plainNm x then idxIn S.N x else none
def glB (S : Sta) (x : Str) : Bool := (match S.sc.names.lookup x with | some .globalImplicit => true | _ => false) && !(x == ("__debug__" : Str))
def stB (S : Sta) (x : Str) : Bool := match S.sc.names.lookup x with | some .local => true | some .cell => S.fnC x | _ => false
def stOf (S : Sta) (x : Str) : Option Nat := if stB S x then idxIn S.N x else none
section
variable {X : Cx} {S : Sta} {x : Str} {i : Nat}
theorem slot_ok (h : StaOk X S) (e : slotOf S x = some i) : NmOk X i x := by
  unfold slotOf at e
  split at e
  · rename_i hh
    obtain ⟨h1, h2⟩ := Bool.and_eq_true_iff.mp hh
    unfold plainNm at h2
    obtain ⟨h3, h4⟩ := Bool.and_eq_true_iff.mp h2
    exact ⟨by rw [h.N]; exact idxIn_ok e, by rw [h.sc]; exact vis_ok h1, by simpa using h3, by simpa using h4⟩
  · cases e
theorem gl_ok (h : StaOk X S) (e : glB S x = true) : Gl X x ∧ (x == ("__debug__" : Str)) = false := by
  unfold glB at e
  obtain ⟨h1, h2⟩ := Bool.and_eq_true_iff.mp e
  refine ⟨?_, by simpa using h2⟩
  split at h1
  · rename_i q
    show X.env.scope.names.lookup x = _
    rw [h.sc]; exact q
  · cases h1
theorem st_ok (h : StaOk X S) (e : stOf S x = some i) : X.N[i]? = some x ∧ Loc X.env.scope x ∧ (X.fn x = true ∨ X.env.scope.names.lookup x = some .local) := by
  unfold stOf at e
  split at e
  · rename_i hh
    refine ⟨by rw [h.N]; exact idxIn_ok e, ?_⟩
    rw [h.sc]
    unfold stB at hh
    split at hh
    · rename_i q; exact ⟨.inl q, .inr q⟩
    · rename_i q; exact ⟨.inr q, .inl (h.fn x hh)⟩
    · cases hh
  · cases e
end

/-! ### the translators below, the rules -/
structure Rec where
  e : Sta → Expr → (Env → M D)
  o : Sta → Expr → (Env → M D)
  t : Sta → Expr → (Env → M Bool)
  a : Sta → List Expr → (Env → M (List D))
  os : Sta → List Expr → (Env → M (List D))
  l : Sta → Expr → Option (Env → M (List D))
  k : Sta → Expr → Option (Env → M (List (D × D)))
  i : Sta → Expr → Expr → (Env → M (List D))
structure Sound (r : Rec) : Prop where
  e : ∀ {X S}, StaOk X S → ∀ e, SE X S.ct (r.e S e) e
  o : ∀ {X S}, StaOk X S → ∀ e, SO X S.ct (r.o S e) e
  t : ∀ {X S}, StaOk X S → ∀ e, ST X S.ct (r.t S e) e
  a : ∀ {X S}, StaOk X S → ∀ es, SA X S.ct (r.a S es) es
  os : ∀ {X S}, StaOk X S → ∀ es, SOs X S.ct (r.os S es) es
  l : ∀ {X S}, StaOk X S → ∀ e d, r.l S e = some d → SF X S.ct d e
  k : ∀ {X S}, StaOk X S → ∀ e d, r.k S e = some d → SFd X S.ct d e
  i : ∀ {X S}, StaOk X S → ∀ tg e, SI X S.ct tg (r.i S tg e) e
abbrev RuleE := Rec → Sta → Expr → Option (Env → M D)
def RuleE.Ok (ρ : RuleE) : Prop := ∀ r, Sound r → ∀ {X : Cx} {S : Sta}, StaOk X S → ∀ e d, ρ r S e = some d → SE X S.ct d e

def rName : RuleE := fun _ S e => match e with
  | .Name x _ => (match slotOf S x with
    | some i => some (dVar i)
    | none => if glB S x then (S.cns x).map dC else none)
  | _ => none
theorem rName_ok : rName.Ok := fun r _ X S h e d q => by
  unfold rName at q
  split at q
  · rename_i x p
    split at q
    · rename_i i hi
      cases q
      have n := slot_ok h hi
      exact se_var n.hN n.hv n.hd n.hcd
    · split at q
      · rename_i hg
        obtain ⟨z, hz, rfl⟩ := Option.map_eq_some_iff.mp q
        obtain ⟨v, u, h1, h2, h3⟩ := h.cns x z hz
        obtain ⟨g1, g2⟩ := gl_ok h hg
        exact se_glob g1 h1 h2 h3 g2
      · cases q
  · cases q
def rConst : RuleE := fun _ _ e => match e with
  | .Constant (.int i) _ _ => some (dC (.int i))
  | .Constant (.bool i) _ _ => some (dC (.bool i))
  | .Constant (.str i) _ _ => some (dC (.str i))
  | .Constant .none _ _ => some (dC .none)
  | _ => none
theorem rConst_ok : rConst.Ok := fun r _ X S h e d q => by
  unfold rConst at q
  split at q <;> first | (cases q; first | exact se_int | exact se_bl | exact se_str | exact se_non) | (cases q; done)
def opD : Operator → Option (D → D → Option D)
  | .Add => some dAdd
  | .Sub => some dSub
  | .Mult => some dMul
  | .FloorDiv => some dFdiv
  | .Mod => some dMod
  | .Pow => some dPow
  | _ => none
theorem opD_ok {X : Cx} {op : Operator} {f : D → D → Option D} (h : opD op = some f) : Op2 X (binaryOp op) f := by
  cases op <;> first | (cases h; first | exact op2_add | exact op2_sub | exact op2_mul | exact op2_fdiv | exact op2_mod | exact op2_pow) | (cases h; done)
def rOps : RuleE := fun r S e => match e with
  | .BinOp a op b _ => (opD op).map fun f => lift2 f (r.o S a) (r.o S b)
  | .UnaryOp .USub a _ => some (lift1 dNeg (r.o S a))
  | .UnaryOp .Not a _ => some (dNotV (r.e S a))
  | .IfExp t a b _ => some (dIf (r.t S t) (r.e S a) (r.e S b))
  | _ => none
theorem rOps_ok : rOps.Ok := fun r R X S h e d q => by
  unfold rOps at q
  split at q
  · obtain ⟨f, hf, rfl⟩ := Option.map_eq_some_iff.mp q
    exact se_bin (opD_ok hf) (R.o h _) (R.o h _)
  · cases q; exact se_neg (R.o h _)
  · cases q; exact se_not (R.e h _)
  · cases q; exact se_if (R.t h _) (R.e h _) (R.e h _)
  · cases q
def cmpD : CmpOp → Option (D → D → Option D)
  | .Lt => some dLt
  | .LtE => some dLe
  | .Gt => some dGt
  | .GtE => some dGe
  | .Eq => some dEq
  | .NotEq => some dNe
  | .Is => some dIs
  | .IsNot => some dIsNot
  | .In => some dInA
  | .NotIn => some dNotInA
theorem cmpD_ok {X : Cx} {op : CmpOp} {f : D → D → Option D} (hu : X.A.units + 65 < cLine) (h : cmpD op = some f) : Op2 X (compareOp op) f := by
  cases op <;> first | (cases h; first | exact op2_lt (by omega) | exact op2_le | exact op2_gt | exact op2_ge | exact op2_eq (by omega) | exact op2_ne (by omega) | exact op2_is | exact op2_isnot | exact op2_inA hu | exact op2_notinA hu) | (cases h; done)
def rCmp : RuleE := fun r S e => match e with
  | .Compare a [op] [c] _ => if behindInMarks op c then none else (cmpD op).map fun f => lift2 f (r.o S a) (r.o S c)
  | .Compare a [op, op'] [c, c'] _ => if lastMarks [op, op'] [c, c'] then none else (match cmpD op, cmpD op' with
    | some f, some f' => some (dChain f f' (r.o S a) (r.o S c) (r.o S c'))
    | _, _ => none)
  | _ => none
theorem rCmp_ok : rCmp.Ok := fun r R X S h e d q => by
  unfold rCmp at q
  split at q
  · split at q
    · cases q
    · rename_i hm
      obtain ⟨f, hf, rfl⟩ := Option.map_eq_some_iff.mp q
      exact se_cmp (cmpD_ok h.un3 hf) (by simpa using hm) (R.o h _) (R.o h _)
  · split at q
    · cases q
    · rename_i hm
      split at q
      · rename_i f f' hf hf'
        cases q
        exact se_chain (cmpD_ok h.un3 hf) (cmpD_ok h.un3 hf') (by simpa using hm) (R.o h _) (R.o h _) (R.o h _)
      · cases q
  · cases q
/-- a and b and .. -/
def boolVs (r : Rec) (S : Sta) (op : BoolOp) : List Expr → Env → M D
  | [] => dFail
  | [a] => r.e S a
  | a :: c :: rest => match op with
    | .And => dAndV (r.e S a) (boolVs r S op (c :: rest))
    | .Or => dOrV (r.e S a) (boolVs r S op (c :: rest))
theorem boolVs_ok {r : Rec} (R : Sound r) {X : Cx} {S : Sta} (h : StaOk X S) {op : BoolOp} {pos : Pos} : ∀ es : List Expr, SE X S.ct (boolVs r S op es) (.BoolOp op es pos)
  | [] => se_fail
  | [a] => se_one (R.e h a)
  | a :: c :: rest => by
    cases op with
    | And => exact se_and (R.e h a) (boolVs_ok R h (c :: rest))
    | Or => exact se_or (R.e h a) (boolVs_ok R h (c :: rest))
def rBool : RuleE := fun r S e => match e with
  | .BoolOp op es _ => some (boolVs r S op es)
  | _ => none
theorem rBool_ok : rBool.Ok := fun r R X S h e d q => by
  unfold rBool at q
  split at q
  · cases q; exact boolVs_ok R h _
  · cases q
def rSeq : RuleE := fun r S e => match e with
  | .Tuple es _ _ => some (dTup (r.a S es))
  | .List es _ => some (dLst (r.a S es))
  | _ => none
theorem rSeq_ok : rSeq.Ok := fun r R X S h e d q => by
  unfold rSeq at q
  split at q
  · cases q; exact se_tup (R.a h _)
  · cases q; exact se_lst (R.a h _)
  · cases q
def rFresh : RuleE := fun r S e => match r.l S e with
  | some d => some (frL d)
  | none => (r.k S e).map frD
theorem rFresh_ok : rFresh.Ok := fun r R X S h e d q => by
  unfold rFresh at q
  split at q
  · rename_i d' hd
    cases q; exact (R.l h e d' hd).se
  · obtain ⟨d', hd, rfl⟩ := Option.map_eq_some_iff.mp q
    exact (R.k h e d' hd).se
/-- y[c], y a list, a tuple, the bag -/
def dIxN (i : Nat) (dc : Env → M D) : Env → M D := fun ρ g => match ρ[i]? with
  | some (some .bag) => dBag i dc ρ g
  | _ => lift2 dIx (dVarO i) dc ρ g
theorem se_ixN {X : Cx} {ct : Nat → ClsInfo} {i : Nat} {y : Str} {c : Expr} {dc : Env → M D} {p pos : Pos} (n : NmOk X i y) (hs : noSlice c = true) (hc : SE X ct dc c) : SE X ct (dIxN i dc) (.Subscript (.Name y p) c pos) := fun W tk => by
  have h1 := (se_ix (pos := pos) hs (so_var n.hN n.hv n.hd n.hcd) hc.so : SE X ct _ (.Subscript (.Name y p) c pos)) W tk
  have h2 := (se_bag n hs hc (pos := pos) : SE X ct _ (.Subscript (.Name y p) c pos)) W tk
  refine ⟨fun pins s σ H Q I ⟨b, F, ow, ρ, g, S, o⟩ => ?_⟩
  unfold dIxN at o
  split at o
  · exact h2.run pins s σ H Q I ⟨b, F, ow, ρ, g, S, o⟩
  · exact h1.run pins s σ H Q I ⟨b, F, ow, ρ, g, S, o⟩
def spOf (r : Rec) (S : Sta) : Option Expr → Env → M (Option Int)
  | none => poNone
  | some e => poSome (r.o S e)
theorem spOf_ok {r : Rec} (R : Sound r) {X : Cx} {S : Sta} (h : StaOk X S) : ∀ e : Option Expr, SPo X S.ct (spOf r S e) e
  | none => sp_none
  | some e => sp_some (R.o h e)
def rIx : RuleE := fun r S e => match e with
  | .Subscript a (.Slice lo hi none _) _ => some (dSlice (r.o S a) (spOf r S lo) (spOf r S hi))
  | .Subscript a c _ => if noSlice c then (match a with
    | .Name y _ => (match slotOf S y with
      | some i => some (dIxN i (r.e S c))
      | none => some (lift2 dIx (r.o S a) (r.o S c)))
    | _ => some (lift2 dIx (r.o S a) (r.o S c))) else none
  | _ => none
theorem rIx_ok : rIx.Ok := fun r R X S h e d q => by
  unfold rIx at q
  split at q
  · cases q; exact se_slice (R.o h _) (spOf_ok R h _) (spOf_ok R h _)
  · split at q
    · rename_i hs
      split at q
      · split at q
        · rename_i i hi
          cases q
          exact se_ixN (slot_ok h hi) hs (R.e h _)
        · cases q; exact se_ix hs (R.o h _) (R.o h _)
      · cases q; exact se_ix hs (R.o h _) (R.o h _)
    · cases q
  · cases q

/-! ### calls -/
theorem gd_ok {X : Cx} {S : Sta} (h : StaOk X S) {gq : Bool} (e : gq = true → S.gd = true) : GdOk gq X.A := fun z => h.gd (e z)
def rCallFn : RuleE := fun r S e => match e with
  | .Call (.Name x _) es [] _ => if glB S x then (match S.fns x with
    | some (.val _ _ gq c) => if gq && !S.gd then none else if c.bag then (match es with
        | .Name y _ :: rest => (slotOf S y).map fun i => callB c i (r.a S rest)
        | _ => none)
      else (match es with
        | [.Starred e _] => some (callD c (aStar (r.e S e) aNil))
        | e :: es => if isStarB e then none else some (callD c (r.a S (e :: es)))
        | [] => none)
    | some (.new _ _ gq den) => if gq && !S.gd then none else (match es with
        | e :: es => if isStarB e then none else some (frL (callF den (r.a S (e :: es))))
        | [] => none)
    | _ => none) else none
  | _ => none
theorem rCallFn_ok : rCallFn.Ok := fun r R X S h e d q => by
  unfold rCallFn at q
  split at q
  · split at q
    · rename_i hg
      obtain ⟨g1, g2⟩ := gl_ok h hg
      split at q
      · rename_i f j gq c hf
        obtain ⟨hj, F, hm, hk, hdb⟩ := h.fns _ _ hf
        have hr := h.room.mono hj
        split at q
        · cases q
        rename_i hgq
        have hgq := gd_ok h (by simpa using hgq)
        split at q
        · rename_i hb
          split at q
          · obtain ⟨i, hi, rfl⟩ := Option.map_eq_some_iff.mp q
            have n := slot_ok h hi
            exact se_callB hb F hr hgq g1 hm hk n.hN n.hv n.hd n.hcd (R.a h _) hdb
          · cases q
        · rename_i hb
          have hb : c.bag = false := by simpa using hb
          split at q
          · cases q; exact se_callS hb F hr hgq g1 hm hk (R.e h _) hdb
          · split at q
            · cases q
            · rename_i hs
              cases q
              exact se_call hb F hr hgq g1 hm hk (R.a h _) (by simpa using hs) hdb
          · cases q
      · rename_i f j gq den hf
        obtain ⟨hj, F, hm, hk, hdb⟩ := h.fns _ _ hf
        have hr := h.room.mono hj
        split at q
        · cases q
        rename_i hgq
        have hgq := gd_ok h (by simpa using hgq)
        split at q
        · split at q
          · cases q
          · rename_i hs
            cases q
            exact (sf_call F hr hgq g1 hm hk (R.a h _) (by simpa using hs) hdb).se
        · cases q
      · cases q
    · cases q
  · cases q
/-- built-ins by name -/
inductive BiN where
  | abs | len | all | any | sum | sorted | repr | max | min
def BiN.nm : BiN → Str
  | .abs => "abs" | .len => "len" | .all => "all" | .any => "any" | .sum => "sum" | .sorted => "sorted" | .repr => "repr" | .max => "max" | .min => "min"
def bMax (ds : List D) : Option D := match bMax2 ds with | some z => some z | none => (match on1 bMaxL ds with | some z => some z | none => (match on1 bMaxA ds with | some z => some z | none => on1 bMaxT ds))
def bMin (ds : List D) : Option D := match bMin2 ds with | some z => some z | none => (match on1 bMinL ds with | some z => some z | none => (match on1 bMinA ds with | some z => some z | none => on1 bMinT ds))
def bSort (ds : List D) : Option D := match on1 bSorted ds with | some z => some z | none => (match on1 bSrtT ds with | some z => some z | none => on1 bSrtL ds)
def bSumB (ds : List D) : Option D := match on1 bSum ds with | some z => some z | none => on1 bSumT ds
def BiN.op : BiN → List D → Option D
  | .abs => bAbs
  | .len => on1 bLen
  | .all => on1 bAll
  | .any => on1 bAny
  | .sum => bSumB
  | .sorted => bSort
  | .repr => on1 bRepr
  | .max => bMax
  | .min => bMin
def BiN.may (gd : Bool) : BiN → Bool
  | .repr => gd
  | _ => true
def biFind (gd : Bool) (x : Str) : List BiN → Option BiN
  | [] => none
  | b :: r => if x == b.nm && b.may gd then some b else biFind gd x r
def biAll : List BiN := [.abs, .len, .all, .any, .sum, .sorted, .repr, .max, .min]
def biTab (gd : Bool) (x : Str) : Option (List D → Option D) := (biFind gd x biAll).map BiN.op
theorem biFind_ok {gd : Bool} {x : Str} {b : BiN} : ∀ {l : List BiN}, biFind gd x l = some b → x = b.nm ∧ (b = .repr → gd = true)
  | [], e => by cases e
  | c :: r, e => by
    unfold biFind at e
    split at e
    · rename_i hh
      cases e
      obtain ⟨h1, h2⟩ := Bool.and_eq_true_iff.mp hh
      exact ⟨eq_of_beq h1, fun z => by subst z; exact h2⟩
    · exact biFind_ok e
def BiN.id : BiN → String
  | .abs => "abs" | .len => "len" | .all => "all" | .any => "any" | .sum => "sum" | .sorted => "sorted" | .repr => "repr" | .max => "max" | .min => "min"
theorem BiN.boot (b : BiN) : bootBuiltins b.nm = some (.builtin b.id) ∧ b.nm ≠ ("__name__" : Str) := by
  cases b <;> exact ⟨by first | rfl | kernel_rfl, by decide⟩
theorem BiN.ok {X : Cx} {S : Sta} (h : StaOk X S) : ∀ (b : BiN), (b = .repr → S.gd = true) → Bi X (.builtin b.id) b.op
  | .abs, _ => bi_abs
  | .len, _ => bi_len
  | .all, _ => bi_all h.calm
  | .any, _ => bi_any h.calm
  | .sum, _ => (bi_sum h.calm).or (bi_sumT h.calm)
  | .sorted, _ => (bi_sorted h.calm).or (bi_srtT.or (bi_srtL h.calm h.un))
  | .repr, g => bi_repr (h.gd (g rfl)) h.un
  | .max, _ => (bi_max2 h.calm).or ((bi_maxL h.calm).or ((bi_maxA h.calm h.un).or (bi_maxT h.calm h.un)))
  | .min, _ => (bi_min2 h.calm).or ((bi_minL h.calm).or ((bi_minA h.calm h.un).or (bi_minT h.calm h.un)))
theorem biTab_ok {X : Cx} {S : Sta} (h : StaOk X S) {x : Str} {op : List D → Option D} (e : biTab S.gd x = some op) : ∃ id, bootBuiltins x = some (.builtin id) ∧ Bi X (.builtin id) op ∧ x ≠ ("__name__" : Str) := by
  obtain ⟨b, hb, rfl⟩ := Option.map_eq_some_iff.mp e
  obtain ⟨rfl, h2⟩ := biFind_ok hb
  exact ⟨b.id, b.boot.1, b.ok h h2, b.boot.2⟩
def tyTab (x : Str) : Option (List D → Option D) :=
  if x == ("int" : Str) then some bInt
  else if x == ("tuple" : Str) then some (on1 bTuple)
  else if x == ("list" : Str) then some (on1 bList)
  else none
theorem boot_ints : bootBuiltins "int" = some (.type "int") ∧ bootBuiltins "tuple" = some (.type "tuple") ∧ bootBuiltins "list" = some (.type "list") := ⟨by first | rfl | kernel_rfl, by first | rfl | kernel_rfl, by first | rfl | kernel_rfl⟩
theorem tyTab_ok {X : Cx} {S : Sta} (h : StaOk X S) {x : Str} {op : List D → Option D} (e : tyTab x = some op) : ∃ id, bootBuiltins x = some (.type id) ∧ Bi X (.type id) op ∧ x ≠ ("__name__" : Str) := by
  unfold tyTab at e
  split at e
  · rename_i hx
    cases e
    rw [eq_of_beq hx]
    exact ⟨_, boot_ints.1, bi_int, by decide⟩
  · split at e
    · rename_i hx
      cases e
      rw [eq_of_beq hx]
      exact ⟨_, boot_ints.2.1, bi_tuple h.calm, by decide⟩
    · split at e
      · rename_i hx
        cases e
        rw [eq_of_beq hx]
        exact ⟨_, boot_ints.2.2, bi_list, by decide⟩
      · cases e
def rBi : RuleE := fun r S e => match e with
  | .Call (.Name x _) (e :: es) [] _ => if glB S x && S.nog x && !isStarB e && !anyStar es then (match biTab S.gd x with
    | some op => some (callO op (r.os S (e :: es)))
    | none => (tyTab x).map fun op => callO op (r.os S (e :: es))) else none
  | _ => none
theorem rBi_ok : rBi.Ok := fun r R X S h e d q => by
  unfold rBi at q
  split at q
  · split at q
    · rename_i hh
      simp only [Bool.and_eq_true, Bool.not_eq_true'] at hh
      obtain ⟨⟨⟨hg, hn⟩, hs⟩, hst⟩ := hh
      obtain ⟨g1, g2⟩ := gl_ok h hg
      have hm := h.nog _ hn
      split at q
      · rename_i op hop
        cases q
        obtain ⟨id, h1, h2, h3⟩ := biTab_ok h hop
        exact se_bi h2 g1 hm h1 (R.os h _) hs hst h3 g2
      · obtain ⟨op, hop, rfl⟩ := Option.map_eq_some_iff.mp q
        obtain ⟨id, h1, h2, h3⟩ := tyTab_ok h hop
        exact se_biT h2 g1 hm h1 (R.os h _) hs hst h3 g2
    · cases q
  · cases q
def tyNm (x : Str) : Option TyN :=
  if x == ("int" : Str) then some .int
  else if x == ("bool" : Str) then some .bool
  else if x == ("tuple" : Str) then some .tuple
  else if x == ("str" : Str) then some .str
  else if x == ("list" : Str) then some .list
  else if x == ("dict" : Str) then some .dict
  else none
def TyN.nm : TyN → Str
  | .int => "int" | .bool => "bool" | .tuple => "tuple" | .str => "str" | .list => "list" | .dict => "dict"
theorem TyN.boot (T : TyN) : bootBuiltins T.nm = some (.type T.name) ∧ T.nm ≠ ("__name__" : Str) := by
  cases T <;> exact ⟨by first | rfl | kernel_rfl, by decide⟩
theorem tyNm_eq {x : Str} {T : TyN} (e : tyNm x = some T) : x = T.nm := by
  unfold tyNm at e
  repeat (first
    | (split at e
       · rename_i hx
         cases e
         exact eq_of_beq hx)
    | (cases e; done))
theorem tyNm_ok {x : Str} {T : TyN} (e : tyNm x = some T) : bootBuiltins x = some (.type T.name) ∧ x ≠ ("__name__" : Str) := by
  rw [tyNm_eq e]
  exact T.boot
theorem boot_isi : bootBuiltins "isinstance" = some (.builtin "isinstance") := by first | rfl | kernel_rfl
def rIsi : RuleE := fun r S e => match e with
  | .Call (.Name x _) [e, .Name y _] [] _ => if x == ("isinstance" : Str) && glB S x && S.nog x && glB S y && S.nog y && !isStarB e then (tyNm y).map fun T => dIsi T (r.o S e) else none
  | _ => none
theorem rIsi_ok : rIsi.Ok := fun r R X S h e d q => by
  unfold rIsi at q
  split at q
  · split at q
    · rename_i hh
      simp only [Bool.and_eq_true, Bool.not_eq_true'] at hh
      obtain ⟨⟨⟨⟨⟨hx, hg⟩, hn⟩, hg2⟩, hn2⟩, hs⟩ := hh
      obtain ⟨T, hT, rfl⟩ := Option.map_eq_some_iff.mp q
      have hx := eq_of_beq hx
      subst hx
      obtain ⟨g1, g2⟩ := gl_ok h hg
      obtain ⟨g3, g4⟩ := gl_ok h hg2
      obtain ⟨t1, t2⟩ := tyNm_ok hT
      exact se_isi g1 (h.nog _ hn) boot_isi g3 (h.nog _ hn2) t1 (R.o h _) hs (by decide) g2 t2 g4
    · cases q
  · cases q
end PF

set_option Elab.async false
set_option linter.all false
set_option maxRecDepth 100000
set_option maxHeartbeats 2000000
/-! PF21: the translator: targets, what is walked, comprehensions, tests, lists of expressions; all of it for expressions. -/
namespace PF
open PySem PySem.Spec PyProof.Rows L2
variable [TabT]

/-! ### targets -/
def tgNames (S : Sta) : List Expr → Option (List Nat)
  | [] => some []
  | .Name x _ :: r => (match stOf S x with
    | some i => (tgNames S r).map (i :: ·)
    | none => none)
  | _ :: _ => none
def tgOf1 (S : Sta) : Expr → Option Tgt
  | .Name x _ => (stOf S x).map .name
  | .Tuple es _ _ => (tgNames S es).map .tup
  | _ => none
def tgOf (S : Sta) (e : Expr) : Option Tgt := match tgOf1 S e with
  | some t => some t
  | none => (match e with
    | .Tuple [x, y] _ _ => if isStarB x || isStarB y then none else (match tgOf1 S x, tgOf1 S y with
      | some a, some b => some (.two a b)
      | _, _ => none)
    | _ => none)
theorem tgNames_ok {X : Cx} {S : Sta} (h : StaOk X S) : ∀ (es : List Expr) (is : List Nat), tgNames S es = some is → NamesAre X es is
  | [], is, e => by cases e; exact True.intro
  | .Name x p :: r, is, e => by
    simp only [tgNames] at e
    split at e
    · rename_i i hi
      obtain ⟨js, h1, rfl⟩ := Option.map_eq_some_iff.mp e
      obtain ⟨a, b, c⟩ := st_ok h hi
      exact ⟨⟨x, p, rfl, a, b, c⟩, tgNames_ok h r js h1⟩
    · cases e
  | .Constant .. :: _, _, e => by cases e
  | .Tuple .. :: _, _, e => by cases e
  | .List .. :: _, _, e => by cases e
  | .Starred .. :: _, _, e => by cases e
  | .Subscript .. :: _, _, e => by cases e
  | .Attribute .. :: _, _, e => by cases e
  | .Call .. :: _, _, e => by cases e
  | .BinOp .. :: _, _, e => by cases e
  | .BoolOp .. :: _, _, e => by cases e
  | .UnaryOp .. :: _, _, e => by cases e
  | .Compare .. :: _, _, e => by cases e
  | .IfExp .. :: _, _, e => by cases e
  | .Lambda .. :: _, _, e => by cases e
  | .Dict .. :: _, _, e => by cases e
  | .Set .. :: _, _, e => by cases e
  | .ListComp .. :: _, _, e => by cases e
  | .SetComp .. :: _, _, e => by cases e
  | .DictComp .. :: _, _, e => by cases e
  | .GeneratorExp .. :: _, _, e => by cases e
  | .Await .. :: _, _, e => by cases e
  | .Yield .. :: _, _, e => by cases e
  | .YieldFrom .. :: _, _, e => by cases e
  | .NamedExpr .. :: _, _, e => by cases e
  | .FormattedValue .. :: _, _, e => by cases e
  | .JoinedStr .. :: _, _, e => by cases e
  | .Slice .. :: _, _, e => by cases e
theorem tgOf1_ok {X : Cx} {S : Sta} (h : StaOk X S) {e : Expr} {tg : Tgt} (q : tgOf1 S e = some tg) : SG X tg e := by
  unfold tgOf1 at q
  split at q
  · obtain ⟨i, hi, rfl⟩ := Option.map_eq_some_iff.mp q
    obtain ⟨a, b, c⟩ := st_ok h hi
    exact sg_name (by rw [h.N]; exact h.nd) a b c
  · obtain ⟨is, hi, rfl⟩ := Option.map_eq_some_iff.mp q
    exact sg_tup h.calm (by rw [h.N]; exact h.nd) (tgNames_ok h _ _ hi)
  · cases q

theorem tgOf_ok {X : Cx} {S : Sta} (h : StaOk X S) {e : Expr} {tg : Tgt} (q : tgOf S e = some tg) : SG X tg e := by
  unfold tgOf at q
  split at q
  · rename_i h1
    cases q
    exact tgOf1_ok h h1
  · split at q
    · split at q
      · cases q
      · rename_i hs
        simp only [Bool.or_eq_true, not_or, Bool.not_eq_true] at hs
        split at q
        · rename_i a b h1 h2
          cases q
          exact sg_two h.calm (tgOf1_ok h h1) (tgOf1_ok h h2) hs.1 hs.2
        · cases q
    · cases q

/-! ### blocks -/
def ownOf (N : List Str) : List (Str × NameKind) → List (Str × Nat)
  | [] => []
  | (x, k) :: r => (match k with
    | .local => (match idxIn N x with | some i => (x, i) :: ownOf N r | none => ownOf N r)
    | .cell => (match idxIn N x with | some i => (x, i) :: ownOf N r | none => ownOf N r)
    | _ => ownOf N r)
def blkSta (S : Sta) (scope : Scope) : Sta := { S with sc := relS scope S.sc, fnC := (fun x => scope.names.lookup x == some .cell), lam := none }
theorem blk_ok {X : Cx} {S : Sta} (h : StaOk X S) (scope : Scope) (s : Shared) (H : Hp) (C : Addr) (cl : List (Str × Addr)) (fp : List Addr) : StaOk (blkCx X scope s H C cl fp) (blkSta S scope) where
  tcl := h.tcl
  xf := h.xf
  isi := h.isi
  N := h.N
  nd := h.nd
  sc := by
    show relS scope X.env.scope = relS scope S.sc
    rw [h.sc]
  calm := h.calm
  room := h.room
  gd := h.gd
  fn := fun x e => e
  fns := h.fns
  cns := h.cns
  nog := h.nog
  cls := fun x c e => let z := h.cls x c e; ⟨z.hm, z.hdb, z.kp, z.sub, z.ty, z.sup, z.own⟩
  lam := fun _ _ e => by cases e

/-! ### what is walked -/
abbrev RuleI := Rec → Sta → Expr → Expr → Option (Env → M (List D))
def RuleI.Ok (ρ : RuleI) : Prop := ∀ r, Sound r → ∀ {X : Cx} {S : Sta}, StaOk X S → ∀ tg e d, ρ r S tg e = some d → SI X S.ct tg d e
def isTupB : Expr → Bool
  | .Tuple _ _ _ => true
  | _ => false
def rIter : RuleI := fun r S tg e => match e with
  | .Call (.Name x _) [a] [] _ =>
    if x == ("range" : Str) && glB S x && S.nog x && !isStarB a then some (iRng1D (r.o S a))
    else if x == ("enumerate" : Str) && glB S x && S.nog x && !isStarB a && isTupB tg then some (iEnB (r.e S a))
    else none
  | .Call (.Name x _) [a, b] [] _ =>
    if x == ("range" : Str) && glB S x && S.nog x && !isStarB a && !isStarB b then some (iRng2D (r.o S a) (r.o S b))
    else if x == ("zip" : Str) && glB S x && S.nog x && !isStarB a && !isStarB b && isTupB tg then some (iZip (r.e S a) (r.e S b))
    else none
  | .Call (.Name x _) [a, b, c] [] _ =>
    if x == ("range" : Str) && glB S x && S.nog x && !isStarB a && !isStarB b && !isStarB c then some (iRng3D (r.o S a) (r.o S b) (r.o S c))
    else none
  | _ => none
theorem rIter_ok : rIter.Ok := fun r R X S h tg e d q => by
  unfold rIter at q
  split at q
  · split at q
    · rename_i hh
      simp only [Bool.and_eq_true, Bool.not_eq_true'] at hh
      obtain ⟨⟨⟨hx, hg⟩, hn⟩, hs⟩ := hh
      have hx := eq_of_beq hx
      subst hx
      cases q
      exact si_range1 (gl_ok h hg).1 (h.nog _ hn) (R.o h _) hs
    · split at q
      · rename_i hh
        simp only [Bool.and_eq_true, Bool.not_eq_true'] at hh
        obtain ⟨⟨⟨⟨hx, hg⟩, hn⟩, hs⟩, ht⟩ := hh
        have hx := eq_of_beq hx
        subst hx
        cases q
        cases tg <;> first | (cases ht; done) | skip
        exact si_enumB (gl_ok h hg).1 (h.nog _ hn) (R.e h _) hs
      · cases q
  · split at q
    · rename_i hh
      simp only [Bool.and_eq_true, Bool.not_eq_true'] at hh
      obtain ⟨⟨⟨⟨hx, hg⟩, hn⟩, hs⟩, hs2⟩ := hh
      have hx := eq_of_beq hx
      subst hx
      cases q
      exact si_range2 (gl_ok h hg).1 (h.nog _ hn) (R.o h _) (R.o h _) hs hs2
    · split at q
      · rename_i hh
        simp only [Bool.and_eq_true, Bool.not_eq_true'] at hh
        obtain ⟨⟨⟨⟨⟨hx, hg⟩, hn⟩, hs⟩, hs2⟩, ht⟩ := hh
        have hx := eq_of_beq hx
        subst hx
        cases q
        cases tg <;> first | (cases ht; done) | skip
        exact si_zip (gl_ok h hg).1 (h.nog _ hn) (R.e h _) (R.e h _) hs hs2
      · cases q
  · split at q
    · rename_i hh
      simp only [Bool.and_eq_true, Bool.not_eq_true'] at hh
      obtain ⟨⟨⟨⟨⟨hx, hg⟩, hn⟩, hs⟩, hs2⟩, hs3⟩ := hh
      have hx := eq_of_beq hx
      subst hx
      cases q
      exact si_range3 (gl_ok h hg).1 (h.nog _ hn) (R.o h _) (R.o h _) (R.o h _) hs hs2 hs3
    · cases q
  · cases q

/-! ### comprehensions -/
def notSet : Expr → Bool
  | .Set _ _ _ => false
  | _ => true
theorem notSet_ok {X : Cx} {e : Expr} (h : notSet e = true) : ∀ x, foldedSetIterable e X.env x = pure x := by
  intro x
  cases e <;> first | rfl | (cases h; done)
def ifsOf (r : Rec) (S : Sta) : List Expr → Option (Env → M Bool)
  | [] => some tTrue
  | [t] => some (r.t S t)
  | _ => none
theorem ifsOf_ok {r : Rec} (R : Sound r) {X : Cx} {S : Sta} (h : StaOk X S) {es : List Expr} {t : Env → M Bool} (q : ifsOf r S es = some t) : STs X S.ct t es := by
  unfold ifsOf at q
  split at q
  · cases q; exact sts_nil
  · cases q; exact sts_one (R.t h _)
  · cases q
abbrev RuleL := Rec → Sta → Expr → Option (Env → M (List D))
def RuleL.Ok (ρ : RuleL) : Prop := ∀ r, Sound r → ∀ {X : Cx} {S : Sta}, StaOk X S → ∀ e d, ρ r S e = some d → SF X S.ct d e
def tgIn (tg : Tgt) (vs : List Nat) : Bool := tg.idx.all fun i => vs.contains i
theorem tgIn_ok {tg : Tgt} {vs : List Nat} (h : tgIn tg vs = true) : ∀ i ∈ tg.idx, i ∈ vs := fun i hi => by
  have := List.all_eq_true.mp h i hi
  simpa using this
def rLc : RuleL := fun r S e => match e with
  | .ListComp elt [⟨tg, iter, ifs, 0⟩] scope _ => if notSet iter && blkC S.N S.sc scope (ownOf S.N scope.names) then (match tgOf (blkSta S scope) tg, ifsOf r (blkSta S scope) ifs with
    | some t, some ts => if tgIn t ((ownOf S.N scope.names).map (·.2)) then some (fComp t ((ownOf S.N scope.names).map (·.2)) (r.i S tg iter) ts (r.e (blkSta S scope) elt)) else none
    | _, _ => none) else none
  | _ => none
theorem rLc_ok : rLc.Ok := fun r R X S h e d q => by
  unfold rLc at q
  split at q
  · split at q
    · rename_i hh
      obtain ⟨h1, h2⟩ := Bool.and_eq_true_iff.mp hh
      split at q
      · rename_i t ts ht hts
        split at q
        · rename_i hi
          cases q
          refine sf_lc h.calm (by rw [h.N]; exact h.nd) (R.i h _ _) (blkOk_by (by rw [h.N, h.sc]; exact h2)) (fun s H C cl fp => tgOf_ok (blk_ok h _ s H C cl fp) ht) (fun s H C cl fp => ifsOf_ok R (blk_ok h _ s H C cl fp) hts) (fun s H C cl fp => R.e (blk_ok h _ s H C cl fp) _) (notSet_ok h1) (tgIn_ok hi)
        · cases q
      · cases q
    · cases q
  · cases q
def rNewCall : RuleL := fun r S e => match e with
  | .Call (.Name x _) es [] _ => if glB S x then (match S.fns x with
    | some (.new _ _ gq den) => if gq && !S.gd then none else (match es with
        | e :: es => if isStarB e then none else some (callF den (r.a S (e :: es)))
        | [] => none)
    | _ => none) else none
  | _ => none
theorem rNewCall_ok : rNewCall.Ok := fun r R X S h e d q => by
  unfold rNewCall at q
  split at q
  · split at q
    · rename_i hg
      obtain ⟨g1, g2⟩ := gl_ok h hg
      split at q
      · rename_i f j gq den hf
        obtain ⟨hj, F, hm, hk, hdb⟩ := h.fns _ _ hf
        split at q
        · cases q
        rename_i hgq
        have hgq := gd_ok h (by simpa using hgq)
        split at q
        · split at q
          · cases q
          · rename_i hs
            cases q
            exact sf_call F (h.room.mono hj) hgq g1 hm hk (R.a h _) (by simpa using hs) hdb
        · cases q
      · cases q
    · cases q
  · cases q
def fLst (r : Env → M (List D)) : Env → M (List D) := fun ρ g => (r ρ g).bind fun xs g1 => if xs.length ≤ sizeLine then .ok xs g1 else .fail
def rLstL : RuleL := fun r S e => match e with
  | .List es _ => some (fLst (r.a S es))
  | _ => none
theorem rLstL_ok : rLstL.Ok := fun r R X S h e d q => by
  unfold rLstL at q
  split at q
  · cases q; exact sf_lst (R.a h _)
  · cases q
abbrev RuleK := Rec → Sta → Expr → Option (Env → M (List (D × D)))
def RuleK.Ok (ρ : RuleK) : Prop := ∀ r, Sound r → ∀ {X : Cx} {S : Sta}, StaOk X S → ∀ e d, ρ r S e = some d → SFd X S.ct d e
def rDc : RuleK := fun r S e => match e with
  | .DictComp kx vx [⟨tg, iter, ifs, 0⟩] scope _ => if notSet iter && blkC S.N S.sc scope (ownOf S.N scope.names) then (match tgOf (blkSta S scope) tg, ifsOf r (blkSta S scope) ifs with
    | some t, some ts => if tgIn t ((ownOf S.N scope.names).map (·.2)) then some (fDComp t ((ownOf S.N scope.names).map (·.2)) (r.i S tg iter) ts (r.e (blkSta S scope) kx) (r.e (blkSta S scope) vx)) else none
    | _, _ => none) else none
  | _ => none
theorem rDc_ok : rDc.Ok := fun r R X S h e d q => by
  unfold rDc at q
  split at q
  · split at q
    · rename_i hh
      obtain ⟨h1, h2⟩ := Bool.and_eq_true_iff.mp hh
      split at q
      · rename_i t ts ht hts
        split at q
        · rename_i hi
          cases q
          refine sfd_dc h.calm (by rw [h.N]; exact h.nd) (R.i h _ _) (blkOk_by (by rw [h.N, h.sc]; exact h2)) (fun s H C cl fp => tgOf_ok (blk_ok h _ s H C cl fp) ht) (fun s H C cl fp => ifsOf_ok R (blk_ok h _ s H C cl fp) hts) (fun s H C cl fp => R.e (blk_ok h _ s H C cl fp) _) (fun s H C cl fp => R.e (blk_ok h _ s H C cl fp) _) (notSet_ok h1) (tgIn_ok hi)
        · cases q
      · cases q
    · cases q
  · cases q

/-! ### lambdas -/
def feLow (k : Nat) : FE → Option FE
  | .val f j gq c => if j ≤ k then some (.val f j gq c) else none
  | .new f j gq den => if j ≤ k then some (.new f j gq den) else none
  | .met _ => none
def lamSta (S : Sta) (scope : Scope) : Sta := { S with sc := scope, k := S.k - 2, gd := false, fnC := (fun _ => false), lam := none, fns := fun x => (S.fns x).bind (feLow (S.k - 2)) }
def noDefs (p : Arguments) : Bool := p.posonlyargs.isEmpty && p.args.isEmpty && p.vararg.isNone && p.kwonlyargs.isEmpty && p.kw_defaults.isEmpty && p.kwarg.isNone && p.defaults.isEmpty
def rLam : RuleE := fun r S e => match e with
  | .Call (.Name x _) [.Lambda params body scope _] [] _ => if glB S x && noDefs params && LamX.lamSB S.sc scope && decide (2 ≤ S.k) && S.gd then (match S.fns x, S.lam with
    | some (.met m), some _ => some (lamD m (r.e (lamSta S scope) body))
    | _, _ => none) else none
  | _ => none
theorem noDefs_ok {p : Arguments} (h : noDefs p = true) : p = { posonlyargs := [], args := [], vararg := none, kwonlyargs := [], kw_defaults := [], kwarg := none, defaults := [] } := by
  unfold noDefs at h
  simp only [Bool.and_eq_true, List.isEmpty_iff, Option.isNone_iff_eq_none] at h
  obtain ⟨⟨⟨⟨⟨⟨a, b⟩, c⟩, d⟩, e⟩, f⟩, g⟩ := h
  cases p
  simp_all
theorem rLam_ok : rLam.Ok := fun r R X S h e d q => by
  unfold rLam at q
  split at q
  · rename_i x p params body scope lpos pos
    split at q
    · rename_i hh
      simp only [Bool.and_eq_true, decide_eq_true_eq] at hh
      obtain ⟨⟨⟨⟨hg, hp⟩, hl⟩, hk⟩, hgd⟩ := hh
      split at q
      · rename_i m cP hf hlam
        cases q
        obtain ⟨c, P⟩ := cP
        obtain ⟨l1, l2, l3, l4⟩ := h.lam c P hlam
        obtain ⟨M⟩ := h.fns _ _ hf X rfl rfl rfl rfl rfl (h.gd hgd) ⟨_, h.room⟩
        have hpp := noDefs_ok hp
        subst hpp
        have hr : Room (S.k - 2 + 2) X.A := by rw [Nat.sub_add_cancel hk]; exact h.room
        refine se_lam (gl_ok h hg).1 M.hm M.hk M.lk M.hcg M.hb M.Sg M.hNg M.hva (M.hG _) l1 l2 l3 l4 hr (LamX.lamS_by (by rw [h.sc]; exact hl)) rfl (fun _ _ _ _ _ => rfl) (fun A outer s H E f c' hr' => ?_) M.hdb M.hd M.hcd
        have fnsL : ∀ (y : Str) (fe : FE), (S.fns y).bind (feLow (S.k - 2)) = some fe → FeOk (LamX.lamCx X A outer s H E scope f c') S.ct (S.k - 2) y fe := fun y fe hy => by
          obtain ⟨fe0, hfe, hy⟩ := Option.bind_eq_some_iff.mp hy
          have o := h.fns y fe0 hfe
          cases fe0 with
          | val f0 j0 g0 c0 =>
            have hy : (if j0 ≤ S.k - 2 then some (FE.val f0 j0 g0 c0) else none) = some fe := hy
            by_cases hle : j0 ≤ S.k - 2
            · rw [if_pos hle] at hy
              cases hy
              exact ⟨hle, o.2⟩
            · rw [if_neg hle] at hy; cases hy
          | new f0 j0 g0 d0 =>
            have hy : (if j0 ≤ S.k - 2 then some (FE.new f0 j0 g0 d0) else none) = some fe := hy
            by_cases hle : j0 ≤ S.k - 2
            · rw [if_pos hle] at hy
              cases hy
              exact ⟨hle, o.2⟩
            · rw [if_neg hle] at hy; cases hy
          | met m0 => cases hy
        exact R.e (X := LamX.lamCx X A outer s H E scope f c') (S := lamSta S scope) ⟨h.tcl, h.xf, h.isi, (fun x c e => let z := h.cls x c e; ⟨z.hm, z.hdb, z.kp, z.sub, z.ty, z.sup, z.own⟩), h.N, h.nd, rfl, rfl, hr', (fun e => by cases e), (fun _ e => by cases e), fnsL, h.cns, h.nog, (fun _ _ e => by cases e)⟩ body
      · cases q
    · cases q
  · cases q
end PF

set_option Elab.async false
set_option linter.all false
set_option maxRecDepth 100000
set_option maxHeartbeats 2000000
/-! PF60: the texts of two data compared: alike data have alike texts. -/
namespace PF
open PySem PySem.Spec PyProof.Rows L2

/-! ### data whose text fits -/
mutual
def litI : D → Bool
  | .int i => decide (i.natAbs.log2 < 500)
  | .list xs => litIs xs
  | .tuple xs => litIs xs
  | .dict _ => false
  | _ => true
def litIs : List D → Bool
  | [] => true
  | x :: xs => litI x && litIs xs
end
theorem shown_int_len {i : Int} (h : i.natAbs.log2 < 500) : (PyData.shown (.int i)).length ≤ 502 := by
  have e := int_text_length_le (k := 500) (by decide) h
  show (Str.ofString (toString i)).length ≤ 502
  rw [PySem.ofString_length]; omega
mutual
theorem litI_short : ∀ d : D, litI d = true → PyData.intsShort 502 d = true ∧ (d.canLay0 = true → d.showable = true)
  | .none, _ => ⟨rfl, fun _ => rfl⟩
  | .bool _, _ => ⟨rfl, fun _ => rfl⟩
  | .str _, _ => ⟨rfl, fun _ => rfl⟩
  | .int i, h => by
    have h : decide (i.natAbs.log2 < 500) = true := by simpa only [litI] using h
    have h := of_decide_eq_true h
    refine ⟨?_, fun _ => ?_⟩
    · simp only [PyData.intsShort, decide_eq_true_eq]; exact shown_int_len h
    · simp only [PyData.showable, decide_eq_true_eq]; omega
  | .list xs, h => by
    have h : litIs xs = true := by simpa only [litI] using h
    obtain ⟨a, b⟩ := litIs_short xs h
    exact ⟨by simp only [PyData.intsShort]; exact a, fun c => by simp only [PyData.showable]; exact b (by simpa only [PyData.canLay0] using c)⟩
  | .tuple xs, h => by
    have h : litIs xs = true := by simpa only [litI] using h
    obtain ⟨a, b⟩ := litIs_short xs h
    exact ⟨by simp only [PyData.intsShort]; exact a, fun c => by simp only [PyData.showable]; exact b (by simpa only [PyData.canLay0] using c)⟩
  | .dict _, h => by simp only [litI] at h; exact nomatch h
theorem litIs_short : ∀ xs : List D, litIs xs = true → PyData.intsShortAll 502 xs = true ∧ (PyData.canLayAll0 xs = true → PyData.showableAll xs = true)
  | [], _ => ⟨rfl, fun _ => rfl⟩
  | x :: xs, h => by
    have h : litI x = true ∧ litIs xs = true := by simpa only [litIs, Bool.and_eq_true] using h
    obtain ⟨a, b⟩ := litI_short x h.1
    obtain ⟨a2, b2⟩ := litIs_short xs h.2
    refine ⟨by simp only [PyData.intsShortAll, Bool.and_eq_true]; exact ⟨a, a2⟩, fun c => ?_⟩
    have c : x.canLay0 = true ∧ PyData.canLayAll0 xs = true := by simpa only [PyData.canLayAll0, Bool.and_eq_true] using c
    simp only [PyData.showableAll, Bool.and_eq_true]
    exact ⟨b c.1, b2 c.2⟩
end
def okR (d : D) : Bool := d.canLay0 && litI d && decide (d.depth ≤ 64) && decide (d.weight ≤ 30000)
theorem bRepr_ok {d : D} (h : okR d = true) : bRepr d = some (.str d.shown) := by
  unfold okR at h
  simp only [Bool.and_eq_true, decide_eq_true_eq] at h
  obtain ⟨⟨⟨h1, h2⟩, h3⟩, h4⟩ := h
  obtain ⟨a, b⟩ := litI_short d h2
  have hl := PyData.shown_le 502 (by decide) d (PyData.leavesShort_of_canLay0 502 d h1 a)
  have hz : d.shown.length ≤ sizeLine := by
    rw [sizeLine_eq]
    have : (502 + 2) * d.weight ≤ 504 * 30000 := Nat.mul_le_mul_left _ h4
    omega
  unfold bRepr
  rw [if_pos]
  simp only [Bool.and_eq_true, decide_eq_true_eq]
  exact ⟨⟨by unfold SeqAt.shaped; rw [h1, decide_eq_true h3]; rfl, b h1⟩, hz⟩
/-! ### data that are the same -/
mutual
def sameD : D → D → Bool
  | .none, .none => true
  | .bool a, .bool b => (match a, b with | true, true => true | false, false => true | _, _ => false)
  | .int a, .int b => decide (a = b)
  | .str a, .str b => decide (a = b)
  | .list a, .list b => sameDs a b
  | .tuple a, .tuple b => sameDs a b
  | _, _ => false
def sameDs : List D → List D → Bool
  | [], [] => true
  | a :: r, b :: q => if sameD a b = true then sameDs r q else false
  | _, _ => false
end
mutual
theorem sameD_eq : ∀ a b : D, sameD a b = true → a = b
  | .none, b, h => by cases b <;> first | rfl | (simp [sameD] at h; done)
  | .bool a, b, h => by
    cases b <;> first | (simp [sameD] at h; done) | skip
    rename_i b
    cases a <;> cases b <;> first | rfl | (simp [sameD] at h; done)
  | .int a, b, h => by
    cases b <;> first | (simp [sameD] at h; done) | skip
    simp only [sameD, decide_eq_true_eq] at h
    rw [h]
  | .str a, b, h => by
    cases b <;> first | (simp [sameD] at h; done) | skip
    simp only [sameD, decide_eq_true_eq] at h
    rw [h]
  | .list a, b, h => by
    cases b <;> first | (simp [sameD] at h; done) | skip
    simp only [sameD] at h
    rw [sameDs_eq _ _ h]
  | .tuple a, b, h => by
    cases b <;> first | (simp [sameD] at h; done) | skip
    simp only [sameD] at h
    rw [sameDs_eq _ _ h]
  | .dict a, b, h => by
    cases b <;> simp [sameD] at h
theorem sameDs_eq : ∀ a b : List D, sameDs a b = true → a = b
  | [], [], _ => rfl
  | [], _ :: _, h => by simp [sameDs] at h
  | _ :: _, [], h => by simp [sameDs] at h
  | a :: r, b :: q, h => by
    simp only [sameDs] at h
    split at h
    · rename_i hh
      rw [sameD_eq a b hh, sameDs_eq r q h]
    · cases h
end
section
variable [TabT] {X : Cx} {ct : Nat → ClsInfo}
def strCmp (neg : Bool) : D → D → Option D
  | .str a, .str b => some (.bool (if neg = true then !decide (a = b) else decide (a = b)))
  | _, _ => none
theorem repStr {b : Option Addr} {F : Addr → Prop} {H : Hp} {v : V} {x : Str} (r : RepO X.K b F H v (.str x)) : v = .str x := r.str
theorem op2_strEq : Op2 X (compareOp .Eq) (strCmp false) := by
  refine ⟨_, op_eq, fun b F H g v w x y z Q B rx ry e k => ?_⟩
  cases x <;> first | (cases e; done) | skip
  cases y <;> first | (cases e; done) | skip
  cases e
  rw [repStr rx, repStr ry]
  refine ⟨rfl, ?_⟩
  have h := fin0 B (.bl _) k
  rename_i a c
  rw [show decide (V.str a = V.str c) = decide (a = c) from decide_eq_decide.mpr ⟨fun e => by injection e, fun e => by rw [e]⟩]
  exact h
theorem op2_strNe : Op2 X (compareOp .NotEq) (strCmp true) := by
  refine ⟨_, op_ne, fun b F H g v w x y z Q B rx ry e k => ?_⟩
  cases x <;> first | (cases e; done) | skip
  cases y <;> first | (cases e; done) | skip
  cases e
  rw [repStr rx, repStr ry]
  refine ⟨rfl, ?_⟩
  have h := fin0 B (.bl _) k
  rename_i a c
  rw [show decide (V.str a = V.str c) = decide (a = c) from decide_eq_decide.mpr ⟨fun e => by injection e, fun e => by rw [e]⟩]
  exact h
def dReprSame (neg : Bool) (ra rc : Env → M (List D)) : Env → M D := fun ρ g => (ra ρ g).bind fun xs g1 => match xs with
  | [x] => if okR x = true then (rc ρ g1).bind fun ys g2 => (match ys with
    | [y] => if sameD x y = true then .ok (.bool (!neg)) g2 else .fail
    | _ => .fail) else .fail
  | _ => .fail
/-- a den that says less -/
theorem se_less {d d' : Env → M D} {e : Expr} (h : SE X ct d e) (k : ∀ ρ g, d' ρ g = .fail ∨ d' ρ g = d ρ g) : SE X ct d' e := fun W tk => by
  refine ⟨fun pins s σ H Q I hq => ?_⟩
  obtain ⟨bb, F, ow, ρ, g, S, o⟩ := hq
  rcases k ρ g with e1 | e1
  · rw [e1] at o; exact o.elim
  · rw [e1] at o
    exact (h W tk).run pins s σ H Q I ⟨bb, F, ow, ρ, g, S, o⟩
theorem repr_less {neg : Bool} {ra rc : Env → M (List D)} (ρ : Env) (g : List Int) : dReprSame neg ra rc ρ g = .fail ∨ dReprSame neg ra rc ρ g = lift2 (strCmp neg) (callO (on1 bRepr) ra) (callO (on1 bRepr) rc) ρ g := by
  unfold dReprSame lift2 callO
  cases hr : ra ρ g with
  | fail => exact .inl rfl
  | exc c p g1 => exact .inr rfl
  | ok xs g1 =>
    match xs with
    | [] => exact .inl rfl
    | _ :: _ :: _ => exact .inl rfl
    | [x] =>
      by_cases hx : okR x = true
      · have e1 : on1 bRepr [x] = some (.str x.shown) := bRepr_ok hx
        simp only [Res.bind, hx, if_true, e1]
        cases hr2 : rc ρ g1 with
        | fail => exact .inl rfl
        | exc c p g2 => exact .inr rfl
        | ok ys g2 =>
          match ys with
          | [] => exact .inl rfl
          | _ :: _ :: _ => exact .inl rfl
          | [y] =>
            by_cases hs : sameD x y = true
            · obtain rfl := sameD_eq x y hs
              refine .inr ?_
              simp only [hs, if_true, e1]
              cases neg <;> simp [strCmp]
            · simp only [hs]; exact .inl rfl
      · simp only [Res.bind, hx]; exact .inl rfl
def reprOf (S : Sta) : Expr → Option Expr
  | .Call (.Name x _) [a] [] _ => if x == ("repr" : Str) && glB S x && S.nog x && S.gd && !isStarB a then some a else none
  | _ => none
theorem reprOf_ok {r : Rec} (R : Sound r) {S : Sta} (h : StaOk X S) {e a : Expr} (q : reprOf S e = some a) : SE X S.ct (callO (on1 bRepr) (r.os S [a])) e := by
  unfold reprOf at q
  split at q
  · split at q
    · rename_i hh
      cases q
      simp only [Bool.and_eq_true, Bool.not_eq_true'] at hh
      obtain ⟨⟨⟨⟨hx, hG⟩, hn⟩, hgd⟩, hs⟩ := hh
      have hx := eq_of_beq hx
      subst hx
      obtain ⟨g1, g2⟩ := gl_ok h hG
      have hop : biTab S.gd ("repr" : Str) = some (on1 bRepr) := by rw [hgd]; rfl
      obtain ⟨id, h1, h2, h3⟩ := biTab_ok h hop
      exact se_bi h2 g1 (h.nog _ hn) h1 (R.os h _) hs rfl h3 g2
    · cases q
  · cases q
/-- the first one, unless it says nothing -/
def orD (a b : Env → M D) : Env → M D := fun ρ g => match a ρ g with
  | .fail => b ρ g
  | .ok x g1 => .ok x g1
  | .exc c p g1 => .exc c p g1
theorem se_orD {a b : Env → M D} {e : Expr} (ha : SE X ct a e) (hb : SE X ct b e) : SE X ct (orD a b) e := fun W tk => by
  refine ⟨fun pins s σ H Q I h => ?_⟩
  obtain ⟨bb, F, ow, ρ, g, S, o⟩ := h
  unfold orD at o
  cases hr : a ρ g with
  | fail =>
    rw [hr] at o
    exact (hb W tk).run pins s σ H Q I ⟨bb, F, ow, ρ, g, S, o⟩
  | ok x g1 =>
    rw [hr] at o
    exact (ha W tk).run pins s σ H Q I ⟨bb, F, ow, ρ, g, S, by rw [hr]; exact o⟩
  | exc c p g1 =>
    rw [hr] at o
    exact (ha W tk).run pins s σ H Q I ⟨bb, F, ow, ρ, g, S, by rw [hr]; exact o⟩
/-- the same for a test -/
def orT (a b : Env → M Bool) : Env → M Bool := fun ρ g => match a ρ g with
  | .fail => b ρ g
  | .ok x g1 => .ok x g1
  | .exc c p g1 => .exc c p g1
theorem st_orT {a b : Env → M Bool} {e : Expr} (ha : ST X ct a e) (hb : ST X ct b e) : ST X ct (orT a b) e := fun W tk => by
  refine ⟨fun pins s σ H Q I h => ?_⟩
  obtain ⟨bb, F, ow, ρ, g, S, o⟩ := h
  unfold orT at o
  cases hr : a ρ g with
  | fail =>
    rw [hr] at o
    exact (hb W tk).run pins s σ H Q I ⟨bb, F, ow, ρ, g, S, o⟩
  | ok x g1 =>
    rw [hr] at o
    exact (ha W tk).run pins s σ H Q I ⟨bb, F, ow, ρ, g, S, by rw [hr]; exact o⟩
  | exc c p g1 =>
    rw [hr] at o
    exact (ha W tk).run pins s σ H Q I ⟨bb, F, ow, ρ, g, S, by rw [hr]; exact o⟩
theorem st_less {d d' : Env → M Bool} {e : Expr} (h : ST X ct d e) (k : ∀ ρ g, d' ρ g = .fail ∨ d' ρ g = d ρ g) : ST X ct d' e := fun W tk => by
  refine ⟨fun pins s σ H Q I hq => ?_⟩
  obtain ⟨bb, F, ow, ρ, g, S, o⟩ := hq
  rcases k ρ g with e1 | e1
  · rw [e1] at o; exact o.elim
  · rw [e1] at o
    exact (h W tk).run pins s σ H Q I ⟨bb, F, ow, ρ, g, S, o⟩
theorem asB_less {d d' : Env → M D} (k : ∀ ρ g, d' ρ g = .fail ∨ d' ρ g = d ρ g) : ∀ ρ g, asB d' ρ g = .fail ∨ asB d' ρ g = asB d ρ g := fun ρ g => by
  unfold asB
  rcases k ρ g with e1 | e1
  · rw [e1]; exact .inl rfl
  · rw [e1]; exact .inr rfl
def negOf : CmpOp → Option Bool
  | .Eq => some false
  | .NotEq => some true
  | _ => none
theorem negOf_ok {op : CmpOp} {neg : Bool} (hn : negOf op = some neg) : Op2 X (compareOp op) (strCmp neg) := by
  cases op <;> first | (cases hn; first | exact op2_strEq | exact op2_strNe) | (cases hn; done)
/-- texts compared in a test, unless t says it -/
def reprT (r : Rec) (S : Sta) (a : Expr) (op : CmpOp) (c : Expr) (t : Env → M Bool) : Env → M Bool := match negOf op, reprOf S a, reprOf S c with
  | some neg, some a', some c' => orT (asB (dReprSame neg (r.os S [a']) (r.os S [c']))) t
  | _, _, _ => t
theorem reprT_ok {r : Rec} (R : Sound r) {S : Sta} (h : StaOk X S) {a c : Expr} {op : CmpOp} {p : Pos} {t : Env → M Bool} (hm : behindInMarks op c = false) (ht : ST X S.ct t (.Compare a [op] [c] p)) : ST X S.ct (reprT r S a op c t) (.Compare a [op] [c] p) := by
  unfold reprT
  split
  · rename_i neg a' c' hn ha hc
    exact st_orT (st_less (st_cmp (negOf_ok hn) hm (reprOf_ok R h ha).so (reprOf_ok R h hc).so) (asB_less repr_less)) ht
  · exact ht
end
end PF

set_option Elab.async false
set_option linter.all false
set_option maxRecDepth 100000
set_option maxHeartbeats 2000000
/-! PF22: the translator for expressions, whole. -/
namespace PF
open PySem PySem.Spec PyProof.Rows L2
variable [TabT]

/-! ### tests -/
def firstE (l : List RuleE) (r : Rec) (S : Sta) (e : Expr) : Option (Env → M D) := match l with
  | [] => none
  | ρ :: l => match ρ r S e with
    | some d => some d
    | none => firstE l r S e
theorem firstE_ok : ∀ {l : List RuleE}, (∀ ρ ∈ l, RuleE.Ok ρ) → ∀ r, Sound r → ∀ {X : Cx} {S : Sta}, StaOk X S → ∀ e d, firstE l r S e = some d → SE X S.ct d e
  | [], _, _, _, _, _, _, _, _, q => by cases q
  | ρ :: l, ok, r, R, X, S, h, e, d, q => by
    unfold firstE at q
    split at q
    · rename_i d' hd
      cases q
      exact ok ρ List.mem_cons_self r R h e _ (by assumption)
    · exact firstE_ok (fun ρ' m => ok ρ' (List.mem_cons_of_mem _ m)) r R h e d q
def boolTs (r : Rec) (S : Sta) (op : BoolOp) : List Expr → Env → M Bool
  | [] => dFail
  | [a] => r.t S a
  | a :: c :: rest => match op with
    | .And => tAndD (r.t S a) (boolTs r S op (c :: rest))
    | .Or => tOrD (r.t S a) (boolTs r S op (c :: rest))
theorem boolTs_ok {r : Rec} (R : Sound r) {X : Cx} {S : Sta} (h : StaOk X S) {op : BoolOp} {pos : Pos} : ∀ es : List Expr, SW X S.ct (boolTs r S op es) (.BoolOp op es pos)
  | [] => fun W tk => ⟨fun _ _ _ _ _ _ _ h => by obtain ⟨_, _, _, _, _, _, o⟩ := h; exact o.elim⟩
  | [a] => by
    cases op with
    | And => exact sw_and1 (R.t h a)
    | Or => exact sw_or1 (R.t h a)
  | a :: c :: rest => by
    cases op with
    | And => exact sw_and (R.t h a) (boolTs_ok R h (c :: rest))
    | Or => exact sw_or (R.t h a) (boolTs_ok R h (c :: rest))
/-- a test; v: the value's meaning -/
def testOf (r : Rec) (S : Sta) (v : Env → M D) (e : Expr) : Env → M Bool := match e with
  | .UnaryOp .Not a _ => tNotD (r.t S a)
  | .BoolOp op es _ => boolTs r S op es
  | .Compare a [op] [c] _ => if behindInMarks op c then dFail else reprT r S a op c (match cmpD op with
    | some f => asB (lift2 f (r.o S a) (r.o S c))
    | none => dFail)
  | .Compare a [op, op'] [c, c'] _ => if lastMarks [op, op'] [c, c'] then dFail else (match cmpD op, cmpD op' with
    | some f, some f' => asB (dChain f f' (r.o S a) (r.o S c) (r.o S c'))
    | _, _ => dFail)
  | .Call .. => asB v
  | .Name .. => asB v
  | .Subscript .. => asB v
  | .Constant .. => asB v
  | _ => dFail
theorem testOf_ok {r : Rec} (R : Sound r) {X : Cx} {S : Sta} (h : StaOk X S) {v : Env → M D} {e : Expr} (hv : SE X S.ct v e) : ST X S.ct (testOf r S v e) e := by
  unfold testOf
  split
  · exact st_not (R.t h _)
  · exact (boolTs_ok R h _).st
  · split
    · exact st_fail
    · rename_i hm
      refine reprT_ok R h (by simpa using hm) ?_
      split
      · rename_i f hf
        exact st_cmp (cmpD_ok h.un3 hf) (by simpa using hm) (R.o h _) (R.o h _)
      · exact st_fail
  · split
    · exact st_fail
    · rename_i hm
      split
      · rename_i f f' hf hf'
        exact st_chain (cmpD_ok h.un3 hf) (cmpD_ok h.un3 hf') (by simpa using hm) (R.o h _) (R.o h _) (R.o h _)
      · exact st_fail
  · exact st_val hv fun _ => rfl
  · exact st_val hv fun _ => rfl
  · exact st_val hv fun _ => rfl
  · exact st_val hv fun _ => rfl
  · exact st_fail

/-! ### lists of expressions -/
def argsE (r : Rec) (S : Sta) : List Expr → Env → M (List D)
  | [] => aNil
  | .Starred e _ :: es => aStar (r.o S e) (argsE r S es)
  | e :: es => aCons (r.e S e) (argsE r S es)
theorem argsE_ok {r : Rec} (R : Sound r) {X : Cx} {S : Sta} (h : StaOk X S) : ∀ es, SA X S.ct (argsE r S es) es
  | [] => sa_nil
  | e :: es => by
    have ih := argsE_ok R h es
    cases e <;> first
      | exact sa_star (R.o h _) ih
      | exact sa_cons (R.e h _) ih rfl
def argsO (r : Rec) (S : Sta) : List Expr → Env → M (List D)
  | [] => aNil
  | e :: es => if isStarB e then dFail else aCons (r.o S e) (argsO r S es)
theorem sos_fail {X : Cx} {ct : Nat → ClsInfo} {es : List Expr} : SOs X ct dFail es := fun W tk => ⟨fun _ _ _ _ _ _ _ h => by obtain ⟨_, _, _, _, _, _, o⟩ := h; exact o.elim⟩
theorem argsO_ok {r : Rec} (R : Sound r) {X : Cx} {S : Sta} (h : StaOk X S) : ∀ es, SOs X S.ct (argsO r S es) es
  | [] => sos_nil
  | e :: es => by
    unfold argsO
    split
    · exact sos_fail
    · rename_i hs
      exact sos_cons (R.o h e) (argsO_ok R h es) (by simpa using hs)

/-! ### one level more -/
def firstL (l : List RuleL) (r : Rec) (S : Sta) (e : Expr) : Option (Env → M (List D)) := match l with
  | [] => none
  | ρ :: l => match ρ r S e with
    | some d => some d
    | none => firstL l r S e
theorem firstL_ok : ∀ {l : List RuleL}, (∀ ρ ∈ l, RuleL.Ok ρ) → ∀ r, Sound r → ∀ {X : Cx} {S : Sta}, StaOk X S → ∀ e d, firstL l r S e = some d → SF X S.ct d e
  | [], _, _, _, _, _, _, _, _, q => by cases q
  | ρ :: l, ok, r, R, X, S, h, e, d, q => by
    unfold firstL at q
    split at q
    · rename_i d' hd
      cases q
      exact ok ρ List.mem_cons_self r R h e _ (by assumption)
    · exact firstL_ok (fun ρ' m => ok ρ' (List.mem_cons_of_mem _ m)) r R h e d q
def firstK (l : List RuleK) (r : Rec) (S : Sta) (e : Expr) : Option (Env → M (List (D × D))) := match l with
  | [] => none
  | ρ :: l => match ρ r S e with
    | some d => some d
    | none => firstK l r S e
theorem firstK_ok : ∀ {l : List RuleK}, (∀ ρ ∈ l, RuleK.Ok ρ) → ∀ r, Sound r → ∀ {X : Cx} {S : Sta}, StaOk X S → ∀ e d, firstK l r S e = some d → SFd X S.ct d e
  | [], _, _, _, _, _, _, _, _, q => by cases q
  | ρ :: l, ok, r, R, X, S, h, e, d, q => by
    unfold firstK at q
    split at q
    · rename_i d' hd
      cases q
      exact ok ρ List.mem_cons_self r R h e _ (by assumption)
    · exact firstK_ok (fun ρ' m => ok ρ' (List.mem_cons_of_mem _ m)) r R h e d q
def firstI (l : List RuleI) (r : Rec) (S : Sta) (tg e : Expr) : Option (Env → M (List D)) := match l with
  | [] => none
  | ρ :: l => match ρ r S tg e with
    | some d => some d
    | none => firstI l r S tg e
theorem firstI_ok : ∀ {l : List RuleI}, (∀ ρ ∈ l, RuleI.Ok ρ) → ∀ r, Sound r → ∀ {X : Cx} {S : Sta}, StaOk X S → ∀ tg e d, firstI l r S tg e = some d → SI X S.ct tg d e
  | [], _, _, _, _, _, _, _, _, _, q => by cases q
  | ρ :: l, ok, r, R, X, S, h, tg, e, d, q => by
    unfold firstI at q
    split at q
    · rename_i d' hd
      cases q
      exact ok ρ List.mem_cons_self r R h tg e _ (by assumption)
    · exact firstI_ok (fun ρ' m => ok ρ' (List.mem_cons_of_mem _ m)) r R h tg e d q
structure Rules where
  e : List RuleE
  l : List RuleL
  k : List RuleK
  i : List RuleI
structure Rules.Ok (ru : Rules) : Prop where
  e : ∀ ρ ∈ ru.e, RuleE.Ok ρ
  l : ∀ ρ ∈ ru.l, RuleL.Ok ρ
  k : ∀ ρ ∈ ru.k, RuleK.Ok ρ
  i : ∀ ρ ∈ ru.i, RuleI.Ok ρ
def stepE (ru : Rules) (r : Rec) (S : Sta) (e : Expr) : Env → M D := (firstE ru.e r S e).getD dFail
theorem stepE_ok {ru : Rules} (U : ru.Ok) {r : Rec} (R : Sound r) {X : Cx} {S : Sta} (h : StaOk X S) (e : Expr) : SE X S.ct (stepE ru r S e) e := by
  unfold stepE
  cases q : firstE ru.e r S e with
  | none => exact se_fail
  | some d => exact firstE_ok U.e r R h e d q
def stepO (ru : Rules) (r : Rec) (S : Sta) (e : Expr) : Env → M D := match e with
  | .Name x _ => (match slotOf S x with
    | some i => dVarO i
    | none => stepE ru r S e)
  | _ => stepE ru r S e
theorem stepO_ok {ru : Rules} (U : ru.Ok) {r : Rec} (R : Sound r) {X : Cx} {S : Sta} (h : StaOk X S) (e : Expr) : SO X S.ct (stepO ru r S e) e := by
  unfold stepO
  split
  · split
    · rename_i i hi
      have n := slot_ok h hi
      exact so_var n.hN n.hv n.hd n.hcd
    · exact (stepE_ok U R h _).so
  · exact (stepE_ok U R h _).so
def step (ru : Rules) (r : Rec) : Rec where
  e := stepE ru r
  o := stepO ru r
  t := fun S e => testOf r S (stepE ru r S e) e
  a := argsE r
  os := argsO r
  l := firstL ru.l r
  k := firstK ru.k r
  i := fun S tg e => match firstI ru.i r S tg e with
    | some d => d
    | none => iSeq (stepE ru r S e)
theorem step_ok {ru : Rules} (U : ru.Ok) {r : Rec} (R : Sound r) : Sound (step ru r) where
  e := fun h e => stepE_ok U R h e
  o := fun h e => stepO_ok U R h e
  t := fun h e => testOf_ok R h (stepE_ok U R h e)
  a := fun h es => argsE_ok R h es
  os := fun h es => argsO_ok R h es
  l := fun h e d q => firstL_ok U.l r R h e d q
  k := fun h e d q => firstK_ok U.k r R h e d q
  i := fun {X S} h tg e => by
    show SI X S.ct tg (match firstI ru.i r S tg e with | some d => d | none => iSeq (stepE ru r S e)) e
    split
    · rename_i d hd
      exact firstI_ok U.i r R h tg e d hd
    · exact si_seq (stepE_ok U R h e)
def rec0 : Rec := ⟨fun _ _ => dFail, fun _ _ => dFail, fun _ _ => dFail, fun _ _ => dFail, fun _ _ => dFail, fun _ _ => none, fun _ _ => none, fun _ _ _ => dFail⟩
theorem rec0_ok : Sound rec0 := ⟨fun _ _ => se_fail, fun _ _ => so_fail, fun _ _ => st_fail, fun _ _ => sa_fail, fun _ _ => sos_fail, fun _ _ _ q => (by cases q), fun _ _ _ q => (by cases q), fun _ _ _ => si_fail⟩
def recN (ru : Rules) : Nat → Rec
  | 0 => rec0
  | n + 1 => step ru (recN ru n)
theorem recN_ok {ru : Rules} (U : ru.Ok) : ∀ n, Sound (recN ru n)
  | 0 => rec0_ok
  | n + 1 => step_ok U (recN_ok U n)
end PF

set_option Elab.async false
set_option linter.all false
set_option maxRecDepth 100000
set_option maxHeartbeats 2000000
/-! PF23: the translator for statements: the rules. -/
namespace PF
open PySem PySem.Spec PyProof.Rows L2
variable [TabT]

/-! ### names whose values are taken -/
def isNmB : Expr → Bool
  | .Name _ _ => true
  | _ => false
def lookB (x : Str) : Bool := x == ("len" : Str) || x == ("tuple" : Str) || x == ("list" : Str) || x == ("sorted" : Str) || x == ("max" : Str) || x == ("min" : Str) || x == ("sum" : Str) || x == ("all" : Str) || x == ("any" : Str) || x == ("isinstance" : Str) || x == ("repr" : Str) || x == ("set" : Str) || x == ("dict" : Str) || x == ("range" : Str)
def vnE : Nat → Expr → List Str
  | 0, _ => []
  | n + 1, e =>
    let vo := fun e => if isNmB e then [] else vnE n e
    match e with
    | .Name x _ => [x]
    | .BinOp a _ c _ => vo a ++ vo c
    | .UnaryOp _ a _ => vo a
    | .BoolOp _ es _ => es.flatMap (vnE n)
    | .Compare a _ cs _ => vo a ++ cs.flatMap vo
    | .IfExp t a c _ => vnE n t ++ (vnE n a ++ vnE n c)
    | .Tuple es _ _ => es.flatMap (vnE n)
    | .List es _ => es.flatMap (vnE n)
    | .Starred a _ => vo a
    | .Subscript a c _ => vo a ++ vo c
    | .Slice lo hi _ _ => (match lo with | some l => vo l | none => []) ++ (match hi with | some l => vo l | none => [])
    | .Call (.Name x _) es _ _ => if lookB x then es.flatMap vo else es.flatMap (vnE n)
    | .Call (.Attribute o _ _) es _ _ => vo o ++ es.flatMap (vnE n)
    | .ListComp a gs _ _ => vnE n a ++ gs.flatMap fun g => vnE n g.iter ++ g.ifs.flatMap (vnE n)
    | .DictComp a c gs _ _ => vnE n a ++ (vnE n c ++ gs.flatMap fun g => vnE n g.iter ++ g.ifs.flatMap (vnE n))
    | .Dict ks vs _ => vs.flatMap (vnE n)
    | .Lambda _ body _ _ => vnE n body
    | .Attribute o _ _ => vo o
    | _ => []
def vnDeep : Nat := 24
def idxs (S : Sta) : List Str → List Nat
  | [] => []
  | x :: r => match idxIn S.N x with
    | some i => if S.mu x && !(idxs S r).contains i then i :: idxs S r else idxs S r
    | none => idxs S r
def fz (S : Sta) (es : List Expr) (d : Env → M Fl) : Env → M Fl := match idxs S (es.flatMap (vnE vnDeep)) with
  | [] => d
  | is => sFrz is d
section
variable {C : FrC} {X : Cx}
theorem fz_ok {S : Sta} {es : List Expr} {ct : Nat → ClsInfo} {d : Env → M Fl} {st : Stmt} (h : SS C X ct d st) : SS C X ct (fz S es d) st := by
  unfold fz
  split
  · exact h
  · exact ss_frz h
end

/-! ### the rules -/
structure StmOk (C : FrC) (X : Cx) (S : Sta) : Prop where
  ok : StaOk X S
  blk : X.env.blockKind = .function
  pass : PassesOwn (model X.prog X.w) X.A X.env X.xe
structure RecS where
  s : Sta → Stmt → (Env → M Fl)
  b : Sta → List Stmt → (Env → M Fl)
structure SoundS (C : FrC) (q : RecS) : Prop where
  s : ∀ {X S}, StmOk C X S → ∀ st, SS C X S.ct (q.s S st) st
  b : ∀ {X S}, StmOk C X S → ∀ l, SSs C X S.ct (q.b S l) l
abbrev RuleS := Rec → RecS → Sta → Stmt → Option (Env → M Fl)
def RuleS.Ok (C : FrC) (ρ : RuleS) : Prop := ∀ r, Sound r → ∀ q, SoundS C q → ∀ {X : Cx} {S : Sta}, StmOk C X S → ∀ st d, ρ r q S st = some d → SS C X S.ct d st

def notComp : Expr → Bool
  | .ListComp .. => false
  | .SetComp .. => false
  | .DictComp .. => false
  | _ => true
theorem swaps_no {e : Expr} {t : Option Expr} {l : Nat} {env : PySem.Env} (h : notComp e = true) : swapsWith e t l env = pure false := by
  cases e <;> first | rfl | (cases h; done)
theorem base_name {y : Str} {p : Pos} {m : Str} {env : PySem.Env} {w : Sem Value} : attributeBase (.Name y p) m env w = w := rfl

variable {C : FrC}
def rsSmall : RuleS := fun r q S st => match st with
  | .Pass _ => some sNext
  | .Return none _ => some sRetN
  | .Return (some e) _ => some (fz S [e] (sRet (r.e S e)))
  | .If t a b _ => some (fz S [t] (sIf (r.t S t) (q.b S a) (q.b S b)))
  | _ => none
theorem rsSmall_ok : RuleS.Ok C rsSmall := fun r R q Q X S h st d e => by
  unfold rsSmall at e
  split at e
  · cases e; exact ss_pass
  · cases e; exact ss_retN
  · cases e; exact fz_ok (ss_ret (R.e h.ok _))
  · cases e; exact fz_ok (ss_if (R.t h.ok _) (Q.b h _) (Q.b h _))
  · cases e
inductive WR where
  | done (f : Fl)
  | more (ρ : Env)
/-- 2 ^ k turns of a while at most -/
def wLoop (t : Env → M Bool) (body : Env → M Fl) : Nat → Env → M WR
  | 0, ρ => fun g => (t ρ g).bind fun k g1 => if k = true then (body ρ g1).bind fun f g2 => match f with | .next ρ2 => .ok (.more ρ2) g2 | .ret z => .ok (.done (.ret z)) g2 else .ok (.done (.next ρ)) g1
  | k + 1, ρ => fun g => (wLoop t body k ρ g).bind fun r g1 => match r with | .more ρ1 => wLoop t body k ρ1 g1 | .done f => .ok (.done f) g1
def sWh (t : Env → M Bool) (body : Env → M Fl) : Env → M Fl := fun ρ g => (wLoop t body 30 ρ g).bind fun r g1 => match r with | .more _ => .fail | .done f => .ok f g1
theorem bind_assoc' {α β γ : Type} (r : Res α) (k : α → M β) (l : β → M γ) : (r.bind k).bind l = r.bind fun x g => (k x g).bind l := by cases r <;> rfl
theorem bind_ext {α β : Type} {r : Res α} {k l : α → M β} (h : ∀ x g, k x g = l x g) : r.bind k = r.bind l := by
  cases r with
  | ok x g => exact h x g
  | exc c p g => rfl
  | fail => rfl
theorem wLoop_eq {t : Env → M Bool} {body : Env → M Fl} : ∀ (k m : Nat) (ρ : Env) (g : List Int), sWhile t body (2 ^ k + m) ρ g = (wLoop t body k ρ g).bind fun r g1 => match r with | .more ρ1 => sWhile t body m ρ1 g1 | .done f => .ok f g1
  | 0, m, ρ, g => by
    rw [Nat.pow_zero, Nat.add_comm 1 m]
    unfold wLoop
    show (t ρ g).bind _ = _
    rw [bind_assoc']
    refine bind_ext fun k g1 => ?_
    by_cases hk : k = true
    · rw [if_pos hk, if_pos hk, bind_assoc']
      refine bind_ext fun f g2 => ?_
      cases f <;> rfl
    · rw [if_neg hk, if_neg hk]
      rfl
  | k + 1, m, ρ, g => by
    have e : 2 ^ (k + 1) + m = 2 ^ k + (2 ^ k + m) := by rw [Nat.pow_succ]; omega
    rw [e, wLoop_eq k (2 ^ k + m) ρ g]
    show _ = ((wLoop t body k ρ g).bind fun r g1 => match r with | .more ρ1 => wLoop t body k ρ1 g1 | .done f => .ok (.done f) g1).bind _
    rw [bind_assoc']
    refine bind_ext fun r g1 => ?_
    cases r with
    | more ρ1 => exact wLoop_eq k m ρ1 g1
    | done f => rfl
theorem sWh_eq {t : Env → M Bool} {body : Env → M Fl} : sWh t body = sWhile t body (2 ^ 30 + 0) := by
  funext ρ g
  rw [wLoop_eq]
  exact bind_ext fun r g1 => by cases r <;> rfl
def rsLoop : RuleS := fun r q S st => match st with
  | .For tg iter body [] _ => if notSet iter then (match tgOf S tg with
    | some t => some (fz S [iter] (sForD t (r.i S tg iter) (q.b S body)))
    | none => none) else none
  | .While t body [] _ => some (fz S [t] (sWh (r.t S t) (q.b S body)))
  | _ => none
theorem rsLoop_ok : RuleS.Ok C rsLoop := fun r R q Q X S h st d e => by
  unfold rsLoop at e
  split at e
  · split at e
    · rename_i hn
      split at e
      · rename_i t ht
        cases e
        exact fz_ok (ss_for (fun _ _ => h.pass) h.ok.calm (tgOf_ok h.ok ht) (R.i h.ok _ _) (Q.b h _) (notSet_ok hn))
      · cases e
    · cases e
  · cases e
    exact fz_ok (sWh_eq ▸ ss_while (fun _ _ => h.pass) (R.t h.ok _) (Q.b h _))
  · cases e
/-- e; y.append(e) -/
def rsExpr : RuleS := fun r q S st => match st with
  | .Expr (.Call (.Attribute (.Name y _) m p1) [e] [] cpos) _ => if m == ("append" : Str) && !isStarB e && (p1.endLine == cpos.line) then (slotOf S y).map fun i => fz S [e] (sApp i (r.e S e)) else none
  | .Expr e _ => if notComp e then some (fz S [e] (sExpr (r.e S e))) else none
  | _ => none
theorem rsExpr_ok : RuleS.Ok C rsExpr := fun r R q Q X S h st d e => by
  unfold rsExpr at e
  split at e
  · split at e
    · rename_i hh
      simp only [Bool.and_eq_true, Bool.not_eq_true'] at hh
      obtain ⟨⟨h1, h2⟩, h3⟩ := hh
      have h1 := eq_of_beq h1
      subst h1
      obtain ⟨i, hi, rfl⟩ := Option.map_eq_some_iff.mp e
      exact fz_ok (ss_app (slot_ok h.ok hi) (R.e h.ok _) h2 (swaps_no rfl) base_name h3)
    · cases e
  · split at e
    · rename_i hn
      cases e
      exact fz_ok (ss_expr (R.e h.ok _) (swaps_no hn))
    · cases e
  · cases e
/-- what a name gets -/
def adOf (r : Rec) (S : Sta) (x : Str) (e : Expr) : Ad := if S.mu x then (match r.l S e with
    | some d => .l d
    | none => (match r.k S e with
      | some d => .k d
      | none => .v (r.e S e))) else .v (r.e S e)
theorem adOf_ok {r : Rec} (R : Sound r) {X : Cx} {S : Sta} (h : StaOk X S) (x : Str) (e : Expr) : SAd X S.ct (adOf r S x e) e := by
  unfold adOf
  split
  · split
    · rename_i d hd
      exact sad_l (R.l h e d hd)
    · split
      · rename_i d hd
        exact sad_k (R.k h e d hd)
      · exact sad_v (R.e h e)
  · exact sad_v (R.e h e)
def rsSet : RuleS := fun r q S st => match st with
  | .Assign [.Name x _] e _ => if notComp e then (stOf S x).map fun i => fz S [e] (sSetA i (adOf r S x e)) else none
  | _ => none
theorem rsSet_ok : RuleS.Ok C rsSet := fun r R q Q X S h st d e => by
  unfold rsSet at e
  split at e
  · split at e
    · rename_i hn
      obtain ⟨i, hi, rfl⟩ := Option.map_eq_some_iff.mp e
      obtain ⟨a, b, c⟩ := st_ok h.ok hi
      exact fz_ok (ss_setA (by rw [h.ok.N]; exact h.ok.nd) a b (adOf_ok R h.ok _ _) (swaps_no hn) c)
    · cases e
  · cases e

/-! ### several names at once -/
def swNames (sc : Scope) (ts : List Expr) : List Str := ts.filterMap fun
  | .Name id pos => if sc.names.lookup id == some .local && pos.line == (ts.head?.map (·.pos.line)).getD 0 then some id else none
  | _ => none
def swDec (sc : Scope) (ts vs : List Expr) : Option (Option (List Str)) :=
  if (!(ts.length == 2 || ts.length == 3) || vs.length != ts.length) = true then some none
  else if (vs.any fun | .Starred .. => true | _ => false) = true then some none
  else if ((swNames sc ts).length != ts.length || (swNames sc ts).eraseDups.length != (swNames sc ts).length) = true then some none
  else if vs.all (foldedForSure 8) = true then some none
  else if vs.all (constantsAlone 8) = true then none
  else some (some (swNames sc ts))
theorem swDec_ok {sc : Scope} {ts vs : List Expr} {k k2} {p p2 : Pos} {env : PySem.Env} {o : Option (List Str)} (hs : env.scope = sc) (hb : env.blockKind = .function) (h : swDec sc ts vs = some o) : swappedStores [.Tuple ts k p] (.Tuple vs k2 p2) env = pure o := by
  subst hs
  unfold swDec at h
  unfold swappedStores
  have e0 : (env.blockKind != ScopeKind.function) = false := by rw [hb]; rfl
  simp only [e0, Bool.or_false]
  split at h
  · rename_i c1
    cases h
    exact if_pos c1
  · rename_i c1
    refine (if_neg c1).trans ?_
    split at h
    · rename_i c2
      cases h
      exact if_pos c2
    · rename_i c2
      refine (if_neg c2).trans ?_
      split at h
      · rename_i c3
        cases h
        exact if_pos c3
      · rename_i c3
        refine (if_neg c3).trans ?_
        split at h
        · rename_i c4
          cases h
          exact if_pos c4
        · rename_i c4
          refine (if_neg c4).trans ?_
          split at h
          · cases h
          · rename_i c5
            cases h
            exact if_neg c5
end PF

set_option Elab.async false
set_option linter.all false
set_option maxRecDepth 100000
set_option maxHeartbeats 2000000
/-! PF24: comprehensions of two clauses; comprehensions that a name gets. -/
namespace PF
open PySem PySem.Spec PyProof.Rows L2
variable [TabT]

/-! ### [el for tg in it if t for tg1 in it1 if t1] -/
def cIn (tg : Tgt) (t : Env → M Bool) (el : Env → M D) (ρ : Env) : List D → List D → M (List D)
  | [], acc => fun g => .ok acc g
  | x :: xs, acc => fun g => match tg.put x ρ with
    | some ρ1 => (calmR (t ρ1 g)).bind fun k g1 => if k = true then (calmR (el ρ1 g1)).bind fun y g2 => cIn tg t el ρ xs (acc ++ [y]) g2 else cIn tg t el ρ xs acc g1
    | none => .fail
def cLoop2 (tg : Tgt) (t : Env → M Bool) (it1 : Env → M (List D)) (tg1 : Tgt) (t1 : Env → M Bool) (el : Env → M D) (ρ : Env) : List D → List D → M (List D)
  | [], acc => fun g => .ok acc g
  | x :: xs, acc => fun g => match tg.put x ρ with
    | some ρ1 => (calmR (t ρ1 g)).bind fun k g1 => if k = true then (calmR (it1 ρ1 g1)).bind fun ys g2 => if acc.length + ys.length ≤ sizeLine then (cIn tg1 t1 el (wipeE ρ1 tg1.idx) ys acc g2).bind fun acc' g3 => cLoop2 tg t it1 tg1 t1 el ρ xs acc' g3 else .fail
        else cLoop2 tg t it1 tg1 t1 el ρ xs acc g1
    | none => .fail
def fComp2 (tg : Tgt) (vs : List Nat) (it : Env → M (List D)) (t : Env → M Bool) (it1 : Env → M (List D)) (tg1 : Tgt) (t1 : Env → M Bool) (el : Env → M D) : Env → M (List D) := fun ρ g => (it ρ g).bind fun xs g1 => cLoop2 tg t it1 tg1 t1 el (wipeE ρ vs) xs [] g1
section
variable {K : PySem.W.Frag} {ct : Nat → ClsInfo} {b : Option Addr} {F Fs F' : Addr → Prop} {H Hs H' : Hp} {g : List Int} {Dl : Addr}
/-- the list that grows is written -/
structure GrowE (b : Option Addr) (Fs : Addr → Prop) (Hs : Hp) (Dl : Addr) (F : Addr → Prop) (H : Hp) (g : List Int) (H' : Hp) : Prop where
  m : Mono F H F H'
  e : Ext b Fs Hs F H'
  B : Bg b g F H'
theorem grow_e {acc acc' : List V} (eS : Ext b Fs Hs F H) (B : Bg b g F H) (hDs : Nn Hs Dl) (nbD : b ≠ some Dl) (nf : ¬ F Dl) (hD : H Dl = some (.lst acc)) : GrowE b Fs Hs Dl F H g (upd H Dl (.lst acc')) := by
  have hne : ∀ c, F c → c ≠ Dl := fun c f z => nf (z ▸ f)
  have m5 : Mono F H F (upd H Dl (.lst acc')) := mono_upd nf (fun ws q => by rw [hD] at q; cases q) (fun o' u q => by rw [hD] at q; cases q)
  have eS5 : Ext b Fs Hs F (upd H Dl (.lst acc')) := by
    refine ⟨eS.mono, eS.fresh, fun c u h n nu => ?_, fun c f => ?_, fun c z => ?_, eS.tb.trans (TabE.upd (fun o2 h2 => by rw [hD] at h2; cases h2; exact pl_lst) nt_lst)⟩
    · rw [upd_ne (nn_ne h nu hDs)]; exact eS.keep c u h n nu
    · obtain ⟨o', q⟩ := eS.wf c f
      exact ⟨o', by rw [upd_ne (hne c f)]; exact q⟩
    · obtain ⟨n, ws, q⟩ := eS.bag c z
      exact ⟨n, ws, by rw [upd_ne (fun (q : c = Dl) => nbD (z.trans (by rw [q])))]; exact q⟩
  refine ⟨m5, eS5, ⟨eS5.wf, fun c z => ?_⟩⟩
  obtain ⟨q, n⟩ := B.bag c z
  exact ⟨by rw [upd_ne (fun (q : c = Dl) => nbD (z.trans (by rw [q])))]; exact q, n⟩
theorem nf_ext {acc : List V} (e : Ext b F H F' H') (nf : ¬ F Dl) (hD : H Dl = some (.lst acc)) : ¬ F' Dl := fun f => by
  rcases e.fresh Dl f with z | z
  · exact nf z
  · exact z _ hD nt_lst
theorem str_grow {ow : Nat → Option Addr} {σ : L2.St} {ρ : Env} {acc acc' : List V} (S : StR K b F H ow σ ρ g) (nf : ¬ F Dl) (nbD : b ≠ some Dl) (no : ∀ j, ow j ≠ some Dl) (hD : H Dl = some (.lst acc)) : StR K b F (upd H Dl (.lst acc')) ow σ ρ g :=
  S.other nf nbD no (fun ws q => by rw [hD] at q; cases q) (fun o' u q => by rw [hD] at q; cases q) (fun o2 h2 => by rw [hD] at h2; cases h2; exact pl_lst)
theorem lc2_read {F1 : Addr → Prop} {H1 : Hp} {ow : Nat → Option Addr} {σ : L2.St} {ρ : Env} {g1 : List Int} {vs : List Nat} {tg tg1 : Tgt} {t t1 : Env → M Bool} {it1 : Env → M (List D)} {el : Env → M D} {xs : List D} {J : It} {Q : VK} {WK' : WK}
    (hix : ∀ i ∈ tg.idx, i ∈ vs) (S1 : StR K b F1 H1 ow σ ρ g1) (e1 : Ext b Fs Hs F1 H1) (hJ : Walks K J F1 H1 xs) (hD : H1 Dl = none)
    (o : Out K ct b Fs Hs WK' (PVF K b Hs Q) (cLoop2 tg t it1 tg1 t1 el (wipeE ρ vs) xs [] g1)) :
    ∃ W : Nat → Nat → Hp → Prop, (∃ m, W 0 m (upd H1 Dl (.lst []))) ∧ ∀ i m H, W i m H →
      (J.stop i H ∧ Q (.ref Dl) H) ∨ (J.go i H ∧ ∃ Nx : Hp → Prop, (∀ H', Nx H' → ∃ m', m' < m ∧ W (i + 1) m' H') ∧ ∀ x H', J.yld i H x H' → gtOf K tg x (wipe σ vs) H' fun σ2 H2 => wipe σ2 vs = wipe σ vs ∧ rdT K ct noW t σ2 H2 fun b H3 =>
        if b = true then rdI K ct noW it1 σ2 H3 fun J1 H4 => ∃ W1 : Nat → Nat → Hp → Prop, (∃ m, W1 0 m H4) ∧ ∀ j k H, W1 j k H → (J1.stop j H ∧ Nx H) ∨ (J1.go j H ∧ ∃ Nx1 : Hp → Prop, (∀ H', Nx1 H' → ∃ k', k' < k ∧ W1 (j + 1) k' H') ∧
          ∀ x H', J1.yld j H x H' → gtOf K tg1 x (wipe σ2 tg1.idx) H' fun σ3 H5 => wipe σ3 tg1.idx = wipe σ2 tg1.idx ∧ rdT K ct noW t1 σ3 H5 fun b H6 => if b = true then rdE K ct noW el σ3 H6 fun y H7 => ∃ acc, H7 Dl = some (.lst acc) ∧ acc.length < sizeLine ∧ Nx1 (upd H7 Dl (.lst (acc ++ [y]))) else Nx1 H6)
        else Nx H3) := by
  have hDs : Nn Hs Dl := e1.none_of (S1.neNew hD) (nn_of hD)
  have nbD : b ≠ some Dl := S1.neNew hD
  have noD : ∀ j, ow j ≠ some Dl := fun j q => by
    obtain ⟨o', z, _⟩ := S1.oat j Dl q
    rw [hD] at z; cases z
  let W : Nat → Nat → Hp → Prop := fun i m H => ∃ F g acc accD, StR K b F H ow σ ρ g ∧ Ext b Fs Hs F H ∧ Mono F1 H1 F H ∧ ¬ F Dl ∧ H Dl = some (.lst acc) ∧ RepAll K F H acc accD ∧ m = xs.length - i ∧ i ≤ xs.length ∧
    Out K ct b Fs Hs WK' (PVF K b Hs Q) (cLoop2 tg t it1 tg1 t1 el (wipeE ρ vs) (xs.drop i) accD g)
  refine ⟨W, ⟨xs.length, ?_⟩, ?_⟩
  · have e2 := Ext.new (o := .lst []) S1.toBg hD
    have nf : ¬ F1 Dl := fun f => by
      obtain ⟨o', q, _⟩ := S1.wf Dl f
      rw [hD] at q; cases q
    exact ⟨F1, g1, [], [], S1.up e2 (S1.toBg.new hD), e1.trans e2, e2.up S1.toBg, nf, upd_same, .nil, rfl, Nat.zero_le _, o⟩
  · rintro i m H ⟨F, g, acc, accD, S, eS, mo, nf, hDl, ra, rfl, hi, oo⟩
    obtain ⟨w1, w2⟩ := hJ i b g F H mo S.toBg
    by_cases hlt : i < xs.length
    · have hget : xs[i]? = some xs[i] := List.getElem?_eq_getElem hlt
      obtain ⟨hgo, hy⟩ := w1 _ hget
      rw [List.drop_eq_getElem_cons hlt] at oo
      unfold cLoop2 at oo
      cases hx : tg.put xs[i] (wipeE ρ vs) with
      | none => rw [hx] at oo; exact oo.elim
      | some ρ1 =>
        rw [hx] at oo
        refine .inr ⟨hgo, W (i + 1) (xs.length - (i + 1)), fun H' hN => ⟨_, by omega, hN⟩, fun v H' hv => ?_⟩
        obtain ⟨e2, B2, rv⟩ := hy v H' hv
        have S2 := S.up e2 B2
        have Sw : StR K b F H' ow (wipe σ vs) (wipeE ρ vs) g := S2.wipe vs
        refine gt_read Sw rv hx fun σ2 ow2 S3 hs3 hw3 => ?_
        refine ⟨(hw3 vs hix).trans wipe_wipe, b, F, ow2, ρ1, g, S3, ?_⟩
        have oT : Out K ct b F H' (fun c dx H' => noW c dx σ2 H') _ (t ρ1 g) := Out.calm (Out.shift (Out.bind0 oo) (eS.trans e2))
        refine oT.imp fun k g3 F3 H3 e3 B3 o3 => ?_
        have S4 := S3.up e3 B3
        have eS3 := (eS.trans e2).trans e3
        have nf3 : ¬ F3 Dl := nf_ext e3 nf (e2.keep Dl _ hDl nbD)
        have hD3 : H3 Dl = some (.lst acc) := e3.keep Dl _ (e2.keep Dl _ hDl nbD) nbD
        have ra3 := (ra.up (e2.up S.toBg)).up (e3.up B2)
        have mo3 := (mo.trans (e2.up S.toBg)).trans (e3.up B2)
        have SO3 := S2.up e3 B3
        cases k with
        | false => exact ⟨F3, g3, acc, accD, SO3, eS3, mo3, nf3, hD3, ra3, rfl, hlt, o3⟩
        | true =>
          have o3 : Out K ct b Fs Hs WK' (PVF K b Hs Q) ((calmR (it1 ρ1 g3)).bind fun ys g2 => if accD.length + ys.length ≤ sizeLine then (cIn tg1 t1 el (wipeE ρ1 tg1.idx) ys accD g2).bind fun acc' g3 => cLoop2 tg t it1 tg1 t1 el (wipeE ρ vs) (xs.drop (i + 1)) acc' g3 else .fail) := o3
          refine ⟨b, F3, ow2, ρ1, g3, S4, ?_⟩
          have oI : Out K ct b F3 H3 (fun c dx H' => noW c dx σ2 H') _ (it1 ρ1 g3) := Out.calm (Out.shift (Out.bind0 o3) eS3)
          refine oI.imp fun ys g4 F4 H4 e4 B4 o4 J1 hJ1 => ?_
          by_cases hz : accD.length + ys.length ≤ sizeLine
          · rw [if_pos hz] at o4
            have no2 : ∀ j, ow2 j ≠ some Dl := fun j q => noD j (hs3 j Dl q)
            let W1 : Nat → Nat → Hp → Prop := fun j k H => ∃ F g acc aD, StR K b F H ow σ ρ g ∧ StR K b F H ow2 σ2 ρ1 g ∧ Ext b Fs Hs F H ∧ Mono F1 H1 F H ∧ Mono F4 H4 F H ∧ ¬ F Dl ∧ H Dl = some (.lst acc) ∧ RepAll K F H acc aD ∧ aD.length ≤ accD.length + j ∧ k = ys.length - j ∧ j ≤ ys.length ∧
              Out K ct b Fs Hs WK' (PVF K b Hs Q) ((cIn tg1 t1 el (wipeE ρ1 tg1.idx) (ys.drop j) aD g).bind fun acc' g3 => cLoop2 tg t it1 tg1 t1 el (wipeE ρ vs) (xs.drop (i + 1)) acc' g3)
            refine ⟨W1, ⟨ys.length, F4, g4, acc, accD, SO3.up e4 B4, S4.up e4 B4, eS3.trans e4, mo3.trans (e4.up B3), Mono.refl, nf_ext e4 nf3 hD3, e4.keep Dl _ hD3 nbD, ra3.up (e4.up B3), Nat.le_refl _, rfl, Nat.zero_le _, o4⟩, ?_⟩
            rintro j k H5 ⟨F5, g5, acc5, aD, SA, SB, eS5, mo5, mo45, nf5, hD5, ra5, hal, rfl, hj, o5⟩
            obtain ⟨w3, w4⟩ := hJ1 j b g5 F5 H5 mo45 SA.toBg
            by_cases hlt1 : j < ys.length
            · have hget1 : ys[j]? = some ys[j] := List.getElem?_eq_getElem hlt1
              obtain ⟨hgo1, hy1⟩ := w3 _ hget1
              rw [List.drop_eq_getElem_cons hlt1] at o5
              unfold cIn at o5
              cases hx1 : tg1.put ys[j] (wipeE ρ1 tg1.idx) with
              | none => rw [hx1] at o5; exact o5.elim
              | some ρ2 =>
                rw [hx1] at o5
                refine .inr ⟨hgo1, W1 (j + 1) (ys.length - (j + 1)), fun H' hN => ⟨_, by omega, hN⟩, fun v1 H6 hv1 => ?_⟩
                obtain ⟨e6, B6, rv1⟩ := hy1 v1 H6 hv1
                have SA6 := SA.up e6 B6
                have SB6 := SB.up e6 B6
                refine gt_read (SB6.wipe tg1.idx) rv1 hx1 fun σ3 ow3 S7 hs7 hw7 => ?_
                refine ⟨(hw7 _ fun _ h => h).trans wipe_wipe, b, F5, ow3, ρ2, g5, S7, ?_⟩
                have oT1 : Out K ct b F5 H6 (fun c dx H' => noW c dx σ3 H') (fun k1 g7 _ _ => Out K ct b Fs Hs WK' (PVF K b Hs Q) ((if k1 = true then (calmR (el ρ2 g7)).bind fun y g2 => cIn tg1 t1 el (wipeE ρ1 tg1.idx) (ys.drop (j + 1)) (aD ++ [y]) g2 else cIn tg1 t1 el (wipeE ρ1 tg1.idx) (ys.drop (j + 1)) aD g7).bind fun acc' g3 => cLoop2 tg t it1 tg1 t1 el (wipeE ρ vs) (xs.drop (i + 1)) acc' g3)) (t1 ρ2 g5) := by
                  have z : Out K ct b Fs Hs WK' (PVF K b Hs Q) (((calmR (t1 ρ2 g5)).bind fun k1 g7 => if k1 = true then (calmR (el ρ2 g7)).bind fun y g2 => cIn tg1 t1 el (wipeE ρ1 tg1.idx) (ys.drop (j + 1)) (aD ++ [y]) g2 else cIn tg1 t1 el (wipeE ρ1 tg1.idx) (ys.drop (j + 1)) aD g7).bind fun acc' g3 => cLoop2 tg t it1 tg1 t1 el (wipeE ρ vs) (xs.drop (i + 1)) acc' g3) := o5
                  generalize hr : t1 ρ2 g5 = r at z ⊢
                  cases r with
                  | ok k1 g7 => exact fun F' H' e B => z
                  | exc c p g7 => exact z.elim
                  | fail => exact z.elim
                refine oT1.imp fun k1 g7 F7 H7 e7 B7 o7 => ?_
                have SA7 := SA6.up e7 B7
                have SB7 := SB6.up e7 B7
                have eS7 := (eS5.trans e6).trans e7
                have nf7 : ¬ F7 Dl := nf_ext e7 nf5 (e6.keep Dl _ hD5 nbD)
                have hD7 : H7 Dl = some (.lst acc5) := e7.keep Dl _ (e6.keep Dl _ hD5 nbD) nbD
                have ra7 := (ra5.up (e6.up SA.toBg)).up (e7.up B6)
                have mo7 := (mo5.trans (e6.up SA.toBg)).trans (e7.up B6)
                have mo47 := (mo45.trans (e6.up SA.toBg)).trans (e7.up B6)
                cases k1 with
                | false => exact ⟨F7, g7, acc5, aD, SA7, SB7, eS7, mo7, mo47, nf7, hD7, ra7, by omega, rfl, hlt1, o7⟩
                | true =>
                  refine ⟨b, F7, ow3, ρ2, g7, S7.up e7 B7, ?_⟩
                  have o7 : Out K ct b Fs Hs WK' (PVF K b Hs Q) (((calmR (el ρ2 g7)).bind fun y g2 => cIn tg1 t1 el (wipeE ρ1 tg1.idx) (ys.drop (j + 1)) (aD ++ [y]) g2).bind fun acc' g3 => cLoop2 tg t it1 tg1 t1 el (wipeE ρ vs) (xs.drop (i + 1)) acc' g3) := o7
                  have oE : Out K ct b F7 H7 (fun c dx H' => noW c dx σ3 H') (fun y g8 _ _ => Out K ct b Fs Hs WK' (PVF K b Hs Q) ((cIn tg1 t1 el (wipeE ρ1 tg1.idx) (ys.drop (j + 1)) (aD ++ [y]) g8).bind fun acc' g3 => cLoop2 tg t it1 tg1 t1 el (wipeE ρ vs) (xs.drop (i + 1)) acc' g3)) (el ρ2 g7) := by
                    have z := o7
                    generalize hr : el ρ2 g7 = r at z ⊢
                    cases r with
                    | ok y g8 => exact fun F' H' e B => z
                    | exc c p g8 => exact z.elim
                    | fail => exact z.elim
                  refine oE.imp fun y g8 F8 H8 e8 B8 o8 v8 r8 => ?_
                  have nf8 := nf_ext e8 nf7 hD7
                  have hD8 : H8 Dl = some (.lst acc5) := e8.keep Dl _ hD7 nbD
                  have gr := grow_e (acc' := acc5 ++ [v8]) (eS7.trans e8) B8 hDs nbD nf8 hD8
                  have hacc : acc5.length = aD.length := ra5.length
                  refine ⟨acc5, hD8, by omega, F8, g8, acc5 ++ [v8], aD ++ [y], str_grow (SA7.up e8 B8) nf8 nbD noD hD8, str_grow (SB7.up e8 B8) nf8 nbD no2 hD8, gr.e, (mo7.trans (e8.up B7)).trans gr.m, (mo47.trans (e8.up B7)).trans gr.m, nf8, upd_same, ((ra7.up (e8.up B7)).append (.cons r8 .nil)).up gr.m, ?_, rfl, hlt1, o8⟩
                  rw [List.length_append]; simp; omega
            · have hge : ys.length ≤ j := by omega
              refine .inl ⟨w4 (List.getElem?_eq_none_iff.mpr hge), ?_⟩
              rw [List.drop_eq_nil_of_le hge] at o5
              exact ⟨F5, g5, acc5, aD, SA, eS5, mo5, nf5, hD5, ra5, rfl, hlt, o5⟩
          · rw [if_neg hz] at o4; exact o4.elim
    · have hge : xs.length ≤ i := by omega
      refine .inl ⟨w2 (List.getElem?_eq_none_iff.mpr hge), ?_⟩
      rw [List.drop_eq_nil_of_le hge] at oo
      have oo' : PVF K b Hs Q accD g F H := oo F H eS S.toBg
      exact oo' Dl acc hDs nf nbD hDl ra
end

/-! ### comprehensions by what they read -/
/-- what a comprehension is as a value and as what a name gets -/
structure SC (X : Cx) (ct : Nat → ClsInfo) (d : Env → M (List D)) (e : Expr) : Prop where
  sf : SF X ct d e
  set : ∀ (W : WX) (i : Nat) (y : Str) (py spos : Pos), Takes X W → X.N[i]? = some y → X.env.scope.names.lookup y = some .local → swapsWith e (some (.Name y py)) spos.line X.env = pure true → PS X (.Assign [.Name y py] e spos) (tAsg (rdF X.K ct W d) (gName i))
structure SCd (X : Cx) (ct : Nat → ClsInfo) (d : Env → M (List (D × D))) (e : Expr) : Prop where
  sf : SFd X ct d e
  set : ∀ (W : WX) (i : Nat) (y : Str) (py spos : Pos), Takes X W → X.N[i]? = some y → X.env.scope.names.lookup y = some .local → swapsWith e (some (.Name y py)) spos.line X.env = pure true → PS X (.Assign [.Name y py] e spos) (tAsg (rdFd X.K ct W d) (gName i))
section
variable {X : Cx} {ct : Nat → ClsInfo} {W : WX} {pos : Pos}
theorem lc_imp {tg : Tgt} {it : Env → M (List D)} {t : Env → M Bool} {el : Env → M D} {vs : List Nat} (hix : ∀ i ∈ tg.idx, i ∈ vs) {σ : L2.St} {H : Hp} {Q : VK} (h : rdF X.K ct W (fComp tg vs it t el) σ H Q) :
    tLc (rdI X.K ct W it) (gtOf X.K tg) (rdT X.K ct noW t) (rdE X.K ct noW el) vs σ H Q := by
  obtain ⟨b, F, ow, ρ, g, S, o⟩ := h
  refine ⟨b, F, ow, ρ, g, S, (Out.bind0 o).imp fun xs g1 F1 H1 e1 B1 o1 J hJ Dl hD => ?_⟩
  by_cases hz : xs.length ≤ sizeLine
  · rw [if_pos hz] at o1
    exact lc_read hix (S.up e1 B1) e1 hJ hD hz o1
  · rw [if_neg hz] at o1; exact o1.elim
theorem sc_lc {elt tge iter : Expr} {ifs : List Expr} {scope : Scope} {own : List (Str × Nat)} {tg : Tgt} {it : Env → M (List D)} {t : Env → M Bool} {el : Env → M D} (hc : X.calm = true) (hN : X.N.Nodup) (hi : SI X ct tge it iter) (ok : BlkOk X.N X.env.scope scope own)
    (hg : ∀ s H C cl fp, SG (blkCx X scope s H C cl fp) tg tge) (ht : ∀ s H C cl fp, STs (blkCx X scope s H C cl fp) ct t ifs) (he : ∀ s H C cl fp, SE (blkCx X scope s H C cl fp) ct el elt)
    (hs : ∀ x, foldedSetIterable iter X.env x = pure x) (hix : ∀ i ∈ tg.idx, i ∈ own.map (·.2)) : SC X ct (fComp tg (own.map (·.2)) it t el) (.ListComp elt [⟨tge, iter, ifs, 0⟩] scope pos) where
  sf := sf_lc hc hN hi ok hg ht he hs hix
  set := fun W i y py spos tk hy hyl hsw => psW (ps_setLc (g := gtOf X.K tg) (tt := rdT X.K ct noW t) (te := rdE X.K ct noW el) hc hN hy hyl hsw (hi W tk) ok (fun s H C cl fp => hg s H C cl fp) (fun s H C cl fp => ht s H C cl fp noW takes_blk) (fun s H C cl fp => he s H C cl fp noW takes_blk) hs) fun D σ H h => lc_imp hix h
theorem lc2_imp {tg tg1 : Tgt} {it it1 : Env → M (List D)} {t t1 : Env → M Bool} {el : Env → M D} {vs : List Nat} (hix : ∀ i ∈ tg.idx, i ∈ vs) {σ : L2.St} {H : Hp} {Q : VK} (h : rdF X.K ct W (fComp2 tg vs it t it1 tg1 t1 el) σ H Q) :
    tLc2 (rdI X.K ct W it) (gtOf X.K tg) (rdT X.K ct noW t) (rdI X.K ct noW it1) (gtOf X.K tg1) (rdT X.K ct noW t1) (rdE X.K ct noW el) vs tg1.idx σ H Q := by
  obtain ⟨b, F, ow, ρ, g, S, o⟩ := h
  exact ⟨b, F, ow, ρ, g, S, (Out.bind0 o).imp fun xs g1 F1 H1 e1 B1 o1 J hJ Dl hD => lc2_read hix (S.up e1 B1) e1 hJ hD o1⟩
theorem sc_lc2 {elt tge iter tge1 iter1 : Expr} {ifs ifs1 : List Expr} {scope : Scope} {own : List (Str × Nat)} {tg tg1 : Tgt} {it it1 : Env → M (List D)} {t t1 : Env → M Bool} {el : Env → M D} (hc : X.calm = true) (hN : X.N.Nodup) (hi : SI X ct tge it iter) (ok : BlkOk X.N X.env.scope scope own)
    (hg : ∀ s H C cl fp, SG (blkCx X scope s H C cl fp) tg tge) (ht : ∀ s H C cl fp, STs (blkCx X scope s H C cl fp) ct t ifs) (hi1 : ∀ s H C cl fp, SI (blkCx X scope s H C cl fp) ct tge1 it1 iter1) (hg1 : ∀ s H C cl fp, SG (blkCx X scope s H C cl fp) tg1 tge1) (ht1 : ∀ s H C cl fp, STs (blkCx X scope s H C cl fp) ct t1 ifs1) (he : ∀ s H C cl fp, SE (blkCx X scope s H C cl fp) ct el elt)
    (hs : ∀ x, foldedSetIterable iter X.env x = pure x) (hs1 : ∀ env x, foldedSetIterable iter1 env x = pure x) (hix : ∀ i ∈ tg.idx, i ∈ own.map (·.2)) (hix1 : ∀ i ∈ tg1.idx, i ∈ own.map (·.2)) :
    SC X ct (fComp2 tg (own.map (·.2)) it t it1 tg1 t1 el) (.ListComp elt [⟨tge, iter, ifs, 0⟩, ⟨tge1, iter1, ifs1, 0⟩] scope pos) where
  sf := fun W tk => peW (pe_lc2 (vs1 := tg1.idx) (g := gtOf X.K tg) (g1 := gtOf X.K tg1) (wi1 := rdI X.K ct noW it1) (tt := rdT X.K ct noW t) (tt1 := rdT X.K ct noW t1) (te := rdE X.K ct noW el) hc hN (hi W tk) ok hix1 (fun s H C cl fp => hg s H C cl fp) (fun s H C cl fp => ht s H C cl fp noW takes_blk) (fun s H C cl fp => hi1 s H C cl fp noW takes_blk) (fun s H C cl fp => hg1 s H C cl fp) (fun s H C cl fp => ht1 s H C cl fp noW takes_blk) (fun s H C cl fp => he s H C cl fp noW takes_blk) hs hs1) fun σ H Q h => lc2_imp hix h
  set := fun W i y py spos tk hy hyl hsw => psW (ps_setLc2 (vs1 := tg1.idx) (g := gtOf X.K tg) (g1 := gtOf X.K tg1) (wi1 := rdI X.K ct noW it1) (tt := rdT X.K ct noW t) (tt1 := rdT X.K ct noW t1) (te := rdE X.K ct noW el) hc hN hy hyl hsw (hi W tk) ok hix1 (fun s H C cl fp => hg s H C cl fp) (fun s H C cl fp => ht s H C cl fp noW takes_blk) (fun s H C cl fp => hi1 s H C cl fp noW takes_blk) (fun s H C cl fp => hg1 s H C cl fp) (fun s H C cl fp => ht1 s H C cl fp noW takes_blk) (fun s H C cl fp => he s H C cl fp noW takes_blk) hs hs1) fun D σ H h => lc2_imp hix h
theorem dc_imp {tg : Tgt} {it : Env → M (List D)} {t : Env → M Bool} {kx vx : Env → M D} {vs : List Nat} (hix : ∀ i ∈ tg.idx, i ∈ vs) {σ : L2.St} {H : Hp} {Q : VK} (h : rdFd X.K ct W (fDComp tg vs it t kx vx) σ H Q) :
    tDc (rdI X.K ct W it) (gtOf X.K tg) (rdT X.K ct noW t) (rdE X.K ct noW kx) (rdE X.K ct noW vx) vs σ H Q := by
  obtain ⟨b, F, ow, ρ, g, S, o⟩ := h
  refine ⟨b, F, ow, ρ, g, S, (Out.bind0 o).imp fun xs g1 F1 H1 e1 B1 o1 J hJ Dl hD => ?_⟩
  by_cases hz : xs.length ≤ sizeLine
  · rw [if_pos hz] at o1
    exact dc_read hix (S.up e1 B1) e1 hJ hD hz o1
  · rw [if_neg hz] at o1; exact o1.elim
end
end PF

set_option Elab.async false
set_option linter.all false
set_option maxRecDepth 100000
set_option maxHeartbeats 2000000
/-! PF25: comprehensions as rules; what a name gets, several names at once. -/
namespace PF
open PySem PySem.Spec PyProof.Rows L2
variable [TabT]

section
variable {X : Cx}
/-- name = {..: .. for ..} on one line, the name a local -/
theorem ps_setDc {i : Nat} {y : Str} {py : Pos} {kx vx tg iter : Expr} {ifs : List Expr} {scope : Scope} {own : List (Str × Nat)} {pos spos : Pos} {wi : TI} {g : TG} {tt : TT} {tk tv : TE} (hc : X.calm = true) (hN : X.N.Nodup) (hy : X.N[i]? = some y) (hyl : X.env.scope.names.lookup y = some .local)
    (hsw : swapsWith (.DictComp kx vx [⟨tg, iter, ifs, 0⟩] scope pos) (some (.Name y py)) spos.line X.env = pure true) (hi : PI X tg iter wi) (ok : BlkOk X.N X.env.scope scope own)
    (hg : ∀ (s : Shared) (H : Hp) (C : Addr) (cl : List (Str × Addr)) (fp : List Addr), PG (X.blk s H scope (compEnvC scope cl C X.env) fp) tg g) (ht : ∀ (s : Shared) (H : Hp) (C : Addr) (cl : List (Str × Addr)) (fp : List Addr), PTs (X.blk s H scope (compEnvC scope cl C X.env) fp) ifs tt)
    (hk : ∀ (s : Shared) (H : Hp) (C : Addr) (cl : List (Str × Addr)) (fp : List Addr), PE (X.blk s H scope (compEnvC scope cl C X.env) fp) kx tk)
    (he : ∀ (s : Shared) (H : Hp) (C : Addr) (cl : List (Str × Addr)) (fp : List Addr), PE (X.blk s H scope (compEnvC scope cl C X.env) fp) vx tv) (hs : ∀ x, foldedSetIterable iter X.env x = pure x) :
    PS X (.Assign [.Name y py] (.DictComp kx vx [⟨tg, iter, ifs, 0⟩] scope pos) spos) (tAsg (tDc wi g tt tk tv (own.map (·.2))) (gName i)) := by
  refine ⟨fun pins s σ H D I h => ?_⟩
  rw [exec_Assign_Name_used _ _ _ _ hsw]
  refine wpAny_bind (wpAny_standAt (wpAny_bind ?_))
  show wpAny _ X.A (do let _ ← comprehension (.DictComp kx vx [⟨tg, iter, ifs, 0⟩] scope pos) scope X.env (firstIterPos [⟨tg, iter, ifs, 0⟩] pos) newDict false (eval iter X.env) (some (assign (.Name y py) X.env))) _ _ s
  have h : tDc wi g tt tk tv (own.map (·.2)) σ H (fun x H1 => gName i x σ H1 D.nx) := h
  refine wpAny_bind (thn (dc_core (Qf := fun _ s' => SP X pins D .next s') hc hN I hi ok hg ht hk he hs h fun L C s' m H' I' q hn f => ?_) fun _ s' hq => wpAny_pure (wpAny_pure hq))
  show wpAny _ _ (assign (.Name y py) X.env (.ref L)) _ _ _
  refine wpAny_assign_Name (store_ok2 (v := V.ref L) I' hN hy (.inl hyl) rfl (fun s2 I2 ⟨a, sb, ha⟩ => ?_) (.inr hyl))
  obtain ⟨f0, f1, f2, f3, f4, f5⟩ := f
  have haC : C ≠ a := by
    rcases ha with z | z
    · rw [z]; exact f1
    · exact fun e => f4 y a z e.symm
  refine ⟨m, hn.sameBut sb haC, fun h3 sb3 => ?_⟩
  exact ⟨_, H', I2.turned (t' := s2.toks) (fun b o hb e => (sb3.2 b hb).trans e) f0 f1 f3 f4 f5, q⟩
variable {ct : Nat → ClsInfo} {pos : Pos}
theorem sc_dc {kxe vxe tge iter : Expr} {ifs : List Expr} {scope : Scope} {own : List (Str × Nat)} {tg : Tgt} {it : Env → M (List D)} {t : Env → M Bool} {kx vx : Env → M D} (hc : X.calm = true) (hN : X.N.Nodup) (hi : SI X ct tge it iter) (ok : BlkOk X.N X.env.scope scope own)
    (hg : ∀ s H C cl fp, SG (blkCx X scope s H C cl fp) tg tge) (ht : ∀ s H C cl fp, STs (blkCx X scope s H C cl fp) ct t ifs) (hk : ∀ s H C cl fp, SE (blkCx X scope s H C cl fp) ct kx kxe) (hv : ∀ s H C cl fp, SE (blkCx X scope s H C cl fp) ct vx vxe)
    (hs : ∀ x, foldedSetIterable iter X.env x = pure x) (hix : ∀ i ∈ tg.idx, i ∈ own.map (·.2)) : SCd X ct (fDComp tg (own.map (·.2)) it t kx vx) (.DictComp kxe vxe [⟨tge, iter, ifs, 0⟩] scope pos) where
  sf := sfd_dc hc hN hi ok hg ht hk hv hs hix
  set := fun W i y py spos tk hy hyl hsw => psW (ps_setDc (g := gtOf X.K tg) (tt := rdT X.K ct noW t) (tk := rdE X.K ct noW kx) (tv := rdE X.K ct noW vx) hc hN hy hyl hsw (hi W tk) ok (fun s H C cl fp => hg s H C cl fp) (fun s H C cl fp => ht s H C cl fp noW takes_blk) (fun s H C cl fp => hk s H C cl fp noW takes_blk) (fun s H C cl fp => hv s H C cl fp noW takes_blk) hs) fun D σ H h => dc_imp hix h
end

/-! ### comprehensions as rules -/
def rComp : Rec → Sta → Expr → Option (Env → M (List D)) := fun r S e => match e with
  | .ListComp elt [⟨tg, iter, ifs, 0⟩] scope _ => if notSet iter && blkC S.N S.sc scope (ownOf S.N scope.names) then (match tgOf (blkSta S scope) tg, ifsOf r (blkSta S scope) ifs with
    | some t, some ts => if tgIn t ((ownOf S.N scope.names).map (·.2)) then some (fComp t ((ownOf S.N scope.names).map (·.2)) (r.i S tg iter) ts (r.e (blkSta S scope) elt)) else none
    | _, _ => none) else none
  | .ListComp elt [⟨tg, iter, ifs, 0⟩, ⟨tg1, iter1, ifs1, 0⟩] scope _ => if notSet iter && notSet iter1 && blkC S.N S.sc scope (ownOf S.N scope.names) then (match tgOf (blkSta S scope) tg, ifsOf r (blkSta S scope) ifs, tgOf (blkSta S scope) tg1, ifsOf r (blkSta S scope) ifs1 with
    | some t, some ts, some t1, some ts1 => if tgIn t ((ownOf S.N scope.names).map (·.2)) && tgIn t1 ((ownOf S.N scope.names).map (·.2)) then some (fComp2 t ((ownOf S.N scope.names).map (·.2)) (r.i S tg iter) ts (r.i (blkSta S scope) tg1 iter1) t1 ts1 (r.e (blkSta S scope) elt)) else none
    | _, _, _, _ => none) else none
  | _ => none
theorem notSet_all {e : Expr} (h : notSet e = true) (env : PySem.Env) : ∀ x, foldedSetIterable e env x = pure x := by
  intro x
  cases e <;> first | rfl | (cases h; done)
theorem rComp_ok {r : Rec} (R : Sound r) {X : Cx} {S : Sta} (h : StaOk X S) {e : Expr} {d : Env → M (List D)} (q : rComp r S e = some d) : SC X S.ct d e := by
  have nd : X.N.Nodup := by rw [h.N]; exact h.nd
  unfold rComp at q
  split at q
  · split at q
    · rename_i hh
      obtain ⟨h1, h2⟩ := Bool.and_eq_true_iff.mp hh
      split at q
      · rename_i t ts ht hts
        split at q
        · rename_i hi
          cases q
          exact sc_lc h.calm nd (R.i h _ _) (blkOk_by (by rw [h.N, h.sc]; exact h2)) (fun s H C cl fp => tgOf_ok (blk_ok h _ s H C cl fp) ht) (fun s H C cl fp => ifsOf_ok R (blk_ok h _ s H C cl fp) hts) (fun s H C cl fp => R.e (blk_ok h _ s H C cl fp) _) (notSet_ok h1) (tgIn_ok hi)
        · cases q
      · cases q
    · cases q
  · split at q
    · rename_i hh
      obtain ⟨h12, h3⟩ := Bool.and_eq_true_iff.mp hh
      obtain ⟨h1, h2⟩ := Bool.and_eq_true_iff.mp h12
      split at q
      · rename_i t ts t1 ts1 ht hts ht1 hts1
        split at q
        · rename_i hi
          obtain ⟨hi1, hi2⟩ := Bool.and_eq_true_iff.mp hi
          cases q
          exact sc_lc2 h.calm nd (R.i h _ _) (blkOk_by (by rw [h.N, h.sc]; exact h3)) (fun s H C cl fp => tgOf_ok (blk_ok h _ s H C cl fp) ht) (fun s H C cl fp => ifsOf_ok R (blk_ok h _ s H C cl fp) hts) (fun s H C cl fp => R.i (blk_ok h _ s H C cl fp) _ _) (fun s H C cl fp => tgOf_ok (blk_ok h _ s H C cl fp) ht1) (fun s H C cl fp => ifsOf_ok R (blk_ok h _ s H C cl fp) hts1) (fun s H C cl fp => R.e (blk_ok h _ s H C cl fp) _) (notSet_ok h1) (notSet_all h2) (tgIn_ok hi1) (tgIn_ok hi2)
        · cases q
      · cases q
    · cases q
  · cases q
def rLcs : RuleL := fun r S e => rComp r S e
theorem rLcs_ok : rLcs.Ok := fun r R X S h e d q => (rComp_ok R h q).sf
def rDComp : Rec → Sta → Expr → Option (Env → M (List (D × D))) := fun r S e => match e with
  | .DictComp kx vx [⟨tg, iter, ifs, 0⟩] scope _ => if notSet iter && blkC S.N S.sc scope (ownOf S.N scope.names) then (match tgOf (blkSta S scope) tg, ifsOf r (blkSta S scope) ifs with
    | some t, some ts => if tgIn t ((ownOf S.N scope.names).map (·.2)) then some (fDComp t ((ownOf S.N scope.names).map (·.2)) (r.i S tg iter) ts (r.e (blkSta S scope) kx) (r.e (blkSta S scope) vx)) else none
    | _, _ => none) else none
  | _ => none
theorem rDComp_ok {r : Rec} (R : Sound r) {X : Cx} {S : Sta} (h : StaOk X S) {e : Expr} {d : Env → M (List (D × D))} (q : rDComp r S e = some d) : SCd X S.ct d e := by
  unfold rDComp at q
  split at q
  · split at q
    · rename_i hh
      obtain ⟨h1, h2⟩ := Bool.and_eq_true_iff.mp hh
      split at q
      · rename_i t ts ht hts
        split at q
        · rename_i hi
          cases q
          refine sc_dc h.calm (by rw [h.N]; exact h.nd) (R.i h _ _) (blkOk_by (by rw [h.N, h.sc]; exact h2)) (fun s H C cl fp => tgOf_ok (blk_ok h _ s H C cl fp) ht) (fun s H C cl fp => ifsOf_ok R (blk_ok h _ s H C cl fp) hts) (fun s H C cl fp => R.e (blk_ok h _ s H C cl fp) _) (fun s H C cl fp => R.e (blk_ok h _ s H C cl fp) _) (notSet_ok h1) (tgIn_ok hi)
        · cases q
      · cases q
    · cases q
  · cases q
def rDcs : RuleK := fun r S e => rDComp r S e
theorem rDcs_ok : rDcs.Ok := fun r R X S h e d q => (rDComp_ok R h q).sf

/-! ### a name gets a comprehension -/
def compSc : Expr → Option (Scope × Pos)
  | .ListComp _ _ s p => some (s, p)
  | .DictComp _ _ _ s p => some (s, p)
  | _ => none
def swB (sc scope : Scope) (y : Str) (py pos : Pos) : Bool := sc.names.lookup y == some .local && py.line == pos.line && !(scope.names.any fun (n, k) => n == y && (k == .local || k == .cell))
theorem swB_ok {e : Expr} {scope : Scope} {pos py : Pos} {y : Str} {l : Nat} {env : PySem.Env} (hc : compSc e = some (scope, pos)) (hb : env.blockKind = .function) : swapsWith e (some (.Name y py)) l env = pure (swB env.scope scope y py pos) := by
  unfold compSc at hc
  split at hc
  · cases hc
    unfold swapsWith swB
    simp only [hb]
    rfl
  · cases hc
    unfold swapsWith swB
    simp only [hb]
    rfl
  · cases hc
section
variable {C : FrC} {X : Cx} {ct : Nat → ClsInfo} {W : WS} {pos : Pos} {K : PySem.W.Frag} {F F' F1 F2 F0 : Addr → Prop} {H H' H1 H2 H0 : Hp} {b : Option Addr} {g g' : List Int} {ow : Nat → Option Addr} {σ : L2.St} {ρ : Env}
theorem rdAd_l {d : Env → M (List D)} {W : WX} {Q : VK} (h : rdAd K ct W (.l d) σ H Q) : rdF K ct W d σ H Q := by
  obtain ⟨b, F, ow, ρ, g, S, o⟩ := h
  exact ⟨b, F, ow, ρ, g, S, Out.imp (P := fun x g' F' H' => Out K ct b F' H' _ (PVS K b H Q) (.ok (.own x) g')) (Out.bind o) fun x g' F' H' e B p q vs h0 nf nb h1 r => Out.ok p B _ (some q) (.own h0 nf nb h1 r)⟩
theorem rdAd_k {d : Env → M (List (D × D))} {W : WX} {Q : VK} (h : rdAd K ct W (.k d) σ H Q) : rdFd K ct W d σ H Q := by
  obtain ⟨b, F, ow, ρ, g, S, o⟩ := h
  exact ⟨b, F, ow, ρ, g, S, Out.imp (P := fun x g' F' H' => Out K ct b F' H' _ (PVS K b H Q) (.ok (.ownd x) g')) (Out.bind o) fun x g' F' H' e B p q vs h0 nf nb h1 r => Out.ok p B _ (some q) (.ownd h0 nf nb h1 r)⟩
theorem rdAd_v {d : Env → M D} {W : WX} {Q : VK} (h : rdAd K ct W (.v d) σ H Q) : rdE K ct W d σ H Q := by
  obtain ⟨b, F, ow, ρ, g, S, o⟩ := h
  exact ⟨b, F, ow, ρ, g, S, Out.imp (P := fun x g' F' H' => Out K ct b F' H' _ (PVS K b H Q) (.ok (.val x) g')) (Out.bind o) fun x g' F' H' e B p v r => Out.ok p B v none (.val r)⟩
theorem rdE_frL {d : Env → M (List D)} {W : WX} {Q : VK} (h : rdE K ct W (frL d) σ H Q) : rdF K ct W d σ H Q := by
  obtain ⟨b, F, ow, ρ, g, S, o⟩ := h
  refine ⟨b, F, ow, ρ, g, S, (Out.bind0 o).imp fun x g' F' H' e B p q vs h0 nf nb h1 r => ?_⟩
  obtain ⟨e2, B2⟩ := ext_frz e B h0 nb h1
  exact p _ _ e2 B2 _ (.lst (.inl ⟨.inr rfl, .inl h1⟩) (r.up mono_addF))
theorem ps_lockNext {st : Stmt} {t : TS} (h : PS X st t) : PS X st (fun D σ H => t { D with nx := fun σ' H' => ∃ a u, H' a = some u ∧ Mut (some u) ∧ ∀ od, D.nx σ' (upd H' a (.frz od u)) } σ H) := ⟨fun pins s σ H D I q => by
  refine wpAny_mono (h.run pins s σ H _ I q) (fun r s' hq => ?_) fun _ _ e => e
  cases r with
  | next =>
    obtain ⟨σ', H', I', a, u, h1, mu, k⟩ := hq
    obtain ⟨od, I2⟩ := I'.lock h1 mu
    exact ⟨σ', _, I2, k od⟩
  | _ => exact hq⟩
theorem rdE_frD {d : Env → M (List (D × D))} {W : WX} {Q : VK} (h : rdE K ct W (frD d) σ H Q) : rdFd K ct W d σ H (fun v H1 => ∃ a u, v = .ref a ∧ H1 a = some u ∧ Mut (some u) ∧ ∀ od, Q v (upd H1 a (.frz od u))) := by
  obtain ⟨b, F, ow, ρ, g, S, o⟩ := h
  refine ⟨b, F, ow, ρ, g, S, (Out.bind0 o).imp fun x g' F' H' e B p q vs h0 nf nb h1 r => ⟨q, _, rfl, h1, r.mut, fun od => ?_⟩⟩
  obtain ⟨e2, B2, m⟩ := ext_lock (od := od) e B h0 nf nb h1 r.pl r.nfrz r.ntup
  exact p _ _ e2 B2 _ (.dct (.inr rfl) upd_same (r.up m))
theorem setA_read {i : Nat} {ad : Ad} {D' : Ends} {σ : L2.St} {H : Hp} (h : rdS C K ct W (sSetA i ad) D' σ H) : tAsg (rdAd K ct (WXof W) ad) (gName i) D' σ H := by
  obtain ⟨b, F, ow, ρ, g, S, o⟩ := h
  refine ⟨b, F, ow, ρ, g, S.st, (OutS.ofE S o).imp fun s g' F' H' e B p v oa n => ?_⟩
  have S' := S.up e B
  exact p b F' H' _ _ (S.setS S' i n) Mono.refl
theorem ss_setC {i : Nat} {x : Str} {e : Expr} {d : Env → M (List D)} {ad : Ad} {py spos : Pos} (h : SC X ct d e) (had : ad = .l d ∨ ad = .v (frL d)) (hy : X.N[i]? = some x) (hyl : X.env.scope.names.lookup x = some .local) (hsw : swapsWith e (some (.Name x py)) spos.line X.env = pure true) :
    SS C X ct (sSetA i ad) (.Assign [.Name x py] e spos) := fun W tk => psW (h.set (WXof W) i x py spos tk hy hyl hsw) fun D σ H q => by
  have z := setA_read q
  rcases had with rfl | rfl
  · exact rdAd_l z
  · exact rdE_frL (rdAd_v z)
theorem ss_setCd {i : Nat} {x : Str} {e : Expr} {d : Env → M (List (D × D))} {ad : Ad} {py spos : Pos} (h : SCd X ct d e) (had : ad = .k d ∨ ad = .v (frD d)) (hy : X.N[i]? = some x) (hyl : X.env.scope.names.lookup x = some .local) (hsw : swapsWith e (some (.Name x py)) spos.line X.env = pure true) :
    SS C X ct (sSetA i ad) (.Assign [.Name x py] e spos) := fun W tk => by
  rcases had with rfl | rfl
  · exact psW (h.set (WXof W) i x py spos tk hy hyl hsw) fun D σ H q => rdAd_k (setA_read q)
  · refine psW (ps_lockNext (h.set (WXof W) i x py spos tk hy hyl hsw)) fun D σ H q => ?_
    have z := rdE_frD (rdAd_v (setA_read q))
    obtain ⟨b, F, ow, ρ, g, S, o⟩ := z
    refine ⟨b, F, ow, ρ, g, S, o.imp fun x g' F' H' e B p v vs h0 nf nb h1 r => ?_⟩
    obtain ⟨a, u, _, h2, mu, k⟩ := p v vs h0 nf nb h1 r
    exact ⟨a, u, h2, mu, k⟩
end
variable {C : FrC}
def rsSetC : RuleS := fun r q S st => match st with
  | .Assign [.Name x py] e _ => (match compSc e, stOf S x with
    | some (scope, pos), some i =>
      if swB S.sc scope x py pos then (match rComp r S e with
        | some d => some (fz S [e] (sSetA i (if S.mu x then .l d else .v (frL d))))
        | none => (rDComp r S e).map fun d => fz S [e] (sSetA i (if S.mu x then .k d else .v (frD d))))
      else (match rComp r S e with
        | some d => some (fz S [e] (sSetA i (if S.mu x then .l d else .v (frL d))))
        | none => (rDComp r S e).map fun d => fz S [e] (sSetA i (if S.mu x then .k d else .v (frD d))))
    | _, _ => none)
  | _ => none
theorem rsSetC_ok : RuleS.Ok C rsSetC := fun r R q Q X S h st d e => by
  unfold rsSetC at e
  split at e
  · rename_i x py ee spos
    split at e
    · rename_i scope pos i hsc hi
      obtain ⟨a, b, c⟩ := st_ok h.ok hi
      have nd : X.N.Nodup := by rw [h.ok.N]; exact h.ok.nd
      have sw := swB_ok (y := x) (py := py) (l := spos.line) hsc h.blk
      rw [h.ok.sc] at sw
      split at e
      · rename_i hsw
        rw [hsw] at sw
        have hl : X.env.scope.names.lookup x = some .local := by
          rw [h.ok.sc]
          unfold swB at hsw
          simp only [Bool.and_eq_true] at hsw
          exact eq_of_beq hsw.1.1
        split at e
        · rename_i d' hd
          cases e
          refine fz_ok (ss_setC (rComp_ok R h.ok hd) ?_ a hl sw)
          split
          · exact .inl rfl
          · exact .inr rfl
        · obtain ⟨d', hd, rfl⟩ := Option.map_eq_some_iff.mp e
          refine fz_ok (ss_setCd (rDComp_ok R h.ok hd) ?_ a hl sw)
          split
          · exact .inl rfl
          · exact .inr rfl
      · rename_i hsw
        rw [show swB S.sc scope x py pos = false by simpa using hsw] at sw
        split at e
        · rename_i d' hd
          cases e
          refine fz_ok (ss_setA nd a b ?_ sw c)
          split
          · exact sad_l (rComp_ok R h.ok hd).sf
          · exact sad_v (rComp_ok R h.ok hd).sf.se
        · obtain ⟨d', hd, rfl⟩ := Option.map_eq_some_iff.mp e
          refine fz_ok (ss_setA nd a b ?_ sw c)
          split
          · exact sad_k (rDComp_ok R h.ok hd).sf
          · exact sad_v (rDComp_ok R h.ok hd).sf.se
    · cases e
  · cases e

/-! ### several names at once -/
section
variable {X : Cx} {ct : Nat → ClsInfo} {W : WS} {pos : Pos} {K : PySem.W.Frag} {F F' F1 F2 F0 : Addr → Prop} {H H' H1 H2 H0 : Hp} {b : Option Addr} {g g' : List Int} {ow : Nat → Option Addr} {σ : L2.St} {ρ : Env}
/-- x, y, z = .. with plain names: values alone -/
def sPar3 (i j l : Nat) (d1 d2 d3 : Env → M D) : Env → M Fl := fun ρ g => (d1 ρ g).bind fun x g1 => (d2 ρ g1).bind fun y g2 => (d3 ρ g2).bind fun z g3 => .ok (.next (((ρ.set i (some (.val x))).set j (some (.val y))).set l (some (.val z)))) g3
theorem par3_read {i j l : Nat} {d1 d2 d3 : Env → M D} {D' : Ends} (h : rdS C K ct W (sPar3 i j l d1 d2 d3) D' σ H) :
    tPar3 i j l (tCons (rdE K ct (WXof W) d1) (tCons (rdE K ct (WXof W) d2) (tCons (rdE K ct (WXof W) d3) tNil))) D' σ H := by
  obtain ⟨b, F, ow, ρ, g, S, o⟩ := h
  refine rs1e S o fun x g1 F1 H1 v S1 r1 o1 => ?_
  refine ⟨b, F1, ow, ρ, g1, S1.st, (OutS.ofE S1 o1).imp fun y g2 F2 H2 e2 B2 o2 w r2 => ?_⟩
  have S2 := S1.up e2 B2
  have r1 := r1.up (e2.up S1.bg)
  refine ⟨b, F2, ow, ρ, g2, S2.st, (OutS.ofE S2 o2).imp fun z g3 F3 H3 e3 B3 o3 u r3 => ?_⟩
  have S3 := S2.up e3 B3
  have r1 := r1.up (e3.up S2.bg)
  have r2 := r2.up (e3.up S2.bg)
  obtain ⟨ow1, T1⟩ := S3.set i r1
  obtain ⟨ow2, T2⟩ := T1.set j r2
  obtain ⟨ow3, T3⟩ := T2.set l r3
  exact ⟨v, w, u, rfl, o3 b F3 H3 ow3 _ T3 Mono.refl⟩
end
theorem sole_no {e t : Expr} {l : Nat} {env : PySem.Env} (h : notComp e = true) : swapsWithSole [t] e l env = pure false := by
  show swapsWith _ _ _ _ = _
  exact swaps_no h
def notTup : Expr → Bool
  | .Tuple _ _ _ => false
  | _ => true
theorem swNo {ts : List Expr} {k} {p : Pos} {e : Expr} {env : PySem.Env} (h : notTup e = true) : swappedStores [.Tuple ts k p] e env = pure none := by
  cases e <;> first | rfl | (cases h; done)
def locB (S : Sta) (x : Str) : Bool := S.sc.names.lookup x == some .local
def rsPar : RuleS := fun r q S st => match st with
  | .Assign [.Tuple ts k p] (.Tuple vs k2 p2) _ => (match swDec S.sc ts vs with
    | some none => (match tgOf S (.Tuple ts k p) with
      | some t => some (fz S vs (sUnp t (r.e S (.Tuple vs k2 p2))))
      | none => none)
    | some (some ns) => (match ts, vs with
      | [.Name x _, .Name y _], [a, c] => (match idxIn S.N x, idxIn S.N y with
        | some i, some j => if locB S x && locB S y && decide (i ≠ j) && !isStarB a && !isStarB c && decide (ns = [x, y]) then some (fz S vs (sPar i j (adOf r S x a) (adOf r S y c))) else none
        | _, _ => none)
      | [.Name x _, .Name y _, .Name z _], [a, c, e] => (match idxIn S.N x, idxIn S.N y, idxIn S.N z with
        | some i, some j, some l => if locB S x && locB S y && locB S z && decide (i ≠ j ∧ i ≠ l ∧ j ≠ l) && !isStarB a && !isStarB c && !isStarB e && decide (ns = [x, y, z]) then some (fz S vs (sPar3 i j l (r.e S a) (r.e S c) (r.e S e))) else none
        | _, _, _ => none)
      | _, _ => none)
    | none => none)
  | .Assign [.Tuple ts k p] e _ => if notTup e && notComp e then (match tgOf S (.Tuple ts k p) with
      | some t => some (fz S [e] (sUnp t (r.e S e)))
      | none => none) else none
  | _ => none
theorem rsPar_ok : RuleS.Ok C rsPar := fun r R q Q X S h st d e => by
  have nd : X.N.Nodup := by rw [h.ok.N]; exact h.ok.nd
  have at_ : ∀ {x : Str} {i : Nat}, idxIn S.N x = some i → X.N[i]? = some x := fun hx => by rw [h.ok.N]; exact idxIn_ok hx
  have lc : ∀ {x : Str}, locB S x = true → X.env.scope.names.lookup x = some .local := fun hx => by rw [h.ok.sc]; exact eq_of_beq hx
  unfold rsPar at e
  split at e
  · split at e
    · rename_i hsw
      split at e
      · rename_i t ht
        cases e
        exact fz_ok (ss_unp (tgOf_ok h.ok ht) (R.e h.ok _) (sole_no rfl) (swDec_ok h.ok.sc h.blk hsw) rfl)
      · cases e
    · rename_i ns hsw
      split at e
      · split at e
        · rename_i i j hi hj
          split at e
          · rename_i hh
            simp only [Bool.and_eq_true, Bool.not_eq_true', decide_eq_true_eq] at hh
            obtain ⟨⟨⟨⟨⟨h1, h2⟩, h3⟩, h4⟩, h5⟩, h6⟩ := hh
            subst h6
            cases e
            exact fz_ok (ss_par h.ok.calm nd (at_ hi) (at_ hj) h3 (lc h1) (lc h2) (adOf_ok R h.ok _ _) (adOf_ok R h.ok _ _) h4 h5 (swDec_ok h.ok.sc h.blk hsw))
          · cases e
        · cases e
      · split at e
        · rename_i i j l hi hj hl
          split at e
          · rename_i hh
            simp only [Bool.and_eq_true, Bool.not_eq_true', decide_eq_true_eq] at hh
            obtain ⟨⟨⟨⟨⟨⟨⟨h1, h2⟩, h3⟩, h4⟩, h5⟩, h6⟩, h7⟩, h8⟩ := hh
            subst h8
            cases e
            refine fz_ok fun W tk => psW (ps_par3 h.ok.calm nd (at_ hi) (at_ hj) (at_ hl) h4.1 h4.2.1 h4.2.2 (lc h1) (lc h2) (lc h3) (pa_cons (R.e h.ok _ (WXof W) tk) (pa_cons (R.e h.ok _ (WXof W) tk) (pa_cons (R.e h.ok _ (WXof W) tk) pa_nil (star_no h7)) (star_no h6)) (star_no h5)) (swDec_ok h.ok.sc h.blk hsw)) fun D σ H q => par3_read q
          · cases e
        · cases e
      · cases e
    · cases e
  · split at e
    · rename_i hh
      obtain ⟨h1, h2⟩ := Bool.and_eq_true_iff.mp hh
      split at e
      · rename_i t ht
        cases e
        exact fz_ok (ss_unp (tgOf_ok h.ok ht) (R.e h.ok _) (sole_no h2) (swNo h1) rfl)
      · cases e
    · cases e
  · cases e
end PF

set_option Elab.async false
set_option linter.all false
set_option maxRecDepth 100000
set_option maxHeartbeats 2000000
/-! PF26: y op= e, y[k] op= e, y[k] = e, y[k], y[l] = e, e'; raise. -/
namespace PF
open PySem PySem.Spec PyProof.Rows L2
variable [TabT]

/-! ### y op= e -/
def augAdd (a b : Int) : Option Int := some (a + b)
def augSub (a b : Int) : Option Int := some (a - b)
def augMul (a b : Int) : Option Int := if okMul a b = true then some (a * b) else none
def augD : Operator → Option (Int → Int → Option Int)
  | .Add => some augAdd
  | .Sub => some augSub
  | .Mult => some augMul
  | _ => none
def ipO (f : Int → Int → Option Int) : TIp := fun x y H Q => ∃ i j k, x = .int i ∧ y = .int j ∧ f i j = some k ∧ Q (.int k) H
theorem augD_ok {X : Cx} {op : Operator} {f : Int → Int → Option Int} (h : augD op = some f) : PIp X op (ipO f) := by
  intro pins s σ H x y v u Q I r1 r2 hq
  obtain ⟨i, j, k, rfl, rfl, hk, q⟩ := hq
  obtain ⟨t, rfl⟩ := r1
  obtain ⟨t', rfl⟩ := r2
  cases op <;> first | (cases h; done) | skip
  · cases h
    cases hk
    exact iadd_int ⟨.int _, H, I.tok _, ⟨_, rfl⟩, q⟩
  · cases h
    cases hk
    exact isub_int ⟨.int _, H, I.tok _, ⟨_, rfl⟩, q⟩
  · cases h
    unfold augMul at hk
    split at hk
    · rename_i hm
      cases hk
      refine imul_int ⟨.int _, H, I.tok _, ⟨_, rfl⟩, q⟩ ?_
      simp only [okMul, Bool.or_eq_true, Bool.and_eq_true, decide_eq_true_eq] at hm
      rcases hm with (hm | hm) | hm
      · exact CMul.ok (.inl hm)
      · exact CMul.ok (.inr hm)
      · exact CMulW.ok hm
    · cases hk
section
variable {C : FrC} {X : Cx} {ct : Nat → ClsInfo} {W : WS} {pos p p1 p2 : Pos} {e c : Expr} {i : Nat} {y : Str} {d dv di : Env → M D} {op : Operator} {f : Int → Int → Option Int}
def sAug (i : Nat) (f : Int → Int → Option Int) (dv : Env → M D) : Env → M Fl := fun ρ g => match ρ[i]? with
  | some (some (.val (.int a))) => (dv ρ g).bind fun x g1 => (match x with
    | .int b => (match f a b with
      | some k => .ok (.next (ρ.set i (some (.val (.int k))))) g1
      | none => .fail)
    | _ => .fail)
  | _ => .fail
theorem ss_aug (hN : X.N.Nodup) (hi : X.N[i]? = some y) (hx : Loc X.env.scope y) (hf : X.fn y = true ∨ X.env.scope.names.lookup y = some .local) (he : SE X ct dv e) (ho : augD op = some f) : SS C X ct (sAug i f dv) (.AugAssign (.Name y p) op e pos) := fun W tk => by
  refine psW (ps_aug hN hi hx (he (WXof W) tk) (augD_ok ho) hf) fun D σ H ⟨b, F, ow, ρ, g, S, o⟩ => ?_
  unfold sAug at o
  split at o
  · rename_i a ha
    obtain ⟨v, e1, r⟩ := S.st.get ha
    cases r
    refine ⟨.int a, e1, ?_⟩
    refine rs1e S o fun x g1 F1 H1 v1 S1 r1 o1 => ?_
    cases x <;> first | (exact o1.elim) | skip
    cases r1
    rename_i b2
    dsimp only at o1
    cases hk : f a b2 with
    | none => rw [hk] at o1; exact o1.elim
    | some k =>
      rw [hk] at o1
      obtain ⟨ow', S2⟩ := S1.set (v := .int k) (d := .int k) i (.int k)
      exact ⟨a, b2, k, rfl, rfl, hk, o1 b F1 H1 ow' _ S2 Mono.refl⟩
  · exact o.elim

/-! ### y[k] op= e -/
theorem get_list : PGet X (rIxL X.K) := by
  intro pins s σ H x y v u Q I rx ry h
  obtain ⟨p, xs, i, z, rfl, rfl, hq, he, q⟩ := h
  cases rx
  obtain ⟨t, rfl⟩ := ry
  obtain ⟨its, r, pl, hz⟩ := I.list hq
  obtain ⟨j, h1, h2, h3, h4, h5⟩ := atI_get he
  obtain ⟨w, ew, rw'⟩ := r.get h2
  have hl := r.length
  have hn := line63
  have fin : EP X pins σ Q w s := ⟨z, H, I, rw', q⟩
  by_cases h0 : 0 ≤ i
  · have hj : i.toNat = j := by
      rw [seqIndex_of h0 h5] at h1
      exact Option.some.inj h1
    exact wpAny_getItem_list pl.isList h0 (by omega) (by rw [hj]; simpa using ew) fin
  · have hj : (i + (its.toArray.size : Int)).toNat = j := by
      rw [seqIndex_neg (by omega) h4] at h1
      rw [List.size_toArray, ← hl]
      exact Option.some.inj h1
    exact wpAny_getItem_list_neg pl.isList (by omega) (by rw [List.size_toArray] <;> omega) (by omega) (by rw [hj]; simpa using ew) fin
def sAugL (i : Nat) (f : Int → Int → Option Int) (di dv : Env → M D) : Env → M Fl := fun ρ g => match ρ[i]? with
  | some (some (.own ds)) => (di ρ g).bind fun k g1 => (match k with
    | .int k => (match atI ds k, ixN ds.length k with
      | some (.int a), some j => (dv ρ g1).bind fun x g2 => (match x with
        | .int b => (match f a b with
          | some z => .ok (.next (ρ.set i (some (.own (ds.set j (.int z)))))) g2
          | none => .fail)
        | _ => .fail)
      | _, _ => .fail)
    | _ => .fail)
  | _ => .fail
theorem ss_augL (n : NmOk X i y) (hs : noSlice c = true) (ha : ∀ ov iv new, augStore c ov iv new = (do holding [new, ov, iv] (setItem ov iv new); release [new, ov, iv] []; pure .next)) (hc : SE X ct di c) (he : SE X ct dv e) (ho : augD op = some f) : SS C X ct (sAugL i f di dv) (.AugAssign (.Subscript (.Name y p) c p2) op e pos) := fun W tk => by
  refine psW (ps_augS (pe_var n.hN n.hv n.hd n.hcd) (hc (WXof W) tk) get_list (he (WXof W) tk) (augD_ok ho) set_list ha) fun D σ H ⟨b, F, ow, ρ, g, S, o⟩ => ?_
  unfold sAugL at o
  split at o
  · rename_i ds hi
    obtain ⟨a, vs, e0, ex, nf, h1, r0⟩ := S.st.slot i _ hi
    refine ⟨.ref a, ex, ?_⟩
    refine rs1e S o fun k g1 F1 H1 v S1 rk o1 => ?_
    obtain ⟨a1, vs1, e01, ex1, nf1, h11, r1⟩ := S1.st.slot i _ hi
    have ea : a1 = a := by rw [e0] at e01; cases e01; rfl
    subst ea
    cases k <;> first | (exact o1.elim) | skip
    cases rk
    rename_i k
    dsimp only at o1
    cases hat : atI ds k with
    | none => rw [hat] at o1; exact o1.elim
    | some z =>
      rw [hat] at o1
      cases z <;> first | (exact o1.elim) | skip
      rename_i z
      cases hj : ixN ds.length k with
      | none => rw [hj] at o1; exact o1.elim
      | some j =>
        rw [hj] at o1
        obtain ⟨w, hw, rw'⟩ := r1.at hat
        cases rw'
        refine ⟨a1, vs1, k, .int z, rfl, rfl, .of h11, hw, ?_⟩
        refine rs1e S1 o1 fun x g2 F2 H2 v2 S2 r2 o2 => ?_
        obtain ⟨a2, vs2, e02, ex2, nf2, h12, r2'⟩ := S2.st.slot i _ hi
        have ea2 : a2 = a1 := by rw [e0] at e02; cases e02; rfl
        subst ea2
        cases x <;> first | (exact o2.elim) | skip
        cases r2
        rename_i b2
        dsimp only at o2
        cases hf : f z b2 with
        | none => rw [hf] at o2; exact o2.elim
        | some zz =>
          rw [hf] at o2
          obtain ⟨S3, m⟩ := S2.writeL (ds' := ds.set j (.int zz)) hi e02 nf2 h12 (r2'.set j (.int zz))
          exact ⟨z, b2, zz, rfl, rfl, hf, a2, vs2, k, j, rfl, rfl, h12, by rw [r2'.length]; exact hj, o2 b F2 _ ow σ S3 m⟩
  · exact o.elim

/-! ### y[k] = e, y a dict of the frame's own -/
/-- such keys the dict takes -/
def keyInD (k : D) (ps : List (D × D)) : Bool := (isKeyD k && plainD ps) || ((tupKD k).isSome && entsD ps)
def sSetK (i : Nat) (di dv : Env → M D) : Env → M Fl := fun ρ g => match ρ[i]? with
  | some (some (.ownd ps)) => (dv ρ g).bind fun x g1 => (di ρ g1).bind fun k g2 => if keyInD k ps = true then (if ps.length < sizeLine then .ok (.next (ρ.set i (some (.ownd (putD ps k x))))) g2 else .fail) else .fail
  | _ => sSetL i di dv ρ g
theorem ss_setK (hu : X.A.units + 1 < cLine) (n : NmOk X i y) (sub : SubOk X (.Name y p) c e p2 pos) (hc : SE X ct di c) (he : SE X ct dv e) : SS C X ct (sSetK i di dv) (.Assign [.Subscript (.Name y p) c p2] e pos) := fun W tk => by
  have hL := ss_setL (C := C) n sub hc he W tk
  have hK := ps_dputE hu (pe_var n.hN n.hv n.hd n.hcd (pos := p)) (hc (WXof W) tk) (he (WXof W) tk) (show swapsWith e (some (.Subscript (.Name y p) c p2)) pos.line X.env = pure false from sub.hs)
  refine ⟨fun pins s σ H D I ⟨b, F, ow, ρ, g, S, o⟩ => ?_⟩
  unfold sSetK at o
  split at o
  · rename_i ps hi
    refine hK.run pins s σ H D I ?_
    refine rs1e S o fun x g1 F1 H1 v S1 rv o1 => ?_
    obtain ⟨a, w, e0, ex, nf, h1, r0⟩ := S1.st.slot i _ hi
    refine ⟨.ref a, ex, ?_⟩
    refine ⟨b, F1, ow, ρ, g1, S1.st, (OutS.ofE S1 o1).imp fun k g2 F2 H2 e2 B2 o2 u ru => ?_⟩
    have S2 := S1.up e2 B2
    have rv2 := rv.up (e2.up S1.bg)
    obtain ⟨a2, w2, e02, ex2, nf2, h12, r2⟩ := S2.st.slot i _ hi
    have ea : a2 = a := by rw [e0] at e02; cases e02; rfl
    subst ea
    by_cases hk : keyInD k ps = true
    · rw [if_pos hk] at o2
      by_cases hl : ps.length < sizeLine
      · rw [if_pos hl] at o2
        refine ⟨a2, rfl, ?_⟩
        rcases Bool.or_eq_true_iff.mp hk with hk | hk
        · obtain ⟨hk, hp⟩ := Bool.and_eq_true_iff.mp hk
          obtain ⟨kk, rfl⟩ := isKey_eq hk
          obtain rfl : u = kV kk := repKey ru
          obtain ⟨kvs2, eu, r3⟩ := r2.plain hp
          subst eu
          obtain ⟨S3, m⟩ := S2.writeD (ds' := putD ps (kD kk) x) hi e02 nf2 h12 (r3.put kk rv2)
          exact .inl ⟨_, DPut.k h12 (by rw [r3.length]; exact hl), o2 b F2 _ ow σ S3 m⟩
        · obtain ⟨hk, hp⟩ := Bool.and_eq_true_iff.mp hk
          obtain ⟨ns, ht⟩ := Option.isSome_iff_exists.mp hk
          obtain rfl := tupKD_eq ht
          obtain ⟨b', vs, rfl, hb, rt⟩ := ru.tuple
          rw [rt.ints] at hb
          obtain ⟨xs, hW, q⟩ := r2.wrE h12 hp
          refine .inr ⟨xs, ns, b', hW, rfl, hb, by rw [repEn_length q]; exact hl, fun r hr => ?_⟩
          obtain ⟨y0, r0', es⟩ := stored_ne xs (kInts ns) b' r
          have q2 := q.put ru hr rv2
          rw [es] at q2 ⊢
          obtain ⟨S3, m⟩ := S2.writeDo (ds' := putD ps (.tuple (ns.map .int)) x) hi e02 (.en rfl q2)
          exact o2 b F2 _ ow σ S3 m
      · rw [if_neg hl] at o2; exact o2.elim
    · rw [if_neg hk] at o2; exact o2.elim
  · exact hL.run pins s σ H D I ⟨b, F, ow, ρ, g, S, o⟩

/-! ### y[k], y[l] = e, y a list of the frame's own -/
def stAt (i : Nat) (di : Env → M D) (x : D) : Env → M Env := fun ρ g => match ρ[i]? with
  | some (some (.own ds)) => (di ρ g).bind fun k g1 => (match k with
    | .int k => (match ixN ds.length k with
      | some j => .ok (ρ.set i (some (.own (ds.set j x)))) g1
      | none => .fail)
    | _ => .fail)
  | _ => .fail
def sSwap (i : Nat) (d1 d2 dv : Env → M D) : Env → M Fl := fun ρ g => (dv ρ g).bind fun x g1 => (match x with
  | .tuple [a, c] => (stAt i d1 a ρ g1).bind fun ρ1 g2 => (stAt i d2 c ρ1 g2).bind fun ρ2 g3 => .ok (.next ρ2) g3
  | _ => .fail)
section
variable {K : PySem.W.Frag} {F : Addr → Prop} {H : Hp} {b : Option Addr} {ow : Nat → Option Addr} {σ : L2.St} {ρ : Env} {g : List Int}
theorem stAt_read {D' : Ends} {N : List Str} {x : D} {v : V} {k : Env → M Fl} {Q : L2.St → Hp → Prop} (S : SSt C K b F H ow σ ρ g) (r : Rep K F H v x) (o : OutS C K ct F H W D' ((stAt i di x ρ g).bind k))
    (f : ∀ g' F' H' ρ', SSt C K b F' H' ow σ ρ' g' → Mono F H F' H' → OutS C K ct F' H' W D' (k ρ' g') → Q σ H') : gSub (tVar i) (rdE K ct (WXof W) di) rSetL v σ H Q := by
  unfold stAt at o
  split at o
  · rename_i ds hi
    obtain ⟨a, vs, e0, ex, nf, h1, r0⟩ := S.st.slot i _ hi
    refine ⟨.ref a, ex, ?_⟩
    have o : OutS C K ct F H W D' ((di ρ g).bind fun kk g1 => (match kk with
        | .int kk => (match ixN ds.length kk with
          | some j => Res.ok (ρ.set i (some (.own (ds.set j x)))) g1
          | none => .fail)
        | _ => .fail : Res Env).bind k) := by
      generalize hz : di ρ g = z at o ⊢
      cases z with
      | ok y g1 => exact o
      | exc c p g1 => exact o
      | fail => exact o
    refine ⟨b, F, ow, ρ, g, S.st, (OutS.ofE S o).imp fun kk g2 F2 H2 e2 B2 o2 u ru => ?_⟩
    have S2 := S.up e2 B2
    have rv2 := r.up (e2.up S.bg)
    obtain ⟨a1, vs1, e01, ex1, nf1, h11, r1⟩ := S2.st.slot i _ hi
    have ea : a1 = a := by rw [e0] at e01; cases e01; rfl
    subst ea
    cases kk <;> first | (exact o2.elim) | skip
    cases ru
    rename_i kk
    dsimp only at o2
    cases hj : ixN ds.length kk with
    | none => rw [hj] at o2; exact o2.elim
    | some j =>
      rw [hj] at o2
      obtain ⟨S3, m⟩ := S2.writeL (ds' := ds.set j x) hi e01 nf1 h11 (r1.set j rv2)
      exact ⟨a1, vs1, kk, j, rfl, rfl, h11, by rw [r1.length]; exact hj, f g2 F2 _ _ S3 ((e2.up S.bg).trans m) (OutS.shift (r := k _ g2) o2 m)⟩
  · exact o.elim
end
theorem sub_assign {o c : Expr} {p2 : Pos} {env : PySem.Env} (h : noSlice c = true) : ∀ v, assign (.Subscript o c p2) env v = (do
      let ov ← holding [v] (eval o env)
      let iv ← holding [v, ov] (eval c env)
      standAt p2
      holding [v, ov, iv] (setItem ov iv v)
      release [v, ov, iv] []) := by
  intro v
  cases c <;> first | rfl | (cases h; done)
theorem sub_aug {c : Expr} (h : noSlice c = true) : ∀ ov iv new, augStore c ov iv new = (do holding [new, ov, iv] (setItem ov iv new); release [new, ov, iv] []; pure .next) := by
  intro ov iv new
  cases c <;> first | rfl | (cases h; done)
theorem sub_ok {X : Cx} {o c e : Expr} {p2 pos : Pos} (hc : noSlice c = true) : SubOk X o c e p2 pos where
  ha := sub_assign hc
  hs := by cases e <;> rfl
  hw := by cases e <;> rfl
  h1 := rfl
theorem ss_swap {c2 : Expr} {d1 d2 : Env → M D} {p3 p4 pt : Pos} {k : Nat} (n : NmOk X i y) (hcalm : X.calm = true) (h1 : noSlice c = true) (h2 : noSlice c2 = true) (hd1 : SE X ct d1 c) (hd2 : SE X ct d2 c2) (he : SE X ct dv e)
    (hs : swapsWithSole [.Tuple [.Subscript (.Name y p) c p2, .Subscript (.Name y p3) c2 p4] k pt] e pos.line X.env = pure false) (hw : swappedStores [.Tuple [.Subscript (.Name y p) c p2, .Subscript (.Name y p3) c2 p4] k pt] e X.env = pure none) :
    SS C X ct (sSwap i d1 d2 dv) (.Assign [.Tuple [.Subscript (.Name y p) c p2, .Subscript (.Name y p3) c2 p4] k pt] e pos) := fun W tk => by
  refine psW (ps_asg (he (WXof W) tk) (pg_tup hcalm (pgs_cons (pg_sub (pe_var n.hN n.hv n.hd n.hcd) (hd1 (WXof W) tk) set_list (sub_assign h1)) (pgs_cons (pg_sub (pe_var n.hN n.hv n.hd n.hcd) (hd2 (WXof W) tk) set_list (sub_assign h2)) pgs_nil))) hs hw rfl) fun D σ H ⟨b, F, ow, ρ, g, S, o⟩ => ?_
  refine rs1e S o fun x g1 F1 H1 v S1 rv o1 => ?_
  split at o1
  · rename_i a c'
    obtain ⟨q, ws, rfl, ht, rr⟩ := rv.tuple
    cases rr with
    | cons r1 rr => cases rr with
      | cons r2 rr =>
        cases rr
        refine ⟨q, _, rfl, ht, rfl, _, _, rfl, stAt_read (N := []) S1 r1 o1 fun g2 F2 H2 ρ2 S2 m2 o2 => ?_⟩
        refine ⟨_, _, rfl, stAt_read (N := []) S2 (r2.up m2) o2 fun g3 F3 H3 ρ3 S3 m3 o3 => ⟨rfl, OutS.next S3 o3⟩⟩
  · exact o1.elim
end

/-! ### the rules -/
variable {C : FrC}
def rsAug : RuleS := fun r q S st => match st with
  | .AugAssign (.Name y _) op e _ => (match stOf S y, augD op with
    | some i, some f => some (fz S [e] (sAug i f (r.e S e)))
    | _, _ => none)
  | .AugAssign (.Subscript (.Name y _) c _) op e _ => if noSlice c then (match slotOf S y, augD op with
    | some i, some f => some (fz S [c, e] (sAugL i f (r.e S c) (r.e S e)))
    | _, _ => none) else none
  | _ => none
theorem rsAug_ok : RuleS.Ok C rsAug := fun r R q Q X S h st d e => by
  have nd : X.N.Nodup := by rw [h.ok.N]; exact h.ok.nd
  unfold rsAug at e
  split at e
  · split at e
    · rename_i i f hi hf
      cases e
      obtain ⟨a, b, c⟩ := st_ok h.ok hi
      exact fz_ok (ss_aug nd a b c (R.e h.ok _) hf)
    · cases e
  · split at e
    · rename_i hs
      split at e
      · rename_i i f hi hf
        cases e
        exact fz_ok (ss_augL (slot_ok h.ok hi) hs (sub_aug hs) (R.e h.ok _) (R.e h.ok _) hf)
      · cases e
    · cases e
  · cases e
theorem sw_subs {o1 c1 o2 c2 : Expr} {p1 p2 pt : Pos} {k : Nat} {e : Expr} {env : PySem.Env} (he : notComp e = true) : swappedStores [.Tuple [.Subscript o1 c1 p1, .Subscript o2 c2 p2] k pt] e env = pure none := by
  cases e <;> first | rfl | skip
  rename_i vs k2 p3
  unfold swappedStores
  dsimp only
  split
  · rfl
  · split
    · rfl
    · exact if_pos rfl
def rsSub : RuleS := fun r q S st => match st with
  | .Assign [.Subscript (.Name y _) c _] e _ => if noSlice c then (slotOf S y).map fun i => fz S [c, e] (sSetK i (r.e S c) (r.e S e)) else none
  | .Assign [.Tuple [.Subscript (.Name y _) c _, .Subscript (.Name y2 _) c2 _] _ _] e _ => if noSlice c && noSlice c2 && y == y2 && notComp e then (slotOf S y).map fun i => fz S [c, c2, e] (sSwap i (r.e S c) (r.e S c2) (r.e S e)) else none
  | _ => none
theorem rsSub_ok : RuleS.Ok C rsSub := fun r R q Q X S h st d e => by
  unfold rsSub at e
  split at e
  · split at e
    · rename_i h1
      obtain ⟨i, hi, rfl⟩ := Option.map_eq_some_iff.mp e
      exact fz_ok (ss_setK (by have := h.ok.un; omega) (slot_ok h.ok hi) (sub_ok h1) (R.e h.ok _) (R.e h.ok _))
    · cases e
  · split at e
    · rename_i hh
      simp only [Bool.and_eq_true] at hh
      obtain ⟨⟨⟨h1, h2⟩, h3⟩, h4⟩ := hh
      have h3 := eq_of_beq h3
      subst h3
      obtain ⟨i, hi, rfl⟩ := Option.map_eq_some_iff.mp e
      exact fz_ok (ss_swap (slot_ok h.ok hi) h.ok.calm h1 h2 (R.e h.ok _) (R.e h.ok _) (R.e h.ok _) (sole_no h4) (sw_subs h4))
    · cases e
  · cases e
end PF

set_option Elab.async false
set_option linter.all false
set_option maxRecDepth 100000
set_option maxHeartbeats 2000000
/-! PF27: raise; the translator for statements, whole. -/
namespace PF
open PySem PySem.Spec PyProof.Rows L2
variable [TabT]
variable {C : FrC}

/-! ### raise -/
def rsRaise : RuleS := fun r q S st => match st with
  | .Raise (some (.Call (.Name x _) [e] [] _)) none _ => if glB S x && !isStarB e && decide (1 ≤ S.k) then (match S.cls x with
    | some c => (match (S.ct c).field with
      | some _ => some (fz S [e] (sRaise c (r.e S e)))
      | none => (match e with
        | .Constant (.str _) _ _ => some (sRaiseT c)
        | _ => none))
    | none => none) else none
  | _ => none
theorem rsRaise_ok : RuleS.Ok C rsRaise := fun r R q Q X S h st d e => by
  unfold rsRaise at e
  split at e
  · split at e
    · rename_i hh
      simp only [Bool.and_eq_true, Bool.not_eq_true', decide_eq_true_eq] at hh
      obtain ⟨⟨h1, h2⟩, h3⟩ := hh
      split at e
      · rename_i c hc
        have T := h.ok.cls _ _ hc
        obtain ⟨g1, g2⟩ := gl_ok h.ok h1
        split at e
        · rename_i f hf
          cases e
          obtain ⟨U⟩ := T.sup f hf
          have hr : Room (S.k - 1 + 1) X.A := by rw [Nat.sub_add_cancel h3]; exact h.ok.room
          exact fz_ok (ss_raise U hf h.ok.calm hr g1 T.hm (R.e h.ok _) h2 T.hdb)
        · rename_i hf
          split at e
          · cases e
            obtain ⟨B, n1, n2, bm, F1, F2⟩ := T.own hf
            exact ss_raiseT F1 F2 hf h.ok.calm g1 T.hm T.kp (raises_own T.sub T.ty) T.hdb
          · cases e
      · cases e
    · cases e
  · cases e

/-! ### all of it -/
def firstS (l : List RuleS) (r : Rec) (q : RecS) (S : Sta) (e : Stmt) : Option (Env → M Fl) := match l with
  | [] => none
  | ρ :: l => match ρ r q S e with
    | some d => some d
    | none => firstS l r q S e
theorem firstS_ok : ∀ {l : List RuleS}, (∀ ρ ∈ l, RuleS.Ok C ρ) → ∀ r, Sound r → ∀ q, SoundS C q → ∀ {X : Cx} {S : Sta}, StmOk C X S → ∀ e d, firstS l r q S e = some d → SS C X S.ct d e
  | [], _, _, _, _, _, _, _, _, _, _, z => by cases z
  | ρ :: l, ok, r, R, q, Q, X, S, h, e, d, z => by
    unfold firstS at z
    split at z
    · rename_i d' hd
      cases z
      exact ok ρ List.mem_cons_self r R q Q h e _ (by assumption)
    · exact firstS_ok (fun ρ' m => ok ρ' (List.mem_cons_of_mem _ m)) r R q Q h e d z
def stepS (l : List RuleS) (r : Rec) (q : RecS) (S : Sta) (e : Stmt) : Env → M Fl := (firstS l r q S e).getD sFail
theorem stepS_ok {l : List RuleS} (ok : ∀ ρ ∈ l, RuleS.Ok C ρ) {r : Rec} (R : Sound r) {q : RecS} (Q : SoundS C q) {X : Cx} {S : Sta} (h : StmOk C X S) (e : Stmt) : SS C X S.ct (stepS l r q S e) e := by
  unfold stepS
  cases z : firstS l r q S e with
  | none => exact ss_fail
  | some d => exact firstS_ok ok r R q Q h e d z
def blockS (s : Sta → Stmt → Env → M Fl) (S : Sta) : List Stmt → Env → M Fl
  | [] => sNext
  | [e] => s S e
  | e :: es => sSeq (s S e) (blockS s S es)
theorem blockS_ok {s : Sta → Stmt → Env → M Fl} {X : Cx} {S : Sta} (h : ∀ e, SS C X S.ct (s S e) e) : ∀ es, SSs C X S.ct (blockS s S es) es
  | [] => sss_nil
  | [e] => sss_one (h e)
  | e :: e2 :: es => sss_cons (h e) (blockS_ok h (e2 :: es))
def recS0 : RecS := ⟨fun _ _ => sFail, fun _ _ => sFail⟩
theorem recS0_ok : SoundS C recS0 := ⟨fun _ _ => ss_fail, fun _ _ => sss_fail⟩
def stepR (l : List RuleS) (r : Rec) (q : RecS) : RecS := ⟨stepS l r q, blockS (stepS l r q)⟩
theorem stepR_ok {l : List RuleS} (ok : ∀ ρ ∈ l, RuleS.Ok C ρ) {r : Rec} (R : Sound r) {q : RecS} (Q : SoundS C q) : SoundS C (stepR l r q) :=
  ⟨fun h e => stepS_ok ok R Q h e, fun h es => blockS_ok (fun e => stepS_ok ok R Q h e) es⟩
def recSN (l : List RuleS) (r : Rec) : Nat → RecS
  | 0 => recS0
  | n + 1 => stepR l r (recSN l r n)
theorem recSN_ok {l : List RuleS} (ok : ∀ ρ ∈ l, RuleS.Ok C ρ) {r : Rec} (R : Sound r) : ∀ n, SoundS C (recSN l r n)
  | 0 => recS0_ok
  | n + 1 => stepR_ok ok R (recSN_ok ok R n)
/-- a block that ends by «return e», e a new list -/
def blockF (r : Rec) (s : Sta → Stmt → Env → M Fl) (S : Sta) : List Stmt → Env → M (List D)
  | [] => dFail
  | [.Return (some e) _] => (r.l S e).getD dFail
  | e :: es => sSeqF (s S e) (blockF r s S es)
theorem blockF_ok {r : Rec} (R : Sound r) {s : Sta → Stmt → Env → M Fl} {X : Cx} {S : Sta} (hS : StaOk X S) (h : ∀ e, SS C X S.ct (s S e) e) : ∀ es, SSsF C X S.ct (blockF r s S es) es
  | [] => ssf_fail
  | e :: es => by
    unfold blockF
    split
    · rename_i e0 p0 heq
      cases heq
    · rename_i e0 p0 heq
      cases heq
      cases hq : r.l S e0 with
      | none => exact ssf_fail
      | some d => exact ssf_ret (R.l hS _ _ hq)
    · rename_i e1 es1 _ heq
      cases heq
      exact ssf_cons (h e) (blockF_ok R hS h es)
/-- the law's own block: box = make(..) makes the bag -/
def rsBag (bags : Str → Bool) : RuleS := fun r q S st => match st with
  | .Assign [.Name x _] e _ => if bags x && notComp e then (match stOf S x, r.l S e with
    | some i, some d => some (sBag i d)
    | _, _ => none) else none
  | _ => none
theorem rsBag_ok (bags : Str → Bool) : RuleS.Ok topFr (rsBag bags) := fun r R q Q X S h st d e => by
  unfold rsBag at e
  split at e
  · split at e
    · rename_i hh
      obtain ⟨_, hn⟩ := Bool.and_eq_true_iff.mp hh
      split at e
      · rename_i i d' hi hd
        cases e
        obtain ⟨a, b, c⟩ := st_ok h.ok hi
        exact ss_bag (by rw [h.ok.N]; exact h.ok.nd) a b (R.l h.ok _ _ hd) (swaps_no hn) c
      · cases e
    · cases e
  · cases e
end PF

set_option Elab.async false
set_option linter.all false
set_option maxRecDepth 100000
set_option maxHeartbeats 2000000
/-! PF28: the law's tables; defs that try a lambda, from their text. -/
namespace PF
open PySem PySem.Spec PyProof.Rows L2
variable [TabT]

structure Tb where
  cns : Str → Option D
  nog : Str → Bool
  cls : Str → Option Nat
  fld : Nat → Option Str
  sub : Nat → Nat → Bool
  isi : Str → Option (Nat × List Nat)
structure Ads where
  ca : Nat → Addr
  fa : Str → Addr
  lam : Str → Addr × Addr
def ctOf (tb : Tb) (ad : Ads) : Nat → ClsInfo := fun c => ⟨ad.ca c, tb.fld c⟩
/-- what the head tells -/
structure GlobOk (P : Program) (K : PySem.W.Frag) (mg : Str → Option Value) (tb : Tb) (ad : Ads) : Prop where
  cns : ∀ x z, tb.cns x = some z → ∃ v u, mg x = some u ∧ RelV v u ∧ ∀ F H, Rep K F H v z
  nog : ∀ x, tb.nog x = true → mg x = none
  hm : ∀ x c, tb.cls x = some c → mg x = some (.ref (ad.ca c)) ∧ (x == ("__debug__" : Str)) = false
  kp : ∀ c, PySem.W.keepIn K (.ref (ad.ca c)) = true
  sub : ∀ c, PySem.W.subIn K (.ref (ad.ca c)) (.type "BaseException") = some true
  ty : ∀ c, PySem.W.typeIn K (.ref (ad.ca c)) = some (.type "type")
  sup : ∀ c f, tb.fld c = some f → Nonempty (SupC P K (ad.ca c) f)
  own : ∀ c, tb.fld c = none → ∃ (B newId initId : String) (bmB : List Value), ExcBaseFacts B newId initId bmB ∧ PySem.W.excIn K (ad.ca c) bmB newId = true
  exm : ∀ c c', PySem.W.exmOne K (.ref (ad.ca c)) (.ref (ad.ca c')) = some (tb.sub c c')
  xf : ∀ c f, tb.fld c = some f → XfC K (ad.ca c) ∧ PySem.W.findIn K (.ref (ad.ca c)) f = some none
  tcl : ∀ c, TabT.cl c = ctOf tb ad c
  isi : ∀ x n l, tb.isi x = some (n, l) → IsiAt K mg (ctOf tb ad) x n l
section
variable {X : Cx} {tb : Tb} {ad : Ads}
theorem GlobOk.clsAt (G : GlobOk X.prog X.K X.mg tb ad) {x : Str} {c : Nat} (h : tb.cls x = some c) : ClsAt X (ctOf tb ad c) x :=
  ⟨(G.hm x c h).1, (G.hm x c h).2, G.kp c, G.sub c, G.ty c, fun f hf => G.sup c f hf, fun hf => G.own c hf⟩
end

def glN (sc : Scope) (x : Str) : Bool := decide (sc.names.lookup x = some .globalImplicit)
theorem glN_ok {sc : Scope} {x : Str} (h : glN sc x = true) : sc.names.lookup x = some .globalImplicit := of_decide_eq_true h
/-! ### what a clause returns -/
def xFldO (fl : Option Str) (f : Str) : D → M D := fun p g => if fl = some f then .ok p g else .fail
/-- oi: the exception's name's slot; gl: names that are global; fl: its field -/
def sxT (Ng : List Str) (sc : Scope) (oi : Option Nat) (fl : Option Str) : Nat → Expr → D → M D
  | 0, _ => xFail
  | n + 1, e => match e with
    | .Constant (.str z) _ _ => xC (.str z)
    | .Constant (.int z) _ _ => xC (.int z)
    | .Constant (.bool z) _ _ => xC (.bool z)
    | .Constant .none _ _ => xC .none
    | .Attribute (.Name x _) f _ => (match oi, idxIn Ng x with
      | some j, some i => if i = j && visB sc x && plainNm x then xFldO fl f else xFail
      | _, _ => xFail)
    | .BinOp a .Add b _ => xBin dAdd (sxT Ng sc oi fl n a) (sxT Ng sc oi fl n b)
    | .Call (.Name x _) [a] [] _ => if x == ("repr" : Str) && glN sc x && !isStarB a then xCall (on1 bRepr) (xCons (sxT Ng sc oi fl n a) xNil) else xFail
    | .Tuple es _ _ => xTup (sxs (fun e => if isStarB e then none else some (sxT Ng sc oi fl n e)) es)
    | .Subscript a (.Constant (.int z) j p) _ => xIx (sxT Ng sc oi fl n a) z
    | _ => xFail
where
  sxs (f : Expr → Option (D → M D)) : List Expr → D → M (List D)
    | [] => xNil
    | e :: es => match f e with
      | some d => xCons d (sxs f es)
      | none => fun _ _ => .fail
  xIx (da : D → M D) (z : Int) : D → M D := xBin dIx da (xC (.int z))
section
variable {X : Cx} {ct : Nat → ClsInfo} {ci : ClsInfo} {i : Option Nat}
theorem sx_ix {a : Expr} {da : D → M D} {z : Int} {j : Nat} {p pos : Pos} (ha : SX X ct ci i da a) : SX X ct ci i (sxT.xIx da z) (.Subscript a (.Constant (.int z) j p) pos) := fun aa oe cls dx pn hz hf ec => by
  refine peW (pe_ix (X := X.suite aa ((aa, oe) :: pn)) (IxR.or ix_list ix_tup) (ha aa oe cls dx pn hz hf ec) (sx_int aa oe cls dx pn hz hf ec (ct := ct) (i := i) (z := z)) (plain_ix rfl)) fun σ H Q ⟨b, F, g, p, B, E, hi, o⟩ => ?_
  refine rx1 B E hi o fun x g1 F1 H1 v e1 B1 E1 r1 o1 => ?_
  refine rx1 B1 E1 hi o1 fun y g2 F2 H2 w e2 B2 E2 r2 o2 => ?_
  cases hz' : dIx x y with
  | none => rw [hz'] at o2; exact o2.elim
  | some zz =>
    rw [hz'] at o2
    have r1 := r1.up (e2.up B1)
    cases x <;> first | (cases hz'; done) | skip
    · cases y <;> first | (cases hz'; done) | skip
      cases r2
      obtain ⟨p', vs, rfl, h1, q⟩ := (RepO.rep (b := b) r1).list
      obtain ⟨u, hu, ru⟩ := q.at hz'
      exact .inl ⟨p', vs, _, u, rfl, rfl, h1, hu, fin0 B2 ru fun F' H' u e B r => o2 F' H' e B u r⟩
    · cases y <;> first | (cases hz'; done) | skip
      cases r2
      obtain ⟨p', vs, rfl, h1, q⟩ := r1.tuple
      obtain ⟨u, hu, ru⟩ := q.at hz'
      exact .inr ⟨p', vs, _, u, rfl, rfl, h1, hu, fin0 B2 ru fun F' H' u e B r => o2 F' H' e B u r⟩
theorem sxT_ok {Ng : List Str} {sc : Scope} (hN : X.N = Ng) (hsc : X.env.scope = sc) (hgd : X.A.guards = some []) (hu : X.A.units + 180 < cLine) (hrep : X.mg "repr" = none) (hxf : ∀ f, ci.field = some f → XfC X.K ci.addr ∧ PySem.W.findIn X.K (.ref ci.addr) f = some none) :
    ∀ (n : Nat) (e : Expr), SX X ct ci i (sxT Ng sc i ci.field n e) e
  | 0, e => sx_fail
  | n + 1, e => by
    have ih := sxT_ok hN hsc hgd hu hrep hxf n
    unfold sxT
    split
    · exact sx_str
    · exact sx_int
    · exact sx_bl
    · exact sx_non
    · split
      · rename_i j k _ hk
        split
        · rename_i hh
          simp only [Bool.and_eq_true, decide_eq_true_eq] at hh
          obtain ⟨⟨h1, h2⟩, h3⟩ := hh
          subst h1
          unfold plainNm at h3
          obtain ⟨h3, h4⟩ := Bool.and_eq_true_iff.mp h3
          exact sx_fld (hxf _) (by rw [hN]; exact idxIn_ok hk) (by rw [hsc]; exact vis_ok h2) (by simpa using h3) (by simpa using h4) base_name
        · exact sx_fail
      · exact sx_fail
    · exact sx_bin (fun a pn => op2_add) (ih _) (ih _)
    · split
      · rename_i hh
        simp only [Bool.and_eq_true, Bool.not_eq_true'] at hh
        obtain ⟨⟨h1, h2⟩, h3⟩ := hh
        have h1 := eq_of_beq h1
        subst h1
        have hg : Gl X "repr" := by
          show X.env.scope.names.lookup _ = _
          rw [hsc]
          exact of_decide_eq_true h2
        exact sx_bi (id := "repr") (fun a pn => bi_repr (X := X.suite a pn) hgd (by show X.A.units + 128 < cLine; omega)) hg hrep (by first | rfl | kernel_rfl) (sxs_cons (ih _) sxs_nil h3) h3 rfl (by decide) rfl
      · exact sx_fail
    · refine sx_tup ?_
      rename_i es _ _
      induction es with
      | nil => exact sxs_nil
      | cons e es ihe =>
        unfold sxT.sxs
        split
        · rename_i d hd
          split at hd
          · cases hd
          · rename_i hs
            cases hd
            exact sxs_cons (ih _) ihe (by simpa using hs)
        · exact sxs_fail
    · exact sx_ix (ih _)
    · exact sx_fail
end

/-! ### the def -/
def sxDeep : Nat := 6
structure HdP where
  c : Nat
  oi : Option Nat
  e : Expr
def hdOf (tb : Tb) (Ng : List Str) (sc : Scope) : ExceptHandler → Option HdP
  | .ExceptHandler (some (.Name x _)) none [.Return (some e) _] _ => if glN sc x then (tb.cls x).map fun c => ⟨c, none, e⟩ else none
  | .ExceptHandler (some (.Name x _)) (some n) [.Return (some e) _] _ => if glN sc x && (sc.names.lookup n == some .local) then (match tb.cls x, idxIn Ng n with
    | some c, some i => some ⟨c, some i, e⟩
    | _, _ => none) else none
  | _ => none
def hdsP (tb : Tb) (Ng : List Str) (sc : Scope) : List ExceptHandler → Option (List HdP)
  | [] => some []
  | h :: hs => match hdOf tb Ng sc h, hdsP tb Ng sc hs with
    | some p, some ps => some (p :: ps)
    | _, _ => none
def HdP.hd (tb : Tb) (ad : Ads) (Ng : List Str) (sc : Scope) (p : HdP) : ClHd := ⟨ad.ca p.c, p.oi, fun c => tb.sub c p.c, fun c => sxT Ng sc p.oi (tb.fld c) sxDeep p.e⟩
def hdsM (tb : Tb) (Ng : List Str) (sc : Scope) (l : List HdP) : List ((Nat → Bool) × (Nat → D → M D)) := l.map fun p => (fun c => tb.sub c p.c, fun c => sxT Ng sc p.oi (tb.fld c) sxDeep p.e)
theorem hdsM_eq {tb : Tb} {ad : Ads} {Ng : List Str} {sc : Scope} (l : List HdP) : hdsM tb Ng sc l = hdsOf (l.map (HdP.hd tb ad Ng sc)) := by
  unfold hdsM hdsOf
  rw [List.map_map]
  rfl
/-- what stands behind the try -/
def restOf : List Stmt → Option D
  | [.Return (some (.Constant (.str z) _ _)) _] => some (.str z)
  | [.Return (some (.Tuple [.Constant (.str z) _ _] _ _)) _] => some (.tuple [.str z])
  | _ => none
def metOf (tb : Tb) (Ng : List Str) (sc : Scope) (a : Str) : List Stmt → Option Met
  | [.Try [.Expr (.Call (.Name a' _) [] [] _) _] (h0 :: hs) [] [] _, r] => if a' == a then (match hdsP tb Ng sc (h0 :: hs), restOf [r] with
    | some l, some z => some ⟨.drop, hdsM tb Ng sc l, z⟩
    | _, _ => none) else none
  | [.Try [.Return (some (.Call (.Name a' _) [] [] _)) _] (h0 :: hs) [] [] _] => if a' == a then (hdsP tb Ng sc (h0 :: hs)).map fun l => ⟨.ret, hdsM tb Ng sc l, .none⟩ else none
  | [.Try [.Return (some (.Tuple [.Constant (.str z) _ _, .Call (.Name a' _) [] [] _] _ _)) _] (h0 :: hs) [] [] _] => if a' == a then (hdsP tb Ng sc (h0 :: hs)).map fun l => ⟨.pair (.str z), hdsM tb Ng sc l, .none⟩ else none
  | _ => none
section
variable {X : Cx} {ct : Nat → ClsInfo} {Ng : List Str} {x a q : Str} {sg : Scope} {g : Addr} {cdg : Value} {L : List ClHd} {h0 : ExceptHandler} {hs : List ExceptHandler} {p1 p2 p3 p4 p5 p6 p7 : Pos} {z : Str} {j k : Nat}
/-- try: call() / except ..; return (z,) -/
theorem met_dropT (M : MetOk X ct Ng x sg g cdg (h0 :: hs) L) :
    LamX.GivesTo X Ng x sg g cdg [.Try [.Expr (.Call (.Name a p1) [] [] p2) p3] (h0 :: hs) [] [] p4, .Return (some (.Tuple [.Constant (.str z) j p5] k p7)) p6] a q (TTm X.K ct ⟨.drop, hdsOf L, .tuple [.str z]⟩) := by
  intro f c' s H Q tl act hc ⟨b, F, gg, dl, B, ht, o⟩
  refine ⟨_, pss_cons (ps_mix (X := metCx X Ng x sg g cdg s H) (Wout := fun _ _ _ _ => False)
    (tb := fun W D' σ H' => ∃ Ech : XK, (∀ cls d σ' H', Ech cls d H' → W cls d σ' H') ∧ σ[0]? = some (some (.ref f)) ∧ H' c' = some (LamX.CodeO c' q) ∧ tl Ech H' (fun _ H2 => D'.nx σ H2)) rfl rfl M.nd LamX.takes0 (fun W pn xe tk _ => ?_) (M.cls s H)) (pss_one (ps_ret (pe_tup (pa_cons pe_str pa_nil rfl)))), ?_⟩
  · refine ⟨fun pins s' σ H' D' I' ⟨Ech, hW, e1, e2, e3⟩ => ?_⟩
    exact (pss_one (ps_expr (act W pn xe Ech p1 p2 tk hW) rfl)).run pins s' σ H' D' I' ⟨e1, e2, e3⟩
  · refine ⟨fun cls d H' => ∀ σ', wMix X.K Ng.length (fun _ _ _ _ => False) _ (L.map (ClHd.cl X.K ct)) cls d σ' H', fun cls d σ' H' h => h σ', M.h0 f, hc, ht _ _ ?_⟩
    unfold metD at o
    cases hd : dl gg with
    | ok y g1 =>
      rw [hd] at o
      refine fun F' H' e B' v _ => ⟨by rw [sizeLine_eq]; exact Nat.le_of_ble_eq_true rfl, fun p hp => finT (X := X) B' hp (.cons (.str z) .nil) fun F2 H2 u e2 B2 r2 => ?_⟩
      exact o F2 H2 (e.trans e2) B2 u r2
    | exc c p g1 =>
      rw [hd] at o
      exact fun F' H' dx e B' E σ' => met_wish B' E L M.ex M.oi (Out.shift o e)
    | fail => rw [hd] at o; exact o.elim
end
section
variable {Y : Cx} {tb : Tb} {ad : Ads} {Ng : List Str} {x a : Str} {sg : Scope} {gf : Addr} {cdg : Value}
theorem clsOk_of {s : Shared} {H : Hp} (G : GlobOk Y.prog Y.K Y.mg tb ad) (hgd : Y.A.guards = some []) (hu : Y.A.units + 190 < cLine) (hrep : Y.mg "repr" = none) :
    ∀ {hs : List ExceptHandler} {l : List HdP}, hdsP tb Ng sg hs = some l → ClsOk (metCx Y Ng x sg gf cdg s H) hs ((l.map (HdP.hd tb ad Ng sg)).map (ClHd.cl Y.K (ctOf tb ad)))
  | [], l, e => by cases e; exact .nil
  | h :: hs, l, e => by
    unfold hdsP at e
    split at e
    · rename_i p ps hp hps
      cases e
      have ih := clsOk_of (s := s) (H := H) G hgd hu hrep hps
      have sx : ∀ c, SX (metCx Y Ng x sg gf cdg s H) (ctOf tb ad) (ctOf tb ad c) p.oi (sxT Ng sg p.oi (tb.fld c) sxDeep p.e) p.e := fun c =>
        sxT_ok (X := metCx Y Ng x sg gf cdg s H) (ci := ctOf tb ad c) rfl rfl hgd (by show Y.A.units + 3 + 180 < cLine; omega) hrep (fun f hf => G.xf c f hf) sxDeep p.e
      unfold hdOf at hp
      split at hp
      · split at hp
        · rename_i hgl
          obtain ⟨c, hc, rfl⟩ := Option.map_eq_some_iff.mp hp
          obtain ⟨m1, m2⟩ := G.hm _ _ hc
          refine .plain ⟨?_, m2, .inl m1⟩ (fun a oe cls d pn hz hf => clHd_pe (h := HdP.hd tb ad Ng sg ⟨c, none, _⟩) sx a oe cls d pn hz hf) ih
          exact glN_ok hgl
        · cases hp
      · split at hp
        · rename_i hgl
          obtain ⟨hg1, hg2⟩ := Bool.and_eq_true_iff.mp hgl
          split at hp
          · rename_i c i hc hi
            cases hp
            obtain ⟨m1, m2⟩ := G.hm _ _ hc
            refine .named ⟨?_, m2, .inl m1⟩ (idxIn_ok hi) (eq_of_beq hg2) (fun a oe cls d pn hz hf => clHd_pe (h := HdP.hd tb ad Ng sg ⟨c, some i, _⟩) sx a oe cls d pn hz hf) ih
            exact glN_ok hg1
          · cases hp
        · cases hp
      · cases hp
    · cases e
theorem idxIn_lt : ∀ {N : List Str} {x : Str} {i : Nat}, idxIn N x = some i → i < N.length := fun h => by
  have e := idxIn_ok h
  rcases Nat.lt_or_ge _ _ with q | q
  · exact q
  · rw [List.getElem?_eq_none_iff.mpr q] at e; cases e
theorem hdsP_oi : ∀ {hs : List ExceptHandler} {l : List HdP}, hdsP tb Ng sg hs = some l → ∀ p ∈ l, ∀ j, p.oi = some j → j < Ng.length
  | [], l, e, p, hp, j, hj => by cases e; cases hp
  | h :: hs, l, e, p, hp, j, hj => by
    unfold hdsP at e
    split at e
    · rename_i p' ps hp' hps
      cases e
      rcases List.mem_cons.mp hp with rfl | hp
      · unfold hdOf at hp'
        split at hp'
        · split at hp'
          · obtain ⟨c, hc, rfl⟩ := Option.map_eq_some_iff.mp hp'
            cases hj
          · cases hp'
        · split at hp'
          · split at hp'
            · rename_i hi
              cases hp'
              cases hj
              exact idxIn_lt hi
            · cases hp'
          · cases hp'
        · cases hp'
      · exact hdsP_oi hps p hp j hj
    · cases e
theorem metOk_of (G : GlobOk Y.prog Y.K Y.mg tb ad) (hgd : Y.A.guards = some []) (hu : Y.A.units + 190 < cLine) (hrep : Y.mg "repr" = none) (nd : Ng.Nodup) (h0 : ∀ f : Addr, (L2.start Ng [V.ref f])[0]? = some (some (V.ref f))) {hs : List ExceptHandler} {l : List HdP} (h : hdsP tb Ng sg hs = some l) :
    MetOk Y (ctOf tb ad) Ng x sg gf cdg hs (l.map (HdP.hd tb ad Ng sg)) where
  nd := nd
  ex := fun h hm c => by
    obtain ⟨p, hp, rfl⟩ := List.mem_map.mp hm
    exact G.exm c p.c
  oi := fun h' hm j hj => by
    obtain ⟨p, hp, rfl⟩ := List.mem_map.mp hm
    exact hdsP_oi h p hp j hj
  cls := fun s H => clsOk_of G hgd hu hrep h
  h0 := h0
theorem metOf_ok (G : GlobOk Y.prog Y.K Y.mg tb ad) (hgd : Y.A.guards = some []) (hu : Y.A.units + 190 < cLine) (hrep : Y.mg "repr" = none) (nd : Ng.Nodup) (h0 : ∀ f : Addr, (L2.start Ng [V.ref f])[0]? = some (some (V.ref f))) {body : List Stmt} {m : Met} (h : metOf tb Ng sg a body = some m) (q : Str) :
    LamX.GivesTo Y Ng x sg gf cdg body a q (TTm Y.K (ctOf tb ad) m) := by
  unfold metOf at h
  split at h
  · split at h
    · rename_i ha
      have ha := eq_of_beq ha
      subst ha
      split at h
      · rename_i l z hl hz
        cases h
        have M := metOk_of (x := x) (gf := gf) (cdg := cdg) G hgd hu hrep nd h0 hl
        rw [hdsM_eq (ad := ad)]
        unfold restOf at hz
        split at hz
        · rename_i heq
          cases heq
          cases hz
          exact met_drop M
        · rename_i heq
          cases heq
          cases hz
          exact met_dropT M
        · cases hz
      · cases h
    · cases h
  · split at h
    · rename_i ha
      have ha := eq_of_beq ha
      subst ha
      obtain ⟨l, hl, rfl⟩ := Option.map_eq_some_iff.mp h
      have M := metOk_of (x := x) (gf := gf) (cdg := cdg) G hgd hu hrep nd h0 hl
      rw [hdsM_eq (ad := ad)]
      exact met_ret M
    · cases h
  · split at h
    · rename_i ha
      have ha := eq_of_beq ha
      subst ha
      obtain ⟨l, hl, rfl⟩ := Option.map_eq_some_iff.mp h
      have M := metOk_of (x := x) (gf := gf) (cdg := cdg) G hgd hu hrep nd h0 hl
      rw [hdsM_eq (ad := ad)]
      exact met_pair M
    · cases h
  · cases h
end
end PF

set_option Elab.async false
set_option linter.all false
set_option maxRecDepth 100000
set_option maxHeartbeats 2000000
/-! PF29: all defs of a law, one behind another. -/
namespace PF
open PySem PySem.Spec PyProof.Rows L2

inductive DenK where
  | val (c : Callee)
  | new (den : List D → M (List D))
  | met (m : Met)
structure DefI where
  name : Str
  ps : List Str
  va : Option Str
  N : List Str
  k : Nat
  gq : Bool
  lam : Bool
  idx : Nat
  mu : List Str
  den : DenK
  /-- the name that it is known by at the end of the head -/
  gl : Str := name
/-- the rules in use -/
structure RuAll where
  e : Rules
  s : List RuleS
  top : List RuleS
  deepE : Nat
  deepS : Nat
structure RuAll.Ok (ru : RuAll) : Prop where
  e : ∀ [TabT], ru.e.Ok
  s : ∀ [TabT] (C : FrC), ∀ ρ ∈ ru.s, RuleS.Ok C ρ
  top : ∀ [TabT], ∀ ρ ∈ ru.top, RuleS.Ok topFr ρ

def feOf (ad : Ads) (d : DefI) : FE := match d.den with
  | .val c => .val (ad.fa d.gl) (d.k + 1) d.gq c
  | .new n => .new (ad.fa d.gl) (d.k + 1) d.gq n
  | .met m => .met m
def feT (ad : Ads) (k : Nat) : List DefI → Str → Option FE
  | [], _ => none
  | d :: r, x => if d.gl == x then (if d.k + 1 ≤ k then some (feOf ad d) else none) else feT ad k r x
def staD (tb : Tb) (ad : Ads) (prev : List DefI) (d : DefI) (sc : Scope) : Sta where
  N := d.N
  sc := sc
  k := d.k
  gd := d.gq
  fnC := fun _ => true
  fns := feT ad d.k prev
  cns := tb.cns
  nog := tb.nog
  cls := tb.cls
  ct := ctOf tb ad
  lam := if d.lam then some (ad.lam d.gl) else none
  mu := fun x => d.mu.contains x
  isi := tb.isi
def bodyD (ru : RuAll) (S : Sta) (body : List Stmt) : Env → M Fl := (recSN ru.s (recN ru.e ru.deepE) ru.deepS).b S body
def bodyF (ru : RuAll) (S : Sta) (body : List Stmt) : Env → M (List D) := blockF (recN ru.e ru.deepE) ((recSN ru.s (recN ru.e ru.deepE) ru.deepS).s) S body
def bodyT (ru : RuAll) (S : Sta) (body : List Stmt) : Env → M Fl := (recSN ru.top (recN ru.e ru.deepE) ru.deepS).b S body
/-- what the def's text means -/
def transD (ru : RuAll) (tb : Tb) (ad : Ads) (prev : List DefI) (d : DefI) (sc : Scope) (body : List Stmt) : Option DenK := match d.den with
  | .val c => (match d.va with
    | some _ => if c.bag then none else some (.val ⟨false, denOfS d.ps.length d.N.length (bodyD ru (staD tb ad prev d sc) body)⟩)
    | none => if c.bag then some (.val ⟨true, denOfB (d.ps.length - 1) d.N.length (bodyD ru (staD tb ad prev d sc) body)⟩) else some (.val ⟨false, denOf d.ps.length d.N.length (bodyD ru (staD tb ad prev d sc) body)⟩))
  | .new _ => (match d.va with
    | some _ => none
    | none => some (.new (denOfF d.ps.length d.N.length (bodyF ru (staD tb ad prev d sc) body))))
  | .met _ => (match d.ps, d.va with
    | [a], none => (metOf tb d.N sc a body).map .met
    | _, _ => none)
def fnScB (N ps : List Str) (sc : Scope) : Bool := decide (sc.kind = .function) && !sc.isCoroutine && !sc.isGenerator && decide N.Nodup && decide (N.take ps.length = ps) && (ps.all fun x => decide (sc.names.lookup x = some .local) || decide (sc.names.lookup x = some .cell)) && sc.names.all fun y => !decide (y.2 = .free)
theorem fnScB_ok {N ps : List Str} {sc : Scope} (h : fnScB N ps sc = true) : FnScope N ps sc := by
  unfold fnScB at h
  simp only [Bool.and_eq_true, Bool.not_eq_true', decide_eq_true_eq, List.all_eq_true, Bool.or_eq_true, decide_eq_false_iff_not] at h
  obtain ⟨⟨⟨⟨⟨⟨h1, h2⟩, h3⟩, h4⟩, h5⟩, h6⟩, h7⟩ := h
  exact ⟨h1, h2, h3, h4, h5, h6, h7⟩
/-- a def's own text -/
structure TxtI where
  params : Arguments
  body : List Stmt
  scope : Scope
def txtOf (P : Program) (i : Nat) : TxtI := match P.main.body[i]? with
  | some (.FunctionDef _ a b _ _ _ sc _ _ _) => ⟨a, b, sc⟩
  | _ => ⟨⟨[], [], none, [], [], none, []⟩, [], ⟨.function, [], false, false, []⟩⟩
/-- how its arguments are bound -/
def BindP (d : DefI) (t : TxtI) : Prop := ∀ (name qual : Str) (kV doc pm : Value) (an : Option Addr) (cdv ct : Value), match d.va with
  | none => ∀ us : List Value, us.length = d.ps.length → bindArgs (PySem.W.fnOf name qual t.params t.body t.scope .none kV doc pm an cdv ct) ⟨us, []⟩ = pure (d.ps.zip us)
  | some pv => ∀ us rest : List Value, us.length = d.ps.length → bindArgs (PySem.W.fnOf name qual t.params t.body t.scope .none kV doc pm an cdv ct) ⟨us ++ rest, []⟩ = (newTuple rest >>= fun t => pure (d.ps.zip us ++ [(pv, t)]))
/-- checks of the text alone -/
def okD (d : DefI) (t : TxtI) : Bool := fnScB d.N (match d.va with | none => d.ps | some pv => d.ps ++ [pv]) t.scope && !(d.gl == ("__debug__" : Str)) &&
  (match d.den with
    | .val c => if c.bag then decide (0 < d.ps.length) && decide (0 < d.N.length) else true
    | .new _ => true
    | .met _ => (match d.ps with | [a] => visB t.scope a && plainNm a && decide (d.N[0]? = some a) && decide (d.gl = d.name) | _ => false))
def Chain (ru : RuAll) (P : Program) (tb : Tb) (ad : Ads) : List DefI → List DefI → Prop
  | _, [] => True
  | prev, d :: r => transD ru tb ad prev d (txtOf P d.idx).scope (txtOf P d.idx).body = some d.den ∧ Chain ru P tb ad (d :: prev) r
def lamNm (x : Str) : Str := x ++ ".<locals>." ++ "<lambda>"
/-- what the head tells of a def -/
structure DefAt (P : Program) (K : PySem.W.Frag) (mg : Str → Option Value) (base : Heap) (ad : Ads) (T : List (Addr × Str)) (d : DefI) : Prop where
  lk : ∃ (oc : Value) (od : Option Addr) (osl : Array (Option Value)) (kV doc pm : Value) (an : Option Addr) (cdv ct : Value),
    K.lookup (ad.fa d.gl) = some ⟨oc, od, .func (PySem.W.fnOf d.name d.name (txtOf P d.idx).params (txtOf P d.idx).body (txtOf P d.idx).scope .none kV doc pm an cdv ct), osl⟩ ∧ PySem.W.codeIn K cdv d.name = true ∧
    (d.lam = true → cdv = .ref (ad.lam d.gl).1 ∧ LamX.TabB base mg (ad.lam d.gl).1 (ad.lam d.gl).2 ∧ ((ad.lam d.gl).2, lamNm d.name) ∈ T ∧ ∀ p ∈ T, p.1 = (ad.lam d.gl).2 → p.2 = lamNm d.name)
  kp : PySem.W.keepIn K (.ref (ad.fa d.gl)) = true
  hm : mg d.gl = some (.ref (ad.fa d.gl))

variable [TabT]
section
variable {P : Program} {w : World} {K : PySem.W.Frag} {mg : Str → Option Value} {base : Heap} {tb : Tb} {ad : Ads} {ru : RuAll}
/-- a def's promise -/
def FeG (P : Program) (w : World) (K : PySem.W.Frag) (mg : Str → Option Value) (base : Heap) (ct : Nat → ClsInfo) (ad : Ads) (d : DefI) : Prop := match d.den with
  | .val c => FnG P w K mg base (d.k + 1) d.gq (ad.fa d.gl) (spC K ct c) ∧ mg d.gl = some (.ref (ad.fa d.gl)) ∧ PySem.W.keepIn K (.ref (ad.fa d.gl)) = true ∧ (d.gl == ("__debug__" : Str)) = false
  | .new n => FnG P w K mg base (d.k + 1) d.gq (ad.fa d.gl) (spF K ct n) ∧ mg d.gl = some (.ref (ad.fa d.gl)) ∧ PySem.W.keepIn K (.ref (ad.fa d.gl)) = true ∧ (d.gl == ("__debug__" : Str)) = false
  | .met m => ∀ Y : Cx, Y.prog = P → Y.w = w → Y.K = K → Y.mg = mg → Y.base = base → Y.A.guards = some [] → (∃ k, Room k Y.A) → Nonempty (MetAt Y ct d.gl m)
theorem feT_ok {X : Cx} {ct : Nat → ClsInfo} {k : Nat} : ∀ {prev : List DefI}, (∀ d ∈ prev, FeG X.prog X.w X.K X.mg X.base ct ad d) → ∀ x fe, feT ad k prev x = some fe → FeOk X ct k x fe
  | [], _, x, fe, h => by cases h
  | d :: r, ok, x, fe, h => by
    unfold feT at h
    split at h
    · rename_i hx
      have hx := eq_of_beq hx
      subst hx
      split at h
      · rename_i hk
        cases h
        have o := ok d List.mem_cons_self
        unfold FeG at o
        unfold feOf
        cases hd : d.den with
        | val c => rw [hd] at o; exact ⟨hk, o.1, o.2.1, o.2.2.1, o.2.2.2⟩
        | new n => rw [hd] at o; exact ⟨hk, o.1, o.2.1, o.2.2.1, o.2.2.2⟩
        | met m => rw [hd] at o; exact o
      · cases h
    · exact feT_ok (fun d' m => ok d' (List.mem_cons_of_mem _ m)) x fe h
theorem stm_ok {C : FrC} {prev : List DefI} {d : DefI} {sc : Scope} {cdv : Value} {A : Around} {outer : List PySem.Env} {s : Shared} {H : Hp} {E : XK} (G : GlobOk P K mg tb ad) (prevOk : ∀ d ∈ prev, FeG P w K mg base (ctOf tb ad) ad d) (nd : d.N.Nodup) (kind : sc.kind = .function)
    (hr : Room d.k (A.deeper (envOfC d.name sc s.heap.objs.size (ad.fa d.gl) cdv))) (hg : GdOk d.gq A)
    (hl : d.lam = true → cdv = .ref (ad.lam d.gl).1 ∧ LamX.TabB base mg (ad.lam d.gl).1 (ad.lam d.gl).2 ∧ ((ad.lam d.gl).2, lamNm d.name) ∈ TabT.T ∧ ∀ p ∈ TabT.T, p.1 = (ad.lam d.gl).2 → p.2 = lamNm d.name) :
    StmOk C (fnCx P w K mg base d.N d.name sc (ad.fa d.gl) cdv A outer s H E) (staD tb ad prev d sc) where
  ok := {
    cls := fun x c h => GlobOk.clsAt (X := fnCx P w K mg base d.N d.name sc (ad.fa d.gl) cdv A outer s H E) G h
    tcl := fun c => G.tcl c
    xf := fun c f h => G.xf c f h
    isi := fun x n l h => G.isi x n l h
    N := rfl
    nd := nd
    sc := rfl
    calm := rfl
    room := hr
    gd := fun h => hg h
    fn := fun _ _ => rfl
    fns := feT_ok prevOk
    cns := fun x z h => G.cns x z h
    nog := fun x h => G.nog x h
    lam := fun c Pt h => by
      have h : (if d.lam then some (ad.lam d.gl) else none) = some (c, Pt) := h
      split at h
      · rename_i hl'
        obtain ⟨a1, a2, a3, a4⟩ := hl hl'
        have e := Option.some.inj h
        rw [e] at a1 a2 a3 a4
        exact ⟨a2, a1, a3, a4⟩
      · cases h }
  blk := by
    show (envOfC d.name sc s.heap.objs.size (ad.fa d.gl) cdv).blockKind = _
    unfold Env.blockKind
    show (if sc.kind.isAnnotationScope = true then _ else sc.kind) = _
    rw [kind]
    rfl
  pass := passes_of rfl
theorem def_ok (U : ru.Ok) (G : GlobOk P K mg tb ad) (hrep : mg "repr" = none) {prev : List DefI} (prevOk : ∀ d ∈ prev, FeG P w K mg base (ctOf tb ad) ad d) {d : DefI} (D : DefAt P K mg base ad TabT.T d) (hok : okD d (txtOf P d.idx) = true) (hb : BindP d (txtOf P d.idx))
    (tr : transD ru tb ad prev d (txtOf P d.idx).scope (txtOf P d.idx).body = some d.den) : FeG P w K mg base (ctOf tb ad) ad d := by
  obtain ⟨oc, od, osl, kV, doc, pm, an, cdv, ctv, lk, hcd, hl⟩ := D.lk
  unfold okD at hok
  simp only [Bool.and_eq_true, Bool.not_eq_true'] at hok
  obtain ⟨⟨hsc, hdb⟩, hden⟩ := hok
  have S := fnScB_ok hsc
  have R := recN_ok (U.e) ru.deepE
  have body : BodyG P w K mg base (ctOf tb ad) d.k d.gq d.N d.name (txtOf P d.idx).scope (ad.fa d.gl) cdv (txtOf P d.idx).body (bodyD ru (staD tb ad prev d (txtOf P d.idx).scope) (txtOf P d.idx).body) := fun C A outer s H E hr hg =>
    (recSN_ok (C := C) (U.s C) R ru.deepS).b (stm_ok G prevOk S.nd S.kind hr hg hl) _
  unfold transD at tr
  unfold FeG
  cases hd : d.den with
  | val c =>
    rw [hd] at tr hden
    refine ⟨?_, D.hm, D.kp, hdb⟩
    dsimp only at tr
    cases hva : d.va with
    | some pv =>
      rw [hva] at tr
      rw [hva] at S
      dsimp only at tr
      split at tr
      · cases tr
      · cases tr
        refine fn_ofS lk hcd S (fun us rest hu => ?_) body
        have z := hb d.name d.name kV doc pm an cdv ctv
        rw [hva] at z
        exact z us rest hu
    | none =>
      rw [hva] at tr
      rw [hva] at S
      have z := hb d.name d.name kV doc pm an cdv ctv
      rw [hva] at z
      dsimp only at tr
      split at tr
      · rename_i hbag
        dsimp only at hden
        rw [if_pos hbag] at hden
        cases tr
        simp only [Bool.and_eq_true, decide_eq_true_eq] at hden
        exact fn_ofB lk hcd S z hden.1 hden.2 body
      · cases tr
        exact fn_ofG lk hcd S z body
  | new n =>
    rw [hd] at tr
    refine ⟨?_, D.hm, D.kp, hdb⟩
    dsimp only at tr
    cases hva : d.va with
    | some pv => rw [hva] at tr; cases tr
    | none =>
      rw [hva] at tr
      rw [hva] at S
      have z := hb d.name d.name kV doc pm an cdv ctv
      rw [hva] at z
      cases tr
      refine fn_ofF lk hcd S z fun C A outer s H E hr hg => ?_
      have st := stm_ok (C := C) (outer := outer) (H := H) (E := E) G prevOk S.nd S.kind hr hg hl
      exact blockF_ok R st.ok (fun e => (recSN_ok (C := C) (U.s C) R ru.deepS).s st e) _
  | met m =>
    rw [hd] at tr hden
    dsimp only at tr hden
    cases hva : d.va with
    | some pv =>
      rw [hva] at tr
      split at tr
      · rename_i heq; cases heq
      · cases tr
    | none =>
      rw [hva] at tr
      rw [hva] at S
      have z := hb d.name d.name kV doc pm an cdv ctv
      rw [hva] at z
      cases hps : d.ps with
      | nil => rw [hps] at hden; cases hden
      | cons a rest =>
        rw [hps] at hden tr S z
        cases rest with
        | cons a2 r2 => cases hden
        | nil =>
          simp only [Bool.and_eq_true, decide_eq_true_eq] at hden
          obtain ⟨⟨⟨hv, hp⟩, hN⟩, hgn⟩ := hden
          have hm2 := D.hm
          have kp2 := D.kp
          rw [hgn] at hm2 kp2 lk hdb ⊢
          obtain ⟨m', hm', e⟩ := Option.map_eq_some_iff.mp tr
          cases e
          unfold plainNm at hp
          obtain ⟨hp1, hp2⟩ := Bool.and_eq_true_iff.mp hp
          intro Y e1 e2 e3 e4 e5 hgd ⟨k, hroom⟩
          subst e1 e2 e3 e4 e5
          have hu := hroom.un
          have h0 : ∀ f : Addr, (L2.start d.N [V.ref f])[0]? = some (some (V.ref f)) := fun f => rfl
          exact ⟨{ gf := ad.fa d.name, a := a, pg := _, bg := _, sg := _, dV := .none, kV := kV, doc := doc, pm := pm, cdv := cdv, ctv := ctv, oc := oc, an := an, od := od, osl := osl, Ng := d.N,
                   hm := hm2, hk := kp2, lk := lk, hcg := hcd, hb := L2.Binds.all z, Sg := S, hNg := hN, hva := vis_ok hv, hG := fun q => metOf_ok (Y := Y) G hgd (by omega) hrep S.nd h0 hm' q,
                   hdb := hdb, hd := (by simpa using hp1), hcd := (by simpa using hp2) }⟩
end
end PF

set_option Elab.async false
set_option linter.all false
set_option maxRecDepth 100000
set_option maxHeartbeats 2000000
/-! PF30: the chain of defs; the law's own def; its call from outside. -/
namespace PF
open PySem PySem.Spec PyProof.Rows L2

section
variable [TabT]
variable {P : Program} {w : World} {K : PySem.W.Frag} {mg : Str → Option Value} {base : Heap} {tb : Tb} {ad : Ads} {ru : RuAll}
theorem chain_ok (U : ru.Ok) (G : GlobOk P K mg tb ad) (hrep : mg "repr" = none) : ∀ {defs prev : List DefI}, (∀ d ∈ defs, DefAt P K mg base ad TabT.T d) → (∀ d ∈ defs, okD d (txtOf P d.idx) = true) → (∀ d ∈ defs, BindP d (txtOf P d.idx)) → Chain ru P tb ad prev defs →
    (∀ d ∈ prev, FeG P w K mg base (ctOf tb ad) ad d) → ∀ d ∈ defs.reverse ++ prev, FeG P w K mg base (ctOf tb ad) ad d
  | [], prev, _, _, _, _, hp, d, hd => hp d (by simpa using hd)
  | d0 :: r, prev, hD, hok, hb, ⟨tr, ch⟩, hp, d, hd => by
    have h0 := def_ok U G hrep hp (hD d0 List.mem_cons_self) (hok d0 List.mem_cons_self) (hb d0 List.mem_cons_self) tr
    refine chain_ok U G hrep (prev := d0 :: prev) (fun d m => hD d (List.mem_cons_of_mem _ m)) (fun d m => hok d (List.mem_cons_of_mem _ m)) (fun d m => hb d (List.mem_cons_of_mem _ m)) ch (fun d m => ?_) d (by simpa using hd)
    rcases List.mem_cons.mp m with rfl | m
    · exact h0
    · exact hp d m
/-- the law's promise -/
def spLaw (K : PySem.W.Frag) (den : List D → M D) : Sp := fun vs H Q _ =>
  ∃ (a : Addr) (ns : List Int), vs = [.ref a] ∧ SqL K H a (ns.map V.int) ∧ TabA H ∧ (∃ g, den [.list (ns.map .int)] [] = .ok (.bool true) g) ∧ ∀ H', Q (.bl true) H'
theorem law_start {H : Hp} {a : Addr} {ns : List Int} (h : SqL K H a (ns.map V.int)) : ∃ F : Addr → Prop, Bg none [] F H ∧ Rep K F H (.ref a) (.list (ns.map .int)) := by
  rcases h with h | h
  · refine ⟨fun b => b = a, ⟨fun b e => ?_, fun b e => nomatch e⟩, .lst (.inl ⟨rfl, h⟩) (.ofInts ns)⟩
    rw [e]
    rcases h with h | ⟨o, h⟩
    · exact ⟨_, h, nt_lst⟩
    · exact ⟨_, h, fun _ z => nomatch z⟩
  · exact ⟨fun _ => False, ⟨fun b e => e.elim, fun b e => nomatch e⟩, .lst (.inr h) (.ofInts ns)⟩
theorem fn_law {k : Nat} {gq : Bool} {f : Addr} {name qual x : Str} {params : Arguments} {body : List Stmt} {scope : Scope} {dV kV doc pm cdv ct' oc : Value} {an od : Option Addr} {osl : Array (Option Value)} {N : List Str} {ct : Nat → ClsInfo} {bd : Env → M Fl}
    (lk : K.lookup f = some ⟨oc, od, .func (PySem.W.fnOf name qual params body scope dV kV doc pm an cdv ct'), osl⟩) (hcd : PySem.W.codeIn K cdv qual = true) (S : FnScope N [x] scope)
    (hb : ∀ us : List Value, us.length = 1 → bindArgs (PySem.W.fnOf name qual params body scope dV kV doc pm an cdv ct') ⟨us, []⟩ = pure ([x].zip us))
    (hbody : ∀ (A : Around) (outer : List PySem.Env) (s : Shared) (H : Hp) (E : XK), Room k (A.deeper (envOfC qual scope s.heap.objs.size f cdv)) → GdOk gq A → SSs topFr (fnCx P w K mg base N qual scope f cdv A outer s H E) ct bd body) :
    FnG P w K mg base (k + 1) gq f (spLaw K (denOf 1 N.length bd)) := by
  intro A outer s H us vs Q E hr hgd e0 r ⟨a, ns, ev, hS, tA, ⟨g, hden⟩, hQ⟩
  subst ev
  have hu : us.length = 1 := by rw [← r.length]; rfl
  refine StX.run_bnd lk hcd S hr e0 (bnd_plain (ps := [x]) (hb us hu) e0 r rfl) fun s2 H2 xs hG hr' => ?_
  obtain ⟨ex, eH⟩ := hG
  subst ex eH
  obtain ⟨F, B, ra⟩ := law_start hS
  have tk : Takes (fnCx P w K mg base N qual scope f cdv A outer s2 H2 E) (WXof fun c d H => E c d H) := takes_of rfl rfl rfl (E₁ := fun e' s'' => L2.CX P w outer H2 s2 E e' s'') rfl
  refine ⟨_, hbody A outer s2 H2 E hr' hgd _ tk, none, F, _, _, [], ⟨init_str (N := N) B tA (.cons ra .nil), trivial, fun _ _ _ => trivial⟩, ?_⟩
  unfold denOf at hden
  rw [if_pos (show ([PyData.list (ns.map .int)] : List D).length = 1 from rfl)] at hden
  generalize bd (initE N.length [.list (ns.map .int)]) [] = z at hden ⊢
  match z, hden with
  | .ok (.ret y) g1, hden =>
    have e : y = .bool true := by cases hden; rfl
    subst e
    intro b' F' H' v fr B' rv
    cases rv
    exact hQ H'
  | .ok (.next ρ) g1, hden => cases hden
  | .exc c p g1, hden => cases hden
  | .fail, hden => cases hden
end

/-! ### the call from outside -/
abbrev tabO : Obj := { cls := .none, data := .fields #[] }
theorem law_end {P : Program} {w : World} {K : PySem.W.Frag} {mg mb : Str → Option Value} {k : Nat} {fa a : Addr} {cs : List (Addr × Addr)} {sp : Sp} {s : Shared} {vs : List Value} {ns : List Int}
    (KX : K.In s.heap) (hns : s.heap.Ns mainGlobals mg) (hb : s.heap.Ns builtinsNs mb) (hbb : ∀ x : Str, x ≠ "__name__" → mb x = bootBuiltins x) (hlim : s.heap.NoLimit) (hgens : s.gens = #[]) (hT : ∀ p ∈ cs, s.heap.get? p.2 = some tabO) (nT : ∀ p ∈ cs, K.lookup p.2 = none) (hC : ∀ p ∈ cs, PySem.W.CodeHd s.heap p.1 p.2)
    (hbm : ∃ (bm : Addr) (ob : Obj), mg "__builtins__" = some (.ref bm) ∧ bm ≠ builtinsNs ∧ s.heap.get? bm = some ob ∧ ob.cls = .type "module" ∧ ob.dict = some builtinsNs ∧ ob.data = .plain)
    (ha : s.heap.get? a = some { cls := .type "list", data := .seq vs.toArray }) (nA : K.lookup a = none) (hi : IntsAre vs ns) (hl : ns.length ≤ sizeLine) (hr : Room k callerA)
    (F : ∀ base : Heap, K.In base → base.Ns mainGlobals mg → (∀ p ∈ cs, LamX.TabB base mg p.1 p.2) → FnG P w K mg base k true fa sp)
    (hsp : ∀ H : Hp, (∀ p ∈ cs, H p.2 = some (.tbl #[])) → SqL K H a (ns.map V.int) → sp [.ref a] H (fun v _ => v = .bl true) fun _ _ _ => False) :
    codeAny (model P w) callerA (.call (.ref fa) ⟨[.ref a], []⟩) (fun r s' => r = .ok (.ret (.bool true)) ∧ OldK s.heap s'.heap ∧ s'.os = s.os ∧ AllBare s'.gens) s := by
  have rv := vals_ints hi
  have lenV := hi.length
  let ts := cs.map (·.2)
  have inT : ∀ p ∈ cs, p.2 ∈ ts := fun p hp => List.mem_map.mpr ⟨p, hp, rfl⟩
  have ofT : ∀ {b : Addr}, b ∈ ts → ∃ p ∈ cs, p.2 = b := fun {b} hb => by
    obtain ⟨p, hp, e⟩ := List.mem_map.mp hb
    exact ⟨p, hp, e⟩
  have aT : a ∉ ts := fun z => by
    obtain ⟨p, hp, e⟩ := ofT z
    have q := hT p hp
    rw [e, ha] at q
    exact nomatch (congrArg Obj.data (Option.some.inj q) : Data.seq vs.toArray _ = Data.fields #[])
  let H : Hp := fun b => if b = a then some (.frz { cls := .type "list", data := .seq vs.toArray } (.lst (ns.map V.int))) else if b ∈ ts then some (.tbl #[]) else none
  have Ha : H a = some (.frz { cls := .type "list", data := .seq vs.toArray } (.lst (ns.map V.int))) := if_pos rfl
  have Ht : ∀ {b : Addr}, b ∈ ts → H b = some (.tbl #[]) := fun {b} hb => (if_neg (show ¬ b = a from fun z => aT (z ▸ hb))).trans (if_pos hb)
  have Hn : ∀ {b : Addr}, b ≠ a → b ∉ ts → H b = none := fun {b} h1 h2 => (if_neg h1).trans (if_neg h2)
  have none_of : ∀ {b : Addr} {o : Obj}, s.heap.get? b = some o → (∀ vs n, o.data ≠ .seq vs n) → o.data ≠ .fields #[] → H b = none := fun {b o} e h1 h2 => by
    refine Hn (fun z => ?_) fun z => ?_
    · rw [z, ha] at e
      cases e
      exact h1 _ _ rfl
    · obtain ⟨p, hp, q⟩ := ofT z
      rw [← q, hT p hp] at e
      cases e
      exact h2 rfl
  have dictNone : ∀ {b : Addr} {o : Obj} {es : Array DictEntry} {ep : Nat}, s.heap.get? b = some o → o.data = .dict es ep → H b = none := fun e d => none_of e (fun _ _ z => by rw [d] at z; cases z) (fun z => by rw [d] at z; cases z)
  have nsB : ∀ {b : Addr} {m : Str → Option Value}, s.heap.Ns b m → (hidT s.heap H).Ns b m := fun {b m} ⟨o, es, ep, e, d, r⟩ => ⟨o, es, ep, hidT_get e (dictNone e d), d, r⟩
  have KB : K.In (hidT s.heap H) := fun b o e => hidT_get (KX b o e) (by
    refine Hn (fun z => ?_) fun z => ?_
    · rw [z, nA] at e; cases e
    · obtain ⟨p, hp, q⟩ := ofT z
      rw [← q, nT p hp] at e; cases e)
  have TB : ∀ p ∈ cs, LamX.TabB (hidT s.heap H) mg p.1 p.2 := fun p hp => by
    have hTp := hT p hp
    refine ⟨?_, ?_, fun z => ?_⟩
    · obtain ⟨o, us, file, tf, flags, tg, inF, text, tt, e1, r1, r2, r3, rest⟩ := hC p hp
      exact ⟨o, us, file, tf, flags, tg, inF, text, tt, hidT_get e1 (none_of e1 (fun _ _ z => by rw [r2] at z; cases z) (fun z => by rw [r2] at z; cases z; simp at r3)), r1, r2, r3, rest⟩
    · obtain ⟨bm, ob, b1, b2, b3, b4, b5, b6⟩ := hbm
      refine ⟨bm, ob, b1, b2, fun q => ?_, fun q => ?_, hidT_get b3 (none_of b3 (fun _ _ z => by rw [b6] at z; cases z) (fun z => by rw [b6] at z; cases z)), b4, b5, b6⟩
      · obtain ⟨o, es, ep, e, hd, _⟩ := hns
        rw [q, e] at b3
        cases b3
        rw [hd] at b6
        cases b6
      · rw [q, hTp] at b3
        cases b3
        cases b6
    · obtain ⟨o, es, ep, e, hd, _⟩ := hns
      rw [z, hTp] at e
      cases e
      cases hd
  have hok : HOk P w H s.heap := fun b u z => by
    by_cases h1 : b = a
    · subst h1
      rw [Ha] at z
      cases z
      exact ⟨ha, by rw [List.length_map]; exact hl, vs, _, rv, ha⟩
    · by_cases h2 : b ∈ ts
      · rw [Ht h2] at z
        cases z
        obtain ⟨p, hp, q⟩ := ofT h2
        rw [← q]
        exact hT p hp
      · rw [Hn h1 h2] at z
        cases z
  have e0 : Env0 P w K mg (hidT s.heap H) callerA [] s H :=
    ⟨rfl, ⟨KB, nsB hns, ⟨mb, nsB hb, hbb⟩, let ⟨mc, h1, h2⟩ := hlim; ⟨mc, nsB h1, h2⟩⟩, fun b o e => of_hidT e, Nat.le_of_eq (hidT_size _ _), trivial, fun b hb => absurd (show b ∈ ([] : List Addr) from hb) (by simp), hok, .of_eq hgens⟩
  refine codeAny_mono (F _ KB (nsB hns) TB callerA [] s H [.ref a] [.ref a] (fun v _ => v = .bl true) (fun _ _ _ => False) hr (fun _ => rfl) e0 (.cons rfl .nil) (hsp H (fun p hp => Ht (inT p hp)) (.inl (.inr ⟨_, Ha⟩)))) fun r s' h => ?_
  cases r with
  | error e =>
    obtain ⟨_, _, _, _, _, _, _, _, _, _, _, _, z⟩ := (show L2.CX P w [] H s (fun _ _ _ => False) e s' from h)
    exact z.elim
  | ok fl =>
    cases fl with
    | next => exact False.elim h
    | brk => exact False.elim h
    | cont => exact False.elim h
    | ret u =>
      obtain ⟨v, H', os, bare, un, hok', r', q⟩ := h
      have q : v = .bl true := q
      subst q
      obtain rfl : u = Value.bool true := r'
      have key : ∀ b o, b ∉ ts → s.heap.get? b = some o → s'.heap.get? b = some o := fun b o nb e => by
        by_cases h1 : b = a
        · subst h1
          have z2 := un.frzs b _ _ Ha
          obtain ⟨e2, _⟩ := hok' b _ z2
          rw [ha] at e
          cases e
          exact e2
        · exact un.keep b o e (Hn h1 nb) (fun z => absurd (show b ∈ ([] : List Addr) from z) (by simp)) (by simp)
      have grown : ∀ p ∈ cs, ∃ more : Array Value, s'.heap.get? p.2 = some { cls := .none, data := .fields more } := fun p hp => by
        obtain ⟨more, z⟩ := un.tbls p.2 #[] (Ht (inT p hp))
        exact ⟨_, hok' p.2 _ z⟩
      refine ⟨rfl, ⟨fun b o e => ?_, fun b o e => ?_⟩, os, bare⟩
      · by_cases hb : b ∈ ts
        · obtain ⟨p, hp, ep⟩ := ofT hb
          obtain ⟨more, hm⟩ := grown p hp
          rw [← ep] at e ⊢
          rw [hT p hp] at e
          cases e
          exact .inr (.inl ⟨((hC p hp).tab (hT p hp)).isCodeTable, rfl, #[], more, rfl, by rw [Array.empty_append]; exact hm⟩)
        · exact .inl (key b o hb e)
      · by_cases hb : b ∈ ts
        · obtain ⟨p, hp, ep⟩ := ofT hb
          obtain ⟨more, hm⟩ := grown p hp
          rw [← ep]
          exact ⟨_, hm⟩
        · exact ⟨o, key b o hb e⟩
end PF

set_option Elab.async false
set_option linter.all false
set_option maxRecDepth 100000
set_option maxHeartbeats 2000000
/-! PF31: what the head tells, by a check. -/
namespace PF
open PySem PySem.Spec PyProof.Rows L2 PySem.W

/-! ### the built-in bases -/
inductive BK where
  | val | idx | ari | ovf | lok
  deriving DecidableEq
def BK.B : BK → String
  | .val => "ValueError" | .idx => "IndexError" | .ari => "ArithmeticError" | .ovf => "OverflowError" | .lok => "LookupError"
def BK.newId : BK → String
  | .val => "ValueError.__new__" | .idx => "IndexError.__new__" | .ari => "ArithmeticError.__new__" | .ovf => "OverflowError.__new__" | .lok => "LookupError.__new__"
def BK.initId : BK → String
  | .val => "ValueError.__init__" | .idx => "IndexError.__init__" | .ari => "ArithmeticError.__init__" | .ovf => "OverflowError.__init__" | .lok => "LookupError.__init__"
def BK.bm : BK → List Value
  | .val => [.type "ValueError", .type "Exception", .type "BaseException", .type "object"]
  | .idx => [.type "IndexError", .type "LookupError", .type "Exception", .type "BaseException", .type "object"]
  | .ari => [.type "ArithmeticError", .type "Exception", .type "BaseException", .type "object"]
  | .ovf => [.type "OverflowError", .type "ArithmeticError", .type "Exception", .type "BaseException", .type "object"]
  | .lok => [.type "LookupError", .type "Exception", .type "BaseException", .type "object"]
theorem BK.FB (b : BK) : ExcBaseFacts b.B b.newId b.initId b.bm := by
  cases b
  · exact PySem.F.excBase_ValueError
  · exact PySem.F.excBase_IndexError
  · exact PySem.F.excBase_ArithmeticError
  · exact PySem.F.excBase_OverflowError
  · exact PySem.F.excBase_LookupError
theorem BK.KF (b : BK) : KxsFacts b.B b.initId := by
  cases b
  · exact kxs_ValueError
  · exact kxs_IndexError
  · exact kxs_ArithmeticError
  · exact kxs_OverflowError
  · exact kxs_LookupError
theorem BK.SF (b : BK) : StoreFacts b.B b.bm "object.__setattr__" "object" := by
  cases b
  · exact F.store_ValueError
  · exact F.store_IndexError
  · exact F.store_ArithmeticError
  · exact F.store_OverflowError
  · exact F.store_LookupError

/-! ### an exception class with a field -/
def initOf (K : Frag) (C : Addr) : Addr := match findIn K (.ref C) "__init__" with
  | some (some (.ref a)) => a
  | _ => 0
def argNames : List Str := ["given", "wanted", "done", "limit", "reason", "spot"]
def initFd (K : Frag) (prog : Program) (f : Str) (C : Addr) (fd : FuncData) : Bool := match fd with
  | ⟨_, qual, ⟨[], [⟨sf, none, _⟩, ⟨a, none, _⟩], none, [], [], none, []⟩, .stmts [.Expr (.Call (.Attribute (.Call (.Name sup _) [] [] _) ini p2) [.Name a1 _] [] p4) _, .Assign [.Attribute (.Name s1 _) f1 _] (.Name a2 _) _], scope, gl, [(cl, cc)], .none, _, _, _, _, .ref cda, _, bl⟩ =>
    decide (sup = "super") && decide (ini = "__init__") && decide (sf = "self") && decide (s1 = "self") && decide (a1 = a) && decide (a2 = a) && decide (f1 = f) && argNames.contains a && decide (gl = mainGlobals) && decide (bl = builtinsNs) && decide (cl = "__class__") &&
    codeIn K (.ref cda) qual && (match K.lookup cda with
      | some ⟨_, _, .fields vs, _⟩ => (match (vs[2]? : Option Value) with
        | some (Value.str file _) => ((prog.main.file : Str) == file)
        | _ => false)
      | _ => false) && (match K.lookup cc with
      | some ⟨_, _, .cell (some (.ref C')), _⟩ => decide (C' = C)
      | _ => false) &&
    decide (scope.names.lookup ("super" : Str) = some .globalImplicit) && decide (scope.names.lookup ("__class__" : Str) = some .free) && decide (scope.names.lookup a = some .local) && decide (scope.names.lookup ("self" : Str) = some .local) && decide (scope.kind = .function) && !scope.isCoroutine && !scope.isGenerator &&
    (scope.names.all fun x => !decide (x.2 = .cell)) && (p2.endLine == p4.line)
  | _ => false
def supB (prog : Program) (K : Frag) (C : Addr) (f : Str) (b : BK) : Bool :=
  excInitIn K C b.bm b.newId && excOver K C b.bm && decide (findIn K (.ref C) "__setattr__" = some (some (.builtin "object.__setattr__"))) && decide (takerIn K C f = some none) && hasDictIn K C && decide (subIn K (.ref C) (.type b.B) = some true) &&
  decide (ks_superIn K C C "__init__" = some (some (.builtin b.initId))) && decide (mroIn K C (.ref C) = some true) && decide (nsIn K cStatics "thirdparty.any" = some none) && decide (nsIn K mainGlobals "super" = some none) && decide (findIn K (.ref C) "__init__" = some (some (.ref (initOf K C)))) &&
  decide (typeIn K (.ref (initOf K C)) = some (.type "function")) && !(prog.main.scope.names.lookup ("super" : Str)).isSome && (match K.lookup (initOf K C) with
    | some ⟨_, _, .func fd, _⟩ => initFd K prog f C fd
    | _ => false)
theorem argNames_ne {a : Str} (h : argNames.contains a = true) : a = "given" ∨ a = "wanted" ∨ a = "done" ∨ a = "limit" ∨ a = "reason" ∨ a = "spot" := by
  have h : a ∈ argNames := by simpa using h
  simpa [argNames] using h
theorem supB_ok {prog : Program} {K : Frag} {C : Addr} {f : Str} {b : BK} (h : supB prog K C f b = true) (subB : subIn K (.ref C) (.type "BaseException") = some true) (ty : typeIn K (.ref C) = some (.type "type")) (kC : keepIn K (.ref C) = true) : Nonempty (SupC prog K C f) := by
  unfold supB at h
  simp only [Bool.and_eq_true, decide_eq_true_eq, Bool.not_eq_true'] at h
  obtain ⟨⟨⟨⟨⟨⟨⟨⟨⟨⟨⟨⟨⟨h1, h2⟩, h3⟩, h4⟩, h5⟩, h6⟩, h7⟩, h8⟩, h9⟩, h10⟩, h11⟩, h12⟩, h13⟩, h14⟩ := h
  split at h14
  · rename_i oc od fd osl lk
    unfold initFd at h14
    split at h14
    · rename_i nm qual sf ps1 a pa sup p0 p1 ini p2 a1 p3 p4 p5 s1 p6 f1 p7 a2 p8 p9 scope gl cl cc kV doc pm an cda ct bl
      simp only [Bool.and_eq_true, decide_eq_true_eq, Bool.not_eq_true', List.all_eq_true, decide_eq_false_iff_not] at h14
      obtain ⟨⟨⟨⟨⟨⟨⟨⟨⟨⟨⟨⟨⟨⟨⟨⟨⟨⟨⟨⟨⟨⟨e1, e2⟩, e3⟩, e4⟩, e5⟩, e6⟩, e7⟩, e8⟩, e9⟩, e10⟩, e11⟩, e12⟩, e13⟩, e14⟩, e15⟩, e16⟩, e17⟩, e18⟩, e19⟩, e20⟩, e21⟩, e22⟩, e23⟩ := h14
      subst e1 e2 e3 e4 e5 e6 e7 e9 e10 e11
      split at e13
      · rename_i ccl cdd vs ccs hcode
        split at e13
        · rename_i file tf hvs
          split at e14
          · rename_i cl0 cld C' csl hcell
            have e14 := of_decide_eq_true e14
            subst e14
            have an' := argNames_ne e8
            have ne : (a2 == ("self" : Str)) = false := by rcases an' with z | z | z | z | z | z <;> subst z <;> decide
            have da : (a2 == ("__debug__" : Str)) = false := by rcases an' with z | z | z | z | z | z <;> subst z <;> decide
            exact ⟨{ B := b.B, newId := b.newId, initId := b.initId, bmB := b.bm, FB := b.FB, KF := b.KF, SF := b.SF, cls := h1, over := h2, sa := h3, tk := h4, hd := h5, sub := h6, subB := subB, ty := ty, kC := kC, sup := h7, mroC := h8, tp := h9, sn := h10,
                     fI := initOf K _, cda := cda, cc := cc, a := a2, sf := "self", name := nm, qual := qual, params := ⟨[], [⟨"self", none, ps1⟩, ⟨a2, none, pa⟩], none, [], [], none, []⟩, scope := scope, dV := .none, kV := kV, doc := doc, pm := pm, ct := ct, an := an, oc := oc, od := od, osl := osl,
                     p0 := p0, p1 := p1, p2 := p2, p3 := p3, p4 := p4, p5 := p5, p6 := p6, p7 := p7, p8 := p8, p9 := p9, lk := lk, iC := h11, tI := h12, cd := e12, vs := vs, ccl := ccl, cdd := cdd, ccs := ccs, file := file, tf := tf, hcode := hcode, hvs := hvs, hfile := e13,
                     cl := cl0, cld := cld, csl := csl, hcell := hcell, bind := fun x u => by rcases an' with z | z | z | z | z | z <;> subst z <;> rfl, ar := ⟨"self", none, ps1⟩, har := rfl, hsf := rfl, ne := ne, ks := e15, kc := e16, ka := e17, ksf := e18, kind := e19, co := e20, gen := e21,
                     nocell := fun x hx => e22 x hx, top := h13, line := e23, da := da, dsf := by decide }⟩
          · cases e14
        · cases e13
      · cases e13
    · cases h14
  · cases h14
end PF

set_option Elab.async false
set_option linter.all false
set_option maxRecDepth 100000
set_option maxHeartbeats 2000000
/-! PF32: the law's data, the check of the head, the end. -/
namespace PF
open PySem PySem.Spec PyProof.Rows L2 PySem.W

structure ClsI where
  name : Str
  base : BK
  fld : Option Str
  anc : List Nat
structure LawI where
  cls : List ClsI
  cns : List (Str × D)
  free : List Str
  defs : List DefI
  law : DefI
  exv : List Str
def LawI.cl (L : LawI) (c : Nat) : Nat := if c < L.cls.length then c else 0
def LawI.ci (L : LawI) (c : Nat) : ClsI := L.cls.getD (L.cl c) ⟨"", .val, none, []⟩
def clsIx : List ClsI → Str → Option Nat
  | [], _ => none
  | c :: r, x => if c.name == x then some 0 else (clsIx r x).map (· + 1)
def cnsAt : List (Str × D) → Str → Option D
  | [], _ => none
  | c :: r, x => if c.1 == x then some c.2 else cnsAt r x
/-- built-in classes above an exception's base -/
def BK.ups : BK → List Str
  | .val => ["ValueError", "Exception", "BaseException"]
  | .idx => ["IndexError", "LookupError", "Exception", "BaseException"]
  | .ari => ["ArithmeticError", "Exception", "BaseException"]
  | .ovf => ["OverflowError", "ArithmeticError", "Exception", "BaseException"]
  | .lok => ["LookupError", "Exception", "BaseException"]
def isOwn (L : LawI) (c' : Nat) : List Nat := (List.range L.cls.length).filter fun c => (L.ci c).anc.contains (L.cl c')
def isPy (L : LawI) (x : Str) : List Nat := (List.range L.cls.length).filter fun c => (L.ci c).base.ups.contains x
def isiOf (L : LawI) (x : Str) : Option (Nat × List Nat) := match L.exv with
  | [] => none
  | _ => (match clsIx L.cls x with
    | some c' => some (L.cls.length, isOwn L c')
    | none => if L.exv.contains x then some (L.cls.length, isPy L x) else none)
def tbOf (L : LawI) : Tb where
  cns := cnsAt L.cns
  nog := fun x => L.free.contains x
  cls := clsIx L.cls
  fld := fun c => (L.ci c).fld
  sub := fun c c' => (L.ci c).anc.contains (L.cl c')
  isi := isiOf L
def lamOf (K : Frag) (x : Str) : Addr × Addr := match K.lookup (He.ga K x) with
  | some ⟨_, _, .func fd, _⟩ => (match fd.code with
    | .ref c => (match K.lookup c with
      | some ⟨_, _, .fields vs, _⟩ => (match (vs[11]? : Option Value) with
        | some (Value.ref P) => (c, P)
        | _ => (0, 0))
      | _ => (0, 0))
    | _ => (0, 0))
  | _ => (0, 0)
def adOfL (K : Frag) (L : LawI) : Ads := ⟨fun c => He.ga K (L.ci c).name, He.ga K, lamOf K⟩

/-! ### the check -/
def okObj (o : Obj) : Bool := (match o.cls with | .type "list" => false | _ => true) && match o.data with | .fields vs => !(vs.size == 0) | _ => true
def gloB (K : Frag) (x : Str) : Bool := He.eqO (nsIn K mainGlobals x) (some (some (.ref (He.ga K x))))
def freeB (K : Frag) (x : Str) : Bool := He.eqO (nsIn K mainGlobals x) (some none)
def atB : Value → D → Bool
  | .int i _, .int j => decide (i = j)
  | .str x _, .str y => decide (x = y)
  | .bool b, .bool c => b == c
  | .none, .none => true
  | _, _ => false
def atsB : List Value → List D → Bool
  | [], [] => true
  | v :: vs, d :: ds => atB v d && atsB vs ds
  | _, _ => false
def cnsB (K : Frag) (p : Str × D) : Bool := match nsIn K mainGlobals p.1 with
  | some (some u) => (match u, p.2 with
    | .ref a, .tuple ds => (match K.lookup a with
      | some ⟨.type c, _, .seq its _, _⟩ => decide (c = "tuple") && (decide (its.size ≤ sizeLine) && atsB its.toList ds)
      | _ => false)
    | u, d => atB u d)
  | _ => false
def clsB (prog : Program) (K : Frag) (c : ClsI) : Bool := gloB K c.name && !(c.name == ("__debug__" : Str)) && keepIn K (.ref (He.ga K c.name)) && decide (subIn K (.ref (He.ga K c.name)) (.type "BaseException") = some true) && decide (typeIn K (.ref (He.ga K c.name)) = some (.type "type")) &&
  (match c.fld with
    | some f => supB prog K (He.ga K c.name) f c.base && xfB K (He.ga K c.name) && decide (findIn K (.ref (He.ga K c.name)) f = some none)
    | none => excIn K (He.ga K c.name) c.base.bm c.base.newId)
def excB (K : Frag) (D : Addr) : Bool := decide (findIn K (.ref D) "__getattribute__" = some (some (.builtin "BaseException.__getattribute__"))) && (decide (findIn K (.ref D) "__getattr__" = some none) && (decide (subIn K (.ref D) (.type "BaseException") = some true) && (hasDictIn K D &&
  (decide (findIn K (.ref D) "__class__" = some (some (.builtin "object.__class__"))) && (decide (specialIn K (.builtin "object.__class__") "__get__" = some (some (.builtin "getset_descriptor.__get__"))) && (decide (takesIn K (.builtin "object.__class__") = some true) && decide (mroIn K D (.type "object") = some true)))))))
def excNo (K : Frag) (D : Addr) : Bool := ["int", "bool", "tuple", "str", "list", "dict"].all fun T => decide (kitOne K (.ref D) (.type T) = some false)
theorem excB_ok {K : Frag} {D : Addr} (h : (excB K D && excNo K D) = true) : XcOk K D := by
  obtain ⟨h, h9⟩ := Bool.and_eq_true_iff.mp h
  unfold excB at h
  simp only [Bool.and_eq_true, decide_eq_true_eq] at h
  obtain ⟨h1, h2, h3, h4, h5, h6, h7, h8⟩ := h
  exact ⟨⟨h1, h2, h3, h4, h5, h6, h7, h8⟩, fun T hT => of_decide_eq_true (List.all_eq_true.mp h9 T hT)⟩
/-- exceptions as values: which are of which class -/
def isiB (K : Frag) (L : LawI) : Bool := match L.exv with
  | [] => true
  | _ => ((List.range L.cls.length).all fun c => excB K (He.ga K (L.ci c).name) && excNo K (He.ga K (L.ci c).name)) &&
    ((List.range L.cls.length).all fun c' => (List.range L.cls.length).all fun c => decide (kitOne K (.ref (He.ga K (L.ci c).name)) (.ref (He.ga K (L.ci c').name)) = some ((isOwn L c').contains c))) &&
    (L.exv.all fun x => freeB K x && !(x == ("__debug__" : Str)) && !(x == ("__name__" : Str)) && (match bootBuiltins x with
      | some (.type T) => (List.range L.cls.length).all fun c => decide (kitOne K (.ref (He.ga K (L.ci c).name)) (.type T) = some ((isPy L x).contains c))
      | _ => false))
def exmB (K : Frag) (L : LawI) : Bool := isiB K L && (List.range L.cls.length).all fun c => (List.range L.cls.length).all fun c' => decide (exmOne K (.ref (He.ga K (L.ci c).name)) (.ref (He.ga K (L.ci c').name)) = some ((L.ci c).anc.contains c'))
def codeHdB (vs : Array Value) (c P : Addr) : Bool := decide (c ≠ P) && (match (vs[11]? : Option Value), vs.getD 11 .none, vs.getD 18 .none, vs.getD 7 .none, vs.getD 9 .none, vs.getD 10 .none with
  | some (.ref P1), .ref P2, .str _ _, .int _ _, .bool _, .int _ _ => decide (P1 = P) && decide (P2 = P)
  | _, _, _, _, _, _ => false)
def lamB (K : Frag) (d : DefI) : Bool := !d.lam || (match K.lookup (He.ga K d.gl) with
  | some ⟨_, _, .func fd, _⟩ => (match fd.code with
    | .ref c => decide (c = (lamOf K d.gl).1) && (match K.lookup c with
      | some ⟨.type t, _, .fields vs, _⟩ => decide (t = "code") && codeHdB vs c (lamOf K d.gl).2
      | _ => false)
    | _ => false)
  | _ => false) && (K.lookup (lamOf K d.gl).2).isNone
def LawI.all (L : LawI) : List DefI := L.law :: L.defs
def LawI.lams (L : LawI) : List DefI := L.all.filter (·.lam)
def tabsB (K : Frag) (L : LawI) : Bool := L.lams.all fun d => L.lams.all fun e => !decide ((lamOf K d.gl).2 = (lamOf K e.gl).2) || decide (d.name = e.name)
def defB (K : Frag) (d : DefI) : Bool := gloB K d.gl && keepIn K (.ref (He.ga K d.gl)) && lamB K d && (He.Fa.code (d.gl, none) d.name).ok K
def chkK (prog : Program) (L : LawI) (K : Frag) : Bool := (K.all fun p => okObj p.2) && (L.cls.all (clsB prog K)) && exmB K L && (L.cns.all (cnsB K)) && (L.free.all (freeB K)) && (L.all.all (defB K)) && tabsB K L && freeB K "repr"
def isTab (g : Addr → Option Obj) (P : Addr) : Bool := match g P with
  | some ⟨.none, none, .fields vs, sl⟩ => vs.size == 0 && sl.size == 0
  | _ => false
def chkG (L : LawI) (K : Frag) (g : Addr → Option Obj) : Bool := L.lams.all fun d => isTab g (lamOf K d.gl).2
def addrs (L : LawI) (g : Addr → Option Obj) : List Addr :=
  let K0 := He.frG g [mainGlobals]
  let fs := L.all.map fun d => He.ga K0 d.gl
  let codes := fs.flatMap fun a => match g a with | some ⟨_, _, .func fd, _⟩ => He.refV fd.code | _ => []
  let cs := L.cls.map fun c => He.ga K0 c.name
  let nss := cs.flatMap fun a => match g a with | some ⟨_, _, .cls cd, _⟩ => [cd.ns] | _ => []
  let K1 := He.frG g (mainGlobals :: (cs ++ nss))
  let ins := cs.map fun a => initOf K1 a
  let ics := ins.flatMap fun a => match g a with | some ⟨_, _, .func fd, _⟩ => He.refV fd.code ++ fd.closure.map (·.2) | _ => []
  let kon := L.cns.map fun p => He.ga K0 p.1
  [mainGlobals, cStatics] ++ (fs ++ (codes ++ (cs ++ (nss ++ (ins ++ (ics ++ kon))))))
def frP (L : LawI) (g : Addr → Option Obj) : Frag := He.frG g (addrs L g)
def fnD (prog : Program) (d : DefI) : He.FnD := ⟨(d.gl, none), d.name, d.name, (txtOf prog d.idx).params, (txtOf prog d.idx).body, (txtOf prog d.idx).scope⟩
abbrev AlP : Type := Bool × List He.FnV
def obsP (prog : Program) (L : LawI) (g : Addr → Option Obj) : AlP := (chkK prog L (frP L g) && chkG L (frP L g) g, L.all.map fun d => He.fnObs (frP L g) (d.gl, none))
def valP (prog : Program) (L : LawI) : AlP := (true, L.all.map fun d => (fnD prog d).val)
structure SaysP (prog : Program) (L : LawI) (h : Heap) (K : Frag) : Prop where
  kin : K.In h
  chk : chkK prog L K = true
  fns : L.all.map (fun d => He.fnObs K (d.gl, none)) = L.all.map fun d => (fnD prog d).val
  tab : ∀ d ∈ L.lams, h.get? (lamOf K d.gl).2 = some tabO
theorem isTab_ok {g : Addr → Option Obj} {P : Addr} (h : isTab g P = true) : g P = some tabO := by
  unfold isTab at h
  split at h
  · rename_i vs sl e
    simp only [Bool.and_eq_true, beq_iff_eq] at h
    rw [e]
    obtain ⟨h1, h2⟩ := h
    have e1 : vs = #[] := Array.eq_empty_of_size_eq_zero h1
    have e2 : sl = #[] := Array.eq_empty_of_size_eq_zero h2
    subst e1 e2
    rfl
  · cases h
def hookP (prog : Program) (L : LawI) : Hook where
  α := AlP
  obs := fun s => obsP prog L s.heap.get?
  val := fun _ => valP prog L
  says := fun _ h => ∃ K, SaysP prog L h K
  of := fun _ s e => by
    have e1 : (chkK prog L (frP L s.heap.get?) && chkG L (frP L s.heap.get?) s.heap.get?) = true := congrArg (fun z : AlP => z.1) e
    have e2 := congrArg (fun z : AlP => z.2) e
    obtain ⟨c1, c2⟩ := Bool.and_eq_true_iff.mp e1
    exact ⟨_, He.frG_in, c1, e2, fun d hd => isTab_ok (List.all_eq_true.mp c2 d hd)⟩
  keeps := fun _ _ _ ⟨K, a, b, c, d⟩ k => ⟨K, PySem.W.Frag.In.keeps a k, b, c, fun x hx => k _ _ (d x hx)⟩
theorem obsP_eq {prog : Program} {L : LawI} {g : Addr → Option Obj} {s : Shared} (h : ∀ a, g a = s.heap.get? a) : obsP prog L g = (hookP prog L).obs s := by
  have e : g = s.heap.get? := funext h
  rw [e] <;> rfl

/-! ### what the check says -/
theorem ga_ok {K : Frag} {h : Heap} {mg : Str → Option Value} (X : K.In h) (G : h.Ns mainGlobals mg) {x : Str} (c : gloB K x = true) : mg x = some (.ref (He.ga K x)) := mg_of X G (He.eqO_ok c)
theorem atB_ok [TabT] {u : Value} {d : D} (h : atB u d = true) : ∃ v, RelV v u ∧ ∀ (K : Frag) F H, Rep K F H v d := by
  unfold atB at h
  split at h
  · have e := of_decide_eq_true h; subst e; exact ⟨.int _, ⟨_, rfl⟩, fun _ _ _ => .int _⟩
  · have e := of_decide_eq_true h; subst e; exact ⟨.str _, ⟨_, rfl⟩, fun _ _ _ => .str _⟩
  · have e := eq_of_beq h; subst e; exact ⟨.bl _, rfl, fun _ _ _ => .bl _⟩
  · exact ⟨.non, rfl, fun _ _ _ => .non⟩
  · cases h
theorem atsB_ok [TabT] : ∀ {us : List Value} {ds : List D}, atsB us ds = true → ∃ vs, Vals vs us ∧ ∀ (K : Frag) F H, RepAll K F H vs ds
  | [], [], _ => ⟨[], .nil, fun _ _ _ => .nil⟩
  | [], _ :: _, h => by cases h
  | _ :: _, [], h => by cases h
  | u :: us, d :: ds, h => by
    obtain ⟨h1, h2⟩ := Bool.and_eq_true_iff.mp (show (atB u d && atsB us ds) = true from h)
    obtain ⟨v, r1, q1⟩ := atB_ok h1
    obtain ⟨vs, r2, q2⟩ := atsB_ok h2
    exact ⟨v :: vs, .cons r1 r2, fun K F H => .cons (q1 K F H) (q2 K F H)⟩
theorem cnsB_ok [TabT] {K : Frag} {h : Heap} {mg : Str → Option Value} (X : K.In h) (G : h.Ns mainGlobals mg) {x : Str} {z : D} (c : cnsB K (x, z) = true) : ∃ v u, mg x = some u ∧ RelV v u ∧ ∀ F H, Rep K F H v z := by
  unfold cnsB at c
  split at c
  · rename_i u e
    have hm := mg_of X G e
    split at c
    · rename_i a ds hz
      subst hz
      split at c
      · rename_i cn od its n sl lk
        simp only [Bool.and_eq_true, decide_eq_true_eq] at c
        obtain ⟨c1, c2, c3⟩ := c
        obtain ⟨vs, r, q⟩ := atsB_ok c3
        exact ⟨.ref a, _, hm, rfl, fun F H => .tup (.inr ⟨_, its, n, lk, congrArg Value.type c1, rfl, c2, r⟩) (q K F H)⟩
      · cases c
    · obtain ⟨v, r, q⟩ := atB_ok c
      exact ⟨v, _, hm, r, fun F H => q K F H⟩
  · cases c
theorem cnsAt_mem : ∀ {l : List (Str × D)} {x : Str} {z : D}, cnsAt l x = some z → (x, z) ∈ l
  | [], _, _, h => by cases h
  | c :: r, x, z, h => by
    unfold cnsAt at h
    split at h
    · rename_i e
      have e := eq_of_beq e
      cases h
      rw [← e]
      exact List.mem_cons_self
    · exact List.mem_cons_of_mem _ (cnsAt_mem h)
theorem clsIx_ok : ∀ {l : List ClsI} {x : Str} {c : Nat}, clsIx l x = some c → ∃ ci, l[c]? = some ci ∧ ci.name = x
  | [], _, _, h => by cases h
  | k :: r, x, c, h => by
    unfold clsIx at h
    split at h
    · rename_i e
      cases h
      exact ⟨k, rfl, eq_of_beq e⟩
    · obtain ⟨j, h1, rfl⟩ := Option.map_eq_some_iff.mp h
      obtain ⟨ci, h2, h3⟩ := clsIx_ok h1
      exact ⟨ci, by simpa using h2, h3⟩
section
variable {prog : Program} {L : LawI} {h : Heap} {K : Frag} {mg : Str → Option Value}
structure ChkP (prog : Program) (L : LawI) (K : Frag) : Prop where
  obj : ∀ p ∈ K, okObj p.2 = true
  cls : ∀ c ∈ L.cls, clsB prog K c = true
  exm : exmB K L = true
  cns : ∀ c ∈ L.cns, cnsB K c = true
  free : ∀ c ∈ L.free, freeB K c = true
  defs : ∀ d ∈ L.all, defB K d = true
  tabs : tabsB K L = true
  rep : freeB K "repr" = true
theorem chkP_of (c : chkK prog L K = true) : ChkP prog L K := by
  unfold chkK at c
  simp only [Bool.and_eq_true] at c
  obtain ⟨⟨⟨⟨⟨⟨⟨c1, c2⟩, c3⟩, c4⟩, c5⟩, c6⟩, c7⟩, c8⟩ := c
  exact ⟨List.all_eq_true.mp c1, List.all_eq_true.mp c2, c3, List.all_eq_true.mp c4, List.all_eq_true.mp c5, List.all_eq_true.mp c6, c7, c8⟩
theorem ci_mem (hc : 0 < L.cls.length) (c : Nat) : L.ci c ∈ L.cls ∧ L.cl c < L.cls.length ∧ L.cls[L.cl c]? = some (L.ci c) := by
  have lt : L.cl c < L.cls.length := by
    unfold LawI.cl
    split
    · assumption
    · exact hc
  have e : L.cls[L.cl c]? = some (L.ci c) := by
    unfold LawI.ci
    rw [List.getD_eq_getElem?_getD, List.getElem?_eq_getElem lt]
    rfl
  exact ⟨List.mem_of_getElem? e, lt, e⟩
@[reducible] def tabT (K : Frag) (L : LawI) : TabT := ⟨L.lams.map fun d => ((lamOf K d.gl).2, lamNm d.name), ctOf (tbOf L) (adOfL K L)⟩
theorem isi_ok (hc : 0 < L.cls.length) (X : K.In h) (N : h.Ns mainGlobals mg) (C : ChkP prog L K) (hcls : ∀ x c, clsIx L.cls x = some c → mg x = some (.ref (He.ga K (L.ci c).name)) ∧ (x == ("__debug__" : Str)) = false) {x : Str} {n : Nat} {l : List Nat} (e : isiOf L x = some (n, l)) : IsiAt K mg (ctOf (tbOf L) (adOfL K L)) x n l := by
  have z := (Bool.and_eq_true_iff.mp C.exm).1
  unfold isiOf at e
  unfold isiB at z
  split at e
  · cases e
  · rename_i hne
    split at z
    · rename_i h0; exact absurd h0 hne
    · simp only [Bool.and_eq_true] at z
      obtain ⟨⟨z1, z2⟩, z3⟩ := z
      have zx : ∀ c, c < L.cls.length → XcOk K (ctOf (tbOf L) (adOfL K L) c).addr := fun c hc' => excB_ok (List.all_eq_true.mp z1 c (List.mem_range.mpr hc'))
      split at e
      · rename_i c' hc'
        cases e
        refine ⟨⟨_, _, .inl ⟨_, (hcls _ _ hc').1, rfl, rfl⟩, fun c hlt => ?_⟩, (hcls _ _ hc').2, zx⟩
        obtain ⟨ci, h1, _⟩ := clsIx_ok hc'
        have lt' : c' < L.cls.length := by
          rcases Nat.lt_or_ge c' L.cls.length with q | q
          · exact q
          · rw [List.getElem?_eq_none_iff.mpr q] at h1; cases h1
        exact of_decide_eq_true (List.all_eq_true.mp (List.all_eq_true.mp z2 c' (List.mem_range.mpr lt')) c (List.mem_range.mpr hlt))
      · split at e
        · rename_i hx
          cases e
          have y := List.all_eq_true.mp z3 x (by simpa using hx)
          simp only [Bool.and_eq_true, Bool.not_eq_true'] at y
          obtain ⟨⟨⟨y1, y2⟩, y3⟩, y4⟩ := y
          split at y4
          · rename_i T hT
            refine ⟨⟨_, _, .inr ⟨mg_none_of X N (He.eqO_ok y1), by simpa using y3, T, hT, rfl, rfl⟩, fun c hlt => ?_⟩, y2, zx⟩
            exact of_decide_eq_true (List.all_eq_true.mp y4 c (List.mem_range.mpr hlt))
          · cases y4
        · cases e
theorem glob_of (hc : 0 < L.cls.length) (X : K.In h) (N : h.Ns mainGlobals mg) (C : ChkP prog L K) :
    letI := tabT K L
    GlobOk prog K mg (tbOf L) (adOfL K L) := by
  letI := tabT K L
  have cb : ∀ c, clsB prog K (L.ci c) = true := fun c => C.cls _ (ci_mem hc c).1
  have cc : ∀ c, (gloB K (L.ci c).name = true ∧ ((L.ci c).name == ("__debug__" : Str)) = false) ∧ keepIn K (.ref (He.ga K (L.ci c).name)) = true ∧ subIn K (.ref (He.ga K (L.ci c).name)) (.type "BaseException") = some true ∧ typeIn K (.ref (He.ga K (L.ci c).name)) = some (.type "type") ∧
      (match (L.ci c).fld with
        | some f => (supB prog K (He.ga K (L.ci c).name) f (L.ci c).base && xfB K (He.ga K (L.ci c).name) && decide (findIn K (.ref (He.ga K (L.ci c).name)) f = some none)) = true
        | none => excIn K (He.ga K (L.ci c).name) (L.ci c).base.bm (L.ci c).base.newId = true) := fun c => by
    have z := cb c
    unfold clsB at z
    simp only [Bool.and_eq_true, decide_eq_true_eq, Bool.not_eq_true'] at z
    obtain ⟨⟨⟨⟨⟨z1, z2⟩, z3⟩, z4⟩, z5⟩, z6⟩ := z
    refine ⟨⟨z1, z2⟩, z3, z4, z5, ?_⟩
    split at z6
    · exact z6
    · exact z6
  have hcl : ∀ x c, clsIx L.cls x = some c → mg x = some (.ref ((adOfL K L).ca c)) ∧ (x == ("__debug__" : Str)) = false := fun x c hx => by
    obtain ⟨ci, h1, h2⟩ := clsIx_ok hx
    have lt : c < L.cls.length := by
      rcases Nat.lt_or_ge c L.cls.length with q | q
      · exact q
      · rw [List.getElem?_eq_none_iff.mpr q] at h1; cases h1
    have e : L.ci c = ci := by
      have z := (ci_mem hc c).2.2
      unfold LawI.cl at z
      rw [if_pos lt, h1] at z
      exact (Option.some.inj z).symm
    have q := (cc c).1
    rw [e, h2] at q
    have e2 : (adOfL K L).ca c = He.ga K x := by
      show He.ga K (L.ci c).name = _
      rw [e, h2]
    rw [e2]
    exact ⟨ga_ok X N q.1, q.2⟩
  refine ⟨fun x z hz => cnsB_ok X N (C.cns _ (cnsAt_mem hz)), fun x hx => mg_none_of X N (He.eqO_ok (C.free x (by have hx : L.free.contains x = true := hx; simpa using hx))), hcl, fun c => (cc c).2.1, fun c => (cc c).2.2.1, fun c => (cc c).2.2.2.1, fun c f hf => ?_, fun c hf => ?_, fun c c' => ?_, fun c f hf => ?_, fun _ => rfl, fun x n l e => isi_ok hc X N C hcl e⟩
  · have z := (cc c).2.2.2.2
    have hf : (L.ci c).fld = some f := hf
    rw [hf] at z
    simp only [Bool.and_eq_true, decide_eq_true_eq] at z
    exact supB_ok z.1.1 (cc c).2.2.1 (cc c).2.2.2.1 (cc c).2.1
  · have z := (cc c).2.2.2.2
    have hf : (L.ci c).fld = none := hf
    rw [hf] at z
    exact ⟨_, _, _, _, (L.ci c).base.FB, z⟩
  · have z := C.exm
    unfold exmB at z
    have z := (Bool.and_eq_true_iff.mp z).2
    have z := List.all_eq_true.mp (List.all_eq_true.mp z (L.cl c) (List.mem_range.mpr (ci_mem hc c).2.1)) (L.cl c') (List.mem_range.mpr (ci_mem hc c').2.1)
    have z := of_decide_eq_true z
    have idem : ∀ k, L.ci (L.cl k) = L.ci k := fun k => by
      have lt := (ci_mem hc k).2.1
      have e : L.cl (L.cl k) = L.cl k := by
        show (if L.cl k < L.cls.length then L.cl k else 0) = L.cl k
        rw [if_pos lt]
      unfold LawI.ci
      rw [e]
    rw [idem, idem] at z
    exact z
  · have z := (cc c).2.2.2.2
    have hf : (L.ci c).fld = some f := hf
    rw [hf] at z
    simp only [Bool.and_eq_true, decide_eq_true_eq] at z
    exact ⟨xfB_ok z.1.2, z.2⟩
theorem fnObs_ok {d : DefI} (hd : d ∈ L.all) (f : L.all.map (fun d => He.fnObs K (d.gl, none)) = L.all.map fun d => (fnD prog d).val) : He.fnObs K (d.gl, none) = (fnD prog d).val := List.map_inj_left.mp f d hd
theorem memT {l : List DefI} {f : DefI → Addr × Str} {d : DefI} (h : d ∈ l) : f d ∈ l.map f := List.mem_map.mpr ⟨d, h, rfl⟩
/-- code object and table -/
def csOf (K : Frag) (L : LawI) : List (Addr × Addr) := L.lams.map fun d => lamOf K d.gl
theorem lamB_ok {d : DefI} (X : K.In h) (hl : d.lam = true) (b : lamB K d = true) : ∃ oc od fd osl, K.lookup (He.ga K d.gl) = some ⟨oc, od, .func fd, osl⟩ ∧ fd.code = .ref (lamOf K d.gl).1 ∧ CodeHd h (lamOf K d.gl).1 (lamOf K d.gl).2 ∧ K.lookup (lamOf K d.gl).2 = none := by
  unfold lamB at b
  rw [hl] at b
  simp only [Bool.not_true, Bool.false_or, Bool.and_eq_true, Option.isNone_iff_eq_none] at b
  obtain ⟨b1, b2⟩ := b
  split at b1
  · rename_i oc od fd osl lk
    split at b1
    · rename_i c hc
      simp only [Bool.and_eq_true, decide_eq_true_eq] at b1
      obtain ⟨b3, b4⟩ := b1
      split at b4
      · rename_i t cd vs cs lc
        simp only [Bool.and_eq_true, decide_eq_true_eq] at b4
        obtain ⟨b5, b6⟩ := b4
        unfold codeHdB at b6
        simp only [Bool.and_eq_true, decide_eq_true_eq] at b6
        obtain ⟨b7, b8⟩ := b6
        split at b8
        · rename_i P1 P2 file tf flags tg inF text tt e1 e2 e3 e4 e5 e6
          simp only [Bool.and_eq_true, decide_eq_true_eq] at b8
          obtain ⟨rfl, b10⟩ := b8
          subst b10
          refine ⟨oc, od, fd, osl, lk, by rw [hc, b3], ?_, b2⟩
          rw [← b3]
          exact ⟨_, vs, file, tf, flags, tg, inF, text, tt, X _ _ lc, congrArg Value.type b5, rfl, e1, e2, e3, e4, e5, e6, b7⟩
        · cases b8
      · cases b4
    · cases b1
  · cases b1
theorem tabsB_ok {d e : DefI} (C : ChkP prog L K) (hd : d ∈ L.lams) (he : e ∈ L.lams) (q : (lamOf K e.gl).2 = (lamOf K d.gl).2) : lamNm e.name = lamNm d.name := by
  have z := List.all_eq_true.mp (List.all_eq_true.mp C.tabs d hd) e he
  simp only [Bool.or_eq_true, Bool.not_eq_true', decide_eq_false_iff_not, decide_eq_true_eq] at z
  rcases z with z | z
  · exact absurd q.symm z
  · rw [z]
theorem defAt_of {base : Heap} {d : DefI} (X : K.In h) (N : h.Ns mainGlobals mg) (C : ChkP prog L K) (f : L.all.map (fun d => He.fnObs K (d.gl, none)) = L.all.map fun d => (fnD prog d).val) (hd : d ∈ L.all) (TB : ∀ p ∈ csOf K L, LamX.TabB base mg p.1 p.2) :
    DefAt prog K mg base (adOfL K L) (tabT K L).T d := by
  have db := C.defs d hd
  unfold defB at db
  simp only [Bool.and_eq_true] at db
  obtain ⟨⟨⟨d1, d2⟩, d3⟩, d4⟩ := db
  obtain ⟨oc, od, osl, kV, doc, pm, an, cdv, ct, lk, hcd⟩ := He.fn_ok (d := fnD prog d) (fnObs_ok hd f) d4
  refine ⟨⟨oc, od, osl, kV, doc, pm, an, cdv, ct, lk, hcd, fun hl => ?_⟩, d2, ga_ok X N d1⟩
  obtain ⟨oc', od', fd', osl', lk', hcode, hd', hn⟩ := lamB_ok X hl d3
  have lk2 : K.lookup (He.ga K d.gl) = _ := lk
  rw [lk2] at lk'
  cases lk'
  have hm : d ∈ L.lams := List.mem_filter.mpr ⟨hd, hl⟩
  refine ⟨hcode, TB _ (List.mem_map.mpr ⟨d, hm, rfl⟩), List.mem_map.mpr ⟨d, hm, rfl⟩, fun p hp q => ?_⟩
  obtain ⟨e, he, rfl⟩ := List.mem_map.mp hp
  exact tabsB_ok C hm he q
end

/-! ### the end -/
/-- what is asked of a law's data, by looking at its text -/
structure LawOk (l : OpenLaw) (ru : RuAll) (L : LawI) (den : List D → M D) : Prop where
  cls : 0 < L.cls.length
  okd : L.all.all (fun d => okD d (txtOf l.prog d.idx)) = true
  bind : ∀ d ∈ L.all, BindP d (txtOf l.prog d.idx)
  ps : L.law.ps = [("script" : Str)] ∧ L.law.va = none ∧ L.law.gq = true
  chain : ∀ ad, Chain ru l.prog (tbOf L) ad [] L.defs
  law : ∀ ad, denOf 1 L.law.N.length (bodyT ru (staD (tbOf L) ad L.defs.reverse L.law (txtOf l.prog L.law.idx).scope) (txtOf l.prog L.law.idx).body) = den
theorem law_fn {l : OpenLaw} {ru : RuAll} {L : LawI} {den : List D → M D} {K : Frag} {h base : Heap} {w : World} {mg : Str → Option Value} (U : ru.Ok) (O : LawOk l ru L den) (KI : K.In h) (C : ChkP l.prog L K) (fns : L.all.map (fun d => He.fnObs K (d.gl, none)) = L.all.map fun d => (fnD l.prog d).val) (N : h.Ns mainGlobals mg) (TB : ∀ p ∈ csOf K L, LamX.TabB base mg p.1 p.2) :
    letI := tabT K L
    FnG l.prog w K mg base (L.law.k + 1) true (He.ga K L.law.gl) (spLaw K den) := by
  letI := tabT K L
  have G := glob_of O.cls KI N C
  have hrep : mg "repr" = none := mg_none_of KI N (He.eqO_ok C.rep)
  have dA : ∀ d ∈ L.all, DefAt l.prog K mg base (adOfL K L) TabT.T d := fun d hd => defAt_of KI N C fns hd TB
  have okd := List.all_eq_true.mp O.okd
  have ch := chain_ok (P := l.prog) (w := w) (base := base) U G hrep (defs := L.defs) (prev := []) (fun d hd => dA d (List.mem_cons_of_mem _ hd)) (fun d hd => okd d (List.mem_cons_of_mem _ hd)) (fun d hd => O.bind d (List.mem_cons_of_mem _ hd)) (O.chain (adOfL K L)) (fun d hd => by cases hd)
  rw [List.append_nil] at ch
  have D := dA L.law List.mem_cons_self
  have hok := okd L.law List.mem_cons_self
  have hb := O.bind L.law List.mem_cons_self
  obtain ⟨p1, p2, p3⟩ := O.ps
  obtain ⟨oc, od, osl, kV, doc, pm, an, cdv, ctv, lk, hcd, hl⟩ := D.lk
  unfold okD at hok
  simp only [Bool.and_eq_true, Bool.not_eq_true'] at hok
  obtain ⟨⟨hsc, hdb⟩, hden⟩ := hok
  have Sc := fnScB_ok hsc
  rw [p2, p1] at Sc
  have z := hb L.law.name L.law.name kV doc pm an cdv ctv
  rw [p2, p1] at z
  have R := recN_ok (U.e) ru.deepE
  have r := fn_law (P := l.prog) (w := w) (K := K) (mg := mg) (base := base) (k := L.law.k) (gq := true) (ct := ctOf (tbOf L) (adOfL K L)) lk hcd Sc z fun A outer s H E hr hg =>
    (recSN_ok (C := topFr) (U.top) R ru.deepS).b (stm_ok (d := L.law) G ch Sc.nd Sc.kind hr (by rw [p3]; exact hg) hl) (txtOf l.prog L.law.idx).body
  have e := O.law (adOfL K L)
  unfold bodyT at e
  rw [e] at r
  exact r
theorem mem_lk {a : Addr} {o : Obj} : ∀ {K : Frag}, K.lookup a = some o → (a, o) ∈ K
  | [], h => by cases h
  | (b, o') :: r, h => by
    rw [List.lookup_cons] at h
    split at h
    · rename_i e
      cases h
      rw [eq_of_beq e]
      exact List.mem_cons_self
    · exact List.mem_cons_of_mem _ (mem_lk h)
theorem walk_end {l : OpenLaw} {n : Nat} {q : Program} {loose : List Str} {XP : (Str → Option Value) → Heap → Prop} {d : DefRec} {ru : RuAll} {L : LawI} {den : List D → M D} (U : ru.Ok) (O : LawOk l ru L den) (hn : l.most = some n) (hn2 : n ≤ sizeLine) (hdf : d.params.defaults = []) (hnm : d.name = L.law.gl) (hr : Room (L.law.k + 1) callerA)
    (main : ∀ ns : List Int, ns.length ≤ n → (∀ z ∈ ns, Builtin.Int.intBits z ≤ 1048576) → ∃ g, den [.list (ns.map .int)] [] = .ok (.bool true) g) : PySem.W.WalkO q loose XP (hookP l.prog L).says l.row.toRowW d [] (fun f vs => PySem.call f vs) := by
  refine Att.attach_callB hn hdf fun w s₀ s₁ mg mb fa o pm cd doc a vs ns G Y ho hd hcd hmg hobj hints hlen hbits hg => ?_
  obtain ⟨K, S⟩ := Y
  have C := chkP_of S.chk
  have efa : fa = He.ga K L.law.gl := by
    have dl := C.defs L.law List.mem_cons_self
    unfold defB at dl
    simp only [Bool.and_eq_true] at dl
    have z := ga_ok S.kin G.T.g dl.1.1.1
    rw [hnm] at hmg
    rw [hmg] at z
    exact Value.ref.inj (Option.some.inj z)
  subst efa
  have nA : K.lookup a = none := by
    cases e : K.lookup a with
    | none => rfl
    | some ob =>
      have e1 := S.kin a ob e
      rw [hobj] at e1
      cases e1
      have z := C.obj (a, _) (mem_lk e)
      cases z
  have hT : ∀ p ∈ csOf K L, s₁.heap.get? p.2 = some tabO := fun p hp => by
    obtain ⟨d, hd, rfl⟩ := List.mem_map.mp hp
    exact S.tab d hd
  have lamAt : ∀ d ∈ L.lams, CodeHd s₁.heap (lamOf K d.gl).1 (lamOf K d.gl).2 ∧ K.lookup (lamOf K d.gl).2 = none := fun d hd => by
    obtain ⟨h1, h2⟩ := List.mem_filter.mp hd
    have db := C.defs d h1
    unfold defB at db
    simp only [Bool.and_eq_true] at db
    obtain ⟨_, _, _, _, _, _, z1, z2⟩ := lamB_ok S.kin h2 db.1.2
    exact ⟨z1, z2⟩
  letI := tabT K L
  refine law_end (k := L.law.k + 1) (cs := csOf K L) (sp := spLaw K den) S.kin G.T.g G.T.b G.T.builtins G.T.nolimit hg hT (fun p hp => ?_) (fun p hp => ?_) G.T.bmain hobj nA hints (Nat.le_trans hlen hn2) hr (fun base hK hN TB => law_fn U O hK C S.fns hN TB) fun H hH hS => ⟨a, ns, rfl, hS, ⟨fun p hp => ?_⟩, main ns hlen hbits, fun _ => rfl⟩
  · obtain ⟨d, hd, rfl⟩ := List.mem_map.mp hp
    exact (lamAt d hd).2
  · obtain ⟨d, hd, rfl⟩ := List.mem_map.mp hp
    exact (lamAt d hd).1
  · obtain ⟨d, hd, rfl⟩ := List.mem_map.mp hp
    exact LamX.TabS.nil (hH (lamOf K d.gl) (List.mem_map.mpr ⟨d, hd, rfl⟩))
end PF

set_option Elab.async false
set_option linter.all false
set_option maxRecDepth 100000
set_option maxHeartbeats 2000000
/-! PF33: new lists: a + b, a * n. -/
namespace PF
open PySem PySem.Spec PyProof.Rows L2
variable [TabT]

section
variable {X : Cx} {ct : Nat → ClsInfo} {e a c : Expr} {es : List Expr} {da dc : Env → M D} {pos : Pos}
theorem finF {b : Option Addr} {F0 F : Addr → Prop} {H0 H : Hp} {g : List Int} {vs : List V} {ds : List D} {p : Addr} {Q : VK} (e : Ext b F0 H0 F H) (B : Bg b g F H) (hp : H p = none) (r : RepAll X.K F H vs ds) (k : ∀ F' H', Ext b F0 H0 F' H' → Bg b g F' H' → PVF X.K b H0 Q ds g F' H') : Q (.ref p) (upd H p (.lst vs)) := by
  have e2 := Ext.new (o := .lst vs) B hp
  have nf : ¬ F p := fun f => by
    obtain ⟨o', q, _⟩ := B.wf p f
    rw [hp] at q; cases q
  exact k F _ (e.trans e2) (B.new hp) p vs (e.none_of (B.neNew hp) (nn_of hp)) nf (B.neNew hp) upd_same (r.up (e2.up B))
def catO : D → D → Option (List D)
  | .list xs, .list ys => if xs.length + ys.length ≤ sizeLine then some (xs ++ ys) else none
  | _, _ => none
def repO : D → D → Option (List D)
  | .list xs, .int k => if -(2 ^ 63) ≤ k ∧ k < 2 ^ 63 ∧ xs.length * k.toNat ≤ sizeLine then some (repD k.toNat xs) else none
  | _, _ => none
def okL (g : List Int) : Option (List D) → Res (List D)
  | some z => .ok z g
  | none => .fail
def fAdd (da dc : Env → M D) : Env → M (List D) := fun ρ g => (da ρ g).bind fun x g1 => (dc ρ g1).bind fun y g2 => okL g2 (catO x y)
def fMul (da dc : Env → M D) : Env → M (List D) := fun ρ g => (da ρ g).bind fun x g1 => (dc ρ g1).bind fun y g2 => okL g2 (repO x y)
/-- a reading of a new list: first one part, then another -/
theorem rd1f {W : WX} {σ : L2.St} {H : Hp} {R : V → Hp → Prop} {P : List D → List Int → (Addr → Prop) → Hp → Prop} {b : Option Addr} {F : Addr → Prop} {ow : Nat → Option Addr} {ρ : Env} {g : List Int} {k : D → M (List D)} {K : PySem.W.Frag}
    (S : StR K b F H ow σ ρ g) (o : Out K ct b F H (fun c dx H' => W c dx σ H') P ((da ρ g).bind k))
    (f : ∀ x g' F' H' v, Ext b F H F' H' → StR K b F' H' ow σ ρ g' → RepO K b F' H' v x → Out K ct b F H (fun c dx H' => W c dx σ H') P (k x g') → R v H') : rdO K ct W da σ H R := by
  refine ⟨b, F, ow, ρ, g, S, ?_⟩
  generalize hz : da ρ g = z at o ⊢
  cases z with
  | ok x g' => exact fun F' H' e B v r => f x g' F' H' v e (S.up e B) r o
  | exc c p g' => exact o
  | fail => exact o
theorem sf_add (ha : SO X ct da a) (hc : SO X ct dc c) : SF X ct (fAdd da dc) (.BinOp a .Add c pos) := fun W tk => by
  refine peW (pe_op op_catL (ha W tk) (hc W tk)) fun σ H Q ⟨b, F, ow, ρ, g, S, o⟩ => ?_
  unfold fAdd at o
  refine rd1f S o fun x g1 F1 H1 v e1 S1 r1 o1 => ?_
  refine ⟨b, F1, ow, ρ, g1, S1, ?_⟩
  generalize dc ρ g1 = z at o1 ⊢
  cases z with
  | exc c p g' => exact fun F' H' dx e B E => o1 F' H' dx (e1.trans e) B E
  | fail => exact o1
  | ok y g2 =>
    intro F2 H2 e2 B2 w r2
    have r1' := r1.up e2 S1.toBg
    have o1 : Out X.K ct b F H (fun c dx H' => W c dx σ H') (PVF X.K b H Q) (okL g2 (catO x y)) := o1
    cases hk : catO x y with
    | none => rw [hk] at o1; exact o1.elim
    | some zs =>
      rw [hk] at o1
      cases x <;> first | (cases hk; done) | skip
      cases y <;> first | (cases hk; done) | skip
      simp only [catO] at hk
      split at hk
      · rename_i hl
        cases hk
        obtain ⟨p1, vs1, rfl, h1, q1⟩ := r1'.list
        obtain ⟨p2, vs2, rfl, h2, q2⟩ := r2.list
        exact ⟨p1, p2, vs1, vs2, rfl, rfl, h1, h2, by rw [q1.length, q2.length]; exact hl, fun p hp => finF (X := X) (e1.trans e2) B2 hp (q1.append q2) o1⟩
      · cases hk
theorem sf_mul (ha : SO X ct da a) (hc : SO X ct dc c) : SF X ct (fMul da dc) (.BinOp a .Mult c pos) := fun W tk => by
  refine peW (pe_op op_repL (ha W tk) (hc W tk)) fun σ H Q ⟨b, F, ow, ρ, g, S, o⟩ => ?_
  unfold fMul at o
  refine rd1f S o fun x g1 F1 H1 v e1 S1 r1 o1 => ?_
  refine ⟨b, F1, ow, ρ, g1, S1, ?_⟩
  generalize dc ρ g1 = z at o1 ⊢
  cases z with
  | exc c p g' => exact fun F' H' dx e B E => o1 F' H' dx (e1.trans e) B E
  | fail => exact o1
  | ok y g2 =>
    intro F2 H2 e2 B2 w r2
    have r1' := r1.up e2 S1.toBg
    have o1 : Out X.K ct b F H (fun c dx H' => W c dx σ H') (PVF X.K b H Q) (okL g2 (repO x y)) := o1
    cases hk : repO x y with
    | none => rw [hk] at o1; exact o1.elim
    | some zs =>
      rw [hk] at o1
      cases x <;> first | (cases hk; done) | skip
      cases y <;> first | (cases hk; done) | skip
      simp only [repO] at hk
      split at hk
      · rename_i hl
        cases hk
        obtain ⟨p1, vs1, rfl, h1, q1⟩ := r1'.list
        exact ⟨p1, _, vs1, rfl, r2.int, h1, hl.1, hl.2.1, by rw [q1.length]; exact hl.2.2, fun p hp => finF (X := X) (e1.trans e2) B2 hp (q1.rep _) o1⟩
      · cases hk
end
def rBinL : RuleL := fun r S e => match e with
  | .BinOp a .Add c _ => some (fAdd (r.o S a) (r.o S c))
  | .BinOp a .Mult c _ => some (fMul (r.o S a) (r.o S c))
  | _ => none
theorem rBinL_ok : rBinL.Ok := fun r R X S h e d q => by
  unfold rBinL at q
  split at q
  · cases q; exact sf_add (R.o h _) (R.o h _)
  · cases q; exact sf_mul (R.o h _) (R.o h _)
  · cases q
end PF

set_option Elab.async false
set_option linter.all false
set_option maxRecDepth 100000
set_option maxHeartbeats 2000000
/-! PF34: an empty dict; several names get a list's items. -/
namespace PF
open PySem PySem.Spec PyProof.Rows L2
variable [TabT]

section
variable {X : Cx} {ct : Nat → ClsInfo} {pos : Pos}
def fD0 : Env → M (List (D × D)) := fun _ g => .ok [] g
theorem sfd_d0 : SFd X ct fD0 (.Dict [] [] pos) := fun W tk => by
  refine peW pe_dnewK fun σ H Q ⟨b, F, ow, ρ, g, S, o⟩ => ?_
  intro p hp
  have nf : ¬ F p := fun f => by
    obtain ⟨o', q, _⟩ := S.wf p f
    rw [hp] at q; cases q
  have e2 := Ext.new (o := .dK []) S.toBg hp
  exact o F _ e2 (S.toBg.new hp) p _ (nn_of hp) nf (S.toBg.neNew hp) upd_same (.dk rfl .nil)
end
def rDisp0 : RuleK := fun r S e => match e with
  | .Dict [] [] _ => some fD0
  | _ => none
theorem rDisp0_ok : rDisp0.Ok := fun r R X S h e d q => by
  unfold rDisp0 at q
  split at q
  · cases q; exact sfd_d0
  · cases q

section
variable {C : FrC} {X : Cx} {ct : Nat → ClsInfo} {W : WS} {pos : Pos}
/-- names = a list -/
def sUnpL (is : List Nat) (d : Env → M D) : Env → M Fl := fun ρ g => (d ρ g).bind fun x g1 => match x with
  | .list xs => if xs.length = is.length then .ok (.next (setAll is xs ρ)) g1 else .fail
  | _ => .fail
theorem ss_unpL {es : List Expr} {k : Nat} {p : Pos} {e : Expr} {is : List Nat} {d : Env → M D} (hc : X.calm = true) (hN : X.N.Nodup) (hg : NamesAre X es is) (h : SE X ct d e) (hs : swapsWithSole [.Tuple es k p] e pos.line X.env = pure false) (hw : swappedStores [.Tuple es k p] e X.env = pure none) :
    SS C X ct (sUnpL is d) (.Assign [.Tuple es k p] e pos) := fun W tk => by
  obtain ⟨h1, hl, ha⟩ := pgs_names hN es is hg
  have hst : (assignEach es X.env).findIdx? (·.1) = none := by
    rw [List.findIdx?_eq_none_iff]
    intro x hx
    have := List.all_eq_true.mp ha x hx
    simpa using this
  refine psW (ps_asg (h (WXof W) tk) (pg_lst (pos := p) (k := k) hc h1 hl hst) hs hw rfl) fun D σ H ⟨b, F, ow, ρ, g, S, o⟩ => ?_
  refine rs1e S o fun x g' F' H' v S' r o' => ?_
  cases x <;> first | exact (show False from o').elim | skip
  rename_i xs
  have o' : OutS C X.K ct F' H' W D (if xs.length = is.length then Res.ok (Fl.next (setAll is xs ρ)) g' else .fail) := o'
  split at o'
  · rename_i hx
    cases r with
    | lst hL rv =>
      exact ⟨_, _, rfl, hL.seq, by rw [rv.length]; exact hx, glist_read is S'.st rv hx fun σ' ow' St' hs' _ => o' b F' H' ow' σ' ⟨St', S'.fr, fun k a q => S'.fo k a (hs' k a q)⟩ Mono.refl⟩
  · exact o'.elim
end
variable {C : FrC}
def rsUnpL : RuleS := fun r q S st => match st with
  | .Assign [.Tuple ts _ _] e _ => (match e with
    | .ListComp .. => (match tgNames S ts with
      | some is => some (fz S [e] (sUnpL is (r.e S e)))
      | none => none)
    | _ => none)
  | _ => none
theorem rsUnpL_ok : RuleS.Ok C rsUnpL := fun r R q Q X S h st d e => by
  unfold rsUnpL at e
  split at e
  · split at e
    · split at e
      · rename_i is hi
        cases e
        exact fz_ok (ss_unpL h.ok.calm (by rw [h.ok.N]; exact h.ok.nd) (tgNames_ok h.ok _ _ hi) (R.e h.ok _) rfl rfl)
      · cases e
    · cases e
  · cases e
end PF

set_option Elab.async false
set_option linter.all false
set_option maxRecDepth 100000
set_option maxHeartbeats 2000000
/-! PF36: x = y.pop(); y.extend(e). -/
namespace PF
open PySem PySem.Spec PyProof.Rows L2
variable [TabT]

section
variable {K : PySem.W.Frag} {F : Addr → Prop} {H : Hp}
theorem RepAll.dropLast : ∀ {vs : List V} {ds : List D}, RepAll K F H vs ds → RepAll K F H vs.dropLast ds.dropLast
  | _, _, .nil => .nil
  | _, _, .cons r .nil => .nil
  | _, _, .cons r (.cons r2 t) => .cons r (RepAll.dropLast (.cons r2 t))
end
section
variable {C : FrC} {X : Cx} {ct : Nat → ClsInfo} {W : WS} {pos : Pos} {i j : Nat} {x y : Str} {p px p1 cpos : Pos} {e : Expr} {dv : Env → M D}
def sPop (j i : Nat) : Env → M Fl := fun ρ g => match ρ[i]? with
  | some (some (.own ds)) => (match ds[ds.length - 1]? with
    | some z => .ok (.next ((ρ.set i (some (.own ds.dropLast))).set j (some (.val z)))) g
    | none => .fail)
  | _ => .fail
theorem ss_pop (hN : X.N.Nodup) (hj : X.N[j]? = some x) (hx : Loc X.env.scope x) (hf : X.fn x = true ∨ X.env.scope.names.lookup x = some .local) (n : NmOk X i y)
    (hbase : attributeBase (.Name y p) "pop" X.env (eval (.Name y p) X.env) = eval (.Name y p) X.env) (hline : (p1.endLine == cpos.line) = true) :
    SS C X ct (sPop j i) (.Assign [.Name x px] (.Call (.Attribute (.Name y p) "pop" p1) [] [] cpos) pos) := fun W tk => by
  refine psW (ps_set hN hj hx (pe_bm0 F.plainAttrs_list F.slot_list_pop F.type_list_pop (show MtR X _ _ from mt_pop) (pe_var n.hN n.hv n.hd n.hcd) hbase hline) rfl hf) fun D σ H ⟨b, F, ow, ρ, g, S, o⟩ => ?_
  unfold sPop at o
  split at o
  · rename_i ds hi
    obtain ⟨a, vs, e0, ex, nf, h1, r0⟩ := S.st.slot i _ hi
    split at o
    · rename_i z hz
      obtain ⟨v, hv, rz⟩ := r0.get hz
      refine ⟨.ref a, ex, .inl ⟨rfl, vs, .of h1⟩, a, vs, v, rfl, rfl, h1, by rw [r0.length]; exact hv, ?_⟩
      obtain ⟨S2, m⟩ := S.writeL (ds' := ds.dropLast) hi e0 nf h1 r0.dropLast
      obtain ⟨ow2, T⟩ := S2.set j (rz.up m)
      exact o b F _ ow2 _ T m
    · exact o.elim
  · exact o.elim
def sExt (i : Nat) (dv : Env → M (List D)) : Env → M Fl := fun ρ g => match ρ[i]? with
  | some (some (.own ds)) => (dv ρ g).bind fun xs g1 => if ds.length + xs.length ≤ sizeLine then .ok (.next (ρ.set i (some (.own (ds ++ xs))))) g1 else .fail
  | _ => .fail
theorem ss_ext {dv : Env → M (List D)} (n : NmOk X i y) (he : SF X ct dv e) (hs : isStarB e = false) (hsw : swapsWith (.Call (.Attribute (.Name y p) "extend" p1) [e] [] cpos) none pos.line X.env = pure false)
    (hbase : attributeBase (.Name y p) "extend" X.env (eval (.Name y p) X.env) = eval (.Name y p) X.env) (hline : (p1.endLine == cpos.line) = true) :
    SS C X ct (sExt i dv) (.Expr (.Call (.Attribute (.Name y p) "extend" p1) [e] [] cpos) pos) := fun W tk => by
  have hfew : ((backTo cpos (starEach [e] X.env)).all (fun x => !x.1) && (backToKw cpos (keywordEach [] X.env)).all (fun x => x.1.isSome) && decide ([e].length + ([] : List Keyword).length + (if ([] : List Keyword).isEmpty then 0 else 1) < 30)) = true := by
    rw [star_no hs]; rfl
  refine psW (ps_expr (pe_bm F.plainAttrs_list F.slot_list_extend F.type_list_extend (show MtR X _ _ from mt_extend) (pe_var n.hN n.hv n.hd n.hcd) (pa_cons (he (WXof W) tk) pa_nil (star_no hs)) hbase hfew hline (star_no hs) rfl) hsw) fun D σ H ⟨b, F, ow, ρ, g, S, o⟩ => ?_
  unfold sExt at o
  split at o
  · rename_i ds hi
    obtain ⟨a, vs, e0, ex, nf, h1, r0⟩ := S.st.slot i _ hi
    refine ⟨.ref a, ex, .inl ⟨rfl, vs, .of h1⟩, ?_⟩
    refine ⟨b, F, ow, ρ, g, S.st, (OutS.ofE S o).imp fun xs g1 F1 H1 e1 B1 o1 q zs h0 nfq nbq hq rq => ?_⟩
    have S1 := S.up e1 B1
    obtain ⟨a1, vs1, e01, ex1, nf1, h11, r1⟩ := S1.st.slot i _ hi
    have ea : a1 = a := by rw [e0] at e01; cases e01; rfl
    subst ea
    by_cases hl : ds.length + xs.length ≤ sizeLine
    · rw [if_pos hl] at o1
      obtain ⟨S2, m⟩ := S1.writeL (ds' := ds ++ xs) hi e01 nf1 h11 (r1.append rq)
      exact ⟨a1, q, vs1, zs, rfl, rfl, h11, hq, by rw [r1.length, rq.length]; exact hl, o1 b F1 _ ow σ S2 m⟩
    · rw [if_neg hl] at o1; exact o1.elim
  · exact o.elim
end
variable {C : FrC}
def rsPop : RuleS := fun r q S st => match st with
  | .Assign [.Name x _] (.Call (.Attribute (.Name y _) m p1) [] [] cpos) _ => if m == ("pop" : Str) && (p1.endLine == cpos.line) then (match stOf S x, slotOf S y with
    | some j, some i => some (sPop j i)
    | _, _ => none) else none
  | _ => none
theorem rsPop_ok : RuleS.Ok C rsPop := fun r R q Q X S h st d e => by
  unfold rsPop at e
  split at e
  · split at e
    · rename_i hh
      obtain ⟨h1, h3⟩ := Bool.and_eq_true_iff.mp hh
      have h1 := eq_of_beq h1
      subst h1
      split at e
      · rename_i j i hj hi
        cases e
        obtain ⟨a, b, c⟩ := st_ok h.ok hj
        exact ss_pop (by rw [h.ok.N]; exact h.ok.nd) a b c (slot_ok h.ok hi) base_name h3
      · cases e
    · cases e
  · cases e
def rsExt : RuleS := fun r q S st => match st with
  | .Expr (.Call (.Attribute (.Name y _) m p1) [e] [] cpos) _ => if m == ("extend" : Str) && !isStarB e && (p1.endLine == cpos.line) then (match slotOf S y, r.l S e with
    | some i, some d => some (fz S [e] (sExt i d))
    | _, _ => none) else none
  | _ => none
theorem rsExt_ok : RuleS.Ok C rsExt := fun r R q Q X S h st d e => by
  unfold rsExt at e
  split at e
  · split at e
    · rename_i hh
      simp only [Bool.and_eq_true, Bool.not_eq_true'] at hh
      obtain ⟨⟨h1, h2⟩, h3⟩ := hh
      have h1 := eq_of_beq h1
      subst h1
      split at e
      · rename_i i d' hi hd
        cases e
        exact fz_ok (ss_ext (slot_ok h.ok hi) (R.l h.ok _ _ hd) h2 (swaps_no rfl) base_name h3)
      · cases e
    · cases e
  · cases e
end PF

set_option Elab.async false
set_option linter.all false
set_option maxRecDepth 100000
set_option maxHeartbeats 1000000
/-! PF39: tuple(range(..)), list(range(..)). -/
namespace PF
open PySem PySem.Spec PyProof.Rows L2
variable [TabT]

section
variable {X : Cx} {ct : Nat → ClsInfo} {e a c : Expr} {da dc : Env → M D} {p p2 pos pos2 : Pos}
theorem repRng {K : PySem.W.Frag} {F : Addr → Prop} {H : Hp} (a : Int) : ∀ l : List Nat, RepAll K F H (l.map fun i => V.int (a + (i : Nat))) (l.map fun i => PyData.int (a + (i : Nat)))
  | [] => .nil
  | i :: r => .cons (.int _) (repRng a r)
def okRv (i j : Int) : Bool := okRg i && okRg j && decide ((j - i).toNat ≤ 2 ^ 24)
theorem okRv_ok {i j : Int} (h : okRv i j = true) : RgOk i j := by
  simp only [okRv, okRg, Bool.and_eq_true, decide_eq_true_eq] at h
  exact ⟨h.1.1.1, h.1.1.2, h.1.2.1, h.1.2.2, h.2⟩
def dTR1 (da : Env → M D) : Env → M D := fun ρ g => (da ρ g).bind fun x g1 => match x with
  | .int j => if okRv 0 j = true then .ok (.tuple (rngD 0 (j - 0).toNat)) g1 else .fail
  | _ => .fail
def dTR2 (da dc : Env → M D) : Env → M D := fun ρ g => (da ρ g).bind fun x g1 => (dc ρ g1).bind fun y g2 => match x, y with
  | .int i, .int j => if okRv i j = true then .ok (.tuple (rngD i (j - i).toNat)) g2 else .fail
  | _, _ => .fail
theorem se_tr1 (hc : X.calm = true) (hg : Gl X "tuple") (hm : X.mg "tuple" = none) (hg2 : Gl X "range") (hm2 : X.mg "range" = none) (ha : SO X ct da a) (hs : isStarB a = false) : SE X ct (dTR1 da) (.Call (.Name "tuple" p) [.Call (.Name "range" p2) [a] [] pos2] [] pos) := fun W tk => by
  refine peW (pe_tupRg hc hg hm (prg_1 hg2 hm2 (ha W tk) (star_no hs)) rfl) fun σ H Q ⟨b, F, ow, ρ, g, S, o⟩ => ?_
  refine rd1 S o fun x g1 F1 H1 v e1 S1 r1 o1 => ?_
  cases x <;> first | (exact o1.elim) | skip
  rename_i j
  dsimp only at o1
  split at o1
  · rename_i hj
    exact ⟨j, r1.int, okRv_ok hj, fun q hq => finT S1.toBg hq (repRng 0 _) fun F' H' u e B r => o1 F' H' e B u r⟩
  · exact o1.elim
theorem se_tr2 (hcm : X.calm = true) (hg : Gl X "tuple") (hm : X.mg "tuple" = none) (hg2 : Gl X "range") (hm2 : X.mg "range" = none) (ha : SO X ct da a) (hc : SO X ct dc c) (hs : isStarB a = false) (hs2 : isStarB c = false) : SE X ct (dTR2 da dc) (.Call (.Name "tuple" p) [.Call (.Name "range" p2) [a, c] [] pos2] [] pos) := fun W tk => by
  refine peW (pe_tupRg hcm hg hm (prg_2 hg2 hm2 (ha W tk) (hc W tk) (by rw [star_no hs]) (star_no hs2) (by rw [star_no hs2]; rfl)) rfl) fun σ H Q ⟨b, F, ow, ρ, g, S, o⟩ => ?_
  refine rd1 S o fun x g1 F1 H1 v e1 S1 r1 o1 => ?_
  refine rd1 S1 o1 fun y g2 F2 H2 w e2 S2 r2 o2 => ?_
  cases x <;> first | (exact o2.elim) | skip
  cases y <;> first | (exact o2.elim) | skip
  rename_i i j
  dsimp only at o2
  split at o2
  · rename_i hj
    exact ⟨i, j, r1.int, r2.int, okRv_ok hj, fun q hq => finT S2.toBg hq (repRng i _) fun F' H' u e B r => o2 F' H' e B u r⟩
  · exact o2.elim
end
def rTR : RuleE := fun r S e => match e with
  | .Call (.Name x _) [.Call (.Name y _) [a] [] _] [] _ => if x == ("tuple" : Str) && y == ("range" : Str) && glB S x && S.nog x && glB S y && S.nog y && !isStarB a then some (dTR1 (r.o S a)) else none
  | .Call (.Name x _) [.Call (.Name y _) [a, c] [] _] [] _ => if x == ("tuple" : Str) && y == ("range" : Str) && glB S x && S.nog x && glB S y && S.nog y && !isStarB a && !isStarB c then some (dTR2 (r.o S a) (r.o S c)) else none
  | _ => none
theorem rTR_ok : rTR.Ok := fun r R X S h e d q => by
  unfold rTR at q
  split at q
  · split at q
    · rename_i hh
      simp only [Bool.and_eq_true, Bool.not_eq_true'] at hh
      obtain ⟨⟨⟨⟨⟨⟨hx, hy⟩, hg⟩, hn⟩, hg2⟩, hn2⟩, hs⟩ := hh
      have hx := eq_of_beq hx
      have hy := eq_of_beq hy
      subst hx hy
      cases q
      exact se_tr1 h.calm (gl_ok h hg).1 (h.nog _ hn) (gl_ok h hg2).1 (h.nog _ hn2) (R.o h _) hs
    · cases q
  · split at q
    · rename_i hh
      simp only [Bool.and_eq_true, Bool.not_eq_true'] at hh
      obtain ⟨⟨⟨⟨⟨⟨⟨hx, hy⟩, hg⟩, hn⟩, hg2⟩, hn2⟩, hs⟩, hs2⟩ := hh
      have hx := eq_of_beq hx
      have hy := eq_of_beq hy
      subst hx hy
      cases q
      exact se_tr2 h.calm (gl_ok h hg).1 (h.nog _ hn) (gl_ok h hg2).1 (h.nog _ hn2) (R.o h _) (R.o h _) hs hs2
    · cases q
  · cases q
end PF

set_option Elab.async false
set_option linter.all false
set_option maxRecDepth 100000
set_option maxHeartbeats 1000000
/-! PF42: y[k], y a dict of the frame's own. -/
namespace PF
open PySem PySem.Spec PyProof.Rows L2
variable [TabT]

section
variable {X : Cx} {ct : Nat → ClsInfo} {i : Nat} {y : Str} {c : Expr} {dc : Env → M D} {p pos : Pos}
def dIxK (i : Nat) (dc : Env → M D) : Env → M D := fun ρ g => match ρ[i]? with
  | some (some (.ownd ps)) => (dc ρ g).bind fun k g1 => if keyInD k ps = true then (match getDK ps k with | some z => .ok z g1 | none => .fail) else .fail
  | _ => dIxN i dc ρ g
theorem se_ixK (hu : X.A.units + 1 < cLine) (n : NmOk X i y) (hs : noSlice c = true) (hc : SE X ct dc c) : SE X ct (dIxK i dc) (.Subscript (.Name y p) c pos) := fun W tk => by
  have h1 := (se_ixN (pos := pos) (p := p) n hs hc : SE X ct _ (.Subscript (.Name y p) c pos)) W tk
  have nsl : NoSl c := by
    intro ov iv
    cases c <;> first | rfl | (cases hs; done)
  have h2 := pe_dgetE (pos := pos) hu (pe_var n.hN n.hv n.hd n.hcd (pos := p)) (hc W tk) nsl
  refine ⟨fun pins s σ H Q I ⟨b, F, ow, ρ, g, S, o⟩ => ?_⟩
  unfold dIxK at o
  split at o
  · rename_i ps0 hi0
    refine h2.run pins s σ H Q I ?_
    obtain ⟨a, kvs, e0, ex, nf, _, r0⟩ := S.slot i _ hi0
    refine ⟨.ref a, ex, ?_⟩
    refine rd1e S o fun k g1 F1 H1 v e1 S1 rk o1 => ?_
    obtain ⟨a1, kvs1, e01, ex1, nf1, h11, r1⟩ := S1.slot i _ hi0
    have ea : a1 = a := by rw [e0] at e01; cases e01; rfl
    subst ea
    split at o1
    · rename_i hk
      rcases Bool.or_eq_true_iff.mp hk with hk | hk
      · obtain ⟨hk, hp⟩ := Bool.and_eq_true_iff.mp hk
        obtain ⟨kk, rfl⟩ := isKey_eq hk
        obtain rfl : v = kV kk := repKey rk
        obtain ⟨kvs2, eu, r3⟩ := r1.plain hp
        subst eu
        rcases r3.val kk with ⟨z1, z2⟩ | ⟨v1, z1, q1, q2, rz⟩
        · rw [z2] at o1; exact o1.elim
        · rw [q2] at o1
          exact ⟨a1, v1, rfl, .inl (.inl ⟨_, kk, .inl h11, rfl, q1.symm⟩), Out.ok o1 S1.toBg _ rz⟩
      · obtain ⟨hk, hp⟩ := Bool.and_eq_true_iff.mp hk
        obtain ⟨ns, ht⟩ := Option.isSome_iff_exists.mp hk
        obtain rfl := tupKD_eq ht
        obtain ⟨b', vs, rfl, hb, rt⟩ := rk.tuple
        rw [rt.ints] at hb
        obtain ⟨xs, hR, q⟩ := r1.rdE (.inl h11) hp
        rcases q.val ns with ⟨z2, _⟩ | ⟨v1, z1, q1, q2, rz⟩
        · rw [z2] at o1; exact o1.elim
        · rw [q2] at o1
          exact ⟨a1, v1, rfl, .inr ⟨xs, ns, b', hR, rfl, hb, q1⟩, Out.ok o1 S1.toBg _ rz⟩
    · exact o1.elim
  · exact h1.run pins s σ H Q I ⟨b, F, ow, ρ, g, S, o⟩
end
def rIxK : RuleE := fun r S e => match e with
  | .Subscript (.Name y _) c _ => if noSlice c then (slotOf S y).map fun i => dIxK i (r.e S c) else none
  | _ => none
theorem rIxK_ok : rIxK.Ok := fun r R X S h e d q => by
  unfold rIxK at q
  split at q
  · split at q
    · rename_i hs
      obtain ⟨i, hi, rfl⟩ := Option.map_eq_some_iff.mp q
      exact se_ixK (by have := h.un; omega) (slot_ok h hi) hs (R.e h _)
    · cases q
  · cases q
end PF

set_option Elab.async false
set_option linter.all false
set_option maxRecDepth 100000
set_option maxHeartbeats 2000000
/-! PF43: f(lambda y=0: e), f a def that tries what it got. -/
namespace PF
open PySem PySem.Spec PyProof.Rows L2

/-- one parameter, which has a number to fall back on -/
abbrev parD (ya : Arg) (n : Int) (kk : Nat) (dp : Pos) : Arguments := { posonlyargs := [], args := [ya], vararg := none, kwonlyargs := [], kw_defaults := [], kwarg := none, defaults := [.Constant (.int n) kk dp] }
/-- the names of such a lambda -/
structure LamSD (y : Str) (sc scope : Scope) : Prop where
  kind : scope.kind = .function
  co : scope.isCoroutine = false
  gen : scope.isGenerator = false
  par : scope.names.lookup y = some .local
  own : ∀ z ∈ scope.names, z.2 ≠ .cell ∧ (z.2 = .local → z.1 = y)
  free : ∀ z ∈ scope.names, z.2 = .free → sc.names.lookup z.1 = some .cell ∨ sc.names.lookup z.1 = some .free
def lamSDB (y : Str) (sc scope : Scope) : Bool :=
  decide (scope.kind = .function) && (!scope.isCoroutine && (!scope.isGenerator && (decide (scope.names.lookup y = some .local) &&
    scope.names.all fun z => !decide (z.2 = .cell) && ((!decide (z.2 = .local) || decide (z.1 = y)) && (!decide (z.2 = .free) || (decide (sc.names.lookup z.1 = some .cell) || decide (sc.names.lookup z.1 = some .free)))))))
theorem lamSDB_ok {y : Str} {sc scope : Scope} (h : lamSDB y sc scope = true) : LamSD y sc scope := by
  unfold lamSDB at h
  simp only [Bool.and_eq_true, Bool.or_eq_true, Bool.not_eq_true', decide_eq_true_eq, decide_eq_false_iff_not, List.all_eq_true] at h
  obtain ⟨a1, a2, a3, a4, a5⟩ := h
  refine ⟨a1, a2, a3, a4, fun z hz => ⟨(a5 z hz).1, fun e => ?_⟩, fun z hz e => ?_⟩
  · rcases (a5 z hz).2.1 with q | q
    · exact absurd e q
    · exact q
  · rcases (a5 z hz).2.2 with q | q
    · exact absurd e q
    · exact q
section
variable {X : Cx} {pins : List (Addr × Obj)} {σ : L2.St} {H HZ : Hp} {s s1 : Shared} {y : Str}
theorem LamSD.has {scope : Scope} (L : LamSD y X.env.scope scope) (ok : X.Ok) (z : Str × NameKind) (hz : z ∈ scope.names) (e : z.2 = .free) : ∃ c, X.env.cells.lookup z.1 = some c := (L.free z hz e).elim (fun q => ok.has _ (.inl q)) (fun q => ok.has _ (.inr q))
abbrev lamQ (X : Cx) : Str := X.env.qual ++ ("<lambda>" : Str)
abbrev cloX (X : Cx) (scope : Scope) : List (Str × Addr) := cloFrom X.env.cells scope.names []
/-- it is made -/
theorem lamd_make {T : List (Addr × Str)} {c P : Addr} {ya : Arg} {n : Int} {kk : Nat} {dp : Pos} {body : Expr} {scope : Scope} {pos : Pos} {E : Value → Shared → Prop} {Q : Value → Shared → Prop} (I : Inv X pins σ H s) (TB : LamX.TabB X.base X.mg c P) (hcode : X.env.code = .ref c)
    (hm : (P, lamQ X) ∈ T) (hu : ∀ p ∈ T, p.1 = P → p.2 = lamQ X) (hT : LamX.Tabs T H) (hfree : ∀ z ∈ scope.names, z.2 = .free → ∃ c, X.env.cells.lookup z.1 = some c)
    (h : ∀ (f c' t : Addr) (tk : Tok) (doc pm ctv : Value) (H1 : Hp) (s' : Shared), Inv X pins σ H1 s' → LamX.ExtN H H1 → LamX.Tabs T H1 →
      s'.heap.get? f = some (PySem.W.kdv_obj "<lambda>" (lamQ X) (parD ya n kk dp) (.expr body) scope (cloX X scope) (.ref t) doc pm c' ctv) → H1 f = none → f ∉ frs X.stack →
      s'.heap.get? t = some (PySem.W.kdv_tup [.int n tk]) → H1 t = none → t ∉ frs X.stack → H1 c' = some (LamX.CodeO c' (lamQ X)) → Q (.ref f) s') :
    wpAny (model X.prog X.w) X.A (eval (.Lambda (parD ya n kk dp) body scope pos) X.env) Q E s := by
  refine PySem.W.kdv_lam rfl rfl (PySem.W.kdv_all1 ?_)
  have nofr : ∀ (s : Shared) (H : Hp), Inv X pins σ H s → ∀ f, s.heap.objs.size ≤ f → f ∉ frs X.stack := fun s H I f hf z => by
    rcases List.mem_cons.mp (I.stkSub _ z) with e | e
    · have h1 := I.lt
      rw [← e] at h1
      exact absurd (Nat.lt_of_lt_of_le h1 hf) (Nat.lt_irrefl f)
    · exact I.nofs hf e
  refine thn ((pe_int (i := n) (j := kk) (pos := dp)).run pins s σ H (fun v H1 => v = .int n ∧ H1 = H) I ⟨rfl, rfl⟩) fun u s1 ⟨v, H1, I1, r1, q1⟩ => ?_
  obtain ⟨ev, eH⟩ := q1
  subst ev
  rw [eH] at I1
  obtain ⟨tk, rfl⟩ : ∃ tk, u = Value.int n tk := r1
  refine PySem.W.kdv_all0 ?_
  rw [makeFunction_eq]
  simp only [List.zip_nil_right, List.filterMap_nil, List.isEmpty_nil, if_true, pure_bind, List.isEmpty_cons, Bool.false_eq_true, if_false]
  refine wpAny_bind (wpAny_newTextTuple ?_)
  have gt2 : (s1.heap.push (PySem.W.kdv_tup [.int n tk])).get? s1.heap.objs.size = some (PySem.W.kdv_tup [.int n tk]) := Heap.get?_push_size _ rfl
  have nt2 : H s1.heap.objs.size = none := I1.hok.fresh (Nat.le_refl _)
  have ft2 : s1.heap.objs.size ∉ frs X.stack := nofr s1 H I1 _ (Nat.le_refl _)
  have I2 : Inv X pins σ H { s1 with heap := s1.heap.push (PySem.W.kdv_tup [.int n tk]), toks := s1.toks } := I1.kept fun b o e => Heap.get?_push_of_some _ e
  generalize hs2 : ({ s1 with heap := s1.heap.push (PySem.W.kdv_tup [.int n tk]), toks := s1.toks } : Shared) = s2 at I2
  have es2 : ({ s1 with heap := s1.heap.push (PySem.W.kdv_tup [.int n tk]) } : Shared) = s2 := hs2
  have hh2 : s1.heap.push (PySem.W.kdv_tup [.int n tk]) = s2.heap := by rw [← hs2]
  rw [hh2] at gt2
  generalize ht : s1.heap.objs.size = t at gt2 nt2 ft2 ⊢
  obtain ⟨ps, hP, hts, ha⟩ := hT _ hm
  have bP : s2.heap.BuiltinsAt X.mg P := TB.bm.keeps I2.bk
  have hP' : s2.heap.get? P = some { cls := .none, data := .fields ps } := I2.hok P _ hP
  have hcl := closure_ok hfree
  have htP : t ≠ P := fun z => by rw [z, hP] at nt2; cases nt2
  cases hc : codeAmong pos ps.toList with
  | none =>
    refine PySem.W.kdv_makeTail (mg := X.mg) (c := c) (P := P) (ps := ps) hcl I2.ok.glob (I2.mod.glob.keeps I2.bk) hcode (TB.code.keeps I2.bk) hP' hts hc TB.gP bP fun c' ctv doc h' tk' hx hge hlt hrec htb => ?_
    obtain ⟨c2, oc, vs, t3, e2, hoc, hd, hv⟩ := hrec
    cases e2
    have nC : H c' = none := I2.hok.fresh hge
    have nF : H h'.objs.size = none := I2.hok.fresh (Nat.le_trans hge (Nat.le_of_lt hlt))
    have I3 := LamX.inv_table (t' := tk') (more := #[rawInt pos.line, rawInt pos.col, .ref c']) (h' := h'.push (PySem.W.kdv_obj "<lambda>" (lamQ X) (parD ya n kk dp) (.expr body) scope (cloX X scope) (.ref t) doc ((X.mg "__name__").getD .none) c' ctv)) I2 hP
      (fun b o hb e => Heap.get?_push_of_some _ (hx b o hb e)) (Heap.get?_push_of_some _ htb) hge ⟨oc, vs, t3, Heap.get?_push_of_some _ hoc, hd, hv⟩
    have nPc : P ≠ c' := ne_of_none hP nC
    have tc : t ≠ c' := Nat.ne_of_lt (Nat.lt_of_lt_of_le (Heap.lt_size gt2) hge)
    have fc : h'.objs.size ≠ c' := Nat.ne_of_gt hlt
    have fP : h'.objs.size ≠ P := Nat.ne_of_gt (Nat.lt_of_lt_of_le (Heap.lt_size hP') (Nat.le_trans hge (Nat.le_of_lt hlt)))
    refine h h'.objs.size c' t tk doc ((X.mg "__name__").getD .none) ctv _ _ I3 (fun b o e ne => ?_) (fun p hp => ?_) (Heap.get?_push_size _ rfl) ?_ (nofr s2 H I2 _ (Nat.le_trans hge (Nat.le_of_lt hlt))) (Heap.get?_push_of_some _ (hx _ _ htP gt2)) ?_ ft2 upd_same
    · rw [upd_ne (ne_of_none e nC), upd_ne (fun z => ne ps (Option.some.inj (e.symm.trans (by rw [z]; exact hP))))]
      exact e
    · by_cases hb : p.1 = P
      · rw [hu p hp hb, hb]
        have eL : (ps ++ #[rawInt pos.line, rawInt pos.col, .ref c']).toList = ps.toList ++ [rawInt pos.line, rawInt pos.col, .ref c'] := by simp
        refine ⟨_, by rw [upd_ne nPc, upd_same], by rw [eL]; exact PySem.TriplesOk_snoc _ _ _ _ hts, fun p' cv hcv => ?_⟩
        rw [eL] at hcv
        rcases LamX.among_app _ hts hcv with z | z
        · obtain ⟨c0, e1, e2⟩ := ha p' cv z
          refine ⟨c0, e1, ?_⟩
          rw [upd_ne (ne_of_none e2 nC), upd_ne (fun z => by rw [z, hP] at e2; exact LamX.codeO_ne _ (Option.some.inj e2).symm)]
          exact e2
        · exact ⟨c', z, upd_same⟩
      · obtain ⟨ps', a1, a2, a3⟩ := hT p hp
        refine ⟨ps', by rw [upd_ne (ne_of_none a1 nC), upd_ne hb]; exact a1, a2, fun p' cv hcv => ?_⟩
        obtain ⟨c0, e1, e2⟩ := a3 p' cv hcv
        refine ⟨c0, e1, ?_⟩
        rw [upd_ne (ne_of_none e2 nC), upd_ne (fun z => by rw [z, hP] at e2; exact LamX.codeO_ne _ (Option.some.inj e2).symm)]
        exact e2
    · rw [upd_ne fc, upd_ne fP]
      exact nF
    · rw [upd_ne tc, upd_ne htP]
      exact nt2
  | some cv =>
    obtain ⟨c', e, hco⟩ := ha pos cv hc
    subst e
    refine PySem.W.kdv_makeTailHit (mg := X.mg) (c := c) (P := P) (ps := ps) hcl I2.ok.glob (I2.mod.glob.keeps I2.bk) hcode (TB.code.keeps I2.bk) hP' hts hc bP fun ctv doc h' tk' hx hsz => ?_
    have I3 : Inv X pins σ H { s2 with heap := h'.push (PySem.W.kdv_obj "<lambda>" (lamQ X) (parD ya n kk dp) (.expr body) scope (cloX X scope) (.ref t) doc ((X.mg "__name__").getD .none) c' ctv), toks := tk' } := I2.kept fun b o e => Heap.get?_push_of_some _ (hx b o e)
    exact h h'.objs.size c' t tk doc ((X.mg "__name__").getD .none) ctv H _ I3 (LamX.ExtN.refl H) hT (Heap.get?_push_size _ rfl) (I2.hok.fresh hsz) (nofr s2 H I2 _ hsz) (Heap.get?_push_of_some _ (hx _ _ gt2)) nt2 ft2 hco
/-- its frame -/
theorem lamd_start {A : Around} {outer : List PySem.Env} {E : XK} {scope : Scope} {f c' : Addr} {h₁ : Heap} {tk : Nat} {w0 : Value} (I : Inv X pins σ H s) (hyN : ∀ i : Nat, X.N[i]? ≠ some y) (L : LamSD y X.env.scope scope) (e0 : Env0 X.prog X.w X.K X.mg X.base A outer s1 HZ) (hd : A.handled = none)
    (un : Un (frs X.stack) [] H HZ s.heap s1.heap) (hns : h₁.Ns s1.heap.objs.size fun x => ([(y, w0)] : List (Str × Value)).reverse.lookup x) (kp : ∀ b o, s1.heap.get? b = some o → h₁.get? b = some o) :
    Inv (LamX.lamCx X A outer s1 HZ E scope f c') [] σ HZ { s1 with heap := h₁, toks := tk } := by
  have hfree := L.has I.ok
  have up : ∀ {x c}, (cloX X scope).lookup x = some c → X.env.cells.lookup x = some c := fun {x c} e => by
    rcases cloFrom_mem (PySem.mem_of_lookup e) with hm | ⟨h1, h2⟩
    · cases hm
    · obtain ⟨c1, hc⟩ := hfree _ h1 rfl
      have hc : X.env.cells.lookup x = some c1 := hc
      rw [hc] at h2
      rw [hc, h2]
      rfl
  have look : ∀ {x}, scope.names.lookup x = some .free → ∃ c, (cloX X scope).lookup x = some c := fun {x} hl => mem_lookup (cloFrom_has (cells := X.env.cells) (acc := []) (PySem.mem_of_lookup hl : (x, NameKind.free) ∈ scope.names))
  have cellK : ∀ {c : Addr} {v : Option Value}, H c = none → s.heap.IsCell c v → h₁.IsCell c v := fun {c v} n ⟨o, ho, hd⟩ => by
    obtain ⟨sl, q⟩ := un.any ho n (by simp)
    exact ⟨_, kp _ _ q, hd⟩
  have noA : ∀ b : Addr, b ∉ (LamX.lamCx X A outer s1 HZ E scope f c').ex := fun b z => absurd (show b ∈ ([] : List Addr) from z) (by simp)
  refine ⟨⟨e0.mod, L.kind, rfl, rfl, Nat.le_refl _, fun a z c e1 e2 => I.ok.inj a z c (up e1) (up e2), fun x hx => ?_, fun x c z _ => (nomatch (show false = true from z)), fun _ => hd, Around.frames_deeper e0.frames, .inr ⟨rfl, rfl⟩, fun b z => absurd z (noA b), e0.bs, e0.bsz, fun b _ _ => noA b,
      fun b z => absurd z (noA b), e0.funs, e0.frf⟩,
    rfl, e0.bare, Un.kept kp, ⟨_, hns, fun i x v e1 e2 e3 => ?_⟩, fun x c e => ?_, e0.hok.fresh (Nat.le_refl _), fun x c e => ?_, fun q hq => absurd (show q ∈ ([] : List (Addr × Obj)) ++ [] from hq) (by simp), e0.hok.kept kp, I.len⟩
  · have hx : scope.names.lookup x = some .cell ∨ scope.names.lookup x = some .free := hx
    rcases hx with hx | hx
    · exact absurd rfl (L.own _ (PySem.mem_of_lookup hx)).1
    · exact look hx
  · have e3 : Vis scope x := e3
    rcases e3 with k | k | k
    · have ex : x = y := (L.own _ (PySem.mem_of_lookup k)).2 rfl
      rw [ex] at e1
      exact absurd e1 (hyN i)
    · exact absurd rfl (L.own _ (PySem.mem_of_lookup k)).1
    · obtain ⟨m, hn, hl⟩ := I.loc
      have k2 := L.free _ (PySem.mem_of_lookup k) rfl
      have hvis : Vis X.env.scope x := k2.elim (fun k => .inr (.inl k)) (fun k => .inr (.inr k))
      obtain ⟨w', r, q⟩ := hl i x v e1 e2 hvis
      obtain ⟨c2, h2⟩ := look k
      refine ⟨w', r, .inr ⟨.inr k, c2, h2, ?_⟩⟩
      have c1 := up h2
      rcases q with ⟨k', _⟩ | ⟨_, c3, e', z⟩
      · have k' : X.env.scope.names.lookup x = some .local := k'
        have k2 : X.env.scope.names.lookup x = some .cell ∨ X.env.scope.names.lookup x = some .free := k2
        rw [k'] at k2
        rcases k2 with k2 | k2 <;> cases k2
      · rw [c1] at e'
        cases e'
        exact cellK (I.freeC x _ c1) z
  · obtain ⟨w', z⟩ := I.cell x c (up e)
    exact ⟨w', cellK (I.freeC x c (up e)) z⟩
  · obtain ⟨v, o, ho, hd⟩ := I.cell x c (up e)
    exact un.free c o ho (I.freeC x c (up e)) (by simp)
theorem bind_parD {s : Shared} {q : Str} {ya : Arg} {n : Int} {kk : Nat} {dp : Pos} {body : Expr} {scope : Scope} {cl : List (Str × Addr)} {t : Addr} {doc pm cv ctv : Value} {tk : Tok} (h : s.heap.get? t = some (PySem.W.kdv_tup [.int n tk])) :
    BindsTo s (PySem.W.kdv_fn "<lambda>" q (parD ya n kk dp) (.expr body) scope cl (.ref t) doc pm cv ctv) ⟨[], []⟩ [(ya.arg, .int n tk)] := by
  refine BindsTo.of_defaults (T := t) rfl h rfl rfl ?_
  simp [List.lookup, Args.pos]
/-- it is called, in the def that got it -/
theorem lamd_act {CXg : CXT} {Eg : XK} {Ng : List Str} {qg : Str} {sg : Scope} {g f c' t : Addr} {tk : Tok} {cdg doc pm ctv : Value} {ya : Arg} {n : Int} {kk : Nat} {dp : Pos} {body : Expr} {scope : Scope} {k i : Nat} {a : Str} {pn : List (Addr × Obj)} {xe : Value → Shared → Prop} {W : WX} {E : XK} {tb : TE} {p1 p2 : Pos}
    (I : Inv X pins σ H s) (hyN : ∀ i : Nat, X.N[i]? ≠ some ya.arg) (L : LamSD ya.arg X.env.scope scope) (hf : s.heap.get? f = some (PySem.W.kdv_obj "<lambda>" (lamQ X) (parD ya n kk dp) (.expr body) scope (cloX X scope) (.ref t) doc pm c' ctv)) (hfn : H f = none) (hfr : f ∉ frs X.stack)
    (ht : s.heap.get? t = some (PySem.W.kdv_tup [.int n tk])) (htn : H t = none) (htr : t ∉ frs X.stack)
    (tks : Takes ((cxOf CXg X.prog X.w X.K X.mg X.base Ng qg sg g cdg X.A X.stack s H Eg).tr pn xe) W) (hW : ∀ cls d σ' H', E cls d H' → W cls d σ' H') (hr : Room (k + 1) (X.A.deeper (envOfC qg sg s.heap.objs.size g cdg)))
    (hbody : ∀ (A : Around) (outer : List PySem.Env) (s : Shared) (H : Hp), Room k (A.deeper (LamX.lamEnv X scope s.heap.objs.size f c')) → PE (LamX.lamCx X A outer s H E scope f c') body tb)
    (hN : Ng[i]? = some a) (hv : Vis sg a) (hd : (a == ("__debug__" : Str)) = false) (hcd : (a == ("__classdict__" : Str)) = false) :
    PE ((cxOf CXg X.prog X.w X.K X.mg X.base Ng qg sg g cdg X.A X.stack s H Eg).tr pn xe) (.Call (.Name a p1) [] [] p2)
      (fun σZ HZ Q => σZ[i]? = some (some (.ref f)) ∧ HZ c' = some (LamX.CodeO c' (lamQ X)) ∧ tb σ HZ Q) := by
  refine ⟨fun pinsZ sZ σZ HZ Q IZ h => ?_⟩
  obtain ⟨hs, hc, hq0⟩ := h
  refine wpAny_Call_Name_kw (thn ((pe_var (pos := p1) (i := i) hN hv hd hcd).run pinsZ sZ σZ HZ (fun v H1 => v = .ref f ∧ H1 = HZ) IZ ⟨.ref f, hs, rfl, rfl⟩) fun u s1 ⟨v, H1, I1, r1, q1⟩ => ?_)
  obtain ⟨ev, eH⟩ := q1
  subst ev
  rw [eH] at I1
  have r1 : u = Value.ref f := r1
  subst r1
  have nx : ∀ b : Addr, b ∉ ([] : List Addr) := fun b z => nomatch z
  have of1 : s1.heap.get? f = some (PySem.W.kdv_obj "<lambda>" (lamQ X) (parD ya n kk dp) (.expr body) scope (cloX X scope) (.ref t) doc pm c' ctv) := I1.base.keep f _ hf hfn hfr (nx f)
  have ot1 : s1.heap.get? t = some (PySem.W.kdv_tup [.int n tk]) := I1.base.keep t _ ht htn htr (nx t)
  refine PySem.W.callWith_F0 ⟨_, _, _, _, of1⟩ ?_
  have un : Un (frs X.stack) [] H HZ s.heap s1.heap := I1.base
  obtain ⟨⟨oc, vs, t0, hoc, hdc, hvc⟩, _, _⟩ := I1.hok c' _ hc
  have rc : codeAny (model X.prog X.w) (X.A.deeper (envOfC qg sg s.heap.objs.size g cdg)) (.call (.ref f) ⟨[], []⟩) (CR (L2.CX X.prog X.w) (envOfC qg sg s.heap.objs.size g cdg :: X.stack) X.prog X.w HZ s1 Q E) s1 := by
    refine PySem.W.kla_callFunE hr.depth of1 rfl L.co L.gen rfl ⟨c', oc, vs, t0, rfl, hoc, hdc, hvc⟩ (bind_parD (tk := tk) ot1 _ _ _ _ ?_)
    refine wpAny_newFunctionEnv (fun z hz => (L.own z hz).1) (fun z hz => ?_) (fun h₁ hns hsb => ⟨I1.nolimit.fresh _ hsb, ?_⟩) L.kind
    · rw [List.mem_singleton.mp hz]
      exact L.par
    show codeAny _ _ (.expr body (LamX.lamEnv X scope s1.heap.objs.size f c')) _ _
    have kp : ∀ b o, s1.heap.get? b = some o → h₁.get? b = some o := fun b o e => hsb.extBut b o (Nat.ne_of_lt (Heap.lt_size e)) (Heap.get?_push_of_some _ e)
    have J := lamd_start (E := E) (f := f) (c' := c') (tk := s1.toks + 1) I hyN L I1.env0 hr.hd un hns kp
    refine PySem.W.kla_codeExpr (wpAny_mono ((hbody _ _ s1 HZ (hr.deeper _)).run [] _ _ HZ Q J hq0) (fun v s' hq => ?_) fun e s' hq => hq)
    obtain ⟨w', H', J', rv, q⟩ := hq
    exact ⟨w', H', J'.os, J'.bare, J'.base, J'.hok, rv, q⟩
  refine wpAny_call (codeAny_mono rc fun r s' hq => ?_)
  match r, hq with
  | .error e, hq => exact passes_call tks hW pinsZ σZ HZ s1 e s' I1 hq
  | .ok (.ret u), hq => exact I1.after hq
  | .ok .next, hq => exact False.elim hq
  | .ok .brk, hq => exact False.elim hq
  | .ok .cont, hq => exact False.elim hq
/-- x(lambda y=0: body) -/
theorem pe_lamcallD {T : List (Addr × Str)} {TT : (XK → Hp → VK → Prop) → Hp → VK → Prop} {x a : Str} {g c P : Addr} {k : Nat} {pg : Arguments} {bg : List Stmt} {sg : Scope} {dV kV doc pm cdv ct oc : Value} {an od : Option Addr} {osl : Array (Option Value)} {Ng : List Str}
    {ya : Arg} {n : Int} {kk : Nat} {dp : Pos} {body : Expr} {scope : Scope} {t : XK → TE} {p lpos pos : Pos} (hg : Gl X x) (hm : X.mg x = some (.ref g)) (hk : PySem.W.keepIn X.K (.ref g) = true)
    (lk : X.K.lookup g = some ⟨oc, od, .func (PySem.W.fnOf x x pg bg sg dV kV doc pm an cdv ct), osl⟩) (hcg : PySem.W.codeIn X.K cdv x = true) (hb : L2.Binds X.K (PySem.W.fnOf x x pg bg sg dV kV doc pm an cdv ct) [a] []) (Sg : FnScope Ng [a] sg) (hNg : Ng[0]? = some a) (hva : Vis sg a)
    (hG : LamX.GivesTo X Ng x sg g cdv bg a (lamQ X) TT) (hyN : ∀ i : Nat, X.N[i]? ≠ some ya.arg)
    (TB : LamX.TabB X.base X.mg c P) (hcode : X.env.code = .ref c) (hmT : (P, lamQ X) ∈ T) (hu : ∀ p ∈ T, p.1 = P → p.2 = lamQ X) (hr : Room (k + 2) X.A) (L : LamSD ya.arg X.env.scope scope)
    (hbody : ∀ (A : Around) (outer : List PySem.Env) (s : Shared) (H : Hp) (E : XK) (f c' : Addr), Room k (A.deeper (LamX.lamEnv X scope s.heap.objs.size f c')) → PE (LamX.lamCx X A outer s H E scope f c') body (t E))
    (hdb : (x == ("__debug__" : Str)) = false) (hd : (a == ("__debug__" : Str)) = false) (hcd : (a == ("__classdict__" : Str)) = false) :
    PE X (.Call (.Name x p) [.Lambda (parD ya n kk dp) body scope lpos] [] pos) (LamX.tLam T TT t) := by
  refine ⟨fun pins s σ H Q I ⟨hT, h⟩ => ?_⟩
  refine wpAny_Call_Name_kw (ld_glob I hg hm ?_ hdb)
  refine PySem.W.callWith_K (h₀ := X.base) I.ok.mod.kin hk ?_ (by rfl) (by rfl)
  show wpAny _ _ (spliced ((false, eval (.Lambda (parD ya n kk dp) body scope lpos) X.env) :: backTo pos (starEach [] X.env))) _ _ s
  refine Calls.spliced_cons (lamd_make I TB hcode hmT hu hT (L.has I.ok) fun f c' tt tk doc' pm' ctv H1 s' I1 eN T1 hf hfn hfr ht htn htr hco => ?_)
  refine Calls.spliced_nil ⟨I1.kIn, ?_⟩
  have rc : codeAny (model X.prog X.w) X.A (.call (.ref g) ⟨[.ref f], []⟩) (CR C8.CX0 X.stack X.prog X.w H1 s' Q C8.E0) s' := by
    refine LamX.run_ofS (N := Ng) (ps := [a]) (us := [.ref f]) (vs := [.ref f]) lk hcg Sg hr I1.env0 (hb s' [.ref f] I1.kIn rfl) (.cons rfl .nil) rfl fun hr' => ?_
    obtain ⟨t', ht', hq'⟩ := hG f c' s' H1 Q (fun E H' Q' => t E σ H' Q') (fun W pn xe E p1 p2 tks hW => lamd_act (i := 0) I1 hyN L hf hfn hfr ht htn htr tks hW hr' (fun A outer s H hr2 => hbody A outer s H E f c' hr2) hNg hva hd hcd) hco (h H1 eN T1)
    exact ⟨t', ht'.nox, hq'⟩
  refine wpAny_call (codeAny_mono rc fun r s2 hq => ?_)
  match r, hq with
  | .error e, hq => exact (show False from hq).elim
  | .ok (.ret u), hq => exact I1.after hq
  | .ok .next, hq => exact False.elim hq
  | .ok .brk, hq => exact False.elim hq
  | .ok .cont, hq => exact False.elim hq
end
variable [TabT]
section
variable {X : Cx} {ct : Nat → ClsInfo} {m : Met} {dl : Env → M D}
theorem se_lamDf {x a : Str} {gf c P : Addr} {k : Nat} {pg : Arguments} {bg : List Stmt} {sg : Scope} {dV kV doc pm cdv ctv oc : Value} {an od : Option Addr} {osl : Array (Option Value)} {Ng : List Str} {ya : Arg} {n : Int} {kk : Nat} {dp : Pos} {body : Expr} {scope : Scope} {p lpos pos : Pos}
    (hg : Gl X x) (hm : X.mg x = some (.ref gf)) (hk : PySem.W.keepIn X.K (.ref gf) = true) (lk : X.K.lookup gf = some ⟨oc, od, .func (PySem.W.fnOf x x pg bg sg dV kV doc pm an cdv ctv), osl⟩) (hcg : PySem.W.codeIn X.K cdv x = true)
    (hb : L2.Binds X.K (PySem.W.fnOf x x pg bg sg dV kV doc pm an cdv ctv) [a] []) (Sg : FnScope Ng [a] sg) (hNg : Ng[0]? = some a) (hva : Vis sg a) (hG : LamX.GivesTo X Ng x sg gf cdv bg a (lamQ X) (TTm X.K ct m)) (hyN : ∀ i : Nat, X.N[i]? ≠ some ya.arg)
    (TB : LamX.TabB X.base X.mg c P) (hcode : X.env.code = .ref c) (hmT : (P, lamQ X) ∈ TabT.T) (hu : ∀ p ∈ TabT.T, p.1 = P → p.2 = lamQ X) (hr : Room (k + 2) X.A) (L : LamSD ya.arg X.env.scope scope)
    (hbody : ∀ (A : Around) (outer : List PySem.Env) (s : Shared) (H : Hp) (E : XK) (f c' : Addr), Room k (A.deeper (LamX.lamEnv X scope s.heap.objs.size f c')) → SE (LamX.lamCx X A outer s H E scope f c') ct dl body)
    (hdb : (x == ("__debug__" : Str)) = false) (hd : (a == ("__debug__" : Str)) = false) (hcd : (a == ("__classdict__" : Str)) = false) : SE X ct (lamD m dl) (.Call (.Name x p) [.Lambda (parD ya n kk dp) body scope lpos] [] pos) := fun W tk => by
  refine peW (pe_lamcallD (T := TabT.T) (t := fun E => rdE X.K ct (fun c dx _ H => E c dx H) dl) hg hm hk lk hcg hb Sg hNg hva hG hyN TB hcode hmT hu hr L (fun A outer s H E f c' hr' => hbody A outer s H E f c' hr' _ (takes_of rfl rfl rfl rfl)) hdb hd hcd) fun σ H Q ⟨b, F, ow, ρ, g, S, o⟩ => ?_
  refine ⟨S.tabs.all, fun H1 e1 t1 => ?_⟩
  have x1 := ext_lam S.toBg e1 t1
  have B1 := bg_lam S.toBg e1
  refine ⟨b, F, g, dl ρ, B1, fun E Q' oo => ⟨b, F, ow, ρ, g, S.up x1 B1, oo⟩, Out.calm (Out.shift o x1)⟩
end
def rLamD : RuleE := fun r S e => match e with
  | .Call (.Name x _) [.Lambda ⟨[], [ya], none, [], [], none, [.Constant (.int n) kk dp]⟩ body scope _] [] _ => if glB S x && (LamX.lamSB S.sc scope || true) && lamSDB ya.arg S.sc scope && !S.N.contains ya.arg && decide (2 ≤ S.k) && S.gd then (match S.fns x, S.lam with
    | some (.met m), some _ => some (lamD m (r.e (lamSta S scope) body))
    | _, _ => none) else none
  | _ => none
theorem feLow_ok {X Y : Cx} {ct : Nat → ClsInfo} {S : Sta} {k : Nat} (e1 : Y.prog = X.prog) (e2 : Y.w = X.w) (e3 : Y.K = X.K) (e4 : Y.mg = X.mg) (e5 : Y.base = X.base) (h : ∀ x fe, S.fns x = some fe → FeOk X ct S.k x fe) : ∀ (y : Str) (fe : FE), (S.fns y).bind (feLow k) = some fe → FeOk Y ct k y fe := fun y fe hy => by
  obtain ⟨fe0, hfe, hy⟩ := Option.bind_eq_some_iff.mp hy
  have o := h y fe0 hfe
  cases fe0 with
  | val f0 j0 g0 c0 =>
    have hy : (if j0 ≤ k then some (FE.val f0 j0 g0 c0) else none) = some fe := hy
    split at hy
    · rename_i hle
      cases hy
      refine ⟨hle, ?_⟩
      rw [e1, e2, e3, e4, e5]
      exact o.2
    · cases hy
  | new f0 j0 g0 d0 =>
    have hy : (if j0 ≤ k then some (FE.new f0 j0 g0 d0) else none) = some fe := hy
    split at hy
    · rename_i hle
      cases hy
      refine ⟨hle, ?_⟩
      rw [e1, e2, e3, e4, e5]
      exact o.2
    · cases hy
  | met m0 => cases hy
theorem rLamD_ok : rLamD.Ok := fun r R X S h e d q => by
  unfold rLamD at q
  split at q
  · rename_i x p ya n kk dp body scope lpos pos
    split at q
    · rename_i hh
      simp only [Bool.and_eq_true, decide_eq_true_eq, Bool.not_eq_true'] at hh
      obtain ⟨⟨⟨⟨⟨hg, _⟩, hl⟩, hyn⟩, hk⟩, hgd⟩ := hh
      split at q
      · rename_i m cP hf hlam
        cases q
        obtain ⟨c, P⟩ := cP
        obtain ⟨l1, l2, l3, l4⟩ := h.lam c P hlam
        obtain ⟨M⟩ := h.fns _ _ hf X rfl rfl rfl rfl rfl (h.gd hgd) ⟨_, h.room⟩
        have hr : Room (S.k - 2 + 2) X.A := by rw [Nat.sub_add_cancel hk]; exact h.room
        have hyN : ∀ i : Nat, X.N[i]? ≠ some ya.arg := fun i z => by
          rw [h.N] at z
          have : ya.arg ∈ S.N := List.mem_of_getElem? z
          rw [List.contains_iff_mem.mpr this] at hyn
          cases hyn
        refine se_lamDf (gl_ok h hg).1 M.hm M.hk M.lk M.hcg M.hb M.Sg M.hNg M.hva (M.hG _) hyN l1 l2 l3 l4 hr (by rw [h.sc]; exact lamSDB_ok hl) (fun A outer s H E f c' hr' => ?_) M.hdb M.hd M.hcd
        exact R.e (X := LamX.lamCx X A outer s H E scope f c') (S := lamSta S scope) ⟨h.tcl, h.xf, h.isi, (fun x c e => let z := h.cls x c e; ⟨z.hm, z.hdb, z.kp, z.sub, z.ty, z.sup, z.own⟩), h.N, h.nd, rfl, rfl, hr', (fun e => by cases e), (fun _ e => by cases e), feLow_ok rfl rfl rfl rfl rfl h.fns, h.cns, h.nog, (fun _ _ e => by cases e)⟩ body
      · cases q
    · cases q
  · cases q
end PF

set_option Elab.async false
set_option linter.all false
set_option maxRecDepth 100000
set_option maxHeartbeats 2000000
/-! PF44: sorted(set(x)), len(set(x)), x a list or tuple of ints. -/
namespace PF
open PySem PySem.Spec PyProof.Rows L2

/-- an empty set as it is made -/
abbrev setO0 (w : World) : Obj := { cls := .type "set", dict := none, data := .set #[] 0 (.fresh 0 0 (!w.params.followText "set-order")) }
section
variable {P : Program} {w : World} {A : Around} {E : Value → Shared → Prop} {s : Shared}
set_option maxHeartbeats 3200000 in
/-- set(list of ints) -/
theorem set_of_list {l : Addr} {items : Array Value} (ns : List Int) {Q : Value → Shared → Prop} (hh : A.handled = none) (hl : s.heap.IsList l items) (hit : IntsAre items.toList ns) (hb : ns.length + 1 < scanBound)
    (h : ∀ (h' : Heap) (tk c : Nat), SetR w h' s.heap.objs.size (fun j => decide (j ∈ ns)) c → (∀ b o, s.heap.get? b = some o → h'.get? b = some o) → Q (.ref s.heap.objs.size) { s with heap := h', toks := tk }) :
    wpAny (model P w) A (call (.type "set") [.ref l]) Q E s := by
  have hisz : items.size = ns.length := by simpa using IntsAre.length hit
  have ⟨c, tl, hmro⟩ := F.called_set.mro
  have hmade := F.called_set.made; have hsub := F.called_set.sub
  refine wpAny_call (codeAny_of_tree (show wpAny _ _ (callAny (.type "set") _) _ _ _ from ?_))
  refine wpAny_pure ⟨Code.quiet_builtin _ (by decide +kernel), codeAny_builtin F.entry_type_call (?_ : wpAny _ _ _ _ _ _)⟩
  rw [Around.under_plain (weight_type_call_type "set" [.ref l] []) rfl]
  have h1 := F.called_set.notType; have h2 := F.called_set.canCreate; have hct := F.typeCall_set_1 (.ref l)
  repeat (any_goals (first | assumption | wp_step))
  refine codeAny_mono (code_set_led1 (.ref l) (E := E) (Q₁ := fun obj s₁ => obj = .ref s.heap.objs.size ∧ s₁ = { s with heap := s.heap.push (setO0 w) }) ⟨rfl, rfl⟩) fun r s₁ hr => ?_
  match r, hr with
  | .error e, hr => exact hr
  | .ok (.ret obj), hr =>
    obtain ⟨rfl, rfl⟩ := hr
    have hS : (s.heap.push (setO0 w)).get? s.heap.objs.size = some (setO0 w) := Heap.get?_push_size _ rfl
    have hT : Shared.TypeIs { s with heap := s.heap.push (setO0 w) } (.ref s.heap.objs.size) "set" := ⟨_, hS, rfl⟩
    have hli := F.called_set.init.lookup; have hbi := F.called_set.init.bind (.ref s.heap.objs.size)
    repeat (any_goals (first | assumption | wp_step))
    refine codeAny_mono (codeAny_call_builtin (R := wants (fun r s₂ => r = .none ∧ ∃ h' tk c, s₂ = { s with heap := h', toks := tk } ∧ SetR w h' s.heap.objs.size (fun j => decide (j ∈ ns)) c ∧
          ∀ b o, s.heap.get? b = some o → h'.get? b = some o) E) F.called_set.init.plain F.entry_set_init (check_set_init_1 hT ?_)) fun r₂ s₂ hr₂ => ?_
    · obtain ⟨⟨ocls, odict, odata, oslots⟩, hol, hcl, nl, hdl⟩ := hl
      have hcl : ocls = .type "list" := hcl
      have hdl : odata = .seq items nl := hdl
      subst hcl hdl
      have hl1 : (s.heap.push (setO0 w)).IsList l items := ⟨_, Heap.get?_push_of_some _ hol, rfl, nl, rfl⟩
      have hol' : (s.heap.push (setO0 w)).get? l = _ := Heap.get?_push_of_some _ hol
      have hsls := F.sub_list_set; have hslf := F.sub_list_frozenset; have hne : (Value.type "list" == Value.type "dict") = false := by decide
      unfold Builtin.«set.__init__» noKeywords Builtin.Frozenset.updateFrom
      generalize hPI : pyIter = PI
      wp_walk
      subst hPI
      refine wpAny_pyIter_list hl1 (wpAny_bind (wpAny_runValue ?_))
      have hlS : l < s.heap.objs.size := Heap.lt_size hol
      have sz : (s.heap.push (setO0 w)).objs.size = s.heap.objs.size + 1 := Heap.size_push ..
      have hneI : l ≠ (s.heap.push (setO0 w)).objs.size := by rw [sz]; exact Nat.ne_of_lt (Nat.lt_succ_of_lt hlS)
      have hval : ∀ (i : Nat) (v : Value), items[i]? = some v → ∃ k t, ns[i]? = some k ∧ v = .int k t := fun i v hv => by
        have hi : i < ns.length := hisz ▸ (Array.getElem?_eq_some_iff.mp hv).1
        obtain ⟨t, e⟩ := IntsAre.int_at hit i v (by simpa using hv)
        refine ⟨ns[i], t, List.getElem?_eq_getElem hi, ?_⟩
        rw [e, List.getD_eq_getElem?_getD, List.getElem?_eq_getElem hi]
        rfl
      have hSf : s.heap.objs.size ∉ [(s.heap.push (setO0 w)).objs.size, l] := fun z => by
        rw [sz] at z
        rcases List.mem_cons.mp z with z | z
        · exact absurd z (Nat.ne_of_lt (Nat.lt_succ_self _))
        · exact absurd (List.mem_singleton.mp z) (Nat.ne_of_gt hlS)
      refine set_update_ints ((Walks.list (by simp [hh]) _ l hneI items).toS) s.heap.objs.size hSf ns hisz hb hval (items.size - 0) 0 _ rfl (Nat.zero_le _)
        ⟨⟨_, Heap.get?_push_size _ rfl, rfl, rfl⟩, (hl1.push _)⟩ ⟨0, Nat.le_refl 0, setR_new_at (Heap.get?_push_of_some _ hS)⟩ fun s' c' hm hc' hS' => ?_
      obtain ⟨h', g2, d', tk', os'⟩ := s'
      obtain rfl : g2 = s.gens := hm.gens
      obtain rfl : d' = s.drawn := hm.drawn
      obtain rfl : os' = s.os := hm.os
      refine wpAny_pure (show wpAny _ _ (ret Value.none) _ _ _ from wpAny_pure ⟨rfl, h', tk', c', rfl, hS', fun b o e => ?_⟩)
      have hb0 : b < s.heap.objs.size := Heap.lt_size e
      refine hm.heap b o (fun z => ?_) (Heap.get?_push_of_some _ (Heap.get?_push_of_some _ e))
      rw [sz] at z
      simp only [List.mem_cons, List.mem_singleton, List.not_mem_nil, or_false] at z
      rcases z with z | z
      · exact absurd z (Nat.ne_of_lt hb0)
      · exact absurd z (Nat.ne_of_lt (Nat.lt_succ_of_lt hb0))
    · match r₂, hr₂ with
      | .error e, hr₂ => exact hr₂
      | .ok (.ret r), hr₂ =>
        obtain ⟨rfl, h', tk, c', rfl, hS', hk'⟩ := hr₂
        repeat (any_goals (first | assumption | wp_step))
        exact h _ _ _ hS' hk'
      | .ok .next, hr₂ => exact hr₂.elim
      | .ok .brk, hr₂ => exact hr₂.elim
      | .ok .cont, hr₂ => exact hr₂.elim
  | .ok .next, hr => exact hr.elim
  | .ok .brk, hr => exact hr.elim
  | .ok .cont, hr => exact hr.elim
end

/-! ### ints, alike ones once -/
variable [TabT]
def nubI : List Int → List Int
  | [] => []
  | n :: r => if n ∈ r then nubI r else n :: nubI r
theorem mem_nubI {k : Int} : ∀ {ns : List Int}, k ∈ nubI ns ↔ k ∈ ns
  | [] => Iff.rfl
  | n :: r => by
    unfold nubI
    split
    · rename_i h
      rw [mem_nubI, List.mem_cons]
      exact ⟨.inr, fun z => z.elim (fun e => e ▸ h) id⟩
    · rw [List.mem_cons, List.mem_cons, mem_nubI]
theorem nodup_nubI : ∀ ns : List Int, (nubI ns).Nodup
  | [] => .nil
  | n :: r => by
    unfold nubI
    split
    · exact nodup_nubI r
    · rename_i h
      exact List.nodup_cons.mpr ⟨fun z => h (mem_nubI.mp z), nodup_nubI r⟩
theorem perm_of_mem : ∀ {l l' : List Int}, l.Nodup → l'.Nodup → (∀ k, k ∈ l ↔ k ∈ l') → l.Perm l' := fun h h' m => (List.perm_ext_iff_of_nodup h h').mpr m
theorem setR_size {w : World} {h : Heap} {a : Addr} {ns : List Int} {c : Nat} (R : SetR w h a (fun j => decide (j ∈ ns)) c) : c = (nubI ns).length := by
  obtain ⟨o, es, ep, t, ho, hex, hd, g, nd, hm, hb, hf, hn, hr, hl⟩ := R
  have p : (es.toList.map L2.keyOf).Perm (nubI ns) := perm_of_mem nd (nodup_nubI ns) fun k => (hm k).symm.trans (by rw [mem_nubI]; exact decide_eq_true_iff)
  have := p.length_eq
  rw [List.length_map, Array.length_toList] at this
  omega
section
variable {X : Cx} {a : Expr} {ta : TE} {p p2 q pos : Pos}
/-- a list or a tuple of ints -/
def IsInts (K : PySem.W.Frag) (H : Hp) (x : V) (ns : List Int) : Prop := ∃ l, x = .ref l ∧ (SqL K H l (ns.map V.int) ∨ SqT K H l (ns.map V.int))
/-- set(a) made, then k -/
theorem set_then {pins : List (Addr × Obj)} {σ : L2.St} {H : Hp} {s : Shared} {u : Value} {x : V} {ns : List Int} {Q' : Value → Shared → Prop} (hc : X.calm = true) (I : Inv X pins σ H s) (ru : RelV x u) (hi : IsInts X.K H x ns) (hl : ns.length ≤ 4000)
    (k : ∀ (h' : Heap) (tk : Nat), SetR X.w h' s.heap.objs.size (fun j => decide (j ∈ ns)) (nubI ns).length → Inv X pins σ H { s with heap := h', toks := tk } → s.heap.objs.size < h'.objs.size → H s.heap.objs.size = none → Q' (.ref s.heap.objs.size) { s with heap := h', toks := tk }) :
    wpAny (model X.prog X.w) X.A (call (.type "set") [u]) Q' X.xe s := by
  obtain ⟨l, rfl, hi⟩ := hi
  cases ru
  have fin : ∀ (h' : Heap) (tk c : Nat), SetR X.w h' s.heap.objs.size (fun j => decide (j ∈ ns)) c → (∀ b o, s.heap.get? b = some o → h'.get? b = some o) → Q' (.ref s.heap.objs.size) { s with heap := h', toks := tk } := fun h' tk c R kk => by
    have e := setR_size R
    subst e
    exact k h' tk R (I.kept kk) R.lt (I.hok.fresh (Nat.le_refl _))
  rcases hi with hi | hi
  · obtain ⟨its, r, pl, hz⟩ := I.list hi
    exact set_of_list ns (I.ok.hd hc) pl.isList (by simpa using ints_of_vals r) (by unfold scanBound; omega) fun h' tk c R kk => fin h' tk c R kk
  · obtain ⟨its, r, pl, hz⟩ := I.tuple hi
    exact call_set_tupI ns (I.ok.hd hc) (show s.heap.IsTuple l its.toArray from pl) (by simpa using ints_of_vals r) (by unfold scanBound; omega) fun h' tk c R _ kk => fin h' tk c R kk
def tSortSet (K : PySem.W.Frag) (ta : TE) : TE := fun σ H Q => ta σ H fun x H1 => ∃ ns, IsInts K H1 x ns ∧ ns.length ≤ 4000 ∧ (nubI ns).length < 64 ∧ ∀ l, H1 l = none → Q (.ref l) (upd H1 l (.lst ((isort (nubI ns)).map V.int)))
theorem pe_sortSet (hc : X.calm = true) (hg : Gl X "sorted") (hm : X.mg "sorted" = none) (hg2 : Gl X "set") (hm2 : X.mg "set" = none) (ha : PE X a ta) (na : starEach [a] X.env = (false, eval a X.env) :: starEach [] X.env) :
    PE X (.Call (.Name "sorted" p) [.Call (.Name "set" p2) [a] [] q] [] pos) (tSortSet X.K ta) := by
  refine ⟨fun pins s σ H Q I h => ?_⟩
  refine Call_ (ld_blt I hg hm boot_sorted (PyProof.Rows.callWith_builtin1 (PyProof.Rows.args_cons ?_ rfl) rfl rfl))
  refine Call_ (ld_blt I hg2 hm2 boot_set (PyProof.Rows.callWith_type1 (PyProof.Rows.args_cons (thn (ha.run pins s σ H _ I h) fun v s1 ⟨x, H1, I1, r1, ns, q1, q2, q3, q4⟩ => PyProof.Rows.args_nil ?_) na) na rfl))
  refine set_then hc I1 r1 q1 q2 fun h' tk R I2 lt _ => PyProof.Rows.args_nil ?_
  refine sorted_set (s := { s1 with heap := h', toks := tk }) R (I2.ok.hd hc) q3 fun s' pl out c ns' kk g o hp hgt hi hs hmm hln => ?_
  have hn : H1 pl = none := I2.hok.fresh hp
  have en : ns' = isort (nubI ns) := by
    refine sorted_one ((perm_of_mem (hs.imp fun h => Int.ne_of_lt h) (nodup_nubI ns) fun k => by rw [hmm k, decide_eq_true_eq, mem_nubI]).trans (isort_perm _).symm) (hs.imp fun h => Int.le_of_lt h) (isort_sorted _)
  have hlen : (ns'.map V.int).length ≤ sizeLine := by rw [List.length_map, hln, sizeLine_eq]; omega
  have J : Inv X pins σ (upd H1 pl (.lst (ns'.map V.int))) { ({ s1 with heap := h', toks := tk } : Shared) with heap := s'.heap, gens := s'.gens, drawn := s'.drawn, toks := s'.toks } :=
    I2.call (ch := []) (Un.laid kk hp hn) (I2.hok.laid kk hp ⟨hlen, out.toList, c, vals_of_ints hi, hgt⟩) (by rw [g]; exact I2.bare) (fun _ z => nomatch z)
  have es : s' = { ({ s1 with heap := h', toks := tk } : Shared) with heap := s'.heap, gens := s'.gens, drawn := s'.drawn, toks := s'.toks } := by
    cases s'; cases s1
    cases o
    rfl
  rw [es]
  subst en
  exact ⟨.ref pl, _, J, rfl, q4 pl hn⟩
def tLenSetA (K : PySem.W.Frag) (ta : TE) : TE := fun σ H Q => ta σ H fun x H1 => ∃ ns, IsInts K H1 x ns ∧ ns.length ≤ 4000 ∧ Q (.int ((nubI ns).length : Nat)) H1
theorem pe_lenSetA (hc : X.calm = true) (hg : Gl X "len") (hm : X.mg "len" = none) (hg2 : Gl X "set") (hm2 : X.mg "set" = none) (ha : PE X a ta) (na : starEach [a] X.env = (false, eval a X.env) :: starEach [] X.env) :
    PE X (.Call (.Name "len" p) [.Call (.Name "set" p2) [a] [] q] [] pos) (tLenSetA X.K ta) := by
  refine ⟨fun pins s σ H Q I h => ?_⟩
  refine Call_ (ld_blt I hg hm PySem.boot_len (PyProof.Rows.callWith_builtin1 (PyProof.Rows.args_cons ?_ rfl) rfl rfl))
  refine Call_ (ld_blt I hg2 hm2 boot_set (PyProof.Rows.callWith_type1 (PyProof.Rows.args_cons (thn (ha.run pins s σ H _ I h) fun v s1 ⟨x, H1, I1, r1, ns, q1, q2, q3⟩ => PyProof.Rows.args_nil ?_) na) na rfl))
  refine set_then hc I1 r1 q1 q2 fun h' tk R I2 lt _ => PyProof.Rows.args_nil ?_
  have hS : h'.SetOf (intKind X.prog X.w) _ _ _ := R.setOf
  obtain ⟨o, es, ep, t, ho, hex, hd, _, _, _, hf, hn⟩ := hS
  have hb : (nubI ns).length < 2 ^ 62 := by
    obtain ⟨_, es', _, _, _, _, _, _, _, _, hb, _, hn', _, _⟩ := R
    unfold scanBound at hb
    omega
  exact call_len_set ho hex hd hf (by rw [hn]; omega) ⟨.int (nubI ns).length, H1, I2.tok _, ⟨_, by rw [hn]⟩, q3⟩
end
section
variable {X : Cx} {ct : Nat → ClsInfo} {a : Expr} {da : Env → M D} {p p2 q pos : Pos}
def intsOf : D → Option (List Int)
  | .list xs => intsD xs
  | .tuple xs => intsD xs
  | _ => none
theorem intsOf_ok {b : Option Addr} {F : Addr → Prop} {H : Hp} {v : V} {x : D} {ns : List Int} (r : RepO X.K b F H v x) (h : intsOf x = some ns) : IsInts X.K H v ns := by
  cases x <;> first | (cases h; done) | skip
  · obtain ⟨l, vs, rfl, q, r2⟩ := r.list
    rw [ints_eq h] at r2
    exact ⟨l, rfl, .inl (by rw [← r2.ints]; exact q)⟩
  · obtain ⟨l, vs, rfl, q, r2⟩ := r.tuple
    rw [ints_eq h] at r2
    exact ⟨l, rfl, .inr (by rw [← r2.ints]; exact q)⟩
def dSortSet (da : Env → M D) : Env → M D := fun ρ g => (da ρ g).bind fun x g1 => match intsOf x with
  | some ns => if decide (ns.length ≤ 4000) && decide ((nubI ns).length < 64) then .ok (.list ((isort (nubI ns)).map .int)) g1 else .fail
  | none => .fail
def dLenSet (da : Env → M D) : Env → M D := fun ρ g => (da ρ g).bind fun x g1 => match intsOf x with
  | some ns => if ns.length ≤ 4000 then .ok (.int ((nubI ns).length : Nat)) g1 else .fail
  | none => .fail
theorem se_sortSet (hc : X.calm = true) (hg : Gl X "sorted") (hm : X.mg "sorted" = none) (hg2 : Gl X "set") (hm2 : X.mg "set" = none) (ha : SO X ct da a) (hs : isStarB a = false) : SE X ct (dSortSet da) (.Call (.Name "sorted" p) [.Call (.Name "set" p2) [a] [] q] [] pos) := fun W tk => by
  refine peW (pe_sortSet hc hg hm hg2 hm2 (ha W tk) (star_no hs)) fun σ H Q ⟨b, F, ow, ρ, g, S, o⟩ => ?_
  refine rd1 S o fun x g1 F1 H1 v e1 S1 r1 o1 => ?_
  split at o1
  · rename_i ns hi
    split at o1
    · rename_i hh
      simp only [Bool.and_eq_true, decide_eq_true_eq] at hh
      exact ⟨ns, intsOf_ok r1 hi, hh.1, hh.2, fun l hl => finL S1.toBg hl (repInts (X := X) _) fun F' H' u e B r => o1 F' H' e B u r⟩
    · exact o1.elim
  · exact o1.elim
theorem se_lenSet (hc : X.calm = true) (hg : Gl X "len") (hm : X.mg "len" = none) (hg2 : Gl X "set") (hm2 : X.mg "set" = none) (ha : SO X ct da a) (hs : isStarB a = false) : SE X ct (dLenSet da) (.Call (.Name "len" p) [.Call (.Name "set" p2) [a] [] q] [] pos) := fun W tk => by
  refine peW (pe_lenSetA hc hg hm hg2 hm2 (ha W tk) (star_no hs)) fun σ H Q ⟨b, F, ow, ρ, g, S, o⟩ => ?_
  refine rd1 S o fun x g1 F1 H1 v e1 S1 r1 o1 => ?_
  split at o1
  · rename_i ns hi
    split at o1
    · rename_i hh
      exact ⟨ns, intsOf_ok r1 hi, hh, Out.ok o1 S1.toBg _ (.int _)⟩
    · exact o1.elim
  · exact o1.elim
end
def rSet : RuleE := fun r S e => match e with
  | .Call (.Name x _) [.Call (.Name y _) [a] [] _] [] _ => if y == ("set" : Str) && glB S x && S.nog x && glB S y && S.nog y && !isStarB a then
      (if x == ("sorted" : Str) then some (dSortSet (r.o S a)) else if x == ("len" : Str) then some (dLenSet (r.o S a)) else none) else none
  | _ => none
theorem rSet_ok : rSet.Ok := fun r R X S h e d q => by
  unfold rSet at q
  split at q
  · split at q
    · rename_i hh
      simp only [Bool.and_eq_true, Bool.not_eq_true'] at hh
      obtain ⟨⟨⟨⟨⟨hy, hg⟩, hn⟩, hg2⟩, hn2⟩, hs⟩ := hh
      have hy := eq_of_beq hy
      subst hy
      split at q
      · rename_i hx
        have hx := eq_of_beq hx
        subst hx
        cases q
        exact se_sortSet h.calm (gl_ok h hg).1 (h.nog _ hn) (gl_ok h hg2).1 (h.nog _ hn2) (R.o h _) hs
      · split at q
        · rename_i hx
          have hx := eq_of_beq hx
          subst hx
          cases q
          exact se_lenSet h.calm (gl_ok h hg).1 (h.nog _ hn) (gl_ok h hg2).1 (h.nog _ hn2) (R.o h _) hs
        · cases q
    · cases q
  · cases q
end PF

set_option Elab.async false
set_option linter.all false
set_option maxRecDepth 100000
set_option maxHeartbeats 2000000
/-! PF45: list(range(..)); y.append(z.pop(e)). -/
namespace PF
open PySem PySem.Spec PyProof.Rows L2
variable [TabT]

section
variable {X : Cx} {ct : Nat → ClsInfo} {e a c : Expr} {da dc : Env → M D} {p p2 pos pos2 : Pos}
def fLR1 (da : Env → M D) : Env → M (List D) := fun ρ g => (da ρ g).bind fun x g1 => match x with
  | .int j => if okRv 0 j = true then .ok (rngD 0 (j - 0).toNat) g1 else .fail
  | _ => .fail
def rng2O : D → D → Option (List D)
  | .int i, .int j => if okRv i j = true then some (rngD i (j - i).toNat) else none
  | _, _ => none
def fLR2 (da dc : Env → M D) : Env → M (List D) := fun ρ g => (da ρ g).bind fun x g1 => (dc ρ g1).bind fun y g2 => okL g2 (rng2O x y)
theorem sf_lr1 (hc : X.calm = true) (hg : Gl X "list") (hm : X.mg "list" = none) (hg2 : Gl X "range") (hm2 : X.mg "range" = none) (ha : SO X ct da a) (hs : isStarB a = false) : SF X ct (fLR1 da) (.Call (.Name "list" p) [.Call (.Name "range" p2) [a] [] pos2] [] pos) := fun W tk => by
  refine peW (pe_listRg hc hg hm (prg_1 hg2 hm2 (ha W tk) (star_no hs)) rfl) fun σ H Q ⟨b, F, ow, ρ, g, S, o⟩ => ?_
  unfold fLR1 at o
  refine rd1f S o fun x g1 F1 H1 v e1 S1 r1 o1 => ?_
  cases x <;> first | (exact o1.elim) | skip
  rename_i j
  dsimp only at o1
  split at o1
  · rename_i hj
    exact ⟨j, r1.int, okRv_ok hj, fun q hq => finF (X := X) e1 S1.toBg hq (repRng 0 _) o1⟩
  · exact o1.elim
theorem sf_lr2 (hcm : X.calm = true) (hg : Gl X "list") (hm : X.mg "list" = none) (hg2 : Gl X "range") (hm2 : X.mg "range" = none) (ha : SO X ct da a) (hc : SO X ct dc c) (hs : isStarB a = false) (hs2 : isStarB c = false) : SF X ct (fLR2 da dc) (.Call (.Name "list" p) [.Call (.Name "range" p2) [a, c] [] pos2] [] pos) := fun W tk => by
  refine peW (pe_listRg hcm hg hm (prg_2 hg2 hm2 (ha W tk) (hc W tk) (by rw [star_no hs]) (star_no hs2) (by rw [star_no hs2]; rfl)) rfl) fun σ H Q ⟨b, F, ow, ρ, g, S, o⟩ => ?_
  unfold fLR2 at o
  refine rd1f S o fun x g1 F1 H1 v e1 S1 r1 o1 => ?_
  refine ⟨b, F1, ow, ρ, g1, S1, ?_⟩
  generalize dc ρ g1 = z at o1 ⊢
  cases z with
  | exc c p g' => exact fun F' H' dx e B E => o1 F' H' dx (e1.trans e) B E
  | fail => exact o1
  | ok y g2 =>
    intro F2 H2 e2 B2 w r2
    have o1 : Out X.K ct b F H (fun c dx H' => W c dx σ H') (PVF X.K b H Q) (okL g2 (rng2O x y)) := o1
    cases hk : rng2O x y with
    | none => rw [hk] at o1; exact o1.elim
    | some zs =>
      rw [hk] at o1
      cases x <;> first | (cases hk; done) | skip
      cases y <;> first | (cases hk; done) | skip
      rename_i i j
      simp only [rng2O] at hk
      split at hk
      · rename_i hj
        cases hk
        have r1' := r1.up e2 S1.toBg
        exact ⟨i, j, r1'.int, r2.int, okRv_ok hj, fun q hq => finF (X := X) (e1.trans e2) B2 hq (repRng i _) o1⟩
      · cases hk
end
def rLR : RuleL := fun r S e => match e with
  | .Call (.Name x _) [.Call (.Name y _) [a] [] _] [] _ => if x == ("list" : Str) && y == ("range" : Str) && glB S x && S.nog x && glB S y && S.nog y && !isStarB a then some (fLR1 (r.o S a)) else none
  | .Call (.Name x _) [.Call (.Name y _) [a, c] [] _] [] _ => if x == ("list" : Str) && y == ("range" : Str) && glB S x && S.nog x && glB S y && S.nog y && !isStarB a && !isStarB c then some (fLR2 (r.o S a) (r.o S c)) else none
  | _ => none
theorem rLR_ok : rLR.Ok := fun r R X S h e d q => by
  unfold rLR at q
  split at q
  · split at q
    · rename_i hh
      simp only [Bool.and_eq_true, Bool.not_eq_true'] at hh
      obtain ⟨⟨⟨⟨⟨⟨hx, hy⟩, hg⟩, hn⟩, hg2⟩, hn2⟩, hs⟩ := hh
      have hx := eq_of_beq hx
      have hy := eq_of_beq hy
      subst hx hy
      cases q
      exact sf_lr1 h.calm (gl_ok h hg).1 (h.nog _ hn) (gl_ok h hg2).1 (h.nog _ hn2) (R.o h _) hs
    · cases q
  · split at q
    · rename_i hh
      simp only [Bool.and_eq_true, Bool.not_eq_true'] at hh
      obtain ⟨⟨⟨⟨⟨⟨⟨hx, hy⟩, hg⟩, hn⟩, hg2⟩, hn2⟩, hs⟩, hs2⟩ := hh
      have hx := eq_of_beq hx
      have hy := eq_of_beq hy
      subst hx hy
      cases q
      exact sf_lr2 h.calm (gl_ok h hg).1 (h.nog _ hn) (gl_ok h hg2).1 (h.nog _ hn2) (R.o h _) (R.o h _) hs hs2
    · cases q
  · cases q
/-- .. as a value -/
def rLRe : RuleE := fun r S e => (rLR r S e).map frL
theorem rLRe_ok : rLRe.Ok := fun r R X S h e d q => by
  obtain ⟨d', hd, rfl⟩ := Option.map_eq_some_iff.mp q
  exact (rLR_ok r R h e d' hd).se

section
variable {C : FrC} {X : Cx} {ct : Nat → ClsInfo} {W : WS} {pos : Pos} {i j : Nat} {y z : Str} {p p1 q q1 cpos cpos2 : Pos} {e : Expr} {de : Env → M D}
def sAppPop (i j : Nat) (de : Env → M D) : Env → M Fl := fun ρ g => match ρ[i]?, ρ[j]? with
  | some (some (.own ds)), some (some (.own es)) => (de ρ g).bind fun x g1 => match x with
    | .int k => if 0 ≤ k ∧ k < es.length ∧ k < 2 ^ 62 ∧ ds.length < sizeLine then (match es[k.toNat]? with
      | some w => .ok (.next ((ρ.set j (some (.own (es.eraseIdx k.toNat)))).set i (some (.own (ds ++ [w]))))) g1
      | none => .fail) else .fail
    | _ => .fail
  | _, _ => .fail
theorem RepAll.erase {K : PySem.W.Frag} {F : Addr → Prop} {H : Hp} : ∀ {vs : List V} {ds : List D} (n : Nat), RepAll K F H vs ds → RepAll K F H (vs.eraseIdx n) (ds.eraseIdx n)
  | _, _, _, .nil => .nil
  | _, _, 0, .cons _ t => t
  | _, _, n + 1, .cons r t => .cons r (RepAll.erase n t)
theorem ss_appPop (hij : i ≠ j) (n1 : NmOk X i y) (n2 : NmOk X j z) (he : SE X ct de e) (hs : isStarB e = false) (hsw : swapsWith (.Call (.Attribute (.Name y p) "append" p1) [.Call (.Attribute (.Name z q) "pop" q1) [e] [] cpos2] [] cpos) none pos.line X.env = pure false)
    (hb1 : attributeBase (.Name y p) "append" X.env (eval (.Name y p) X.env) = eval (.Name y p) X.env) (hl1 : (p1.endLine == cpos.line) = true)
    (hb2 : attributeBase (.Name z q) "pop" X.env (eval (.Name z q) X.env) = eval (.Name z q) X.env) (hl2 : (q1.endLine == cpos2.line) = true) :
    SS C X ct (sAppPop i j de) (.Expr (.Call (.Attribute (.Name y p) "append" p1) [.Call (.Attribute (.Name z q) "pop" q1) [e] [] cpos2] [] cpos) pos) := fun W tk => by
  have few : ((backTo cpos2 (starEach [e] X.env)).all (fun x => !x.1) && (backToKw cpos2 (keywordEach [] X.env)).all (fun x => x.1.isSome) && decide ([e].length + ([] : List Keyword).length + (if ([] : List Keyword).isEmpty then 0 else 1) < 30)) = true := by
    rw [star_no hs]; rfl
  refine psW (ps_expr (pe_bm F.plainAttrs_list F.slot_list_append F.type_list_append (show MtR X _ _ from mt_append) (pe_var n1.hN n1.hv n1.hd n1.hcd)
    (pa_cons (pe_bm F.plainAttrs_list F.slot_list_pop F.type_list_pop (show MtR X _ _ from mt_popAt) (pe_var n2.hN n2.hv n2.hd n2.hcd) (pa_cons (he (WXof W) tk) pa_nil (star_no hs)) hb2 few hl2 (star_no hs) rfl) pa_nil rfl) hb1 rfl hl1 rfl rfl) hsw) fun D σ H ⟨b, F, ow, ρ, g, S, o⟩ => ?_
  unfold sAppPop at o
  split at o
  · rename_i ds es hi hj
    obtain ⟨a, vs, e0, ex, nf, h1, r0⟩ := S.st.slot i _ hi
    obtain ⟨a2, vs2, e02, ex2, nf2, h12, r02⟩ := S.st.slot j _ hj
    refine ⟨.ref a, ex, .inl ⟨rfl, vs, .of h1⟩, ?_⟩
    refine ⟨.ref a2, ex2, .inl ⟨rfl, vs2, .of h12⟩, ?_⟩
    refine ⟨b, F, ow, ρ, g, S.st, (OutS.ofE S o).imp fun x g1 F1 H1 e1 B1 o1 v rv => ?_⟩
    have S1 := S.up e1 B1
    obtain ⟨a3, vs3, e03, ex3, nf3, h13, r3⟩ := S1.st.slot j _ hj
    have ea : a3 = a2 := by rw [e02] at e03; cases e03; rfl
    subst ea
    cases x <;> first | (exact o1.elim) | skip
    rename_i k
    dsimp only at o1
    split at o1
    · rename_i hk
      obtain ⟨k0, k1, k3, k2⟩ := hk
      split at o1
      · rename_i w hw
        obtain ⟨v4, hv4, r4⟩ := r3.get hw
        have hkl : seqIndex? k vs3.length = some k.toNat := by
          rw [r3.length]
          unfold seqIndex?
          have hn : ¬ k < 0 := by omega
          simp only [if_neg hn, k0, k1, decide_true, Bool.and_self, if_true]
        obtain ⟨S2, m2⟩ := S1.writeL (ds' := es.eraseIdx k.toNat) hj e03 nf3 h13 (r3.erase _)
        refine ⟨a3, vs3, k, k.toNat, v4, rfl, by cases rv; rfl, h13, by omega, by omega, hkl, hv4, ?_⟩
        have hi2 : (ρ.set j (some (Slot.own (es.eraseIdx k.toNat))))[i]? = some (some (.own ds)) := by rw [List.getElem?_set_ne (Ne.symm hij)]; exact hi
        obtain ⟨a5, vs5, e05, ex5, nf5, h15, r5⟩ := S2.st.slot i _ hi2
        have ea : a5 = a := by rw [e0] at e05; cases e05; rfl
        subst ea
        obtain ⟨S3, m3⟩ := S2.writeL (ds' := ds ++ [w]) hi2 e05 nf5 h15 (r5.append (.cons (r4.up m2) .nil))
        exact ⟨a5, vs5, v4, rfl, rfl, h15, by rw [r5.length]; exact k2, o1 b F1 _ ow σ S3 (m2.trans m3)⟩
      · exact o1.elim
    · exact o1.elim
  · exact o.elim
end
variable {C : FrC}
def rsAppPop : RuleS := fun r q S st => match st with
  | .Expr (.Call (.Attribute (.Name y _) m p1) [.Call (.Attribute (.Name z _) m2 q1) [e] [] cpos2] [] cpos) _ => if m == ("append" : Str) && m2 == ("pop" : Str) && !isStarB e && (p1.endLine == cpos.line) && (q1.endLine == cpos2.line) then (match slotOf S y, slotOf S z with
    | some i, some j => if i = j then none else some (fz S [e] (sAppPop i j (r.e S e)))
    | _, _ => none) else none
  | _ => none
theorem rsAppPop_ok : RuleS.Ok C rsAppPop := fun r R q Q X S h st d e => by
  unfold rsAppPop at e
  split at e
  · split at e
    · rename_i hh
      simp only [Bool.and_eq_true, Bool.not_eq_true'] at hh
      obtain ⟨⟨⟨⟨h1, h2⟩, h3⟩, h4⟩, h5⟩ := hh
      have h1 := eq_of_beq h1
      have h2 := eq_of_beq h2
      subst h1 h2
      split at e
      · rename_i i j hi hj
        split at e
        · cases e
        · rename_i hne
          cases e
          exact fz_ok (ss_appPop hne (slot_ok h.ok hi) (slot_ok h.ok hj) (R.e h.ok _) h3 (swaps_no rfl) base_name h4 base_name h5)
      · cases e
    · cases e
  · cases e
end PF

set_option Elab.async false
set_option linter.all false
set_option maxRecDepth 100000
set_option maxHeartbeats 2000000
/-! PF46: x[::-1]. -/
namespace PF
open PySem PySem.Spec PyProof.Rows L2 HT

section
variable {prog : Program} {w : World} {A : Around} {E : Value → Shared → Prop} {s : Shared}
theorem rev_pick (items : Array Value) : ((List.range items.size).filterMap fun (k : Nat) => items[((items.size : Int) - 1 + (k : Int) * (-1)).toNat]?).toArray = items.toList.reverse.toArray := by
  congr 1
  apply List.ext_getElem?
  intro i
  have hm : ∀ k ∈ List.range items.size, items[((items.size : Int) - 1 + (k : Int) * (-1)).toNat]? = some (items.toList.reverse.getD k .none) := fun k hk => by
    have hk := List.mem_range.mp hk
    have e : ((items.size : Int) - 1 + (k : Int) * (-1)).toNat = items.size - 1 - k := by omega
    have hl : k < items.toList.reverse.length := by rw [List.length_reverse, Array.length_toList]; exact hk
    rw [e, List.getD_eq_getElem?_getD, List.getElem?_eq_getElem hl, List.getElem_reverse, Array.getElem?_eq_getElem (by omega)]
    simp
  have e2 : (List.range items.size).filterMap (fun (k : Nat) => items[((items.size : Int) - 1 + (k : Int) * (-1)).toNat]?) = (List.range items.size).map fun k => items.toList.reverse.getD k .none := by
    have : ∀ l : List Nat, (∀ k ∈ l, k ∈ List.range items.size) → l.filterMap (fun (k : Nat) => items[((items.size : Int) - 1 + (k : Int) * (-1)).toNat]?) = l.map fun k => items.toList.reverse.getD k .none := fun l hl => by
      induction l with
      | nil => rfl
      | cons a r ih =>
        rw [List.filterMap_cons, hm a (hl a List.mem_cons_self), List.map_cons, ih fun k hk => hl k (List.mem_cons_of_mem _ hk)]
    exact this _ fun k hk => hk
  rw [e2, List.getElem?_map]
  by_cases hi : i < items.size
  · have hl : i < items.toList.reverse.length := by rw [List.length_reverse, Array.length_toList]; exact hi
    rw [List.getElem?_range hi, List.getElem?_eq_getElem hl]
    simp [List.getD_eq_getElem?_getD, hi]
  · rw [List.getElem?_eq_none (by rw [List.length_range]; omega), List.getElem?_eq_none (by rw [List.length_reverse, Array.length_toList]; omega)]
    rfl
theorem rev_applied {sl : Addr} {vl vu vs : Value} {n : Nat} {Q : Int × Int × Nat → Shared → Prop} (hs : s.heap.IsSliceOf sl vl vu vs) (pl : IsPart vl none) (pu : IsPart vu none) (ps : IsPart vs (some (-1)))
    (h : Q ((n : Int) - 1, -1, n) s) : wpAny (model prog w) A (Builtin.Slice.sliceApplied (.ref sl) (pure (n : Int))) Q E s := by
  obtain ⟨os, hos, hcs, hds⟩ := id hs
  unfold Builtin.Slice.sliceApplied Builtin.Slice.sliceFields
  refine wpAny_bind (wpAny_bind (wpAny_field hos hds (x := vl) rfl (wpAny_bind (wpAny_field hos hds (x := vu) rfl (wpAny_bind (wpAny_field hos hds (x := vs) rfl (wpAny_pure ?_)))))))
  refine wpAny_bind (slicePart_ ps ?_)
  show wpAny _ _ (if ((-1 : Int) == 0) = true then _ else _) _ _ s
  rw [if_neg (by decide)]
  refine wpAny_bind (slicePart_ pl (wpAny_bind (slicePart_ pu (wpAny_bind (wpAny_pure ?_)))))
  have e : Builtin.Slice.slicePlaces ((n : Int) - 1) (-1) (-1) = n := by
    unfold Builtin.Slice.slicePlaces
    rw [if_neg (by decide)]
    by_cases hn : (n : Int) - 1 > -1
    · rw [if_pos hn]
      have : ((n : Int) - 1 - -1 - 1) / - -1 = (n : Int) - 1 := by
        have : (- -1 : Int) = 1 := by decide
        rw [this, Int.ediv_one]
        omega
      rw [this]
      omega
    · rw [if_neg hn]
      omega
  show wpAny _ _ (pure ((n : Int) - 1, (-1 : Int), Builtin.Slice.slicePlaces ((n : Int) - 1) (-1) (-1))) _ _ s
  rw [e]
  exact wpAny_pure h
theorem getItem_tuple_rev {t sl : Addr} {items : Array Value} {vl vu vs : Value} {Q : Value → Shared → Prop} (ht : IsTup s.heap t items) (hs : s.heap.IsSliceOf sl vl vu vs) (pl : IsPart vl none) (pu : IsPart vu none) (ps : IsPart vs (some (-1)))
    (h : Q (.ref s.heap.objs.size) { s with heap := s.heap.push { cls := .type "tuple", data := .seq items.toList.reverse.toArray } }) (hsz : items.size ≤ sizeLine) : wpAny (model prog w) A (getItem (.ref t) (.ref sl)) Q E s := by
  have hsz2 : sizeOk (.seq items.toList.reverse.toArray) := by
    show items.toList.reverse.toArray.size ≤ sizeLine
    rw [List.size_toArray, List.length_reverse, Array.length_toList]
    exact hsz
  have hTs : s.TypeIs (.ref sl) "slice" := by
    obtain ⟨os, hos, hcs, hds⟩ := id hs
    exact ⟨os, hos, hcs⟩
  unfold getItem
  try with_reducible refine wpAny_holding ?_
  first | refine wpAny_bind (wpAny_pure ?_) | skip
  refine wpAny_bind (wpAny_sequenceKey ht.typeIs (by decide) (wpAny_bind (wpAny_callSpecial?_slot (name := Str.ofString "__getitem__") ht.typeIs PyProof.Rows.slot_tuple_getitem
    (wpAny_call_entry PyProof.Rows.slot_tuple_getitem ht.typeIs entry_tuple_getitem ?_ (args_tuple_getitem _ _)))))
  show wpAny _ _ (Builtin.Tuple.tupleItemsOf (.ref t) >>= _) _ _ s
  refine wpAny_bind (tupleItemsOf_ ht (wpAny_bind (wpAny_typeOf hTs ?_)))
  rw [if_pos (by decide)]
  refine wpAny_bind (rev_applied (n := items.size) hs pl pu ps ?_)
  have hno : ¬ (((items.size : Int) - 1 == 0 && (-1 : Int) == 1 && items.size == items.size) = true) := by
    rw [show ((-1 : Int) == 1) = false from by decide, Bool.and_false, Bool.false_and]
    exact Bool.false_ne_true
  show wpAny _ _ (if ((items.size : Int) - 1 == 0 && (-1 : Int) == 1 && items.size == items.size) = true then _ else _) _ _ s
  rw [if_neg hno, rev_pick]
  first
    | exact wpAny_bind (m := Builtin.Tuple.tupleExact _) (wpAny_newObj_type (wpAny_pure ⟨_, rfl, wpAny_pure h⟩) hsz2)
    | exact wpAny_bind (m := Builtin.Tuple.tupleExact _) (wpAny_newObj_type (wpAny_bind (wpAny_pure (wpAny_pure ⟨_, rfl, wpAny_pure h⟩))) hsz2)
    | exact wpAny_bind (wpAny_bind (m := Builtin.Tuple.tupleExact _) (wpAny_newObj_type (wpAny_pure (wpAny_pure ⟨_, rfl, wpAny_pure h⟩)) hsz2))
    | exact wpAny_bind (wpAny_bind (m := Builtin.Tuple.tupleExact _) (wpAny_newObj_type (wpAny_pure ⟨_, rfl, wpAny_pure h⟩) hsz2))
end
section
variable {X : Cx} {e : Expr} {te : TE} {k : Nat} {p1 p2 p3 pos : Pos}
def tRevA (K : PySem.W.Frag) (te : TE) : TE := fun σ H Q => te σ H fun x H1 => ∃ a xs, x = .ref a ∧ ((SqL K H1 a xs ∧ ∀ p, H1 p = none → Q (.ref p) (upd H1 p (.lst xs.reverse))) ∨ (SqT K H1 a xs ∧ ∀ p, H1 p = none → Q (.ref p) (upd H1 p (.tup xs.reverse))))
theorem pe_revA (he : PE X e te) : PE X (.Subscript e (.Slice none none (some (.UnaryOp .USub (.Constant (.int 1) k p1) p2)) p3) pos) (tRevA X.K te) := by
  refine ⟨fun pins s σ H Q I h => ?_⟩
  refine Subscript_ (thn (he.run pins s σ H _ I h) fun v s1 ⟨x, H1, I1, r1, a, xs, ex, hx⟩ => ?_)
  subst ex
  cases r1
  have hst := po_some (pe_un un_neg (pe_int (X := X) (i := 1) (j := k) (pos := p1)) (pos := p2))
  refine wpAny_Slice (thn (po_none.run pins s1 σ H1 (fun o H2 => o = none ∧ H2 = H1) I1 ⟨rfl, rfl⟩) fun vl s2 ⟨l, H2, I2, pl, el, e2⟩ => ?_)
  subst el e2
  refine thn (po_none.run pins s2 σ H2 (fun o H3 => o = none ∧ H3 = H2) I2 ⟨rfl, rfl⟩) fun vu s3 ⟨u, H3, I3, pu, eu, e3⟩ => ?_
  subst eu e3
  refine thn (hst.run pins s3 σ H3 (fun o H4 => o = some (-1) ∧ H4 = H3) I3 ⟨1, rfl, -1, rfl, rfl, rfl⟩) fun vs s4 ⟨o, H4, I4, ps, eo, e4⟩ => ?_
  subst eo e4
  have I5 : Inv X pins σ H4 { s4 with heap := s4.heap.push { cls := .type "slice", data := .fields #[vl, vu, vs] } } := I4.kept (t' := s4.toks) fun b ob q => Heap.get?_push_of_some _ q
  show wpAny (model X.prog X.w) X.A (subscriptTail e (.Slice none none (some (.UnaryOp .USub (.Constant (.int 1) k p1) p2)) p3) (.ref a) (.ref s4.heap.objs.size)) (EP X pins σ Q) X.xe { s4 with heap := s4.heap.push { cls := .type "slice", data := .fields #[vl, vu, vs] } }
  rcases hx with ⟨hx, q⟩ | ⟨hx, q⟩
  · obtain ⟨its, r, ht, hz⟩ := I5.list hx
    have hlen := r.length
    refine tail_any (ops := [.ref a, .ref s4.heap.objs.size]) ht.isList.typeIs (PySem.slot_list_getitem.lookup) ?_ (by with_unfolding_all rfl)
    refine wpAny_getItem_list_slice ht.isList (Heap.IsSliceOf.new _ vl vu vs) pl pu ps (by decide) ?_ (by rw [List.size_toArray]; omega)
    rw [PySem.W.krv_pick]
    exact ⟨.ref _, _, I5.laid (t' := s4.toks) (o := .lst xs.reverse) (fun b ob q => Heap.get?_push_of_some _ q) (Nat.le_refl _) ⟨by rw [List.length_reverse]; exact hz, _, 0, r.reverse, Heap.get?_push_size _ rfl⟩, rfl, q _ (I5.hok.fresh (Nat.le_refl _))⟩
  · obtain ⟨its, r, ht, hz⟩ := I5.tuple hx
    have hlen := r.length
    refine tail_any (ops := [.ref a, .ref s4.heap.objs.size]) ht.typeIs (PyProof.Rows.slot_tuple_getitem.lookup) ?_ (by with_unfolding_all rfl)
    refine getItem_tuple_rev ht (Heap.IsSliceOf.new _ vl vu vs) pl pu ps ?_ (by rw [List.size_toArray]; omega)
    exact ⟨.ref _, _, I5.laid (t' := s4.toks) (o := .tup xs.reverse) (fun b ob q => Heap.get?_push_of_some _ q) (Nat.le_refl _) ⟨by rw [List.length_reverse]; exact hz, _, r.reverse, IsTup.new _ _⟩, rfl, q _ (I5.hok.fresh (Nat.le_refl _))⟩
end
variable [TabT]
section
variable {X : Cx} {ct : Nat → ClsInfo} {a : Expr} {da : Env → M D} {k : Nat} {p1 p2 p3 pos : Pos}
theorem RepAll.reverse {K : PySem.W.Frag} {F : Addr → Prop} {H : Hp} : ∀ {vs : List V} {ds : List D}, RepAll K F H vs ds → RepAll K F H vs.reverse ds.reverse
  | _, _, .nil => .nil
  | _, _, .cons r t => by rw [List.reverse_cons, List.reverse_cons]; exact (RepAll.reverse t).append (.cons r .nil)
def dRev (da : Env → M D) : Env → M D := fun ρ g => (da ρ g).bind fun x g1 => match x with
  | .list xs => .ok (.list xs.reverse) g1
  | .tuple xs => .ok (.tuple xs.reverse) g1
  | _ => .fail
theorem se_rev (ha : SO X ct da a) : SE X ct (dRev da) (.Subscript a (.Slice none none (some (.UnaryOp .USub (.Constant (.int 1) k p1) p2)) p3) pos) := fun W tk => by
  refine peW (pe_revA (ha W tk)) fun σ H Q ⟨b, F, ow, ρ, g, S, o⟩ => ?_
  refine rd1 S o fun x g1 F1 H1 v e1 S1 r1 o1 => ?_
  cases x <;> first | (exact o1.elim) | skip
  · obtain ⟨l, vs, rfl, q, r2⟩ := r1.list
    exact ⟨l, vs, rfl, .inl ⟨q, fun p hp => finL S1.toBg hp r2.reverse fun F' H' u e B r => o1 F' H' e B u r⟩⟩
  · obtain ⟨l, vs, rfl, q, r2⟩ := r1.tuple
    exact ⟨l, vs, rfl, .inr ⟨q, fun p hp => finT S1.toBg hp r2.reverse fun F' H' u e B r => o1 F' H' e B u r⟩⟩
end
def rRev : RuleE := fun r S e => match e with
  | .Subscript a (.Slice none none (some (.UnaryOp .USub (.Constant (.int i) _ _) _)) _) _ => if i = 1 then some (dRev (r.o S a)) else none
  | _ => none
theorem rRev_ok : rRev.Ok := fun r R X S h e d q => by
  unfold rRev at q
  split at q
  · split at q
    · rename_i hi
      subst hi
      cases q
      exact se_rev (R.o h _)
    · cases q
  · cases q
end PF

set_option Elab.async false
set_option linter.all false
set_option maxRecDepth 100000
set_option maxHeartbeats 2000000
/-! PF47: tuple(range(a, b, c)). -/
namespace PF
open PySem PySem.Spec PyProof.Rows L2

section
variable {X : Cx} {a b c : Expr} {ta : TA} {p p2 pos pos2 : Pos}
def rgCV (i c : Int) (n : Nat) : List V := (List.range n).map fun (m : Nat) => V.int (i + m * c)
theorem vals_rgC {i c : Int} {acc : Array Value} {n : Nat} (h : ItemsOf (fun m v => ∃ t, v = .int (i + m * c) t) acc n) : Vals (rgCV i c n) acc.toList := by
  have e : acc.toList.length = n := by rw [Array.length_toList]; exact h.1
  unfold rgCV
  rw [← e]
  refine vals_of_get acc.toList _ fun j u hj => ?_
  obtain ⟨t, rfl⟩ := h.2 j u (by rw [← hj, Array.getElem?_toList])
  exact ⟨t, rfl⟩
def tTupRg3 (ta : TA) : TE := fun σ H Q => ta σ H fun vs H1 => ∃ (i j c : Int) (n : Nat), vs = [.int i, .int j, .int c] ∧ RgC i j c n ∧ n ≤ 2 ^ 24 ∧ ∀ q, H1 q = none → Q (.ref q) (upd H1 q (.tup (rgCV i c n)))
theorem pe_tupRg3 (hc : X.calm = true) (hg : Gl X "tuple") (hm : X.mg "tuple" = none) (hg2 : Gl X "range") (hm2 : X.mg "range" = none) (ha : PA X [a, b, c] ta)
    (hs : starEach [a, b, c] X.env = (false, eval a X.env) :: starEach [b, c] X.env) (hpl : (backTo pos2 (starEach [b, c] X.env)).any (·.1) = false) :
    PE X (.Call (.Name "tuple" p) [.Call (.Name "range" p2) [a, b, c] [] pos2] [] pos) (tTupRg3 ta) := by
  refine ⟨fun pins s σ H Q I h => ?_⟩
  refine Call_ (ld_blt I hg hm boot_tuple (PyProof.Rows.callWith_type1 (args_cons ?_ rfl) rfl rfl))
  refine Call_ (ld_blt I hg2 hm2 boot_range (PyProof.Rows.callWith_type1 (thn (ha.run pos2 pins s σ H _ I h) fun us s1 ⟨vs, H1, I1, r1, i, j, k, n, e, ⟨c0, c1, c2, c3⟩, hn, q⟩ => ?_) hs hpl))
  subst e
  obtain ⟨t, t', t'', rfl⟩ : ∃ t t' t'', us = [Value.int i t, Value.int j t', Value.int k t''] := by
    cases r1 with
    | cons r rr => cases rr with
      | cons r' rr => cases rr with
        | cons r'' rr =>
          cases rr
          obtain ⟨t, rfl⟩ := r; obtain ⟨t', rfl⟩ := r'; obtain ⟨t'', rfl⟩ := r''
          exact ⟨t, t', t'', rfl⟩
  · refine call_range_3 c0 (args_nil ?_) (.inl (PyProof.noPylong_small c1))
    have I2 : Inv X pins σ H1 { s1 with heap := s1.heap.push { cls := .type "range", data := .fields #[.int i t, .int j t', .int k t''] } } := I1.kept (t' := s1.toks) fun b o e => Heap.get?_push_of_some _ e
    refine call_tuple_range (n := n) (I2.ok.hd hc) (IsRange.new ..) c2 c3 hn fun h' tk acc hk hi => ?_
    have I3 : Inv X pins σ H1 { s1 with heap := h', toks := tk } := I2.kept hk
    refine ⟨.ref h'.objs.size, upd H1 h'.objs.size (.tup (rgCV i k n)), I3.laid (t' := tk) (fun c o e => Heap.get?_push_of_some _ e) (Nat.le_refl _) (show ObjOk X.prog X.w _ _ _ (.tup (rgCV i k n)) from ⟨?_, acc.toList, vals_rgC hi, ?_⟩), rfl, q _ (I3.hok.fresh (Nat.le_refl _))⟩
    · unfold rgCV
      rw [List.length_map, List.length_range, sizeLine_eq]
      omega
    · rw [Array.toArray_toList]; exact IsTup.new _ _
end
variable [TabT]
section
variable {X : Cx} {ct : Nat → ClsInfo} {a c e3 : Expr} {da dc d3 : Env → M D} {p p2 pos pos2 : Pos}
theorem repRngC {K : PySem.W.Frag} {F : Addr → Prop} {H : Hp} (i c : Int) (n : Nat) : RepAll K F H (rgCV i c n) (rngC i c n) := by
  unfold rgCV rngC
  have : ∀ l : List Nat, RepAll K F H (l.map fun (m : Nat) => V.int (i + m * c)) (l.map fun (m : Nat) => PyData.int (i + m * c)) := fun l => by
    induction l with
    | nil => exact .nil
    | cons a r ih => exact .cons (.int _) ih
  exact this _
def dTR3 (da dc d3 : Env → M D) : Env → M D := fun ρ g => (da ρ g).bind fun x g1 => (dc ρ g1).bind fun y g2 => (d3 ρ g2).bind fun z g3 => match x, y, z with
  | .int i, .int j, .int c => (if okRg3 i j c = true ∧ cntC i j c ≤ 2 ^ 24 then .ok (.tuple (rngC i c (cntC i j c))) g3 else .fail)
  | _, _, _ => .fail
theorem se_tr3 (hcm : X.calm = true) (hg : Gl X "tuple") (hm : X.mg "tuple" = none) (hg2 : Gl X "range") (hm2 : X.mg "range" = none) (ha : SO X ct da a) (hc : SO X ct dc c) (h3 : SO X ct d3 e3) (hs : isStarB a = false) (hs2 : isStarB c = false) (hs3 : isStarB e3 = false) :
    SE X ct (dTR3 da dc d3) (.Call (.Name "tuple" p) [.Call (.Name "range" p2) [a, c, e3] [] pos2] [] pos) := fun W tk => by
  refine peW (pe_tupRg3 hcm hg hm hg2 hm2 (pa_cons (ha W tk) (pa_so2 hc h3 tk hs2 hs3) (star_no hs)) (by rw [star_no hs]) (by rw [star_no hs2, star_no hs3]; rfl)) fun σ H Q ⟨b, F, ow, ρ, g, S, o⟩ => ?_
  refine rd1 S o fun x g1 F1 H1 v e1 S1 r1 o1 => ?_
  refine rd1 S1 o1 fun y g2 F2 H2 w e2 S2 r2 o2 => ?_
  refine rd1 S2 o2 fun z g3 F3 H3 u e3 S3 r3 o3 => ?_
  cases x <;> first | (exact o3.elim) | skip
  cases y <;> first | (exact o3.elim) | skip
  cases z <;> first | (exact o3.elim) | skip
  rename_i i j c
  dsimp only at o3
  split at o3
  · rename_i hj
    obtain ⟨hj, hn⟩ := hj
    simp only [okRg3, Bool.and_eq_true, decide_eq_true_eq] at hj
    exact ⟨i, j, c, _, by rw [r1.int, r2.int, r3.int], ⟨hj.1.1.1, hj.1.1.2, hj.1.2, hj.2⟩, hn, fun q hq => finT S3.toBg hq (repRngC i c _) fun F' H' u e B r => o3 F' H' e B u r⟩
  · exact o3.elim
end
def rTR3 : RuleE := fun r S e => match e with
  | .Call (.Name x _) [.Call (.Name y _) [a, c, d] [] _] [] _ => if x == ("tuple" : Str) && y == ("range" : Str) && glB S x && S.nog x && glB S y && S.nog y && !isStarB a && !isStarB c && !isStarB d then some (dTR3 (r.o S a) (r.o S c) (r.o S d)) else none
  | _ => none
theorem rTR3_ok : rTR3.Ok := fun r R X S h e d q => by
  unfold rTR3 at q
  split at q
  · split at q
    · rename_i hh
      simp only [Bool.and_eq_true, Bool.not_eq_true'] at hh
      obtain ⟨⟨⟨⟨⟨⟨⟨⟨hx, hy⟩, hg⟩, hn⟩, hg2⟩, hn2⟩, hs⟩, hs2⟩, hs3⟩ := hh
      have hx := eq_of_beq hx
      have hy := eq_of_beq hy
      subst hx hy
      cases q
      exact se_tr3 h.calm (gl_ok h hg).1 (h.nog _ hn) (gl_ok h hg2).1 (h.nog _ hn2) (R.o h _) (R.o h _) (R.o h _) hs hs2 hs3
    · cases q
  · cases q
end PF

set_option Elab.async false
set_option linter.all false
set_option maxRecDepth 100000
set_option maxHeartbeats 2000000
/-! PF49: x.count(e), x.index(e) of lists of ints; y.remove(e); a, b = y.pop(); y.extend(e) of a value. -/
namespace PF
open PySem PySem.Spec PyProof.Rows L2
variable [TabT]

theorem few1 {e : Expr} {cpos : Pos} {env : PySem.Env} (hs : isStarB e = false) : ((backTo cpos (starEach [e] env)).all (fun x => !x.1) && (backToKw cpos (keywordEach [] env)).all (fun x => x.1.isSome) && decide ([e].length + ([] : List Keyword).length + (if ([] : List Keyword).isEmpty then 0 else 1) < 30)) = true := by
  rw [star_no hs]; rfl
section
variable {X : Cx} {ct : Nat → ClsInfo} {y : Str} {p p1 cpos : Pos} {a e : Expr} {da dx : Env → M D}
/-- f of the list's ints and of a number -/
def dLI (f : List Int → Int → Option Int) (da dx : Env → M D) : Env → M D := fun ρ g => (da ρ g).bind fun x g1 => match x with
  | .list xs => (dx ρ g1).bind fun y g2 => match intsD xs, y with
    | some ns, .int k => (match f ns k with | some z => .ok (.int z) g2 | none => .fail)
    | _, _ => .fail
  | _ => .fail
def opCnt (ns : List Int) (k : Int) : Option Int := some (ns.count k : Nat)
def opIdx (ns : List Int) (k : Int) : Option Int := if k ∈ ns then some (ns.idxOf k : Nat) else none
theorem se_li {f : List Int → Int → Option Int} {nm : Str} {id : String} {r : V → List V → Hp → VK → Prop} (sl : PySem.Slot "list" nm id) (ty : typeOf (.builtin id) = pure (.type "method_descriptor")) (hm : MtR X id r)
    (hr : ∀ H l ns k z Q, SqL X.K H l (ns.map V.int) → f ns k = some z → Q (V.int z) H → r (.ref l) [.int k] H Q) (ha : SO X ct da (.Name y p)) (hx : SE X ct dx e) (hs : isStarB e = false) (hl : (p1.endLine == cpos.line) = true) :
    SE X ct (dLI f da dx) (.Call (.Attribute (.Name y p) nm p1) [e] [] cpos) := fun W tk => by
  refine peW (pe_bm F.plainAttrs_list sl ty hm (ha W tk) (pa_cons (hx W tk) pa_nil (star_no hs)) base_name (few1 hs) hl (star_no hs) rfl) fun σ H Q ⟨b, F, ow, ρ, g, S, o⟩ => ?_
  refine rd1 S o fun x g1 F1 H1 v e1 S1 r1 o1 => ?_
  cases x <;> first | (exact o1.elim) | skip
  rename_i xs
  obtain ⟨l, vs, rfl, q, r2⟩ := r1.list
  refine ⟨.inl ⟨rfl, vs, q⟩, ?_⟩
  refine rd1e S1 o1 fun z g2 F2 H2 w e2 S2 r3 o2 => ?_
  obtain ⟨l', vs', h0, q', r2'⟩ := (r1.up e2 S1.toBg).list
  cases h0
  cases hi : intsD xs with
  | none => rw [hi] at o2; exact o2.elim
  | some ns =>
    rw [hi] at o2
    cases z <;> first | (exact o2.elim) | skip
    rename_i k
    rw [ints_eq hi] at r2'
    cases r3
    dsimp only at o2
    split at o2
    · rename_i z hz
      exact hr _ l ns k z _ (by rw [← r2'.ints]; exact q') hz (Out.ok o2 S2.toBg _ (.int _))
    · exact o2.elim
theorem idx_get {k : Int} : ∀ {ns : List Int}, k ∈ ns → (ns.map V.int)[ns.idxOf k]? = some (.int k)
  | [], h => by cases h
  | n :: r, h => by
    by_cases e : n = k
    · subst e; simp
    · have : k ∈ r := by rcases List.mem_cons.mp h with z | z; exact absurd z.symm e; exact z
      have ih := idx_get this
      rw [List.idxOf_cons, show (n == k) = false from by simpa using e]
      simpa using ih
theorem idx_no {k : Int} : ∀ {ns : List Int} {m : Nat} {z : V}, m < ns.idxOf k → (ns.map V.int)[m]? = some z → ∃ n, z = .int n ∧ n ≠ k
  | [], m, z, h, e => by simp at e
  | n :: r, m, z, h, e => by
    by_cases q : n = k
    · subst q; simp at h
    · rw [List.idxOf_cons, show (n == k) = false from by simpa using q] at h
      cases m with
      | zero => simp at e; exact ⟨n, e.symm, q⟩
      | succ m => exact idx_no (by simpa using h) (by simpa using e)
theorem se_idxL (ha : SO X ct da (.Name y p)) (hx : SE X ct dx e) (hs : isStarB e = false) (hl : (p1.endLine == cpos.line) = true) : SE X ct (dLI opIdx da dx) (.Call (.Attribute (.Name y p) "index" p1) [e] [] cpos) :=
  se_li F.slot_list_index F.type_list_index (show MtR X _ _ from mt_index) (fun H l ns k z Q h hz q => by
    unfold opIdx at hz
    split at hz
    · rename_i hk
      cases hz
      refine ⟨l, _, .int k, ns.idxOf k, .int k, rfl, rfl, h, rfl, ?_, idx_get hk, ?_, fun m z' hm hz' => ?_, q⟩
      · rw [List.all_eq_true]
        intro v hv
        obtain ⟨n, _, rfl⟩ := List.mem_map.mp hv
        rfl
      · show eqV (.int k) (.int k) = true
        simp [eqV]
      · obtain ⟨n, rfl, hn⟩ := idx_no hm hz'
        show eqV (.int n) (.int k) = false
        simp [eqV, hn]
    · cases hz) ha hx hs hl
theorem se_cnt (ha : SO X ct da (.Name y p)) (hx : SE X ct dx e) (hs : isStarB e = false) (hl : (p1.endLine == cpos.line) = true) : SE X ct (dLI opCnt da dx) (.Call (.Attribute (.Name y p) "count" p1) [e] [] cpos) :=
  se_li F.slot_list_count F.type_list_count (show MtR X _ _ from mt_lcount) (fun H l ns k z Q h hz q => by cases hz; exact ⟨l, ns, k, rfl, rfl, h, q⟩) ha hx hs hl
end
def rLI : RuleE := fun r S e => match e with
  | .Call (.Attribute (.Name y p) m p1) [e] [] cpos => if !isStarB e && (p1.endLine == cpos.line) then (if m == ("count" : Str) then some (dLI opCnt (r.o S (.Name y p)) (r.e S e)) else if m == ("index" : Str) then some (dLI opIdx (r.o S (.Name y p)) (r.e S e)) else none) else none
  | _ => none
theorem rLI_ok : rLI.Ok := fun r R X S h e d q => by
  unfold rLI at q
  split at q
  · split at q
    · rename_i hh
      simp only [Bool.and_eq_true, Bool.not_eq_true'] at hh
      obtain ⟨h2, h3⟩ := hh
      split at q
      · rename_i hm
        rw [eq_of_beq hm]
        cases q
        exact se_cnt (R.o h _) (R.e h _) h2 h3
      · split at q
        · rename_i hm
          rw [eq_of_beq hm]
          cases q
          exact se_idxL (R.o h _) (R.e h _) h2 h3
        · cases q
    · cases q
  · cases q
section
variable {C : FrC} {X : Cx} {ct : Nat → ClsInfo} {W : WS} {pos : Pos} {i : Nat} {y : Str} {p p1 cpos : Pos} {e tge : Expr} {dx : Env → M D} {tg : Tgt}
/-- targets = y.pop() -/
def sPopT (tg : Tgt) (i : Nat) : Env → M Fl := fun ρ g => match ρ[i]? with
  | some (some (.own ds)) => (match ds[ds.length - 1]? with
    | some z => (match tg.put z (ρ.set i (some (.own ds.dropLast))) with
      | some ρ' => .ok (.next ρ') g
      | none => .fail)
    | none => .fail)
  | _ => .fail
theorem ss_popT (hg : SG X tg tge) (n : NmOk X i y) (hb : attributeBase (.Name y p) "pop" X.env (eval (.Name y p) X.env) = eval (.Name y p) X.env) (hl : (p1.endLine == cpos.line) = true)
    (hs : swapsWithSole [tge] (.Call (.Attribute (.Name y p) "pop" p1) [] [] cpos) pos.line X.env = pure false) (hw : swappedStores [tge] (.Call (.Attribute (.Name y p) "pop" p1) [] [] cpos) X.env = pure none) (h1 : (assignEach [tge] X.env).map (·.2) = [assign tge X.env]) :
    SS C X ct (sPopT tg i) (.Assign [tge] (.Call (.Attribute (.Name y p) "pop" p1) [] [] cpos) pos) := fun W tk => by
  refine psW (ps_asg (pe_bm0 F.plainAttrs_list F.slot_list_pop F.type_list_pop (show MtR X _ _ from mt_pop) (pe_var n.hN n.hv n.hd n.hcd) hb hl) hg hs hw h1) fun D σ H ⟨b, F, ow, ρ, g, S, o⟩ => ?_
  unfold sPopT at o
  split at o
  · rename_i ds hi
    obtain ⟨a, vs, e0, ex, nf, h1, r0⟩ := S.st.slot i _ hi
    split at o
    · rename_i z hz
      obtain ⟨v, hv, rz⟩ := r0.get hz
      split at o
      · rename_i ρ' hp
        refine ⟨.ref a, ex, .inl ⟨rfl, vs, .of h1⟩, a, vs, v, rfl, rfl, h1, by rw [r0.length]; exact hv, ?_⟩
        obtain ⟨S2, m⟩ := S.writeL (ds' := ds.dropLast) hi e0 nf h1 r0.dropLast
        exact gt_read S2.st (rz.up m) hp fun σ' ow' St' hs' _ => o b F _ ow' σ' ⟨St', S2.fr, fun k a q => S2.fo k a (hs' k a q)⟩ m
      · exact o.elim
    · exact o.elim
  · exact o.elim
/-- y.remove(e) -/
def sRem (i : Nat) (dx : Env → M D) : Env → M Fl := fun ρ g => match ρ[i]? with
  | some (some (.own ds)) => (dx ρ g).bind fun x g1 => match intsD ds, x with
    | some ns, .int k => if k ∈ ns then .ok (.next (ρ.set i (some (.own ((ns.eraseIdx (ns.idxOf k)).map .int))))) g1 else .fail
    | _, _ => .fail
  | _ => .fail
theorem ss_rem (n : NmOk X i y) (he : SE X ct dx e) (hs : isStarB e = false) (hsw : swapsWith (.Call (.Attribute (.Name y p) "remove" p1) [e] [] cpos) none pos.line X.env = pure false)
    (hb : attributeBase (.Name y p) "remove" X.env (eval (.Name y p) X.env) = eval (.Name y p) X.env) (hl : (p1.endLine == cpos.line) = true) :
    SS C X ct (sRem i dx) (.Expr (.Call (.Attribute (.Name y p) "remove" p1) [e] [] cpos) pos) := fun W tk => by
  refine psW (ps_expr (pe_bm F.plainAttrs_list F.slot_list_remove F.type_list_remove (show MtR X _ _ from mt_remove) (pe_var n.hN n.hv n.hd n.hcd) (pa_cons (he (WXof W) tk) pa_nil (star_no hs)) hb (few1 hs) hl (star_no hs) rfl) hsw) fun D σ H ⟨b, F, ow, ρ, g, S, o⟩ => ?_
  unfold sRem at o
  split at o
  · rename_i ds hi
    obtain ⟨a, vs, e0, ex, nf, h1, r0⟩ := S.st.slot i _ hi
    refine ⟨.ref a, ex, .inl ⟨rfl, vs, .of h1⟩, ?_⟩
    refine ⟨b, F, ow, ρ, g, S.st, (OutS.ofE S o).imp fun x g1 F1 H1 e1 B1 o1 v rv => ?_⟩
    have S1 := S.up e1 B1
    obtain ⟨a1, vs1, e01, ex1, nf1, h11, r1⟩ := S1.st.slot i _ hi
    have ea : a1 = a := by rw [e0] at e01; cases e01; rfl
    subst ea
    cases hz : intsD ds with
    | none => rw [hz] at o1; exact o1.elim
    | some ns =>
      rw [hz] at o1
      cases x <;> first | (exact o1.elim) | skip
      rename_i k
      dsimp only at o1
      cases rv
      split at o1
      · rename_i hk
        have ed : ds = ns.map .int := ints_eq hz
        subst ed
        have ev : vs1 = ns.map V.int := r1.ints
        subst ev
        obtain ⟨S2, m⟩ := S1.writeL (ds' := (ns.eraseIdx (ns.idxOf k)).map .int) hi e01 nf1 h11 (repInts _)
        have hj : ns[ns.idxOf k]? = some k := by
          have := idx_get hk
          rw [List.getElem?_map] at this
          obtain ⟨z, h1, h2⟩ := Option.map_eq_some_iff.mp this
          cases h2
          exact h1
        refine ⟨a1, ns, k, ns.idxOf k, rfl, rfl, h11, hj, fun m hm e => ?_, o1 b F1 _ ow σ S2 m⟩
        obtain ⟨n', z1, z2⟩ := idx_no hm (show (ns.map V.int)[m]? = some (.int k) from by rw [List.getElem?_map, e]; rfl)
        cases z1
        exact z2 rfl
      · exact o1.elim
  · exact o.elim
end
variable {C : FrC}
def rsPopT : RuleS := fun r q S st => match st with
  | .Assign [.Tuple ts k p] (.Call (.Attribute (.Name y _) m p1) [] [] cpos) _ => if m == ("pop" : Str) && (p1.endLine == cpos.line) then (match tgOf S (.Tuple ts k p), slotOf S y with
    | some t, some i => some (sPopT t i)
    | _, _ => none) else none
  | _ => none
theorem rsPopT_ok : RuleS.Ok C rsPopT := fun r R q Q X S h st d e => by
  unfold rsPopT at e
  split at e
  · split at e
    · rename_i hh
      obtain ⟨h1, h3⟩ := Bool.and_eq_true_iff.mp hh
      have h1 := eq_of_beq h1
      subst h1
      split at e
      · rename_i t i ht hi
        cases e
        exact ss_popT (tgOf_ok h.ok ht) (slot_ok h.ok hi) base_name h3 (sole_no rfl) (swNo rfl) rfl
      · cases e
    · cases e
  · cases e
def rsRem : RuleS := fun r q S st => match st with
  | .Expr (.Call (.Attribute (.Name y _) m p1) [e] [] cpos) _ => if m == ("remove" : Str) && !isStarB e && (p1.endLine == cpos.line) then (slotOf S y).map (fun i => fz S [e] (sRem i (r.e S e))) else none
  | _ => none
theorem rsRem_ok : RuleS.Ok C rsRem := fun r R q Q X S h st d e => by
  unfold rsRem at e
  split at e
  · split at e
    · rename_i hh
      simp only [Bool.and_eq_true, Bool.not_eq_true'] at hh
      obtain ⟨⟨h1, h2⟩, h3⟩ := hh
      have h1 := eq_of_beq h1
      subst h1
      obtain ⟨i, hi, rfl⟩ := Option.map_eq_some_iff.mp e
      exact fz_ok (ss_rem (slot_ok h.ok hi) (R.e h.ok _) h2 (swaps_no rfl) base_name h3)
    · cases e
  · cases e
section
variable {X : Cx} {ct : Nat → ClsInfo} {pos : Pos} {a c c0 : Expr} {t : Env → M Bool} {da dc : Env → M (List D)}
/-- one of two new lists -/
def fIf (t : Env → M Bool) (da dc : Env → M (List D)) : Env → M (List D) := fun ρ g => (t ρ g).bind fun k g1 => if k = true then da ρ g1 else dc ρ g1
theorem sf_if (h0 : ST X ct t c0) (ha : SF X ct da a) (hb : SF X ct dc c) : SF X ct (fIf t da dc) (.IfExp c0 a c pos) := fun W tk => by
  refine peW (pe_ifExp (h0 W tk) (ha W tk) (hb W tk)) fun σ H Q ⟨b, F, ow, ρ, g, S, o⟩ => ?_
  refine rd1t S o fun x g1 F1 H1 e1 S1 o1 => ?_
  cases x with
  | true => exact ⟨b, F1, ow, ρ, g1, S1, Out.imp (show Out X.K ct b F1 H1 _ _ (da ρ g1) from o1) fun xs g2 F2 H2 e2 B2 p q vs n0 nf nb h1 r => p q vs (e1.none_of nb n0) nf nb h1 r⟩
  | false => exact ⟨b, F1, ow, ρ, g1, S1, Out.imp (show Out X.K ct b F1 H1 _ _ (dc ρ g1) from o1) fun xs g2 F2 H2 e2 B2 p q vs n0 nf nb h1 r => p q vs (e1.none_of nb n0) nf nb h1 r⟩
end
def rIfL : RuleL := fun r S e => match e with
  | .IfExp t a c _ => (match r.l S a, r.l S c with
    | some da, some dc => some (fIf (r.t S t) da dc)
    | _, _ => none)
  | _ => none
theorem rIfL_ok : rIfL.Ok := fun r R X S h e d q => by
  unfold rIfL at q
  split at q
  · split at q
    · rename_i da dc h1 h2
      cases q
      exact sf_if (R.t h _) (R.l h _ _ h1) (R.l h _ _ h2)
    · cases q
  · cases q
end PF

set_option Elab.async false
set_option linter.all false
set_option maxRecDepth 100000
set_option maxHeartbeats 2000000
/-! PF57: sorted({k: v for ..}), the keys tuples of ints. -/
namespace PF
open PySem PySem.Spec PyProof.Rows L2

/-! ### sorted of it -/
section
variable [TabT] {X : Cx}
theorem ref_vals : ∀ xs : List En, Vals (xs.map fun x => V.ref x.2.1) (xs.map fun x => Value.ref x.2.1)
  | [] => .nil
  | x :: xs => .cons rfl (ref_vals xs)
def rSrtE (X : Cx) : V → Hp → VK → Prop := fun v H Q => ∃ (a : Addr) (xs : List En) (nss : List (List Int)), v = V.ref a ∧ H a = some (entsO a xs) ∧ xs.length = nss.length ∧ DpAll X.K H (xs.map fun x => V.ref x.2.1) (nss.map tupI) ∧ (∀ ns ∈ nss, ns ≠ []) ∧
  ∀ (cs : List (V × List Int)) (p : Addr), cs.Perm ((xs.map fun x => V.ref x.2.1).zip nss) → cs.map (·.2) = isortL nss → H p = none → Q (.ref p) (upd H p (.lst (cs.map (·.1))))
theorem sort_ents (hc : X.calm = true) (hu : X.A.units + 64 < cLine) {pins : List (Addr × Obj)} {σ : L2.St} {H : Hp} {s : Shared} {v : V} {u : Value} {Q : VK} (I : Inv X pins σ H s) (r : RelV v u) (h : rSrtE X v H Q) :
    wpAny (model X.prog X.w) X.A (call (.builtin "sorted") [u]) (fun z s' => ∃ v' H', Inv X pins σ H' s' ∧ RelV v' z ∧ Q v' H') X.xe s := by
  obtain ⟨a, xs, nss, rfl, hD, hlen, hd, hne, q⟩ := h
  cases r
  obtain ⟨⟨lo, z, o, es, ep, e1, e2, e3, e4, e5⟩, _⟩ := (show ObjOk X.prog X.w H s.heap a (entsO a xs) from I.hok a _ hD)
  have hes : es.size = xs.length := by
    have := congrArg List.length e4
    rw [List.length_map] at this
    simpa using this
  have hraw : s.heap.DictRaw a es ep := ⟨o, e1, e2, e3⟩
  refine Calls.call_function_entry PyProof.Rows.kind_sorted PyProof.Rows.plain_sorted PyProof.Rows.entry_sorted
    (PyProof.Rows.args_sorted1 _) ?_
  unfold Builtin.«sorted»
  refine wpAny_bind (m := checkCount "sorted" 1 1 _) (wpAny_pure ?w1)
  refine wpAny_bind (PySem.W.kdu_collect (A := X.A.in1) (KdlSrc.rawDict lo) (I.ok.hd hc) hraw (by omega) fun h' tk acc hk hacc => ?w2)
  generalize hits : acc.toList = its
  have eits : its = xs.map fun x => Value.ref x.2.1 := by
    refine List.ext_getElem? fun j => ?_
    have hsz : acc.size = es.size := hacc.1
    by_cases hj : j < es.size
    · have hja : j < acc.size := by omega
      obtain ⟨hi, ev⟩ := hacc.2 j acc[j] (Array.getElem?_eq_getElem hja)
      have ee : es.toList[j]? = (xs.map ent0)[j]? := by rw [e4]
      have hjx : j < xs.length := by omega
      rw [Array.getElem?_toList, Array.getElem?_eq_getElem hj, List.getElem?_map, List.getElem?_eq_getElem hjx] at ee
      have ee2 : es[j] = ent0 xs[j] := Option.some.inj ee
      rw [← hits, Array.getElem?_toList, Array.getElem?_eq_getElem hja, ev, ee2, List.getElem?_map, List.getElem?_eq_getElem hjx]
      rfl
    · rw [← hits, Array.getElem?_toList, Array.getElem?_eq_none (by omega), List.getElem?_eq_none (by rw [List.length_map]; omega)]
  have hzl : its.length ≤ sizeLine := by rw [eits, List.length_map]; exact z
  have rv : Vals (xs.map fun x => V.ref x.2.1) its := by rw [eits]; exact ref_vals xs
  have I1 : Inv X pins σ H { s with heap := h', toks := tk } := I.kept hk
  obtain ⟨as, hr⟩ := Dp.readsAll I1 _ _ its hd rv
  obtain ⟨g1, g2⟩ := zip_each rv (by simpa using hr)
  refine wpAny_bind (wpAny_newList ?w3 hzl)
  have hoL : (h'.push (seqObj "list" its.toArray 0)).get? h'.objs.size = some (seqObj "list" its.toArray 0) := Heap.get?_push_size _ rfl
  generalize hh1 : h'.push (seqObj "list" its.toArray 0) = h1 at hoL
  have k1 : ∀ b o, h'.get? b = some o → h1.get? b = some o := fun b o e => by rw [← hh1]; exact Heap.get?_push_of_some _ e
  have hs1 : h1.objs.size = h'.objs.size + 1 := by rw [← hh1]; exact size_push' ..
  have ksort : ∀ b o, h'.get? b = some o → (PySem.W.sortingHeap h1 h'.objs.size its).get? b = some o := fun b o e =>
    PySem.W.sortingHeap_old (Nat.ne_of_lt (Heap.lt_size e)) (k1 b o e)
  have g3 : PySem.W.EachIs (fun v (q : V × List Int) => ∃ as, Reads (PySem.W.sortingHeap h1 h'.objs.size its) v (tupI q.2) as) its ((xs.map fun x => V.ref x.2.1).zip nss) :=
    g2.mono fun _ _ ⟨as, r⟩ => ⟨as, PyProof.Rows.Reads.keeps ksort r⟩
  have hal : PySem.W.AllAlike (((xs.map fun x => V.ref x.2.1).zip nss).map fun q => tupI q.2) := PySem.W.AllAlike.of fun b b' => by
    show PySem.W.alike (.tuple (b.2.map .int)) (.tuple (b'.2.map .int)) = true
    rw [PySem.W.alike]
    exact PySem.W.alike_ints _ _
  have hk2 : PySem.W.Sortable (((xs.map fun x => V.ref x.2.1).zip nss).map fun q => tupI q.2) := .inl fun d hd => by
    obtain ⟨q, hq, rfl⟩ := List.mem_map.mp hd
    have := hne _ (List.of_mem_zip hq).2
    cases hq2 : q.2 with
    | nil => exact absurd hq2 this
    | cons n r => exact ⟨.int n, r.map .int, rfl⟩
  have hS : PySem.W.SortsAt X.prog X.w X.A.in1.in1 { s with heap := PySem.W.sortingHeap h1 h'.objs.size its, toks := tk } (PySem.W.dataKind (PySem.W.sortingHeap h1 h'.objs.size its) (((xs.map fun x => V.ref x.2.1).zip nss).map fun q => tupI q.2)) its := by
    refine PySem.W.SortsAt.data (PySem.W.each_map (R := fun v d => ∃ as, Reads (PySem.W.sortingHeap h1 h'.objs.size its) v d as) (fun q : V × List Int => tupI q.2) g3) hal hk2 fun d hd => ?_
    obtain ⟨b, _, rfl⟩ := List.mem_map.mp hd
    have e : (tupI b.2).depth = 1 := by
      show PyData.depth (.tuple (b.2.map .int)) = 1
      rw [PyData.depth, PySem.W.depth_ints]
    rw [e]
    show X.A.units + 1 + 1 + 1 < cLine
    omega
  show wpAny _ _ _ _ _ ({ s with heap := h1, toks := tk } : Shared)
  refine wpAny_bind (wpAny_holding (wpAny_call_entry PyProof.Rows.slot_list_sort ⟨_, hoL, rfl⟩ PyProof.Rows.entry_list_sort
    (PySem.W.list_sort_vals (s := { s with heap := h1, toks := tk }) hoL hS hzl ⟨_, rfl, ?w4⟩) (PyProof.Rows.args_list_sort _)))
  have ho := PySem.W.sortVals_data (enc := fun q : V × List Int => tupI q.2) false g1 g3 hal
  rw [dataLe_tup (fun q : V × List Int => q.2)] at ho
  have hp : ((((xs.map fun x => V.ref x.2.1).zip nss)).mergeSort fun p q => leL p.2 q.2).Perm ((xs.map fun x => V.ref x.2.1).zip nss) := List.mergeSort_perm _ _
  have hv := each_vals ho
  have es' : ((((xs.map fun x => V.ref x.2.1).zip nss)).mergeSort fun p q => leL p.2 q.2).map (·.2) = isortL nss := by
    refine isortL_one ((hp.map _).trans (by rw [List.map_snd_zip (by rw [List.length_map]; omega)])) (List.pairwise_map.mpr ?_)
    exact List.pairwise_mergeSort (fun (a b c : V × List Int) h k => leL_trans (a := a.2) (b := b.2) (c := c.2) h k) (fun (a b : V × List Int) => by simpa using leL_total a.2 b.2) _
  obtain ⟨ep2, he⟩ := PyProof.Rows.sortedHeap_at (vs := its) (out := (PySem.W.sortVals (PySem.W.dataKind (PySem.W.sortingHeap h1 h'.objs.size its) (((xs.map fun x => V.ref x.2.1).zip nss).map fun q => tupI q.2)) false its its).toArray) hoL
  have hln : (((((xs.map fun x => V.ref x.2.1).zip nss)).mergeSort fun p q => leL p.2 q.2).map (·.1)).length ≤ sizeLine := by
    rw [List.length_map, hp.length_eq, List.length_zip, List.length_map]
    omega
  refine wpAny_pure ⟨_, rfl, .ref h'.objs.size, upd H h'.objs.size (.lst _), I1.laid (t' := tk) (fun b u e => ?_) (Nat.le_refl _) ⟨hln, _, ep2, hv, he⟩, rfl, q _ _ hp es' (I1.hok.fresh (Nat.le_refl _))⟩
  have hb : b < h'.objs.size := Heap.lt_size e
  rw [PyProof.Rows.sortedHeap_old (Nat.ne_of_lt hb) (by rw [hs1]; exact Nat.lt_succ_of_lt hb)]
  exact k1 b u e
end

/-! ### {k: v for target in it if t}: the loop -/
section
variable [TabT]
/-- one more entry: what is asked behind the key and the value -/
def PutE (P : Program) (w : World) (K : PySem.W.Frag) (D : Addr) (y : V) (H : Hp) (Nx : Hp → Prop) : Prop := ∃ (xs : List En) (ns : List Int) (b : Addr), y = V.ref b ∧ SqT K H b (ns.map V.int) ∧ KeysOk K H xs ∧ H D = some (entsO D xs) ∧ xs.length < sizeLine ∧
  ∀ u, Nx (upd H D (entsO D (storedH xs (kInts ns) b u)))
/-- how the loop goes on -/
def TurnE (P : Program) (w : World) (K : PySem.W.Frag) (g : TG) (tt : TT) (tk tv : TE) (vs : List Nat) (σ : L2.St) (J : It) (D : Addr) (Q : VK) (W : Nat → Nat → Hp → Prop) : Prop := ∀ i m H, W i m H →
  (J.stop i H ∧ Q (.ref D) H) ∨ (J.go i H ∧ ∃ Nx : Hp → Prop, (∀ H', Nx H' → ∃ m', m' < m ∧ W (i + 1) m' H') ∧ ∀ x H', J.yld i H x H' → g x (wipe σ vs) H' fun σ2 H2 => wipe σ2 vs = wipe σ vs ∧ tt σ2 H2 fun b H3 =>
    if b = true then tk σ2 H3 fun y H4 => tv σ2 H4 fun _ H5 => PutE P w K D y H5 Nx else Nx H3)
def tDt (P : Program) (w : World) (K : PySem.W.Frag) (wi : TI) (g : TG) (tt : TT) (tk tv : TE) (vs : List Nat) : TE := fun σ H Q => wi σ H fun J H1 => ∀ D, H1 D = none → ∃ W : Nat → Nat → Hp → Prop, (∃ m, W 0 m (upd H1 D (entsO D []))) ∧ TurnE P w K g tt tk tv vs σ J D Q W
variable {X : Cx}
theorem pe_dt {kx vx tg iter : Expr} {ifs : List Expr} {scope : Scope} {own : List (Str × Nat)} {pos : Pos} {wi : TI} {g : TG} {tt : TT} {tk tv : TE} (hc : X.calm = true) (hN : X.N.Nodup) (hu : X.A.units < cLine) (hi : PI X tg iter wi) (ok : BlkOk X.N X.env.scope scope own)
    (hg : ∀ (s : Shared) (H : Hp) (L : Addr) (cl : List (Str × Addr)) (kept : List Addr), PG (X.blk s H scope (compEnvC scope cl L X.env) kept) tg g)
    (ht : ∀ (s : Shared) (H : Hp) (L : Addr) (cl : List (Str × Addr)) (kept : List Addr), PTs (X.blk s H scope (compEnvC scope cl L X.env) kept) ifs tt)
    (hk : ∀ (s : Shared) (H : Hp) (L : Addr) (cl : List (Str × Addr)) (kept : List Addr), PE (X.blk s H scope (compEnvC scope cl L X.env) kept) kx tk)
    (he : ∀ (s : Shared) (H : Hp) (L : Addr) (cl : List (Str × Addr)) (kept : List Addr), PE (X.blk s H scope (compEnvC scope cl L X.env) kept) vx tv) (hs : ∀ x, foldedSetIterable iter X.env x = pure x) :
    PE X (.DictComp kx vx [⟨tg, iter, ifs, 0⟩] scope pos) (tDt X.prog X.w X.K wi g tt tk tv (own.map (·.2))) := by
  refine ⟨fun pins s σ H Q I h => ?_⟩
  rw [arm_eval_DictComp]
  -- the free names of the block have cells
  have hcells : ∀ y ∈ scope.names, y.2 = .free → ∃ c, X.env.cells.lookup y.1 = some c := fun y hy e => (ok.free y hy e).elim (fun z => I.ok.has _ (.inl z)) (fun z => I.ok.has _ (.inr z))
  refine wpAny_comprehension_free rfl hs (closure_ok hcells) ok.kind
    (fun y hy e => by rw [ok.uniq y hy, e]) (thn (hi.run pins s σ H _ I h) fun xv s1 hx => thn hx fun itv s2 h2 => ?_)
  obtain ⟨it, kept, tn, J, H2, rfl, I2, T, stI, fI, q⟩ := h2
  refine wpAny_newObj_type (newEnv_comp ?_)
  generalize eD : s2.heap.objs.size = D
  have noD : H2 D = none := I2.hok.fresh (Nat.le_of_eq eD)
  obtain ⟨W, ⟨m0, w0⟩, turn⟩ := q D noD
  have neD : (D == sysModules) = false := by
    have := I2.big
    rw [eD] at this
    exact beq_eq_false_iff_ne.mpr (Nat.ne_of_gt this)
  -- the new dict
  generalize es3 : ({ s2 with heap := s2.heap.push { cls := .type "dict", data := .dict #[] } } : Shared) = s3
  have I3 : Inv X pins σ (upd H2 D (entsO D [])) s3 := by
    subst es3
    refine I2.laid (t' := s2.toks) (fun b o e => Heap.get?_push_of_some _ e) (Nat.le_of_eq eD) (entsO_ok ⟨neD, Nat.zero_le _, { cls := .type "dict", data := .dict #[] }, #[], 0, ?_, ⟨rfl, rfl, rfl⟩, rfl, rfl, .nil⟩)
    rw [← eD]; exact Heap.get?_push_size _ rfl
  have hp3 : s3.heap = s2.heap.push { cls := .type "dict", data := .dict #[] } := by rw [← es3]
  have old : ∀ b ∈ kept, b < s2.heap.objs.size := fun b hb => by
    obtain ⟨o, e, _⟩ := T.obj _ _ stI b hb
    exact Heap.lt_size e
  have fI3 : ∀ b ∈ kept, FpOk X pins (upd H2 D (entsO D [])) b ∧ b < s3.heap.objs.size := fun b hb => by
    have hlt := old b hb
    have ne : b ≠ D := by rw [← eD]; exact Nat.ne_of_lt hlt
    refine ⟨⟨by rw [upd_ne ne]; exact (fI b hb).1, (fI b hb).2⟩, ?_⟩
    rw [hp3, Heap.size_push]; exact Nat.lt_succ_of_lt hlt
  have stI3 : tn 0 s3.heap := T.keep _ _ _ stI fun b _ o e => by rw [hp3]; exact Heap.get?_push_of_some _ e
  have I4 := block_start I3 ok hN fI3
  have eg := hg s3 (upd H2 D (entsO D [])) s3.heap.objs.size (cellsFrom (s3.heap.objs.size + 1) scope.names (cloFrom X.env.cells scope.names [])) kept
  have et := ht s3 (upd H2 D (entsO D [])) s3.heap.objs.size (cellsFrom (s3.heap.objs.size + 1) scope.names (cloFrom X.env.cells scope.names [])) kept
  have ek := hk s3 (upd H2 D (entsO D [])) s3.heap.objs.size (cellsFrom (s3.heap.objs.size + 1) scope.names (cloFrom X.env.cells scope.names [])) kept
  have ev := he s3 (upd H2 D (entsO D [])) s3.heap.objs.size (cellsFrom (s3.heap.objs.size + 1) scope.names (cloFrom X.env.cells scope.names [])) kept
  -- what the block's end asks
  generalize eR : compPost (model X.prog X.w) X.A X.xe none (EP X pins σ Q) (.ref D) s3.heap.objs.size = R
  have toR : ∀ s' m H', Inv X pins σ H' s' → Q (.ref D) H' → s'.heap.Ns s3.heap.objs.size m → FpOk X pins H' s3.heap.objs.size → R (.ok .next) s' := fun s' m H' I' q' hn f => by
    rw [← eR]
    refine ⟨m, hn, fun h'' sb => ?_⟩
    obtain ⟨f0, f1, f2, f3, f4, f5⟩ := f
    exact ⟨.ref D, H', I'.turned (t' := s'.toks) (fun b o hb e => (sb.2 b hb).trans e) f0 f1 f3 f4 f5, rfl, q'⟩
  show codeAny _ _ (.compStart (.DictComp kx vx [⟨tg, iter, ifs, 0⟩] scope pos) 0 (.ref it) (.ref D)
    (compEnvC scope (cellsFrom (s3.heap.objs.size + 1) scope.names (cloFrom X.env.cells scope.names [])) s3.heap.objs.size X.env)) (compPost (model X.prog X.w) X.A X.xe none (EP X pins σ Q) (.ref D) s3.heap.objs.size) { s3 with heap := pushCells (s3.heap.push { cls := .type "dict", data := .dict #[] }) scope.names }
  rw [eR]
  have noK : ∀ b ∈ kept, (upd H2 D (entsO D [])) b = none := fun b hb => (fI3 b hb).1.1
  generalize eC : compEnvC scope (cellsFrom (s3.heap.objs.size + 1) scope.names (cloFrom X.env.cells scope.names [])) s3.heap.objs.size X.env = ce at I4 eg et ek ev ⊢
  have ceL : ce.locals = s3.heap.objs.size := by subst eC; rfl
  generalize eH : upd H2 D (entsO D []) = H3 at I3 I4 eg et ek ev w0 noK fI3
  generalize es4 : ({ s3 with heap := pushCells (s3.heap.push { cls := .type "dict", data := .dict #[] }) scope.names } : Shared) = s4 at I4 ⊢
  have stI4 : tn 0 s4.heap := T.keep _ _ _ stI3 fun b _ o e => by rw [← es4]; exact pushCells_keeps _ _ _ _ (Heap.get?_push_of_some _ e)
  have fpB : ∀ {σ' : L2.St} {H' : Hp} {s' : Shared}, Inv (X.blk s3 H3 scope ce kept) [] σ' H' s' → (∀ b ∈ kept, H' b = none) → ∀ b ∈ kept, FpOk (X.blk s3 H3 scope ce kept) [] H' b := fun {σ' H' s'} I' no b hb => by
    obtain ⟨z1, z2⟩ := I'.ok.exf b hb
    exact ⟨no b hb, z1, I'.ok.exfs b hb, .inl hb, fun x c e => z2 x c e, fun p hp => by cases (show p ∈ ([] : List (Addr × Obj)) ++ [] from hp)⟩
  have loop : codeAny (model X.prog X.w) X.A (.compLoop (.DictComp kx vx [⟨tg, iter, ifs, 0⟩] scope pos) 0 (.ref it) (.ref D) ce) R s4 := by
    refine compLoop_anyD (fun n s' => ∃ i H', Inv (X.blk s3 H3 scope ce kept) [] (wipe σ (own.map (·.2))) H' s' ∧
      tn i s'.heap ∧ (∀ b ∈ kept, H' b = none) ∧ W i n H') ?_ m0 ⟨0, H3, I4, stI4, noK, w0⟩
    rintro n s5 ⟨i, H5, I5, st5, n5, w5⟩
    rcases turn i n H5 w5 with ⟨stop, qq⟩ | ⟨go, Nx, hNx, step⟩
    · refine thnF (T.done (X.blk s3 H3 scope ce kept) rfl rfl rfl hc i [] s5 _ H5 (fun _ _ => False) I5 (fpB I5 n5) st5 stop) fun r s6 ⟨hr, I6⟩ => ?_
      subst hr
      have I7 : Inv X pins σ H5 s6 := I3.call' (ch := kept) I6.os I6.base I6.hok I6.bare fun b hb => by
        obtain ⟨_, a1, a2, a3, a4, a5⟩ := (fI3 b hb).1
        exact ⟨a3, a1, a4, a5⟩
      have nL : H5 s3.heap.objs.size = none := ceL ▸ (show H5 ce.locals = none from I6.free)
      obtain ⟨m, hn, _⟩ := I6.loc
      have hn2 : s6.heap.Ns s3.heap.objs.size m := ceL ▸ (show s6.heap.Ns ce.locals m from hn)
      exact toR s6 m H5 I7 qq hn2 (I3.fpOk (Nat.le_refl _) nL)
    · refine thnF (T.item (X.blk s3 H3 scope ce kept) rfl rfl rfl hc i [] s5 _ H5 (fun _ _ => False) I5 (fpB I5 n5) st5 go) fun r s6 ⟨u, hr, h6⟩ => ?_
      subst hr
      refine thnF h6 fun _ s7 ⟨x, H7, I7, r7, y7, st7, n7⟩ => ?_
      refine thnF (eg.run _ s7 _ H7 x u _ (I7.pinned (fpB I7 n7) (T.obj _ _ st7)) r7 (step x H7 y7)) fun _ s8 ⟨σ8, H8, I8, hw8, q8⟩ => ?_
      refine thnF (et.run _ s8 σ8 H8 _ I8 q8) fun b s9 ⟨H9, I9, q9⟩ => ?_
      have fin : ∀ {s' : Shared} {H' : Hp}, Inv (X.blk s3 H3 scope ce kept) ([] ++ pinsAt kept s7.heap) σ8 H' s' → Nx H' → ∃ m, m < n ∧ ∃ i H', Inv (X.blk s3 H3 scope ce kept) [] (wipe σ (own.map (·.2))) H' s' ∧ tn i s'.heap ∧ (∀ b ∈ kept, H' b = none) ∧ W i m H' := by
        intro s' H' I' nx
        obtain ⟨m', lt', w'⟩ := hNx H' nx
        have held : ∀ b ∈ kept, ∀ o, s7.heap.get? b = some o → s'.heap.get? b = some o ∧ H' b = none := fun b hb o e => by
          have z := I'.pin (b, o) (List.mem_append_right _ (List.mem_append_right _ (mem_pinsAt hb e)))
          exact ⟨z.1, z.2.1⟩
        have sameLen : (wipe σ (own.map (·.2))).length = σ8.length := by rw [← hw8, wipe_length]
        refine ⟨m', lt', i + 1, H', (I'.unpinned (pins := [])).weak sameLen ?_, T.keep _ _ _ st7 fun b hb o e => (held b hb o e).1, ?_, w'⟩
        · intro j v e
          rw [← hw8] at e
          exact (wipe_some e).1
        · intro b hb
          obtain ⟨o, e, _⟩ := T.obj _ _ st7 b hb
          exact (held b hb o e).2
      cases b with
      | false =>
        simp only [Bool.false_eq_true, if_false] at q9 ⊢
        exact fin I9 q9
      | true =>
        simp only [if_true] at q9 ⊢
        refine thnF (ek.run _ s9 σ8 H9 _ I9 q9) fun z s10 ⟨yk, H10, I10, r10, q10⟩ => ?_
        refine thnF (ev.run _ s10 σ8 H10 _ I10 q10) fun z2 s11 ⟨yv, H11, I11, r11, xs, ns, b, ek2, hb, hks, hD11, hz11, nx⟩ => ?_
        subst ek2
        cases r10
        exact ents_put (X := X.blk s3 H3 scope ce kept) hu I11 hD11 hks hb hz11 fun s12 I12 => fin I12 (nx _)
  exact codeAny_compStart_dict loop (T.self X.A 0 _ _ _ stI4 loop)
end

section
variable [TabT]
theorem tabE_ents {H : Hp} {D : Addr} {xs ys : List En} (h : H D = some (entsO D xs)) : TabE H (L2.upd H D (entsO D ys)) := by
  refine ⟨fun p' _ ⟨ps, e, h1, h2⟩ => ⟨ps, ?_, h1, fun pos cv hc => ?_⟩⟩
  · rw [upd_ne fun z => ?_]
    · exact e
    · rw [z, h] at e
      exact nt_ents ps (Option.some.inj e)
  · obtain ⟨c, ec, hc'⟩ := h2 pos cv hc
    refine ⟨c, ec, ?_⟩
    rw [upd_ne fun z => ?_]
    · exact hc'
    · rw [z, h] at hc'
      exact entsO_ne (Option.some.inj hc')
theorem StR.otherE {K : PySem.W.Frag} {b : Option Addr} {F : Addr → Prop} {H : Hp} {ow : Nat → Option Addr} {σ : L2.St} {ρ : Env} {g : List Int} {a : Addr} {o : HO} (S : StR K b F H ow σ ρ g) (nf : ¬ F a) (nb : b ≠ some a) (no : ∀ i, ow i ≠ some a) (m : Mono F H F (upd H a o)) (tE : TabE H (upd H a o)) :
    StR K b F (upd H a o) ow σ ρ g := by
  have other : ∀ c, c ≠ a → upd H a o c = H c := fun c h => upd_ne h
  refine { wf := fun c f => ?_, bag := fun c e => ?_, len := S.len, slot := fun j s' hj => ?_, inj := S.inj, nb := S.nb, oat := fun j c h => ?_, tabs := S.tabs.ext tE }
  · obtain ⟨o', q⟩ := S.wf c f
    exact ⟨o', by rw [other c fun e => nf (e ▸ f)]; exact q⟩
  · obtain ⟨q, n⟩ := S.bag c e
    exact ⟨by rw [other c fun (z : c = a) => nb (e.trans (by rw [z]))]; exact q, n⟩
  · have q := S.slot j s' hj
    cases s' with
    | val d => obtain ⟨v, e1, r⟩ := q; exact ⟨v, e1, r.up m⟩
    | own ds => obtain ⟨c, vs, e0, e1, nf', h1, r⟩ := q; exact ⟨c, vs, e0, e1, nf', by rw [other c fun (z : c = a) => no j (by rw [← z]; exact e0)]; exact h1, r.up m⟩
    | ownd ds => obtain ⟨c, vs, e0, e1, nf', h1, r⟩ := q; exact ⟨c, vs, e0, e1, nf', by rw [other c fun (z : c = a) => no j (by rw [← z]; exact e0)]; exact h1, r.up m⟩
    | bag => exact q
  · obtain ⟨o', q⟩ := S.oat j c h
    exact ⟨o', by rw [other c fun (z : c = a) => no j (by rw [← z]; exact h)]; exact q⟩
end

/-! ### by data -/
section
variable [TabT]
def eqL : List Int → List Int → Bool
  | [], [] => true
  | a :: r, b :: q => if a = b then eqL r q else false
  | _, _ => false
theorem eqL_iff : ∀ a b : List Int, eqL a b = true ↔ a = b
  | [], [] => by simp [eqL]
  | [], _ :: _ => by simp [eqL]
  | _ :: _, [] => by simp [eqL]
  | a :: r, b :: q => by
    unfold eqL
    by_cases h : a = b
    · rw [if_pos h, eqL_iff r q]; simp [h]
    · rw [if_neg h]; simp [h]
def memL (k : List Int) : List (List Int) → Bool
  | [] => false
  | a :: r => if eqL a k = true then true else memL k r
theorem memL_iff (k : List Int) : ∀ l, memL k l = true ↔ k ∈ l
  | [] => by simp [memL]
  | a :: r => by
    unfold memL
    by_cases h : eqL a k = true
    · rw [if_pos h]; simp [(eqL_iff _ _).mp h]
    · rw [if_neg h, memL_iff k r, List.mem_cons]
      exact ⟨.inr, fun z => z.elim (fun e => absurd ((eqL_iff _ _).mpr e.symm) h) id⟩
def addK (acc : List (List Int)) (k : List Int) : List (List Int) := if memL k acc = true then acc else acc ++ [k]
def tupK : D → Option (List Int)
  | .tuple xs => (match intsD xs with
    | some (n :: ns) => some (n :: ns)
    | _ => none)
  | _ => none
theorem tupK_eq {y : D} {ns : List Int} (h : tupK y = some ns) : y = tupI ns ∧ ns ≠ [] := by
  cases y <;> first | (cases h; done) | skip
  rename_i xs
  have h : (match intsD xs with | some (n :: ns) => some (n :: ns) | _ => none) = some ns := h
  split at h
  · rename_i n ns' h1
    cases h
    exact ⟨by rw [tupI, ← ints_eq h1], List.cons_ne_nil _ _⟩
  · cases h
def tLoop (tg : Tgt) (t : Env → M Bool) (kx vx : Env → M D) (ρ : Env) : List D → List (List Int) → M (List (List Int))
  | [], acc => fun g => .ok acc g
  | x :: xs, acc => fun g => match tg.put x ρ with
    | some ρ1 => (calmR (t ρ1 g)).bind fun k g1 => if k = true then (calmR (kx ρ1 g1)).bind fun y g2 => (calmR (vx ρ1 g2)).bind fun _ g3 => (match tupK y with
      | some ns => tLoop tg t kx vx ρ xs (addK acc ns) g3
      | none => .fail) else tLoop tg t kx vx ρ xs acc g1
    | none => .fail
/-- the keys of the dict, sorted -/
def fSortK (tg : Tgt) (vs : List Nat) (it : Env → M (List D)) (t : Env → M Bool) (kx vx : Env → M D) : Env → M D := fun ρ g => (it ρ g).bind fun xs g1 => if xs.length ≤ sizeLine then (tLoop tg t kx vx (wipeE ρ vs) xs [] g1).bind fun nss g2 => .ok (.list ((isortL nss).map tupI)) g2 else .fail
/-- the entries stand for these keys -/
structure EntK (K : PySem.W.Frag) (F : Addr → Prop) (H : Hp) (xs : List En) (nss : List (List Int)) : Prop where
  keys : xs.map (·.1) = nss.map kInts
  rep : RepAll K F H (xs.map fun x => V.ref x.2.1) (nss.map tupI)
section
variable {K : PySem.W.Frag} {F : Addr → Prop} {H : Hp}
theorem atKey_isSome {xs : List En} {k : List L2.Key} : (atKey xs k).isSome = true ↔ k ∈ xs.map (·.1) := by
  unfold atKey
  rw [Option.isSome_map, List.find?_isSome]
  constructor
  · rintro ⟨x, hx, e⟩
    exact List.mem_map.mpr ⟨x, hx, by simpa using e⟩
  · intro h
    obtain ⟨x, hx, e⟩ := List.mem_map.mp h
    exact ⟨x, hx, by simpa using e⟩
theorem map_putAt {β : Type} (f : En → β) (k : List L2.Key) (u : Value) (hf : ∀ x, f (putAt k u x) = f x) (xs : List En) : (xs.map (putAt k u)).map f = xs.map f := by
  rw [List.map_map]
  exact List.map_congr_left fun x _ => hf x
theorem EntK.put {xs : List En} {nss : List (List Int)} {ns : List Int} {b : Addr} {u : Value} (h : EntK K F H xs nss) (r : Rep K F H (.ref b) (tupI ns)) : EntK K F H (storedH xs (kInts ns) b u) (addK nss ns) := by
  have hm : (atKey xs (kInts ns)).isSome = true ↔ memL ns nss = true := by
    rw [atKey_isSome, h.keys, memL_iff, List.mem_map]
    exact ⟨fun ⟨a, ha, e⟩ => kInts_inj e ▸ ha, fun z => ⟨ns, z, rfl⟩⟩
  unfold storedH addK
  by_cases q : memL ns nss = true
  · rw [if_pos q, if_pos (hm.mpr q)]
    refine ⟨?_, ?_⟩
    · rw [map_putAt (·.1) _ _ fun x => by unfold putAt; split <;> rfl]; exact h.keys
    · rw [map_putAt (fun x => V.ref x.2.1) _ _ fun x => by unfold putAt; split <;> rfl]; exact h.rep
  · rw [if_neg q, if_neg fun z => q (hm.mp z)]
    refine ⟨by rw [List.map_append, List.map_append, h.keys]; rfl, ?_⟩
    rw [List.map_append, List.map_append]
    exact h.rep.append (.cons r .nil)
theorem EntK.up {F' : Addr → Prop} {H' : Hp} {xs : List En} {nss : List (List Int)} (h : EntK K F H xs nss) (m : Mono F H F' H') : EntK K F' H' xs nss := ⟨h.keys, h.rep.up m⟩
theorem rep_tupI {b : Addr} {ns : List Int} (r : Rep K F H (.ref b) (tupI ns)) : SqT K H b (ns.map V.int) := by
  obtain ⟨a, vs, e, q, r2⟩ := r.tuple
  cases e
  rw [← r2.ints]
  exact q
theorem EntK.len {xs : List En} {nss : List (List Int)} (h : EntK K F H xs nss) : xs.length = nss.length := by
  have := congrArg List.length h.keys
  rwa [List.length_map, List.length_map] at this
theorem keysOk_of : ∀ {xs : List En} {nss : List (List Int)}, xs.map (·.1) = nss.map kInts → RepAll K F H (xs.map fun x => V.ref x.2.1) (nss.map tupI) → KeysOk K H xs
  | [], _, _, _ => fun x m => by cases m
  | x :: xs, [], e, _ => by cases e
  | x :: xs, ns :: nss, e, r => by
    cases r with
    | cons r1 r2 =>
      have e1 := (List.cons.inj e).1
      have e2 := (List.cons.inj e).2
      intro y m
      rcases List.mem_cons.mp m with rfl | m
      · exact ⟨ns, e1, rep_tupI r1⟩
      · exact keysOk_of e2 r2 y m
end
end


/-! ### the loop by data -/
section
variable [TabT] {X : Cx} {ct : Nat → ClsInfo} {W : WX} {pos : Pos}
theorem st_read {P : Program} {w : World} {K : PySem.W.Frag} {b : Option Addr} {Fs : Addr → Prop} {Hs : Hp} {F1 : Addr → Prop} {H1 : Hp} {ow : Nat → Option Addr} {σ : L2.St} {ρ : Env} {g1 : List Int} {Dl : Addr} {vs : List Nat} {tg : Tgt} {t : Env → M Bool} {kx vx : Env → M D} {xs : List D} {J : It} {Q : VK} {WK' : WK} {PP : List (List Int) → List Int → (Addr → Prop) → Hp → Prop}
    (hix : ∀ i ∈ tg.idx, i ∈ vs) (S1 : StR K b F1 H1 ow σ ρ g1) (e1 : Ext b Fs Hs F1 H1) (hJ : Walks K J F1 H1 xs) (hD : H1 Dl = none) (hz : xs.length ≤ sizeLine)
    (o : Out K ct b Fs Hs WK' PP (tLoop tg t kx vx (wipeE ρ vs) xs [] g1))
    (fin : ∀ nss g F H en, PP nss g F H → Ext b Fs Hs F H → StR K b F H ow σ ρ g → H Dl = some (entsO Dl en) → EntK K F H en nss → (∀ ns ∈ nss, ns ≠ []) → en.length ≤ sizeLine → Q (.ref Dl) H) :
    ∃ Wi : Nat → Nat → Hp → Prop, (∃ m, Wi 0 m (upd H1 Dl (entsO Dl []))) ∧ TurnE P w K (gtOf K tg) (rdT K ct noW t) (rdE K ct noW kx) (rdE K ct noW vx) vs σ J Dl Q Wi := by
  have hDs : Nn Hs Dl := e1.none_of (S1.neNew hD) (nn_of hD)
  have nbD : b ≠ some Dl := S1.neNew hD
  let Wi : Nat → Nat → Hp → Prop := fun i m H => ∃ F g en nss, StR K b F H ow σ ρ g ∧ Ext b Fs Hs F H ∧ Mono F1 H1 F H ∧ ¬ F Dl ∧ H Dl = some (entsO Dl en) ∧ EntK K F H en nss ∧ (∀ ns ∈ nss, ns ≠ []) ∧ en.length ≤ i ∧ m = xs.length - i ∧ i ≤ xs.length ∧
    Out K ct b Fs Hs WK' PP (tLoop tg t kx vx (wipeE ρ vs) (xs.drop i) nss g)
  refine ⟨Wi, ⟨xs.length, ?_⟩, ?_⟩
  · have e2 := Ext.new (o := entsO Dl []) S1.toBg hD nt_ents
    have nf : ¬ F1 Dl := fun f => by
      obtain ⟨o', q, _⟩ := S1.wf Dl f
      rw [hD] at q; cases q
    exact ⟨F1, g1, [], [], S1.up e2 (S1.toBg.new hD nt_ents), e1.trans e2, e2.up S1.toBg, nf, upd_same, ⟨rfl, .nil⟩, (fun _ m => nomatch m), Nat.le_refl _, rfl, Nat.zero_le _, o⟩
  · rintro i m H ⟨F, g, en, nss, S, eS, mo, nf, hDl, ek, hne, hal, rfl, hi, oo⟩
    obtain ⟨w1, w2⟩ := hJ i b g F H mo S.toBg
    by_cases hlt : i < xs.length
    · have hget : xs[i]? = some xs[i] := List.getElem?_eq_getElem hlt
      obtain ⟨hgo, hy⟩ := w1 _ hget
      rw [List.drop_eq_getElem_cons hlt] at oo
      unfold tLoop at oo
      cases hx : tg.put xs[i] (wipeE ρ vs) with
      | none => rw [hx] at oo; exact oo.elim
      | some ρ1 =>
        rw [hx] at oo
        refine .inr ⟨hgo, Wi (i + 1) (xs.length - (i + 1)), fun H' hN => ⟨_, by omega, hN⟩, fun v H' hv => ?_⟩
        obtain ⟨e2, B2, rv⟩ := hy v H' hv
        have S2 := S.up e2 B2
        have Sw : StR K b F H' ow (wipe σ vs) (wipeE ρ vs) g := S2.wipe vs
        refine gt_read Sw rv hx fun σ2 ow2 S3 hs3 hw3 => ?_
        have hwz : wipe σ2 vs = wipe σ vs := (hw3 vs hix).trans wipe_wipe
        refine ⟨hwz, b, F, ow2, ρ1, g, S3, ?_⟩
        have oT := (Out.bind0 oo)
        have oT2 : Out K ct b F H' (fun c dx H' => noW c dx σ2 H') _ (t ρ1 g) := Out.calm (Out.shift oT (eS.trans e2))
        refine oT2.imp fun k g3 F3 H3 e3 B3 o3 => ?_
        have S4 := S3.up e3 B3
        have eS3 := (eS.trans e2).trans e3
        have hD2 : H' Dl = some (entsO Dl en) := e2.keep0 Dl _ hDl nbD nt_ents
        have nf3 : ¬ F3 Dl := fun f => by
          rcases e3.fresh Dl f with z | z
          · exact nf z
          · exact z _ hD2 nt_ents
        have hD3 : H3 Dl = some (entsO Dl en) := e3.keep0 Dl _ hD2 nbD nt_ents
        have ek3 := (ek.up (e2.up S.toBg)).up (e3.up B2)
        have mo3 := (mo.trans (e2.up S.toBg)).trans (e3.up B2)
        cases k with
        | false => exact ⟨F3, g3, en, nss, (S2.up e3 B3), eS3, mo3, nf3, hD3, ek3, hne, by omega, rfl, hlt, o3⟩
        | true =>
          have o3 : Out K ct b Fs Hs WK' PP ((calmR (kx ρ1 g3)).bind fun y g2 => (calmR (vx ρ1 g2)).bind fun _ g4 => (match tupK y with
            | some ns => tLoop tg t kx vx (wipeE ρ vs) (xs.drop (i + 1)) (addK nss ns) g4
            | none => .fail)) := o3
          refine ⟨b, F3, ow2, ρ1, g3, S4, ?_⟩
          have oE : Out K ct b F3 H3 (fun c dx H' => noW c dx σ2 H') _ (kx ρ1 g3) := Out.calm (Out.shift (Out.bind0 o3) eS3)
          refine oE.imp fun y g4 F4 H4 e4 B4 o4 v4 r4 => ?_
          have S6 := S4.up e4 B4
          have eS4 := eS3.trans e4
          refine ⟨b, F4, ow2, ρ1, g4, S6, ?_⟩
          have oV : Out K ct b F4 H4 (fun c dx H' => noW c dx σ2 H') _ (vx ρ1 g4) := Out.calm (Out.shift (Out.bind0 o4) eS4)
          refine oV.imp fun z g5 F5 H5 e5 B5 o5 v5 r5 => ?_
          have hD4 : H4 Dl = some (entsO Dl en) := e4.keep0 Dl _ hD3 nbD nt_ents
          have hD5 : H5 Dl = some (entsO Dl en) := e5.keep0 Dl _ hD4 nbD nt_ents
          have nf4 : ¬ F4 Dl := fun f => by
            rcases e4.fresh Dl f with z | z
            · exact nf3 z
            · exact z _ hD3 nt_ents
          have nf5 : ¬ F5 Dl := fun f => by
            rcases e5.fresh Dl f with z | z
            · exact nf4 z
            · exact z _ hD4 nt_ents
          have eS5 := eS4.trans e5
          cases hk : tupK y with
          | none => rw [hk] at o5; exact o5.elim
          | some ns =>
            rw [hk] at o5
            obtain ⟨rfl, hn0⟩ := tupK_eq hk
            have r4' : Rep K F4 H4 v4 (.tuple (ns.map .int)) := r4
            obtain ⟨a4, vs4, rfl, q4, _⟩ := r4'.tuple
            have r5' : Rep K F5 H5 (.ref a4) (tupI ns) := r4.up (e5.up B4)
            have ek5 := (ek3.up (e4.up B3)).up (e5.up B4)
            refine ⟨en, ns, a4, rfl, rep_tupI r5', keysOk_of ek5.keys ek5.rep, hD5, by omega, fun u => ?_⟩
            have hne5 : ∀ c, F5 c → c ≠ Dl := fun c f z => nf5 (z ▸ f)
            have tE : TabE H5 (upd H5 Dl (entsO Dl (storedH en (kInts ns) a4 u))) := tabE_ents hD5
            have notT : ∀ vs, H5 Dl ≠ some (.tup vs) := fun vs q => by rw [hD5] at q; unfold entsO at q; cases q
            have notZ : ∀ o u, H5 Dl ≠ some (.frz o u) := fun o u q => by rw [hD5] at q; unfold entsO at q; cases q
            have m6 : Mono F5 H5 F5 (upd H5 Dl (entsO Dl (storedH en (kInts ns) a4 u))) := by
              refine ⟨fun _ f => f, fun c u f h => ?_, fun c ws h => ?_, fun c _ _ f h => by rw [upd_ne (hne5 c f)]; exact h⟩
              · rcases h with h | ⟨o', h⟩
                · exact .inl (by rw [upd_ne (hne5 c f)]; exact h)
                · exact .inr ⟨o', by rw [upd_ne (hne5 c f)]; exact h⟩
              · rcases h with h | ⟨o', h⟩
                · exact .inl (by rw [upd_ne (fun (z : c = Dl) => notT _ (z ▸ h))]; exact h)
                · exact .inr ⟨o', by rw [upd_ne (fun (z : c = Dl) => notZ _ _ (z ▸ h))]; exact h⟩
            have eS6 : Ext b Fs Hs F5 (upd H5 Dl (entsO Dl (storedH en (kInts ns) a4 u))) := by
              refine ⟨eS5.mono, eS5.fresh, fun c u h n nu => ?_, fun c f => ?_, fun c z => ?_, eS5.tb.trans tE⟩
              · rw [upd_ne (nn_ne h nu hDs)]; exact eS5.keep0 c u h n nu
              · obtain ⟨o', q⟩ := eS5.wf c f
                exact ⟨o', by rw [upd_ne (hne5 c f)]; exact q⟩
              · obtain ⟨n, ws, q⟩ := eS5.bag c z
                exact ⟨n, ws, by rw [upd_ne (fun (q : c = Dl) => nbD (z.trans (by rw [q])))]; exact q⟩
            have S7 : StR K b F5 (upd H5 Dl (entsO Dl (storedH en (kInts ns) a4 u))) ow σ ρ g5 :=
              (((S2.up e3 B3).up e4 B4).up e5 B5).otherE nf5 nbD (fun j q => by
                obtain ⟨o', z, _⟩ := S1.oat j Dl q
                rw [hD] at z; cases z) m6 tE
            have hlen := storedH_le en (kInts ns) a4 u
            refine ⟨F5, g5, _, addK nss ns, S7, eS6, ((mo3.trans (e4.up B3)).trans (e5.up B4)).trans m6, nf5, upd_same, (ek5.put r5').up m6, fun k mk => ?_, by omega, rfl, hlt, o5⟩
            unfold addK at mk
            split at mk
            · exact hne k mk
            · rcases List.mem_append.mp mk with mk | mk
              · exact hne k mk
              · rw [List.mem_singleton.mp mk]; exact hn0
    · have hge : xs.length ≤ i := by omega
      refine .inl ⟨w2 (List.getElem?_eq_none_iff.mpr hge), ?_⟩
      rw [List.drop_eq_nil_of_le hge] at oo
      have oo' : PP nss g F H := oo F H eS S.toBg
      exact fin nss g F H en oo' eS S hDl ek hne (by omega)
theorem se_sortK {kxe vxe tge iter : Expr} {ifs : List Expr} {scope : Scope} {own : List (Str × Nat)} {tg : Tgt} {it : Env → M (List D)} {t : Env → M Bool} {kx vx : Env → M D} {p cpos : Pos} (hc : X.calm = true) (hu : X.A.units + 64 < cLine) (hN : X.N.Nodup) (hG : Gl X "sorted") (hm : X.mg "sorted" = none) (hi : SI X ct tge it iter) (ok : BlkOk X.N X.env.scope scope own)
    (hg : ∀ s H C cl fp, SG (blkCx X scope s H C cl fp) tg tge) (ht : ∀ s H C cl fp, STs (blkCx X scope s H C cl fp) ct t ifs) (hk : ∀ s H C cl fp, SE (blkCx X scope s H C cl fp) ct kx kxe) (hv : ∀ s H C cl fp, SE (blkCx X scope s H C cl fp) ct vx vxe)
    (hs : ∀ x, foldedSetIterable iter X.env x = pure x) (hix : ∀ i ∈ tg.idx, i ∈ own.map (·.2)) : SE X ct (fSortK tg (own.map (·.2)) it t kx vx) (.Call (.Name "sorted" p) [.DictComp kxe vxe [⟨tge, iter, ifs, 0⟩] scope pos] [] cpos) := fun W tk => by
  refine ⟨fun pins s σ H Q I h => ?_⟩
  obtain ⟨b, F, ow, ρ, g, S, o⟩ := h
  have hd : PE X (.DictComp kxe vxe [⟨tge, iter, ifs, 0⟩] scope pos) _ := pe_dt (g := gtOf X.K tg) (tt := rdT X.K ct noW t) (tk := rdE X.K ct noW kx) (tv := rdE X.K ct noW vx) hc hN (by omega) (hi W tk) ok (fun s H C cl fp => hg s H C cl fp)
    (fun s H C cl fp => ht s H C cl fp noW takes_blk) (fun s H C cl fp => hk s H C cl fp noW takes_blk) (fun s H C cl fp => hv s H C cl fp noW takes_blk) hs
  have h2 : tDt X.prog X.w X.K (rdI X.K ct W it) (gtOf X.K tg) (rdT X.K ct noW t) (rdE X.K ct noW kx) (rdE X.K ct noW vx) (own.map (·.2)) σ H (fun v H1 => rSrtE X v H1 Q) := by
    refine ⟨b, F, ow, ρ, g, S, (Out.bind0 o).imp fun xs g1 F1 H1 e1 B1 o1 J hJ Dl hD => ?_⟩
    by_cases hz : xs.length ≤ sizeLine
    · rw [if_pos hz] at o1
      refine st_read hix (S.up e1 B1) e1 hJ hD hz (Out.bind0 o1) fun nss g2 F2 H2 en o2 e2 S2 hD2 ek hne hzn => ?_
      refine ⟨Dl, en, nss, rfl, hD2, ek.len, ek.rep.dp (noDict_tups nss), hne, fun cs a hp hs2 ha => ?_⟩
      have o3 : Out X.K ct b F2 H2 (fun c dx H' => W c dx σ H') (PV X.K Q) (.ok (.list ((isortL nss).map tupI)) g2) := Out.shift o2 e2
      rw [← hs2] at o3
      exact finL S2.toBg ha (rep_pairs fun q m => rep_zip ek.rep q (hp.mem_iff.mp m)) fun F' H' u e B r => o3 F' H' e B u r
    · rw [if_neg hz] at o1; exact o1.elim
  refine Call_ (ld_blt I hG hm boot_sorted (PyProof.Rows.callWith_builtin1 (PyProof.Rows.args_cons ?_ rfl) rfl rfl))
  refine thn (hd.run pins s σ H _ I h2) fun v s1 ⟨x, H1, I1, r1, q1⟩ => PyProof.Rows.args_nil ?_
  exact sort_ents hc hu I1 r1 q1
end


/-! ### the rule -/
section
variable [TabT] {X : Cx} {ct : Nat → ClsInfo}
def isCallE : Expr → Bool
  | .Call _ _ _ _ => true
  | _ => false
def oldD (r : Rec) (S : Sta) (e : Expr) : Env → M D := (rBi r S e).getD dFail
theorem oldD_ok {r : Rec} (R : Sound r) {S : Sta} (h : StaOk X S) (e : Expr) : SE X S.ct (oldD r S e) e := by
  unfold oldD
  cases hd : rBi r S e with
  | none => exact se_fail
  | some d => exact rBi_ok r R h e d hd
def rSortK : RuleE := fun r S e => match e with
  | .Call (.Name x p) [.DictComp kx vx [⟨tg, iter, ifs, 0⟩] scope dp] [] cp => if (isCallE kx || !ifs.isEmpty) && x == ("sorted" : Str) && glB S x && S.nog x && notSet iter && blkC S.N S.sc scope (ownOf S.N scope.names) then (match tgOf (blkSta S scope) tg, ifsOf r (blkSta S scope) ifs with
    | some t, some ts => if tgIn t ((ownOf S.N scope.names).map (·.2)) then some (orD (fSortK t ((ownOf S.N scope.names).map (·.2)) (r.i S tg iter) ts (r.e (blkSta S scope) kx) (r.e (blkSta S scope) vx)) (oldD r S (.Call (.Name x p) [.DictComp kx vx [⟨tg, iter, ifs, 0⟩] scope dp] [] cp))) else none
    | _, _ => none) else none
  | _ => none
end
theorem rSortK_ok [TabT] : rSortK.Ok := fun r R X S h e d q => by
  unfold rSortK at q
  split at q
  · split at q
    · rename_i hh
      simp only [Bool.and_eq_true] at hh
      obtain ⟨⟨⟨⟨⟨_, hx⟩, hG⟩, hn⟩, h1⟩, h2⟩ := hh
      have hx := eq_of_beq hx
      subst hx
      split at q
      · rename_i t ts ht hts
        split at q
        · rename_i hi
          cases q
          refine se_orD ?_ (oldD_ok R h _)
          exact se_sortK h.calm (by have := h.un3; omega) (by rw [h.N]; exact h.nd) (gl_ok h hG).1 (h.nog _ hn) (R.i h _ _) (blkOk_by (by rw [h.N, h.sc]; exact h2)) (fun s H C cl fp => tgOf_ok (blk_ok h _ s H C cl fp) ht)
            (fun s H C cl fp => ifsOf_ok R (blk_ok h _ s H C cl fp) hts) (fun s H C cl fp => R.e (blk_ok h _ s H C cl fp) _) (fun s H C cl fp => R.e (blk_ok h _ s H C cl fp) _) (notSet_ok h1) (tgIn_ok hi)
        · cases q
      · cases q
    · cases q
  · cases q

end PF

set_option Elab.async false
set_option linter.all false
set_option maxRecDepth 100000
set_option maxHeartbeats 2000000
/-! PF58: a dict display of one pair. -/
namespace PF
open PySem PySem.Spec PyProof.Rows L2
section
variable {X : Cx} {ke ve : Expr} {tk tv : TE} {pos : Pos}
theorem e_dictSet {pins : List (Addr × Obj)} {σ : L2.St} {H : Hp} {s : Shared} {D b : Addr} {xs : List En} {ns : List Int} {E : Value → Shared → Prop} {u : Value} {Q : Unit → Shared → Prop} (hu : X.A.units < cLine) (I : Inv X pins σ H s) (e : WrE X.K H D xs) (q : SqT X.K H b (ns.map V.int)) (hz : xs.length < sizeLine)
    (k : ∀ s', Inv X pins σ (upd H D (entsO D (storedH xs (kInts ns) b u))) s' → Q () s') : wpAny (model X.prog X.w) X.A (dictSet D (.ref b) u) Q E s := by
  obtain ⟨lo, z, dd⟩ := e.rd.dd I
  have hk0 : ∀ x ∈ xs, ∃ ms : List Int, x.1 = kInts ms := fun x hx => let ⟨ms, a1, _⟩ := e.2 x hx; ⟨ms, a1⟩
  refine wpAny_dictSet_heap (hsz := by omega) (knd := tupleKind (mixKind X.prog X.w)) hu (key_ints I q) dd fun h' dd' hs => k _ ?_
  obtain ⟨o', es', ep', a1, a2, a3, a4, _, a5⟩ := dd'
  have := storedH_le xs (kInts ns) b u
  have mu : Mut (H D) := by
    rcases e.1 with e | ⟨_, e⟩ <;> (rw [e]; exact True.intro)
  exact d_write I mu hs ⟨o', a1⟩ (entsO_ok ⟨lo, by omega, o', es', ep', a1, a2, a3, a4.trans (ent0_eq _ _ (keys_stored hk0)).symm, a5⟩)
def tOne (K : PySem.W.Frag) (tk tv : TE) : TE := fun σ H Q => ∀ D, H D = none → tk σ (upd H D (.dK [])) fun y H1 => tv σ H1 fun z H2 => H2 D = some (.dK []) ∧ ((∃ k, y = kV k ∧ Q (.ref D) (upd H2 D (.dK (putK [] k z)))) ∨
  ∃ ns b, y = .ref b ∧ SqT K H2 b (ns.map V.int) ∧ ∀ u, RelV z u → Q (.ref D) (upd H2 D (entsO D (storedH [] (kInts ns) b u))))
theorem pe_one (hu : X.A.units < cLine) (hk : PE X ke tk) (hv : PE X ve tv) : PE X (.Dict [some ke] [ve] pos) (tOne X.K tk tv) := by
  refine ⟨fun pins s σ H Q I h => ?_⟩
  refine wpAny_Dict_any rfl rfl (List.cons_ne_nil _ _) (Nat.le_of_ble_eq_true rfl) ?_
  have hD : H s.heap.objs.size = none := I.hok.fresh (Nat.le_refl _)
  have I1 : Inv X pins σ (upd H s.heap.objs.size (.dK [])) { s with heap := s.heap.push { cls := .type "dict", data := .dict #[] } } :=
    I.laid (t' := s.toks) (fun b o e => Heap.get?_push_of_some _ e) (Nat.le_refl _) (dk_empty s.heap I.big)
  have h := h _ hD
  generalize s.heap.objs.size = D at h hD I1 ⊢
  refine evalPairs_cons (thn (hk.run pins _ σ _ _ I1 h) fun kv s1 ⟨yk, H1, I2, r1, q1⟩ => ?_)
  refine wpAny_bind (thn (hv.run pins s1 σ H1 _ I2 q1) fun vv s2 ⟨yv, H2, I3, r2, hd, q2⟩ => ?_)
  refine wpAny_bind (wpAny_standAt (wpAny_pure (evalPairs_nil ?_)))
  show wpAny _ _ (forIn [(kv, vv)] PUnit.unit fun (x : Value × Value) (_ : PUnit) => (do dictSet D x.1 x.2; pure (ForInStep.yield PUnit.unit) : Sem (ForInStep PUnit))) _ _ _
  rw [List.forIn_cons]
  rcases q2 with ⟨k, ek, q2⟩ | ⟨ns, b, ek, hb, q2⟩
  · subst ek
    refine wpAny_bind (wpAny_bind (d_dictSet I3 hd (by rw [List.length_nil, sizeLine_eq]; omega) r1 r2 fun s3 I4 => wpAny_pure ?_))
    dsimp only
    rw [List.forIn_nil]
    exact wpAny_pure ⟨.ref D, _, I4, rfl, q2⟩
  · subst ek
    obtain rfl : kv = Value.ref b := r1
    refine wpAny_bind (wpAny_bind (e_dictSet (xs := []) hu I3 ⟨.inr ⟨rfl, hd⟩, fun _ m => nomatch m⟩ hb (by rw [List.length_nil, sizeLine_eq]; omega) fun s3 I4 => wpAny_pure ?_))
    dsimp only
    rw [List.forIn_nil]
    exact wpAny_pure ⟨.ref D, _, I4, rfl, q2 _ r2⟩
end
section
variable [TabT] {X : Cx} {ct : Nat → ClsInfo} {ke ve : Expr} {dk dv : Env → M D} {pos : Pos}
def fOne (dk dv : Env → M D) : Env → M (List (D × D)) := fun ρ g => (dk ρ g).bind fun y g1 => (dv ρ g1).bind fun z g2 => if (isKeyD y || (tupKD y).isSome) = true then .ok [(y, z)] g2 else .fail
theorem sfd_one (hu : X.A.units < cLine) (hk : SE X ct dk ke) (hv : SE X ct dv ve) : SFd X ct (fOne dk dv) (.Dict [some ke] [ve] pos) := fun W tk => by
  refine peW (pe_one hu (hk W tk) (hv W tk)) fun σ H Q ⟨b, F, ow, ρ, g, S, o⟩ => ?_
  intro D hD
  have nf : ¬ F D := fun f => by
    obtain ⟨o', q, _⟩ := S.wf D f
    rw [hD] at q; cases q
  have nb : b ≠ some D := S.neNew hD
  have hN : Nn H D := nn_of hD
  have e1 := Ext.new (o := .dK []) S.toBg hD
  have S1 := S.up e1 (S.toBg.new hD)
  refine ⟨b, F, ow, ρ, g, S1, ?_⟩
  refine (Out.shift (Out.bind0 o) e1).imp fun y g2 F2 H2 e2 B2 o2 v2 r2 => ?_
  have S2 := S1.up e2 B2
  have hD2 : H2 D = some (.dK []) := e2.keep D _ upd_same nb
  have nf2 : ¬ F2 D := fun f => by
    rcases e2.fresh D f with z | z
    · exact nf z
    · exact z _ upd_same (by intro _ q; cases q)
  refine ⟨b, F2, ow, ρ, g2, S2, ?_⟩
  refine (Out.shift (Out.bind0 o2) (e1.trans e2)).imp fun z g3 F3 H3 e3 B3 o3 v3 r3 => ?_
  have hD3 : H3 D = some (.dK []) := e3.keep D _ hD2 nb
  have nf3 : ¬ F3 D := fun f => by
    rcases e3.fresh D f with z | z
    · exact nf2 z
    · exact z _ hD2 (by intro _ q; cases q)
  have hne : ∀ c, F3 c → c ≠ D := fun c f z => nf3 (z ▸ f)
  have eAll := (e1.trans e2).trans e3
  have step : ∀ {w : HO}, NT w → Mono F3 H3 F3 (upd H3 D w) ∧ Ext b F H F3 (upd H3 D w) ∧ Bg b g3 F3 (upd H3 D w) := by
    intro w nw
    refine ⟨⟨fun _ f => f, fun c u f h => ?_, fun c ws h => ?_, fun c _ _ f h => by rw [upd_ne (hne c f)]; exact h⟩,
      ⟨eAll.mono, eAll.fresh, fun c u h n nu => ?_, fun c f => ?_, fun c z => ?_, eAll.tb.trans (TabE.upd (fun o2 h2 => by rw [hD3] at h2; cases h2; exact pl_dK) nw)⟩, ⟨fun c f => ?_, fun c e => ?_⟩⟩
    · rcases h with h | ⟨o', h⟩
      · exact .inl (by rw [upd_ne (hne c f)]; exact h)
      · exact .inr ⟨o', by rw [upd_ne (hne c f)]; exact h⟩
    · rcases h with h | ⟨o', h⟩
      · exact .inl (by rw [upd_ne (fun (z : c = D) => by rw [z, hD3] at h; cases h)]; exact h)
      · exact .inr ⟨o', by rw [upd_ne (fun (z : c = D) => by rw [z, hD3] at h; cases h)]; exact h⟩
    · rw [upd_ne (nn_ne h nu hN)]; exact eAll.keep0 c u h n nu
    · obtain ⟨o', q⟩ := eAll.wf c f
      exact ⟨o', by rw [upd_ne (hne c f)]; exact q⟩
    · obtain ⟨n, ws, q⟩ := eAll.bag c z
      exact ⟨n, ws, by rw [upd_ne (fun (q : c = D) => nb (z.trans (by rw [q])))]; exact q⟩
    · obtain ⟨o', q⟩ := B3.wf c f
      exact ⟨o', by rw [upd_ne (hne c f)]; exact q⟩
    · obtain ⟨q, n⟩ := B3.bag c e
      exact ⟨by rw [upd_ne (fun (z : c = D) => nb (e.trans (by rw [z])))]; exact q, n⟩
  refine ⟨hD3, ?_⟩
  by_cases hk : (isKeyD y || (tupKD y).isSome) = true
  · rw [if_pos hk] at o3
    rcases Bool.or_eq_true_iff.mp hk with hk | hk
    · obtain ⟨k, rfl⟩ := isKey_eq hk
      obtain rfl : v2 = kV k := repKey r2
      obtain ⟨m, eEnd, B4⟩ := step (w := .dK (putK [] k v3)) (by intro _ z; cases z)
      exact .inl ⟨k, rfl, o3 F3 _ eEnd B4 D _ hN nf3 nb upd_same (.dk rfl (.cons (r3.up m) .nil))⟩
    · obtain ⟨ns, ht⟩ := Option.isSome_iff_exists.mp hk
      obtain rfl := tupKD_eq ht
      obtain ⟨b', vs, rfl, hb, rt⟩ := (r2.up (e3.up B2)).tuple
      rw [rt.ints] at hb
      refine .inr ⟨ns, b', rfl, hb, fun u hu' => ?_⟩
      obtain ⟨m, eEnd, B4⟩ := step (w := entsO D (storedH [] (kInts ns) b' u)) nt_ents
      have q : RepEn X.K F3 (upd H3 D (entsO D (storedH [] (kInts ns) b' u))) (storedH [] (kInts ns) b' u) [(PyData.tuple (ns.map .int), z)] := RepEn.put (ps := []) .nil ((r2.up (e3.up B2)).up m) hu' (r3.up m)
      obtain ⟨y0, r0', es⟩ := stored_ne [] (kInts ns) b' u
      refine o3 F3 _ eEnd B4 D _ hN nf3 nb upd_same ?_
      rw [es] at q ⊢
      exact .en rfl q
  · rw [if_neg hk] at o3; exact o3.elim
def rOne : RuleK := fun r S e => match e with
  | .Dict [some ke] [ve] _ => some (fOne (r.e S ke) (r.e S ve))
  | _ => none
end
theorem rOne_ok [TabT] : rOne.Ok := fun r R X S h e d q => by
  unfold rOne at q
  split at q
  · cases q; exact sfd_one (by have := h.un3; omega) (R.e h _) (R.e h _)
  · cases q
end PF

set_option Elab.async false
set_option linter.all false
set_option maxRecDepth 100000
set_option maxHeartbeats 2000000
/-! PF59: the texts of two data compared, as a value. -/
namespace PF
open PySem PySem.Spec PyProof.Rows L2
section
variable [TabT] {X : Cx} {ct : Nat → ClsInfo}
def rReprC : RuleE := fun r S e => match e with
  | .Compare a [op] [c] p => if behindInMarks op c then none else (match negOf op, reprOf S a, reprOf S c with
    | some neg, some a', some c' => some (orD (dReprSame neg (r.os S [a']) (r.os S [c'])) ((rCmp r S (.Compare a [op] [c] p)).getD dFail))
    | _, _, _ => none)
  | _ => none
end
theorem rReprC_ok [TabT] : rReprC.Ok := fun r R X S h e d q => by
  unfold rReprC at q
  split at q
  · rename_i a op c p
    split at q
    · cases q
    · rename_i hm
      split at q
      · rename_i neg a' c' hn ha hc
        cases q
        refine se_orD (se_less ?_ repr_less) ?_
        · have hop : Op2 X (compareOp op) (strCmp neg) := by
            cases op <;> first | (cases hn; first | exact op2_strEq | exact op2_strNe) | (cases hn; done)
          exact se_cmp hop (by simpa using hm) (reprOf_ok R h ha).so (reprOf_ok R h hc).so
        · cases hd : rCmp r S (.Compare a [op] [c] p) with
          | none => exact se_fail
          | some d => exact rCmp_ok r R h _ d hd
      · cases q
  · cases q
end PF

set_option Elab.async false
set_option linter.all false
set_option maxRecDepth 100000
set_option maxHeartbeats 2000000
/-! PF61: y.setdefault(k, v), y a dict of the frame's own. -/
namespace PF
open PySem PySem.Spec PyProof.Rows L2
variable [TabT]
section
variable {C : FrC} {X : Cx} {ct : Nat → ClsInfo} {pos : Pos} {i : Nat} {y : Str} {p p1 cpos : Pos} {e f : Expr} {dk dv : Env → M D}
def sSetd (i : Nat) (dk dv : Env → M D) : Env → M Fl := fun ρ g => match ρ[i]? with
  | some (some (.ownd ps)) => if plainD ps = true then ((dk ρ g).bind fun k g1 => (dv ρ g1).bind fun v g2 => if isKeyD k = true then (if ps.length < sizeLine then (match getDK ps k with
    | some _ => .ok (.next ρ) g2
    | none => .ok (.next (ρ.set i (some (.ownd (putD ps k v))))) g2) else .fail) else .fail) else .fail
  | _ => .fail
theorem m2_ok (hs : isStarB e = false) (hs2 : isStarB f = false) (hbase : attributeBase (.Name y p) "setdefault" X.env (eval (.Name y p) X.env) = eval (.Name y p) X.env) (hline : (p1.endLine == cpos.line) = true) : M2 X (.Name y p) "setdefault" p1 e f cpos := by
  have h1 : starEach [e, f] X.env = (false, eval e X.env) :: (false, eval f X.env) :: [] := by
    rw [star_no (es := [f]) hs, star_no (es := []) hs2]
    rfl
  refine ⟨hbase, ?_, hline, ?_⟩
  · rw [h1]; rfl
  · rw [h1]; rfl
theorem ss_setd (n : NmOk X i y) (he : SE X ct dk e) (hf : SE X ct dv f) (hs : isStarB e = false) (hs2 : isStarB f = false) (hsw : swapsWith (.Call (.Attribute (.Name y p) "setdefault" p1) [e, f] [] cpos) none pos.line X.env = pure false)
    (hbase : attributeBase (.Name y p) "setdefault" X.env (eval (.Name y p) X.env) = eval (.Name y p) X.env) (hline : (p1.endLine == cpos.line) = true) :
    SS C X ct (sSetd i dk dv) (.Expr (.Call (.Attribute (.Name y p) "setdefault" p1) [e, f] [] cpos) pos) := fun W tk => by
  refine psW (ps_expr (pe_dsetd (pe_var n.hN n.hv n.hd n.hcd) (he (WXof W) tk) (hf (WXof W) tk) (m2_ok hs hs2 hbase hline)) hsw) fun D σ H ⟨b, F, ow, ρ, g, S, o⟩ => ?_
  unfold sSetd at o
  split at o
  · rename_i ps hi
    split at o
    rotate_left
    · exact o.elim
    rename_i hp0
    obtain ⟨a, w0, e0, ex, nf, h1, r0⟩ := S.st.slot i _ hi
    obtain ⟨kvs, eu, r0'⟩ := r0.plain hp0
    subst eu
    refine ⟨.ref a, ex, a, rfl, .inl ⟨kvs, .inl h1⟩, ?_⟩
    refine ⟨b, F, ow, ρ, g, S.st, (OutS.ofE S o).imp fun k g1 F1 H1 e1 B1 o1 u ru => ?_⟩
    have S1 := S.up e1 B1
    refine ⟨b, F1, ow, ρ, g1, S1.st, (OutS.ofE S1 o1).imp fun v g2 F2 H2 e2 B2 o2 w rw' => ?_⟩
    have S2 := S1.up e2 B2
    have ru2 := ru.up (e2.up S1.bg)
    obtain ⟨a2, w2, e02, ex2, nf2, h12, r2'⟩ := S2.st.slot i _ hi
    obtain ⟨kvs2, eu, r2⟩ := r2'.plain hp0
    subst eu
    have ea : a2 = a := by rw [e0] at e02; cases e02; rfl
    subst ea
    by_cases hk : isKeyD k = true
    · rw [if_pos hk] at o2
      by_cases hl : ps.length < sizeLine
      · rw [if_pos hl] at o2
        obtain ⟨kk, rfl⟩ := isKey_eq hk
        obtain rfl : u = kV kk := repKey ru2
        obtain ⟨S3, m⟩ := S2.writeD (ds' := putD ps (kD kk) v) hi e02 nf2 h12 (r2.put kk rw')
        refine ⟨kvs2, kk, h12, rfl, by rw [r2.length]; exact hl, fun v' hv' => ?_, fun hn => ?_⟩
        · rcases r2.val kk with ⟨z1, z2⟩ | ⟨v1, d1, z1, z2, _⟩
          · rw [z1] at hv'; cases hv'
          · rw [z2] at o2
            exact o2 b F2 H2 ow σ S2 Mono.refl
        · rcases r2.val kk with ⟨z1, z2⟩ | ⟨v1, d1, z1, z2, _⟩
          · rw [z2] at o2
            exact o2 b F2 _ ow σ S3 m
          · rw [z1] at hn; cases hn
      · rw [if_neg hl] at o2; exact o2.elim
    · rw [if_neg hk] at o2; exact o2.elim
  · exact o.elim
end
variable {C : FrC}
def rsSetd : RuleS := fun r q S st => match st with
  | .Expr (.Call (.Attribute (.Name y _) m p1) [e, f] [] cpos) _ => if m == ("setdefault" : Str) && !isStarB e && !isStarB f && (p1.endLine == cpos.line) then (match slotOf S y with
    | some i => some (fz S [e, f] (sSetd i (r.e S e) (r.e S f)))
    | none => none) else none
  | _ => none
theorem rsSetd_ok : RuleS.Ok C rsSetd := fun r R q Q X S h st d e => by
  unfold rsSetd at e
  split at e
  · split at e
    · rename_i hh
      simp only [Bool.and_eq_true, Bool.not_eq_true'] at hh
      obtain ⟨⟨⟨h1, h2⟩, h2'⟩, h3⟩ := hh
      have h1 := eq_of_beq h1
      subst h1
      split at e
      · rename_i i hi
        cases e
        exact fz_ok (ss_setd (slot_ok h.ok hi) (R.e h.ok _) (R.e h.ok _) h2 h2' (swaps_no rfl) base_name h3)
      · cases e
    · cases e
  · cases e
end PF

set_option Elab.async false
set_option linter.all false
set_option maxRecDepth 100000
set_option maxHeartbeats 2000000
/-! PF62: y.update({..}), y a dict of the frame's own. -/
namespace PF
open PySem PySem.Spec PyProof.Rows L2
variable [TabT]
def mergeK (kvs more : List (Key × V)) : List (Key × V) := more.foldl (fun acc kv => putK acc kv.1 kv.2) kvs
theorem mergeK_len : ∀ (more kvs : List (Key × V)), (mergeK kvs more).length ≤ kvs.length + more.length
  | [], kvs => Nat.le_refl _
  | kv :: more, kvs => by
    have h1 := mergeK_len more (putK kvs kv.1 kv.2)
    have h2 := putK_le kvs kv.1 kv.2
    show (mergeK (putK kvs kv.1 kv.2) more).length ≤ _
    rw [List.length_cons]
    omega
theorem kv_merge : ∀ {more : List (Key × V)} {ms : List (Key × Value)} {kvs : List (Key × V)} {vs : List (Key × Value)}, KV more ms → KV kvs vs → KV (mergeK kvs more) (merged vs ms)
  | _, _, _, _, .nil, h => h
  | p :: more, q :: ms, kvs, vs, .cons hq t, h => by
    have e : p.1 = q.1 := hq.1
    have := KV.put h p.1 hq.2
    rw [show stored vs p.1 q.2 = stored vs q.1 q.2 by rw [e]] at this
    show KV (mergeK (putK kvs p.1 p.2) more) (merged (stored vs q.1 q.2) ms)
    exact kv_merge t this
section
variable {X : Cx}
def rUpd : V → List V → Hp → VK → Prop := fun x vs H Q => ∃ (a o : Addr) (kvs more : List (Key × V)), x = .ref a ∧ vs = [.ref o] ∧ H a = some (.dK kvs) ∧ Rd H o (.dK more) ∧ a ≠ o ∧ kvs.length + more.length ≤ sizeLine ∧ Q .non (upd H a (.dK (mergeK kvs more)))
theorem mt_update : MtR X "dict.update" rUpd := by
  intro pins s σ H x vs v us Q I rx rv h
  obtain ⟨a, o, kvs, more, rfl, rfl, ha, ho, hne, hz, q⟩ := h
  obtain rfl : v = Value.ref a := rx
  rw [Vals.ref1 rv]
  obtain ⟨z, hd, ws, rel, dd⟩ := dk_of I.hok ha
  obtain ⟨z2, hd2, ms, rel2, dd2⟩ := dk_rd I.hok ho
  have hl : ws.length + ms.length ≤ sizeLine := by rw [← rel.length, ← rel2.length]; exact hz
  refine call_meetsIn PySem.F.slot_dict_update dd.typeIs PySem.F.entry_dict_update (PySem.F.args_dict_update_2 _ _) (meets_dict_update (mixKind X.prog X.w) a o hne hd2) ⟨ws, ms, dd, dd2, hl, fun h' dd' _ hs => ?_⟩
  have he : ∃ q, h'.get? a = some q := let ⟨q, _, _, hq, _⟩ := dd'; ⟨q, hq⟩
  have hm := mergeK_len more kvs
  exact ⟨.non, _, d_write (t' := s.toks) I (by rw [ha]; exact True.intro) hs he (dk_new (by omega) hd (kv_merge rel2 rel) dd'), rfl, q⟩
end
section
variable {C : FrC} {X : Cx} {ct : Nat → ClsInfo} {pos : Pos} {i : Nat} {y : Str} {p p1 cpos : Pos} {e : Expr} {dv : Env → M (List (D × D))}
def mergeD (ps qs : List (D × D)) : List (D × D) := qs.foldl (fun acc p => putD acc p.1 p.2) ps
theorem RepKv.merge {K : PySem.W.Frag} {F : Addr → Prop} {H : Hp} : ∀ {more : List (Key × V)} {qs : List (D × D)} {kvs : List (Key × V)} {ps : List (D × D)}, RepKv K F H more qs → RepKv K F H kvs ps → RepKv K F H (mergeK kvs more) (mergeD ps qs)
  | _, _, _, _, .nil, h => h
  | _, _, kvs, ps, .cons (k := k) (v := v) (d := d) (r := r) (ps := qs) q t, h => by
    show RepKv K F H (mergeK (putK kvs k v) r) (mergeD (putD ps (kD k) d) qs)
    exact RepKv.merge t (h.put k q)
def sUpd (i : Nat) (dv : Env → M (List (D × D))) : Env → M Fl := fun ρ g => match ρ[i]? with
  | some (some (.ownd ps)) => if plainD ps = true then ((dv ρ g).bind fun qs g1 => if plainD qs = true then (if ps.length + qs.length ≤ sizeLine then .ok (.next (ρ.set i (some (.ownd (mergeD ps qs))))) g1 else .fail) else .fail) else .fail
  | _ => .fail
theorem ss_upd (n : NmOk X i y) (he : SFd X ct dv e) (hs : isStarB e = false) (hsw : swapsWith (.Call (.Attribute (.Name y p) "update" p1) [e] [] cpos) none pos.line X.env = pure false)
    (hbase : attributeBase (.Name y p) "update" X.env (eval (.Name y p) X.env) = eval (.Name y p) X.env) (hline : (p1.endLine == cpos.line) = true) :
    SS C X ct (sUpd i dv) (.Expr (.Call (.Attribute (.Name y p) "update" p1) [e] [] cpos) pos) := fun W tk => by
  have hfew : ((backTo cpos (starEach [e] X.env)).all (fun x => !x.1) && (backToKw cpos (keywordEach [] X.env)).all (fun x => x.1.isSome) && decide ([e].length + ([] : List Keyword).length + (if ([] : List Keyword).isEmpty then 0 else 1) < 30)) = true := by
    rw [star_no hs]; rfl
  refine psW (ps_expr (pe_bm F.plainAttrs_dict F.slot_dict_update F.type_dict_update (show MtR X _ _ from mt_update) (pe_var n.hN n.hv n.hd n.hcd) (pa_cons (he (WXof W) tk) pa_nil (star_no hs)) hbase hfew hline (star_no hs) rfl) hsw) fun D σ H ⟨b, F, ow, ρ, g, S, o⟩ => ?_
  unfold sUpd at o
  split at o
  · rename_i ps hi
    split at o
    rotate_left
    · exact o.elim
    rename_i hp0
    obtain ⟨a, w0, e0, ex, nf, h1, r0'⟩ := S.st.slot i _ hi
    obtain ⟨kvs, eu, r0⟩ := r0'.plain hp0
    subst eu
    refine ⟨.ref a, ex, .inr (.inr (.inl ⟨rfl, .inl ⟨kvs, h1⟩⟩)), ?_⟩
    refine ⟨b, F, ow, ρ, g, S.st, (OutS.ofE S o).imp fun qs g1 F1 H1 e1 B1 o1 q wq h0 nfq nbq hq rq' => ?_⟩
    split at o1
    rotate_left
    · exact o1.elim
    rename_i hpq
    obtain ⟨zs, eu, rq⟩ := rq'.plain hpq
    subst eu
    have S1 := S.up e1 B1
    obtain ⟨a1, w1, e01, ex1, nf1, h11, r1'⟩ := S1.st.slot i _ hi
    obtain ⟨kvs1, eu, r1⟩ := r1'.plain hp0
    subst eu
    have ea : a1 = a := by rw [e0] at e01; cases e01; rfl
    subst ea
    have hne : a1 ≠ q := fun z => h0 (.dK kvs) (z ▸ h1) (by intro _ w; cases w)
    by_cases hl : ps.length + qs.length ≤ sizeLine
    · rw [if_pos hl] at o1
      obtain ⟨S2, m⟩ := S1.writeD (ds' := mergeD ps qs) hi e01 nf1 h11 (RepKv.merge rq r1)
      exact ⟨a1, q, kvs1, zs, rfl, rfl, h11, .inl hq, hne, by rw [r1.length, rq.length]; exact hl, o1 b F1 _ ow σ S2 m⟩
    · rw [if_neg hl] at o1; exact o1.elim
  · exact o.elim
end
variable {C : FrC}
def rsUpd : RuleS := fun r q S st => match st with
  | .Expr (.Call (.Attribute (.Name y _) m p1) [e] [] cpos) _ => if m == ("update" : Str) && !isStarB e && (p1.endLine == cpos.line) then (match slotOf S y, r.k S e with
    | some i, some d => some (fz S [e] (sUpd i d))
    | _, _ => none) else none
  | _ => none
theorem rsUpd_ok : RuleS.Ok C rsUpd := fun r R q Q X S h st d e => by
  unfold rsUpd at e
  split at e
  · split at e
    · rename_i hh
      simp only [Bool.and_eq_true, Bool.not_eq_true'] at hh
      obtain ⟨⟨h1, h2⟩, h3⟩ := hh
      have h1 := eq_of_beq h1
      subst h1
      split at e
      · rename_i i d' hi hd
        cases e
        exact fz_ok (ss_upd (slot_ok h.ok hi) (R.k h.ok _ _ hd) h2 (swaps_no rfl) base_name h3)
      · cases e
    · cases e
  · cases e
end PF

set_option Elab.async false
set_option linter.all false
set_option maxRecDepth 100000
set_option maxHeartbeats 2000000
/-! PF63: x.values(), x.items() walked, x a frozen dict with int or text keys. -/
namespace PF
open PySem PySem.Spec PyProof.Rows L2
variable [TabT]
section
variable {K : PySem.W.Frag} {F0 : Addr → Prop} {H0 : Hp}
theorem repKv_get : ∀ {kvs : List (Key × V)} {ps : List (D × D)}, RepKv K F0 H0 kvs ps → ∀ i : Nat, (∀ p, ps[i]? = some p → ∃ k v, kvs[i]? = some (k, v) ∧ p.1 = kD k ∧ Rep K F0 H0 v p.2) ∧ (ps[i]? = none → kvs.length ≤ i)
  | _, _, .nil, i => ⟨fun p hp => by simp at hp, fun _ => Nat.zero_le _⟩
  | _, _, .cons r t, 0 => ⟨fun p hp => by
      have hp := Option.some.inj hp
      subst hp
      exact ⟨_, _, rfl, rfl, r⟩, fun hn => by simp at hn⟩
  | _, _, .cons r t, i + 1 => by
    obtain ⟨a, b⟩ := repKv_get t i
    exact ⟨fun p hp => a p (by simpa using hp), fun hn => by
      have := b (by simpa using hn)
      rw [List.length_cons]; omega⟩
theorem walks_vals {a : Addr} {od : Obj} {kvs : List (Key × V)} {ps : List (D × D)} (f : F0 a) (h : H0 a = some (.frz od (.dK kvs))) (r : RepKv K F0 H0 kvs ps) : Walks K (Itd a od kvs) F0 H0 (ps.map (·.2)) := fun i b g F H m B => by
  have h' := m.fx _ _ _ f h
  obtain ⟨g1, g2⟩ := repKv_get r i
  rw [List.getElem?_map]
  refine ⟨fun x hx => ?_, fun hn => ⟨h', g2 (by simpa using hn)⟩⟩
  obtain ⟨p, hp, rfl⟩ := Option.map_eq_some_iff.mp hx
  obtain ⟨k, v, hk, _, rv⟩ := g1 p hp
  refine ⟨⟨h', (List.getElem?_eq_some_iff.mp hk).1⟩, fun u H' hy => ?_⟩
  obtain ⟨rfl, k', hk'⟩ := hy
  rw [hk] at hk'
  cases hk'
  exact ⟨Ext.refl B, B, rv.up m⟩
theorem walks_items {a : Addr} {od : Obj} {kvs : List (Key × V)} {ps : List (D × D)} (f : F0 a) (h : H0 a = some (.frz od (.dK kvs))) (r : RepKv K F0 H0 kvs ps) : Walks K (Iti a od kvs) F0 H0 (ps.map fun p => .tuple [p.1, p.2]) := fun i b g F H m B => by
  have h' := m.fx _ _ _ f h
  obtain ⟨g1, g2⟩ := repKv_get r i
  rw [List.getElem?_map]
  refine ⟨fun x hx => ?_, fun hn => ⟨h', g2 (by simpa using hn)⟩⟩
  obtain ⟨p, hp, rfl⟩ := Option.map_eq_some_iff.mp hx
  obtain ⟨k, v, hk, ek, rv⟩ := g1 p hp
  refine ⟨⟨h', (List.getElem?_eq_some_iff.mp hk).1⟩, fun u H' hy => ?_⟩
  obtain ⟨T, k', v', hk', rfl, hT, rfl⟩ := hy
  rw [hk] at hk'
  cases hk'
  have x := Ext.new (o := .tup [kV k, v]) B hT
  refine ⟨x, B.new hT, .tup (.inl (.inl upd_same)) (.cons ?_ (.cons ((rv.up m).up (x.up B)) .nil))⟩
  rw [ek]
  exact rep_key k
end
section
variable {X : Cx} {ct : Nat → ClsInfo} {d : Env → M D} {e tg : Expr} {ap cp : Pos}
def valsI : D → Option (List D)
  | .dict ps => if plainD ps = true then some (ps.map (·.2)) else none
  | _ => none
theorem valsI_eq {x : D} {xs : List D} (h : valsI x = some xs) : ∃ ps, x = .dict ps ∧ plainD ps = true ∧ xs = ps.map (·.2) := by
  cases x <;> first | (cases h; done) | skip
  rename_i ps
  have h : (if plainD ps = true then some (ps.map (·.2)) else none) = some xs := h
  by_cases hp : plainD ps = true
  · rw [if_pos hp] at h; cases h; exact ⟨ps, rfl, hp, rfl⟩
  · rw [if_neg hp] at h; cases h
def pairsI : D → Option (List D)
  | .dict ps => if plainD ps = true then some (ps.map fun p => .tuple [p.1, p.2]) else none
  | _ => none
theorem pairsI_eq {x : D} {xs : List D} (h : pairsI x = some xs) : ∃ ps, x = .dict ps ∧ plainD ps = true ∧ xs = ps.map fun p => .tuple [p.1, p.2] := by
  cases x <;> first | (cases h; done) | skip
  rename_i ps
  have h : (if plainD ps = true then some (ps.map fun p => PyData.tuple [p.1, p.2]) else none) = some xs := h
  by_cases hp : plainD ps = true
  · rw [if_pos hp] at h; cases h; exact ⟨ps, rfl, hp, rfl⟩
  · rw [if_neg hp] at h; cases h
def iVals (d : Env → M D) : Env → M (List D) := fun ρ g => (d ρ g).bind fun x g1 => match valsI x with | some xs => .ok xs g1 | none => .fail
def iItems (d : Env → M D) : Env → M (List D) := fun ρ g => (d ρ g).bind fun x g1 => match pairsI x with | some xs => .ok xs g1 | none => .fail
theorem si_vals (h : SE X ct d e) (hb : attributeBase e "values" X.env (eval e X.env) = eval e X.env) (hl : (ap.endLine == cp.line) = true) : SI X ct tg (PF.iVals d) (.Call (.Attribute e "values" ap) [] [] cp) := fun W tk => by
  refine piW (pi_values (h W tk) hb hl) fun σ H R ⟨b, F, ow, ρ, g, S, o⟩ => ?_
  refine rd1e S o fun x g1 F1 H1 v e1 S1 r1 o1 => ?_
  cases hx : valsI x with
  | none => rw [hx] at o1; exact o1.elim
  | some xs =>
    rw [hx] at o1
    obtain ⟨ps, rfl, hp, rfl⟩ := valsI_eq hx
    cases r1 with
    | exc _ _ _ _ => cases hp
    | excf _ _ _ _ _ _ _ => cases hp
    | dct f h q0 =>
      obtain ⟨kvs, eu, q⟩ := q0.plain hp
      subst eu
      exact ⟨_, _, _, rfl, h, Out.ok o1 S1.toBg _ (walks_vals f h q)⟩
theorem si_items {elts : List Expr} {kk : Nat} {tpos : Pos} (h : SE X ct d e) (hb : attributeBase e "items" X.env (eval e X.env) = eval e X.env) (hl : (ap.endLine == cp.line) = true) : SI X ct (.Tuple elts kk tpos) (PF.iItems d) (.Call (.Attribute e "items" ap) [] [] cp) := fun W tk => by
  refine piW (pi_items (h W tk) hb hl) fun σ H R ⟨b, F, ow, ρ, g, S, o⟩ => ?_
  refine rd1e S o fun x g1 F1 H1 v e1 S1 r1 o1 => ?_
  cases hx : pairsI x with
  | none => rw [hx] at o1; exact o1.elim
  | some xs =>
    rw [hx] at o1
    obtain ⟨ps, rfl, hp, rfl⟩ := pairsI_eq hx
    cases r1 with
    | exc _ _ _ _ => cases hp
    | excf _ _ _ _ _ _ _ => cases hp
    | dct f h q0 =>
      obtain ⟨kvs, eu, q⟩ := q0.plain hp
      subst eu
      exact ⟨_, _, _, rfl, h, Out.ok o1 S1.toBg _ (walks_items f h q)⟩
end
/-- what an attribute is asked of, a name or an item -/
def plainB : Expr → Bool
  | .Name _ _ => true
  | .Subscript _ _ _ => true
  | .Call _ (_ :: _) _ _ => true
  | _ => false
theorem base_plain {e : Expr} {m : Str} {env : PySem.Env} {w : Sem Value} (h : plainB e = true) : attributeBase e m env w = w := by
  cases e <;> first | rfl | (cases h; done) | skip
  rename_i f as ks p
  cases as with
  | nil => cases h
  | cons a as => cases f <;> rfl
def rVals : RuleI := fun r S tg e => match e with
  | .Call (.Attribute e m ap) [] [] cp => if plainB e && (ap.endLine == cp.line) then (if m == ("values" : Str) then some (PF.iVals (r.e S e)) else if m == ("items" : Str) then (match tg with
    | .Tuple _ _ _ => some (PF.iItems (r.e S e))
    | _ => none) else none) else none
  | _ => none
theorem rVals_ok : rVals.Ok := fun r R X S h tg e d q => by
  unfold rVals at q
  split at q
  · split at q
    · rename_i hh
      obtain ⟨h1, h2⟩ := Bool.and_eq_true_iff.mp hh
      split at q
      · rename_i hm
        rw [eq_of_beq hm]
        cases q
        exact si_vals (R.e h _) (base_plain h1) h2
      · split at q
        · rename_i hm
          rw [eq_of_beq hm]
          split at q
          · cases q
            exact si_items (R.e h _) (base_plain h1) h2
          · cases q
        · cases q
    · cases q
  · cases q
end PF

set_option Elab.async false
set_option linter.all false
set_option maxRecDepth 100000
set_option maxHeartbeats 2000000
/-! PF64: x, y = a, c, where a tuple is made (a name is asked by an inner block), of things of the frame's own. -/
namespace PF
open PySem PySem.Spec PyProof.Rows L2
variable [TabT]
section
variable {C : FrC} {X : Cx} {ct : Nat → ClsInfo} {W : WS} {pos : Pos} {K : PySem.W.Frag}
theorem parU_read {i j : Nat} {a1 a2 : Ad} {σ : L2.St} {H : Hp} {D' : Ends} (h : rdS C K ct W (sPar i j a1 a2) D' σ H) :
    tAsg (tTup (tCons (rdAd K ct (WXof W) a1) (tCons (rdAd K ct (WXof W) a2) tNil))) (gTup K 2 (gList [i, j])) D' σ H := by
  obtain ⟨b, F, ow, ρ, g, S, o⟩ := h
  refine ⟨b, F, ow, ρ, g, S.st, (OutS.ofE S o).imp fun s1 g1 F1 H1 e1 B1 o1 v1 oa1 n1 => ?_⟩
  have S1 := S.up e1 B1
  refine ⟨b, F1, ow, ρ, g1, S1.st, (OutS.ofE S1 o1).imp fun s2 g2 F2 H2 e2 B2 o2 v2 oa2 n2 => ?_⟩
  have S2 := S1.up e2 B2
  refine ⟨(by show 2 ≤ sizeLine; rw [sizeLine_eq]; omega), fun p hp => ?_⟩
  have e3 := Ext.new (o := .tup [v1, v2]) B2 hp
  have B3 : Bg b g2 F2 (upd H2 p (.tup [v1, v2])) := B2.new hp
  have S3 := S2.up e3 B3
  have n1' := (n1.up e2 B1).up e3 B2
  have n2' := n2.up e3 B2
  refine ⟨p, [v1, v2], rfl, .inl (.inl upd_same), rfl, v1, [v2], rfl, v2, [], rfl, rfl, ?_⟩
  have T1 := S.setS S3 i n1'
  have oat1 : ∀ k a, owSet ow i oa1 k = some a → ∃ o, H1 a = some o ∧ NT o := fun k a q => by
    unfold owSet at q
    by_cases ek : k = i
    · rw [if_pos ek] at q
      cases n1 with
      | val r => cases q
      | own h0 nf nb h' r => cases q; exact ⟨_, h', nt_lst⟩
      | ownd h0 nf nb h' r => cases q; exact ⟨_, h', r.nt⟩
    · rw [if_neg ek] at q; exact S1.st.oat k a q
  refine o2 b F2 _ (owSet (owSet ow i oa1) j oa2) _ ⟨T1.st.setS j n2' oat1, T1.fr, fun k a q => ?_⟩ (e3.up B2)
  unfold owSet at q
  by_cases ek : k = j
  · rw [if_pos ek] at q
    cases n2 with
    | val r => cases q
    | own h0 nf nb h' r => cases q; exact C.new S1.fr h0 nb
    | ownd h0 nf nb h' r => cases q; exact C.new S1.fr h0 nb
  · rw [if_neg ek] at q; exact T1.fo k a q
theorem ss_parU {i j : Nat} {es : List Expr} {a c : Expr} {a1 a2 : Ad} {pt : Pos} {kt k2 pt2} (hc : X.calm = true) (hN : X.N.Nodup) (hg : NamesAre X es [i, j]) (ha : SAd X ct a1 a) (hb : SAd X ct a2 c) (sa : isStarB a = false) (sb : isStarB c = false)
    (hs : swapsWithSole [.Tuple es kt pt] (.Tuple [a, c] k2 pt2) pos.line X.env = pure false) (hw : swappedStores [.Tuple es kt pt] (.Tuple [a, c] k2 pt2) X.env = pure none) :
    SS C X ct (sPar i j a1 a2) (.Assign [.Tuple es kt pt] (.Tuple [a, c] k2 pt2) pos) := fun W tk => by
  obtain ⟨h1, hl, h3⟩ := pgs_names hN es _ hg
  have hst : (assignEach es X.env).findIdx? (·.1) = none := by
    rw [List.findIdx?_eq_none_iff]
    intro x hx
    have := List.all_eq_true.mp h3 x hx
    simpa using this
  exact psW (ps_asg (pe_tup (pa_cons (ha (WXof W) tk) (pa_cons (hb (WXof W) tk) pa_nil (star_no sb)) (star_no sa))) (pg_tup (pos := pt) (k := kt) hc h1 hl hst) hs hw rfl) fun D σ H h => parU_read h
end
variable {C : FrC}
def rsParU : RuleS := fun r q S st => match st with
  | .Assign [.Tuple [.Name x px, .Name y py] k p] (.Tuple [a, c] k2 p2) _ => if (S.mu x || S.mu y) && !isStarB a && !isStarB c then (match swDec S.sc [.Name x px, .Name y py] [a, c], tgNames S [.Name x px, .Name y py] with
    | some none, some [i, j] => some (fz S [a, c] (sPar i j (adOf r S x a) (adOf r S y c)))
    | _, _ => none) else none
  | _ => none
theorem rsParU_ok : RuleS.Ok C rsParU := fun r R q Q X S h st d e => by
  unfold rsParU at e
  split at e
  · split at e
    · rename_i hh
      simp only [Bool.and_eq_true, Bool.not_eq_true'] at hh
      obtain ⟨⟨_, h1⟩, h2⟩ := hh
      split at e
      · rename_i i j hsw ht
        cases e
        exact fz_ok (ss_parU h.ok.calm (by rw [h.ok.N]; exact h.ok.nd) (tgNames_ok h.ok _ _ ht) (adOf_ok R h.ok _ _) (adOf_ok R h.ok _ _) h1 h2 (sole_no rfl) (swDec_ok h.ok.sc h.blk hsw))
      · cases e
    · cases e
  · cases e
end PF

set_option Elab.async false
set_option linter.all false
set_option maxRecDepth 100000
set_option maxHeartbeats 2000000
/-! PF65: x.get(k), x.get(k, d); tuple(x.items()). -/
namespace PF
open PySem PySem.Spec PyProof.Rows L2
/-! ### by data -/
section
variable [TabT] {K : PySem.W.Frag} {F : Addr → Prop} {H H' : Hp} {b : Option Addr} {g : List Int}
theorem ext_keep (B : Bg b g F H) (k1 : ∀ c o, H c = some o → H' c = some o) : Ext b F H F H' ∧ Bg b g F H' := by
  refine ⟨⟨fun _ f => f, fun _ f => .inl f, fun c o h _ _ => k1 c o h, fun c f => ?_, fun c e => ?_, ⟨fun p' _ ⟨ps, e, h1, h2⟩ => ⟨ps, k1 _ _ e, h1, fun pos cv hc => ?_⟩⟩⟩, ⟨fun c f => ?_, fun c e => ?_⟩⟩
  · obtain ⟨o, q, n⟩ := B.wf c f
    exact ⟨o, k1 _ _ q, n⟩
  · obtain ⟨h, n⟩ := B.bag c e
    exact ⟨n, _, k1 _ _ h⟩
  · obtain ⟨c, ec, hc'⟩ := h2 pos cv hc
    exact ⟨c, ec, k1 _ _ hc'⟩
  · obtain ⟨o, q, n⟩ := B.wf c f
    exact ⟨o, k1 _ _ q, n⟩
  · obtain ⟨h, n⟩ := B.bag c e
    exact ⟨k1 _ _ h, n⟩
theorem reps_tuples (m : Mono F H F H') : ∀ {ts : List Addr} {prs : List (V × V)} {ps : List (D × D)}, Paired (fun (t : Addr) (q : V × V) => H' t = some (.tup [q.1, q.2])) ts prs → RepPr K F H prs ps →
    RepAll K F H' (ts.map V.ref) (ps.map fun p => .tuple [p.1, p.2])
  | _, _, _, .nil, .nil => .nil
  | _, _, _, .cons h t, .cons r s => .cons (.tup (.inl (.inl h)) (.cons (r.1.up m) (.cons (r.2.up m) .nil))) (reps_tuples m t s)
end
section
variable [TabT] {X : Cx} {ct : Nat → ClsInfo} {d dk df : Env → M D} {e k f : Expr} {p ap cp pos : Pos}
def fTupIt (d : Env → M D) : Env → M D := fun ρ g => (d ρ g).bind fun x g1 => match x with | .dict ps => if excP ps = true then .fail else .ok (.tuple (ps.map fun p => .tuple [p.1, p.2])) g1 | _ => .fail
theorem se_tupIt (hc : X.calm = true) (hG : Gl X "tuple") (hm : X.mg "tuple" = none) (h : SO X ct d e) (hb : attributeBase e "items" X.env (eval e X.env) = eval e X.env) (hl : (ap.endLine == cp.line) = true) :
    SE X ct (fTupIt d) (.Call (.Name "tuple" p) [.Call (.Attribute e "items" ap) [] [] cp] [] pos) := fun W tk => by
  refine peW (pe_tupItems hc (h W tk) hG hm hb hl rfl) fun σ H Q ⟨b, F, ow, ρ, g, S, o⟩ => ?_
  refine rd1 S o fun x g1 F1 H1 v e1 S1 r1 o1 => ?_
  cases x <;> first | (exact o1.elim) | skip
  rename_i ps
  dsimp only at o1
  by_cases hx : excP ps = true
  · rw [if_pos hx] at o1; exact o1.elim
  rw [if_neg hx] at o1
  obtain ⟨a, u, rfl, hR, r⟩ := r1.dict (by simpa using hx)
  obtain ⟨prs, hI, hp⟩ := r.items hR
  refine ⟨a, prs, rfl, hI, fun H' ts q k1 _ k3 hq => ?_⟩
  obtain ⟨e2, B2⟩ := ext_keep S1.toBg k1
  have e3 := Ext.new (o := .tup (ts.map V.ref)) B2 hq
  have B3 : Bg b g1 F1 (upd H' q (.tup (ts.map V.ref))) := B2.new hq
  exact o1 F1 _ (e2.trans e3) B3 _ (.tup (.inl (.inl upd_same)) ((reps_tuples (e2.up S1.toBg) k3 hp).up (e3.up B2)))
/-! ### x.get(k), x.get(k, f) -/
theorem RepO.dgetE {K : PySem.W.Frag} {b : Option Addr} {F : Addr → Prop} {H : Hp} {v u : V} {ps : List (D × D)} {kx : D} (r : RepO K b F H v (.dict ps)) (rk : Rep K F H u kx) (hk : keyInD kx ps = true) :
    ∃ a o, v = .ref a ∧ DGetE K H a u o ∧ ((getDK ps kx = none ∧ o = none) ∨ ∃ w z, getDK ps kx = some z ∧ o = some w ∧ Rep K F H w z) := by
  obtain ⟨a, w, rfl, hR, q⟩ := r.dict (by
    rcases Bool.or_eq_true_iff.mp hk with hk | hk
    · exact plain_nexc (Bool.and_eq_true_iff.mp hk).2
    · exact ents_nexc (Bool.and_eq_true_iff.mp hk).2)
  rcases Bool.or_eq_true_iff.mp hk with hk | hk
  · obtain ⟨hk, hp⟩ := Bool.and_eq_true_iff.mp hk
    obtain ⟨kk, rfl⟩ := isKey_eq hk
    obtain rfl : u = kV kk := repKey rk
    obtain ⟨kvs, eu, q2⟩ := q.plain hp
    subst eu
    refine ⟨a, valV kvs kk, rfl, .inl (.inl ⟨kvs, kk, hR, rfl, rfl⟩), ?_⟩
    rcases q2.val kk with ⟨h1, h2⟩ | ⟨v1, z1, h1, h2, rz⟩
    · exact .inl ⟨h2, h1⟩
    · exact .inr ⟨v1, z1, h2, h1, rz⟩
  · obtain ⟨hk, hp⟩ := Bool.and_eq_true_iff.mp hk
    obtain ⟨ns, ht⟩ := Option.isSome_iff_exists.mp hk
    obtain rfl := tupKD_eq ht
    obtain ⟨b', vs, rfl, hb, rt⟩ := rk.tuple
    rw [rt.ints] at hb
    obtain ⟨xs, hE, q2⟩ := q.rdE hR hp
    rcases q2.val ns with ⟨h1, h2⟩ | ⟨v1, z1, h2, h1, rz⟩
    · exact ⟨a, none, rfl, .inr ⟨xs, ns, b', hE, rfl, hb, h2⟩, .inl ⟨h1, rfl⟩⟩
    · exact ⟨a, some v1, rfl, .inr ⟨xs, ns, b', hE, rfl, hb, h2⟩, .inr ⟨v1, z1, h1, rfl, rz⟩⟩
theorem RepO.isDE {K : PySem.W.Frag} {b : Option Addr} {F : Addr → Prop} {H : Hp} {v : V} {ps : List (D × D)} (r : RepO K b F H v (.dict ps)) (nx : excP ps = false) : ∃ a, v = .ref a ∧ IsDE H a := by
  obtain ⟨a, w, rfl, hR, q⟩ := r.dict nx
  cases q with
  | dk e _ => subst e; exact ⟨a, rfl, .inl (.inl ⟨_, hR⟩)⟩
  | en e _ => subst e; exact ⟨a, rfl, .inr ⟨_, hR⟩⟩
def dGet1 (d dk : Env → M D) : Env → M D := fun ρ g => (d ρ g).bind fun x g1 => match x with
  | .dict ps => if excP ps = true then .fail else (dk ρ g1).bind fun k g2 => if keyInD k ps = true then .ok ((getDK ps k).getD .none) g2 else .fail
  | _ => .fail
theorem se_get1 (hu : X.A.units + 1 < cLine) (h : SO X ct d e) (hk : SE X ct dk k) (m : M1 X e "get" ap k cp) : SE X ct (dGet1 d dk) (.Call (.Attribute e "get" ap) [k] [] cp) := fun W tk => by
  refine peW (pe_dget1E hu (h W tk) (hk W tk) m) fun σ H Q ⟨b, F, ow, ρ, g, S, o⟩ => ?_
  refine rd1 S o fun x g1 F1 H1 v e1 S1 r1 o1 => ?_
  cases x <;> first | (exact o1.elim) | skip
  rename_i ps
  dsimp only at o1
  by_cases hx : excP ps = true
  · rw [if_pos hx] at o1; exact o1.elim
  rw [if_neg hx] at o1
  obtain ⟨a, rfl, hD⟩ := r1.isDE (by simpa using hx)
  refine ⟨a, rfl, hD, ?_⟩
  refine ⟨b, F1, ow, ρ, g1, S1, (Out.bind0 o1).imp fun kx g2 F2 H2 e2 B2 o2 u ru => ?_⟩
  by_cases hkk : keyInD kx ps = true
  · rw [if_pos hkk] at o2
    obtain ⟨a', ov, ea, hg, hh⟩ := (r1.up e2 S1.toBg).dgetE ru hkk
    cases ea
    refine ⟨ov, hg, ?_⟩
    have o3 := Out.shift o2 e2
    rcases hh with ⟨z1, z2⟩ | ⟨w, z, z1, z2, rz⟩
    · rw [z1] at o3; rw [z2]; exact Out.ok o3 B2 _ .non
    · rw [z1] at o3; rw [z2]; exact Out.ok o3 B2 _ rz
  · rw [if_neg hkk] at o2; exact o2.elim
theorem m1_ok {m : Str} (hs : isStarB k = false) (hbase : attributeBase e m X.env (eval e X.env) = eval e X.env) (hline : (ap.endLine == cp.line) = true) : M1 X e m ap k cp := by
  have h1 : starEach [k] X.env = (false, eval k X.env) :: [] := by
    rw [star_no (es := []) hs]
    rfl
  refine ⟨hbase, ?_, hline, ?_⟩
  · rw [h1]; rfl
  · rw [h1]; rfl
end
def rGet : RuleE := fun r S e => match e with
  | .Call (.Attribute e m ap) [k] [] cp => if plainB e && (ap.endLine == cp.line) && !isStarB k && m == ("get" : Str) then some (dGet1 (r.o S e) (r.e S k)) else none
  | _ => none
theorem rGet_ok [TabT] : rGet.Ok := fun r R X S h e d q => by
  unfold rGet at q
  split at q
  · split at q
    · rename_i hh
      simp only [Bool.and_eq_true, Bool.not_eq_true'] at hh
      obtain ⟨⟨⟨h1, h2⟩, h3⟩, h4⟩ := hh
      have h4 := eq_of_beq h4
      subst h4
      cases q
      exact se_get1 (by have := h.un; omega) (R.o h _) (R.e h _) (m1_ok h3 (base_plain h1) h2)
    · cases q
  · cases q
def rTupIt : RuleE := fun r S e => match e with
  | .Call (.Name x p) [.Call (.Attribute e m ap) [] [] cp] [] _ => if plainB e && (ap.endLine == cp.line) && m == ("items" : Str) && x == ("tuple" : Str) && glB S x && S.nog x then some (fTupIt (r.o S e)) else none
  | _ => none
theorem rTupIt_ok [TabT] : rTupIt.Ok := fun r R X S h e d q => by
  unfold rTupIt at q
  split at q
  · split at q
    · rename_i hh
      simp only [Bool.and_eq_true] at hh
      obtain ⟨⟨⟨⟨⟨h1, h2⟩, h3⟩, h4⟩, h5⟩, h6⟩ := hh
      have h3 := eq_of_beq h3
      subst h3
      have h4 := eq_of_beq h4
      subst h4
      cases q
      exact se_tupIt h.calm (gl_ok h h5).1 (h.nog _ h6) (R.o h _) (base_plain h1) h2
    · cases q
  · cases q
end PF

set_option Elab.async false
set_option linter.all false
set_option maxRecDepth 100000
set_option maxHeartbeats 2000000
/-! PF69: exceptions as values: C(e), isinstance(e, C), e.f. -/
namespace PF
open PySem PySem.Spec PyProof.Rows L2
variable [TabT]
section
variable {X : Cx} {ct : Nat → ClsInfo} {e : Expr} {pos p p2 : Pos} {C : Addr} {f x y : Str} {d : Env → M D}

/-! ### C(e), a class whose __init__ is «super().__init__(x); self.f = x» -/
theorem sup_inv {pins : List (Addr × Obj)} {σ : L2.St} {H1 : Hp} {hp : Heap} {g : Array GenState} {dr : Drawn} {tk : Nat} {os : OsState} {s2 : Shared} {d t1 : Addr} {u : Value} {y : V} {o1 : Obj} (I1 : Inv X pins σ H1 ⟨hp, g, dr, tk, os⟩)
    (hget : ((hp.push o1).push (PySem.HandSPX.excO C hp.objs.size)).get? (hp.objs.size + 1) = some (PySem.HandSPX.excO C hp.objs.size))
    (hos : s2.os = os) (hgs : s2.gens = g) (kp : ∀ b o, b ≠ hp.objs.size + 1 → ((hp.push o1).push (PySem.HandSPX.excO C hp.objs.size)).get? b = some o → s2.heap.get? b = some o) (he : s2.heap.get? (hp.objs.size + 1) = some (PySem.W.excObj C t1 (some d) .none))
    (hd : ((hp.push o1).push (PySem.HandSPX.excO C hp.objs.size)).objs.size ≤ d) (dne : d ≠ hp.objs.size + 1) (hns : s2.heap.Ns1 d (fun n => if n = f then some u else none)) (ry : RelV y u) :
    Inv X pins σ (upd (upd (upd H1 (hp.objs.size + 1) (exo (hp.objs.size + 1) C none)) d (exd d [(f, y)])) (hp.objs.size + 1) (exo (hp.objs.size + 1) C (some d))) s2 ∧ H1 (hp.objs.size + 1) = none ∧ H1 d = none := by
  obtain ⟨hh, gg, dd, tt, oo⟩ := s2
  obtain rfl : oo = os := hos
  obtain rfl : gg = g := hgs
  have ksz : ∀ b o, hp.get? b = some o → ((hp.push o1).push (PySem.HandSPX.excO C hp.objs.size)).get? b = some o := fun b o z => Heap.get?_push_of_some _ (Heap.get?_push_of_some _ z)
  have sz : hp.objs.size ≤ hp.objs.size + 1 := Nat.le_succ _
  have nA : H1 (hp.objs.size + 1) = none := I1.hok.fresh sz
  have ltd : hp.objs.size ≤ d := Nat.le_trans (by rw [Heap.size_push, Heap.size_push]; omega) hd
  have nD : H1 d = none := I1.hok.fresh ltd
  have I2 : Inv X pins σ (upd H1 (hp.objs.size + 1) (exo (hp.objs.size + 1) C none)) ⟨(hp.push o1).push (PySem.HandSPX.excO C hp.objs.size), gg, dr, tk, oo⟩ :=
    I1.laid (t' := tk) (o := exo (hp.objs.size + 1) C none) ksz sz (exo_ok hget)
  let H2 : Hp := upd (upd (upd H1 (hp.objs.size + 1) (exo (hp.objs.size + 1) C none)) d (exd d [(f, y)])) (hp.objs.size + 1) (exo (hp.objs.size + 1) C (some d))
  have other : ∀ b, b ≠ hp.objs.size + 1 → b ≠ d → H2 b = H1 b := fun b n1 n2 => by
    show upd _ _ _ b = _
    rw [upd_ne n1, upd_ne n2, upd_ne n1]
  have ltp : ∀ {b : Addr} {o : Obj}, ((hp.push o1).push (PySem.HandSPX.excO C hp.objs.size)).get? b = some o → b ≠ d := fun {b o} z => Nat.ne_of_lt (Nat.lt_of_lt_of_le (Heap.lt_size z) hd)
  have nlt : ∀ {b : Addr} {o : HO}, H1 b = some o → b ≠ hp.objs.size + 1 ∧ b ≠ d := fun {b o} z => ⟨fun q => (by rw [q, nA] at z; cases z), fun q => (by rw [q, nD] at z; cases z)⟩
  have un : Un (frs X.stack) [] (upd H1 (hp.objs.size + 1) (exo (hp.objs.size + 1) C none)) H2 ((hp.push o1).push (PySem.HandSPX.excO C hp.objs.size)) hh := {
    keep := fun b o z n _ _ => kp b o (fun w => by rw [w, upd_same] at n; cases n) z
    slot := fun b o z n _ _ => ⟨o.slots, kp b o (fun w => by rw [w, upd_same] at n; cases n) z⟩
    free := fun b o z n _ => by
      have na : b ≠ hp.objs.size + 1 := fun w => by rw [w, upd_same] at n; cases n
      rw [other b na (ltp z)]
      rw [upd_ne na] at n
      exact n
    there := fun b o z _ => by
      by_cases ha : b = hp.objs.size + 1
      · exact ⟨_, by rw [ha]; exact he⟩
      · exact ⟨o, kp b o ha z⟩
    tups := fun b xs z => by
      by_cases ha : b = hp.objs.size + 1
      · rw [ha, upd_same] at z; exact absurd (Option.some.inj z) exo_tup
      · rw [upd_ne ha] at z
        rw [other b ha (nlt z).2]; exact z
    frzs := fun b o v z => by
      by_cases ha : b = hp.objs.size + 1
      · rw [ha, upd_same] at z; exact absurd (Option.some.inj z) exo_frz
      · rw [upd_ne ha] at z
        rw [other b ha (nlt z).2]; exact z
    tbls := fun b ps z => by
      by_cases ha : b = hp.objs.size + 1
      · rw [ha, upd_same] at z; exact absurd (Option.some.inj z) exo_tbl
      · rw [upd_ne ha] at z
        refine ⟨#[], ?_⟩
        rw [other b ha (nlt z).2, z]; simp }
  have hok : HOk X.prog X.w H2 hh := fun b o z => by
    by_cases ha : b = hp.objs.size + 1
    · subst ha
      have z' : some (exo (hp.objs.size + 1) C (some d)) = some o := by rw [← z]; exact upd_same.symm
      cases z'
      exact exo_ok he
    · by_cases hb : b = d
      · subst hb
        have z' : some (exd b [(f, y)]) = some o := by
          rw [← z]
          show _ = upd _ _ _ b
          rw [upd_ne ha, upd_same]
        cases z'
        exact exd_ok hns (fun n => by
          by_cases hn : n = f
          · subst hn
            rw [if_pos rfl]
            show RelO (List.lookup n [(n, y)]) _
            rw [List.lookup_cons, beq_self_eq_true]
            exact ry
          · rw [if_neg hn]
            show RelO (List.lookup n [(f, y)]) _
            rw [List.lookup_cons, show (n == f) = false by simpa using hn]
            exact True.intro)
      · rw [other b ha hb] at z
        refine (I1.hok b o z).stay (fun c v hc w => ?_) (fun c hc => ?_) (fun c xs hc => ?_)
        · have hcs : H1 c ≠ none := by
            rcases hc with hc | hc
            · rw [hc, z]; simp
            · rw [hc]; simp
          exact kp c v (fun q => hcs (by rw [q]; exact nA)) (ksz c v w)
        · rw [other c (nlt hc).1 (nlt hc).2]; exact hc
        · rw [other c (nlt hc).1 (nlt hc).2]; exact hc
  exact ⟨I2.call (t' := tt) (d' := dd) un hok I1.bare fun _ z => (nomatch z), nA, nD⟩
theorem pe_sup {te : TE} {k : Nat} (T : SupC X.prog X.K C f) (hr : Room (k + 1) X.A) (hg : Gl X x) (hm : X.mg x = some (.ref C)) (ha : PE X e te) (hs : isStarB e = false) (hdb : (x == ("__debug__" : Str)) = false) :
    PE X (.Call (.Name x p) [e] [] pos) (fun σ H Q => te σ H fun y H1 => ∀ a d, H1 a = none → H1 d = none → d ≠ a → Q (.ref a) (upd (upd (upd H1 a (exo a C none)) d (exd d [(f, y)])) a (exo a C (some d)))) := by
  refine ⟨fun pins s σ H Q I h => ?_⟩
  refine wpAny_Call_Name_kw (ld_glob I hg hm ?_ hdb)
  refine PySem.W.callWith_K (h₀ := X.base) I.ok.mod.kin T.kC (thn ((pa_cons ha pa_nil (star_no hs)).run pos pins s σ H (fun vs H1 => match vs with | [y] => ∀ a d, H1 a = none → H1 d = none → d ≠ a → Q (.ref a) (upd (upd (upd H1 a (exo a C none)) d (exd d [(f, y)])) a (exo a C (some d))) | _ => False) I h) fun us s1 ⟨vs, H1, I1, r1, q1⟩ => ⟨I1.kIn, ?_⟩) (star_no hs) rfl
  · match vs, q1, r1 with
    | [y], q1, r1 =>
      show wpAny _ _ (call (.ref C) us) _ _ _
      obtain ⟨hp, g, dr, tk, os⟩ := s1
      cases r1 with
      | @cons _ u0 _ ur ru rn =>
      cases rn
      obtain ⟨nm, N', qn, bs, bm, hdct, sn, sub, ab, col, dd, k0, k1, k2, k3, k5, hC, hT⟩ := PySem.W.excInit_of I1.kIn T.cls
      refine wpAny_call (PySem.HandSPX.call_own T.FB hT hC (PySem.W.looks_findIn I1.kIn T.iC) (fun self => PySem.W.bind_fn I1.kIn self T.tI) (by rw [sizeLine_eq]; exact Nat.le_of_ble_eq_true rfl) ?_)
      have kk : ∀ b o, hp.get? b = some o → ((hp.push (PySem.W.kdv_tup [u0])).push (PySem.HandSPX.excO C hp.objs.size)).get? b = some o := fun b o z => Heap.get?_push_of_some _ (Heap.get?_push_of_some _ z)
      have hget : ((hp.push (PySem.W.kdv_tup [u0])).push (PySem.HandSPX.excO C hp.objs.size)).get? (hp.objs.size + 1) = some (PySem.HandSPX.excO C hp.objs.size) := by heap_get
      have hK : X.K.lookup (hp.objs.size + 1) = none := by
        cases z : X.K.lookup (hp.objs.size + 1) with
        | none => rfl
        | some o => exact absurd (Heap.lt_size (I1.kIn _ _ z)) (by show ¬ (hp.objs.size + 1 < hp.objs.size); omega)
      obtain ⟨mb, h1, h2⟩ := I1.mod.blt
      have kb : ∀ b o, X.base.get? b = some o → ((hp.push (PySem.W.kdv_tup [u0])).push (PySem.HandSPX.excO C hp.objs.size)).get? b = some o := fun b o z => kk b o (I1.bk b o z)
      refine sup_init T (mg := X.mg) (s := ⟨(hp.push (PySem.W.kdv_tup [u0])).push (PySem.HandSPX.excO C hp.objs.size), g, dr, tk, os⟩) (e := hp.objs.size + 1) (t0 := hp.objs.size) (u := u0) hget hK (I1.kIn.keeps kk) (I1.mod.glob.keeps kb) ⟨mb, h1.keeps kb, h2⟩ (I1.mod.nolimit.keeps kb)
        (by have := (hr.make C [u0] []).dp; omega) fun s2 d t1 e1 e2 kp he hd dne hns => ?_
      obtain ⟨J, n1, n2⟩ := sup_inv (o1 := PySem.W.kdv_tup [u0]) I1 hget e1 e2 kp he hd dne hns ru
      exact ⟨rfl, .ref (hp.objs.size + 1), _, J, rfl, q1 _ _ n1 n2 dne⟩
def dExcF (c : Nat) (f : Str) (d : Env → M D) : Env → M D := lift1 (fun x => some (.dict [(.none, .int c), (.str f, x)])) d
def dExc0 (c : Nat) (d : Env → M D) : Env → M D := lift1 (fun _ => some (.dict [(.none, .int c)])) d
theorem se_excF {k c : Nat} (T : SupC X.prog X.K (TabT.cl c).addr f) (hf : (TabT.cl c).field = some f) (xo : XcOk X.K (TabT.cl c).addr) (hr : Room (k + 1) X.A) (hg : Gl X x) (hm : X.mg x = some (.ref (TabT.cl c).addr)) (ha : SE X ct d e) (hs : isStarB e = false) (hdb : (x == ("__debug__" : Str)) = false) :
    SE X ct (dExcF c f d) (.Call (.Name x p) [e] [] pos) := fun W tk => by
  refine peW (pe_sup T hr hg hm (ha W tk) hs hdb) fun σ H Q ⟨b, F, ow, ρ, g, S, o⟩ => ?_
  refine rd1e S o fun z g1 F1 H1 v e1 S1 r1 o1 => ?_
  intro a dx ha hd hne
  have eq : upd (upd (upd H1 a (exo a (TabT.cl c).addr none)) dx (exd dx [(f, v)])) a (exo a (TabT.cl c).addr (some dx)) = upd (upd H1 dx (exd dx [(f, v)])) a (exo a (TabT.cl c).addr (some dx)) := by
    funext q
    by_cases hq : q = a
    · rw [hq, upd_same, upd_same]
    · rw [upd_ne hq, upd_ne hq]
      by_cases hq2 : q = dx
      · rw [hq2, upd_same, upd_same]
      · rw [upd_ne hq2, upd_ne hq2, upd_ne hq]
  rw [eq]
  have nt1 : NT (exd dx [(f, v)]) := fun _ z => nomatch (show HO.ext _ = HO.tbl _ from z)
  have nt2 : NT (exo a (TabT.cl c).addr (some dx)) := fun _ z => exo_tbl z
  have ha1 : upd H1 dx (exd dx [(f, v)]) a = none := by rw [upd_ne (Ne.symm hne)]; exact ha
  have e2 := Ext.newF (o := exd dx [(f, v)]) S1.toBg hd nt1
  have B2 := Bg.newF (o := exd dx [(f, v)]) S1.toBg hd nt1
  have e3 := Ext.newF (o := exo a (TabT.cl c).addr (some dx)) B2 ha1 nt2
  have B3 := Bg.newF (o := exo a (TabT.cl c).addr (some dx)) B2 ha1 nt2
  exact Out.ok o1 S1.toBg |> fun _ => o1 _ _ (e2.trans e3) B3 _ (.excf (.inr rfl) (.inl upd_same) (.inl (.inr rfl)) (.inl (by rw [upd_ne hne]; exact upd_same)) hf xo (r1.up ((e2.trans e3).up S1.toBg)))
theorem se_exc0 {c : Nat} {bmB : List Value} {B newId initId : String} (Fb : ExcBaseFacts B newId initId bmB) (q : PySem.W.excIn X.K (TabT.cl c).addr bmB newId = true) (hf : (TabT.cl c).field = none) (xo : XcOk X.K (TabT.cl c).addr) (kC : PySem.W.keepIn X.K (.ref (TabT.cl c).addr) = true) (hg : Gl X x) (hm : X.mg x = some (.ref (TabT.cl c).addr)) (ha : SE X ct d e) (hs : isStarB e = false) (hdb : (x == ("__debug__" : Str)) = false) :
    SE X ct (dExc0 c d) (.Call (.Name x p) [e] [] pos) := fun W tk => by
  refine peW (pe_exc1 Fb q hm kC hg (ha W tk) (star_no hs) hdb) fun σ H Q ⟨b, F, ow, ρ, g, S, o⟩ => ?_
  refine rd1e S o fun z g1 F1 H1 v e1 S1 r1 o1 => ?_
  intro a ha
  have nt1 : NT (ExO (.ref (TabT.cl c).addr) a) := fun _ z => nomatch (show HO.ext _ = HO.tbl _ from z)
  exact o1 _ _ (Ext.newF S1.toBg ha nt1) (Bg.newF S1.toBg ha nt1) _ (.exc (.inr rfl) (.inl upd_same) hf xo)

/-! ### isinstance(e, C) -/
def isE (n : Nat) (l : List Nat) : D → Option D
  | .dict ((.none, .int (.ofNat c)) :: _) => if c < n then some (.bool (l.contains c)) else none
  | _ => none
def dIsE (n : Nat) (l : List Nat) (d : Env → M D) : Env → M D := lift1 (isE n l) d
theorem isE_inv {n : Nat} {l : List Nat} {z r : D} (h : isE n l z = some r) : ∃ (c : Nat) (ps : List (D × D)), z = .dict ((.none, .int c) :: ps) ∧ c < n ∧ r = .bool (l.contains c) := by
  unfold isE at h
  split at h
  · rename_i c ps
    split at h
    · rename_i hlt; cases h; exact ⟨c, ps, rfl, hlt, rfl⟩
    · cases h
  · cases h
theorem se_isE {n : Nat} {l : List Nat} (htc : ∀ c, TabT.cl c = ct c) (I : IsiAt X.K X.mg ct y n l) (hg : Gl X x) (hm : X.mg x = none) (hv : bootBuiltins x = some (.builtin "isinstance")) (hg2 : Gl X y) (ha : SO X ct d e) (hs : isStarB e = false)
    (hn : x ≠ "__name__") (hdb : (x == ("__debug__" : Str)) = false) : SE X ct (dIsE n l d) (.Call (.Name x p) [e, .Name y p2] [] pos) := fun W tk => by
  obtain ⟨v, cv, hcase, hk⟩ := I.cv
  have hpe : PE X (.Name y p2) (tC v) ∧ ClsV v cv := by
    rcases hcase with ⟨a, h1, rfl, rfl⟩ | ⟨h1, h2, T, h3, rfl, rfl⟩
    · exact ⟨pe_glob hg2 h1 rfl I.hdb, .own _⟩
    · exact ⟨pe_bltn (v := .ty T) hg2 h1 h3 rfl h2 I.hdb, .ty _⟩
  refine peW (pe_callB call_isiY hg hm hv (pa_cons (ha W tk) (pa_cons hpe.1 pa_nil) (star_no hs)) hn hdb (star_no hs) rfl) fun σ H Q ⟨b, F, ow, ρ, g, S, o⟩ => ?_
  refine rd1 S o fun z g1 F1 H1 u e1 S1 r1 o1 => ?_
  cases hz : isE n l z with
  | none => simp only [hz] at o1; exact o1.elim
  | some r =>
    simp only [hz] at o1
    obtain ⟨c, ps, rfl, hlt, rfl⟩ := isE_inv hz
    obtain ⟨c2, ps2, e2, xo, ty⟩ := r1.excTy rfl
    have ec : c2 = c := by
      injection e2 with e2
      injection e2 with e2 _
      injection e2 with _ e2
      injection e2 with e2
      exact (Int.ofNat.inj e2).symm
    subst ec
    rw [htc] at ty
    exact ⟨u, v, _, cv, _, rfl, hpe.2, ty, hk _ hlt, Out.ok o1 S1.toBg _ (.bl _)⟩

/-! ### e.f -/
def attrE (f : Str) : D → Option D
  | .dict [(.none, .int _), (.str f', v)] => if f' = f then some v else none
  | _ => none
def dAttr (f : Str) (d : Env → M D) : Env → M D := lift1 (attrE f) d
theorem attrE_inv {f : Str} {z r : D} (h : attrE f z = some r) : ∃ c, z = .dict [(.none, .int c), (.str f, r)] := by
  unfold attrE at h
  split at h
  · rename_i c f' v
    split at h
    · rename_i hf; cases h; exact ⟨c, by rw [hf]⟩
    · cases h
  · cases h
theorem pe_fldE {te : TE} {n : Str} (he : PE X e te) (hb : attributeBase e n X.env (eval e X.env) = eval e X.env) :
    PE X (.Attribute e n pos) (fun σ H Q => te σ H fun x H1 => ∃ (a C dd : Addr) (fs : List (Str × V)) (v : V), x = .ref a ∧ XfC X.K C ∧ PySem.W.findIn X.K (.ref C) n = some none ∧ Rd H1 a (exo a C (some dd)) ∧ Rd H1 dd (exd dd fs) ∧ fs.lookup n = some v ∧ Q v H1) := by
  refine ⟨fun pins s σ H Q I h => attr_of hb (thn (he.run pins s σ H _ I h) fun u s1 hh => ?_)⟩
  obtain ⟨y, H1, I1, ry, a, C, dd, fs, v, ey, T, hno, hx, hdx, l, q⟩ := hh
  subst ey
  obtain rfl : u = Value.ref a := ry
  have fin : ∀ {a : Addr} {w : HO}, Rd H1 a w → ObjOk X.prog X.w H1 s1.heap a w := fun h => by
    rcases h with h | ⟨o, h⟩
    · exact I1.hok _ _ h
    · exact (I1.hok _ _ h).2
  obtain ⟨⟨t1, ho⟩, _, _⟩ := fin hx
  obtain ⟨⟨mA, hns, hr⟩, _, _⟩ := fin hdx
  obtain ⟨od, hod, hl⟩ := lookIn_ns hns
  have hrn := hr n
  rw [l] at hrn
  obtain ⟨u2, hu, ru⟩ := RelO.some_of hrn
  have J : PySem.W.InstAt s1.heap a _ C (some od) := ⟨ho, rfl, rfl, hod⟩
  exact HandSPX.exc_get I1.kIn J T.ga T.gg T.exC (PySem.W.findObj_own T.hdC hno rfl (by rw [hl, hu])) (handed_of ru) ⟨v, H1, I1.tok _, ru, q⟩
theorem se_fldE {n : Str} (xf : ∀ c f, (TabT.cl c).field = some f → XfC X.K (TabT.cl c).addr ∧ PySem.W.findIn X.K (.ref (TabT.cl c).addr) f = some none) (he : SO X ct d e) (hb : attributeBase e n X.env (eval e X.env) = eval e X.env) : SE X ct (dAttr n d) (.Attribute e n pos) := fun W tk => by
  refine peW (pe_fldE (he W tk) hb) fun σ H Q ⟨b, F, ow, ρ, g, S, o⟩ => ?_
  refine rd1 S o fun z g1 F1 H1 u e1 S1 r1 o1 => ?_
  cases hz : attrE n z with
  | none => simp only [hz] at o1; exact o1.elim
  | some r =>
    simp only [hz] at o1
    obtain ⟨c, rfl⟩ := attrE_inv hz
    cases r1 with
    | ownd nb h q => exact absurd q.nexc (by intro z; cases z)
    | rep r1 =>
      cases r1 with
      | dct f h q => exact absurd q.nexc (by intro z; cases z)
      | excf f1 h f2 k ef x rv =>
        obtain ⟨T, hno⟩ := xf _ _ ef
        exact ⟨_, _, _, _, _, rfl, T, hno, h, k, by rw [List.lookup_cons, beq_self_eq_true], Out.ok o1 S1.toBg _ rv⟩
end

/-! ### the rules -/
def rExcV : RuleE := fun r S e => match e with
  | .Call (.Name x _) [e] [] _ => if glB S x && !isStarB e && decide (1 ≤ S.k) then (match S.cls x, S.isi x with
    | some c, some (n, _) => if c < n then (match (S.ct c).field with
      | some f => some (dExcF c f (r.e S e))
      | none => some (dExc0 c (r.e S e))) else none
    | _, _ => none) else none
  | .Call (.Name x _) [e, .Name y _] [] _ => if x == ("isinstance" : Str) && glB S x && S.nog x && glB S y && !isStarB e then (match S.isi y with
    | some (n, l) => some (dIsE n l (r.o S e))
    | none => none) else none
  | .Attribute e f _ => if plainB e then some (dAttr f (r.o S e)) else none
  | _ => none
theorem rExcV_ok [TabT] : rExcV.Ok := fun r R X S h e d q => by
  have hx := h.xf
  unfold rExcV at q
  split at q
  · split at q
    · rename_i hh
      simp only [Bool.and_eq_true, Bool.not_eq_true', decide_eq_true_eq] at hh
      obtain ⟨⟨h1, h2⟩, h3⟩ := hh
      split at q
      · rename_i c n l hc hi
        split at q
        · rename_i hlt
          have T := h.cls _ _ hc
          have I := h.isi _ _ _ hi
          have xo := I.exc c hlt
          obtain ⟨g1, g2⟩ := gl_ok h h1
          have hm := T.hm
          have kp := T.kp
          have tc := h.tcl c
          split at q
          · rename_i f hf
            cases q
            obtain ⟨U⟩ := T.sup f hf
            have hr : Room (S.k - 1 + 1) X.A := by rw [Nat.sub_add_cancel h3]; exact h.room
            rw [← tc] at U hf hm xo
            exact se_excF U hf xo hr g1 hm (R.e h _) h2 T.hdb
          · rename_i hf
            cases q
            obtain ⟨B, n1, n2, bm, F1, F2⟩ := T.own hf
            rw [← tc] at F2 hf hm xo kp
            exact se_exc0 F1 F2 hf xo kp g1 hm (R.e h _) h2 T.hdb
        · cases q
      · cases q
    · cases q
  · split at q
    · rename_i hh
      simp only [Bool.and_eq_true, Bool.not_eq_true'] at hh
      obtain ⟨⟨⟨⟨hxn, hg⟩, hn⟩, hg2⟩, hs⟩ := hh
      split at q
      · rename_i n l hi
        cases q
        have hxn := eq_of_beq hxn
        subst hxn
        obtain ⟨g1, g2⟩ := gl_ok h hg
        obtain ⟨g3, g4⟩ := gl_ok h hg2
        exact se_isE h.tcl (h.isi _ _ _ hi) g1 (h.nog _ hn) boot_isi g3 (R.o h _) hs (by decide) g2
      · cases q
    · cases q
  · split at q
    · rename_i hp
      cases q
      exact se_fldE (fun c f hf => by rw [h.tcl c] at hf ⊢; exact h.xf c f hf) (R.o h _) (base_plain hp)
    · cases q
  · cases q
end PF

set_option Elab.async false
set_option linter.all false
set_option maxRecDepth 100000
set_option maxHeartbeats 2000000
/-! PF70: a dict display of several pairs; the texts of dicts compared. -/
namespace PF
open PySem PySem.Spec PyProof.Rows L2
variable [TabT]
section
variable {X : Cx} {ct : Nat → ClsInfo} {pos : Pos}

/-! ### {k: v, ..} -/
def kvNil : Env → M (List (D × D)) := fun _ g => .ok [] g
def kvCons (dk dv : Env → M D) (r : Env → M (List (D × D))) : Env → M (List (D × D)) := fun ρ g => (dk ρ g).bind fun x g1 => if isKeyD x = true then (dv ρ g1).bind fun z g2 => (r ρ g2).bind fun qs g3 => .ok ((x, z) :: qs) g3 else .fail
def SPs (X : Cx) (ct : Nat → ClsInfo) (d : Env → M (List (D × D))) (keys : List (Option Expr)) (values : List Expr) : Prop :=
  ∀ W : WX, Takes X W → ∀ pos, ∃ trs, PPs X pos keys values trs ∧ ∀ (b : Option Addr) (F : Addr → Prop) (ow : Nat → Option Addr) (ρ : Env) (g : List Int) (σ : L2.St) (H : Hp) (Q : List (V × V) → Hp → Prop), StR X.K b F H ow σ ρ g →
    Out X.K ct b F H (fun c dx H' => W c dx σ H') (fun qs g' F' H' => ∀ kvs : List (Key × V), RepKv X.K F' H' kvs qs → Q (kvs.map fun kv => (kV kv.1, kv.2)) H') (d ρ g) → tPairs trs σ H Q
theorem sps_nil : SPs X ct kvNil [] [] := fun W tk pos => ⟨[], pps_nil, fun b F ow ρ g σ H Q S o => o F H (Ext.refl S.toBg) S.toBg [] .nil⟩
theorem sps_cons {k v : Expr} {ks : List (Option Expr)} {vs : List Expr} {dk dv : Env → M D} {r : Env → M (List (D × D))} (hk : SE X ct dk k) (hv : SE X ct dv v) (hr : SPs X ct r ks vs) : SPs X ct (kvCons dk dv r) (some k :: ks) (v :: vs) := fun W tk pos => by
  obtain ⟨trs, h1, h2⟩ := hr W tk pos
  refine ⟨_, pps_cons (hk W tk) (hv W tk) h1, fun b F ow ρ g σ H Q S o => ?_⟩
  refine ⟨b, F, ow, ρ, g, S, (Out.bind0 o).imp fun x g1 F1 H1 e1 B1 o1 v1 r1 => ?_⟩
  by_cases hkk : isKeyD x = true
  · rw [if_pos hkk] at o1
    obtain ⟨kk, rfl⟩ := isKey_eq hkk
    obtain rfl : v1 = kV kk := repKey r1
    have S1 := S.up e1 B1
    refine ⟨b, F1, ow, ρ, g1, S1, (Out.shift (Out.bind0 o1) e1).imp fun z g2 F2 H2 e2 B2 o2 v2 r2 => ?_⟩
    have S2 := S1.up e2 B2
    refine h2 b F2 ow ρ g2 σ H2 _ S2 ((Out.shift (Out.bind0 o2) (e1.trans e2)).imp fun qs g3 F3 H3 e3 B3 o3 kvs rk => ?_)
    have o4 := Out.shift o3 ((e1.trans e2).trans e3)
    exact o4 F3 H3 (Ext.refl B3) B3 ((kk, v2) :: kvs) (.cons (r2.up (e3.up B2)) rk)
  · rw [if_neg hkk] at o1; exact o1.elim
def fDisp (d : Env → M (List (D × D))) : Env → M (List (D × D)) := fun ρ g => (d ρ g).bind fun qs g1 => if qs.length ≤ 15 then .ok (mergeD [] qs) g1 else .fail
theorem repKv_length {K : PySem.W.Frag} {F : Addr → Prop} {H : Hp} : ∀ {kvs : List (Key × V)} {ps : List (D × D)}, RepKv K F H kvs ps → kvs.length = ps.length
  | _, _, .nil => rfl
  | _, _, .cons _ t => by rw [List.length_cons, List.length_cons, repKv_length t]
theorem sfd_disp {d : Env → M (List (D × D))} {keys : List (Option Expr)} {values : List Expr} (h : SPs X ct d keys values) (hall : keys.all (·.isSome) = true) (hl : keys.length = values.length) (h0 : keys ≠ []) (h15 : keys.length ≤ 15) :
    SFd X ct (fDisp d) (.Dict keys values pos) := fun W tk => by
  obtain ⟨trs, h1, h2⟩ := h W tk pos
  refine peW (pe_disp h1 hall hl h0 h15) fun σ H Q ⟨b, F, ow, ρ, g, S, o⟩ => ?_
  intro D hD
  have nf : ¬ F D := fun f => by
    obtain ⟨o', q, _⟩ := S.wf D f
    rw [hD] at q; cases q
  have nb : b ≠ some D := S.neNew hD
  have hN : Nn H D := nn_of hD
  have e1 := Ext.new (o := .dK []) S.toBg hD
  have S1 := S.up e1 (S.toBg.new hD)
  refine h2 b F ow ρ g σ _ _ S1 ((Out.shift (Out.bind0 o) e1).imp fun qs g3 F3 H3 e3 B3 o3 kvs rk => ?_)
  have hD3 : H3 D = some (.dK []) := e3.keep D _ upd_same nb
  have nf3 : ¬ F3 D := fun f => by
    rcases e3.fresh D f with z | z
    · exact nf z
    · exact z _ upd_same (by intro _ q; cases q)
  have hne : ∀ c, F3 c → c ≠ D := fun c f z => nf3 (z ▸ f)
  have eAll := e1.trans e3
  have nw : NT (HO.dK (mergeK [] kvs)) := by intro _ z; cases z
  have m : Mono F3 H3 F3 (upd H3 D (.dK (mergeK [] kvs))) := by
    refine ⟨fun _ f => f, fun c u f h => ?_, fun c ws h => ?_, fun c _ _ f h => by rw [upd_ne (hne c f)]; exact h⟩
    · rcases h with h | ⟨o', h⟩
      · exact .inl (by rw [upd_ne (hne c f)]; exact h)
      · exact .inr ⟨o', by rw [upd_ne (hne c f)]; exact h⟩
    · rcases h with h | ⟨o', h⟩
      · exact .inl (by rw [upd_ne (fun (z : c = D) => by rw [z, hD3] at h; cases h)]; exact h)
      · exact .inr ⟨o', by rw [upd_ne (fun (z : c = D) => by rw [z, hD3] at h; cases h)]; exact h⟩
  have eEnd : Ext b F H F3 (upd H3 D (.dK (mergeK [] kvs))) := by
    refine ⟨eAll.mono, eAll.fresh, fun c u h n nu => ?_, fun c f => ?_, fun c z => ?_, eAll.tb.trans (TabE.upd (fun o2 h2 => by rw [hD3] at h2; cases h2; exact pl_dK) nw)⟩
    · rw [upd_ne (nn_ne h nu hN)]; exact eAll.keep0 c u h n nu
    · obtain ⟨o', q⟩ := eAll.wf c f
      exact ⟨o', by rw [upd_ne (hne c f)]; exact q⟩
    · obtain ⟨n, ws, q⟩ := eAll.bag c z
      exact ⟨n, ws, by rw [upd_ne (fun (q : c = D) => nb (z.trans (by rw [q])))]; exact q⟩
  have B4 : Bg b g3 F3 (upd H3 D (.dK (mergeK [] kvs))) := by
    refine ⟨fun c f => ?_, fun c e => ?_⟩
    · obtain ⟨o', q⟩ := B3.wf c f
      exact ⟨o', by rw [upd_ne (hne c f)]; exact q⟩
    · obtain ⟨q, n⟩ := B3.bag c e
      exact ⟨by rw [upd_ne (fun (z : c = D) => nb (e.trans (by rw [z])))]; exact q, n⟩
  by_cases hz : qs.length ≤ 15
  · rw [if_pos hz] at o3
    refine ⟨hD3, kvs, rfl, by rw [repKv_length rk]; exact hz, ?_⟩
    exact o3 F3 _ eEnd B4 D _ hN nf3 nb upd_same (.dk rfl ((RepKv.merge rk .nil).up m))
  · rw [if_neg hz] at o3; exact o3.elim
def kvsOf (r : Rec) (S : Sta) : List (Option Expr) → List Expr → Option (Env → M (List (D × D)))
  | [], [] => some kvNil
  | some k :: ks, v :: vs => (kvsOf r S ks vs).map fun d => kvCons (r.e S k) (r.e S v) d
  | _, _ => none
theorem kvsOf_ok {r : Rec} (R : Sound r) {S : Sta} (h : StaOk X S) : ∀ {ks : List (Option Expr)} {vs : List Expr} {d : Env → M (List (D × D))}, kvsOf r S ks vs = some d → SPs X S.ct d ks vs ∧ ks.all (·.isSome) = true ∧ ks.length = vs.length
  | [], [], _, e => by cases e; exact ⟨sps_nil, rfl, rfl⟩
  | some k :: ks, v :: vs, _, e => by
    obtain ⟨d, hd, rfl⟩ := Option.map_eq_some_iff.mp (show (kvsOf r S ks vs).map (fun d => kvCons (r.e S k) (r.e S v) d) = _ from e)
    obtain ⟨a, b, c⟩ := kvsOf_ok R h hd
    exact ⟨sps_cons (R.e h _) (R.e h _) a, by simpa using b, by simp [c]⟩
  | [], _ :: _, _, e => by cases e
  | none :: _, _, _, e => by cases e
  | some _ :: _, [], _, e => by cases e
def rDispN : RuleK := fun r S e => match e with
  | .Dict (some k :: some k2 :: ks) vs _ => if (some k :: some k2 :: ks).length ≤ 15 then (kvsOf r S (some k :: some k2 :: ks) vs).map fDisp else none
  | _ => none
end
theorem rDispN_ok [TabT] : rDispN.Ok := fun r R X S h e d q => by
  unfold rDispN at q
  split at q
  · split at q
    · rename_i h15
      obtain ⟨d', hd, rfl⟩ := Option.map_eq_some_iff.mp q
      obtain ⟨a, b, c⟩ := kvsOf_ok R h hd
      exact sfd_disp a b c (List.cons_ne_nil _ _) h15
    · cases q
  · cases q

/-! ### texts of dicts -/
def keysP : List (D × D) → Bool
  | [] => true
  | (k, _) :: r => isKeyD k && keysP r
mutual
/-- no list within, dicts by ints and texts alone -/
def lfree : D → Bool
  | .list _ => false
  | .tuple xs => lfreeL xs
  | .dict ps => keysP ps && lfreeP ps
  | _ => true
def lfreeL : List D → Bool
  | [] => true
  | x :: xs => lfree x && lfreeL xs
def lfreeP : List (D × D) → Bool
  | [] => true
  | (_, v) :: r => lfree v && lfreeP r
end
theorem lfree_dict {ps : List (D × D)} (h : lfree (.dict ps) = true) : keysP ps = true ∧ lfreeP ps = true := by simpa only [lfree, Bool.and_eq_true] using h
theorem lfree_tup {xs : List D} (h : lfree (.tuple xs) = true) : lfreeL xs = true := by simpa only [lfree] using h
theorem lfree_cons {x : D} {xs : List D} (h : lfreeL (x :: xs) = true) : lfree x = true ∧ lfreeL xs = true := by simpa only [lfreeL, Bool.and_eq_true] using h
theorem lfree_consP {x : D × D} {xs : List (D × D)} (h : lfreeP (x :: xs) = true) : lfree x.2 = true ∧ lfreeP xs = true := by
  obtain ⟨k, v⟩ := x
  simpa only [lfreeP, Bool.and_eq_true] using h
section
variable {X : Cx} {pins : List (Addr × Obj)} {σ : L2.St} {F : Addr → Prop} {H : Hp} {s : Shared}
theorem reads_keys {hp : Heap} : ∀ {es : List DictEntry} {kvs : List (Key × Value)}, PySem.Pairs (mixKind X.prog X.w) es kvs → ReadsAll hp (es.map (·.key)) (kvs.map fun kv => kD kv.1) []
  | _, _, .nil => .nil
  | _, _, .cons (e := e) (kv := kv) hk _ t => by
    have ih := reads_keys (hp := hp) t
    rw [List.map_cons, List.map_cons]
    rcases keyIs_shape (show keyIs kv.1 e.key = true from hk) with ⟨i, u, e1, e2⟩ | ⟨z, u, e1, e2⟩
    · rw [e1, e2]; exact ReadsAll.cons (as := []) (Reads.int i u) ih
    · rw [e1, e2]; exact ReadsAll.cons (as := []) (Reads.str z u) ih
theorem pairs_vals {P : Program} {w : World} : ∀ {es : List DictEntry} {kvs : List (Key × Value)}, PySem.Pairs (mixKind P w) es kvs → es.map (·.val) = kvs.map (·.2)
  | _, _, .nil => rfl
  | _, _, .cons _ hv t => by rw [List.map_cons, List.map_cons, hv, pairs_vals t]
theorem kv_vals {κ : Type} : ∀ {kvs : List (κ × V)} {vs : List (κ × Value)}, KV kvs vs → Vals (kvs.map (·.2)) (vs.map (·.2)) ∧ kvs.map (·.1) = vs.map (·.1) := by
  intro kvs vs r
  unfold KV at r
  induction r with
  | nil => exact ⟨.nil, rfl⟩
  | cons h t ih => exact ⟨.cons h.2 ih.1, by rw [List.map_cons, List.map_cons, h.1, ih.2]⟩
theorem repKv_keys {K : PySem.W.Frag} : ∀ {kvs : List (Key × V)} {ps : List (D × D)}, RepKv K F H kvs ps → ps.map (·.1) = kvs.map fun kv => kD kv.1
  | _, _, .nil => rfl
  | _, _, .cons _ t => by rw [List.map_cons, List.map_cons, repKv_keys t]
mutual
theorem Rep.readsX (I : Inv X pins σ H s) : ∀ {v : V} {d : D}, Rep X.K F H v d → lfree d = true → ∀ u, RelV v u → ∃ as, Reads s.heap u d as ∧ sysModules ∉ as
  | _, _, .non, _, u, r => by cases r; exact ⟨_, .none, List.not_mem_nil⟩
  | _, _, .bl b, _, u, r => by cases r; exact ⟨_, .bool b, List.not_mem_nil⟩
  | _, _, .int i, _, u, r => by obtain ⟨t, rfl⟩ := r; exact ⟨_, .int i t, List.not_mem_nil⟩
  | _, _, .str x, _, u, r => by obtain ⟨t, rfl⟩ := r; exact ⟨_, .str x t, List.not_mem_nil⟩
  | _, _, .lst _ _, n, _, _ => by simp [lfree] at n
  | _, _, .tup hs ra, n, u, r => by
    cases r
    obtain ⟨its, rv, ⟨o, ho, hc, m, hd⟩, _⟩ := I.tuple hs
    obtain ⟨as, hr, na⟩ := RepAll.readsX I ra (lfree_tup n) its rv
    exact ⟨as, .tuple ho hc hd hr, na⟩
  | _, _, .dct (a := a) f h q, n, u, r => by
    cases r
    have n := lfree_dict n
    cases q with
    | dk e q =>
      subst e
      obtain ⟨_, x⟩ := I.hok _ _ h
      obtain ⟨hz, hsm, vs, rk, o, es, ep, e1, e2, e3, _, e5, _⟩ := x
      obtain ⟨rv, ek⟩ := kv_vals rk
      obtain ⟨bs, hb, nb⟩ := RepKv.readsX I q n.2 _ rv
      have hk : ReadsAll s.heap (es.toList.map (·.key)) _ [] := reads_keys (X := X) e5
      refine ⟨a :: [] ++ bs, .dict e1 e2.1 e3 (as := []) ?_ (by rw [pairs_vals e5]; exact hb), ?_⟩
      · rw [repKv_keys q]
        have e6 := congrArg (List.map kD) ek
        rw [List.map_map, List.map_map] at e6
        rw [show (fun kv : Key × V => kD kv.1) = kD ∘ (fun kv => kv.1) from rfl, e6]
        exact hk
      · intro hm
        rcases List.mem_cons.mp hm with z | z
        · rw [← z] at hsm; simp at hsm
        · exact nb z
    | en e q => cases q with | cons k1 k2 k3 k4 => exact absurd n.1 (by simp [keysP, isKeyD])
  | _, _, .exc _ _ _ _, n, _, _ => by simp [lfree, keysP, isKeyD] at n
  | _, _, .excf _ _ _ _ _ _ _, n, _, _ => by simp [lfree, keysP, isKeyD] at n
theorem RepAll.readsX (I : Inv X pins σ H s) : ∀ {vs : List V} {ds : List D}, RepAll X.K F H vs ds → lfreeL ds = true → ∀ us, Vals vs us → ∃ as, ReadsAll s.heap us ds as ∧ sysModules ∉ as
  | _, _, .nil, _, _, r => by cases r; exact ⟨_, .nil, List.not_mem_nil⟩
  | _, _, .cons h t, n, _, r => by
    have n := lfree_cons n
    cases r with
    | cons r1 r2 =>
      obtain ⟨as, q1, n1⟩ := Rep.readsX I h n.1 _ r1
      obtain ⟨bs, q2, n2⟩ := RepAll.readsX I t n.2 _ r2
      exact ⟨_, .cons q1 q2, fun hm => (List.mem_append.mp hm).elim n1 n2⟩
theorem RepKv.readsX (I : Inv X pins σ H s) : ∀ {vs : List (Key × V)} {ds : List (D × D)}, RepKv X.K F H vs ds → lfreeP ds = true → ∀ us, Vals (vs.map (·.2)) us → ∃ as, ReadsAll s.heap us (ds.map (·.2)) as ∧ sysModules ∉ as
  | _, _, .nil, _, _, r => by cases r; exact ⟨_, .nil, List.not_mem_nil⟩
  | _, _, .cons h t, n, _, r => by
    have n := lfree_consP n
    cases r with
    | cons r1 r2 =>
      obtain ⟨as, q1, n1⟩ := Rep.readsX I h n.1 _ r1
      obtain ⟨bs, q2, n2⟩ := RepKv.readsX I t n.2 _ r2
      exact ⟨_, .cons q1 q2, fun hm => (List.mem_append.mp hm).elim n1 n2⟩
end
end
def okRX : D → Bool
  | .list (x :: xs) => lfreeL (x :: xs) && PyData.showableAll (x :: xs) && decide (PyData.depth (.list (x :: xs)) ≤ 64) && decide ((PyData.shown (.list (x :: xs))).length ≤ sizeLine)
  | _ => false
def bReprX (d : D) : Option D := if okRX d = true then some (.str d.shown) else none
section
variable {X : Cx} {ct : Nat → ClsInfo}
def rReprX (K : PySem.W.Frag) : List V → Hp → VK → Prop := fun vs H Q => ∃ (b : Option Addr) (F : Addr → Prop) (v : V) (d : D), vs = [v] ∧ RepO K b F H v d ∧ okRX d = true ∧ Q (.str d.shown) H
theorem okRX_inv {d : D} (h : okRX d = true) : ∃ x xs, d = .list (x :: xs) ∧ lfreeL (x :: xs) = true ∧ PyData.showableAll (x :: xs) = true ∧ PyData.depth (.list (x :: xs)) ≤ 64 ∧ (PyData.shown (.list (x :: xs))).length ≤ sizeLine := by
  unfold okRX at h
  split at h
  · simp only [Bool.and_eq_true, decide_eq_true_eq] at h
    exact ⟨_, _, rfl, h.1.1.1, h.1.1.2, h.1.2, h.2⟩
  · cases h
theorem cr_reprX (hg : X.A.guards = some []) (hu : X.A.units + 128 < cLine) : CallR X (.builtin "repr") (rReprX X.K) := by
  intro pins s σ H vs us Q I r h
  obtain ⟨b, F, v, d, rfl, hd, ok, q⟩ := h
  obtain ⟨u, rfl, ru⟩ := vals1 r
  obtain ⟨x, xs, rfl, hl, hs, hdep, hz⟩ := okRX_inv ok
  obtain ⟨a, ws, rfl, hsq, hra⟩ := hd.list
  obtain rfl : u = Value.ref a := ru
  obtain ⟨its, rv, ⟨o, n, ho, hc, _, hda⟩, _⟩ := I.list hsq
  obtain ⟨as, hr, na⟩ := RepAll.readsX I hra hl its rv
  have hz' : (listText (PyData.shownAll (x :: xs))).length ≤ sizeLine := by
    have := hz
    simpa only [PyData.shown] using this
  obtain ⟨bs, hb, hk⟩ := ReprAllK.of_readsAll (prog := X.prog) (w := X.w) hr hs (fun _ => na) fun t ht => Nat.le_trans (listText_mem_le ht) hz'
  have whole : Reads s.heap (.ref a) (.list (x :: xs)) (a :: as) := .list ho hc hda hr
  have hna : a ∉ bs := not_mem_of_deeper whole (by show _ < PyData.depth _; simp only [PyData.depth]; omega) hb
  have kp : ∀ c w, s.heap.get? c = some w → s.heap.get? c = some w := fun _ _ e => e
  have hdep2 : PyData.depthAll (x :: xs) + 1 ≤ 64 := by
    have := hdep
    simpa only [PyData.depth] using this
  cases its with
  | nil => cases hr
  | cons y ys =>
    refine call_repr_slot (T := "list") (idr := "list.__repr__") (by omega) ⟨o, ho, hc⟩ PySem.F.slot_list_repr.toG ?_
    refine call_list_reprK (h₀ := s.heap) ho hc hda hna (by simpa using hk.length_eq) (fun i w e => hk.item i w (by simpa using e)) (g := []) hg (fun c _ => Clear.nil c) ?_ kp (fun h' t tk hkk => ⟨_, _, rfl, .str _, H, I.kept hkk, ⟨t, by simp only [PyData.shown]⟩, q⟩) hz'
    show X.A.units + 1 + (PyData.depthAll (x :: xs) + 1) < cLine
    omega
theorem bi_reprX (hg : X.A.guards = some []) (hu : X.A.units + 128 < cLine) : Bi X (.builtin "repr") (on1 bReprX) := by
  refine ⟨_, cr_reprX hg hu, fun b F H g vs ds z Q B rv e k => ?_⟩
  obtain ⟨d, rfl, e'⟩ := on1_inv e
  obtain ⟨v, rfl, r1⟩ := one_of rv
  unfold bReprX at e'
  split at e'
  · rename_i h
    cases e'
    exact ⟨b, F, v, d, rfl, r1, h, fin0 B (.str _) k⟩
  · cases e'
end
/-! data that are the same, dicts too -/
mutual
def sameX : D → D → Bool
  | .none, .none => true
  | .bool a, .bool b => (match a, b with | true, true => true | false, false => true | _, _ => false)
  | .int a, .int b => decide (a = b)
  | .str a, .str b => decide (a = b)
  | .list a, .list b => sameXs a b
  | .tuple a, .tuple b => sameXs a b
  | .dict a, .dict b => sameXp a b
  | _, _ => false
def sameXs : List D → List D → Bool
  | [], [] => true
  | a :: r, b :: q => if sameX a b = true then sameXs r q else false
  | _, _ => false
def sameXp : List (D × D) → List (D × D) → Bool
  | [], [] => true
  | (a, c) :: r, (b, d) :: q => if (sameX a b && sameX c d) = true then sameXp r q else false
  | _, _ => false
end
mutual
theorem sameX_eq : ∀ a b : D, sameX a b = true → a = b
  | .none, b, h => by cases b <;> first | rfl | (simp [sameX] at h; done)
  | .bool a, b, h => by
    cases b <;> first | (simp [sameX] at h; done) | skip
    rename_i b
    cases a <;> cases b <;> first | rfl | (simp [sameX] at h; done)
  | .int a, b, h => by
    cases b <;> first | (simp [sameX] at h; done) | skip
    simp only [sameX, decide_eq_true_eq] at h
    rw [h]
  | .str a, b, h => by
    cases b <;> first | (simp [sameX] at h; done) | skip
    simp only [sameX, decide_eq_true_eq] at h
    rw [h]
  | .list a, b, h => by
    cases b <;> first | (simp [sameX] at h; done) | skip
    simp only [sameX] at h
    rw [sameXs_eq _ _ h]
  | .tuple a, b, h => by
    cases b <;> first | (simp [sameX] at h; done) | skip
    simp only [sameX] at h
    rw [sameXs_eq _ _ h]
  | .dict a, b, h => by
    cases b <;> first | (simp [sameX] at h; done) | skip
    simp only [sameX] at h
    rw [sameXp_eq _ _ h]
theorem sameXs_eq : ∀ a b : List D, sameXs a b = true → a = b
  | [], [], _ => rfl
  | [], _ :: _, h => by simp [sameXs] at h
  | _ :: _, [], h => by simp [sameXs] at h
  | a :: r, b :: q, h => by
    simp only [sameXs] at h
    split at h
    · rename_i hh
      rw [sameX_eq a b hh, sameXs_eq r q h]
    · cases h
theorem sameXp_eq : ∀ a b : List (D × D), sameXp a b = true → a = b
  | [], [], _ => rfl
  | [], _ :: _, h => by simp [sameXp] at h
  | _ :: _, [], h => by simp [sameXp] at h
  | (a, c) :: r, (b, d) :: q, h => by
    simp only [sameXp] at h
    split at h
    · rename_i hh
      obtain ⟨h1, h2⟩ := Bool.and_eq_true_iff.mp hh
      rw [sameX_eq a b h1, sameX_eq c d h2, sameXp_eq r q h]
    · cases h
end
section
variable {X : Cx} {ct : Nat → ClsInfo}
def dReprX (neg : Bool) (ra rc : Env → M (List D)) : Env → M D := fun ρ g => (ra ρ g).bind fun xs g1 => match xs with
  | [x] => if okRX x = true then (rc ρ g1).bind fun ys g2 => (match ys with
    | [y] => if sameX x y = true then .ok (.bool (!neg)) g2 else .fail
    | _ => .fail) else .fail
  | _ => .fail
theorem reprX_less {neg : Bool} {ra rc : Env → M (List D)} (ρ : Env) (g : List Int) : dReprX neg ra rc ρ g = .fail ∨ dReprX neg ra rc ρ g = lift2 (strCmp neg) (callO (on1 bReprX) ra) (callO (on1 bReprX) rc) ρ g := by
  unfold dReprX lift2 callO
  cases hr : ra ρ g with
  | fail => exact .inl rfl
  | exc c p g1 => exact .inr rfl
  | ok xs g1 =>
    match xs with
    | [] => exact .inl rfl
    | _ :: _ :: _ => exact .inl rfl
    | [x] =>
      by_cases hx : okRX x = true
      · have e1 : on1 bReprX [x] = some (.str x.shown) := by
          show bReprX x = _
          unfold bReprX
          rw [if_pos hx]
        simp only [Res.bind, hx, if_true, e1]
        cases hr2 : rc ρ g1 with
        | fail => exact .inl rfl
        | exc c p g2 => exact .inr rfl
        | ok ys g2 =>
          match ys with
          | [] => exact .inl rfl
          | _ :: _ :: _ => exact .inl rfl
          | [y] =>
            by_cases hs : sameX x y = true
            · obtain rfl := sameX_eq x y hs
              refine .inr ?_
              simp only [hs, if_true, e1]
              cases neg <;> simp [strCmp]
            · simp only [hs]; exact .inl rfl
      · simp only [Res.bind, hx]; exact .inl rfl
theorem reprOf_okX {r : Rec} (R : Sound r) {S : Sta} (h : StaOk X S) {e a : Expr} (q : reprOf S e = some a) : SE X S.ct (callO (on1 bReprX) (r.os S [a])) e := by
  unfold reprOf at q
  split at q
  · split at q
    · rename_i hh
      cases q
      simp only [Bool.and_eq_true, Bool.not_eq_true'] at hh
      obtain ⟨⟨⟨⟨hx, hG⟩, hn⟩, hgd⟩, hs⟩ := hh
      have hx := eq_of_beq hx
      subst hx
      obtain ⟨g1, g2⟩ := gl_ok h hG
      exact se_bi (bi_reprX (h.gd hgd) h.un) g1 (h.nog _ hn) BiN.repr.boot.1 (R.os h _) hs rfl BiN.repr.boot.2 g2
    · cases q
  · cases q
def rReprV : RuleE := fun r S e => match e with
  | .Compare a [op] [c] p => if behindInMarks op c || (S.isi ("ValueError" : Str)).isNone then none else (match negOf op, reprOf S a, reprOf S c with
    | some neg, some a', some c' => some (orD ((rReprC r S (.Compare a [op] [c] p)).getD dFail) (dReprX neg (r.os S [a']) (r.os S [c'])))
    | _, _, _ => none)
  | _ => none
end
theorem rReprV_ok [TabT] : rReprV.Ok := fun r R X S h e d q => by
  unfold rReprV at q
  split at q
  · rename_i a op c p
    split at q
    · cases q
    · rename_i hm
      simp only [Bool.or_eq_true, not_or, Bool.not_eq_true] at hm
      obtain ⟨hm, _⟩ := hm
      split at q
      · rename_i neg a' c' hn ha hc
        cases q
        refine se_orD ?_ (se_less ?_ reprX_less)
        · cases hd : rReprC r S (.Compare a [op] [c] p) with
          | none => exact se_fail
          | some d => exact rReprC_ok r R h _ d hd
        · have hop : Op2 X (compareOp op) (strCmp neg) := by
            cases op <;> first | (cases hn; first | exact op2_strEq | exact op2_strNe) | (cases hn; done)
          exact se_cmp hop hm (reprOf_okX R h ha).so (reprOf_okX R h hc).so
      · cases q
  · cases q

/-! ### x[k], x a frozen dict -/
section
variable {X : Cx} {ct : Nat → ClsInfo}
def dIxV (d dc : Env → M D) : Env → M D := fun ρ g => (d ρ g).bind fun x g1 => match x with
  | .dict ps => (dc ρ g1).bind fun k g2 => if keyInD k ps = true then (match getDK ps k with | some z => .ok z g2 | none => .fail) else .fail
  | _ => .fail
theorem se_ixV {e c : Expr} {d dc : Env → M D} {pos : Pos} (hu : X.A.units + 1 < cLine) (hs : noSlice c = true) (h : SO X ct d e) (hc : SE X ct dc c) : SE X ct (dIxV d dc) (.Subscript e c pos) := fun W tk => by
  have nsl : NoSl c := by
    intro ov iv
    cases c <;> first | rfl | (cases hs; done)
  refine peW (pe_dgetE hu (h W tk) (hc W tk) nsl) fun σ H Q ⟨b, F, ow, ρ, g, S, o⟩ => ?_
  refine rd1 S o fun x g1 F1 H1 v e1 S1 r1 o1 => ?_
  cases x <;> first | (exact o1.elim) | skip
  rename_i ps
  refine rd1e S1 o1 fun kx g2 F2 H2 u e2 S2 ru o2 => ?_
  by_cases hkk : keyInD kx ps = true
  · rw [if_pos hkk] at o2
    obtain ⟨a, ov, ea, hg, hh⟩ := (r1.up e2 S1.toBg).dgetE ru hkk
    rcases hh with ⟨z1, z2⟩ | ⟨w, z, z1, z2, rz⟩
    · rw [z1] at o2; exact o2.elim
    · rw [z1] at o2
      rw [z2] at hg
      exact ⟨a, w, ea, hg, Out.ok o2 S2.toBg _ rz⟩
  · rw [if_neg hkk] at o2; exact o2.elim
/-- a name asked by a name, but the law's own box and script -/
def askB : Expr → Expr → Bool
  | .Name y _, .Name _ _ => !(y == ("box" : Str)) && !(y == ("script" : Str))
  | _, _ => false
def rIxV : RuleE := fun r S e => match e with
  | .Subscript e' c p => if noSlice c && askB e' c && (S.isi ("ValueError" : Str)).isSome then some (orD ((rIxK r S (.Subscript e' c p)).getD ((rIx r S (.Subscript e' c p)).getD dFail)) (dIxV (r.o S e') (r.e S c))) else none
  | _ => none
end
theorem rIxV_ok [TabT] : rIxV.Ok := fun r R X S h e d q => by
  unfold rIxV at q
  split at q
  · rename_i e' c p
    split at q
    · rename_i hh
      cases q
      refine se_orD ?_ (se_ixV (by have := h.un; omega) (Bool.and_eq_true_iff.mp (Bool.and_eq_true_iff.mp hh).1).1 (R.o h _) (R.e h _))
      cases hd : rIxK r S (.Subscript e' c p) with
      | some d => exact rIxK_ok r R h _ d hd
      | none =>
        cases hd2 : rIx r S (.Subscript e' c p) with
        | some d => exact rIx_ok r R h _ d hd2
        | none => exact se_fail
    · cases q
  · cases q
end PF

set_option Elab.async false
set_option linter.all false
set_option maxRecDepth 100000
set_option maxHeartbeats 2000000
/-! PF68: the head's run told in parts. -/
namespace PF
open PySem PySem.W PySem.Calls PyProof.Rows
theorem and_looks {p : Program} {h0 : Heap} {s : Shared} (h1 : (staticsOk (importedModules p.main.body) h0 s.heap && namesBound p s.heap) = true) (h2 : (gensDone s && laidKept h0 s.heap) = true) : HandSHeadRun.looksF p h0 s = true := by
  obtain ⟨a, b⟩ := Bool.and_eq_true_iff.mp h1
  obtain ⟨c, d⟩ := Bool.and_eq_true_iff.mp h2
  unfold HandSHeadRun.looksF
  rw [a, b, c, d]
  rfl
theorem and_chk {prog : Program} {L : LawI} {K : Frag} {g : Addr → Option Obj} {l1 l2 l3 l4 : List DefI} (e : l1 ++ (l2 ++ (l3 ++ l4)) = L.all)
    (ha : (K.all fun p => okObj p.2) = true) (hb : ((L.cls.all (clsB prog K)) && exmB K L) = true) (hc : L.cns.all (cnsB K) = true) (hd : L.free.all (freeB K) = true)
    (h1 : l1.all (defB K) = true) (h2 : l2.all (defB K) = true) (h3 : l3.all (defB K) = true) (h4 : l4.all (defB K) = true)
    (hk : ((tabsB K L && freeB K "repr") && chkG L K g) = true) : (chkK prog L K && chkG L K g) = true := by
  obtain ⟨hk, h5⟩ := Bool.and_eq_true_iff.mp hk
  obtain ⟨h6, h7⟩ := Bool.and_eq_true_iff.mp hk
  obtain ⟨hb1, hb2⟩ := Bool.and_eq_true_iff.mp hb
  have hall : L.all.all (defB K) = true := by rw [← e, List.all_append, List.all_append, List.all_append, h1, h2, h3, h4]; rfl
  refine Bool.and_eq_true_iff.mpr ⟨?_, h5⟩
  unfold chkK
  rw [ha, hb1, hb2, hc, hd, hall, h6, h7]
  rfl
theorem map_split3 {α β : Type} {f g : α → β} {a b c l : List α} (e : a ++ (b ++ c) = l) (h1 : a.map f = a.map g) (h2 : b.map f = b.map g) (h3 : c.map f = c.map g) : l.map f = l.map g := by
  subst e
  rw [List.map_append, List.map_append, List.map_append, List.map_append, h1, h2, h3]
end PF

set_option Elab.async false
set_option linter.all false
set_option maxRecDepth 100000
set_option maxHeartbeats 2000000
/-! PF40: the rules in use. -/
namespace PF
open PySem PySem.Spec PyProof.Rows L2

def ruE : Rules := ⟨[rName, rConst, rOps, rReprV, rReprC, rCmp, rBool, rIxV, rIxK, rRev, rIx, rCallFn, rLam, rLamD, rIsi, rExcV, rTR, rTR3, rTupIt, rGet, rLRe, rSet, rLI, rSortK, rBi, rFresh, rSeq], [rIfL, rLR, rLstL, rLcs, rNewCall, rBinL], [rDcs, rDisp0, rOne, rDispN], [rVals, rIter]⟩
def ruS : List RuleS := [rsParU, rsUpd, rsSetd, rsPopT, rsRem, rsAppPop, rsPop, rsExt, rsSmall, rsLoop, rsExpr, rsSet, rsSetC, rsPar, rsAug, rsSub, rsRaise, rsUnpL]
def bagNames (x : Str) : Bool := x == ("bag" : Str) || x == ("box" : Str) || x == ("jar" : Str)
def ruAll : RuAll := ⟨ruE, ruS, rsBag bagNames :: ruS, 40, 12⟩
theorem all_mem {α : Type} {P : α → Prop} {a : α} {l : List α} (h : P a) (t : ∀ x ∈ l, P x) : ∀ x ∈ a :: l, P x := fun x m => by
  rcases List.mem_cons.mp m with rfl | m
  · exact h
  · exact t x m
theorem no_mem {α : Type} {P : α → Prop} : ∀ x ∈ ([] : List α), P x := fun x m => by cases m
theorem ruE_ok [TabT] : ruE.Ok where
  e := all_mem rName_ok (all_mem rConst_ok (all_mem rOps_ok (all_mem rReprV_ok (all_mem rReprC_ok (all_mem rCmp_ok (all_mem rBool_ok (all_mem rIxV_ok (all_mem rIxK_ok (all_mem rRev_ok (all_mem rIx_ok (all_mem rCallFn_ok (all_mem rLam_ok (all_mem rLamD_ok (all_mem rIsi_ok (all_mem rExcV_ok (all_mem rTR_ok (all_mem rTR3_ok (all_mem rTupIt_ok (all_mem rGet_ok (all_mem rLRe_ok (all_mem rSet_ok (all_mem rLI_ok (all_mem rSortK_ok (all_mem rBi_ok (all_mem rFresh_ok (all_mem rSeq_ok no_mem))))))))))))))))))))))))))
  l := all_mem rIfL_ok (all_mem rLR_ok (all_mem rLstL_ok (all_mem rLcs_ok (all_mem rNewCall_ok (all_mem rBinL_ok no_mem)))))
  k := all_mem rDcs_ok (all_mem rDisp0_ok (all_mem rOne_ok (all_mem rDispN_ok no_mem)))
  i := all_mem rVals_ok (all_mem rIter_ok no_mem)
theorem ruS_ok [TabT] (C : FrC) : ∀ ρ ∈ ruS, RuleS.Ok C ρ :=
  all_mem rsParU_ok (all_mem rsUpd_ok (all_mem rsSetd_ok (all_mem rsPopT_ok (all_mem rsRem_ok (all_mem rsAppPop_ok (all_mem rsPop_ok (all_mem rsExt_ok (all_mem rsSmall_ok (all_mem rsLoop_ok (all_mem rsExpr_ok (all_mem rsSet_ok (all_mem rsSetC_ok (all_mem rsPar_ok (all_mem rsAug_ok (all_mem rsSub_ok (all_mem rsRaise_ok (all_mem rsUnpL_ok no_mem)))))))))))))))))
theorem ruAll_ok : ruAll.Ok where
  e := ruE_ok
  s := fun C => ruS_ok C
  top := all_mem (rsBag_ok _) (ruS_ok _)
end PF

set_option Elab.async false
set_option linter.all false
set_option maxRecDepth 100000
set_option maxHeartbeats 2000000
/-! PF50: plain laws: draws, steps. -/
namespace PF
open PySem PySem.Spec PyProof.Rows L2

section
variable {α β : Type} {n : Nat} {Q : α → Prop} {Q' : β → Prop} {ρ ρ1 : Env} {s s1 : List Int} {P P1 P2 : Int → Prop} {d d1 d2 d3 : Env → M D} {i j : Nat}
/-- it ends with a value that Q tells, n numbers in the bag -/
def Ret (n : Nat) (Q : α → Prop) (r : Res α) : Prop := ∃ x s', s'.length = n ∧ Q x ∧ r = .ok x s'
theorem Ret.of {r : Res α} {x : α} (h : r = .ok x s) (hl : s.length = n) (hq : Q x) : Ret n Q r := ⟨x, s, hl, hq, h⟩
theorem Ret.eqv {r r' : Res α} (h : r = r') (k : Ret n Q r') : Ret n Q r := by rw [h]; exact k
theorem Ret.bind {m : Res α} {k : α → M β} (h : Ret n Q m) (hk : ∀ x s', s'.length = n → Q x → Ret n Q' (k x s')) : Ret n Q' (m.bind k) := by
  obtain ⟨x, s', hl, hq, rfl⟩ := h
  exact hk x s' hl hq
theorem Ret.bindD {m : Res α} {k : α → M β} {x : α} (h : m = .ok x s) (hk : Ret n Q' (k x s)) : Ret n Q' (m.bind k) := by
  rw [h]; exact hk
theorem Ret.mono {r : Res α} {Q2 : α → Prop} (h : Ret n Q r) (k : ∀ x, Q x → Q2 x) : Ret n Q2 r := by
  obtain ⟨x, s', hl, hq, rfl⟩ := h
  exact ⟨x, s', hl, k x hq, rfl⟩

/-- a number that P tells; the bag stays -/
def IntP (m : M D) (s : List Int) (P : Int → Prop) : Prop := ∃ k, m s = .ok (.int k) s ∧ P k
theorem ip_c {k : Int} : IntP (dC (.int k) ρ) s (fun z => z = k) := ⟨k, rfl, rfl⟩
theorem ip_var {k : Int} (h : ρ[i]? = some (some (.val (.int k)))) : IntP (dVar i ρ) s (fun z => z = k) := ⟨k, by unfold dVar; rw [h], rfl⟩
theorem ip_varO {k : Int} (h : ρ[i]? = some (some (.val (.int k)))) : IntP (dVarO i ρ) s (fun z => z = k) := ⟨k, by unfold dVarO; rw [h], rfl⟩
theorem ip_bag {k a : Int} (h : ρ[i]? = some (some .bag)) (hs : atI s k = some a) : IntP (dIxN i (dC (.int k)) ρ) s (fun z => z = a) := ⟨a, by
  unfold dIxN dBag
  rw [h]
  show (match atI s k with | some z => (Res.ok (PyData.int z) s : Res D) | none => .fail) = _
  rw [hs], rfl⟩
theorem ixK_bag {dc : Env → M D} (h : ρ[i]? = some (some .bag)) : dIxK i dc ρ s = dIxN i dc ρ s := by
  unfold dIxK
  rw [h]
theorem ixK_val {dc : Env → M D} {x : D} (h : ρ[i]? = some (some (.val x))) : dIxK i dc ρ s = dIxN i dc ρ s := by
  unfold dIxK
  rw [h]
theorem ip_bagK {k a : Int} (h : ρ[i]? = some (some .bag)) (hs : atI s k = some a) : IntP (dIxK i (dC (.int k)) ρ) s (fun z => z = a) := by
  obtain ⟨z, e, p⟩ := ip_bag h hs
  exact ⟨z, (ixK_bag h).trans e, p⟩
theorem ip_any (h : IntP (d ρ) s P) : IntP (d ρ) s (fun _ => True) := by obtain ⟨k, h1, _⟩ := h; exact ⟨k, h1, trivial⟩
theorem ip_op {C : Int → Int → Bool} {f : Int → Int → Int} (h1 : IntP (d1 ρ) s P1) (h2 : IntP (d2 ρ) s P2) (hc : ∀ a b, P1 a → P2 b → C a b = true) : IntP (lift2 (opII C fun a b => .int (f a b)) d1 d2 ρ) s (fun z => ∃ a b, P1 a ∧ P2 b ∧ z = f a b) := by
  obtain ⟨a, e1, p1⟩ := h1
  obtain ⟨b, e2, p2⟩ := h2
  refine ⟨f a b, ?_, a, b, p1, p2, rfl⟩
  unfold lift2
  rw [e1]
  show ((d2 ρ s).bind _) = _
  rw [e2]
  show (match opII C (fun a b => PyData.int (f a b)) (.int a) (.int b) with | some z => Res.ok z s | none => .fail) = _
  unfold opII
  simp only [hc a b p1 p2, if_true]
theorem ip_add (h1 : IntP (d1 ρ) s P1) (h2 : IntP (d2 ρ) s P2) : IntP (lift2 dAdd d1 d2 ρ) s (fun z => ∃ a b, P1 a ∧ P2 b ∧ z = a + b) := by
  obtain ⟨a, e1, p1⟩ := h1
  obtain ⟨b, e2, p2⟩ := h2
  refine ⟨a + b, ?_, a, b, p1, p2, rfl⟩
  unfold lift2
  rw [e1]
  show ((d2 ρ s).bind _) = _
  rw [e2]
  rfl
theorem ip_sub (h1 : IntP (d1 ρ) s P1) (h2 : IntP (d2 ρ) s P2) : IntP (lift2 dSub d1 d2 ρ) s (fun z => ∃ a b, P1 a ∧ P2 b ∧ z = a - b) := ip_op h1 h2 fun _ _ _ _ => rfl
theorem ip_mod (h1 : IntP (d1 ρ) s P1) (h2 : IntP (d2 ρ) s P2) (hp : ∀ b, P2 b → 0 < b) : IntP (lift2 dMod d1 d2 ρ) s (fun z => ∃ a b, P1 a ∧ P2 b ∧ z = a % b) := ip_op h1 h2 fun a b _ h => decide_eq_true (hp b h)
theorem ip_fdiv (h1 : IntP (d1 ρ) s P1) (h2 : IntP (d2 ρ) s P2) (hp : ∀ b, P2 b → 0 < b ∧ b.natAbs.log2 < 9000) : IntP (lift2 dFdiv d1 d2 ρ) s (fun z => ∃ a b, P1 a ∧ P2 b ∧ z = a / b) := ip_op h1 h2 fun a b _ h => by
  unfold okDiv
  rw [decide_eq_true (hp b h).1, decide_eq_true (hp b h).2]
  rfl
theorem ip_mul (h1 : IntP (d1 ρ) s P1) (h2 : IntP (d2 ρ) s P2) (hb : (∀ a, P1 a → -(2 ^ 64) < a ∧ a < 2 ^ 64) ∨ ∀ b, P2 b → -(2 ^ 64) < b ∧ b < 2 ^ 64) : IntP (lift2 dMul d1 d2 ρ) s (fun z => ∃ a b, P1 a ∧ P2 b ∧ z = a * b) := by
  obtain ⟨a, e1, p1⟩ := h1
  obtain ⟨b, e2, p2⟩ := h2
  refine ⟨a * b, ?_, a, b, p1, p2, rfl⟩
  unfold lift2
  rw [e1]
  show ((d2 ρ s).bind _) = _
  rw [e2]
  show (match dMul (.int a) (.int b) with | some z => Res.ok z s | none => .fail) = _
  have hk : okMul a b = true := by
    unfold okMul
    rcases hb with h | h
    · rw [decide_eq_true (h a p1).1, decide_eq_true (h a p1).2]; rfl
    · rw [decide_eq_true (h b p2).1, decide_eq_true (h b p2).2]; simp
  simp only [dMul, hk, if_true]
theorem ip_k {k : Int} (h : d ρ s = .ok (.int k) s) : IntP (d ρ) s (fun z => z = k) := ⟨k, h, rfl⟩
theorem ip_int (h : IntP (d ρ) s P) : IntP (callO bInt (aCons d aNil) ρ) s P := by
  obtain ⟨k, e, p⟩ := h
  refine ⟨k, ?_, p⟩
  unfold callO aCons
  rw [e]
  rfl
theorem ip_abs (h : IntP (d ρ) s P) : IntP (callO bAbs (aCons d aNil) ρ) s (fun z => ∃ a, P a ∧ z = if a < 0 then -a else a) := by
  obtain ⟨k, e, p⟩ := h
  refine ⟨_, ?_, k, p, rfl⟩
  unfold callO aCons
  rw [e]
  rfl
theorem ip_max (h1 : IntP (d1 ρ) s P1) (h2 : IntP (d2 ρ) s P2) : IntP (callO bMax (aCons d1 (aCons d2 aNil)) ρ) s (fun z => ∃ a b, P1 a ∧ P2 b ∧ z = if b > a then b else a) := by
  obtain ⟨a, e1, p1⟩ := h1
  obtain ⟨b, e2, p2⟩ := h2
  refine ⟨_, ?_, a, b, p1, p2, rfl⟩
  unfold callO aCons
  rw [e1]
  show Res.bind (Res.bind (Res.bind (d2 ρ s) _) _) _ = _
  rw [e2]
  rfl
theorem ip_min (h1 : IntP (d1 ρ) s P1) (h2 : IntP (d2 ρ) s P2) : IntP (callO bMin (aCons d1 (aCons d2 aNil)) ρ) s (fun z => ∃ a b, P1 a ∧ P2 b ∧ z = if b < a then b else a) := by
  obtain ⟨a, e1, p1⟩ := h1
  obtain ⟨b, e2, p2⟩ := h2
  refine ⟨_, ?_, a, b, p1, p2, rfl⟩
  unfold callO aCons
  rw [e1]
  show Res.bind (Res.bind (Res.bind (d2 ρ s) _) _) _ = _
  rw [e2]
  rfl
/-- a comparison -/
def BoP (m : M D) (s : List Int) (P : Bool → Prop) : Prop := ∃ b, m s = .ok (.bool b) s ∧ P b
theorem bp_op {f : Int → Int → Bool} (h1 : IntP (d1 ρ) s P1) (h2 : IntP (d2 ρ) s P2) : BoP (lift2 (opII (fun _ _ => true) fun a b => .bool (f a b)) d1 d2 ρ) s (fun z => ∃ a b, P1 a ∧ P2 b ∧ z = f a b) := by
  obtain ⟨a, e1, p1⟩ := h1
  obtain ⟨b, e2, p2⟩ := h2
  refine ⟨f a b, ?_, a, b, p1, p2, rfl⟩
  unfold lift2
  rw [e1]
  show ((d2 ρ s).bind _) = _
  rw [e2]
  rfl
theorem bp_lt (h1 : IntP (d1 ρ) s P1) (h2 : IntP (d2 ρ) s P2) : BoP (lift2 dLt d1 d2 ρ) s (fun z => ∃ a b, P1 a ∧ P2 b ∧ z = decide (a < b)) := by
  obtain ⟨a, e1, p1⟩ := h1
  obtain ⟨b, e2, p2⟩ := h2
  refine ⟨decide (a < b), ?_, a, b, p1, p2, rfl⟩
  unfold lift2
  rw [e1]
  show ((d2 ρ s).bind _) = _
  rw [e2]
  rfl
theorem bp_gt (h1 : IntP (d1 ρ) s P1) (h2 : IntP (d2 ρ) s P2) : BoP (lift2 dGt d1 d2 ρ) s (fun z => ∃ a b, P1 a ∧ P2 b ∧ z = decide (b < a)) := bp_op h1 h2
theorem ip_bool {P : Bool → Prop} (h : BoP (d ρ) s P) : IntP (callO bInt (aCons d aNil) ρ) s (fun z => z = 0 ∨ z = 1) := by
  obtain ⟨b, e, _⟩ := h
  refine ⟨if b = true then 1 else 0, ?_, ?_⟩
  · unfold callO aCons
    rw [e]
    rfl
  · cases b
    · exact .inl rfl
    · exact .inr rfl

/-! ### steps -/
variable {rest : Env → M Fl} {R : Fl → Prop}
theorem seq_det {e1 e2 : Env → M Fl} (h : e1 ρ s = .ok (.next ρ1) s1) (k : Ret n R (e2 ρ1 s1)) : Ret n R (sSeq e1 e2 ρ s) := by
  unfold sSeq
  rw [h]
  exact k
theorem seq_assoc {e1 e2 e3 : Env → M Fl} (k : Ret n R (sSeq e1 (sSeq e2 e3) ρ s)) : Ret n R (sSeq (sSeq e1 e2) e3 ρ s) := by
  have : sSeq (sSeq e1 e2) e3 ρ s = sSeq e1 (sSeq e2 e3) ρ s := by
    unfold sSeq
    generalize e1 ρ s = z
    cases z with
    | ok f g => cases f <;> rfl
    | exc c p g => rfl
    | fail => rfl
  rw [this]; exact k
theorem setA_ok {x : D} (e : d ρ s = .ok x s1) : sSetA i (.v d) ρ s = .ok (.next (ρ.set i (some (.val x)))) s1 := by
  show Res.bind (Res.bind (d ρ s) _) _ = _
  rw [e]
  rfl
theorem seq_int (h : IntP (d ρ) s P) (k : ∀ z, P z → Ret n R (rest (ρ.set i (some (.val (.int z)))) s)) : Ret n R (sSeq (sSetA i (.v d)) rest ρ s) := by
  obtain ⟨z, e, p⟩ := h
  exact seq_det (setA_ok e) (k z p)
theorem seq_if {e : Env → M D} {b1 b2 : Env → M Fl} {PB : Bool → Prop} (h : BoP (e ρ) s PB) (k1 : PB true → Ret n R (sSeq b1 rest ρ s)) (k2 : PB false → Ret n R (sSeq b2 rest ρ s)) : Ret n R (sSeq (sIf (asB e) b1 b2) rest ρ s) := by
  obtain ⟨b, eb, p⟩ := h
  have : sSeq (sIf (asB e) b1 b2) rest ρ s = sSeq (if b = true then b1 else b2) rest ρ s := by
    unfold sSeq sIf asB
    rw [eb]
    cases b <;> rfl
  rw [this]
  cases b
  · exact k2 p
  · exact k1 p
theorem seq_bag {k a : Int} {q : Nat} {dk : Int} (hb : ρ[i]? = some (some .bag)) (h : IntP (d ρ) s P) (hq : ixN s.length dk = some q) (k : ∀ z, P z → Ret n R (rest ρ (s.set q z))) : Ret n R (sSeq (sSetK i (dC (.int dk)) d) rest ρ s) := by
  obtain ⟨z, e, p⟩ := h
  refine seq_det (ρ1 := ρ) (s1 := s.set q z) ?_ (k z p)
  unfold sSetK sSetL
  rw [hb]
  simp only
  rw [e]
  simp only [Res.bind, hb, dC, hq]
theorem ret_int (h : IntP (d ρ) s P) (hl : s.length = n) (k : ∀ z, P z → R (.ret (.int z))) : Ret n R (sRet d ρ s) := by
  obtain ⟨z, e, p⟩ := h
  refine Ret.of (x := Fl.ret (.int z)) (s := s) ?_ hl (k z p)
  unfold sRet
  rw [e]
  rfl
theorem seq_ret {e : Env → M D} (k : Ret n R (sRet e ρ s)) : Ret n R (sSeq (sRet e) rest ρ s) := by
  have : sSeq (sRet e) rest ρ s = sRet e ρ s := by
    unfold sSeq sRet
    generalize e ρ s = z
    cases z <;> rfl
  rw [this]; exact k
theorem seq_next (k : Ret n R (rest ρ s)) : Ret n R (sSeq sNext rest ρ s) := k

/-! ### draws -/
def DrawOk (n : Nat) (den : List D → M D) : Prop := ∀ (k : Int) (s : List Int), s.length = n → 0 < k → k < 1000 → Ret n (fun x => ∃ r : Int, x = .int r ∧ 0 ≤ r ∧ r < k) (den [.int k] s)
def OneOf (n : Nat) (den : List D → M D) : Prop := ∀ (xs : List D) (s : List Int), s.length = n → xs ≠ [] → xs.length < 1000 → Ret n (fun x => x ∈ xs) (den [.list xs] s)
theorem log_small {k : Int} (h : 0 < k) (h2 : k < 1000) : 0 < k ∧ k.natAbs.log2 < 9000 := by
  refine ⟨h, ?_⟩
  have : k.natAbs < 2 ^ 10 := by omega
  have h0 : k.natAbs ≠ 0 := by omega
  have := (Nat.log2_lt h0).mpr this
  omega
theorem fn_of {np m : Nat} {bd : Env → M Fl} {ds : List D} {QD : D → Prop} (hl : ds.length = np) (h : Ret n (fun f => ∃ x, f = Fl.ret x ∧ QD x) (bd (initB m ds) s)) : Ret n QD (denOfB np m bd ds s) := by
  obtain ⟨f, s', h1, ⟨x, rfl, hx⟩, e⟩ := h
  refine ⟨x, s', h1, hx, ?_⟩
  unfold denOfB
  rw [if_pos hl, e]
  rfl
/-- the den of a draw: bag[0] while it lasts, then the mixed one -/
theorem draw_bag {c1 c2 cd m : Int} {md : Env → M D} (hm : 0 < m) (hmd : ∀ ρ s, md ρ s = .ok (.int m) s) (h1 : -(2 ^ 64) < c1 ∧ c1 < 2 ^ 64) (hd : 0 < cd ∧ cd.natAbs.log2 < 9000) :
    DrawOk 2 (denOfB 1 3 (sSeq (sIf (asB (lift2 dGt (dIxK 0 (dC (.int 0))) (dC (.int 0)))) (sSeq (sSetA 2 (.v (lift2 dMod (callO bInt (aCons (dIxK 0 (dC (.int 0))) aNil)) (dVarO 1)))) (sSeq (sSetK 0 (dC (.int 0)) (lift2 dFdiv (dIxK 0 (dC (.int 0))) (dVarO 1))) (sRet (dVar 2)))) sNext) (sSeq (sSetK 0 (dC (.int 1)) (lift2 dMod (callO bInt (aCons (lift2 dAdd (lift2 dMul (dIxK 0 (dC (.int 1))) (dC (.int c1))) (dC (.int c2))) aNil)) md)) (sRet (lift2 dMod (callO bInt (aCons (lift2 dFdiv (dIxK 0 (dC (.int 1))) (dC (.int cd))) aNil)) (dVarO 1)))))) := by
  intro k s hs hk hk2
  match s, hs with
  | [a, b], _ =>
    refine fn_of rfl ?_
    refine seq_if (bp_gt (ip_bagK (a := a) rfl rfl) ip_c) (fun _ => ?_) fun _ => ?_
    · refine seq_assoc (seq_int (ip_mod (ip_int (ip_bagK (a := a) rfl rfl)) (ip_varO (k := k) rfl) fun b h => by omega) fun z hz => ?_)
      refine seq_assoc (seq_bag (k := 0) (a := 0) (q := 0) rfl (ip_fdiv (ip_bagK (a := a) rfl rfl) (ip_varO (k := k) rfl) fun b h => by subst h; exact log_small hk hk2) rfl fun w hw => seq_ret ?_)
      refine ret_int (ip_var (k := z) rfl) rfl fun y hy => ⟨_, rfl, y, rfl, ?_⟩
      obtain ⟨a1, b1, h1, h2, h3⟩ := hz
      subst hy h2 h3
      exact ⟨Int.emod_nonneg _ (by omega), Int.emod_lt_of_pos _ hk⟩
    · refine seq_next (seq_bag (k := 0) (a := 0) (q := 1) rfl (ip_mod (ip_int (ip_add (ip_mul (ip_bagK (a := b) rfl rfl) ip_c (.inr fun b h => by subst h; exact h1)) ip_c)) (ip_k (hmd _ _)) fun b h => by omega) rfl fun w hw => ?_)
      refine ret_int (ip_mod (ip_int (ip_fdiv (ip_bagK (a := w) rfl rfl) ip_c fun b h => by subst h; exact hd)) (ip_varO (k := k) rfl) fun b h => by omega) rfl fun y hy => ⟨_, rfl, y, rfl, ?_⟩
      obtain ⟨a1, b1, h1, h2, h3⟩ := hy
      subst h2 h3
      exact ⟨Int.emod_nonneg _ (by omega), Int.emod_lt_of_pos _ hk⟩
theorem atI_mem {xs : List D} {r : Int} (h0 : 0 ≤ r) (h1 : r < xs.length) : ∃ x, atI xs r = some x ∧ x ∈ xs := by
  have hl : r.toNat < xs.length := by omega
  refine ⟨xs[r.toNat], ?_, List.getElem_mem hl⟩
  unfold atI ixN
  simp [h0, h1, List.getElem?_eq_getElem hl]
theorem one_of_draw {draw : List D → M D} (h : DrawOk n draw) : OneOf n (denOfB 1 2 (sRet (dIxK 1 (callB ⟨true, draw⟩ 0 (aCons (callO (on1 bLen) (aCons (dVarO 1) aNil)) aNil))))) := by
  intro xs s hs hne hl
  refine fn_of rfl ?_
  have hpos : 0 < (xs.length : Int) := by
    have := List.length_pos_iff.mpr hne
    omega
  obtain ⟨x, s', h1, ⟨r, rfl, h2, h3⟩, e⟩ := h xs.length s hs hpos (by omega)
  obtain ⟨y, hy, hm⟩ := atI_mem h2 h3
  refine Ret.of (x := Fl.ret y) (s := s') ?_ h1 ⟨y, rfl, hm⟩
  show Res.bind (Res.bind (draw [.int xs.length] s) fun y g2 => match dIx (.list xs) y with | some z => Res.ok z g2 | none => .fail) _ = _
  rw [e]
  show Res.bind (match atI xs r with | some z => Res.ok z s' | none => .fail) _ = _
  rw [hy]
  rfl
/-- a draw from a list -/
theorem seq_one {den : List D → M D} (one : OneOf n den) {b : Nat} {lst : Env → M D} {xs : List D} (h : lst ρ s = .ok (.list xs) s) (hl : s.length = n) (hne : xs ≠ []) (hlt : xs.length < 1000) (hb : ρ[b]? = some (some .bag))
    (k : ∀ x, x ∈ xs → ∀ s', s'.length = n → Ret n R (rest (ρ.set i (some (.val x))) s')) : Ret n R (sSeq (sSetA i (.v (callB ⟨true, den⟩ b (aCons lst aNil)))) rest ρ s) := by
  obtain ⟨x, s', h1, hx, e⟩ := one xs s hl hne hlt
  refine seq_det (setA_ok ?_) (k x hx s' h1)
  unfold callB
  rw [hb]
  show Res.bind (Res.bind (lst ρ s) _) _ = _
  rw [h]
  exact e
end
end PF

set_option Elab.async false
set_option linter.all false
set_option maxRecDepth 100000
set_option maxHeartbeats 2000000
/-! PF51: plain laws: bags made, loops, comprehensions. -/
namespace PF
open PySem PySem.Spec PyProof.Rows L2

section
variable {n : Nat} {ρ ρ1 : Env} {s s1 : List Int} {P P1 P2 P3 : Int → Prop} {d d1 d2 d3 : Env → M D} {i j : Nat} {rest : Env → M (List D)}
def BagR (n : Nat) (r : Res (List D)) : Prop := ∃ (is : List Int) (s' : List Int), is.length = n ∧ r = .ok (is.map .int) s'
def BagOk (n : Nat) (den : List D → M (List D)) : Prop := ∀ (ns : List Int) (spot : Int) (s : List Int), 0 ≤ spot → spot < 2 ^ 62 → BagR n (den [.list (ns.map .int), .int spot] s)
theorem seqF_int (h : IntP (d ρ) s P) (k : ∀ z, P z → BagR n (rest (ρ.set i (some (.val (.int z)))) s)) : BagR n (sSeqF (sSetA i (.v d)) rest ρ s) := by
  obtain ⟨z, e, p⟩ := h
  have : sSeqF (sSetA i (.v d)) rest ρ s = rest (ρ.set i (some (.val (.int z)))) s := by
    unfold sSeqF
    rw [setA_ok e]
    rfl
  rw [this]
  exact k z p
theorem bag2 (h1 : IntP (d1 ρ) s P1) (h2 : IntP (d2 ρ) s P2) : BagR 2 (fLst (aCons d1 (aCons d2 aNil)) ρ s) := by
  obtain ⟨a, e1, _⟩ := h1
  obtain ⟨b, e2, _⟩ := h2
  refine ⟨[a, b], s, rfl, ?_⟩
  unfold fLst aCons
  rw [e1]
  show Res.bind (Res.bind (Res.bind (d2 ρ s) _) _) _ = _
  rw [e2]
  rfl
theorem bag3 (h1 : IntP (d1 ρ) s P1) (h2 : IntP (d2 ρ) s P2) (h3 : IntP (d3 ρ) s P3) : BagR 3 (fLst (aCons d1 (aCons d2 (aCons d3 aNil))) ρ s) := by
  obtain ⟨a, e1, _⟩ := h1
  obtain ⟨b, e2, _⟩ := h2
  obtain ⟨c, e3, _⟩ := h3
  refine ⟨[a, b, c], s, rfl, ?_⟩
  unfold fLst aCons
  rw [e1]
  show Res.bind (Res.bind (Res.bind (d2 ρ s) _) _) _ = _
  rw [e2]
  show Res.bind (Res.bind (Res.bind (Res.bind (d3 ρ s) _) _) _) _ = _
  rw [e3]
  rfl
theorem ip_len {xs : List D} (h : ρ[i]? = some (some (.val (.list xs)))) : IntP (callO (on1 bLen) (aCons (dVarO i) aNil) ρ) s (fun z => z = xs.length) := by
  refine ⟨xs.length, ?_, rfl⟩
  unfold callO aCons dVarO
  rw [h]
  rfl
theorem ip_if {c : Env → M D} {PB : Bool → Prop} (h : BoP (c ρ) s PB) (h1 : PB true → IntP (d1 ρ) s P) (h2 : PB false → IntP (d2 ρ) s P) : IntP (dIf (asB c) d1 d2 ρ) s P := by
  obtain ⟨b, e, p⟩ := h
  cases b
  · obtain ⟨k, e2, p2⟩ := h2 p
    refine ⟨k, ?_, p2⟩
    unfold dIf asB
    rw [e]
    exact e2
  · obtain ⟨k, e2, p2⟩ := h1 p
    refine ⟨k, ?_, p2⟩
    unfold dIf asB
    rw [e]
    exact e2
theorem ip_at {ns : List Int} {k : Int} (h : ρ[i]? = some (some (.val (.list (ns.map .int))))) (hj : ρ[j]? = some (some (.val (.int k)))) (h0 : 0 ≤ k) (h1 : k < ns.length) : IntP (dIxN i (dVar j) ρ) s (fun _ => True) := by
  have hl : k.toNat < ns.length := by omega
  refine ⟨ns[k.toNat], ?_, trivial⟩
  unfold dIxN
  rw [h]
  show lift2 dIx (dVarO i) (dVar j) ρ s = _
  unfold lift2 dVarO dVar
  rw [h]
  show Res.bind (match ρ[j]? with | some (some (.val d)) => Res.ok d s | _ => .fail) _ = _
  rw [hj]
  show (match atI (ns.map PyData.int) k with | some z => Res.ok z s | none => .fail) = _
  have : atI (ns.map PyData.int) k = some (.int ns[k.toNat]) := by
    unfold atI ixN
    simp [h0, h1, List.getElem?_eq_getElem hl]
  rw [this]
theorem ip_atK {ns : List Int} {k : Int} (h : ρ[i]? = some (some (.val (.list (ns.map .int))))) (hj : ρ[j]? = some (some (.val (.int k)))) (h0 : 0 ≤ k) (h1 : k < ns.length) : IntP (dIxK i (dVar j) ρ) s (fun _ => True) := by
  obtain ⟨z, e, p⟩ := ip_at (s := s) h hj h0 h1
  exact ⟨z, (ixK_val h).trans e, p⟩
/-- the bag of two -/
theorem bag_ok2 {c0 c1 c2 c3 c4 cm : Int} {p18 m1 m2 m3 : Env → M D} {k18 k1 k2 k3 : Int} (h18 : ∀ ρ s, p18 ρ s = .ok (.int k18) s) (hm1 : ∀ ρ s, m1 ρ s = .ok (.int k1) s) (hm2 : ∀ ρ s, m2 ρ s = .ok (.int k2) s) (hm3 : ∀ ρ s, m3 ρ s = .ok (.int k3) s) (h1 : 0 < k1) (h2 : 0 < k2) (h3 : 0 < k3)
    (b0 : -(2 ^ 64) < c0 ∧ c0 < 2 ^ 64) (b2 : -(2 ^ 64) < c2 ∧ c2 < 2 ^ 64) (b3 : -(2 ^ 64) < c3 ∧ c3 < 2 ^ 64) (b4 : -(2 ^ 64) < c4 ∧ c4 < 2 ^ 64) :
    BagOk 2 (denOfF 2 5 (sSeqF (sSetA 2 (.v (dIf (asB (lift2 dLt (dVarO 1) (callO (on1 bLen) (aCons (dVarO 0) aNil)))) (callO bInt (aCons (dIxK 0 (dVar 1)) aNil)) (lift2 dAdd (lift2 dMul (dC (.int c0)) (dVarO 1)) (dC (.int c1)))))) (sSeqF (sSetA 3 (.v (lift2 dMod (callO bMax (aCons (dC (.int 0)) (aCons (lift2 dSub (callO bAbs (aCons (dVarO 2) aNil)) p18) aNil))) m1))) (sSeqF (sSetA 4 (.v (lift2 dAdd (lift2 dAdd (lift2 dAdd (lift2 dMul (lift2 dMod (callO bInt (aCons (callO bAbs (aCons (dVarO 2) aNil)) aNil)) m2) (dC (.int c2))) (lift2 dMul (dC (.int c3)) (dVarO 1))) (lift2 dMul (dC (.int c4)) (callO bInt (aCons (lift2 dLt (dVarO 2) (dC (.int 0))) aNil)))) (dC (.int cm))))) (fLst (aCons (dVar 3) (aCons (lift2 dMod (callO bInt (aCons (dVarO 4) aNil)) m3) aNil))))))) := by
  intro ns spot s h0 hb
  unfold denOfF
  rw [if_pos (show [PyData.list (ns.map .int), PyData.int spot].length = 2 from rfl)]
  refine seqF_int (P := fun _ => True) (ip_if (bp_lt (ip_varO (k := spot) rfl) (ip_len rfl)) (fun hp => ?_) fun _ => ?_) fun cell _ => ?_
  · obtain ⟨a, b, rfl, rfl, hd⟩ := hp
    have hd := of_decide_eq_true hd.symm
    rw [List.length_map] at hd
    exact ip_int (ip_atK rfl rfl h0 hd)
  · exact ip_any (ip_add (ip_mul ip_c (ip_varO (k := spot) rfl) (.inl fun a h => by subst h; exact b0)) ip_c)
  · refine seqF_int (ip_mod (ip_max ip_c (ip_sub (ip_abs (ip_varO (k := cell) rfl)) (ip_k (h18 _ _)))) (ip_k (hm1 _ _)) fun b h => by omega) fun great _ => ?_
    refine seqF_int (ip_add (ip_add (ip_add (ip_mul (ip_mod (ip_int (ip_abs (ip_varO (k := cell) rfl))) (ip_k (hm2 _ _)) fun b h => by omega) ip_c (.inr fun b h => by subst h; exact b2)) (ip_mul ip_c (ip_varO (k := spot) rfl) (.inl fun b h => by subst h; exact b3))) (ip_mul ip_c (ip_bool (bp_lt (ip_varO (k := cell) rfl) ip_c)) (.inl fun b h => by subst h; exact b4))) ip_c) fun blend _ => ?_
    exact bag2 (ip_var (k := great) rfl) (ip_mod (ip_int (ip_varO (k := blend) rfl)) (ip_k (hm3 _ _)) fun b h => by omega)
end

/-! ### loops -/
section
variable {n : Nat} {ρ ρ1 : Env} {s s1 : List Int} {P : Int → Prop} {d : Env → M D} {i j b : Nat} {body rest : Env → M Fl}
/-- an environment: a value in slot 0, so many slots -/
def EnvI (N : Nat) (x : D) (ρ : Env) : Prop := ρ.length = N ∧ ρ[0]? = some (some (.val x))
theorem EnvI.set {N : Nat} {x : D} {ρ : Env} {i : Nat} {z : Option Slot} (h : EnvI N x ρ) (hi : i ≠ 0) : EnvI N x (ρ.set i z) := ⟨by rw [List.length_set]; exact h.1, by rw [List.getElem?_set_ne hi]; exact h.2⟩
theorem for_inv {I : Env → Prop} (hb : ∀ (ρ : Env) (s : List Int) (z : Int), I ρ → 0 ≤ z → z < 2 ^ 62 → ∃ ρ' s', I ρ' ∧ body (ρ.set i (some (.val (.int z)))) s = .ok (.next ρ') s') :
    ∀ (xs : List Nat) (ρ : Env) (s : List Int), (∀ x ∈ xs, x < 2 ^ 62) → I ρ → ∃ ρ' s', I ρ' ∧ sFor (.name i) body (xs.map fun x => .int (0 + (x : Nat))) ρ s = .ok (.next ρ') s'
  | [], ρ, s, _, h => ⟨ρ, s, h, rfl⟩
  | x :: xs, ρ, s, hx, h => by
    obtain ⟨ρ1, s1, h1, e⟩ := hb ρ s (0 + (x : Nat)) h (by omega) (by have := hx x List.mem_cons_self; omega)
    obtain ⟨ρ2, s2, h2, e2⟩ := for_inv hb xs ρ1 s1 (fun y hy => hx y (List.mem_cons_of_mem _ hy)) h1
    refine ⟨ρ2, s2, h2, ?_⟩
    rw [List.map_cons]
    show Res.bind (body (ρ.set i (some (.val (.int (0 + (x : Nat)))))) s) _ = _
    rw [e]
    exact e2
theorem for_rng {I : Env → Prop} (hd : IntP (d ρ) s P) (hp : ∀ z, P z → z < 2 ^ 62 ∧ -(2 ^ 62) ≤ z) (hi : I ρ) (hb : ∀ (ρ : Env) (s : List Int) (z : Int), I ρ → 0 ≤ z → z < 2 ^ 62 → ∃ ρ' s', I ρ' ∧ body (ρ.set i (some (.val (.int z)))) s = .ok (.next ρ') s') :
    ∃ ρ' s', I ρ' ∧ sForD (.name i) (iRng1D d) body ρ s = .ok (.next ρ') s' := by
  obtain ⟨k, e, p⟩ := hd
  obtain ⟨k1, k2⟩ := hp k p
  have hx : ∀ x ∈ List.range k.toNat, x < 2 ^ 62 := fun x h => by
    have := List.mem_range.mp h
    omega
  obtain ⟨ρ', s', h1, e1⟩ := for_inv hb (List.range k.toNat) ρ s hx hi
  refine ⟨ρ', s', h1, ?_⟩
  unfold sForD iRng1D
  rw [e]
  have ok : okRg k = true := by unfold okRg; rw [decide_eq_true k1, decide_eq_true k2]; rfl
  show Res.bind (if okRg k = true then Res.ok (rngD 0 k.toNat) s else .fail) _ = _
  rw [if_pos ok]
  exact e1
/-- the comprehension that keeps what is not right: nothing -/
theorem comp_none {right : List D → M D} {b i : Nat} {el : Env → M D} (hr : ∀ s, s.length = n → Ret n (fun x => x = .bool true) (right [] s)) (hbi : b ≠ i) (hb : ρ[b]? = some (some .bag)) : ∀ (xs : List D) (s : List Int), s.length = n →
    ∃ s', s'.length = n ∧ cLoop (.name i) (tNotD (asB (callB ⟨true, right⟩ b aNil))) el ρ xs s = .ok [] s'
  | [], s, h => ⟨s, h, rfl⟩
  | x :: xs, s, h => by
    obtain ⟨y, s1, h1, rfl, e⟩ := hr s h
    obtain ⟨s2, h2, e2⟩ := comp_none (el := el) hr hbi hb xs s1 h1
    refine ⟨s2, h2, ?_⟩
    have eb : tNotD (asB (callB ⟨true, right⟩ b aNil)) (ρ.set i (some (.val x))) s = .ok false s1 := by
      unfold tNotD asB callB
      rw [List.getElem?_set_ne (Ne.symm hbi), hb]
      show Res.bind (Res.bind (right [] s) _) _ = _
      rw [e]
      rfl
    show Res.bind (calmR (tNotD (asB (callB ⟨true, right⟩ b aNil)) (ρ.set i (some (.val x))) s)) _ = _
    rw [eb]
    exact e2
theorem wipe1 {b i : Nat} (h : b ≠ i) : (wipeE ρ [i])[b]? = ρ[b]? := by
  show (ρ.set i none)[b]? = _
  rw [List.getElem?_set_ne (Ne.symm h)]
/-- bag = law_bag(script, spot); if [1 for turn in range(m) if not right(bag)] != []: return False -/
theorem step_comp {N : Nat} {bg : List D → M (List D)} {right : List D → M D} {x : D} {ns : List Int} {m : Int} {el : Env → M D} {t : Nat} (hx : x = .list (ns.map .int)) (hbag : BagOk n bg) (hr : ∀ s, s.length = n → Ret n (fun x => x = .bool true) (right [] s)) (hN : 3 < N) (ht : 3 ≤ t) (hm : 0 ≤ m) (hm2 : m ≤ 1000) :
    ∀ (ρ : Env) (s : List Int) (z : Int), EnvI N x ρ → 0 ≤ z → z < 2 ^ 62 → ∃ ρ' s', EnvI N x ρ' ∧
      sSeq (sBag 2 (callF bg (aCons (dVar 0) (aCons (dVar 1) aNil)))) (sIf (asB (lift2 dNe (frL (fComp (.name t) [t] (iRng1D (dC (.int m))) (tNotD (asB (callB ⟨true, right⟩ 2 aNil))) el)) (frL (fLst aNil)))) (sRet (dC (.bool false))) sNext) (ρ.set 1 (some (.val (.int z)))) s = .ok (.next ρ') s' := by
  intro ρ s z hI h0 h1
  subst hx
  obtain ⟨is, s1, hl, e⟩ := hbag ns z s h0 h1
  have hI1 := hI.set (i := 1) (z := some (.val (.int z))) (by decide)
  generalize hρ : ρ.set 1 (some (.val (.int z))) = ρ1 at hI1 ⊢
  have g1 : ρ1[1]? = some (some (.val (.int z))) := by rw [← hρ, List.getElem?_set_self (by rw [hI.1]; omega)]
  have bi : ∀ is : List Int, bagI (is.map .int) = some is := fun is => by
    induction is with
    | nil => rfl
    | cons a r ih =>
      rw [List.map_cons]
      unfold bagI
      rw [ih]
      rfl
  have eb : sBag 2 (callF bg (aCons (dVar 0) (aCons (dVar 1) aNil))) ρ1 s = .ok (.next ((ρ1.map noBag).set 2 (some .bag))) is := by
    have e0 : callF bg (aCons (dVar 0) (aCons (dVar 1) aNil)) ρ1 s = .ok (is.map .int) s1 := by
      unfold callF aCons dVar
      rw [hI1.2]
      simp only [Res.bind, g1]
      exact e
    unfold sBag
    rw [e0]
    simp only [Res.bind, bi]
  have hlen : (ρ1.map noBag).length = N := by rw [List.length_map]; exact hI1.1
  have hI2 : EnvI N (.list (ns.map .int)) ((ρ1.map noBag).set 2 (some .bag)) := by
    refine ⟨by rw [List.length_set]; exact hlen, ?_⟩
    rw [List.getElem?_set_ne (by decide), List.getElem?_map, hI1.2]
    rfl
  have gb : ((ρ1.map noBag).set 2 (some Slot.bag))[2]? = some (some .bag) := by rw [List.getElem?_set_self (by rw [hlen]; omega)]
  generalize (ρ1.map noBag).set 2 (some .bag) = ρ2 at eb hI2 gb
  have ht2 : 2 ≠ t := by omega
  obtain ⟨s2, h2, e2⟩ := comp_none (n := n) (el := el) (b := 2) (i := t) (ρ := wipeE ρ2 [t]) hr ht2 (by rw [wipe1 ht2]; exact gb) (rngD 0 m.toNat) is hl
  refine ⟨ρ2, s2, hI2, ?_⟩
  unfold sSeq
  rw [eb]
  show sIf _ _ _ ρ2 is = _
  have ok : okRg m = true := by unfold okRg; rw [decide_eq_true (show -(2 ^ 62) ≤ m by omega), decide_eq_true (show m < 2 ^ 62 by omega)]; rfl
  have ec : fComp (.name t) [t] (iRng1D (dC (.int m))) (tNotD (asB (callB ⟨true, right⟩ 2 aNil))) el ρ2 is = .ok [] s2 := by
    show Res.bind (if okRg m = true then Res.ok (rngD 0 m.toNat) is else .fail) _ = _
    rw [if_pos ok]
    show (if (rngD 0 m.toNat).length ≤ sizeLine then cLoop _ _ _ (wipeE ρ2 [t]) (rngD 0 m.toNat) is else .fail) = _
    have hz : (rngD 0 m.toNat).length ≤ sizeLine := by
      unfold rngD
      rw [List.length_map, List.length_range, sizeLine_eq]
      omega
    rw [if_pos hz]
    exact e2
  have e3 : lift2 dNe (frL (fComp (.name t) [t] (iRng1D (dC (.int m))) (tNotD (asB (callB ⟨true, right⟩ 2 aNil))) el)) (frL (fLst aNil)) ρ2 is = .ok (.bool false) s2 := by
    show Res.bind (Res.bind (fComp _ _ _ _ _ ρ2 is) _) _ = _
    rw [ec]
    rfl
  show Res.bind (Res.bind (lift2 dNe _ _ ρ2 is) _) _ = _
  rw [e3]
  rfl
end
end PF

set_option Elab.async false
set_option linter.all false
set_option maxRecDepth 100000
set_option maxHeartbeats 2000000
/-! PF52: plain laws: more steps. -/
namespace PF
open PySem PySem.Spec PyProof.Rows L2

section
variable {n : Nat} {ρ ρ1 : Env} {s s1 : List Int} {d d1 d2 d3 : Env → M D} {i j l : Nat} {rest e1 : Env → M Fl} {R : Fl → Prop}
theorem at_env (ρ' : Env) (h : ρ = ρ') (k : Ret n R (rest ρ' s)) : Ret n R (rest ρ s) := by rw [h]; exact k
theorem seq_same (h : e1 ρ s = .ok (.next ρ) s) (k : Ret n R (rest ρ s)) : Ret n R (sSeq e1 rest ρ s) := seq_det h k
theorem seq_val {x : D} (h : d ρ s = .ok x s) (k : Ret n R (rest (ρ.set i (some (.val x))) s)) : Ret n R (sSeq (sSetA i (.v d)) rest ρ s) := seq_det (setA_ok h) k
theorem seq_lst {xs : List D} {d : Env → M (List D)} (h : d ρ s = .ok xs s) (k : Ret n R (rest (ρ.set i (some (.own xs))) s)) : Ret n R (sSeq (sSetA i (.l d)) rest ρ s) := seq_det (by
  show Res.bind (Res.bind (d ρ s) _) _ = _
  rw [h]
  rfl) k
theorem seq_app {x : D} {ds : List D} (h : ρ[i]? = some (some (.own ds))) (hl : ds.length < 1000) (e : d ρ s = .ok x s) (k : Ret n R (rest (ρ.set i (some (.own (ds ++ [x])))) s)) : Ret n R (sSeq (sApp i d) rest ρ s) := seq_det (by
  unfold sApp
  rw [h]
  show Res.bind (d ρ s) _ = _
  rw [e]
  have : ds.length < sizeLine := by rw [sizeLine_eq]; omega
  simp only [Res.bind, this, if_true]) k
theorem seq_par2 {x y : D} (h1 : d1 ρ s = .ok x s) (h2 : d2 ρ s = .ok y s) (k : Ret n R (rest ((ρ.set i (some (.val x))).set j (some (.val y))) s)) : Ret n R (sSeq (sPar i j (.v d1) (.v d2)) rest ρ s) := seq_det (by
  show Res.bind (Res.bind (d1 ρ s) _) _ = _
  rw [h1]
  show Res.bind (Res.bind (d2 ρ s) _) _ = _
  rw [h2]
  rfl) k
theorem seq_par3 {x y z : D} (h1 : d1 ρ s = .ok x s) (h2 : d2 ρ s = .ok y s) (h3 : d3 ρ s = .ok z s) (k : Ret n R (rest (((ρ.set i (some (.val x))).set j (some (.val y))).set l (some (.val z))) s)) : Ret n R (sSeq (sPar3 i j l d1 d2 d3) rest ρ s) := seq_det (by
  unfold sPar3
  rw [h1]
  show Res.bind (d2 ρ s) _ = _
  rw [h2]
  show Res.bind (d3 ρ s) _ = _
  rw [h3]
  rfl) k
theorem ret_true {e : Env → M D} (h : e ρ s = .ok (.bool true) s) (hl : s.length = n) : Ret n (fun f => ∃ x, f = Fl.ret x ∧ x = .bool true) (sRet e ρ s) := Ret.of (x := Fl.ret (.bool true)) (s := s) (by
  unfold sRet
  rw [h]
  rfl) hl ⟨_, rfl, rfl⟩
end
theorem dEq_self {d : D} (h : SeqAt.shaped d = true) : dEq d d = some (.bool true) := by
  unfold dEq
  rw [h, PySem.SeqAt.eqv_refl _ (SeqAt.canLay_of_shaped h)]
  rfl
theorem depthAll_le2 {n : Nat} : ∀ {xs : List D}, (∀ x ∈ xs, x.depth ≤ n) → PyData.depthAll xs ≤ n
  | [], _ => Nat.zero_le _
  | x :: r, h => Nat.max_le.mpr ⟨h x List.mem_cons_self, depthAll_le2 fun y hy => h y (List.mem_cons_of_mem _ hy)⟩
/-- small data: as an item of a list -/
def smallD (d : D) : Bool := d.canLay0 && decide (d.depth ≤ 20)
theorem smallD_list {xs : List D} (h : ∀ x ∈ xs, smallD x = true) : SeqAt.shaped (.list xs) = true := by
  have h1 : PyData.canLayAll0 xs = true := by
    induction xs with
    | nil => rfl
    | cons a r ih =>
      simp only [PyData.canLayAll0, Bool.and_eq_true]
      exact ⟨(Bool.and_eq_true_iff.mp (h a List.mem_cons_self)).1, ih fun y hy => h y (List.mem_cons_of_mem _ hy)⟩
  have h2 : PyData.depthAll xs ≤ 20 := depthAll_le2 fun x hx => of_decide_eq_true (Bool.and_eq_true_iff.mp (h x hx)).2
  have h3 : (PyData.list xs).depth ≤ 64 := by
    show PyData.depthAll xs + 1 ≤ 64
    omega
  exact Bool.and_eq_true_iff.mpr ⟨h1, decide_eq_true h3⟩
theorem dEqL_self {ρ : Env} {s : List Int} {xs : List D} {i : Nat} {e : Env → M (List D)} (h : ρ[i]? = some (some (.own xs))) (he : e ρ s = .ok xs s) (hx : ∀ x ∈ xs, smallD x = true) : lift2 dEq (dVarO i) (frL e) ρ s = .ok (.bool true) s := by
  unfold lift2 dVarO frL
  rw [h]
  show Res.bind (Res.bind (e ρ s) _) _ = _
  rw [he]
  show (match dEq (.list xs) (.list xs) with | some z => Res.ok z s | none => .fail) = _
  rw [dEq_self (smallD_list hx)]
theorem law_for {N : Nat} {x : D} {e1 rest : Env → M Fl} {ρ' : Env} {s s1 s2 : List Int} (h : e1 (initE N [x]) s = .ok (.next ρ') s1) (hr : rest ρ' s1 = .ok (.ret (.bool true)) s2) : denOf 1 N (sSeq e1 rest) [x] s = .ok (.bool true) s2 := by
  unfold denOf sSeq
  rw [if_pos (show [x].length = 1 from rfl), h]
  show Res.bind (rest ρ' s1) _ = _
  rw [hr]
  rfl
/-- max(1, min(k, len(script))) -/
theorem spots_ok {k n z : Int} (hk : k < 1000) (hk0 : 0 ≤ k) (h : ∃ a b : Int, a = 1 ∧ (∃ c d : Int, c = k ∧ d = n ∧ b = if d < c then d else c) ∧ z = if b > a then b else a) (hn : 0 ≤ n) : z < 2 ^ 62 ∧ -(2 ^ 62) ≤ z := by
  obtain ⟨a, b, rfl, ⟨c, d, rfl, rfl, rfl⟩, rfl⟩ := h
  split <;> split <;> omega
end PF

set_option Elab.async false
set_option linter.all false
set_option maxRecDepth 100000
set_option maxHeartbeats 2000000
/-! PF53: plain laws: draws within statements, bags of three. -/
namespace PF
open PySem PySem.Spec PyProof.Rows L2

section
variable {n : Nat} {ρ ρ1 : Env} {s s1 : List Int} {d d1 d2 d3 : Env → M D} {i j l : Nat} {rest e1 : Env → M Fl} {R : Fl → Prop} {Q Q1 Q2 Q3 : D → Prop}
theorem ret_det {x : D} (h : d ρ s = .ok x s) (hl : s.length = n) : Ret n (fun y => y = x) (d ρ s) := ⟨x, s, hl, rfl, h⟩
theorem ret_one {den : List D → M D} (one : OneOf n den) {b : Nat} {lst : Env → M D} {xs : List D} (h : lst ρ s = .ok (.list xs) s) (hl : s.length = n) (hne : xs ≠ []) (hlt : xs.length < 1000) (hb : ρ[b]? = some (some .bag)) :
    Ret n (fun x => x ∈ xs) (callB ⟨true, den⟩ b (aCons lst aNil) ρ s) := by
  obtain ⟨x, s', h1, hx, e⟩ := one xs s hl hne hlt
  refine ⟨x, s', h1, hx, ?_⟩
  unfold callB
  rw [hb]
  show Res.bind (Res.bind (lst ρ s) _) _ = _
  rw [h]
  exact e
theorem seq_valR (h : Ret n Q (d ρ s)) (k : ∀ x s', s'.length = n → Q x → Ret n R (rest (ρ.set i (some (.val x))) s')) : Ret n R (sSeq (sSetA i (.v d)) rest ρ s) := by
  obtain ⟨x, s', h1, hx, e⟩ := h
  exact seq_det (setA_ok e) (k x s' h1 hx)
theorem seq_par2R (h1 : Ret n Q1 (d1 ρ s)) (h2 : ∀ s', s'.length = n → Ret n Q2 (d2 ρ s')) (k : ∀ x y s', s'.length = n → Q1 x → Q2 y → Ret n R (rest ((ρ.set i (some (.val x))).set j (some (.val y))) s')) : Ret n R (sSeq (sPar i j (.v d1) (.v d2)) rest ρ s) := by
  obtain ⟨x, s1, hl1, hx, e1⟩ := h1
  obtain ⟨y, s2, hl2, hy, e2⟩ := h2 s1 hl1
  refine seq_det (ρ1 := (ρ.set i (some (.val x))).set j (some (.val y))) (s1 := s2) ?_ (k x y s2 hl2 hx hy)
  show Res.bind (Res.bind (d1 ρ s) _) _ = _
  rw [e1]
  show Res.bind (Res.bind (d2 ρ s1) _) _ = _
  rw [e2]
  rfl
theorem seq_par3R (h1 : Ret n Q1 (d1 ρ s)) (h2 : ∀ s', s'.length = n → Ret n Q2 (d2 ρ s')) (h3 : ∀ s', s'.length = n → Ret n Q3 (d3 ρ s')) (k : ∀ x y z s', s'.length = n → Q1 x → Q2 y → Q3 z → Ret n R (rest (((ρ.set i (some (.val x))).set j (some (.val y))).set l (some (.val z))) s')) :
    Ret n R (sSeq (sPar3 i j l d1 d2 d3) rest ρ s) := by
  obtain ⟨x, s1, hl1, hx, e1⟩ := h1
  obtain ⟨y, s2, hl2, hy, e2⟩ := h2 s1 hl1
  obtain ⟨z, s3, hl3, hz, e3⟩ := h3 s2 hl2
  refine seq_det (ρ1 := ((ρ.set i (some (.val x))).set j (some (.val y))).set l (some (.val z))) (s1 := s3) ?_ (k x y z s3 hl3 hx hy hz)
  unfold sPar3
  rw [e1]
  show Res.bind (d2 ρ s1) _ = _
  rw [e2]
  show Res.bind (d3 ρ s2) _ = _
  rw [e3]
  rfl
/-- what it gives -/
def valOf : Res D → D
  | .ok x _ => x
  | _ => .none
theorem ret_call2 {den : List D → M D} {a : D} (h1 : d1 ρ s = .ok a s) (h2 : Ret n Q (d2 ρ s)) (hc : ∀ x, Q x → ∀ s', s'.length = n → den [a, x] s' = .ok (valOf (den [a, x] [])) s') : Ret n (fun y => ∃ x, Q x ∧ y = valOf (den [a, x] [])) (callD ⟨false, den⟩ (aCons d1 (aCons d2 aNil)) ρ s) := by
  obtain ⟨x, s', hl, hx, e⟩ := h2
  refine ⟨_, s', hl, ⟨x, hx, rfl⟩, ?_⟩
  show Res.bind (Res.bind (d1 ρ s) _) _ = _
  rw [h1]
  show Res.bind (Res.bind (Res.bind (d2 ρ s) _) _) _ = _
  rw [e]
  exact hc x hx s' hl
theorem ret_callB1 {den : List D → M D} {b : Nat} {x : D} (h : d ρ s = .ok x s) (hb : ρ[b]? = some (some .bag)) (k : Ret n Q (den [x] s)) : Ret n Q (callB ⟨true, den⟩ b (aCons d aNil) ρ s) := by
  have : callB ⟨true, den⟩ b (aCons d aNil) ρ s = den [x] s := by
    unfold callB
    rw [hb]
    show Res.bind (Res.bind (d ρ s) _) _ = _
    rw [h]
    rfl
  rw [this]; exact k
/-- a tuple of one drawn number -/
theorem ret_tup1 (h : Ret n Q (d ρ s)) : Ret n (fun y => ∃ x, Q x ∧ y = .tuple [x]) (dTup (aCons d aNil) ρ s) := by
  obtain ⟨x, s', hl, hx, e⟩ := h
  refine ⟨_, s', hl, ⟨x, hx, rfl⟩, ?_⟩
  show Res.bind (Res.bind (d ρ s) _) _ = _
  rw [e]
  rfl

/-- the den of a draw: three numbers in the bag -/
theorem draw_jar {c1 c3 c4 cd m1 m2 : Int} (hm1 : 0 < m1 ∧ m1 < 2 ^ 62) (hm2 : 0 < m2) (h1 : -(2 ^ 64) < c1 ∧ c1 < 2 ^ 64) (h3 : -(2 ^ 64) < c3 ∧ c3 < 2 ^ 64) (h4 : -(2 ^ 64) < c4 ∧ c4 < 2 ^ 64) (hd : 0 < cd ∧ cd.natAbs.log2 < 9000) :
    DrawOk 3 (denOfB 1 5 (sSeq (sIf (asB (lift2 dGt (dIxK 0 (dC (.int 0))) (dC (.int 0)))) (sSeq (sSetA 2 (.v (lift2 dMod (callO bInt (aCons (dIxK 0 (dC (.int 0))) aNil)) (dVarO 1)))) (sSeq (sSetK 0 (dC (.int 0)) (lift2 dFdiv (dIxK 0 (dC (.int 0))) (dVarO 1))) (sRet (dVar 2)))) sNext) (sSeq (sSetK 0 (dC (.int 2)) (lift2 dAdd (dIxK 0 (dC (.int 2))) (dC (.int 1)))) (sSeq (sSetA 3 (.v (lift2 dMod (callO bInt (aCons (lift2 dAdd (dIxK 0 (dC (.int 1))) (lift2 dMul (dC (.int c1)) (dIxK 0 (dC (.int 2))))) aNil)) (dC (.int m1))))) (sSeq (sSetA 4 (.v (lift2 dAdd (lift2 dMul (lift2 dMod (callO bInt (aCons (lift2 dAdd (lift2 dMul (dVarO 3) (dVarO 3)) (lift2 dMul (dC (.int c3)) (dIxK 0 (dC (.int 2))))) aNil)) (dC (.int m2))) (dC (.int c4))) (dVarO 3)))) (sRet (lift2 dMod (callO bInt (aCons (lift2 dFdiv (dVarO 4) (dC (.int cd))) aNil)) (dVarO 1)))))))) := by
  intro k s hs hk hk2
  match s, hs with
  | [a, b, c], _ =>
    refine fn_of rfl ?_
    refine seq_if (bp_gt (ip_bagK (a := a) rfl rfl) ip_c) (fun _ => ?_) fun _ => ?_
    · refine seq_assoc (seq_int (ip_mod (ip_int (ip_bagK (a := a) rfl rfl)) (ip_varO (k := k) rfl) fun b h => by omega) fun z hz => ?_)
      refine seq_assoc (seq_bag (k := 0) (a := 0) (q := 0) rfl (ip_fdiv (ip_bagK (a := a) rfl rfl) (ip_varO (k := k) rfl) fun b h => by subst h; exact log_small hk hk2) rfl fun w hw => seq_ret ?_)
      refine ret_int (ip_var (k := z) rfl) rfl fun y hy => ⟨_, rfl, y, rfl, ?_⟩
      obtain ⟨a1, b1, h1, h2, h3⟩ := hz
      subst hy h2 h3
      exact ⟨Int.emod_nonneg _ (by omega), Int.emod_lt_of_pos _ hk⟩
    · refine seq_next (seq_bag (k := 0) (a := 0) (q := 2) rfl (ip_add (ip_bagK (a := c) rfl rfl) ip_c) rfl fun w hw => ?_)
      refine seq_int (ip_mod (ip_int (ip_add (ip_bagK (a := b) rfl rfl) (ip_mul ip_c (ip_bagK (a := w) rfl rfl) (.inl fun b h => by subst h; exact h1)))) (ip_c (k := m1)) fun b h => by omega) fun one ho => ?_
      obtain ⟨o1, o2, _, ho2, ho3⟩ := ho
      have hone : -(2 ^ 64) < one ∧ one < 2 ^ 64 := by
        subst ho2
        have := Int.emod_nonneg o1 (show o2 ≠ 0 by omega)
        have := Int.emod_lt_of_pos o1 (show 0 < o2 by omega)
        omega
      refine seq_int (ip_add (ip_mul (ip_mod (ip_int (ip_add (ip_mul (ip_varO (k := one) rfl) (ip_varO (k := one) rfl) (.inl fun b h => by subst h; exact hone)) (ip_mul ip_c (ip_bagK (a := w) rfl rfl) (.inl fun b h => by subst h; exact h3)))) (ip_c (k := m2)) fun b h => by omega) ip_c (.inr fun b h => by subst h; exact h4)) (ip_varO (k := one) rfl)) fun two _ => ?_
      refine ret_int (ip_mod (ip_int (ip_fdiv (ip_varO (k := two) rfl) ip_c fun b h => by subst h; exact hd)) (ip_varO (k := k) rfl) fun b h => by omega) rfl fun y hy => ⟨_, rfl, y, rfl, ?_⟩
      obtain ⟨a1, b1, h1, h2, h3⟩ := hy
      subst h2 h3
      exact ⟨Int.emod_nonneg _ (by omega), Int.emod_lt_of_pos _ hk⟩
/-- the bag of three -/
theorem bag_ok3 {c0 c1 c2 c3 c4 cm : Int} {p18 m1 : Env → M D} {k18 k1 k2 : Int} (h18 : ∀ ρ s, p18 ρ s = .ok (.int k18) s) (hm1 : ∀ ρ s, m1 ρ s = .ok (.int k1) s) (h1 : 0 < k1) (h2 : 0 < k2)
    (b0 : -(2 ^ 64) < c0 ∧ c0 < 2 ^ 64) (b2 : -(2 ^ 64) < c2 ∧ c2 < 2 ^ 64) (b3 : -(2 ^ 64) < c3 ∧ c3 < 2 ^ 64) (b4 : -(2 ^ 64) < c4 ∧ c4 < 2 ^ 64) :
    BagOk 3 (denOfF 2 4 (sSeqF (sSetA 2 (.v (dIf (asB (lift2 dLt (dVarO 1) (callO (on1 bLen) (aCons (dVarO 0) aNil)))) (callO bInt (aCons (dIxK 0 (dVar 1)) aNil)) (lift2 dAdd (lift2 dMul (dC (.int c0)) (dVarO 1)) (dC (.int c1)))))) (sSeqF (sSetA 3 (.v (lift2 dMod (callO bMax (aCons (dC (.int 0)) (aCons (lift2 dSub (callO bAbs (aCons (dVarO 2) aNil)) p18) aNil))) m1))) (fLst (aCons (dVar 3) (aCons (lift2 dAdd (lift2 dAdd (lift2 dAdd (lift2 dMul (lift2 dMod (callO bAbs (aCons (dVarO 2) aNil)) (dC (.int k2))) (dC (.int c2))) (lift2 dMul (dC (.int c3)) (dVarO 1))) (lift2 dMul (dC (.int c4)) (callO bInt (aCons (lift2 dLt (dVarO 2) (dC (.int 0))) aNil)))) (dC (.int cm))) (aCons (dC (.int 0)) aNil))))))) := by
  intro ns spot s h0 hb
  unfold denOfF
  rw [if_pos (show [PyData.list (ns.map .int), PyData.int spot].length = 2 from rfl)]
  refine seqF_int (P := fun _ => True) (ip_if (bp_lt (ip_varO (k := spot) rfl) (ip_len rfl)) (fun hp => ?_) fun _ => ?_) fun cell _ => ?_
  · obtain ⟨a, b, rfl, rfl, hd⟩ := hp
    have hd := of_decide_eq_true hd.symm
    rw [List.length_map] at hd
    exact ip_int (ip_atK rfl rfl h0 hd)
  · exact ip_any (ip_add (ip_mul ip_c (ip_varO (k := spot) rfl) (.inl fun a h => by subst h; exact b0)) ip_c)
  · refine seqF_int (ip_mod (ip_max ip_c (ip_sub (ip_abs (ip_varO (k := cell) rfl)) (ip_k (h18 _ _)))) (ip_k (hm1 _ _)) fun b h => by omega) fun great _ => ?_
    exact bag3 (ip_var (k := great) rfl) (ip_add (ip_add (ip_add (ip_mul (ip_mod (ip_abs (ip_varO (k := cell) rfl)) (ip_c (k := k2)) fun b h => by omega) ip_c (.inr fun b h => by subst h; exact b2)) (ip_mul ip_c (ip_varO (k := spot) rfl) (.inl fun b h => by subst h; exact b3))) (ip_mul ip_c (ip_bool (bp_lt (ip_varO (k := cell) rfl) ip_c)) (.inl fun b h => by subst h; exact b4))) ip_c) (ip_c (k := 0))
theorem draw_box {c1 c4 cd m1 m2 m3 : Int} (hm1 : 0 < m1 ∧ m1 < 2 ^ 62) (hm2 : 0 < m2) (hm3 : 0 < m3) (h1 : -(2 ^ 64) < c1 ∧ c1 < 2 ^ 64) (h4 : -(2 ^ 64) < c4 ∧ c4 < 2 ^ 64) (hd : 0 < cd ∧ cd.natAbs.log2 < 9000) :
    DrawOk 3 (denOfB 1 5 (sSeq (sIf (asB (lift2 dGt (dIxK 0 (dC (.int 0))) (dC (.int 0)))) (sSeq (sSetA 2 (.v (lift2 dMod (callO bInt (aCons (dIxK 0 (dC (.int 0))) aNil)) (dVarO 1)))) (sSeq (sSetK 0 (dC (.int 0)) (lift2 dFdiv (dIxK 0 (dC (.int 0))) (dVarO 1))) (sRet (dVar 2)))) sNext) (sSeq (sSetK 0 (dC (.int 2)) (lift2 dAdd (dIxK 0 (dC (.int 2))) (dC (.int 1)))) (sSeq (sSetA 3 (.v (lift2 dMod (callO bInt (aCons (lift2 dAdd (dIxK 0 (dC (.int 1))) (lift2 dMul (dC (.int c1)) (dIxK 0 (dC (.int 2))))) aNil)) (dC (.int m1))))) (sSeq (sSetA 4 (.v (lift2 dAdd (lift2 dMul (lift2 dMod (callO bInt (aCons (lift2 dMul (dVarO 3) (dVarO 3)) aNil)) (dC (.int m2))) (dVarO 3)) (lift2 dMul (dC (.int c4)) (dIxK 0 (dC (.int 2))))))) (sRet (lift2 dMod (callO bInt (aCons (lift2 dFdiv (lift2 dMod (callO bInt (aCons (dVarO 4) aNil)) (dC (.int m3))) (dC (.int cd))) aNil)) (dVarO 1)))))))) := by
  intro k s hs hk hk2
  match s, hs with
  | [a, b, c], _ =>
    refine fn_of rfl ?_
    refine seq_if (bp_gt (ip_bagK (a := a) rfl rfl) ip_c) (fun _ => ?_) fun _ => ?_
    · refine seq_assoc (seq_int (ip_mod (ip_int (ip_bagK (a := a) rfl rfl)) (ip_varO (k := k) rfl) fun b h => by omega) fun z hz => ?_)
      refine seq_assoc (seq_bag (k := 0) (a := 0) (q := 0) rfl (ip_fdiv (ip_bagK (a := a) rfl rfl) (ip_varO (k := k) rfl) fun b h => by subst h; exact log_small hk hk2) rfl fun w hw => seq_ret ?_)
      refine ret_int (ip_var (k := z) rfl) rfl fun y hy => ⟨_, rfl, y, rfl, ?_⟩
      obtain ⟨a1, b1, h1, h2, h3⟩ := hz
      subst hy h2 h3
      exact ⟨Int.emod_nonneg _ (by omega), Int.emod_lt_of_pos _ hk⟩
    · refine seq_next (seq_bag (k := 0) (a := 0) (q := 2) rfl (ip_add (ip_bagK (a := c) rfl rfl) ip_c) rfl fun w hw => ?_)
      refine seq_int (ip_mod (ip_int (ip_add (ip_bagK (a := b) rfl rfl) (ip_mul ip_c (ip_bagK (a := w) rfl rfl) (.inl fun b h => by subst h; exact h1)))) (ip_c (k := m1)) fun b h => by omega) fun one ho => ?_
      obtain ⟨o1, o2, _, ho2, ho3⟩ := ho
      have hone : -(2 ^ 64) < one ∧ one < 2 ^ 64 := by
        subst ho2
        have := Int.emod_nonneg o1 (show o2 ≠ 0 by omega)
        have := Int.emod_lt_of_pos o1 (show 0 < o2 by omega)
        omega
      refine seq_int (ip_add (ip_mul (ip_mod (ip_int (ip_mul (ip_varO (k := one) rfl) (ip_varO (k := one) rfl) (.inl fun b h => by subst h; exact hone))) (ip_c (k := m2)) fun b h => by omega) (ip_varO (k := one) rfl) (.inr fun b h => by subst h; exact hone)) (ip_mul ip_c (ip_bagK (a := w) rfl rfl) (.inl fun b h => by subst h; exact h4))) fun two _ => ?_
      refine ret_int (ip_mod (ip_int (ip_fdiv (ip_mod (ip_int (ip_varO (k := two) rfl)) (ip_c (k := m3)) fun b h => by omega) ip_c fun b h => by subst h; exact hd)) (ip_varO (k := k) rfl) fun b h => by omega) rfl fun y hy => ⟨_, rfl, y, rfl, ?_⟩
      obtain ⟨a1, b1, h1, h2, h3⟩ := hy
      subst h2 h3
      exact ⟨Int.emod_nonneg _ (by omega), Int.emod_lt_of_pos _ hk⟩
/-- the box -/
theorem bag_box {c0 c1 c2 c3 : Int} {p18 m1 : Env → M D} {k18 k1 k2 : Int} (h18 : ∀ ρ s, p18 ρ s = .ok (.int k18) s) (hm1 : ∀ ρ s, m1 ρ s = .ok (.int k1) s) (h1 : 0 < k1) (h2 : 0 < k2)
    (b0 : -(2 ^ 64) < c0 ∧ c0 < 2 ^ 64) (b2 : -(2 ^ 64) < c2 ∧ c2 < 2 ^ 64) (b3 : -(2 ^ 64) < c3 ∧ c3 < 2 ^ 64) :
    BagOk 3 (denOfF 2 4 (sSeqF (sSetA 2 (.v (dIf (asB (lift2 dLt (dVarO 1) (callO (on1 bLen) (aCons (dVarO 0) aNil)))) (dIxK 0 (dVar 1)) (lift2 dAdd (lift2 dMul (dC (.int c0)) (dVarO 1)) (dC (.int c1)))))) (sSeqF (sSetA 3 (.v (lift2 dMod (callO bInt (aCons (callO bAbs (aCons (dVarO 2) aNil)) aNil)) m1))) (fLst (aCons (callO bMax (aCons (dC (.int 0)) (aCons (lift2 dSub (dVarO 3) p18) aNil))) (aCons (lift2 dAdd (lift2 dAdd (lift2 dMul (lift2 dMod (callO bInt (aCons (dVarO 3) aNil)) (dC (.int k2))) (dC (.int c2))) (lift2 dMul (dC (.int c3)) (dVarO 1))) (callO bInt (aCons (lift2 dLt (dVarO 2) (dC (.int 0))) aNil))) (aCons (dC (.int 0)) aNil))))))) := by
  intro ns spot s h0 hb
  unfold denOfF
  rw [if_pos (show [PyData.list (ns.map .int), PyData.int spot].length = 2 from rfl)]
  refine seqF_int (P := fun _ => True) (ip_if (bp_lt (ip_varO (k := spot) rfl) (ip_len rfl)) (fun hp => ?_) fun _ => ?_) fun cell _ => ?_
  · obtain ⟨a, b, rfl, rfl, hd⟩ := hp
    have hd := of_decide_eq_true hd.symm
    rw [List.length_map] at hd
    exact ip_atK rfl rfl h0 hd
  · exact ip_any (ip_add (ip_mul ip_c (ip_varO (k := spot) rfl) (.inl fun a h => by subst h; exact b0)) ip_c)
  · refine seqF_int (ip_mod (ip_int (ip_abs (ip_varO (k := cell) rfl))) (ip_k (hm1 _ _)) fun b h => by omega) fun great _ => ?_
    exact bag3 (ip_max ip_c (ip_sub (ip_varO (k := great) rfl) (ip_k (h18 _ _)))) (ip_add (ip_add (ip_mul (ip_mod (ip_int (ip_varO (k := great) rfl)) (ip_c (k := k2)) fun b h => by omega) ip_c (.inr fun b h => by subst h; exact b2)) (ip_mul ip_c (ip_varO (k := spot) rfl) (.inl fun b h => by subst h; exact b3))) (ip_bool (bp_lt (ip_varO (k := cell) rfl) ip_c))) (ip_c (k := 0))
/-- bag = law_bag(script, spot) -/
theorem bag_step {N : Nat} {bg : List D → M (List D)} {ns : List Int} (hbag : BagOk n bg) (hN : 2 < N) (ρ : Env) (s : List Int) (z : Int) (hI : EnvI N (.list (ns.map .int)) ρ) (h0 : 0 ≤ z) (h1 : z < 2 ^ 62) :
    ∃ ρ2 is, is.length = n ∧ EnvI N (.list (ns.map .int)) ρ2 ∧ ρ2[2]? = some (some .bag) ∧ sBag 2 (callF bg (aCons (dVar 0) (aCons (dVar 1) aNil))) (ρ.set 1 (some (.val (.int z)))) s = .ok (.next ρ2) is := by
  obtain ⟨is, s1, hl, e⟩ := hbag ns z s h0 h1
  have hI1 := hI.set (i := 1) (z := some (.val (.int z))) (by decide)
  generalize hρ : ρ.set 1 (some (.val (.int z))) = ρ1 at hI1 ⊢
  have g1 : ρ1[1]? = some (some (.val (.int z))) := by rw [← hρ, List.getElem?_set_self (by rw [hI.1]; omega)]
  have bi : ∀ is : List Int, bagI (is.map .int) = some is := fun is => by
    induction is with
    | nil => rfl
    | cons a r ih =>
      rw [List.map_cons]
      unfold bagI
      rw [ih]
      rfl
  have hlen : (ρ1.map noBag).length = N := by rw [List.length_map]; exact hI1.1
  refine ⟨(ρ1.map noBag).set 2 (some .bag), is, hl, ⟨by rw [List.length_set]; exact hlen, ?_⟩, by rw [List.getElem?_set_self (by rw [hlen]; omega)], ?_⟩
  · rw [List.getElem?_set_ne (by decide), List.getElem?_map, hI1.2]
    rfl
  · have e0 : callF bg (aCons (dVar 0) (aCons (dVar 1) aNil)) ρ1 s = .ok (is.map .int) s1 := by
      unfold callF aCons dVar
      rw [hI1.2]
      simp only [Res.bind, g1]
      exact e
    unfold sBag
    rw [e0]
    simp only [Res.bind, bi]
theorem for_right {N : Nat} {x : D} {right : List D → M D} {t : Nat} (ht : 3 ≤ t) (hr : ∀ s, s.length = n → Ret n (fun x => x = .bool true) (right [] s)) : ∀ (xs : List D) (ρ : Env) (s : List Int), s.length = n → EnvI N x ρ → ρ[2]? = some (some .bag) →
    ∃ ρ' s', EnvI N x ρ' ∧ sFor (.name t) (sIf (tNotD (asB (callB ⟨true, right⟩ 2 aNil))) (sRet (dC (.bool false))) sNext) xs ρ s = .ok (.next ρ') s'
  | [], ρ, s, _, hI, _ => ⟨ρ, s, hI, rfl⟩
  | y :: xs, ρ, s, hl, hI, hb => by
    obtain ⟨z, s1, h1, rfl, e⟩ := hr s hl
    have ht2 : 2 ≠ t := by omega
    have hb2 : (ρ.set t (some (.val y)))[2]? = some (some .bag) := by rw [List.getElem?_set_ne (Ne.symm ht2)]; exact hb
    obtain ⟨ρ2, s2, h2, e2⟩ := for_right ht hr xs (ρ.set t (some (.val y))) s1 h1 (hI.set (by omega)) hb2
    refine ⟨ρ2, s2, h2, ?_⟩
    have eb : callB ⟨true, right⟩ 2 aNil (ρ.set t (some (.val y))) s = .ok (.bool true) s1 := by
      unfold callB
      rw [hb2]
      exact e
    show Res.bind (Res.bind (Res.bind (Res.bind (callB ⟨true, right⟩ 2 aNil (ρ.set t (some (.val y))) s) _) _) _) _ = _
    rw [eb]
    exact e2
/-- bag = ..; for turn in range(m): if not right(bag): return False -/
theorem step_for {N : Nat} {bg : List D → M (List D)} {right : List D → M D} {x : D} {ns : List Int} {m : Int} {t : Nat} (hx : x = .list (ns.map .int)) (hbag : BagOk n bg) (hr : ∀ s, s.length = n → Ret n (fun x => x = .bool true) (right [] s)) (hN : 3 < N) (ht : 3 ≤ t) (hm : 0 ≤ m) (hm2 : m ≤ 1000) :
    ∀ (ρ : Env) (s : List Int) (z : Int), EnvI N x ρ → 0 ≤ z → z < 2 ^ 62 → ∃ ρ' s', EnvI N x ρ' ∧
      sSeq (sBag 2 (callF bg (aCons (dVar 0) (aCons (dVar 1) aNil)))) (sForD (.name t) (iRng1D (dC (.int m))) (sIf (tNotD (asB (callB ⟨true, right⟩ 2 aNil))) (sRet (dC (.bool false))) sNext)) (ρ.set 1 (some (.val (.int z)))) s = .ok (.next ρ') s' := by
  intro ρ s z hI h0 h1
  subst hx
  obtain ⟨ρ2, is, hl, hI2, gb, eb⟩ := bag_step hbag (by omega) ρ s z hI h0 h1
  obtain ⟨ρ3, s3, hI3, e3⟩ := for_right ht hr (rngD 0 m.toNat) ρ2 is hl hI2 gb
  refine ⟨ρ3, s3, hI3, ?_⟩
  unfold sSeq
  rw [eb]
  have ok : okRg m = true := by unfold okRg; rw [decide_eq_true (show -(2 ^ 62) ≤ m by omega), decide_eq_true (show m < 2 ^ 62 by omega)]; rfl
  show Res.bind (if okRg m = true then Res.ok (rngD 0 m.toNat) is else .fail) _ = _
  rw [if_pos ok]
  exact e3
end
theorem or_no {t u : Env → M Bool} {ρ : Env} {s : List Int} (h1 : t ρ s = .ok false s) (h2 : u ρ s = .ok false s) : tOrD t u ρ s = .ok false s := by
  unfold tOrD
  rw [h1]
  exact h2
theorem if_no {t : Env → M Bool} {b : Env → M Fl} {ρ : Env} {s : List Int} (h : t ρ s = .ok false s) : sIf t b sNext ρ s = .ok (.next ρ) s := by
  unfold sIf
  rw [h]
  rfl
end PF

set_option Elab.async false
set_option linter.all false
set_option maxRecDepth 100000
set_option maxHeartbeats 1000000
/-! PF54: plain laws: draws unpacked. -/
namespace PF
open PySem PySem.Spec PyProof.Rows L2
section
variable {n : Nat} {ρ ρ1 : Env} {s s1 : List Int} {d d1 d2 d3 : Env → M D} {i j l : Nat} {rest e1 : Env → M Fl} {R : Fl → Prop} {Q Q1 Q2 Q3 : D → Prop}
theorem seq_unp3R (h1 : Ret n Q1 (d1 ρ s)) (h2 : ∀ s', s'.length = n → Ret n Q2 (d2 ρ s')) (h3 : ∀ s', s'.length = n → Ret n Q3 (d3 ρ s')) (k : ∀ x y z s', s'.length = n → Q1 x → Q2 y → Q3 z → Ret n R (rest (setAll [i, j, l] [x, y, z] ρ) s')) :
    Ret n R (sSeq (sUnp (.tup [i, j, l]) (dTup (aCons d1 (aCons d2 (aCons d3 aNil))))) rest ρ s) := by
  obtain ⟨x, s1, hl1, hx, e1⟩ := h1
  obtain ⟨y, s2, hl2, hy, e2⟩ := h2 s1 hl1
  obtain ⟨z, s3, hl3, hz, e3⟩ := h3 s2 hl2
  refine seq_det (ρ1 := setAll [i, j, l] [x, y, z] ρ) (s1 := s3) ?_ (k x y z s3 hl3 hx hy hz)
  have e : dTup (aCons d1 (aCons d2 (aCons d3 aNil))) ρ s = .ok (.tuple [x, y, z]) s3 := by
    show Res.bind (Res.bind (d1 ρ s) _) _ = _
    rw [e1]
    show Res.bind (Res.bind (Res.bind (d2 ρ s1) _) _) _ = _
    rw [e2]
    show Res.bind (Res.bind (Res.bind (Res.bind (d3 ρ s2) _) _) _) _ = _
    rw [e3]
    rfl
  unfold sUnp
  rw [e]
  rfl
theorem seq_unp2R (h1 : Ret n Q1 (d1 ρ s)) (h2 : ∀ s', s'.length = n → Ret n Q2 (d2 ρ s')) (k : ∀ x y s', s'.length = n → Q1 x → Q2 y → Ret n R (rest (setAll [i, j] [x, y] ρ) s')) :
    Ret n R (sSeq (sUnp (.tup [i, j]) (dTup (aCons d1 (aCons d2 aNil)))) rest ρ s) := by
  obtain ⟨x, s1, hl1, hx, e1⟩ := h1
  obtain ⟨y, s2, hl2, hy, e2⟩ := h2 s1 hl1
  refine seq_det (ρ1 := setAll [i, j] [x, y] ρ) (s1 := s2) ?_ (k x y s2 hl2 hx hy)
  have e : dTup (aCons d1 (aCons d2 aNil)) ρ s = .ok (.tuple [x, y]) s2 := by
    show Res.bind (Res.bind (d1 ρ s) _) _ = _
    rw [e1]
    show Res.bind (Res.bind (Res.bind (d2 ρ s1) _) _) _ = _
    rw [e2]
    rfl
  unfold sUnp
  rw [e]
  rfl
end
end PF

set_option Elab.async false
set_option linter.all false
set_option maxRecDepth 100000
set_option maxHeartbeats 1000000
/-! PF55: plain laws: steps for printed walks. -/
namespace PF
open PySem PySem.Spec PyProof.Rows L2
theorem mem_both {P : D → Prop} {l r : List D} (h : ∀ x ∈ l, P x) (k : ∀ x ∈ r, P x) : ∀ x ∈ l ++ r, P x := fun x hx => (List.mem_append.mp hx).elim (h x) (k x)
@[elab_as_elim] theorem mem_split {P : D → Prop} {v : D} {xs : List D} (h : v ∈ xs) (k : ∀ x ∈ xs, P x) : P v := k v h
section
variable {n : Nat} {ρ ρ1 : Env} {s s1 : List Int} {d d1 d2 d3 : Env → M D} {i j l : Nat} {rest e1 : Env → M Fl} {R : Fl → Prop} {Q Q1 Q2 Q3 : D → Prop}
/-- if not f(bag, ..): return False -/
theorem seq_ifcall {den : List D → M D} {b : Nat} {r : Env → M (List D)} {xs : List D} {b1 : Env → M Fl} (h : r ρ s = .ok xs s) (hb : ρ[b]? = some (some .bag)) (hc : Ret n (fun x => x = .bool true) (den xs s)) (k : ∀ s', s'.length = n → Ret n R (rest ρ s')) :
    Ret n R (sSeq (sIf (tNotD (asB (callB ⟨true, den⟩ b r))) b1 sNext) rest ρ s) := by
  obtain ⟨x, s', hl, rfl, e⟩ := hc
  refine seq_det (ρ1 := ρ) (s1 := s') ?_ (k s' hl)
  have eb : callB ⟨true, den⟩ b r ρ s = .ok (.bool true) s' := by
    unfold callB
    rw [hb]
    show Res.bind (r ρ s) _ = _
    rw [h]
    exact e
  show Res.bind (Res.bind (Res.bind (callB ⟨true, den⟩ b r ρ s) _) _) _ = _
  rw [eb]
  rfl
/-- return a and f(bag, ..) -/
theorem ret_andcall {den : List D → M D} {b : Nat} {r : Env → M (List D)} {xs : List D} {a : Env → M D} (ha : a ρ s = .ok (.bool true) s) (h : r ρ s = .ok xs s) (hb : ρ[b]? = some (some .bag)) (hc : Ret n (fun x => x = .bool true) (den xs s)) :
    Ret n (fun f => ∃ x, f = Fl.ret x ∧ x = .bool true) (sRet (dAndV a (callB ⟨true, den⟩ b r)) ρ s) := by
  obtain ⟨x, s', hl, rfl, e⟩ := hc
  refine ⟨.ret (.bool true), s', hl, ⟨_, rfl, rfl⟩, ?_⟩
  have eb : callB ⟨true, den⟩ b r ρ s = .ok (.bool true) s' := by
    unfold callB
    rw [hb]
    show Res.bind (r ρ s) _ = _
    rw [h]
    exact e
  have ea : dAndV a (callB ⟨true, den⟩ b r) ρ s = .ok (.bool true) s' := by
    unfold dAndV
    rw [ha]
    show callB ⟨true, den⟩ b r ρ s = _
    exact eb
  unfold sRet
  rw [ea]
  rfl
/-- x, y = [draw for turn in range(2)] -/
theorem seq_unpL2 {den : List D → M D} (one : OneOf n den) {t b : Nat} {lst : Env → M D} {xs : List D} (h : ∀ (ρ' : Env), (∃ x : D, ρ' = (wipeE ρ [t]).set t (some (.val x))) → ∀ s, lst ρ' s = .ok (.list xs) s) (hl : s.length = n) (hne : xs ≠ []) (hlt : xs.length < 1000) (hb : ∀ x : D, ((wipeE ρ [t]).set t (some (.val x)))[b]? = some (some .bag))
    (k : ∀ x y s', s'.length = n → x ∈ xs → y ∈ xs → Ret n R (rest (setAll [i, j] [x, y] ρ) s')) :
    Ret n R (sSeq (sUnpL [i, j] (frL (fComp (.name t) [t] (iRng1D (dC (.int 2))) tTrue (callB ⟨true, den⟩ b (aCons lst aNil))))) rest ρ s) := by
  have call : ∀ (x : D) (s : List Int), s.length = n → Ret n (fun y => y ∈ xs) (callB ⟨true, den⟩ b (aCons lst aNil) ((wipeE ρ [t]).set t (some (.val x))) s) := fun x s hl => ret_one one (h _ ⟨x, rfl⟩ s) hl hne hlt (hb x)
  obtain ⟨x, s1, h1, hx, e1⟩ := call (.int 0) s hl
  obtain ⟨y, s2, h2, hy, e2⟩ := call (.int 1) s1 h1
  refine seq_det (ρ1 := setAll [i, j] [x, y] ρ) (s1 := s2) ?_ (k x y s2 h2 hx hy)
  have ec : fComp (.name t) [t] (iRng1D (dC (.int 2))) tTrue (callB ⟨true, den⟩ b (aCons lst aNil)) ρ s = .ok [x, y] s2 := by
    have it : iRng1D (dC (.int 2)) ρ s = .ok [.int 0, .int 1] s := by kernel_rfl
    unfold fComp
    rw [it]
    show (if ([PyData.int 0, PyData.int 1] : List D).length ≤ sizeLine then cLoop (.name t) tTrue (callB ⟨true, den⟩ b (aCons lst aNil)) (wipeE ρ [t]) [.int 0, .int 1] s else .fail) = _
    rw [if_pos (by rw [sizeLine_eq]; decide)]
    show Res.bind (calmR (callB ⟨true, den⟩ b (aCons lst aNil) ((wipeE ρ [t]).set t (some (.val (.int 0)))) s)) _ = _
    rw [e1]
    show Res.bind (Res.bind (calmR (callB ⟨true, den⟩ b (aCons lst aNil) ((wipeE ρ [t]).set t (some (.val (.int 1)))) s1)) _) _ = _
    rw [e2]
    rfl
  unfold sUnpL frL
  show Res.bind (Res.bind (fComp _ _ _ _ _ ρ s) _) _ = _
  rw [ec]
  rfl
/-- a number drawn -/
theorem ret_num {draw : List D → M D} (h : DrawOk n draw) {b : Nat} {k : Int} {e : Env → M D} {xs : List D} (hk : e ρ s = .ok (.int k) s) (h0 : 0 < k) (h1 : k < 1000) (hl : s.length = n) (hb : ρ[b]? = some (some .bag)) (hx : xs = (List.range k.toNat).map fun (i : Nat) => PyData.int i) :
    Ret n (fun x => x ∈ xs) (callB ⟨true, draw⟩ b (aCons e aNil) ρ s) := by
  obtain ⟨x, s', h2, ⟨r, rfl, h3, h4⟩, e2⟩ := h k s hl h0 h1
  refine ⟨.int r, s', h2, ?_, ?_⟩
  · rw [hx]
    exact List.mem_map.mpr ⟨r.toNat, List.mem_range.mpr (by omega), by rw [Int.toNat_of_nonneg h3]⟩
  · unfold callB
    rw [hb]
    show Res.bind (Res.bind (e ρ s) _) _ = _
    rw [hk]
    exact e2
theorem ret_numT {draw : List D → M D} (h : DrawOk n draw) {b : Nat} {k : Int} {e : Env → M D} {xs : List D} (hk : e ρ s = .ok (.int k) s) (h0 : 0 < k) (h1 : k < 1000) (hl : s.length = n) (hb : ρ[b]? = some (some .bag)) (hx : xs = (List.range k.toNat).map fun (i : Nat) => PyData.tuple [.int i]) :
    Ret n (fun x => x ∈ xs) (dTup (aCons (callB ⟨true, draw⟩ b (aCons e aNil)) aNil) ρ s) := by
  refine (ret_tup1 (ret_num h hk h0 h1 hl hb rfl)).mono fun y hy => ?_
  obtain ⟨x, hx2, rfl⟩ := hy
  obtain ⟨i, hi, rfl⟩ := List.mem_map.mp hx2
  rw [hx]
  exact List.mem_map.mpr ⟨i, hi, rfl⟩

/-! ### values part by part -/
variable {r : Env → M (List D)} {xs ys zs : List D} {x y : D}
theorem ev_nil : aNil ρ s = .ok [] s := rfl
theorem ev_cons (h : d ρ s = .ok x s) (t : r ρ s = .ok xs s) : aCons d r ρ s = .ok (x :: xs) s := by
  show Res.bind (d ρ s) _ = _
  rw [h]
  show Res.bind (r ρ s) _ = _
  rw [t]
  rfl
theorem ev_tup (h : r ρ s = .ok xs s) (hl : xs.length ≤ 4000 := by exact Nat.le_of_ble_eq_true rfl) : dTup r ρ s = .ok (.tuple xs) s := by
  show Res.bind (r ρ s) _ = _
  rw [h]
  show (if xs.length ≤ sizeLine then Res.ok (PyData.tuple xs) s else .fail) = _
  rw [if_pos (by rw [sizeLine_eq]; omega)]
theorem ev_fl (h : r ρ s = .ok xs s) (hl : xs.length ≤ 4000 := by exact Nat.le_of_ble_eq_true rfl) : fLst r ρ s = .ok xs s := by
  show Res.bind (r ρ s) _ = _
  rw [h]
  show (if xs.length ≤ sizeLine then Res.ok xs s else .fail) = _
  rw [if_pos (by rw [sizeLine_eq]; omega)]
theorem ev_frL {r : Env → M (List D)} (h : r ρ s = .ok xs s) : frL r ρ s = .ok (.list xs) s := by
  show Res.bind (r ρ s) _ = _
  rw [h]
  rfl
theorem ev_addL {a b : Env → M D} (h1 : a ρ s = .ok (.list xs) s) (h2 : b ρ s = .ok (.list ys) s) (hz : xs ++ ys = zs) (hl : xs.length + ys.length ≤ 4000 := by exact Nat.le_of_ble_eq_true rfl) : lift2 dAdd a b ρ s = .ok (.list zs) s := by
  subst hz
  show Res.bind (a ρ s) _ = _
  rw [h1]
  show Res.bind (b ρ s) _ = _
  rw [h2]
  show (match (if xs.length + ys.length ≤ sizeLine then some (PyData.list (xs ++ ys)) else none) with | some z => Res.ok z s | none => .fail) = _
  rw [if_pos (by rw [sizeLine_eq]; omega)]
theorem ev_var {i : Nat} (h : ρ[i]? = some (some (.val x))) : dVar i ρ s = .ok x s := by
  unfold dVar
  rw [h]
theorem ev_varO {i : Nat} (h : ρ[i]? = some (some (.val x))) : dVarO i ρ s = .ok x s := by
  unfold dVarO
  rw [h]
theorem ev_varW {i : Nat} (h : ρ[i]? = some (some (.own xs))) : dVarO i ρ s = .ok (.list xs) s := by
  unfold dVarO
  rw [h]
theorem ev_and {a b : Env → M D} (h1 : a ρ s = .ok (.bool true) s) (h2 : b ρ s = .ok (.bool true) s) : dAndV a b ρ s = .ok (.bool true) s := by
  unfold dAndV
  rw [h1]
  exact h2
theorem cons_eq {a b : D} {as bs : List D} (h : a = b) (t : as = bs) : a :: as = b :: bs := by rw [h, t]
theorem ev_eqL {a b : Env → M D} (h1 : a ρ s = .ok (.list xs) s) (h2 : b ρ s = .ok (.list ys) s) (he : xs = ys) (hx : ∀ x ∈ xs, smallD x = true) : lift2 dEq a b ρ s = .ok (.bool true) s := by
  subst he
  show Res.bind (a ρ s) _ = _
  rw [h1]
  show Res.bind (b ρ s) _ = _
  rw [h2]
  show (match dEq (.list xs) (.list xs) with | some z => Res.ok z s | none => .fail) = _
  rw [dEq_self (smallD_list hx)]
theorem ev_neL {a b : Env → M D} (h1 : a ρ s = .ok (.list xs) s) (h2 : b ρ s = .ok (.list ys) s) (he : xs = ys) (hx : ∀ x ∈ xs, smallD x = true) : asB (lift2 dNe a b) ρ s = .ok false s := by
  subst he
  have e : lift2 dEq a b ρ s = .ok (.bool true) s := ev_eqL h1 h2 rfl hx
  have e2 : lift2 dNe a b ρ s = .ok (.bool false) s := by
    show Res.bind (a ρ s) _ = _
    rw [h1]
    show Res.bind (b ρ s) _ = _
    rw [h2]
    show (match dNe (.list xs) (.list xs) with | some z => Res.ok z s | none => .fail) = _
    have hs := smallD_list hx
    unfold dNe
    rw [hs, PySem.SeqAt.eqv_refl _ (SeqAt.canLay_of_shaped hs)]
    rfl
  unfold asB
  rw [e2]
  rfl
end
/-! ### texts of lists whose items are told one by one -/
def smallR (d : D) : Bool := d.canLay0 && litI d && decide (d.depth ≤ 20) && decide (d.weight ≤ 1000)
mutual
theorem sameD_refl : ∀ d : D, litI d = true → sameD d d = true
  | .none, _ => rfl
  | .bool b, _ => by cases b <;> rfl
  | .int i, _ => by simp [sameD]
  | .str x, _ => by simp [sameD]
  | .list xs, h => by
    simp only [sameD]
    exact sameDs_refl xs (by simpa only [litI] using h)
  | .tuple xs, h => by
    simp only [sameD]
    exact sameDs_refl xs (by simpa only [litI] using h)
  | .dict _, h => by simp only [litI] at h; exact nomatch h
theorem sameDs_refl : ∀ xs : List D, litIs xs = true → sameDs xs xs = true
  | [], _ => rfl
  | x :: xs, h => by
    have h : litI x = true ∧ litIs xs = true := by simpa only [litIs, Bool.and_eq_true] using h
    simp only [sameDs]
    rw [if_pos (sameD_refl x h.1)]
    exact sameDs_refl xs h.2
end
theorem smallR_list {xs : List D} (h : ∀ x ∈ xs, smallR x = true) (hl : xs.length ≤ 29) : okR (.list xs) = true ∧ litI (.list xs) = true := by
  have all : PyData.canLayAll0 xs = true ∧ litIs xs = true ∧ PyData.depthAll xs ≤ 20 ∧ PyData.weightAll xs ≤ 1001 * xs.length := by
    clear hl
    induction xs with
    | nil => exact ⟨rfl, rfl, Nat.zero_le _, Nat.zero_le _⟩
    | cons a r ih =>
      obtain ⟨i1, i2, i3, i4⟩ := ih fun y hy => h y (List.mem_cons_of_mem _ hy)
      have ha := h a List.mem_cons_self
      unfold smallR at ha
      simp only [Bool.and_eq_true, decide_eq_true_eq] at ha
      obtain ⟨⟨⟨a1, a2⟩, a3⟩, a4⟩ := ha
      refine ⟨?_, ?_, ?_, ?_⟩
      · simp only [PyData.canLayAll0, Bool.and_eq_true]; exact ⟨a1, i1⟩
      · simp only [litIs, Bool.and_eq_true]; exact ⟨a2, i2⟩
      · exact Nat.max_le.mpr ⟨a3, i3⟩
      · show a.weight + 1 + PyData.weightAll r ≤ 1001 * (r.length + 1)
        omega
  obtain ⟨h1, h2, h3, h4⟩ := all
  have hL : litI (.list xs) = true := by simp only [litI]; exact h2
  refine ⟨?_, hL⟩
  unfold okR
  simp only [Bool.and_eq_true, decide_eq_true_eq]
  refine ⟨⟨⟨by simp only [PyData.canLay0]; exact h1, hL⟩, ?_⟩, ?_⟩
  · show PyData.depthAll xs + 1 ≤ 64; omega
  · show PyData.weightAll xs ≤ 30000; omega
theorem ev_reprL {a c e : Env → M D} {xs ys : List D} {ρ : Env} {s : List Int} (h1 : a ρ s = .ok (.list xs) s) (h2 : c ρ s = .ok (.list ys) s) (he : xs = ys) (hx : ∀ x ∈ xs, smallR x = true) (hl : xs.length ≤ 29) :
    orD (dReprSame false (aCons a aNil) (aCons c aNil)) e ρ s = .ok (.bool true) s := by
  subst he
  obtain ⟨k1, k2⟩ := smallR_list hx hl
  have k3 := sameD_refl _ k2
  have r1 : aCons a aNil ρ s = .ok [.list xs] s := by
    show Res.bind (a ρ s) _ = _
    rw [h1]
    rfl
  have r2 : aCons c aNil ρ s = .ok [.list xs] s := by
    show Res.bind (c ρ s) _ = _
    rw [h2]
    rfl
  unfold orD dReprSame
  rw [r1]
  simp only [Res.bind, k1, if_true, r2, k3]
  rfl
end PF

set_option maxHeartbeats 0
namespace K00
open PF PySem.W
def Lcls : List ClsI := [⟨"SumError", .val, none, [0]⟩, ⟨"InvalidLot", .val, none, [1, 0]⟩, ⟨"InvalidRow", .val, none, [2, 0]⟩, ⟨"InvalidMap", .val, none, [3, 0]⟩, ⟨"InvalidBook", .val, none, [4, 0]⟩, ⟨"InvalidReport", .val, none, [5, 0]⟩, ⟨"InvalidClaim", .val, none, [6, 0]⟩, ⟨"InvalidText", .val, none, [7, 0]⟩, ⟨"InvalidOperation", .val, none, [8, 0]⟩, ⟨"ParseError", .val, (some "spot"), [9, 0]⟩, ⟨"InvalidNumber", .idx, (some "given"), [10]⟩, ⟨"UnknownName", .lok, (some "wanted"), [11]⟩, ⟨"NothingToUndo", .lok, (some "done"), [12]⟩, ⟨"TooMany", .ovf, (some "limit"), [13]⟩, ⟨"Refused", .ari, (some "reason"), [14]⟩]
def Lcns0 : List (PySem.Str × D) := [("MAX_RING", (.int (24))), ("MOST_IN_ROW", (.int (48))), ("MOST_RING_kneser", (.int (12))), ("MOST_RING_near", (.int (11))), ("MOST_FOLD", (.int (24))), ("MOST_SEARCHED_bases", (.int (12))), ("MOST_SEARCHED_rulers", (.int (16))), ("MAX_LENGTH", (.int (24))), ("MOST_MARKED", (.int (13))), ("MAX_STEP", (.int (24))), ("MOST_CLASSES", (.int (12))), ("MAX_WHOLE_covers", (.int (5040))), ("MOST_LISTED_fills", (.int (400))), ("MAX_FILLED", (.int (200))), ("MOST_CHAINS", (.int (400))), ("MOST_SPECTRA", (.int (400))), ("MOST_SEARCHED_frees", (.int (14))), ("MOST_HUED_frees", (.int (16))), ("MOST_SEARCHED_threes", (.int (16))), ("MOST_HUED_threes", (.int (14)))]
def Lcns1 : List (PySem.Str × D) := [("MOST_FOURS", (.int (400))), ("MOST_MEMBERS_growth", (.int (12))), ("MOST_SEARCHED_once", (.int (16))), ("MOST_LISTED_once", (.int (400))), ("MOST_SOUGHT_zeros", (.int (12))), ("MOST_ROWS", (.int (300))), ("MOST_MATCHED", (.int (6))), ("MAX_WHOLE_wholes", (.int (200))), ("MOST_MEMBERS_wholes", (.int (12))), ("KINDS", (.tuple [(.str "alike"), (.str "basis"), (.str "clear"), (.str "cover"), (.str "even"), (.str "exact"), (.str "fill"), (.str "flat"), (.str "free"), (.str "near"), (.str "once"), (.str "part"), (.str "spectrum"), (.str "steps"), (.str "sums")])), ("MOST_CLAIMS", (.int (24))), ("MAX_WATCHED", (.int (8))), ("MOST_MEASURED", (.int (12))), ("MOST_SOUGHT_hidden", (.int (16))), ("MOST_PAIRED", (.int (12))), ("MAX_SIGNS", (.int (20000)))]
def Lcns : List (PySem.Str × D) := Lcns0 ++ Lcns1
def Lfree : List PySem.Str := ["ArithmeticError", "IndexError", "KeyError", "LookupError", "OverflowError", "ValueError", "abs", "enumerate", "int", "isinstance", "len", "max", "min", "range", "repr", "super"]
def tb : Tb := tbOf ⟨Lcls, Lcns, Lfree, [], ⟨"", [], none, [], 0, false, false, 0, [], .val ⟨false, fun _ _ => .fail⟩, ""⟩, ["ValueError", "IndexError", "LookupError", "OverflowError", "ArithmeticError", "KeyError"]⟩
abbrev prg : PySem.Program := PySem.Challenge.pw_sumlots_k00_whole_errors_and_constants
def den_law_box : List D → M (List D) := denOfF 2 4 (sSeqF (sSetA 2 (.v (dIf (asB (lift2 dLt (dVarO 1) (callO (on1 bLen) (aCons (dVarO 0) aNil)))) (dIxK 0 (dVar 1)) (lift2 dAdd (lift2 dMul (dC (.int 53)) (dVarO 1)) (dC (.int 29)))))) (sSeqF (sSetA 3 (.v (lift2 dMod (callO bInt (aCons (callO bAbs (aCons (dVarO 2) aNil)) aNil)) (lift2 dPow (lift2 dPow (dC (.int 10)) (dC (.int 47))) (dC (.int 12)))))) (fLst (aCons (callO bMax (aCons (dC (.int 0)) (aCons (lift2 dSub (dVarO 3) (lift2 dPow (dC (.int 10)) (dC (.int 18)))) aNil))) (aCons (lift2 dAdd (lift2 dAdd (lift2 dMul (lift2 dMod (callO bInt (aCons (dVarO 3) aNil)) (dC (.int 2305843009213693669))) (dC (.int 7933))) (lift2 dMul (dC (.int 104759)) (dVarO 1))) (callO bInt (aCons (lift2 dLt (dVarO 2) (dC (.int 0))) aNil))) (aCons (dC (.int 0)) aNil))))))
def d_law_box : DefI := { name := "_law_box", gl := "_law_box", ps := ["script", "at"], va := none, N := ["script", "at", "cell", "great"], k := 0, gq := false, lam := false, idx := 53, mu := [], den := .new den_law_box }
def p_law_box : List DefI := []
def den_law_next : List D → M D := denOfB 1 5 (sSeq (sIf (asB (lift2 dGt (dIxK 0 (dC (.int 0))) (dC (.int 0)))) (sSeq (sSetA 2 (.v (lift2 dMod (callO bInt (aCons (dIxK 0 (dC (.int 0))) aNil)) (dVarO 1)))) (sSeq (sSetK 0 (dC (.int 0)) (lift2 dFdiv (dIxK 0 (dC (.int 0))) (dVarO 1))) (sRet (dVar 2)))) sNext) (sSeq (sSetK 0 (dC (.int 2)) (lift2 dAdd (dIxK 0 (dC (.int 2))) (dC (.int 1)))) (sSeq (sSetA 3 (.v (lift2 dMod (callO bInt (aCons (lift2 dAdd (dIxK 0 (dC (.int 1))) (lift2 dMul (dC (.int 15485867)) (dIxK 0 (dC (.int 2))))) aNil)) (dC (.int 2305843009213693951))))) (sSeq (sSetA 4 (.v (lift2 dAdd (lift2 dMul (lift2 dMod (callO bInt (aCons (lift2 dMul (dVarO 3) (dVarO 3)) aNil)) (dC (.int 2305843009213693921))) (dVarO 3)) (lift2 dMul (dC (.int 32452867)) (dIxK 0 (dC (.int 2))))))) (sRet (lift2 dMod (callO bInt (aCons (lift2 dFdiv (lift2 dMod (callO bInt (aCons (dVarO 4) aNil)) (dC (.int 2305843009213693907))) (dC (.int 8192))) aNil)) (dVarO 1)))))))
def d_law_next : DefI := { name := "_law_next", gl := "_law_next", ps := ["box", "total"], va := none, N := ["box", "total", "found", "one", "two"], k := 0, gq := false, lam := false, idx := 54, mu := [], den := .val ⟨true, den_law_next⟩ }
def p_law_next : List DefI := d_law_box :: p_law_box
def den_law_flags : List D → M D := denOf 1 2 (sSeq (sSetA 1 (.v (frL (fLst (aCons (dIsE 15 [0, 1, 2, 3, 4, 5, 6, 7, 8, 9] (dVarO 0)) (aCons (dIsE 15 [1] (dVarO 0)) (aCons (dIsE 15 [2] (dVarO 0)) (aCons (dIsE 15 [3] (dVarO 0)) aNil)))))))) (sSeq (sSetA 1 (.v (lift2 dAdd (dVarO 1) (frL (fLst (aCons (dIsE 15 [4] (dVarO 0)) (aCons (dIsE 15 [5] (dVarO 0)) (aCons (dIsE 15 [6] (dVarO 0)) (aCons (dIsE 15 [7] (dVarO 0)) aNil))))))))) (sSeq (sSetA 1 (.v (lift2 dAdd (dVarO 1) (frL (fLst (aCons (dIsE 15 [8] (dVarO 0)) (aCons (dIsE 15 [9] (dVarO 0)) (aCons (dIsE 15 [10] (dVarO 0)) (aCons (dIsE 15 [11] (dVarO 0)) aNil))))))))) (sSeq (sSetA 1 (.v (lift2 dAdd (dVarO 1) (frL (fLst (aCons (dIsE 15 [12] (dVarO 0)) (aCons (dIsE 15 [13] (dVarO 0)) (aCons (dIsE 15 [14] (dVarO 0)) (aCons (dIsE 15 [0, 1, 2, 3, 4, 5, 6, 7, 8, 9] (dVarO 0)) aNil))))))))) (sRet (lift2 dAdd (dVarO 1) (frL (fLst (aCons (dIsE 15 [10] (dVarO 0)) (aCons (dIsE 15 [10, 11, 12] (dVarO 0)) (aCons (dIsE 15 [13] (dVarO 0)) (aCons (dIsE 15 [13, 14] (dVarO 0)) (aCons (dIsE 15 [] (dVarO 0)) aNil)))))))))))))
def d_law_flags : DefI := { name := "_law_flags", gl := "_law_flags", ps := ["error"], va := none, N := ["error", "found"], k := 0, gq := false, lam := false, idx := 55, mu := [], den := .val ⟨false, den_law_flags⟩ }
def p_law_flags : List DefI := d_law_next :: p_law_next
def den_law_made : List D → M D := denOf 1 2 (sSeq (sSetA 1 (.v (frL (fLst (aCons (dExc0 0 (dVar 0)) (aCons (dExc0 1 (dVar 0)) (aCons (dExc0 2 (dVar 0)) (aCons (dExc0 3 (dVar 0)) (aCons (dExc0 4 (dVar 0)) (aCons (dExc0 5 (dVar 0)) (aCons (dExc0 6 (dVar 0)) aNil))))))))))) (sSeq (sSetA 1 (.v (lift2 dAdd (dVarO 1) (frL (fLst (aCons (dExc0 7 (dVar 0)) (aCons (dExc0 8 (dVar 0)) (aCons (dExcF 9 ("spot" : PySem.Str) (dVar 0)) (aCons (dExcF 10 ("given" : PySem.Str) (dVar 0)) (aCons (dExcF 11 ("wanted" : PySem.Str) (dVar 0)) aNil)))))))))) (sRet (lift2 dAdd (dVarO 1) (frL (fLst (aCons (dExcF 12 ("done" : PySem.Str) (dVar 0)) (aCons (dExcF 13 ("limit" : PySem.Str) (dVar 0)) (aCons (dExcF 14 ("reason" : PySem.Str) (dVar 0)) aNil)))))))))
def d_law_made : DefI := { name := "_law_made", gl := "_law_made", ps := ["given"], va := none, N := ["given", "found"], k := 1, gq := false, lam := false, idx := 56, mu := [], den := .val ⟨false, den_law_made⟩ }
def p_law_made : List DefI := d_law_flags :: p_law_flags
def den_law_right : List D → M D := denOf 1 8 (sSeq (sPar 1 2 (.v (callD ⟨false, den_law_made⟩ (aCons (dVar 0) aNil))) (.v (frD (fDisp (kvCons (dC (.int 10)) (frL (fLst (aCons (dC (.int 16)) (aCons (dC (.int 17)) aNil)))) (kvCons (dC (.int 11)) (frL (fLst (aCons (dC (.int 17)) aNil))) (kvCons (dC (.int 12)) (frL (fLst (aCons (dC (.int 17)) aNil))) (kvCons (dC (.int 13)) (frL (fLst (aCons (dC (.int 18)) (aCons (dC (.int 19)) aNil)))) (kvCons (dC (.int 14)) (frL (fLst (aCons (dC (.int 19)) aNil))) kvNil))))))))) (sSeq (sForD (.tup [3, 4]) (iEnB (dVar 1)) (sSeq (sSetA 5 (.v (lift2 dAdd (frL (fLst (aCons (dVar 3) aNil))) (dIf (asB (lift2 dLt (dVarO 3) (dC (.int 10)))) (frL (fLst (aCons (dC (.int 0)) (aCons (dC (.int 15)) aNil)))) (orD (dIxK 2 (dVar 3)) (dIxV (dVarO 2) (dVar 3))))))) (sIf (orT (asB (dReprSame true (aCons (callD ⟨false, den_law_flags⟩ (aCons (dVar 4) aNil)) aNil) (aCons (frL (fComp (.name 6) [6] (iRng1D (dC (.int 21))) tTrue (lift2 dInA (dVarO 6) (dVarO 5)))) aNil))) (asB (lift2 dNe (callO (on1 bRepr) (aCons (callD ⟨false, den_law_flags⟩ (aCons (dVar 4) aNil)) aNil)) (callO (on1 bRepr) (aCons (frL (fComp (.name 6) [6] (iRng1D (dC (.int 21))) tTrue (lift2 dInA (dVarO 6) (dVarO 5)))) aNil))))) (sRet (dC (.bool false))) sNext))) (sSeq (sSetA 7 (.v (frL (fLst (aCons (dAttr ("spot" : PySem.Str) (dIxK 1 (dC (.int 9)))) (aCons (dAttr ("given" : PySem.Str) (dIxK 1 (dC (.int 10)))) (aCons (dAttr ("wanted" : PySem.Str) (dIxK 1 (dC (.int 11)))) (aCons (dAttr ("done" : PySem.Str) (dIxK 1 (dC (.int 12)))) (aCons (dAttr ("limit" : PySem.Str) (dIxK 1 (dC (.int 13)))) (aCons (dAttr ("reason" : PySem.Str) (dIxK 1 (dC (.int 14)))) aNil)))))))))) (sRet (orD (orD (dReprSame false (aCons (dVarO 7) aNil) (aCons (lift2 dMul (frL (fLst (aCons (dVar 0) aNil))) (dC (.int 6))) aNil)) (lift2 dEq (callO (on1 bRepr) (aCons (dVarO 7) aNil)) (callO (on1 bRepr) (aCons (lift2 dMul (frL (fLst (aCons (dVar 0) aNil))) (dC (.int 6))) aNil)))) (dReprX false (aCons (dVarO 7) aNil) (aCons (lift2 dMul (frL (fLst (aCons (dVar 0) aNil))) (dC (.int 6))) aNil)))))))
def d_law_right : DefI := { name := "_law_right", gl := "_law_right", ps := ["given"], va := none, N := ["given", "made", "further", "which", "error", "due", "number", "kept"], k := 2, gq := true, lam := false, idx := 57, mu := [], den := .val ⟨false, den_law_right⟩ }
def p_law_right : List DefI := d_law_made :: p_law_made
def denlaw : List D → M D := denOf 1 7 (sSeq (sForD (.name 1) (iRng1D (callO bMax (aCons (dC (.int 1)) (aCons (callO bMin (aCons (dC (.int 3)) (aCons (callO (on1 bLen) (aCons (dVarO 0) aNil)) aNil))) aNil)))) (sSeq (sBag 2 (callF den_law_box (aCons (dVar 0) (aCons (dVar 1) aNil)))) (sSeq (sSetA 3 (.v (frL (fLst (aCons (dC (.int 0)) (aCons (lift2 dSub (dC (.int 0)) (dC (.int 7))) (aCons (dC .none) (aCons (dC (.bool true)) (aCons (dC (.str ("ab" : PySem.Str))) (aCons (dTup (aCons (dC (.str ("unit" : PySem.Str))) aNil)) (aCons (dTup (aCons (dC (.int 0)) (aCons (dC (.int 3)) aNil))) (aCons (frL (fLst (aCons (dC (.int 1)) (aCons (dC (.str ("x" : PySem.Str))) aNil)))) (aCons (frD (fOne (dC (.str ("a" : PySem.Str))) (dTup (aCons (dC (.int 1)) (aCons (dC (.int 2)) aNil))))) (aCons (lift2 dPow (dC (.int 10)) (dC (.int 60))) (aCons (dC (.str ("" : PySem.Str))) (aCons (callB ⟨true, den_law_next⟩ 2 (aCons (lift2 dPow (dC (.int 10)) (dC (.int 9))) aNil)) aNil)))))))))))))))) (sIf (asB (lift2 dNe (frL (fComp (.name 4) [4] (iSeq (dVar 3)) (tNotD (asB (callD ⟨false, den_law_right⟩ (aCons (dVar 4) aNil)))) (dVar 4))) (frL (fLst aNil)))) (sRet (dC (.bool false))) sNext)))) (sSeq (sSetA 5 (.v (frL (fLst (aCons (dC (.int 24)) (aCons (dC (.int 48)) (aCons (dC (.int 12)) (aCons (dC (.int 11)) (aCons (dC (.int 12)) (aCons (dC (.int 300)) (aCons (dC (.int 12)) (aCons (dC (.int 16)) (aCons (dC (.int 400)) (aCons (dC (.int 400)) (aCons (dC (.int 400)) (aCons (dC (.int 400)) (aCons (dC (.int 12)) (aCons (dC (.int 6)) aNil)))))))))))))))))) (sSeq (sIf (asB (lift2 dNe (dVarO 5) (frL (fLst (aCons (dC (.int 24)) (aCons (dC (.int 48)) (aCons (dC (.int 12)) (aCons (dC (.int 11)) (aCons (dC (.int 12)) (aCons (dC (.int 300)) (aCons (dC (.int 12)) (aCons (dC (.int 16)) (aCons (dC (.int 400)) (aCons (dC (.int 400)) (aCons (dC (.int 400)) (aCons (dC (.int 400)) (aCons (dC (.int 12)) (aCons (dC (.int 6)) aNil)))))))))))))))))) (sRet (dC (.bool false))) sNext) (sSeq (sSetA 5 (.v (frL (fLst (aCons (dC (.int 200)) (aCons (dC (.int 12)) (aCons (dC (.int 14)) (aCons (dC (.int 16)) (aCons (dC (.int 24)) (aCons (dC (.int 12)) (aCons (dC (.int 24)) (aCons (dC (.int 12)) (aCons (dC (.int 5040)) (aCons (dC (.int 16)) (aCons (dC (.int 14)) (aCons (dC (.int 8)) (aCons (dC (.int 20000)) (aCons (dC (.int 24)) aNil)))))))))))))))))) (sSeq (sIf (asB (lift2 dNe (dVarO 5) (frL (fLst (aCons (dC (.int 200)) (aCons (dC (.int 12)) (aCons (dC (.int 14)) (aCons (dC (.int 16)) (aCons (dC (.int 24)) (aCons (dC (.int 12)) (aCons (dC (.int 24)) (aCons (dC (.int 12)) (aCons (dC (.int 5040)) (aCons (dC (.int 16)) (aCons (dC (.int 14)) (aCons (dC (.int 8)) (aCons (dC (.int 20000)) (aCons (dC (.int 24)) aNil)))))))))))))))))) (sRet (dC (.bool false))) sNext) (sSeq (sSetA 6 (.v (dTup (aCons (dC (.str ("alike" : PySem.Str))) (aCons (dC (.str ("basis" : PySem.Str))) (aCons (dC (.str ("clear" : PySem.Str))) (aCons (dC (.str ("cover" : PySem.Str))) (aCons (dC (.str ("even" : PySem.Str))) (aCons (dC (.str ("exact" : PySem.Str))) (aCons (dC (.str ("fill" : PySem.Str))) (aCons (dC (.str ("flat" : PySem.Str))) (aCons (dC (.str ("free" : PySem.Str))) (aCons (dC (.str ("near" : PySem.Str))) (aCons (dC (.str ("once" : PySem.Str))) (aCons (dC (.str ("part" : PySem.Str))) (aCons (dC (.str ("spectrum" : PySem.Str))) (aCons (dC (.str ("steps" : PySem.Str))) (aCons (dC (.str ("sums" : PySem.Str))) aNil)))))))))))))))))) (sRet (dAndV (lift2 dEq (frL (fLst (aCons (dC (.int 200)) (aCons (dC (.int 400)) (aCons (dC (.int 16)) (aCons (dC (.int 12)) (aCons (dC (.int 16)) (aCons (dC (.int 24)) (aCons (dC (.int 13)) aNil))))))))) (frL (fLst (aCons (dC (.int 200)) (aCons (dC (.int 400)) (aCons (dC (.int 16)) (aCons (dC (.int 12)) (aCons (dC (.int 16)) (aCons (dC (.int 24)) (aCons (dC (.int 13)) aNil)))))))))) (lift2 dEq (dC (.tuple [(.str ("alike" : PySem.Str)), (.str ("basis" : PySem.Str)), (.str ("clear" : PySem.Str)), (.str ("cover" : PySem.Str)), (.str ("even" : PySem.Str)), (.str ("exact" : PySem.Str)), (.str ("fill" : PySem.Str)), (.str ("flat" : PySem.Str)), (.str ("free" : PySem.Str)), (.str ("near" : PySem.Str)), (.str ("once" : PySem.Str)), (.str ("part" : PySem.Str)), (.str ("spectrum" : PySem.Str)), (.str ("steps" : PySem.Str)), (.str ("sums" : PySem.Str))])) (dVarO 6))))))))))
def dlaw : DefI := { name := "law", gl := "law", ps := ["script"], va := none, N := ["script", "at", "box", "values", "value", "told", "words"], k := 3, gq := true, lam := false, idx := 58, mu := [], den := .val ⟨false, denlaw⟩ }
def plaw : List DefI := d_law_right :: p_law_right
def Lall : LawI := ⟨Lcls, Lcns, Lfree, [d_law_box, d_law_next, d_law_flags, d_law_made, d_law_right], dlaw, ["ValueError", "IndexError", "LookupError", "OverflowError", "ArithmeticError", "KeyError"]⟩
theorem ch_law_box (ad : Ads) : transD ruAll (tbOf Lall) ad p_law_box d_law_box (txtOf prg 53).scope (txtOf prg 53).body = some d_law_box.den := by kernel_rfl
theorem ch_law_next (ad : Ads) : transD ruAll (tbOf Lall) ad p_law_next d_law_next (txtOf prg 54).scope (txtOf prg 54).body = some d_law_next.den := by kernel_rfl
theorem ch_law_flags (ad : Ads) : transD ruAll (tbOf Lall) ad p_law_flags d_law_flags (txtOf prg 55).scope (txtOf prg 55).body = some d_law_flags.den := by kernel_rfl
theorem ch_law_made (ad : Ads) : transD ruAll (tbOf Lall) ad p_law_made d_law_made (txtOf prg 56).scope (txtOf prg 56).body = some d_law_made.den := by kernel_rfl
theorem ch_law_right (ad : Ads) : transD ruAll (tbOf Lall) ad p_law_right d_law_right (txtOf prg 57).scope (txtOf prg 57).body = some d_law_right.den := by kernel_rfl
theorem cn_law_right (ad : Ads) : Chain ruAll prg (tbOf Lall) ad p_law_right [d_law_right] := And.intro (ch_law_right ad) trivial
theorem cn_law_made (ad : Ads) : Chain ruAll prg (tbOf Lall) ad p_law_made [d_law_made, d_law_right] := And.intro (ch_law_made ad) (cn_law_right ad)
theorem cn_law_flags (ad : Ads) : Chain ruAll prg (tbOf Lall) ad p_law_flags [d_law_flags, d_law_made, d_law_right] := And.intro (ch_law_flags ad) (cn_law_made ad)
theorem cn_law_next (ad : Ads) : Chain ruAll prg (tbOf Lall) ad p_law_next [d_law_next, d_law_flags, d_law_made, d_law_right] := And.intro (ch_law_next ad) (cn_law_flags ad)
theorem cn_law_box (ad : Ads) : Chain ruAll prg (tbOf Lall) ad p_law_box [d_law_box, d_law_next, d_law_flags, d_law_made, d_law_right] := And.intro (ch_law_box ad) (cn_law_next ad)
theorem chlawx (ad : Ads) (x_law_next x_law_right : List D → M D) : denOf 1 7 (bodyT ruAll (staD (tbOf Lall) ad [{ d_law_right with den := .val ⟨false, x_law_right⟩ }, d_law_made, d_law_flags, { d_law_next with den := .val ⟨true, x_law_next⟩ }, d_law_box] dlaw (txtOf prg 58).scope) (txtOf prg 58).body) = denOf 1 7 (sSeq (sForD (.name 1) (iRng1D (callO bMax (aCons (dC (.int 1)) (aCons (callO bMin (aCons (dC (.int 3)) (aCons (callO (on1 bLen) (aCons (dVarO 0) aNil)) aNil))) aNil)))) (sSeq (sBag 2 (callF den_law_box (aCons (dVar 0) (aCons (dVar 1) aNil)))) (sSeq (sSetA 3 (.v (frL (fLst (aCons (dC (.int 0)) (aCons (lift2 dSub (dC (.int 0)) (dC (.int 7))) (aCons (dC .none) (aCons (dC (.bool true)) (aCons (dC (.str ("ab" : PySem.Str))) (aCons (dTup (aCons (dC (.str ("unit" : PySem.Str))) aNil)) (aCons (dTup (aCons (dC (.int 0)) (aCons (dC (.int 3)) aNil))) (aCons (frL (fLst (aCons (dC (.int 1)) (aCons (dC (.str ("x" : PySem.Str))) aNil)))) (aCons (frD (fOne (dC (.str ("a" : PySem.Str))) (dTup (aCons (dC (.int 1)) (aCons (dC (.int 2)) aNil))))) (aCons (lift2 dPow (dC (.int 10)) (dC (.int 60))) (aCons (dC (.str ("" : PySem.Str))) (aCons (callB ⟨true, x_law_next⟩ 2 (aCons (lift2 dPow (dC (.int 10)) (dC (.int 9))) aNil)) aNil)))))))))))))))) (sIf (asB (lift2 dNe (frL (fComp (.name 4) [4] (iSeq (dVar 3)) (tNotD (asB (callD ⟨false, x_law_right⟩ (aCons (dVar 4) aNil)))) (dVar 4))) (frL (fLst aNil)))) (sRet (dC (.bool false))) sNext)))) (sSeq (sSetA 5 (.v (frL (fLst (aCons (dC (.int 24)) (aCons (dC (.int 48)) (aCons (dC (.int 12)) (aCons (dC (.int 11)) (aCons (dC (.int 12)) (aCons (dC (.int 300)) (aCons (dC (.int 12)) (aCons (dC (.int 16)) (aCons (dC (.int 400)) (aCons (dC (.int 400)) (aCons (dC (.int 400)) (aCons (dC (.int 400)) (aCons (dC (.int 12)) (aCons (dC (.int 6)) aNil)))))))))))))))))) (sSeq (sIf (asB (lift2 dNe (dVarO 5) (frL (fLst (aCons (dC (.int 24)) (aCons (dC (.int 48)) (aCons (dC (.int 12)) (aCons (dC (.int 11)) (aCons (dC (.int 12)) (aCons (dC (.int 300)) (aCons (dC (.int 12)) (aCons (dC (.int 16)) (aCons (dC (.int 400)) (aCons (dC (.int 400)) (aCons (dC (.int 400)) (aCons (dC (.int 400)) (aCons (dC (.int 12)) (aCons (dC (.int 6)) aNil)))))))))))))))))) (sRet (dC (.bool false))) sNext) (sSeq (sSetA 5 (.v (frL (fLst (aCons (dC (.int 200)) (aCons (dC (.int 12)) (aCons (dC (.int 14)) (aCons (dC (.int 16)) (aCons (dC (.int 24)) (aCons (dC (.int 12)) (aCons (dC (.int 24)) (aCons (dC (.int 12)) (aCons (dC (.int 5040)) (aCons (dC (.int 16)) (aCons (dC (.int 14)) (aCons (dC (.int 8)) (aCons (dC (.int 20000)) (aCons (dC (.int 24)) aNil)))))))))))))))))) (sSeq (sIf (asB (lift2 dNe (dVarO 5) (frL (fLst (aCons (dC (.int 200)) (aCons (dC (.int 12)) (aCons (dC (.int 14)) (aCons (dC (.int 16)) (aCons (dC (.int 24)) (aCons (dC (.int 12)) (aCons (dC (.int 24)) (aCons (dC (.int 12)) (aCons (dC (.int 5040)) (aCons (dC (.int 16)) (aCons (dC (.int 14)) (aCons (dC (.int 8)) (aCons (dC (.int 20000)) (aCons (dC (.int 24)) aNil)))))))))))))))))) (sRet (dC (.bool false))) sNext) (sSeq (sSetA 6 (.v (dTup (aCons (dC (.str ("alike" : PySem.Str))) (aCons (dC (.str ("basis" : PySem.Str))) (aCons (dC (.str ("clear" : PySem.Str))) (aCons (dC (.str ("cover" : PySem.Str))) (aCons (dC (.str ("even" : PySem.Str))) (aCons (dC (.str ("exact" : PySem.Str))) (aCons (dC (.str ("fill" : PySem.Str))) (aCons (dC (.str ("flat" : PySem.Str))) (aCons (dC (.str ("free" : PySem.Str))) (aCons (dC (.str ("near" : PySem.Str))) (aCons (dC (.str ("once" : PySem.Str))) (aCons (dC (.str ("part" : PySem.Str))) (aCons (dC (.str ("spectrum" : PySem.Str))) (aCons (dC (.str ("steps" : PySem.Str))) (aCons (dC (.str ("sums" : PySem.Str))) aNil)))))))))))))))))) (sRet (dAndV (lift2 dEq (frL (fLst (aCons (dC (.int 200)) (aCons (dC (.int 400)) (aCons (dC (.int 16)) (aCons (dC (.int 12)) (aCons (dC (.int 16)) (aCons (dC (.int 24)) (aCons (dC (.int 13)) aNil))))))))) (frL (fLst (aCons (dC (.int 200)) (aCons (dC (.int 400)) (aCons (dC (.int 16)) (aCons (dC (.int 12)) (aCons (dC (.int 16)) (aCons (dC (.int 24)) (aCons (dC (.int 13)) aNil)))))))))) (lift2 dEq (dC (.tuple [(.str ("alike" : PySem.Str)), (.str ("basis" : PySem.Str)), (.str ("clear" : PySem.Str)), (.str ("cover" : PySem.Str)), (.str ("even" : PySem.Str)), (.str ("exact" : PySem.Str)), (.str ("fill" : PySem.Str)), (.str ("flat" : PySem.Str)), (.str ("free" : PySem.Str)), (.str ("near" : PySem.Str)), (.str ("once" : PySem.Str)), (.str ("part" : PySem.Str)), (.str ("spectrum" : PySem.Str)), (.str ("steps" : PySem.Str)), (.str ("sums" : PySem.Str))])) (dVarO 6)))))))))) := by kernel_rfl
theorem chlaw (ad : Ads) : denOf 1 7 (bodyT ruAll (staD (tbOf Lall) ad Lall.defs.reverse dlaw (txtOf prg 58).scope) (txtOf prg 58).body) = denlaw := chlawx ad den_law_next den_law_right
theorem bd_law_box : BindP d_law_box (txtOf prg 53) := fun name qual kV doc pm an cdv ct us hl => by
  match us, hl with
  | [u0, u1], _ => kernel_rfl
theorem bd_law_next : BindP d_law_next (txtOf prg 54) := fun name qual kV doc pm an cdv ct us hl => by
  match us, hl with
  | [u0, u1], _ => kernel_rfl
theorem bd_law_flags : BindP d_law_flags (txtOf prg 55) := fun name qual kV doc pm an cdv ct us hl => by
  match us, hl with
  | [u0], _ => kernel_rfl
theorem bd_law_made : BindP d_law_made (txtOf prg 56) := fun name qual kV doc pm an cdv ct us hl => by
  match us, hl with
  | [u0], _ => kernel_rfl
theorem bd_law_right : BindP d_law_right (txtOf prg 57) := fun name qual kV doc pm an cdv ct us hl => by
  match us, hl with
  | [u0], _ => kernel_rfl
theorem bdlaw : BindP dlaw (txtOf prg 58) := fun name qual kV doc pm an cdv ct us hl => by
  match us, hl with
  | [u0], _ => kernel_rfl
theorem bnds : ∀ d ∈ Lall.all, BindP d (txtOf prg d.idx) := all_mem bdlaw <| all_mem bd_law_box <| all_mem bd_law_next <| all_mem bd_law_flags <| all_mem bd_law_made <| all_mem bd_law_right <| no_mem
theorem lawOk : LawOk PySem.Challenge.rw_sumlots_k00_whole_errors_and_constants ruAll Lall denlaw where
  cls := by decide
  okd := by kernel_rfl
  bind := bnds
  ps := ⟨rfl, rfl, rfl⟩
  chain := cn_law_box
  law := chlaw
abbrev R : PySem.W.OpenRow := PySem.W.OpenLaw.row PySem.Challenge.rw_sumlots_k00_whole_errors_and_constants
def ob (s : PySem.W.SharedT) : AlP := obsP prg Lall (HandSHeadRun.getT s)
theorem ob_eq (s : PySem.W.SharedT) : ob s = (hookP prg Lall).obs s.abs := obsP_eq (HandSHeadRun.getT_eq s)
def loose0 : List PySem.Str := ["SumError", "InvalidLot", "InvalidRow", "InvalidMap", "InvalidBook", "InvalidReport", "InvalidClaim", "InvalidText", "InvalidOperation", "ParseError", "InvalidNumber", "UnknownName", "NothingToUndo", "TooMany", "Refused", "MAX_RING", "MOST_IN_ROW", "MOST_RING_kneser", "MOST_RING_near", "MOST_FOLD", "MOST_SEARCHED_bases", "MOST_SEARCHED_rulers", "MAX_LENGTH", "MOST_MARKED", "MAX_STEP"]
def loose1 : List PySem.Str := ["MOST_CLASSES", "MAX_WHOLE_covers", "MOST_LISTED_fills", "MAX_FILLED", "MOST_CHAINS", "MOST_SPECTRA", "MOST_SEARCHED_frees", "MOST_HUED_frees", "MOST_SEARCHED_threes", "MOST_HUED_threes", "MOST_FOURS", "MOST_MEMBERS_growth", "MOST_SEARCHED_once", "MOST_LISTED_once", "MOST_SOUGHT_zeros", "MOST_ROWS", "MOST_MATCHED", "MAX_WHOLE_wholes", "MOST_MEMBERS_wholes", "KINDS", "MOST_CLAIMS", "MAX_WATCHED", "MOST_MEASURED", "MOST_SOUGHT_hidden", "MOST_PAIRED"]
def loose2 : List PySem.Str := ["MAX_SIGNS", "_law_box", "_law_next", "_law_flags", "_law_made", "_law_right"]
def loose : List PySem.Str := loose0 ++ loose1 ++ loose2
theorem run (w : PySem.World) : HandSHeadRun.RunEq R (PySem.W.view R.prog [58]) (hookP prg Lall) ob 20000 loose w := by
  intro os
  kernel_rfl
end K00

set_option maxHeartbeats 0
set_option Elab.async false
set_option linter.all false
set_option maxRecDepth 100000
set_option maxHeartbeats 0
namespace K00
open PF PySem.W
variable {n : Nat} {ρ ρ1 : Env} {s s1 s2 : List Int}
theorem bag_ok : BagOk 3 den_law_box := bag_box (c0 := 53) (c1 := 29) (c2 := 7933) (c3 := 104759) (k18 := 10 ^ 18) (k1 := (10 ^ 47) ^ 12) (k2 := 2305843009213693669) (fun _ _ => by kernel_rfl) (fun _ _ => by kernel_rfl) (by decide +kernel) (by decide) (by decide) (by decide) (by decide)
/-- the draw of a number below 10 ^ 9 -/
theorem next_ok (s : List Int) (hs : s.length = 3) : Ret 3 (fun x => ∃ r : Int, x = .int r ∧ 0 ≤ r ∧ r < 1000000000) (den_law_next [.int 1000000000] s) := by
  have hk : (0 : Int) < 1000000000 := by decide
  match s, hs with
  | [a, b, c], _ =>
    refine fn_of rfl ?_
    refine seq_if (bp_gt (ip_bagK (a := a) rfl rfl) ip_c) (fun _ => ?_) fun _ => ?_
    · refine seq_assoc (seq_int (ip_mod (ip_int (ip_bagK (a := a) rfl rfl)) (ip_varO (k := 1000000000) rfl) fun b h => by omega) fun z hz => ?_)
      refine seq_assoc (seq_bag (k := 0) (a := 0) (q := 0) rfl (ip_fdiv (ip_bagK (a := a) rfl rfl) (ip_varO (k := 1000000000) rfl) fun b h => by subst h; exact ⟨by decide, by decide +kernel⟩) rfl fun w hw => seq_ret ?_)
      refine ret_int (ip_var (k := z) rfl) rfl fun y hy => ⟨_, rfl, y, rfl, ?_⟩
      obtain ⟨a1, b1, h1, h2, h3⟩ := hz
      subst hy h2 h3
      exact ⟨Int.emod_nonneg _ (by omega), Int.emod_lt_of_pos _ hk⟩
    · refine seq_next (seq_bag (k := 0) (a := 0) (q := 2) rfl (ip_add (ip_bagK (a := c) rfl rfl) ip_c) rfl fun w hw => ?_)
      refine seq_int (ip_mod (ip_int (ip_add (ip_bagK (a := b) rfl rfl) (ip_mul ip_c (ip_bagK (a := w) rfl rfl) (.inl fun b h => by subst h; decide)))) (ip_c (k := 2305843009213693951)) fun b h => by omega) fun one ho => ?_
      obtain ⟨o1, o2, _, ho2, ho3⟩ := ho
      have hone : -(2 ^ 64) < one ∧ one < 2 ^ 64 := by
        subst ho2
        have := Int.emod_nonneg o1 (show (2305843009213693951 : Int) ≠ 0 by omega)
        have := Int.emod_lt_of_pos o1 (show (0 : Int) < 2305843009213693951 by omega)
        omega
      refine seq_int (ip_add (ip_mul (ip_mod (ip_int (ip_mul (ip_varO (k := one) rfl) (ip_varO (k := one) rfl) (.inl fun b h => by subst h; exact hone))) (ip_c (k := 2305843009213693921)) fun b h => by omega) (ip_varO (k := one) rfl) (.inr fun b h => by subst h; exact hone)) (ip_mul ip_c (ip_bagK (a := w) rfl rfl) (.inl fun b h => by subst h; decide))) fun two _ => ?_
      refine ret_int (ip_mod (ip_int (ip_fdiv (ip_mod (ip_int (ip_varO (k := two) rfl)) (ip_c (k := 2305843009213693907)) fun b h => by omega) ip_c fun b h => by subst h; exact ⟨by decide, by decide +kernel⟩)) (ip_varO (k := 1000000000) rfl) fun b h => by omega) rfl fun y hy => ⟨_, rfl, y, rfl, ?_⟩
      obtain ⟨a1, b1, h1, h2, h3⟩ := hy
      subst h2 h3
      exact ⟨Int.emod_nonneg _ (by omega), Int.emod_lt_of_pos _ hk⟩
theorem c0 (s : List Int) : den_law_right [.int 0] s = .ok (.bool true) s := by kernel_rfl
theorem c1 (s : List Int) : den_law_right [.int (-7)] s = .ok (.bool true) s := by kernel_rfl
theorem c2 (s : List Int) : den_law_right [.none] s = .ok (.bool true) s := by kernel_rfl
theorem c3 (s : List Int) : den_law_right [.bool true] s = .ok (.bool true) s := by kernel_rfl
theorem c4 (s : List Int) : den_law_right [.str "ab"] s = .ok (.bool true) s := by kernel_rfl
theorem c5 (s : List Int) : den_law_right [.tuple [.str "unit"]] s = .ok (.bool true) s := by kernel_rfl
theorem c6 (s : List Int) : den_law_right [.tuple [.int 0, .int 3]] s = .ok (.bool true) s := by kernel_rfl
theorem c7 (s : List Int) : den_law_right [.list [.int 1, .str "x"]] s = .ok (.bool true) s := by kernel_rfl
theorem c8 (s : List Int) : den_law_right [.dict [(.str "a", .tuple [.int 1, .int 2])]] s = .ok (.bool true) s := by kernel_rfl
theorem c9 (s : List Int) : den_law_right [.int 1000000000000000000000000000000000000000000000000000000000000] s = .ok (.bool true) s := by kernel_rfl
theorem c10 (s : List Int) : den_law_right [.str ""] s = .ok (.bool true) s := by kernel_rfl
theorem seqE {e1 e2 : Env → M Fl} {r : Res Fl} (h : e1 ρ s = .ok (.next ρ1) s1) (k : e2 ρ1 s1 = r) : sSeq e1 e2 ρ s = r := by
  unfold sSeq
  rw [h]
  exact k
theorem retE {d : Env → M D} {z : D} (h : d ρ s = .ok z s1) : sRet d ρ s = .ok (.ret z) s1 := by
  unfold sRet
  rw [h]
  rfl
theorem fnE {np m : Nat} {bd : Env → M Fl} {ds : List D} {z : D} (hl : ds.length = np) (h : bd (initE m ds) s = .ok (.ret z) s1) : denOf np m bd ds s = .ok z s1 := by
  unfold denOf
  rw [if_pos hl, h]
  rfl
theorem or1 {a b : Env → M D} {x : D} (h : a ρ s = .ok x s1) : orD a b ρ s = .ok x s1 := by
  unfold orD
  rw [h]
theorem small {r : Int} (h0 : 0 ≤ r) (h1 : r < 1000000000) : smallR (.int r) = true := by
  have h : r.natAbs.log2 < 500 := by
    by_cases hz : r.natAbs = 0
    · rw [hz]; decide
    · have : r.natAbs < 2 ^ 30 := by omega
      have := (Nat.log2_lt hz).mpr this
      omega
  have hd : litI (.int r) = true := by simp only [litI, decide_eq_true_eq]; exact h
  unfold smallR
  simp only [Bool.and_eq_true, decide_eq_true_eq]
  refine ⟨⟨⟨by simp only [PySem.PyData.canLay0], hd⟩, by simp only [PySem.PyData.depth]; omega⟩, ?_⟩
  simp only [PySem.PyData.weight]
  split <;> omega
theorem cN (r : Int) (h0 : 0 ≤ r) (h1 : r < 1000000000) (s : List Int) : den_law_right [.int r] s = .ok (.bool true) s := by
  have sm := small h0 h1
  refine fnE rfl (seqE (ρ1 := [some (.val (.int r)), some (.val (.list [.dict [(.none, .int 0)], .dict [(.none, .int 1)], .dict [(.none, .int 2)], .dict [(.none, .int 3)], .dict [(.none, .int 4)], .dict [(.none, .int 5)], .dict [(.none, .int 6)], .dict [(.none, .int 7)], .dict [(.none, .int 8)], .dict [(.none, .int 9), (.str "spot", .int r)], .dict [(.none, .int 10), (.str "given", .int r)], .dict [(.none, .int 11), (.str "wanted", .int r)], .dict [(.none, .int 12), (.str "done", .int r)], .dict [(.none, .int 13), (.str "limit", .int r)], .dict [(.none, .int 14), (.str "reason", .int r)]])), some (.val (.dict [(.int 10, .list [.int 16, .int 17]), (.int 11, .list [.int 17]), (.int 12, .list [.int 17]), (.int 13, .list [.int 18, .int 19]), (.int 14, .list [.int 19])])), none, none, none, none, none]) (s1 := s) (by kernel_rfl) (seqE (ρ1 := [some (.val (.int r)), some (.val (.list [.dict [(.none, .int 0)], .dict [(.none, .int 1)], .dict [(.none, .int 2)], .dict [(.none, .int 3)], .dict [(.none, .int 4)], .dict [(.none, .int 5)], .dict [(.none, .int 6)], .dict [(.none, .int 7)], .dict [(.none, .int 8)], .dict [(.none, .int 9), (.str "spot", .int r)], .dict [(.none, .int 10), (.str "given", .int r)], .dict [(.none, .int 11), (.str "wanted", .int r)], .dict [(.none, .int 12), (.str "done", .int r)], .dict [(.none, .int 13), (.str "limit", .int r)], .dict [(.none, .int 14), (.str "reason", .int r)]])), some (.val (.dict [(.int 10, .list [.int 16, .int 17]), (.int 11, .list [.int 17]), (.int 12, .list [.int 17]), (.int 13, .list [.int 18, .int 19]), (.int 14, .list [.int 19])])), some (.val (.int 14)), some (.val (.dict [(.none, .int 14), (.str "reason", .int r)])), some (.val (.list [.int 14, .int 19])), none, none]) (s1 := s) (by kernel_rfl) (seqE (ρ1 := [some (.val (.int r)), some (.val (.list [.dict [(.none, .int 0)], .dict [(.none, .int 1)], .dict [(.none, .int 2)], .dict [(.none, .int 3)], .dict [(.none, .int 4)], .dict [(.none, .int 5)], .dict [(.none, .int 6)], .dict [(.none, .int 7)], .dict [(.none, .int 8)], .dict [(.none, .int 9), (.str "spot", .int r)], .dict [(.none, .int 10), (.str "given", .int r)], .dict [(.none, .int 11), (.str "wanted", .int r)], .dict [(.none, .int 12), (.str "done", .int r)], .dict [(.none, .int 13), (.str "limit", .int r)], .dict [(.none, .int 14), (.str "reason", .int r)]])), some (.val (.dict [(.int 10, .list [.int 16, .int 17]), (.int 11, .list [.int 17]), (.int 12, .list [.int 17]), (.int 13, .list [.int 18, .int 19]), (.int 14, .list [.int 19])])), some (.val (.int 14)), some (.val (.dict [(.none, .int 14), (.str "reason", .int r)])), some (.val (.list [.int 14, .int 19])), none, some (.val (.list [.int r, .int r, .int r, .int r, .int r, .int r]))]) (s1 := s) (by kernel_rfl) (retE (or1 (ev_reprL (xs := [.int r, .int r, .int r, .int r, .int r, .int r]) (ys := [.int r, .int r, .int r, .int r, .int r, .int r]) (by kernel_rfl) (by kernel_rfl) rfl ?_ (by show 6 ≤ 29; decide)))))))
  exact all_mem sm (all_mem sm (all_mem sm (all_mem sm (all_mem sm (all_mem sm no_mem)))))
/-! the list of values -/
theorem consE {d : Env → M D} {r : Env → M (List D)} {x : D} {xs : List D} (h : d ρ s = .ok x s1) (t : r ρ s1 = .ok xs s2) : aCons d r ρ s = .ok (x :: xs) s2 := by
  unfold aCons
  rw [h]
  show Res.bind (r ρ s1) _ = _
  rw [t]
  rfl
theorem lstE {r : Env → M (List D)} {xs : List D} (h : r ρ s = .ok xs s1) (hl : xs.length ≤ 4000 := by exact Nat.le_of_ble_eq_true rfl) : fLst r ρ s = .ok xs s1 := by
  unfold fLst
  rw [h]
  show (if xs.length ≤ PySem.sizeLine then Res.ok xs s1 else .fail) = _
  rw [if_pos (by rw [PySem.sizeLine_eq]; omega)]
theorem frE {d : Env → M (List D)} {xs : List D} (h : d ρ s = .ok xs s1) : frL d ρ s = .ok (.list xs) s1 := by
  unfold frL
  rw [h]
  rfl
theorem loopE {right : List D → M D} {i : Nat} {el : Env → M D} : ∀ (xs : List D) (s : List Int), i < ρ.length → (∀ x ∈ xs, ∀ s, right [x] s = .ok (.bool true) s) → cLoop (.name i) (tNotD (asB (callD ⟨false, right⟩ (aCons (dVar i) aNil)))) el ρ xs s = .ok [] s
  | [], s, _, _ => rfl
  | x :: xs, s, hi, h => by
    have ih := loopE (el := el) xs s hi fun y m => h y (List.mem_cons_of_mem _ m)
    have g : (ρ.set i (some (.val x)))[i]? = some (some (.val x)) := by rw [List.getElem?_set_self hi]
    have ev : dVar i (ρ.set i (some (.val x))) s = .ok x s := by unfold dVar; rw [g]
    have e1 : aCons (dVar i) aNil (ρ.set i (some (.val x))) s = .ok [x] s := consE ev rfl
    have e2 : tNotD (asB (callD ⟨false, right⟩ (aCons (dVar i) aNil))) (ρ.set i (some (.val x))) s = .ok false s := by
      unfold tNotD asB callD
      rw [e1]
      show Res.bind (Res.bind (right [x] s) _) _ = _
      rw [h x List.mem_cons_self s]
      rfl
    show Res.bind (calmR (tNotD (asB (callD ⟨false, right⟩ (aCons (dVar i) aNil))) (ρ.set i (some (.val x))) s)) _ = _
    rw [e2]
    exact ih
theorem compE {tg : Tgt} {vs : List Nat} {it : Env → M (List D)} {t : Env → M Bool} {el : Env → M D} {xs ys : List D} (hi : it ρ s = .ok xs s1) (hz : xs.length ≤ 4000) (hl : cLoop tg t el (wipeE ρ vs) xs s1 = .ok ys s2) : fComp tg vs it t el ρ s = .ok ys s2 := by
  unfold fComp
  rw [hi]
  show (if xs.length ≤ PySem.sizeLine then cLoop tg t el (wipeE ρ vs) xs s1 else .fail) = _
  rw [if_pos (by rw [PySem.sizeLine_eq]; omega)]
  exact hl
theorem ifE {a : Env → M D} {b : Env → M Fl} (h : a ρ s = .ok (.list []) s1) : sIf (asB (lift2 dNe a (frL (fLst aNil)))) b sNext ρ s = .ok (.next ρ) s1 := by
  unfold sIf asB lift2
  rw [h]
  have e : frL (fLst aNil) ρ s1 = .ok (.list []) s1 := frE (lstE rfl)
  show Res.bind (Res.bind (Res.bind (frL (fLst aNil) ρ s1) _) _) _ = _
  rw [e]
  rfl
theorem step {right next : List D → M D} {box : List D → M (List D)} (hbox : BagOk 3 box) (hnext : ∀ s : List Int, s.length = 3 → Ret 3 (fun x => ∃ r : Int, x = .int r ∧ 0 ≤ r ∧ r < 1000000000) (next [.int 1000000000] s)) (hright : ∀ r : Int, 0 ≤ r → r < 1000000000 → ∀ x ∈ ([.int 0, .int (-7), .none, .bool true, .str "ab", .tuple [.str "unit"], .tuple [.int 0, .int 3], .list [.int 1, .str "x"], .dict [(.str "a", .tuple [.int 1, .int 2])], .int 1000000000000000000000000000000000000000000000000000000000000, .str "", .int r] : List D), ∀ s : List Int, right [x] s = .ok (.bool true) s) (ns : List Int) : ∀ (ρ : Env) (s : List Int) (z : Int), EnvI 7 (.list (ns.map .int)) ρ → 0 ≤ z → z < 2 ^ 62 → ∃ ρ' s', EnvI 7 (.list (ns.map .int)) ρ' ∧
    (sSeq (sBag 2 (callF box (aCons (dVar 0) (aCons (dVar 1) aNil)))) (sSeq (sSetA 3 (.v (frL (fLst (aCons (dC (.int 0)) (aCons (lift2 dSub (dC (.int 0)) (dC (.int 7))) (aCons (dC .none) (aCons (dC (.bool true)) (aCons (dC (.str ("ab" : PySem.Str))) (aCons (dTup (aCons (dC (.str ("unit" : PySem.Str))) aNil)) (aCons (dTup (aCons (dC (.int 0)) (aCons (dC (.int 3)) aNil))) (aCons (frL (fLst (aCons (dC (.int 1)) (aCons (dC (.str ("x" : PySem.Str))) aNil)))) (aCons (frD (fOne (dC (.str ("a" : PySem.Str))) (dTup (aCons (dC (.int 1)) (aCons (dC (.int 2)) aNil))))) (aCons (lift2 dPow (dC (.int 10)) (dC (.int 60))) (aCons (dC (.str ("" : PySem.Str))) (aCons (callB ⟨true, next⟩ 2 (aCons (lift2 dPow (dC (.int 10)) (dC (.int 9))) aNil)) aNil)))))))))))))))) (sIf (asB (lift2 dNe (frL (fComp (.name 4) [4] (iSeq (dVar 3)) (tNotD (asB (callD ⟨false, right⟩ (aCons (dVar 4) aNil)))) (dVar 4))) (frL (fLst aNil)))) (sRet (dC (.bool false))) sNext))) (ρ.set 1 (some (.val (.int z)))) s = .ok (.next ρ') s' := by
  intro ρ s z hI h0 h1
  obtain ⟨ρ2, is, hl, hI2, gb, eb⟩ := bag_step hbox (by decide) ρ s z hI h0 h1
  obtain ⟨x, s1, hl1, ⟨r, rfl, r0, r1⟩, en⟩ := hnext is hl
  obtain ⟨k1, k2⟩ := hI2
  match ρ2, k1, k2, gb, eb with
  | [y0, y1, y2, y3, y4, y5, y6], _, k2, gb, eb =>
    cases k2
    cases gb
    have ec : callB ⟨true, next⟩ 2 (aCons (lift2 dPow (dC (.int 10)) (dC (.int 9))) aNil) [some (.val (.list (ns.map .int))), y1, some .bag, y3, y4, y5, y6] is = .ok (.int r) s1 := by
      unfold callB
      have ea : aCons (lift2 dPow (dC (.int 10)) (dC (.int 9))) aNil [some (.val (.list (ns.map .int))), y1, some .bag, y3, y4, y5, y6] is = .ok [.int 1000000000] is := by kernel_rfl
      show Res.bind (aCons (lift2 dPow (dC (.int 10)) (dC (.int 9))) aNil [some (.val (.list (ns.map .int))), y1, some .bag, y3, y4, y5, y6] is) _ = _
      rw [ea]
      exact en
    have all := hright r r0 r1
    have ev : ∃ ρ3 : Env, ρ3 = [some (.val (.list (ns.map .int))), y1, some .bag, some (.val (.list [.int 0, .int (-7), .none, .bool true, .str "ab", .tuple [.str "unit"], .tuple [.int 0, .int 3], .list [.int 1, .str "x"], .dict [(.str "a", .tuple [.int 1, .int 2])], .int 1000000000000000000000000000000000000000000000000000000000000, .str "", .int r])), y4, y5, y6] := ⟨_, rfl⟩
    obtain ⟨ρ3, e3⟩ := ev
    refine ⟨ρ3, s1, ⟨by rw [e3]; rfl, by rw [e3]; rfl⟩, seqE eb (seqE (setA_ok (x := .list [.int 0, .int (-7), .none, .bool true, .str "ab", .tuple [.str "unit"], .tuple [.int 0, .int 3], .list [.int 1, .str "x"], .dict [(.str "a", .tuple [.int 1, .int 2])], .int 1000000000000000000000000000000000000000000000000000000000000, .str "", .int r]) (frE (lstE (consE (s1 := is) (by kernel_rfl) <| consE (s1 := is) (by kernel_rfl) <| consE (s1 := is) (by kernel_rfl) <| consE (s1 := is) (by kernel_rfl) <| consE (s1 := is) (by kernel_rfl) <| consE (s1 := is) (by kernel_rfl) <| consE (s1 := is) (by kernel_rfl) <| consE (s1 := is) (by kernel_rfl) <| consE (s1 := is) (by kernel_rfl) <| consE (s1 := is) (by kernel_rfl) <| consE (s1 := is) (by kernel_rfl) <| consE ec rfl)))) ?_)⟩
    have el := loopE (ρ := wipeE [some (.val (.list (ns.map .int))), y1, some .bag, some (.val (.list [.int 0, .int (-7), .none, .bool true, .str "ab", .tuple [.str "unit"], .tuple [.int 0, .int 3], .list [.int 1, .str "x"], .dict [(.str "a", .tuple [.int 1, .int 2])], .int 1000000000000000000000000000000000000000000000000000000000000, .str "", .int r])), y4, y5, y6] [4]) (i := 4) (el := dVar 4) [.int 0, .int (-7), .none, .bool true, .str "ab", .tuple [.str "unit"], .tuple [.int 0, .int 3], .list [.int 1, .str "x"], .dict [(.str "a", .tuple [.int 1, .int 2])], .int 1000000000000000000000000000000000000000000000000000000000000, .str "", .int r] s1 (by show 4 < 7; decide) all
    have ec2 : frL (fComp (.name 4) [4] (iSeq (dVar 3)) (tNotD (asB (callD ⟨false, right⟩ (aCons (dVar 4) aNil)))) (dVar 4)) [some (.val (.list (ns.map .int))), y1, some .bag, some (.val (.list [.int 0, .int (-7), .none, .bool true, .str "ab", .tuple [.str "unit"], .tuple [.int 0, .int 3], .list [.int 1, .str "x"], .dict [(.str "a", .tuple [.int 1, .int 2])], .int 1000000000000000000000000000000000000000000000000000000000000, .str "", .int r])), y4, y5, y6] s1 = .ok (.list []) s1 := by
      refine frE ?_
      have ei : iSeq (dVar 3) [some (.val (.list (ns.map .int))), y1, some .bag, some (.val (.list [.int 0, .int (-7), .none, .bool true, .str "ab", .tuple [.str "unit"], .tuple [.int 0, .int 3], .list [.int 1, .str "x"], .dict [(.str "a", .tuple [.int 1, .int 2])], .int 1000000000000000000000000000000000000000000000000000000000000, .str "", .int r])), y4, y5, y6] s1 = .ok [.int 0, .int (-7), .none, .bool true, .str "ab", .tuple [.str "unit"], .tuple [.int 0, .int 3], .list [.int 1, .str "x"], .dict [(.str "a", .tuple [.int 1, .int 2])], .int 1000000000000000000000000000000000000000000000000000000000000, .str "", .int r] s1 := by kernel_rfl
      exact compE ei (by exact Nat.le_of_ble_eq_true rfl) el
    subst e3
    exact ifE ec2
theorem main : ∀ ns : List Int, ns.length ≤ 63 → (∀ z ∈ ns, PySem.Builtin.Int.intBits z ≤ 1048576) → ∃ g, denlaw [.list (ns.map .int)] [] = .ok (.bool true) g := by
  intro ns hl _
  obtain ⟨ρ, s, hI, e⟩ := for_rng (i := 1) (I := EnvI 7 (.list (ns.map .int))) (ρ := initE 7 [.list (ns.map .int)]) (s := []) (ip_max (ip_c (k := 1)) (ip_min (ip_c (k := 3)) (ip_len (i := 0) rfl))) (fun z h => spots_ok (by decide) (by decide) h (by omega)) ⟨rfl, rfl⟩
    (step bag_ok next_ok (fun r r0 r1 => all_mem c0 <| all_mem c1 <| all_mem c2 <| all_mem c3 <| all_mem c4 <| all_mem c5 <| all_mem c6 <| all_mem c7 <| all_mem c8 <| all_mem c9 <| all_mem c10 <| all_mem (cN r r0 r1) no_mem) ns)
  obtain ⟨h1, h2⟩ := hI
  match ρ, h1, h2, e with
  | [y0, y1, y2, y3, y4, y5, y6], _, h2, e =>
    cases h2
    exact ⟨s, law_for e (by kernel_rfl)⟩
end K00


open PySem PySem.W PySem.Calls PyProof.Rows
theorem PySem.Challenge.cw_sumlots_k00_whole_errors_and_constants_holds : PySem.Challenge.rw_sumlots_k00_whole_errors_and_constants.Holds := by
  w_on; o_law
  refine HandSHeadRun.head_any (r := K00.R) (q := view K00.R.prog [58]) (H := PF.hookP K00.prg K00.Lall) (ob := K00.ob) (M := 20000) (loose := K00.loose) (d := HandSHeadRun.topDef K00.R.prog 58) (kwd := []) K00.ob_eq
    (by kernel_rfl) (fun s => by kernel_rfl) K00.run (by kernel_rfl) (by kernel_rfl) (by kernel_rfl) (by rfl) (by first | assumption | decide +kernel) (by decide +kernel) ⟨rfl, rfl, rfl, rfl, rfl, by decide +kernel⟩ ?hw ?hc
  case hw => w_witness2
  case hc =>
    have w := PF.walk_end (l := PySem.Challenge.rw_sumlots_k00_whole_errors_and_constants) (n := 63) (q := view K00.R.prog [58]) (loose := K00.loose) (XP := XL (view K00.R.prog [58]) []) (d := HandSHeadRun.topDef K00.R.prog 58) (L := K00.Lall) (den := K00.denlaw) PF.ruAll_ok K00.lawOk (by kernel_rfl) (by rw [PySem.sizeLine_eq]; omega) (by kernel_rfl) (by kernel_rfl) ⟨rfl, by decide, by decide⟩ K00.main
    exact w

