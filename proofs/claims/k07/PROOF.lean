import PyProof.Rows.All
import Wide.All
import OpenK.AllK
import Wide.FinOn
import KE.KStateDown
import HandS.Conv
import HandS.Dict
import HandS.TupAny
import HandS.Iter
import HandS.Walk
import KE.KDictPairs
import Lean
import HandS.ForMost
import HandS.ForExc
import HandS.Defaults
import HandS.Head0
import HandS.Head1
import HandS.Head2
import HandS.HeadEnd
import HandS.HeadHook1
import HandS.HeadHook2
import HandS.TupMul
import HandS.TupLe
import HandS.Deep
import HandS.IsInst
import HandS.ExcIs
import HandS.Wide
import HandS.Style
import HandS.Zip
import HandS.Strs
import HandS.SortOrd
import HandS.SortInts
import HandS.DictComp
import KE.KIndexOf
import HandS.Star
import KE.KUnpack
import KE.SortData
import KE.KDictSum
import KE.GoesMore
import KE.GoesEnum
import HandS.SetFor
import HandS.SetKeys
import HandS.Rev
import KE.DataMinMax
import HandS.TupSets
import KE.KDictDisplayH
import HandS.NoneIn
import PySem.Challenge.RW_panestacks_k07_whole_looks
set_option Elab.async false
set_option linter.all false
set_option maxRecDepth 100000
set_option maxHeartbeats 4000000
/-! dicts whose keys are tuples of ints, told by the one object of the dict: the key tuples may stand as they like -/
namespace PD
open PySem PySem.Spec PyProof.Rows L2
def hashI (ks : List Int) : Int := reduceHash (Builtin.Tuple.tupleHashOf (ks.map hashInt))
def entI (x : List Int × Addr × Value) : DictEntry := ⟨hashI x.1, .ref x.2.1, x.2.2⟩
def RelX : List (List Int × Addr × V) → List (List Int × Addr × Value) → Prop := Paired fun p q => p.1 = q.1 ∧ p.2.1 = q.2.1 ∧ RelV p.2.2 q.2.2
def DtOk (d : Addr) (kvs : List (List Int × Addr × V)) (h : Heap) : Prop := (d == sysModules) = false ∧ ∃ xs, RelX kvs xs ∧ ∃ o es ep, h.get? d = some o ∧ o.ExactDict ∧ o.data = .dict es ep ∧ es.toList = xs.map entI ∧ (xs.map (·.1)).Nodup
def DtI (d : Addr) (kvs : List (List Int × Addr × V)) : HO := .ext (DtOk d kvs)
theorem dtOk_stay {d : Addr} {kvs : List (List Int × Addr × V)} {h1 h2 : Heap} (x : DtOk d kvs h1) (k : ∀ o, h1.get? d = some o → h2.get? d = some o) : DtOk d kvs h2 := by
  obtain ⟨hs, xs, r, o, es, ep, ho, q⟩ := x
  exact ⟨hs, xs, r, o, es, ep, k _ ho, q⟩
theorem dtI_ok {P : Program} {w : World} {H : Hp} {h : Heap} {d : Addr} {kvs : List (List Int × Addr × V)} (x : DtOk d kvs h) : ObjOk P w H h d (DtI d kvs) :=
  ⟨x, (by obtain ⟨_, _, _, o, _, _, ho, _⟩ := x; exact ⟨o, ho⟩), fun h1 h2 y k => dtOk_stay y k⟩
/-- the key tuples stand -/
def KeysAt (K : PySem.W.Frag) (H : Hp) (kvs : List (List Int × Addr × V)) : Prop := ∀ q ∈ kvs, SqT K H q.2.1 (q.1.map V.int)
abbrev tkI (P : Program) (w : World) : HeapKind P w (List Int) := tupleKind (PySem.intKind P w)
theorem RelX.length {kvs : List (List Int × Addr × V)} {xs : List (List Int × Addr × Value)} (r : RelX kvs xs) : kvs.length = xs.length := Paired.length r
theorem ints_items {P : Program} {w : World} : ∀ {ns : List Int} {its : List Value}, Vals (ns.map V.int) its → ItemsAre (PySem.intKind P w) ns its
  | [], _, r => by cases r; exact .nil
  | n :: ns, _, r => by
    cases r with
    | cons h t =>
      obtain ⟨tk, rfl⟩ := h
      exact .cons (by simp [PySem.intKind, Value.isInt]) (ints_items t)
section
variable {X : Cx} {pins : List (Addr × Obj)} {σ : L2.St} {H : Hp} {s : Shared}
theorem keyI {b : Addr} {ns : List Int} (I : Inv X pins σ H s) (h : SqT X.K H b (ns.map V.int)) : (tkI X.prog X.w).is s.heap ns b := by
  obtain ⟨its, r, ⟨o, ho, hc, n, hd⟩, _⟩ := I.tuple h
  exact ⟨o, its.toArray, n, ho, hc, hd, by simpa using ints_items r⟩
theorem dtI_of {d : Addr} {kvs : List (List Int × Addr × V)} (I : Inv X pins σ H s) (h : Rd H d (DtI d kvs)) (ks : KeysAt X.K H kvs) : (d == sysModules) = false ∧ ∃ xs, RelX kvs xs ∧ s.heap.DictOfH (tkI X.prog X.w) d xs := by
  obtain ⟨⟨hs, xs, r, o, es, ep, ho, hx, hdt, he, hn⟩, -⟩ := (show ObjOk X.prog X.w H s.heap d (DtI d kvs) from h.ok I.hok)
  refine ⟨hs, xs, r, o, es, ep, ho, hx, hdt, he, fun x hm => ?_, hn⟩
  clear he hn hdt hx ho h
  induction r with
  | nil => exact nomatch hm
  | @cons p q ps qs hq t ih =>
    rcases List.mem_cons.mp hm with e | hm
    · subst e
      have := keyI I (ks p (by simp))
      rw [hq.1, hq.2.1] at this
      exact this
    · exact ih (fun y hy => ks y (by simp [hy])) hm
end
def valX : List (List Int × Addr × V) → List Int → Option V
  | [], _ => none
  | p :: ps, k => if p.1 = k then some p.2.2 else valX ps k
def putX (kvs : List (List Int × Addr × V)) (k : List Int) (b : Addr) (v : V) : List (List Int × Addr × V) :=
  if (valX kvs k).isSome = true then kvs.map (fun p => if p.1 = k then (p.1, p.2.1, v) else p) else kvs ++ [(k, b, v)]
theorem relX_val {kvs : List (List Int × Addr × V)} {xs : List (List Int × Addr × Value)} (r : RelX kvs xs) (k : List Int) : RelO (valX kvs k) ((atKey xs k).map (·.2)) := by
  induction r with
  | nil => exact True.intro
  | @cons p q ps qs h t ih =>
    unfold valX atKey
    rw [List.find?_cons]
    by_cases e : p.1 = k
    · rw [if_pos e]
      have e2 : decide (q.1 = k) = true := decide_eq_true (by rw [← h.1]; exact e)
      rw [e2]
      exact h.2.2
    · rw [if_neg e]
      have e2 : decide (q.1 = k) = false := decide_eq_false (by rw [← h.1]; exact e)
      rw [e2]
      exact ih
theorem relX_some {kvs : List (List Int × Addr × V)} {xs : List (List Int × Addr × Value)} (r : RelX kvs xs) (k : List Int) : (valX kvs k).isSome = (atKey xs k).isSome := by
  have := (relX_val r k).isSome_eq
  rw [Option.isSome_map] at this
  exact this
theorem relX_put {kvs : List (List Int × Addr × V)} {xs : List (List Int × Addr × Value)} (r : RelX kvs xs) (k : List Int) (b : Addr) {v : V} {u : Value} (rv : RelV v u) : RelX (putX kvs k b v) (storedH xs k b u) := by
  unfold putX storedH
  rw [relX_some r k]
  by_cases q : (atKey xs k).isSome = true
  · rw [if_pos q, if_pos q]
    clear q
    induction r with
    | nil => exact .nil
    | @cons p q ps qs h t ih =>
      refine .cons ?_ ih
      unfold putAt
      dsimp only
      by_cases e : p.1 = k
      · rw [if_pos e, if_pos (by rw [← h.1]; exact e)]; exact ⟨h.1, h.2.1, rv⟩
      · rw [if_neg e, if_neg (by rw [← h.1]; exact e)]; exact h
  · rw [if_neg q, if_neg q]
    exact Paired.snoc r ⟨rfl, rfl, rv⟩
theorem putX_len (kvs : List (List Int × Addr × V)) (k : List Int) (b : Addr) (v : V) : (putX kvs k b v).length ≤ kvs.length + 1 := by
  unfold putX; split <;> simp
theorem putX_keys {P : List Int → Addr → Prop} {kvs : List (List Int × Addr × V)} {k : List Int} {b : Addr} {v : V} (h : ∀ q ∈ kvs, P q.1 q.2.1) (hb : P k b) : ∀ q ∈ putX kvs k b v, P q.1 q.2.1 := by
  intro q hq
  unfold putX at hq
  split at hq
  · obtain ⟨p, hp, rfl⟩ := List.mem_map.mp hq
    have := h p hp
    split <;> exact this
  · rcases List.mem_append.mp hq with z | z
    · exact h q z
    · rw [List.mem_singleton.mp z]; exact hb
theorem entI_eq {P : Program} {w : World} (x : List Int × Addr × Value) : entryOfKey (tkI P w) x = entI x := rfl
theorem dtOk_of {P : Program} {w : World} {h : Heap} {d : Addr} {kvs : List (List Int × Addr × V)} {xs : List (List Int × Addr × Value)} (hs : (d == sysModules) = false) (r : RelX kvs xs) (q : h.DictOfH (tkI P w) d xs) : DtOk d kvs h := by
  obtain ⟨o, es, ep, ho, hx, hdt, he, _, hn⟩ := q
  exact ⟨hs, xs, r, o, es, ep, ho, hx, hdt, he, hn⟩
/-- what the dict at a holds at the key y -/
def DGetX (K : PySem.W.Frag) (H : Hp) (a : Addr) (y : V) (r : Option V) : Prop := ∃ kvs k b, Rd H a (DtI a kvs) ∧ KeysAt K H kvs ∧ y = .ref b ∧ SqT K H b (k.map V.int) ∧ r = valX kvs k
def DPutX (K : PySem.W.Frag) (H : Hp) (a : Addr) (y v : V) (H' : Hp) : Prop := ∃ kvs k b, H a = some (DtI a kvs) ∧ KeysAt K H kvs ∧ y = .ref b ∧ SqT K H b (k.map V.int) ∧ kvs.length < sizeLine ∧ H' = upd H a (DtI a (putX kvs k b v))
section
variable {X : Cx} {pins : List (Addr × Obj)} {σ : L2.St} {H : Hp} {s : Shared} {a : Addr} {y v : V} {u r : Value} {o : Option V} {A : Around} {E : Value → Shared → Prop}
theorem dx_getItem {Q : Value → Shared → Prop} (hu : A.units + 1 < cLine) (I : Inv X pins σ H s) (g : DGetX X.K H a y (some v)) (ry : RelV y u) (h : ∀ w' s', Inv X pins σ H s' → RelV v w' → Q w' s') :
    wpAny (model X.prog X.w) A (getItem (.ref a) u) Q E s := by
  obtain ⟨kvs, k, b, e, ks, ey, eb, l⟩ := g
  subst ey
  cases (show u = Value.ref b from ry)
  obtain ⟨_, xs, rel, dd⟩ := dtI_of I e ks
  obtain ⟨w', hw, rw'⟩ := RelO.some_of (v := v) (o := (atKey xs k).map (·.2)) (by rw [l]; exact relX_val rel k)
  obtain ⟨p, hp, hp2⟩ := Option.map_eq_some_iff.mp hw
  refine wpAny_getItem_heap (tupleKind_room_in1 hu) (keyI I eb) dd hp ?_
  rw [hp2]
  exact h w' _ (I.tok _) rw'
theorem dx_in {Q : Value → Shared → Prop} (hu : A.units + 1 < cLine) (I : Inv X pins σ H s) (g : DGetX X.K H a y o) (ry : RelV y u) (h : ∀ s', Inv X pins σ H s' → Q (.bool o.isSome) s') :
    wpAny (model X.prog X.w) A (compareOp .In u (.ref a)) Q E s := by
  obtain ⟨kvs, k, b, e, ks, ey, eb, l⟩ := g
  subst ey
  cases (show u = Value.ref b from ry)
  obtain ⟨hd, xs, rel, dd⟩ := dtI_of I e ks
  refine wpAny_in_heap (tupleKind_room_in1 hu) (keyI I eb) hd dd ?_
  rw [← relX_some rel k, ← l]
  exact h _ (I.tok _)
theorem dx_notIn {Q : Value → Shared → Prop} (hu : A.units + 1 < cLine) (I : Inv X pins σ H s) (g : DGetX X.K H a y o) (ry : RelV y u) (h : ∀ s', Inv X pins σ H s' → Q (.bool (!o.isSome)) s') :
    wpAny (model X.prog X.w) A (compareOp .NotIn u (.ref a)) Q E s := by
  obtain ⟨kvs, k, b, e, ks, ey, eb, l⟩ := g
  subst ey
  cases (show u = Value.ref b from ry)
  obtain ⟨hd, xs, rel, dd⟩ := dtI_of I e ks
  refine wpAny_notIn_heap (tupleKind_room_in1 hu) (keyI I eb) hd dd ?_
  rw [← relX_some rel k, ← l]
  exact h _ (I.tok _)
theorem dx_setItem {H' : Hp} {Q : Unit → Shared → Prop} (hu : A.units + 1 < cLine) (I : Inv X pins σ H s) (g : DPutX X.K H a y v H') (ry : RelV y u) (rv : RelV v r) (h : ∀ s', Inv X pins σ H' s' → Q () s') :
    wpAny (model X.prog X.w) A (setItem (.ref a) u r) Q E s := by
  obtain ⟨kvs, k, b, e, ks, ey, eb, l, eH⟩ := g
  subst ey eH
  cases (show u = Value.ref b from ry)
  obtain ⟨hd, xs, rel, dd⟩ := dtI_of I (.inl e) ks
  have hz : xs.length ≤ sizeLine := by rw [← rel.length]; omega
  refine wpAny_setItem_heap (hsz := hz) (tupleKind_room_in1 hu) (keyI I eb) dd fun h' dd' hs => h _ ?_
  have ok := dtOk_of hd (relX_put rel k b rv) dd'
  have he : ∃ q, h'.get? a = some q := by obtain ⟨_, _, _, o, _, _, ho, _⟩ := ok; exact ⟨o, ho⟩
  exact d_write I (by rw [e]; exact True.intro) hs he (dtI_ok ok)
theorem dx_typeIs (I : Inv X pins σ H s) {kvs : List (List Int × Addr × V)} (h : Rd H a (DtI a kvs)) : s.TypeIs (.ref a) "dict" := by
  obtain ⟨⟨hs, xs, r, o, es, ep, ho, hx, _⟩, _⟩ := (show ObjOk X.prog X.w H s.heap a (DtI a kvs) from h.ok I.hok)
  exact ⟨o, ho, hx.1⟩
end
def tDGetX (K : PySem.W.Frag) (td ty : TE) : TE := fun σ H Q => td σ H fun x H1 => ty σ H1 fun y H2 => ∃ a v, x = .ref a ∧ (DGet H2 a y (some v) ∨ DGetX K H2 a y (some v)) ∧ Q v H2
def tDInX (K : PySem.W.Frag) (b : Bool) (ty td : TE) : TE := fun σ H Q => ty σ H fun y H1 => td σ H1 fun x H2 => ∃ a o, x = .ref a ∧ (DGet H2 a y o ∨ DGetX K H2 a y o) ∧ Q (.bl (if b = true then !o.isSome else o.isSome)) H2
def sDPutX (K : PySem.W.Frag) (td ty tv : TE) : TS := fun D σ H => tv σ H fun v H1 => td σ H1 fun x H2 => ty σ H2 fun y H3 => ∃ a H4, x = .ref a ∧ (DPut H3 a y v H4 ∨ DPutX K H3 a y v H4) ∧ D.nx σ H4
section
variable {X : Cx} {o i e value : Expr} {pos pos' tpos : Pos} {td ty tv : TE}
theorem pe_dgetX (hu : X.A.units + 1 < cLine) (ho : PE X o td) (hi : PE X i ty) (hs : NoSl i) : PE X (.Subscript o i pos) (tDGetX X.K td ty) := by
  refine ⟨fun pins s σ H Q I h => ?_⟩
  refine subD_of PySem.F.slot_dict_getitem.lookup hs (thn (ho.run pins s σ H _ I h) fun u s1 ⟨x, H1, I1, rx, q1⟩ => thn (hi.run pins s1 σ H1 _ I1 q1) fun iv s2 ⟨y, H2, I2, ry, a, v, ex, g, q2⟩ => ?_)
  subst ex
  obtain rfl : u = Value.ref a := rx
  rcases g with g | g
  · exact ⟨dict_typeIs I2 g, d_getItem hu I2 g ry fun w' s3 I3 rw' => ⟨v, H2, I3, rw', q2⟩⟩
  · have ht : s2.TypeIs (.ref a) "dict" := by
      obtain ⟨kvs, _, _, e, _⟩ := g
      exact dx_typeIs I2 e
    exact ⟨ht, dx_getItem hu I2 g ry fun w' s3 I3 rw' => ⟨v, H2, I3, rw', q2⟩⟩
theorem pc_dinX (hu : X.A.units + 1 < cLine) (hi : PE X i ty) (ho : PE X o td) : PC X .In i o (tDInX X.K false ty td) := by
  refine ⟨fun pins s σ H Q I h => ?_⟩
  refine thn (hi.run pins s σ H _ I h) fun iv s1 ⟨y, H1, I1, ry, q1⟩ => thn (ho.run pins s1 σ H1 _ I1 q1) fun u s2 ⟨x, H2, I2, rx, a, ov, ex, g, q2⟩ => ?_
  subst ex
  obtain rfl : u = Value.ref a := rx
  rcases g with g | g
  · exact d_in hu I2 g ry fun s3 I3 => ⟨.bl ov.isSome, H2, I3, rfl, q2⟩
  · exact dx_in hu I2 g ry fun s3 I3 => ⟨.bl ov.isSome, H2, I3, rfl, q2⟩
theorem pc_dnotinX (hu : X.A.units + 1 < cLine) (hi : PE X i ty) (ho : PE X o td) : PC X .NotIn i o (tDInX X.K true ty td) := by
  refine ⟨fun pins s σ H Q I h => ?_⟩
  refine thn (hi.run pins s σ H _ I h) fun iv s1 ⟨y, H1, I1, ry, q1⟩ => thn (ho.run pins s1 σ H1 _ I1 q1) fun u s2 ⟨x, H2, I2, rx, a, ov, ex, g, q2⟩ => ?_
  subst ex
  obtain rfl : u = Value.ref a := rx
  rcases g with g | g
  · exact d_notIn hu I2 g ry fun s3 I3 => ⟨.bl (!ov.isSome), H2, I3, rfl, q2⟩
  · exact dx_notIn hu I2 g ry fun s3 I3 => ⟨.bl (!ov.isSome), H2, I3, rfl, q2⟩
theorem ps_dputX (hu : X.A.units + 1 < cLine) (ho : PE X o td) (hi : PE X i ty) (hv : PE X value tv) (hs : swapsWith value (some (.Subscript o i pos')) pos.line X.env = pure false) :
    PS X (.Assign [.Subscript o i pos'] value pos) (sDPutX X.K td ty tv) := by
  refine ⟨fun pins s σ H D I h => ?_⟩
  refine wpAny_Assign_Subscript (thn (hv.run pins s σ H _ I h) fun r s1 ⟨v, H1, I1, rv, q1⟩ => thn (ho.run pins s1 σ H1 _ I1 q1) fun u s2 ⟨x, H2, I2, rx, q2⟩ => thn (hi.run pins s2 σ H2 _ I2 q2) fun iv s3 ⟨y, H3, I3, ry, a, H4, ex, g, q3⟩ => ?_) hs
  subst ex
  obtain rfl : u = Value.ref a := rx
  rcases g with g | g
  · exact d_setItem hu I3 g ry rv fun s4 I4 => ⟨σ, H4, I4, q3⟩
  · exact dx_setItem hu I3 g ry rv fun s4 I4 => ⟨σ, H4, I4, q3⟩
end
/-- {} -/
def tDNewX : TE := fun _ H Q => ∀ p, H p = none → Q (.ref p) (upd H p (DtI p []))
theorem dtOk_new {h : Heap} (hb : sysModules < h.objs.size) : DtOk h.objs.size [] (h.push { cls := .type "dict", data := .dict #[] }) :=
  ⟨beq_eq_false_iff_ne.mpr (Ne.symm (Nat.ne_of_lt hb)), [], .nil, _, #[], 0, Heap.get?_push_size _ rfl, ⟨rfl, rfl, rfl⟩, rfl, rfl, List.nodup_nil⟩
theorem pe_dnewX {X : Cx} {pos : Pos} : PE X (.Dict [] [] pos) tDNewX := ⟨fun pins s σ H Q I h =>
  wpAny_Dict_empty ⟨.ref s.heap.objs.size, _, I.laid (a := s.heap.objs.size) (o := DtI s.heap.objs.size []) (t' := s.toks) (fun _ _ q => Heap.get?_push_of_some _ q) (Nat.le_refl _) (dtI_ok (dtOk_new I.big)), rfl, h _ (I.hok.fresh (Nat.le_refl _))⟩⟩
/-! ### its keys, walked -/
theorem frzX {X : Cx} {pins : List (Addr × Obj)} {σ : L2.St} {H : Hp} {s : Shared} {d : Addr} {o : Obj} {kvs : List (List Int × Addr × V)} (I : Inv X pins σ H s) (h : H d = some (.frz o (DtI d kvs))) :
    (d == sysModules) = false ∧ s.heap.get? d = some o ∧ o.ExactDict ∧ ∃ (es : Array DictEntry) (ep : Nat), o.data = .dict es ep ∧ es.size = kvs.length ∧
      ∀ (i : Nat) (p : List Int × Addr × V), kvs[i]? = some p → ∃ en : DictEntry, es[i]? = some en ∧ en.key = .ref p.2.1 := by
  obtain ⟨hd, ⟨hs, xs, pr, o', es, ep, ho, hx, hdt, he, -⟩, -⟩ := I.hok d _ h
  rw [hd] at ho
  cases ho
  have l1 : es.size = xs.length := by
    have := congrArg List.length he
    simpa using this
  refine ⟨hs, hd, hx, es, ep, hdt, by rw [l1, pr.length], fun i p e => ?_⟩
  obtain ⟨b, hb, -, e2, -⟩ := paired_get pr e
  have q : es[i]? = (xs.map entI)[i]? := by rw [← he, Array.getElem?_toList]
  rw [List.getElem?_map, hb] at q
  exact ⟨_, q, by rw [e2]; rfl⟩
def Itkx (d : Addr) (o : Obj) (kvs : List (List Int × Addr × V)) : It :=
  ⟨fun i H => H d = some (.frz o (DtI d kvs)) ∧ i < kvs.length, fun i H x H' => H' = H ∧ ∃ p, kvs[i]? = some p ∧ x = .ref p.2.1, fun i H => H d = some (.frz o (DtI d kvs)) ∧ kvs.length ≤ i⟩
theorem turn_keysX {P : Program} {w : World} {K : PySem.W.Frag} {tg : Expr} {d : Addr} {o : Obj} {es : Array DictEntry} {ep : Nat} {kvs : List (List Int × Addr × V)} (it : Addr) (hod : o.data = .dict es ep) : Turn P w K tg (Itkx d o kvs) [it] it (fun i h => h.IsKeyIter it d i kvs.length ep) where
  mem := by simp
  obj := fun i h st b hb => by
    obtain rfl : b = it := by simpa using hb
    obtain ⟨oi, e, c, dd⟩ := st
    exact ⟨oi, e, fun v z => by rw [dd] at z; cases z⟩
  keep := fun i h h' st k => st.at fun oi e => k it (by simp) oi e
  item := by
    intro X hP hw hK hc i pins s σ H E I hf st ⟨hd, hi⟩
    subst hP hw hK
    obtain ⟨f0, f1, -, f3, f4, f5⟩ := hf it (by simp)
    obtain ⟨-, hgd, hx, es', ep', hdt, hsz, ent⟩ := frzX I hd
    obtain ⟨rfl, rfl⟩ := dict_ep hod hdt
    obtain ⟨p, hp⟩ : ∃ p, kvs[i]? = some p := ⟨kvs[i], List.getElem?_eq_getElem hi⟩
    obtain ⟨en, hen, hkey⟩ := ent i p hp
    refine next_key_item st hgd hdt hsz hen fun h' st' sb => ?_
    have J1 : Inv X pins σ H { s with heap := h' } := I.turned (t' := s.toks) (fun b ob hb e => (sb.2 b hb).trans e) f0 f1 f3 f4 f5
    obtain ⟨oi, e, c, dd⟩ := id st'
    exact ⟨en.key, rfl, go_of (s := { s with heap := h' }) e c dd (by decide) ⟨.ref p.2.1, H, J1, hkey, ⟨rfl, p, hp, rfl⟩, st', fun b hb => (hf b hb).1⟩⟩
  done := by
    intro X hP hw hK hc i pins s σ H E I hf st ⟨hd, hi⟩
    subst hP hw hK
    obtain ⟨f0, f1, -, f3, f4, f5⟩ := hf it (by simp)
    obtain ⟨-, hgd, hx, es', ep', hdt, hsz, ent⟩ := frzX I hd
    obtain ⟨rfl, rfl⟩ := dict_ep hod hdt
    exact next_key_end (I.ok.hd hc) st hgd hdt hsz hi fun h' eb => ⟨rfl, I.turned (t' := s.toks) (fun b ob hb e => eb b ob hb e) f0 f1 f3 f4 f5⟩
  self := (turn_keysT (P := P) (w := w) (K := K) (tg := tg) (kvs := kvs.map fun p => ([], p.2.2)) it hod).self |> fun z A i s Q E st h => z A i s Q E (by simpa using st) h
def iKeysX (td : TE) : TI := fun σ H R => td σ H fun x H1 => ∃ d o, x = .ref d ∧ ((∃ kvs, H1 d = some (.frz o (.dK kvs)) ∧ R (Itk d o kvs) H1) ∨ ∃ kvs, H1 d = some (.frz o (DtI d kvs)) ∧ R (Itkx d o kvs) H1)
theorem pi_keysX {X : Cx} {tg e : Expr} {td : TE} (he : PE X e td) : PI X tg e (iKeysX td) := by
  refine ⟨fun pins s σ H R I h => ?_⟩
  refine thn (he.run pins s σ H _ I h) fun u s1 ⟨x, H1, I1, rx, d, o, ex, q⟩ => ?_
  subst ex
  obtain rfl : u = Value.ref d := rx
  rcases q with ⟨kvs, hd, q⟩ | ⟨kvs, hd, q⟩
  · obtain ⟨hs, hgd, hx, es, ep, vs, hdt, hsz, kv, hm⟩ := I1.frzK hd
    refine iter_keys hs hgd hx hdt (pi_one (tk := s1.toks) I1 _ (turn_keys _ hdt) ⟨_, Heap.get?_push_size _ rfl, rfl, ?_⟩ q)
    rw [hsz] <;> rfl
  · obtain ⟨hs, hgd, hx, es, ep, hdt, hsz, ent⟩ := frzX I1 hd
    refine iter_keys hs hgd hx hdt (pi_one (tk := s1.toks) I1 _ (turn_keysX _ hdt) ⟨_, Heap.get?_push_size _ rfl, rfl, ?_⟩ q)
    rw [hsz] <;> rfl
end PD

set_option maxHeartbeats 4000000
namespace PD
open PySem PySem.Spec PyProof.Rows L2
/-! ### pure data -/
inductive D where
  | non | bl (b : Bool) | int (i : Int) | str (x : Str) | tup (xs : List D) | itm (xs : List D) | lst (xs : List D) | scr (ns : List Int) | dic (ks vs : List D) | raw (v : V)
inductive Exc where
  | paneError | window | windows | order | cell | number | group | reports | move | size | sizes | tooLarge | nothing | parse
  deriving DecidableEq
inductive R (α : Type) where
  | ok (a : α) | err (c : Exc) | bad
def R.bind {α β : Type} (r : R α) (f : α → R β) : R β := match r with
  | .ok a => f a
  | .err c => .err c
  | .bad => .bad
def R.map {α β : Type} (f : α → β) (r : R α) : R β := match r with
  | .ok a => .ok (f a)
  | .err c => .err c
  | .bad => .bad
inductive Sl where
  | no | val (d : D) | own (xs : List D) | ownd (t : Bool) (ks vs : List D)
def Sl.isOwn : Sl → Bool
  | .own _ => true
  | .ownd _ _ _ => true
  | _ => false
abbrev EnvD := List Sl
inductive Out where
  | next (e : EnvD) | ret (d : D) | err (c : Exc) (e : EnvD) | brk (e : EnvD) | cont (e : EnvD) | bad
/-! ### how data stands in a heap -/
def kD : Key → D
  | .inl i => .int i
  | .inr x => .str x
/-- a tuple whose object is known, and has no dict of its own -/
def TupAt (H : Hp) (a : Addr) (xs : List V) : Prop := ∃ o : Obj, o.dict = none ∧ H a = some (.frz o (.tup xs))
theorem TupAt.mono {H H' : Hp} {a : Addr} {xs : List V} (h : TupAt H a xs) (e : Same H H') : TupAt H' a xs := let ⟨o, h1, h2⟩ := h; ⟨o, h1, e _ _ h2⟩
theorem TupAt.sq {K : PySem.W.Frag} {H : Hp} {a : Addr} {xs : List V} (h : TupAt H a xs) : SqT K H a xs := let ⟨o, _, h2⟩ := h; .inl (.inr ⟨o, h2⟩)
mutual
inductive Rep (K : PySem.W.Frag) (H : Hp) : V → D → Prop
  | non : Rep K H .non .non
  | bl (b : Bool) : Rep K H (.bl b) (.bl b)
  | int (i : Int) : Rep K H (.int i) (.int i)
  | str (x : Str) : Rep K H (.str x) (.str x)
  | tup {a : Addr} {xs : List V} {ds : List D} : TupAt H a xs → xs.length ≤ sizeLine → Reps K H xs ds → Rep K H (.ref a) (.tup ds)
  | itm {a : Addr} {xs : List V} {ds : List D} : H a = some (.tup xs) → xs.length ≤ sizeLine → Reps K H xs ds → Rep K H (.ref a) (.itm ds)
  | lst {a : Addr} {xs : List V} {ds : List D} : H a = some (.lst xs) → xs.length ≤ sizeLine → Reps K H xs ds → Rep K H (.ref a) (.lst ds)
  | scr {a : Addr} {ns : List Int} : SqL K H a (ns.map V.int) → ns.length ≤ 63 → Rep K H (.ref a) (.scr ns)
  | dicK {a : Addr} {kvs : List (Key × V)} {vs : List D} : Rd H a (.dK kvs) → kvs.length ≤ sizeLine → Reps K H (kvs.map (·.2)) vs → Rep K H (.ref a) (.dic (kvs.map fun p => kD p.1) vs)
  | dicT {a : Addr} {kvs : List (List Int × Addr × V)} {vs : List D} : Rd H a (DtI a kvs) → (∀ q ∈ kvs, TupAt H q.2.1 (q.1.map V.int) ∧ q.1.length ≤ sizeLine) → kvs.length ≤ sizeLine → Reps K H (kvs.map (·.2.2)) vs → Rep K H (.ref a) (.dic (kvs.map fun p => D.tup (p.1.map D.int)) vs)
  | raw (v : V) : Rep K H v (.raw v)
inductive Reps (K : PySem.W.Frag) (H : Hp) : List V → List D → Prop
  | nil : Reps K H [] []
  | cons {v : V} {vs : List V} {d : D} {ds : List D} : Rep K H v d → Reps K H vs ds → Reps K H (v :: vs) (d :: ds)
end
section
variable {K : PySem.W.Frag} {F F' F'' H H' H'' : Hp}
theorem _root_.L2.Same.tupS {a : Addr} {xs : List V} (e : Same H H') (h : SqT K H a xs) : SqT K H' a xs := by
  rcases h with (h | ⟨o, h⟩) | h
  · exact .inl (.inl (e _ _ h))
  · exact .inl (.inr ⟨o, e _ _ h⟩)
  · exact .inr h
theorem _root_.L2.Rd.mono {a : Addr} {u : HO} (h : Rd H a u) (e : Same H H') : Rd H' a u := h.elim (fun h => .inl (e _ _ h)) fun ⟨ob, h⟩ => .inr ⟨ob, e _ _ h⟩
theorem Rep.mono {v : V} {d : D} (h : Rep K H v d) (e : Same H H') : Rep K H' v d :=
  Rep.rec (motive_1 := fun v d _ => Rep K H' v d) (motive_2 := fun vs ds _ => Reps K H' vs ds)
    .non .bl .int .str (fun a l _ r => .tup (a.mono e) l r) (fun a l _ r => .itm (e _ _ a) l r) (fun a l _ r => .lst (e _ _ a) l r) (fun a l => .scr (e.seq a) l) (fun a l _ r => .dicK (a.mono e) l r) (fun a k l _ r => .dicT (a.mono e) (fun q hq => ⟨(k q hq).1.mono e, (k q hq).2⟩) l r) .raw .nil (fun _ _ a b => .cons a b) h
theorem Reps.mono {vs : List V} {ds : List D} (h : Reps K H vs ds) (e : Same H H') : Reps K H' vs ds := by
  induction ds generalizing vs with
  | nil => cases h; exact .nil
  | cons d ds ih => cases h with | cons a b => exact .cons (a.mono e) (ih b)
theorem Rep.swap (hz : ∀ a xs, TupAt H a xs → TupAt H' a xs) (ht : ∀ a xs, H a = some (.tup xs) → H' a = some (.tup xs)) (hl : ∀ a xs, H a = some (.lst xs) → H' a = some (.lst xs)) (hs : ∀ a xs, SqL K H a xs → SqL K H' a xs) (hk : ∀ a kvs, Rd H a (.dK kvs) → Rd H' a (.dK kvs)) (hd : ∀ a kvs, Rd H a (DtI a kvs) → Rd H' a (DtI a kvs))
    {v : V} {d : D} (h : Rep K H v d) : Rep K H' v d :=
  Rep.rec (motive_1 := fun v d _ => Rep K H' v d) (motive_2 := fun vs ds _ => Reps K H' vs ds)
    .non .bl .int .str (fun a l _ r => .tup (hz _ _ a) l r) (fun a l _ r => .itm (ht _ _ a) l r) (fun a l _ r => .lst (hl _ _ a) l r) (fun a l => .scr (hs _ _ a) l) (fun a l _ r => .dicK (hk _ _ a) l r) (fun a k l _ r => .dicT (hd _ _ a) (fun q hq => ⟨hz _ _ (k q hq).1, (k q hq).2⟩) l r) .raw .nil (fun _ _ a b => .cons a b) h
theorem Reps.swap (hz : ∀ a xs, TupAt H a xs → TupAt H' a xs) (ht : ∀ a xs, H a = some (.tup xs) → H' a = some (.tup xs)) (hl : ∀ a xs, H a = some (.lst xs) → H' a = some (.lst xs)) (hs : ∀ a xs, SqL K H a xs → SqL K H' a xs) (hk : ∀ a kvs, Rd H a (.dK kvs) → Rd H' a (.dK kvs)) (hd : ∀ a kvs, Rd H a (DtI a kvs) → Rd H' a (DtI a kvs))
    {vs : List V} {ds : List D} (h : Reps K H vs ds) : Reps K H' vs ds := by
  induction ds generalizing vs with
  | nil => cases h; exact .nil
  | cons d ds ih => cases h with | cons a b => exact .cons (a.swap hz ht hl hs hk hd) (ih b)
theorem Reps.length {vs : List V} {ds : List D} (h : Reps K H vs ds) : vs.length = ds.length := by
  induction ds generalizing vs with
  | nil => cases h; rfl
  | cons d ds ih => cases h with | cons a b => simp [ih b]
theorem Reps.get {vs : List V} {ds : List D} (h : Reps K H vs ds) : ∀ {i : Nat} {d : D}, ds[i]? = some d → ∃ v, vs[i]? = some v ∧ Rep K H v d := by
  induction ds generalizing vs with
  | nil => intro i d e; simp at e
  | cons x ds ih =>
    cases h with
    | cons a b =>
      intro i d e
      cases i with
      | zero => simp at e; subst e; exact ⟨_, rfl, a⟩
      | succ i => simp at e; obtain ⟨v, h1, h2⟩ := ih b e; exact ⟨v, by simpa using h1, h2⟩
theorem Reps.getV {vs : List V} {ds : List D} (h : Reps K H vs ds) {i : Nat} {v : V} (e : vs[i]? = some v) : ∃ d, ds[i]? = some d ∧ Rep K H v d := by
  have hl := h.length
  obtain ⟨hi, _⟩ := List.getElem?_eq_some_iff.mp e
  obtain ⟨v', h1, h2⟩ := h.get (i := i) (d := ds[i]'(by omega)) (by simp [show i < ds.length by omega])
  rw [e] at h1; cases h1
  exact ⟨_, by simp [show i < ds.length by omega], h2⟩
theorem Reps.append {vs ws : List V} {ds es : List D} (h : Reps K H vs ds) (h' : Reps K H ws es) : Reps K H (vs ++ ws) (ds ++ es) := by
  induction ds generalizing vs with
  | nil => cases h; exact h'
  | cons d ds ih => cases h with | cons a b => exact .cons a (ih b)
theorem Reps.snoc {vs : List V} {ds : List D} {v : V} {d : D} (h : Reps K H vs ds) (h' : Rep K H v d) : Reps K H (vs ++ [v]) (ds ++ [d]) := h.append (.cons h' .nil)
theorem Reps.take {vs : List V} {ds : List D} (h : Reps K H vs ds) : ∀ n : Nat, Reps K H (vs.take n) (ds.take n) := by
  induction ds generalizing vs with
  | nil => intro n; cases h; simp; exact .nil
  | cons d ds ih =>
    intro n
    cases h with
    | cons a b =>
      cases n with
      | zero => exact .nil
      | succ n => exact .cons a (ih b n)
theorem Reps.drop {vs : List V} {ds : List D} (h : Reps K H vs ds) : ∀ n : Nat, Reps K H (vs.drop n) (ds.drop n) := by
  induction ds generalizing vs with
  | nil => intro n; cases h; simp; exact .nil
  | cons d ds ih =>
    intro n
    cases h with
    | cons a b =>
      cases n with
      | zero => exact .cons a b
      | succ n => exact ih b n
theorem Reps.ints {ns : List Int} : Reps K H (ns.map V.int) (ns.map D.int) := by
  induction ns with
  | nil => exact .nil
  | cons n ns ih => exact .cons (.int n) ih
theorem Reps.reverse {vs : List V} {ds : List D} (h : Reps K H vs ds) : Reps K H vs.reverse ds.reverse := by
  induction ds generalizing vs with
  | nil => cases h; exact .nil
  | cons d ds ih => cases h with | cons a b => simp only [List.reverse_cons]; exact (ih b).snoc a
theorem Reps.of_ints : ∀ {ns : List Int} {vs : List V}, Reps K H vs (ns.map D.int) → vs = ns.map V.int
  | [], _, h => by cases h; rfl
  | n :: ns, _, h => by
    cases h with
    | cons a b => cases a; rw [Reps.of_ints b]; rfl
theorem Reps.of_bls : ∀ {ns : List Bool} {vs : List V}, Reps K H vs (ns.map D.bl) → vs = ns.map V.bl
  | [], _, h => by cases h; rfl
  | n :: ns, _, h => by
    cases h with
    | cons a b => cases a; rw [Reps.of_bls b]; rfl

/-! ### frozen part F of the heap H; how both may grow -/
def isMut : HO → Bool
  | .lst _ => true
  | .dK _ => true
  | .dT _ => true
  | .ins _ _ _ => true
  | .set _ _ => true
  | .frz _ (.tup _) => false
  | .frz _ _ => true
  | .ext _ => true
  | _ => false
structure Ext (F H F' H' : Hp) : Prop where
  f : Same F F'
  h : Same H H'
  i : Same F' H'
  n : ∀ a o, H a = some o → isMut o = true → F' a ≠ none → F a ≠ none
theorem Ext.refl (i : Same F H) : Ext F H F H := ⟨Same.refl F, Same.refl H, i, fun _ _ _ _ h => h⟩
theorem some_ne {α : Type} {o : Option α} {x : α} (h : o = some x) : o ≠ none := by rw [h]; exact fun q => nomatch q
theorem _root_.L2.Same.ne (e : Same H H') {a : Addr} (h : H a ≠ none) : H' a ≠ none := by
  cases q : H a with
  | none => exact absurd q h
  | some o => exact some_ne (e _ _ q)
theorem Ext.trans (a : Ext F H F' H') (b : Ext F' H' F'' H'') : Ext F H F'' H'' :=
  ⟨a.f.trans b.f, a.h.trans b.h, b.i, fun x o h1 m h2 => a.n x o h1 m (b.n x o (a.h _ _ h1) m h2)⟩
theorem _root_.L2.Same.updN {p : Addr} {o : HO} (h : H p = none) : Same H (upd H p o) := fun b u e => by
  rw [upd_ne (ne_of_none e h)]; exact e
theorem _root_.L2.Same.upd2 {p : Addr} {o : HO} (i : Same F H) : Same (L2.upd F p o) (L2.upd H p o) := fun b u e => by
  by_cases hb : b = p
  · subst hb; rw [upd_same] at e ⊢; exact e
  · rw [upd_ne hb] at e ⊢; exact i b u e
theorem _root_.L2.Same.into {p : Addr} {o : HO} (i : Same F H) (h : F p = none) : Same F (L2.upd H p o) := fun b u e => by
  rw [upd_ne (ne_of_none e h)]; exact i b u e
theorem _root_.L2.Same.put {p : Addr} {o : HO} (i : Same F H) (h : H p = some o) : Same (L2.upd F p o) H := fun b u e => by
  by_cases hb : b = p
  · subst hb; rw [upd_same] at e; rw [h]; exact e
  · rw [upd_ne hb] at e; exact i b u e
theorem upd_ne_none {p a : Addr} {o : HO} (h : L2.upd F p o a ≠ none) (hp : a ≠ p) : F a ≠ none := by rw [upd_ne hp] at h; exact h
/-- a new frozen object -/
theorem Ext.new {p : Addr} {o : HO} (i : Same F H) (h : H p = none) : Ext F H (upd F p o) (upd H p o) :=
  ⟨Same.updN (i.free h), Same.updN h, i.upd2, fun a o' h1 m h2 => upd_ne_none h2 fun q => by rw [q, h] at h1; cases h1⟩
/-- a new object, not frozen -/
theorem Ext.newH {p : Addr} {o : HO} (i : Same F H) (h : H p = none) : Ext F H F (upd H p o) :=
  ⟨Same.refl F, Same.updN h, i.into (i.free h), fun _ _ _ _ h => h⟩
/-- an object that is new since F H is frozen -/
theorem Ext.frz {p : Addr} {o : HO} (e : Ext F H F' H') (h : H p = none) (h' : H' p = some o) (hf : F' p = none) : Ext F H (upd F' p o) H' :=
  ⟨e.f.trans (Same.updN hf), e.h, e.i.put h', fun a o' h1 m h2 => e.n a o' h1 m (upd_ne_none h2 fun q => by rw [q, h] at h1; cases h1)⟩
/-- what is not frozen stays so -/
theorem Ext.keep {p : Addr} {o : HO} (e : Ext F H F' H') (h : H p = some o) (m : isMut o = true) (hf : F p = none) : F' p = none := by
  cases q : F' p with
  | none => rfl
  | some u => exact absurd hf (e.n p o h m (some_ne q))
end
/-! ### slots -/
inductive DicAt (K : PySem.W.Frag) (F : Hp) (a : Addr) : HO → Bool → List D → List D → Prop
  | k {kvs : List (Key × V)} {vs : List D} : kvs.length ≤ sizeLine → Reps K F (kvs.map (·.2)) vs → DicAt K F a (.dK kvs) false (kvs.map fun p => kD p.1) vs
  | t {kvs : List (List Int × Addr × V)} {vs : List D} : (∀ q ∈ kvs, TupAt F q.2.1 (q.1.map V.int) ∧ q.1.length ≤ sizeLine) → kvs.length ≤ sizeLine → Reps K F (kvs.map (·.2.2)) vs → DicAt K F a (DtI a kvs) true (kvs.map fun p => D.tup (p.1.map D.int)) vs
def SlotAt (K : PySem.W.Frag) (H0 F H : Hp) : Sl → Option V → Prop
  | .no, _ => True
  | .val d, o => ∃ v, o = some v ∧ Rep K F v d
  | .own ds, o => ∃ p xs, o = some (V.ref p) ∧ H0 p = none ∧ F p = none ∧ H p = some (.lst xs) ∧ xs.length ≤ sizeLine ∧ Reps K F xs ds
  | .ownd t ks vs, o => ∃ p u, o = some (V.ref p) ∧ H0 p = none ∧ F p = none ∧ H p = some u ∧ DicAt K F p u t ks vs
structure EnvAt (K : PySem.W.Frag) (H0 : Hp) (env : EnvD) (σ : L2.St) (F H : Hp) : Prop where
  fh : Same F H
  len : env.length = σ.length
  at_ : ∀ i s, env[i]? = some s → SlotAt K H0 F H s (σ.getD i none)
  ap : ∀ i j s t p, i ≠ j → env[i]? = some s → env[j]? = some t → s.isOwn = true → t.isOwn = true → σ.getD i none = some (.ref p) → σ.getD j none = some (.ref p) → False
section
variable {K : PySem.W.Frag} {H0 F F' H H' : Hp} {env : EnvD} {σ : L2.St}
theorem DicAt.isMut {u : HO} {a : Addr} {t : Bool} {ks vs : List D} (h : DicAt K F a u t ks vs) : PD.isMut u = true := by cases h <;> rfl
theorem DicAt.mono {u : HO} {a : Addr} {t : Bool} {ks vs : List D} (h : DicAt K F a u t ks vs) (e : Same F F') : DicAt K F' a u t ks vs := by
  cases h with
  | k a b => exact .k a (b.mono e)
  | t c a b => exact .t (fun q hq => ⟨(c q hq).1.mono e, (c q hq).2⟩) a (b.mono e)
theorem SlotAt.mono {s : Sl} {o : Option V} (h : SlotAt K H0 F H s o) (e : Ext F H F' H') : SlotAt K H0 F' H' s o := by
  cases s with
  | no => trivial
  | val d => obtain ⟨v, h1, h2⟩ := h; exact ⟨v, h1, h2.mono e.f⟩
  | own ds => obtain ⟨p, xs, h1, h2, h3, h4, h5, h6⟩ := h; exact ⟨p, xs, h1, h2, e.keep h4 rfl h3, e.h _ _ h4, h5, h6.mono e.f⟩
  | ownd _ ks vs => obtain ⟨p, u, h1, h2, h3, h4, h5⟩ := h; exact ⟨p, u, h1, h2, e.keep h4 h5.isMut h3, e.h _ _ h4, h5.mono e.f⟩
theorem EnvAt.mono (h : EnvAt K H0 env σ F H) (e : Ext F H F' H') : EnvAt K H0 env σ F' H' :=
  ⟨e.i, h.len, fun i s q => (h.at_ i s q).mono e, h.ap⟩
theorem getD_set_self {α : Type} {l : List α} {i : Nat} {x d : α} (h : i < l.length) : (l.set i x).getD i d = x := by
  rw [List.getD_eq_getElem?_getD, List.getElem?_set_self h]; rfl
theorem getD_set_ne {α : Type} {l : List α} {i j : Nat} {x d : α} (h : i ≠ j) : (l.set i x).getD j d = l.getD j d := by
  rw [List.getD_eq_getElem?_getD, List.getD_eq_getElem?_getD, List.getElem?_set_ne h]
theorem getD_some {l : L2.St} {i : Nat} {v : V} (h : l.getD i none = some v) : l[i]? = some (some v) := by
  rw [List.getD_eq_getElem?_getD] at h
  cases q : l[i]? with
  | none => rw [q] at h; cases h
  | some o => rw [q] at h; exact congrArg some h
/-- a slot gets a value -/
theorem EnvAt.setV (h : EnvAt K H0 env σ F H) (i : Nat) {v : V} {d : D} (r : Rep K F v d) : EnvAt K H0 (env.set i (.val d)) (σ.set i (some v)) F H := by
  refine ⟨h.fh, by simp [h.len], fun j s q => ?_, fun j k s t p hjk hs ht os ot pj pk => ?_⟩
  · by_cases e : i = j
    · subst e
      have hi : i < env.length := by
        have := (List.getElem?_eq_some_iff.mp q).1
        simpa using this
      rw [List.getElem?_set_self hi] at q
      cases q
      exact ⟨v, getD_set_self (by rw [← h.len]; exact hi), r⟩
    · rw [List.getElem?_set_ne e] at q
      rw [getD_set_ne e]
      exact h.at_ j s q
  · have nj : i ≠ j := fun e => by
      subst e
      have hi : i < env.length := by have := (List.getElem?_eq_some_iff.mp hs).1; simpa using this
      rw [List.getElem?_set_self hi] at hs; cases hs; cases os
    have nk : i ≠ k := fun e => by
      subst e
      have hi : i < env.length := by have := (List.getElem?_eq_some_iff.mp ht).1; simpa using this
      rw [List.getElem?_set_self hi] at ht; cases ht; cases ot
    rw [List.getElem?_set_ne nj] at hs
    rw [List.getElem?_set_ne nk] at ht
    rw [getD_set_ne nj] at pj
    rw [getD_set_ne nk] at pk
    exact h.ap j k s t p hjk hs ht os ot pj pk
/-- a slot is forgotten -/
theorem EnvAt.setNo (h : EnvAt K H0 env σ F H) (i : Nat) (o : Option V) : EnvAt K H0 (env.set i .no) (σ.set i o) F H := by
  refine ⟨h.fh, by simp [h.len], fun j s q => ?_, fun j k s t p hjk hs ht os ot pj pk => ?_⟩
  · by_cases e : i = j
    · subst e
      have hi : i < env.length := by
        have := (List.getElem?_eq_some_iff.mp q).1
        simpa using this
      rw [List.getElem?_set_self hi] at q
      cases q
      trivial
    · rw [List.getElem?_set_ne e] at q
      rw [getD_set_ne e]
      exact h.at_ j s q
  · have nj : i ≠ j := fun e => by
      subst e
      have hi : i < env.length := by have := (List.getElem?_eq_some_iff.mp hs).1; simpa using this
      rw [List.getElem?_set_self hi] at hs; cases hs; cases os
    have nk : i ≠ k := fun e => by
      subst e
      have hi : i < env.length := by have := (List.getElem?_eq_some_iff.mp ht).1; simpa using this
      rw [List.getElem?_set_self hi] at ht; cases ht; cases ot
    rw [List.getElem?_set_ne nj] at hs
    rw [List.getElem?_set_ne nk] at ht
    rw [getD_set_ne nj] at pj
    rw [getD_set_ne nk] at pk
    exact h.ap j k s t p hjk hs ht os ot pj pk
/-- a slot gets an object of its own, at p, that no other slot owns -/
theorem EnvAt.setO (h : EnvAt K H0 env σ F H) (i : Nat) {s : Sl} {p : Addr} (r : SlotAt K H0 F H s (some (.ref p)))
    (n : ∀ j t, j ≠ i → env[j]? = some t → t.isOwn = true → σ.getD j none ≠ some (.ref p)) : EnvAt K H0 (env.set i s) (σ.set i (some (.ref p))) F H := by
  refine ⟨h.fh, by simp [h.len], fun j t q => ?_, fun j k u t p' hjk hs ht os ot pj pk => ?_⟩
  · by_cases e : i = j
    · subst e
      have hi : i < env.length := by
        have := (List.getElem?_eq_some_iff.mp q).1
        simpa using this
      rw [List.getElem?_set_self hi] at q
      cases q
      rw [getD_set_self (by rw [← h.len]; exact hi)]
      exact r
    · rw [List.getElem?_set_ne e] at q
      rw [getD_set_ne e]
      exact h.at_ j t q
  · by_cases ej : i = j
    · subst ej
      have hi : i < env.length := by have := (List.getElem?_eq_some_iff.mp hs).1; simpa using this
      rw [getD_set_self (by rw [← h.len]; exact hi)] at pj
      rw [List.getElem?_set_ne hjk] at ht
      rw [getD_set_ne hjk] at pk
      cases pj
      exact n k t (Ne.symm hjk) ht ot pk
    · by_cases ek : i = k
      · subst ek
        have hi : i < env.length := by have := (List.getElem?_eq_some_iff.mp ht).1; simpa using this
        rw [getD_set_self (by rw [← h.len]; exact hi)] at pk
        rw [List.getElem?_set_ne ej] at hs
        rw [getD_set_ne ej] at pj
        cases pk
        exact n j u hjk hs os pj
      · rw [List.getElem?_set_ne ej] at hs
        rw [List.getElem?_set_ne ek] at ht
        rw [getD_set_ne ej] at pj
        rw [getD_set_ne ek] at pk
        exact h.ap j k u t p' hjk hs ht os ot pj pk
/-- an owned object's address is that of the heap -/
theorem EnvAt.ownAt (h : EnvAt K H0 env σ F H) {j : Nat} {t : Sl} {p : Addr} (q : env[j]? = some t) (o : t.isOwn = true) (e : σ.getD j none = some (.ref p)) : H p ≠ none ∧ F p = none ∧ H0 p = none := by
  have z := h.at_ j t q
  cases t with
  | no => cases o
  | val d => cases o
  | own ds => obtain ⟨p', xs, h1, h2, h3, h4, _⟩ := z; rw [e] at h1; cases h1; exact ⟨some_ne h4, h3, h2⟩
  | ownd _ ks vs => obtain ⟨p', u, h1, h2, h3, h4, _⟩ := z; rw [e] at h1; cases h1; exact ⟨some_ne h4, h3, h2⟩
/-- an owned object changes -/
theorem EnvAt.mut (h : EnvAt K H0 env σ F H) {i : Nat} {s s' : Sl} {p : Addr} {u : HO} (q : env[i]? = some s) (o : s.isOwn = true) (e : σ.getD i none = some (.ref p))
    (r : SlotAt K H0 F (upd H p u) s' (some (.ref p))) : EnvAt K H0 (env.set i s') σ F (upd H p u) := by
  have hp := h.ownAt q o e
  have hi : i < env.length := (List.getElem?_eq_some_iff.mp q).1
  refine ⟨h.fh.into hp.2.1, by simp [h.len], fun j t z => ?_, fun j k a b p' hjk ha hb oa ob pj pk => ?_⟩
  · by_cases ej : i = j
    · subst ej
      rw [List.getElem?_set_self hi] at z
      cases z
      rw [e]
      exact r
    · rw [List.getElem?_set_ne ej] at z
      have y := h.at_ j t z
      cases t with
      | no => trivial
      | val d => exact y
      | own ds =>
        obtain ⟨p', xs, h1, h2, h3, h4, h5, h6⟩ := y
        have npp : p' ≠ p := fun w => by subst w; exact h.ap j i _ _ p' (Ne.symm ej) z q rfl o h1 e
        exact ⟨p', xs, h1, h2, h3, by rw [upd_ne npp]; exact h4, h5, h6⟩
      | ownd _ ks vs =>
        obtain ⟨p', v, h1, h2, h3, h4, h5⟩ := y
        have npp : p' ≠ p := fun w => by subst w; exact h.ap j i _ _ p' (Ne.symm ej) z q rfl o h1 e
        exact ⟨p', v, h1, h2, h3, by rw [upd_ne npp]; exact h4, h5⟩
  · have own_of : ∀ (m : Nat) (c : Sl), (env.set i s')[m]? = some c → c.isOwn = true → ∃ c' : Sl, env[m]? = some c' ∧ c'.isOwn = true := fun m c hc oc => by
      by_cases em : i = m
      · subst em; exact ⟨s, q, o⟩
      · rw [List.getElem?_set_ne em] at hc; exact ⟨c, hc, oc⟩
    obtain ⟨a', ha', oa'⟩ := own_of j a ha oa
    obtain ⟨b', hb', ob'⟩ := own_of k b hb ob
    exact h.ap j k a' b' p' hjk ha' hb' oa' ob' pj pk
/-- an owned list is frozen -/
theorem EnvAt.freeze (h : EnvAt K H0 env σ F H) {i : Nat} {ds : List D} (q : env[i]? = some (.own ds)) : ∃ F', Same F F' ∧ (∀ a o, H0 a = some o → isMut o = true → F' a ≠ none → F a ≠ none) ∧ EnvAt K H0 (env.set i (.val (.lst ds))) σ F' H := by
  obtain ⟨p, xs, h1, h2, h3, h4, h5, h6⟩ := h.at_ i _ q
  have hi : i < env.length := (List.getElem?_eq_some_iff.mp q).1
  have sf : Same F (upd F p (.lst xs)) := Same.updN h3
  refine ⟨upd F p (.lst xs), sf, fun a o z1 m z2 => upd_ne_none z2 (fun w => by rw [w, h2] at z1; cases z1), h.fh.put h4, by simp [h.len], fun j t z => ?_, fun j k a b p' hjk ha hb oa ob pj pk => ?_⟩
  · by_cases ej : i = j
    · subst ej
      rw [List.getElem?_set_self hi] at z
      cases z
      rw [h1]
      exact ⟨_, rfl, .lst upd_same h5 (h6.mono sf)⟩
    · rw [List.getElem?_set_ne ej] at z
      have y := h.at_ j t z
      cases t with
      | no => trivial
      | val d => obtain ⟨v, y1, y2⟩ := y; exact ⟨v, y1, y2.mono sf⟩
      | own es =>
        obtain ⟨p', ys, y1, y2, y3, y4, y5, y6⟩ := y
        have npp : p' ≠ p := fun w => by subst w; exact h.ap j i _ _ p' (Ne.symm ej) z q rfl rfl y1 h1
        exact ⟨p', ys, y1, y2, by rw [upd_ne npp]; exact y3, y4, y5, y6.mono sf⟩
      | ownd _ ks vs =>
        obtain ⟨p', v, y1, y2, y3, y4, y5⟩ := y
        have npp : p' ≠ p := fun w => by subst w; exact h.ap j i _ _ p' (Ne.symm ej) z q rfl rfl y1 h1
        exact ⟨p', v, y1, y2, by rw [upd_ne npp]; exact y3, y4, y5.mono sf⟩
  · have nj : i ≠ j := fun w => by subst w; rw [List.getElem?_set_self hi] at ha; cases ha; cases oa
    have nk : i ≠ k := fun w => by subst w; rw [List.getElem?_set_self hi] at hb; cases hb; cases ob
    rw [List.getElem?_set_ne nj] at ha
    rw [List.getElem?_set_ne nk] at hb
    exact h.ap j k a b p' hjk ha hb oa ob pj pk
theorem EnvAt.freezeD (h : EnvAt K H0 env σ F H) {i : Nat} {tt : Bool} {dk dv : List D} (q : env[i]? = some (.ownd tt dk dv)) : ∃ F', Same F F' ∧ (∀ a o, H0 a = some o → isMut o = true → F' a ≠ none → F a ≠ none) ∧ EnvAt K H0 (env.set i (.val (.dic dk dv))) σ F' H := by
  obtain ⟨p, u, h1, h2, h3, h4, h5⟩ := h.at_ i _ q
  have hi : i < env.length := (List.getElem?_eq_some_iff.mp q).1
  have sf : Same F (upd F p u) := Same.updN h3
  refine ⟨upd F p u, sf, fun a o z1 m z2 => upd_ne_none z2 (fun w => by rw [w, h2] at z1; cases z1), h.fh.put h4, by simp [h.len], fun j t z => ?_, fun j k a b p' hjk ha hb oa ob pj pk => ?_⟩
  · by_cases ej : i = j
    · subst ej
      rw [List.getElem?_set_self hi] at z
      cases z
      rw [h1]
      refine ⟨_, rfl, ?_⟩
      cases h5 with
      | k l r => exact .dicK (.inl upd_same) l (r.mono sf)
      | t kl l r => exact .dicT (.inl upd_same) (fun q hq => ⟨(kl q hq).1.mono sf, (kl q hq).2⟩) l (r.mono sf)
    · rw [List.getElem?_set_ne ej] at z
      have y := h.at_ j t z
      cases t with
      | no => trivial
      | val d => obtain ⟨v, y1, y2⟩ := y; exact ⟨v, y1, y2.mono sf⟩
      | own es =>
        obtain ⟨p', ys, y1, y2, y3, y4, y5, y6⟩ := y
        have npp : p' ≠ p := fun w => by subst w; exact h.ap j i _ _ p' (Ne.symm ej) z q rfl rfl y1 h1
        exact ⟨p', ys, y1, y2, by rw [upd_ne npp]; exact y3, y4, y5, y6.mono sf⟩
      | ownd _ ks vs =>
        obtain ⟨p', v, y1, y2, y3, y4, y5⟩ := y
        have npp : p' ≠ p := fun w => by subst w; exact h.ap j i _ _ p' (Ne.symm ej) z q rfl rfl y1 h1
        exact ⟨p', v, y1, y2, by rw [upd_ne npp]; exact y3, y4, y5.mono sf⟩
  · have nj : i ≠ j := fun w => by subst w; rw [List.getElem?_set_self hi] at ha; cases ha; cases oa
    have nk : i ≠ k := fun w => by subst w; rw [List.getElem?_set_self hi] at hb; cases hb; cases ob
    rw [List.getElem?_set_ne nj] at ha
    rw [List.getElem?_set_ne nk] at hb
    exact h.ap j k a b p' hjk ha hb oa ob pj pk
end
end PD

set_option maxHeartbeats 4000000
/-! tuples whose object is known: what makes them, and their index -/
namespace PD
open PySem PySem.Spec PyProof.Rows L2 HT
section
variable {X : Cx} {pins : List (Addr × Obj)} {σ : L2.St} {H : Hp} {s : Shared} {Q : VK}
theorem new_tup {vs : List V} {us : List Value} (I : Inv X pins σ H s) (r : Vals vs us) (hz : vs.length ≤ sizeLine) (t' : Nat) (k : ∀ q, H q = none → ∀ o, o.dict = none → Q (.ref q) (upd H q (.frz o (.tup vs)))) :
    EP X pins σ Q (.ref s.heap.objs.size) { s with heap := s.heap.push { cls := .type "tuple", data := .seq us.toArray }, toks := t' } :=
  ⟨.ref s.heap.objs.size, _, I.laid (t' := t') (o := .frz { cls := .type "tuple", data := .seq us.toArray } (.tup vs)) (fun b ob q => Heap.get?_push_of_some _ q) (Nat.le_refl _)
    ⟨Heap.get?_push_size _ rfl, hz, us, r, IsTup.new _ _⟩, rfl, k _ (I.hok.fresh (Nat.le_refl _)) _ rfl⟩
/-- a display -/
def tTupN (t : TA) : TE := fun σ H Q => t σ H fun xs H1 => xs.length ≤ sizeLine ∧ ∀ p, H1 p = none → ∀ o : Obj, o.dict = none → Q (.ref p) (upd H1 p (.frz o (.tup xs)))
theorem pe_tupN {es : List Expr} {t : TA} {pos : Pos} {x1} (h : PA X es t) : PE X (.Tuple es x1 pos) (tTupN t) := by
  refine ⟨fun pins s σ H Q I hq => ?_⟩
  exact wpAny_Tuple_spliced (thn (h.run pos pins s σ H _ I hq) fun us s1 ⟨xs, H1, I1, r, z, q⟩ => ⟨by rw [← r.length]; exact z, new_tup I1 r z _ q⟩)
/-- t + u -/
def rCatN (K : PySem.W.Frag) : R2 := fun x y H Q => ∃ a b xs ys, x = .ref a ∧ y = .ref b ∧ SqT K H a xs ∧ SqT K H b ys ∧ xs.length + ys.length ≤ sizeLine ∧
  (xs = [] → Q (.ref b) H) ∧ (xs ≠ [] → ys = [] → Q (.ref a) H) ∧ (xs ≠ [] → ys ≠ [] → ∀ p, H p = none → ∀ o : Obj, o.dict = none → Q (.ref p) (upd H p (.frz o (.tup (xs ++ ys)))))
theorem op_catN : OpR X (binaryOp .Add) (rCatN X.K) := by
  intro pins s σ H x y v u Q I rx ry h
  obtain ⟨a, b, xs, ys, rfl, rfl, ha, hb, hz, q0, q1, q2⟩ := h
  cases rx
  cases ry
  obtain ⟨its, r1, p1, _⟩ := I.tuple ha
  obtain ⟨its2, r2, p2, _⟩ := I.tuple hb
  by_cases hx : xs = []
  · subst hx
    cases r1
    exact cat_tup0 p1 p2 ⟨.ref b, H, I, rfl, q0 rfl⟩
  · exact HT.cat_tup p1 p2 (fun z => hx (r1.nil_iff.mp z)) (fun z => ⟨.ref a, H, I, rfl, q1 hx (r2.nil_iff.mp z)⟩) (fun z => new_tup I (r1.append r2) (by rw [List.length_append]; exact hz) _ (q2 hx fun w => z (r2.nil_iff.mpr w))) (by rw [← r1.length, ← r2.length]; exact hz)
/-- t[lo:hi] -/
def rSlN (K : PySem.W.Frag) : V → Option Int → Option Int → Hp → VK → Prop := fun x lo hi H Q => ∃ a xs, x = .ref a ∧ SqT K H a xs ∧
  (HT.sIx xs.length 0 lo = 0 ∧ HT.sIx xs.length xs.length hi = xs.length → Q (.ref a) H) ∧ (¬ (HT.sIx xs.length 0 lo = 0 ∧ HT.sIx xs.length xs.length hi = xs.length) → ∀ p, H p = none → ∀ o : Obj, o.dict = none → Q (.ref p) (upd H p (.frz o (.tup (cutV xs lo hi)))))
theorem sl_tupN : SlR X (rSlN X.K) := by
  intro pins s σ H x v vl vu lo hi sl Q I rx hs pl pu h
  obtain ⟨a, xs, rfl, hx, q1, q2⟩ := h
  cases rx
  obtain ⟨its, r, ht, hz⟩ := I.tuple hx
  have hlen : its.toArray.size = xs.length := by rw [List.size_toArray]; exact r.length.symm
  refine ⟨"tuple", _, PyProof.Rows.slot_tuple_getitem.lookup, ht.typeIs, ?_⟩
  by_cases hw : HT.sIx xs.length 0 lo = 0 ∧ HT.sIx xs.length xs.length hi = xs.length
  · exact getItem_tuple_whole ht hs pl pu (by rw [hlen]; exact hw) ⟨.ref a, H, I, rfl, q1 hw⟩
  · refine HT.getItem_tuple_cut ht hs pl pu (by rw [hlen]; exact hw) ?_ (by rw [hlen]; exact hz)
    rw [hlen]
    exact new_tup I ((r.drop (HT.sIx xs.length 0 lo)).take (HT.sIx xs.length xs.length hi - HT.sIx xs.length 0 lo)) (Nat.le_trans (cutV_length xs lo hi) hz) _ (q2 hw)
/-- tuple(x) -/
theorem call_tuple_of : CallR X (.type "tuple") (fun xs H Q => ∃ p ys, xs = [.ref p] ∧ ((SqL X.K H p ys ∧ ∀ l, H l = none → ∀ o : Obj, o.dict = none → Q (.ref l) (upd H l (.frz o (.tup ys)))) ∨ (SqT X.K H p ys ∧ Q (.ref p) H))) := by
  intro pins s σ H xs us Q I r h
  obtain ⟨p, ys, rfl, h⟩ := h
  obtain ⟨u, rfl, rx⟩ := vals1 r
  cases rx
  rcases h with ⟨hq, q⟩ | ⟨hq, q⟩
  · obtain ⟨its, r', pl, hz⟩ := I.list hq
    have hlen := r'.length
    refine call_tuple_list pl.isList (fun h' kp => ?_) (by simp only [List.size_toArray] <;> omega)
    have I1 : Inv X pins σ H { s with heap := h' } := I.kept (t' := s.toks) kp
    exact new_tup (s := { s with heap := h' }) I1 r' hz _ q
  · obtain ⟨its, r', pl, hz⟩ := I.tuple hq
    exact call_tuple_same pl ⟨.ref p, H, I, rfl, q⟩
/-- tuple(range(..)) -/
def tTupRgN (te : L2.St → Hp → (Int → Int → Hp → Prop) → Prop) : TE := fun σ H Q => te σ H fun a b H1 => RgOk a b ∧ ∀ q, H1 q = none → ∀ o : Obj, o.dict = none → Q (.ref q) (upd H1 q (.frz o (.tup (rgV a b))))
theorem pe_tupRgN {e : Expr} {te : L2.St → Hp → (Int → Int → Hp → Prop) → Prop} {p pos : Pos} (hc : X.calm = true) (hg : Gl X "tuple") (hm : X.mg "tuple" = none) (he : PRg X e te) (na : starEach [e] X.env = (false, eval e X.env) :: starEach [] X.env := by rfl) : PE X (.Call (.Name "tuple" p) [e] [] pos) (tTupRgN te) := by
  refine ⟨fun pins s σ H Q I h => ?_⟩
  refine Call_ (ld_blt I hg hm boot_tuple (PyProof.Rows.callWith_type1 (args_cons (thn (he pins s σ H _ I h) fun x s1 ⟨r, a, b, t, u, v, H1, ex, hr, I1, ok, q⟩ => args_nil ?_) na) na))
  subst ex
  obtain ⟨b1, b2, b3, b4, b5⟩ := ok
  refine call_tuple_range (n := (b - a).toNat) (I1.ok.hd hc) hr (small_one b1 b2 b3 b4) (rangeSize_nat a b) b5 fun h' tk acc hk hi => ?_
  have I2 : Inv X pins σ H1 { s1 with heap := h', toks := tk } := I1.kept hk
  have hz : (rgV a b).length ≤ sizeLine := by rw [rgV_length, sizeLine_eq]; omega
  have := new_tup I2 (vals_rg hi) hz tk q
  rw [Array.toArray_toList] at this
  exact this
/-- t * k -/
def rRepN (K : PySem.W.Frag) : R2 := fun x y H Q => ∃ l k xs, x = .ref l ∧ y = .int k ∧ SqT K H l xs ∧ xs ≠ [] ∧ 2 ≤ k ∧ k ≤ 1000 ∧ xs.length ≤ 1000 ∧ ∀ p, H p = none → ∀ o : Obj, o.dict = none → Q (.ref p) (upd H p (.frz o (.tup (List.replicate k.toNat xs).flatten)))
theorem op_repN : OpR X (binaryOp .Mult) (rRepN X.K) := by
  intro pins s τ G x y vx vy Q I relx rely hyp
  obtain ⟨l, k, xs, rfl, rfl, hT, hne, lo, up, few, q⟩ := hyp
  cases relx
  obtain ⟨t, rfl⟩ := rely
  obtain ⟨its, rv, ⟨⟨cc, dd, data, sl⟩, ho, hcc, n, hdd⟩, _⟩ := I.tuple hT
  obtain rfl : cc = .type "tuple" := hcc
  obtain rfl : data = .seq its.toArray n := hdd
  have le : its.length = xs.length := rv.length.symm
  have nonE : its.toArray.isEmpty = false := by
    cases its with
    | nil => exact absurd (List.eq_nil_of_length_eq_zero le.symm) hne
    | cons a b => rfl
  have sz : its.toArray.size = xs.length := by rw [List.size_toArray, le]
  have big : k.toNat * xs.length ≤ 1000 * 1000 := Nat.mul_le_mul (by omega) few
  have mil : ((its.toArray.size : Nat) : Int) * k ≤ 1000000 := by
    rw [sz]
    have : ((xs.length : Nat) : Int) * k ≤ 1000 * k := Int.mul_le_mul_of_nonneg_right (by omega) (by omega)
    omega
  have fl : (List.replicate k.toNat its).flatten.length ≤ sizeLine := by rw [PyProof.Rows.lm_len_rep_flat, le, sizeLine_eq]; omega
  have f0 : (decide (k < -(2 ^ 63)) || decide (k ≥ 2 ^ 63)) = false := by rw [decide_eq_false (by omega), decide_eq_false (by omega)]; rfl
  have f1 : (its.toArray.isEmpty || k == 1) = false := by rw [nonE, Bool.false_or]; exact beq_eq_false_iff_ne.mpr (by omega)
  have f2 : (decide (k ≤ 0) || its.toArray.isEmpty) = false := by rw [nonE, Bool.or_false]; exact decide_eq_false (by omega)
  have f3 : Builtin.Tuple.tupleTooMany (((its.toArray.size : Nat) : Int) * k) = false := by unfold Builtin.Tuple.tupleTooMany; rw [sizeLine_eq]; exact decide_eq_false (by omega)
  have wk := tuple_mulW l its.toArray n dd sl k t f0 f1 f2 (by omega) f3 (by rw [size_rep, List.size_toArray]; exact fl)
  have last : EP X pins τ Q (Value.ref s.heap.objs.size) { s with heap := s.heap.push { cls := Value.type "tuple", data := Data.seq (List.foldl (fun x1 x2 => x1 ++ x2) #[] (List.replicate k.toNat its.toArray)) }, toks := s.toks } := by
    rw [size_rep]
    exact new_tup I (rv.rep k.toNat) (by rw [PyProof.Rows.lm_len_rep_flat, sizeLine_eq]; omega) _ q
  exact wpAny_binaryOp_repeat_ref (T := "tuple") (U := "int") (by decide) ⟨_, ho, rfl⟩ (fun s' => typeIs_int s' k t) noFill_tuple_mul F.fills_int_mul F.slot_int_rmul repeat_tuple F.slot_int_index.lookup
    (call_meets F.slot_int_rmul (typeIs_int s k t) F.entry_int_rmul (F.args_int_rmul_2 _ _) (int_rmul_tuple k t l its.toArray n dd sl)
      ⟨ho, rfl, ⟨_, ho, rfl⟩, call_meets F.slot_tuple_mul ⟨_, ho, rfl⟩ F.entry_tuple_mul (F.args_tuple_mul_2 _ _) wk ⟨ho, last⟩⟩)
/-- t.index(x) of ints -/
def rTIx (K : PySem.W.Frag) : V → List V → Hp → VK → Prop := fun x xs H Q => ∃ (p : Addr) (ns : List Int) (k : Int), x = .ref p ∧ xs = [.int k] ∧ SqT K H p (ns.map V.int) ∧ k ∈ ns ∧ Q (.int (ns.idxOf k : Nat)) H
theorem mt_tidx : MtR X "tuple.index" (rTIx X.K) := by
  intro pins s σ H x xs v us Q I rx rs h
  obtain ⟨p, ns, k, rfl, rfl, hq, hk, q⟩ := h
  cases rx
  obtain ⟨u, rfl, t, rfl⟩ := vals1 rs
  obtain ⟨its, r, pl, hz⟩ := I.tuple hq
  have i1 : IntsAre its.toArray.toList ns := intsAre_of r
  exact PySem.SeqAt.tuple_index_ints (vs := its) (show s.heap.IsTuple p its.toArray from pl) (by simpa using i1) hk ⟨.int (ns.idxOf k : Nat), H, I.tok _, ⟨_, rfl⟩, q⟩
def tBMT (r : V → List V → Hp → VK → Prop) (to : TE) (t : TA) : TE := fun σ H Q => to σ H fun x H1 => (∃ a xs, x = .ref a ∧ TupAt H1 a xs) ∧ t σ H1 fun xs H2 => r x xs H2 Q
variable {o e : Expr} {es : List Expr} {to : TE} {t : TA} {name : Str} {apos cpos : Pos} {id : String} {r : V → List V → Hp → VK → Prop}
theorem pe_bmT (pa : PlainAttrs "tuple") (slot : Slot "tuple" name id) (hty : typeOf (.builtin id) = pure (.type "method_descriptor")) (hm : MtR X id r) (ho : PE X o to) (ha : PA X (e :: es) t)
    (hbase : attributeBase o name X.env (eval o X.env) = eval o X.env := by rfl)
    (hfew : ((backTo cpos (starEach (e :: es) X.env)).all (fun x => !x.1) && (backToKw cpos (keywordEach [] X.env)).all (fun x => x.1.isSome)
      && decide ((e :: es).length + ([] : List Keyword).length + (if ([] : List Keyword).isEmpty then 0 else 1) < 30)) = true := by rfl)
    (hline : (apos.endLine == cpos.line) = true := by rfl) (hs : starEach (e :: es) X.env = (false, eval e X.env) :: starEach es X.env := by rfl) (hplain : (backTo cpos (starEach es X.env)).any (·.1) = false := by rfl) :
    PE X (.Call (.Attribute o name apos) (e :: es) [] cpos) (tBMT r to t) := by
  refine ⟨fun pins s σ H Q I h => ?_⟩
  refine wpAny_Call_method_late hbase hfew hline rfl (thn (ho.run pins s σ H _ I h) fun v s1 ⟨x, H1, I1, r1, ty, q1⟩ => ?_)
  obtain ⟨a, xs, rfl, ob, hd, hk⟩ := ty
  cases r1
  have z := I1.hok a _ hk
  obtain ⟨ge, _, its, _, o', g1, g2, _⟩ := z
  refine ⟨"tuple", id, pa, slot, hty, ⟨o', g1, g2⟩, fun b eb => by cases eb; exact ⟨ob, ge, hd⟩, ?_⟩
  have hA := ha.run cpos pins s1 σ H1 _ I1 q1
  rw [hs] at hA ⊢
  refine Calls.callWith_builtin (by show (false || (backTo cpos (starEach es X.env)).any (·.1)) = false; rw [hplain] <;> rfl) (Calls.evalArgs_plain ?_)
  exact thn hA fun us s2 ⟨vs, H2, I2, r2, q2⟩ => hm pins s2 σ H2 (.ref a) vs _ us Q I2 (show RelV (.ref a) (.ref a) from rfl) r2 q2
end
end PD

set_option maxHeartbeats 4000000
/-! tuple * 0, tuple * 1 -/
namespace PD
open PySem PySem.Spec PyProof.Rows L2
theorem tuple_mulOne (l : Addr) (items : Array Value) (n : Nat) (dd : Option Addr) (sl : Array (Option Value)) (u : Tok) (hne : items.isEmpty = false) :
    Meets (Builtin.«tuple.__mul__» ⟨[.ref l, .int 1 u], []⟩) (fun _ R s => s.heap.get? l = some { cls := .type "tuple", dict := dd, data := .seq items n, slots := sl } ∧ R (.ok (.ret (Value.ref l))) s) :=
  .of_wp fun prog w A R s h => by
    obtain ⟨hp, g, d, tk, os⟩ := s
    obtain ⟨hl, h⟩ := h
    have f1 := AutoSeq1.idx_int
    have c0 : (decide ((1 : Int) < -(2 ^ 63)) || decide ((1 : Int) ≥ 2 ^ 63)) = false := by decide
    have c1 : (items.isEmpty || (1 : Int) == 1) = true := by rw [hne]; rfl
    wp_walk using wpAny_loadPart' hl
    repeat (first
      | (refine wpAny_ite_false (decide_eq_false (by rw [c0]; exact Bool.false_ne_true)) ?_; wp_walk using wpAny_loadPart' hl)
      | (refine wpAny_ite_true (decide_eq_true (by rw [c1])) ?_; wp_walk using wpAny_loadPart' hl))
    exact ⟨_, rfl, h⟩
theorem tuple_mulNil (l : Addr) (items : Array Value) (n : Nat) (dd : Option Addr) (sl : Array (Option Value)) (u : Tok) (hne : items.isEmpty = false) :
    Meets (Builtin.«tuple.__mul__» ⟨[.ref l, .int 0 u], []⟩) (fun _ R s => s.heap.get? l = some { cls := .type "tuple", dict := dd, data := .seq items n, slots := sl } ∧
      R (.ok (.ret (Value.ref s.heap.objs.size))) { s with heap := s.heap.push { cls := Value.type "tuple", data := Data.seq #[] }, toks := s.toks }) :=
  .of_wp fun prog w A R s h => by
    obtain ⟨hp, g, d, tk, os⟩ := s
    obtain ⟨hl, h⟩ := h
    have f1 := AutoSeq1.idx_int
    have c0 : (decide ((0 : Int) < -(2 ^ 63)) || decide ((0 : Int) ≥ 2 ^ 63)) = false := by decide
    have c1 : (items.isEmpty || (0 : Int) == 1) = false := by rw [hne]; rfl
    have c2 : (decide ((0 : Int) ≤ 0) || items.isEmpty) = true := by rfl
    wp_walk using wpAny_loadPart' hl
    repeat (first
      | (refine wpAny_ite_false (decide_eq_false (by rw [c0]; exact Bool.false_ne_true)) ?_; wp_walk using wpAny_loadPart' hl)
      | (refine wpAny_ite_false (decide_eq_false (by rw [c1]; exact Bool.false_ne_true)) ?_; wp_walk using wpAny_loadPart' hl)
      | (refine wpAny_ite_true (decide_eq_true (by rw [c2])) ?_; wp_walk using wpAny_loadPart' hl))
    exact ⟨_, rfl, h⟩
/-- t * 0, t * 1 -/
def rRep01 (K : PySem.W.Frag) : R2 := fun x y H Q => ∃ l k xs, x = .ref l ∧ y = .int k ∧ SqT K H l xs ∧ xs ≠ [] ∧ ((k = 1 ∧ Q (.ref l) H) ∨ (k = 0 ∧ ∀ p, H p = none → ∀ o : Obj, o.dict = none → Q (.ref p) (upd H p (.frz o (.tup [])))))
theorem op_rep01 {X : Cx} : OpR X (binaryOp .Mult) (rRep01 X.K) := by
  intro pins s τ G x y vx vy Q I relx rely hyp
  obtain ⟨l, k, xs, rfl, rfl, hT, hne, q⟩ := hyp
  cases relx
  obtain ⟨t, rfl⟩ := rely
  obtain ⟨its, rv, ⟨⟨cc, dd, data, sl⟩, ho, hcc, n, hdd⟩, _⟩ := I.tuple hT
  obtain rfl : cc = .type "tuple" := hcc
  obtain rfl : data = .seq its.toArray n := hdd
  have nonE : its.toArray.isEmpty = false := by
    cases its with
    | nil => exact absurd (List.eq_nil_of_length_eq_zero rv.length) hne
    | cons a b => rfl
  rcases q with ⟨rfl, q⟩ | ⟨rfl, q⟩
  · exact wpAny_binaryOp_repeat_ref (T := "tuple") (U := "int") (by decide) ⟨_, ho, rfl⟩ (fun s' => typeIs_int s' 1 t) noFill_tuple_mul F.fills_int_mul F.slot_int_rmul repeat_tuple F.slot_int_index.lookup
      (call_meets F.slot_int_rmul (typeIs_int s 1 t) F.entry_int_rmul (F.args_int_rmul_2 _ _) (int_rmul_tuple 1 t l its.toArray n dd sl)
        ⟨ho, rfl, ⟨_, ho, rfl⟩, call_meets F.slot_tuple_mul ⟨_, ho, rfl⟩ F.entry_tuple_mul (F.args_tuple_mul_2 _ _) (tuple_mulOne l its.toArray n dd sl t nonE) ⟨ho, .ref l, G, I, rfl, q⟩⟩)
  · have last : EP X pins τ Q (Value.ref s.heap.objs.size) { s with heap := s.heap.push { cls := Value.type "tuple", data := Data.seq #[] }, toks := s.toks } :=
      new_tup (vs := []) (us := []) I .nil (by rw [sizeLine_eq]; exact Nat.zero_le _) _ q
    exact wpAny_binaryOp_repeat_ref (T := "tuple") (U := "int") (by decide) ⟨_, ho, rfl⟩ (fun s' => typeIs_int s' 0 t) noFill_tuple_mul F.fills_int_mul F.slot_int_rmul repeat_tuple F.slot_int_index.lookup
      (call_meets F.slot_int_rmul (typeIs_int s 0 t) F.entry_int_rmul (F.args_int_rmul_2 _ _) (int_rmul_tuple 0 t l its.toArray n dd sl)
        ⟨ho, rfl, ⟨_, ho, rfl⟩, call_meets F.slot_tuple_mul ⟨_, ho, rfl⟩ F.entry_tuple_mul (F.args_tuple_mul_2 _ _) (tuple_mulNil l its.toArray n dd sl t nonE) ⟨ho, last⟩⟩)
end PD

set_option maxHeartbeats 4000000
namespace PD
open PySem PySem.Spec PyProof.Rows L2
/-! ### what a reading evaluates to -/
/-- how a result (a value, a truth, a list of values) stands for data: from the heap at the start, in the frozen part and the heap behind -/
structure PP (ρ α : Type) where
  rel : Hp → Hp → Hp → ρ → α → Prop
  anti : ∀ {H H1 F' H' : Hp} {v : ρ} {d : α}, Same H H1 → rel H1 F' H' v d → rel H F' H' v d
  mono : ∀ {H F' H' F'' H'' : Hp} {v : ρ} {d : α}, Ext F' H' F'' H'' → rel H F' H' v d → rel H F'' H'' v d
/-- frozen data -/
def pV (K : PySem.W.Frag) : PP V D := ⟨fun _ F' _ v d => Rep K F' v d, fun _ h => h, fun e h => h.mono e.f⟩
/-- data, or an owned object that holds frozen data -/
def RepB (K : PySem.W.Frag) (F H : Hp) (v : V) (d : D) : Prop :=
  Rep K F v d ∨ (∃ p xs ds, v = .ref p ∧ d = .lst ds ∧ H p = some (.lst xs) ∧ xs.length ≤ sizeLine ∧ Reps K F xs ds) ∨ ∃ p u t ks vs, v = .ref p ∧ d = .dic ks vs ∧ H p = some u ∧ DicAt K F p u t ks vs
theorem RepB.mono {K : PySem.W.Frag} {F H F' H' : Hp} {v : V} {d : D} (h : RepB K F H v d) (f : Same F F') (e : Same H H') : RepB K F' H' v d := by
  rcases h with h | ⟨p, xs, ds, h1, h2, h3, h4, h5⟩ | ⟨p, u, t, ks, vs, h1, h2, h3, h4⟩
  · exact .inl (h.mono f)
  · exact .inr (.inl ⟨p, xs, ds, h1, h2, e _ _ h3, h4, h5.mono f⟩)
  · exact .inr (.inr ⟨p, u, t, ks, vs, h1, h2, e _ _ h3, h4.mono f⟩)
def pB (K : PySem.W.Frag) : PP V D := ⟨fun _ F' H' v d => RepB K F' H' v d, fun _ h => h, fun e h => h.mono e.f e.h⟩
/-- a new list, owned -/
def pN (K : PySem.W.Frag) : PP V (List D) := ⟨fun H F' H' v ds => ∃ p xs, v = .ref p ∧ H p = none ∧ F' p = none ∧ H' p = some (.lst xs) ∧ xs.length ≤ sizeLine ∧ Reps K F' xs ds,
  fun e ⟨p, xs, h1, h2, h3⟩ => ⟨p, xs, h1, e.free h2, h3⟩, fun e ⟨p, xs, h1, h2, h3, h4, h5, h6⟩ => ⟨p, xs, h1, h2, e.keep h4 rfl h3, e.h _ _ h4, h5, h6.mono e.f⟩⟩
/-- a new dict, owned -/
def pM (K : PySem.W.Frag) : PP V (Bool × List D × List D) := ⟨fun H F' H' v ds => ∃ p u, v = .ref p ∧ H p = none ∧ F' p = none ∧ H' p = some u ∧ DicAt K F' p u ds.1 ds.2.1 ds.2.2,
  fun e ⟨p, xs, h1, h2, h3⟩ => ⟨p, xs, h1, e.free h2, h3⟩, fun e ⟨p, xs, h1, h2, h3, h4, h5⟩ => ⟨p, xs, h1, h2, e.keep h4 h5.isMut h3, e.h _ _ h4, h5.mono e.f⟩⟩
def pT : PP Bool Bool := ⟨fun _ _ _ b c => b = c, fun _ h => h, fun _ h => h⟩
inductive RepBs (K : PySem.W.Frag) (F H : Hp) : List V → List D → Prop
  | nil : RepBs K F H [] []
  | cons {v : V} {vs : List V} {d : D} {ds : List D} : RepB K F H v d → RepBs K F H vs ds → RepBs K F H (v :: vs) (d :: ds)
theorem RepBs.mono {K : PySem.W.Frag} {F H F' H' : Hp} {vs : List V} {ds : List D} (h : RepBs K F H vs ds) (f : Same F F') (e : Same H H') : RepBs K F' H' vs ds := by
  induction h with
  | nil => exact .nil
  | cons a _ ih => exact .cons (a.mono f e) ih
/-- arguments -/
def pB' (K : PySem.W.Frag) : PP (List V) (List D) := ⟨fun _ F' H' v d => RepBs K F' H' v d, fun _ h => h, fun e h => h.mono e.f e.h⟩
def pA (K : PySem.W.Frag) : PP (List V) (List D) := ⟨fun _ F' _ v d => Reps K F' v d, fun _ h => h, fun e h => h.mono e.f⟩
section
variable {ρ ρ1 ρ2 α β γ : Type} {cls : Exc → Addr} {W : WX} {σ : L2.St} {F H F1 H1 : Hp}
def Go (cls : Exc → Addr) (P : PP ρ α) (W : WX) (σ : L2.St) (F H : Hp) (r : R α) (Q : ρ → Hp → Prop) : Prop := match r with
  | .ok d => ∀ v F' H', Ext F H F' H' → P.rel H F' H' v d → Q v H'
  | .err c => ∀ F' H', Ext F H F' H' → W (.ref (cls c)) none σ H'
  | .bad => False
theorem Go.from {P : PP ρ α} {r : R α} {Q : ρ → Hp → Prop} (g : Go cls P W σ F H r Q) (e : Ext F H F1 H1) : Go cls P W σ F1 H1 r Q := by
  cases r with
  | ok d => exact fun v F' H' e' p => g v F' H' (e.trans e') (P.anti e.h p)
  | err c => exact fun F' H' e' => g F' H' (e.trans e')
  | bad => exact g
theorem Go.bind {P : PP ρ α} {P1 : PP ρ1 β} {r : R β} {k : β → R α} {Q : ρ → Hp → Prop} (g : Go cls P W σ F H (r.bind k) Q) :
    Go cls P1 W σ F H r (fun x H1 => ∃ F1 b, r = .ok b ∧ Ext F H F1 H1 ∧ P1.rel H F1 H1 x b ∧ Go cls P W σ F1 H1 (k b) Q) := by
  cases r with
  | ok b => exact fun v F' H' e p => ⟨F', b, rfl, e, p, Go.from g e⟩
  | err c => exact g
  | bad => exact g
theorem Go.imp {P : PP ρ α} {r : R α} {Q Q' : ρ → Hp → Prop} (g : Go cls P W σ F H r Q) (h : ∀ v H', Q v H' → Q' v H') : Go cls P W σ F H r Q' := by
  cases r with
  | ok b => exact fun v F' H' e p => h v H' (g v F' H' e p)
  | err c => exact g
  | bad => exact g
def R.ofO (o : Option α) : R α := match o with
  | some a => .ok a
  | none => .bad
theorem Go.ofO {P : PP ρ α} {o : Option α} {Q : ρ → Hp → Prop} (g : Go cls P W σ F H (R.ofO o) Q) : ∃ a, o = some a ∧ ∀ v F' H', Ext F H F' H' → P.rel H F' H' v a → Q v H' := by
  cases o with
  | some a => exact ⟨a, rfl, g⟩
  | none => exact g.elim
/-- the reading of a thing that evaluates to f env -/
def tG (K : PySem.W.Frag) (cls : Exc → Addr) (W : WX) (P : PP ρ α) (f : EnvD → R α) : L2.St → Hp → (ρ → Hp → Prop) → Prop :=
  fun σ H Q => ∃ H0 F env, EnvAt K H0 env σ F H ∧ Go cls P W σ F H (f env) Q
end
/-! ### readings made weaker -/
section
variable {X : Cx}
theorem pe_imp {e : Expr} {t t' : TE} (h : PE X e t) (m : ∀ σ H Q, t' σ H Q → t σ H Q) : PE X e t' := ⟨fun pins s σ H Q I q => h.run pins s σ H Q I (m σ H Q q)⟩
theorem pt_imp {e : Expr} {t t' : TT} (h : PT X e t) (m : ∀ σ H Q, t' σ H Q → t σ H Q) : PT X e t' := ⟨fun pins s σ H Q I q => h.run pins s σ H Q I (m σ H Q q)⟩
theorem pw_imp {e : Expr} {t t' : TT} (h : PW X e t) (m : ∀ σ H Q, t' σ H Q → t σ H Q) : PW X e t' := ⟨fun w pins s σ H Q I q => h.run w pins s σ H Q I (m σ H Q q)⟩
theorem pa_imp {es : List Expr} {t t' : TA} (h : PA X es t) (m : ∀ σ H Q, t' σ H Q → t σ H Q) : PA X es t' := ⟨fun pos pins s σ H Q I q => h.run pos pins s σ H Q I (m σ H Q q)⟩
theorem ps_imp {st : Stmt} {t t' : TS} (h : PS X st t) (m : ∀ D σ H, t' D σ H → t D σ H) : PS X st t' := ⟨fun pins s σ H D I q => h.run pins s σ H D I (m D σ H q)⟩
theorem pss_imp {st : List Stmt} {t t' : TS} (h : PSs X st t) (m : ∀ D σ H, t' D σ H → t D σ H) : PSs X st t' := ⟨fun pins s σ H D I q => h.run pins s σ H D I (m D σ H q)⟩
theorem pi_imp {tg iter : Expr} {t t' : TI} (h : PI X tg iter t) (m : ∀ σ H Q, t' σ H Q → t σ H Q) : PI X tg iter t' := ⟨fun pins s σ H Q I q => h.run pins s σ H Q I (m σ H Q q)⟩
theorem pg_imp {tg : Expr} {t t' : TG} (h : PG X tg t) (m : ∀ v σ H Q, t' v σ H Q → t v σ H Q) : PG X tg t' := ⟨fun pins s σ H v u Q I r q => h.run pins s σ H v u Q I r (m v σ H Q q)⟩
end
abbrev PDE {α : Type} (X : Cx) (cls : Exc → Addr) (W : WX) (P : PP V α) (e : Expr) (f : EnvD → R α) : Prop := PE X e (tG X.K cls W P f)
abbrev PDT (X : Cx) (cls : Exc → Addr) (W : WX) (e : Expr) (f : EnvD → R Bool) : Prop := PT X e (tG X.K cls W pT f)
abbrev PDA (X : Cx) (cls : Exc → Addr) (W : WX) (P : PP (List V) (List D)) (es : List Expr) (f : EnvD → R (List D)) : Prop := PA X es (tG X.K cls W P f)
section
variable {X : Cx} {cls : Exc → Addr} {W : WX} {e a b c : Expr} {pos : Pos}
/-! ### coercions -/
theorem coeVB {f : EnvD → R D} (h : PDE X cls W (pV X.K) e f) : PDE X cls W (pB X.K) e f := pe_imp h fun σ H Q ⟨H0, F, env, ea, g⟩ => ⟨H0, F, env, ea, by
  cases q : f env with
  | ok d => rw [q] at g; exact fun v F' H' x r => g v F' H' x (.inl r)
  | err c => rw [q] at g; exact g
  | bad => rw [q] at g; exact g⟩
def mkL (f : EnvD → R (List D)) : EnvD → R D := fun env => (f env).map D.lst
theorem coeNV {f : EnvD → R (List D)} (h : PDE X cls W (pN X.K) e f) : PDE X cls W (pV X.K) e (mkL f) := pe_imp h fun σ H Q ⟨H0, F, env, ea, g⟩ => ⟨H0, F, env, ea, by
  unfold mkL at g
  cases q : f env with
  | ok d =>
    rw [q] at g
    rintro v F' H' x ⟨p, xs, rfl, h1, h2, h3, h4, h5⟩
    exact g _ (upd F' p (.lst xs)) H' (x.frz h1 h3 h2) (.lst upd_same h4 (h5.mono (Same.updN h2)))
  | err c => rw [q] at g; exact g
  | bad => rw [q] at g; exact g⟩
theorem coeNB {f : EnvD → R (List D)} (h : PDE X cls W (pN X.K) e f) : PDE X cls W (pB X.K) e (mkL f) := coeVB (coeNV h)
/-! ### names, constants -/
def getV (i : Nat) (env : EnvD) : R D := match env[i]? with
  | some (.val d) => .ok d
  | _ => .bad
def getB (i : Nat) (env : EnvD) : R D := match env[i]? with
  | some (.val d) => .ok d
  | some (.own ds) => .ok (.lst ds)
  | some (.ownd _ ks vs) => .ok (.dic ks vs)
  | _ => .bad
theorem pd_var {i : Nat} (h : PE X e (tVar i)) : PDE X cls W (pV X.K) e (getV i) := pe_imp h fun σ H Q ⟨H0, F, env, ea, g⟩ => by
  unfold getV at g
  cases q : env[i]? with
  | none => rw [q] at g; exact g.elim
  | some s =>
    rw [q] at g
    cases s with
    | val d =>
      obtain ⟨v, h1, h2⟩ := ea.at_ i _ q
      exact ⟨v, getD_some h1, g v F H (Ext.refl ea.fh) h2⟩
    | no => exact g.elim
    | own _ => exact g.elim
    | ownd _ _ _ => exact g.elim
theorem pb_var {i : Nat} (h : PE X e (tVar i)) : PDE X cls W (pB X.K) e (getB i) := pe_imp h fun σ H Q ⟨H0, F, env, ea, g⟩ => by
  unfold getB at g
  cases q : env[i]? with
  | none => rw [q] at g; exact g.elim
  | some s =>
    rw [q] at g
    cases s with
    | val d =>
      obtain ⟨v, h1, h2⟩ := ea.at_ i _ q
      exact ⟨v, getD_some h1, g v F H (Ext.refl ea.fh) (.inl h2)⟩
    | no => exact g.elim
    | own ds =>
      obtain ⟨p, xs, h1, h2, h3, h4, h5, h6⟩ := ea.at_ i _ q
      exact ⟨_, getD_some h1, g _ F H (Ext.refl ea.fh) (.inr (.inl ⟨p, xs, ds, rfl, rfl, h4, h5, h6⟩))⟩
    | ownd t ks vs =>
      obtain ⟨p, u, h1, h2, h3, h4, h5⟩ := ea.at_ i _ q
      exact ⟨_, getD_some h1, g _ F H (Ext.refl ea.fh) (.inr (.inr ⟨p, u, t, ks, vs, rfl, rfl, h4, h5⟩))⟩
def cst (d : D) : EnvD → R D := fun _ => .ok d
theorem pd_c {v : V} {d : D} (h : PE X e (tC v)) (r : ∀ F, Rep X.K F v d) : PDE X cls W (pV X.K) e (cst d) := pe_imp h fun σ H Q ⟨H0, F, env, ea, g⟩ => g v F H (Ext.refl ea.fh) (r F)
theorem pd_int {i : Int} {j : Nat} : PDE X cls W (pV X.K) (.Constant (.int i) j pos) (cst (.int i)) := pd_c pe_int fun _ => .int i
theorem pd_bl {b : Bool} {j : Nat} : PDE X cls W (pV X.K) (.Constant (.bool b) j pos) (cst (.bl b)) := pd_c pe_bl fun _ => .bl b
theorem pd_non {j : Nat} : PDE X cls W (pV X.K) (.Constant .none j pos) (cst .non) := pd_c pe_non fun _ => .non
theorem pd_str {x : Str} {j : Nat} : PDE X cls W (pV X.K) (.Constant (.str x) j pos) (cst (.str x)) := pd_c pe_str fun _ => .str x
theorem pd_gint {x : Str} {i : Int} {p : Pos} (hg : Gl X x) (hm : ∃ t, X.mg x = some (.int i t)) (hd : (x == ("__debug__" : Str)) = false := by decide) : PDE X cls W (pV X.K) (.Name x p) (cst (.int i)) := by
  obtain ⟨t, hm⟩ := hm
  exact pd_c (pe_glob (v := .int i) hg hm ⟨t, rfl⟩ hd) fun _ => .int i
theorem pd_gstr {x z : Str} {p : Pos} (hg : Gl X x) (hm : ∃ t, X.mg x = some (.str z t)) (hd : (x == ("__debug__" : Str)) = false := by decide) : PDE X cls W (pV X.K) (.Name x p) (cst (.str z)) := by
  obtain ⟨t, hm⟩ := hm
  exact pd_c (pe_glob (v := .str z) hg hm ⟨t, rfl⟩ hd) fun _ => .str z
/-! ### operators by values -/
def bin {α β γ : Type} (f : α → β → Option γ) (fa : EnvD → R α) (fb : EnvD → R β) : EnvD → R γ := fun env => (fa env).bind fun x => (fb env).bind fun y => R.ofO (f x y)
def una {α γ : Type} (f : α → Option γ) (fa : EnvD → R α) : EnvD → R γ := fun env => (fa env).bind fun x => R.ofO (f x)
/-- what an operator's reading asks is had from data -/
def OpSem {α β γ : Type} (P1 : PP V α) (P2 : PP V β) (P3 : PP V γ) (r : R2) (f : α → β → Option γ) : Prop :=
  ∀ S1 S2 F H x y d e z Q, Same F H → P1.rel S1 F H x d → P2.rel S2 F H y e → f d e = some z → (∀ v F' H', Ext F H F' H' → P3.rel H F' H' v z → Q v H') → r x y H Q
section
variable {α β γ : Type} {P1 : PP V α} {P2 : PP V β} {P3 : PP V γ} {fa : EnvD → R α} {fb : EnvD → R β}
theorem tG_bin {r : R2} {f : α → β → Option γ} (hr : OpSem P1 P2 P3 r f) {K : PySem.W.Frag} {σ : L2.St} {H : Hp} {Q : VK} (h : tG K cls W P3 (bin f fa fb) σ H Q) : tOp r (tG K cls W P1 fa) (tG K cls W P2 fb) σ H Q := by
  obtain ⟨H0, F, env, ea, g⟩ := h
  refine ⟨H0, F, env, ea, (Go.bind g).imp fun x H1 ⟨F1, d, _, e1, p1, g1⟩ => ⟨H0, F1, env, ea.mono e1, (Go.bind g1).imp fun y H2 ⟨F2, e, _, e2, p2, g2⟩ => ?_⟩⟩
  obtain ⟨z, hz, g3⟩ := Go.ofO g2
  exact hr _ _ F2 H2 x y d e z Q e2.i (P1.mono e2 p1) p2 hz g3
theorem pd_op {op : Operator} {r : R2} {f : α → β → Option γ} (ho : OpR X (binaryOp op) r) (hr : OpSem P1 P2 P3 r f) (ha : PDE X cls W P1 a fa) (hb : PDE X cls W P2 b fb) : PDE X cls W P3 (.BinOp a op b pos) (bin f fa fb) :=
  pe_imp (pe_op ho ha hb) fun σ H Q h => tG_bin hr h
theorem pd_cmp {op : CmpOp} {r : R2} {f : α → β → Option γ} (ho : OpR X (compareOp op) r) (hr : OpSem P1 P2 P3 r f) (ha : PDE X cls W P1 a fa) (hb : PDE X cls W P2 b fb) (hm : behindInMarks op b = false) :
    PDE X cls W P3 (.Compare a [op] [b] pos) (bin f fa fb) := pe_imp (pe_cmpR ho ha hb hm) fun σ H Q h => tG_bin hr h
theorem pd_un {op : UnaryOp} {r : V → Hp → VK → Prop} {f : α → Option γ} (ho : UnR X (unaryOp op) r) (hr : ∀ S F H x d z Q, Same F H → P1.rel S F H x d → f d = some z → (∀ v F' H', Ext F H F' H' → P3.rel H F' H' v z → Q v H') → r x H Q)
    (ha : PDE X cls W P1 a fa) : PDE X cls W P3 (.UnaryOp op a pos) (una f fa) := pe_imp (pe_un ho ha) fun σ H Q ⟨H0, F, env, ea, g⟩ => by
  refine ⟨H0, F, env, ea, (Go.bind g).imp fun x H1 ⟨F1, d, _, e1, p1, g1⟩ => ?_⟩
  obtain ⟨z, hz, g3⟩ := Go.ofO g1
  exact hr _ F1 H1 x d z Q e1.i p1 hz g3
/-- a subscript -/
theorem pd_ix {r : R2} {f : α → β → Option γ} (ho : IxR X r) (hr : OpSem P1 P2 P3 r f) (ha : PDE X cls W P1 a fa) (hb : PDE X cls W P2 b fb) (hs : PlainIx b) : PDE X cls W P3 (.Subscript a b pos) (bin f fa fb) :=
  pe_imp (pe_ix ho ha hb hs) fun σ H Q h => tG_bin hr h
end
/-- an operator's truth -/
def OpSemB {α β : Type} (P1 : PP V α) (P2 : PP V β) (r : R2) (f : α → β → Option Bool) : Prop :=
  ∀ S1 S2 F H x y d e z (Q : VK), Same F H → P1.rel S1 F H x d → P2.rel S2 F H y e → f d e = some z → Q (.bl z) H → r x y H Q
def toD (o : Option Bool) : Option D := o.map D.bl
theorem OpSemB.val {α β : Type} {P1 : PP V α} {P2 : PP V β} {r : R2} {f : α → β → Option Bool} {K : PySem.W.Frag} (h : OpSemB P1 P2 r f) : OpSem P1 P2 (pV K) r (fun x y => toD (f x y)) := fun S1 S2 F H x y d e z Q i p q hz k => by
  cases w : f d e with
  | none => simp [toD, w] at hz
  | some b =>
    simp [toD, w] at hz
    subst hz
    exact h S1 S2 F H x y d e b Q i p q w (k _ F H (Ext.refl i) (.bl b))
section
variable {α β γ : Type} {P1 : PP V α} {P2 : PP V β} {P3 : PP V γ} {fa : EnvD → R α} {fb : EnvD → R β} {fc : EnvD → R γ}
theorem pdt_cmp {op : CmpOp} {r : R2} {f : α → β → Option Bool} (ho : OpR X (compareOp op) r) (hr : OpSemB P1 P2 r f) (ha : PDE X cls W P1 a fa) (hb : PDE X cls W P2 b fb) (hm : behindInMarks op b = false) :
    PDT X cls W (.Compare a [op] [b] pos) (bin f fa fb) := pt_imp (pt_cmpR ho ha hb hm) fun σ H Q ⟨H0, F, env, ea, g⟩ => by
  refine ⟨H0, F, env, ea, (Go.bind g).imp fun x H1 ⟨F1, d, _, e1, p1, g1⟩ => ⟨H0, F1, env, ea.mono e1, (Go.bind g1).imp fun y H2 ⟨F2, e, _, e2, p2, g2⟩ => ?_⟩⟩
  obtain ⟨z, hz, g3⟩ := Go.ofO g2
  exact hr _ _ F2 H2 x y d e z _ e2.i (P1.mono e2 p1) p2 hz ⟨z, rfl, g3 z F2 H2 (Ext.refl e2.i) rfl⟩
/-- a < b < c -/
def chain {α β γ : Type} (f : α → β → Option Bool) (f' : β → γ → Option Bool) (fa : EnvD → R α) (fb : EnvD → R β) (fc : EnvD → R γ) : EnvD → R Bool :=
  fun env => (fa env).bind fun x => (fb env).bind fun y => (R.ofO (f x y)).bind fun k => if k = true then (fc env).bind fun z => R.ofO (f' y z) else .ok false
theorem tG_chain {r r' : R2} {f : α → β → Option Bool} {f' : β → γ → Option Bool} (hr : OpSemB P1 P2 r f) (hr' : OpSemB P2 P3 r' f') {K : PySem.W.Frag} {σ : L2.St} {H : Hp} {Q : VK} {H0 F : Hp} {env : EnvD} {Q' : Bool → Hp → Prop}
    (ea : EnvAt K H0 env σ F H) (g : Go cls pT W σ F H (chain f f' fa fb fc env) Q') (hq : ∀ k H1, Q' k H1 → Q (.bl k) H1) : tChain r r' (tG K cls W P1 fa) (tG K cls W P2 fb) (tG K cls W P3 fc) σ H Q := by
  refine ⟨H0, F, env, ea, (Go.bind g).imp fun x H1 ⟨F1, d, _, e1, p1, g1⟩ => ⟨H0, F1, env, ea.mono e1, (Go.bind g1).imp fun y H2 ⟨F2, e, _, e2, p2, g2⟩ => ?_⟩⟩
  have ea2 := (ea.mono e1).mono e2
  cases q : f d e with
  | none => rw [q] at g2; exact g2.elim
  | some k =>
    rw [q] at g2
    refine hr _ _ F2 H2 x y d e k _ e2.i (P1.mono e2 p1) p2 q ⟨k, rfl, ?_⟩
    cases k with
    | false => exact hq _ _ (g2 false F2 H2 (Ext.refl e2.i) rfl)
    | true =>
      have g2' : Go cls pT W σ F2 H2 ((fc env).bind fun z => R.ofO (f' e z)) Q' := g2
      refine ⟨H0, F2, env, ea2, (Go.bind g2').imp fun w H3 ⟨F3, u, _, e3, p3, g3⟩ => ?_⟩
      obtain ⟨z, hz, g4⟩ := Go.ofO g3
      exact hr' _ _ F3 H3 y w e u z Q e3.i (P2.mono e3 p2) p3 hz (hq _ _ (g4 z F3 H3 (Ext.refl e3.i) rfl))
def asV (f : EnvD → R Bool) : EnvD → R D := fun env => (f env).map D.bl
theorem Go.asV {K : PySem.W.Frag} {σ : L2.St} {F H : Hp} {f : EnvD → R Bool} {env : EnvD} {Q : VK} (g : Go cls (pV K) W σ F H (asV f env) Q) : Go cls pT W σ F H (f env) (fun k H1 => Q (.bl k) H1) := by
  unfold PD.asV at g
  cases q : f env with
  | ok k => rw [q] at g; exact fun v F' H' e p => by cases p; exact g _ F' H' e (.bl _)
  | err c => rw [q] at g; exact g
  | bad => rw [q] at g; exact g
theorem pd_chain {op op' : CmpOp} {r r' : R2} {f : α → β → Option Bool} {f' : β → γ → Option Bool} (ho : OpR X (compareOp op) r) (hr : OpSemB P1 P2 r f) (ho' : OpR X (compareOp op') r') (hr' : OpSemB P2 P3 r' f')
    (ha : PDE X cls W P1 a fa) (hb : PDE X cls W P2 b fb) (hc : PDE X cls W P3 c fc) (hm : lastMarks [op, op'] [b, c] = false) : PDE X cls W (pV X.K) (.Compare a [op, op'] [b, c] pos) (asV (chain f f' fa fb fc)) :=
  pe_imp (pe_chain ho ho' ha hb hc hm) fun σ H Q ⟨H0, F, env, ea, g⟩ => tG_chain hr hr' ea g.asV fun _ _ h => h
theorem pdt_chain {op op' : CmpOp} {r r' : R2} {f : α → β → Option Bool} {f' : β → γ → Option Bool} (ho : OpR X (compareOp op) r) (hr : OpSemB P1 P2 r f) (ho' : OpR X (compareOp op') r') (hr' : OpSemB P2 P3 r' f')
    (ha : PDE X cls W P1 a fa) (hb : PDE X cls W P2 b fb) (hc : PDE X cls W P3 c fc) (hm : lastMarks [op, op'] [b, c] = false) : PDT X cls W (.Compare a [op, op'] [b, c] pos) (chain f f' fa fb fc) :=
  pt_imp (pt_chain ho ho' ha hb hc hm) fun σ H Q ⟨H0, F, env, ea, g⟩ => tG_chain hr hr' ea g fun k H1 h => ⟨k, rfl, h⟩
end
/-! ### truth -/
def asB : D → Option Bool
  | .bl b => some b
  | _ => none
theorem rep_bl {K : PySem.W.Frag} {F : Hp} {v : V} {d : D} {b : Bool} (h : Rep K F v d) (q : asB d = some b) : v = .bl b ∧ d = .bl b := by
  cases h with
  | bl c => simp [asB] at q; subst q; exact ⟨rfl, rfl⟩
  | _ => simp [asB] at q
def tst (f : EnvD → R D) : EnvD → R Bool := una asB f
theorem Go.tst {K : PySem.W.Frag} {σ : L2.St} {F H : Hp} {f : EnvD → R D} {env : EnvD} {Q : Bool → Hp → Prop} (g : Go cls pT W σ F H (tst f env) Q) : Go cls (pV K) W σ F H (f env) (fun x H1 => ∃ k, x = .bl k ∧ Q k H1) := by
  unfold PD.tst una at g
  refine (Go.bind g).imp fun x H1 ⟨F1, d, _, e1, p1, g1⟩ => ?_
  obtain ⟨b, hb, g2⟩ := Go.ofO g1
  obtain ⟨h1, h2⟩ := rep_bl p1 hb
  exact ⟨b, h1, g2 b F1 H1 (Ext.refl e1.i) rfl⟩
variable {fa fb fc : EnvD → R D} {ta tb tc : EnvD → R Bool}
theorem pdt_val (ha : PDE X cls W (pV X.K) a fa) (he : ∀ whole, isTrue a X.env whole = (do let v ← whole; standAt a.pos; holding [v] (truthy v)) := by intro _; rfl) : PDT X cls W a (tst fa) :=
  pt_imp (pt_val ha he) fun σ H Q ⟨H0, F, env, ea, g⟩ => ⟨H0, F, env, ea, g.tst⟩
def andF (ta tb : EnvD → R Bool) : EnvD → R Bool := fun env => (ta env).bind fun k => if k = true then tb env else .ok false
def orF (ta tb : EnvD → R Bool) : EnvD → R Bool := fun env => (ta env).bind fun k => if k = true then .ok true else tb env
def notF (ta : EnvD → R Bool) : EnvD → R Bool := fun env => (ta env).map (!·)
abbrev PDW (X : Cx) (cls : Exc → Addr) (W : WX) (e : Expr) (f : EnvD → R Bool) : Prop := PW X e (tG X.K cls W pT f)
theorem pdw_and1 (ha : PDT X cls W a ta) : PDW X cls W (.BoolOp .And [a] pos) ta := pw_and1 ha
theorem pdw_or1 (ha : PDT X cls W a ta) : PDW X cls W (.BoolOp .Or [a] pos) ta := pw_or1 ha
theorem pdw_and {rest : List Expr} (ha : PDT X cls W a ta) (hb : PDW X cls W (.BoolOp .And (b :: rest) pos) tb) : PDW X cls W (.BoolOp .And (a :: b :: rest) pos) (andF ta tb) :=
  pw_imp (pw_and ha hb) fun σ H Q ⟨H0, F, env, ea, g⟩ => by
    refine ⟨H0, F, env, ea, (Go.bind g).imp fun k H1 ⟨F1, d, _, e1, p1, g1⟩ => ?_⟩
    cases p1
    cases k with
    | true => exact ⟨H0, F1, env, ea.mono e1, g1⟩
    | false => exact g1 false F1 H1 (Ext.refl e1.i) rfl
theorem pdw_or {rest : List Expr} (ha : PDT X cls W a ta) (hb : PDW X cls W (.BoolOp .Or (b :: rest) pos) tb) : PDW X cls W (.BoolOp .Or (a :: b :: rest) pos) (orF ta tb) :=
  pw_imp (pw_or ha hb) fun σ H Q ⟨H0, F, env, ea, g⟩ => by
    refine ⟨H0, F, env, ea, (Go.bind g).imp fun k H1 ⟨F1, d, _, e1, p1, g1⟩ => ?_⟩
    cases p1
    cases k with
    | false => exact ⟨H0, F1, env, ea.mono e1, g1⟩
    | true => exact g1 true F1 H1 (Ext.refl e1.i) rfl
theorem pdt_w (h : PDW X cls W e ta) : PDT X cls W e ta := h.pt
theorem Go.map {ρ α β : Type} {P : PP ρ β} {P1 : PP ρ α} {σ : L2.St} {F H : Hp} {r : R α} {f : α → β} {Q : ρ → Hp → Prop} (g : Go cls P W σ F H (r.map f) Q) {Q1 : ρ → Hp → Prop}
    (h : ∀ d, r = .ok d → (∀ v F' H', Ext F H F' H' → P.rel H F' H' v (f d) → Q v H') → ∀ v F' H', Ext F H F' H' → P1.rel H F' H' v d → Q1 v H') : Go cls P1 W σ F H r Q1 := by
  cases r with
  | ok d => exact h d rfl g
  | err c => exact g
  | bad => exact g
theorem pdt_not (ha : PDT X cls W a ta) : PDT X cls W (.UnaryOp .Not a pos) (notF ta) :=
  pt_imp (pt_not ha) fun σ H Q ⟨H0, F, env, ea, g⟩ => ⟨H0, F, env, ea, Go.map g fun d _ k v F' H' e p => by cases p; exact k _ F' H' e rfl⟩
/-- and, or, not as values -/
def andV (fa fb : EnvD → R D) : EnvD → R D := fun env => (tst fa env).bind fun k => if k = true then fb env else .ok (.bl false)
def orV (fa fb : EnvD → R D) : EnvD → R D := fun env => (tst fa env).bind fun k => if k = true then .ok (.bl true) else fb env
def notV (fa : EnvD → R D) : EnvD → R D := fun env => (tst fa env).map fun k => .bl (!k)
theorem pd_one {op : BoolOp} (h : PDE X cls W (pV X.K) a fa) : PDE X cls W (pV X.K) (.BoolOp op [a] pos) fa := pe_one h
theorem pd_and {rest : List Expr} (ha : PDE X cls W (pV X.K) a fa) (hb : PDE X cls W (pV X.K) (.BoolOp .And (b :: rest) pos) fb) : PDE X cls W (pV X.K) (.BoolOp .And (a :: b :: rest) pos) (andV fa fb) :=
  pe_imp (pe_and ha hb) fun σ H Q ⟨H0, F, env, ea, g⟩ => by
    refine ⟨H0, F, env, ea, (Go.tst (Go.bind (P1 := pT) g)).imp fun x H1 ⟨k, ex, F1, d, _, e1, p1, g1⟩ => ⟨k, ex, ?_⟩⟩
    cases p1
    cases k with
    | true => exact ⟨H0, F1, env, ea.mono e1, g1⟩
    | false => exact g1 _ F1 H1 (Ext.refl e1.i) (.bl false)
theorem pd_or {rest : List Expr} (ha : PDE X cls W (pV X.K) a fa) (hb : PDE X cls W (pV X.K) (.BoolOp .Or (b :: rest) pos) fb) : PDE X cls W (pV X.K) (.BoolOp .Or (a :: b :: rest) pos) (orV fa fb) :=
  pe_imp (pe_or ha hb) fun σ H Q ⟨H0, F, env, ea, g⟩ => by
    refine ⟨H0, F, env, ea, (Go.tst (Go.bind (P1 := pT) g)).imp fun x H1 ⟨k, ex, F1, d, _, e1, p1, g1⟩ => ⟨k, ex, ?_⟩⟩
    cases p1
    cases k with
    | false => exact ⟨H0, F1, env, ea.mono e1, g1⟩
    | true => exact g1 _ F1 H1 (Ext.refl e1.i) (.bl true)
theorem pd_not (ha : PDE X cls W (pV X.K) a fa) : PDE X cls W (pV X.K) (.UnaryOp .Not a pos) (notV fa) :=
  pe_imp (pe_not ha) fun σ H Q ⟨H0, F, env, ea, g⟩ => by
    have g' : Go cls pT W σ F H (tst fa env) (fun k H1 => Q (.bl (!k)) H1) := by
      unfold notV at g
      cases q : tst fa env with
      | ok k => rw [q] at g; exact fun v F' H' e p => by cases p; exact g _ F' H' e (.bl _)
      | err c => rw [q] at g; exact g
      | bad => rw [q] at g; exact g
    exact ⟨H0, F, env, ea, g'.tst⟩
def ifF {α : Type} (t : EnvD → R Bool) (fa fb : EnvD → R α) : EnvD → R α := fun env => (t env).bind fun k => if k = true then fa env else fb env
theorem pd_if {α : Type} {P : PP V α} {fa fb : EnvD → R α} (hc : PDT X cls W c tc) (ha : PDE X cls W P a fa) (hb : PDE X cls W P b fb) : PDE X cls W P (.IfExp c a b pos) (ifF tc fa fb) :=
  pe_imp (pe_ifExp hc ha hb) fun σ H Q ⟨H0, F, env, ea, g⟩ => by
    refine ⟨H0, F, env, ea, (Go.bind g).imp fun k H1 ⟨F1, d, _, e1, p1, g1⟩ => ?_⟩
    cases p1
    cases k with
    | true => exact ⟨H0, F1, env, ea.mono e1, g1⟩
    | false => exact ⟨H0, F1, env, ea.mono e1, g1⟩
/-! ### arguments, displays -/
def consF (fa : EnvD → R D) (fs : EnvD → R (List D)) : EnvD → R (List D) := fun env => (fa env).bind fun d => (fs env).map (d :: ·)
def nilF : EnvD → R (List D) := fun _ => .ok []
theorem pda_nil : PDA X cls W (pA X.K) [] nilF := pa_imp pa_nil fun σ H Q ⟨H0, F, env, ea, g⟩ => g [] F H (Ext.refl ea.fh) .nil
theorem pda_cons {es : List Expr} {fs : EnvD → R (List D)} (ha : PDE X cls W (pV X.K) a fa) (hs : PDA X cls W (pA X.K) es fs) (he : starEach (a :: es) X.env = (false, eval a X.env) :: starEach es X.env := by rfl) :
    PDA X cls W (pA X.K) (a :: es) (consF fa fs) := pa_imp (pa_cons ha hs he) fun σ H Q ⟨H0, F, env, ea, g⟩ =>
  ⟨H0, F, env, ea, (Go.bind g).imp fun x H1 ⟨F1, d, _, e1, p1, g1⟩ => ⟨H0, F1, env, ea.mono e1, Go.map g1 fun ds _ k vs F' H' e p => k _ F' H' e (.cons (p1.mono e.f) p)⟩⟩
theorem pdb_nil : PDA X cls W (pB' X.K) [] nilF := pa_imp pa_nil fun σ H Q ⟨H0, F, env, ea, g⟩ => g [] F H (Ext.refl ea.fh) .nil
theorem pdb_cons {es : List Expr} {fs : EnvD → R (List D)} (ha : PDE X cls W (pB X.K) a fa) (hs : PDA X cls W (pB' X.K) es fs) (he : starEach (a :: es) X.env = (false, eval a X.env) :: starEach es X.env := by rfl) :
    PDA X cls W (pB' X.K) (a :: es) (consF fa fs) := pa_imp (pa_cons ha hs he) fun σ H Q ⟨H0, F, env, ea, g⟩ =>
  ⟨H0, F, env, ea, (Go.bind g).imp fun x H1 ⟨F1, d, _, e1, p1, g1⟩ => ⟨H0, F1, env, ea.mono e1, Go.map g1 fun ds _ k vs F' H' e p => k _ F' H' e (.cons (RepB.mono p1 e.f e.h) p)⟩⟩
def small (n : Nat) : Bool := decide (n ≤ 16777216)
theorem small_ok {n : Nat} (h : small n = true) : n ≤ sizeLine := by rw [sizeLine_eq]; exact of_decide_eq_true h
def tupF (fs : EnvD → R (List D)) : EnvD → R D := fun env => (fs env).bind fun ds => if small ds.length = true then .ok (.tup ds) else .bad
theorem pd_tup {es : List Expr} {x1} {fs : EnvD → R (List D)} (hs : PDA X cls W (pA X.K) es fs) : PDE X cls W (pV X.K) (.Tuple es x1 pos) (tupF fs) := pe_imp (pe_tupN hs) fun σ H Q ⟨H0, F, env, ea, g⟩ =>
  ⟨H0, F, env, ea, (Go.bind g).imp fun xs H1 ⟨F1, ds, _, e1, p1, g1⟩ => by
    by_cases hz : small ds.length = true
    · rw [if_pos hz] at g1
      have hl : xs.length ≤ sizeLine := by rw [Reps.length p1]; exact small_ok hz
      exact ⟨hl, fun p hp o hd => g1 _ (upd F1 p (.frz o (.tup xs))) _ (Ext.new e1.i hp) (.tup ⟨o, hd, upd_same⟩ hl (Reps.mono p1 (Same.updN (e1.i.free hp))))⟩
    · rw [if_neg hz] at g1; exact g1.elim⟩
/-- a tuple that may be a key -/
def itmF (fs : EnvD → R (List D)) : EnvD → R D := fun env => (fs env).bind fun ds => if small ds.length = true then .ok (.itm ds) else .bad
theorem pd_itm {es : List Expr} {x1} {fs : EnvD → R (List D)} (hs : PDA X cls W (pA X.K) es fs) : PDE X cls W (pV X.K) (.Tuple es x1 pos) (itmF fs) := pe_imp (pe_tup hs) fun σ H Q ⟨H0, F, env, ea, g⟩ =>
  ⟨H0, F, env, ea, (Go.bind g).imp fun xs H1 ⟨F1, ds, _, e1, p1, g1⟩ => by
    by_cases hz : small ds.length = true
    · rw [if_pos hz] at g1
      have hl : xs.length ≤ sizeLine := by rw [Reps.length p1]; exact small_ok hz
      exact ⟨hl, fun p hp => g1 _ (upd F1 p (.tup xs)) _ (Ext.new e1.i hp) (.itm upd_same hl (Reps.mono p1 (Same.updN (e1.i.free hp))))⟩
    · rw [if_neg hz] at g1; exact g1.elim⟩
def lstF (fs : EnvD → R (List D)) : EnvD → R (List D) := fun env => (fs env).bind fun ds => if small ds.length = true then .ok ds else .bad
theorem pd_lst {es : List Expr} {fs : EnvD → R (List D)} (hs : PDA X cls W (pA X.K) es fs) : PDE X cls W (pN X.K) (.List es pos) (lstF fs) := pe_imp (pe_lst hs) fun σ H Q ⟨H0, F, env, ea, g⟩ =>
  ⟨H0, F, env, ea, (Go.bind g).imp fun xs H1 ⟨F1, ds, _, e1, p1, g1⟩ => by
    by_cases hz : small ds.length = true
    · rw [if_pos hz] at g1
      have hl : xs.length ≤ sizeLine := by rw [Reps.length p1]; exact small_ok hz
      exact ⟨hl, fun p hp => g1 _ F1 _ (Ext.newH e1.i hp) ⟨p, xs, rfl, hp, e1.i.free hp, upd_same, hl, p1⟩⟩
    · rw [if_neg hz] at g1; exact g1.elim⟩
/-! ### calls of built-ins -/
def appL {α : Type} (f : List D → Option α) (fs : EnvD → R (List D)) : EnvD → R α := fun env => (fs env).bind fun ds => R.ofO (f ds)
def CallSem {α : Type} (P : PP V α) (K : PySem.W.Frag) (r : List V → Hp → VK → Prop) (f : List D → Option α) : Prop :=
  ∀ F H xs ds z Q, Same F H → RepBs K F H xs ds → f ds = some z → (∀ v F' H', Ext F H F' H' → P.rel H F' H' v z → Q v H') → r xs H Q
variable {x : Str} {p : Pos} {es : List Expr} {fs : EnvD → R (List D)} {α : Type} {P : PP V α} {f : List D → Option α} {r : List V → Hp → VK → Prop} {id T : String}
theorem tG_call (hr : CallSem P X.K r f) {σ : L2.St} {H : Hp} {Q : VK} (h : tG X.K cls W P (appL f fs) σ H Q) : tCB r (tG X.K cls W (pB' X.K) fs) σ H Q := by
  obtain ⟨H0, F, env, ea, g⟩ := h
  refine ⟨H0, F, env, ea, (Go.bind g).imp fun xs H1 ⟨F1, ds, _, e1, p1, g1⟩ => ?_⟩
  obtain ⟨z, hz, g2⟩ := Go.ofO g1
  exact hr F1 H1 xs ds z Q e1.i p1 hz g2
theorem pd_callB (hc : CallR X (.builtin id) r) (hr : CallSem P X.K r f) (hg : Gl X x) (hm : X.mg x = none) (hv : bootBuiltins x = some (.builtin id)) (ha : PDA X cls W (pB' X.K) (e :: es) fs) (hn : x ≠ "__name__" := by decide) (hdb : (x == ("__debug__" : Str)) = false := by decide)
    (he : starEach (e :: es) X.env = (false, eval e X.env) :: starEach es X.env := by rfl) (hpl : (backTo pos (starEach es X.env)).any (·.1) = false := by rfl) : PDE X cls W P (.Call (.Name x p) (e :: es) [] pos) (appL f fs) :=
  pe_imp (pe_callB hc hg hm hv ha hn hdb he hpl) fun σ H Q h => tG_call hr h
theorem pd_callTy (hc : CallR X (.type T) r) (hr : CallSem P X.K r f) (hg : Gl X x) (hm : X.mg x = none) (hv : bootBuiltins x = some (.type T)) (ha : PDA X cls W (pB' X.K) (e :: es) fs) (hn : x ≠ "__name__" := by decide) (hdb : (x == ("__debug__" : Str)) = false := by decide)
    (he : starEach (e :: es) X.env = (false, eval e X.env) :: starEach es X.env := by rfl) (hpl : (backTo pos (starEach es X.env)).any (·.1) = false := by rfl) : PDE X cls W P (.Call (.Name x p) (e :: es) [] pos) (appL f fs) :=
  pe_imp (pe_callTy hc hg hm hv ha hn hdb he hpl) fun σ H Q h => tG_call hr h
end
end PD

set_option maxHeartbeats 4000000
namespace PD
open PySem PySem.Spec PyProof.Rows L2
/-! ### calls of defs -/
def GoF (K : PySem.W.Frag) (cls : Exc → Addr) (F H : Hp) (r : R D) (Q : VK) (E : XK) : Prop := match r with
  | .ok d => ∀ v F' H', Ext F H F' H' → Rep K F' v d → Q v H'
  | .err c => ∀ F' H', Ext F H F' H' → E (.ref (cls c)) none H'
  | .bad => False
def spD (K : PySem.W.Frag) (cls : Exc → Addr) (n : Nat) (fn : List D → R D) : Sp := fun vs H Q E => vs.length = n ∧ ∃ F ds, Same F H ∧ Reps K F vs ds ∧ GoF K cls F H (fn ds) Q E
structure Fn (P : Program) (w : World) (K : PySem.W.Frag) (mg : Str → Option Value) (base : Heap) (cls : Exc → Addr) (k : Nat) (x : Str) (n : Nat) (fn : List D → R D) : Prop where
  ex : ∃ (f : Addr) (fd : FuncData) (ps : List Str), FnOk P w K mg base (L2.CX P w) k f fd ps (spD K cls n fn) ∧ mg x = some (.ref f) ∧ PySem.W.keepIn K (.ref f) = true ∧ Binds K fd ps []
  len : ∀ ds, ds.length ≠ n → fn ds = .bad
def callF (fn : List D → R D) (fs : EnvD → R (List D)) : EnvD → R D := fun env => (fs env).bind fn
section
variable {X : Cx} {cls : Exc → Addr} {W : WX} {e a b c : Expr} {pos p : Pos}
theorem pd_call {k n : Nat} {x : Str} {fn : List D → R D} {es : List Expr} {fs : EnvD → R (List D)} (G : Fn X.prog X.w X.K X.mg X.base cls k x n fn) (hr : Room k X.A) (hg : Gl X x) (tk : Takes X W) (ha : PDA X cls W (pA X.K) (e :: es) fs)
    (hdb : (x == ("__debug__" : Str)) = false := by decide) (he : starEach (e :: es) X.env = (false, eval e X.env) :: starEach es X.env := by rfl) (hpl : (backTo pos (starEach es X.env)).any (·.1) = false := by rfl) :
    PDE X cls W (pV X.K) (.Call (.Name x p) (e :: es) [] pos) (callF fn fs) := by
  obtain ⟨f, fd, ps, G1, G2, G3, G4⟩ := G.ex
  refine pe_imp (pe_callS G1 hr hg G2 G3 G4 (fun σ => passAt tk σ) ha hdb he hpl) fun σ H Q ⟨H0, F, env, ea, g⟩ => ⟨H0, F, env, ea, (Go.bind g).imp fun vs H1 ⟨F1, ds, _, e1, p1, g1⟩ => ?_⟩
  have hl : ds.length = n := by
    by_cases q : ds.length = n
    · exact q
    · rw [G.len ds q] at g1; exact g1.elim
  refine ⟨by rw [Reps.length p1]; exact hl, F1, ds, e1.i, p1, ?_⟩
  cases q : fn ds with
  | ok d => rw [q] at g1; exact g1
  | err c => rw [q] at g1; exact g1
  | bad => rw [q] at g1; exact g1
/-! ### statements -/
def GoS (K : PySem.W.Frag) (cls : Exc → Addr) (W : WX) (F0 H0 F : Hp) (o : Out) (D : Ends) : Prop := match o with
  | .next e => ∀ σ' F' H', Ext F0 H0 F' H' → Same F F' → EnvAt K H0 e σ' F' H' → D.nx σ' H'
  | .brk e => ∀ σ' F' H', Ext F0 H0 F' H' → Same F F' → EnvAt K H0 e σ' F' H' → D.bk σ' H'
  | .cont e => ∀ σ' F' H', Ext F0 H0 F' H' → Same F F' → EnvAt K H0 e σ' F' H' → D.ct σ' H'
  | .ret d => ∀ v F' H', Ext F0 H0 F' H' → Same F F' → Rep K F' v d → D.rt v H'
  | .err c e => ∀ σ' F' H', Ext F0 H0 F' H' → Same F F' → EnvAt K H0 e σ' F' H' → W (.ref (cls c)) none σ' H'
  | .bad => False
theorem GoS.from {K : PySem.W.Frag} {F0 H0 F F1 : Hp} {o : Out} {D : Ends} (g : GoS K cls W F0 H0 F o D) (s : Same F F1) : GoS K cls W F0 H0 F1 o D := by
  cases o with
  | next e => exact fun σ' F' H' x y z => g σ' F' H' x (s.trans y) z
  | brk e => exact fun σ' F' H' x y z => g σ' F' H' x (s.trans y) z
  | cont e => exact fun σ' F' H' x y z => g σ' F' H' x (s.trans y) z
  | ret e => exact fun σ' F' H' x y z => g σ' F' H' x (s.trans y) z
  | err c e => exact fun σ' F' H' x y z => g σ' F' H' x (s.trans y) z
  | bad => exact g
def tS (K : PySem.W.Frag) (cls : Exc → Addr) (W : WX) (G : EnvD → Out) : TS := fun D σ H => ∃ H0 F0 env F, Ext F0 H0 F H ∧ EnvAt K H0 env σ F H ∧ GoS K cls W F0 H0 F (G env) D
abbrev PDS (X : Cx) (cls : Exc → Addr) (W : WX) (st : Stmt) (G : EnvD → Out) : Prop := PS X st (tS X.K cls W G)
abbrev PDSs (X : Cx) (cls : Exc → Addr) (W : WX) (st : List Stmt) (G : EnvD → Out) : Prop := PSs X st (tS X.K cls W G)
def seqS (G1 G2 : EnvD → Out) : EnvD → Out := fun env => match G1 env with
  | .next e => G2 e
  | .ret d => .ret d
  | .err c e => .err c e
  | .brk e => .brk e
  | .cont e => .cont e
  | .bad => .bad
theorem pds_cons {st : Stmt} {rest : List Stmt} {G1 G2 : EnvD → Out} (h1 : PDS X cls W st G1) (h2 : PDSs X cls W rest G2) : PDSs X cls W (st :: rest) (seqS G1 G2) := pss_imp (pss_cons h1 h2) fun D σ H ⟨H0, F0, env, F, x, ea, g⟩ => by
  refine ⟨H0, F0, env, F, x, ea, ?_⟩
  unfold seqS at g
  cases q : G1 env with
  | next e => rw [q] at g; exact fun σ' F' H' x' s' ea' => ⟨H0, F0, e, F', x', ea', g.from s'⟩
  | brk e => rw [q] at g; exact g
  | cont e => rw [q] at g; exact g
  | ret e => rw [q] at g; exact g
  | err c e => rw [q] at g; exact g
  | bad => rw [q] at g; exact g
def skipS : EnvD → Out := fun env => .next env
theorem pds_nil : PDSs X cls W [] skipS := pss_imp pss_nil fun D σ H ⟨H0, F0, env, F, x, ea, g⟩ => g σ F H x (Same.refl F) ea
theorem pds_one {st : Stmt} {G : EnvD → Out} (h : PDS X cls W st G) : PDSs X cls W [st] G := pss_one h
theorem pds_pass : PDS X cls W (.Pass pos) skipS := ps_imp ps_pass fun D σ H ⟨H0, F0, env, F, x, ea, g⟩ => g σ F H x (Same.refl F) ea
/-- a ghost step: slot i is frozen -/
def frzE (i : Nat) (env : EnvD) : EnvD := match env[i]? with
  | some (.own ds) => env.set i (.val (.lst ds))
  | some (.ownd _ ks vs) => env.set i (.val (.dic ks vs))
  | _ => env
theorem pds_frz {sts : List Stmt} {G : EnvD → Out} (i : Nat) (h : PDSs X cls W sts G) : PDSs X cls W sts (fun env => G (frzE i env)) := pss_imp h fun D σ H ⟨H0, F0, env, F, x, ea, g⟩ => by
  have g : GoS X.K cls W F0 H0 F (G (frzE i env)) D := g
  cases q : env[i]? with
  | none =>
    have e : frzE i env = env := by unfold frzE; rw [q]
    rw [e] at g; exact ⟨H0, F0, env, F, x, ea, g⟩
  | some s =>
    cases s with
    | own ds =>
      have e : frzE i env = env.set i (.val (.lst ds)) := by unfold frzE; rw [q]
      rw [e] at g
      obtain ⟨F', s1, s2, ea'⟩ := ea.freeze q
      exact ⟨H0, F0, _, F', ⟨x.f.trans s1, x.h, ea'.fh, fun a o z1 m z2 => x.n a o z1 m (s2 a o z1 m z2)⟩, ea', g.from s1⟩
    | no => (have e : frzE i env = env := by unfold frzE; rw [q]); rw [e] at g; exact ⟨H0, F0, env, F, x, ea, g⟩
    | val d => (have e : frzE i env = env := by unfold frzE; rw [q]); rw [e] at g; exact ⟨H0, F0, env, F, x, ea, g⟩
    | ownd tt ks vs =>
      have e : frzE i env = env.set i (.val (.dic ks vs)) := by unfold frzE; rw [q]
      rw [e] at g
      obtain ⟨F', s1, s2, ea'⟩ := ea.freezeD q
      exact ⟨H0, F0, _, F', ⟨x.f.trans s1, x.h, ea'.fh, fun a o z1 m z2 => x.n a o z1 m (s2 a o z1 m z2)⟩, ea', g.from s1⟩
def bindS {α : Type} (r : R α) (env : EnvD) (k : α → Out) : Out := match r with
  | .ok a => k a
  | .err c => .err c env
  | .bad => .bad
theorem GoS.expr {ρ α : Type} {P : PP ρ α} {K : PySem.W.Frag} {F0 H0 F H : Hp} {env : EnvD} {σ : L2.St} {r : R α} {k : α → Out} {D : Ends} (g : GoS K cls W F0 H0 F (bindS r env k) D) (x : Ext F0 H0 F H) (ea : EnvAt K H0 env σ F H) :
    Go cls P W σ F H r (fun v H1 => ∃ F1 d, r = .ok d ∧ Ext F H F1 H1 ∧ P.rel H F1 H1 v d ∧ GoS K cls W F0 H0 F1 (k d) D) := by
  cases r with
  | ok d => exact fun v F' H' e p => ⟨F', d, rfl, e, p, GoS.from g e.f⟩
  | err c => exact fun F' H' e => g σ F' H' (x.trans e) e.f (ea.mono e)
  | bad => exact g
variable {st : Stmt} {G G1 G2 : EnvD → Out}
def setS (i : Nat) (f : EnvD → R D) : EnvD → Out := fun env => bindS (f env) env fun d => .next (env.set i (.val d))
theorem pds_set {i : Nat} {f : EnvD → R D} (h : PS X st (tAsg (tG X.K cls W (pV X.K) f) (gName i))) : PDS X cls W st (setS i f) := ps_imp h fun D σ H ⟨H0, F0, env, F, x, ea, g⟩ =>
  ⟨H0, F, env, ea, (g.expr x ea).imp fun v H1 ⟨F1, d, _, e1, p1, g1⟩ => g1 _ F1 H1 (x.trans e1) (Same.refl F1) ((ea.mono e1).setV i p1)⟩
def setO (i : Nat) (f : EnvD → R (List D)) : EnvD → Out := fun env => bindS (f env) env fun d => .next (env.set i (.own d))
theorem pds_setN {i : Nat} {f : EnvD → R (List D)} (h : PS X st (tAsg (tG X.K cls W (pN X.K) f) (gName i))) : PDS X cls W st (setO i f) := ps_imp h fun D σ H ⟨H0, F0, env, F, x, ea, g⟩ =>
  ⟨H0, F, env, ea, (g.expr x ea).imp fun v H1 ⟨F1, d, _, e1, ⟨p, xs, ev, n1, n2, n3, n4, n5⟩, g1⟩ => by
    subst ev
    exact g1 _ F1 H1 (x.trans e1) (Same.refl F1) ((ea.mono e1).setO i ⟨p, xs, rfl, x.h.free n1, n2, n3, n4, n5⟩ fun j t _ hj ot hp => (ea.ownAt hj ot hp).1 n1)⟩
def setM (i : Nat) (f : EnvD → R (Bool × List D × List D)) : EnvD → Out := fun env => bindS (f env) env fun d => .next (env.set i (.ownd d.1 d.2.1 d.2.2))
theorem pds_setM {i : Nat} {f : EnvD → R (Bool × List D × List D)} (h : PS X st (tAsg (tG X.K cls W (pM X.K) f) (gName i))) : PDS X cls W st (setM i f) := ps_imp h fun D σ H ⟨H0, F0, env, F, x, ea, g⟩ =>
  ⟨H0, F, env, ea, (g.expr x ea).imp fun v H1 ⟨F1, d, _, e1, ⟨p, u, ev, n1, n2, n3, n4⟩, g1⟩ => by
    subst ev
    exact g1 _ F1 H1 (x.trans e1) (Same.refl F1) ((ea.mono e1).setO i ⟨p, u, rfl, x.h.free n1, n2, n3, n4⟩ fun j t _ hj ot hp => (ea.ownAt hj ot hp).1 n1)⟩
def dropS {α : Type} (f : EnvD → R α) : EnvD → Out := fun env => bindS (f env) env fun _ => .next env
theorem pds_expr {f : EnvD → R D} (h : PS X st (tDrop (tG X.K cls W (pV X.K) f))) : PDS X cls W st (dropS f) := ps_imp h fun D σ H ⟨H0, F0, env, F, x, ea, g⟩ =>
  ⟨H0, F, env, ea, (g.expr x ea).imp fun v H1 ⟨F1, d, _, e1, p1, g1⟩ => g1 _ F1 H1 (x.trans e1) (Same.refl F1) (ea.mono e1)⟩
def retS (f : EnvD → R D) : EnvD → Out := fun env => bindS (f env) env fun d => .ret d
theorem pds_ret {f : EnvD → R D} (h : PDE X cls W (pV X.K) e f) : PDS X cls W (.Return (some e) pos) (retS f) := ps_imp (ps_ret h) fun D σ H ⟨H0, F0, env, F, x, ea, g⟩ =>
  ⟨H0, F, env, ea, (g.expr x ea).imp fun v H1 ⟨F1, d, _, e1, p1, g1⟩ => g1 v F1 H1 (x.trans e1) (Same.refl F1) p1⟩
def ifS (t : EnvD → R Bool) (G1 G2 : EnvD → Out) : EnvD → Out := fun env => bindS (t env) env fun k => if k = true then G1 env else G2 env
theorem pds_if {t : EnvD → R Bool} {s1 s2 : List Stmt} (hc : PDT X cls W c t) (ha : PDSs X cls W s1 G1) (hb : PDSs X cls W s2 G2) : PDS X cls W (.If c s1 s2 pos) (ifS t G1 G2) := ps_imp (ps_if hc ha hb) fun D σ H ⟨H0, F0, env, F, x, ea, g⟩ =>
  ⟨H0, F, env, ea, (g.expr x ea).imp fun k H1 ⟨F1, d, _, e1, p1, g1⟩ => by
    cases p1
    cases k with
    | true => exact ⟨H0, F0, env, F1, x.trans e1, ea.mono e1, g1⟩
    | false => exact ⟨H0, F0, env, F1, x.trans e1, ea.mono e1, g1⟩⟩
def raiseS (c : Exc) : EnvD → Out := fun env => .err c env
/-- what is known of an exception class of the text -/
structure ExcAt (K : PySem.W.Frag) (mg : Str → Option Value) (x : Str) (C : Addr) : Prop where
  g : mg x = some (.ref C)
  x : PySem.W.excIn K C He.veBase "ValueError.__new__" = true
  k : PySem.W.keepIn K (.ref C) = true
  b : PySem.W.subIn K (.ref C) (.type "BaseException") = some true
  t : PySem.W.typeIn K (.ref C) = some (.type "type")
theorem pds_raise {x m : Str} {j : Nat} {q : Exc} {p2 pos2 pos3 : Pos} (hc : X.calm = true) (tk : Takes X W) (h : ExcAt X.K X.mg x (cls q)) (hg : Gl X x) (hdb : (x == ("__debug__" : Str)) = false := by decide) :
    PDS X cls W (.Raise (some (.Call (.Name x p) [.Constant (.str m) j p2] [] pos2)) none pos3) (raiseS q) :=
  ps_imp (ps_raise hc tk (pmk_own PySem.F.excBase_ValueError h.x h.g h.k (raises_own h.b h.t) hg hdb)) fun D σ H ⟨H0, F0, env, F, x, ea, g⟩ => g σ F H x (Same.refl F) ea
end
/-! ### walks -/
def WalkD (K : PySem.W.Frag) (b : Bool) (J : It) (F' H' : Hp) (ds : List D) : Prop :=
  ds.length ≤ sizeLine ∧ ∀ F1 H1, Same F' F1 → Same F1 H1 → (b = true → Same H' H1) →
    (∀ i d, ds[i]? = some d → J.go i H1 ∧ ∀ x H2, J.yld i H1 x H2 → ∃ F2, Ext F1 H1 F2 H2 ∧ Rep K F2 x d) ∧ J.stop ds.length H1
def pI (K : PySem.W.Frag) (b : Bool) : PP It (List D) := ⟨fun _ F' H' J ds => WalkD K b J F' H' ds, fun _ h => h, fun e h => ⟨h.1, fun F1 H1 a c d => h.2 F1 H1 (e.f.trans a) c fun q => e.h.trans (d q)⟩⟩
abbrev PDI (X : Cx) (cls : Exc → Addr) (W : WX) (b : Bool) (tg iter : Expr) (f : EnvD → R (List D)) : Prop := PI X tg iter (tG X.K cls W (pI X.K b) f)
section
variable {X : Cx} {cls : Exc → Addr} {W : WX} {e a b c tg : Expr} {pos p : Pos}
theorem pi_seq {tl : TE} {l : Expr} (hl : PE X l tl) : PI X tg l (fun σ H R => tl σ H fun x H1 => ∃ a, x = .ref a ∧ ((∃ xs, SqL X.K H1 a xs) ∧ R (Itl X.K a) H1 ∨ (∃ xs, SqT X.K H1 a xs) ∧ R (Itt X.K a) H1)) := by
  refine ⟨fun pins s σ H R I h => ?_⟩
  refine thn (hl.run pins s σ H _ I h) fun v s1 ⟨x, H1, I1, r1, q1⟩ => ?_
  obtain ⟨a, e, q1⟩ := q1
  subst e
  cases r1
  rcases q1 with ⟨⟨xs, hq⟩, q⟩ | ⟨⟨xs, hq⟩, q⟩
  · obtain ⟨its, rv, p, hz⟩ := I1.list hq
    refine wpAny_pyIter_list p.isList ?_
    refine ⟨s1.heap.objs.size, [s1.heap.objs.size], _, _, H1, rfl, I1.kept (t' := s1.toks) fun b o e => Heap.get?_push_of_some _ e, turn_list a _, ⟨_, Heap.get?_push_size _ rfl, rfl, rfl⟩, fun b hb => ?_, q⟩
    have e : b = s1.heap.objs.size := by simpa using hb
    subst e
    exact I1.fpOk (Nat.le_refl _) (I1.hok.fresh (Nat.le_refl _))
  · obtain ⟨its, rv, p, hz⟩ := I1.tuple hq
    refine wpAny_pyIter_tuple (show s1.heap.IsTuple a its.toArray from p) ?_
    refine ⟨s1.heap.objs.size, [s1.heap.objs.size], _, _, H1, rfl, I1.kept (t' := s1.toks) fun b o e => Heap.get?_push_of_some _ e, turn_tuple a _, ⟨_, Heap.get?_push_size _ rfl, rfl, rfl⟩, fun b hb => ?_, q⟩
    have e : b = s1.heap.objs.size := by simpa using hb
    subst e
    exact I1.fpOk (Nat.le_refl _) (I1.hok.fresh (Nat.le_refl _))
def asSeq : D → Option (List D)
  | .lst xs => some xs
  | .tup xs => some xs
  | _ => none
def seqF (f : EnvD → R D) : EnvD → R (List D) := una asSeq f
theorem walkL {K : PySem.W.Frag} {bb : Bool} {F H : Hp} {q : Addr} {xs : List V} {ds : List D} (h : ∀ F1 H1, Same F F1 → Same F1 H1 → (bb = true → Same H H1) → H1 q = some (.lst xs)) (hl : xs.length ≤ sizeLine) (r : Reps K F xs ds) : WalkD K bb (Itl K q) F H ds := by
  refine ⟨by rw [← r.length]; exact hl, fun F1 H1 a1 a2 a3 => ⟨fun i d hd => ?_, ⟨xs, SqL.of (h F1 H1 a1 a2 a3), by rw [r.length]; exact Nat.le_refl _⟩⟩⟩
  obtain ⟨v, hv, rv⟩ := r.get hd
  refine ⟨⟨xs, v, SqL.of (h F1 H1 a1 a2 a3), hv⟩, fun x H2 ⟨e1, e2⟩ => ?_⟩
  subst e1
  have := e2 xs (SqL.of (h F1 H2 a1 a2 a3))
  rw [hv] at this; cases this
  exact ⟨F1, Ext.refl a2, rv.mono a1⟩
theorem walkT {K : PySem.W.Frag} {bb : Bool} {F H : Hp} {q : Addr} {xs : List V} {ds : List D} (h : TupAt F q xs) (hl : xs.length ≤ sizeLine) (r : Reps K F xs ds) : WalkD K bb (Itt K q) F H ds := by
  refine ⟨by rw [← r.length]; exact hl, fun F1 H1 a1 a2 a3 => ⟨fun i d hd => ?_, ⟨xs, ((h.mono a1).mono a2).sq, by rw [r.length]; exact Nat.le_refl _⟩⟩⟩
  obtain ⟨v, hv, rv⟩ := r.get hd
  refine ⟨⟨xs, v, ((h.mono a1).mono a2).sq, hv⟩, fun x H2 ⟨e1, e2⟩ => ?_⟩
  subst e1
  have := e2 xs (((h.mono a1).mono a2).sq)
  rw [hv] at this; cases this
  exact ⟨F1, Ext.refl a2, rv.mono a1⟩
theorem pdi_seq {f : EnvD → R D} (h : PDE X cls W (pV X.K) e f) : PDI X cls W false tg e (seqF f) := pi_imp (pi_seq h) fun σ H Q ⟨H0, F, env, ea, g⟩ =>
  ⟨H0, F, env, ea, (Go.bind g).imp fun x H1 ⟨F1, d, _, e1, p1, g1⟩ => by
    obtain ⟨ds, hd, g2⟩ := Go.ofO g1
    cases p1 with
    | lst h1 h2 h3 =>
      cases hd
      exact ⟨_, rfl, .inl ⟨⟨_, SqL.of (e1.i _ _ h1)⟩, g2 _ F1 H1 (Ext.refl e1.i) (walkL (fun F2 H2 a1 a2 _ => a2 _ _ (a1 _ _ h1)) h2 h3)⟩⟩
    | tup h1 h2 h3 =>
      cases hd
      exact ⟨_, rfl, .inr ⟨⟨_, (h1.mono e1.i).sq⟩, g2 _ F1 H1 (Ext.refl e1.i) (walkT h1 h2 h3)⟩⟩
    | _ => cases hd⟩
theorem pdi_seqB {f : EnvD → R D} (h : PDE X cls W (pB X.K) e f) : PDI X cls W true tg e (seqF f) := pi_imp (pi_seq h) fun σ H Q ⟨H0, F, env, ea, g⟩ =>
  ⟨H0, F, env, ea, (Go.bind g).imp fun x H1 ⟨F1, d, _, e1, p1, g1⟩ => by
    obtain ⟨ds, hd, g2⟩ := Go.ofO g1
    rcases p1 with p1 | ⟨q, xs, es, rfl, rfl, h1, h2, h3⟩ | ⟨q, u, t, ks, vs, rfl, rfl, h1, h2⟩
    · cases p1 with
      | lst h1 h2 h3 =>
        cases hd
        exact ⟨_, rfl, .inl ⟨⟨_, SqL.of (e1.i _ _ h1)⟩, g2 _ F1 H1 (Ext.refl e1.i) (walkL (fun F2 H2 a1 a2 _ => a2 _ _ (a1 _ _ h1)) h2 h3)⟩⟩
      | tup h1 h2 h3 =>
        cases hd
        exact ⟨_, rfl, .inr ⟨⟨_, (h1.mono e1.i).sq⟩, g2 _ F1 H1 (Ext.refl e1.i) (walkT h1 h2 h3)⟩⟩
      | _ => cases hd
    · cases hd
      exact ⟨_, rfl, .inl ⟨⟨_, SqL.of h1⟩, g2 _ F1 H1 (Ext.refl e1.i) (walkL (fun F2 H2 _ _ a3 => a3 rfl _ _ h1) h2 h3)⟩⟩
    · cases hd⟩
/-! ### ranges -/
def rng (lo hi : Int) : List D := (List.range (hi - lo).toNat).map fun i => .int (lo + (i : Nat))
def rngOk (lo hi : Int) : Bool := decide (-4611686018427387904 ≤ lo ∧ lo < 4611686018427387904 ∧ -4611686018427387904 ≤ hi ∧ hi < 4611686018427387904 ∧ hi - lo ≤ 16777216)
def asRng1 : List D → Option (List D)
  | [.int j] => if rngOk 0 j = true then some (rng 0 j) else none
  | _ => none
def asRng2 : List D → Option (List D)
  | [.int i, .int j] => if rngOk i j = true then some (rng i j) else none
  | _ => none
theorem walkR {K : PySem.W.Frag} {bb : Bool} {F H : Hp} {lo : Int} {n : Nat} (h : n ≤ sizeLine) : WalkD K bb (Itr lo n) F H ((List.range n).map fun i => .int (lo + (i : Nat))) := by
  refine ⟨by simpa using h, fun F1 H1 a1 a2 a3 => ⟨fun i d hd => ?_, by simp [Itr]⟩⟩
  rw [List.getElem?_map] at hd
  cases q : (List.range n)[i]? with
  | none => rw [q] at hd; cases hd
  | some j =>
    rw [q] at hd
    obtain ⟨hi, ej⟩ := List.getElem?_eq_some_iff.mp q
    have hi' : i < n := by simpa using hi
    have ej' : i = j := by simpa using ej
    subst ej'
    cases hd
    exact ⟨hi', fun x H2 ⟨e1, e2⟩ => by subst e1 e2; exact ⟨F1, Ext.refl a2, .int _⟩⟩
theorem rng_le {lo hi : Int} (h : rngOk lo hi = true) : (hi - lo).toNat ≤ sizeLine := by
  have := of_decide_eq_true h
  rw [sizeLine_eq]; omega
theorem reps_bs1 {K : PySem.W.Frag} {F H : Hp} {vs : List V} {i : Int} (h : RepBs K F H vs [.int i]) : vs = [.int i] := by
  cases h with | cons a b => cases b; rcases a with a | ⟨_, _, _, _, a, _⟩ | ⟨_, _, _, _, _, _, a, _⟩ <;> cases a; rfl
theorem reps_bs2 {K : PySem.W.Frag} {F H : Hp} {vs : List V} {i j : Int} (h : RepBs K F H vs [.int i, .int j]) : vs = [.int i, .int j] := by
  cases h with | cons a b => rw [reps_bs1 b]; rcases a with a | ⟨_, _, _, _, a, _⟩ | ⟨_, _, _, _, _, _, a, _⟩ <;> cases a; rfl
theorem pdi_range1 {fs : EnvD → R (List D)} (hg : Gl X "range") (hm : X.mg "range" = none) (ha : PDA X cls W (pB' X.K) [a] fs) (hs : starEach [a] X.env = [(false, eval a X.env)] := by rfl) : PDI X cls W false tg (.Call (.Name "range" p) [a] [] pos) (appL asRng1 fs) :=
  pi_imp (pi_range1 hg hm ha hs) fun σ H Q ⟨H0, F, env, ea, g⟩ => ⟨H0, F, env, ea, (Go.bind g).imp fun xs H1 ⟨F1, ds, _, e1, p1, g1⟩ => by
    obtain ⟨z, hz, g2⟩ := Go.ofO g1
    unfold asRng1 at hz
    split at hz
    · rename_i j hq
      by_cases hk : rngOk 0 j = true
      · rw [if_pos hk] at hz; cases hz
        have hb := of_decide_eq_true hk
        have hw := walkR (K := X.K) (bb := false) (F := F1) (H := H1) (lo := 0) (rng_le hk)
        rw [Int.sub_zero] at hw
        refine ⟨j, reps_bs1 p1, by omega, by omega, g2 _ F1 H1 (Ext.refl e1.i) ?_⟩
        unfold rng
        rw [Int.sub_zero]
        exact hw
      · rw [if_neg hk] at hz; cases hz
    · cases hz⟩
theorem pdi_range2 {fs : EnvD → R (List D)} (hg : Gl X "range") (hm : X.mg "range" = none) (ha : PDA X cls W (pB' X.K) [a, b] fs) (hs : starEach [a, b] X.env = [(false, eval a X.env), (false, eval b X.env)] := by rfl) (hs2 : starEach [b] X.env = [(false, eval b X.env)] := by rfl) : PDI X cls W false tg (.Call (.Name "range" p) [a, b] [] pos) (appL asRng2 fs) :=
  pi_imp (pi_range2 hg hm ha hs hs2) fun σ H Q ⟨H0, F, env, ea, g⟩ => ⟨H0, F, env, ea, (Go.bind g).imp fun xs H1 ⟨F1, ds, _, e1, p1, g1⟩ => by
    obtain ⟨z, hz, g2⟩ := Go.ofO g1
    unfold asRng2 at hz
    split at hz
    · rename_i i j hq
      by_cases hk : rngOk i j = true
      · rw [if_pos hk] at hz; cases hz
        have hb := of_decide_eq_true hk
        exact ⟨i, j, reps_bs2 p1, ⟨by omega, by omega, by omega, by omega⟩, g2 _ F1 H1 (Ext.refl e1.i) (walkR (rng_le hk))⟩
      · rw [if_neg hk] at hz; cases hz
    · cases hz⟩
end
end PD

set_option maxHeartbeats 4000000
/-! [f, g, ..][i](e, ..): a function picked from a list -/
namespace PD
open PySem PySem.Spec PyProof.Rows L2
section
variable {X : Cx} {W : WX} {cls : Exc → Addr} {fe e i : Expr} {es : List Expr} {pos : Pos} {tf : TE} {t : TA}
def tCallX (X : Cx) (W : WX) (tf : TE) (t : TA) : TE := fun σ H Q => tf σ H fun y H1 => ∃ (f : Addr) (k : Nat) (fd : FuncData) (ps : List Str) (sp : Sp), y = .ref f ∧ FnOk X.prog X.w X.K X.mg X.base (L2.CX X.prog X.w) k f fd ps sp ∧ Room k X.A ∧
  PySem.W.keepIn X.K (.ref f) = true ∧ Binds X.K fd ps [] ∧ t σ H1 fun vs H2 => sp vs H2 Q (WE W σ)
theorem pe_callX (tk : Takes X W) (hf : PE X fe tf) (ha : PA X (e :: es) t)
    (ht : eval (.Call fe (e :: es) [] pos) X.env = (do callWith pos (← eval fe X.env) [] (backTo pos (starEach (e :: es) X.env)) (backToKw pos (keywordEach [] X.env))) := by rfl)
    (he : starEach (e :: es) X.env = (false, eval e X.env) :: starEach es X.env := by rfl) (hpl : (backTo pos (starEach es X.env)).any (·.1) = false := by rfl) : PE X (.Call fe (e :: es) [] pos) (tCallX X W tf t) := by
  refine ⟨fun pins s σ H Q I h => ?_⟩
  refine Call_ (thn (hf.run pins s σ H _ I h) fun u s1 ⟨y, H1, I1, ry, f, k, fd, ps, sp, ey, F, hr, hk, hb, q⟩ => ?_) ht
  subst ey
  obtain rfl : u = Value.ref f := ry
  exact PySem.W.callWith_K (h₀ := X.base) I1.ok.mod.kin hk (thn (ha.run pos pins s1 σ H1 _ I1 q) fun us s2 ⟨vs, H2, I2, r, q2⟩ => ⟨I2.kIn, run_fnS F hr hb (passAt tk σ) I2 r q2⟩) he hpl
def callXF (fns : List (List D → R D)) (fi : EnvD → R D) (fs : EnvD → R (List D)) : EnvD → R D := fun env => (fi env).bind fun d => match d with
  | .int j => match atI fns j with
    | some fn => (fs env).bind fn
    | none => .bad
  | _ => .bad
/-- a function of the module -/
def FnA (X : Cx) (cls : Exc → Addr) (v : V) (fn : List D → R D) : Prop := ∃ (f : Addr) (k n : Nat) (fd : FuncData) (ps : List Str), v = .ref f ∧ FnOk X.prog X.w X.K X.mg X.base (L2.CX X.prog X.w) k f fd ps (spD X.K cls n fn) ∧ Room k X.A ∧
  PySem.W.keepIn X.K (.ref f) = true ∧ Binds X.K fd ps [] ∧ ∀ ds, ds.length ≠ n → fn ds = .bad
theorem fn_get {fn : List D → R D} : ∀ {vs : List V} {fns : List (List D → R D)} {k : Nat}, Paired (FnA X cls) vs fns → fns[k]? = some fn → ∃ v, vs[k]? = some v ∧ FnA X cls v fn
  | _, _, _, .nil, e => by simp at e
  | _, _, 0, .cons a _, e => by simp at e; subst e; exact ⟨_, rfl, a⟩
  | _, _, k + 1, .cons _ b, e => by
    obtain ⟨v, h1, h2⟩ := fn_get (k := k) b (by simpa using e)
    exact ⟨v, by simpa using h1, h2⟩
theorem fn_at {vs : List V} {fns : List (List D → R D)} (h : Paired (FnA X cls) vs fns) {j : Int} {fn : List D → R D} (e : atI fns j = some fn) : ∃ v, atI vs j = some v ∧ FnA X cls v fn := by
  have hl : vs.length = fns.length := Paired.length h
  unfold atI at e ⊢
  rw [hl]
  cases q : ixN fns.length j with
  | none => rw [q] at e; cases e
  | some k =>
    rw [q] at e
    exact fn_get h e
theorem tG_callX {vs : List V} {fns : List (List D → R D)} {fi : EnvD → R D} {fs : EnvD → R (List D)} {tl : TA} (hp : Paired (FnA X cls) vs fns) (hz : vs.length ≤ sizeLine) (htl : ∀ σ H (Q : List V → Hp → Prop), Q vs H → tl σ H Q) {σ : L2.St} {H : Hp} {Q : VK}
    (h : tG X.K cls W (pV X.K) (callXF fns fi fs) σ H Q) : tCallX X W (tOp (rIx X.K) (tLst tl) (tG X.K cls W (pV X.K) fi)) (tG X.K cls W (pA X.K) fs) σ H Q := by
  obtain ⟨H0, F, env, ea, g⟩ := h
  refine htl σ H _ ⟨hz, fun p hpn => ?_⟩
  have e0 : Ext F H F (upd H p (.lst vs)) := Ext.newH ea.fh hpn
  have ea0 := ea.mono e0
  have g0 : Go cls (pV X.K) W σ F (upd H p (.lst vs)) (callXF fns fi fs env) Q := by
    cases q : callXF fns fi fs env with
    | ok d => rw [q] at g; exact fun v F' H' x r => g v F' H' (e0.trans x) r
    | err c => rw [q] at g; exact fun F' H' x => g F' H' (e0.trans x)
    | bad => rw [q] at g; exact g
  refine ⟨H0, F, env, ea0, (Go.bind g0).imp fun y H1 ⟨F1, d, _, e1, p1, g1⟩ => ?_⟩
  cases d with
  | int j =>
    cases p1
    cases w : atI fns j with
    | none => simp only [w] at g1; exact g1.elim
    | some fn =>
      simp only [w] at g1
      obtain ⟨v, hv, f, k, n, fd, ps, rfl, f1, f2, f3, f4, f5⟩ := fn_at hp w
      refine .inl ⟨p, vs, j, .ref f, rfl, rfl, SqL.of (e1.h _ _ upd_same), hv, f, k, fd, ps, _, rfl, f1, f2, f3, f4, H0, F1, env, ea0.mono e1, (Go.bind g1).imp fun us H2 ⟨F2, ds, _, e2, p2, g2⟩ => ?_⟩
      have hl : ds.length = n := by
        by_cases q : ds.length = n
        · exact q
        · rw [f5 ds q] at g2; exact g2.elim
      refine ⟨by rw [Reps.length p2]; exact hl, F2, ds, e2.i, p2, ?_⟩
      cases q : fn ds with
      | ok d => rw [q] at g2; exact g2
      | err c => rw [q] at g2; exact g2
      | bad => rw [q] at g2; exact g2
  | _ => exact g1.elim
theorem Fn.at' {k n : Nat} {x : Str} {fn : List D → R D} (G : Fn X.prog X.w X.K X.mg X.base cls k x n fn) (hr : Room k X.A) : ∃ f : Addr, X.mg x = some (.ref f) ∧ FnA X cls (.ref f) fn := by
  obtain ⟨f, fd, ps, G1, G2, G3, G4⟩ := G.ex
  exact ⟨f, G2, f, k, n, fd, ps, rfl, G1, hr, G3, G4, G.len⟩
theorem pd_callX2 {k1 n1 k2 n2 : Nat} {x1 x2 : Str} {fn1 fn2 : List D → R D} {fi : EnvD → R D} {fs : EnvD → R (List D)} {p1 p2 lp sp : Pos} (G1 : Fn X.prog X.w X.K X.mg X.base cls k1 x1 n1 fn1) (G2 : Fn X.prog X.w X.K X.mg X.base cls k2 x2 n2 fn2)
    (r1 : Room k1 X.A) (r2 : Room k2 X.A) (g1 : Gl X x1) (g2 : Gl X x2) (tk : Takes X W) (hi : PDE X cls W (pV X.K) i fi) (hs : PlainIx i) (ha : PDA X cls W (pA X.K) (e :: es) fs)
    (d1 : (x1 == ("__debug__" : Str)) = false := by decide) (d2 : (x2 == ("__debug__" : Str)) = false := by decide)
    (s1 : starEach [.Name x1 p1, .Name x2 p2] X.env = (false, eval (.Name x1 p1) X.env) :: starEach [.Name x2 p2] X.env := by rfl) (s2 : starEach [.Name x2 p2] X.env = (false, eval (.Name x2 p2) X.env) :: starEach [] X.env := by rfl)
    (ht : eval (.Call (.Subscript (.List [.Name x1 p1, .Name x2 p2] lp) i sp) (e :: es) [] pos) X.env = (do callWith pos (← eval (.Subscript (.List [.Name x1 p1, .Name x2 p2] lp) i sp) X.env) [] (backTo pos (starEach (e :: es) X.env)) (backToKw pos (keywordEach [] X.env))) := by rfl)
    (he : starEach (e :: es) X.env = (false, eval e X.env) :: starEach es X.env := by rfl) (hpl : (backTo pos (starEach es X.env)).any (·.1) = false := by rfl) :
    PDE X cls W (pV X.K) (.Call (.Subscript (.List [.Name x1 p1, .Name x2 p2] lp) i sp) (e :: es) [] pos) (callXF [fn1, fn2] fi fs) := by
  obtain ⟨f1, m1, a1⟩ := Fn.at' G1 r1
  obtain ⟨f2, m2, a2⟩ := Fn.at' G2 r2
  refine pe_imp (pe_callX tk (pe_ix ix_seq (pe_lst (pa_cons (pe_glob (v := .ref f1) g1 m1 rfl d1) (pa_cons (pe_glob (v := .ref f2) g2 m2 rfl d2) pa_nil s2) s1)) hi hs) ha ht he hpl) fun σ H Q h => ?_
  exact tG_callX (vs := [.ref f1, .ref f2]) (.cons a1 (.cons a2 .nil)) (by show 2 ≤ sizeLine; decide) (fun σ H Q h => h) h
theorem pd_callX3 {k1 n1 k2 n2 k3 n3 : Nat} {x1 x2 x3 : Str} {fn1 fn2 fn3 : List D → R D} {fi : EnvD → R D} {fs : EnvD → R (List D)} {p1 p2 p3 lp sp : Pos} (G1 : Fn X.prog X.w X.K X.mg X.base cls k1 x1 n1 fn1) (G2 : Fn X.prog X.w X.K X.mg X.base cls k2 x2 n2 fn2) (G3 : Fn X.prog X.w X.K X.mg X.base cls k3 x3 n3 fn3)
    (r1 : Room k1 X.A) (r2 : Room k2 X.A) (r3 : Room k3 X.A) (g1 : Gl X x1) (g2 : Gl X x2) (g3 : Gl X x3) (tk : Takes X W) (hi : PDE X cls W (pV X.K) i fi) (hs : PlainIx i) (ha : PDA X cls W (pA X.K) (e :: es) fs)
    (d1 : (x1 == ("__debug__" : Str)) = false := by decide) (d2 : (x2 == ("__debug__" : Str)) = false := by decide) (d3 : (x3 == ("__debug__" : Str)) = false := by decide)
    (s1 : starEach [.Name x1 p1, .Name x2 p2, .Name x3 p3] X.env = (false, eval (.Name x1 p1) X.env) :: starEach [.Name x2 p2, .Name x3 p3] X.env := by rfl) (s2 : starEach [.Name x2 p2, .Name x3 p3] X.env = (false, eval (.Name x2 p2) X.env) :: starEach [.Name x3 p3] X.env := by rfl)
    (s3 : starEach [.Name x3 p3] X.env = (false, eval (.Name x3 p3) X.env) :: starEach [] X.env := by rfl)
    (ht : eval (.Call (.Subscript (.List [.Name x1 p1, .Name x2 p2, .Name x3 p3] lp) i sp) (e :: es) [] pos) X.env = (do callWith pos (← eval (.Subscript (.List [.Name x1 p1, .Name x2 p2, .Name x3 p3] lp) i sp) X.env) [] (backTo pos (starEach (e :: es) X.env)) (backToKw pos (keywordEach [] X.env))) := by rfl)
    (he : starEach (e :: es) X.env = (false, eval e X.env) :: starEach es X.env := by rfl) (hpl : (backTo pos (starEach es X.env)).any (·.1) = false := by rfl) :
    PDE X cls W (pV X.K) (.Call (.Subscript (.List [.Name x1 p1, .Name x2 p2, .Name x3 p3] lp) i sp) (e :: es) [] pos) (callXF [fn1, fn2, fn3] fi fs) := by
  obtain ⟨f1, m1, a1⟩ := Fn.at' G1 r1
  obtain ⟨f2, m2, a2⟩ := Fn.at' G2 r2
  obtain ⟨f3, m3, a3⟩ := Fn.at' G3 r3
  refine pe_imp (pe_callX tk (pe_ix ix_seq (pe_lst (pa_cons (pe_glob (v := .ref f1) g1 m1 rfl d1) (pa_cons (pe_glob (v := .ref f2) g2 m2 rfl d2) (pa_cons (pe_glob (v := .ref f3) g3 m3 rfl d3) pa_nil s3) s2) s1)) hi hs) ha ht he hpl) fun σ H Q h => ?_
  exact tG_callX (vs := [.ref f1, .ref f2, .ref f3]) (.cons a1 (.cons a2 (.cons a3 .nil))) (by show 3 ≤ sizeLine; decide) (fun σ H Q h => h) h
end
end PD

set_option maxHeartbeats 4000000
namespace PD
open PySem PySem.Spec PyProof.Rows L2
/-! ### targets -/
/-- (a, .., z) = v, v a tuple or a list -/
def gSeqA (K : PySem.W.Frag) (n : Nat) (t : TGs) : TG := fun v σ H Q => ∃ a xs, v = .ref a ∧ (SqT K H a xs ∨ SqL K H a xs) ∧ xs.length = n ∧ t xs σ H Q
theorem pg_seqA {X : Cx} {pos : Pos} {es : List Expr} {k : Nat} {t : TGs} {n : Nat} (hc : X.calm = true) (h : PGs X es t)
    (hn : (assignEach es X.env).length = n := by rfl) (hst : (assignEach es X.env).findIdx? (·.1) = none := by rfl) : PG X (.Tuple es k pos) (gSeqA X.K n t) := by
  refine ⟨fun pins s σ H v u Q I r hw => ?_⟩
  obtain ⟨a, xs, e1, hq, hl, hw⟩ := hw
  rcases hq with hq | hq
  · exact (pg_tup hc h hn hst).run pins s σ H v u Q I r ⟨a, xs, e1, hq, hl, hw⟩
  · subst e1
    cases r
    obtain ⟨its, rv, p, hz⟩ := I.list hq
    rw [assign_Tuple]
    refine wpAny_bind (wpAny_standAt ?_)
    unfold unpack
    rw [show (assignEach es X.env).length = its.toArray.size by simp [hn, ← hl, rv.length], hst]
    refine wpAny_bind (wpAny_holding (PySem.W.kun_itemsOf (I.ok.hd hc) p.isList fun h' hx => ?_))
    have I1 : Inv X pins σ H { s with heap := h' } := I.kept (t' := s.toks) fun b o e => hx b o (Nat.ne_of_lt (Heap.lt_size e)) e
    exact h.run pins _ σ H xs _ Q I1 (by simpa using rv) hw
inductive Pat where
  | nm (i : Nat) | tp (is : List Nat)
def Pat.ix : Pat → List Nat
  | .nm i => [i]
  | .tp is => is
def sets : List Nat → List D → EnvD → EnvD
  | i :: is, d :: ds, e => sets is ds (e.set i (.val d))
  | _, _, e => e
def bindP : Pat → D → EnvD → Option EnvD
  | .nm i, d, e => some (e.set i (.val d))
  | .tp is, .tup ds, e => if ds.length = is.length then some (sets is ds e) else none
  | .tp is, .itm ds, e => if ds.length = is.length then some (sets is ds e) else none
  | .tp is, .lst ds, e => if ds.length = is.length then some (sets is ds e) else none
  | .tp _, _, _ => none
def gNames : List Nat → TGs
  | [] => gNil
  | i :: is => gCons (gName i) (gNames is)
def gPat (K : PySem.W.Frag) : Pat → TG
  | .nm i => gName i
  | .tp is => gSeqA K is.length (gNames is)
def wipeE (env : EnvD) : List Nat → EnvD
  | [] => env
  | v :: vs => (wipeE env vs).set v .no
theorem set_swap {α : Type} {l : List α} {i j : Nat} {x y : α} (h : i ≠ j) : (l.set i x).set j y = (l.set j y).set i x := by
  apply List.ext_getElem?
  intro k
  by_cases hi : i = k
  · subst hi
    rw [List.getElem?_set_ne (Ne.symm h)]
    simp [List.getElem?_set]
  · by_cases hj : j = k
    · subst hj
      rw [List.getElem?_set_ne (l := l.set j y) hi]
      simp [List.getElem?_set, hi]
    · rw [List.getElem?_set_ne hj, List.getElem?_set_ne hi, List.getElem?_set_ne hi, List.getElem?_set_ne hj]
theorem set_set' {α : Type} {l : List α} {i : Nat} {x y : α} : (l.set i x).set i y = l.set i y := by
  apply List.ext_getElem?
  intro k
  simp only [List.getElem?_set, List.length_set]
  split <;> rfl
theorem wipe_set {σ : L2.St} {i : Nat} {x : Option V} : ∀ {vs : List Nat}, i ∈ vs → wipe (σ.set i x) vs = wipe σ vs
  | v :: vs, h => by
    show (wipe (σ.set i x) vs).set v none = (wipe σ vs).set v none
    have comm : ∀ ws : List Nat, i ∉ ws → wipe (σ.set i x) ws = (wipe σ ws).set i x := by
      intro ws
      induction ws with
      | nil => intro _; rfl
      | cons u us ih =>
        intro hn
        have h1 : i ≠ u := fun e => hn (by simp [e])
        have h2 : i ∉ us := fun e => hn (by simp [e])
        show (wipe (σ.set i x) us).set u none = ((wipe σ us).set u none).set i x
        rw [ih h2, set_swap h1]
    by_cases hm : i ∈ vs
    · rw [wipe_set hm]
    · have e : i = v := by
        rcases List.mem_cons.mp h with e | e
        · exact e
        · exact absurd e hm
      subst e
      rw [comm vs hm, set_set']
section
variable {K : PySem.W.Frag} {H0 F H : Hp} {env : EnvD} {σ : L2.St}
theorem EnvAt.wipe (h : EnvAt K H0 env σ F H) : ∀ vs : List Nat, EnvAt K H0 (wipeE env vs) (wipe σ vs) F H
  | [] => h
  | v :: vs => (EnvAt.wipe h vs).setNo v none
theorem gNames_ok : ∀ {is : List Nat} {ds : List D} {vs : List V} {env : EnvD} {σ : L2.St} {Q : L2.St → Hp → Prop}, is.length = ds.length → Reps K F vs ds → EnvAt K H0 env σ F H →
    (∀ σ', EnvAt K H0 (sets is ds env) σ' F H → (∀ ws : List Nat, (∀ i ∈ is, i ∈ ws) → L2.wipe σ' ws = L2.wipe σ ws) → Q σ' H) → gNames is vs σ H Q
  | [], [], _, env, σ, Q, _, r, ea, k => by cases r; exact ⟨rfl, k σ ea fun _ _ => rfl⟩
  | i :: is, d :: ds, _, env, σ, Q, hl, r, ea, k => by
    cases r with
    | cons a b =>
      refine ⟨_, _, rfl, gNames_ok (is := is) (ds := ds) (by simpa using hl) b (ea.setV i a) fun σ' ea' hw => k σ' ea' fun ws hws => ?_⟩
      rw [hw ws fun j hj => hws j (List.mem_cons_of_mem _ hj), wipe_set (hws i (by simp))]
theorem gPat_ok {p : Pat} {d : D} {v : V} {env' : EnvD} {Q : L2.St → Hp → Prop} (ea : EnvAt K H0 env σ F H) (r : Rep K F v d) (hb : bindP p d env = some env')
    (k : ∀ σ', EnvAt K H0 env' σ' F H → (∀ ws : List Nat, (∀ i ∈ p.ix, i ∈ ws) → L2.wipe σ' ws = L2.wipe σ ws) → Q σ' H) : gPat K p v σ H Q := by
  cases p with
  | nm i =>
    cases hb
    exact k _ (ea.setV i r) fun ws hws => wipe_set (hws i (by simp [Pat.ix]))
  | tp is =>
    cases r with
    | tup h1 h2 h3 =>
      rename_i ds
      have hb : (if ds.length = is.length then some (sets is ds env) else none) = some env' := hb
      by_cases hl : ds.length = is.length
      · rw [if_pos hl] at hb
        cases hb
        exact ⟨_, _, rfl, .inl (h1.mono ea.fh).sq, by rw [h3.length]; exact hl, gNames_ok hl.symm h3 ea k⟩
      · rw [if_neg hl] at hb; cases hb
    | itm h1 h2 h3 =>
      rename_i ds
      have hb : (if ds.length = is.length then some (sets is ds env) else none) = some env' := hb
      by_cases hl : ds.length = is.length
      · rw [if_pos hl] at hb
        cases hb
        exact ⟨_, _, rfl, .inl (SqT.of (ea.fh _ _ h1)), by rw [h3.length]; exact hl, gNames_ok hl.symm h3 ea k⟩
      · rw [if_neg hl] at hb; cases hb
    | lst h1 h2 h3 =>
      rename_i ds
      have hb : (if ds.length = is.length then some (sets is ds env) else none) = some env' := hb
      by_cases hl : ds.length = is.length
      · rw [if_pos hl] at hb
        cases hb
        exact ⟨_, _, rfl, .inr (SqL.of (ea.fh _ _ h1)), by rw [h3.length]; exact hl, gNames_ok hl.symm h3 ea k⟩
      · rw [if_neg hl] at hb; cases hb
    | _ => cases hb
end
theorem pg_nm {X : Cx} {i : Nat} {e : Expr} (h : PG X e (gName i)) : PG X e (gPat X.K (.nm i)) := h
theorem pg_tp {X : Cx} {es : List Expr} {k : Nat} {is : List Nat} {pos : Pos} (hc : X.calm = true) (h : PGs X es (gNames is)) (hn : (assignEach es X.env).length = is.length := by rfl) (hst : (assignEach es X.env).findIdx? (fun x => x.1) = none := by rfl) : PG X (.Tuple es k pos) (gPat X.K (.tp is)) := pg_seqA hc h hn hst
theorem pgn_nil {X : Cx} : PGs X [] (gNames []) := pgs_nil
theorem pgn_cons {X : Cx} {e : Expr} {es : List Expr} {i : Nat} {is : List Nat} (h1 : PG X e (gName i)) (h2 : PGs X es (gNames is)) (hs : (assignEach (e :: es) X.env).map (·.2) = assign e X.env :: (assignEach es X.env).map (·.2) := by rfl) : PGs X (e :: es) (gNames (i :: is)) := pgs_cons h1 h2 hs
/-! ### for -/
def forL (p : Pat) (G : EnvD → Out) : List D → EnvD → Out
  | [], e => .next e
  | d :: r, e => match bindP p d e with
    | none => .bad
    | some e1 => match G e1 with
      | .next e2 => forL p G r e2
      | .cont e2 => forL p G r e2
      | .brk e2 => .next e2
      | .ret d => .ret d
      | .err c e2 => .err c e2
      | .bad => .bad
def forS (p : Pat) (f : EnvD → R (List D)) (G : EnvD → Out) : EnvD → Out := fun env => bindS (f env) env fun ds => forL p G ds env
section
variable {X : Cx} {cls : Exc → Addr} {W : WX} {e a b c tg iter : Expr} {pos : Pos} {G : EnvD → Out}
theorem pds_for {p : Pat} {f : EnvD → R (List D)} {body : List Stmt} (hp : PassesOwn (model X.prog X.w) X.A X.env X.xe) (hc : X.calm = true) (hi : PDI X cls W false tg iter f) (hg : PG X tg (gPat X.K p)) (hb : PDSs X cls W body G)
    (hs : ∀ x, foldedSetIterable iter X.env x = pure x := by intro _; rfl) : PDS X cls W (.For tg iter body [] pos) (forS p f G) := ps_imp (ps_for hp hc hi hg hb hs) fun D σ H ⟨H0, F0, env, F, x, ea, g⟩ => by
  refine ⟨H0, F, env, ea, (g.expr x ea).imp fun J H1 ⟨F1, ds, _, e1, ⟨hz, wk⟩, g1⟩ => ?_⟩
  have ea1 := ea.mono e1
  have x1 := x.trans e1
  refine ⟨fun i m σ' H' => m = ds.length - i ∧ i ≤ ds.length ∧ ∃ F' env', Ext F0 H0 F' H' ∧ Same F1 F' ∧ EnvAt X.K H0 env' σ' F' H' ∧ GoS X.K cls W F0 H0 F' (forL p G (ds.drop i) env') D, ⟨ds.length, by simp, Nat.zero_le _, F1, env, x1, Same.refl _, ea1, g1⟩, ?_⟩
  rintro i m σ' H' ⟨rfl, hi, F', env', x', s', ea', g'⟩
  have w := wk F' H' s' ea'.fh (fun q => nomatch q)
  by_cases hlt : i < ds.length
  · obtain ⟨d, hd⟩ : ∃ d, ds[i]? = some d := ⟨ds[i], by simp [hlt]⟩
    have hdr : ds.drop i = d :: ds.drop (i + 1) := by
      rw [List.drop_eq_getElem_cons hlt]
      have : ds[i] = d := by rw [List.getElem?_eq_getElem hlt] at hd; exact Option.some.inj hd
      rw [this]
    rw [hdr] at g'
    have g2 : GoS X.K cls W F0 H0 F' (match bindP p d env' with
      | none => .bad
      | some e1 => match G e1 with
        | .next e2 => forL p G (ds.drop (i + 1)) e2
        | .cont e2 => forL p G (ds.drop (i + 1)) e2
        | .brk e2 => .next e2
        | .ret d => .ret d
        | .err c e2 => .err c e2
        | .bad => .bad) D := g'
    obtain ⟨go, yl⟩ := w.1 i d hd
    refine .inr ⟨go, fun σ2 H2 => ∃ F2 env2, Ext F0 H0 F2 H2 ∧ Same F1 F2 ∧ EnvAt X.K H0 env2 σ2 F2 H2 ∧ GoS X.K cls W F0 H0 F2 (forL p G (ds.drop (i + 1)) env2) D, ?_, fun v H2 y => ?_⟩
    · rintro σ2 H2 ⟨F2, env2, h1, h2, h3, h4⟩
      exact ⟨ds.length - (i + 1), by omega, rfl, hlt, F2, env2, h1, h2, h3, h4⟩
    · obtain ⟨F2, e2, r2⟩ := yl v H2 y
      cases qb : bindP p d env' with
      | none => rw [qb] at g2; exact g2.elim
      | some env1 =>
        rw [qb] at g2
        refine gPat_ok (ea'.mono e2) r2 qb fun σ2 ea2 _ => ⟨H0, F0, env1, F2, x'.trans e2, ea2, ?_⟩
        have g3 := g2.from e2.f
        dsimp only at g3
        have s2 : Same F1 F2 := s'.trans e2.f
        cases q : G env1 with
        | next e => rw [q] at g3; exact fun σ3 F3 H3 x3 s3 ea3 => ⟨F3, e, x3, s2.trans s3, ea3, g3.from s3⟩
        | cont e => rw [q] at g3; exact fun σ3 F3 H3 x3 s3 ea3 => ⟨F3, e, x3, s2.trans s3, ea3, g3.from s3⟩
        | brk e => rw [q] at g3; exact g3
        | ret e => rw [q] at g3; exact g3
        | err c e => rw [q] at g3; exact g3
        | bad => rw [q] at g3; exact g3
  · have e : i = ds.length := by omega
    subst e
    rw [List.drop_length] at g'
    exact .inl ⟨w.2, g' σ' F' H' x' (Same.refl _) ea'⟩
/-! ### while -/
def whileL (t : EnvD → R Bool) (G : EnvD → Out) : Nat → EnvD → Out
  | 0, _ => .bad
  | n + 1, e => bindS (t e) e fun k => if k = true then (match G e with
      | .next e2 => whileL t G n e2
      | .cont e2 => whileL t G n e2
      | .brk e2 => .next e2
      | .ret d => .ret d
      | .err c e2 => .err c e2
      | .bad => .bad) else .next e
theorem pds_while {t : EnvD → R Bool} {body : List Stmt} (n : Nat) (hp : PassesOwn (model X.prog X.w) X.A X.env X.xe) (hc : PDT X cls W c t) (hb : PDSs X cls W body G) : PDS X cls W (.While c body [] pos) (whileL t G n) :=
  ps_imp (ps_while hp hc hb) fun D σ H ⟨H0, F0, env, F, x, ea, g⟩ => by
  refine ⟨fun m σ' H' => ∃ F' env', Ext F0 H0 F' H' ∧ EnvAt X.K H0 env' σ' F' H' ∧ Same F F' ∧ GoS X.K cls W F0 H0 F' (whileL t G m env') D, ⟨n, F, env, x, ea, Same.refl _, g⟩, ?_⟩
  rintro m σ' H' ⟨F', env', x', ea', s', g'⟩
  cases m with
  | zero => exact g'.elim
  | succ m =>
    have g2 : GoS X.K cls W F0 H0 F' (bindS (t env') env' fun k => if k = true then (match G env' with
      | .next e2 => whileL t G m e2
      | .cont e2 => whileL t G m e2
      | .brk e2 => .next e2
      | .ret d => .ret d
      | .err c e2 => .err c e2
      | .bad => .bad) else .next env') D := g'
    refine ⟨H0, F', env', ea', (g2.expr x' ea').imp fun k H1 ⟨F1, d, _, e1, p1, g3⟩ => ?_⟩
    cases p1
    have x1 := x'.trans e1
    have ea1 := ea'.mono e1
    cases k with
    | false => exact g3 σ' F1 H1 x1 (Same.refl _) ea1
    | true =>
      refine ⟨fun σ2 H2 => ∃ F2 env2, Ext F0 H0 F2 H2 ∧ EnvAt X.K H0 env2 σ2 F2 H2 ∧ Same F F2 ∧ GoS X.K cls W F0 H0 F2 (whileL t G m env2) D, fun σ2 H2 h => ⟨m, Nat.lt_succ_self m, h⟩, H0, F0, env', F1, x1, ea1, ?_⟩
      have s1 := s'.trans e1.f
      have g4 : GoS X.K cls W F0 H0 F1 (match G env' with
        | .next e2 => whileL t G m e2
        | .cont e2 => whileL t G m e2
        | .brk e2 => .next e2
        | .ret d => .ret d
        | .err c e2 => .err c e2
        | .bad => .bad) D := g3
      cases q : G env' with
      | next e => rw [q] at g4; exact fun σ3 F3 H3 x3 s3 ea3 => ⟨F3, e, x3, ea3, s1.trans s3, g4.from s3⟩
      | cont e => rw [q] at g4; exact fun σ3 F3 H3 x3 s3 ea3 => ⟨F3, e, x3, ea3, s1.trans s3, g4.from s3⟩
      | brk e => rw [q] at g4; exact g4
      | ret e => rw [q] at g4; exact g4
      | err c e => rw [q] at g4; exact g4
      | bad => rw [q] at g4; exact g4
/-! ### comprehensions -/
abbrev W0 : WX := fun _ _ _ _ => False
def lcL (p : Pat) (vs : List Nat) (t : EnvD → R Bool) (f : EnvD → R D) : List D → EnvD → R (List D)
  | [], _ => .ok []
  | d :: r, env => match bindP p d (wipeE env vs) with
    | none => .bad
    | some e => match t e with
      | .ok true => (match f e with
        | .ok y => (lcL p vs t f r env).map (y :: ·)
        | _ => .bad)
      | .ok false => lcL p vs t f r env
      | _ => .bad
def lcF (p : Pat) (vs : List Nat) (t : EnvD → R Bool) (f : EnvD → R D) (src : EnvD → R (List D)) : EnvD → R (List D) := fun env => (src env).bind fun ds => lcL p vs t f ds env
def yesF : EnvD → R Bool := fun _ => .ok true
theorem pts_yes {X : Cx} {K : PySem.W.Frag} : PTs X [] (tG K cls W0 pT yesF) := ⟨fun pins s σ H Q I h => pts_nil.run pins s σ H Q I (by
  obtain ⟨H0, F, env, ea, g⟩ := h
  exact g true F H (Ext.refl ea.fh) rfl)⟩
theorem R.map_map {α β γ : Type} (f : α → β) (g : β → γ) (r : R α) : (r.map f).map g = r.map (fun x => g (f x)) := by cases r <;> rfl
theorem lcTurn {K : PySem.W.Frag} {F1 H1 F' H : Hp} {Da : Addr} {acc : List V} {es : List D} (nD : H1 Da = none) (x : Ext F1 H1 F' H) (fD : F' Da = none) (v : V) : Ext F1 H1 F' (upd H Da (.lst (acc ++ [v]))) :=
  ⟨x.f, fun a o h => by rw [upd_ne (ne_of_none h nD)]; exact x.h a o h, x.i.into fD, x.n⟩
theorem lc_read {bb : Bool} {p : Pat} {vs : List Nat} {t : EnvD → R Bool} {f : EnvD → R D} {src : EnvD → R (List D)} {K : PySem.W.Frag} {σ : L2.St} {H : Hp} {Q : VK} (hp : ∀ i ∈ p.ix, i ∈ vs)
    (h : tG K cls W (pN K) (lcF p vs t f src) σ H Q) : tLc (tG K cls W (pI K bb) src) (gPat K p) (tG K cls W0 pT t) (tG K cls W0 (pV K) f) vs σ H Q := by
  obtain ⟨H0, F, env, ea, g⟩ := h
  refine ⟨H0, F, env, ea, (Go.bind g).imp fun J H1 ⟨F1, ds, _, e1, ⟨hz, wk⟩, g1⟩ => fun Da nD => ?_⟩
  have ea1 := ea.mono e1
  refine ⟨fun i m H2 => m = ds.length - i ∧ i ≤ ds.length ∧ ∃ F2 acc es, Ext F1 H1 F2 H2 ∧ F2 Da = none ∧ H2 Da = some (.lst acc) ∧ acc.length ≤ i ∧ Reps K F2 acc es ∧ lcL p vs t f ds env = (lcL p vs t f (ds.drop i) env).map (es ++ ·),
    ⟨ds.length, by simp, Nat.zero_le _, F1, [], [], Ext.newH e1.i nD, e1.i.free nD, upd_same, Nat.le_refl _, .nil, ?_⟩, ?_⟩
  · cases q : lcL p vs t f ds env with
    | ok r => simp [R.map, q]
    | err c => simp [R.map, q]
    | bad => simp [R.map, q]
  rintro i m H2 ⟨rfl, hi, F2, acc, es, x2, fD, hD, hl, ra, tot⟩
  have w := wk F2 H2 x2.f x2.i fun _ => x2.h
  by_cases hlt : i < ds.length
  · obtain ⟨d, hd⟩ : ∃ d, ds[i]? = some d := ⟨ds[i], by simp [hlt]⟩
    have hdr : ds.drop i = d :: ds.drop (i + 1) := by
      rw [List.drop_eq_getElem_cons hlt]
      have : ds[i] = d := by rw [List.getElem?_eq_getElem hlt] at hd; exact Option.some.inj hd
      rw [this]
    rw [hdr] at tot
    obtain ⟨go, yl⟩ := w.1 i d hd
    refine .inr ⟨go, fun H3 => ∃ F3 acc es, Ext F1 H1 F3 H3 ∧ F3 Da = none ∧ H3 Da = some (.lst acc) ∧ acc.length ≤ i + 1 ∧ Reps K F3 acc es ∧ lcL p vs t f ds env = (lcL p vs t f (ds.drop (i + 1)) env).map (es ++ ·), ?_, fun v H3 y => ?_⟩
    · rintro H3 ⟨F3, acc3, es3, h1, h2, h3, h4, h5, h6⟩
      exact ⟨ds.length - (i + 1), by omega, rfl, hlt, F3, acc3, es3, h1, h2, h3, h4, h5, h6⟩
    · obtain ⟨F3, e3, r3⟩ := yl v H3 y
      have x3 := x2.trans e3
      have bad_of : lcL p vs t f (d :: ds.drop (i + 1)) env = .bad → False := fun q => by
        rw [tot, q] at g1; exact g1
      cases qb : bindP p d (wipeE env vs) with
      | none => exact (bad_of (by simp [lcL, qb])).elim
      | some env1 =>
        refine gPat_ok ((ea1.mono x3).wipe vs) r3 qb fun σ4 ea4 hw => ⟨?_, ?_⟩
        · rw [hw vs hp]
          have idem : ∀ (ws : List Nat) (τ : L2.St), (∀ i ∈ ws, i ∈ vs) → L2.wipe (L2.wipe τ ws) vs = L2.wipe τ vs := by
            intro ws
            induction ws with
            | nil => intro τ _; rfl
            | cons u us ih =>
              intro τ hu
              show L2.wipe ((L2.wipe τ us).set u none) vs = L2.wipe τ vs
              rw [wipe_set (hu u (by simp)), ih τ fun j hj => hu j (List.mem_cons_of_mem _ hj)]
          exact idem vs σ fun _ h => h
        · refine ⟨H0, F3, env1, ea4, ?_⟩
          cases qt : t env1 with
          | err c => exact (bad_of (by simp [lcL, qb, qt])).elim
          | bad => exact (bad_of (by simp [lcL, qb, qt])).elim
          | ok k =>
            intro kk F5 H5 e5 pk
            cases pk
            have x5 := x3.trans e5
            have d5 : F5 Da = none := by
              have := e3.keep hD rfl fD
              exact e5.keep (e3.h _ _ hD) rfl this
            have hD5 : H5 Da = some (.lst acc) := e5.h _ _ (e3.h _ _ hD)
            cases k with
            | false =>
              refine ⟨F5, acc, es, x5, d5, hD5, by omega, ra.mono (e3.f.trans e5.f), ?_⟩
              rw [tot]; simp [lcL, qb, qt]
            | true =>
              refine ⟨H0, F5, env1, ea4.mono e5, ?_⟩
              cases qf : f env1 with
              | err c => exact (bad_of (by simp [lcL, qb, qt, qf])).elim
              | bad => exact (bad_of (by simp [lcL, qb, qt, qf])).elim
              | ok yd =>
                intro yv F6 H6 e6 ry
                have d6 := e6.keep hD5 rfl d5
                have hD6 := e6.h _ _ hD5
                have hs : acc.length < sizeLine := by omega
                refine ⟨acc, hD6, hs, F6, acc ++ [yv], es ++ [yd], lcTurn (K := K) (es := es) nD (x5.trans e6) d6 yv, d6, upd_same, by simp; omega, (ra.mono ((e3.f.trans e5.f).trans e6.f)).snoc ry, ?_⟩
                rw [tot]
                simp only [lcL, qb, qt, qf]
                rw [R.map_map]
                congr 1
                funext z
                simp
  · have e : i = ds.length := by omega
    subst e
    rw [List.drop_length] at tot
    have g2 : Go cls (pN K) W σ F1 H1 (.ok es) Q := by
      have : lcL p vs t f ds env = .ok es := by rw [tot]; simp [lcL, R.map]
      rw [this] at g1; exact g1
    exact .inl ⟨w.2, g2 _ F2 H2 x2 ⟨Da, acc, rfl, nD, fD, hD, by omega, ra⟩⟩
theorem pd_lc {bb : Bool} {elt : Expr} {ifs : List Expr} {scope : Scope} {own : List (Str × Nat)} {p : Pat} {t : EnvD → R Bool} {f : EnvD → R D} {src : EnvD → R (List D)} (hc : X.calm = true) (hN : X.N.Nodup) (hi : PDI X cls W bb tg iter src) (ok : BlkOk X.N X.env.scope scope own)
    (hg : ∀ (s : Shared) (H : Hp) (C : Addr) (cl : List (Str × Addr)) (fp : List Addr), PG (X.blk s H scope (compEnvC scope cl C X.env) fp) tg (gPat X.K p))
    (ht : ∀ (s : Shared) (H : Hp) (C : Addr) (cl : List (Str × Addr)) (fp : List Addr), PTs (X.blk s H scope (compEnvC scope cl C X.env) fp) ifs (tG X.K cls W0 pT t))
    (he : ∀ (s : Shared) (H : Hp) (C : Addr) (cl : List (Str × Addr)) (fp : List Addr), PE (X.blk s H scope (compEnvC scope cl C X.env) fp) elt (tG X.K cls W0 (pV X.K) f))
    (hp : (p.ix.all fun i => (own.map (·.2)).contains i) = true) (hs : ∀ x, foldedSetIterable iter X.env x = pure x := by intro _; rfl) :
    PDE X cls W (pN X.K) (.ListComp elt [⟨tg, iter, ifs, 0⟩] scope pos) (lcF p (own.map (·.2)) t f src) :=
  pe_imp (pe_lc hc hN hi ok hg ht he hs) fun σ H Q h => lc_read (fun i hi => by simpa using List.all_eq_true.mp hp i hi) h
theorem pds_setLc {bb : Bool} {i : Nat} {y : Str} {py : Pos} {elt : Expr} {ifs : List Expr} {scope : Scope} {own : List (Str × Nat)} {p : Pat} {t : EnvD → R Bool} {f : EnvD → R D} {src : EnvD → R (List D)} {spos : Pos} (hc : X.calm = true) (hN : X.N.Nodup)
    (hy : X.N[i]? = some y) (hyl : X.env.scope.names.lookup y = some .local)
    (hsw : swapsWith (.ListComp elt [⟨tg, iter, ifs, 0⟩] scope pos) (some (.Name y py)) spos.line X.env = pure true) (hi : PDI X cls W bb tg iter src) (ok : BlkOk X.N X.env.scope scope own)
    (hg : ∀ (s : Shared) (H : Hp) (C : Addr) (cl : List (Str × Addr)) (fp : List Addr), PG (X.blk s H scope (compEnvC scope cl C X.env) fp) tg (gPat X.K p))
    (ht : ∀ (s : Shared) (H : Hp) (C : Addr) (cl : List (Str × Addr)) (fp : List Addr), PTs (X.blk s H scope (compEnvC scope cl C X.env) fp) ifs (tG X.K cls W0 pT t))
    (he : ∀ (s : Shared) (H : Hp) (C : Addr) (cl : List (Str × Addr)) (fp : List Addr), PE (X.blk s H scope (compEnvC scope cl C X.env) fp) elt (tG X.K cls W0 (pV X.K) f))
    (hp : (p.ix.all fun i => (own.map (·.2)).contains i) = true) (hs : ∀ x, foldedSetIterable iter X.env x = pure x := by intro _; rfl) :
    PS X (.Assign [.Name y py] (.ListComp elt [⟨tg, iter, ifs, 0⟩] scope pos) spos) (tAsg (tG X.K cls W (pN X.K) (lcF p (own.map (·.2)) t f src)) (gName i)) :=
  ps_imp (ps_setLc hc hN hy hyl hsw hi ok hg ht he hs) fun D σ H h => lc_read (fun i hi => by simpa using List.all_eq_true.mp hp i hi) h
end
/-! ### a def -/
def runO : Out → R D
  | .ret d => .ok d
  | .next _ => .ok .non
  | .err c _ => .err c
  | _ => .bad
def fnD (N n : Nat) (G : EnvD → Out) (ds : List D) : R D := if ds.length = n then runO (G (ds.map Sl.val ++ List.replicate (N - n) Sl.no)) else .bad
theorem envAt_start {K : PySem.W.Frag} {F H : Hp} (i : Same F H) : ∀ {vs : List V} {ds : List D} (m : Nat), Reps K F vs ds → EnvAt K H (ds.map Sl.val ++ List.replicate m Sl.no) (vs.map some ++ List.replicate m none) F H := by
  intro vs ds m r
  refine ⟨i, by simp [r.length], fun j s hj => ?_, fun j k s t p _ hs _ os _ _ _ => ?_⟩
  · by_cases hlt : j < ds.length
    · rw [List.getElem?_append_left (by simpa using hlt)] at hj
      rw [List.getElem?_map] at hj
      obtain ⟨d, hd⟩ : ∃ d, ds[j]? = some d := ⟨ds[j], by simp [hlt]⟩
      rw [hd] at hj
      cases hj
      obtain ⟨v, hv, rv⟩ := r.get hd
      refine ⟨v, ?_, rv⟩
      rw [List.getD_eq_getElem?_getD, List.getElem?_append_left (by simpa [r.length] using hlt), List.getElem?_map, hv]; rfl
    · rw [List.getElem?_append_right (by simp; omega)] at hj
      have := List.mem_of_getElem? hj
      rw [List.mem_replicate] at this
      rw [this.2]; trivial
  · have := List.mem_of_getElem? hs
    rcases List.mem_append.mp this with h | h
    · obtain ⟨d, _, e⟩ := List.mem_map.mp h; subst e; cases os
    · rw [List.mem_replicate] at h; rw [h.2] at os; cases os
theorem fn_okD0 {P : Program} {w : World} {K : PySem.W.Frag} {mg : Str → Option Value} {base : Heap} {cls : Exc → Addr} {x qual : Str} {params : Arguments} {body : List Stmt} {scope : Scope} {f : Addr} {fd : FuncData} {N ps : List Str} {k : Nat} {G : EnvD → Out}
    (F : FunD K x qual params body scope [] [] f fd) (S : FnScope N ps scope) 
    (h : ∀ (cdv : Value) (A : Around) (outer : List Env) (s : Shared) (H : Hp) (E : XK), Room k (A.deeper (envOfC qual scope s.heap.objs.size f cdv)) →
      PDSs (cxOf (L2.CX P w) P w K mg base N qual scope f cdv A outer s H E) cls (fun c d _ H => E c d H) body G) : FnOk P w K mg base (L2.CX P w) (k + 1) f fd ps (spD K cls ps.length (fnD N.length ps.length G)) := by
  refine F.ok S (fun vs H Q E q => q.1) fun cdv A outer s H vs Q E hr q => ?_
  obtain ⟨hl, F0, ds, i, r, g⟩ := q
  refine ⟨_, h cdv A outer s H E hr, H, F0, ds.map Sl.val ++ List.replicate (N.length - ps.length) Sl.no, F0, Ext.refl i, ?_, ?_⟩
  · show EnvAt K H _ (vs.map some ++ List.replicate (N.length - vs.length) none) F0 H
    rw [hl]
    exact envAt_start i _ r
  · have hd : ds.length = ps.length := by rw [← r.length]; exact hl
    unfold fnD at g
    rw [if_pos hd] at g
    cases q : G (ds.map Sl.val ++ List.replicate (N.length - ps.length) Sl.no) with
    | ret d => rw [q] at g; exact fun v F' H' e _ r' => g v F' H' e r'
    | next e => rw [q] at g; exact fun σ' F' H' e _ _ => g .non F' H' e .non
    | err c e => rw [q] at g; exact fun σ' F' H' e _ _ => g F' H' e
    | brk e => rw [q] at g; exact g.elim
    | cont e => rw [q] at g; exact g.elim
    | bad => rw [q] at g; exact g.elim
theorem fn_okD {P : Program} {w : World} {K : PySem.W.Frag} {mg : Str → Option Value} {base : Heap} {cls : Exc → Addr} {x qual : Str} {params : Arguments} {body : List Stmt} {scope : Scope} {f : Addr} {fd : FuncData} {N ps : List Str} {k : Nat} {G : EnvD → Out}
    (F : FunD K x qual params body scope [] [] f fd) (S : FnScope N ps scope) (hx : mg x = some (.ref f)) (hb : Binds K fd ps [])
    (h : ∀ (cdv : Value) (A : Around) (outer : List Env) (s : Shared) (H : Hp) (E : XK), Room k (A.deeper (envOfC qual scope s.heap.objs.size f cdv)) →
      PDSs (cxOf (L2.CX P w) P w K mg base N qual scope f cdv A outer s H E) cls (fun c d _ H => E c d H) body G) : Fn P w K mg base cls (k + 1) x ps.length (fnD N.length ps.length G) :=
  ⟨⟨f, fd, ps, fn_okD0 F S h, hx, F.kp, hb⟩, fun ds hd => by unfold fnD; rw [if_neg hd]⟩
/-- nothing is promised -/
theorem fn_bad {P : Program} {w : World} {K : PySem.W.Frag} {mg : Str → Option Value} {base : Heap} {cls : Exc → Addr} {x qual : Str} {params : Arguments} {body : List Stmt} {scope : Scope} {f : Addr} {fd : FuncData} {ps : List Str} {k : Nat}
    (F : FunD K x qual params body scope [] [] f fd) (hx : mg x = some (.ref f)) (hb : Binds K fd ps []) : Fn P w K mg base cls k x ps.length (fun _ => .bad) :=
  ⟨⟨f, fd, ps, ⟨fun vs H Q E q => q.1, fun A outer s H args us vs Q E hr he hb hv q => by obtain ⟨_, _, _, _, _, g⟩ := q; exact g.elim⟩, hx, F.kp, hb⟩, fun _ _ => rfl⟩
end PD

set_option maxHeartbeats 4000000
namespace PD
open PySem PySem.Spec PyProof.Rows L2
/-! ### equality of data -/
mutual
def D.toPy : D → PyData
  | .non => .none
  | .bl b => .bool b
  | .int i => .int i
  | .str x => .str x
  | .tup xs => .tuple (toPys xs)
  | .itm xs => .tuple (toPys xs)
  | .lst xs => .list (toPys xs)
  | .scr ns => .list (ns.map PyData.int)
  | .dic _ _ => .dict []
  | .raw _ => .dict []
def toPys : List D → List PyData
  | [] => []
  | x :: xs => x.toPy :: toPys xs
end
theorem dp_ints {K : PySem.W.Frag} {H : Hp} : ∀ ns : List Int, DpAll K H (ns.map V.int) (ns.map PyData.int)
  | [] => .nil
  | n :: ns => .cons (.int n) (dp_ints ns)
theorem no_dic {a : List (PyData × PyData)} : SeqAt.shaped (.dict a) = true → False := fun h => by simp [SeqAt.shaped, PyData.canLay0] at h
theorem canLay_all {xs : List PyData} {x : PyData} (h : PyData.canLayAll0 xs = true) (m : x ∈ xs) : x.canLay0 = true := by
  induction xs with
  | nil => cases m
  | cons y ys ih =>
    have h' : (y.canLay0 && PyData.canLayAll0 ys) = true := by simpa [PyData.canLayAll0] using h
    obtain ⟨h1, h2⟩ := Bool.and_eq_true_iff.mp h'
    rcases List.mem_cons.mp m with e | m
    · rw [e]; exact h1
    · exact ih h2 m
theorem rep_dp {K : PySem.W.Frag} {H : Hp} {v : V} {d : D} (h : Rep K H v d) : d.toPy.canLay0 = true → Dp K H v d.toPy :=
  Rep.rec (motive_1 := fun v d _ => d.toPy.canLay0 = true → Dp K H v d.toPy) (motive_2 := fun vs ds _ => PyData.canLayAll0 (toPys ds) = true → DpAll K H vs (toPys ds))
    (fun _ => by simpa [D.toPy] using Dp.non) (fun b _ => by simpa [D.toPy] using Dp.bl b) (fun i _ => by simpa [D.toPy] using Dp.int i) (fun x _ => by simpa [D.toPy] using Dp.str x)
    (fun h1 _ _ ih q => by simp only [D.toPy] at q ⊢; exact .tup h1.sq (ih (by simpa [PyData.canLay0] using q)))
    (fun h1 _ _ ih q => by simp only [D.toPy] at q ⊢; exact .tup (SqT.of h1) (ih (by simpa [PyData.canLay0] using q)))
    (fun h1 _ _ ih q => by simp only [D.toPy] at q ⊢; exact .lst (SqL.of h1) (ih (by simpa [PyData.canLay0] using q)))
    (fun h1 _ _ => by simp only [D.toPy]; exact .lst h1 (dp_ints _))
    (fun _ _ _ _ q => by simp [D.toPy, PyData.canLay0] at q) (fun _ _ _ _ _ q => by simp [D.toPy, PyData.canLay0] at q) (fun v q => by simp [D.toPy, PyData.canLay0] at q)
    (fun _ => by simp only [toPys]; exact .nil)
    (fun _ _ i1 i2 q => by
      simp only [toPys] at q ⊢
      have q' := Bool.and_eq_true_iff.mp (by simpa [PyData.canLayAll0] using q)
      exact .cons (i1 q'.1) (i2 q'.2)) h
theorem reps_dp {K : PySem.W.Frag} {H : Hp} : ∀ {vs : List V} {ds : List D}, Reps K H vs ds → PyData.canLayAll0 (toPys ds) = true → DpAll K H vs (toPys ds)
  | _, [], h, _ => by cases h; simp only [toPys]; exact .nil
  | _, d :: ds, h, q => by
    cases h with
    | cons a b =>
      simp only [toPys] at q ⊢
      have q' := Bool.and_eq_true_iff.mp (by simpa [PyData.canLayAll0] using q)
      exact .cons (rep_dp a q'.1) (reps_dp b q'.2)
theorem repB_dp {K : PySem.W.Frag} {F H : Hp} {v : V} {d : D} (i : Same F H) (h : RepB K F H v d) (q : d.toPy.canLay0 = true) : Dp K H v d.toPy := by
  rcases h with h | ⟨p, xs, ds, rfl, rfl, h1, _, h2⟩ | ⟨p, u, t, ks, vs, rfl, rfl, _⟩
  · exact rep_dp (h.mono i) q
  · simp only [D.toPy] at q ⊢
    exact .lst (SqL.of h1) (reps_dp (h2.mono i) (by simpa [PyData.canLay0] using q))
  · simp [D.toPy, PyData.canLay0] at q
def eqD (d e : D) : Option Bool := if SeqAt.shaped d.toPy && SeqAt.shaped e.toPy then some (PyData.eqv d.toPy e.toPy) else none
def neD (d e : D) : Option Bool := (eqD d e).map (!·)
section
variable {X : Cx} {K : PySem.W.Frag}
theorem os_eq : OpSemB (pB K) (pB K) (rEqD K) eqD := fun S1 S2 F H x y d e z Q i p q hz k => by
  unfold eqD at hz
  split at hz
  · rename_i h
    obtain ⟨h1, h2⟩ := Bool.and_eq_true_iff.mp h
    cases hz
    exact ⟨_, _, repB_dp i p (SeqAt.canLay_of_shaped h1), repB_dp i q (SeqAt.canLay_of_shaped h2), h1, h2, k⟩
  · cases hz
theorem os_ne : OpSemB (pB K) (pB K) (rNeD K) neD := fun S1 S2 F H x y d e z Q i p q hz k => by
  unfold neD eqD at hz
  split at hz
  · rename_i h
    obtain ⟨h1, h2⟩ := Bool.and_eq_true_iff.mp h
    cases hz
    exact ⟨_, _, repB_dp i p (SeqAt.canLay_of_shaped h1), repB_dp i q (SeqAt.canLay_of_shaped h2), h1, h2, k⟩
  · cases hz
/-! ### ints -/
def int2 (f : Int → Int → Option D) : D → D → Option D
  | .int i, .int j => f i j
  | _, _ => none
theorem rep_int {F : Hp} {v : V} {i : Int} (h : Rep K F v (.int i)) : v = .int i := by cases h; rfl
theorem repB_int {F H : Hp} {v : V} {i : Int} (h : RepB K F H v (.int i)) : v = .int i := by
  rcases h with h | ⟨_, _, _, _, h, _⟩ | ⟨_, _, _, _, _, _, h, _⟩
  · exact rep_int h
  · cases h
  · cases h
theorem os_I {C : Int → Int → Prop} {g : Int → Int → Int} {f : Int → Int → Option D} (h : ∀ i j d, f i j = some d → C i j ∧ d = .int (g i j)) : OpSem (pV K) (pV K) (pV K) (rI C fun i j => .int (g i j)) (int2 f) :=
  fun S1 S2 F H x y d e z Q i p q hz k => by
    unfold int2 at hz
    split at hz
    · obtain ⟨h1, h2⟩ := h _ _ _ hz
      subst h2
      exact ⟨_, _, rep_int p, rep_int q, h1, k _ F H (Ext.refl i) (.int _)⟩
    · cases hz
theorem os_I0 {g : Int → Int → Int} : OpSem (pV K) (pV K) (pV K) (rI0 fun i j => .int (g i j)) (int2 fun i j => some (.int (g i j))) :=
  fun S1 S2 F H x y d e z Q i p q hz k => by
    unfold int2 at hz
    split at hz
    · cases hz
      exact ⟨_, _, rep_int p, rep_int q, k _ F H (Ext.refl i) (.int _)⟩
    · cases hz
def subD := int2 fun i j => some (.int (i - j))
theorem os_sub : OpSem (pV K) (pV K) (pV K) (rI0 fun i j => .int (i - j)) subD := os_I0
def modD := int2 fun i j => if 0 < j then some (.int (i % j)) else none
theorem os_mod : OpSem (pV K) (pV K) (pV K) (rI (fun _ j => 0 < j) fun i j => .int (i % j)) modD := os_I fun i j d h => by
  by_cases hj : 0 < j
  · rw [if_pos hj] at h; cases h; exact ⟨hj, rfl⟩
  · rw [if_neg hj] at h; cases h
def fdivD := int2 fun i j => if 0 < j ∧ j < 1000000000000000000000 then some (.int (i / j)) else none
theorem os_fdiv : OpSem (pV K) (pV K) (pV K) (rI CDivW fun i j => .int (i / j)) fdivD := os_I fun i j d h => by
  by_cases hj : 0 < j ∧ j < 1000000000000000000000
  · rw [if_pos hj] at h; cases h
    exact ⟨wide_div (b := 70) hj.1 (by have := hj.2; have : j.natAbs < 1000000000000000000000 := by omega
                                       exact Nat.lt_trans this (by decide)) (by decide) (by decide), rfl⟩
  · rw [if_neg hj] at h; cases h
def powD := int2 fun i j => if 0 ≤ j ∧ j ≤ 1000 ∧ i.natAbs < 1000 then some (.int (i ^ j.toNat)) else none
theorem os_pow : OpSem (pV K) (pV K) (pV K) (rI CPow fun i j => .int (i ^ j.toNat)) powD := os_I fun i j d h => by
  by_cases hj : 0 ≤ j ∧ j ≤ 1000 ∧ i.natAbs < 1000
  · rw [if_pos hj] at h; cases h
    exact ⟨⟨hj.1, by omega, Nat.lt_trans hj.2.2 (by decide)⟩, rfl⟩
  · rw [if_neg hj] at h; cases h
def mulI := int2 fun i j => if (-18446744073709551616 < i ∧ i < 18446744073709551616) ∨ (-18446744073709551616 < j ∧ j < 18446744073709551616) then some (.int (i * j)) else none
theorem os_mul : OpSem (pV K) (pV K) (pV K) (rI CMul fun i j => .int (i * j)) mulI := os_I fun i j d h => by
  by_cases hj : (-18446744073709551616 < i ∧ i < 18446744073709551616) ∨ (-18446744073709551616 < j ∧ j < 18446744073709551616)
  · rw [if_pos hj] at h; cases h
    exact ⟨hj, rfl⟩
  · rw [if_neg hj] at h; cases h
def negD : D → Option D
  | .int i => some (.int (-i))
  | _ => none
theorem pd_neg {cls : Exc → Addr} {W : WX} {a : Expr} {pos : Pos} {fa : EnvD → R D} (ha : PDE X cls W (pV X.K) a fa) : PDE X cls W (pV X.K) (.UnaryOp .USub a pos) (una negD fa) :=
  pd_un un_neg (fun S F H x d z Q i p hz k => by
    cases p with
    | int j => cases hz; exact ⟨j, rfl, k _ F H (Ext.refl i) (.int _)⟩
    | _ => cases hz) ha
/-- +: ints, texts, tuples -/
def addD : D → D → Option D
  | .int i, .int j => some (.int (i + j))
  | .str x, .str y => if small (x.length + y.length) = true then some (.str (x ++ y)) else none
  | .tup xs, .tup ys => if small (xs.length + ys.length) = true then some (.tup (xs ++ ys)) else none
  | _, _ => none
def rAddA (K : PySem.W.Frag) : R2 := fun x y H Q => rI0 (fun i j => .int (i + j)) x y H Q ∨ (∃ i j, x = .str i ∧ y = .str j ∧ i.length + j.length ≤ sizeLine ∧ Q (.str (i ++ j)) H) ∨ rCatN K x y H Q
theorem op_addA : OpR X (binaryOp .Add) (rAddA X.K) := OpR.or op_add (OpR.or op_add_str op_catN)
theorem os_add : OpSem (pV K) (pV K) (pV K) (rAddA K) addD := fun S1 S2 F H x y d e z Q i p q hz k => by
  unfold addD at hz
  split at hz
  · cases hz
    exact .inl ⟨_, _, rep_int p, rep_int q, k _ F H (Ext.refl i) (.int _)⟩
  · rename_i a b
    by_cases hl : small (a.length + b.length) = true
    · rw [if_pos hl] at hz; cases hz
      cases p; cases q
      exact .inr (.inl ⟨_, _, rfl, rfl, small_ok hl, k _ F H (Ext.refl i) (.str _)⟩)
    · rw [if_neg hl] at hz; cases hz
  · rename_i a b
    by_cases hl : small (a.length + b.length) = true
    · rw [if_pos hl] at hz; cases hz
      cases p with
      | tup h1 h2 h3 =>
        cases q with
        | tup g1 g2 g3 =>
          have hl' := small_ok hl
          rw [← h3.length, ← g3.length] at hl'
          refine .inr (.inr ⟨_, _, _, _, rfl, rfl, (h1.mono i).sq, (g1.mono i).sq, hl', fun e => ?_, fun _ e => ?_, fun _ _ p hp o hd => ?_⟩)
          · subst e; cases h3
            exact k _ F H (Ext.refl i) (.tup g1 g2 g3)
          · subst e; cases g3
            rw [List.append_nil] at k
            exact k _ F H (Ext.refl i) (.tup h1 h2 h3)
          · exact k _ (upd F p _) _ (Ext.new i hp) (.tup ⟨o, hd, upd_same⟩ (by rw [List.length_append]; exact hl') ((h3.mono (Same.updN (i.free hp))).append (g3.mono (Same.updN (i.free hp)))))
    · rw [if_neg hl] at hz; cases hz
  · cases hz
/-- * of two ints, of a tuple and an int -/
def mulD : D → D → Option D
  | .tup xs, .int j => if xs ≠ [] ∧ 0 ≤ j ∧ j ≤ 1000 ∧ xs.length ≤ 1000 then some (.tup (List.replicate j.toNat xs).flatten) else none
  | x, y => mulI x y
theorem Reps.rep {F : Hp} {xs : List V} {ds : List D} (h : Reps K F xs ds) : ∀ n : Nat, Reps K F (List.replicate n xs).flatten (List.replicate n ds).flatten
  | 0 => .nil
  | n + 1 => by simp only [List.replicate_succ, List.flatten_cons]; exact h.append (Reps.rep h n)
theorem os_mulA : OpSem (pV K) (pV K) (pV K) (fun x y H Q => (rRepN K x y H Q ∨ rRep01 K x y H Q) ∨ rI CMul (fun i j => .int (i * j)) x y H Q) mulD := fun S1 S2 F H x y d e z Q i p q hz k => by
  unfold mulD at hz
  split at hz
  · rename_i xs j
    by_cases hj : xs ≠ [] ∧ 0 ≤ j ∧ j ≤ 1000 ∧ xs.length ≤ 1000
    · rw [if_pos hj] at hz; cases hz
      cases p with
      | tup h1 h2 h3 =>
        rename_i a0 vs0
        have hne : vs0 ≠ [] := fun e => hj.1 (by subst e; cases h3; rfl)
        by_cases j0 : j = 0
        · subst j0
          refine .inl (.inr ⟨_, 0, _, rfl, rep_int q, (h1.mono i).sq, hne, .inr ⟨rfl, fun p hp o hd => ?_⟩⟩)
          exact k _ (upd F p _) _ (Ext.new i hp) (.tup ⟨o, hd, upd_same⟩ (by rw [sizeLine_eq]; exact Nat.zero_le _) .nil)
        by_cases j1 : j = 1
        · subst j1
          refine .inl (.inr ⟨_, 1, _, rfl, rep_int q, (h1.mono i).sq, hne, .inl ⟨rfl, ?_⟩⟩)
          refine k _ F _ (Ext.refl i) ?_
          have e : (List.replicate (1 : Int).toNat xs).flatten = xs := by simp
          rw [e]
          exact .tup h1 h2 h3
        refine .inl (.inl ⟨_, j, _, rfl, rep_int q, (h1.mono i).sq, hne, by omega, hj.2.2.1, by rw [h3.length]; exact hj.2.2.2, fun p hp o hd => ?_⟩)
        refine k _ (upd F p _) _ (Ext.new i hp) (.tup ⟨o, hd, upd_same⟩ ?_ ((h3.mono (Same.updN (i.free hp))).rep _))
        have : (List.replicate j.toNat vs0).flatten.length ≤ 1000 * 1000 := by
          rw [List.length_flatten, List.map_replicate, List.sum_replicate_nat]
          exact Nat.mul_le_mul (by omega) (by rw [h3.length]; exact hj.2.2.2)
        exact Nat.le_trans this (by rw [sizeLine_eq]; decide)
    · rw [if_neg hj] at hz; cases hz
  · exact .inr (os_mul S1 S2 F H x y d e z Q i p q hz k)
theorem op_mulA : OpR X (binaryOp .Mult) (fun x y H Q => (rRepN X.K x y H Q ∨ rRep01 X.K x y H Q) ∨ rI CMul (fun i j => .int (i * j)) x y H Q) := OpR.or (OpR.or op_repN op_rep01) op_mul
/-- comparisons of ints -/
def cmpI (f : Int → Int → Bool) : D → D → Option Bool
  | .int i, .int j => some (f i j)
  | _, _ => none
theorem os_cmpI {g : Int → Int → Bool} : OpSemB (pV K) (pV K) (rI0 fun i j => .bl (g i j)) (cmpI g) := fun S1 S2 F H x y d e z Q i p q hz k => by
  unfold cmpI at hz
  split at hz
  · cases hz; exact ⟨_, _, rep_int p, rep_int q, k⟩
  · cases hz
abbrev ltI := cmpI fun i j => decide (i < j)
abbrev leI := cmpI fun i j => decide (i ≤ j)
abbrev gtI := cmpI fun i j => decide (j < i)
abbrev geI := cmpI fun i j => decide (j ≤ i)
/-- < of ints, of tuples of ints -/
def asInts : List D → Option (List Int)
  | [] => some []
  | .int i :: r => (asInts r).map (i :: ·)
  | _ => none
theorem asInts_eq : ∀ {ds : List D} {ns : List Int}, asInts ds = some ns → ds = ns.map D.int
  | [], ns, h => by cases h; rfl
  | .int i :: r, ns, h => by
    simp only [asInts] at h
    cases q : asInts r with
    | none => rw [q] at h; cases h
    | some ms => rw [q] at h; cases h; rw [asInts_eq q]; rfl
  | .non :: _, _, h => by cases h
  | .bl _ :: _, _, h => by cases h
  | .str _ :: _, _, h => by cases h
  | .tup _ :: _, _, h => by cases h
  | .itm _ :: _, _, h => by cases h
  | .lst _ :: _, _, h => by cases h
  | .scr _ :: _, _, h => by cases h
  | .dic _ _ :: _, _, h => by cases h
  | .raw _ :: _, _, h => by cases h
def ltTD : D → D → Option Bool
  | .tup xs, .tup ys => match asInts xs, asInts ys with
    | some ns, some ms => some (HT.lexLt ns ms)
    | _, _ => none
  | x, y => ltI x y
theorem os_ltT : OpSemB (pV K) (pV K) (fun x y H Q => rLtT K x y H Q ∨ rI0 (fun i j => .bl (decide (i < j))) x y H Q) ltTD := fun S1 S2 F H x y d e z Q i p q hz k => by
  unfold ltTD at hz
  split at hz
  · rename_i xs ys
    split at hz
    · rename_i ns ms e1 e2
      cases hz
      rw [asInts_eq e1] at p
      rw [asInts_eq e2] at q
      cases p with
      | tup h1 h2 h3 =>
        cases q with
        | tup g1 g2 g3 =>
          rw [h3.of_ints] at h1
          rw [g3.of_ints] at g1
          exact .inl ⟨_, _, ns, ms, rfl, rfl, (h1.mono i).sq, (g1.mono i).sq, k⟩
    · cases hz
  · exact .inr (os_cmpI S1 S2 F H x y d e z Q i p q hz k)
theorem op_ltTD (hu : X.A.units < cLine) : OpR X (compareOp .Lt) (fun x y H Q => rLtT X.K x y H Q ∨ rI0 (fun i j => .bl (decide (i < j))) x y H Q) := OpR.or (op_ltT hu) op_lt
/-- is None -/
def isNon : D → Bool
  | .non => true
  | _ => false
def noRaw : D → Bool
  | .raw _ => false
  | _ => true
theorem repB_non {F H : Hp} {v : V} {d : D} (h : RepB K F H v d) (n : noRaw d = true) : decide (v = V.non) = isNon d := by
  rcases h with h | ⟨_, _, _, rfl, rfl, _⟩ | ⟨_, _, _, _, _, rfl, rfl, _⟩
  · cases h <;> first | rfl | cases n
  · rfl
  · rfl
def isNoneD : D → D → Option Bool
  | d, .non => if noRaw d = true then some (isNon d) else none
  | _, _ => none
def notNoneD : D → D → Option Bool := fun d e => (isNoneD d e).map (!·)
theorem os_isN : OpSemB (pB K) (pV K) (fun x y H Q => y = .non ∧ Q (.bl (decide (x = .non))) H) isNoneD := fun S1 S2 F H x y d e z Q i p q hz k => by
  unfold isNoneD at hz
  split at hz
  · by_cases n : noRaw d = true
    · rw [if_pos n] at hz; cases hz; cases q; exact ⟨rfl, by rw [repB_non p n]; exact k⟩
    · rw [if_neg n] at hz; cases hz
  · cases hz
theorem os_notN : OpSemB (pB K) (pV K) (fun x y H Q => y = .non ∧ Q (.bl (!decide (x = .non))) H) notNoneD := fun S1 S2 F H x y d e z Q i p q hz k => by
  unfold notNoneD at hz
  cases w : isNoneD d e with
  | none => rw [w] at hz; cases hz
  | some b =>
    rw [w] at hz
    cases hz
    unfold isNoneD at w
    split at w
    · by_cases n : noRaw d = true
      · rw [if_pos n] at w; cases w; cases q; exact ⟨rfl, by rw [repB_non p n]; exact k⟩
      · rw [if_neg n] at w; cases w
    · cases w
/-- is True, is False -/
def isBD : D → D → Option Bool
  | .bl a, .bl b => some (decide (a = b))
  | _, _ => none
def notBD : D → D → Option Bool := fun d e => (isBD d e).map (!·)
theorem os_isB : OpSemB (pV K) (pV K) rIsB isBD := fun S1 S2 F H x y d e z Q i p q hz k => by
  unfold isBD at hz
  split at hz
  · cases hz; cases p; cases q; exact ⟨_, _, rfl, rfl, k⟩
  · cases hz
theorem os_notB : OpSemB (pV K) (pV K) rNotB notBD := fun S1 S2 F H x y d e z Q i p q hz k => by
  unfold notBD isBD at hz
  split at hz
  · cases hz; cases p; cases q; exact ⟨_, _, rfl, rfl, k⟩
  · cases hz
/-! ### in -/
def flatD : D → Bool
  | .non => true
  | .bl _ => true
  | .int _ => true
  | .str _ => true
  | _ => false
theorem rep_flat {F : Hp} {v : V} {d : D} (h : Rep K F v d) (f : flatD d = true) : flatV v = true ∧ ∀ v' d', Rep K F v' d' → flatD d' = true → eqV v v' = PyData.eqv d.toPy d'.toPy := by
  refine ⟨(by cases h <;> first | rfl | (cases f)), fun v' d' h' f' => ?_⟩
  cases h <;> first | cases f | skip
  all_goals (cases h' <;> first | cases f' | skip)
  all_goals simp [eqV, D.toPy, PyData.eqv]
theorem repB_flat {F H : Hp} {v : V} {d : D} (h : RepB K F H v d) (f : flatD d = true) : Rep K F v d := by
  rcases h with h | ⟨_, _, _, rfl, rfl, _⟩ | ⟨_, _, _, _, _, rfl, rfl, _⟩
  · exact h
  · cases f
  · cases f
theorem reps_flat {F : Hp} : ∀ {vs : List V} {ds : List D}, Reps K F vs ds → ds.all flatD = true → vs.all flatV = true
  | _, [], h, _ => by cases h; rfl
  | _, d :: ds, h, q => by
    cases h with
    | cons a b =>
      simp only [List.all_cons, Bool.and_eq_true] at q ⊢
      exact ⟨(rep_flat a q.1).1, reps_flat b q.2⟩
theorem in_flat {F : Hp} {v : V} {d : D} (hv : Rep K F v d) (f : flatD d = true) : ∀ {vs : List V} {ds : List D}, Reps K F vs ds → ds.all flatD = true → inV v vs = ds.any fun y => PyData.eqv y.toPy d.toPy
  | _, [], h, _ => by cases h; rfl
  | _, e :: ds, h, q => by
    cases h with
    | cons a b =>
      simp only [List.all_cons, Bool.and_eq_true] at q
      have i1 := in_flat hv f b q.2
      unfold inV at i1 ⊢
      rw [List.any_cons, List.any_cons, i1, (rep_flat a q.1).2 v d hv f]
def inD : D → D → Option Bool
  | x, .tup ys => if flatD x && ys.all flatD then some (ys.any fun y => PyData.eqv y.toPy x.toPy) else none
  | x, .lst ys => if SeqAt.shaped x.toPy && SeqAt.shaped (D.lst ys).toPy then some ((toPys ys).any fun y => PyData.eqv y x.toPy) else none
  | _, _ => none
def notInD : D → D → Option Bool := fun d e => (inD d e).map (!·)
def rInA (K : PySem.W.Frag) : R2 := fun x y H Q => rIn K false x y H Q ∨ rInD K x y H Q
def rNotInA (K : PySem.W.Frag) : R2 := fun x y H Q => rIn K true x y H Q ∨ rNotInD K x y H Q
theorem op_inA (hu : X.A.units + 65 < cLine) : OpR X (compareOp .In) (rInA X.K) := OpR.or op_in_seq (op_inD hu)
theorem op_notInA (hu : X.A.units + 65 < cLine) : OpR X (compareOp .NotIn) (rNotInA X.K) := OpR.or op_notIn_seq (op_notInD hu)
theorem in_core {F H : Hp} {x y : V} {d e : D} {z : Bool} {Q Q' : VK} (i : Same F H) (p : RepB K F H x d) (q : RepB K F H y e) (hz : inD d e = some z) (k : Q (.bl z) H) (k' : Q' (.bl (!z)) H) : rInA K x y H Q ∧ rNotInA K x y H Q' := by
  unfold inD at hz
  split at hz
  · rename_i ys
    split at hz
    · rename_i h
      obtain ⟨h1, h2⟩ := Bool.and_eq_true_iff.mp h
      cases hz
      have p' := repB_flat p h1
      have q' : Rep K F y (.tup ys) := by
        rcases q with q | ⟨_, _, _, _, q, _⟩ | ⟨_, _, _, _, _, _, q, _⟩
        · exact q
        · cases q
        · cases q
      cases q' with
      | tup g1 g2 g3 =>
        have e1 := in_flat p' h1 g3 h2
        refine ⟨.inl ⟨_, _, rfl, .inr (g1.mono i).sq, (rep_flat p' h1).1, reps_flat g3 h2, ?_⟩, .inl ⟨_, _, rfl, .inr (g1.mono i).sq, (rep_flat p' h1).1, reps_flat g3 h2, ?_⟩⟩
        · simp only [Bool.false_eq_true, if_false]; rw [e1]; exact k
        · simp only [if_true]; rw [e1]; exact k'
    · cases hz
  · rename_i ys
    split at hz
    · rename_i h
      obtain ⟨h1, h2⟩ := Bool.and_eq_true_iff.mp h
      cases hz
      have a1 := repB_dp i p (SeqAt.canLay_of_shaped h1)
      have a2 := repB_dp i q (SeqAt.canLay_of_shaped h2)
      simp only [D.toPy] at a2 h2
      exact ⟨.inr ⟨_, _, a1, a2, h1, h2, k⟩, .inr ⟨_, _, a1, a2, h1, h2, k'⟩⟩
    · cases hz
  · cases hz
theorem os_in : OpSemB (pB K) (pB K) (rInA K) inD := fun S1 S2 F H x y d e z Q i p q hz k => (in_core (Q' := fun _ _ => True) i p q hz k trivial).1
theorem os_notIn : OpSemB (pB K) (pB K) (rNotInA K) notInD := fun S1 S2 F H x y d e z Q i p q hz k => by
  unfold notInD at hz
  cases w : inD d e with
  | none => rw [w] at hz; cases hz
  | some b =>
    rw [w] at hz; cases hz
    exact (in_core (Q := fun _ _ => True) i p q w trivial k).2
/-! ### subscripts, slices -/
def ixD : D → D → Option D
  | .lst xs, .int i => atI xs i
  | .tup xs, .int i => atI xs i
  | .itm xs, .int i => atI xs i
  | .scr ns, .int i => (atI ns i).map D.int
  | _, _ => none
theorem atI_reps {F : Hp} {vs : List V} {ds : List D} (h : Reps K F vs ds) {i : Int} {d : D} (e : atI ds i = some d) : ∃ v, atI vs i = some v ∧ Rep K F v d := by
  unfold atI at e ⊢
  rw [h.length]
  cases q : ixN ds.length i with
  | none => rw [q] at e; cases e
  | some j =>
    rw [q] at e
    obtain ⟨v, h1, h2⟩ := h.get (i := j) (d := d) e
    exact ⟨v, h1, h2⟩
theorem os_ix : OpSem (pB K) (pV K) (pV K) (rIx K) ixD := fun S1 S2 F H x y d e z Q i p q hz k => by
  unfold ixD at hz
  split at hz
  · rename_i xs j
    cases rep_int q
    rcases p with p | ⟨a, vs, ds, rfl, h, h1, h2, h3⟩ | ⟨_, _, _, _, _, _, h, _⟩
    · cases p with
      | lst h1 h2 h3 =>
        obtain ⟨v, e1, e2⟩ := atI_reps h3 hz
        exact .inl ⟨_, _, j, v, rfl, rfl, SqL.of (i _ _ h1), e1, k v F H (Ext.refl i) e2⟩
    · cases h
      obtain ⟨v, e1, e2⟩ := atI_reps h3 hz
      exact .inl ⟨_, _, j, v, rfl, rfl, SqL.of h1, e1, k v F H (Ext.refl i) e2⟩
    · cases h
  · rename_i xs j
    cases rep_int q
    rcases p with p | ⟨_, _, _, _, h, _⟩ | ⟨_, _, _, _, _, _, h, _⟩
    · cases p with
      | tup h1 h2 h3 =>
        obtain ⟨v, e1, e2⟩ := atI_reps h3 hz
        exact .inr (.inl ⟨_, _, j, v, rfl, rfl, (h1.mono i).sq, e1, k v F H (Ext.refl i) e2⟩)
    · cases h
    · cases h
  · rename_i xs j
    cases rep_int q
    rcases p with p | ⟨_, _, _, _, h, _⟩ | ⟨_, _, _, _, _, _, h, _⟩
    · cases p with
      | itm h1 h2 h3 =>
        obtain ⟨v, e1, e2⟩ := atI_reps h3 hz
        exact .inr (.inl ⟨_, _, j, v, rfl, rfl, SqT.of (i _ _ h1), e1, k v F H (Ext.refl i) e2⟩)
    · cases h
    · cases h
  · rename_i ns j
    cases rep_int q
    rcases p with p | ⟨_, _, _, _, h, _⟩ | ⟨_, _, _, _, _, _, h, _⟩
    · cases p with
      | scr h1 h2 =>
        cases w : atI ns j with
        | none => rw [w] at hz; cases hz
        | some n =>
          rw [w] at hz; cases hz
          have e1 : atI (ns.map V.int) j = some (.int n) := by
            unfold atI at w ⊢
            rw [List.length_map]
            cases u : ixN ns.length j with
            | none => rw [u] at w; cases w
            | some m =>
              rw [u] at w
              have w' : ns[m]? = some n := w
              show (ns.map V.int)[m]? = some (.int n)
              rw [List.getElem?_map, w']; rfl
          exact .inl ⟨_, _, j, _, rfl, rfl, i.seq h1, e1, k _ F H (Ext.refl i) (.int n)⟩
    · cases h
    · cases h
  · cases hz
end
end PD

set_option maxHeartbeats 4000000
namespace PD
open PySem PySem.Spec PyProof.Rows L2
/-! ### assignments: slots -/
def relS (K : PySem.W.Frag) (H F' H' : Hp) (v : V) : Sl → Prop
  | .no => False
  | .val d => Rep K F' v d
  | .own ds => (pN K).rel H F' H' v ds
  | .ownd t ks vs => (pM K).rel H F' H' v (t, ks, vs)
def pS (K : PySem.W.Frag) : PP V Sl := ⟨relS K, fun {H H1 F' H' v d} e h => by
  cases d with
  | no => exact h
  | val d => exact h
  | own ds => exact (pN K).anti e h
  | ownd _ ks vs => exact (pM K).anti e h, fun {H F' H' F'' H'' v d} e h => by
  cases d with
  | no => exact h
  | val d => exact Rep.mono h e.f
  | own ds => exact (pN K).mono e h
  | ownd _ ks vs => exact (pM K).mono e h⟩
section
variable {X : Cx} {cls : Exc → Addr} {W : WX} {e a b c tg : Expr} {pos p : Pos} {st : Stmt} {fa fb fc : EnvD → R Sl}
def slV (f : EnvD → R D) : EnvD → R Sl := fun env => (f env).map Sl.val
def slN (f : EnvD → R (List D)) : EnvD → R Sl := fun env => (f env).map Sl.own
def slM (f : EnvD → R (Bool × List D × List D)) : EnvD → R Sl := fun env => (f env).map fun d => Sl.ownd d.1 d.2.1 d.2.2
theorem tG_map {ρ α β : Type} {P : PP ρ α} {P' : PP ρ β} {g : α → β} {K : PySem.W.Frag} {f : EnvD → R α} (h : ∀ H F' H' v d, P.rel H F' H' v d → P'.rel H F' H' v (g d)) {σ : L2.St} {H : Hp} {Q : ρ → Hp → Prop} (t : tG K cls W P' (fun env => (f env).map g) σ H Q) : tG K cls W P f σ H Q := by
  obtain ⟨H0, F, env, ea, q⟩ := t
  exact ⟨H0, F, env, ea, Go.map q fun d _ k v F' H' e p => k v F' H' e (h _ _ _ _ _ p)⟩
theorem coeVS {f : EnvD → R D} (h : PDE X cls W (pV X.K) e f) : PDE X cls W (pS X.K) e (slV f) := pe_imp h fun σ H Q t => tG_map (P := pV X.K) (P' := pS X.K) (g := Sl.val) (fun _ _ _ _ _ h => h) t
theorem coeNS {f : EnvD → R (List D)} (h : PDE X cls W (pN X.K) e f) : PDE X cls W (pS X.K) e (slN f) := pe_imp h fun σ H Q t => tG_map (P := pN X.K) (P' := pS X.K) (g := Sl.own) (fun _ _ _ _ _ h => h) t
theorem coeMS {f : EnvD → R (Bool × List D × List D)} (h : PDE X cls W (pM X.K) e f) : PDE X cls W (pS X.K) e (slM f) := pe_imp h fun σ H Q t => tG_map (P := pM X.K) (P' := pS X.K) (g := fun d => Sl.ownd d.1 d.2.1 d.2.2) (fun _ _ _ _ _ h => h) t
/-- where a slot's value lies -/
theorem EnvAt.setSl {K : PySem.W.Frag} {H0 F F1 H H1 : Hp} {env : EnvD} {σ : L2.St} (h0 : Same H0 H) (ea : EnvAt K H0 env σ F H) (e1 : Ext F H F1 H1) (i : Nat) {v : V} {s : Sl} (r : relS K H F1 H1 v s) : EnvAt K H0 (env.set i s) (σ.set i (some v)) F1 H1 := by
  cases s with
  | no => exact r.elim
  | val d => exact (ea.mono e1).setV i r
  | own ds =>
    obtain ⟨p, xs, ev, n1, n2, n3, n4, n5⟩ := r
    subst ev
    exact (ea.mono e1).setO i ⟨p, xs, rfl, h0.free n1, n2, n3, n4, n5⟩ fun j t _ hj ot hp => (ea.ownAt hj ot hp).1 n1
  | ownd _ ks vs =>
    obtain ⟨p, u, ev, n1, n2, n3, n4⟩ := r
    subst ev
    exact (ea.mono e1).setO i ⟨p, u, rfl, h0.free n1, n2, n3, n4⟩ fun j t _ hj ot hp => (ea.ownAt hj ot hp).1 n1
def setSl (i : Nat) (f : EnvD → R Sl) : EnvD → Out := fun env => bindS (f env) env fun d => .next (env.set i d)
theorem pds_asg {i : Nat} (h : PS X st (tAsg (tG X.K cls W (pS X.K) fa) (gName i))) : PDS X cls W st (setSl i fa) := ps_imp h fun D σ H ⟨H0, F0, env, F, x, ea, g⟩ =>
  ⟨H0, F, env, ea, (g.expr x ea).imp fun v H1 ⟨F1, d, _, e1, p1, g1⟩ => g1 _ F1 H1 (x.trans e1) (Same.refl F1) (ea.setSl x.h e1 i p1)⟩
/-- a, b = x, y -/
def setPar (i j : Nat) (fa fb : EnvD → R Sl) : EnvD → Out := fun env => bindS (fa env) env fun s => bindS (fb env) env fun t => .next ((env.set i s).set j t)
theorem relS.fresh {K : PySem.W.Frag} {H F' H' : Hp} {v : V} {s : Sl} {q : Addr} (r : relS K H F' H' v s) (o : s.isOwn = true) (hq : v = .ref q) : H q = none ∧ H' q ≠ none := by
  cases s with
  | no => cases o
  | val d => cases o
  | own ds => obtain ⟨p, xs, ev, n1, n2, n3, _⟩ := r; rw [ev] at hq; cases hq; exact ⟨n1, some_ne n3⟩
  | ownd _ ks vs => obtain ⟨p, xs, ev, n1, n2, n3, _⟩ := r; rw [ev] at hq; cases hq; exact ⟨n1, some_ne n3⟩
theorem par_env {K : PySem.W.Frag} {H0 F F1 F2 H H1 H2 : Hp} {env : EnvD} {σ : L2.St} (h0 : Same H0 H) (ea : EnvAt K H0 env σ F H) (e1 : Ext F H F1 H1) (e2 : Ext F1 H1 F2 H2) (i j : Nat) {v w : V} {s t : Sl} (r1 : relS K H F1 H1 v s) (r2 : relS K H1 F2 H2 w t) :
    EnvAt K H0 ((env.set i s).set j t) ((σ.set i (some v)).set j (some w)) F2 H2 := (ea.setSl h0 e1 i r1).setSl (h0.trans e1.h) e2 j r2
theorem pds_par {i j : Nat} (h : PS X st (tPar i j (tCons (tG X.K cls W (pS X.K) fa) (tCons (tG X.K cls W (pS X.K) fb) tNil)))) : PDS X cls W st (setPar i j fa fb) := ps_imp h fun D σ H ⟨H0, F0, env, F, x, ea, g⟩ =>
  ⟨H0, F, env, ea, (g.expr x ea).imp fun v H1 ⟨F1, s, _, e1, p1, g1⟩ => ⟨H0, F1, env, ea.mono e1, (g1.expr (x.trans e1) (ea.mono e1)).imp fun w H2 ⟨F2, t, _, e2, p2, g2⟩ =>
    ⟨v, w, rfl, g2 _ F2 H2 ((x.trans e1).trans e2) (Same.refl F2) (par_env x.h ea e1 e2 i j p1 p2)⟩⟩⟩
theorem pds_parT {i j : Nat} (h : PS X st (tAsg (tTup (tCons (tG X.K cls W (pS X.K) fa) (tCons (tG X.K cls W (pS X.K) fb) tNil))) (gTup X.K 2 (gNames [i, j])))) : PDS X cls W st (setPar i j fa fb) := ps_imp h fun D σ H ⟨H0, F0, env, F, x, ea, g⟩ =>
  ⟨H0, F, env, ea, (g.expr x ea).imp fun v H1 ⟨F1, s, _, e1, p1, g1⟩ => ⟨H0, F1, env, ea.mono e1, (g1.expr (x.trans e1) (ea.mono e1)).imp fun w H2 ⟨F2, t, _, e2, p2, g2⟩ =>
    ⟨by show 2 ≤ sizeLine; decide, fun q hq => by
      have e3 : Ext F2 H2 F2 (upd H2 q (.tup [v, w])) := Ext.newH e2.i hq
      exact ⟨q, _, rfl, SqT.of upd_same, rfl, v, _, rfl, w, _, rfl, rfl, g2 _ F2 _ (((x.trans e1).trans e2).trans e3) (Same.refl F2) ((par_env x.h ea e1 e2 i j p1 p2).mono e3)⟩⟩⟩⟩
/-- a, b, c = x, y, z -/
def setPar3 (i j l : Nat) (fa fb fc : EnvD → R Sl) : EnvD → Out := fun env => bindS (fa env) env fun s => bindS (fb env) env fun t => bindS (fc env) env fun u => .next (((env.set i s).set j t).set l u)
theorem pds_par3 {i j l : Nat} (h : PS X st (tPar3 i j l (tCons (tG X.K cls W (pS X.K) fa) (tCons (tG X.K cls W (pS X.K) fb) (tCons (tG X.K cls W (pS X.K) fc) tNil))))) : PDS X cls W st (setPar3 i j l fa fb fc) := ps_imp h fun D σ H ⟨H0, F0, env, F, x, ea, g⟩ =>
  ⟨H0, F, env, ea, (g.expr x ea).imp fun v H1 ⟨F1, s, _, e1, p1, g1⟩ => ⟨H0, F1, env, ea.mono e1, (g1.expr (x.trans e1) (ea.mono e1)).imp fun w H2 ⟨F2, t, _, e2, p2, g2⟩ =>
    ⟨H0, F2, env, (ea.mono e1).mono e2, (g2.expr ((x.trans e1).trans e2) ((ea.mono e1).mono e2)).imp fun w3 H3 ⟨F3, u, _, e3, p3, g3⟩ =>
    ⟨v, w, w3, rfl, g3 _ F3 H3 (((x.trans e1).trans e2).trans e3) (Same.refl F3) ((par_env x.h ea e1 e2 i j p1 p2).setSl ((x.h.trans e1.h).trans e2.h) e3 l p3)⟩⟩⟩⟩
theorem pds_parT3 {i j l : Nat} (h : PS X st (tAsg (tTup (tCons (tG X.K cls W (pS X.K) fa) (tCons (tG X.K cls W (pS X.K) fb) (tCons (tG X.K cls W (pS X.K) fc) tNil)))) (gTup X.K 3 (gNames [i, j, l])))) : PDS X cls W st (setPar3 i j l fa fb fc) := ps_imp h fun D σ H ⟨H0, F0, env, F, x, ea, g⟩ =>
  ⟨H0, F, env, ea, (g.expr x ea).imp fun v H1 ⟨F1, s, _, e1, p1, g1⟩ => ⟨H0, F1, env, ea.mono e1, (g1.expr (x.trans e1) (ea.mono e1)).imp fun w H2 ⟨F2, t, _, e2, p2, g2⟩ =>
    ⟨H0, F2, env, (ea.mono e1).mono e2, (g2.expr ((x.trans e1).trans e2) ((ea.mono e1).mono e2)).imp fun w3 H3 ⟨F3, u, _, e3, p3, g3⟩ =>
    ⟨by show 3 ≤ sizeLine; decide, fun q hq => by
      have e4 : Ext F3 H3 F3 (upd H3 q (.tup [v, w, w3])) := Ext.newH e3.i hq
      exact ⟨q, _, rfl, SqT.of upd_same, rfl, v, _, rfl, w, _, rfl, w3, _, rfl, rfl, g3 _ F3 _ ((((x.trans e1).trans e2).trans e3).trans e4) (Same.refl F3) (((par_env x.h ea e1 e2 i j p1 p2).setSl ((x.h.trans e1.h).trans e2.h) e3 l p3).mono e4)⟩⟩⟩⟩⟩
/-- a, b, c, d = .. -/
def setPar4 (i j l m : Nat) (fa fb fc fd : EnvD → R Sl) : EnvD → Out := fun env => bindS (fa env) env fun s => bindS (fb env) env fun t => bindS (fc env) env fun u => bindS (fd env) env fun v => .next ((((env.set i s).set j t).set l u).set m v)
theorem pds_parT4 {i j l m : Nat} {fd : EnvD → R Sl} (h : PS X st (tAsg (tTup (tCons (tG X.K cls W (pS X.K) fa) (tCons (tG X.K cls W (pS X.K) fb) (tCons (tG X.K cls W (pS X.K) fc) (tCons (tG X.K cls W (pS X.K) fd) tNil))))) (gTup X.K 4 (gNames [i, j, l, m])))) : PDS X cls W st (setPar4 i j l m fa fb fc fd) := ps_imp h fun D σ H ⟨H0, F0, env, F, x, ea, g⟩ =>
  ⟨H0, F, env, ea, (g.expr x ea).imp fun v H1 ⟨F1, s, _, e1, p1, g1⟩ => ⟨H0, F1, env, ea.mono e1, (g1.expr (x.trans e1) (ea.mono e1)).imp fun w H2 ⟨F2, t, _, e2, p2, g2⟩ =>
    ⟨H0, F2, env, (ea.mono e1).mono e2, (g2.expr ((x.trans e1).trans e2) ((ea.mono e1).mono e2)).imp fun w3 H3 ⟨F3, u, _, e3, p3, g3⟩ =>
    ⟨H0, F3, env, ((ea.mono e1).mono e2).mono e3, (g3.expr (((x.trans e1).trans e2).trans e3) (((ea.mono e1).mono e2).mono e3)).imp fun w4 H4 ⟨F4, u4, _, e4, p4, g4⟩ =>
    ⟨by show 4 ≤ sizeLine; decide, fun q hq => by
      have e5 : Ext F4 H4 F4 (upd H4 q (.tup [v, w, w3, w4])) := Ext.newH e4.i hq
      exact ⟨q, _, rfl, SqT.of upd_same, rfl, v, _, rfl, w, _, rfl, w3, _, rfl, w4, _, rfl, rfl, g4 _ F4 _ (((((x.trans e1).trans e2).trans e3).trans e4).trans e5) (Same.refl F4) ((((par_env x.h ea e1 e2 i j p1 p2).setSl ((x.h.trans e1.h).trans e2.h) e3 l p3).setSl (((x.h.trans e1.h).trans e2.h).trans e3.h) e4 m p4).mono e5)⟩⟩⟩⟩⟩⟩
/-- a, b, .. = e, e a tuple -/
def unpS (q : Pat) (f : EnvD → R D) : EnvD → Out := fun env => bindS (f env) env fun d => match bindP q d env with
  | some e => .next e
  | none => .bad
theorem pds_unp {q : Pat} {f : EnvD → R D} (h : PS X st (tAsg (tG X.K cls W (pV X.K) f) (gPat X.K q))) : PDS X cls W st (unpS q f) := ps_imp h fun D σ H ⟨H0, F0, env, F, x, ea, g⟩ =>
  ⟨H0, F, env, ea, (g.expr x ea).imp fun v H1 ⟨F1, d, _, e1, p1, g1⟩ => by
    cases w : bindP q d env with
    | none => rw [w] at g1; exact g1.elim
    | some e =>
      rw [w] at g1
      exact gPat_ok (ea.mono e1) p1 w fun σ' ea' _ => g1 _ F1 H1 (x.trans e1) (Same.refl F1) ea'⟩
/-! ### lists that change -/
def appS (i : Nat) (f : EnvD → R D) : EnvD → Out := fun env => match env[i]? with
  | some (.own ds) => bindS (f env) env fun d => if small (ds.length + 1) = true then .next (env.set i (.own (ds ++ [d]))) else .bad
  | _ => .bad
theorem tv_own {K : PySem.W.Frag} {H0 F H : Hp} {env : EnvD} {σ : L2.St} {i : Nat} {ds : List D} (ea : EnvAt K H0 env σ F H) (q : env[i]? = some (.own ds)) : ∃ p xs, σ.getD i none = some (V.ref p) ∧ H p = some (.lst xs) ∧ xs.length ≤ sizeLine ∧ Reps K F xs ds ∧ F p = none ∧ H0 p = none := by
  obtain ⟨p, xs, h1, h2, h3, h4, h5, h6⟩ := ea.at_ i _ q
  exact ⟨p, xs, h1, h4, h5, h6, h3, h2⟩
theorem mut_ext {F0 H0 F H : Hp} {p : Addr} {o u : HO} (x : Ext F0 H0 F H) (h0 : H0 p = none) (hf : F p = none) : Ext F0 H0 F (upd H p u) :=
  ⟨x.f, fun a o h => by rw [upd_ne (ne_of_none h h0)]; exact x.h a o h, x.i.into hf, x.n⟩
theorem pds_append {i : Nat} {f : EnvD → R D} {r : V → List V → Hp → VK → Prop} (h : PS X st (tDrop (tBM X.K "list" rAppend (tVar i) (tCons (tG X.K cls W (pV X.K) f) tNil)))) : PDS X cls W st (appS i f) := ps_imp h fun D σ H ⟨H0, F0, env, F, x, ea, g⟩ => by
  unfold appS at g
  cases q : env[i]? with
  | none => rw [q] at g; exact g.elim
  | some s =>
    rw [q] at g
    cases s with
    | own ds =>
      obtain ⟨p, xs, h1, h2, h3, h4, h5, h6⟩ := tv_own ea q
      refine ⟨.ref p, getD_some h1, .inl ⟨rfl, xs, SqL.of h2⟩, H0, F, env, ea, (g.expr x ea).imp fun v H1 ⟨F1, d, _, e1, p1, g1⟩ => ?_⟩
      by_cases hz : small (ds.length + 1) = true
      · rw [if_pos hz] at g1
        have hz' := small_ok hz
        have ea1 := ea.mono e1
        have hp1 := e1.h _ _ h2
        have fp1 := e1.keep h2 rfl h5
        refine ⟨p, xs, v, rfl, rfl, hp1, by have := h4.length; omega, g1 σ F1 _ (mut_ext (o := .lst xs) (x.trans e1) h6 fp1) (Same.refl F1) (ea1.mut q rfl h1 ⟨p, _, rfl, h6, fp1, upd_same, by simp; have := h4.length; omega, (h4.mono e1.f).snoc p1⟩)⟩
      · rw [if_neg hz] at g1; exact g1.elim
    | no => exact g.elim
    | val d => exact g.elim
    | ownd _ ks vs => exact g.elim
def extS (i : Nat) (f : EnvD → R (List D)) : EnvD → Out := fun env => match env[i]? with
  | some (.own ds) => bindS (f env) env fun es => if small (ds.length + es.length) = true then .next (env.set i (.own (ds ++ es))) else .bad
  | _ => .bad
theorem pds_extend {i : Nat} {f : EnvD → R (List D)} (h : PS X st (tDrop (tBM X.K "list" rExtend (tVar i) (tCons (tG X.K cls W (pN X.K) f) tNil)))) : PDS X cls W st (extS i f) := ps_imp h fun D σ H ⟨H0, F0, env, F, x, ea, g⟩ => by
  unfold extS at g
  cases q : env[i]? with
  | none => rw [q] at g; exact g.elim
  | some s =>
    rw [q] at g
    cases s with
    | own ds =>
      obtain ⟨p, xs, h1, h2, h3, h4, h5, h6⟩ := tv_own ea q
      refine ⟨.ref p, getD_some h1, .inl ⟨rfl, xs, SqL.of h2⟩, H0, F, env, ea, (g.expr x ea).imp fun v H1 ⟨F1, es, _, e1, ⟨p2, ys, ev, n1, n2, n3, n4, n5⟩, g1⟩ => ?_⟩
      subst ev
      by_cases hz : small (ds.length + es.length) = true
      · rw [if_pos hz] at g1
        have hz' := small_ok hz
        have ea1 := ea.mono e1
        have hp1 := e1.h _ _ h2
        have fp1 := e1.keep h2 rfl h5
        have l1 := h4.length
        have l2 := n5.length
        refine ⟨p, p2, xs, ys, rfl, rfl, hp1, n3, by omega, g1 σ F1 _ (mut_ext (o := .lst xs) (x.trans e1) h6 fp1) (Same.refl F1) (ea1.mut q rfl h1 ⟨p, _, rfl, h6, fp1, upd_same, by simp; omega, (h4.mono e1.f).append n5⟩)⟩
      · rw [if_neg hz] at g1; exact g1.elim
    | no => exact g.elim
    | val d => exact g.elim
    | ownd _ ks vs => exact g.elim
/-- xs.append(ys.pop(k)) -/
def appPopS (i j : Nat) (f : EnvD → R D) : EnvD → Out := fun env => match env[i]?, env[j]? with
  | some (.own ds), some (.own es) => bindS (f env) env fun d => match d with
    | .int k => if i ≠ j ∧ 0 ≤ k ∧ k < es.length ∧ small (ds.length + 1) = true then (match es[k.toNat]? with
      | some y => .next ((env.set j (.own (es.eraseIdx k.toNat))).set i (.own (ds ++ [y])))
      | none => .bad) else .bad
    | _ => .bad
  | _, _ => .bad
theorem Reps.erase {K : PySem.W.Frag} {F : Hp} {vs : List V} {ds : List D} (h : Reps K F vs ds) : ∀ i : Nat, Reps K F (vs.eraseIdx i) (ds.eraseIdx i) := by
  induction ds generalizing vs with
  | nil => intro i; cases h; exact .nil
  | cons d ds ih =>
    intro i
    cases h with
    | cons a b =>
      cases i with
      | zero => exact b
      | succ i => exact .cons a (ih b i)
theorem pds_appPop {i j : Nat} {f : EnvD → R D} (h : PS X st (tDrop (tBM X.K "list" rAppend (tVar i) (tCons (tBM X.K "list" rPopAt (tVar j) (tCons (tG X.K cls W (pV X.K) f) tNil)) tNil)))) : PDS X cls W st (appPopS i j f) := ps_imp h fun D σ H ⟨H0, F0, env, F, x, ea, g⟩ => by
  unfold appPopS at g
  cases q : env[i]? with
  | none => rw [q] at g; exact g.elim
  | some s =>
    cases s with
    | own ds =>
      cases q2 : env[j]? with
      | none => rw [q, q2] at g; exact g.elim
      | some t =>
        rw [q, q2] at g
        cases t with
        | own es =>
          obtain ⟨p, xs, h1, h2, h3, h4, h5, h6⟩ := tv_own ea q
          obtain ⟨p2, ys, g1, g2, g3, g4, g5, g6⟩ := tv_own ea q2
          refine ⟨.ref p, getD_some h1, .inl ⟨rfl, xs, SqL.of h2⟩, .ref p2, getD_some g1, .inl ⟨rfl, ys, SqL.of g2⟩, H0, F, env, ea, (g.expr x ea).imp fun v H1 ⟨F1, d, _, e1, p1, k1⟩ => ?_⟩
          cases d with
          | int k =>
            cases rep_int p1
            have k1 : GoS X.K cls W F0 H0 F1 (if i ≠ j ∧ 0 ≤ k ∧ k < es.length ∧ small (ds.length + 1) = true then (match es[k.toNat]? with
              | some y => .next ((env.set j (.own (es.eraseIdx k.toNat))).set i (.own (ds ++ [y])))
              | none => .bad) else .bad) D := k1
            by_cases hz : i ≠ j ∧ 0 ≤ k ∧ k < es.length ∧ small (ds.length + 1) = true
            · rw [if_pos hz] at k1
              obtain ⟨z1, z2, z3, z4⟩ := hz
              have l1 := h4.length
              have l2 := g4.length
              have hk : k.toNat < es.length := by omega
              obtain ⟨y, hy⟩ : ∃ y, es[k.toNat]? = some y := ⟨es[k.toNat], by simp [hk]⟩
              rw [hy] at k1
              obtain ⟨w, hw, rw1⟩ := g4.get hy
              have b63 := line63
              have hsi : seqIndex? k ys.length = some k.toNat := (ixN_seq (n := ys.length) (i := k) (j := k.toNat) (by unfold ixN; rw [if_pos z2, if_pos (by omega)])).1
              refine ⟨p2, ys, k, k.toNat, w, rfl, rfl, e1.h _ _ g2, by omega, by omega, hsi, hw, ?_⟩
              have ea1 := ea.mono e1
              have fp2 := e1.keep g2 rfl g5
              have fp1 := e1.keep h2 rfl h5
              have npp : p ≠ p2 := fun e => by subst e; exact ea.ap i j _ _ p z1 q q2 rfl rfl h1 g1
              have x1 := mut_ext (o := .lst ys) (u := .lst (ys.eraseIdx k.toNat)) (x.trans e1) g6 fp2
              have ea2 := ea1.mut (u := .lst (ys.eraseIdx k.toNat)) (s' := .own (es.eraseIdx k.toNat)) q2 rfl g1 ⟨p2, _, rfl, g6, fp2, upd_same, by have := len_erase ys k.toNat; omega, (g4.mono e1.f).erase _⟩
              have q3 : (env.set j (.own (es.eraseIdx k.toNat)))[i]? = some (.own ds) := by rw [List.getElem?_set_ne (Ne.symm z1)]; exact q
              have hz' := small_ok z4
              refine ⟨p, xs, w, rfl, rfl, by rw [upd_ne npp]; exact e1.h _ _ h2, by omega, k1 σ F1 _ (mut_ext (o := .lst xs) x1 h6 fp1) (Same.refl F1) (ea2.mut q3 rfl h1 ⟨p, _, rfl, h6, fp1, upd_same, by simp; omega, (h4.mono e1.f).snoc (rw1.mono e1.f)⟩)⟩
            · rw [if_neg hz] at k1; exact k1.elim
          | _ => exact k1.elim
        | no => exact g.elim
        | val d => exact g.elim
        | ownd _ ks vs => exact g.elim
    | no => rw [q] at g; exact g.elim
    | val d => rw [q] at g; exact g.elim
    | ownd _ ks vs => rw [q] at g; exact g.elim
end
section
variable {X : Cx} {cls : Exc → Addr} {W : WX} {e a b c tg : Expr} {pos p p2 : Pos} {fa fb : EnvD → R D}
/-! ### list + list -/
def catD : D → D → Option (List D)
  | .lst xs, .lst ys => if small (xs.length + ys.length) = true then some (xs ++ ys) else none
  | _, _ => none
theorem repB_lst {K : PySem.W.Frag} {F H : Hp} {v : V} {ds : List D} (i : Same F H) (h : RepB K F H v (.lst ds)) : ∃ p xs, v = .ref p ∧ H p = some (.lst xs) ∧ xs.length ≤ sizeLine ∧ Reps K F xs ds := by
  rcases h with h | ⟨p, xs, es, h1, h2, h3, h4, h5⟩ | ⟨_, _, _, _, _, _, h, _⟩
  · cases h with | lst h1 h2 h3 => exact ⟨_, _, rfl, i _ _ h1, h2, h3⟩
  · cases h2; exact ⟨p, xs, h1, h3, h4, h5⟩
  · cases h
theorem repB_tup {K : PySem.W.Frag} {F H : Hp} {v : V} {ds : List D} (h : RepB K F H v (.tup ds)) : ∃ p xs, v = .ref p ∧ TupAt F p xs ∧ xs.length ≤ sizeLine ∧ Reps K F xs ds := by
  rcases h with h | ⟨_, _, _, _, h, _⟩ | ⟨_, _, _, _, _, _, h, _⟩
  · cases h with | tup h1 h2 h3 => exact ⟨_, _, rfl, h1, h2, h3⟩
  · cases h
  · cases h
theorem os_cat {K : PySem.W.Frag} : OpSem (pB K) (pB K) (pN K) rCat catD := fun S1 S2 F H x y d e z Q i p q hz k => by
  unfold catD at hz
  split at hz
  · rename_i xs ys
    by_cases hl : small (xs.length + ys.length) = true
    · rw [if_pos hl] at hz; cases hz
      obtain ⟨a, us, rfl, h1, h2, h3⟩ := repB_lst i p
      obtain ⟨b, ws, rfl, g1, g2, g3⟩ := repB_lst i q
      have hl' := small_ok hl
      rw [← h3.length, ← g3.length] at hl'
      exact ⟨a, b, us, ws, rfl, rfl, h1, g1, hl', fun p hp => k _ F _ (Ext.newH i hp) ⟨p, _, rfl, hp, i.free hp, upd_same, by simpa using hl', h3.append g3⟩⟩
    · rw [if_neg hl] at hz; cases hz
  · cases hz
def repD : D → D → Option (List D)
  | .lst xs, .int j => if 0 ≤ j ∧ j ≤ 1000 ∧ xs.length ≤ 1000 then some (List.replicate j.toNat xs).flatten else none
  | _, _ => none
theorem os_rep {K : PySem.W.Frag} : OpSem (pB K) (pV K) (pN K) rRep repD := fun S1 S2 F H x y d e z Q i p q hz k => by
  unfold repD at hz
  split at hz
  · rename_i xs j
    by_cases hj : 0 ≤ j ∧ j ≤ 1000 ∧ xs.length ≤ 1000
    · rw [if_pos hj] at hz; cases hz
      obtain ⟨a, us, rfl, h1, h2, h3⟩ := repB_lst i p
      cases rep_int q
      have l : us.length * j.toNat ≤ 1000 * 1000 := Nat.mul_le_mul (by rw [h3.length]; exact hj.2.2) (by omega)
      have l2 : us.length * j.toNat ≤ sizeLine := Nat.le_trans l (by rw [sizeLine_eq]; decide)
      refine ⟨a, j, us, rfl, rfl, h1, by omega, by omega, l2, fun p hp => k _ F _ (Ext.newH i hp) ⟨p, _, rfl, hp, i.free hp, upd_same, ?_, h3.rep _⟩⟩
      rw [List.length_flatten, List.map_replicate, List.sum_replicate_nat, Nat.mul_comm]; exact l2
    · rw [if_neg hj] at hz; cases hz
  · cases hz
/-! ### slices -/
def pO : PP (Option Int) (Option Int) := ⟨fun _ _ _ b c => b = c, fun _ h => h, fun _ h => h⟩
abbrev PDO (X : Cx) (cls : Exc → Addr) (W : WX) (e : Option Expr) (f : EnvD → R (Option Int)) : Prop := PO X e (tG X.K cls W pO f)
theorem po_imp {e : Option Expr} {t t' : TO} (h : PO X e t) (m : ∀ σ H Q, t' σ H Q → t σ H Q) : PO X e t' := ⟨fun pins s σ H Q I q => h.run pins s σ H Q I (m σ H Q q)⟩
def noO : EnvD → R (Option Int) := fun _ => .ok none
def asO : D → Option (Option Int)
  | .int i => some (some i)
  | _ => none
def someO (f : EnvD → R D) : EnvD → R (Option Int) := una asO f
theorem pdo_none : PDO X cls W none noO := po_imp po_none fun σ H Q ⟨H0, F, env, ea, g⟩ => g none F H (Ext.refl ea.fh) rfl
theorem pdo_some (h : PDE X cls W (pV X.K) e fa) : PDO X cls W (some e) (someO fa) := po_imp (po_some h) fun σ H Q ⟨H0, F, env, ea, g⟩ => ⟨H0, F, env, ea, (Go.bind g).imp fun x H1 ⟨F1, d, _, e1, p1, g1⟩ => by
  obtain ⟨z, hz, g2⟩ := Go.ofO g1
  cases d with
  | int i => cases hz; exact ⟨i, rep_int p1, g2 _ F1 H1 (Ext.refl e1.i) rfl⟩
  | _ => cases hz⟩
def cutD (xs : List D) (lo hi : Option Int) : List D := (xs.drop (HT.sIx xs.length 0 lo)).take (HT.sIx xs.length xs.length hi - HT.sIx xs.length 0 lo)
theorem cutD_whole {ds : List D} {lo hi : Option Int} (w : HT.sIx ds.length 0 lo = 0 ∧ HT.sIx ds.length ds.length hi = ds.length) : cutD ds lo hi = ds := by
  unfold cutD
  rw [w.1, w.2]
  simp
theorem reps_cut {K : PySem.W.Frag} {F : Hp} {vs : List V} {ds : List D} (h : Reps K F vs ds) (lo hi : Option Int) : Reps K F (cutV vs lo hi) (cutD ds lo hi) := by
  unfold cutV cutD
  rw [h.length]
  exact (h.drop _).take _
def cutF : D → Option Int → Option Int → Option D
  | .tup xs, lo, hi => some (.tup (cutD xs lo hi))
  | .lst xs, lo, hi => some (.lst (cutD xs lo hi))
  | _, _, _ => none
def sliceF (fa : EnvD → R D) (fl fh : EnvD → R (Option Int)) : EnvD → R D := fun env => (fa env).bind fun x => (fl env).bind fun lo => (fh env).bind fun hi => R.ofO (cutF x lo hi)
theorem sl_any : SlR X (fun x lo hi H Q => rSlN X.K x lo hi H Q ∨ rSlL X.K x lo hi H Q) := SlR.or sl_tupN sl_list
theorem pd_slice {lo hi : Option Expr} {fl fh : EnvD → R (Option Int)} (ha : PDE X cls W (pB X.K) a fa) (hl : PDO X cls W lo fl) (hh : PDO X cls W hi fh) : PDE X cls W (pV X.K) (.Subscript a (.Slice lo hi none p2) pos) (sliceF fa fl fh) :=
  pe_imp (pe_slice sl_any ha hl hh) fun σ H Q ⟨H0, F, env, ea, g⟩ => ⟨H0, F, env, ea, (Go.bind g).imp fun x H1 ⟨F1, d, _, e1, p1, g1⟩ => ⟨H0, F1, env, ea.mono e1, (Go.bind (P1 := pO) g1).imp fun l H2 ⟨F2, lo', _, e2, q2, g2⟩ => ⟨H0, F2, env, (ea.mono e1).mono e2, (Go.bind (P1 := pO) g2).imp fun u H3 ⟨F3, hi', _, e3, q3, g3⟩ => by
    cases q2; cases q3
    obtain ⟨z, hz, g4⟩ := Go.ofO g3
    have p3 := RepB.mono p1 (e2.f.trans e3.f) (e2.h.trans e3.h)
    unfold cutF at hz
    split at hz
    · cases hz
      obtain ⟨q, xs, rfl, h1, h2, h3⟩ := repB_tup p3
      refine .inl ⟨q, xs, rfl, (h1.mono e3.i).sq, fun w => ?_, fun _ t ht o hd => ?_⟩
      · rw [cutD_whole (by rw [← h3.length]; exact w)] at g4
        exact g4 _ F3 H3 (Ext.refl e3.i) (.tup h1 h2 h3)
      · exact g4 _ (upd F3 t _) _ (Ext.new e3.i ht) (.tup ⟨o, hd, upd_same⟩ (Nat.le_trans (cutV_length xs l u) h2) ((reps_cut h3 l u).mono (Same.updN (e3.i.free ht))))
    · cases hz
      obtain ⟨q, xs, rfl, h1, h2, h3⟩ := repB_lst e3.i p3
      exact .inr ⟨q, xs, rfl, SqL.of h1, fun t ht => g4 _ (upd F3 t _) _ (Ext.new e3.i ht) (.lst upd_same (Nat.le_trans (cutV_length xs l u) h2) ((reps_cut h3 l u).mono (Same.updN (e3.i.free ht))))⟩
    · cases hz⟩⟩⟩
/-! ### built-ins -/
theorem repBs1 {K : PySem.W.Frag} {F H : Hp} {vs : List V} {d : D} (h : RepBs K F H vs [d]) : ∃ v, vs = [v] ∧ RepB K F H v d := by
  cases h with | cons a b => cases b; exact ⟨_, rfl, a⟩
theorem repBs2 {K : PySem.W.Frag} {F H : Hp} {vs : List V} {d e : D} (h : RepBs K F H vs [d, e]) : ∃ v w, vs = [v, w] ∧ RepB K F H v d ∧ RepB K F H w e := by
  cases h with | cons a b => cases b with | cons c d => cases d; exact ⟨_, _, rfl, a, c⟩
def lenD : List D → Option D
  | [.lst xs] => some (.int xs.length)
  | [.tup xs] => some (.int xs.length)
  | [.scr xs] => some (.int xs.length)
  | _ => none
theorem cs_len {K : PySem.W.Frag} : CallSem (pV K) K (fun xs H Q => ∃ p ys, xs = [.ref p] ∧ (SqL K H p ys ∨ SqT K H p ys) ∧ Q (.int ys.length) H) lenD := fun F H xs ds z Q i h hz k => by
  unfold lenD at hz
  split at hz
  · cases hz
    obtain ⟨v, rfl, hv⟩ := repBs1 h
    obtain ⟨p, us, rfl, h1, h2, h3⟩ := repB_lst i hv
    exact ⟨p, us, rfl, .inl (SqL.of h1), by rw [h3.length]; exact k _ F H (Ext.refl i) (.int _)⟩
  · cases hz
    obtain ⟨v, rfl, hv⟩ := repBs1 h
    obtain ⟨p, us, rfl, h1, h2, h3⟩ := repB_tup hv
    exact ⟨p, us, rfl, .inr (h1.mono i).sq, by rw [h3.length]; exact k _ F H (Ext.refl i) (.int _)⟩
  · cases hz
    obtain ⟨v, rfl, hv⟩ := repBs1 h
    rcases hv with hv | ⟨_, _, _, _, q, _⟩ | ⟨_, _, _, _, _, _, q, _⟩
    · cases hv with
      | scr h1 h2 => exact ⟨_, _, rfl, .inl (i.seq h1), by rw [List.length_map]; exact k _ F H (Ext.refl i) (.int _)⟩
    · cases q
    · cases q
  · cases hz
def asBls : List D → Option (List Bool)
  | [] => some []
  | .bl b :: r => (asBls r).map (b :: ·)
  | _ => none
theorem asBls_eq : ∀ {ds : List D} {bs : List Bool}, asBls ds = some bs → ds = bs.map D.bl
  | [], _, h => by cases h; rfl
  | .bl b :: r, _, h => by
    simp only [asBls] at h
    cases q : asBls r with
    | none => rw [q] at h; cases h
    | some ms => rw [q] at h; cases h; rw [asBls_eq q]; rfl
  | .non :: _, _, h => by cases h
  | .int _ :: _, _, h => by cases h
  | .str _ :: _, _, h => by cases h
  | .tup _ :: _, _, h => by cases h
  | .itm _ :: _, _, h => by cases h
  | .lst _ :: _, _, h => by cases h
  | .scr _ :: _, _, h => by cases h
  | .dic _ _ :: _, _, h => by cases h
  | .raw _ :: _, _, h => by cases h
def allD : List D → Option D
  | [.lst ds] => (asBls ds).map fun bs => .bl (bs.all id)
  | _ => none
def anyD : List D → Option D
  | [.lst ds] => (asBls ds).map fun bs => .bl (bs.any id)
  | _ => none
theorem cs_all {K : PySem.W.Frag} : CallSem (pV K) K (rAll K) allD := fun F H xs ds z Q i h hz k => by
  unfold allD at hz
  split at hz
  · rename_i es
    cases w : asBls es with
    | none => rw [w] at hz; cases hz
    | some bs =>
      rw [w] at hz; cases hz
      obtain ⟨v, rfl, hv⟩ := repBs1 h
      obtain ⟨p, us, rfl, h1, h2, h3⟩ := repB_lst i hv
      rw [asBls_eq w] at h3
      rw [h3.of_bls] at h1
      exact ⟨p, bs, rfl, SqL.of h1, k _ F H (Ext.refl i) (.bl _)⟩
  · cases hz
theorem cs_any {K : PySem.W.Frag} : CallSem (pV K) K (rAny K) anyD := fun F H xs ds z Q i h hz k => by
  unfold anyD at hz
  split at hz
  · rename_i es
    cases w : asBls es with
    | none => rw [w] at hz; cases hz
    | some bs =>
      rw [w] at hz; cases hz
      obtain ⟨v, rfl, hv⟩ := repBs1 h
      obtain ⟨p, us, rfl, h1, h2, h3⟩ := repB_lst i hv
      rw [asBls_eq w] at h3
      rw [h3.of_bls] at h1
      exact ⟨p, bs, rfl, SqL.of h1, k _ F H (Ext.refl i) (.bl _)⟩
  · cases hz
def max2D : List D → Option D
  | [.int i, .int j] => some (.int (if j > i then j else i))
  | _ => none
def min2D : List D → Option D
  | [.int i, .int j] => some (.int (if j < i then j else i))
  | _ => none
theorem cs_max2 {K : PySem.W.Frag} : CallSem (pV K) K (fun xs H Q => ∃ i j, xs = [.int i, .int j] ∧ Q (.int (if j > i then j else i)) H) max2D := fun F H xs ds z Q i h hz k => by
  unfold max2D at hz
  split at hz
  · cases hz; rw [reps_bs2 h]; exact ⟨_, _, rfl, k _ F H (Ext.refl i) (.int _)⟩
  · cases hz
theorem cs_min2 {K : PySem.W.Frag} : CallSem (pV K) K (fun xs H Q => ∃ i j, xs = [.int i, .int j] ∧ Q (.int (if j < i then j else i)) H) min2D := fun F H xs ds z Q i h hz k => by
  unfold min2D at hz
  split at hz
  · cases hz; rw [reps_bs2 h]; exact ⟨_, _, rfl, k _ F H (Ext.refl i) (.int _)⟩
  · cases hz
def absD : List D → Option D
  | [.int i] => some (.int (if i < 0 then -i else i))
  | _ => none
theorem cs_abs {K : PySem.W.Frag} : CallSem (pV K) K (fun xs H Q => ∃ i, xs = [.int i] ∧ Q (.int (if i < 0 then -i else i)) H) absD := fun F H xs ds z Q i h hz k => by
  unfold absD at hz
  split at hz
  · cases hz; rw [reps_bs1 h]; exact ⟨_, rfl, k _ F H (Ext.refl i) (.int _)⟩
  · cases hz
def tupleD : List D → Option D
  | [.lst xs] => some (.tup xs)
  | [.tup xs] => some (.tup xs)
  | _ => none
theorem cs_tuple {K : PySem.W.Frag} : CallSem (pV K) K (fun xs H Q => ∃ p ys, xs = [.ref p] ∧ ((SqL K H p ys ∧ ∀ l, H l = none → ∀ o : Obj, o.dict = none → Q (.ref l) (upd H l (.frz o (.tup ys)))) ∨ (SqT K H p ys ∧ Q (.ref p) H))) tupleD := fun F H xs ds z Q i h hz k => by
  unfold tupleD at hz
  split at hz
  · cases hz
    obtain ⟨v, rfl, hv⟩ := repBs1 h
    obtain ⟨p, us, rfl, h1, h2, h3⟩ := repB_lst i hv
    exact ⟨p, us, rfl, .inl ⟨SqL.of h1, fun t ht o hd => k _ (upd F t _) _ (Ext.new i ht) (.tup ⟨o, hd, upd_same⟩ h2 (h3.mono (Same.updN (i.free ht))))⟩⟩
  · cases hz
    obtain ⟨v, rfl, hv⟩ := repBs1 h
    obtain ⟨p, us, rfl, h1, h2, h3⟩ := repB_tup hv
    exact ⟨p, us, rfl, .inr ⟨(h1.mono i).sq, k _ F H (Ext.refl i) (.tup h1 h2 h3)⟩⟩
  · cases hz
def listD : List D → Option (List D)
  | [.lst xs] => some xs
  | [.tup xs] => some xs
  | _ => none
theorem cs_list {K : PySem.W.Frag} : CallSem (pN K) K (fun xs H Q => ∃ p ys, xs = [.ref p] ∧ (SqL K H p ys ∨ SqT K H p ys) ∧ ∀ l, H l = none → Q (.ref l) (upd H l (.lst ys))) listD := fun F H xs ds z Q i h hz k => by
  unfold listD at hz
  split at hz
  · cases hz
    obtain ⟨v, rfl, hv⟩ := repBs1 h
    obtain ⟨p, us, rfl, h1, h2, h3⟩ := repB_lst i hv
    exact ⟨p, us, rfl, .inl (SqL.of h1), fun t ht => k _ F _ (Ext.newH i ht) ⟨t, _, rfl, ht, i.free ht, upd_same, h2, h3⟩⟩
  · cases hz
    obtain ⟨v, rfl, hv⟩ := repBs1 h
    obtain ⟨p, us, rfl, h1, h2, h3⟩ := repB_tup hv
    exact ⟨p, us, rfl, .inr (h1.mono i).sq, fun t ht => k _ F _ (Ext.newH i ht) ⟨t, _, rfl, ht, i.free ht, upd_same, h2, h3⟩⟩
  · cases hz
/-- list(range(..)), tuple(range(..)) -/
def rngV (n : Int) : EnvD → R (List D) := fun _ => .bad
theorem rgV_eq (lo hi : Int) : rgV lo hi = (List.range (hi - lo).toNat).map fun i => V.int (lo + (i : Nat)) := rfl
theorem reps_rng {K : PySem.W.Frag} {F : Hp} (lo hi : Int) : Reps K F (rgV lo hi) (rng lo hi) := by
  have e1 : rgV lo hi = ((List.range (hi - lo).toNat).map fun i => lo + ((i : Nat) : Int)).map V.int := by unfold rgV; rw [List.map_map]; rfl
  have e2 : rng lo hi = ((List.range (hi - lo).toNat).map fun i => lo + ((i : Nat) : Int)).map D.int := by unfold rng; rw [List.map_map]; rfl
  rw [e1, e2]; exact .ints
def rngL1 (f : EnvD → R D) : EnvD → R (List D) := una (fun d => asRng1 [d]) f
theorem rng_ok2 {lo hi : Int} (h : rngOk lo hi = true) : RgOk lo hi := by
  have := of_decide_eq_true h
  refine ⟨by omega, by omega, by omega, by omega, by omega⟩
theorem pd_listRg1 (hc : X.calm = true) (hg : Gl X "list") (hm : X.mg "list" = none) (hg2 : Gl X "range") (hm2 : X.mg "range" = none) (ha : PDE X cls W (pV X.K) a fa)
    (na : starEach [a] X.env = (false, eval a X.env) :: starEach [] X.env := by rfl) (na2 : starEach [.Call (.Name "range" p2) [a] [] pos] X.env = (false, eval (.Call (.Name "range" p2) [a] [] pos) X.env) :: starEach [] X.env := by rfl) {p3 pos3 : Pos} :
    PDE X cls W (pN X.K) (.Call (.Name "list" p3) [.Call (.Name "range" p2) [a] [] pos] [] pos3) (rngL1 fa) :=
  pe_imp (pe_listRg hc hg hm (prg_1 hg2 hm2 ha na) na2) fun σ H Q ⟨H0, F, env, ea, g⟩ => ⟨H0, F, env, ea, (Go.bind g).imp fun x H1 ⟨F1, d, _, e1, p1, g1⟩ => by
    obtain ⟨z, hz, g2⟩ := Go.ofO g1
    cases d with
    | int n =>
      have hz : (if rngOk 0 n = true then some (rng 0 n) else none) = some z := hz
      by_cases hk : rngOk 0 n = true
      · rw [if_pos hk] at hz; cases hz
        exact ⟨n, rep_int p1, rng_ok2 hk, fun q hq => g2 _ F1 _ (Ext.newH e1.i hq) ⟨q, _, rfl, hq, e1.i.free hq, upd_same, by rw [rgV_length]; exact rng_le hk, reps_rng 0 n⟩⟩
      · rw [if_neg hk] at hz; cases hz
    | _ => cases hz⟩
theorem pd_tupRg1 (hc : X.calm = true) (hg : Gl X "tuple") (hm : X.mg "tuple" = none) (hg2 : Gl X "range") (hm2 : X.mg "range" = none) (ha : PDE X cls W (pV X.K) a fa)
    (na : starEach [a] X.env = (false, eval a X.env) :: starEach [] X.env := by rfl) (na2 : starEach [.Call (.Name "range" p2) [a] [] pos] X.env = (false, eval (.Call (.Name "range" p2) [a] [] pos) X.env) :: starEach [] X.env := by rfl) {p3 pos3 : Pos} :
    PDE X cls W (pV X.K) (.Call (.Name "tuple" p3) [.Call (.Name "range" p2) [a] [] pos] [] pos3) (fun env => (rngL1 fa env).map D.tup) :=
  pe_imp (pe_tupRgN hc hg hm (prg_1 hg2 hm2 ha na) na2) fun σ H Q ⟨H0, F, env, ea, g⟩ => ⟨H0, F, env, ea, by
    have g : Go cls (pV X.K) W σ F H (((fa env).bind fun d => R.ofO (asRng1 [d])).map D.tup) Q := g
    have g' : Go cls (pV X.K) W σ F H ((fa env).bind fun d => (R.ofO (asRng1 [d])).map D.tup) Q := by
      cases q : fa env with
      | ok d => rw [q] at g; exact g
      | err c => rw [q] at g; exact g
      | bad => rw [q] at g; exact g
    refine (Go.bind g').imp fun x H1 ⟨F1, d, _, e1, p1, g1⟩ => ?_
    cases d with
    | int n =>
      have g1 : Go cls (pV X.K) W σ F1 H1 ((R.ofO (if rngOk 0 n = true then some (rng 0 n) else none)).map D.tup) Q := g1
      by_cases hk : rngOk 0 n = true
      · rw [if_pos hk] at g1
        exact ⟨n, rep_int p1, rng_ok2 hk, fun q hq o hd => g1 _ (upd F1 q _) _ (Ext.new e1.i hq) (.tup ⟨o, hd, upd_same⟩ (by rw [rgV_length]; exact rng_le hk) (reps_rng 0 n))⟩
      · rw [if_neg hk] at g1; exact g1.elim
    | _ => exact g1.elim⟩
/-! ### isinstance -/
def tyN : D → Option String
  | .non => some "NoneType"
  | .bl _ => some "bool"
  | .int _ => some "int"
  | .str _ => some "str"
  | .tup _ => some "tuple"
  | .lst _ => some "list"
  | _ => none
theorem repB_ty {K : PySem.W.Frag} {F H : Hp} {v : V} {d : D} {t : String} (i : Same F H) (h : RepB K F H v d) (q : tyN d = some t) : TyX K H v (.type t) := by
  rcases h with h | ⟨p, xs, ds, rfl, rfl, h1, _⟩ | ⟨p, u, t, ks, vs, rfl, rfl, _⟩
  · cases h with
    | non => cases q; exact .base .non
    | bl b => cases q; exact .base (.bl b)
    | int j => cases q; exact .base (.int j)
    | str x => cases q; exact .base (.str x)
    | tup h1 _ _ => obtain ⟨o, _, hk⟩ := h1; cases q; exact .fTuple (i _ _ hk)
    | lst h1 _ _ => cases q; exact .base (.lst (i _ _ h1))
    | _ => cases q
  · cases q; exact .base (.lst h1)
  · cases q
/-- g says what isinstance(.., n) is -/
def IsiOk (n : String) (g : D → Option Bool) : Prop := ∀ d b, g d = some b → ∃ t, tyN d = some t ∧ kitB t n = some b
theorem pd_isi {n : String} {x : Str} {g : D → Option Bool} (hk : IsiOk n g) (hg : Gl X "isinstance") (hm : X.mg "isinstance" = none) (hx : Gl X x) (hxm : X.mg x = none) (hxv : bootBuiltins x = some (.type n)) (ha : PDE X cls W (pB X.K) a fa) {p3 : Pos}
    (hs : starEach (a :: [.Name x p3]) X.env = (false, eval a X.env) :: starEach [.Name x p3] X.env := by rfl) (hs2 : starEach [.Name x p3] X.env = (false, eval (.Name x p3) X.env) :: starEach [] X.env := by rfl) (hpl : (backTo pos (starEach [.Name x p3] X.env)).any (·.1) = false := by rfl)
    (hn : x ≠ "__name__" := by decide) (hd : (x == ("__debug__" : Str)) = false := by decide) :
    PDE X cls W (pV X.K) (.Call (.Name "isinstance" p) [a, .Name x p3] [] pos) (una (fun d => toD (g d)) fa) :=
  pe_imp (pe_callB call_isi hg hm (by decide +kernel) (pa_cons ha (pa_cons (pe_bltn (v := .ty n) hx hxm hxv rfl hn hd) pa_nil hs2) hs) (by decide) (by decide) hs hpl) fun σ H Q ⟨H0, F, env, ea, g1⟩ => ⟨H0, F, env, ea, (Go.bind g1).imp fun v H1 ⟨F1, d, _, e1, p1, g2⟩ => by
    obtain ⟨z, hz, g3⟩ := Go.ofO g2
    cases w : g d with
    | none => simp [toD, w] at hz
    | some b =>
      simp [toD, w] at hz
      subst hz
      obtain ⟨t, h1, h2⟩ := hk d b w
      exact ⟨v, .ty n, .type t, .type n, b, rfl, .ty n, repB_ty e1.i p1 h1, kit_ty h2, g3 _ F1 H1 (Ext.refl e1.i) (.bl b)⟩⟩
def isIntD : D → Option Bool
  | .int _ => some true
  | .bl _ => some true
  | .non => some false
  | .str _ => some false
  | .tup _ => some false
  | .lst _ => some false
  | _ => none
def isBoolD : D → Option Bool
  | .bl _ => some true
  | .int _ => some false
  | .non => some false
  | .str _ => some false
  | .tup _ => some false
  | .lst _ => some false
  | _ => none
def isTupD : D → Option Bool
  | .tup _ => some true
  | .bl _ => some false
  | .int _ => some false
  | .non => some false
  | .str _ => some false
  | .lst _ => some false
  | _ => none
def isLstD : D → Option Bool
  | .lst _ => some true
  | .tup _ => some false
  | .bl _ => some false
  | .int _ => some false
  | .non => some false
  | .str _ => some false
  | _ => none
def isStrD : D → Option Bool
  | .str _ => some true
  | .lst _ => some false
  | .tup _ => some false
  | .bl _ => some false
  | .int _ => some false
  | .non => some false
  | _ => none
theorem isi_int : IsiOk "int" isIntD := fun d b h => by cases d <;> first | (cases h; exact ⟨_, rfl, by decide +kernel⟩) | cases h
theorem isi_bool : IsiOk "bool" isBoolD := fun d b h => by cases d <;> first | (cases h; exact ⟨_, rfl, by decide +kernel⟩) | cases h
theorem isi_tup : IsiOk "tuple" isTupD := fun d b h => by cases d <;> first | (cases h; exact ⟨_, rfl, by decide +kernel⟩) | cases h
theorem isi_lst : IsiOk "list" isLstD := fun d b h => by cases d <;> first | (cases h; exact ⟨_, rfl, by decide +kernel⟩) | cases h
theorem isi_str : IsiOk "str" isStrD := fun d b h => by cases d <;> first | (cases h; exact ⟨_, rfl, by decide +kernel⟩) | cases h
end
end PD

set_option maxHeartbeats 4000000
namespace PD
open PySem PySem.Spec PyProof.Rows L2
open PySem.W (EachIs AllAlike Sortable dataKind sortingHeap dataLe alike TotalLe sameRank sort_unique)
/-! ### insertion sort: what the machine's sort gives -/
def insL {α : Type} (le : α → α → Bool) (x : α) : List α → List α
  | [] => [x]
  | y :: ys => if le x y = true then x :: y :: ys else y :: insL le x ys
def isort {α : Type} (le : α → α → Bool) : List α → List α
  | [] => []
  | x :: xs => insL le x (isort le xs)
section
variable {α : Type} {le : α → α → Bool}
theorem mem_insL {x z : α} : ∀ {l : List α}, z ∈ insL le x l ↔ z = x ∨ z ∈ l
  | [] => by simp [insL]
  | y :: ys => by
    unfold insL
    split
    · simp
    · simp only [List.mem_cons, mem_insL (l := ys)]
      constructor
      · rintro (h | h | h) <;> simp [h]
      · rintro (h | h | h) <;> simp [h]
theorem insL_sorted (T : TotalLe le) {x : α} : ∀ {l : List α}, l.Pairwise (fun a b => le a b = true) → (insL le x l).Pairwise (fun a b => le a b = true)
  | [], _ => by simp [insL]
  | y :: ys, h => by
    obtain ⟨h1, h2⟩ := List.pairwise_cons.mp h
    unfold insL
    split
    · rename_i q
      exact List.pairwise_cons.mpr ⟨fun z hz => by
        rcases List.mem_cons.mp hz with e | hz
        · rw [e]; exact q
        · exact T.trans _ _ _ q (h1 z hz), h⟩
    · rename_i q
      refine List.pairwise_cons.mpr ⟨fun z hz => ?_, insL_sorted T h2⟩
      rcases mem_insL.mp hz with e | hz
      · rw [e]; exact (T.total y x).resolve_right q
      · exact h1 z hz
theorem isort_sorted (T : TotalLe le) : ∀ l : List α, (isort le l).Pairwise (fun a b => le a b = true)
  | [] => List.Pairwise.nil
  | x :: xs => insL_sorted T (isort_sorted T xs)
theorem insL_filter (T : TotalLe le) {x c : α} : ∀ {l : List α}, (insL le x l).filter (sameRank le c) = (x :: l).filter (sameRank le c)
  | [] => rfl
  | y :: ys => by
    unfold insL
    split
    · rfl
    · rename_i q
      rw [List.filter_cons, insL_filter T (l := ys)]
      by_cases hx : sameRank le c x = true
      · by_cases hy : sameRank le c y = true
        · exfalso
          unfold sameRank at hx hy
          exact q (T.trans _ _ _ (Bool.and_eq_true_iff.mp hx).2 (Bool.and_eq_true_iff.mp hy).1)
        · simp [List.filter_cons, hx, hy]
      · simp [List.filter_cons, hx]
theorem isort_filter (T : TotalLe le) (c : α) : ∀ l : List α, (isort le l).filter (sameRank le c) = l.filter (sameRank le c)
  | [] => rfl
  | x :: xs => by
    show (insL le x (isort le xs)).filter _ = _
    rw [insL_filter T, List.filter_cons, List.filter_cons, isort_filter T c xs]
theorem isort_eq (T : TotalLe le) (l : List α) : isort le l = l.mergeSort le := sort_unique T (isort_sorted T l) fun c => isort_filter T c l
theorem isort_perm (l : List α) : (isort le l).Perm l := by
  induction l with
  | nil => exact .refl _
  | cons x xs ih =>
    have h : ∀ l : List α, (insL le x l).Perm (x :: l) := by
      intro l
      induction l with
      | nil => exact .refl _
      | cons y ys ih2 =>
        unfold insL
        split
        · exact .refl _
        · exact (List.Perm.cons y ih2).trans (List.Perm.swap x y ys)
    exact (h _).trans (List.Perm.cons x ih)
end
def leD : D → D → Bool := dataLe false D.toPy
theorem leD_total : TotalLe leD := by unfold leD; rw [PySem.W.dataLe]; exact PySem.W.sortLe_total _ _ _
/-! ### which lists are sorted here -/
def isI : D → Bool
  | .int _ => true
  | _ => false
def isTI : D → Bool
  | .tup r => r.all isI
  | _ => false
def isT1 : D → Bool
  | .tup (.int _ :: r) => r.all isI
  | .itm (.int _ :: r) => r.all isI
  | _ => false
def isT2 : D → Bool
  | .tup [.int _, b] => isTI b
  | _ => false
def srtOk (ds : List D) : Bool := ds.all isI || ds.all isT1 || ds.all isT2
theorem toPys_map : ∀ ds : List D, toPys ds = ds.map D.toPy
  | [] => by simp [toPys]
  | d :: ds => by simp [toPys, toPys_map ds]
theorem isI_eq {d : D} (h : isI d = true) : ∃ i, d = .int i := by cases d <;> first | exact ⟨_, rfl⟩ | cases h
theorem allI_eq : ∀ {ds : List D}, ds.all isI = true → ∃ ns : List Int, ds = ns.map D.int
  | [], _ => ⟨[], rfl⟩
  | d :: ds, h => by
    simp only [List.all_cons, Bool.and_eq_true] at h
    obtain ⟨i, rfl⟩ := isI_eq h.1
    obtain ⟨ns, rfl⟩ := allI_eq h.2
    exact ⟨i :: ns, rfl⟩
theorem toPys_ints (ns : List Int) : toPys (ns.map D.int) = ns.map PyData.int := by rw [toPys_map, List.map_map]; congr 1
theorem isTI_eq {d : D} (h : isTI d = true) : ∃ ns : List Int, d = .tup (ns.map D.int) := by
  cases d with
  | tup r => obtain ⟨ns, rfl⟩ := allI_eq h; exact ⟨ns, rfl⟩
  | _ => cases h
theorem isT1_eq {d : D} (h : isT1 d = true) : ∃ (n : Int) (ns : List Int), d.toPy = .tuple (.int n :: ns.map PyData.int) := by
  unfold isT1 at h
  split at h
  · rename_i i r
    obtain ⟨ns, rfl⟩ := allI_eq h
    exact ⟨i, ns, by simp only [D.toPy, toPys, toPys_ints]⟩
  · rename_i i r
    obtain ⟨ns, rfl⟩ := allI_eq h
    exact ⟨i, ns, by simp only [D.toPy, toPys, toPys_ints]⟩
  · cases h
theorem isT2_eq {d : D} (h : isT2 d = true) : ∃ (n : Int) (ns : List Int), d = .tup [.int n, .tup (ns.map D.int)] := by
  unfold isT2 at h
  split at h
  · rename_i i b
    obtain ⟨ns, rfl⟩ := isTI_eq h
    exact ⟨i, ns, rfl⟩
  · cases h
theorem lay_ints : ∀ ns : List Int, PyData.canLayAll0 (ns.map PyData.int) = true
  | [] => by simp [PyData.canLayAll0]
  | n :: ns => by simp [PyData.canLayAll0, PyData.canLay0, lay_ints ns]
theorem dep_ints (ns : List Int) : PyData.depthAll (ns.map PyData.int) = 0 := PySem.W.depth_ints ns
structure SrtP (ds : List D) : Prop where
  al : AllAlike (ds.map D.toPy)
  so : Sortable (ds.map D.toPy)
  dp : ∀ d ∈ ds, d.toPy.depth ≤ 2
  ly : ∀ d ∈ ds, d.toPy.canLay0 = true
theorem srt_ok {ds : List D} (h : srtOk ds = true) : SrtP ds := by
  unfold srtOk at h
  simp only [Bool.or_eq_true] at h
  rcases h with (h | h) | h
  · have q : ∀ d ∈ ds, ∃ i, d = .int i := fun d hd => isI_eq (List.all_eq_true.mp h d hd)
    refine ⟨fun d hd d' hd' => ?_, .inr fun d hd => ?_, fun d hd => ?_, fun d hd => ?_⟩
    · obtain ⟨b, hb, rfl⟩ := List.mem_map.mp hd
      obtain ⟨c, hc, rfl⟩ := List.mem_map.mp hd'
      obtain ⟨i, rfl⟩ := q b hb
      obtain ⟨j, rfl⟩ := q c hc
      simp [D.toPy, alike]
    · obtain ⟨b, hb, rfl⟩ := List.mem_map.mp hd
      obtain ⟨i, rfl⟩ := q b hb
      simp [D.toPy]
    · obtain ⟨i, rfl⟩ := q d hd
      simp [D.toPy, PyData.depth]
    · obtain ⟨i, rfl⟩ := q d hd
      simp [D.toPy, PyData.canLay0]
  · have q : ∀ d ∈ ds, ∃ (n : Int) (ns : List Int), d.toPy = .tuple (.int n :: ns.map PyData.int) := fun d hd => isT1_eq (List.all_eq_true.mp h d hd)
    refine ⟨fun d hd d' hd' => ?_, .inl fun d hd => ?_, fun d hd => ?_, fun d hd => ?_⟩
    · obtain ⟨b, hb, rfl⟩ := List.mem_map.mp hd
      obtain ⟨c, hc, rfl⟩ := List.mem_map.mp hd'
      obtain ⟨i, ns, e1⟩ := q b hb
      obtain ⟨j, ms, e2⟩ := q c hc
      rw [e1, e2]
      simp only [alike]
      exact PySem.W.alike_ints (i :: ns) (j :: ms)
    · obtain ⟨b, hb, rfl⟩ := List.mem_map.mp hd
      obtain ⟨i, ns, e1⟩ := q b hb
      rw [e1]
      exact ⟨_, _, rfl⟩
    · obtain ⟨i, ns, e1⟩ := q d hd
      rw [e1]
      have := dep_ints (i :: ns)
      rw [List.map_cons] at this
      simp only [PyData.depth, this]
      omega
    · obtain ⟨i, ns, e1⟩ := q d hd
      rw [e1]
      have := lay_ints (i :: ns)
      rw [List.map_cons] at this
      simp only [PyData.canLay0, this]
  · have q : ∀ d ∈ ds, ∃ (n : Int) (ns : List Int), d = .tup [.int n, .tup (ns.map D.int)] := fun d hd => isT2_eq (List.all_eq_true.mp h d hd)
    refine ⟨fun d hd d' hd' => ?_, .inl fun d hd => ?_, fun d hd => ?_, fun d hd => ?_⟩
    · obtain ⟨b, hb, rfl⟩ := List.mem_map.mp hd
      obtain ⟨c, hc, rfl⟩ := List.mem_map.mp hd'
      obtain ⟨i, ns, rfl⟩ := q b hb
      obtain ⟨j, ms, rfl⟩ := q c hc
      simp [D.toPy, toPys, toPys_ints, alike, PySem.W.alikeAll, PySem.W.alike_ints]
    · obtain ⟨b, hb, rfl⟩ := List.mem_map.mp hd
      obtain ⟨i, ns, rfl⟩ := q b hb
      simp only [D.toPy, toPys]
      exact ⟨_, _, rfl⟩
    · obtain ⟨i, ns, rfl⟩ := q d hd
      simp [D.toPy, toPys, toPys_ints, PyData.depth, PyData.depthAll, dep_ints]
    · obtain ⟨i, ns, rfl⟩ := q d hd
      simp [D.toPy, toPys, toPys_ints, PyData.canLay0, PyData.canLayAll0, lay_ints]
/-! ### sorted over what collects -/
theorem collect_tup {prog : Program} {w : World} {A : Around} {E : Value → Shared → Prop} {s : Shared} {l : Addr} {vs : List Value} {Q : List Value → Shared → Prop} (hl : s.heap.IsTuple l vs.toArray)
    (h : Q vs { s with heap := (s.heap.push (seqObj "list" #[] 0)).update s.heap.objs.size (Obj.mapSeq (· ++ vs.toArray)) }) (hsz : vs.length ≤ sizeLine) :
    wpAny (model prog w) A (collect (.ref l)) Q E s := by
  obtain ⟨o, ho, hc, n, hd⟩ := id hl
  unfold collect
  refine wpAny_bind (wpAny_runValue (codeAny_builtin entry_proto_collect' ?_))
  show wpAny _ _ (do again (.builtin "list.__iadd__" ⟨[← newList [], .ref l], []⟩)) _ _ s
  refine wpAny_bind (wpAny_newList (wpAny_pure ⟨Code.quiet_builtin _ (by decide +kernel), codeAny_builtin entry_list_iadd' ?_⟩))
  show wpAny _ _ (Builtin.List.listExtendWith (.ref s.heap.objs.size) (.ref l) (.ref s.heap.objs.size)) _ _ { s with heap := s.heap.push (seqObj "list" #[] 0) }
  unfold Builtin.List.listExtendWith
  have ho' : (s.heap.push (seqObj "list" #[] 0)).get? l = some o := Heap.get?_push_of_some _ ho
  refine wpAny_bind (wpAny_typeOf (T := "tuple") ⟨o, ho', hc⟩ ?_)
  have ht : (Value.type "tuple" == Value.type "tuple") = true := by rfl
  rw [if_pos (by rw [ht]; simp)]
  refine wpAny_bind (listItems_at ho' hd ?_)
  refine wpAny_bind (listItems_at (xs := #[]) (n := 0) (Heap.get?_push_size _ rfl) rfl ?_)
  rw [if_neg (by simp)]
  refine wpAny_bind (listUpdate_at (xs := #[]) (n := 0) (Heap.get?_push_size _ rfl) rfl ?_ (Nat.zero_le _) (by show (#[] ++ vs.toArray).size ≤ sizeLine + 1; simp only [Array.size_append, List.size_toArray, List.length_nil]; omega))
  refine wpAny_pure ?_
  show wpAny (model prog w) A (do
      let o ← load s.heap.objs.size
      match o.data with
      | .seq xs _ => pure xs.toList
      | _ => unsupported "internal:collect") Q E { s with heap := (s.heap.push (seqObj "list" #[] 0)).update s.heap.objs.size (Obj.mapSeq (· ++ vs.toArray)) }
  refine wpAny_bind (wpAny_load (get?_update_seq (Heap.get?_push_size _ rfl) _) ?_)
  show wpAny _ _ (pure ((#[] : Array Value) ++ vs.toArray).toList) Q E _
  rw [show ((#[] : Array Value) ++ vs.toArray).toList = vs by simp]
  exact wpAny_pure h
theorem keepL {h : Heap} {f : Array Value → Array Value} : ∀ b o, h.get? b = some o → ((h.push (seqObj "list" #[] 0)).update h.objs.size (Obj.mapSeq f)).get? b = some o := fun b o e => by
  rw [Heap.get?_update_ne _ _ _ _ (Nat.ne_of_lt (Heap.lt_size e))]
  exact Heap.get?_push_of_some _ e
theorem sorted_gen {prog : Program} {w : World} {A : Around} {E : Value → Shared → Prop} {s : Shared} {l : Addr} {Q : Value → Shared → Prop} {bs : List D} {R : Value → D → Prop} (P : SrtP bs) (hL : bs.length ≤ sizeLine) (hu : A.units + 8 < cLine)
    (hcol : ∀ (Q' : List Value → Shared → Prop) (E' : Value → Shared → Prop), (∀ vs h' tk, (∀ b o, s.heap.get? b = some o → h'.get? b = some o) → EachIs R vs bs → EachIs (fun v b => ∃ as, Reads h' v b.toPy as) vs bs → Q' vs { s with heap := h', toks := tk }) →
      wpAny (model prog w) A.in1 (collect (.ref l)) Q' E' s)
    (h : ∀ (out : List Value) (h1 h' : Heap) (tk : Nat) (d : Addr) (n : Nat), out.length = bs.length → EachIs R out (isort leD bs) → (∀ b o, s.heap.get? b = some o → h1.get? b = some o) → (∀ b o, h1.get? b = some o → h'.get? b = some o) → h1.objs.size ≤ d → h'.get? d = some (seqObj "list" (List.toArray out) n) → Q (.ref d) { s with heap := h', toks := tk }) :
    wpAny (model prog w) A (call (.builtin "sorted") [.ref l]) Q E s := by
  refine Calls.call_function_entry kind_sorted plain_sorted entry_sorted (args_sorted1 _) ?_
  unfold Builtin.«sorted»
  refine wpAny_bind (m := checkCount "sorted" 1 1 _) (wpAny_pure ?_)
  refine wpAny_bind (hcol _ _ fun vs h1 tk k1 e er => ?_)
  have hvl : vs.length ≤ sizeLine := by rw [e.length]; exact hL
  refine wpAny_bind (wpAny_newList ?_ hvl)
  have hoL : (h1.push (seqObj "list" vs.toArray 0)).get? h1.objs.size = some (seqObj "list" vs.toArray 0) := Heap.get?_push_size _ rfl
  show wpAny _ _ _ _ _ { s with heap := h1.push (seqObj "list" vs.toArray 0), toks := tk }
  have er' : EachIs (fun v b => ∃ as, Reads (sortingHeap (h1.push (seqObj "list" vs.toArray 0)) h1.objs.size vs) v b.toPy as) vs bs := er.mono fun v d ⟨as, r⟩ => ⟨as, PyProof.Rows.Reads.keeps (fun b o q => PySem.W.sortingHeap_old (Nat.ne_of_lt (Heap.lt_size q)) (Heap.get?_push_of_some _ q)) r⟩
  refine wpAny_bind (wpAny_holding (wpAny_call_entry slot_list_sort ⟨_, hoL, rfl⟩ entry_list_sort
    (PySem.W.list_sort_vals (κ := dataKind (sortingHeap (h1.push (seqObj "list" vs.toArray 0)) h1.objs.size vs) (bs.map D.toPy)) hoL
      (PySem.W.SortsAt.data (s := { s with heap := sortingHeap (h1.push (seqObj "list" vs.toArray 0)) h1.objs.size vs, toks := tk }) (PySem.W.each_map (R := fun v d => ∃ as, Reads (sortingHeap (h1.push (seqObj "list" vs.toArray 0)) h1.objs.size vs) v d as) D.toPy er') P.al P.so (fun d hd => by
        obtain ⟨b, hb, rfl⟩ := List.mem_map.mp hd
        have := P.dp b hb
        show A.units + 1 + 1 + b.toPy.depth < cLine
        omega)) hvl ⟨_, rfl, ?_⟩) (args_list_sort _)))
  obtain ⟨n, hn⟩ := PyProof.Rows.sortedHeap_at (vs := vs) (out := List.toArray (PySem.W.sortVals (dataKind (sortingHeap (h1.push (seqObj "list" vs.toArray 0)) h1.objs.size vs) (bs.map D.toPy)) false vs vs)) hoL
  refine wpAny_pure ⟨_, rfl, h _ h1 _ tk h1.objs.size n (by rw [PySem.W.sortVals_length false rfl]; exact e.length) ?_ k1 (fun b o q1 => ?_) (Nat.le_refl _) hn⟩
  · rw [isort_eq leD_total]
    exact PySem.W.sortVals_data false e er' P.al
  · have hb : b < h1.objs.size := Heap.lt_size q1
    rw [PyProof.Rows.sortedHeap_old (Nat.ne_of_lt hb) (by rw [size_push']; exact Nat.lt_succ_of_lt hb)]
    exact Heap.get?_push_of_some _ q1
/-! ### as a rule -/
/-- the values' relation -/
def RvD (K : PySem.W.Frag) (F : Hp) (u : Value) (d : D) : Prop := ∃ v, RelV v u ∧ Rep K F v d
theorem each_rv {K : PySem.W.Frag} {F : Hp} : ∀ {vs : List V} {us : List Value} {ds : List D}, Vals vs us → Reps K F vs ds → EachIs (RvD K F) us ds
  | _, _, [], r, h => by cases h; cases r; exact .nil
  | _, _, d :: ds, r, h => by
    cases h with
    | cons a b => cases r with | cons x y => exact .cons ⟨_, x, a⟩ (each_rv y b)
theorem rv_each {K : PySem.W.Frag} {F : Hp} : ∀ {us : List Value} {ds : List D}, EachIs (RvD K F) us ds → ∃ vs, Vals vs us ∧ Reps K F vs ds
  | _, _, .nil => ⟨[], .nil, .nil⟩
  | _, _, .cons ⟨v, x, a⟩ t => by
    obtain ⟨vs, y, b⟩ := rv_each t
    exact ⟨v :: vs, .cons x y, .cons a b⟩
theorem each_reads {X : Cx} {pins : List (Addr × Obj)} {σ : L2.St} {F H : Hp} {s : Shared} (I : Inv X pins σ H s) (i : Same F H) : ∀ {us : List Value} {ds : List D}, EachIs (RvD X.K F) us ds → (∀ d ∈ ds, d.toPy.canLay0 = true) → EachIs (fun v b => ∃ as, Reads s.heap v b.toPy as) us ds
  | _, _, .nil, _ => .nil
  | _, _, .cons ⟨v, x, a⟩ t, h => .cons (Dp.reads I _ _ _ (rep_dp (a.mono i) (h _ (by simp))) x) (each_reads I i t fun d hd => h d (by simp [hd]))
/-- what sorted walks -/
inductive SrtSrc (K : PySem.W.Frag) (F H : Hp) : V → List D → Prop
  | lst {p : Addr} {xs : List V} {ds : List D} : H p = some (.lst xs) → xs.length ≤ sizeLine → Reps K F xs ds → SrtSrc K F H (.ref p) ds
  | tup {p : Addr} {xs : List V} {ds : List D} : TupAt H p xs → xs.length ≤ sizeLine → Reps K F xs ds → SrtSrc K F H (.ref p) ds
  | dT {p : Addr} {kvs : List (List Int × Addr × V)} : Rd H p (DtI p kvs) → (∀ q ∈ kvs, TupAt F q.2.1 (q.1.map V.int) ∧ q.1.length ≤ sizeLine) → kvs.length ≤ sizeLine → SrtSrc K F H (.ref p) (kvs.map fun q => D.tup (q.1.map D.int))
  | dK {p : Addr} {kvs : List (Key × V)} : Rd H p (.dK kvs) → kvs.length ≤ sizeLine → SrtSrc K F H (.ref p) (kvs.map fun q => kD q.1)
def rSrt (K : PySem.W.Frag) : List V → Hp → VK → Prop := fun vs H Q => ∃ F v ds, Same F H ∧ vs = [v] ∧ SrtSrc K F H v ds ∧ srtOk ds = true ∧
  ∀ F' ys p, Ext F H F' H → Reps K F' ys (isort leD ds) → ys.length ≤ sizeLine → H p = none → Q (.ref p) (upd H p (.lst ys))
theorem kD_rep {K : PySem.W.Frag} {F : Hp} (k : Key) : Rep K F (kV k) (kD k) := by cases k <;> constructor
theorem kDs_rep {K : PySem.W.Frag} {F : Hp} : ∀ ks : List Key, Reps K F (ks.map kV) (ks.map kD)
  | [] => .nil
  | k :: ks => .cons (kD_rep k) (kDs_rep ks)
/-- all tuples are frozen -/
def tupsF (F H : Hp) : Hp := fun a => match H a with
  | some (.tup xs) => some (.tup xs)
  | _ => F a
theorem tupsF_at {F H : Hp} {a : Addr} {xs : List V} (h : H a = some (.tup xs)) : tupsF F H a = some (.tup xs) := by unfold tupsF; rw [h]
theorem tupsF_ext {F H : Hp} (i : Same F H) : Ext F H (tupsF F H) H := by
  refine ⟨fun a o e => ?_, Same.refl H, fun a o e => ?_, fun a o h m n => ?_⟩
  · unfold tupsF
    split
    · rename_i xs q; rw [← q]; exact i _ _ e
    · exact e
  · unfold tupsF at e
    split at e
    · rename_i xs q; rw [q]; exact e
    · exact i _ _ e
  · unfold tupsF at n
    split at n
    · rename_i xs q; rw [q] at h; cases h; cases m
    · exact n
/-- all known tuples are frozen -/
def tupsG (F H : Hp) : Hp := fun a => match H a with
  | some (.frz o (.tup xs)) => some (.frz o (.tup xs))
  | _ => F a
theorem tupsG_at {F H : Hp} {a : Addr} {xs : List V} (h : TupAt H a xs) : TupAt (tupsG F H) a xs := by
  obtain ⟨o, hd, h⟩ := h
  exact ⟨o, hd, by unfold tupsG; rw [h]⟩
theorem tupsG_ext {F H : Hp} (i : Same F H) : Ext F H (tupsG F H) H := by
  refine ⟨fun a o e => ?_, Same.refl H, fun a o e => ?_, fun a o h m n => ?_⟩
  · unfold tupsG
    split
    · rename_i ob xs q; rw [← q]; exact i _ _ e
    · exact e
  · unfold tupsG at e
    split at e
    · rename_i ob xs q; rw [q]; exact e
    · exact i _ _ e
  · unfold tupsG at n
    split at n
    · rename_i ob xs q; rw [q] at h; cases h; cases m
    · exact n
theorem walk_dkx {K : PySem.W.Frag} {F H : Hp} {d : Addr} {od : Obj} {kvs : List (Key × V)} (l : kvs.length ≤ sizeLine) (dL : H d = some (.frz od (.dK kvs))) : WalkD K true (Itk d od kvs) F H (kvs.map fun p => kD p.1) :=
  ⟨by simpa using l, fun F1 H1 a1 a2 a3 => ⟨fun j x hx => by
    have hj : j < kvs.length := by have := (List.getElem?_eq_some_iff.mp hx).1; simpa using this
    refine ⟨⟨a3 rfl _ _ dL, hj⟩, fun y H2 ⟨e1, k, v, e2, e3⟩ => ⟨F1, by rw [e1]; exact Ext.refl a2, ?_⟩⟩
    rw [List.getElem?_map, e2] at hx
    cases hx
    rw [e3]
    exact kD_rep k, a3 rfl _ _ dL, by simp⟩⟩
theorem walk_dtx {K : PySem.W.Frag} {F H : Hp} {d : Addr} {od : Obj} {kvs : List (List Int × Addr × V)} (kl : ∀ q ∈ kvs, TupAt H q.2.1 (q.1.map V.int) ∧ q.1.length ≤ sizeLine) (l : kvs.length ≤ sizeLine) (dL : H d = some (.frz od (DtI d kvs))) :
    WalkD K true (Itkx d od kvs) F H (kvs.map fun p => D.tup (p.1.map D.int)) :=
  ⟨by simpa using l, fun F1 H1 a1 a2 a3 => ⟨fun j x hx => by
    have hj : j < kvs.length := by have := (List.getElem?_eq_some_iff.mp hx).1; simpa using this
    refine ⟨⟨a3 rfl _ _ dL, hj⟩, fun y H2 ⟨e1, p, e2, e3⟩ => ?_⟩
    rw [List.getElem?_map, e2] at hx
    cases hx
    subst e3 e1
    have z := kl p (List.mem_of_getElem? e2)
    exact ⟨tupsG F1 H2, tupsG_ext a2, .tup (tupsG_at (z.1.mono (a3 rfl))) (by rw [List.length_map]; exact z.2) Reps.ints⟩, a3 rfl _ _ dL, by simp⟩⟩
theorem frz_mut {u : HO} {od : Obj} (h : isMut u = true) : isMut (.frz od u) = true := by cases u <;> first | rfl | cases h
theorem cr_srt {X : Cx} (hc : X.calm = true) (hu : X.A.units + 8 < cLine) : CallR X (.builtin "sorted") (rSrt X.K) := by
  intro pins s σ H vs us Q I r h
  obtain ⟨F, v, ds, i, rfl, src, ok, q⟩ := h
  obtain ⟨u, rfl, rv⟩ := vals1 r
  have P := srt_ok ok
  have fin : ∀ (F' : Hp), Ext F H F' H → ∀ (out : List Value) (h1 h' : Heap) (tk : Nat) (d : Addr) (n : Nat), out.length = ds.length → ds.length ≤ sizeLine → EachIs (RvD X.K F') out (isort leD ds) → (∀ b o, s.heap.get? b = some o → h1.get? b = some o) → (∀ b o, h1.get? b = some o → h'.get? b = some o) → h1.objs.size ≤ d → h'.get? d = some (seqObj "list" (List.toArray out) n) → EP X pins σ Q (.ref d) { s with heap := h', toks := tk } := by
    intro F' f1 out h1 h' tk d n hl hz e k1 k2 hd hn
    obtain ⟨ys, y1, y2⟩ := rv_each e
    have I1 : Inv X pins σ H { s with heap := h1, toks := tk } := I.kept k1
    have hyl : ys.length ≤ sizeLine := by rw [y1.length, hl]; exact hz
    exact ⟨.ref d, upd H d (.lst ys), I1.laid (t' := tk) k2 hd ⟨hyl, out, n, y1, hn⟩, rfl, q F' ys d f1 y2 hyl (I1.hok.fresh hd)⟩
  cases src with
  | lst h1 h2 h3 =>
    cases rv
    obtain ⟨its, r1, pl, hz⟩ := I.list (SqL.of h1)
    have e := each_rv r1 h3
    have hdl : ds.length ≤ sizeLine := by rw [← h3.length]; exact h2
    refine sorted_gen (R := RvD X.K F) P hdl hu (fun Q' E' k => collect_list pl.isList (k its _ s.toks keepL e ?_) (by rw [← r1.length]; exact h2)) fun out h1 h' tk d n a b c d' e' f' => fin F (Ext.refl i) out h1 h' tk d n a hdl b c d' e' f'
    exact (each_reads I i e P.ly).mono fun v d ⟨as, r⟩ => ⟨as, PyProof.Rows.Reads.keeps keepL r⟩
  | tup h1 h2 h3 =>
    cases rv
    obtain ⟨its, r1, pl, hz⟩ := I.tuple h1.sq
    have e := each_rv r1 h3
    have hdl : ds.length ≤ sizeLine := by rw [← h3.length]; exact h2
    refine sorted_gen (R := RvD X.K F) P hdl hu (fun Q' E' k => collect_tup pl (k its _ s.toks keepL e ?_) (by rw [← r1.length]; exact h2)) fun out h1 h' tk d n a b c d' e' f' => fin F (Ext.refl i) out h1 h' tk d n a hdl b c d' e' f'
    exact (each_reads I i e P.ly).mono fun v d ⟨as, r⟩ => ⟨as, PyProof.Rows.Reads.keeps keepL r⟩
  | @dT p kvs h1 hk h2 =>
    cases rv
    obtain ⟨⟨hs, ks, pr, o, es, ep, ho, hx, hdt, he, hn⟩, -⟩ := (show ObjOk X.prog X.w H s.heap p (DtI p kvs) from h1.ok I.hok)
    have l1 : es.size = ks.length := by
      have := congrArg List.length he
      simpa using this
    have l2 : kvs.length = ks.length := pr.length
    have e : EachIs (RvD X.K F) (ks.map fun x => Value.ref x.2.1) (kvs.map fun q => D.tup (q.1.map D.int)) := by
      clear l1 l2 he hn hdt hx ho ok P fin h2 h1 hs q
      induction pr with
      | nil => exact .nil
      | @cons a b as bs hd tl ih =>
        have hz := hk a (by simp)
        exact .cons ⟨.ref a.2.1, (by rw [hd.2.1]; rfl), .tup hz.1 (by rw [List.length_map]; exact hz.2) Reps.ints⟩ (ih fun y hy => hk y (by simp [hy]))
    have hdl : (kvs.map fun q => D.tup (q.1.map D.int)).length ≤ sizeLine := by rw [List.length_map]; exact h2
    refine sorted_gen (R := RvD X.K F) P hdl hu (fun Q' E' k => PySem.W.kdu_collect (A := X.A.in1) (kdl_raw hs hx hdt) (I.ok.hd hc) ho (by omega) fun h' tk acc kp it => ?_) fun out h1 h' tk d n a b c d' e' f' => fin F (Ext.refl i) out h1 h' tk d n a hdl b c d' e' f'
    have ea : acc.toList = ks.map fun x => Value.ref x.2.1 := by
      have hl : acc.toList.length = ks.length := by rw [Array.length_toList, it.1]; exact l1
      apply List.ext_getElem?
      intro j
      rw [List.getElem?_map]
      cases hj : acc.toList[j]? with
      | none =>
        have h1 := List.getElem?_eq_none_iff.mp hj
        rw [List.getElem?_eq_none (by omega)]
        all_goals rfl
      | some v =>
        obtain ⟨en, hen, hv⟩ := it.2 j v (by rw [← Array.getElem?_toList]; exact hj)
        have qe : es[j]? = (ks.map entI)[j]? := by rw [← he, Array.getElem?_toList]
        rw [hen, List.getElem?_map] at qe
        cases hb : ks[j]? with
        | none => rw [hb] at qe; exact nomatch (show some en = none from qe)
        | some b =>
          rw [hb] at qe
          have e2 : en = entI b := Option.some.inj qe
          rw [hv, e2]
          all_goals rfl
    rw [ea]
    exact k _ _ tk kp e ((each_reads I i e P.ly).mono fun v d ⟨as, r⟩ => ⟨as, PyProof.Rows.Reads.keeps kp r⟩)
  | @dK p kvs h1 h2 =>
    cases rv
    obtain ⟨z, lo, vs, rk, hd⟩ := (show ObjOk X.prog X.w H s.heap p (.dK kvs) from h1.ok I.hok)
    obtain ⟨ep, hat⟩ := hd.dictAt
    have hl : kvs.length = vs.length := Paired.length rk
    have hdl : (kvs.map fun q => kD q.1).length ≤ sizeLine := by rw [List.length_map]; exact h2
    refine sorted_gen (R := RvD X.K F) P hdl hu (fun Q' E' k => PySem.W.kdu_collect (A := X.A.in1) (PySem.W.kdl_dict (knd := mixKind X.prog X.w) (kvs := vs) (ep := ep) lo) (I.ok.hd hc) hat (by rw [← hl]; exact z) fun h' tk acc kp it => ?_) fun out h1 h' tk d n a b c d' e' f' => fin F (Ext.refl i) out h1 h' tk d n a hdl b c d' e' f'
    have rvs : Vals (kvs.map fun kv => kV kv.1) acc.toList := by
      have el : acc.toList.length = acc.size := by simp
      refine vals_of_at (by rw [List.length_map, el, it.1, hl]) fun j x w h1 h2 => ?_
      obtain ⟨k, y, hky, hi⟩ := it.2 j w (by rw [← Array.getElem?_toList]; exact h2)
      have e1 : (kvs.map (·.1))[j]? = some k := by
        rw [KV.keys rk, List.getElem?_map, hky] <;> rfl
      have e2 : (kvs.map fun kv => kV kv.1)[j]? = some (kV k) := by
        have e3 : (kvs.map fun kv => kV kv.1) = (kvs.map (·.1)).map kV := by rw [List.map_map] <;> rfl
        rw [e3, List.getElem?_map, e1] <;> rfl
      rw [e2] at h1
      cases h1
      exact keyIs_rel hi
    have er : Reps X.K F (kvs.map fun kv => kV kv.1) (kvs.map fun q => kD q.1) := by
      have := kDs_rep (K := X.K) (F := F) (kvs.map (·.1))
      rw [List.map_map, List.map_map] at this
      exact this
    have e := each_rv rvs er
    exact k _ _ tk kp e ((each_reads I i e P.ly).mono fun v d ⟨as, r⟩ => ⟨as, PyProof.Rows.Reads.keeps kp r⟩)
/-! ### sorted(x) -/
def keyT : D → Bool
  | .dic _ _ => true
  | _ => false
def sortD : List D → Option (List D)
  | [.lst ds] => if srtOk ds = true then some (isort leD ds) else none
  | [.tup ds] => if srtOk ds = true then some (isort leD ds) else none
  | [.dic ks _] => if srtOk ks = true then some (isort leD ks) else none
  | _ => none
theorem isort_len {ds : List D} : (isort leD ds).length = ds.length := (isort_perm (le := leD) ds).length_eq
theorem cs_sort {K : PySem.W.Frag} : CallSem (pN K) K (rSrt K) sortD := fun F H xs ds z Q i h hz k => by
  have fin : ∀ {v : V} {es : List D}, SrtSrc K F H v es → srtOk es = true → es.length ≤ sizeLine → z = isort leD es → xs = [v] → rSrt K xs H Q := fun {v es} s o l e ex => by
    refine ⟨F, v, es, i, ex, s, o, fun F' ys p x r hl hp => ?_⟩
    subst e
    exact k _ F' _ ⟨x.f, Same.updN hp, x.i.into (x.i.free hp), x.n⟩ ⟨p, ys, rfl, hp, x.i.free hp, upd_same, hl, r⟩
  unfold sortD at hz
  split at hz
  · obtain ⟨v, rfl, r⟩ := repBs1 h
    split at hz
    · rename_i o
      cases hz
      obtain ⟨p, ys, rfl, h1, h2, h3⟩ := repB_lst i r
      exact fin (.lst h1 h2 h3) o (by rw [← h3.length]; exact h2) rfl rfl
    · cases hz
  · obtain ⟨v, rfl, r⟩ := repBs1 h
    split at hz
    · rename_i o
      cases hz
      obtain ⟨p, ys, rfl, h1, h2, h3⟩ := repB_tup r
      exact fin (.tup (h1.mono i) h2 h3) o (by rw [← h3.length]; exact h2) rfl rfl
    · cases hz
  · obtain ⟨v, rfl, r⟩ := repBs1 h
    split at hz
    · rename_i o
      cases hz
      rcases r with r | ⟨p, ys, ws, _, q, _⟩ | ⟨p, u, t, ks', vs', rfl, q, h1, h2⟩
      · cases r with
        | dicK h1 h2 h3 => exact fin (.dK (h1.mono i) h2) o (by rw [List.length_map]; exact h2) rfl rfl
        | dicT h1 hk h2 h3 => exact fin (.dT (h1.mono i) hk h2) o (by rw [List.length_map]; exact h2) rfl rfl
      · cases q
      · cases q
        cases h2 with
        | k l r => exact fin (.dK (.inl h1) l) o (by rw [List.length_map]; exact l) rfl rfl
        | t kl l r => exact fin (.dT (.inl h1) kl l) o (by rw [List.length_map]; exact l) rfl rfl
    · cases hz
  · cases hz
end PD

set_option maxHeartbeats 4000000
namespace PD
open PySem PySem.Spec PyProof.Rows L2
/-! ### enumerate of a tuple -/
set_option maxHeartbeats 1000000 in
theorem meets_enumerate_new1 {v : Value} {o : Obj} {H : Heap → Prop} (B : PySem.Begins v o H) :
    Meets (Builtin.«enumerate.__new__» ⟨[.type "enumerate", v], []⟩) (fun _ R s => H s.heap ∧
      R (.ok (.ret (.ref (s.heap.push o).objs.size))) { s with heap := (s.heap.push o).push { cls := .type "enumerate", data := .fields #[.none, .bool false, .ref s.heap.objs.size, rawInt 0, .none, .none] } }) :=
  .of_wp fun prog w A R s h => by
    obtain ⟨hp, g, d, tk, os⟩ := s; obtain ⟨h1, h⟩ := h
    have hsub := sub_enumerate
    have q1 : ∀ {A' : Around} {E : Value → Shared → Prop} {Q : Value → Shared → Prop}, Q (.ref hp.objs.size) ⟨hp.push o, g, d, tk, os⟩ → wpAny (model prog w) A' (pyIter v) Q E ⟨hp, g, d, tk, os⟩ :=
      fun q => B.iter prog w _ _ ⟨hp, g, d, tk, os⟩ _ h1 q
    wp_walk using q1
    refine wpAny_stack_any fun st => wpAny_pure ?_
    split
    · rename_i c _ _ _ _ _
      cases (c == Value.type "enumerate")
      · wp_walk using q1
        exact ⟨_, rfl, h⟩
      · wp_walk using q1
        exact ⟨_, rfl, h⟩
    · wp_walk using q1
      exact ⟨_, rfl, h⟩
theorem call_enumerate1 {prog : Program} {w : World} {A : Around} {E : Value → Shared → Prop} {s : Shared} {v : Value} {o : Obj} {H : Heap → Prop} {Q : Value → Shared → Prop} (B : PySem.Begins v o H) (h1 : H s.heap)
    (h : ∀ h', IsEnum h' (s.heap.objs.size + 1) s.heap.objs.size 0 .none → h'.get? s.heap.objs.size = some o → h'.objs.size = s.heap.objs.size + 2 →
      (∀ b o, s.heap.get? b = some o → h'.get? b = some o) → Q (.ref (s.heap.objs.size + 1)) { s with heap := h' }) :
    wpAny (model prog w) A (call (.type "enumerate") [v]) Q E s := by
  refine callType_new F.called_enumerate (by decide) (F.typeCall_enumerate_1 _) (F.newCall_enumerate_1 _) (fun obj => F.args_object_init_2 obj _) F.entry_enumerate_new
    (meets_enumerate_new1 B) ⟨h1, ?_⟩
  have hz : (s.heap.push o).objs.size = s.heap.objs.size + 1 := Heap.size_push ..
  show _ ∧ _
  rw [hz]
  have he : IsEnum ((s.heap.push o).push { cls := .type "enumerate", data := .fields #[.none, .bool false, .ref s.heap.objs.size, rawInt 0, .none, .none] }) (s.heap.objs.size + 1) s.heap.objs.size 0 .none := by
    have := Heap.get?_push_size (s.heap.push o) (o := { cls := .type "enumerate", data := .fields #[.none, .bool false, .ref s.heap.objs.size, rawInt 0, .none, .none] }) rfl
    rw [hz] at this; exact this
  refine ⟨⟨_, he, rfl⟩, h _ he (Heap.get?_push_of_some _ (Heap.get?_push_size _ B.free)) (by rw [Heap.size_push, hz]) fun b o x => Heap.get?_push_of_some _ (Heap.get?_push_of_some _ x)⟩
/-- the tuple at a as it stands at each turn, each item in a new pair -/
def IteT (K : PySem.W.Frag) (a : Addr) : It :=
  ⟨fun i H => ∃ (xs : List V) (x : V), SqT K H a xs ∧ xs[i]? = some x, fun i H v H' => ∃ T x, v = .ref T ∧ H T = none ∧ H' = upd H T (.tup [.int (i : Nat), x]) ∧ ∀ xs, SqT K H a xs → xs[i]? = some x, fun i H => ∃ xs : List V, SqT K H a xs ∧ xs.length ≤ i⟩
theorem turn_enumT {P : Program} {w : World} {K : PySem.W.Frag} {elts : List Expr} {kk : Nat} {tpos : Pos} (a e it : Addr) (hae : a ≠ e) (hai : a ≠ it) :
    Turn P w K (.Tuple elts kk tpos) (IteT K a) [e, it] e (fun i h => (∃ old, IsEnum h e it ((i : Nat) : Int) old) ∧ h.IsTupleIter it a i ∧ e ≠ it) where
  mem := by simp
  obj := fun i h st b hb => by
    obtain ⟨⟨old, he⟩, ⟨o, ho, hc, hd⟩, _⟩ := st
    have e' : b = e ∨ b = it := by simpa using hb
    rcases e' with z | z
    · rw [z]; exact ⟨_, he, fun v q => nomatch q⟩
    · rw [z]; exact ⟨o, ho, fun v q => by rw [hd] at q; cases q⟩
  keep := fun i h h' st k => let ⟨⟨old, he⟩, hi, hne⟩ := st; ⟨⟨old, k e (by simp) _ he⟩, hi.at fun o q => k it (by simp) o q, hne⟩
  item := by
    intro X hP hw hK hc i pins s σ H E I hf st hg
    subst hP hw hK
    obtain ⟨⟨old, he⟩, hit, hne⟩ := st
    obtain ⟨xs, x, hq, hx⟩ := hg
    obtain ⟨its, rv, p, hz⟩ := I.tuple hq
    obtain ⟨u, hu, ru⟩ := rv.get hx
    have hel : e < s.heap.objs.size := Heap.lt_size he
    have hil : it < s.heap.objs.size := by obtain ⟨_, q, _⟩ := hit; exact Heap.lt_size q
    have hlt : i < its.toArray.size := by
      have := (List.getElem?_eq_some_iff.mp hu).1
      simpa using this
    have p' : s.heap.IsTuple a its.toArray := p
    refine wpAny_pyNext_enum_itemD (PySem.Draws.tuple (A := X.A.in1) (I.ok.hd hc) it a hai its.toArray) he ⟨hit, p'⟩ hlt hne (by simp [hne, Ne.symm hae]) fun x' h' tk hx' ho hst' hT hsz hk => ?_
    have ex : x' = u := by
      have : its.toArray[i]? = some u := by simpa using hu
      rw [this] at hx'; exact (Option.some.inj hx').symm
    subst ex
    have hit' := hst'.1
    refine ⟨_, rfl, wpAny_letOwnedTupleGo_enum (s := { s with heap := h', toks := tk + 1 }) ho fun h'' he' sb => ?_⟩
    have hT2 : h''.get? s.heap.objs.size = some { cls := .type "tuple", data := .seq #[.int i tk, x'] } := (sb.2 _ (Nat.ne_of_gt hel)).trans hT
    have new : ObjOk X.prog X.w (upd H s.heap.objs.size (.tup [.int (i : Nat), x])) h'' s.heap.objs.size (.tup [.int (i : Nat), x]) :=
      ⟨by show 2 ≤ sizeLine; decide, [.int i tk, x'], .cons ⟨_, rfl⟩ (.cons ru .nil), ⟨_, hT2, rfl, _, rfl⟩⟩
    have I1 : Inv X pins σ (upd H s.heap.objs.size (.tup [.int (i : Nat), x])) { s with heap := h'', toks := tk + 1 } :=
      I.turnedNew (ch := [e, it]) (fun b ob hb q => (sb.2 b (fun z => hb (by simp [z]))).trans (hk b ob (fun z => hb (by simp [z])) (fun z => hb (by simp [z])) q)) hf (Nat.le_refl _) new
    refine ⟨.ref s.heap.objs.size, _, I1, rfl, ⟨_, x, rfl, I.hok.fresh (Nat.le_refl _), rfl, fun ys hy => by rw [I.tuple_inj hy hq]; exact hx⟩, ⟨⟨x', ?_⟩, hit'.at fun o q => (sb.2 it (Ne.symm hne)).trans q, hne⟩, fun b hb => ?_⟩
    · have e1 : ((i + 1 : Nat) : Int) = (i : Int) + 1 := by omega
      rw [e1]; exact he'
    · have hb' : b < s.heap.objs.size := by
        have e' : b = e ∨ b = it := by simpa using hb
        rcases e' with z | z
        · rw [z]; exact hel
        · rw [z]; exact hil
      rw [upd_ne (Nat.ne_of_lt hb')]
      exact (hf b hb).1
  done := by
    intro X hP hw hK hc i pins s σ H E I hf st hg
    subst hP hw hK
    obtain ⟨⟨old, he⟩, hit, hne⟩ := st
    obtain ⟨xs, hq, hx⟩ := hg
    obtain ⟨its, rv, p, hz⟩ := I.tuple hq
    have p' : s.heap.IsTuple a its.toArray := p
    obtain ⟨f0, f1, f2, f3, f4, f5⟩ := hf it (by simp)
    have hl := rv.length
    have D := (PySem.Draws.tuple (prog := X.prog) (w := X.w) (A := X.A.in1) (I.ok.hd hc) it a hai its.toArray)
    have hiz : its.toArray[i]? = none := by simp; omega
    unfold pyNext
    refine wpAny_bind (wpAny_attempt (wpAny_callSpecial?_slot (name := Str.ofString "__next__") (⟨_, he, rfl⟩ : s.TypeIs (.ref e) "enumerate") F.slot_enumerate_next
      (wpAny_call_entry F.slot_enumerate_next (⟨_, he, rfl⟩ : s.TypeIs (.ref e) "enumerate") F.entry_enumerate_next ?_ (F.args_enumerate_next_1 _))))
    show wpAny _ _ (field (.ref e) 2 >>= _) _ _ _
    refine wpAny_bind (wpAny_field he rfl (x := .ref it) rfl ?_)
    refine wpAny_bind (RZ.nextOf_tuple_end (I.ok.hd hc) hit p' hiz fun h' x he' hx' => ?_)
    obtain ⟨o, ho, hcc⟩ := hx'
    refine wpAny_bind (wpAny_isInstance (T := "StopIteration") (b := true) ⟨o, ho, hcc⟩ isSubtype_stop ?_)
    exact wpAny_pure ⟨rfl, I.turned (t' := s.toks) (fun b o hb q => he' b o hb q) f0 f1 f3 f4 f5⟩
  self := fun A i s Q E st h => let ⟨⟨_, he⟩, _⟩ := st; wpAny_pyIter_enum he h
theorem pi_enumA {X : Cx} {e : Expr} {te : TE} {p pos tpos : Pos} {elts : List Expr} {kk : Nat} (hg : Gl X "enumerate") (hm : X.mg "enumerate" = none) (he : PE X e te) (na : starEach [e] X.env = (false, eval e X.env) :: starEach [] X.env := by rfl) :
    PI X (.Tuple elts kk tpos) (.Call (.Name "enumerate" p) [e] [] pos) (fun σ H R => te σ H fun v H1 => ∃ a xs, v = .ref a ∧ (SqL X.K H1 a xs ∧ R (Ite X.K a) H1 ∨ SqT X.K H1 a xs ∧ R (IteT X.K a) H1)) := by
  refine ⟨fun pins s σ H R I h => ?_⟩
  refine Call_ (ld_blt I hg hm boot_enumerate (PyProof.Rows.callWith_type1 (one_arg he I h (fun v s1 x H1 I1 r q1 => ?_) na) na))
  obtain ⟨a, xs, ex, q⟩ := q1
  subst ex
  cases r
  have fin : ∀ (b : Addr), b ∈ [s1.heap.objs.size + 1, s1.heap.objs.size] → FpOk X pins H1 b := fun b hb => by
    have e' : b = s1.heap.objs.size + 1 ∨ b = s1.heap.objs.size := by simpa using hb
    have hle : s1.heap.objs.size ≤ b := by
      rcases e' with z | z
      · rw [z]; exact Nat.le_add_right _ _
      · rw [z]; exact Nat.le_refl _
    exact I1.fpOk hle (I1.hok.fresh hle)
  rcases q with ⟨hq, q⟩ | ⟨hq, q⟩
  · obtain ⟨its, rv, p', hz⟩ := I1.list hq
    refine call_enumerate_list p'.isList fun h' he hit hsz hk => wpAny_pyIter_enum he ?_
    have I2 : Inv X pins σ H1 { s1 with heap := h' } := I1.kept (t' := s1.toks) hk
    exact ⟨s1.heap.objs.size + 1, [s1.heap.objs.size + 1, s1.heap.objs.size], _, _, H1, rfl, I2, turn_enum a (s1.heap.objs.size + 1) s1.heap.objs.size, ⟨⟨.none, he⟩, hit, Nat.succ_ne_self _⟩, fin, q⟩
  · obtain ⟨its, rv, p', hz⟩ := I1.tuple hq
    have p'' : s1.heap.IsTuple a its.toArray := p'
    obtain ⟨ob, hob, _⟩ := id p''
    have hal : a < s1.heap.objs.size := Heap.lt_size hob
    refine call_enumerate1 (PySem.begins_tuple a its.toArray) p'' fun h' he hit hsz hk => wpAny_pyIter_enum he ?_
    have I2 : Inv X pins σ H1 { s1 with heap := h' } := I1.kept (t' := s1.toks) hk
    exact ⟨s1.heap.objs.size + 1, [s1.heap.objs.size + 1, s1.heap.objs.size], _, _, H1, rfl, I2, turn_enumT a (s1.heap.objs.size + 1) s1.heap.objs.size (Nat.ne_of_lt (Nat.lt_succ_of_lt hal)) (Nat.ne_of_lt hal), ⟨⟨.none, he⟩, ⟨_, hit, rfl, rfl⟩, Nat.succ_ne_self _⟩, fin, q⟩

/-! ### enumerate as pure data -/
def enumL : Nat → List D → List D
  | _, [] => []
  | k, d :: ds => .itm [.int k, d] :: enumL (k + 1) ds
theorem enumL_len : ∀ (k : Nat) (ds : List D), (enumL k ds).length = ds.length
  | _, [] => rfl
  | k, d :: ds => by simp [enumL, enumL_len]
theorem enumL_get : ∀ (k : Nat) (ds : List D) (i : Nat) (x : D), (enumL k ds)[i]? = some x → ∃ d, ds[i]? = some d ∧ x = .itm [.int ((k + i : Nat) : Int), d]
  | _, [], i, x, h => by simp [enumL] at h
  | k, d :: ds, 0, x, h => by simp [enumL] at h; exact ⟨d, rfl, by rw [← h]; simp⟩
  | k, d :: ds, i + 1, x, h => by
    simp only [enumL, List.getElem?_cons_succ] at h
    obtain ⟨d', h1, h2⟩ := enumL_get (k + 1) ds i x h
    exact ⟨d', by simpa using h1, by rw [h2]; congr 3; congr 1; omega⟩
def enumF (f : EnvD → R D) : EnvD → R (List D) := fun env => (f env).bind fun d => R.ofO ((asSeq d).map (enumL 0))
section
variable {X : Cx} {cls : Exc → Addr} {W : WX} {e a b c tg : Expr} {pos p : Pos}
theorem pdi_enum {f : EnvD → R D} {p pos tpos : Pos} {elts : List Expr} {kk : Nat} (hg : Gl X "enumerate") (hm : X.mg "enumerate" = none) (h : PDE X cls W (pV X.K) e f) (na : starEach [e] X.env = (false, eval e X.env) :: starEach [] X.env := by rfl) :
    PDI X cls W false (.Tuple elts kk tpos) (.Call (.Name "enumerate" p) [e] [] pos) (enumF f) := pi_imp (pi_enumA hg hm h na) fun σ H Q ⟨H0, F, env, ea, g⟩ =>
  ⟨H0, F, env, ea, (Go.bind g).imp fun x H1 ⟨F1, d, _, e1, p1, g1⟩ => by
    obtain ⟨ds, hd, g2⟩ := Go.ofO g1
    have fin : ∀ {J : It} {q : Addr} {xs : List V} {es : List D} {SQ : Hp → List V → Prop}, (∀ F2 H2, Same F1 F2 → Same F2 H2 → SQ H2 xs) → (∀ H2 ys zs, SQ H2 ys → SQ H2 zs → ys = zs → True) → xs.length ≤ sizeLine → Reps X.K F1 xs es → ds = enumL 0 es →
        (∀ i H2, J.go i H2 ↔ ∃ (xs : List V) (x : V), SQ H2 xs ∧ xs[i]? = some x) → (∀ i H2 x H3, J.yld i H2 x H3 → ∃ T v, x = .ref T ∧ H2 T = none ∧ H3 = upd H2 T (.tup [.int (i : Nat), v]) ∧ ∀ xs, SQ H2 xs → xs[i]? = some v) → (∀ i H2, J.stop i H2 ↔ ∃ xs : List V, SQ H2 xs ∧ xs.length ≤ i) → WalkD X.K false J F1 H1 ds := by
      intro J q xs es SQ hsq _ hl r ed y1 y2 y3
      subst ed
      have le : (enumL 0 es).length = xs.length := by rw [enumL_len, r.length]
      refine ⟨by rw [le]; exact hl, fun F2 H2 a1 a2 _ => ⟨fun i d hd => ?_, (y3 _ _).mpr ⟨xs, hsq F2 H2 a1 a2, by rw [le]; exact Nat.le_refl _⟩⟩⟩
      obtain ⟨d', h1, h2⟩ := enumL_get 0 es i d hd
      obtain ⟨v, hv, rv⟩ := r.get h1
      refine ⟨(y1 _ _).mpr ⟨xs, v, hsq F2 H2 a1 a2, hv⟩, fun x H3 y => ?_⟩
      obtain ⟨T, v', ex, nT, eH, hxs⟩ := y2 _ _ _ _ y
      have := hxs xs (hsq F2 H2 a1 a2)
      rw [hv] at this; cases this
      subst ex eH h2
      refine ⟨upd F2 T (.tup [.int (i : Nat), v]), Ext.new a2 nT, .itm upd_same (by show 2 ≤ sizeLine; decide) ?_⟩
      rw [Nat.zero_add]
      exact .cons (.int _) (.cons ((rv.mono a1).mono (Same.updN (a2.free nT))) .nil)
    cases p1 with
    | @lst q xs es h1 h2 h3 =>
      cases hd
      refine ⟨q, xs, rfl, .inl ⟨SqL.of (e1.i _ _ h1), g2 _ F1 H1 (Ext.refl e1.i) (fin (q := q) (SQ := fun H xs => SqL X.K H q xs) (fun F2 H2 a1 a2 => SqL.of (a2 _ _ (a1 _ _ h1))) (fun _ _ _ _ _ _ => trivial) h2 h3 rfl (fun i H2 => Iff.rfl) (fun i H2 x H3 y => y) (fun i H2 => Iff.rfl))⟩⟩
    | @tup q xs es h1 h2 h3 =>
      cases hd
      refine ⟨q, xs, rfl, .inr ⟨(h1.mono e1.i).sq, g2 _ F1 H1 (Ext.refl e1.i) (fin (q := q) (SQ := fun H xs => SqT X.K H q xs) (fun F2 H2 a1 a2 => ((h1.mono a1).mono a2).sq) (fun _ _ _ _ _ _ => trivial) h2 h3 rfl (fun i H2 => Iff.rfl) (fun i H2 x H3 y => y) (fun i H2 => Iff.rfl))⟩⟩
    | _ => cases hd⟩
end
/-! ### two fors -/
def noErr {α : Type} : R α → R α
  | .ok a => .ok a
  | _ => .bad
theorem noErr_ok {α : Type} {r : R α} {a : α} (h : noErr r = .ok a) : r = .ok a := by cases r <;> first | exact h | cases h
theorem bind_ok {α β : Type} {r : R α} {f : α → R β} {b : β} (h : r.bind f = .ok b) : ∃ a, r = .ok a ∧ f a = .ok b := by cases r <;> first | exact ⟨_, rfl, h⟩ | cases h
theorem map_ok {α β : Type} {r : R α} {f : α → β} {b : β} (h : r.map f = .ok b) : ∃ a, r = .ok a ∧ f a = b := by cases r <;> first | (cases h; exact ⟨_, rfl, rfl⟩) | cases h
theorem lcL_inv {p : Pat} {vs : List Nat} {t : EnvD → R Bool} {f : EnvD → R D} {d : D} {r : List D} {env : EnvD} {ys : List D} (h : lcL p vs t f (d :: r) env = .ok ys) :
    ∃ e k, bindP p d (wipeE env vs) = some e ∧ t e = .ok k ∧ (k = false ∧ lcL p vs t f r env = .ok ys ∨ k = true ∧ ∃ y ys', f e = .ok y ∧ ys = y :: ys' ∧ lcL p vs t f r env = .ok ys') := by
  unfold lcL at h
  split at h
  · cases h
  · rename_i e q
    split at h
    · rename_i q2
      split at h
      · rename_i y q3
        obtain ⟨a, h1, h2⟩ := map_ok h
        exact ⟨e, true, q, q2, .inr ⟨rfl, y, a, q3, h2.symm, h1⟩⟩
      · cases h
    · rename_i q2
      exact ⟨e, false, q, q2, .inl ⟨rfl, h⟩⟩
    · cases h
def lc2L (p : Pat) (vs : List Nat) (t : EnvD → R Bool) (src1 : EnvD → R (List D)) (p1 : Pat) (vs1 : List Nat) (t1 : EnvD → R Bool) (f : EnvD → R D) : List D → EnvD → R (List D)
  | [], _ => .ok []
  | d :: r, env => match bindP p d (wipeE env vs) with
    | none => .bad
    | some e => (noErr (t e)).bind fun k => if k = true then (noErr (src1 e)).bind fun ds1 => (lcL p1 vs1 t1 f ds1 e).bind fun ys => (lc2L p vs t src1 p1 vs1 t1 f r env).map (ys ++ ·) else lc2L p vs t src1 p1 vs1 t1 f r env
def lc2F (p : Pat) (vs : List Nat) (t : EnvD → R Bool) (src1 : EnvD → R (List D)) (p1 : Pat) (vs1 : List Nat) (t1 : EnvD → R Bool) (f : EnvD → R D) (src : EnvD → R (List D)) : EnvD → R (List D) := fun env => (src env).bind fun ds => match lc2L p vs t src1 p1 vs1 t1 f ds env with
  | .ok T => if small T.length = true then .ok T else .bad
  | _ => .bad
theorem lc2L_inv {p : Pat} {vs : List Nat} {t : EnvD → R Bool} {src1 : EnvD → R (List D)} {p1 : Pat} {vs1 : List Nat} {t1 : EnvD → R Bool} {f : EnvD → R D} {d : D} {r : List D} {env : EnvD} {T : List D} (h : lc2L p vs t src1 p1 vs1 t1 f (d :: r) env = .ok T) :
    ∃ e k, bindP p d (wipeE env vs) = some e ∧ t e = .ok k ∧ (k = false ∧ lc2L p vs t src1 p1 vs1 t1 f r env = .ok T ∨ k = true ∧ ∃ ds1 ys T2, src1 e = .ok ds1 ∧ lcL p1 vs1 t1 f ds1 e = .ok ys ∧ lc2L p vs t src1 p1 vs1 t1 f r env = .ok T2 ∧ T = ys ++ T2) := by
  unfold lc2L at h
  split at h
  · cases h
  · rename_i e q
    obtain ⟨k, hk, h⟩ := bind_ok h
    have hk := noErr_ok hk
    cases k with
    | false => exact ⟨e, false, q, hk, .inl ⟨rfl, h⟩⟩
    | true =>
      obtain ⟨ds1, h1, h⟩ := bind_ok (show (noErr (src1 e)).bind _ = .ok T from h)
      obtain ⟨ys, h2, h⟩ := bind_ok h
      obtain ⟨T2, h3, h4⟩ := map_ok h
      exact ⟨e, true, q, hk, .inr ⟨rfl, ds1, ys, T2, noErr_ok h1, h2, h3, h4.symm⟩⟩
theorem wipe_idem (vs : List Nat) (σ : L2.St) : L2.wipe (L2.wipe σ vs) vs = L2.wipe σ vs := by
  have idem : ∀ (ws : List Nat) (τ : L2.St), (∀ i ∈ ws, i ∈ vs) → L2.wipe (L2.wipe τ ws) vs = L2.wipe τ vs := by
    intro ws
    induction ws with
    | nil => intro τ _; rfl
    | cons u us ih =>
      intro τ hu
      show L2.wipe ((L2.wipe τ us).set u none) vs = L2.wipe τ vs
      rw [wipe_set (hu u (by simp)), ih τ fun j hj => hu j (List.mem_cons_of_mem _ hj)]
  exact idem vs σ fun _ h => h
theorem drop_of {ds : List D} {i : Nat} (h : i < ds.length) : ∃ d, ds[i]? = some d ∧ ds.drop i = d :: ds.drop (i + 1) :=
  ⟨ds[i], by simp [h], List.drop_eq_getElem_cons h⟩
theorem gNames_ok2 {K : PySem.W.Frag} {H0 F H : Hp} : ∀ {is : List Nat} {ds : List D} {vs : List V} {env : EnvD} {σ : L2.St} {Q : L2.St → Hp → Prop}, is.length = ds.length → Reps K F vs ds →
    (∀ σ', (∀ F2 H2, EnvAt K H0 env σ F2 H2 → Same F F2 → EnvAt K H0 (sets is ds env) σ' F2 H2) → (∀ ws : List Nat, (∀ i ∈ is, i ∈ ws) → L2.wipe σ' ws = L2.wipe σ ws) → Q σ' H) → gNames is vs σ H Q
  | [], [], _, env, σ, Q, _, r, k => by cases r; exact ⟨rfl, k σ (fun _ _ e _ => e) fun _ _ => rfl⟩
  | i :: is, d :: ds, _, env, σ, Q, hl, r, k => by
    cases r with
    | cons a b =>
      refine ⟨_, _, rfl, gNames_ok2 (is := is) (ds := ds) (env := env.set i (.val d)) (by simpa using hl) b fun σ' ea' hw => k σ' (fun F2 H2 e s => ea' F2 H2 (e.setV i (a.mono s)) s) fun ws hws => ?_⟩
      rw [hw ws fun j hj => hws j (List.mem_cons_of_mem _ hj), wipe_set (hws i (by simp))]
theorem gPat_ok2 {K : PySem.W.Frag} {H0 F H : Hp} {env : EnvD} {σ : L2.St} {p : Pat} {d : D} {v : V} {env' : EnvD} {Q : L2.St → Hp → Prop} (fh : Same F H) (r : Rep K F v d) (hb : bindP p d env = some env')
    (k : ∀ σ', (∀ F2 H2, EnvAt K H0 env σ F2 H2 → Same F F2 → EnvAt K H0 env' σ' F2 H2) → (∀ ws : List Nat, (∀ i ∈ p.ix, i ∈ ws) → L2.wipe σ' ws = L2.wipe σ ws) → Q σ' H) : gPat K p v σ H Q := by
  cases p with
  | nm i =>
    cases hb
    exact k _ (fun F2 H2 e s => e.setV i (r.mono s)) fun ws hws => wipe_set (hws i (by simp [Pat.ix]))
  | tp is =>
    cases r with
    | tup h1 h2 h3 =>
      rename_i ds
      have hb : (if ds.length = is.length then some (sets is ds env) else none) = some env' := hb
      by_cases hl : ds.length = is.length
      · rw [if_pos hl] at hb
        cases hb
        exact ⟨_, _, rfl, .inl (h1.mono fh).sq, by rw [h3.length]; exact hl, gNames_ok2 hl.symm h3 k⟩
      · rw [if_neg hl] at hb; cases hb
    | itm h1 h2 h3 =>
      rename_i ds
      have hb : (if ds.length = is.length then some (sets is ds env) else none) = some env' := hb
      by_cases hl : ds.length = is.length
      · rw [if_pos hl] at hb
        cases hb
        exact ⟨_, _, rfl, .inl (SqT.of (fh _ _ h1)), by rw [h3.length]; exact hl, gNames_ok2 hl.symm h3 k⟩
      · rw [if_neg hl] at hb; cases hb
    | lst h1 h2 h3 =>
      rename_i ds
      have hb : (if ds.length = is.length then some (sets is ds env) else none) = some env' := hb
      by_cases hl : ds.length = is.length
      · rw [if_pos hl] at hb
        cases hb
        exact ⟨_, _, rfl, .inr (SqL.of (fh _ _ h1)), by rw [h3.length]; exact hl, gNames_ok2 hl.symm h3 k⟩
      · rw [if_neg hl] at hb; cases hb
    | _ => cases hb
section
variable {X : Cx} {cls : Exc → Addr} {W : WX} {e a b c tg : Expr} {pos : Pos}
theorem lc2_read {bb : Bool} {p p1 : Pat} {vs vs1 : List Nat} {t t1 : EnvD → R Bool} {f : EnvD → R D} {src src1 : EnvD → R (List D)} {K : PySem.W.Frag} {σ : L2.St} {H : Hp} {Q : VK} (hp : ∀ i ∈ p.ix, i ∈ vs) (hp1 : ∀ i ∈ p1.ix, i ∈ vs1)
    (h : tG K cls W (pN K) (lc2F p vs t src1 p1 vs1 t1 f src) σ H Q) : tLc2 (tG K cls W (pI K bb) src) (gPat K p) (tG K cls W0 pT t) (tG K cls W0 (pI K false) src1) (gPat K p1) (tG K cls W0 pT t1) (tG K cls W0 (pV K) f) vs vs1 σ H Q := by
  obtain ⟨H0, F, env, ea, g⟩ := h
  refine ⟨H0, F, env, ea, (Go.bind g).imp fun J H1 ⟨F1, ds, _, e1, ⟨hz, wk⟩, g1⟩ => fun Da nD => ?_⟩
  have ea1 := ea.mono e1
  obtain ⟨T, hT, hsm, gT⟩ : ∃ T, lc2L p vs t src1 p1 vs1 t1 f ds env = .ok T ∧ small T.length = true ∧ Go cls (pN K) W σ F1 H1 (.ok T) Q := by
    cases q : lc2L p vs t src1 p1 vs1 t1 f ds env with
    | ok T =>
      rw [q] at g1
      by_cases z : small T.length = true
      · exact ⟨T, rfl, z, by simpa [z] using g1⟩
      · simp only [z] at g1; exact g1.elim
    | err c => rw [q] at g1; exact g1.elim
    | bad => rw [q] at g1; exact g1.elim
  have hTs := small_ok hsm
  refine ⟨fun i m H2 => m = ds.length - i ∧ i ≤ ds.length ∧ ∃ F2 acc es T2, Ext F1 H1 F2 H2 ∧ F2 Da = none ∧ H2 Da = some (.lst acc) ∧ Reps K F2 acc es ∧ lc2L p vs t src1 p1 vs1 t1 f (ds.drop i) env = .ok T2 ∧ T = es ++ T2,
    ⟨ds.length, by simp, Nat.zero_le _, F1, [], [], T, Ext.newH e1.i nD, e1.i.free nD, upd_same, .nil, hT, rfl⟩, ?_⟩
  rintro i m H2 ⟨rfl, hi, F2, acc, es, T2, x2, fD, hD, ra, tot, eT⟩
  have w := wk F2 H2 x2.f x2.i fun _ => x2.h
  by_cases hlt : i < ds.length
  · obtain ⟨d, hd, hdr⟩ := drop_of hlt
    rw [hdr] at tot
    obtain ⟨env1, k, qb, qt, alt⟩ := lc2L_inv tot
    obtain ⟨go, yl⟩ := w.1 i d hd
    refine .inr ⟨go, fun H3 => ∃ F3 acc es T2, Ext F1 H1 F3 H3 ∧ F3 Da = none ∧ H3 Da = some (.lst acc) ∧ Reps K F3 acc es ∧ lc2L p vs t src1 p1 vs1 t1 f (ds.drop (i + 1)) env = .ok T2 ∧ T = es ++ T2, ?_, fun v H3 y => ?_⟩
    · rintro H3 ⟨F3, acc3, es3, T3, h⟩
      exact ⟨ds.length - (i + 1), by omega, rfl, hlt, F3, acc3, es3, T3, h⟩
    · obtain ⟨F3, e3, r3⟩ := yl v H3 y
      have x3 := x2.trans e3
      refine gPat_ok2 (H0 := H0) x3.i r3 qb fun σ4 ea0 hw => ?_
      have ea4 := ea0 F3 H3 ((ea1.mono x3).wipe vs) (Same.refl F3)
      refine ⟨by rw [hw vs hp, wipe_idem], H0, F3, env1, ea4, ?_⟩
      rw [qt]
      intro kk F5 H5 e5 pk
      cases pk
      have x5 := x3.trans e5
      have d5 : F5 Da = none := e5.keep (e3.h _ _ hD) rfl (e3.keep hD rfl fD)
      have hD5 : H5 Da = some (.lst acc) := e5.h _ _ (e3.h _ _ hD)
      have ra5 := ra.mono (e3.f.trans e5.f)
      rcases alt with ⟨rfl, tot2⟩ | ⟨rfl, ds1, ys, T3, qs, ql, tot2, eT2⟩
      · exact ⟨F5, acc, es, T2, x5, d5, hD5, ra5, tot2, eT⟩
      · refine ⟨H0, F5, env1, ea4.mono e5, ?_⟩
        rw [qs]
        rintro J1 F6 H6 e6 ⟨hz1, wk1⟩
        have ea6 := (ea4.mono e5).mono e6
        have x6 := x5.trans e6
        have d6 : F6 Da = none := e6.keep hD5 rfl d5
        have hD6 : H6 Da = some (.lst acc) := e6.h _ _ hD5
        have ra6 := ra5.mono e6.f
        refine ⟨fun j m1 H7 => m1 = ds1.length - j ∧ j ≤ ds1.length ∧ ∃ F7 acc7 es7 ys7, Ext F1 H1 F7 H7 ∧ Same F6 F7 ∧ F7 Da = none ∧ H7 Da = some (.lst acc7) ∧ Reps K F7 acc7 es7 ∧ lcL p1 vs1 t1 f (ds1.drop j) env1 = .ok ys7 ∧ T = es7 ++ ys7 ++ T3,
          ⟨ds1.length, by simp, Nat.zero_le _, F6, acc, es, ys, x6, Same.refl F6, d6, hD6, ra6, ql, by rw [eT, eT2, List.append_assoc]⟩, ?_⟩
        rintro j m1 H7 ⟨rfl, hj, F7, acc7, es7, ys7, x7, s7, d7, hD7, ra7, tot7, eT7⟩
        have w1 := wk1 F7 H7 s7 x7.i fun z => nomatch z
        by_cases hlt1 : j < ds1.length
        · obtain ⟨d1, hd1, hdr1⟩ := drop_of hlt1
          rw [hdr1] at tot7
          obtain ⟨env2, k2, qb1, qt1, alt1⟩ := lcL_inv tot7
          obtain ⟨go1, yl1⟩ := w1.1 j d1 hd1
          refine .inr ⟨go1, fun H8 => ∃ F8 acc8 es8 ys8, Ext F1 H1 F8 H8 ∧ Same F6 F8 ∧ F8 Da = none ∧ H8 Da = some (.lst acc8) ∧ Reps K F8 acc8 es8 ∧ lcL p1 vs1 t1 f (ds1.drop (j + 1)) env1 = .ok ys8 ∧ T = es8 ++ ys8 ++ T3, ?_, fun v1 H8 y1 => ?_⟩
          · rintro H8 ⟨F8, acc8, es8, ys8, h⟩
            exact ⟨ds1.length - (j + 1), by omega, rfl, hlt1, F8, acc8, es8, ys8, h⟩
          · obtain ⟨F8, e8, r8⟩ := yl1 v1 H8 y1
            have x8 := x7.trans e8
            have s8 : Same F6 F8 := s7.trans e8.f
            have ea8 := ea0 F8 H8 ((ea1.mono x8).wipe vs) ((e5.f.trans e6.f).trans s8)
            refine gPat_ok (ea8.wipe vs1) r8 qb1 fun σ5 ea9 hw1 => ⟨by rw [hw1 vs1 hp1, wipe_idem], H0, F8, env2, ea9, ?_⟩
            rw [qt1]
            intro kk F9 H9 e9 pk
            cases pk
            have x9 := x8.trans e9
            have s9 : Same F6 F9 := s8.trans e9.f
            have d9 : F9 Da = none := e9.keep (e8.h _ _ hD7) rfl (e8.keep hD7 rfl d7)
            have hD9 : H9 Da = some (.lst acc7) := e9.h _ _ (e8.h _ _ hD7)
            have ra9 := ra7.mono (e8.f.trans e9.f)
            rcases alt1 with ⟨rfl, tot8⟩ | ⟨rfl, yd, ys8, qf, eys, tot8⟩
            · exact ⟨F9, acc7, es7, ys7, x9, s9, d9, hD9, ra9, tot8, eT7⟩
            · refine ⟨H0, F9, env2, ea9.mono e9, ?_⟩
              rw [qf]
              intro yv F10 H10 e10 ry
              have hD10 := e10.h _ _ hD9
              have d10 := e10.keep hD9 rfl d9
              subst eys
              have hlen : es7.length < T.length := by rw [eT7]; simp
              refine ⟨acc7, hD10, by rw [ra7.length]; omega, F10, acc7 ++ [yv], es7 ++ [yd], ys8, lcTurn (K := K) (es := es7) nD (x9.trans e10) d10 yv, s9.trans e10.f, d10, upd_same, (ra9.mono e10.f).snoc ry, tot8, by rw [eT7]; simp⟩
        · have e : j = ds1.length := by omega
          subst e
          rw [List.drop_length] at tot7
          cases tot7
          refine .inl ⟨w1.2, F7, acc7, es7, T3, x7, d7, hD7, ra7, tot2, by rw [eT7]; simp⟩
  · have e : i = ds.length := by omega
    subst e
    rw [List.drop_length] at tot
    cases tot
    rw [List.append_nil] at eT
    subst eT
    exact .inl ⟨w.2, gT _ F2 H2 x2 ⟨Da, acc, rfl, nD, fD, hD, by rw [ra.length]; exact hTs, ra⟩⟩

theorem pd_lc2 {bb : Bool} {elt iter tg1 iter1 : Expr} {ifs ifs1 : List Expr} {scope : Scope} {own : List (Str × Nat)} {vs1 : List Nat} {p p1 : Pat} {t t1 : EnvD → R Bool} {f : EnvD → R D} {src src1 : EnvD → R (List D)} (hc : X.calm = true) (hN : X.N.Nodup) (hi : PDI X cls W bb tg iter src) (ok : BlkOk X.N X.env.scope scope own)
    (hv : (vs1.all fun i => (own.map (·.2)).contains i) = true)
    (hg : ∀ (s : Shared) (H : Hp) (C : Addr) (cl : List (Str × Addr)) (fp : List Addr), PG (X.blk s H scope (compEnvC scope cl C X.env) fp) tg (gPat X.K p))
    (ht : ∀ (s : Shared) (H : Hp) (C : Addr) (cl : List (Str × Addr)) (fp : List Addr), PTs (X.blk s H scope (compEnvC scope cl C X.env) fp) ifs (tG X.K cls W0 pT t))
    (hi1 : ∀ (s : Shared) (H : Hp) (C : Addr) (cl : List (Str × Addr)) (fp : List Addr), PI (X.blk s H scope (compEnvC scope cl C X.env) fp) tg1 iter1 (tG X.K cls W0 (pI X.K false) src1))
    (hg1 : ∀ (s : Shared) (H : Hp) (C : Addr) (cl : List (Str × Addr)) (fp : List Addr), PG (X.blk s H scope (compEnvC scope cl C X.env) fp) tg1 (gPat X.K p1))
    (ht1 : ∀ (s : Shared) (H : Hp) (C : Addr) (cl : List (Str × Addr)) (fp : List Addr), PTs (X.blk s H scope (compEnvC scope cl C X.env) fp) ifs1 (tG X.K cls W0 pT t1))
    (he : ∀ (s : Shared) (H : Hp) (C : Addr) (cl : List (Str × Addr)) (fp : List Addr), PE (X.blk s H scope (compEnvC scope cl C X.env) fp) elt (tG X.K cls W0 (pV X.K) f))
    (hp : (p.ix.all fun i => (own.map (·.2)).contains i) = true) (hp1 : (p1.ix.all fun i => vs1.contains i) = true) (hs : ∀ x, foldedSetIterable iter X.env x = pure x := by intro _; rfl) (hs1 : ∀ env x, foldedSetIterable iter1 env x = pure x := by intro _ _; rfl) :
    PDE X cls W (pN X.K) (.ListComp elt [⟨tg, iter, ifs, 0⟩, ⟨tg1, iter1, ifs1, 0⟩] scope pos) (lc2F p (own.map (·.2)) t src1 p1 vs1 t1 f src) :=
  pe_imp (pe_lc2 hc hN hi ok (fun i hi => by simpa using List.all_eq_true.mp hv i hi) hg ht hi1 hg1 ht1 he hs hs1) fun σ H Q h => lc2_read (fun i hi => by simpa using List.all_eq_true.mp hp i hi) (fun i hi => by simpa using List.all_eq_true.mp hp1 i hi) h
theorem pds_setLc2 {bb : Bool} {i : Nat} {y : Str} {py : Pos} {elt iter tg1 iter1 : Expr} {ifs ifs1 : List Expr} {scope : Scope} {own : List (Str × Nat)} {vs1 : List Nat} {p p1 : Pat} {t t1 : EnvD → R Bool} {f : EnvD → R D} {src src1 : EnvD → R (List D)} {spos : Pos} (hc : X.calm = true) (hN : X.N.Nodup)
    (hy : X.N[i]? = some y) (hyl : X.env.scope.names.lookup y = some .local)
    (hsw : swapsWith (.ListComp elt [⟨tg, iter, ifs, 0⟩, ⟨tg1, iter1, ifs1, 0⟩] scope pos) (some (.Name y py)) spos.line X.env = pure true) (hi : PDI X cls W bb tg iter src) (ok : BlkOk X.N X.env.scope scope own)
    (hv : (vs1.all fun i => (own.map (·.2)).contains i) = true)
    (hg : ∀ (s : Shared) (H : Hp) (C : Addr) (cl : List (Str × Addr)) (fp : List Addr), PG (X.blk s H scope (compEnvC scope cl C X.env) fp) tg (gPat X.K p))
    (ht : ∀ (s : Shared) (H : Hp) (C : Addr) (cl : List (Str × Addr)) (fp : List Addr), PTs (X.blk s H scope (compEnvC scope cl C X.env) fp) ifs (tG X.K cls W0 pT t))
    (hi1 : ∀ (s : Shared) (H : Hp) (C : Addr) (cl : List (Str × Addr)) (fp : List Addr), PI (X.blk s H scope (compEnvC scope cl C X.env) fp) tg1 iter1 (tG X.K cls W0 (pI X.K false) src1))
    (hg1 : ∀ (s : Shared) (H : Hp) (C : Addr) (cl : List (Str × Addr)) (fp : List Addr), PG (X.blk s H scope (compEnvC scope cl C X.env) fp) tg1 (gPat X.K p1))
    (ht1 : ∀ (s : Shared) (H : Hp) (C : Addr) (cl : List (Str × Addr)) (fp : List Addr), PTs (X.blk s H scope (compEnvC scope cl C X.env) fp) ifs1 (tG X.K cls W0 pT t1))
    (he : ∀ (s : Shared) (H : Hp) (C : Addr) (cl : List (Str × Addr)) (fp : List Addr), PE (X.blk s H scope (compEnvC scope cl C X.env) fp) elt (tG X.K cls W0 (pV X.K) f))
    (hp : (p.ix.all fun i => (own.map (·.2)).contains i) = true) (hp1 : (p1.ix.all fun i => vs1.contains i) = true) (hs : ∀ x, foldedSetIterable iter X.env x = pure x := by intro _; rfl) (hs1 : ∀ env x, foldedSetIterable iter1 env x = pure x := by intro _ _; rfl) :
    PS X (.Assign [.Name y py] (.ListComp elt [⟨tg, iter, ifs, 0⟩, ⟨tg1, iter1, ifs1, 0⟩] scope pos) spos) (tAsg (tG X.K cls W (pN X.K) (lc2F p (own.map (·.2)) t src1 p1 vs1 t1 f src)) (gName i)) :=
  ps_imp (ps_setLc2 hc hN hy hyl hsw hi ok (fun i hi => by simpa using List.all_eq_true.mp hv i hi) hg ht hi1 hg1 ht1 he hs hs1) fun D σ H h => lc2_read (fun i hi => by simpa using List.all_eq_true.mp hp i hi) (fun i hi => by simpa using List.all_eq_true.mp hp1 i hi) h
end
/-! ### dicts -/
def keyEq1 : D → D → Bool
  | .int i, .int j => decide (i = j)
  | .str x, .str y => decide (x = y)
  | _, _ => false
def keysEq : List D → List D → Bool
  | [], [] => true
  | a :: as, b :: bs => keyEq1 a b && keysEq as bs
  | _, _ => false
def keyEq : D → D → Bool
  | .tup xs, .tup ys => keysEq xs ys
  | a, b => keyEq1 a b
def toKey : D → Option Key
  | .int i => some (.inl i)
  | .str x => some (.inr x)
  | _ => none
def toKeys : List D → Option (List Key)
  | [] => some []
  | d :: ds => match toKey d, toKeys ds with
    | some k, some ks => some (k :: ks)
    | _, _ => none
def isKey (t : Bool) : D → Bool
  | .tup xs => t && (asInts xs).isSome
  | d => !t && (toKey d).isSome
theorem toKey_eq {d : D} {k : Key} (h : toKey d = some k) : d = kD k := by cases d <;> first | (cases h; rfl) | cases h
theorem toKeys_eq : ∀ {ds : List D} {ks : List Key}, toKeys ds = some ks → ds = ks.map kD
  | [], _, h => by cases h; rfl
  | d :: ds, ks, h => by
    unfold toKeys at h
    split at h
    · rename_i k ks' h1 h2
      cases h
      rw [toKey_eq h1, toKeys_eq h2]; rfl
    · cases h
theorem keyEq1_k (a b : Key) : keyEq1 (kD a) (kD b) = decide (a = b) := by
  cases a <;> cases b <;> simp [keyEq1, kD]
theorem keysEq_k : ∀ (a b : List Key), keysEq (a.map kD) (b.map kD) = decide (a = b)
  | [], [] => by simp [keysEq]
  | [], b :: bs => by simp [keysEq]
  | a :: as, [] => by simp [keysEq]
  | a :: as, b :: bs => by
    simp only [List.map_cons, keysEq, keyEq1_k, keysEq_k as bs]
    by_cases h1 : a = b <;> by_cases h2 : as = bs <;> simp [h1, h2]
theorem keyEq_k (a b : Key) : keyEq (kD a) (kD b) = decide (a = b) := by
  rw [← keyEq1_k]; cases a <;> cases b <;> rfl
theorem keysEq_i : ∀ (a b : List Int), keysEq (a.map D.int) (b.map D.int) = decide (a = b)
  | [], [] => by simp [keysEq]
  | [], b :: bs => by simp [keysEq]
  | a :: as, [] => by simp [keysEq]
  | a :: as, b :: bs => by
    simp only [List.map_cons, keysEq, keyEq1, keysEq_i as bs]
    by_cases h1 : a = b <;> by_cases h2 : as = bs <;> simp [h1, h2]
def kT (a : List Int) : D := .tup (a.map D.int)
theorem keyEq_t (a b : List Int) : keyEq (kT a) (kT b) = decide (a = b) := keysEq_i a b
def dPutV : List D → List D → D → D → List D
  | k :: ks, v :: vs, x, y => (if keyEq k x = true then y else v) :: dPutV ks vs x y
  | _, _, _, _ => []
def dPut (ks vs : List D) (x y : D) : List D × List D := if ks.any (fun k => keyEq k x) = true then (ks, dPutV ks vs x y) else (ks ++ [x], vs ++ [y])
def dFind : List D → List D → D → Option D
  | k :: ks, v :: vs, x => if keyEq k x = true then some v else dFind ks vs x
  | _, _, _ => none
section
variable {K : PySem.W.Frag} {F : Hp} {κ : Type} [DecidableEq κ] {φ : κ → D}
theorem putK_reps (hφ : ∀ a b, keyEq (φ a) (φ b) = decide (a = b)) {kvs : List (κ × V)} {vs : List D} {k : κ} {v : V} {d : D} (h : Reps K F (kvs.map (·.2)) vs) (r : Rep K F v d) :
    (putK kvs k v).map (fun p => φ p.1) = (dPut (kvs.map fun p => φ p.1) vs (φ k) d).1 ∧ Reps K F ((putK kvs k v).map (·.2)) (dPut (kvs.map fun p => φ p.1) vs (φ k) d).2 := by
  have any : (kvs.map fun p => φ p.1).any (fun k' => keyEq k' (φ k)) = kvs.any fun kv => decide (kv.1 = k) := by
    rw [List.any_map]
    congr 1
    funext p
    exact hφ _ _
  unfold putK dPut
  rw [any]
  by_cases q : (kvs.any fun kv => decide (kv.1 = k)) = true
  · simp only [q, if_true]
    refine ⟨?_, ?_⟩
    · rw [List.map_map]
      apply List.map_congr_left
      intro p _
      show φ (if p.1 = k then (p.1, v) else p).1 = φ p.1
      split <;> rfl
    · clear q any
      induction kvs generalizing vs with
      | nil => exact .nil
      | cons p ps ih =>
        cases h with
        | cons a b =>
          simp only [List.map_cons, dPutV, hφ]
          refine .cons ?_ (ih b)
          by_cases e : p.1 = k
          · simp [e]; exact r
          · simp [e]; exact a
  · simp only [q]
    refine ⟨by simp, ?_⟩
    simpa using h.snoc r
theorem reps_keys : ∀ {ks : List Key} {xs : List V}, Reps K F xs (ks.map kD) → xs = ks.map kV
  | [], _, h => by cases h; rfl
  | c :: cs, _, h => by
    cases h with
    | cons a b => rw [reps_keys b]; cases c <;> (cases a; rfl)
theorem find_reps (hφ : ∀ a b, keyEq (φ a) (φ b) = decide (a = b)) : ∀ {kvs : List (κ × V)} {vs : List D} {k : κ} {d : D}, Reps K F (kvs.map (·.2)) vs → dFind (kvs.map fun p => φ p.1) vs (φ k) = some d → ∃ v, valV kvs k = some v ∧ Rep K F v d
  | [], vs, k, d, h, e => by simp [dFind] at e
  | p :: ps, _, k, d, h, e => by
    cases h with
    | cons a b =>
      simp only [List.map_cons, dFind, hφ] at e
      by_cases q : p.1 = k
      · simp [q] at e; subst e; exact ⟨_, valV_pos q, a⟩
      · simp [q] at e
        obtain ⟨v, h1, h2⟩ := find_reps hφ b e
        exact ⟨v, by rw [valV_neg q]; exact h1, h2⟩
end
theorem valX_any (k : List Int) : ∀ kvs : List (List Int × Addr × V), (valX kvs k).isSome = kvs.any fun p => decide (p.1 = k)
  | [] => rfl
  | p :: ps => by
    unfold valX
    rw [List.any_cons, ← valX_any k ps]
    by_cases e : p.1 = k <;> simp [e]
theorem putX_putK (kvs : List (List Int × Addr × V)) (k : List Int) (b : Addr) (v : V) : (putX kvs k b v).map (fun p => (p.1, p.2.2)) = putK (kvs.map fun p => (p.1, p.2.2)) k v := by
  unfold putX putK
  rw [valX_any, List.any_map]
  have e : ((fun kv : List Int × V => decide (kv.1 = k)) ∘ fun p : List Int × Addr × V => (p.1, p.2.2)) = fun p => decide (p.1 = k) := rfl
  rw [e]
  split
  · rw [List.map_map, List.map_map]
    apply List.map_congr_left
    intro p _
    show ((if p.1 = k then (p.1, p.2.1, v) else p).1, (if p.1 = k then (p.1, p.2.1, v) else p).2.2) = (if (p.1, p.2.2).1 = k then ((p.1, p.2.2).1, v) else (p.1, p.2.2))
    by_cases e : p.1 = k
    · rw [if_pos e, if_pos e]
    · rw [if_neg e, if_neg e]
  · simp
theorem putX_reps {K : PySem.W.Frag} {F : Hp} {kvs : List (List Int × Addr × V)} {vs : List D} {k : List Int} {b : Addr} {v : V} {d : D} (h : Reps K F (kvs.map (·.2.2)) vs) (r : Rep K F v d) :
    (putX kvs k b v).map (fun p => kT p.1) = (dPut (kvs.map fun p => kT p.1) vs (kT k) d).1 ∧ Reps K F ((putX kvs k b v).map (·.2.2)) (dPut (kvs.map fun p => kT p.1) vs (kT k) d).2 := by
  have P := putK_reps (φ := kT) keyEq_t (kvs := kvs.map fun p => (p.1, p.2.2)) (k := k) (vs := vs) (by rw [List.map_map]; exact h) r
  rw [← putX_putK (b := b), List.map_map, List.map_map, List.map_map] at P
  exact P
theorem findX_reps {K : PySem.W.Frag} {F : Hp} : ∀ {kvs : List (List Int × Addr × V)} {vs : List D} {k : List Int} {d : D}, Reps K F (kvs.map (·.2.2)) vs → dFind (kvs.map fun p => kT p.1) vs (kT k) = some d → ∃ v, valX kvs k = some v ∧ Rep K F v d
  | [], vs, k, d, h, e => by simp [dFind] at e
  | p :: ps, _, k, d, h, e => by
    cases h with
    | cons a b =>
      simp only [List.map_cons, dFind, keyEq_t] at e
      unfold valX
      by_cases q : p.1 = k
      · simp [q] at e; subst e; exact ⟨_, if_pos q, a⟩
      · simp [q] at e
        obtain ⟨v, h1, h2⟩ := findX_reps b e
        exact ⟨v, by rw [if_neg q]; exact h1, h2⟩
theorem key_of_T {K : PySem.W.Frag} {F : Hp} {v : V} {d : D} (r : Rep K F v d) (h : isKey true d = true) : ∃ (k : List Int) (b : Addr), d = kT k ∧ v = .ref b ∧ TupAt F b (k.map V.int) ∧ k.length ≤ sizeLine := by
  cases r with
  | @tup b xs ds y1 y2 y3 =>
    simp [isKey] at h
    obtain ⟨k, hk⟩ := Option.isSome_iff_exists.mp h
    have := asInts_eq hk
    subst this
    have : xs = k.map V.int := y3.of_ints
    subst this
    exact ⟨k, b, rfl, rfl, y1, by simpa using y2⟩
  | _ => simp [isKey] at h
def newK : EnvD → R (Bool × List D × List D) := fun _ => .ok (false, [], [])
def newT : EnvD → R (Bool × List D × List D) := fun _ => .ok (true, [], [])
section
variable {X : Cx} {cls : Exc → Addr} {W : WX} {e a b c tg : Expr} {pos : Pos} {st : Stmt}
theorem pd_newK : PDE X cls W (pM X.K) (.Dict [] [] pos) newK := pe_imp pe_dnewK fun σ H Q ⟨H0, F, env, ea, g⟩ => fun p hp =>
  g _ F _ (Ext.newH ea.fh hp) ⟨p, _, rfl, hp, ea.fh.free hp, upd_same, .k (kvs := []) (vs := []) (Nat.zero_le _) .nil⟩
theorem pd_newT : PDE X cls W (pM X.K) (.Dict [] [] pos) newT := pe_imp pe_dnewX fun σ H Q ⟨H0, F, env, ea, g⟩ => fun p hp =>
  g _ F _ (Ext.newH ea.fh hp) ⟨p, _, rfl, hp, ea.fh.free hp, upd_same, .t (kvs := []) (vs := []) (fun q hq => by cases hq) (Nat.zero_le _) .nil⟩
def dputS (i : Nat) (fk fv : EnvD → R D) : EnvD → Out := fun env => bindS (fv env) env fun v => match env[i]? with
  | some (.ownd t ks vs) => bindS (fk env) env fun k => if isKey t k = true ∧ small (ks.length + 1) = true then .next (env.set i (.ownd t (dPut ks vs k v).1 (dPut ks vs k v).2)) else .bad
  | _ => .bad
theorem pds_dput {i : Nat} {fk fv : EnvD → R D} (h : PS X st (sDPutX X.K (tVar i) (tG X.K cls W (pV X.K) fk) (tG X.K cls W (pV X.K) fv))) : PDS X cls W st (dputS i fk fv) := ps_imp h fun D σ H ⟨H0, F0, env, F, x, ea, g⟩ =>
  ⟨H0, F, env, ea, (g.expr x ea).imp fun v H1 ⟨F1, dv, _, e1, rv, g1⟩ => by
    have ea1 := ea.mono e1
    have x1 := x.trans e1
    cases q : env[i]? with
    | none => rw [q] at g1; exact g1.elim
    | some s =>
      rw [q] at g1
      cases s with
      | ownd t ks vs =>
        obtain ⟨p, u, h1, h2, h3, h4, h5⟩ := ea1.at_ i _ q
        refine ⟨.ref p, getD_some h1, H0, F1, env, ea1, (g1.expr x1 ea1).imp fun kv H2 ⟨F2, dk, _, e2, rk, g2⟩ => ?_⟩
        have ea2 := ea1.mono e2
        have x2 := x1.trans e2
        by_cases hz : isKey t dk = true ∧ small (ks.length + 1) = true
        · rw [if_pos hz] at g2
          have hz2 := small_ok hz.2
          have hp2 := e2.h _ _ h4
          have fp2 := e2.keep h4 h5.isMut h3
          have rv2 := Rep.mono rv e2.f
          have h52 := h5.mono e2.f
          clear h5
          have h6 := h52
          cases h52 with
          | @k kvs vs' l r =>
            obtain ⟨k, hk⟩ : ∃ k, dk = kD k ∧ kv = kV k := by
              have z := hz.1
              unfold isKey at z
              cases rk with
              | int i => exact ⟨.inl i, rfl, rfl⟩
              | str x => exact ⟨.inr x, rfl, rfl⟩
              | _ => simp [toKey] at z
            obtain ⟨rfl, rfl⟩ := hk
            have P := putK_reps (φ := kD) keyEq_k (k := k) r rv2
            have hlen : (putK kvs k v).length ≤ sizeLine := by
              have : (putK kvs k v).length ≤ kvs.length + 1 := by unfold putK; split <;> simp
              simp at hz2; omega
            have D2 := DicAt.k (K := X.K) (F := F2) (a := p) hlen P.2
            rw [P.1] at D2
            refine ⟨p, _, rfl, .inl (DPut.k (k := k) hp2 (by simp at hz2; omega)), g2 σ F2 _ (mut_ext (o := .dK kvs) x2 h2 fp2) (Same.refl F2) (ea2.mut q rfl h1 ⟨p, _, rfl, h2, fp2, upd_same, D2⟩)⟩
          | @t kvs vs' kl l r =>
            obtain ⟨k, bA, hk, hkv, hb, hkl⟩ := key_of_T rk hz.1
            subst hk hkv
            have P := putX_reps (k := k) (b := bA) r rv2
            have hlen : (putX kvs k bA v).length ≤ sizeLine := by
              have := putX_len kvs k bA v
              simp at hz2; omega
            have D2 := DicAt.t (K := X.K) (F := F2) (a := p) (putX_keys (P := fun k b => TupAt F2 b (k.map V.int) ∧ k.length ≤ sizeLine) kl ⟨hb, hkl⟩) hlen P.2
            rw [show ((putX kvs k bA v).map fun p => PD.D.tup (p.1.map PD.D.int)) = (putX kvs k bA v).map (fun p => kT p.1) from rfl, P.1] at D2
            refine ⟨p, _, rfl, .inr ⟨kvs, k, bA, hp2, fun z hz' => ((kl z hz').1.mono e2.i).sq, rfl, (hb.mono e2.i).sq, by simp at hz2; omega, rfl⟩, g2 σ F2 _ (mut_ext (o := DtI p kvs) x2 h2 fp2) (Same.refl F2) (ea2.mut q rfl h1 ⟨p, _, rfl, h2, fp2, upd_same, D2⟩)⟩
        · rw [if_neg hz] at g2; exact g2.elim
      | no => exact g1.elim
      | val d => exact g1.elim
      | own ds => exact g1.elim⟩
end
end PD

set_option maxHeartbeats 4000000
namespace PD
open PySem PySem.Spec PyProof.Rows L2
/-- the built-ins' names are not set -/
structure Bi (mg : Str → Option Value) : Prop where
  len : mg "len" = none
  all : mg "all" = none
  any : mg "any" = none
  isinstance : mg "isinstance" = none
  tuple : mg "tuple" = none
  list : mg "list" = none
  range : mg "range" = none
  sorted : mg "sorted" = none
  enumerate : mg "enumerate" = none
  max : mg "max" = none
  min : mg "min" = none
  set : mg "set" = none
  dict : mg "dict" = none
  zip : mg "zip" = none
  bool : mg "bool" = none
  int : mg "int" = none
  abs : mg "abs" = none
  sum : mg "sum" = none
  str : mg "str" = none
section
variable {k : Nat} {A : Around}
theorem room0 (h : Room k A) : A.units < cLine := by have := h.un; omega
theorem room1 (h : Room k A) : A.units + 1 < cLine := by have := h.un; omega
theorem room8 (h : Room k A) : A.units + 8 < cLine := by have := h.un; omega
theorem room64 (h : Room k A) : A.units + 64 < cLine := by have := h.un; omega
theorem room65 (h : Room k A) : A.units + 65 < cLine := by have := h.un; omega
end
section
variable {X : Cx} {cls : Exc → Addr} {W : WX} {st : Stmt}
theorem asgNV {i : Nat} {f : EnvD → R (List D)} (h : PS X st (tAsg (tG X.K cls W (pN X.K) f) (gName i))) : PS X st (tAsg (tG X.K cls W (pV X.K) (mkL f)) (gName i)) := ps_imp h fun D σ H ⟨H0, F, env, ea, g⟩ => ⟨H0, F, env, ea, by
  unfold mkL at g
  cases q : f env with
  | ok d =>
    rw [q] at g
    rintro v F' H' x ⟨p, xs, rfl, h1, h2, h3, h4, h5⟩
    exact g _ (upd F' p (.lst xs)) H' (x.frz h1 h3 h2) (.lst upd_same h4 (h5.mono (Same.updN h2)))
  | err c => rw [q] at g; exact g
  | bad => rw [q] at g; exact g⟩
theorem blk_of {X : Cx} {N' : List Str} {sc scope : Scope} {own : List (Str × Nat)} (hN : X.N = N') (hS : X.env.scope = sc) (hk : scope.kind = .function)
    (h : (∀ y ∈ scope.names, scope.names.lookup y.1 = some y.2) ∧ (∀ p ∈ own, N'[p.2]? = some p.1) ∧ (∀ y ∈ scope.names, y.2 = .free → sc.names.lookup y.1 = some .cell ∨ sc.names.lookup y.1 = some .free) ∧ (∀ y ∈ scope.names, y.2 = .local ∨ y.2 = .cell → y.1 ∈ own.map (·.1) ∨ y.1 ∉ N')) : BlkOk X.N X.env.scope scope own := by
  rw [hN, hS]; exact ⟨hk, h.1, h.2.1, h.2.2.1, h.2.2.2⟩
def frzS (i : Nat) (G : EnvD → Out) : EnvD → Out := fun env => G (frzE i env)
end
/-- the end: as L2.walk_ofE, what is let out told by the World -/
theorem walk_ofX {l : PySem.W.OpenLaw} {n k : Nat} {q : Program} {loose : List Str} {XP : (Str → Option Value) → Heap → Prop} {YP : World → Heap → Prop} {d : DefRec} {CX : World → CXT} {x : Str}
    (hn : l.most = some n) (hn2 : n ≤ sizeLine) (hdf : d.params.defaults = []) (hr : Room k callerA)
    (F : ∀ (w : World) (mg : Str → Option Value) (fa : Addr) (h : Heap), YP w h → h.Ns mainGlobals mg → mg d.name = some (.ref fa) →
      ∃ (K : PySem.W.Frag) (fd : FuncData) (sp : Sp), K.In h ∧ (∀ (s : Shared) (u : Value), BindsTo s fd ⟨[u], []⟩ [(x, u)]) ∧
        (∀ (H : Hp) (a : Addr) (ns : List Int), ns.length ≤ n → Only H → SqL K H a (ns.map V.int) → sp [.ref a] H (fun v _ => v = .bl true) fun _ _ _ => False) ∧
        ∀ base : Heap, K.In base → base.Ns mainGlobals mg → FnOk l.prog w K mg base (CX w) k fa fd [x] sp)
    (hCX : ∀ (w : World) (H : Hp) (s : Shared) (e : Value) (s' : Shared), CX w [] H s (fun _ _ _ => False) e s' → False) :
    PySem.W.WalkO q loose XP YP l.row.toRowW d [] (fun f vs => PySem.call f vs) := by
  refine Att.attach_call hn hdf fun w s₀ s₁ mg mb fa o pm cd doc a vs ns G Y ho hd hcd hmg hobj hints hlen hg => ?_
  obtain ⟨K, fd, sp, KX, hb, hsp, hF⟩ := F w mg fa _ Y G.T.g hmg
  exact law_call KX G.T.g G.T.b G.T.builtins G.T.nolimit hg hobj hints (Nat.le_trans hlen hn2) hr hF hb (fun H hO hS => hsp H a ns hlen hO hS) fun H e s' => hCX w H s₁ e s'
/-- the law's promise from its pure function -/
theorem law_sp {K : PySem.W.Frag} {cls : Exc → Addr} {fn : List D → R D} (h : ∀ ns : List Int, ns.length ≤ 63 → fn [.scr ns] = .ok (.bl true)) {H : Hp} {a : Addr} {ns : List Int} (hl : ns.length ≤ 63) (hS : SqL K H a (ns.map V.int)) :
    spD K cls 1 fn [.ref a] H (fun v _ => v = .bl true) fun _ _ _ => False := by
  refine ⟨rfl, H, [.scr ns], Same.refl H, .cons (.scr hS hl) .nil, ?_⟩
  rw [h ns hl]
  intro v F' H' _ r
  cases r; rfl
end PD

set_option maxHeartbeats 4000000
namespace PD
open PySem PySem.Spec PyProof.Rows L2
/-! ### set(xs) of a list of ints -/
section
variable {P : Program} {w : World} {A : Around} {E : Value → Shared → Prop} {s : Shared}
set_option maxHeartbeats 6400000 in
theorem call_set_listI {l : Addr} {items : Array Value} (ns : List Int) {Q : Value → Shared → Prop} (hh : A.handled = none) (hl : s.heap.IsList l items) (hit : IntsAre items.toList ns) (hb : ns.length + 1 < scanBound)
    (h : ∀ (h' : Heap) (tk c : Nat), SetR w h' s.heap.objs.size (fun j => decide (j ∈ ns)) c → c ≤ ns.length → (∀ b o, s.heap.get? b = some o → h'.get? b = some o) → Q (.ref s.heap.objs.size) { s with heap := h', toks := tk }) :
    wpAny (model P w) A (call (.type "set") [.ref l]) Q E s := by
  have hisz : items.size = ns.length := by
    have q := IntsAre.length hit
    rw [Array.length_toList] at q
    exact q
  obtain ⟨c, tl, hmro⟩ := F.called_set.mro
  have hmade := F.called_set.made
  have hsub := F.called_set.sub
  refine wpAny_call (codeAny_of_tree ?_)
  show wpAny _ _ (callAny (.type "set") _) _ _ _
  refine wpAny_pure ⟨Code.quiet_builtin _ (by decide +kernel), codeAny_builtin F.entry_type_call ?_⟩
  rw [Around.under_plain (weight_type_call_type "set" [.ref l] []) rfl]
  have h1 := F.called_set.notType
  have h2 := F.called_set.canCreate
  have hct := F.typeCall_set_1 (.ref l)
  repeat (any_goals (first | assumption | wp_step))

  refine codeAny_mono (code_set_led1 (.ref l) (E := E) (Q₁ := fun obj s₁ => obj = .ref s.heap.objs.size ∧ s₁ = { s with heap := s.heap.push { cls := .type "set", dict := none, data := .set #[] 0 (.fresh 0 0 (!w.params.followText "set-order")) } }) ⟨rfl, rfl⟩) fun r s₁ hr => ?_
  cases r with
  | error e => exact hr
  | ok fl =>
    cases fl with
    | ret obj =>
      obtain ⟨rfl, rfl⟩ := hr
      have hS : (s.heap.push { cls := .type "set", dict := none, data := .set #[] 0 (.fresh 0 0 (!w.params.followText "set-order")) }).get? s.heap.objs.size = some { cls := .type "set", dict := none, data := .set #[] 0 (.fresh 0 0 (!w.params.followText "set-order")) } := Heap.get?_push_size _ rfl
      have hT : Shared.TypeIs { s with heap := s.heap.push { cls := .type "set", dict := none, data := .set #[] 0 (.fresh 0 0 (!w.params.followText "set-order")) } } (.ref s.heap.objs.size) "set" := ⟨_, hS, rfl⟩
      have hli := F.called_set.init.lookup
      have hbi := F.called_set.init.bind (.ref s.heap.objs.size)
      repeat (any_goals (first | assumption | wp_step))

      refine codeAny_mono (codeAny_call_builtin (R := wants (fun r s₂ => r = .none ∧ ∃ h' tk c, s₂ = { s with heap := h', toks := tk } ∧ SetR w h' s.heap.objs.size (fun j => decide (j ∈ ns)) c ∧ c ≤ ns.length ∧
          (∀ b o, s.heap.get? b = some o → h'.get? b = some o)) E) F.called_set.init.plain F.entry_set_init (check_set_init_1 hT ?_)) fun r₂ s₂ hr₂ => ?_
      · obtain ⟨ol, hol, hcl, nl, hdl⟩ := hl
        obtain ⟨ocls, odict, odata, oslots⟩ := ol
        simp only at hcl hdl
        subst hcl; subst hdl
        have hol' : (s.heap.push { cls := .type "set", dict := none, data := .set #[] 0 (.fresh 0 0 (!w.params.followText "set-order")) }).get? l = some { cls := .type "list", dict := odict, data := .seq items nl, slots := oslots } := Heap.get?_push_of_some _ hol
        have hsls := F.sub_list_set
        have hslf := F.sub_list_frozenset
        have hne : (Value.type "list" == Value.type "dict") = false := by decide
        have hl1 : (s.heap.push { cls := .type "set", dict := none, data := .set #[] 0 (.fresh 0 0 (!w.params.followText "set-order")) }).IsList l items := ⟨_, hol', rfl, nl, rfl⟩
        unfold Builtin.«set.__init__» noKeywords Builtin.Frozenset.updateFrom
        generalize hPI : pyIter = PI
        wp_walk
        subst hPI

        refine wpAny_pyIter_list hl1 ?_
        refine wpAny_bind (wpAny_runValue ?_)
        have hlS : l < s.heap.objs.size := Heap.lt_size hol
        have hh3 : A.in1.in1.in1.handled = none := by simp [hh]
        have hz1 : (s.heap.push { cls := .type "set", dict := none, data := .set #[] 0 (.fresh 0 0 (!w.params.followText "set-order")) }).objs.size = s.heap.objs.size + 1 := Heap.size_push ..
        have hneI : l ≠ (s.heap.push { cls := .type "set", dict := none, data := .set #[] 0 (.fresh 0 0 (!w.params.followText "set-order")) }).objs.size := by
          rw [Heap.size_push]; exact Nat.ne_of_lt (Nat.lt_succ_of_lt hlS)
        have hSf : s.heap.objs.size ∉ [(s.heap.push { cls := .type "set", dict := none, data := .set #[] 0 (.fresh 0 0 (!w.params.followText "set-order")) }).objs.size, l] := by
          rw [Heap.size_push]; simp only [List.mem_cons, List.mem_singleton, List.not_mem_nil, or_false, not_or]
          exact ⟨Nat.ne_of_lt (Nat.lt_succ_self _), Nat.ne_of_gt hlS⟩
        have hval : ∀ (i : Nat) (v : Value), items[i]? = some v → ∃ k t, ns[i]? = some k ∧ v = .int k t := fun i v hv => by
          have hi : i < ns.length := by rw [← hisz]; exact (Array.getElem?_eq_some_iff.mp hv).1
          obtain ⟨t, e⟩ := PyProof.Rows.IntsAre.int_at hit i v (by rw [Array.getElem?_toList]; exact hv)
          refine ⟨ns[i], t, List.getElem?_eq_getElem hi, ?_⟩
          rw [e, List.getD_eq_getElem?_getD, List.getElem?_eq_getElem hi] <;> rfl
        refine set_update_ints ((Walks.list hh3 _ l hneI items).toS) s.heap.objs.size
          hSf ns hisz hb hval (items.size - 0) 0 _ (by omega) (Nat.zero_le _)
          ⟨⟨_, Heap.get?_push_size _ rfl, rfl, rfl⟩, (hl1.push _)⟩ ?hS0 ?hR
        case hS0 =>
          have hget : ((s.heap.push { cls := .type "set", dict := none, data := .set #[] 0 (.fresh 0 0 (!w.params.followText "set-order")) }).push { cls := .type "list_iterator", data := .fields #[.ref l, .int 0 0] }).get? s.heap.objs.size
              = some { cls := .type "set", dict := none, data := .set #[] 0 (.fresh 0 0 (!w.params.followText "set-order")) } := Heap.get?_push_of_some _ hS
          exact ⟨0, Nat.le_refl 0, setR_new_at hget⟩
        case hR =>
          intro s' c' hm hc' hS'
          obtain ⟨h', g2, d', tk', os'⟩ := s'
          have eg : g2 = s.gens := hm.gens
          have ed : d' = s.drawn := hm.drawn
          have eo : os' = s.os := hm.os
          subst eg; subst ed; subst eo
          show wpAny _ _ _ _ _ _
          refine wpAny_pure ?_
          show wpAny _ _ (ret Value.none) _ _ _
          rw [hisz] at hc'
          refine wpAny_pure ⟨rfl, h', tk', c', rfl, hS', hc', fun b o e => ?_⟩
          have hb0 : b < s.heap.objs.size := Heap.lt_size e
          have hb1 : b ≠ s.heap.objs.size := Nat.ne_of_lt hb0
          have hb2 : b ≠ (s.heap.push { cls := .type "set", dict := none, data := .set #[] 0 (.fresh 0 0 (!w.params.followText "set-order")) }).objs.size := by
            rw [Heap.size_push]; exact Nat.ne_of_lt (Nat.lt_succ_of_lt hb0)
          exact hm.heap b o (by simp only [List.mem_cons, List.mem_singleton, List.not_mem_nil, or_false, not_or]; exact ⟨hb1, hb2⟩) (Heap.get?_push_of_some _ (Heap.get?_push_of_some _ e))

      · cases r₂ with
        | error e => exact hr₂
        | ok fl₂ =>
          cases fl₂ with
          | ret r =>
            obtain ⟨rfl, h', tk, c', rfl, hS', hc', hk'⟩ := hr₂
            repeat (any_goals (first | assumption | wp_step))
            exact h _ _ _ hS' hc' hk'
          | _ => exact hr₂.elim
    | _ => exact hr.elim

end
theorem ints_vals : ∀ {ns : List Int} {us : List Value}, Vals (ns.map V.int) us → IntsAre us ns
  | [], _, .nil => .nil
  | n :: ns, _, .cons r t => by
    obtain ⟨k, rfl⟩ := r
    exact .cons n k (ints_vals t)
section
variable {X : Cx}
def rSetL (K : PySem.W.Frag) (w : World) : List V → Hp → VK → Prop := fun xs H Q => ∃ (l : Addr) (ns : List Int), xs = [V.ref l] ∧ SqL K H l (ns.map V.int) ∧ ns.length + 1 < scanBound ∧
  ∀ p c, H p = none → c ≤ ns.length → Q (.ref p) (upd H p (SetO w p (fun j => decide (j ∈ ns)) c))
theorem cr_setL (hc : X.calm = true) : CallR X (.type "set") (rSetL X.K X.w) := by
  intro pins s σ H xs us Q I r h
  obtain ⟨l, ns, rfl, hl, hb, q⟩ := h
  rw [Vals.ref1 r]
  obtain ⟨its, rv, pl, hz⟩ := I.list hl
  refine call_set_listI (w := X.w) ns (I.ok.hd hc) pl.isList (by simpa using ints_vals rv) hb fun h' tk c R hc' k => ?_
  exact ⟨.ref s.heap.objs.size, upd H s.heap.objs.size (SetO X.w s.heap.objs.size (fun j => decide (j ∈ ns)) c), I.laid (t' := tk) k (Nat.le_refl _) (setO_new R), rfl, q _ c (I.hok.fresh (Nat.le_refl _)) hc'⟩
end

/-! ### sorted(set(xs)) of ints -/
def insU (x : Int) : List Int → List Int
  | [] => [x]
  | y :: ys => if x < y then x :: y :: ys else if x = y then y :: ys else y :: insU x ys
def sdI : List Int → List Int
  | [] => []
  | x :: xs => insU x (sdI xs)
theorem insU_mem {x z : Int} : ∀ {l : List Int}, z ∈ insU x l ↔ z = x ∨ z ∈ l
  | [] => by simp [insU]
  | y :: ys => by
    unfold insU
    split
    · simp
    · split
      · rename_i h; subst h; simp
      · simp only [List.mem_cons, insU_mem (l := ys)]
        constructor <;> (intro h; rcases h with h | h | h <;> simp [h])
theorem insU_pair {x : Int} : ∀ {l : List Int}, l.Pairwise (· < ·) → (insU x l).Pairwise (· < ·)
  | [], _ => by simp [insU]
  | y :: ys, h => by
    obtain ⟨h1, h2⟩ := List.pairwise_cons.mp h
    unfold insU
    split
    · rename_i q
      exact List.pairwise_cons.mpr ⟨fun z hz => by
        rcases List.mem_cons.mp hz with e | hz
        · omega
        · have := h1 z hz; omega, h⟩
    · split
      · exact h
      · refine List.pairwise_cons.mpr ⟨fun z hz => ?_, insU_pair h2⟩
        rcases insU_mem.mp hz with e | hz
        · omega
        · exact h1 z hz
theorem sdI_mem {z : Int} : ∀ {l : List Int}, z ∈ sdI l ↔ z ∈ l
  | [] => by simp [sdI]
  | x :: xs => by simp only [sdI, insU_mem, sdI_mem (l := xs), List.mem_cons]
theorem sdI_pair : ∀ l : List Int, (sdI l).Pairwise (· < ·)
  | [] => List.Pairwise.nil
  | x :: xs => insU_pair (sdI_pair xs)
theorem sorted_uniq {l m : List Int} (hl : l.Pairwise (· < ·)) (hm : m.Pairwise (· < ·)) (h : ∀ z, z ∈ l ↔ z ∈ m) : l = m := by
  have nl : l.Nodup := List.Pairwise.imp (fun {a b} (h : a < b) (e : a = b) => by omega) hl
  have nm : m.Nodup := List.Pairwise.imp (fun {a b} (h : a < b) (e : a = b) => by omega) hm
  exact List.Perm.eq_of_pairwise (le := (· < ·)) (fun a b _ _ h1 h2 => by omega) hl hm ((List.perm_ext_iff_of_nodup nl nm).mpr h)
theorem insU_len (x : Int) (l : List Int) : (insU x l).length ≤ l.length + 1 := by
  induction l with
  | nil => simp [insU]
  | cons y ys ih => unfold insU; split <;> (try split) <;> simp <;> omega
theorem sdI_len : ∀ l : List Int, (sdI l).length ≤ l.length
  | [] => by simp [sdI]
  | x :: xs => by
    have := insU_len x (sdI xs)
    have := sdI_len xs
    simp only [sdI, List.length_cons]; omega
def sdD : List D → Option (List D)
  | [.lst ds] => match asInts ds with
    | some ns => if ns.length < 64 then some ((sdI ns).map D.int) else none
    | none => none
  | _ => none
section
variable {X : Cx} {cls : Exc → Addr} {W : WX} {a : Expr} {fs : EnvD → R (List D)} {p p2 pos pos2 : Pos}
theorem pd_sortSet (hc : X.calm = true) (hg : Gl X "sorted") (hm : X.mg "sorted" = none) (hg2 : Gl X "set") (hm2 : X.mg "set" = none) (ha : PDA X cls W (pB' X.K) [a] fs)
    (na : starEach [a] X.env = (false, eval a X.env) :: starEach [] X.env := by rfl) (na2 : starEach [.Call (.Name "set" p2) [a] [] pos2] X.env = (false, eval (.Call (.Name "set" p2) [a] [] pos2) X.env) :: starEach [] X.env := by rfl)
    (hpl : (backTo pos2 (starEach [] X.env)).any (·.1) = false := by rfl) (hpl2 : (backTo pos (starEach [] X.env)).any (·.1) = false := by rfl) :
    PDE X cls W (pN X.K) (.Call (.Name "sorted" p) [.Call (.Name "set" p2) [a] [] pos2] [] pos) (appL sdD fs) :=
  pe_imp (pe_callB (cr_sortedSet hc) hg hm boot_sorted (pa_cons (pe_callTy (cr_setL hc) hg2 hm2 boot_set ha (by decide) (by decide) na hpl) pa_nil na2) (by decide) (by decide) na2 hpl2) fun σ H Q ⟨H0, F, env, ea, g⟩ =>
    ⟨H0, F, env, ea, (Go.bind g).imp fun xs H1 ⟨F1, ds, _, e1, p1, g1⟩ => by
      obtain ⟨z, hz, g2⟩ := Go.ofO g1
      unfold sdD at hz
      split at hz
      · rename_i es
        split at hz
        · rename_i ns hns
          split at hz
          · rename_i h64
            cases hz
            rw [asInts_eq hns] at p1
            obtain ⟨v, rfl, r⟩ := repBs1 p1
            obtain ⟨l, ys, rfl, h1, h2, h3⟩ := repB_lst e1.i r
            rw [h3.of_ints] at h1
            refine ⟨l, ns, rfl, SqL.of h1, by unfold scanBound; omega, fun q c hq hc => ⟨q, _, c, rfl, upd_same, by omega, fun ms q2 hp hmem hlen hq2 => ?_⟩⟩
            have em : ms = sdI ns := sorted_uniq hp (sdI_pair ns) fun k => by rw [hmem, sdI_mem]; simp
            subst em
            have x1 : Ext F1 H1 F1 (upd H1 q (SetO X.w q (fun j => decide (j ∈ ns)) c)) := Ext.newH e1.i hq
            have x2 := x1.trans (Ext.newH (o := .lst ((sdI ns).map V.int)) x1.i hq2)
            have n2 : H1 q2 = none := by
              by_cases e : q2 = q
              · subst e; exact hq
              · rw [upd_ne e] at hq2; exact hq2
            exact g2 _ F1 _ x2 ⟨q2, _, rfl, n2, e1.i.free n2, upd_same, by have := sdI_len ns; simp [sizeLine_eq]; omega, .ints⟩
          · cases hz
        · cases hz
      · cases hz⟩
end
end PD

set_option maxHeartbeats 4000000
namespace PD
open PySem PySem.Spec PyProof.Rows L2
/-! ### methods of lists -/
def metL {α : Type} (f : List D → List D → Option α) (fo : EnvD → R D) (fs : EnvD → R (List D)) : EnvD → R α := fun env => (fo env).bind fun x => match x with
  | .lst xs => (fs env).bind fun ds => R.ofO (f xs ds)
  | _ => .bad
def LMet {α : Type} (P : PP V α) (K : PySem.W.Frag) (r : V → List V → Hp → VK → Prop) (f : List D → List D → Option α) : Prop :=
  ∀ F H p xs ds vs es z Q, Same F H → H p = some (.lst xs) → Reps K F xs ds → Reps K F vs es → f ds es = some z → (∀ v F' H', Ext F H F' H' → P.rel H F' H' v z → Q v H') → r (.ref p) vs H Q
section
variable {X : Cx} {cls : Exc → Addr} {W : WX} {o e : Expr} {es : List Expr} {fo : EnvD → R D} {fs : EnvD → R (List D)} {α : Type} {P : PP V α} {f : List D → List D → Option α} {r : V → List V → Hp → VK → Prop} {name : Str} {id : String} {apos cpos : Pos}
theorem pd_metL (slot : Slot "list" name id) (hty : typeOf (.builtin id) = pure (.type "method_descriptor")) (hm : MtR X id r) (hr : LMet P X.K r f) (ho : PDE X cls W (pB X.K) o fo) (ha : PDA X cls W (pA X.K) (e :: es) fs)
    (hbase : attributeBase o name X.env (eval o X.env) = eval o X.env := by rfl)
    (hfew : ((backTo cpos (starEach (e :: es) X.env)).all (fun x => !x.1) && (backToKw cpos (keywordEach [] X.env)).all (fun x => x.1.isSome)
      && decide ((e :: es).length + ([] : List Keyword).length + (if ([] : List Keyword).isEmpty then 0 else 1) < 30)) = true := by rfl)
    (hline : (apos.endLine == cpos.line) = true := by rfl) (hs : starEach (e :: es) X.env = (false, eval e X.env) :: starEach es X.env := by rfl) (hplain : (backTo cpos (starEach es X.env)).any (·.1) = false := by rfl) :
    PDE X cls W P (.Call (.Attribute o name apos) (e :: es) [] cpos) (metL f fo fs) :=
  pe_imp (pe_bm PySem.F.plainAttrs_list slot hty hm ho ha hbase hfew hline hs hplain) fun σ H Q ⟨H0, F, env, ea, g⟩ => ⟨H0, F, env, ea, (Go.bind g).imp fun x H1 ⟨F1, d, _, e1, p1, g1⟩ => by
    cases d with
    | lst ds =>
      obtain ⟨p, xs, rfl, h1, h2, h3⟩ := repB_lst e1.i p1
      have g1 : Go cls P W σ F1 H1 ((fs env).bind fun ds' => R.ofO (f ds ds')) Q := g1
      refine ⟨.inl ⟨rfl, xs, SqL.of h1⟩, H0, F1, env, ea.mono e1, (Go.bind g1).imp fun vs H2 ⟨F2, es', _, e2, p2, g2⟩ => ?_⟩
      obtain ⟨z, hz, g3⟩ := Go.ofO g2
      exact hr F2 H2 p xs ds vs es' z Q e2.i (e2.h _ _ h1) (h3.mono e2.f) p2 hz g3
    | _ => exact g1.elim⟩
end
def cntD : List D → List D → Option D
  | ds, [.int k] => (asInts ds).map fun ns => .int (ns.count k : Nat)
  | _, _ => none
theorem lm_count {K : PySem.W.Frag} : LMet (pV K) K (rCntI K) cntD := fun F H p xs ds vs es z Q i h r r2 hz k => by
  unfold cntD at hz
  split at hz
  · rename_i n
    cases q : asInts ds with
    | none => rw [q] at hz; cases hz
    | some ns =>
      rw [q] at hz; cases hz
      rw [asInts_eq q] at r
      rw [r.of_ints] at h
      cases r2 with
      | cons a b => cases b; cases a; exact ⟨p, ns, n, rfl, rfl, SqL.of h, k _ F H (Ext.refl i) (.int _)⟩
  · cases hz
/-- list.count of flat data -/
def rCntF (K : PySem.W.Frag) : V → List V → Hp → VK → Prop := fun x xs H Q => ∃ (p : Addr) (ys : List V) (y : V), x = .ref p ∧ xs = [y] ∧ SqL K H p ys ∧ flatV y = true ∧ ys.all flatV = true ∧ Q (.int (ys.countP fun z => eqV z y : Nat)) H
theorem count_eqU {x : V} : ∀ {xs : List V} {us : List Value}, Vals xs us → xs.all flatV = true → us.countP (eqU x) = xs.countP fun y => eqV y x
  | _, _, .nil, _ => rfl
  | _, _, .cons r t, f => by
    simp only [List.all_cons, Bool.and_eq_true] at f
    rw [List.countP_cons, List.countP_cons, count_eqU t f.2, eqU_of r f.1]
theorem mt_lcountF {X : Cx} : MtR X "list.count" (rCntF X.K) := by
  intro pins s σ H x xs v us Q I rx rxs h
  obtain ⟨p, ys, y, rfl, rfl, hs, fy, fys, q⟩ := h
  cases rx
  obtain ⟨u, rfl, ru⟩ := rxs.one
  obtain ⟨its, rv, ⟨⟨cls, dd, data, sl⟩, n, ho, hc, hdn, hd⟩, hlen⟩ := I.list hs
  simp only at hc hd
  subst hc hd
  refine call_meets PySem.F.slot_list_count ⟨_, ho, rfl⟩ PySem.F.entry_list_count (PySem.F.args_list_count_2 _ _)
    (SeqAt.list_countAt p its.toArray n dd sl u (eqU y)) ⟨ho, fun w hw => mem_eqAt ru fy rv fys w (by simpa using hw), ?_⟩
  have ec : its.toArray.toList.countP (eqU y) = ys.countP fun z => eqV z y := by simpa using count_eqU rv fys
  refine ⟨.int (ys.countP fun z => eqV z y : Nat), H, I.tok _, ⟨s.toks, ?_⟩, q⟩
  show Value.int ((its.toArray.toList.countP (eqU y) : Nat) : Int) s.toks = Value.int ((ys.countP fun z => eqV z y : Nat) : Int) s.toks
  rw [ec]
def cntF : List D → List D → Option D
  | ds, [d] => if flatD d && ds.all flatD then some (.int (ds.countP fun z => PyData.eqv z.toPy d.toPy : Nat)) else none
  | _, _ => none
theorem count_flat {K : PySem.W.Frag} {F : Hp} {v : V} {d : D} (hv : Rep K F v d) (f : flatD d = true) : ∀ {vs : List V} {ds : List D}, Reps K F vs ds → ds.all flatD = true → (vs.countP fun z => eqV z v) = ds.countP fun y => PyData.eqv y.toPy d.toPy
  | _, [], h, _ => by cases h; rfl
  | _, e :: ds, h, q => by
    cases h with
    | cons a b =>
      simp only [List.all_cons, Bool.and_eq_true] at q
      rw [List.countP_cons, List.countP_cons, count_flat hv f b q.2, (rep_flat a q.1).2 v d hv f]
theorem lm_countF {K : PySem.W.Frag} : LMet (pV K) K (rCntF K) cntF := fun F H p xs ds vs es z Q i h r r2 hz k => by
  unfold cntF at hz
  split at hz
  · rename_i d
    split at hz
    · rename_i fl
      obtain ⟨fd, fds⟩ := Bool.and_eq_true_iff.mp fl
      cases hz
      cases r2 with
      | cons a b =>
        cases b
        refine ⟨p, xs, _, rfl, rfl, SqL.of h, (rep_flat a fd).1, reps_flat r fds, ?_⟩
        rw [count_flat a fd r fds]
        exact k _ F H (Ext.refl i) (.int _)
    · cases hz
  · cases hz
def idxD : List D → List D → Option D
  | ds, [d] => if flatD d && ds.all flatD then (ds.findIdx? fun z => PyData.eqv z.toPy d.toPy).map fun j => .int (j : Nat) else none
  | _, _ => none
theorem lm_index {K : PySem.W.Frag} : LMet (pV K) K (rIndex K) idxD := fun F H p xs ds vs es z Q i h r r2 hz k => by
  unfold idxD at hz
  split at hz
  · rename_i d
    split at hz
    · rename_i fl
      obtain ⟨fd, fds⟩ := Bool.and_eq_true_iff.mp fl
      cases q : ds.findIdx? (fun z => PyData.eqv z.toPy d.toPy) with
      | none => rw [q] at hz; cases hz
      | some j =>
        rw [q] at hz; cases hz
        cases r2 with
        | cons a b =>
          cases b
          rename_i v
          obtain ⟨hj, h1, h2⟩ := List.findIdx?_eq_some_iff_getElem.mp q
          obtain ⟨u, hu, ru⟩ := r.get (i := j) (d := ds[j]) (by simp [hj])
          have fj : flatD ds[j] = true := List.all_eq_true.mp fds _ (List.getElem_mem hj)
          refine ⟨p, xs, v, j, u, rfl, rfl, SqL.of h, (rep_flat a fd).1, reps_flat r fds, hu, ?_, fun m u' hm hu' => ?_, k _ F H (Ext.refl i) (.int _)⟩
          · rw [(rep_flat ru fj).2 v d a fd]; exact h1
          · obtain ⟨d', hd', rd'⟩ := r.getV hu'
            have hml : m < ds.length := (List.getElem?_eq_some_iff.mp hd').1
            have ed : ds[m] = d' := (List.getElem?_eq_some_iff.mp hd').2
            have fm : flatD d' = true := List.all_eq_true.mp fds _ (List.mem_of_getElem? hd')
            rw [(rep_flat rd' fm).2 v d a fd, ← ed]
            have := h2 m hm
            simpa using this
    · cases hz
  · cases hz
/-! ### sum, max, min of a list of ints -/
def maxI : List Int → Int
  | [] => 0
  | [x] => x
  | x :: y :: r => max x (maxI (y :: r))
def minI : List Int → Int
  | [] => 0
  | [x] => x
  | x :: y :: r => min x (minI (y :: r))
theorem maxI_ok : ∀ {l : List Int}, l ≠ [] → maxI l ∈ l ∧ ∀ y ∈ l, y ≤ maxI l
  | [x], _ => by simp [maxI]
  | x :: y :: r, _ => by
    obtain ⟨h1, h2⟩ := maxI_ok (l := y :: r) (by simp)
    refine ⟨?_, fun z hz => ?_⟩
    · show max x (maxI (y :: r)) ∈ _
      by_cases q : x ≤ maxI (y :: r)
      · rw [Int.max_eq_right q]; exact List.mem_cons_of_mem _ h1
      · rw [Int.max_eq_left (by omega)]; exact List.mem_cons_self
    · show z ≤ max x (maxI (y :: r))
      rcases List.mem_cons.mp hz with e | hz
      · omega
      · have := h2 z hz; omega
theorem minI_ok : ∀ {l : List Int}, l ≠ [] → minI l ∈ l ∧ ∀ y ∈ l, minI l ≤ y
  | [x], _ => by simp [minI]
  | x :: y :: r, _ => by
    obtain ⟨h1, h2⟩ := minI_ok (l := y :: r) (by simp)
    refine ⟨?_, fun z hz => ?_⟩
    · show min x (minI (y :: r)) ∈ _
      by_cases q : x ≤ minI (y :: r)
      · rw [Int.min_eq_left q]; exact List.mem_cons_self
      · rw [Int.min_eq_right (by omega)]; exact List.mem_cons_of_mem _ h1
    · show min x (minI (y :: r)) ≤ z
      rcases List.mem_cons.mp hz with e | hz
      · omega
      · have := h2 z hz; omega
def sumD : List D → Option D
  | [.lst ds] => (asInts ds).map fun ns => .int ns.sum
  | _ => none
def maxD : List D → Option D
  | [.lst ds] => match asInts ds with
    | some (n :: ns) => some (.int (maxI (n :: ns)))
    | _ => none
  | _ => none
def minD : List D → Option D
  | [.lst ds] => match asInts ds with
    | some (n :: ns) => some (.int (minI (n :: ns)))
    | _ => none
  | _ => none
section
variable {K : PySem.W.Frag}
theorem cs_sum : CallSem (pV K) K (rSum K) sumD := fun F H xs ds z Q i h hz k => by
  unfold sumD at hz
  split at hz
  · rename_i es
    cases q : asInts es with
    | none => rw [q] at hz; cases hz
    | some ns =>
      rw [q] at hz; cases hz
      rw [asInts_eq q] at h
      obtain ⟨v, rfl, r⟩ := repBs1 h
      obtain ⟨p, ys, rfl, h1, h2, h3⟩ := repB_lst i r
      rw [h3.of_ints] at h1
      exact ⟨p, ns, rfl, SqL.of h1, k _ F H (Ext.refl i) (.int _)⟩
  · cases hz
theorem cs_max : CallSem (pV K) K (rMax K) maxD := fun F H xs ds z Q i h hz k => by
  unfold maxD at hz
  split at hz
  · rename_i es
    split at hz
    · rename_i n ns q
      cases hz
      rw [asInts_eq q] at h
      obtain ⟨v, rfl, r⟩ := repBs1 h
      obtain ⟨p, ys, rfl, h1, h2, h3⟩ := repB_lst i r
      rw [h3.of_ints] at h1
      refine ⟨p, n :: ns, rfl, SqL.of h1, by simp, fun m hm hy => ?_⟩
      obtain ⟨m1, m2⟩ := maxI_ok (l := n :: ns) (by simp)
      have : m = maxI (n :: ns) := by have := hy _ m1; have := m2 m hm; omega
      rw [this]
      exact k _ F H (Ext.refl i) (.int _)
    · cases hz
  · cases hz
theorem cs_min : CallSem (pV K) K (rMin K) minD := fun F H xs ds z Q i h hz k => by
  unfold minD at hz
  split at hz
  · rename_i es
    split at hz
    · rename_i n ns q
      cases hz
      rw [asInts_eq q] at h
      obtain ⟨v, rfl, r⟩ := repBs1 h
      obtain ⟨p, ys, rfl, h1, h2, h3⟩ := repB_lst i r
      rw [h3.of_ints] at h1
      refine ⟨p, n :: ns, rfl, SqL.of h1, by simp, fun m hm hy => ?_⟩
      obtain ⟨m1, m2⟩ := minI_ok (l := n :: ns) (by simp)
      have : m = minI (n :: ns) := by have := hy _ m1; have := m2 m hm; omega
      rw [this]
      exact k _ F H (Ext.refl i) (.int _)
    · cases hz
  · cases hz
end
/-! ### xs[::-1] -/
def revD : D → Option (List D)
  | .lst xs => some xs.reverse
  | _ => none
def revF (fa : EnvD → R D) : EnvD → R (List D) := una revD fa
section
variable {X : Cx} {cls : Exc → Addr} {W : WX} {e : Expr} {fa : EnvD → R D} {pos p1 p2 p3 : Pos} {k : Nat}
theorem pd_revL (ha : PDE X cls W (pB X.K) e fa) : PDE X cls W (pN X.K) (.Subscript e (.Slice none none (some (.UnaryOp .USub (.Constant (.int 1) k p1) p2)) p3) pos) (revF fa) :=
  pe_imp (pe_revL ha) fun σ H Q ⟨H0, F, env, ea, g⟩ => ⟨H0, F, env, ea, (Go.bind g).imp fun x H1 ⟨F1, d, _, e1, r, g1⟩ => by
    obtain ⟨z, hz, g2⟩ := Go.ofO g1
    cases d with
    | lst ds =>
      cases hz
      obtain ⟨p, xs, rfl, h1, h2, h3⟩ := repB_lst e1.i r
      exact ⟨p, xs, rfl, SqL.of h1, fun q hq => g2 _ F1 _ (Ext.newH e1.i hq) ⟨q, _, rfl, hq, e1.i.free hq, upd_same, by simpa using h2, h3.reverse⟩⟩
    | _ => cases hz⟩
end
/-! ### zip -/
def zipL : List D → List D → List D
  | d :: ds, e :: es => .itm [d, e] :: zipL ds es
  | _, _ => []
theorem zipL_len : ∀ ds es : List D, (zipL ds es).length = min ds.length es.length
  | [], es => by simp [zipL]
  | d :: ds, [] => by simp [zipL]
  | d :: ds, e :: es => by simp [zipL, zipL_len ds es, Nat.add_min_add_right]
theorem zipL_get : ∀ (ds es : List D) (i : Nat) (x : D), (zipL ds es)[i]? = some x → ∃ d e, ds[i]? = some d ∧ es[i]? = some e ∧ x = .itm [d, e]
  | [], es, i, x, h => by simp [zipL] at h
  | d :: ds, [], i, x, h => by simp [zipL] at h
  | d :: ds, e :: es, 0, x, h => by simp [zipL] at h; exact ⟨d, e, rfl, rfl, h.symm⟩
  | d :: ds, e :: es, i + 1, x, h => by
    simp only [zipL, List.getElem?_cons_succ] at h
    obtain ⟨d', e', h1, h2, h3⟩ := zipL_get ds es i x h
    exact ⟨d', e', by simpa using h1, by simpa using h2, h3⟩
def zipD : List D → Option (List D)
  | [.lst ds, .lst es] => some (zipL ds es)
  | [.tup ds, .tup es] => some (zipL ds es)
  | _ => none
section
variable {X : Cx} {cls : Exc → Addr} {W : WX} {e e2 : Expr} {fs : EnvD → R (List D)}
theorem pdi_zip {p pos tpos : Pos} {elts : List Expr} {kk : Nat} (hg : Gl X "zip") (hm : X.mg "zip" = none) (ha : PDA X cls W (pA X.K) [e, e2] fs)
    (hs : starEach [e, e2] X.env = (false, eval e X.env) :: starEach [e2] X.env := by rfl) (hpl : (backTo pos (starEach [e2] X.env)).any (·.1) = false := by rfl) :
    PDI X cls W false (.Tuple elts kk tpos) (.Call (.Name "zip" p) [e, e2] [] pos) (appL zipD fs) := pi_imp (RZ.pi_zipA hg hm ha hs hpl) fun σ H Q ⟨H0, F, env, ea, g⟩ =>
  ⟨H0, F, env, ea, (Go.bind g).imp fun vs H1 ⟨F1, ds, _, e1, p1, g1⟩ => by
    obtain ⟨z, hz, g2⟩ := Go.ofO g1
    have fin : ∀ {J : It} {a b : Addr} {xs ys : List V} {ds es : List D} {SQ : Addr → Hp → List V → Prop}, (∀ F2 H2, Same F1 F2 → Same F2 H2 → SQ a H2 xs ∧ SQ b H2 ys) → xs.length ≤ sizeLine → Reps X.K F1 xs ds → Reps X.K F1 ys es → z = zipL ds es →
        (∀ i H2, J.go i H2 ↔ ∃ (xs ys : List V) (x y : V), SQ a H2 xs ∧ SQ b H2 ys ∧ xs[i]? = some x ∧ ys[i]? = some y) →
        (∀ i H2 v H3, J.yld i H2 v H3 → ∃ T x y, v = .ref T ∧ H2 T = none ∧ H3 = upd H2 T (.tup [x, y]) ∧ (∀ xs, SQ a H2 xs → xs[i]? = some x) ∧ ∀ ys, SQ b H2 ys → ys[i]? = some y) →
        (∀ i H2, J.stop i H2 ↔ ∃ xs ys : List V, SQ a H2 xs ∧ SQ b H2 ys ∧ (xs.length ≤ i ∨ ys.length ≤ i)) → WalkD X.K false J F1 H1 z := by
      intro J a b xs ys ds es SQ hsq hl r1 r2 ez y1 y2 y3
      subst ez
      have le : (zipL ds es).length = min xs.length ys.length := by rw [zipL_len, r1.length, r2.length]
      refine ⟨by rw [le]; omega, fun F2 H2 a1 a2 _ => ⟨fun i d hd => ?_, (y3 _ _).mpr ⟨xs, ys, (hsq F2 H2 a1 a2).1, (hsq F2 H2 a1 a2).2, by rw [le]; omega⟩⟩⟩
      obtain ⟨d1, d2, h1, h2, h3⟩ := zipL_get ds es i d hd
      obtain ⟨v1, hv1, rv1⟩ := r1.get h1
      obtain ⟨v2, hv2, rv2⟩ := r2.get h2
      refine ⟨(y1 _ _).mpr ⟨xs, ys, v1, v2, (hsq F2 H2 a1 a2).1, (hsq F2 H2 a1 a2).2, hv1, hv2⟩, fun x H3 y => ?_⟩
      obtain ⟨T, u1, u2, ex, nT, eH, hxs, hys⟩ := y2 _ _ _ _ y
      have q1 := hxs xs (hsq F2 H2 a1 a2).1
      have q2 := hys ys (hsq F2 H2 a1 a2).2
      rw [hv1] at q1; cases q1
      rw [hv2] at q2; cases q2
      subst ex eH h3
      have sm := Same.updN (o := .tup [v1, v2]) (a2.free nT)
      exact ⟨upd F2 T (.tup [v1, v2]), Ext.new a2 nT, .itm upd_same (by show 2 ≤ sizeLine; decide) (.cons ((rv1.mono a1).mono sm) (.cons ((rv2.mono a1).mono sm) .nil))⟩
    unfold zipD at hz
    split at hz
    · cases hz
      cases p1 with
      | cons r1 rr =>
        cases rr with
        | cons r2 rr =>
          cases rr
          cases r1 with
          | @lst a xs _ h1 h2 h3 =>
            cases r2 with
            | @lst b ys _ k1 k2 k3 =>
              exact ⟨a, b, xs, ys, rfl, .inl ⟨SqL.of (e1.i _ _ h1), SqL.of (e1.i _ _ k1), g2 _ F1 H1 (Ext.refl e1.i) (fin (a := a) (b := b) (SQ := fun q H xs => SqL X.K H q xs) (fun F2 H2 a1 a2 => ⟨SqL.of (a2 _ _ (a1 _ _ h1)), SqL.of (a2 _ _ (a1 _ _ k1))⟩) h2 h3 k3 rfl (fun _ _ => Iff.rfl) (fun _ _ _ _ y => y) (fun _ _ => Iff.rfl))⟩⟩
    · cases hz
      cases p1 with
      | cons r1 rr =>
        cases rr with
        | cons r2 rr =>
          cases rr
          cases r1 with
          | @tup a xs _ h1 h2 h3 =>
            cases r2 with
            | @tup b ys _ k1 k2 k3 =>
              exact ⟨a, b, xs, ys, rfl, .inr ⟨(h1.mono e1.i).sq, (k1.mono e1.i).sq, g2 _ F1 H1 (Ext.refl e1.i) (fin (a := a) (b := b) (SQ := fun q H xs => SqT X.K H q xs) (fun F2 H2 a1 a2 => ⟨((h1.mono a1).mono a2).sq, ((k1.mono a1).mono a2).sq⟩) h2 h3 k3 rfl (fun _ _ => Iff.rfl) (fun _ _ _ _ y => y) (fun _ _ => Iff.rfl))⟩⟩
    · cases hz⟩
end
end PD

set_option maxHeartbeats 4000000
namespace PD
open PySem PySem.Spec PyProof.Rows L2
/-! ### dict comprehensions -/
def dcL (p : Pat) (vs : List Nat) (t : EnvD → R Bool) (fk fv : EnvD → R D) : List D → List D × List D → EnvD → R (List D × List D)
  | [], acc, _ => .ok acc
  | d :: r, acc, env => match bindP p d (wipeE env vs) with
    | none => .bad
    | some e => (noErr (t e)).bind fun k => if k = true then (noErr (fk e)).bind fun kd => (noErr (fv e)).bind fun vd => if isKey false kd = true ∧ small (acc.1.length + 1) = true then dcL p vs t fk fv r (dPut acc.1 acc.2 kd vd) env else .bad else dcL p vs t fk fv r acc env
def dcF (p : Pat) (vs : List Nat) (t : EnvD → R Bool) (fk fv : EnvD → R D) (src : EnvD → R (List D)) : EnvD → R (Bool × List D × List D) := fun env => (src env).bind fun ds => match dcL p vs t fk fv ds ([], []) env with
  | .ok a => .ok (false, a.1, a.2)
  | _ => .bad
theorem dcL_inv {p : Pat} {vs : List Nat} {t : EnvD → R Bool} {fk fv : EnvD → R D} {d : D} {r : List D} {acc T : List D × List D} {env : EnvD} (h : dcL p vs t fk fv (d :: r) acc env = .ok T) :
    ∃ e k, bindP p d (wipeE env vs) = some e ∧ t e = .ok k ∧ (k = false ∧ dcL p vs t fk fv r acc env = .ok T ∨ k = true ∧ ∃ kd vd, fk e = .ok kd ∧ fv e = .ok vd ∧ isKey false kd = true ∧ small (acc.1.length + 1) = true ∧ dcL p vs t fk fv r (dPut acc.1 acc.2 kd vd) env = .ok T) := by
  unfold dcL at h
  split at h
  · cases h
  · rename_i e q
    obtain ⟨k, hk, h⟩ := bind_ok h
    have hk := noErr_ok hk
    cases k with
    | false => exact ⟨e, false, q, hk, .inl ⟨rfl, h⟩⟩
    | true =>
      obtain ⟨kd, h1, h⟩ := bind_ok (show (noErr (fk e)).bind _ = .ok T from h)
      obtain ⟨vd, h2, h⟩ := bind_ok h
      split at h
      · rename_i z
        exact ⟨e, true, q, hk, .inr ⟨rfl, kd, vd, noErr_ok h1, noErr_ok h2, z.1, z.2, h⟩⟩
      · cases h
theorem dcTurn {F1 H1 F' H : Hp} {Da : Addr} (nD : H1 Da = none) (x : Ext F1 H1 F' H) (fD : F' Da = none) (o : HO) : Ext F1 H1 F' (upd H Da o) :=
  ⟨x.f, fun a u h => by rw [upd_ne (ne_of_none h nD)]; exact x.h a u h, x.i.into fD, x.n⟩
theorem key_of {K : PySem.W.Frag} {F : Hp} {v : V} {d : D} (r : Rep K F v d) (h : isKey false d = true) : ∃ k, d = kD k ∧ v = kV k := by
  cases r with
  | int i => exact ⟨.inl i, rfl, rfl⟩
  | str x => exact ⟨.inr x, rfl, rfl⟩
  | _ => simp [isKey, toKey] at h
section
variable {cls : Exc → Addr} {W : WX}
theorem dc_read {bb : Bool} {p : Pat} {vs : List Nat} {t : EnvD → R Bool} {fk fv : EnvD → R D} {src : EnvD → R (List D)} {K : PySem.W.Frag} {σ : L2.St} {H : Hp} {Q : VK} (hp : ∀ i ∈ p.ix, i ∈ vs)
    (h : tG K cls W (pM K) (dcF p vs t fk fv src) σ H Q) : tDc (tG K cls W (pI K bb) src) (gPat K p) (tG K cls W0 pT t) (tG K cls W0 (pV K) fk) (tG K cls W0 (pV K) fv) vs σ H Q := by
  obtain ⟨H0, F, env, ea, g⟩ := h
  refine ⟨H0, F, env, ea, (Go.bind g).imp fun J H1 ⟨F1, ds, _, e1, ⟨hz, wk⟩, g1⟩ => fun Da nD => ?_⟩
  have ea1 := ea.mono e1
  obtain ⟨T, hT, gT⟩ : ∃ T, dcL p vs t fk fv ds ([], []) env = .ok T ∧ Go cls (pM K) W σ F1 H1 (.ok (false, T.1, T.2)) Q := by
    cases q : dcL p vs t fk fv ds ([], []) env with
    | ok T => rw [q] at g1; exact ⟨T, rfl, g1⟩
    | err c => rw [q] at g1; exact g1.elim
    | bad => rw [q] at g1; exact g1.elim
  refine ⟨fun i m H2 => m = ds.length - i ∧ i ≤ ds.length ∧ ∃ F2 kvs ws, Ext F1 H1 F2 H2 ∧ F2 Da = none ∧ H2 Da = some (.dK kvs) ∧ kvs.length ≤ sizeLine ∧ Reps K F2 (kvs.map (·.2)) ws ∧ dcL p vs t fk fv (ds.drop i) (kvs.map (fun q => kD q.1), ws) env = .ok T,
    ⟨ds.length, by simp, Nat.zero_le _, F1, [], [], Ext.newH e1.i nD, e1.i.free nD, upd_same, Nat.zero_le _, .nil, hT⟩, ?_⟩
  rintro i m H2 ⟨rfl, hi, F2, kvs, ws, x2, fD, hD, hl, ra, tot⟩
  have w := wk F2 H2 x2.f x2.i fun _ => x2.h
  by_cases hlt : i < ds.length
  · obtain ⟨d, hd, hdr⟩ := drop_of hlt
    rw [hdr] at tot
    obtain ⟨env1, k, qb, qt, alt⟩ := dcL_inv tot
    obtain ⟨go, yl⟩ := w.1 i d hd
    refine .inr ⟨go, fun H3 => ∃ F3 kvs ws, Ext F1 H1 F3 H3 ∧ F3 Da = none ∧ H3 Da = some (.dK kvs) ∧ kvs.length ≤ sizeLine ∧ Reps K F3 (kvs.map (·.2)) ws ∧ dcL p vs t fk fv (ds.drop (i + 1)) (kvs.map (fun q => kD q.1), ws) env = .ok T, ?_, fun v H3 y => ?_⟩
    · rintro H3 ⟨F3, kvs3, ws3, h⟩
      exact ⟨ds.length - (i + 1), by omega, rfl, hlt, F3, kvs3, ws3, h⟩
    · obtain ⟨F3, e3, r3⟩ := yl v H3 y
      have x3 := x2.trans e3
      refine gPat_ok ((ea1.mono x3).wipe vs) r3 qb fun σ4 ea4 hw => ⟨by rw [hw vs hp, wipe_idem], H0, F3, env1, ea4, ?_⟩
      rw [qt]
      intro kk F5 H5 e5 pk
      cases pk
      have x5 := x3.trans e5
      have d5 : F5 Da = none := e5.keep (e3.h _ _ hD) rfl (e3.keep hD rfl fD)
      have hD5 : H5 Da = some (.dK kvs) := e5.h _ _ (e3.h _ _ hD)
      have ra5 := ra.mono (e3.f.trans e5.f)
      rcases alt with ⟨rfl, tot2⟩ | ⟨rfl, kd, vd, qk, qv, ky, sm, tot2⟩
      · exact ⟨F5, kvs, ws, x5, d5, hD5, hl, ra5, tot2⟩
      · refine ⟨H0, F5, env1, ea4.mono e5, ?_⟩
        rw [qk]
        intro kv F6 H6 e6 rk
        refine ⟨H0, F6, env1, (ea4.mono e5).mono e6, ?_⟩
        rw [qv]
        intro vv F7 H7 e7 rv
        obtain ⟨k, rfl, rfl⟩ := key_of rk ky
        have x7 := (x5.trans e6).trans e7
        have d6 := e6.keep hD5 rfl d5
        have hD6 := e6.h _ _ hD5
        have d7 := e7.keep hD6 rfl d6
        have hD7 := e7.h _ _ hD6
        have P := putK_reps (φ := kD) keyEq_k (k := k) (ra5.mono (e6.f.trans e7.f)) rv
        have sm2 := small_ok sm
        simp only [List.length_map] at sm2
        have hlen : (putK kvs k vv).length ≤ sizeLine := by
          have : (putK kvs k vv).length ≤ kvs.length + 1 := by unfold putK; split <;> simp
          omega
        refine ⟨kvs, k, rfl, hD7, by omega, F7, putK kvs k vv, _, dcTurn nD x7 d7 _, d7, upd_same, hlen, P.2, ?_⟩
        rw [P.1]
        exact tot2
  · have e : i = ds.length := by omega
    subst e
    rw [List.drop_length] at tot
    cases tot
    exact .inl ⟨w.2, gT _ F2 H2 x2 ⟨Da, _, rfl, nD, fD, hD, .k hl ra⟩⟩
end
section
variable {X : Cx} {cls : Exc → Addr} {W : WX}
/-- y = {k: v for ..} -/
theorem ps_setDc {i : Nat} {y : Str} {py : Pos} {kx vx tg iter : Expr} {ifs : List Expr} {scope : Scope} {own : List (Str × Nat)} {pos spos : Pos} {wi : TI} {g : TG} {tt : TT} {tk tv : TE} (hc : X.calm = true) (hN : X.N.Nodup) (hy : X.N[i]? = some y) (hyl : X.env.scope.names.lookup y = some .local)
    (hsw : swapsWith (.DictComp kx vx [⟨tg, iter, ifs, 0⟩] scope pos) (some (.Name y py)) spos.line X.env = pure true) (hi : PI X tg iter wi) (ok : BlkOk X.N X.env.scope scope own)
    (hg : ∀ (s : Shared) (H : Hp) (C : Addr) (cl : List (Str × Addr)) (fp : List Addr), PG (X.blk s H scope (compEnvC scope cl C X.env) fp) tg g) (ht : ∀ (s : Shared) (H : Hp) (C : Addr) (cl : List (Str × Addr)) (fp : List Addr), PTs (X.blk s H scope (compEnvC scope cl C X.env) fp) ifs tt)
    (hk : ∀ (s : Shared) (H : Hp) (C : Addr) (cl : List (Str × Addr)) (fp : List Addr), PE (X.blk s H scope (compEnvC scope cl C X.env) fp) kx tk)
    (he : ∀ (s : Shared) (H : Hp) (C : Addr) (cl : List (Str × Addr)) (fp : List Addr), PE (X.blk s H scope (compEnvC scope cl C X.env) fp) vx tv) (hs : ∀ x, foldedSetIterable iter X.env x = pure x := by intro _; rfl) :
    PS X (.Assign [.Name y py] (.DictComp kx vx [⟨tg, iter, ifs, 0⟩] scope pos) spos) (tAsg (tDc wi g tt tk tv (own.map (·.2))) (gName i)) := by
  refine ⟨fun pins s σ H D I h => ?_⟩
  rw [exec_Assign_Name_used _ _ _ _ hsw]
  refine wpAny_bind (wpAny_standAt (wpAny_bind ?_))
  show wpAny _ X.A (do let _ ← comprehension (.DictComp kx vx [⟨tg, iter, ifs, 0⟩] scope pos) scope X.env (firstIterPos [⟨tg, iter, ifs, 0⟩] pos) newDict false (eval iter X.env) (some (assign (.Name y py) X.env))) _ _ s
  have h : tDc wi g tt tk tv (own.map (·.2)) σ H (fun x H1 => gName i x σ H1 D.nx) := h
  refine wpAny_bind (thn (dc_core (Qf := fun _ s' => SP X pins D .next s') hc hN I hi ok hg ht hk he hs h fun L C s' m H' I' q hn f => ?_) fun _ s' hq => wpAny_pure (wpAny_pure hq))
  show wpAny _ _ (assign (.Name y py) X.env (.ref L)) _ _ _
  refine wpAny_assign_Name (store_ok2 (v := V.ref L) I' hN hy (.inl hyl) rfl (fun s2 I2 ⟨a, sb, ha⟩ => ?_) (.inr hyl))
  obtain ⟨f0, f1, f2, f3, f4, f5⟩ := f
  have haC : C ≠ a := by
    rcases ha with z | z
    · rw [z]; exact f1
    · exact fun e => f4 y a z e.symm
  refine ⟨m, hn.sameBut sb haC, fun h3 sb3 => ?_⟩
  exact ⟨_, H', I2.turned (t' := s2.toks) (fun b o hb e => (sb3.2 b hb).trans e) f0 f1 f3 f4 f5, q⟩
theorem pds_setDc {bb : Bool} {i : Nat} {y : Str} {py : Pos} {kx vx tg iter : Expr} {ifs : List Expr} {scope : Scope} {own : List (Str × Nat)} {p : Pat} {t : EnvD → R Bool} {fk fv : EnvD → R D} {src : EnvD → R (List D)} {pos spos : Pos} (hc : X.calm = true) (hN : X.N.Nodup)
    (hy : X.N[i]? = some y) (hyl : X.env.scope.names.lookup y = some .local)
    (hsw : swapsWith (.DictComp kx vx [⟨tg, iter, ifs, 0⟩] scope pos) (some (.Name y py)) spos.line X.env = pure true) (hi : PDI X cls W bb tg iter src) (ok : BlkOk X.N X.env.scope scope own)
    (hg : ∀ (s : Shared) (H : Hp) (C : Addr) (cl : List (Str × Addr)) (fp : List Addr), PG (X.blk s H scope (compEnvC scope cl C X.env) fp) tg (gPat X.K p))
    (ht : ∀ (s : Shared) (H : Hp) (C : Addr) (cl : List (Str × Addr)) (fp : List Addr), PTs (X.blk s H scope (compEnvC scope cl C X.env) fp) ifs (tG X.K cls W0 pT t))
    (hk : ∀ (s : Shared) (H : Hp) (C : Addr) (cl : List (Str × Addr)) (fp : List Addr), PE (X.blk s H scope (compEnvC scope cl C X.env) fp) kx (tG X.K cls W0 (pV X.K) fk))
    (he : ∀ (s : Shared) (H : Hp) (C : Addr) (cl : List (Str × Addr)) (fp : List Addr), PE (X.blk s H scope (compEnvC scope cl C X.env) fp) vx (tG X.K cls W0 (pV X.K) fv))
    (hp : (p.ix.all fun i => (own.map (·.2)).contains i) = true) (hs : ∀ x, foldedSetIterable iter X.env x = pure x := by intro _; rfl) :
    PS X (.Assign [.Name y py] (.DictComp kx vx [⟨tg, iter, ifs, 0⟩] scope pos) spos) (tAsg (tG X.K cls W (pM X.K) (dcF p (own.map (·.2)) t fk fv src)) (gName i)) :=
  ps_imp (ps_setDc hc hN hy hyl hsw hi ok hg ht hk he hs) fun D σ H h => dc_read (fun i hi => by simpa using List.all_eq_true.mp hp i hi) h
end
/-! ### a comprehension over the keys of an owned dict -/
theorem EnvAt.lockD {K : PySem.W.Frag} {H0 F H : Hp} {env : EnvD} {σ : L2.St} (h : EnvAt K H0 env σ F H) {i : Nat} {t : Bool} {ks vs : List D} {p : Addr} (q : env[i]? = some (.ownd t ks vs)) (e : σ.getD i none = some (.ref p)) (o : HO) :
    EnvAt K H0 (env.set i .no) σ F (upd H p o) := by
  have hp := h.ownAt q rfl e
  have hi : i < env.length := (List.getElem?_eq_some_iff.mp q).1
  refine ⟨h.fh.into hp.2.1, by simp [h.len], fun j s z => ?_, fun j k a b p' hjk ha hb oa ob pj pk => ?_⟩
  · by_cases ej : i = j
    · subst ej
      rw [List.getElem?_set_self hi] at z
      cases z
      trivial
    · rw [List.getElem?_set_ne ej] at z
      have y := h.at_ j s z
      cases s with
      | no => trivial
      | val d => exact y
      | own ds =>
        obtain ⟨p', xs, h1, h2, h3, h4, h5, h6⟩ := y
        have npp : p' ≠ p := fun w => by subst w; exact h.ap j i _ _ p' (Ne.symm ej) z q rfl rfl h1 e
        exact ⟨p', xs, h1, h2, h3, by rw [upd_ne npp]; exact h4, h5, h6⟩
      | ownd _ ks vs =>
        obtain ⟨p', v, h1, h2, h3, h4, h5⟩ := y
        have npp : p' ≠ p := fun w => by subst w; exact h.ap j i _ _ p' (Ne.symm ej) z q rfl rfl h1 e
        exact ⟨p', v, h1, h2, h3, by rw [upd_ne npp]; exact h4, h5⟩
  · have nj : i ≠ j := fun w => by subst w; rw [List.getElem?_set_self hi] at ha; cases ha; cases oa
    have nk : i ≠ k := fun w => by subst w; rw [List.getElem?_set_self hi] at hb; cases hb; cases ob
    rw [List.getElem?_set_ne nj] at ha
    rw [List.getElem?_set_ne nk] at hb
    exact h.ap j k a b p' hjk ha hb oa ob pj pk
def lcKF (i : Nat) (p : Pat) (vs : List Nat) (t : EnvD → R Bool) (f : EnvD → R D) : EnvD → R (List D) := fun env => match env[i]? with
  | some (.ownd _ ks _) => noErr (lcL p vs t f ks (env.set i .no))
  | _ => .bad
section
variable {X : Cx} {cls : Exc → Addr} {W : WX}
theorem pd_lcK {i : Nat} {x : Str} {px : Pos} {elt tg : Expr} {ifs : List Expr} {scope : Scope} {own : List (Str × Nat)} {p : Pat} {t : EnvD → R Bool} {f : EnvD → R D} {pos : Pos} (hc : X.calm = true) (hN : X.N.Nodup) (hv : PE X (.Name x px) (tVar i)) (ok : BlkOk X.N X.env.scope scope own)
    (hg : ∀ (s : Shared) (H : Hp) (C : Addr) (cl : List (Str × Addr)) (fp : List Addr), PG (X.blk s H scope (compEnvC scope cl C X.env) fp) tg (gPat X.K p))
    (ht : ∀ (s : Shared) (H : Hp) (C : Addr) (cl : List (Str × Addr)) (fp : List Addr), PTs (X.blk s H scope (compEnvC scope cl C X.env) fp) ifs (tG X.K cls W0 pT t))
    (he : ∀ (s : Shared) (H : Hp) (C : Addr) (cl : List (Str × Addr)) (fp : List Addr), PE (X.blk s H scope (compEnvC scope cl C X.env) fp) elt (tG X.K cls W0 (pV X.K) f))
    (hp : (p.ix.all fun i => (own.map (·.2)).contains i) = true) (hs : ∀ z, foldedSetIterable (.Name x px) X.env z = pure z := by intro _; rfl) :
    PDE X cls W (pN X.K) (.ListComp elt [⟨tg, .Name x px, ifs, 0⟩] scope pos) (lcKF i p (own.map (·.2)) t f) :=
  pe_imp (pe_lock (pe_lc hc hN (pi_keysX hv) ok hg ht he hs)) fun σ H Q ⟨H0, F, env, ea, g⟩ => by
    unfold lcKF at g
    cases q : env[i]? with
    | none => rw [q] at g; exact g.elim
    | some s =>
      rw [q] at g
      cases s with
      | no => exact g.elim
      | val d => exact g.elim
      | own ds => exact g.elim
      | ownd tt ks vs =>
        obtain ⟨d, u, h1, h2, h3, h4, h5⟩ := ea.at_ i _ q
        refine ⟨d, u, h4, by cases h5 <;> trivial, fun od => ?_⟩
        have eaL := ea.lockD q h1 (.frz od u)
        have dL : upd H d (.frz od u) d = some (.frz od u) := upd_same
        have g0 : Go cls (pN X.K) W σ F H (noErr (lcL p (own.map (·.2)) t f ks (env.set i .no))) Q := g
        have gL : Go cls (pN X.K) W σ F (upd H d (.frz od u)) (lcF p (own.map (·.2)) t f (fun _ => .ok ks) (env.set i .no)) (fun v H' => H' d = some (.frz od u) ∧ Q v (upd H' d u)) := by
          show Go cls (pN X.K) W σ F (upd H d (.frz od u)) (lcL p (own.map (·.2)) t f ks (env.set i .no)) _
          cases r : lcL p (own.map (·.2)) t f ks (env.set i .no) with
          | ok T =>
            rw [r] at g0
            rintro v F' H' x ⟨a, xs, ev, n1, n2, n3, n4, n5⟩
            have hd := x.h _ _ dL
            have fd : F' d = none := x.keep dL (frz_mut h5.isMut) h3
            have nad : a ≠ d := fun e => by rw [e, dL] at n1; cases n1
            refine ⟨hd, g0 v F' _ ⟨x.f, fun b o hb => ?_, x.i.into fd, fun b o hb m hn => ?_⟩ ⟨a, xs, ev, by rw [upd_ne nad] at n1; exact n1, n2, by rw [upd_ne nad]; exact n3, n4, n5⟩⟩
            · by_cases e : b = d
              · subst e; rw [upd_same]; rw [h4] at hb; exact hb
              · rw [upd_ne e]; exact x.h b o (by rw [upd_ne e]; exact hb)
            · by_cases e : b = d
              · subst e; exact absurd fd hn
              · exact x.n b o (by rw [upd_ne e]; exact hb) m hn
          | err c => rw [r] at g0; exact g0.elim
          | bad => rw [r] at g0; exact g0.elim
        have red := lc_read (bb := true) (K := X.K) (fun i hi => by simpa using List.all_eq_true.mp hp i hi) (⟨H0, F, env.set i .no, eaL, gL⟩ : tG X.K cls W (pN X.K) (lcF p (own.map (·.2)) t f (fun _ => .ok ks)) σ (upd H d (.frz od u)) _)
        obtain ⟨H0', F', env', ea', gg⟩ := red
        refine ⟨.ref d, getD_some h1, d, od, rfl, ?_⟩
        cases h5 with
        | @k kvs ws l r => exact .inl ⟨kvs, dL, gg (Itk d od kvs) F' _ (Ext.refl ea'.fh) (walk_dkx l dL)⟩
        | @t kvs ws kl l r =>
          refine .inr ⟨kvs, dL, gg (Itkx d od kvs) F' _ (Ext.refl ea'.fh) (walk_dtx (fun z hz => ⟨?_, (kl z hz).2⟩) l dL)⟩
          obtain ⟨o, od0, hf⟩ := (kl z hz).1
          have hb := ea.fh _ _ hf
          refine ⟨o, od0, ?_⟩
          rw [upd_ne (fun e => by rw [e, h4] at hb; cases hb)]
          exact hb
end
end PD

set_option maxHeartbeats 4000000
namespace PD
open PySem PySem.Spec PyProof.Rows L2
/-! ### evaluation of pure functions -/
theorem nr {α : Sort _} {a b : α} (h : a = b) : a = b := h
section
variable {α β γ : Type}
@[simp] theorem e_bind (a : α) (f : α → R β) : (R.ok a).bind f = f a := nr rfl
@[simp] theorem e_bindE (c : Exc) (f : α → R β) : (R.err c : R α).bind f = .err c := nr rfl
@[simp] theorem e_map (a : α) (f : α → β) : (R.ok a).map f = .ok (f a) := nr rfl
@[simp] theorem e_mapE (c : Exc) (f : α → β) : (R.err c : R α).map f = .err c := nr rfl
@[simp] theorem e_some (a : α) : R.ofO (some a) = .ok a := nr rfl
@[simp] theorem e_bindS (a : α) (env : EnvD) (k : α → Out) : bindS (.ok a) env k = k a := nr rfl
@[simp] theorem e_bindSE (c : Exc) (env : EnvD) (k : α → Out) : bindS (R.err c : R α) env k = .err c env := nr rfl
@[simp] theorem e_bind_ite {p : Prop} [Decidable p] (a b : R α) (f : α → R β) : (if p then a else b).bind f = if p then a.bind f else b.bind f := by split <;> rfl
@[simp] theorem e_map_ite {p : Prop} [Decidable p] (a b : R α) (f : α → β) : (if p then a else b).map f = if p then a.map f else b.map f := by split <;> rfl
@[simp] theorem e_bindS_ite {p : Prop} [Decidable p] (a b : R α) (env : EnvD) (k : α → Out) : bindS (if p then a else b) env k = if p then bindS a env k else bindS b env k := by split <;> rfl
@[simp] theorem e_ofO_ite {p : Prop} [Decidable p] (a b : Option α) : R.ofO (if p then a else b) = if p then R.ofO a else R.ofO b := by split <;> rfl
@[simp] theorem e_and (b c : Bool) : (if b = true then R.ok c else R.ok false) = R.ok (b && c) := by cases b <;> rfl
@[simp] theorem e_or (b c : Bool) : (if b = true then R.ok true else R.ok c) = R.ok (b || c) := by cases b <;> rfl
@[simp] theorem e_andD (b c : Bool) : (if b = true then R.ok (D.bl c) else R.ok (D.bl false)) = R.ok (.bl (b && c)) := by cases b <;> rfl
@[simp] theorem e_orD (b c : Bool) : (if b = true then R.ok (D.bl true) else R.ok (D.bl c)) = R.ok (.bl (b || c)) := by cases b <;> rfl
end
@[simp] theorem e_getV0 (d : D) (r : EnvD) : getV 0 (.val d :: r) = .ok d := nr rfl
@[simp] theorem e_getVs (i : Nat) (s : Sl) (r : EnvD) : getV (i + 1) (s :: r) = getV i r := nr rfl
@[simp] theorem e_getB0 (d : D) (r : EnvD) : getB 0 (.val d :: r) = .ok d := nr rfl
@[simp] theorem e_getB0o (d : List D) (r : EnvD) : getB 0 (.own d :: r) = .ok (.lst d) := nr rfl
@[simp] theorem e_getB0d (t : Bool) (k v : List D) (r : EnvD) : getB 0 (.ownd t k v :: r) = .ok (.dic k v) := nr rfl
@[simp] theorem e_getBs (i : Nat) (s : Sl) (r : EnvD) : getB (i + 1) (s :: r) = getB i r := nr rfl
/-- statements -/
def outSeq (o : Out) (k : EnvD → Out) : Out := match o with
  | .next e => k e
  | .ret d => .ret d
  | .err c e => .err c e
  | .brk e => .brk e
  | .cont e => .cont e
  | .bad => .bad
@[simp] theorem e_seq (G1 G2 : EnvD → Out) (env : EnvD) : seqS G1 G2 env = outSeq (G1 env) G2 := nr rfl
@[simp] theorem e_seqN (e : EnvD) (k : EnvD → Out) : outSeq (.next e) k = k e := nr rfl
@[simp] theorem e_seqR (d : D) (k : EnvD → Out) : outSeq (.ret d) k = .ret d := nr rfl
@[simp] theorem e_seqE (c : Exc) (e : EnvD) (k : EnvD → Out) : outSeq (.err c e) k = .err c e := nr rfl
@[simp] theorem e_seq_ite {p : Prop} [Decidable p] (a b : Out) (k : EnvD → Out) : outSeq (if p then a else b) k = if p then outSeq a k else outSeq b k := by split <;> rfl
@[simp] theorem e_run_ite {p : Prop} [Decidable p] (a b : Out) : runO (if p then a else b) = if p then runO a else runO b := by split <;> rfl
@[simp] theorem e_runR (d : D) : runO (.ret d) = .ok d := nr rfl
@[simp] theorem e_runN (e : EnvD) : runO (.next e) = .ok .non := nr rfl
@[simp] theorem e_runE (c : Exc) (e : EnvD) : runO (.err c e) = .err c := nr rfl
@[simp] theorem e_set0 (s : Sl) (a : Sl) (r : EnvD) : (a :: r).set 0 s = s :: r := nr rfl
@[simp] theorem e_setS (i : Nat) (s : Sl) (a : Sl) (r : EnvD) : (a :: r).set (i + 1) s = a :: r.set i s := nr rfl
@[simp] theorem e_fn (N n : Nat) (G : EnvD → Out) (ds : List D) : fnD N n G ds = if ds.length = n then runO (G (ds.map Sl.val ++ List.replicate (N - n) Sl.no)) else .bad := nr rfl
@[simp] theorem e_bindN (i : Nat) (d : D) (e : EnvD) : bindP (.nm i) d e = some (e.set i (.val d)) := nr rfl
@[simp] theorem e_bindI (is : List Nat) (ds : List D) (e : EnvD) : bindP (.tp is) (.itm ds) e = if ds.length = is.length then some (sets is ds e) else none := nr rfl
@[simp] theorem e_bindT (is : List Nat) (ds : List D) (e : EnvD) : bindP (.tp is) (.tup ds) e = if ds.length = is.length then some (sets is ds e) else none := nr rfl
@[simp] theorem e_bindL (is : List Nat) (ds : List D) (e : EnvD) : bindP (.tp is) (.lst ds) e = if ds.length = is.length then some (sets is ds e) else none := nr rfl
@[simp] theorem e_sets0 (e : EnvD) (ds : List D) : sets [] ds e = e := by cases ds <;> rfl
@[simp] theorem e_setsS (i : Nat) (is : List Nat) (d : D) (ds : List D) (e : EnvD) : sets (i :: is) (d :: ds) e = sets is ds (e.set i (.val d)) := nr rfl
@[simp] theorem e_wipe0 (e : EnvD) : wipeE e [] = e := nr rfl
@[simp] theorem e_wipeS (e : EnvD) (v : Nat) (vs : List Nat) : wipeE e (v :: vs) = (wipeE e vs).set v .no := nr rfl
theorem e_frz (i : Nat) (env : EnvD) {ds : List D} (h : env[i]? = some (.own ds)) : frzE i env = env.set i (.val (.lst ds)) := by unfold frzE; rw [h]
/-! unfolding -/
section
variable {α β γ : Type} {fa : EnvD → R D} {fb fc : EnvD → R D} {ta tb : EnvD → R Bool} {env : EnvD}
@[simp] theorem u_cst (d : D) : cst d env = .ok d := nr rfl
@[simp] theorem u_bin (f : α → β → Option γ) (fa : EnvD → R α) (fb : EnvD → R β) : bin f fa fb env = (fa env).bind fun x => (fb env).bind fun y => R.ofO (f x y) := nr rfl
@[simp] theorem u_una (f : α → Option γ) (fa : EnvD → R α) : una f fa env = (fa env).bind fun x => R.ofO (f x) := nr rfl
@[simp] theorem u_cons (fs : EnvD → R (List D)) : consF fa fs env = (fa env).bind fun d => (fs env).map (d :: ·) := nr rfl
@[simp] theorem u_nil : nilF env = .ok [] := nr rfl
@[simp] theorem u_call (fn : List D → R D) (fs : EnvD → R (List D)) : callF fn fs env = (fs env).bind fn := nr rfl
@[simp] theorem u_appL (f : List D → Option α) (fs : EnvD → R (List D)) : appL f fs env = (fs env).bind fun ds => R.ofO (f ds) := nr rfl
@[simp] theorem u_itm (fs : EnvD → R (List D)) : itmF fs env = (fs env).bind fun ds => if small ds.length = true then .ok (.itm ds) else .bad := nr rfl
@[simp] theorem u_tup (fs : EnvD → R (List D)) : tupF fs env = (fs env).bind fun ds => if small ds.length = true then .ok (.tup ds) else .bad := nr rfl
@[simp] theorem u_lst (fs : EnvD → R (List D)) : lstF fs env = (fs env).bind fun ds => if small ds.length = true then .ok ds else .bad := nr rfl
@[simp] theorem u_mkL (f : EnvD → R (List D)) : mkL f env = (f env).map D.lst := nr rfl
@[simp] theorem u_asV : asV ta env = (ta env).map D.bl := nr rfl
@[simp] theorem u_tst : tst fa env = (fa env).bind fun x => R.ofO (asB x) := nr rfl
@[simp] theorem u_andF : andF ta tb env = (ta env).bind fun k => if k = true then tb env else .ok false := nr rfl
@[simp] theorem u_orF : orF ta tb env = (ta env).bind fun k => if k = true then .ok true else tb env := nr rfl
@[simp] theorem u_notF : notF ta env = (ta env).map (!·) := nr rfl
@[simp] theorem u_andV : andV fa fb env = (tst fa env).bind fun k => if k = true then fb env else .ok (.bl false) := nr rfl
@[simp] theorem u_orV : orV fa fb env = (tst fa env).bind fun k => if k = true then .ok (.bl true) else fb env := nr rfl
@[simp] theorem u_notV : notV fa env = (tst fa env).map fun k => .bl (!k) := nr rfl
@[simp] theorem u_ifF (t : EnvD → R Bool) (fa fb : EnvD → R α) : ifF t fa fb env = (t env).bind fun k => if k = true then fa env else fb env := nr rfl
@[simp] theorem u_chain (f : α → β → Option Bool) (f' : β → γ → Option Bool) (fa : EnvD → R α) (fb : EnvD → R β) (fc : EnvD → R γ) :
    chain f f' fa fb fc env = (fa env).bind fun x => (fb env).bind fun y => (R.ofO (f x y)).bind fun k => if k = true then (fc env).bind fun z => R.ofO (f' y z) else .ok false := nr rfl
@[simp] theorem u_ret : retS fa env = bindS (fa env) env fun d => .ret d := nr rfl
@[simp] theorem u_set (i : Nat) : setS i fa env = bindS (fa env) env fun d => .next (env.set i (.val d)) := nr rfl
@[simp] theorem u_setO (i : Nat) (f : EnvD → R (List D)) : setO i f env = bindS (f env) env fun d => .next (env.set i (.own d)) := nr rfl
@[simp] theorem u_setM (i : Nat) (f : EnvD → R (Bool × List D × List D)) : setM i f env = bindS (f env) env fun d => .next (env.set i (.ownd d.1 d.2.1 d.2.2)) := nr rfl
@[simp] theorem u_drop (f : EnvD → R α) : dropS f env = bindS (f env) env fun _ => .next env := nr rfl
@[simp] theorem u_if (t : EnvD → R Bool) (G1 G2 : EnvD → Out) : ifS t G1 G2 env = bindS (t env) env fun k => if k = true then G1 env else G2 env := nr rfl
@[simp] theorem u_skip : skipS env = .next env := nr rfl
@[simp] theorem u_raise (c : Exc) : raiseS c env = .err c env := nr rfl
@[simp] theorem u_par (i j : Nat) (fa fb : EnvD → R Sl) : setPar i j fa fb env = bindS (fa env) env fun s => bindS (fb env) env fun t => .next ((env.set i s).set j t) := nr rfl
@[simp] theorem u_par3 (i j l : Nat) (fa fb fc : EnvD → R Sl) : setPar3 i j l fa fb fc env = bindS (fa env) env fun s => bindS (fb env) env fun t => bindS (fc env) env fun u => .next (((env.set i s).set j t).set l u) := nr rfl
@[simp] theorem u_par4 (i j l m : Nat) (fa fb fc fd : EnvD → R Sl) : setPar4 i j l m fa fb fc fd env = bindS (fa env) env fun s => bindS (fb env) env fun t => bindS (fc env) env fun u => bindS (fd env) env fun v => .next ((((env.set i s).set j t).set l u).set m v) := nr rfl
@[simp] theorem u_slV : slV fa env = (fa env).map Sl.val := nr rfl
@[simp] theorem u_slN (f : EnvD → R (List D)) : slN f env = (f env).map Sl.own := nr rfl
@[simp] theorem u_seqF : seqF fa env = (fa env).bind fun x => R.ofO (asSeq x) := nr rfl
@[simp] theorem u_lst' (xs : List D) : asSeq (.lst xs) = some xs := nr rfl
@[simp] theorem u_tup' (xs : List D) : asSeq (.tup xs) = some xs := nr rfl
@[simp] theorem u_asB (b : Bool) : asB (.bl b) = some b := nr rfl
@[simp] theorem u_toD (b : Bool) : toD (some b) = some (.bl b) := nr rfl
@[simp] theorem u_int2 (f : Int → Int → Option D) (i j : Int) : int2 f (.int i) (.int j) = f i j := nr rfl
@[simp] theorem u_cmpI (f : Int → Int → Bool) (i j : Int) : cmpI f (.int i) (.int j) = some (f i j) := nr rfl
@[simp] theorem u_neg (i : Int) : negD (.int i) = some (.int (-i)) := nr rfl
@[simp] theorem u_addI (i j : Int) : addD (.int i) (.int j) = some (.int (i + j)) := nr rfl
@[simp] theorem u_sub (i j : Int) : subD (.int i) (.int j) = some (.int (i - j)) := nr rfl
theorem u_mod (i j : Int) (h : 0 < j) : modD (.int i) (.int j) = some (.int (i % j)) := by unfold modD; simp [h]
theorem u_fdiv (i j : Int) (h : 0 < j) (h2 : j < 1000000000000000000000) : fdivD (.int i) (.int j) = some (.int (i / j)) := by unfold fdivD; simp [h, h2]
theorem u_mulR (i j : Int) (h : -18446744073709551616 < j) (h2 : j < 18446744073709551616) : mulD (.int i) (.int j) = some (.int (i * j)) := by
  show mulI (.int i) (.int j) = _
  unfold mulI; simp [h, h2]
theorem u_mulL (i j : Int) (h : -18446744073709551616 < i) (h2 : i < 18446744073709551616) : mulD (.int i) (.int j) = some (.int (i * j)) := by
  show mulI (.int i) (.int j) = _
  unfold mulI; simp [h, h2]
@[simp] theorem u_max (i j : Int) : max2D [.int i, .int j] = some (.int (max i j)) := by
  show some (D.int (if j > i then j else i)) = _
  congr 2; omega
@[simp] theorem u_min (i j : Int) : min2D [.int i, .int j] = some (.int (min i j)) := by
  show some (D.int (if j < i then j else i)) = _
  congr 2; omega
@[simp] theorem u_len1 (xs : List D) : lenD [.lst xs] = some (.int xs.length) := nr rfl
@[simp] theorem u_len2 (xs : List D) : lenD [.tup xs] = some (.int xs.length) := nr rfl
@[simp] theorem u_len3 (xs : List Int) : lenD [.scr xs] = some (.int xs.length) := nr rfl
@[simp] theorem u_tuple1 (xs : List D) : tupleD [.lst xs] = some (.tup xs) := nr rfl
@[simp] theorem u_tuple2 (xs : List D) : tupleD [.tup xs] = some (.tup xs) := nr rfl
@[simp] theorem u_list1 (xs : List D) : listD [.lst xs] = some xs := nr rfl
@[simp] theorem u_list2 (xs : List D) : listD [.tup xs] = some xs := nr rfl
@[simp] theorem u_isN (d : D) : isNoneD d .non = if noRaw d = true then some (isNon d) else none := by cases d <;> rfl
@[simp] theorem u_notN (d : D) : notNoneD d .non = if noRaw d = true then some (!isNon d) else none := by cases d <;> rfl
@[simp] theorem u_isB (a b : Bool) : isBD (.bl a) (.bl b) = some (decide (a = b)) := nr rfl
@[simp] theorem u_notB (a b : Bool) : notBD (.bl a) (.bl b) = some (!decide (a = b)) := nr rfl
@[simp] theorem u_isInt (i : Int) : isIntD (.int i) = some true := nr rfl
@[simp] theorem u_isBool (i : Int) : isBoolD (.int i) = some false := nr rfl
@[simp] theorem u_isTup (xs : List D) : isTupD (.tup xs) = some true := nr rfl
@[simp] theorem u_isTupL (xs : List D) : isTupD (.lst xs) = some false := nr rfl
@[simp] theorem u_nr0 : noRaw .non = true := nr rfl
@[simp] theorem u_nr1 (i : Int) : noRaw (.int i) = true := nr rfl
@[simp] theorem u_nr2 (xs : List D) : noRaw (.tup xs) = true := nr rfl
@[simp] theorem u_nr3 (xs : List D) : noRaw (.lst xs) = true := nr rfl
@[simp] theorem u_in0 : isNon .non = true := nr rfl
@[simp] theorem u_in1 (i : Int) : isNon (.int i) = false := nr rfl
@[simp] theorem u_in2 (xs : List D) : isNon (.tup xs) = false := nr rfl
@[simp] theorem u_in3 (xs : List D) : isNon (.lst xs) = false := nr rfl
@[simp] theorem u_slice (fl fh : EnvD → R (Option Int)) : sliceF fa fl fh env = (fa env).bind fun x => (fl env).bind fun lo => (fh env).bind fun hi => R.ofO (cutF x lo hi) := nr rfl
@[simp] theorem u_noO : noO env = .ok none := nr rfl
@[simp] theorem u_someO : someO fa env = (fa env).bind fun d => R.ofO (asO d) := nr rfl
@[simp] theorem u_asO (i : Int) : asO (.int i) = some (some i) := nr rfl
@[simp] theorem u_rngL1 (fa : EnvD → R D) (env : EnvD) : rngL1 fa env = (fa env).bind fun d => R.ofO (asRng1 [d]) := nr rfl
@[simp] theorem small_le {n : Nat} (h : n ≤ 16777216) : small n = true := by unfold small; exact decide_eq_true h
@[simp] theorem small_0 : small 0 = true := nr rfl
@[simp] theorem small_1 : small 1 = true := nr rfl
@[simp] theorem small_2 : small 2 = true := nr rfl
@[simp] theorem small_3 : small 3 = true := nr rfl
@[simp] theorem small_4 : small 4 = true := nr rfl
end
/-! subscripts -/
theorem ix_nat {xs : List D} {i : Nat} {d : D} (h : xs[i]? = some d) : ixD (.tup xs) (.int (i : Nat)) = some d ∧ ixD (.lst xs) (.int (i : Nat)) = some d := by
  have : atI xs (i : Int) = some d := by
    have hl := (List.getElem?_eq_some_iff.mp h).1
    unfold atI ixN
    rw [if_pos (by omega)]
    rw [Int.toNat_natCast, if_pos (by omega)]
    exact h
  exact ⟨this, this⟩
theorem ix_natI {xs : List D} {i : Nat} {d : D} (h : xs[i]? = some d) : ixD (.itm xs) (.int (i : Nat)) = some d := (ix_nat h).1
@[simp] theorem ix_i0 (d : D) (r : List D) : ixD (.itm (d :: r)) (.int 0) = some d := ix_natI (i := 0) rfl
@[simp] theorem ix_i1 (a d : D) (r : List D) : ixD (.itm (a :: d :: r)) (.int 1) = some d := ix_natI (i := 1) rfl
@[simp] theorem ix_0 (d : D) (r : List D) : ixD (.tup (d :: r)) (.int 0) = some d := (ix_nat (i := 0) rfl).1
@[simp] theorem ix_1 (a d : D) (r : List D) : ixD (.tup (a :: d :: r)) (.int 1) = some d := (ix_nat (i := 1) rfl).1
@[simp] theorem ix_2 (a b d : D) (r : List D) : ixD (.tup (a :: b :: d :: r)) (.int 2) = some d := (ix_nat (i := 2) rfl).1
@[simp] theorem ix_3 (a b c d : D) (r : List D) : ixD (.tup (a :: b :: c :: d :: r)) (.int 3) = some d := (ix_nat (i := 3) rfl).1
end PD

set_option maxHeartbeats 4000000
namespace PD
open PySem PySem.Spec PyProof.Rows L2
/-! ### equality of plain data -/
mutual
def plD : Nat → D → Bool
  | _, .non => true
  | _, .int _ => true
  | _, .str x => PyData.strOk x
  | n + 1, .tup xs => plDs n xs
  | n + 1, .lst xs => plDs n xs
  | _, _ => false
def plDs : Nat → List D → Bool
  | _, [] => true
  | n, x :: xs => plD n x && plDs n xs
end
mutual
theorem pl_lay : ∀ (n : Nat) (d : D), plD n d = true → d.toPy.canLay0 = true ∧ d.toPy.depth ≤ n
  | n, .non, _ => by simp [D.toPy, PyData.canLay0, PyData.depth]
  | n, .int _, _ => by simp [D.toPy, PyData.canLay0, PyData.depth]
  | n, .str x, h => by
    have h : PyData.strOk x = true := by cases n <;> exact h
    simp [D.toPy, PyData.canLay0, PyData.depth, h]
  | 0, .tup xs, h => by simp [plD] at h
  | n + 1, .tup xs, h => by
    have := pl_lays n xs (by simpa [plD] using h)
    simp [D.toPy, PyData.canLay0, PyData.depth, this]
  | 0, .lst xs, h => by simp [plD] at h
  | n + 1, .lst xs, h => by
    have := pl_lays n xs (by simpa [plD] using h)
    simp [D.toPy, PyData.canLay0, PyData.depth, this]
  | n, .bl _, h => by cases n <;> simp [plD] at h
  | n, .scr _, h => by cases n <;> simp [plD] at h
  | n, .dic _ _, h => by cases n <;> simp [plD] at h
  | n, .raw _, h => by cases n <;> simp [plD] at h
theorem pl_lays : ∀ (n : Nat) (ds : List D), plDs n ds = true → PyData.canLayAll0 (toPys ds) = true ∧ PyData.depthAll (toPys ds) ≤ n
  | n, [], _ => by simp [toPys, PyData.canLayAll0, PyData.depthAll]
  | n, d :: ds, h => by
    simp only [plDs, Bool.and_eq_true] at h
    have h1 := pl_lay n d h.1
    have h2 := pl_lays n ds h.2
    simp only [toPys, PyData.canLayAll0, PyData.depthAll, h1.1, h2.1, Bool.and_self, true_and]
    omega
end
mutual
theorem pl_eqv : ∀ (n m : Nat) (d e : D), plD n d = true → plD m e = true → (PyData.eqv d.toPy e.toPy = true ↔ d = e)
  | n, m, .non, e, _, h => by
    cases e <;> first | (cases m <;> simp [plD] at h; done) | simp [D.toPy, PyData.eqv]
  | n, m, .int i, e, _, h => by
    cases e <;> first | (cases m <;> simp [plD] at h; done) | simp [D.toPy, PyData.eqv]
  | n, m, .str x, e, _, h => by
    cases e <;> first | (cases m <;> simp [plD] at h; done) | simp [D.toPy, PyData.eqv]
  | 0, m, .tup xs, e, h, _ => by simp [plD] at h
  | n + 1, m, .tup xs, e, h', h => by
    cases e with
    | tup ys =>
      cases m with
      | zero => simp [plD] at h
      | succ m =>
        simp only [plD] at h h'
        simp only [D.toPy, PyData.eqv, D.tup.injEq]
        exact pl_eqvs n m xs ys h' h
    | _ => first | (cases m <;> simp [plD] at h; done) | simp [D.toPy, PyData.eqv]
  | 0, m, .lst xs, e, h, _ => by simp [plD] at h
  | n + 1, m, .lst xs, e, h', h => by
    cases e with
    | lst ys =>
      cases m with
      | zero => simp [plD] at h
      | succ m =>
        simp only [plD] at h h'
        simp only [D.toPy, PyData.eqv, D.lst.injEq]
        exact pl_eqvs n m xs ys h' h
    | _ => first | (cases m <;> simp [plD] at h; done) | simp [D.toPy, PyData.eqv]
  | n, m, .bl _, e, h, _ => by cases n <;> simp [plD] at h
  | n, m, .scr _, e, h, _ => by cases n <;> simp [plD] at h
  | n, m, .dic _ _, e, h, _ => by cases n <;> simp [plD] at h
  | n, m, .raw _, e, h, _ => by cases n <;> simp [plD] at h
theorem pl_eqvs : ∀ (n m : Nat) (ds es : List D), plDs n ds = true → plDs m es = true → (PyData.eqvAll (toPys ds) (toPys es) = true ↔ ds = es)
  | n, m, [], [], _, _ => by simp [toPys, PyData.eqvAll]
  | n, m, [], e :: es, _, _ => by simp [toPys, PyData.eqvAll]
  | n, m, d :: ds, [], _, _ => by simp [toPys, PyData.eqvAll]
  | n, m, d :: ds, e :: es, h, h' => by
    simp only [plDs, Bool.and_eq_true] at h h'
    simp only [toPys, PyData.eqvAll, Bool.and_eq_true, pl_eqv n m d e h.1 h'.1, pl_eqvs n m ds es h.2 h'.2, List.cons.injEq]
end
theorem shaped_pl {d : D} (h : plD 64 d = true) : SeqAt.shaped d.toPy = true := by
  have := pl_lay 64 d h
  unfold SeqAt.shaped
  simp [this]
theorem eqD_of {d e : D} {p : Prop} [Decidable p] (hd : plD 64 d = true) (he : plD 64 e = true) (h : d = e ↔ p) : eqD d e = some (decide p) := by
  unfold eqD
  rw [shaped_pl hd, shaped_pl he]
  simp only [Bool.and_self, if_true]
  congr 1
  rw [Bool.eq_iff_iff, decide_eq_true_eq, pl_eqv 64 64 d e hd he]
  exact h
theorem neD_of {d e : D} {p : Prop} [Decidable p] (hd : plD 64 d = true) (he : plD 64 e = true) (h : d = e ↔ p) : neD d e = some (!decide p) := by
  unfold neD; rw [eqD_of hd he h]; rfl
mutual
theorem pl_mono : ∀ (n : Nat) (d : D), plD n d = true → plD (n + 1) d = true
  | n, .non, _ => by simp [plD]
  | n, .int _, _ => by simp [plD]
  | n, .str x, h => by
    have h : PyData.strOk x = true := by cases n <;> exact h
    simp [plD, h]
  | 0, .tup xs, h => by simp [plD] at h
  | n + 1, .tup xs, h => by simp only [plD] at h ⊢; exact pl_monos n xs h
  | 0, .lst xs, h => by simp [plD] at h
  | n + 1, .lst xs, h => by simp only [plD] at h ⊢; exact pl_monos n xs h
  | n, .bl _, h => by cases n <;> simp [plD] at h
  | n, .scr _, h => by cases n <;> simp [plD] at h
  | n, .dic _ _, h => by cases n <;> simp [plD] at h
  | n, .raw _, h => by cases n <;> simp [plD] at h
theorem pl_monos : ∀ (n : Nat) (ds : List D), plDs n ds = true → plDs (n + 1) ds = true
  | n, [], _ => by simp [plDs]
  | n, d :: ds, h => by
    simp only [plDs, Bool.and_eq_true] at h ⊢
    exact ⟨pl_mono n d h.1, pl_monos n ds h.2⟩
end
theorem pl_up {n m : Nat} {d : D} (h : plD n d = true) (hm : n ≤ m) : plD m d = true := by
  induction m with
  | zero => rw [Nat.le_zero.mp hm] at h; exact h
  | succ m ih =>
    rcases Nat.lt_or_ge n (m + 1) with q | q
    · exact pl_mono m d (ih (by omega))
    · rw [show n = m + 1 by omega] at h; exact h
theorem pl_64 {n : Nat} {d : D} (h : plD n d = true) (hn : n ≤ 64 := by decide) : plD 64 d = true := pl_up h hn
theorem plDs_all {n : Nat} : ∀ {ds : List D}, (∀ d ∈ ds, plD n d = true) → plDs n ds = true
  | [], _ => by simp [plDs]
  | d :: ds, h => by
    simp only [plDs, Bool.and_eq_true]
    exact ⟨h d (by simp), plDs_all fun x hx => h x (by simp [hx])⟩
theorem pl_tup {n : Nat} {ds : List D} (h : ∀ d ∈ ds, plD n d = true) : plD (n + 1) (.tup ds) = true := by simp only [plD]; exact plDs_all h
theorem pl_lst {n : Nat} {ds : List D} (h : ∀ d ∈ ds, plD n d = true) : plD (n + 1) (.lst ds) = true := by simp only [plD]; exact plDs_all h
@[simp] theorem pl_int (n : Nat) (i : Int) : plD n (.int i) = true := by cases n <;> rfl
@[simp] theorem pl_non (n : Nat) : plD n .non = true := by cases n <;> rfl
@[simp] theorem eqD_int (i j : Int) : eqD (.int i) (.int j) = some (decide (i = j)) := eqD_of rfl rfl (by simp)
@[simp] theorem neD_int (i j : Int) : neD (.int i) (.int j) = some (!decide (i = j)) := neD_of rfl rfl (by simp)
@[simp] theorem eqD_nn : eqD .non .non = some true := nr rfl
@[simp] theorem eqD_in (i : Int) : eqD (.int i) .non = some false := nr rfl
@[simp] theorem eqD_ni (i : Int) : eqD .non (.int i) = some false := nr rfl
@[simp] theorem neD_nn : neD .non .non = some false := nr rfl
@[simp] theorem neD_in (i : Int) : neD (.int i) .non = some true := nr rfl
@[simp] theorem neD_ni (i : Int) : neD .non (.int i) = some true := nr rfl
@[simp] theorem neD_ll : neD (.lst []) (.lst []) = some false := nr rfl
@[simp] theorem eqD_ll : eqD (.lst []) (.lst []) = some true := nr rfl
theorem neD_self {d : D} (h : plD 64 d = true) : neD d d = some false := by rw [neD_of (p := True) h h (by simp)]; rfl
theorem eqD_self {d : D} (h : plD 64 d = true) : eqD d d = some true := by rw [eqD_of (p := True) h h (by simp)]; rfl
theorem neD_nil {xs : List D} (h : plD 64 (.lst xs) = true) : neD (.lst xs) (.lst []) = some (!decide (xs = [])) := neD_of h rfl (by simp)
theorem eqD_nil {xs : List D} (h : plD 64 (.lst xs) = true) : eqD (.lst xs) (.lst []) = some (decide (xs = [])) := eqD_of h rfl (by simp)
theorem eqD_bl (a b : Bool) : eqD (.bl a) (.bl b) = some (decide (a = b)) := by cases a <;> cases b <;> rfl
theorem neD_bl (a b : Bool) : neD (.bl a) (.bl b) = some (!decide (a = b)) := by cases a <;> cases b <;> rfl
/-! ### in -/
def nD (n : Nat) : D := .int n
theorem nD_inj {a b : Nat} (h : nD a = nD b) : a = b := by unfold nD at h; injection h with h; omega
theorem cast_eq (a b : Nat) : ((a : Int) = (b : Int)) ↔ a = b := by omega
@[simp] theorem eqD_nD (a b : Nat) : eqD (nD a) (nD b) = some (decide (a = b)) := by
  unfold nD; rw [eqD_int]; congr 1; rw [Bool.eq_iff_iff]; simp only [decide_eq_true_eq]; exact cast_eq a b
@[simp] theorem neD_nD (a b : Nat) : neD (nD a) (nD b) = some (!decide (a = b)) := by unfold neD; rw [eqD_nD]; rfl
@[simp] theorem addD_nD (a b : Nat) : addD (nD a) (nD b) = some (nD (a + b)) := by
  show some (D.int ((a : Int) + b)) = _
  unfold nD; congr 2
theorem map_inj {α : Type} {f : α → D} (hf : ∀ a b, f a = f b → a = b) : ∀ {xs ys : List α}, xs.map f = ys.map f ↔ xs = ys
  | [], [] => by simp
  | [], y :: ys => by simp
  | x :: xs, [] => by simp
  | x :: xs, y :: ys => by
    simp only [List.map_cons, List.cons.injEq, map_inj hf (xs := xs) (ys := ys)]
    constructor
    · rintro ⟨a, b⟩; exact ⟨hf _ _ a, b⟩
    · rintro ⟨a, b⟩; exact ⟨by rw [a], b⟩
theorem in_nat (n : Nat) (ns : List Nat) : inD (nD n) (.tup (ns.map nD)) = some (decide (n ∈ ns)) := by
  have h : (ns.map nD).all flatD = true := by simp [nD, flatD, Function.comp_def]
  show (if flatD (nD n) && (ns.map nD).all flatD then _ else _) = _
  rw [h, if_pos (by rfl)]
  congr 1
  rw [Bool.eq_iff_iff]
  simp [nD, D.toPy, PyData.eqv]
  constructor
  · rintro ⟨x, hx, e⟩
    have : x = n := by omega
    rwa [← this]
  · exact fun h => ⟨n, h, rfl⟩
theorem any_eqv {n m : Nat} {x : D} (hx : plD n x = true) : ∀ {ys : List D}, plDs m ys = true → ((toPys ys).any (fun y => PyData.eqv y x.toPy) = true ↔ x ∈ ys)
  | [], _ => by simp [toPys]
  | y :: ys, h => by
    simp only [plDs, Bool.and_eq_true] at h
    simp only [toPys, List.any_cons, Bool.or_eq_true, any_eqv hx h.2, pl_eqv m n y x h.1 hx, List.mem_cons]
    constructor <;> rintro (a | a) <;> simp [a]
/-- membership in a list -/
theorem in_lst {x : D} {ys : List D} {p : Prop} [Decidable p] (hx : plD 64 x = true) (hy : plD 64 (.lst ys) = true) (h : x ∈ ys ↔ p) : inD x (.lst ys) = some (decide p) := by
  have e : inD x (.lst ys) = if SeqAt.shaped x.toPy && SeqAt.shaped (D.lst ys).toPy then some ((toPys ys).any fun y => PyData.eqv y x.toPy) else none := by cases x <;> rfl
  rw [e, shaped_pl hx, shaped_pl hy]
  simp only [Bool.and_self, if_true]
  congr 1
  rw [Bool.eq_iff_iff, decide_eq_true_eq, any_eqv hx (m := 63) (by simpa [plD] using hy)]
  exact h
theorem in_tup {x : D} {ys : List D} {p : Prop} [Decidable p] (fx : flatD x = true) (fy : ys.all flatD = true) (hx : plD 64 x = true) (hy : plD 64 (.tup ys) = true) (h : x ∈ ys ↔ p) : inD x (.tup ys) = some (decide p) := by
  have e : inD x (.tup ys) = if flatD x && ys.all flatD then some (ys.any fun y => PyData.eqv y.toPy x.toPy) else none := by cases x <;> rfl
  rw [e, fx, fy]
  simp only [Bool.and_self, if_true]
  congr 1
  rw [Bool.eq_iff_iff, decide_eq_true_eq, ← h, ← any_eqv hx (m := 63) (by simpa [plD] using hy), toPys_map, List.any_map]
  rfl
/-! ### all, any -/
@[simp] theorem asBls_map : ∀ bs : List Bool, asBls (bs.map D.bl) = some bs
  | [] => rfl
  | b :: bs => by simp [asBls, asBls_map bs]
theorem all_map {α : Type} (f : α → Bool) (xs : List α) : allD [.lst (xs.map fun x => .bl (f x))] = some (.bl (xs.all f)) := by
  have e : (xs.map fun x => D.bl (f x)) = (xs.map f).map D.bl := by rw [List.map_map]; rfl
  show (asBls _).map _ = _
  rw [e, asBls_map]
  simp [List.all_map, Function.comp_def]
theorem any_map {α : Type} (f : α → Bool) (xs : List α) : anyD [.lst (xs.map fun x => .bl (f x))] = some (.bl (xs.any f)) := by
  have e : (xs.map fun x => D.bl (f x)) = (xs.map f).map D.bl := by rw [List.map_map]; rfl
  show (asBls _).map _ = _
  rw [e, asBls_map]
  simp [List.any_map, Function.comp_def]
/-! ### comprehensions -/
theorem lcL_ok {α : Type} {p : Pat} {vs : List Nat} {t : EnvD → R Bool} {f : EnvD → R D} {env : EnvD} {enc : α → D} (T : α → Bool) (Fv : α → D) : ∀ {xs : List α},
    (∀ x ∈ xs, ∃ e, bindP p (enc x) (wipeE env vs) = some e ∧ t e = .ok (T x) ∧ (T x = true → f e = .ok (Fv x))) → lcL p vs t f (xs.map enc) env = .ok ((xs.filter T).map Fv)
  | [], _ => rfl
  | x :: xs, h => by
    obtain ⟨e, h1, h2, h3⟩ := h x (by simp)
    have ih := lcL_ok (xs := xs) T Fv fun y hy => h y (by simp [hy])
    simp only [List.map_cons, lcL, h1, h2]
    cases q : T x with
    | false => simp [q, ih]
    | true => simp [q, ih, h3 q]
theorem lcL_all {α : Type} {p : Pat} {vs : List Nat} {f : EnvD → R D} {env : EnvD} {enc : α → D} (Fv : α → D) {xs : List α}
    (h : ∀ x ∈ xs, ∃ e, bindP p (enc x) (wipeE env vs) = some e ∧ f e = .ok (Fv x)) : lcL p vs yesF f (xs.map enc) env = .ok (xs.map Fv) := by
  rw [lcL_ok (fun _ => true) Fv fun x hx => by
    obtain ⟨e, h1, h2⟩ := h x hx
    exact ⟨e, h1, rfl, fun _ => h2⟩]
  rw [List.filter_eq_self.mpr fun _ _ => rfl]
theorem lc2L_ok {α : Type} {p p1 : Pat} {vs vs1 : List Nat} {t t1 : EnvD → R Bool} {f : EnvD → R D} {src1 : EnvD → R (List D)} {env : EnvD} {enc : α → D} (T : α → Bool) (Ys : α → List D) : ∀ {xs : List α},
    (∀ x ∈ xs, ∃ e, bindP p (enc x) (wipeE env vs) = some e ∧ t e = .ok (T x) ∧ (T x = true → ∃ ds, src1 e = .ok ds ∧ lcL p1 vs1 t1 f ds e = .ok (Ys x))) → lc2L p vs t src1 p1 vs1 t1 f (xs.map enc) env = .ok ((xs.filter T).flatMap Ys)
  | [], _ => rfl
  | x :: xs, h => by
    obtain ⟨e, h1, h2, h3⟩ := h x (by simp)
    have ih := lc2L_ok (xs := xs) T Ys fun y hy => h y (by simp [hy])
    simp only [List.map_cons, lc2L, h1, h2, noErr, e_bind]
    cases q : T x with
    | false => simp [q, ih]
    | true =>
      obtain ⟨ds, h4, h5⟩ := h3 q
      simp [q, ih, h4, h5, noErr]
/-! ### loops -/
theorem forL_pred {p : Pat} {G : EnvD → Out} (I : EnvD → Prop) : ∀ {ds : List D} {e : EnvD}, I e → (∀ e d, I e → d ∈ ds → ∃ e1, bindP p d e = some e1 ∧ ∃ e2, (G e1 = .next e2 ∨ G e1 = .cont e2) ∧ I e2) → ∃ e', forL p G ds e = .next e' ∧ I e'
  | [], e, h, _ => ⟨e, rfl, h⟩
  | d :: ds, e, h, k => by
    obtain ⟨e1, h1, e2, h2, h3⟩ := k e d h (by simp)
    obtain ⟨e', h4, h5⟩ := forL_pred I (ds := ds) h3 fun e d' i m => k e d' i (by simp [m])
    refine ⟨e', ?_, h5⟩
    simp only [forL, h1]
    rcases h2 with h2 | h2 <;> simp only [h2, h4]
/-- a loop that goes through, its state told -/
theorem forL_fold {α S : Type} {p : Pat} {G : EnvD → Out} {enc : α → D} (E : S → EnvD) (step : S → α → S) : ∀ {xs : List α} {s : S}, (∀ s x, x ∈ xs → ∃ e1, bindP p (enc x) (E s) = some e1 ∧ (G e1 = .next (E (step s x)) ∨ G e1 = .cont (E (step s x)))) →
    forL p G (xs.map enc) (E s) = .next (E (xs.foldl step s))
  | [], s, _ => rfl
  | x :: xs, s, k => by
    obtain ⟨e1, h1, h2⟩ := k s x (by simp)
    have ih := forL_fold E step (xs := xs) (s := step s x) fun s y m => k s y (by simp [m])
    simp only [List.map_cons, forL, h1, List.foldl_cons]
    rcases h2 with h2 | h2 <;> simp only [h2, ih]
@[simp] theorem u_lc (p : Pat) (vs : List Nat) (t : EnvD → R Bool) (f : EnvD → R D) (src : EnvD → R (List D)) (env : EnvD) : lcF p vs t f src env = (src env).bind fun ds => lcL p vs t f ds env := nr rfl
@[simp] theorem u_for (p : Pat) (f : EnvD → R (List D)) (G : EnvD → Out) (env : EnvD) : forS p f G env = bindS (f env) env fun ds => forL p G ds env := nr rfl
/-! ### ranges, enumerate -/
theorem rng_map (lo hi : Int) : rng lo hi = (List.range (hi - lo).toNat).map fun i => .int (lo + (i : Nat)) := rfl
theorem rng0 (n : Nat) : rng 0 (n : Int) = (List.range n).map nD := by
  unfold rng nD
  simp
theorem asRng1_nat {n : Nat} (h : n ≤ 16777216) : asRng1 [.int (n : Int)] = some ((List.range n).map nD) := by
  show (if rngOk 0 (n : Int) = true then some (rng 0 n) else none) = _
  rw [rng0, if_pos (by unfold rngOk; simp; omega)]
theorem asRng2_int {lo hi : Int} (h1 : -1000000 ≤ lo) (h2 : lo ≤ 1000000) (h3 : -1000000 ≤ hi) (h4 : hi ≤ 1000000) : asRng2 [.int lo, .int hi] = some (rng lo hi) := by
  show (if rngOk lo hi = true then some (rng lo hi) else none) = _
  rw [if_pos (by unfold rngOk; simp; omega)]
theorem enumL_map {α : Type} (enc : α → D) (dflt : α) : ∀ (k : Nat) (xs : List α), enumL k (xs.map enc) = (List.range xs.length).map fun i => .itm [.int ((k + i : Nat) : Int), enc (xs.getD i dflt)]
  | _, [] => rfl
  | k, x :: xs => by
    rw [List.map_cons, enumL, enumL_map enc dflt (k + 1) xs, List.length_cons, List.range_succ_eq_map, List.map_cons, List.map_map]
    rw [List.cons.injEq]
    refine ⟨by simp, List.map_congr_left fun i _ => ?_⟩
    simp only [Function.comp_def, List.getD_cons_succ, Nat.succ_eq_add_one]
    rw [show k + 1 + i = k + (i + 1) by omega]
/-! ### the last item -/
theorem ix_last {xs : List D} {d : D} (h : xs.getLast? = some d) : ixD (.lst xs) (.int (-1)) = some d := by
  have hl : xs ≠ [] := fun e => by rw [e] at h; cases h
  have hl2 := List.length_pos_iff.mpr hl
  show atI xs (-1) = some d
  unfold atI ixN
  rw [if_neg (by omega), if_pos (by omega)]
  rw [List.getLast?_eq_getElem?] at h
  simp only [Option.bind_some]
  rw [← h]
  congr 1
  omega
theorem ix_lastT {xs : List D} {d : D} (h : xs.getLast? = some d) : ixD (.tup xs) (.int (-1)) = some d := ix_last h
/-- none or a number -/
def optD : Option Nat → D
  | none => .non
  | some n => nD n
theorem optD_inj {a b : Option Nat} (h : optD a = optD b) : a = b := by
  cases a <;> cases b <;> simp [optD, nD] at h ⊢
  omega
@[simp] theorem pl_opt (n : Nat) (o : Option Nat) : plD n (optD o) = true := by cases o <;> simp [optD, nD]
@[simp] theorem pl_nat (n m : Nat) : plD n (nD m) = true := by simp [nD]

/-- a loop that goes through, told by what is done -/
theorem forL_ind {α : Type} {p : Pat} {G : EnvD → Out} {enc : α → D} (I : List α → EnvD → Prop) {xs : List α} {e : EnvD} (h0 : I [] e)
    (h : ∀ pre x suf, xs = pre ++ x :: suf → ∀ e, I pre e → ∃ e1, bindP p (enc x) e = some e1 ∧ ∃ e2, (G e1 = .next e2 ∨ G e1 = .cont e2) ∧ I (pre ++ [x]) e2) : ∃ e', forL p G (xs.map enc) e = .next e' ∧ I xs e' := by
  have key : ∀ (suf pre : List α) (e : EnvD), xs = pre ++ suf → I pre e → ∃ e', forL p G (suf.map enc) e = .next e' ∧ I xs e' := by
    intro suf
    induction suf with
    | nil => intro pre e q i; rw [List.append_nil] at q; subst q; exact ⟨e, rfl, i⟩
    | cons x suf ih =>
      intro pre e q i
      obtain ⟨e1, h1, e2, h2, h3⟩ := h pre x suf q e i
      obtain ⟨e', h4, h5⟩ := ih (pre ++ [x]) e2 (by rw [q]; simp) h3
      refine ⟨e', ?_, h5⟩
      simp only [List.map_cons, forL, h1]
      rcases h2 with h2 | h2 <;> simp only [h2, h4]
  exact key xs [] e rfl h0
/-- a loop that may return: at each item it goes on or returns -/
theorem whileL_ok {t : EnvD → R Bool} {G : EnvD → Out} (I : Nat → EnvD → Prop) (J : EnvD → Prop) (h : ∀ m e, I m e → (t e = .ok false ∧ J e) ∨ (t e = .ok true ∧ ∃ e2 m', m' < m ∧ (G e = .next e2 ∨ G e = .cont e2) ∧ I m' e2)) :
    ∀ (n m : Nat) (e : EnvD), m < n → I m e → ∃ e', whileL t G n e = .next e' ∧ J e'
  | 0, m, e, hm, _ => absurd hm (Nat.not_lt_zero _)
  | n + 1, m, e, hm, i => by
    rcases h m e i with ⟨h1, h2⟩ | ⟨h1, e2, m', h2, h3, h4⟩
    · exact ⟨e, by simp [whileL, h1], h2⟩
    · obtain ⟨e', h5, h6⟩ := whileL_ok I J h n m' e2 (by omega) h4
      refine ⟨e', ?_, h6⟩
      rcases h3 with h3 | h3 <;> simp [whileL, h1, h3, h5]
/-! ### sorting -/
theorem leD_eq (a b : D) : leD a b = !PySem.W.dataLt b.toPy a.toPy := by unfold leD; rw [PySem.W.dataLe_eq]; rfl
theorem leD_nat (a b : Nat) : leD (nD a) (nD b) = decide (a ≤ b) := by
  rw [leD_eq]
  show (!PySem.W.dataLt (.int b) (.int a)) = _
  rw [PySem.W.dataLt_int, Bool.eq_iff_iff]
  simp
theorem leD_ii (a b c d : Int) : leD (.tup [.int a, .int b]) (.tup [.int c, .int d]) = decide (a < c ∨ (a = c ∧ b ≤ d)) := by
  rw [leD_eq]
  show (!PySem.W.dataLt (.tuple [.int c, .int d]) (.tuple [.int a, .int b])) = _
  rw [PySem.W.dataLt_ii, Bool.eq_iff_iff]
  simp
  omega
theorem leD_iiI (a b c d : Int) : leD (.itm [.int a, .int b]) (.itm [.int c, .int d]) = decide (a < c ∨ (a = c ∧ b ≤ d)) := leD_ii a b c d
theorem isort_uniq {ds es : List D} (hp : ds.Perm es) (hs : es.Pairwise fun a b => leD a b = true) (anti : ∀ a ∈ es, ∀ b ∈ es, leD a b = true → leD b a = true → a = b) : isort leD ds = es :=
  List.Perm.eq_of_pairwise (le := fun a b => leD a b = true) (fun a b ha hb h1 h2 => anti a (((isort_perm (le := leD) ds).trans hp).mem_iff.mp ha) b hb h1 h2) (isort_sorted leD_total ds) hs ((isort_perm ds).trans hp)
theorem srtOk_int {ds : List D} (h : ∀ d ∈ ds, isI d = true) : srtOk ds = true := by
  unfold srtOk
  rw [List.all_eq_true.mpr h]; simp
theorem srtOk_t1 {ds : List D} (h : ∀ d ∈ ds, isT1 d = true) : srtOk ds = true := by
  unfold srtOk
  rw [List.all_eq_true.mpr h]; simp
theorem srtOk_t2 {ds : List D} (h : ∀ d ∈ ds, isT2 d = true) : srtOk ds = true := by
  unfold srtOk
  rw [List.all_eq_true.mpr h]; simp
theorem range_pair {α : Type} {R : α → α → Prop} {f : Nat → α} : ∀ {n : Nat}, (∀ i j, i < j → j < n → R (f i) (f j)) → ((List.range n).map f).Pairwise R := fun {n} h =>
  List.pairwise_iff_getElem.mpr fun i j hi hj hij => by
    simp only [List.length_map, List.length_range] at hi hj
    simp only [List.getElem_map, List.getElem_range]
    exact h i j hij hj
theorem sort_nats {os : List Nat} {n : Nat} (h : os.Perm (List.range n)) : isort leD (os.map nD) = (List.range n).map nD := by
  refine isort_uniq (h.map nD) (range_pair fun i j hij _ => by rw [leD_nat]; exact decide_eq_true (by omega)) fun a ha b hb h1 h2 => ?_
  obtain ⟨i, _, rfl⟩ := List.mem_map.mp ha
  obtain ⟨j, _, rfl⟩ := List.mem_map.mp hb
  rw [leD_nat] at h1 h2
  rw [Nat.le_antisymm (of_decide_eq_true h1) (of_decide_eq_true h2)]

theorem dput_ok {i : Nat} {fk fv : EnvD → R D} {env : EnvD} {t : Bool} {ks vs : List D} {k v : D} (h1 : fv env = .ok v) (h2 : env[i]? = some (.ownd t ks vs)) (h3 : fk env = .ok k) (h4 : isKey t k = true) (h5 : small (ks.length + 1) = true) :
    dputS i fk fv env = .next (env.set i (.ownd t (dPut ks vs k v).1 (dPut ks vs k v).2)) := by
  unfold dputS
  simp [h1, h2, h3, h4, h5]

theorem lcL_ex {α β : Type} {p : Pat} {vs : List Nat} {f : EnvD → R D} {env : EnvD} {enc : α → D} (g : β → D) (P : α → β → Prop) : ∀ {xs : List α}, (∀ x ∈ xs, ∃ e y, bindP p (enc x) (wipeE env vs) = some e ∧ f e = .ok (g y) ∧ P x y) →
    ∃ ys : List β, ys.length = xs.length ∧ (∀ (i : Nat) x y, xs[i]? = some x → ys[i]? = some y → P x y) ∧ lcL p vs yesF f (xs.map enc) env = .ok (ys.map g)
  | [], _ => ⟨[], rfl, by simp, rfl⟩
  | x :: xs, h => by
    obtain ⟨e, y, h1, h2, h3⟩ := h x (by simp)
    obtain ⟨ys, h4, h5, h6⟩ := lcL_ex g P (xs := xs) fun z hz => h z (by simp [hz])
    refine ⟨y :: ys, by simp [h4], fun i u v hu hv => ?_, by simp [lcL, h1, yesF, h2, h6]⟩
    cases i with
    | zero => simp at hu hv; subst hu hv; exact h3
    | succ i => exact h5 i u v (by simpa using hu) (by simpa using hv)
theorem appPop_ok {i j : Nat} {f : EnvD → R D} {env : EnvD} {ds es : List D} {k : Nat} {y : D} (hij : i ≠ j) (h1 : env[i]? = some (.own ds)) (h2 : env[j]? = some (.own es)) (h3 : f env = .ok (nD k)) (h4 : es[k]? = some y) (h5 : small (ds.length + 1) = true) :
    appPopS i j f env = .next ((env.set j (.own (es.eraseIdx k))).set i (.own (ds ++ [y]))) := by
  have hl := (List.getElem?_eq_some_iff.mp h4).1
  unfold appPopS
  simp [h1, h2, h3, nD, hij, h4, h5, hl]
  rw [List.getElem?_eq_getElem hl] at h4
  rw [Option.some.inj h4]
theorem app_ok {i : Nat} {f : EnvD → R D} {env : EnvD} {ds : List D} {d : D} (h1 : env[i]? = some (.own ds)) (h2 : f env = .ok d) (h3 : small (ds.length + 1) = true) : appS i f env = .next (env.set i (.own (ds ++ [d]))) := by
  unfold appS
  simp [h1, h2, h3]
theorem ext_ok {i : Nat} {f : EnvD → R (List D)} {env : EnvD} {ds es : List D} (h1 : env[i]? = some (.own ds)) (h2 : f env = .ok es) (h3 : small (ds.length + es.length) = true) : extS i f env = .next (env.set i (.own (ds ++ es))) := by
  unfold extS
  simp [h1, h2, h3]
theorem unp_ok {q : Pat} {f : EnvD → R D} {env e : EnvD} {d : D} (h1 : f env = .ok d) (h2 : bindP q d env = some e) : unpS q f env = .next e := by
  unfold unpS
  simp [h1, h2]
theorem map_erase' {α : Type} (f : α → D) : ∀ (l : List α) (i : Nat), (l.map f).eraseIdx i = (l.eraseIdx i).map f
  | [], _ => by simp
  | a :: l, 0 => by simp
  | a :: l, i + 1 => by simp [map_erase' f l i]

/-! ### keys -/
def addK {α : Type} [DecidableEq α] (ks : List α) (c : α) : List α := if c ∈ ks then ks else ks ++ [c]
section
variable {α β : Type} [DecidableEq α] {enc : α → D}
theorem dPutV_k (enc : α → D) (c : D) : ∀ ks : List α, dPutV (ks.map enc) (ks.map fun _ => .bl true) c (.bl true) = ks.map fun _ => .bl true
  | [] => rfl
  | k :: ks => by simp [dPutV, dPutV_k enc c ks]
theorem dPut_k (h : ∀ a b, keyEq (enc a) (enc b) = decide (a = b)) (ks : List α) (c : α) : dPut (ks.map enc) (ks.map fun _ => .bl true) (enc c) (.bl true) = ((addK ks c).map enc, (addK ks c).map fun _ => .bl true) := by
  unfold dPut addK
  have e : ((ks.map enc).any fun k => keyEq k (enc c)) = decide (c ∈ ks) := by
    rw [List.any_map, Bool.eq_iff_iff]
    simp [h]
  rw [e]
  by_cases q : c ∈ ks
  · simp [q, dPutV_k]
  · simp [q]
theorem addK_nodup {ks : List α} {c : α} (h : ks.Nodup) : (addK ks c).Nodup := by
  unfold addK
  split
  · exact h
  · rename_i q
    rw [List.nodup_append]
    exact ⟨h, by simp, fun a ha b hb e => by simp at hb; subst hb; subst e; exact q ha⟩
theorem addK_mem {ks : List α} {c d : α} : d ∈ addK ks c ↔ d ∈ ks ∨ d = c := by
  unfold addK
  split
  · rename_i q
    constructor
    · exact .inl
    · rintro (h | h)
      · exact h
      · rw [h]; exact q
  · simp
theorem addK_len (ks : List α) (c : α) : (addK ks c).length ≤ ks.length + 1 := by
  unfold addK; split <;> simp
theorem foldK_nodup {f : β → α} : ∀ (xs : List β) {ks : List α}, ks.Nodup → (xs.foldl (fun ks x => addK ks (f x)) ks).Nodup
  | [], _, h => h
  | x :: xs, _, h => foldK_nodup xs (addK_nodup h)
theorem foldK_mem {f : β → α} {j : α} : ∀ (xs : List β) {ks : List α}, j ∈ xs.foldl (fun ks x => addK ks (f x)) ks ↔ j ∈ ks ∨ ∃ x ∈ xs, f x = j
  | [], ks => by simp
  | x :: xs, ks => by
    rw [List.foldl_cons, foldK_mem xs, addK_mem]
    constructor
    · rintro ((h | h) | ⟨y, hy, e⟩)
      · exact .inl h
      · exact .inr ⟨x, by simp, h.symm⟩
      · exact .inr ⟨y, by simp [hy], e⟩
    · rintro (h | ⟨y, hy, e⟩)
      · exact .inl (.inl h)
      · rcases List.mem_cons.mp hy with q | q
        · exact .inl (.inr (by rw [← e, q]))
        · exact .inr ⟨y, q, e⟩
theorem dcL_keys {p : Pat} {vs : List Nat} {t : EnvD → R Bool} {fk fv : EnvD → R D} {env : EnvD} {en : β → D} (enc : α → D) (h : ∀ a b, keyEq (enc a) (enc b) = decide (a = b)) (κ : β → α) (hk : ∀ a, isKey false (enc a) = true) : ∀ {xs : List β} {ks : List α}, ks.length + xs.length ≤ 1000000 →
    (∀ x ∈ xs, ∃ e, bindP p (en x) (wipeE env vs) = some e ∧ t e = .ok true ∧ fk e = .ok (enc (κ x)) ∧ fv e = .ok (.bl true)) →
    dcL p vs t fk fv (xs.map en) (ks.map enc, ks.map fun _ => .bl true) env = .ok ((xs.foldl (fun ks x => addK ks (κ x)) ks).map enc, (xs.foldl (fun ks x => addK ks (κ x)) ks).map fun _ => .bl true)
  | [], ks, _, _ => rfl
  | x :: xs, ks, hl, hx => by
    obtain ⟨e, h1, h2, h3, h4⟩ := hx x (by simp)
    have hl' : ks.length + xs.length + 1 ≤ 1000000 := by simp at hl; omega
    have := addK_len ks (κ x)
    have ih := dcL_keys enc h κ hk (xs := xs) (ks := addK ks (κ x)) (by omega) fun y hy => hx y (by simp [hy])
    have sm : small (ks.length + 1) = true := small_le (by omega)
    simp only [List.map_cons, dcL, h1, h2, h3, h4, noErr, e_bind, if_true, List.length_map, sm, hk, and_self, dPut_k h, List.foldl_cons]
    exact ih
end

/-! ### more about loops and sorting -/
/-- a loop that returns at the first item that P tells -/
theorem forL_find {α : Type} {p : Pat} {G : EnvD → Out} {enc : α → D} (E : EnvD → Prop) (P : α → Bool) (res : α → D) : ∀ {xs : List α} {e : EnvD}, E e → (∀ e x, E e → x ∈ xs → ∃ e1, bindP p (enc x) e = some e1 ∧ (P x = true → G e1 = .ret (res x)) ∧ (P x = false → ∃ e2, (G e1 = .next e2 ∨ G e1 = .cont e2) ∧ E e2)) →
    (∃ x, xs.find? P = some x ∧ forL p G (xs.map enc) e = .ret (res x)) ∨ (xs.find? P = none ∧ ∃ e', forL p G (xs.map enc) e = .next e' ∧ E e')
  | [], e, h, _ => .inr ⟨rfl, e, rfl, h⟩
  | x :: xs, e, h, k => by
    obtain ⟨e1, h1, h2, h3⟩ := k e x h (by simp)
    cases q : P x with
    | true => exact .inl ⟨x, by simp [q], by simp only [List.map_cons, forL, h1, h2 q]⟩
    | false =>
      obtain ⟨e2, h4, h5⟩ := h3 q
      rcases forL_find E P res (xs := xs) h5 fun e y he hy => k e y he (by simp [hy]) with ⟨y, a, b⟩ | ⟨a, e', b, c⟩
      · refine .inl ⟨y, by simp [q, a], ?_⟩
        simp only [List.map_cons, forL, h1]
        rcases h4 with h4 | h4 <;> simp only [h4, b]
      · refine .inr ⟨by simp [q, a], e', ?_, c⟩
        simp only [List.map_cons, forL, h1]
        rcases h4 with h4 | h4 <;> simp only [h4, b]
theorem insL_map {α β : Type} {le : β → β → Bool} (f : α → β) (x : α) : ∀ l : List α, insL le (f x) (l.map f) = (insL (fun a b => le (f a) (f b)) x l).map f
  | [] => rfl
  | y :: ys => by
    simp only [List.map_cons, insL]
    split
    · simp
    · simp [insL_map f x ys]
theorem isort_map {α β : Type} {le : β → β → Bool} (f : α → β) : ∀ l : List α, isort le (l.map f) = (isort (fun a b => le (f a) (f b)) l).map f
  | [] => rfl
  | x :: xs => by
    simp only [List.map_cons, isort, isort_map f xs, insL_map]
end PD

set_option maxHeartbeats 4000000
namespace PD
open PySem PySem.Spec PyProof.Rows L2
/-! ### what is not reached -/
def noneF {α : Type} : EnvD → R α := fun _ => .bad
theorem pd_none {α : Type} {X : Cx} {cls : Exc → Addr} {W : WX} {P : PP V α} {e : Expr} : PDE X cls W P e (noneF : EnvD → R α) := ⟨fun _ _ _ _ _ _ ⟨_, _, _, _, g⟩ => g.elim⟩
end PD

set_option maxHeartbeats 4000000
namespace PD
open PySem PySem.Spec PyProof.Rows L2
/-! ### the exception classes -/
def excName : Exc → Str
  | .paneError => "PaneError"
  | .window => "InvalidWindow"
  | .windows => "InvalidWindows"
  | .order => "InvalidOrder"
  | .cell => "InvalidCell"
  | .number => "InvalidNumber"
  | .group => "InvalidGroup"
  | .reports => "InvalidReports"
  | .move => "InvalidMove"
  | .size => "InvalidSize"
  | .sizes => "InvalidSizes"
  | .tooLarge => "TooLarge"
  | .nothing => "NothingToUndo"
  | .parse => "ParseError"
def clsK (K : PySem.W.Frag) (c : Exc) : Addr := He.ga K (excName c)
def excLe (c d : Exc) : Bool := decide (c = d) || decide (d = .paneError)
def excOk1 (K : PySem.W.Frag) (C : Addr) : Bool := He.eqO (PySem.W.findIn K (.ref C) "__getattribute__") (some (some (.builtin "BaseException.__getattribute__"))) && (He.eqO (PySem.W.findIn K (.ref C) "__getattr__") (some none) &&
  (decide (PySem.W.subIn K (.ref C) (.type "BaseException") = some true) && (PySem.W.hasDictIn K C && (He.eqO (PySem.W.findIn K (.ref C) "__class__") (some (some (.builtin "object.__class__"))) &&
  (He.eqO (PySem.W.specialIn K (.builtin "object.__class__") "__get__") (some (some (.builtin "getset_descriptor.__get__"))) && (decide (PySem.W.takesIn K (.builtin "object.__class__") = some true) && decide (PySem.W.mroIn K C (.type "object") = some true)))))))
def excOk (exs : List Exc) (K : PySem.W.Frag) : Bool := exs.all fun c => excOk1 K (clsK K c) && exs.all fun d => decide (PySem.W.exmOne K (.ref (clsK K c)) (.ref (clsK K d)) = some (excLe c d))
structure ExcF (K : PySem.W.Frag) (cls : Exc → Addr) (exs : List Exc) : Prop where
  c : ∀ c ∈ exs, ExcC K (cls c)
  m : ∀ c ∈ exs, ∀ d ∈ exs, PySem.W.exmOne K (.ref (cls c)) (.ref (cls d)) = some (excLe c d)
theorem excF_of {exs : List Exc} {K : PySem.W.Frag} (h : excOk exs K = true) : ExcF K (clsK K) exs := by
  have h1 := fun c hc => List.all_eq_true.mp h c hc
  simp only [Bool.and_eq_true] at h1
  refine ⟨fun c hc => ?_, fun c hc d hd => ?_⟩
  · have e := (h1 c hc).1
    unfold excOk1 at e
    simp only [Bool.and_eq_true] at e
    obtain ⟨a1, a2, a3, a4, a5, a6, a7, a8⟩ := e
    exact ⟨He.eqO_ok a1, He.eqO_ok a2, of_decide_eq_true a3, a4, He.eqO_ok a5, He.eqO_ok a6, of_decide_eq_true a7, of_decide_eq_true a8⟩
  · exact of_decide_eq_true (List.all_eq_true.mp (h1 c hc).2 d hd)
theorem ExcF.kit {exs : List Exc} {K : PySem.W.Frag} {cls : Exc → Addr} (x : ExcF K cls exs) {c d : Exc} (hc : c ∈ exs) (hd : d ∈ exs) : PySem.W.kitOne K (.ref (cls c)) (.ref (cls d)) = some (excLe c d) := by
  have m := x.m c hc d hd
  unfold PySem.W.exmOne at m
  split at m
  · unfold PySem.W.kitOne
    split
    · rename_i e
      have e2 : cls c = cls d := by
        have := beq_iff_eq.mp e
        injection this
      have m2 := x.m d hd d hd
      rw [← x.m c hc d hd, e2, m2]
      unfold excLe
      simp
    · exact m
  · cases m
/-! ### isinstance(e, X), e the exception that a handler holds -/
def isE (i : Nat) (a : Addr) (b : Bool) : EnvD → R D := fun env => match env[i]? with
  | some (.val (.raw (.ref x))) => if x = a then .ok (.bl b) else .bad
  | _ => .bad
theorem pd_isE {X : Cx} {cls : Exc → Addr} {W : WX} {a : Addr} {oe : Obj} {pn : List (Addr × Obj)} {c d : Exc} {i : Nat} {n x : Str} {p p2 p3 pos : Pos} {exs : List Exc} (xf : ExcF X.K cls exs) (hc : c ∈ exs) (hdx : d ∈ exs) (hz : Zc (.ref (cls c)) none oe) (hf : ∃ vs, oe.data = .fields vs)
    (hv : PE (X.suite a ((a, oe) :: pn)) (.Name n p2) (tVar i)) (hg : Gl X "isinstance") (hm : X.mg "isinstance" = none) (hx : Gl X x) (hxm : X.mg x = some (.ref (cls d))) (hd : (x == ("__debug__" : Str)) = false := by decide)
    (hs : starEach [.Name n p2, .Name x p3] X.env = (false, eval (.Name n p2) X.env) :: starEach [.Name x p3] X.env := by rfl) (hs2 : starEach [.Name x p3] X.env = (false, eval (.Name x p3) X.env) :: starEach [] X.env := by rfl) (hpl : (backTo pos (starEach [.Name x p3] X.env)).any (·.1) = false := by rfl) :
    PDE (X.suite a ((a, oe) :: pn)) cls W (pV X.K) (.Call (.Name "isinstance" p) [.Name n p2, .Name x p3] [] pos) (isE i a (excLe c d)) :=
  pe_imp (pe_callB (call_isE (xf.c c hc) hz hf) hg hm (by decide +kernel) (pa_cons hv (pa_cons (pe_glob (X := X.suite a ((a, oe) :: pn)) (v := .ref (cls d)) hx hxm rfl hd) pa_nil hs2) hs) (by decide) (by decide) hs hpl) fun σ H Q ⟨H0, F, env, ea, g⟩ => by
    unfold isE at g
    split at g
    · rename_i z q
      split at g
      · rename_i e
        subst e
        obtain ⟨v, h1, h2⟩ := ea.at_ i _ q
        cases h2
        refine ⟨.ref z, getD_some h1, .ref (cls d), .ref (cls d), excLe c d, rfl, fun u r => ?_, xf.kit hc hdx, g _ F H (Ext.refl ea.fh) (.bl _)⟩
        cases r; rfl
      · exact g.elim
    · exact g.elim
theorem isE_at {i : Nat} {a : Addr} {b : Bool} {e : EnvD} (h : i < e.length) : isE i a b (e.set i (.val (.raw (.ref a)))) = .ok (.bl b) := by
  unfold isE
  rw [List.getElem?_set_self h]
  simp
theorem isE_no {i : Nat} {a : Addr} {b : Bool} {e : EnvD} (h : ¬ i < e.length) : isE i a b (e.set i (.val (.raw (.ref a)))) = .bad := by
  unfold isE
  rw [List.getElem?_eq_none (by simpa using h)]
theorem isE_at2 {i j : Nat} {a : Addr} {b : Bool} {e : EnvD} {s : Sl} (hij : j ≠ i) (h : i < e.length) : isE i a b ((e.set i (.val (.raw (.ref a)))).set j s) = .ok (.bl b) := by
  unfold isE
  rw [List.getElem?_set_ne hij, List.getElem?_set_self h]
  simp
/-! ### try .. except PaneError as e: what returns -/
def tryR (i : Nat) (Hd : Addr → Exc → EnvD → Out) (c : Exc) (e : EnvD) : Out := match Hd 0 c (e.set i (.val (.raw (.ref 0)))) with
  | .ret d => .ret d
  | _ => .bad
def tryS (exs : List Exc) (i : Nat) (G : EnvD → Out) (Hd : Addr → Exc → EnvD → Out) : EnvD → Out := fun env => match G env with
  | .err c e => if c ∈ exs then tryR i Hd c e else .bad
  | .next e => .next e
  | .brk e => .brk e
  | .cont e => .cont e
  | .ret d => .ret d
  | .bad => .bad
theorem pds_try {exs : List Exc} {X : Cx} {cls : Exc → Addr} {W : WX} {x n : Str} {i : Nat} {body suite : List Stmt} {b₀ : Stmt} {np pos pos' : Pos} {G : EnvD → Out} {Hd : Addr → Exc → EnvD → Out}
    (hs : X.stack = X.env :: X.outer) (hf : X.env.frame = some X.env.locals) (hN : X.N.Nodup) (hi : X.N[i]? = some n) (hln : X.env.kindOf n = some .local) (xf : ExcF X.K cls exs) (hpe : .paneError ∈ exs) (hx : Gl X x) (hxm : X.mg x = some (.ref (cls .paneError))) (tk : Takes X W)
    (hb : ∀ (W' : WX) (pn : List (Addr × Obj)) (xe : Value → Shared → Prop), Takes (X.tr pn xe) W' → PassesOwn (model X.prog X.w) X.A X.env xe → PDSs (X.tr pn xe) cls W' body G)
    (hu : ∀ (a : Addr) (c : Exc) (e : EnvD) (d : D), Hd 0 c (e.set i (.val (.raw (.ref 0)))) = .ret d → Hd a c (e.set i (.val (.raw (.ref a)))) = .ret d)
    (hsu : ∀ (c : Exc), c ∈ exs → ∀ (a : Addr) (oe : Obj) (pn : List (Addr × Obj)), Zc (.ref (cls c)) none oe → (∃ vs, oe.data = .fields vs) → PDSs (X.suite a ((a, oe) :: pn)) cls W0 (b₀ :: suite) (Hd a c)) (hd : (x == ("__debug__" : Str)) = false := by decide) :
    PDS X cls W (.Try body [.ExceptHandler (some (.Name x np)) (some n) (b₀ :: suite) pos'] [] [] pos) (tryS exs i G Hd) :=
  ps_imp (ps_try_as (tb := fun W' => tS X.K cls W' G) (ts := fun a cv d D σ H => ∃ c, c ∈ exs ∧ cv = .ref (cls c) ∧ d = none ∧ tS X.K cls W0 (Hd a c) D σ H) (Wout := W) hs hf hN hi hln ⟨hx, hd, .inl hxm⟩ tk
    (fun W' pn xe tk' hp => hb W' pn xe tk' hp)
    (fun a oe cv d pn hz hfd => ⟨fun pins s σ H D I ⟨c, hc, e1, e2, h⟩ => by
      subst e1 e2
      exact (hsu c hc a oe pn hz hfd).run pins s σ H D I h⟩)) fun D σ H ⟨H0, F0, env, F, z, ea, g⟩ => by
    refine ⟨H0, F0, env, F, z, ea, ?_⟩
    unfold tryS at g
    cases q : G env with
    | err c e =>
      rw [q] at g
      have g : GoS X.K cls W F0 H0 F (if c ∈ exs then tryR i Hd c e else .bad) D := g
      split at g
      rotate_left
      · exact g.elim
      rename_i hc
      intro σ' F' H' x' s' ea'
      refine ⟨true, by rw [xf.m c hc .paneError hpe]; simp [excLe], fun _ a ha => ⟨c, hc, rfl, rfl, H0, F0, e.set i (.val (.raw (.ref a))), F', x', ea'.setV i (.raw _), ?_⟩, fun h => by cases h⟩
      have g : GoS X.K cls W F0 H0 F (tryR i Hd c e) D := g
      unfold tryR at g
      split at g
      · rename_i d w
        rw [hu a c e d w]
        exact fun v F1 H1 y1 y2 r => g v F1 H1 y1 (s'.trans y2) r
      · exact g.elim
    | next e => rw [q] at g; exact g
    | brk e => rw [q] at g; exact g
    | cont e => rw [q] at g; exact g
    | ret e => rw [q] at g; exact g
    | bad => rw [q] at g; exact g
theorem getB_self {e : EnvD} {j : Nat} {v : D} (h : j < e.length) : getB j (e.set j (.val v)) = .ok v := by
  unfold getB
  rw [List.getElem?_set_self h]
theorem getV_self {e : EnvD} {j : Nat} {v : D} (h : j < e.length) : getV j (e.set j (.val v)) = .ok v := by
  unfold getV
  rw [List.getElem?_set_self h]
theorem getB_out {e : EnvD} {j : Nat} (h : ¬ j < e.length) : getB j e = .bad := by
  unfold getB
  rw [List.getElem?_eq_none (by omega)]
theorem getV_out {e : EnvD} {j : Nat} (h : ¬ j < e.length) : getV j e = .bad := by
  unfold getV
  rw [List.getElem?_eq_none (by omega)]
@[simp] theorem u_catL (xs ys : List D) : catD (.lst xs) (.lst ys) = if small (xs.length + ys.length) = true then some (xs ++ ys) else none := nr rfl
theorem bindS_ret {r : R D} {env : EnvD} {x : D} : (bindS r env fun d => .ret d) = .ret x ↔ r = .ok x := by cases r <;> simp [bindS]
/-! ### the head, with what is asked of the exception classes -/
def obsE (n : Nat) (fa : List He.Fa) (fn : List He.DefD) (ex : PySem.W.Frag → Bool) (g : Addr → Option Obj) : He.AlD × Bool := (He.obsDG n fa fn g, ex (He.frG g (He.asD g n)))
def hookE (n : Nat) (fa : List He.Fa) (fn : List He.DefD) (ex : PySem.W.Frag → Bool) : PySem.W.Hook where
  α := He.AlD × Bool
  obs := fun s => obsE n fa fn ex s.heap.get?
  val := fun _ => (He.valD fn, true)
  says := fun _ h => ∃ K : PySem.W.Frag, K.In h ∧ He.SaysD fa fn K ∧ ex K = true
  of := fun _ _ e => ⟨_, He.frG_in, congrArg (fun z : He.AlD × Bool => z.1) e, congrArg (fun z : He.AlD × Bool => z.2) e⟩
  keeps := fun _ _ _ ⟨K, hK, c, d⟩ k => ⟨K, PySem.W.Frag.In.keeps hK k, c, d⟩
theorem obsE_eq {n : Nat} {fa : List He.Fa} {fn : List He.DefD} {ex : PySem.W.Frag → Bool} {g : Addr → Option Obj} {s : Shared} (h : ∀ a, g a = s.heap.get? a) : obsE n fa fn ex g = (hookE n fa fn ex).obs s := by
  have e : g = s.heap.get? := funext h
  rw [e] <;> rfl
end PD

set_option maxHeartbeats 4000000
namespace PD
open PySem PySem.Spec PyProof.Rows L2
/-! ### methods of tuples -/
def metT (f : List D → List D → Option D) (fo : EnvD → R D) (fs : EnvD → R (List D)) : EnvD → R D := fun env => (fo env).bind fun x => match x with
  | .tup xs => (fs env).bind fun ds => R.ofO (f xs ds)
  | _ => .bad
def tixD : List D → List D → Option D
  | ds, [.int k] => (asInts ds).bind fun ns => if k ∈ ns then some (.int (ns.idxOf k : Nat)) else none
  | _, _ => none
theorem tixD_inv {ds es : List D} {z : D} (h : tixD ds es = some z) : ∃ (ns : List Int) (k : Int), ds = ns.map D.int ∧ es = [.int k] ∧ k ∈ ns ∧ z = .int (ns.idxOf k : Nat) := by
  match es, h with
  | [.int k], h =>
    have h : ((asInts ds).bind fun ns => if k ∈ ns then some (D.int (ns.idxOf k : Nat)) else none) = some z := h
    cases w : asInts ds with
    | none => rw [w] at h; cases h
    | some ns =>
      rw [w] at h
      have h : (if k ∈ ns then some (D.int (ns.idxOf k : Nat)) else none) = some z := h
      by_cases hk : k ∈ ns
      · rw [if_pos hk] at h; cases h; exact ⟨ns, k, asInts_eq w, rfl, hk, rfl⟩
      · rw [if_neg hk] at h; cases h
section
variable {X : Cx} {cls : Exc → Addr} {W : WX} {o e : Expr} {fo : EnvD → R D} {fs : EnvD → R (List D)} {apos cpos : Pos}
theorem pd_tidx (ho : PDE X cls W (pV X.K) o fo) (ha : PDA X cls W (pA X.K) [e] fs)
    (hbase : attributeBase o "index" X.env (eval o X.env) = eval o X.env := by rfl)
    (hfew : ((backTo cpos (starEach [e] X.env)).all (fun x => !x.1) && (backToKw cpos (keywordEach [] X.env)).all (fun x => x.1.isSome)
      && decide ([e].length + ([] : List Keyword).length + (if ([] : List Keyword).isEmpty then 0 else 1) < 30)) = true := by rfl)
    (hline : (apos.endLine == cpos.line) = true := by rfl) (hs : starEach [e] X.env = (false, eval e X.env) :: starEach [] X.env := by rfl) (hplain : (backTo cpos (starEach [] X.env)).any (·.1) = false := by rfl) :
    PDE X cls W (pV X.K) (.Call (.Attribute o "index" apos) [e] [] cpos) (metT tixD fo fs) :=
  pe_imp (pe_bmT PySem.F.plainAttrs_tuple PySem.F.slot_tuple_index PySem.F.type_tuple_index mt_tidx ho ha hbase hfew hline hs hplain) fun σ H Q ⟨H0, F, env, ea, g⟩ => ⟨H0, F, env, ea, (Go.bind g).imp fun x H1 ⟨F1, d, _, e1, p1, g1⟩ => by
    cases d with
    | tup ds =>
      cases p1 with
      | @tup a xs ds h1 h2 h3 =>
        have g1 : Go cls (pV X.K) W σ F1 H1 ((fs env).bind fun ds' => R.ofO (tixD ds ds')) Q := g1
        refine ⟨⟨a, xs, rfl, h1.mono e1.i⟩, H0, F1, env, ea.mono e1, (Go.bind g1).imp fun vs H2 ⟨F2, es', _, e2, p2, g2⟩ => ?_⟩
        obtain ⟨z, hz, g3⟩ := Go.ofO g2
        obtain ⟨ns, k, rfl, rfl, hk, rfl⟩ := tixD_inv hz
        have ex := h3.of_ints
        subst ex
        cases p2 with
        | cons a1 a2 =>
          cases a1; cases a2
          exact ⟨a, ns, k, rfl, rfl, ((h1.mono e1.i).mono e2.h).sq, hk, g3 _ F2 H2 (Ext.refl e2.i) (.int _)⟩
    | _ => exact g1.elim⟩
end
theorem asInts_map : ∀ ns : List Int, asInts (ns.map D.int) = some ns
  | [] => rfl
  | n :: ns => by show (asInts (ns.map D.int)).map (n :: ·) = _; rw [asInts_map ns]; rfl
theorem u_metT {f : List D → List D → Option D} {fo : EnvD → R D} {fs : EnvD → R (List D)} {env : EnvD} {xs ds : List D} (h1 : fo env = .ok (.tup xs)) (h2 : fs env = .ok ds) : metT f fo fs env = R.ofO (f xs ds) := by
  unfold metT
  rw [h1]
  show (fs env).bind _ = _
  rw [h2]; rfl
/-! ### x in d, d a dict of one's own with int keys -/
def inK (i : Nat) (fy : EnvD → R D) : EnvD → R D := fun env => (fy env).bind fun y => match y, env[i]? with
  | .int j, some (.ownd false ks _) => .ok (.bl (ks.any fun k => keyEq k (.int j)))
  | _, _ => .bad
theorem any_valV (j : Int) : ∀ kvs : List (Key × V), ((kvs.map fun p => kD p.1).any fun k => keyEq k (.int j)) = (valV kvs (.inl j)).isSome
  | [] => rfl
  | p :: ps => by
    have e : keyEq (kD p.1) (.int j) = decide (p.1 = .inl j) := keyEq_k p.1 (.inl j)
    rw [List.map_cons, List.any_cons, e, any_valV j ps]
    by_cases q : p.1 = .inl j
    · rw [valV_pos q]; simp [q]
    · rw [valV_neg q]; simp [q]
theorem pd_inK {X : Cx} {cls : Exc → Addr} {W : WX} {y o : Expr} {fy : EnvD → R D} {i : Nat} {pos : Pos} (hu : X.A.units + 1 < cLine) (hy : PDE X cls W (pV X.K) y fy) (ho : PE X o (tVar i)) (hb : behindInMarks .In o = false := by rfl) :
    PDE X cls W (pV X.K) (.Compare y [.In] [o] pos) (inK i fy) :=
  pe_imp (pe_cmp (pc_din hu hy ho) hb) fun σ H Q ⟨H0, F, env, ea, g⟩ => ⟨H0, F, env, ea, (Go.bind g).imp fun v H1 ⟨F1, d, _, e1, p1, g1⟩ => by
    have ea1 := ea.mono e1
    cases d with
    | int j =>
      cases p1
      cases q : env[i]? with
      | none => rw [q] at g1; exact g1.elim
      | some s =>
        rw [q] at g1
        cases s with
        | ownd t ks vs =>
          cases t with
          | false =>
            obtain ⟨p, u, h1, h2, h3, h4, h5⟩ := ea1.at_ i _ q
            cases h5 with
            | @k kvs vs' l r =>
              refine ⟨.ref p, getD_some h1, p, valV kvs (.inl j), rfl, .inl ⟨kvs, .inl j, .inl h4, rfl, rfl⟩, ?_⟩
              have g1 : Q (.bl ((kvs.map fun p => kD p.1).any fun k => keyEq k (.int j))) H1 := g1 _ F1 H1 (Ext.refl e1.i) (.bl _)
              rw [any_valV] at g1
              exact g1
          | true => exact g1.elim
        | _ => exact g1.elim
    | _ => exact g1.elim⟩
end PD

set_option maxHeartbeats 4000000
namespace PD
open PySem PySem.Spec PyProof.Rows L2
/-! ### min(xs) of alike data: the first of the least -/
def minT : List D → Option D
  | [.lst (d :: ds)] => if srtOk (d :: ds) && small (d :: ds).length then some (ds.foldl (fun a y => if PySem.W.dataLt y.toPy a.toPy = true then y else a) d) else none
  | _ => none
def rMinT (K : PySem.W.Frag) : List V → Hp → VK → Prop := fun vs H Q => ∃ (F : Hp) (p : Addr) (xs : List V) (d : D) (ds : List D), Same F H ∧ vs = [.ref p] ∧ H p = some (.lst xs) ∧ Reps K F xs (d :: ds) ∧ srtOk (d :: ds) = true ∧
  ∀ v, Rep K F v (ds.foldl (fun a y => if PySem.W.dataLt y.toPy a.toPy = true then y else a) d) → Q v H
theorem srt_nn {ds : List D} (h : srtOk ds = true) : ∀ d ∈ ds, d.toPy ≠ .none := by
  unfold srtOk at h
  simp only [Bool.or_eq_true] at h
  rcases h with (h | h) | h
  · intro d hd
    obtain ⟨i, rfl⟩ := isI_eq (List.all_eq_true.mp h d hd)
    simp [D.toPy]
  · intro d hd
    obtain ⟨i, ns, e⟩ := isT1_eq (List.all_eq_true.mp h d hd)
    rw [e]; simp
  · intro d hd
    obtain ⟨i, ns, rfl⟩ := isT2_eq (List.all_eq_true.mp h d hd)
    simp [D.toPy]
theorem dep_all : ∀ {xs : List PyData} {n : Nat}, (∀ x ∈ xs, x.depth ≤ n) → PyData.depthAll xs ≤ n
  | [], n, _ => by simp [PyData.depthAll]
  | x :: xs, n, h => by
    have a := h x (by simp)
    have b := dep_all (xs := xs) (n := n) fun y hy => h y (by simp [hy])
    simp only [PyData.depthAll]
    omega
theorem lay_all : ∀ {ds : List D}, (∀ d ∈ ds, d.toPy.canLay0 = true) → PyData.canLayAll0 (toPys ds) = true
  | [], _ => by simp [toPys, PyData.canLayAll0]
  | d :: ds, h => by
    simp only [toPys, PyData.canLayAll0, h d (by simp), lay_all (ds := ds) fun e he => h e (by simp [he]), Bool.and_self]
theorem cr_minT {X : Cx} (hc : X.calm = true) (hu : X.A.units + 8 < cLine) : CallR X (.builtin "min") (rMinT X.K) := by
  intro pins s σ H vs us Q I r h
  obtain ⟨F, p, xs, d, ds, i, rfl, hp, rs, ok, q⟩ := h
  obtain ⟨u, rfl, rv⟩ := vals1 r
  cases rv
  obtain ⟨its, r1, pl, _⟩ := I.list (SqL.of hp)
  have P := srt_ok ok
  have dp := reps_dp (rs.mono i) (lay_all P.ly)
  rw [toPys_map] at dp
  obtain ⟨as, rd⟩ := Dp.readsAll I _ _ _ dp r1
  have al : PySem.W.AlikeAll ((d :: ds).map D.toPy) := ⟨fun x hx y hy => P.al x hx y hy, fun x hx => by
    obtain ⟨e, he, rfl⟩ := List.mem_map.mp hx
    exact srt_nn ok e he⟩
  have dd : PyData.depthAll ((d :: ds).map D.toPy) ≤ 2 := dep_all fun x hx => by
    obtain ⟨e, he, rfl⟩ := List.mem_map.mp hx
    exact P.dp e he
  have hn : its.toArray.size = ds.length + 1 := by
    rw [List.size_toArray, ← r1.length, rs.length, List.length_cons]
  have rd' : ReadsAll s.heap its.toArray.toList ((d :: ds).map D.toPy) as := by simpa using rd
  refine PySem.call_min_walkH (PySem.W.iter_listW (A := X.A.in1) (I.ok.hd hc) pl.isList fun s₂ e W st hfp hw hk => ?_)
  refine ⟨_, _, _, _, _, _, _, s.heap, _, rfl, W, st, hfp, by omega, hw, hk, PySem.W.cmpIn_lt (A := X.A.in1) rd' al (by show X.A.units + 1 + _ < _; omega), fun v s' hP m => ?_⟩
  obtain ⟨h', tk, rfl, hk'⟩ := PySem.W.moved_old e rfl m
  have bt : (fun i j => PySem.W.dataLt (((d :: ds).map D.toPy).getD i .none) (((d :: ds).map D.toPy).getD j .none)) = fun i j => (fun a b : D => PySem.W.dataLt a.toPy b.toPy) ((d :: ds).getD i .non) ((d :: ds).getD j .non) := by
    have g : ∀ k : Nat, ((d :: ds).map D.toPy).getD k .none = ((d :: ds).getD k .non).toPy := fun k => by
      rw [List.getD_eq_getElem?_getD, List.getD_eq_getElem?_getD, List.getElem?_map]
      cases (d :: ds)[k]? with
      | none => simp [D.toPy]
      | some x => rfl
    funext i j
    rw [g, g]
  rw [bt, hn, Nat.add_sub_cancel] at hP
  obtain ⟨a1, a2⟩ := PySem.W.argBest_fold (fun a b : D => PySem.W.dataLt a.toPy b.toPy) D.non d ds ds.length (Nat.le_refl _)
  rw [List.take_length] at a2
  generalize argBest (fun i j => (fun a b : D => PySem.W.dataLt a.toPy b.toPy) ((d :: ds).getD i .non) ((d :: ds).getD j .non)) ds.length = k at *
  have hk2 : k < (d :: ds).length := by rw [List.length_cons]; omega
  obtain ⟨x, hx, rx⟩ := rs.get (i := k) (d := (d :: ds)[k]'hk2) (by simp [hk2])
  obtain ⟨u, hu', ru⟩ := r1.get hx
  have hP : its.toArray[k]? = some v := hP
  rw [List.getElem?_toArray, hu'] at hP
  cases hP
  have e2 : (d :: ds)[k]'hk2 = ds.foldl (fun a y => if PySem.W.dataLt y.toPy a.toPy = true then y else a) d := by
    rw [← a2, List.getD_eq_getElem?_getD, List.getElem?_eq_getElem hk2]; rfl
  rw [e2] at rx
  exact ⟨x, H, I.kept (t' := tk) hk', ru, q x rx⟩
theorem cs_minT {K : PySem.W.Frag} : CallSem (pV K) K (rMinT K) minT := fun F H xs ds z Q i h hz k => by
  unfold minT at hz
  split at hz
  · rename_i d es
    split at hz
    · rename_i ok
      cases hz
      obtain ⟨v, rfl, hv⟩ := repBs1 h
      obtain ⟨p, us, rfl, h1, h2, h3⟩ := repB_lst i hv
      exact ⟨F, p, us, d, es, i, rfl, h1, h3, (Bool.and_eq_true_iff.mp ok).1, fun v rv => k v F H (Ext.refl i) rv⟩
    · cases hz
  · cases hz
end PD

set_option maxHeartbeats 4000000
namespace PD
open PySem PySem.Spec PyProof.Rows L2
/-! ### d[k] of a dict -/
def dixD : D → D → Option D
  | .dic ks vs, .tup r => (match asInts r with
    | some _ => dFind ks vs (.tup r)
    | none => none)
  | .dic ks vs, .int i => dFind ks vs (.int i)
  | _, _ => none
theorem dFind_kt {r : List D} : ∀ {kvs : List (Key × V)} {vs : List D}, dFind (kvs.map fun p => kD p.1) vs (.tup r) = none
  | [], vs => by simp [dFind]
  | p :: ps, [] => by simp [dFind]
  | p :: ps, v :: vs => by
    have : keyEq (kD p.1) (.tup r) = false := by rcases p with ⟨k, _⟩; cases k <;> rfl
    simp [dFind, this, dFind_kt (kvs := ps)]
theorem dFind_ti {j : Int} : ∀ {kvs : List (List Int × Addr × V)} {vs : List D}, dFind (kvs.map fun p => D.tup (p.1.map D.int)) vs (.int j) = none
  | [], vs => by simp [dFind]
  | p :: ps, [] => by simp [dFind]
  | p :: ps, v :: vs => by
    have : keyEq (D.tup (p.1.map D.int)) (.int j) = false := rfl
    simp [dFind, this, dFind_ti (kvs := ps)]
theorem dget_k {K : PySem.W.Frag} {F H : Hp} {a : Addr} {kvs : List (Key × V)} {ws : List D} {y : V} {e z : D} (i : Same F H) (rd : Rd H a (.dK kvs)) (r : Reps K F (kvs.map (·.2)) ws) (ry : Rep K F y e) (hz : dixD (.dic (kvs.map fun p => kD p.1) ws) e = some z) : ∃ v, DGet H a y (some v) ∧ Rep K F v z := by
  cases ry with
  | int j =>
    obtain ⟨v, h1, h2⟩ := find_reps (φ := kD) keyEq_k (k := .inl j) r hz
    exact ⟨v, .inl ⟨kvs, .inl j, rd, rfl, h1.symm⟩, h2⟩
  | tup h1 h2 h3 =>
    unfold dixD at hz
    simp only at hz
    split at hz
    · rw [dFind_kt] at hz; cases hz
    · cases hz
  | _ => cases hz
theorem dget_t {K : PySem.W.Frag} {F H : Hp} {a : Addr} {kvs : List (List Int × Addr × V)} {ws : List D} {y : V} {e z : D} (i : Same F H) (rd : Rd H a (DtI a kvs)) (kl : ∀ q ∈ kvs, TupAt F q.2.1 (q.1.map V.int) ∧ q.1.length ≤ sizeLine) (r : Reps K F (kvs.map (·.2.2)) ws) (ry : Rep K F y e)
    (hz : dixD (.dic (kvs.map fun p => D.tup (p.1.map D.int)) ws) e = some z) : ∃ v, DGetX K H a y (some v) ∧ Rep K F v z := by
  cases ry with
  | int j =>
    have hz : dFind (kvs.map fun p => D.tup (p.1.map D.int)) ws (.int j) = some z := hz
    rw [dFind_ti] at hz; cases hz
  | @tup b xs ds h1 h2 h3 =>
    unfold dixD at hz
    simp only at hz
    split at hz
    · rename_i k hk
      have := asInts_eq hk
      subst this
      have e2 : xs = k.map V.int := h3.of_ints
      subst e2
      obtain ⟨v, w1, w2⟩ := findX_reps (k := k) r hz
      exact ⟨v, ⟨kvs, k, b, rd, fun q hq => ((kl q hq).1.mono i).sq, rfl, (h1.mono i).sq, w1.symm⟩, w2⟩
    · cases hz
  | _ => cases hz
section
variable {X : Cx} {cls : Exc → Addr} {W : WX} {a b : Expr} {fa fb : EnvD → R D} {pos : Pos}
theorem pd_dget (hu : X.A.units + 1 < cLine) (ha : PDE X cls W (pB X.K) a fa) (hb : PDE X cls W (pV X.K) b fb) (hs : NoSl b) : PDE X cls W (pV X.K) (.Subscript a b pos) (bin dixD fa fb) :=
  pe_imp (pe_dgetX hu ha hb hs) fun σ H Q ⟨H0, F, env, ea, g⟩ => ⟨H0, F, env, ea, (Go.bind g).imp fun x H1 ⟨F1, d, _, e1, p1, g1⟩ => ⟨H0, F1, env, ea.mono e1, (Go.bind g1).imp fun y H2 ⟨F2, e, _, e2, p2, g2⟩ => by
    obtain ⟨z, hz, g3⟩ := Go.ofO g2
    have p1' : RepB X.K F2 H2 x d := RepB.mono p1 e2.f e2.h
    have fin : ∀ (q : Addr) (v : V), x = .ref q → (DGet H2 q y (some v) ∨ DGetX X.K H2 q y (some v)) → Rep X.K F2 v z → ∃ a v, x = .ref a ∧ (DGet H2 a y (some v) ∨ DGetX X.K H2 a y (some v)) ∧ Q v H2 := fun q v ex dg rv => ⟨q, v, ex, dg, g3 v F2 H2 (Ext.refl e2.i) rv⟩
    rcases p1' with r | ⟨_, _, _, _, rfl, _⟩ | ⟨p, u, t, ks, vs, rfl, rfl, h1, h2⟩
    · cases r with
      | dicK rd l r =>
        obtain ⟨v, w1, w2⟩ := dget_k e2.i (rd.mono e2.i) r p2 hz
        exact fin _ v rfl (.inl w1) w2
      | dicT rd kl l r =>
        obtain ⟨v, w1, w2⟩ := dget_t e2.i (rd.mono e2.i) kl r p2 hz
        exact fin _ v rfl (.inr w1) w2
      | _ => cases hz
    · cases hz
    · cases h2 with
      | k l r =>
        obtain ⟨v, w1, w2⟩ := dget_k e2.i (.inl h1) r p2 hz
        exact fin _ v rfl (.inl w1) w2
      | t kl l r =>
        obtain ⟨v, w1, w2⟩ := dget_t e2.i (.inl h1) kl r p2 hz
        exact fin _ v rfl (.inr w1) w2⟩⟩
/-! ### x in d, x not in d, d not empty -/
def inKD (b : Bool) : D → D → Option D
  | .tup r, .dic (.tup k0 :: ks) _ => (match asInts r with
    | some _ => some (.bl (if b = true then !((.tup k0 :: ks).any fun k => keyEq k (.tup r)) else (.tup k0 :: ks).any fun k => keyEq k (.tup r)))
    | none => none)
  | _, _ => none
theorem kD_tup {ps : List (Key × V)} {k0 : List D} {ks : List D} (h : (ps.map fun p => kD p.1) = .tup k0 :: ks) : False := by
  cases ps with
  | nil => cases h
  | cons p ps => rcases p with ⟨k1, _⟩; cases k1 <;> cases h
theorem anyX (k : List Int) : ∀ kvs : List (List Int × Addr × V), ((kvs.map fun p => D.tup (p.1.map D.int)).any fun d => keyEq d (.tup (k.map D.int))) = (valX kvs k).isSome := fun kvs => by
  rw [valX_any, List.any_map]
  congr 1
  funext p
  exact keyEq_t p.1 k
theorem in_x {K : PySem.W.Frag} {F H : Hp} {x y : V} {d e z : D} {b : Bool} (i : Same F H) (rx : Rep K F x d) (ry : RepB K F H y e) (hz : inKD b d e = some z) :
    ∃ a o, y = .ref a ∧ DGetX K H a x o ∧ z = .bl (if b = true then !o.isSome else o.isSome) := by
  unfold inKD at hz
  split at hz
  · rename_i r k0 ks vs
    split at hz
    · rename_i k hk'
      cases hz
      have := asInts_eq hk'
      subst this
      cases rx with
      | @tup c xs ds h1 h2 h3 =>
        have e2 : xs = k.map V.int := h3.of_ints
        subst e2
        have go : ∀ (a : Addr) (kvs : List (List Int × Addr × V)), y = .ref a → Rd H a (DtI a kvs) → (∀ q ∈ kvs, TupAt F q.2.1 (q.1.map V.int) ∧ q.1.length ≤ sizeLine) → ((.tup k0 :: ks) = kvs.map fun p => D.tup (p.1.map D.int)) →
            ∃ a o, y = .ref a ∧ DGetX K H a (.ref c) o ∧ D.bl (if b = true then !((.tup k0 :: ks).any fun k' => keyEq k' (.tup (k.map D.int))) else (.tup k0 :: ks).any fun k' => keyEq k' (.tup (k.map D.int))) = .bl (if b = true then !o.isSome else o.isSome) := fun a kvs ey rd kl ek =>
          ⟨a, valX kvs k, ey, ⟨kvs, k, c, rd, fun q hq => ((kl q hq).1.mono i).sq, rfl, (h1.mono i).sq, rfl⟩, by rw [ek, anyX]⟩
        rcases ry with r | ⟨_, _, _, _, q, _⟩ | ⟨p, u, t, ks', vs'', rfl, q, h4, h5⟩
        · generalize hE : D.dic (.tup k0 :: ks) vs = E at r
          cases r with
          | dicT rd kl l r => injection hE with e1 e2; exact go _ _ rfl (rd.mono i) kl e1
          | dicK rd l r => injection hE with e1 e2; exact (kD_tup e1.symm).elim
          | _ => cases hE
        · cases q
        · generalize hE : (.tup k0 :: ks : List D) = E at q
          cases q
          cases h5 with
          | t kl l r =>
            have g := go _ _ rfl (.inl h4) kl hE
            rw [hE] at g
            exact g
          | k l r => exact (kD_tup hE.symm).elim
    · cases hz
  · cases hz
theorem pd_inT {x o : Expr} {fx fo : EnvD → R D} (hu : X.A.units + 1 < cLine) (hx : PDE X cls W (pV X.K) x fx) (ho : PDE X cls W (pB X.K) o fo) (hb : behindInMarks .In o = false := by rfl) :
    PDE X cls W (pV X.K) (.Compare x [.In] [o] pos) (bin (inKD false) fx fo) :=
  pe_imp (pe_cmp (pc_dinX hu hx ho) hb) fun σ H Q ⟨H0, F, env, ea, g⟩ => ⟨H0, F, env, ea, (Go.bind g).imp fun x H1 ⟨F1, d, _, e1, p1, g1⟩ => ⟨H0, F1, env, ea.mono e1, (Go.bind g1).imp fun y H2 ⟨F2, e, _, e2, p2, g2⟩ => by
    obtain ⟨z, hz, g3⟩ := Go.ofO g2
    obtain ⟨a, ov, ey, dg, ez⟩ := in_x e2.i (Rep.mono p1 e2.f) p2 hz
    exact ⟨a, ov, ey, .inr dg, g3 _ F2 H2 (Ext.refl e2.i) (by rw [ez]; exact .bl _)⟩⟩⟩
theorem pd_notInT {x o : Expr} {fx fo : EnvD → R D} (hu : X.A.units + 1 < cLine) (hx : PDE X cls W (pV X.K) x fx) (ho : PDE X cls W (pB X.K) o fo) (hb : behindInMarks .NotIn o = false := by rfl) :
    PDE X cls W (pV X.K) (.Compare x [.NotIn] [o] pos) (bin (inKD true) fx fo) :=
  pe_imp (pe_cmp (pc_dnotinX hu hx ho) hb) fun σ H Q ⟨H0, F, env, ea, g⟩ => ⟨H0, F, env, ea, (Go.bind g).imp fun x H1 ⟨F1, d, _, e1, p1, g1⟩ => ⟨H0, F1, env, ea.mono e1, (Go.bind g1).imp fun y H2 ⟨F2, e, _, e2, p2, g2⟩ => by
    obtain ⟨z, hz, g3⟩ := Go.ofO g2
    obtain ⟨a, ov, ey, dg, ez⟩ := in_x e2.i (Rep.mono p1 e2.f) p2 hz
    exact ⟨a, ov, ey, .inr dg, g3 _ F2 H2 (Ext.refl e2.i) (by rw [ez]; exact .bl _)⟩⟩⟩
end
end PD

set_option maxHeartbeats 4000000
namespace PD
open PySem PySem.Spec PyProof.Rows L2
/-! ### dict([(k, v), ..]) with tuples of ints as keys -/
def foldX (kvs : List (List Int × Addr × V)) : List (List Int × Addr × V) := kvs.foldl (fun acc p => putX acc p.1 p.2.1 p.2.2) []
theorem relX_fold : ∀ {kvs : List (List Int × Addr × V)} {xs : List (List Int × Addr × Value)} {acc : List (List Int × Addr × V)} {ys : List (List Int × Addr × Value)}, RelX kvs xs → RelX acc ys →
    RelX (kvs.foldl (fun acc p => putX acc p.1 p.2.1 p.2.2) acc) (storedAllH ys xs) := by
  intro kvs xs acc ys r
  unfold RelX at r
  induction r generalizing acc ys with
  | nil => intro q; exact q
  | @cons p q ps qs h t ih =>
    intro r0
    have e : RelX (putX acc p.1 p.2.1 p.2.2) (storedH ys q.1 q.2.1 q.2.2) := by
      have := relX_put r0 p.1 p.2.1 h.2.2
      rw [← h.1, ← h.2.1]; exact this
    exact ih e
theorem foldX_len : ∀ (kvs acc : List (List Int × Addr × V)), (kvs.foldl (fun acc p => putX acc p.1 p.2.1 p.2.2) acc).length ≤ acc.length + kvs.length
  | [], acc => by simp
  | p :: ps, acc => by
    have h1 := foldX_len ps (putX acc p.1 p.2.1 p.2.2)
    have h2 := putX_len acc p.1 p.2.1 p.2.2
    rw [List.foldl_cons, List.length_cons]
    omega
theorem foldX_keys {P : List Int → Addr → Prop} : ∀ {kvs acc : List (List Int × Addr × V)}, (∀ q ∈ acc, P q.1 q.2.1) → (∀ q ∈ kvs, P q.1 q.2.1) → ∀ q ∈ kvs.foldl (fun acc p => putX acc p.1 p.2.1 p.2.2) acc, P q.1 q.2.1
  | [], _, h, _ => h
  | p :: ps, acc, h, hp => foldX_keys (kvs := ps) (putX_keys h (hp p (by simp))) fun q hq => hp q (by simp [hq])
/-- the pairs at these addresses -/
abbrev PairsX (K : PySem.W.Frag) (H : Hp) : List Addr → List (List Int × Addr × V) → Prop := Paired fun p kv => SqT K H p [.ref kv.2.1, kv.2.2] ∧ SqT K H kv.2.1 (kv.1.map V.int)
section
variable {X : Cx}
theorem pairsX_of {pins : List (Addr × Obj)} {σ : L2.St} {H : Hp} {s : Shared} (I : Inv X pins σ H s) : ∀ {ps : List Addr} {kvs : List (List Int × Addr × V)}, PairsX X.K H ps kvs →
    ∃ xs : List (List Int × Addr × Value), RelX kvs xs ∧ xs.length = ps.length ∧ (∀ (j : Nat) (q : List Int × Addr × Value), xs[j]? = some q → ∃ T : Addr, ps[j]? = some T ∧ s.heap.IsTuple T #[.ref q.2.1, q.2.2]) ∧ ∀ q ∈ xs, (tkI X.prog X.w).is s.heap q.1 q.2.1
  | _, _, .nil => ⟨[], .nil, rfl, fun j q e => by simp at e, by simp⟩
  | _, _, .cons (a := p) (b := kv) h t => by
    obtain ⟨xs, r, hl, hp, hk⟩ := pairsX_of I t
    obtain ⟨its, rv, ht, _⟩ := I.tuple h.1
    obtain ⟨u, y, ei, ru, ry⟩ := vals2 rv
    subst ei
    cases ru
    refine ⟨(kv.1, kv.2.1, y) :: xs, .cons ⟨rfl, rfl, ry⟩ r, by rw [List.length_cons, List.length_cons, hl], fun j q e => ?_, fun q hq => ?_⟩
    · cases j with
      | zero =>
        have e' : (kv.1, kv.2.1, y) = q := Option.some.inj e
        subst e'
        exact ⟨p, rfl, ht⟩
      | succ j =>
        obtain ⟨b, e1, e2⟩ := hp j q (by simpa using e)
        exact ⟨b, by simpa using e1, e2⟩
    · rcases List.mem_cons.mp hq with e | hq
      · subst e; exact keyI I h.2
      · exact hk q hq
def rDictX (K : PySem.W.Frag) : List V → Hp → VK → Prop := fun xs H Q => ∃ (a : Addr) (ps : List Addr) (kvs : List (List Int × Addr × V)), xs = [.ref a] ∧ SqL K H a (ps.map V.ref) ∧ PairsX K H ps kvs ∧ ∀ p, H p = none → Q (.ref p) (upd H p (DtI p (foldX kvs)))
theorem cr_dictX (hcalm : X.calm = true) (hu : X.A.units + 8 < cLine) : CallR X (.type "dict") (rDictX X.K) := by
  intro pins s σ H xs us Q I r q
  obtain ⟨a, ps, kvs, ex, hq, hp, q⟩ := q
  subst ex
  obtain ⟨u, eu, rx⟩ := vals1 r
  subst eu
  cases rx
  obtain ⟨its, rv, pl, hz⟩ := I.list hq
  have ei := refs_at rv
  subst ei
  rw [List.length_map] at hz
  obtain ⟨xs, rel, hl, hpr, hks⟩ := pairsX_of I hp
  obtain ⟨o, n, ho, hc, hd, hdat⟩ := pl
  have lp : ps.length = kvs.length := Paired.length hp
  refine call_dict_pairsH (knd := tkI X.prog X.w) (ps := xs) (PairArg.list a (ps.map Value.ref).toArray (fun j => (ps[j]?).getD 0) (xs.map fun x => (Value.ref x.2.1, x.2.2))) (I.ok.hd hcalm) ?_ ⟨⟨o, n, ho, hc, hd, hdat⟩, ?_, ?_⟩ ⟨by rw [List.length_map], ?_⟩ ?_ (by rw [List.length_map, hl]; exact hz) fun h' tk hd' k => ?_
  · show (X.A.in1.in1).units < cLine
    have e1 : X.A.in1.in1.units = X.A.units + 2 := rfl
    omega
  · simp [hl]
  · intro j k v e
    rw [List.getElem?_map] at e
    cases e2 : xs[j]? with
    | none => rw [e2] at e; cases e
    | some x =>
      rw [e2] at e
      cases e
      obtain ⟨T, h1, h2⟩ := hpr j x e2
      refine ⟨by simp [h1], .inl ?_⟩
      dsimp only
      rw [h1]; exact h2
  · intro i k v e
    have e : (xs.map fun x => (Value.ref x.2.1, x.2.2))[i]? = some (k, v) := e
    rw [List.getElem?_map] at e
    cases e2 : xs[i]? with
    | none => rw [e2] at e; cases e
    | some x =>
      rw [e2] at e
      cases e
      exact ⟨x.1, x.2.1, rfl, rfl⟩
  · intro h' hk x hx
    obtain ⟨ob, items, m, h1, h2, h3, h4⟩ := hks x hx
    exact ⟨ob, items, m, hk _ _ (Nat.ne_of_lt (Heap.lt_size h1)) (by simp) h1, h2, h3, h4⟩
  · have hm : (s.heap.objs.size == sysModules) = false := beq_eq_false_iff_ne.mpr (Nat.ne_of_gt I.big)
    have ok := dtOk_of (P := X.prog) (w := X.w) hm (relX_fold rel .nil) hd'
    exact ⟨.ref s.heap.objs.size, upd H s.heap.objs.size (DtI s.heap.objs.size (foldX kvs)), I.laid (t' := tk) (fun b o e => k b o (by simp) e) (Nat.le_refl _) (dtI_ok ok), rfl, q _ (I.hok.fresh (Nat.le_refl _))⟩
end
/-- pure -/
def dictL : List D → Option (List D × List D)
  | [] => some ([], [])
  | _ => none
def dPuts : List D → List D × List D → Option (List D × List D)
  | [], acc => some acc
  | .tup [.tup k, v] :: r, acc => (match asInts k with
    | some _ => dPuts r (dPut acc.1 acc.2 (.tup k) v)
    | none => none)
  | _, _ => none
def dictD : List D → Option (Bool × List D × List D)
  | [.lst ds] => (dPuts ds ([], [])).map fun p => (true, p.1, p.2)
  | _ => none
theorem dPuts_reps {K : PySem.W.Frag} {F : Hp} : ∀ {ds : List D} {vs : List V} {acc : List (List Int × Addr × V)} {ws : List D} {z : List D × List D}, Reps K F vs ds → Reps K F (acc.map (·.2.2)) ws → (∀ q ∈ acc, TupAt F q.2.1 (q.1.map V.int) ∧ q.1.length ≤ sizeLine) →
    dPuts ds (acc.map fun p => kT p.1, ws) = some z → ∃ (ps : List Addr) (kvs : List (List Int × Addr × V)), vs = ps.map V.ref ∧ PairsX K F ps kvs ∧ (∀ q ∈ kvs, TupAt F q.2.1 (q.1.map V.int) ∧ q.1.length ≤ sizeLine) ∧ kvs.length = ds.length ∧
      z.1 = (kvs.foldl (fun acc p => putX acc p.1 p.2.1 p.2.2) acc).map (fun p => kT p.1) ∧ Reps K F ((kvs.foldl (fun acc p => putX acc p.1 p.2.1 p.2.2) acc).map (·.2.2)) z.2
  | [], vs, acc, ws, z, r, ra, ka, h => by
    cases r
    cases h
    exact ⟨[], [], rfl, .nil, by simp, rfl, rfl, ra⟩
  | d :: ds, vs, acc, ws, z, r, ra, ka, h => by
    unfold dPuts at h
    split at h
    · rename_i q; cases q
    · rename_i kd v rr q
      cases q
      split at h
      · rename_i k hk
        have := asInts_eq hk
        subst this
        cases r with
        | @cons x xs _ _ a b =>
          cases a with
          | @tup p ys _ h1 h2 h3 =>
            cases h3 with
            | @cons y1 ys1 _ _ a1 b1 =>
              cases b1 with
              | @cons y2 ys2 _ _ a2 b2 =>
                cases b2
                cases a1 with
                | @tup c zs _ g1 g2 g3 =>
                  have e2 : zs = k.map V.int := g3.of_ints
                  subst e2
                  have kl : k.length ≤ sizeLine := by simpa using g2
                  have P := putX_reps (k := k) (b := c) ra a2
                  have h : dPuts ds ((dPut (acc.map fun p => kT p.1) ws (kT k) v)) = some z := h
                  rw [show dPut (acc.map fun p => kT p.1) ws (kT k) v = ((putX acc k c y2).map (fun p => kT p.1), (dPut (acc.map fun p => kT p.1) ws (kT k) v).2) by rw [P.1]] at h
                  obtain ⟨ps, kvs, e1, e3, e4, e5, e6, e7⟩ := dPuts_reps b P.2 (putX_keys (P := fun k b => TupAt F b (k.map V.int) ∧ k.length ≤ sizeLine) ka ⟨g1, kl⟩) h
                  refine ⟨p :: ps, (k, c, y2) :: kvs, by rw [e1]; rfl, .cons ⟨h1.sq, g1.sq⟩ e3, fun q hq => ?_, by simp [e5], e6, e7⟩
                  rcases List.mem_cons.mp hq with e | hq
                  · subst e; exact ⟨g1, kl⟩
                  · exact e4 q hq
      · cases h
    · cases h
theorem Paired.imp' {α β : Type} {R S : α → β → Prop} : ∀ {l : List α} {m : List β}, Paired R l m → (∀ a b, R a b → S a b) → Paired S l m
  | _, _, .nil, _ => .nil
  | _, _, .cons h t, f => .cons (f _ _ h) (Paired.imp' t f)
theorem cs_dictX {K : PySem.W.Frag} : CallSem (pM K) K (rDictX K) dictD := fun F H xs ds z Q i h hz k => by
  unfold dictD at hz
  split at hz
  · rename_i es
    cases e : dPuts es ([], []) with
    | none => rw [e] at hz; cases hz
    | some pr =>
      rw [e] at hz
      cases hz
      obtain ⟨v, rfl, r⟩ := repBs1 h
      obtain ⟨l, ys, rfl, h1, h2, h3⟩ := repB_lst i r
      obtain ⟨ps, kvs, e1, e2, e3, e4, e5, e6⟩ := dPuts_reps (acc := []) (ws := []) h3 .nil (by simp) e
      rw [e1] at h1
      have hl : (foldX kvs).length ≤ sizeLine := by
        have a := foldX_len kvs []
        have b := h3.length
        unfold foldX
        simp at a
        omega
      refine ⟨l, ps, kvs, rfl, SqL.of h1, Paired.imp' e2 (fun a b q => ⟨i.tupS q.1, i.tupS q.2⟩), fun p hp => ?_⟩
      refine k _ F _ (Ext.newH i hp) ⟨p, _, rfl, hp, i.free hp, upd_same, ?_⟩
      have D2 := DicAt.t (K := K) (F := F) (a := p) (foldX_keys (P := fun k b => TupAt F b (k.map V.int) ∧ k.length ≤ sizeLine) (acc := []) (by simp) e3) hl e6
      show DicAt K F p _ true pr.1 pr.2
      rw [e5]
      exact D2
  · cases hz
end PD

set_option maxHeartbeats 4000000
namespace PD
open PySem PySem.Spec PyProof.Rows L2
/-! ### a comprehension over the keys of a frozen dict -/
def isDic : HO → Bool
  | .dK _ => true
  | .ext _ => true
  | _ => false
/-- a dict's entry is taken for another that reads alike -/
theorem swap_of {K : PySem.W.Frag} {F : Hp} {d : Addr} {u u1 u2 : HO} {od : Obj} (hu : isDic u = true) (h1 : F d = some u1) (c : (u1 = u ∧ u2 = .frz od u) ∨ (u1 = .frz od u ∧ u2 = u)) :
    (∀ {v : V} {x : D}, Rep K F v x → Rep K (upd F d u2) v x) ∧ ∀ {vs : List V} {xs : List D}, Reps K F vs xs → Reps K (upd F d u2) vs xs := by
  have n1 : ∀ a w, F a = some w → w ≠ u1 → upd F d u2 a = some w := fun a w e ne => by
    by_cases q : a = d
    · subst q; rw [h1] at e; cases e; exact absurd rfl ne
    · rw [upd_ne q]; exact e
  have nt : ∀ xs, (HO.tup xs) ≠ u1 := fun xs e => by rcases c with ⟨e1, _⟩ | ⟨e1, _⟩ <;> rw [e1] at e <;> cases e <;> cases hu
  have nl : ∀ xs, (HO.lst xs) ≠ u1 := fun xs e => by rcases c with ⟨e1, _⟩ | ⟨e1, _⟩ <;> rw [e1] at e <;> cases e <;> cases hu
  have nfl : ∀ o xs, (HO.frz o (.lst xs)) ≠ u1 := fun o xs e => by
    rcases c with ⟨e1, _⟩ | ⟨e1, _⟩
    · rw [e1] at e; cases e; cases hu
    · rw [e1] at e; cases e; cases hu
  have nz : ∀ o xs, (HO.frz o (.tup xs)) ≠ u1 := fun o xs e => by
    rcases c with ⟨e1, _⟩ | ⟨e1, _⟩
    · rw [e1] at e; cases e; cases hu
    · rw [e1] at e; cases e; cases hu
  have hz : ∀ a xs, TupAt F a xs → TupAt (upd F d u2) a xs := fun a xs ⟨o, od, e⟩ => ⟨o, od, n1 a _ e (nz o xs)⟩
  have ht : ∀ a xs, F a = some (.tup xs) → upd F d u2 a = some (.tup xs) := fun a xs e => n1 a _ e (nt xs)
  have hl : ∀ a xs, F a = some (.lst xs) → upd F d u2 a = some (.lst xs) := fun a xs e => n1 a _ e (nl xs)
  have hs : ∀ a xs, SqL K F a xs → SqL K (upd F d u2) a xs := fun a xs e => by
    rcases e with (e | ⟨o, e⟩) | e
    · exact .inl (.inl (hl _ _ e))
    · exact .inl (.inr ⟨o, n1 a _ e (nfl o xs)⟩)
    · exact .inr e
  have hR : ∀ a w, isDic w = true → Rd F a w → Rd (upd F d u2) a w := fun a w hw e => by
    by_cases q : a = d
    · subst q
      have ew : w = u := by
        rcases e with e | ⟨o, e⟩
        · rw [h1] at e
          cases e
          rcases c with ⟨e1, _⟩ | ⟨e1, _⟩
          · exact e1
          · rw [e1] at hw; cases hw
        · rw [h1] at e
          cases e
          rcases c with ⟨e1, _⟩ | ⟨e1, _⟩
          · rw [← e1] at hu; cases hu
          · cases e1; rfl
      subst ew
      rcases c with ⟨_, e2⟩ | ⟨_, e2⟩
      · exact .inr ⟨od, by rw [upd_same, e2]⟩
      · exact .inl (by rw [upd_same, e2])
    · rcases e with e | ⟨o, e⟩
      · exact .inl (by rw [upd_ne q]; exact e)
      · exact .inr ⟨o, by rw [upd_ne q]; exact e⟩
  exact ⟨fun h => h.swap hz ht hl hs (fun a kvs => hR a _ rfl) (fun a kvs => hR a _ rfl), fun h => h.swap hz ht hl hs (fun a kvs => hR a _ rfl) (fun a kvs => hR a _ rfl)⟩
theorem EnvAt.lockV {K : PySem.W.Frag} {H0 F H : Hp} {env : EnvD} {σ : L2.St} (h : EnvAt K H0 env σ F H) {d : Addr} {u : HO} (hu : isDic u = true) (hd : F d = some u) (od : Obj) : EnvAt K H0 env σ (upd F d (.frz od u)) (upd H d (.frz od u)) := by
  obtain ⟨w1, w2⟩ := swap_of (K := K) hu hd (.inl ⟨rfl, rfl⟩ : (u = u ∧ HO.frz od u = .frz od u) ∨ _)
  have w4 : ∀ a xs, TupAt F a xs → TupAt (upd F d (.frz od u)) a xs := fun a xs ⟨o, od', e⟩ => ⟨o, od', by
    rw [upd_ne (fun q => by rw [q, hd] at e; cases e; cases hu)]
    exact e⟩
  have w3 : ∀ {a : Addr} {v : HO} {t : Bool} {ks vs : List D}, DicAt K F a v t ks vs → DicAt K (upd F d (.frz od u)) a v t ks vs := fun z => by
    cases z with
    | k l r => exact .k l (w2 r)
    | t c l r => exact .t (fun q hq => ⟨w4 _ _ (c q hq).1, (c q hq).2⟩) l (w2 r)
  have nd : ∀ p, F p = none → p ≠ d := fun p q e => by rw [e, hd] at q; cases q
  refine ⟨h.fh.upd2, h.len, fun j s q => ?_, h.ap⟩
  have y := h.at_ j s q
  cases s with
  | no => trivial
  | val x => obtain ⟨v, y1, y2⟩ := y; exact ⟨v, y1, w1 y2⟩
  | own ds =>
    obtain ⟨p, xs, y1, y2, y3, y4, y5, y6⟩ := y
    exact ⟨p, xs, y1, y2, by rw [upd_ne (nd p y3)]; exact y3, by rw [upd_ne (nd p y3)]; exact y4, y5, w2 y6⟩
  | ownd _ ks vs =>
    obtain ⟨p, v, y1, y2, y3, y4, y5⟩ := y
    exact ⟨p, v, y1, y2, by rw [upd_ne (nd p y3)]; exact y3, by rw [upd_ne (nd p y3)]; exact y4, w3 y5⟩
def lcVF (i : Nat) (p : Pat) (vs : List Nat) (t : EnvD → R Bool) (f : EnvD → R D) : EnvD → R (List D) := fun env => match env[i]? with
  | some (.val (.dic ks _)) => noErr (lcL p vs t f ks env)
  | _ => .bad
section
variable {X : Cx} {cls : Exc → Addr} {W : WX}
theorem pe_or {e : Expr} {t u : TE} (h : PE X e t) (g : PE X e u) : PE X e (fun σ H Q => t σ H Q ∨ u σ H Q) := ⟨fun pins s σ H Q I q => q.elim (h.run pins s σ H Q I) (g.run pins s σ H Q I)⟩
theorem pd_lcV {i : Nat} {x : Str} {px : Pos} {elt tg : Expr} {ifs : List Expr} {scope : Scope} {own : List (Str × Nat)} {p : Pat} {t : EnvD → R Bool} {f : EnvD → R D} {pos : Pos} (hc : X.calm = true) (hN : X.N.Nodup) (hv : PE X (.Name x px) (tVar i)) (ok : BlkOk X.N X.env.scope scope own)
    (hg : ∀ (s : Shared) (H : Hp) (C : Addr) (cl : List (Str × Addr)) (fp : List Addr), PG (X.blk s H scope (compEnvC scope cl C X.env) fp) tg (gPat X.K p))
    (ht : ∀ (s : Shared) (H : Hp) (C : Addr) (cl : List (Str × Addr)) (fp : List Addr), PTs (X.blk s H scope (compEnvC scope cl C X.env) fp) ifs (tG X.K cls W0 pT t))
    (he : ∀ (s : Shared) (H : Hp) (C : Addr) (cl : List (Str × Addr)) (fp : List Addr), PE (X.blk s H scope (compEnvC scope cl C X.env) fp) elt (tG X.K cls W0 (pV X.K) f))
    (hp : (p.ix.all fun i => (own.map (·.2)).contains i) = true) (hs : ∀ z, foldedSetIterable (.Name x px) X.env z = pure z := by intro _; rfl) :
    PDE X cls W (pN X.K) (.ListComp elt [⟨tg, .Name x px, ifs, 0⟩] scope pos) (lcVF i p (own.map (·.2)) t f) := by
  have base := pe_lc hc hN (pi_keysX hv) ok hg ht he hs (pos := pos)
  refine pe_imp (pe_or base (pe_lock base)) fun σ H Q ⟨H0, F, env, ea, g⟩ => ?_
  unfold lcVF at g
  cases q : env[i]? with
  | none => rw [q] at g; exact g.elim
  | some s =>
    rw [q] at g
    cases s with
    | no => exact g.elim
    | own ds => exact g.elim
    | ownd _ _ _ => exact g.elim
    | val dd =>
      cases dd with
      | dic ks ws =>
        have g0 : Go cls (pN X.K) W σ F H (noErr (lcL p (own.map (·.2)) t f ks env)) Q := g
        obtain ⟨v, h1, h2⟩ := ea.at_ i _ q
        -- with the dict locked
        have lock : ∀ (d : Addr) (u : HO), isDic u = true → F d = some u → v = .ref d → (∀ od F' H', H' = upd H d (.frz od u) → H' d = some (.frz od u) → Same F' H' → ((∃ kvs, H' d = some (.frz od (.dK kvs)) ∧ WalkD X.K true (Itk d od kvs) F' H' ks) ∨ ∃ kvs, H' d = some (.frz od (DtI d kvs)) ∧ WalkD X.K true (Itkx d od kvs) F' H' ks)) →
            tLockE (tLc (iKeysX (tVar i)) (gPat X.K p) (tG X.K cls W0 pT t) (tG X.K cls W0 (pV X.K) f) (own.map (·.2))) σ H Q := fun d u hu hd ev wk => by
          subst ev
          have hH := ea.fh _ _ hd
          refine ⟨d, u, hH, (by cases u <;> first | trivial | (cases hu)), fun od => ?_⟩
          have eaL := ea.lockV hu hd od
          have dF : upd F d (.frz od u) d = some (.frz od u) := upd_same
          have dL : upd H d (.frz od u) d = some (.frz od u) := upd_same
          have gL : Go cls (pN X.K) W σ (upd F d (.frz od u)) (upd H d (.frz od u)) (lcF p (own.map (·.2)) t f (fun _ => .ok ks) env) (fun v H' => H' d = some (.frz od u) ∧ Q v (upd H' d u)) := by
            show Go cls (pN X.K) W σ (upd F d (.frz od u)) (upd H d (.frz od u)) (lcL p (own.map (·.2)) t f ks env) _
            cases r : lcL p (own.map (·.2)) t f ks env with
            | ok T =>
              rw [r] at g0
              rintro v F' H' x ⟨a, xs, ev, n1, n2, n3, n4, n5⟩
              have hd' := x.h _ _ dL
              have fd' := x.f _ _ dF
              have nad : a ≠ d := fun e => by rw [e, dL] at n1; cases n1
              obtain ⟨_, sw⟩ := swap_of (K := X.K) (F := F') (u2 := u) hu fd' (.inr ⟨rfl, rfl⟩)
              refine ⟨hd', g0 v (upd F' d u) _ ⟨fun b o hb => ?_, fun b o hb => ?_, x.i.upd2, fun b o hb m hn => ?_⟩ ⟨a, xs, ev, by rw [upd_ne nad] at n1; exact n1, by rw [upd_ne nad]; exact n2, by rw [upd_ne nad]; exact n3, n4, sw n5⟩⟩
              · by_cases e : b = d
                · subst e; rw [upd_same]; rw [hd] at hb; exact hb
                · rw [upd_ne e]; exact x.f b o (by rw [upd_ne e]; exact hb)
              · by_cases e : b = d
                · subst e; rw [upd_same]; rw [hH] at hb; exact hb
                · rw [upd_ne e]; exact x.h b o (by rw [upd_ne e]; exact hb)
              · by_cases e : b = d
                · subst e; rw [hd]; exact fun z => by cases z
                · rw [upd_ne e] at hn
                  have := x.n b o (by rw [upd_ne e]; exact hb) m hn
                  rw [upd_ne e] at this
                  exact this
            | err c => rw [r] at g0; exact g0.elim
            | bad => rw [r] at g0; exact g0.elim
          obtain ⟨H0', F', env', ea', gg⟩ := lc_read (bb := true) (K := X.K) (fun i hi => by simpa using List.all_eq_true.mp hp i hi) (⟨H0, upd F d (.frz od u), env, eaL, gL⟩ : tG X.K cls W (pN X.K) (lcF p (own.map (·.2)) t f (fun _ => .ok ks)) σ (upd H d (.frz od u)) _)
          refine ⟨.ref d, getD_some h1, d, od, rfl, ?_⟩
          rcases wk od F' _ rfl dL ea'.fh with ⟨kvs, y1, y2⟩ | ⟨kvs, y1, y2⟩
          · exact .inl ⟨kvs, y1, gg (Itk d od kvs) F' _ (Ext.refl ea'.fh) y2⟩
          · exact .inr ⟨kvs, y1, gg (Itkx d od kvs) F' _ (Ext.refl ea'.fh) y2⟩
        -- as it is
        have free : ∀ (d : Addr) (od : Obj), v = .ref d → (∀ F' , Same F' H → ((∃ kvs, H d = some (.frz od (.dK kvs)) ∧ WalkD X.K true (Itk d od kvs) F' H ks) ∨ ∃ kvs, H d = some (.frz od (DtI d kvs)) ∧ WalkD X.K true (Itkx d od kvs) F' H ks)) →
            tLc (iKeysX (tVar i)) (gPat X.K p) (tG X.K cls W0 pT t) (tG X.K cls W0 (pV X.K) f) (own.map (·.2)) σ H Q := fun d od ev wk => by
          subst ev
          have gL : Go cls (pN X.K) W σ F H (lcF p (own.map (·.2)) t f (fun _ => .ok ks) env) Q := by
            show Go cls (pN X.K) W σ F H (lcL p (own.map (·.2)) t f ks env) _
            cases r : lcL p (own.map (·.2)) t f ks env with
            | ok T => rw [r] at g0; exact g0
            | err c => rw [r] at g0; exact g0.elim
            | bad => rw [r] at g0; exact g0.elim
          obtain ⟨H0', F', env', ea', gg⟩ := lc_read (bb := true) (K := X.K) (fun i hi => by simpa using List.all_eq_true.mp hp i hi) (⟨H0, F, env, ea, gL⟩ : tG X.K cls W (pN X.K) (lcF p (own.map (·.2)) t f (fun _ => .ok ks)) σ H _)
          refine ⟨.ref d, getD_some h1, d, od, rfl, ?_⟩
          rcases wk F' ea'.fh with ⟨kvs, y1, y2⟩ | ⟨kvs, y1, y2⟩
          · exact .inl ⟨kvs, y1, gg (Itk d od kvs) F' _ (Ext.refl ea'.fh) y2⟩
          · exact .inr ⟨kvs, y1, gg (Itkx d od kvs) F' _ (Ext.refl ea'.fh) y2⟩
        cases h2 with
        | @dicK d kvs vs rd l r =>
          rcases rd with rd | ⟨od, rd⟩
          · exact .inr (lock d _ rfl rd rfl fun od F' H' _ y1 _ => .inl ⟨kvs, y1, walk_dkx l y1⟩)
          · exact .inl (free d od rfl fun F' _ => .inl ⟨kvs, ea.fh _ _ rd, walk_dkx l (ea.fh _ _ rd)⟩)
        | @dicT d kvs vs rd kl l r =>
          rcases rd with rd | ⟨od, rd⟩
          · exact .inr (lock d _ rfl rd rfl fun od F' H' eH y1 y0 => .inr ⟨kvs, y1, walk_dtx (fun z hz => ⟨by
              obtain ⟨o, od0, hf⟩ := (kl z hz).1
              have hb := ea.fh _ _ hf
              refine ⟨o, od0, ?_⟩
              rw [eH, upd_ne (fun e => by rw [e, ea.fh _ _ rd] at hb; cases hb)]
              exact hb, (kl z hz).2⟩) l y1⟩)
          · exact .inl (free d od rfl fun F' _ => .inr ⟨kvs, ea.fh _ _ rd, walk_dtx (fun z hz => ⟨(kl z hz).1.mono ea.fh, (kl z hz).2⟩) l (ea.fh _ _ rd)⟩)
      | non => exact g.elim
      | bl _ => exact g.elim
      | int _ => exact g.elim
      | str _ => exact g.elim
      | tup _ => exact g.elim
      | itm _ => exact g.elim
      | lst _ => exact g.elim
      | scr _ => exact g.elim
      | raw _ => exact g.elim
end
end PD

set_option maxHeartbeats 4000000
namespace PD
open PySem PySem.Spec PyProof.Rows L2
/-! ### sets of tuples of ints, few different ones, from a list of any length -/
def FewT (ks : List (Addr × List Int)) : Prop := ∀ L : List (Addr × List Int), (L.map (·.2)).Nodup → (∀ p ∈ L, p ∈ ks) → L.length + 1 < 64
section
variable {P : Program} {w : World} {A : Around} {E : Value → Shared → Prop} {s : Shared}
/-- the loop over a list with few different keys -/
theorem set_update_few {I : Addr} {fp wr : List Addr} {G : Array GenState → Array GenState → Prop} {n : Nat} {Pv : Nat → Value → Prop} {St : Nat → Shared → Prop} {R : Result → Shared → Prop}
    (W : WalksS P w A.in1 I fp wr G n Pv St) (S : Addr) (hSf : S ∉ fp) (ks : List (Addr × List Int)) (hn : n = ks.length) (hfew : FewT ks) (hval : ∀ i v, Pv i v → ∃ p, ks[i]? = some p ∧ v = .ref p.1)
    (h0 : Heap) (hk : ∀ p ∈ ks, IsT P w h0 p.2 p.1) (hS0 : h0.get? S = none) (hw0 : ∀ b ∈ wr, h0.get? b = none) (hu : A.in1.units < cLine) :
    ∀ (k i : Nat) (s : Shared), n - i = k → i ≤ n → St i s → (∀ b o, h0.get? b = some o → s.heap.get? b = some o) → (∃ L es ep t, SetTR P w s.heap S L es ep t ∧ Got ks i L) →
      (∀ s' L es ep t, Moved (S :: wr) G s s' → SetTR P w s'.heap S L es ep t → Got ks n L → (∀ b o, h0.get? b = some o → s'.heap.get? b = some o) → R (.ok (.ret .none)) s') →
      codeAny (model P w) A (.builtin "set.update.loop" ⟨[.ref S, .ref I], []⟩) R s := by
  have hSw : S ∉ wr := fun h => hSf (W.sub _ h)
  have hsub : ∀ b ∈ wr, b ∈ S :: wr := fun b hb => List.mem_cons_of_mem _ hb
  have keepM : ∀ {s s' : Shared}, Moved wr G s s' → (∀ b o, h0.get? b = some o → s.heap.get? b = some o) → ∀ b o, h0.get? b = some o → s'.heap.get? b = some o := fun hm hkp b o e =>
    hm.heap b o (fun hb => by rw [hw0 b hb] at e; cases e) (hkp b o e)
  intro k
  induction k with
  | zero =>
    intro i s hk' hi hst hkp ⟨L, es, ep, t, hS, g⟩ hR
    have hin : i = n := by omega
    subst hin
    refine codeAny_builtin F.entry_set_update_loop ?_
    rw [Around.under_plainId F.plain_set_update_loop _]
    show wpAny _ A.in1 (pyNext (.ref I) >>= _) _ _ s
    refine wpAny_bind (W.done s _ _ hst fun s' hm => ?_)
    show wpAny _ A.in1 (ret Value.none) _ _ s'
    have hkp' := keepM hm hkp
    have sub : ∀ p ∈ L, p ∈ ks := fun p hp => List.mem_of_mem_take (g.sub p hp)
    exact wpAny_pure (hR s' L es ep t (hm.mono hsub) (hS.keep (fun o e => hm.heap S o hSw e) fun p hp => isT_keep (hk p (sub p hp)) hkp') g hkp')
  | succ k ih =>
    intro i s hk' hi hst hkp ⟨L, es, ep, t, hS, g⟩ hR
    have hlt : i < n := by omega
    refine codeAny_builtin F.entry_set_update_loop ?_
    rw [Around.under_plainId F.plain_set_update_loop _]
    show wpAny _ A.in1 (pyNext (.ref I) >>= _) _ _ s
    refine wpAny_bind (W.item i s _ _ hlt hst fun v s' hP hst' hm => ?_)
    obtain ⟨p, hp, rfl⟩ := hval i v hP
    have hkp' := keepM hm hkp
    have sub : ∀ p ∈ L, p ∈ ks := fun p hp => List.mem_of_mem_take (g.sub p hp)
    have hS' : SetTR P w s'.heap S L es ep t := hS.keep (fun o e => hm.heap S o hSw e) fun q hq => isT_keep (hk q (sub q hq)) hkp'
    have hx : IsT P w s'.heap p.2 p.1 := isT_keep (hk p (List.mem_of_getElem? hp)) hkp'
    show wpAny _ A.in1 (holding [Value.ref p.1] (setAdd S (.ref p.1)) >>= _) _ _ s'
    refine wpAny_bind (wpAny_holding ?_)
    unfold setAdd
    refine wpAny_holding ?_
    refine wpAny_bind (wpAny_pyHash_tuple hu hx ?_)
    refine add_at (s := { s' with toks := s'.toks + (p.2.length + 1) }) hS' hx hu (hfew L hS'.nd sub) fun b h' L' es' ep' t' hsb hS2 c1 c2 => ?_
    have g' : Got ks (i + 1) L' := by
      rcases Classical.em (p.2 ∈ L.map (·.2)) with c | c
      · rw [c1 c]; exact g.same hp c
      · exact g.more hp (c2 c)
    have hkp2 : ∀ b o, h0.get? b = some o → h'.get? b = some o := fun b o e => (hsb.2 b (fun z => by rw [z, hS0] at e; cases e)).trans (hkp' b o e)
    refine wpAny_pure ⟨plainId_quiet F.plain_set_update_loop _, ih (i + 1) _ (by omega) hlt (W.frame _ s' _ _ hst' (Nat.le_add_right _ _) fun b hb o e => ?_) hkp2 ⟨L', es', ep', t', hS2, g'⟩ fun s'' L2 es2 ep2 t2 hm'' hS'' g'' hkp'' => ?_⟩
    · rw [hsb.2 b (fun h : b = S => hSf (by rw [← h]; exact hb))]; exact e
    · refine hR s'' L2 es2 ep2 t2 (Moved.trans W.gtrans ((hm.mono hsub).then_heap (Nat.le_add_right _ _) fun b o hb e => ?_) hm'') hS'' g'' hkp''
      rw [hsb.2 b (fun h : b = S => hb (by rw [h]; exact List.mem_cons_self))]; exact e

set_option maxRecDepth 100000 in
set_option maxHeartbeats 3200000 in
/-- set(xs), few different ones -/
theorem call_set_few {l : Addr} {items : Array Value} (ks : List (Addr × List Int)) {Q : Value → Shared → Prop} (hh : A.handled = none) (hl : s.heap.IsList l items) (hit : items.toList = ks.map fun p => Value.ref p.1)
    (hk : ∀ p ∈ ks, IsT P w s.heap p.2 p.1) (hfew : FewT ks) (hu : A.units + 3 < cLine)
    (h : ∀ (h' : Heap) (tk : Nat) L es ep t, SetTR P w h' s.heap.objs.size L es ep t → Got ks ks.length L → (∀ b o, s.heap.get? b = some o → h'.get? b = some o) → Q (.ref s.heap.objs.size) { s with heap := h', toks := tk }) :
    wpAny (model P w) A (call (.type "set") [.ref l]) Q E s := by
  have hisz : items.size = ks.length := by
    have q := congrArg List.length hit
    rw [Array.length_toList, List.length_map] at q
    exact q
  obtain ⟨c, tl, hmro⟩ := F.called_set.mro
  have hmade := F.called_set.made
  have hsub := F.called_set.sub
  refine wpAny_call (codeAny_of_tree ?_)
  show wpAny _ _ (callAny (.type "set") _) _ _ _
  refine wpAny_pure ⟨Code.quiet_builtin _ (by decide +kernel), codeAny_builtin F.entry_type_call ?_⟩
  rw [Around.under_plain (weight_type_call_type "set" [.ref l] []) rfl]
  have h1 := F.called_set.notType
  have h2 := F.called_set.canCreate
  have hct := F.typeCall_set_1 (.ref l)
  repeat (any_goals (first | assumption | wp_step))

  refine codeAny_mono (code_set_led1 (.ref l) (E := E) (Q₁ := fun obj s₁ => obj = .ref s.heap.objs.size ∧ s₁ = { s with heap := s.heap.push { cls := .type "set", dict := none, data := .set #[] 0 (.fresh 0 0 (!w.params.followText "set-order")) } }) ⟨rfl, rfl⟩) fun r s₁ hr => ?_
  cases r with
  | error e => exact hr
  | ok fl =>
    cases fl with
    | ret obj =>
      obtain ⟨rfl, rfl⟩ := hr
      have hS : (s.heap.push { cls := .type "set", dict := none, data := .set #[] 0 (.fresh 0 0 (!w.params.followText "set-order")) }).get? s.heap.objs.size = some { cls := .type "set", dict := none, data := .set #[] 0 (.fresh 0 0 (!w.params.followText "set-order")) } := Heap.get?_push_size _ rfl
      have hT : Shared.TypeIs { s with heap := s.heap.push { cls := .type "set", dict := none, data := .set #[] 0 (.fresh 0 0 (!w.params.followText "set-order")) } } (.ref s.heap.objs.size) "set" := ⟨_, hS, rfl⟩
      have hli := F.called_set.init.lookup
      have hbi := F.called_set.init.bind (.ref s.heap.objs.size)
      repeat (any_goals (first | assumption | wp_step))

      refine codeAny_mono (codeAny_call_builtin (R := wants (fun r s₂ => r = .none ∧ ∃ h' tk L es ep t, s₂ = { s with heap := h', toks := tk } ∧ SetTR P w h' s.heap.objs.size L es ep t ∧ Got ks ks.length L ∧
          (∀ b o, s.heap.get? b = some o → h'.get? b = some o)) E) F.called_set.init.plain F.entry_set_init (check_set_init_1 hT ?_)) fun r₂ s₂ hr₂ => ?_
      · obtain ⟨ol, hol, hcl, nl, hdl⟩ := hl
        obtain ⟨ocls, odict, odata, oslots⟩ := ol
        simp only at hcl hdl
        subst hcl; subst hdl
        have hol' : (s.heap.push { cls := .type "set", dict := none, data := .set #[] 0 (.fresh 0 0 (!w.params.followText "set-order")) }).get? l = some { cls := .type "list", dict := odict, data := .seq items nl, slots := oslots } := Heap.get?_push_of_some _ hol
        have hsls := F.sub_list_set
        have hslf := F.sub_list_frozenset
        have hne : (Value.type "list" == Value.type "dict") = false := by decide
        have hl1 : (s.heap.push { cls := .type "set", dict := none, data := .set #[] 0 (.fresh 0 0 (!w.params.followText "set-order")) }).IsList l items := ⟨_, hol', rfl, nl, rfl⟩
        unfold Builtin.«set.__init__» noKeywords Builtin.Frozenset.updateFrom
        generalize hPI : pyIter = PI
        wp_walk
        subst hPI

        refine wpAny_pyIter_list hl1 ?_
        refine wpAny_bind (wpAny_runValue ?_)
        have hlS : l < s.heap.objs.size := Heap.lt_size hol
        have hh3 : A.in1.in1.in1.handled = none := by simp [hh]
        have hz1 : (s.heap.push { cls := .type "set", dict := none, data := .set #[] 0 (.fresh 0 0 (!w.params.followText "set-order")) }).objs.size = s.heap.objs.size + 1 := Heap.size_push ..
        have hneI : l ≠ (s.heap.push { cls := .type "set", dict := none, data := .set #[] 0 (.fresh 0 0 (!w.params.followText "set-order")) }).objs.size := by
          rw [Heap.size_push]; exact Nat.ne_of_lt (Nat.lt_succ_of_lt hlS)
        have hSf : s.heap.objs.size ∉ [(s.heap.push { cls := .type "set", dict := none, data := .set #[] 0 (.fresh 0 0 (!w.params.followText "set-order")) }).objs.size, l] := by
          rw [Heap.size_push]; simp only [List.mem_cons, List.mem_singleton, List.not_mem_nil, or_false, not_or]
          exact ⟨Nat.ne_of_lt (Nat.lt_succ_self _), Nat.ne_of_gt hlS⟩
        have hval : ∀ (i : Nat) (v : Value), items[i]? = some v → ∃ p, ks[i]? = some p ∧ v = .ref p.1 := fun i v hv => by
          have q : items.toList[i]? = some v := by rw [Array.getElem?_toList]; exact hv
          rw [hit, List.getElem?_map] at q
          cases hq : ks[i]? with
          | none => rw [hq] at q; cases q
          | some p =>
            rw [hq] at q
            exact ⟨p, rfl, (Option.some.inj q).symm⟩
        have none_of : ∀ b, s.heap.objs.size ≤ b → s.heap.get? b = none := fun b hb => by
          cases q : s.heap.get? b with
          | none => rfl
          | some o => exact absurd (Nat.lt_of_lt_of_le (Heap.lt_size q) hb) (Nat.lt_irrefl _)
        refine set_update_few ((Walks.list hh3 _ l hneI items).toS) s.heap.objs.size
          hSf ks hisz hfew hval s.heap hk (none_of _ (Nat.le_refl _)) (fun b hb => none_of b (by
            rw [List.mem_singleton.mp hb, Heap.size_push]
            exact Nat.le_succ _)) hu (items.size - 0) 0 _ (by omega) (Nat.zero_le _)
          ⟨⟨_, Heap.get?_push_size _ rfl, rfl, rfl⟩, (hl1.push _)⟩ (fun b o e => Heap.get?_push_of_some _ (Heap.get?_push_of_some _ e)) ?hS0 ?hR
        case hS0 =>
          have hget : ((s.heap.push { cls := .type "set", dict := none, data := .set #[] 0 (.fresh 0 0 (!w.params.followText "set-order")) }).push { cls := .type "list_iterator", data := .fields #[.ref l, .int 0 0] }).get? s.heap.objs.size
              = some { cls := .type "set", dict := none, data := .set #[] 0 (.fresh 0 0 (!w.params.followText "set-order")) } := Heap.get?_push_of_some _ hS
          exact ⟨[], #[], 0, _, setTR_fresh hget, Got.zero ks⟩
        case hR =>
          intro s' L es ep t hm hS' g' hkp
          obtain ⟨h', g2, d', tk', os'⟩ := s'
          have eg : g2 = s.gens := hm.gens
          have ed : d' = s.drawn := hm.drawn
          have eo : os' = s.os := hm.os
          subst eg; subst ed; subst eo
          show wpAny _ _ _ _ _ _
          refine wpAny_pure ?_
          show wpAny _ _ (ret Value.none) _ _ _
          rw [hisz] at g'
          exact wpAny_pure ⟨rfl, h', tk', L, es, ep, t, rfl, hS', g', hkp⟩

      · cases r₂ with
        | error e => exact hr₂
        | ok fl₂ =>
          cases fl₂ with
          | ret r =>
            obtain ⟨rfl, h', tk, L, es, ep, t, rfl, hS', g', hk'⟩ := hr₂
            repeat (any_goals (first | assumption | wp_step))
            exact h _ _ _ _ _ _ hS' g' hk'
          | _ => exact hr₂.elim
    | _ => exact hr.elim

end
end PD

set_option maxHeartbeats 4000000
namespace PD
open PySem PySem.Spec PyProof.Rows L2
open PySem.W (EachIs AllAlike Sortable dataKind sortingHeap dataLe alike TotalLe sameRank sort_unique)
/-! ### set(xs) -/
theorem nodT_le {α : Type} [DecidableEq α] : ∀ {l m : List α}, l.Nodup → (∀ x ∈ l, x ∈ m) → l.length ≤ m.length
  | [], m, _, _ => by simp
  | a :: l, m, nd, h => by
    obtain ⟨n1, n2⟩ := List.nodup_cons.mp nd
    have hm := h a (by simp)
    have := nodT_le (m := m.erase a) n2 fun x hx => (List.mem_erase_of_ne (fun e => n1 (by rw [← e]; exact hx))).mpr (h x (by simp [hx]))
    rw [List.length_erase_of_mem hm] at this
    have := List.length_pos_of_mem hm
    simp
    omega
def ddL : List (List Int) → List (List Int)
  | [] => []
  | x :: xs => if x ∈ xs then ddL xs else x :: ddL xs
theorem ddL_mem {z : List Int} : ∀ {l : List (List Int)}, z ∈ ddL l ↔ z ∈ l
  | [] => by simp [ddL]
  | x :: xs => by
    unfold ddL
    split
    · rename_i h
      rw [ddL_mem (l := xs), List.mem_cons]
      exact ⟨.inr, fun q => q.elim (fun e => by rw [e]; exact h) id⟩
    · rw [List.mem_cons, List.mem_cons, ddL_mem (l := xs)]
theorem ddL_nd : ∀ l : List (List Int), (ddL l).Nodup
  | [] => by simp [ddL]
  | x :: xs => by
    unfold ddL
    split
    · exact ddL_nd xs
    · rename_i h
      exact List.nodup_cons.mpr ⟨fun q => h (ddL_mem.mp q), ddL_nd xs⟩
theorem few_of {ks : List (Addr × List Int)} (h : (ddL (ks.map (·.2))).length + 1 < 64) : FewT ks := fun L nd hs => by
  have := nodT_le (m := ddL (ks.map (·.2))) nd fun x hx => by
    obtain ⟨p, hp, rfl⟩ := List.mem_map.mp hx
    exact ddL_mem.mpr (List.mem_map.mpr ⟨p, hs p hp, rfl⟩)
  rw [List.length_map] at this
  omega
section
variable {X : Cx}
def rSetFew (K : PySem.W.Frag) (P : Program) (w : World) : List V → Hp → VK → Prop := fun xs H Q => ∃ (l : Addr) (ks : List (Addr × List Int)), xs = [V.ref l] ∧ SqL K H l (ks.map fun p => V.ref p.1) ∧ (∀ p ∈ ks, SqT K H p.1 (p.2.map V.int)) ∧ FewT ks ∧
  ∀ a L, H a = none → (∀ p ∈ L, p ∈ ks) → (∀ p ∈ ks, p.2 ∈ L.map (·.2)) → (L.map (·.2)).Nodup → L.length < 64 → Q (.ref a) (upd H a (SetTO P w a L))
theorem cr_setFew (hc : X.calm = true) (hu : X.A.units + 64 < cLine) : CallR X (.type "set") (rSetFew X.K X.prog X.w) := by
  intro pins s σ H xs us Q I r h
  obtain ⟨l, ks, rfl, hl, hk, hf, q⟩ := h
  rw [Vals.ref1 r]
  obtain ⟨its, rv, pl, hz⟩ := I.list hl
  have hn : H s.heap.objs.size = none := I.hok.fresh (Nat.le_refl _)
  refine call_set_few (P := X.prog) (w := X.w) ks (I.ok.hd hc) pl.isList (by simpa using refs_of_vals rv) (fun p hp => I.isT (hk p hp)) hf (by omega) fun h' tk L es ep t R g k => ?_
  refine ⟨.ref s.heap.objs.size, upd H s.heap.objs.size (SetTO X.prog X.w s.heap.objs.size L), I.laid (t' := tk) k (Nat.le_refl _) (setTO_new R.t0), rfl, q _ L hn (fun p hp => ?_) (fun p hp => ?_) R.nd R.few⟩
  · exact List.mem_of_mem_take (g.sub p hp)
  · exact g.all p (by rw [List.take_length]; exact hp)
end
/-! ### sorted of it -/
theorem sorted_genS {prog : Program} {w : World} {A : Around} {E : Value → Shared → Prop} {s : Shared} {l : Addr} {Q : Value → Shared → Prop} {OK : List D → Prop} {R : Value → D → Prop} (P : ∀ bs, OK bs → SrtP bs ∧ bs.length ≤ sizeLine) (hu : A.units + 8 < cLine)
    (hcol : ∀ (Q' : List Value → Shared → Prop) (E' : Value → Shared → Prop), (∀ vs s1 bs, (∀ b o, s.heap.get? b = some o → s1.heap.get? b = some o) → s.heap.objs.size ≤ s1.heap.objs.size → s1.gens = s.gens → s1.os = s.os → OK bs → EachIs R vs bs → EachIs (fun v b => ∃ as, Reads s1.heap v b.toPy as) vs bs → Q' vs s1) →
      wpAny (model prog w) A.in1 (collect (.ref l)) Q' E' s)
    (h : ∀ (bs : List D) (out : List Value) (s1 : Shared) (h' : Heap) (d : Addr) (n : Nat), OK bs → out.length = bs.length → EachIs R out (isort leD bs) → (∀ b o, s.heap.get? b = some o → s1.heap.get? b = some o) → s.heap.objs.size ≤ s1.heap.objs.size → s1.gens = s.gens → s1.os = s.os → (∀ b o, s1.heap.get? b = some o → h'.get? b = some o) → s1.heap.objs.size ≤ d → h'.get? d = some (seqObj "list" (List.toArray out) n) → Q (.ref d) { s1 with heap := h' }) :
    wpAny (model prog w) A (call (.builtin "sorted") [.ref l]) Q E s := by
  refine Calls.call_function_entry kind_sorted plain_sorted entry_sorted (args_sorted1 _) ?_
  unfold Builtin.«sorted»
  refine wpAny_bind (m := checkCount "sorted" 1 1 _) (wpAny_pure ?_)
  refine wpAny_bind (hcol _ _ fun vs s1 bs k1 hsz1 g1 o1 ok e er => ?_)
  obtain ⟨P, hL⟩ := P bs ok
  have hvl : vs.length ≤ sizeLine := by rw [e.length]; exact hL
  refine wpAny_bind (wpAny_newList ?_ hvl)
  have hoL : (s1.heap.push (seqObj "list" vs.toArray 0)).get? s1.heap.objs.size = some (seqObj "list" vs.toArray 0) := Heap.get?_push_size _ rfl
  show wpAny _ _ _ _ _ { s1 with heap := s1.heap.push (seqObj "list" vs.toArray 0) }
  have er' : EachIs (fun v b => ∃ as, Reads (sortingHeap (s1.heap.push (seqObj "list" vs.toArray 0)) s1.heap.objs.size vs) v b.toPy as) vs bs := er.mono fun v d ⟨as, r⟩ => ⟨as, PyProof.Rows.Reads.keeps (fun b o q => PySem.W.sortingHeap_old (Nat.ne_of_lt (Heap.lt_size q)) (Heap.get?_push_of_some _ q)) r⟩
  refine wpAny_bind (wpAny_holding (wpAny_call_entry slot_list_sort ⟨_, hoL, rfl⟩ entry_list_sort
    (PySem.W.list_sort_vals (κ := dataKind (sortingHeap (s1.heap.push (seqObj "list" vs.toArray 0)) s1.heap.objs.size vs) (bs.map D.toPy)) hoL
      (PySem.W.SortsAt.data (s := { s1 with heap := sortingHeap (s1.heap.push (seqObj "list" vs.toArray 0)) s1.heap.objs.size vs }) (PySem.W.each_map (R := fun v d => ∃ as, Reads (sortingHeap (s1.heap.push (seqObj "list" vs.toArray 0)) s1.heap.objs.size vs) v d as) D.toPy er') P.al P.so (fun d hd => by
        obtain ⟨b, hb, rfl⟩ := List.mem_map.mp hd
        have := P.dp b hb
        show A.units + 1 + 1 + b.toPy.depth < cLine
        omega)) hvl ⟨_, rfl, ?_⟩) (args_list_sort _)))
  obtain ⟨n, hn⟩ := PyProof.Rows.sortedHeap_at (vs := vs) (out := List.toArray (PySem.W.sortVals (dataKind (sortingHeap (s1.heap.push (seqObj "list" vs.toArray 0)) s1.heap.objs.size vs) (bs.map D.toPy)) false vs vs)) hoL
  refine wpAny_pure ⟨_, rfl, h bs _ s1 _ s1.heap.objs.size n ok (by rw [PySem.W.sortVals_length false rfl]; exact e.length) ?_ k1 hsz1 g1 o1 (fun b o q1 => ?_) (Nat.le_refl _) hn⟩
  · rw [isort_eq leD_total]
    exact PySem.W.sortVals_data false e er' P.al
  · have hb : b < s1.heap.objs.size := Heap.lt_size q1
    rw [PyProof.Rows.sortedHeap_old (Nat.ne_of_lt hb) (by rw [size_push']; exact Nat.lt_succ_of_lt hb)]
    exact Heap.get?_push_of_some _ q1
theorem perm_map_inv {α β : Type} {f : α → β} {l l' : List β} (h : l.Perm l') : ∀ m : List α, l' = m.map f → ∃ m' : List α, m'.Perm m ∧ l = m'.map f := by
  induction h with
  | nil => intro m e; cases m with
    | nil => exact ⟨[], .refl _, rfl⟩
    | cons _ _ => cases e
  | cons x h ih =>
    intro m e
    cases m with
    | nil => cases e
    | cons y m =>
      rw [List.map_cons, List.cons.injEq] at e
      obtain ⟨m', p, q⟩ := ih m e.2
      exact ⟨y :: m', p.cons y, by rw [List.map_cons, ← q, e.1]⟩
  | swap x y l =>
    intro m e
    match m, e with
    | a :: b :: m, e =>
      simp only [List.map_cons, List.cons.injEq] at e
      exact ⟨b :: a :: m, .swap a b m, by simp [e.1, e.2.1, e.2.2]⟩
  | trans h1 h2 ih1 ih2 =>
    intro m e
    obtain ⟨m1, p1, q1⟩ := ih2 m e
    obtain ⟨m2, p2, q2⟩ := ih1 m1 q1
    exact ⟨m2, p2.trans p1, q2⟩
def rSortT (K : PySem.W.Frag) (P : Program) (w : World) : List V → Hp → VK → Prop := fun vs H Q => ∃ (F : Hp) (a : Addr) (L : List (Addr × List Int)), Same F H ∧ vs = [V.ref a] ∧ H a = some (SetTO P w a L) ∧ (∀ p ∈ L, TupAt F p.1 (p.2.map V.int) ∧ p.2 ≠ [] ∧ p.2.length ≤ sizeLine) ∧
  ∀ (L' : List (Addr × List Int)) ys p, L'.Perm L → L.length < 64 → Reps K F ys (isort leD (L'.map fun q => kT q.2)) → ys.length ≤ sizeLine → H p = none → Q (.ref p) (upd H p (.lst ys))
theorem isT1_kT {ns : List Int} (h : ns ≠ []) : isT1 (kT ns) = true := by
  cases ns with
  | nil => exact absurd rfl h
  | cons n ns =>
    show (ns.map D.int).all isI = true
    rw [List.all_map, List.all_eq_true]
    intro x _; rfl
theorem cr_sortT {X : Cx} (hc : X.calm = true) (hu : X.A.units + 8 < cLine) : CallR X (.builtin "sorted") (rSortT X.K X.prog X.w) := by
  intro pins s σ H vs us Q I r h
  obtain ⟨F, a, L, i, rfl, ha, hk, q⟩ := h
  have R0 : SetT0 X.prog X.w s.heap a L := (I.hok a _ ha).1
  obtain ⟨es, ep, t, R⟩ := R0.full fun p hp => I.isT (i.tupS (hk p hp).1.sq)
  rw [Vals.ref1 r]
  have hfew := R.few
  have hsz := R.size
  obtain ⟨o, ho, hex, hd⟩ := R.ob
  have hes : es.toList.map (·.2) = L.map fun q => Value.ref q.1 := by
    rw [R.rows]
    unfold rowsOf
    rw [List.map_map] <;> rfl
  refine sorted_genS (R := RvD X.K F) (OK := fun bs => ∃ L' : List (Addr × List Int), L'.Perm L ∧ bs = L'.map fun q => kT q.2) (fun bs ⟨L', pm, e⟩ => ?_) hu (fun Q' E' k => ?_) fun bs out s1 h' d n ⟨L', pm, eb⟩ hl e k1 hs1 g1 o1 k2 hdz hn => ?_
  · refine ⟨srt_ok (srtOk_t1 fun d hd => ?_), ?_⟩
    · rw [e] at hd
      obtain ⟨q, hq, rfl⟩ := List.mem_map.mp hd
      exact isT1_kT (hk q (pm.mem_iff.mp hq)).2.1
    · rw [e, List.length_map, pm.length_eq, sizeLine_eq]; omega
  · refine collect_set (A := X.A.in1) (I.ok.hd hc) ⟨o, ho, hex.1, hd⟩ R.fits (by unfold scanBound; omega) R.tab.ris R.led fun s1 vs k1 hz g1 o1 pm => ?_
    rw [hes] at pm
    obtain ⟨L', pl, ev⟩ := perm_map_inv pm L rfl
    have e : EachIs (RvD X.K F) vs (L'.map fun q => kT q.2) := by
      rw [ev]
      have : ∀ q ∈ L', q ∈ L := fun q hq => pl.mem_iff.mp hq
      clear ev pl pm
      induction L' with
      | nil => exact .nil
      | cons q L' ih =>
        have z := hk q (this q (by simp))
        exact .cons ⟨.ref q.1, rfl, .tup z.1 (by rw [List.length_map]; exact z.2.2) Reps.ints⟩ (ih fun y hy => this y (by simp [hy]))
    have P : SrtP (L'.map fun q => kT q.2) := srt_ok (srtOk_t1 fun d hd => by
      obtain ⟨q, hq, rfl⟩ := List.mem_map.mp hd
      exact isT1_kT (hk q (pl.mem_iff.mp hq)).2.1)
    exact k vs s1 _ k1 hz g1 o1 ⟨L', pl, rfl⟩ e ((each_reads I i e P.ly).mono fun v d ⟨as, r⟩ => ⟨as, PyProof.Rows.Reads.keeps k1 r⟩)
  · obtain ⟨ys, y1, y2⟩ := rv_each e
    have hyl : ys.length ≤ sizeLine := by rw [y1.length, hl, eb, List.length_map, pm.length_eq, sizeLine_eq]; omega
    have hdn : H d = none := I.hok.fresh (Nat.le_trans hs1 hdz)
    rw [eb] at y2
    have kk : ∀ b o, s.heap.get? b = some o → h'.get? b = some o := fun b o e => k2 b o (k1 b o e)
    have J : Inv X pins σ (upd H d (.lst ys)) { s with heap := h', gens := s1.gens, drawn := s1.drawn, toks := s1.toks } :=
      I.call (ch := []) (Un.laid kk (Nat.le_trans hs1 hdz) hdn) (I.hok.laid kk (Nat.le_trans hs1 hdz) ⟨hyl, out, n, y1, hn⟩) (by rw [g1]; exact I.bare) (fun _ z => nomatch z)
    have es1 : ({ s1 with heap := h' } : Shared) = { s with heap := h', gens := s1.gens, drawn := s1.drawn, toks := s1.toks } := by
      cases s1
      cases s
      cases o1
      rfl
    rw [es1]
    exact ⟨.ref d, _, J, rfl, q L' ys d pm hfew y2 hyl hdn⟩

/-! ### sorted(set(xs)), xs tuples of ints -/
def tupsI : List D → Option (List (List Int))
  | [] => some []
  | .tup (.int n :: r) :: ds => match asInts r, tupsI ds with
    | some ns, some ks => some ((n :: ns) :: ks)
    | _, _ => none
  | _ => none
theorem tupsI_eq : ∀ {ds : List D} {ks : List (List Int)}, tupsI ds = some ks → ds = ks.map kT ∧ ∀ k ∈ ks, k ≠ []
  | [], ks, h => by cases h; exact ⟨rfl, by simp⟩
  | d :: ds, ks, h => by
    unfold tupsI at h
    split at h
    · rename_i q; cases q
    · rename_i n r ds' q
      cases q
      split at h
      · rename_i ns ms h1 h2
        cases h
        obtain ⟨e1, e2⟩ := tupsI_eq h2
        refine ⟨by rw [List.map_cons, ← e1, asInts_eq h1]; rfl, fun k hk => ?_⟩
        rcases List.mem_cons.mp hk with e | hk
        · rw [e]; simp
        · exact e2 k hk
      · cases h
    · cases h
def sdT : List D → Option (List D)
  | [.lst ds] => match tupsI ds with
    | some ks => if (ddL ks).length + 1 < 64 then some (isort leD ((ddL ks).map kT)) else none
    | none => none
  | _ => none
theorem leD_kT (a b : List Int) : leD (kT a) (kT b) = !decide (b < a) := by
  rw [leD_eq]
  have e : ∀ x : List Int, (kT x).toPy = .tuple (x.map PyData.int) := fun x => by
    show PyData.tuple (toPys (x.map D.int)) = _
    rw [toPys_ints]
  rw [e, e, PySem.W.dataLt_tuple]
  congr 1
  exact PySem.W.dataLt_ints b a
theorem kT_anti {a b : List Int} (h1 : leD (kT a) (kT b) = true) (h2 : leD (kT b) (kT a) = true) : kT a = kT b := by
  rw [leD_kT] at h1 h2
  have h1 : ¬ b < a := by simpa using h1
  have h2 : ¬ a < b := by simpa using h2
  have : a = b := List.le_antisymm h1 h2
  rw [this]
theorem isort_same {l m : List (List Int)} (h : l.Perm m) : isort leD (l.map kT) = isort leD (m.map kT) :=
  isort_uniq ((h.map kT).trans (isort_perm _).symm) (isort_sorted leD_total _) fun a ha b hb h1 h2 => by
    obtain ⟨x, _, rfl⟩ := List.mem_map.mp ((isort_perm _).mem_iff.mp ha)
    obtain ⟨y, _, rfl⟩ := List.mem_map.mp ((isort_perm _).mem_iff.mp hb)
    exact kT_anti h1 h2
/-- the tuples with their places -/
theorem places_of {K : PySem.W.Frag} {F : Hp} : ∀ {ks : List (List Int)} {vs : List V}, Reps K F vs (ks.map kT) → ∃ ps : List (Addr × List Int), vs = ps.map (fun p => V.ref p.1) ∧ ps.map (·.2) = ks ∧ ∀ p ∈ ps, TupAt F p.1 (p.2.map V.int) ∧ p.2.length ≤ sizeLine
  | [], _, h => by cases h; exact ⟨[], rfl, rfl, by simp⟩
  | k :: ks, _, h => by
    cases h with
    | cons a b =>
      obtain ⟨ps, e1, e2, e3⟩ := places_of b
      cases a with
      | @tup c zs _ g1 g2 g3 =>
        have e4 : zs = k.map V.int := g3.of_ints
        subst e4
        refine ⟨(c, k) :: ps, by rw [e1]; rfl, by rw [List.map_cons, e2], fun p hp => ?_⟩
        rcases List.mem_cons.mp hp with e | hp
        · subst e; exact ⟨g1, by simpa using g2⟩
        · exact e3 p hp
section
variable {X : Cx} {cls : Exc → Addr} {W : WX} {a : Expr} {fs : EnvD → R (List D)} {p p2 pos pos2 : Pos}
theorem pd_sortSetT (hc : X.calm = true) (hu : X.A.units + 64 < cLine) (hg : Gl X "sorted") (hm : X.mg "sorted" = none) (hg2 : Gl X "set") (hm2 : X.mg "set" = none) (ha : PDA X cls W (pB' X.K) [a] fs)
    (na : starEach [a] X.env = (false, eval a X.env) :: starEach [] X.env := by rfl) (na2 : starEach [.Call (.Name "set" p2) [a] [] pos2] X.env = (false, eval (.Call (.Name "set" p2) [a] [] pos2) X.env) :: starEach [] X.env := by rfl)
    (hpl : (backTo pos2 (starEach [] X.env)).any (·.1) = false := by rfl) (hpl2 : (backTo pos (starEach [] X.env)).any (·.1) = false := by rfl) :
    PDE X cls W (pN X.K) (.Call (.Name "sorted" p) [.Call (.Name "set" p2) [a] [] pos2] [] pos) (appL sdT fs) :=
  pe_imp (pe_callB (cr_sortT hc (by omega)) hg hm boot_sorted (pa_cons (pe_callTy (cr_setFew hc hu) hg2 hm2 boot_set ha (by decide) (by decide) na hpl) pa_nil na2) (by decide) (by decide) na2 hpl2) fun σ H Q ⟨H0, F, env, ea, g⟩ =>
    ⟨H0, F, env, ea, (Go.bind g).imp fun xs H1 ⟨F1, ds, _, e1, p1, g1⟩ => by
      obtain ⟨z, hz, g2⟩ := Go.ofO g1
      unfold sdT at hz
      split at hz
      · rename_i es
        split at hz
        · rename_i ks hks
          split at hz
          · rename_i h64
            cases hz
            obtain ⟨ek, ne⟩ := tupsI_eq hks
            obtain ⟨v, rfl, r⟩ := repBs1 p1
            obtain ⟨l, ys, rfl, h1, h2, h3⟩ := repB_lst e1.i r
            rw [ek] at h3
            obtain ⟨ps, q1, q2, q3⟩ := places_of h3
            rw [q1] at h1
            refine ⟨l, ps, rfl, SqL.of h1, fun p hp => e1.i.tupS (q3 p hp).1.sq, few_of (by rw [q2]; exact h64), fun q L hq hsub hall hnd hlen => ?_⟩
            have x1 : Ext F1 H1 F1 (upd H1 q (SetTO X.prog X.w q L)) := Ext.newH e1.i hq
            have pL : (L.map (·.2)).Perm (ddL ks) := (List.perm_ext_iff_of_nodup hnd (ddL_nd ks)).mpr fun z => by
              rw [ddL_mem, ← q2]
              constructor
              · intro hz
                obtain ⟨p, hp, rfl⟩ := List.mem_map.mp hz
                exact List.mem_map.mpr ⟨p, hsub p hp, rfl⟩
              · intro hz
                obtain ⟨p, hp, rfl⟩ := List.mem_map.mp hz
                exact hall p hp
            refine ⟨F1, q, L, x1.i, rfl, upd_same, fun p hp => ⟨(q3 p (hsub p hp)).1, ne _ (by rw [← q2]; exact List.mem_map.mpr ⟨p, hsub p hp, rfl⟩), (q3 p (hsub p hp)).2⟩, fun L' us q' pm _ ru hul hq' => ?_⟩
            have x2 := x1.trans (Ext.newH (o := .lst us) x1.i hq')
            have n2 : H1 q' = none := by
              by_cases e : q' = q
              · subst e; exact hq
              · rw [upd_ne e] at hq'; exact hq'
            have eL : (L'.map fun q => kT q.2) = (L'.map (·.2)).map kT := by rw [List.map_map]; rfl
            rw [eL, isort_same ((pm.map (·.2)).trans pL)] at ru
            exact g2 _ F1 _ x2 ⟨q', _, rfl, n2, e1.i.free n2, upd_same, hul, ru⟩
          · cases hz
        · cases hz
      · cases hz⟩
end
end PD

set_option maxHeartbeats 4000000
namespace PD
open PySem PySem.Spec PyProof.Rows L2
/-! ### {k: v} with one tuple of ints as its key -/
def tDict1 (K : PySem.W.Frag) (tk tv : TE) : TE := fun σ H Q => ∀ p, H p = none → tk σ (upd H p (DtI p [])) fun y H1 => tv σ H1 fun v H2 => ∃ k b, y = V.ref b ∧ SqT K H2 b (k.map V.int) ∧ H2 p = some (DtI p []) ∧ Q (.ref p) (upd H2 p (DtI p [(k, b, v)]))
theorem pe_dict1 {X : Cx} {ke ve : Expr} {tk tv : TE} {pos : Pos} (hu : X.A.units + 1 < cLine) (hk : PE X ke tk) (hv : PE X ve tv) : PE X (.Dict [some ke] [ve] pos) (tDict1 X.K tk tv) := by
  refine ⟨fun pins s σ H Q I h => ?_⟩
  have sh : (evalEachOpt [some ke] X.env).zip ((evalEach [ve] X.env).map fun v => do let x ← v; standAt pos; pure x) = [(eval ke X.env, do let x ← eval ve X.env; standAt pos; pure x)].map fun p => (some p.1, p.2) := by rfl
  rw [arm_eval_Dict, sh, dictDisplay_pairs _ (by simp) (by simp)]
  refine wpAny_bind (wpAny_standAt (wpAny_bind (wpAny_subDictH (knd := tkI X.prog X.w) (show (tkI X.prog X.w).room X.A from (by omega : X.A.units < cLine)) (by simp) ?_)))
  have hp : H s.heap.objs.size = none := I.hok.fresh (Nat.le_refl _)
  have I1 : Inv X pins σ (upd H s.heap.objs.size (DtI s.heap.objs.size [])) { s with heap := s.heap.push { cls := .type "dict", data := .dict #[] } } :=
    I.laid (a := s.heap.objs.size) (o := DtI s.heap.objs.size []) (t' := s.toks) (fun _ _ q => Heap.get?_push_of_some _ q) (Nat.le_refl _) (dtI_ok (dtOk_new I.big))
  refine evalPairs_cons (thn (hk.run pins _ σ _ _ I1 (h _ hp)) fun u s1 ⟨y, H1, I2, ry, q1⟩ => wpAny_bind (thn (hv.run pins s1 σ H1 _ I2 q1) fun w s2 ⟨v, H2, I3, rv, k, b, ey, eb, e2, q2⟩ => wpAny_bind (wpAny_standAt (wpAny_pure (wpAny_pure ?_)))))
  subst ey
  cases (show u = Value.ref b from ry)
  obtain ⟨hd, xs, rel, dd⟩ := dtI_of I3 (.inl e2) (fun q hq => by cases hq)
  cases rel
  refine ⟨[(k, b, w)], ⟨rfl, rfl, keyI I3 eb, trivial⟩, dd, fun h' tk dd' hs => ?_⟩
  have ok : DtOk s.heap.objs.size [(k, b, v)] h' := dtOk_of hd (relX_put (kvs := []) (xs := []) .nil k b rv) dd'
  have he : ∃ q, h'.get? s.heap.objs.size = some q := by obtain ⟨_, _, _, o, _, _, ho, _⟩ := ok; exact ⟨o, ho⟩
  exact wpAny_pure ⟨.ref _, _, d_write I3 (by rw [e2]; exact True.intro) hs he (dtI_ok ok), rfl, q2⟩
def new1 (fk fv : EnvD → R D) : EnvD → R (Bool × List D × List D) := fun env => (fk env).bind fun k => (fv env).bind fun v => if isKey true k = true then .ok (true, [k], [v]) else .bad
theorem pd_new1 {X : Cx} {cls : Exc → Addr} {W : WX} {ke ve : Expr} {fk fv : EnvD → R D} {pos : Pos} (hu : X.A.units + 1 < cLine) (hk : PDE X cls W (pV X.K) ke fk) (hv : PDE X cls W (pV X.K) ve fv) :
    PDE X cls W (pM X.K) (.Dict [some ke] [ve] pos) (new1 fk fv) := pe_imp (pe_dict1 hu hk hv) fun σ H Q ⟨H0, F, env, ea, g⟩ => fun p hp => by
  have x0 : Ext F H F (upd H p (DtI p [])) := Ext.newH ea.fh hp
  refine ⟨H0, F, env, ea.mono x0, (Go.bind (g.from x0)).imp fun y H1 ⟨F1, k, ek, e1, rk, g1⟩ => ⟨H0, F1, env, (ea.mono x0).mono e1, (Go.bind g1).imp fun v H2 ⟨F2, dv, ev, e2, rv, g2⟩ => ?_⟩⟩
  by_cases q : isKey true k = true
  · have gg : new1 fk fv env = .ok (true, [k], [dv]) := by
      unfold new1
      rw [ek]
      show (fv env).bind _ = _
      rw [ev]
      show (if isKey true k = true then _ else _) = _
      rw [if_pos q]
    rw [gg] at g
    have rk2 : Rep X.K F2 y k := Rep.mono rk e2.f
    obtain ⟨ks, b, e3, e4, e5, e6⟩ := key_of_T rk2 q
    have x2 := (x0.trans e1).trans e2
    have hp2 : H2 p = some (DtI p []) := e2.h _ _ (e1.h _ _ upd_same)
    have fp : F2 p = none := by
      have f0 : F p = none := ea.fh.free hp
      have := (e1.trans e2).keep (p := p) (o := DtI p []) upd_same rfl f0
      exact this
    refine ⟨ks, b, e4, e2.i.tupS e5.sq, hp2, g _ F2 _ ⟨x2.f, fun a o ho => ?_, fun a o ho => ?_, x2.n⟩ ⟨p, _, rfl, hp, fp, upd_same, ?_⟩⟩
    · have ne : a ≠ p := fun e => by rw [e, hp] at ho; cases ho
      rw [upd_ne ne]; exact x2.h _ _ ho
    · have ne : a ≠ p := fun e => by rw [e, fp] at ho; cases ho
      rw [upd_ne ne]; exact x2.i _ _ ho
    · have D2 := DicAt.t (K := X.K) (F := F2) (a := p) (kvs := [(ks, b, v)]) (vs := [dv]) (fun z hz => by rw [List.mem_singleton.mp hz]; exact ⟨e5, e6⟩) (by simp [sizeLine_eq]) (.cons rv .nil)
      show DicAt X.K F2 p _ true [k] [dv]
      rw [e3]
      exact D2
  · exfalso
    have : (if isKey true k = true then (R.ok (true, [k], [dv]) : R (Bool × List D × List D)) else .bad) = .bad := if_neg q
    rw [this] at g2
    exact g2

theorem pdt_notInT {X : Cx} {cls : Exc → Addr} {W : WX} {x o : Expr} {fx fo : EnvD → R D} {pos : Pos} (hu : X.A.units + 1 < cLine) (hx : PDE X cls W (pV X.K) x fx) (ho : PDE X cls W (pB X.K) o fo) (hb : behindInMarks .NotIn o = false := by rfl) :
    PDT X cls W (.Compare x [.NotIn] [o] pos) (tst (bin (inKD true) fx fo)) :=
  pt_imp (pt_cmp (pc_dnotinX hu hx ho) hb) fun σ H Q ⟨H0, F, env, ea, g⟩ => ⟨H0, F, env, ea, (Go.bind (Go.tst (K := X.K) g)).imp fun x H1 ⟨F1, d, _, e1, p1, g1⟩ => ⟨H0, F1, env, ea.mono e1, (Go.bind g1).imp fun y H2 ⟨F2, e, _, e2, p2, g2⟩ => by
    obtain ⟨z, hz, g3⟩ := Go.ofO g2
    obtain ⟨a, ov, ey, dg, ez⟩ := in_x e2.i (Rep.mono p1 e2.f) p2 hz
    exact ⟨a, ov, ey, .inr dg, g3 _ F2 H2 (Ext.refl e2.i) (by rw [ez]; exact .bl _)⟩⟩⟩
end PD

set_option maxHeartbeats 4000000
namespace PD
open PySem PySem.Spec PyProof.Rows L2
/-! ### how many different tuples: their items may be None -/
section
variable {P : Program} {w : World} {κ : Type} [DecidableEq κ] {kd : PySem.KeyKind P w κ} {A : Around} {E : Value → Shared → Prop} {s : Shared}
/-- items that a search tells by value -/
def ByVal (kd : PySem.KeyKind P w κ) : Prop := ∀ k v, kd.is k v = true → ∀ n, hashByValue n v = pure true ∧ ofAClassStatement n v = pure false
theorem byVal_all (fl : ByVal kd) {ks : List κ} {vs : List Value} (h : ItemsAre kd ks vs) : ∀ v ∈ vs, ∀ n, hashByValue n v = pure true ∧ ofAClassStatement n v = pure false := by
  induction h with
  | nil => exact fun v hv => nomatch hv
  | cons h1 _ ih => exact fun v hv => (List.mem_cons.mp hv).elim (fun e => by rw [e]; exact fl _ _ h1) (ih v)
abbrev Good (vs : List Value) : Prop := ∀ v ∈ vs, ∀ n, hashByValue n v = pure true ∧ ofAClassStatement n v = pure false
/-- asked of a tuple: is it of a class statement -/
theorem g_class (fl : ByVal kd) {ks : List κ} {b : Addr} {Q : Bool → Shared → Prop} (x : IsTupleKey kd s.heap ks b) (q : Q false s) : wpAny (model P w) A (ofAClassStatement 8 (.ref b)) Q E s := by
  have ty := x.typeIs
  obtain ⟨ob, its, m, hb, _, dt, ia⟩ := x
  unfold ofAClassStatement
  refine wpAny_bind (wpAny_typeOf ty ?_)
  dsimp only
  have tt : (("tuple" : String) == "tuple") = true := by decide
  simp only [tt, if_true, Bool.not_true, Bool.false_eq_true, if_false]
  try refine wpAny_bind (wpAny_pure ?_)
  try simp only [Bool.not_true, Bool.false_eq_true, if_false]
  show wpAny _ _ (seqItems? (.ref b) >>= _) _ _ s
  refine wpAny_bind (wpAny_seqItems hb dt ?_)
  dsimp only
  refine wpAny_bind ?_
  show wpAny _ _ (forIn its _ _) _ _ s
  rw [← Array.forIn_toList]
  refine wpAny_forIn_list _ (fun left acc now => acc.1 = none ∧ now = s ∧ Good left) _ ?_ ?_ _ _ ⟨rfl, rfl, byVal_all fl ia⟩
  · rintro v left acc now ⟨_, rfl, all⟩
    rw [(all v List.mem_cons_self _).2]
    refine wpAny_bind (wpAny_pure ?_)
    simp only [Bool.false_eq_true, if_false]
    exact wpAny_pure ⟨rfl, rfl, fun u m => all u (List.mem_cons_of_mem _ m)⟩
  · rintro ⟨c1, c2⟩ now ⟨e1, rfl, _⟩
    cases (show c1 = none from e1)
    exact wpAny_pure q
/-- asked of a tuple: is its hash told by value -/
theorem g_hash (fl : ByVal kd) {ks : List κ} {b : Addr} {Q : Bool → Shared → Prop} (x : IsTupleKey kd s.heap ks b) (q : Q true s) : wpAny (model P w) A (hashByValue 8 (.ref b)) Q E s := by
  have ty := x.typeIs
  obtain ⟨ob, its, m, hb, _, dt, ia⟩ := x
  unfold hashByValue
  refine wpAny_bind (wpAny_specialOf ty PySem.F.slot_tuple_hash.lookup ?_)
  show wpAny _ _ (seqItems? (.ref b) >>= _) _ _ s
  refine wpAny_bind (wpAny_seqItems hb dt (wpAny_bind ?_))
  show wpAny _ _ (forIn its _ _) _ _ s
  rw [← Array.forIn_toList]
  refine wpAny_forIn_list _ (fun left acc now => acc.1 = none ∧ now = s ∧ Good left) _ ?_ ?_ _ _ ⟨rfl, rfl, byVal_all fl ia⟩
  · rintro v left acc now ⟨_, rfl, all⟩
    rw [(all v List.mem_cons_self _).1]
    refine wpAny_bind (wpAny_pure ?_)
    simp only [Bool.not_true, Bool.false_eq_true, if_false]
    exact wpAny_pure ⟨rfl, rfl, fun u m => all u (List.mem_cons_of_mem _ m)⟩
  · rintro ⟨c1, c2⟩ now ⟨e1, rfl, _⟩
    cases (show c1 = none from e1)
    exact wpAny_pure q
/-- a search among such tuples shows nothing of the table -/
theorem g_shown (fl : ByVal kd) {ks : List κ} {b : Addr} {Q : Bool → Shared → Prop} (x : IsTupleKey kd s.heap ks b) {ys : List Value} (hy : ∀ y ∈ ys, ∃ js c, y = Value.ref c ∧ IsTupleKey kd s.heap js c) (q : Q false s) :
    wpAny (model P w) A (searchCouldBeSeen (.ref b) ys) Q E s := by
  unfold searchCouldBeSeen
  refine wpAny_bind (wpAny_forIn_list _ (fun left acc now => acc.1 = none ∧ now = s ∧ ∀ y ∈ left, ∃ js c, y = Value.ref c ∧ IsTupleKey kd s.heap js c) _ ?_ ?_ _ _ ⟨rfl, rfl, hy⟩)
  · rintro v left acc now ⟨_, rfl, all⟩
    obtain ⟨js, c, rfl, xc⟩ := all v List.mem_cons_self
    have go : ∀ y ∈ left, ∃ js c, y = Value.ref c ∧ IsTupleKey kd now.heap js c := fun u m => all u (List.mem_cons_of_mem _ m)
    dsimp only
    by_cases same : (b == c || (carriedByValue (.ref b) && carriedByValue (.ref c))) = true
    · exact wp_if_pos same (wpAny_pure ⟨rfl, rfl, go⟩)
    · refine wp_if_neg same (wpAny_bind (wpAny_eqIsQuiet_tuple x ?_))
      simp only [Bool.not_true, Bool.false_eq_true, if_false]
      refine wpAny_bind (wpAny_eqIsQuiet_tuple xc ?_)
      simp only [Bool.not_true, Bool.false_eq_true, if_false]
      refine wpAny_bind (g_class fl x ?_)
      simp only [Bool.false_eq_true, if_false]
      refine wpAny_bind (g_class fl xc ?_)
      simp only [Bool.false_eq_true, if_false]
      exact wpAny_pure ⟨rfl, rfl, go⟩
  · rintro ⟨c1, c2⟩ now ⟨e1, rfl, _⟩
    cases (show c1 = none from e1)
    exact wpAny_pure q
/-! the table -/
def entsOf (kd : PySem.KeyKind P w κ) (L : List (Addr × List κ)) : List (Int × Value) := L.map fun p => (tupleKeyHash kd p.2, Value.ref p.1)
def hsOf (kd : PySem.KeyKind P w κ) (L : List (Addr × List κ)) : List Int := L.map fun p => tupleKeyHash kd p.2
structure Tab (kd : PySem.KeyKind P w κ) (h : Heap) (a : Addr) (L : List (Addr × List κ)) (es : Array (Int × Value)) (ep : Nat) (t : SetTable) : Prop where
  obj : ∃ o, h.get? a = some o ∧ o.ExactSet ∧ o.data = .set es ep t
  ents : es.toList = entsOf kd L
  lay : TabOk t (hsOf kd L)
  keys : (L.map (·.2)).Nodup
  tups : ∀ p ∈ L, IsTupleKey kd h p.2 p.1
  room : L.length * 5 < t.mask * 3
variable {a : Addr} {L : List (Addr × List κ)} {es : Array (Int × Value)} {ep : Nat} {t : SetTable}
theorem hsOf_len : (hsOf kd L).length = L.length := by unfold hsOf; rw [List.length_map]
theorem ents_len (h : es.toList = entsOf kd L) : es.size = L.length := by
  rw [← Array.length_toList, h]; unfold entsOf; rw [List.length_map]
theorem ents_at (h : es.toList = entsOf kd L) {i : Nat} {p : Addr × List κ} (e : L[i]? = some p) : es[i]? = some (tupleKeyHash kd p.2, Value.ref p.1) := by
  rw [← Array.getElem?_toList, h]
  unfold entsOf
  rw [List.getElem?_map, e]; rfl
theorem tab_fits {hs : List Int} (T : TabOk t hs) (e : hs.length = es.size) (hm : es.size ≤ t.mask) : t.fits es.size = true := by
  have h1 := T.sz
  unfold SetTable.fits SetTable.fill
  rw [T.dm, Bool.and_eq_true, beq_iff_eq, decide_eq_true_eq]
  show t.place.size = es.size ∧ t.place.size + 0 ≤ t.mask
  omega
theorem Tab.fits (R : Tab kd s.heap a L es ep t) : t.fits es.size = true := by
  have h2 := ents_len R.ents
  have h3 := R.room
  exact tab_fits R.lay (by rw [hsOf_len, h2]) (by omega)
theorem odd_stays {hs : List Int} (T : TabOk t hs) : ¬ t.gaveWay = true := by
  unfold SetTable.gaveWay
  rw [mask_odd T.mok]; decide
abbrev path (t : SetTable) (h : Int) (c : Nat) : SetTable.Probe := nth t.mask (runAt t.mask (SetTable.bits h % (t.mask + 1)) (SetTable.bits h)) c
theorem path_clean (m : Nat) : ∀ (n : Nat) (p : SetTable.Probe), p.dummy = none → (nth m p n).dummy = none
  | 0, _, h => h
  | n + 1, p, h => path_clean m n (adv m p) (by unfold adv; split <;> exact h)
theorem path_add (t : SetTable) (h : Int) (c q : Nat) : nth t.mask (path t h c) q = path t h (c + q) := (nth_add t.mask c _ q).symm
/-- the search for a tuple, from the c-th step of its way -/
theorem g_search (fl : ByVal kd) (R : Tab kd s.heap a L es ep t) {x : Addr} {k : List κ} (hx : IsTupleKey kd s.heap k x) (hu : A.units < cLine) {h : Int} (eh : h = tupleKeyHash kd k) {K : Nat} (hKf : K < 10 * SetTable.turns t.mask)
    (hK : way t.mask h K ∉ t.place.toList) (hKb : ∀ c, c < K → way t.mask h c ∈ t.place.toList) {Q : SetFound → Shared → Prop}
    (hin : k ∈ L.map (·.2) → Q (.there none) s) (hout : k ∉ L.map (·.2) → Q (.free (way t.mask h K) false) s) :
    ∀ (f c : Nat) (stand : Option SetTable.Probe), stand.getD (t.probeStart h) = path t h c → c ≤ K → K - c < f →
      (∀ (i : Nat) p, L[i]? = some p → p.2 = k → ∃ c', c ≤ c' ∧ c' < K ∧ t.place.toList[i]? = some (way t.mask h c')) →
      wpAny (model P w) A (setSearchFrom a (.ref x) h true f stand) Q E s
  | 0, _, _, _, _, lt, _ => absurd lt (Nat.not_lt_zero _)
  | f + 1, c, stand, st, le, lt, ahead => by
    obtain ⟨o, ho, hex, hd⟩ := R.obj
    rw [setSearchFrom_succ]
    refine wpAny_bind (wpAny_setState_of ho hd R.fits ?_)
    dsimp only
    refine wp_if_neg (odd_stays R.lay) ?_
    try refine wpAny_bind (wpAny_pure ?_)
    have jj : ∀ q, (nth t.mask (path t h c) q).j = way t.mask h (c + q) := fun q => congrArg SetTable.Probe.j (path_add t h c q)
    have hAt : ∀ (i : Nat) p, L[i]? = some p → (fun i => (es[i]?.map (·.1)).getD 0) i = tupleKeyHash kd p.2 := fun i p hp => by
      show (es[i]?.map (·.1)).getD 0 = _
      rw [ents_at R.ents hp]; rfl
    rcases go_spec t R.lay.ris R.lay.dm (fun i => (es[i]?.map (·.1)).getD 0) h (10 * SetTable.turns t.mask) (K - c) (path t h c) (path_clean _ _ _ rfl) (by omega)
      (fun q hq => by rw [jj]; exact hKb (c + q) (by omega)) (by rw [jj, show c + (K - c) = K by omega]; exact hK) with ⟨q, i, hq, hi, _, first, pr⟩ | ⟨never, pr⟩
    · have pr2 : t.probe (fun i => (es[i]?.map (·.1)).getD 0) h (stand.getD (t.probeStart h)) = some (.candidate (way t.mask h (c + q)) i (path t h (c + (q + 1)))) := by
        rw [st, ← jj, ← path_add]; exact pr
      rw [pr2]
      dsimp only
      rw [jj] at hi
      have hil : i < L.length := by
        have h1 := (List.getElem?_eq_some_iff.mp hi).1
        have h2 := R.lay.sz
        rw [hsOf_len] at h2
        rw [Array.length_toList] at h1
        omega
      obtain ⟨p, hp⟩ : ∃ p, L[i]? = some p := ⟨_, List.getElem?_eq_getElem hil⟩
      have hm : p ∈ L := List.mem_of_getElem? hp
      have live : t.slot (way t.mask h (c + q)) = .live i := slot_live R.lay.ris hi
      have rest : wpAny (model P w) A (searchRest a (.ref x) h true f es t (way t.mask h (c + q)) i (path t h (c + (q + 1)))) Q E s := by
        unfold searchRest
        rw [ents_at R.ents hp]
        dsimp only
        refine wpAny_bind (wpAny_holding (wpAny_eqBool_tuple hu (R.tups p hm) hx ?_))
        refine wpAny_bind (wpAny_setState_of ho hd R.fits ?_)
        dsimp only
        by_cases eq : p.2 = k
        · exact wp_if_pos (by simp [eq]) (wpAny_pure (hin (List.mem_map.mpr ⟨p, hm, eq⟩)))
        · refine wp_if_neg (by simp [eq]) ?_
          try refine wpAny_bind (wpAny_pure ?_)
          rw [sameMem]
          dsimp only
          simp only [if_true, live, ents_at R.ents hp]
          refine wpAny_bind (wpAny_isSame_ref_self (wpAny_bind (wpAny_pure ?_)))
          simp only [if_true]
          refine wp_if_neg (by simp [eq]) ?_
          refine g_search fl R hx hu eh hKf hK hKb hin hout f (c + (q + 1)) _ rfl (by omega) (by omega) fun i0 p0 h0 k0 => ?_
          obtain ⟨c', a1, a2, a3⟩ := ahead i0 p0 h0 k0
          refine ⟨c', ?_, a2, a3⟩
          rcases Nat.lt_trichotomy c' (c + q) with z | z | z
          · exact absurd ((hAt i0 p0 h0).trans (by rw [k0, ← eh])) (first (c' - c) i0 (by omega) (by rw [jj, show c + (c' - c) = c' by omega]; exact a3))
          · have l0 := slot_live R.lay.ris a3
            rw [z, live] at l0
            injection l0 with l0
            rw [← l0, hp] at h0
            exact absurd ((congrArg Prod.snd (Option.some.inj h0)).trans k0) eq
          · omega
      by_cases ld : t.led = true
      · refine wp_if_neg (by simp [ld]) ?_
        try refine wpAny_bind (wpAny_pure ?_)
        exact rest
      · refine wp_if_pos (by simp [ld]) (wpAny_bind (g_shown fl hx (fun y hy => ?_) ?_))
        · obtain ⟨e, he, ee⟩ := List.mem_map.mp hy
          have he1 : e ∈ es ∧ e.1 = h := by simpa using he
          have he2 : e ∈ es.toList := by simpa using he1.1
          rw [R.ents] at he2
          obtain ⟨p2, hp2, e2⟩ := List.mem_map.mp he2
          exact ⟨p2.2, p2.1, by rw [← ee, ← e2], R.tups p2 hp2⟩
        · refine wp_if_neg (by decide) ?_
          try refine wpAny_bind (wpAny_pure ?_)
          exact rest
    · have pr2 : t.probe (fun i => (es[i]?.map (·.1)).getD 0) h (stand.getD (t.probeStart h)) = some (.empty (way t.mask h K) none) := by
        have e2 : way t.mask h K = (nth t.mask (path t h c) (K - c)).j := by rw [jj, show c + (K - c) = K by omega]
        rw [st, e2]; exact pr
      rw [pr2]
      dsimp only
      refine wpAny_pure (hout fun hm => ?_)
      obtain ⟨p0, h0, k0⟩ := List.mem_map.mp hm
      obtain ⟨i0, hi0, e0⟩ := List.getElem_of_mem h0
      have h00 : L[i0]? = some p0 := by rw [List.getElem?_eq_getElem hi0, e0]
      obtain ⟨c', a1, a2, a3⟩ := ahead i0 p0 h00 k0
      exact never (c' - c) i0 (by omega) (by rw [jj, show c + (c' - c) = c' by omega]; exact a3) ((hAt i0 p0 h00).trans (by rw [k0, ← eh]))
end
end PD

set_option maxHeartbeats 4000000
namespace PD
open PySem PySem.Spec PyProof.Rows L2
section
variable {P : Program} {w : World} {κ : Type} [DecidableEq κ] {kd : PySem.KeyKind P w κ} {A : Around} {E : Value → Shared → Prop} {s : Shared}
variable {a : Addr} {L : List (Addr × List κ)} {es : Array (Int × Value)} {ep : Nat} {t : SetTable}
theorem g_find (fl : ByVal kd) (R : Tab kd s.heap a L es ep t) {x : Addr} {k : List κ} (hx : IsTupleKey kd s.heap k x) (hu : A.units < cLine) {Q : SetFound → Shared → Prop}
    (hin : k ∈ L.map (·.2) → Q (.there none) s)
    (hout : ∀ K, k ∉ L.map (·.2) → way t.mask (tupleKeyHash kd k) K ∉ t.place.toList → (∀ c, c < K → way t.mask (tupleKeyHash kd k) c ∈ t.place.toList) → Q (.free (way t.mask (tupleKeyHash kd k) K) false) s) :
    wpAny (model P w) A (setSearch a (.ref x) (tupleKeyHash kd k) true) Q E s := by
  have room := R.room
  obtain ⟨K, lt, hK, hb⟩ := R.lay.first (by rw [hsOf_len]; omega) (tupleKeyHash kd k)
  have most : 10 * SetTable.turns t.mask ≤ 1420 := by
    unfold SetTable.turns
    rcases R.lay.mok with e | e | e <;> omega
  unfold setSearch
  refine g_search fl R hx hu rfl lt hK hb hin (fun no => hout K no hK hb) 100000 0 none rfl (Nat.zero_le _) (by omega) fun i p hp e => ?_
  have hi : (hsOf kd L)[i]? = some (tupleKeyHash kd k) := by
    unfold hsOf
    rw [List.getElem?_map, hp, ← e]; rfl
  have hil : i < t.place.toList.length := by
    have h1 := (List.getElem?_eq_some_iff.mp hp).1
    have h2 := R.lay.sz
    rw [hsOf_len] at h2
    rw [Array.length_toList]
    omega
  have hj := List.getElem?_eq_getElem hil
  obtain ⟨c, hc, e2⟩ := R.lay.before hK hi hj
  exact ⟨c, Nat.zero_le _, hc, by rw [hj, e2]⟩
/-- a tuple stands where the set is written -/
theorem tup_off {h h' : Heap} {k : List κ} {b : Addr} {o : Obj} {es : Array (Int × Value)} {ep : Nat} {t : SetTable} (x : IsTupleKey kd h k b) (ho : h.get? a = some o) (hd : o.data = .set es ep t) (sb : Heap.SameBut a h h') : IsTupleKey kd h' k b := by
  obtain ⟨ob, its, m, hb, c, dt, ia⟩ := x
  have ne : b ≠ a := fun e => by
    rw [e] at hb
    cases (Option.some.inj (hb.symm.trans ho))
    rw [hd] at dt
    exact nomatch dt
  exact ⟨ob, its, m, (sb.2 b ne).trans hb, c, dt, ia⟩
theorem filt_at {α β : Type} {f : Nat → Option α} {g : α → β} {f' : Nat → Option β} : ∀ {l : List Nat}, (∀ i ∈ l, ∃ y, f i = some y ∧ f' i = some (g y)) → l.filterMap f' = (l.filterMap f).map g
  | [], _ => rfl
  | i :: l, h => by
    obtain ⟨y, h1, h2⟩ := h i (by simp)
    rw [List.filterMap_cons_some h1, List.filterMap_cons_some h2, List.map_cons, filt_at fun j hj => h j (by simp [hj])]
theorem filt_all {α : Type} (L : List α) : (List.range L.length).filterMap (fun i => L[i]?) = L := by
  have e : ∀ n, n ≤ L.length → (List.range n).filterMap (fun i => L[i]?) = L.take n := by
    intro n
    induction n with
    | zero => intro _; rfl
    | succ n ih =>
      intro hn
      rw [List.range_succ, List.filterMap_append, ih (by omega), List.take_succ, List.getElem?_eq_getElem (show n < L.length by omega), List.filterMap_cons_some (List.getElem?_eq_getElem (show n < L.length by omega))]
      rfl
  rw [e _ (Nat.le_refl _), List.take_length]
theorem g_turned {order : Array Nat} (hr : es.toList = entsOf kd L) (hp : order.toList.Perm (List.range L.length)) :
    ∃ L2, (order.filterMap (es[·]?)).toList = entsOf kd L2 ∧ L2.Perm L ∧ hsOf kd L2 = order.toList.map fun i => (es.map (·.1)).getD i 0 := by
  have lt : ∀ i ∈ order.toList, i < L.length := fun i hi => List.mem_range.mp (hp.mem_iff.mp hi)
  have lk : ∀ i ∈ order.toList, ∃ p, L[i]? = some p ∧ es[i]? = some (tupleKeyHash kd p.2, Value.ref p.1) := fun i hi => ⟨_, List.getElem?_eq_getElem (lt i hi), ents_at hr (List.getElem?_eq_getElem (lt i hi))⟩
  refine ⟨order.toList.filterMap fun i => L[i]?, ?_, ?_, ?_⟩
  · rw [Array.toList_filterMap]
    exact filt_at lk
  · have := hp.filterMap fun i => L[i]?
    rw [filt_all] at this
    exact this
  · unfold hsOf
    have z : (order.toList.map fun i => (es.map (·.1)).getD i 0) = order.toList.filterMap fun i => some ((es.map (·.1)).getD i 0) := by
      rw [List.filterMap_eq_map']
    rw [z]
    refine (filt_at (f := fun i => L[i]?) (g := fun p => tupleKeyHash kd p.2) fun i hi => ?_).symm
    obtain ⟨p, h1, h2⟩ := lk i hi
    refine ⟨p, h1, ?_⟩
    have : (es.map (·.1))[i]? = some (tupleKeyHash kd p.2) := by rw [Array.getElem?_map, h2]; rfl
    simp [Array.getD_eq_getD_getElem?, this]
theorem g_relay {o : Obj} (ho : s.heap.get? a = some o) (hex : o.ExactSet) (hd : o.data = .set es ep t) (hr : es.toList = entsOf kd L) (T : TabOk t (hsOf kd L)) (le : es.size ≤ t.mask)
    (keys : (L.map (·.2)).Nodup) (tups : ∀ p ∈ L, IsTupleKey kd s.heap p.2 p.1) (few : L.length < 64) {wanted M : Nat} (hw : SetTable.sizeAbove wanted - 1 = M) (hM : MaskOk M) (hw2 : SetTable.sizeAbove wanted ≤ 128) (hn : L.length * 5 < M * 3) {Q : Unit → Shared → Prop}
    (hQ : ∀ h' L' es' ep' t', Heap.SameBut a s.heap h' → Tab kd h' a L' es' ep' t' → L'.Perm L → t'.plain = t.plain → Q () { s with heap := h' }) : wpAny (model P w) A (setRelay a wanted) Q E s := by
  have hsl := ents_len hr
  obtain ⟨t', order, e, hp, T', em, el, ep', ed⟩ := relaid_ok t (hs := es.map (·.1)) (wanted := wanted) hw hM (by rw [Array.size_map, hsl]; omega)
  rw [Array.size_map, hsl] at hp
  obtain ⟨L2, r1, r2, r3⟩ := g_turned hr hp
  rw [← r3] at T'
  have s2 : (order.filterMap (es[·]?)).size = es.size := by rw [ents_len r1, r2.length_eq, hsl]
  rw [setRelay_eq]
  refine wpAny_bind (wpAny_setState_of ho hd (tab_fits T (by rw [hsOf_len, hsl]) le) ?_)
  dsimp only
  refine wp_if_neg (by rw [sizeLine_eq]; omega) ?_
  try refine wpAny_bind (wpAny_pure ?_)
  rw [e]
  dsimp only
  refine wpAny_bind ?_
  refine wp_if_neg (by rw [s2]; simp) ?_
  try refine wpAny_bind (wpAny_pure ?_)
  refine wpAny_pure ?_
  dsimp only
  refine wpAny_storeSet_of ho hd ?_ (by rw [s2, hsl, sizeLine_eq]; omega)
  have sb : Heap.SameBut a s.heap (s.heap.update a (Obj.putSet (order.filterMap (es[·]?)) t')) := Heap.SameBut.update ..
  refine hQ _ L2 _ (ep + 1) t' sb ⟨⟨_, store_at ho hd, ⟨hex.1, hex.2.1, hex.2.2⟩, rfl⟩, r1, T', (r2.map (·.2)).nodup_iff.mpr keys, fun p m => tup_off (tups p (r2.mem_iff.mp m)) ho hd sb, ?_⟩ r2 ep'
  rw [r2.length_eq, em]
  exact hn
theorem g_add (fl : ByVal kd) (R : Tab kd s.heap a L es ep t) {x : Addr} {k : List κ} (hx : IsTupleKey kd s.heap k x) (hu : A.units < cLine) (few : L.length + 1 < 64) {Q : Bool → Shared → Prop}
    (hQ : ∀ b h' L' es' ep' t', Heap.SameBut a s.heap h' → Tab kd h' a L' es' ep' t' → (k ∈ L.map (·.2) → L' = L) → (k ∉ L.map (·.2) → L'.Perm ((x, k) :: L)) → Q b { s with heap := h' }) :
    wpAny (model P w) A (setAddHashed a (.ref x) (tupleKeyHash kd k)) Q E s := by
  obtain ⟨o, ho, hex, hd⟩ := R.obj
  have hsl := ents_len R.ents
  have room := R.room
  unfold setAddHashed
  refine wpAny_holding ?_
  rw [show (100000 : Nat) = 99999 + 1 from rfl, setAddHashedIn_succ]
  refine wpAny_bind (wpAny_setState_of ho hd R.fits ?_)
  dsimp only
  refine wp_if_neg (by simp [byScan, Value.scannable]) ?_
  try refine wpAny_bind (wpAny_pure ?_)
  refine wpAny_bind (g_find fl R hx hu (fun hm => ?_) fun K hm hK hb => ?_)
  · dsimp only
    exact wpAny_pure (hQ false s.heap L es ep t (Heap.SameBut.refl a s.heap) R (fun _ => rfl) fun z => absurd hm z)
  · dsimp only
    refine wpAny_bind (wpAny_setState_of ho hd R.fits ?_)
    dsimp only
    obtain ⟨q1, q2, q3, q4, q5, q6, q7, q8, q9⟩ := R.lay.put hK hb
    generalize hpt : t.put (way t.mask (tupleKeyHash kd k) K) = pt at q1 q3 q4 q5 q6 q7 q8 q9 ⊢
    obtain ⟨t1, p⟩ := pt
    dsimp only at q1 q3 q4 q5 q6 q7 q8 q9 ⊢
    subst q1
    -- what is kept of the hash: told by value
    have bv : ∀ F : Bool → Sem Bool, wpAny (model P w) A (F true) Q E s → wpAny (model P w) A (if t1.plain = true then hashByValue 8 (.ref x) >>= F else pure true >>= F) Q E s := fun F r => by
      by_cases pl : t1.plain = true
      · exact wp_if_pos pl (wpAny_bind (g_hash fl hx r))
      · exact wp_if_neg pl (wpAny_bind (wpAny_pure r))
    refine bv _ ?_
    simp only [if_true]
    generalize SetTable.below t.place (way t.mask (tupleKeyHash kd k) K) = p at q2 q3 ⊢
    have pm : (L.take p ++ (x, k) :: L.drop p).Perm ((x, k) :: L) := put_perm L p (x, k)
    have ll : (L.take p ++ (x, k) :: L.drop p).length = L.length + 1 := pm.length_eq
    have e1 : (SetTable.insertAt es p (tupleKeyHash kd k, Value.ref x)).toList = entsOf kd (L.take p ++ (x, k) :: L.drop p) := by
      rw [SetTable.toList_insertAt, R.ents]
      unfold entsOf
      rw [List.map_append, List.map_cons, List.map_take, List.map_drop]
    have e2 : hsOf kd (L.take p ++ (x, k) :: L.drop p) = (hsOf kd L).take p ++ tupleKeyHash kd k :: (hsOf kd L).drop p := by
      unfold hsOf
      rw [List.map_append, List.map_cons, List.map_take, List.map_drop]
    rw [← e2] at q3
    have nd1 : ((L.take p ++ (x, k) :: L.drop p).map (·.2)).Nodup := (pm.map (·.2)).nodup_iff.mpr (by
      rw [List.map_cons]
      exact List.nodup_cons.mpr ⟨hm, R.keys⟩)
    generalize SetTable.insertAt es p (tupleKeyHash kd k, Value.ref x) = es1 at e1 ⊢
    generalize L.take p ++ (x, k) :: L.drop p = L1 at pm ll q3 nd1 e1
    have z1 : es1.size = L.length + 1 := by rw [ents_len e1, ll]
    refine wpAny_bind (wpAny_storeSet_of ho hd ?_ (by rw [z1, sizeLine_eq]; omega))
    have sb : Heap.SameBut a s.heap (s.heap.update a (Obj.putSet es1 t1)) := Heap.SameBut.update ..
    have ho1 := store_at (es' := es1) (t' := t1) ho hd
    generalize s.heap.update a (Obj.putSet es1 t1) = h1 at sb ho1 ⊢
    have tp1 : ∀ p ∈ L1, IsTupleKey kd h1 p.2 p.1 := fun p m => (List.mem_cons.mp (pm.mem_iff.mp m)).elim (fun e => by rw [e]; exact tup_off hx ho hd sb) fun m => tup_off (R.tups p m) ho hd sb
    rw [hsOf_len] at q9
    have fullE : t1.tooFull = decide ((L.length + 1) * 5 ≥ t1.mask * 3) := by
      unfold SetTable.tooFull
      rw [q9]
    by_cases hf : t1.tooFull = true
    · rw [fullE, decide_eq_true_eq] at hf
      have two : (t.mask = 7 ∧ L.length = 4) ∨ (t.mask = 31 ∧ L.length = 18) := by
        rw [q4] at hf
        rcases R.lay.mok with e | e | e <;> rw [e] at hf room <;> omega
      have go : ∀ M, SetTable.sizeAbove (SetTable.grown (L.length + 1)) - 1 = M → MaskOk M → SetTable.sizeAbove (SetTable.grown (L.length + 1)) ≤ 128 → (L.length + 1) * 5 < M * 3 →
          wpAny (model P w) A (setRelay a (SetTable.grown (L.length + 1))) (fun _ s' => wpAny (model P w) A (pure true) Q E s') E { s with heap := h1 } := fun M m1 m2 m3 m4 =>
        g_relay (s := { s with heap := h1 }) ho1 ⟨hex.1, hex.2.1, hex.2.2⟩ rfl e1 q3 (by rw [z1, q4]; rcases two with ⟨e, e2⟩ | ⟨e, e2⟩ <;> omega) nd1 tp1 (by rw [ll]; exact few) m1 m2 m3 (by rw [ll]; exact m4)
          fun h2 L2 es2 ep2 t2 sb2 R2 pm2 _ => wpAny_pure (hQ true h2 L2 es2 ep2 t2 (sb.trans sb2) R2 (fun z => absurd z hm) fun _ => pm2.trans pm)
      rw [← decide_eq_true_eq (p := (L.length + 1) * 5 ≥ t1.mask * 3), ← fullE] at hf
      have body : wpAny (model P w) A (setRelay a (SetTable.grown (L.length + 1))) (fun _ s' => wpAny (model P w) A (pure true) Q E s') E { s with heap := h1 } := by
        rcases two with ⟨_, e2⟩ | ⟨_, e2⟩
        · exact go 31 (by rw [e2, size_20]) (.inr (.inl rfl)) (by rw [e2, size_20]; decide) (by omega)
        · exact go 127 (by rw [e2, size_76]) (.inr (.inr rfl)) (by rw [e2, size_76]; decide) (by omega)
      rw [← hsl] at body
      first
        | (refine wpAny_bind ?_; exact wp_if_pos (by simp [hf]) body)
        | exact wp_if_pos (by simp [hf]) (wpAny_bind body)
    · have rm : L1.length * 5 < t1.mask * 3 := by
        rw [fullE, decide_eq_true_eq] at hf
        omega
      have fin := hQ true h1 L1 es1 (ep + 1) t1 sb ⟨⟨_, ho1, ⟨hex.1, hex.2.1, hex.2.2⟩, rfl⟩, e1, q3, nd1, tp1, rm⟩ (fun z => absurd z hm) fun _ => pm
      first
        | exact wp_if_neg (by simp [hf]) (wpAny_pure fin)
        | (refine wpAny_bind ?_; exact wp_if_neg (by simp [hf]) (wpAny_pure (wpAny_pure fin)))
end
end PD

set_option maxHeartbeats 4000000
namespace PD
open PySem PySem.Spec PyProof.Rows L2
/-! ### set(xs), told by what one more item does -/
section
variable {P : Program} {w : World} {A : Around} {E : Value → Shared → Prop} {s : Shared}
/-- what one more item does with the set at S: the objects of h0 stay -/
structure Fills (P : Program) (w : World) (A : Around) (h0 : Heap) (S : Addr) (n : Nat) (Pv : Nat → Value → Prop) (St : Nat → Heap → Prop) : Prop where
  stay : ∀ i h h', St i h → (∀ o, h.get? S = some o → h'.get? S = some o) → (∀ b o, h0.get? b = some o → h'.get? b = some o) → St i h'
  step : ∀ i v (s1 : Shared) (E : Value → Shared → Prop) (R : Shared → Prop), i < n → Pv i v → St i s1.heap → (∀ b o, h0.get? b = some o → s1.heap.get? b = some o) →
    (∀ h' tk, Heap.SameBut S s1.heap h' → s1.toks ≤ tk → St (i + 1) h' → R { s1 with heap := h', toks := tk }) → wpAny (model P w) A (setAdd S v) (fun _ s2 => R s2) E s1
abbrev Keeps (h h' : Heap) : Prop := ∀ b o, h.get? b = some o → h'.get? b = some o
theorem fill_loop {I : Addr} {fp wr : List Addr} {G : Array GenState → Array GenState → Prop} {n : Nat} {Pv : Nat → Value → Prop} {Sw : Nat → Shared → Prop} {St : Nat → Heap → Prop} {R : Result → Shared → Prop}
    (W : WalksS P w A.in1 I fp wr G n Pv Sw) (S : Addr) (out : S ∉ fp) (h0 : Heap) (fs : Fills P w A.in1 h0 S n Pv St) (n0 : h0.get? S = none) (nw : ∀ b ∈ wr, h0.get? b = none) :
    ∀ (m i : Nat) (s : Shared), n - i = m → i ≤ n → Sw i s → Keeps h0 s.heap → St i s.heap →
      (∀ s', Moved (S :: wr) G s s' → St n s'.heap → Keeps h0 s'.heap → R (.ok (.ret .none)) s') → codeAny (model P w) A (.builtin "set.update.loop" ⟨[.ref S, .ref I], []⟩) R s := by
  have off : S ∉ wr := fun h => out (W.sub _ h)
  have more : ∀ b ∈ wr, b ∈ S :: wr := fun b => List.mem_cons_of_mem _
  have kept : ∀ {s s' : Shared}, Moved wr G s s' → Keeps h0 s.heap → Keeps h0 s'.heap := fun m k b o e => m.heap b o (fun hb => nomatch (nw b hb).symm.trans e) (k b o e)
  intro m
  induction m with
  | zero =>
    intro i s em le sw k st fin
    cases (show i = n by omega)
    refine codeAny_builtin F.entry_set_update_loop ?_
    rw [Around.under_plainId F.plain_set_update_loop _]
    show wpAny _ A.in1 (pyNext (.ref I) >>= _) _ _ s
    refine wpAny_bind (W.done s _ _ sw fun s' mv => ?_)
    show wpAny _ A.in1 (ret Value.none) _ _ s'
    exact wpAny_pure (fin s' (mv.mono more) (fs.stay _ _ _ st (fun o e => mv.heap S o off e) (kept mv k)) (kept mv k))
  | succ m ih =>
    intro i s em le sw k st fin
    refine codeAny_builtin F.entry_set_update_loop ?_
    rw [Around.under_plainId F.plain_set_update_loop _]
    show wpAny _ A.in1 (pyNext (.ref I) >>= _) _ _ s
    refine wpAny_bind (W.item i s _ _ (by omega) sw fun v s' pv sw' mv => ?_)
    have k' := kept mv k
    show wpAny _ A.in1 (holding [v] (setAdd S v) >>= _) _ _ s'
    refine wpAny_bind (wpAny_holding (fs.step i v s' _ _ (by omega) pv (fs.stay _ _ _ st (fun o e => mv.heap S o off e) k') k' fun h' tk sb lt st' => ?_))
    have k2 : Keeps h0 h' := fun b o e => (sb.2 b (fun z => by rw [z, n0] at e; cases e)).trans (k' b o e)
    refine wpAny_pure ⟨plainId_quiet F.plain_set_update_loop _, ih (i + 1) _ (by omega) (by omega) (W.frame _ s' _ _ sw' lt fun b hb o e => (sb.2 b fun z => out (z ▸ hb)).trans e) k2 st' fun s2 mv2 st2 k3 => ?_⟩
    exact fin s2 (Moved.trans W.gtrans ((mv.mono more).then_heap lt fun b o hb e => (sb.2 b fun z => hb (by rw [z]; exact List.mem_cons_self)).trans e) mv2) st2 k3
abbrev newSetObj (w : World) : Obj := { cls := .type "set", dict := none, data := .set #[] 0 (.fresh 0 0 (!w.params.followText "set-order")) }
/-- set(xs) of a list -/
theorem fill_list {l : Addr} {items : Array Value} {St : Nat → Heap → Prop} {Q : Value → Shared → Prop} (hh : A.handled = none) (hl : s.heap.IsList l items)
    (fs : ∀ A' : Around, A'.units ≤ A.units + 3 → Fills P w A' s.heap s.heap.objs.size items.size (fun i v => items[i]? = some v) St)
    (first : ∀ h' : Heap, Keeps s.heap h' → h'.get? s.heap.objs.size = some (newSetObj w) → St 0 h')
    (q : ∀ (h' : Heap) (tk : Nat), St items.size h' → Keeps s.heap h' → Q (.ref s.heap.objs.size) { s with heap := h', toks := tk }) :
    wpAny (model P w) A (call (.type "set") [.ref l]) Q E s := by
  obtain ⟨c, tl, hmro⟩ := F.called_set.mro
  have hmade := F.called_set.made
  have hsub := F.called_set.sub
  refine wpAny_call (codeAny_of_tree ?_)
  show wpAny _ _ (callAny (.type "set") _) _ _ _
  refine wpAny_pure ⟨Code.quiet_builtin _ (by decide +kernel), codeAny_builtin F.entry_type_call ?_⟩
  rw [Around.under_plain (weight_type_call_type "set" [.ref l] []) rfl]
  have h1 := F.called_set.notType
  have h2 := F.called_set.canCreate
  have hct := F.typeCall_set_1 (.ref l)
  repeat (any_goals (first | assumption | wp_step))
  refine codeAny_mono (code_set_led1 (.ref l) (E := E) (Q₁ := fun obj s₁ => obj = .ref s.heap.objs.size ∧ s₁ = { s with heap := s.heap.push (newSetObj w) }) ⟨rfl, rfl⟩) fun r s₁ hr => ?_
  cases r with
  | error e => exact hr
  | ok fl =>
    cases fl with
    | ret obj =>
      obtain ⟨rfl, rfl⟩ := hr
      have hS : (s.heap.push (newSetObj w)).get? s.heap.objs.size = some (newSetObj w) := Heap.get?_push_size _ rfl
      have hT : Shared.TypeIs { s with heap := s.heap.push (newSetObj w) } (.ref s.heap.objs.size) "set" := ⟨_, hS, rfl⟩
      have hli := F.called_set.init.lookup
      have hbi := F.called_set.init.bind (.ref s.heap.objs.size)
      repeat (any_goals (first | assumption | wp_step))
      refine codeAny_mono (codeAny_call_builtin (R := wants (fun r s₂ => r = .none ∧ ∃ h' tk, s₂ = { s with heap := h', toks := tk } ∧ St items.size h' ∧ Keeps s.heap h') E) F.called_set.init.plain F.entry_set_init (check_set_init_1 hT ?_)) fun r₂ s₂ hr₂ => ?_
      · obtain ⟨ol, hol, hcl, nl, hdl⟩ := hl
        obtain ⟨ocls, odict, odata, oslots⟩ := ol
        simp only at hcl hdl
        subst hcl hdl
        have hol' : (s.heap.push (newSetObj w)).get? l = some { cls := .type "list", dict := odict, data := .seq items nl, slots := oslots } := Heap.get?_push_of_some _ hol
        have hsls := F.sub_list_set
        have hslf := F.sub_list_frozenset
        have hne : (Value.type "list" == Value.type "dict") = false := by decide
        have hl1 : (s.heap.push (newSetObj w)).IsList l items := ⟨_, hol', rfl, nl, rfl⟩
        unfold Builtin.«set.__init__» noKeywords Builtin.Frozenset.updateFrom
        generalize hPI : pyIter = PI
        wp_walk
        subst hPI
        refine wpAny_pyIter_list hl1 (wpAny_bind (wpAny_runValue ?_))
        have lt : l < s.heap.objs.size := Heap.lt_size hol
        have hh3 : A.in1.in1.in1.handled = none := by simp [hh]
        have sz : (s.heap.push (newSetObj w)).objs.size = s.heap.objs.size + 1 := Heap.size_push ..
        have ne1 : l ≠ (s.heap.push (newSetObj w)).objs.size := by rw [sz]; exact Nat.ne_of_lt (Nat.lt_succ_of_lt lt)
        have free : ∀ b, s.heap.objs.size ≤ b → s.heap.get? b = none := fun b hb => by
          cases z : s.heap.get? b with
          | none => rfl
          | some o => exact absurd (Nat.lt_of_lt_of_le (Heap.lt_size z) hb) (Nat.lt_irrefl _)
        refine fill_loop (St := St) ((Walks.list hh3 _ l ne1 items).toS) s.heap.objs.size (by rw [sz]; simp only [List.mem_cons, List.mem_singleton, List.not_mem_nil, or_false, not_or]; exact ⟨Nat.ne_of_lt (Nat.lt_succ_self _), Nat.ne_of_gt lt⟩) s.heap (fs _ ?_) (free _ (Nat.le_refl _)) (fun b hb => free b (by rw [List.mem_singleton.mp hb, sz]; exact Nat.le_succ _)) (items.size - 0) 0 _ rfl (Nat.zero_le _)
          ⟨⟨_, Heap.get?_push_size _ rfl, rfl, rfl⟩, hl1.push _⟩ (fun b o e => Heap.get?_push_of_some _ (Heap.get?_push_of_some _ e)) (first _ (fun b o e => Heap.get?_push_of_some _ (Heap.get?_push_of_some _ e)) (Heap.get?_push_of_some _ hS)) fun s' mv st k => ?_
        · exact Nat.le_refl _
        · obtain ⟨h', g2, d', tk', os'⟩ := s'
          have eg : g2 = s.gens := mv.gens
          have ed : d' = s.drawn := mv.drawn
          have eo : os' = s.os := mv.os
          subst eg ed eo
          show wpAny _ _ _ _ _ _
          refine wpAny_pure ?_
          show wpAny _ _ (ret Value.none) _ _ _
          exact wpAny_pure ⟨rfl, h', tk', rfl, st, k⟩
      · cases r₂ with
        | error e => exact hr₂
        | ok fl₂ =>
          cases fl₂ with
          | ret r =>
            obtain ⟨rfl, h', tk, rfl, st, k⟩ := hr₂
            repeat (any_goals (first | assumption | wp_step))
            exact q _ _ st k
          | _ => exact hr₂.elim
    | _ => exact hr.elim
end
end PD

set_option maxHeartbeats 4000000
namespace PD
open PySem PySem.Spec PyProof.Rows L2
/-! ### len(set(xs)), xs tuples of ints and None -/
section
variable {P : Program} {w : World} {κ : Type} [DecidableEq κ] {kd : PySem.KeyKind P w κ} {A : Around} {E : Value → Shared → Prop} {s : Shared}
/-- what the set has got of the first i -/
structure Has (ks : List (Addr × List κ)) (i : Nat) (L : List (Addr × List κ)) : Prop where
  sub : ∀ p ∈ L, p ∈ ks.take i
  all : ∀ p ∈ ks.take i, p.2 ∈ L.map (·.2)
def TabS (kd : PySem.KeyKind P w κ) (ks : List (Addr × List κ)) (S : Addr) (i : Nat) (h : Heap) : Prop := ∃ L es ep t, Tab kd h S L es ep t ∧ Has ks i L
theorem isTup_keep {h h' : Heap} {k : List κ} {b : Addr} (x : IsTupleKey kd h k b) (kp : ∀ o, h.get? b = some o → h'.get? b = some o) : IsTupleKey kd h' k b := by
  obtain ⟨ob, its, m, hb, r⟩ := x
  exact ⟨ob, its, m, kp _ hb, r⟩
theorem take_more {α : Type} {l : List α} {i : Nat} {x : α} (h : l[i]? = some x) : l.take (i + 1) = l.take i ++ [x] := by
  rw [List.take_succ, h]; rfl
theorem tab_fills (fl : ByVal kd) {ks : List (Addr × List κ)} {h0 : Heap} {S : Addr} (n0 : h0.get? S = none) (tups : ∀ p ∈ ks, IsTupleKey kd h0 p.2 p.1) {items : Array Value} (eq : items.toList = ks.map fun p => Value.ref p.1)
    (few : ∀ L : List (Addr × List κ), (L.map (·.2)).Nodup → (∀ p ∈ L, p ∈ ks) → L.length + 1 < 64) (hu : A.units < cLine) : Fills P w A h0 S items.size (fun i v => items[i]? = some v) (TabS kd ks S) where
  stay := fun i h h' ⟨L, es, ep, t, T, g⟩ k1 k2 => ⟨L, es, ep, t, ⟨by obtain ⟨o, ho, r⟩ := T.obj; exact ⟨o, k1 o ho, r⟩, T.ents, T.lay, T.keys, fun p hp => isTup_keep (tups p (List.mem_of_mem_take (g.sub p hp))) fun o => k2 _ o, T.room⟩, g⟩
  step := fun i v s1 E R lt hv ⟨L, es, ep, t, T, g⟩ k r => by
    have q : items.toList[i]? = some v := by rw [Array.getElem?_toList]; exact hv
    rw [eq, List.getElem?_map] at q
    obtain ⟨p, hp, e⟩ := Option.map_eq_some_iff.mp q
    subst e
    have sub : ∀ p ∈ L, p ∈ ks := fun p hp => List.mem_of_mem_take (g.sub p hp)
    have hx : IsTupleKey kd s1.heap p.2 p.1 := isTup_keep (tups p (List.mem_of_getElem? hp)) fun o => k _ o
    unfold setAdd
    refine wpAny_holding ?_
    refine wpAny_bind (wpAny_pyHash_tuple hu hx ?_)
    refine g_add (s := { s1 with toks := s1.toks + (p.2.length + 1) }) fl T hx hu (few L T.keys sub) fun b h' L' es' ep' t' sb T' c1 c2 => r h' _ sb (Nat.le_add_right _ _) ⟨L', es', ep', t', T', ?_⟩
    rcases Classical.em (p.2 ∈ L.map (·.2)) with c | c
    · rw [c1 c]
      refine ⟨fun z hz => by rw [take_more hp]; exact List.mem_append_left _ (g.sub z hz), fun z hz => ?_⟩
      rw [take_more hp] at hz
      rcases List.mem_append.mp hz with m | m
      · exact g.all z m
      · rw [List.mem_singleton.mp m]; exact c
    · have pm := c2 c
      refine ⟨fun z hz => ?_, fun z hz => ?_⟩
      · rw [take_more hp]
        rcases List.mem_cons.mp (pm.mem_iff.mp hz) with m | m
        · rw [m]; exact List.mem_append_right _ (by simp)
        · exact List.mem_append_left _ (g.sub z m)
      · rw [(pm.map (·.2)).mem_iff, List.map_cons]
        rw [take_more hp] at hz
        rcases List.mem_append.mp hz with m | m
        · exact List.mem_cons_of_mem _ (g.all z m)
        · rw [List.mem_singleton.mp m]; exact List.mem_cons_self
theorem tab_first {ks : List (Addr × List κ)} {h : Heap} {S : Addr} (ho : h.get? S = some (newSetObj w)) : TabS kd ks S 0 h := by
  refine ⟨[], #[], 0, _, ⟨⟨_, ho, ⟨rfl, rfl, rfl⟩, rfl⟩, rfl, ⟨List.Pairwise.nil, rfl, rfl, .inl rfl, fun x hx => ?_, fun i h j hi => ?_⟩, List.nodup_nil, fun p hp => ?_, ?_⟩, ⟨fun p hp => ?_, fun p hp => ?_⟩⟩
  · cases hx
  · simp [hsOf] at hi
  · cases hp
  · show 0 * 5 < 7 * 3
    decide
  · cases hp
  · simp at hp
end
/-- a set of n items -/
def SizeN (n : Nat) (a : Addr) (h : Heap) : Prop := ∃ o es ep t, h.get? a = some o ∧ o.ExactSet ∧ o.data = .set es ep t ∧ t.fits es.size = true ∧ es.size = n
def SizeO (n : Nat) (a : Addr) : HO := .ext (SizeN n a)
theorem sizeO_ok {P : Program} {w : World} {H : Hp} {h : Heap} {a : Addr} {n : Nat} (x : SizeN n a h) : ObjOk P w H h a (SizeO n a) :=
  ⟨x, (by obtain ⟨o, _, _, _, ho, _⟩ := x; exact ⟨o, ho⟩), fun h1 h2 ⟨o, es, ep, t, ho, r⟩ k => ⟨o, es, ep, t, k _ ho, r⟩⟩
/-- an int or None -/
def oV : Option Int → V
  | none => .non
  | some i => .int i
def oD : Option Int → D
  | none => .non
  | some i => .int i
def oK : Option Int → Option Key
  | none => none
  | some i => some (.inl i)
theorem oK_inj {a b : Option Int} (h : oK a = oK b) : a = b := by
  cases a <;> cases b <;> first | rfl | (cases h; rfl) | cases h
/-- ints and None as keys -/
def oiKind (P : Program) (w : World) : PySem.KeyKind P w (Option Int) where
  is := fun k v => nkIs (oK k) v
  hash := fun k => (noneKind P w).hash (oK k)
  inj := fun v a b ha hb => oK_inj ((noneKind P w).inj v (oK a) (oK b) ha hb)
  byValue := fun k v h => (noneKind P w).byValue (oK k) v h
  pyHash := @fun A E s k v Q h q => (noneKind P w).pyHash (k := oK k) h q
  eqBool := @fun A E s a b u v Q hu hv q => (noneKind P w).eqBool (a := oK a) (b := oK b) hu hv (by
    have : decide (oK a = oK b) = decide (a = b) := by
      rw [decide_eq_decide]
      exact ⟨oK_inj, fun e => by rw [e]⟩
    rw [this]; exact q)
  «strs» := fun k x t v h => by
    cases k with
    | none => cases (show false = true from h)
    | some i => cases (show false = true from h)
theorem byVal_oi (P : Program) (w : World) : ByVal (oiKind P w) := fun k v h n => by
  cases k with
  | none =>
    have e := nk_none (show nkIs none v = true from h)
    subst e
    cases n <;> exact ⟨rfl, rfl⟩
  | some i =>
    obtain ⟨t, e⟩ := Value.isInt_shape (k := i) (v := v) h
    subst e
    cases n <;> exact ⟨rfl, rfl⟩
theorem items_opt {P : Program} {w : World} : ∀ {os : List (Option Int)} {its : List Value}, Vals (os.map oV) its → ItemsAre (oiKind P w) os its
  | [], _, r => by cases r; exact .nil
  | o :: os, _, r => by
    cases r with
    | cons h t =>
      refine .cons ?_ (items_opt t)
      cases o with
      | none => cases h; rfl
      | some i =>
        obtain ⟨tk, rfl⟩ := h
        show Value.isInt i (.int i tk) = true
        simp [Value.isInt]
section
variable {X : Cx}
theorem isOpt {pins : List (Addr × Obj)} {σ : L2.St} {H : Hp} {s : Shared} {b : Addr} {os : List (Option Int)} (I : Inv X pins σ H s) (h : SqT X.K H b (os.map oV)) : IsTupleKey (oiKind X.prog X.w) s.heap os b := by
  obtain ⟨its, r, ⟨o, ho, hc, n, hd⟩, _⟩ := I.tuple h
  exact ⟨o, its.toArray, n, ho, hc, hd, by simpa using items_opt r⟩
/-- set(xs), told by the number of different ones -/
def rSetO (K : PySem.W.Frag) : List V → Hp → VK → Prop := fun xs H Q => ∃ (l : Addr) (ks : List (Addr × List (Option Int))) (n : Nat), xs = [V.ref l] ∧ SqL K H l (ks.map fun p => V.ref p.1) ∧ (∀ p ∈ ks, SqT K H p.1 (p.2.map oV)) ∧
  (∀ L : List (List (Option Int)), L.Nodup → (∀ z ∈ L, z ∈ ks.map (·.2)) → L.length ≤ n ∧ ((∀ z ∈ ks.map (·.2), z ∈ L) → L.length = n)) ∧ n + 1 < 64 ∧ ∀ a, H a = none → Q (.ref a) (upd H a (SizeO n a))
theorem cr_setO (hc : X.calm = true) (hu : X.A.units + 64 < cLine) : CallR X (.type "set") (rSetO X.K) := by
  intro pins s σ H xs us Q I r h
  obtain ⟨l, ks, n, rfl, hl, hk, hn, hf, q⟩ := h
  rw [Vals.ref1 r]
  obtain ⟨its, rv, pl, hz⟩ := I.list hl
  have free : H s.heap.objs.size = none := I.hok.fresh (Nat.le_refl _)
  have gone : s.heap.get? s.heap.objs.size = none := by
    cases z : s.heap.get? s.heap.objs.size with
    | none => rfl
    | some o => exact absurd (Heap.lt_size z) (Nat.lt_irrefl _)
  have ev : its = ks.map fun p => Value.ref p.1 := by
    have := refs_at (by rw [List.map_map]; exact rv : Vals ((ks.map (·.1)).map V.ref) its)
    rw [this, List.map_map]; rfl
  have isz : its.length = ks.length := by rw [ev, List.length_map]
  have bound : ∀ L : List (Addr × List (Option Int)), (L.map (·.2)).Nodup → (∀ p ∈ L, p ∈ ks) → L.length + 1 < 64 := fun L nd sub => by
    have := (hn (L.map (·.2)) nd fun z hz => by
      obtain ⟨p, hp, rfl⟩ := List.mem_map.mp hz
      exact List.mem_map.mpr ⟨p, sub p hp, rfl⟩).1
    rw [List.length_map] at this
    omega
  refine fill_list (P := X.prog) (w := X.w) (St := TabS (oiKind X.prog X.w) ks s.heap.objs.size) (I.ok.hd hc) pl.isList (fun A' le => tab_fills (byVal_oi X.prog X.w) gone (fun p hp => isOpt I (hk p hp)) (by simpa using ev) bound (by omega)) (fun h' _ ho => tab_first ho) fun h' tk ⟨L, es, ep, t, T, g⟩ k => ?_
  have sz : its.toArray.size = ks.length := by simp [isz]
  rw [sz] at g
  have gl : L.length = n := by
    have := (hn (L.map (·.2)) T.keys fun z hz => by
      obtain ⟨p, hp, rfl⟩ := List.mem_map.mp hz
      exact List.mem_map.mpr ⟨p, List.mem_of_mem_take (g.sub p hp), rfl⟩).2 fun z hz => by
      obtain ⟨p, hp, rfl⟩ := List.mem_map.mp hz
      exact g.all p (by rw [List.take_length]; exact hp)
    rw [List.length_map] at this
    exact this
  have sn : SizeN n s.heap.objs.size h' := by
    obtain ⟨o, ho, hx, hd⟩ := T.obj
    exact ⟨o, es, ep, t, ho, hx, hd, Tab.fits (s := { s with heap := h' }) T, by rw [ents_len T.ents, gl]⟩
  exact ⟨.ref s.heap.objs.size, upd H s.heap.objs.size (SizeO n s.heap.objs.size), I.laid (t' := tk) k (Nat.le_refl _) (sizeO_ok sn), rfl, q _ free⟩
def rLenO : List V → Hp → VK → Prop := fun xs H Q => ∃ (a : Addr) (n : Nat), xs = [V.ref a] ∧ H a = some (SizeO n a) ∧ n < 64 ∧ Q (.int n) H
theorem cr_lenO : CallR X (.builtin "len") rLenO := by
  intro pins s σ H xs us Q I r h
  obtain ⟨a, n, rfl, ha, hn, q⟩ := h
  rw [Vals.ref1 r]
  obtain ⟨o, es, ep, t, ho, hx, hd, hf, e⟩ := (I.hok a _ ha).1
  exact call_len_set ho hx hd hf (by rw [e]; omega) ⟨.int n, H, I.tok _, ⟨_, by rw [e]⟩, q⟩
end
/-! ### as a rule -/
def optI : List D → Option (List (Option Int))
  | [] => some []
  | .int i :: r => (optI r).map (some i :: ·)
  | .non :: r => (optI r).map (none :: ·)
  | _ => none
def optsI : List D → Option (List (List (Option Int)))
  | [] => some []
  | .tup r :: ds => match optI r, optsI ds with
    | some o, some os => some (o :: os)
    | _, _ => none
  | _ => none
def oT (o : List (Option Int)) : D := .tup (o.map oD)
theorem optI_eq : ∀ {ds : List D} {os : List (Option Int)}, optI ds = some os → ds = os.map oD
  | [], os, h => by cases h; rfl
  | d :: ds, os, h => by
    cases d with
    | int i =>
      obtain ⟨r, h1, h2⟩ := Option.map_eq_some_iff.mp (show (optI ds).map (some i :: ·) = some os from h)
      rw [← h2, List.map_cons, ← optI_eq h1]; rfl
    | non =>
      obtain ⟨r, h1, h2⟩ := Option.map_eq_some_iff.mp (show (optI ds).map (none :: ·) = some os from h)
      rw [← h2, List.map_cons, ← optI_eq h1]; rfl
    | _ => cases h
theorem optsI_eq : ∀ {ds : List D} {ks : List (List (Option Int))}, optsI ds = some ks → ds = ks.map oT
  | [], ks, h => by cases h; rfl
  | d :: ds, ks, h => by
    unfold optsI at h
    split at h
    · rename_i q; cases q
    · rename_i r ds' q
      cases q
      split at h
      · rename_i o os h1 h2
        cases h
        rw [List.map_cons, ← optsI_eq h2, optI_eq h1]; rfl
      · cases h
    · cases h
def ddO : List (List (Option Int)) → List (List (Option Int))
  | [] => []
  | x :: xs => if x ∈ xs then ddO xs else x :: ddO xs
theorem ddO_mem {z : List (Option Int)} : ∀ {l : List (List (Option Int))}, z ∈ ddO l ↔ z ∈ l
  | [] => by simp [ddO]
  | x :: xs => by
    unfold ddO
    split
    · rename_i h
      rw [ddO_mem (l := xs), List.mem_cons]
      exact ⟨.inr, fun q => q.elim (fun e => by rw [e]; exact h) id⟩
    · rw [List.mem_cons, List.mem_cons, ddO_mem (l := xs)]
theorem ddO_nd : ∀ l : List (List (Option Int)), (ddO l).Nodup
  | [] => by simp [ddO]
  | x :: xs => by
    unfold ddO
    split
    · exact ddO_nd xs
    · rename_i h
      exact List.nodup_cons.mpr ⟨fun q => h (ddO_mem.mp q), ddO_nd xs⟩
def lenSetD : List D → Option D
  | [.lst ds] => match optsI ds with
    | some ks => if (ddO ks).length + 1 < 64 then some (.int (ddO ks).length) else none
    | none => none
  | _ => none
theorem reps_opt {K : PySem.W.Frag} {F : Hp} : ∀ {os : List (Option Int)} {vs : List V}, Reps K F vs (os.map oD) → vs = os.map oV
  | [], _, h => by cases h; rfl
  | o :: os, _, h => by
    cases h with
    | cons a b =>
      rw [reps_opt b, List.map_cons]
      cases o <;> cases a <;> rfl
theorem oplaces {K : PySem.W.Frag} {F : Hp} : ∀ {ks : List (List (Option Int))} {vs : List V}, Reps K F vs (ks.map oT) → ∃ ps : List (Addr × List (Option Int)), vs = ps.map (fun p => V.ref p.1) ∧ ps.map (·.2) = ks ∧ ∀ p ∈ ps, TupAt F p.1 (p.2.map oV)
  | [], _, h => by cases h; exact ⟨[], rfl, rfl, by simp⟩
  | k :: ks, _, h => by
    cases h with
    | cons a b =>
      obtain ⟨ps, e1, e2, e3⟩ := oplaces b
      cases a with
      | @tup c zs _ g1 g2 g3 =>
        have e4 : zs = k.map oV := reps_opt g3
        subst e4
        refine ⟨(c, k) :: ps, by rw [e1]; rfl, by rw [List.map_cons, e2], fun p hp => ?_⟩
        rcases List.mem_cons.mp hp with e | hp
        · subst e; exact g1
        · exact e3 p hp
section
variable {X : Cx} {cls : Exc → Addr} {W : WX} {a : Expr} {fs : EnvD → R (List D)} {p p2 pos pos2 : Pos}
theorem pd_lenSet (hc : X.calm = true) (hu : X.A.units + 64 < cLine) (hg : Gl X "len") (hm : X.mg "len" = none) (hg2 : Gl X "set") (hm2 : X.mg "set" = none) (ha : PDA X cls W (pB' X.K) [a] fs)
    (na : starEach [a] X.env = (false, eval a X.env) :: starEach [] X.env := by rfl) (na2 : starEach [.Call (.Name "set" p2) [a] [] pos2] X.env = (false, eval (.Call (.Name "set" p2) [a] [] pos2) X.env) :: starEach [] X.env := by rfl)
    (hpl : (backTo pos2 (starEach [] X.env)).any (·.1) = false := by rfl) (hpl2 : (backTo pos (starEach [] X.env)).any (·.1) = false := by rfl) :
    PDE X cls W (pV X.K) (.Call (.Name "len" p) [.Call (.Name "set" p2) [a] [] pos2] [] pos) (appL lenSetD fs) :=
  pe_imp (pe_callB cr_lenO hg hm boot_len (pa_cons (pe_callTy (cr_setO hc hu) hg2 hm2 boot_set ha (by decide) (by decide) na hpl) pa_nil na2) (by decide) (by decide) na2 hpl2) fun σ H Q ⟨H0, F, env, ea, g⟩ =>
    ⟨H0, F, env, ea, (Go.bind g).imp fun xs H1 ⟨F1, ds, _, e1, p1, g1⟩ => by
      obtain ⟨z, hz, g2⟩ := Go.ofO g1
      unfold lenSetD at hz
      split at hz
      · rename_i es
        split at hz
        · rename_i ks hks
          split at hz
          · rename_i h64
            cases hz
            have ek := optsI_eq hks
            obtain ⟨v, rfl, r⟩ := repBs1 p1
            obtain ⟨l, ys, rfl, h1, h2, h3⟩ := repB_lst e1.i r
            rw [ek] at h3
            obtain ⟨ps, q1, q2, q3⟩ := oplaces h3
            rw [q1] at h1
            refine ⟨l, ps, (ddO ks).length, rfl, SqL.of h1, fun p hp => e1.i.tupS (q3 p hp).sq, fun L nd sub => ⟨?_, fun all => ?_⟩, h64, fun q hq => ?_⟩
            · exact nodT_le nd fun z hz => ddO_mem.mpr (by rw [← q2]; exact sub z hz)
            · have : L.Perm (ddO ks) := (List.perm_ext_iff_of_nodup nd (ddO_nd ks)).mpr fun z => by
                rw [ddO_mem, ← q2]
                exact ⟨sub z, all z⟩
              exact this.length_eq
            · refine ⟨q, (ddO ks).length, rfl, upd_same, by omega, ?_⟩
              exact g2 _ F1 _ (Ext.newH e1.i hq) (.int _)
          · cases hz
        · cases hz
      · cases hz⟩
end

/-! ### a new dict, frozen -/
def mkM (f : EnvD → R (Bool × List D × List D)) : EnvD → R D := fun env => (f env).map fun d => D.dic d.2.1 d.2.2
theorem coeMV {X : Cx} {cls : Exc → Addr} {W : WX} {e : Expr} {f : EnvD → R (Bool × List D × List D)} (h : PDE X cls W (pM X.K) e f) : PDE X cls W (pV X.K) e (mkM f) := pe_imp h fun σ H Q ⟨H0, F, env, ea, g⟩ => ⟨H0, F, env, ea, by
  unfold mkM at g
  cases q : f env with
  | ok d =>
    rw [q] at g
    rintro v F' H' x ⟨p, u, rfl, h1, h2, h3, h4⟩
    refine g _ (upd F' p u) H' (x.frz h1 h3 h2) ?_
    have m : DicAt X.K (upd F' p u) p u d.1 d.2.1 d.2.2 := h4.mono (Same.updN h2)
    obtain ⟨t, ks, vs⟩ := d
    cases m with
    | k l r => exact .dicK (.inl upd_same) l r
    | t kl l r => exact .dicT (.inl upd_same) kl l r
  | err c => rw [q] at g; exact g
  | bad => rw [q] at g; exact g⟩
end PD

set_option maxHeartbeats 4000000
namespace PD
open PySem PySem.Spec PyProof.Rows L2
def G_is_int : EnvD → Out := (retS (andV (una (fun d => toD (isIntD d)) (getB 0)) (andV (notV (una (fun d => toD (isBoolD d)) (getB 0))) (asV (chain leI leI (getV 1) (getV 0) (getV 2))))))
def fD_is_int : List D → R D := fnD 3 3 G_is_int
def G_covers : EnvD → Out := (retS (andV (asV (chain leI ltI (bin ixD (getB 0) (cst (.int 0))) (bin ixD (getB 1) (cst (.int 0))) (bin ixD (getB 0) (cst (.int 2))))) (asV (chain leI ltI (bin ixD (getB 0) (cst (.int 1))) (bin ixD (getB 1) (cst (.int 1))) (bin ixD (getB 0) (cst (.int 3)))))))
def fD_covers : List D → R D := fnD 2 2 G_covers
def G_cells_of : EnvD → Out := (retS (mkL (lc2F (.nm 1) [1, 2] yesF (appL asRng2 (consF (bin ixD (getB 0) (cst (.int 1))) (consF (bin ixD (getB 0) (cst (.int 3))) nilF))) (.nm 2) [2] yesF (tupF (consF (getV 1) (consF (getV 2) nilF))) (appL asRng2 (consF (bin ixD (getB 0) (cst (.int 0))) (consF (bin ixD (getB 0) (cst (.int 2))) nilF))))))
def fD_cells_of : List D → R D := fnD 3 1 G_cells_of
def G_top_of : EnvD → Out := (seqS (setS 2 (mkL (lcF (.nm 3) [3] (bin inD (getB 3) (getB 1)) (getV 3) (seqF (getV 0))))) (retS (ifF (bin neD (getB 2) (mkL (lstF nilF))) (bin ixD (getB 2) (una negD (cst (.int 1)))) (cst .non))))
def fD_top_of : List D → R D := fnD 4 2 G_top_of
def B_all_orders_0 : EnvD → Out := (setS 1 (mkL (lc2F (.nm 3) [3, 4] yesF (appL asRng1 (consF (getB 0) nilF)) (.nm 4) [4] (bin notInD (getB 4) (getB 3)) (bin addD (getV 3) (tupF (consF (getV 4) nilF))) (seqF (getV 1)))))
def G_all_orders : EnvD → Out := (seqS (setS 1 (mkL (lstF (consF (tupF nilF) nilF)))) (seqS (forS (.nm 2) (appL asRng1 (consF (getB 0) nilF)) B_all_orders_0) (retS (getV 1))))
def fD_all_orders : List D → R D := fnD 5 1 G_all_orders
def B__law_pick_0 : EnvD → Out := (setPar 5 6 (slV (bin fdivD (getV 5) (cst (.int 840)))) (slV (bin subD (getV 6) (cst (.int 1)))))
def G__law_pick : EnvD → Out := (seqS (setS 3 (ifF (bin neD (getB 0) (mkL (lstF nilF))) (bin ixD (getB 0) (bin modD (getV 1) (appL lenD (consF (getB 0) nilF)))) (cst (.int 0)))) (seqS (setPar 5 6 (slV (bin fdivD (getV 3) (bin powD (cst (.int 10)) (cst (.int 18))))) (slV (bin fdivD (getV 1) (appL max2D (consF (appL lenD (consF (getB 0) nilF)) (consF (cst (.int 1)) nilF)))))) (seqS (whileL (andF (bin gtI (getV 5) (cst (.int 0))) (bin gtI (getV 6) (cst (.int 0)))) B__law_pick_0 3000) (seqS (ifS (bin gtI (getV 5) (cst (.int 0))) (retS (bin modD (bin modD (getV 5) (cst (.int 840))) (getV 2))) skipS) (seqS (setS 4 (bin modD (bin mulD (bin addD (bin mulD (getV 3) (cst (.int 31))) (bin mulD (cst (.int 6151)) (bin addD (getV 1) (cst (.int 1))))) (cst (.int 40692))) (cst (.int 2147483399)))) (retS (bin modD (bin modD (bin addD (bin mulD (getV 4) (getV 4)) (bin fdivD (getV 4) (cst (.int 31)))) (cst (.int 2147483629))) (getV 2))))))))
def fD__law_pick : List D → R D := fnD 7 3 G__law_pick
def G__law_in : EnvD → Out := (seqS (unpS (.tp [3, 4, 5, 6]) (getV 0)) (retS (andV (bin (fun x y => toD (leI x y)) (getV 3) (getV 1)) (andV (bin (fun x y => toD (ltI x y)) (getV 1) (getV 5)) (andV (bin (fun x y => toD (leI x y)) (getV 4) (getV 2)) (bin (fun x y => toD (ltI x y)) (getV 2) (getV 6)))))))
def fD__law_in : List D → R D := fnD 7 3 G__law_in
def B__law_orders_0 : EnvD → Out := (extS 3 (lcF (.nm 5) [5] (bin notInD (getB 5) (getB 4)) (bin addD (getV 4) (tupF (consF (getV 5) nilF))) (appL asRng1 (consF (getB 0) nilF))))
def B__law_orders_1 : EnvD → Out := (seqS (setO 3 (lstF nilF)) (seqS (forS (.nm 4) (seqF (getV 1)) B__law_orders_0) (frzS 3 (setS 1 (getV 3)))))
def G__law_orders : EnvD → Out := (seqS (setS 1 (mkL (lstF (consF (tupF nilF) nilF)))) (seqS (forS (.nm 2) (appL asRng1 (consF (getB 0) nilF)) B__law_orders_1) (retS (getV 1))))
def fD__law_orders : List D → R D := fnD 6 1 G__law_orders
def G_is_window : EnvD → Out := (seqS (ifS (orF (notF (tst (una (fun d => toD (isTupD d)) (getB 0)))) (bin neD (appL lenD (consF (getB 0) nilF)) (cst (.int 4)))) (retS (cst (.bl false))) skipS) (seqS (ifS (notF (tst (appL allD (consF (mkL (lcF (.nm 1) [1] yesF (callF fD_is_int (consF (getV 1) (consF (cst (.int 0)) (consF (cst (.int 12)) nilF)))) (seqF (getV 0)))) nilF)))) (retS (cst (.bl false))) skipS) (retS (andV (bin (fun x y => toD (ltI x y)) (bin ixD (getB 0) (cst (.int 0))) (bin ixD (getB 0) (cst (.int 2)))) (bin (fun x y => toD (ltI x y)) (bin ixD (getB 0) (cst (.int 1))) (bin ixD (getB 0) (cst (.int 3))))))))
def fD_is_window : List D → R D := fnD 2 1 G_is_window
def G_has_order : EnvD → Out := (seqS (ifS (orF (notF (tst (una (fun d => toD (isTupD d)) (getB 1)))) (notF (tst (appL allD (consF (mkL (lcF (.nm 2) [2] yesF (callF fD_is_int (consF (getV 2) (consF (cst (.int 0)) (consF (bin subD (appL lenD (consF (getB 0) nilF)) (cst (.int 1))) nilF)))) (seqF (getV 1)))) nilF))))) (retS (cst (.bl false))) skipS) (retS (bin (fun x y => toD (eqD x y)) (mkL (appL sortD (consF (getB 1) nilF))) (mkL (rngL1 (appL lenD (consF (getB 0) nilF)))))))
def fD_has_order : List D → R D := fnD 3 2 G_has_order
def G_region_at : EnvD → Out := (retS (appL tupleD (consF (mkL (lcF (.tp [2, 3]) [2, 3] (tst (callF fD_covers (consF (getV 3) (consF (getV 1) nilF)))) (getV 2) (enumF (getV 0)))) nilF)))
def fD_region_at : List D → R D := fnD 4 2 G_region_at
def B_all_cells_0 : EnvD → Out := (dputS 1 (getV 3) (cst (.bl true)))
def B_all_cells_1 : EnvD → Out := (forS (.nm 3) (seqF (callF fD_cells_of (consF (getV 2) nilF))) B_all_cells_0)
def G_all_cells : EnvD → Out := (seqS (setM 1 newT) (seqS (forS (.nm 2) (seqF (getV 0)) B_all_cells_1) (retS (mkL (appL sortD (consF (getB 1) nilF))))))
def fD_all_cells : List D → R D := fnD 4 1 G_all_cells
def G_look_of : EnvD → Out := (retS (appL tupleD (consF (mkL (lcF (.nm 2) [2] yesF (callF fD_top_of (consF (getV 1) (consF (getV 2) nilF))) (seqF (getV 0)))) nilF)))
def fD_look_of : List D → R D := fnD 3 2 G_look_of
def G__law_pane : EnvD → Out := (seqS (setS 2 (bin ixD (tupF (consF (cst (.int 1)) (consF (cst (.int 2)) (consF (cst (.int 2)) (consF (cst (.int 3)) nilF))))) (callF fD__law_pick (consF (getV 0) (consF (getV 1) (consF (cst (.int 4)) nilF)))))) (seqS (setPar 3 4 (slV (bin mulD (getV 2) (callF fD__law_pick (consF (getV 0) (consF (bin addD (getV 1) (cst (.int 1))) (consF (cst (.int 3)) nilF)))))) (slV (bin mulD (getV 2) (callF fD__law_pick (consF (getV 0) (consF (bin addD (getV 1) (cst (.int 2))) (consF (cst (.int 3)) nilF))))))) (seqS (setPar 5 6 (slV (bin mulD (getV 2) (bin addD (cst (.int 1)) (callF fD__law_pick (consF (getV 0) (consF (bin addD (getV 1) (cst (.int 3))) (consF (cst (.int 2)) nilF))))))) (slV (bin mulD (getV 2) (bin addD (cst (.int 1)) (callF fD__law_pick (consF (getV 0) (consF (bin addD (getV 1) (cst (.int 4))) (consF (cst (.int 2)) nilF)))))))) (retS (tupF (consF (getV 3) (consF (getV 4) (consF (appL min2D (consF (bin addD (getV 3) (getV 5)) (consF (cst (.int 12)) nilF))) (consF (appL min2D (consF (bin addD (getV 4) (getV 6)) (consF (cst (.int 12)) nilF))) nilF)))))))))
def fD__law_pane : List D → R D := fnD 7 2 G__law_pane
def B__law_order_0 : EnvD → Out := (appPopS 4 3 (callF fD__law_pick (consF (getV 0) (consF (bin addD (getV 1) (appL lenD (consF (getB 3) nilF))) (consF (appL lenD (consF (getB 3) nilF)) nilF)))))
def G__law_order : EnvD → Out := (seqS (setPar 3 4 (slN (rngL1 (getV 2))) (slN (lstF nilF))) (seqS (whileL (bin neD (getB 3) (mkL (lstF nilF))) B__law_order_0 3000) (retS (appL tupleD (consF (getB 4) nilF)))))
def fD__law_order : List D → R D := fnD 5 3 G__law_order
def B__law_top_0 : EnvD → Out := (ifS (tst (callF fD__law_in (consF (bin ixD (getB 0) (getV 5)) (consF (getV 2) (consF (getV 3) nilF))))) (setS 4 (getV 5)) skipS)
def G__law_top : EnvD → Out := (seqS (setS 4 (cst .non)) (seqS (forS (.nm 5) (seqF (getV 1)) B__law_top_0) (retS (getV 4))))
def fD__law_top : List D → R D := fnD 6 4 G__law_top
def G_are_windows : EnvD → Out := (seqS (ifS (orF (notF (tst (una (fun d => toD (isTupD d)) (getB 0)))) (bin gtI (appL lenD (consF (getB 0) nilF)) (cst (.int 6)))) (retS (cst (.bl false))) skipS) (retS (appL allD (consF (mkL (lcF (.nm 1) [1] yesF (callF fD_is_window (consF (getV 1) nilF)) (seqF (getV 0)))) nilF))))
def fD_are_windows : List D → R D := fnD 2 1 G_are_windows
def G_check_order : EnvD → Out := (ifS (notF (tst (callF fD_has_order (consF (getV 0) (consF (getV 1) nilF))))) (raiseS .order) skipS)
def fD_check_order : List D → R D := fnD 2 2 G_check_order
def G_find_regions : EnvD → Out := (retS (mkL (appL sdT (consF (mkL (lcF (.nm 1) [1] yesF (callF fD_region_at (consF (getV 0) (consF (getV 1) nilF))) (seqF (callF fD_all_cells (consF (getV 0) nilF))))) nilF))))
def fD_find_regions : List D → R D := fnD 2 1 G_find_regions
def G__law_panes : EnvD → Out := (retS (appL tupleD (consF (mkL (lcF (.nm 3) [3] yesF (callF fD__law_pane (consF (getV 0) (consF (bin addD (bin addD (getV 1) (cst (.int 1))) (bin mulD (cst (.int 5)) (getV 3))) nilF))) (appL asRng1 (consF (callF fD__law_pick (consF (getV 0) (consF (getV 1) (consF (bin addD (getV 2) (cst (.int 1))) nilF)))) nilF)))) nilF)))
def fD__law_panes : List D → R D := fnD 4 3 G__law_panes
def B__law_screen_0 : EnvD → Out := (extS 2 (lcF (.nm 4) [4] yesF (callF fD__law_top (consF (getV 0) (consF (getV 1) (consF (getV 3) (consF (getV 4) nilF))))) (appL asRng1 (consF (cst (.int 12)) nilF))))
def G__law_screen : EnvD → Out := (seqS (setO 2 (lstF nilF)) (seqS (forS (.nm 3) (appL asRng1 (consF (cst (.int 12)) nilF)) B__law_screen_0) (frzS 2 (retS (getV 2)))))
def fD__law_screen : List D → R D := fnD 5 2 G__law_screen
def G_check_windows : EnvD → Out := (ifS (notF (tst (callF fD_are_windows (consF (getV 0) nilF)))) (raiseS .windows) skipS)
def fD_check_windows : List D → R D := fnD 1 1 G_check_windows
def G_find_alike : EnvD → Out := (seqS (setS 2 (callF fD_find_regions (consF (getV 0) nilF))) (seqS (setS 3 (callF fD_look_of (consF (getV 2) (consF (getV 1) nilF)))) (retS (mkL (lcF (.nm 4) [4] (bin eqD (callF fD_look_of (consF (getV 2) (consF (getV 4) nilF))) (getB 3)) (getV 4) (seqF (callF fD_all_orders (consF (appL lenD (consF (getB 0) nilF)) nilF))))))))
def fD_find_alike : List D → R D := fnD 5 2 G_find_alike
def G_check_both : EnvD → Out := (seqS (dropS (callF fD_check_windows (consF (getV 0) nilF))) (dropS (callF fD_check_order (consF (getV 0) (consF (getV 1) nilF)))))
def fD_check_both : List D → R D := fnD 2 2 G_check_both
def G_regions : EnvD → Out := (seqS (dropS (callF fD_check_windows (consF (getV 0) nilF))) (retS (callF fD_find_regions (consF (getV 0) nilF))))
def fD_regions : List D → R D := fnD 1 1 G_regions
def G_count_looks : EnvD → Out := (seqS (dropS (callF fD_check_windows (consF (getV 0) nilF))) (seqS (setS 1 (callF fD_find_regions (consF (getV 0) nilF))) (retS (appL lenSetD (consF (mkL (lcF (.nm 2) [2] yesF (callF fD_look_of (consF (getV 1) (consF (getV 2) nilF))) (seqF (callF fD_all_orders (consF (appL lenD (consF (getB 0) nilF)) nilF))))) nilF)))))
def fD_count_looks : List D → R D := fnD 3 1 G_count_looks
def G_check_two : EnvD → Out := (seqS (dropS (callF fD_check_both (consF (getV 0) (consF (getV 1) nilF)))) (dropS (callF fD_check_order (consF (getV 0) (consF (getV 2) nilF)))))
def fD_check_two : List D → R D := fnD 3 3 G_check_two
def G_alike_orders : EnvD → Out := (seqS (dropS (callF fD_check_both (consF (getV 0) (consF (getV 1) nilF)))) (retS (callF fD_find_alike (consF (getV 0) (consF (getV 1) nilF)))))
def fD_alike_orders : List D → R D := fnD 2 2 G_alike_orders
def B_sure_pairs_0 : EnvD → Out := (ifS (andF (bin neD (getB 2) (getB 5)) (tst (appL allD (consF (mkL (lcF (.nm 6) [6] yesF (bin (fun x y => toD (gtI x y)) (metT tixD (getV 6) (consF (getV 2) nilF)) (metT tixD (getV 6) (consF (getV 5) nilF))) (seqF (getV 3)))) nilF)))) (appS 4 (tupF (consF (getV 2) (consF (getV 5) nilF)))) skipS)
def B_sure_pairs_1 : EnvD → Out := (forS (.nm 5) (appL asRng1 (consF (appL lenD (consF (getB 0) nilF)) nilF)) B_sure_pairs_0)
def G_sure_pairs : EnvD → Out := (seqS (dropS (callF fD_check_both (consF (getV 0) (consF (getV 1) nilF)))) (seqS (setPar 3 4 (slV (callF fD_find_alike (consF (getV 0) (consF (getV 1) nilF)))) (slN (lstF nilF))) (seqS (forS (.nm 2) (appL asRng1 (consF (appL lenD (consF (getB 0) nilF)) nilF)) B_sure_pairs_1) (frzS 4 (retS (getV 4))))))
def fD_sure_pairs : List D → R D := fnD 7 2 G_sure_pairs
def G_are_alike : EnvD → Out := (seqS (dropS (callF fD_check_two (consF (getV 0) (consF (getV 1) (consF (getV 2) nilF))))) (seqS (setS 3 (callF fD_find_regions (consF (getV 0) nilF))) (retS (bin (fun x y => toD (eqD x y)) (callF fD_look_of (consF (getV 3) (consF (getV 1) nilF))) (callF fD_look_of (consF (getV 3) (consF (getV 2) nilF)))))))
def fD_are_alike : List D → R D := fnD 4 3 G_are_alike
def B_parting_cell_0 : EnvD → Out := (seqS (setS 4 (callF fD_region_at (consF (getV 0) (consF (getV 3) nilF)))) (ifS (bin neD (callF fD_top_of (consF (getV 1) (consF (getV 4) nilF))) (callF fD_top_of (consF (getV 2) (consF (getV 4) nilF)))) (retS (getV 3)) skipS))
def G_parting_cell : EnvD → Out := (seqS (dropS (callF fD_check_two (consF (getV 0) (consF (getV 1) (consF (getV 2) nilF))))) (seqS (forS (.nm 3) (seqF (callF fD_all_cells (consF (getV 0) nilF))) B_parting_cell_0) (retS (cst .non))))
def fD_parting_cell : List D → R D := fnD 5 3 G_parting_cell
def B_law_0 : EnvD → Out := (seqS (setS 15 (mkL (lcF (.nm 17) [17] yesF (mkL (lcF (.nm 18) [18] yesF (bin (fun x y => toD (gtI x y)) (metT tixD (getV 18) (consF (getV 9) nilF)) (metT tixD (getV 18) (consF (getV 17) nilF))) (seqF (getV 7)))) (appL asRng1 (consF (getB 3) nilF))))) (extS 8 (lcF (.nm 17) [17] (andF (bin neD (getB 9) (getB 17)) (tst (appL allD (consF (bin ixD (getB 15) (getV 17)) nilF)))) (tupF (consF (getV 9) (consF (getV 17) nilF))) (appL asRng1 (consF (getB 3) nilF)))))
def B_law_1 : EnvD → Out := (appS 11 (appL tupleD (consF (mkL (lcF (.nm 19) [19] (tst (callF fD__law_in (consF (bin ixD (getB 2) (getV 19)) (consF (getV 4) (consF (getV 12) nilF))))) (getV 19) (appL asRng1 (consF (getB 3) nilF)))) nilF)))
def B_law_2 : EnvD → Out := (extS 10 (lcF (.nm 12) [12] yesF (tupF (consF (getV 4) (consF (getV 12) nilF))) (appL asRng1 (consF (cst (.int 12)) nilF))))
def B_law_3 : EnvD → Out := (seqS (setS 2 (callF fD__law_panes (consF (getV 0) (consF (bin mulD (cst (.int 60)) (getV 1)) (consF (cst (.int 4)) nilF))))) (seqS (setS 3 (appL lenD (consF (getB 2) nilF))) (seqS (setPar 10 11 (slN (lstF nilF)) (slN (lstF nilF))) (seqS (forS (.nm 4) (appL asRng1 (consF (cst (.int 12)) nilF)) B_law_2) (frzS 10 (seqS (forS (.tp [4, 12]) (seqF (getV 10)) B_law_1) (seqS (ifS (bin neD (callF fD_regions (consF (getV 2) nilF)) (mkL (appL sdT (consF (mkL (lcF (.nm 20) [20] (bin neD (getB 20) (tupF nilF)) (getV 20) (seqF (getB 11)))) nilF)))) (retS (cst (.bl false))) skipS) (seqS (setPar 13 14 (slV (callF fD__law_order (consF (getV 0) (consF (bin addD (bin mulD (cst (.int 60)) (getV 1)) (cst (.int 30))) (consF (getV 3) nilF))))) (slV (callF fD__law_order (consF (getV 0) (consF (bin addD (bin mulD (cst (.int 60)) (getV 1)) (cst (.int 40))) (consF (getV 3) nilF)))))) (seqS (setS 5 (mkM (appL dictD (consF (mkL (lcF (.nm 9) [9] yesF (tupF (consF (getV 9) (consF (callF fD__law_screen (consF (getV 2) (consF (getV 9) nilF))) nilF))) (seqF (callF fD__law_orders (consF (getV 3) nilF))))) nilF)))) (seqS (setS 6 (mkL (lcF (.nm 16) [16] (bin neD (bin ixD (bin dixD (getB 5) (getV 13)) (getV 16)) (bin ixD (bin dixD (getB 5) (getV 14)) (getV 16))) (bin ixD (getB 10) (getV 16)) (appL asRng1 (consF (cst (.int 144)) nilF))))) (seqS (ifS (bin neD (callF fD_are_alike (consF (getV 2) (consF (getV 13) (consF (getV 14) nilF)))) (bin (fun x y => toD (eqD x y)) (getB 6) (mkL (lstF nilF)))) (retS (cst (.bl false))) skipS) (seqS (ifS (bin neD (callF fD_parting_cell (consF (getV 2) (consF (getV 13) (consF (getV 14) nilF)))) (ifF (bin neD (getB 6) (mkL (lstF nilF))) (bin ixD (getB 6) (cst (.int 0))) (cst .non))) (retS (cst (.bl false))) skipS) (seqS (ifS (bin neD (callF fD_count_looks (consF (getV 2) nilF)) (appL lenSetD (consF (mkL (lcVF 5 (.nm 9) [9] yesF (appL tupleD (consF (bin dixD (getB 5) (getV 9)) nilF)))) nilF))) (retS (cst (.bl false))) skipS) (seqS (setS 7 (mkL (lcF (.nm 9) [9] (bin eqD (bin dixD (getB 5) (getV 9)) (bin dixD (getB 5) (getV 13))) (getV 9) (seqF (callF fD__law_orders (consF (getV 3) nilF)))))) (seqS (ifS (bin neD (callF fD_alike_orders (consF (getV 2) (consF (getV 13) nilF))) (getB 7)) (retS (cst (.bl false))) skipS) (seqS (setO 8 (lstF nilF)) (seqS (forS (.nm 9) (appL asRng1 (consF (getB 3) nilF)) B_law_0) (ifS (bin neD (callF fD_sure_pairs (consF (getV 2) (consF (getV 13) nilF))) (getB 8)) (retS (cst (.bl false))) skipS))))))))))))))))))
def G_law : EnvD → Out := (seqS (forS (.nm 1) (appL asRng1 (consF (cst (.int 2)) nilF)) B_law_3) (retS (andV (bin (fun x y => toD (eqD x y)) (callF fD_count_looks (consF (tupF (consF (tupF (consF (cst (.int 0)) (consF (cst (.int 0)) (consF (cst (.int 4)) (consF (cst (.int 4)) nilF))))) (consF (tupF (consF (cst (.int 2)) (consF (cst (.int 2)) (consF (cst (.int 6)) (consF (cst (.int 6)) nilF))))) (consF (tupF (consF (cst (.int 3)) (consF (cst (.int 0)) (consF (cst (.int 5)) (consF (cst (.int 3)) nilF))))) nilF)))) nilF)) (cst (.int 6))) (bin (fun x y => toD (eqD x y)) (callF fD_count_looks (consF (tupF nilF) nilF)) (cst (.int 1))))))
def fD_law : List D → R D := fnD 21 1 G_law
end PD

namespace PD
open PySem PySem.Spec PyProof.Rows L2
def top (i : Nat) : Stmt := PySem.Challenge.pw_panestacks_k07_whole_looks.main.body.getD i (.Pass ⟨0, 0, 0, 0⟩)
end PD

set_option maxHeartbeats 4000000
namespace PD
open PySem PySem.Spec PyProof.Rows L2
theorem sc_is_int : FnScope ["value", "least", "most"] ["value", "least", "most"] (defScope (top 7)) := ⟨rfl, rfl, rfl, by decide +kernel, rfl, by decide +kernel, by decide +kernel⟩
theorem ok_is_int {P : Program} {w : World} {K : PySem.W.Frag} {mg : Str → Option Value} {base : Heap} {cls : Exc → Addr} {f : Addr} {fd : FuncData} (B : Bi mg) (F : FunD K "is_int" "is_int" (defArgs (top 7)) (defBody (top 7)) (defScope (top 7)) [] [] f fd) (hx : mg "is_int" = some (.ref f)) :
    Fn P w K mg base cls 1 "is_int" 3 fD_is_int := by
  have nd := sc_is_int.nd
  refine fn_okD (N := ["value", "least", "most"]) (ps := ["value", "least", "most"]) (G := G_is_int) F sc_is_int hx (F.bindsN fun _ _ _ _ _ _ us hl => match us, hl with | [_, _, _], _ => rfl) fun cdv A outer s H E hr => ?_
  have tk : Takes (cxOf (L2.CX P w) P w K mg base ["value", "least", "most"] "is_int" (defScope (top 7)) f cdv A outer s H E) (fun c d _ H => E c d H) := takes_of rfl rfl rfl rfl
  exact (pds_one (pds_ret (pd_and (pd_isi isi_int (by rfl) B.isinstance (by rfl) B.int boot_int (pb_var (pv 0))) (pd_and (pd_not (pd_isi isi_bool (by rfl) B.isinstance (by rfl) B.bool boot_bool (pb_var (pv 0)))) (pd_one (pd_chain op_le os_cmpI op_le os_cmpI (pd_var (pv 1)) (pd_var (pv 0)) (pd_var (pv 2)) rfl))))))
theorem sc_covers : FnScope ["window", "cell"] ["window", "cell"] (defScope (top 14)) := ⟨rfl, rfl, rfl, by decide +kernel, rfl, by decide +kernel, by decide +kernel⟩
theorem ok_covers {P : Program} {w : World} {K : PySem.W.Frag} {mg : Str → Option Value} {base : Heap} {cls : Exc → Addr} {f : Addr} {fd : FuncData} (B : Bi mg) (F : FunD K "covers" "covers" (defArgs (top 14)) (defBody (top 14)) (defScope (top 14)) [] [] f fd) (hx : mg "covers" = some (.ref f)) :
    Fn P w K mg base cls 1 "covers" 2 fD_covers := by
  have nd := sc_covers.nd
  refine fn_okD (N := ["window", "cell"]) (ps := ["window", "cell"]) (G := G_covers) F sc_covers hx (F.bindsN fun _ _ _ _ _ _ us hl => match us, hl with | [_, _], _ => rfl) fun cdv A outer s H E hr => ?_
  have tk : Takes (cxOf (L2.CX P w) P w K mg base ["window", "cell"] "covers" (defScope (top 14)) f cdv A outer s H E) (fun c d _ H => E c d H) := takes_of rfl rfl rfl rfl
  exact (pds_one (pds_ret (pd_and (pd_chain op_le os_cmpI op_lt os_cmpI (pd_ix ix_seq os_ix (pb_var (pv 0)) pd_int (fun _ _ => rfl)) (pd_ix ix_seq os_ix (pb_var (pv 1)) pd_int (fun _ _ => rfl)) (pd_ix ix_seq os_ix (pb_var (pv 0)) pd_int (fun _ _ => rfl)) rfl) (pd_one (pd_chain op_le os_cmpI op_lt os_cmpI (pd_ix ix_seq os_ix (pb_var (pv 0)) pd_int (fun _ _ => rfl)) (pd_ix ix_seq os_ix (pb_var (pv 1)) pd_int (fun _ _ => rfl)) (pd_ix ix_seq os_ix (pb_var (pv 0)) pd_int (fun _ _ => rfl)) rfl)))))
theorem sc_cells_of : FnScope ["window", "x", "y"] ["window"] (defScope (top 15)) := ⟨rfl, rfl, rfl, by decide +kernel, rfl, by decide +kernel, by decide +kernel⟩
theorem ok_cells_of {P : Program} {w : World} {K : PySem.W.Frag} {mg : Str → Option Value} {base : Heap} {cls : Exc → Addr} {f : Addr} {fd : FuncData} (B : Bi mg) (F : FunD K "cells_of" "cells_of" (defArgs (top 15)) (defBody (top 15)) (defScope (top 15)) [] [] f fd) (hx : mg "cells_of" = some (.ref f)) :
    Fn P w K mg base cls 1 "cells_of" 1 fD_cells_of := by
  have nd := sc_cells_of.nd
  refine fn_okD (N := ["window", "x", "y"]) (ps := ["window"]) (G := G_cells_of) F sc_cells_of hx (F.bindsN fun _ _ _ _ _ _ us hl => match us, hl with | [_], _ => rfl) fun cdv A outer s H E hr => ?_
  have tk : Takes (cxOf (L2.CX P w) P w K mg base ["window", "x", "y"] "cells_of" (defScope (top 15)) f cdv A outer s H E) (fun c d _ H => E c d H) := takes_of rfl rfl rfl rfl
  exact (pds_one (pds_ret (coeNV (pd_lc2 (own := [("x", 1), ("y", 2)]) (vs1 := [2]) rfl nd  (pdi_range2 (by rfl) B.range (pdb_cons (coeVB (pd_ix ix_seq os_ix (pb_var (pv 0)) pd_int (fun _ _ => rfl))) (pdb_cons (coeVB (pd_ix ix_seq os_ix (pb_var (pv 0)) pd_int (fun _ _ => rfl))) pdb_nil))) (blk_of (N' := ["window", "x", "y"]) (sc := (defScope (top 15))) rfl rfl rfl (by decide +kernel)) rfl (fun _ _ _ _ _ => (pg_nm (pg_name nd rfl (.inl rfl) (.inr rfl)))) (fun _ _ _ _ _ => pts_yes) (fun _ _ _ _ _ => (pdi_range2 (by rfl) B.range (pdb_cons (coeVB (pd_ix ix_seq os_ix (pb_var (pv 0)) pd_int (fun _ _ => rfl))) (pdb_cons (coeVB (pd_ix ix_seq os_ix (pb_var (pv 0)) pd_int (fun _ _ => rfl))) pdb_nil)))) (fun _ _ _ _ _ => (pg_nm (pg_name nd rfl (.inl rfl) (.inr rfl)))) (fun _ _ _ _ _ => pts_yes) (fun _ _ _ _ _ => (pd_tup (pda_cons (pd_var (pv 1)) (pda_cons (pd_var (pv 2)) pda_nil)))) rfl rfl))))
theorem sc_top_of : FnScope ["order", "region", "found", "number"] ["order", "region"] (defScope (top 18)) := ⟨rfl, rfl, rfl, by decide +kernel, rfl, by decide +kernel, by decide +kernel⟩
theorem ok_top_of {P : Program} {w : World} {K : PySem.W.Frag} {mg : Str → Option Value} {base : Heap} {cls : Exc → Addr} {f : Addr} {fd : FuncData} (B : Bi mg) (F : FunD K "top_of" "top_of" (defArgs (top 18)) (defBody (top 18)) (defScope (top 18)) [] [] f fd) (hx : mg "top_of" = some (.ref f)) :
    Fn P w K mg base cls 1 "top_of" 2 fD_top_of := by
  have nd := sc_top_of.nd
  refine fn_okD (N := ["order", "region", "found", "number"]) (ps := ["order", "region"]) (G := G_top_of) F sc_top_of hx (F.bindsN fun _ _ _ _ _ _ us hl => match us, hl with | [_, _], _ => rfl) fun cdv A outer s H E hr => ?_
  have tk : Takes (cxOf (L2.CX P w) P w K mg base ["order", "region", "found", "number"] "top_of" (defScope (top 18)) f cdv A outer s H E) (fun c d _ H => E c d H) := takes_of rfl rfl rfl rfl
  exact (pds_cons (pds_set (asgNV (pds_setLc (own := [("number", 3)]) rfl nd (i := 2) rfl rfl rfl (pdi_seq (pd_var (pv 0))) (blk_of (N' := ["order", "region", "found", "number"]) (sc := (defScope (top 18))) rfl rfl rfl (by decide +kernel)) (fun _ _ _ _ _ => (pg_nm (pg_name nd rfl (.inl rfl) (.inr rfl)))) (fun _ _ _ _ _ => (pts_one (pdt_cmp (op_inA (room65 hr)) os_in (pb_var (pv 3)) (pb_var (pv 1)) rfl))) (fun _ _ _ _ _ => (pd_var (pv 3))) rfl))) (pds_one (pds_ret (pd_if (pdt_cmp (op_neD (room64 hr)) os_ne (pb_var (pv 2)) (coeVB (coeNV (pd_lst pda_nil))) rfl) (pd_ix ix_seq os_ix (pb_var (pv 2)) (pd_neg pd_int) (fun _ _ => rfl)) pd_non))))
theorem sc_all_orders : FnScope ["many", "found", "count", "order", "number"] ["many"] (defScope (top 26)) := ⟨rfl, rfl, rfl, by decide +kernel, rfl, by decide +kernel, by decide +kernel⟩
theorem ok_all_orders {P : Program} {w : World} {K : PySem.W.Frag} {mg : Str → Option Value} {base : Heap} {cls : Exc → Addr} {f : Addr} {fd : FuncData} (B : Bi mg) (F : FunD K "all_orders" "all_orders" (defArgs (top 26)) (defBody (top 26)) (defScope (top 26)) [] [] f fd) (hx : mg "all_orders" = some (.ref f)) :
    Fn P w K mg base cls 1 "all_orders" 1 fD_all_orders := by
  have nd := sc_all_orders.nd
  refine fn_okD (N := ["many", "found", "count", "order", "number"]) (ps := ["many"]) (G := G_all_orders) F sc_all_orders hx (F.bindsN fun _ _ _ _ _ _ us hl => match us, hl with | [_], _ => rfl) fun cdv A outer s H E hr => ?_
  have tk : Takes (cxOf (L2.CX P w) P w K mg base ["many", "found", "count", "order", "number"] "all_orders" (defScope (top 26)) f cdv A outer s H E) (fun c d _ H => E c d H) := takes_of rfl rfl rfl rfl
  exact (pds_cons (pds_set (ps_set nd rfl (.inl rfl) (coeNV (pd_lst (pda_cons (pd_tup pda_nil) pda_nil))) rfl (.inr rfl))) (pds_cons (pds_for (passes_of rfl) rfl (pdi_range1 (by rfl) B.range (pdb_cons (pb_var (pv 0)) pdb_nil)) (pg_nm (pg_name nd rfl (.inl rfl) (.inr rfl))) (pds_one (pds_set (asgNV (pds_setLc2 (own := [("order", 3), ("number", 4)]) (vs1 := [4]) rfl nd (i := 1) rfl rfl rfl (pdi_seq (pd_var (pv 1))) (blk_of (N' := ["many", "found", "count", "order", "number"]) (sc := (defScope (top 26))) rfl rfl rfl (by decide +kernel)) rfl (fun _ _ _ _ _ => (pg_nm (pg_name nd rfl (.inl rfl) (.inr rfl)))) (fun _ _ _ _ _ => pts_yes) (fun _ _ _ _ _ => (pdi_range1 (by rfl) B.range (pdb_cons (pb_var (pv 0)) pdb_nil))) (fun _ _ _ _ _ => (pg_nm (pg_name nd rfl (.inl rfl) (.inr rfl)))) (fun _ _ _ _ _ => (pts_one (pdt_cmp (op_notInA (room65 hr)) os_notIn (pb_var (pv 4)) (pb_var (pv 3)) rfl))) (fun _ _ _ _ _ => (pd_op op_addA os_add (pd_var (pv 3)) (pd_tup (pda_cons (pd_var (pv 4)) pda_nil)))) rfl rfl))))) (pds_one (pds_ret (pd_var (pv 1))))))
theorem sc__law_pick : FnScope ["_law_script", "_law_k", "_law_many", "_law_cell", "_law_drawn", "_law_rest", "_law_again"] ["_law_script", "_law_k", "_law_many"] (defScope (top 32)) := ⟨rfl, rfl, rfl, by decide +kernel, rfl, by decide +kernel, by decide +kernel⟩
theorem ok__law_pick {P : Program} {w : World} {K : PySem.W.Frag} {mg : Str → Option Value} {base : Heap} {cls : Exc → Addr} {f : Addr} {fd : FuncData} (B : Bi mg) (F : FunD K "_law_pick" "_law_pick" (defArgs (top 32)) (defBody (top 32)) (defScope (top 32)) [] [] f fd) (hx : mg "_law_pick" = some (.ref f)) :
    Fn P w K mg base cls 1 "_law_pick" 3 fD__law_pick := by
  have nd := sc__law_pick.nd
  refine fn_okD (N := ["_law_script", "_law_k", "_law_many", "_law_cell", "_law_drawn", "_law_rest", "_law_again"]) (ps := ["_law_script", "_law_k", "_law_many"]) (G := G__law_pick) F sc__law_pick hx (F.bindsN fun _ _ _ _ _ _ us hl => match us, hl with | [_, _, _], _ => rfl) fun cdv A outer s H E hr => ?_
  have tk : Takes (cxOf (L2.CX P w) P w K mg base ["_law_script", "_law_k", "_law_many", "_law_cell", "_law_drawn", "_law_rest", "_law_again"] "_law_pick" (defScope (top 32)) f cdv A outer s H E) (fun c d _ H => E c d H) := takes_of rfl rfl rfl rfl
  exact (pds_cons (pds_set (ps_set nd rfl (.inl rfl) (pd_if (pdt_cmp (op_neD (room64 hr)) os_ne (pb_var (pv 0)) (coeVB (coeNV (pd_lst pda_nil))) rfl) (pd_ix ix_seq os_ix (pb_var (pv 0)) (pd_op op_mod os_mod (pd_var (pv 1)) (pd_callB call_len_seq cs_len (by rfl) B.len boot_len (pdb_cons (pb_var (pv 0)) pdb_nil))) (fun _ _ => rfl)) pd_int) rfl (.inr rfl))) (pds_cons (pds_par (ps_par rfl nd rfl rfl (by decide) rfl rfl (pa_cons (coeVS (pd_op op_fdivW os_fdiv (pd_var (pv 3)) (pd_op op_pow os_pow pd_int pd_int))) (pa_cons (coeVS (pd_op op_fdivW os_fdiv (pd_var (pv 1)) (pd_callB (call_max2 (by rfl)) cs_max2 (by rfl) B.max boot_max (pdb_cons (coeVB (pd_callB call_len_seq cs_len (by rfl) B.len boot_len (pdb_cons (pb_var (pv 0)) pdb_nil))) (pdb_cons (coeVB pd_int) pdb_nil))))) pa_nil)) rfl)) (pds_cons (pds_while 3000 (passes_of rfl) (pdt_w (pdw_and (pdt_cmp op_gt os_cmpI (pd_var (pv 5)) pd_int rfl) (pdw_and1 (pdt_cmp op_gt os_cmpI (pd_var (pv 6)) pd_int rfl)))) (pds_one (pds_par (ps_par rfl nd rfl rfl (by decide) rfl rfl (pa_cons (coeVS (pd_op op_fdivW os_fdiv (pd_var (pv 5)) pd_int)) (pa_cons (coeVS (pd_op op_sub os_sub (pd_var (pv 6)) pd_int)) pa_nil)) rfl)))) (pds_cons (pds_if (pdt_cmp op_gt os_cmpI (pd_var (pv 5)) pd_int rfl) (pds_one (pds_ret (pd_op op_mod os_mod (pd_op op_mod os_mod (pd_var (pv 5)) pd_int) (pd_var (pv 2))))) pds_nil) (pds_cons (pds_set (ps_set nd rfl (.inl rfl) (pd_op op_mod os_mod (pd_op op_mulA os_mulA (pd_op op_addA os_add (pd_op op_mulA os_mulA (pd_var (pv 3)) pd_int) (pd_op op_mulA os_mulA pd_int (pd_op op_addA os_add (pd_var (pv 1)) pd_int))) pd_int) pd_int) rfl (.inr rfl))) (pds_one (pds_ret (pd_op op_mod os_mod (pd_op op_mod os_mod (pd_op op_addA os_add (pd_op op_mulA os_mulA (pd_var (pv 4)) (pd_var (pv 4))) (pd_op op_fdivW os_fdiv (pd_var (pv 4)) pd_int)) pd_int) (pd_var (pv 2))))))))))
theorem sc__law_in : FnScope ["_law_pane_here", "_law_x", "_law_y", "_law_left", "_law_top_here", "_law_right", "_law_bottom"] ["_law_pane_here", "_law_x", "_law_y"] (defScope (top 35)) := ⟨rfl, rfl, rfl, by decide +kernel, rfl, by decide +kernel, by decide +kernel⟩
theorem ok__law_in {P : Program} {w : World} {K : PySem.W.Frag} {mg : Str → Option Value} {base : Heap} {cls : Exc → Addr} {f : Addr} {fd : FuncData} (B : Bi mg) (F : FunD K "_law_in" "_law_in" (defArgs (top 35)) (defBody (top 35)) (defScope (top 35)) [] [] f fd) (hx : mg "_law_in" = some (.ref f)) :
    Fn P w K mg base cls 1 "_law_in" 3 fD__law_in := by
  have nd := sc__law_in.nd
  refine fn_okD (N := ["_law_pane_here", "_law_x", "_law_y", "_law_left", "_law_top_here", "_law_right", "_law_bottom"]) (ps := ["_law_pane_here", "_law_x", "_law_y"]) (G := G__law_in) F sc__law_in hx (F.bindsN fun _ _ _ _ _ _ us hl => match us, hl with | [_, _, _], _ => rfl) fun cdv A outer s H E hr => ?_
  have tk : Takes (cxOf (L2.CX P w) P w K mg base ["_law_pane_here", "_law_x", "_law_y", "_law_left", "_law_top_here", "_law_right", "_law_bottom"] "_law_in" (defScope (top 35)) f cdv A outer s H E) (fun c d _ H => E c d H) := takes_of rfl rfl rfl rfl
  exact (pds_cons (pds_unp (ps_asg (pd_var (pv 0)) (pg_tp rfl (pgn_cons (pg_name nd rfl (.inl rfl) (.inr rfl)) (pgn_cons (pg_name nd rfl (.inl rfl) (.inr rfl)) (pgn_cons (pg_name nd rfl (.inl rfl) (.inr rfl)) (pgn_cons (pg_name nd rfl (.inl rfl) (.inr rfl)) pgn_nil))))))) (pds_one (pds_ret (pd_and (pd_cmp op_le (OpSemB.val os_cmpI) (pd_var (pv 3)) (pd_var (pv 1)) rfl) (pd_and (pd_cmp op_lt (OpSemB.val os_cmpI) (pd_var (pv 1)) (pd_var (pv 5)) rfl) (pd_and (pd_cmp op_le (OpSemB.val os_cmpI) (pd_var (pv 4)) (pd_var (pv 2)) rfl) (pd_one (pd_cmp op_lt (OpSemB.val os_cmpI) (pd_var (pv 2)) (pd_var (pv 6)) rfl))))))))
theorem sc__law_orders : FnScope ["_law_many", "_law_found", "_law_k", "_law_longer", "_law_order_here", "_law_number"] ["_law_many"] (defScope (top 39)) := ⟨rfl, rfl, rfl, by decide +kernel, rfl, by decide +kernel, by decide +kernel⟩
theorem ok__law_orders {P : Program} {w : World} {K : PySem.W.Frag} {mg : Str → Option Value} {base : Heap} {cls : Exc → Addr} {f : Addr} {fd : FuncData} (B : Bi mg) (F : FunD K "_law_orders" "_law_orders" (defArgs (top 39)) (defBody (top 39)) (defScope (top 39)) [] [] f fd) (hx : mg "_law_orders" = some (.ref f)) :
    Fn P w K mg base cls 1 "_law_orders" 1 fD__law_orders := by
  have nd := sc__law_orders.nd
  refine fn_okD (N := ["_law_many", "_law_found", "_law_k", "_law_longer", "_law_order_here", "_law_number"]) (ps := ["_law_many"]) (G := G__law_orders) F sc__law_orders hx (F.bindsN fun _ _ _ _ _ _ us hl => match us, hl with | [_], _ => rfl) fun cdv A outer s H E hr => ?_
  have tk : Takes (cxOf (L2.CX P w) P w K mg base ["_law_many", "_law_found", "_law_k", "_law_longer", "_law_order_here", "_law_number"] "_law_orders" (defScope (top 39)) f cdv A outer s H E) (fun c d _ H => E c d H) := takes_of rfl rfl rfl rfl
  exact (pds_cons (pds_set (ps_set nd rfl (.inl rfl) (coeNV (pd_lst (pda_cons (pd_tup pda_nil) pda_nil))) rfl (.inr rfl))) (pds_cons (pds_for (passes_of rfl) rfl (pdi_range1 (by rfl) B.range (pdb_cons (pb_var (pv 0)) pdb_nil)) (pg_nm (pg_name nd rfl (.inl rfl) (.inr rfl))) (pds_cons (pds_setN (ps_set nd rfl (.inl rfl) (pd_lst pda_nil) rfl (.inr rfl))) (pds_cons (pds_for (passes_of rfl) rfl (pdi_seq (pd_var (pv 1))) (pg_nm (pg_name nd rfl (.inr rfl) (.inl rfl))) (pds_one (pds_extend (ps_expr (pe_bm PySem.F.plainAttrs_list PySem.F.slot_list_extend PySem.F.type_list_extend mt_extend (pv 3) (pa_cons (pd_lc (own := [("_law_number", 5)]) rfl nd  (pdi_range1 (by rfl) B.range (pdb_cons (pb_var (pv 0)) pdb_nil)) (blk_of (N' := ["_law_many", "_law_found", "_law_k", "_law_longer", "_law_order_here", "_law_number"]) (sc := (defScope (top 39))) rfl rfl rfl (by decide +kernel)) (fun _ _ _ _ _ => (pg_nm (pg_name nd rfl (.inl rfl) (.inr rfl)))) (fun _ _ _ _ _ => (pts_one (pdt_cmp (op_notInA (room65 hr)) os_notIn (pb_var (pv 5)) (pb_var (pv 4)) rfl))) (fun _ _ _ _ _ => (pd_op op_addA os_add (pd_var (pv 4)) (pd_tup (pda_cons (pd_var (pv 5)) pda_nil)))) rfl) pa_nil)))))) (pds_frz 3 (pds_one (pds_set (ps_set nd rfl (.inl rfl) (pd_var (pv 3)) rfl (.inr rfl)))))))) (pds_one (pds_ret (pd_var (pv 1))))))
theorem sc_is_window : FnScope ["candidate", "part"] ["candidate"] (defScope (top 8)) := ⟨rfl, rfl, rfl, by decide +kernel, rfl, by decide +kernel, by decide +kernel⟩
theorem ok_is_window {P : Program} {w : World} {K : PySem.W.Frag} {mg : Str → Option Value} {base : Heap} {cls : Exc → Addr} {f : Addr} {fd : FuncData} (B : Bi mg) (F : FunD K "is_window" "is_window" (defArgs (top 8)) (defBody (top 8)) (defScope (top 8)) [] [] f fd) (hx : mg "is_window" = some (.ref f)) (c_SCREEN : ∃ t, mg "SCREEN" = some (.int 12 t)) (g_is_int : Fn P w K mg base cls 1 "is_int" 3 fD_is_int) :
    Fn P w K mg base cls 2 "is_window" 1 fD_is_window := by
  have nd := sc_is_window.nd
  refine fn_okD (N := ["candidate", "part"]) (ps := ["candidate"]) (G := G_is_window) F sc_is_window hx (F.bindsN fun _ _ _ _ _ _ us hl => match us, hl with | [_], _ => rfl) fun cdv A outer s H E hr => ?_
  have tk : Takes (cxOf (L2.CX P w) P w K mg base ["candidate", "part"] "is_window" (defScope (top 8)) f cdv A outer s H E) (fun c d _ H => E c d H) := takes_of rfl rfl rfl rfl
  exact (pds_cons (pds_if (pdt_w (pdw_or (pdt_not (pdt_val (pd_isi isi_tup (by rfl) B.isinstance (by rfl) B.tuple boot_tuple (pb_var (pv 0))))) (pdw_or1 (pdt_cmp (op_neD (room64 hr)) os_ne (coeVB (pd_callB call_len_seq cs_len (by rfl) B.len boot_len (pdb_cons (pb_var (pv 0)) pdb_nil))) (coeVB pd_int) rfl)))) (pds_one (pds_ret pd_bl)) pds_nil) (pds_cons (pds_if (pdt_not (pdt_val (pd_callB (cr_all (by rfl)) cs_all (by rfl) B.all boot_all (pdb_cons (coeVB (coeNV (pd_lc (own := [("part", 1)]) rfl nd  (pdi_seq (pd_var (pv 0))) (blk_of (N' := ["candidate", "part"]) (sc := (defScope (top 8))) rfl rfl rfl (by decide +kernel)) (fun _ _ _ _ _ => (pg_nm (pg_name nd rfl (.inl rfl) (.inr rfl)))) (fun _ _ _ _ _ => pts_yes) (fun _ _ _ _ _ => (pd_call g_is_int (hr.mono (by decide)) (by rfl) takes0 (pda_cons (pd_var (pv 1)) (pda_cons pd_int (pda_cons (pd_gint (by rfl) c_SCREEN) pda_nil))))) rfl))) pdb_nil)))) (pds_one (pds_ret pd_bl)) pds_nil) (pds_one (pds_ret (pd_and (pd_cmp op_lt (OpSemB.val os_cmpI) (pd_ix ix_seq os_ix (pb_var (pv 0)) pd_int (fun _ _ => rfl)) (pd_ix ix_seq os_ix (pb_var (pv 0)) pd_int (fun _ _ => rfl)) rfl) (pd_one (pd_cmp op_lt (OpSemB.val os_cmpI) (pd_ix ix_seq os_ix (pb_var (pv 0)) pd_int (fun _ _ => rfl)) (pd_ix ix_seq os_ix (pb_var (pv 0)) pd_int (fun _ _ => rfl)) rfl)))))))
theorem sc_has_order : FnScope ["windows", "candidate", "number"] ["windows", "candidate"] (defScope (top 10)) := ⟨rfl, rfl, rfl, by decide +kernel, rfl, by decide +kernel, by decide +kernel⟩
theorem ok_has_order {P : Program} {w : World} {K : PySem.W.Frag} {mg : Str → Option Value} {base : Heap} {cls : Exc → Addr} {f : Addr} {fd : FuncData} (B : Bi mg) (F : FunD K "has_order" "has_order" (defArgs (top 10)) (defBody (top 10)) (defScope (top 10)) [] [] f fd) (hx : mg "has_order" = some (.ref f)) (g_is_int : Fn P w K mg base cls 1 "is_int" 3 fD_is_int) :
    Fn P w K mg base cls 2 "has_order" 2 fD_has_order := by
  have nd := sc_has_order.nd
  refine fn_okD (N := ["windows", "candidate", "number"]) (ps := ["windows", "candidate"]) (G := G_has_order) F sc_has_order hx (F.bindsN fun _ _ _ _ _ _ us hl => match us, hl with | [_, _], _ => rfl) fun cdv A outer s H E hr => ?_
  have tk : Takes (cxOf (L2.CX P w) P w K mg base ["windows", "candidate", "number"] "has_order" (defScope (top 10)) f cdv A outer s H E) (fun c d _ H => E c d H) := takes_of rfl rfl rfl rfl
  exact (pds_cons (pds_if (pdt_w (pdw_or (pdt_not (pdt_val (pd_isi isi_tup (by rfl) B.isinstance (by rfl) B.tuple boot_tuple (pb_var (pv 1))))) (pdw_or1 (pdt_not (pdt_val (pd_callB (cr_all (by rfl)) cs_all (by rfl) B.all boot_all (pdb_cons (coeVB (coeNV (pd_lc (own := [("number", 2)]) rfl nd  (pdi_seq (pd_var (pv 1))) (blk_of (N' := ["windows", "candidate", "number"]) (sc := (defScope (top 10))) rfl rfl rfl (by decide +kernel)) (fun _ _ _ _ _ => (pg_nm (pg_name nd rfl (.inl rfl) (.inr rfl)))) (fun _ _ _ _ _ => pts_yes) (fun _ _ _ _ _ => (pd_call g_is_int (hr.mono (by decide)) (by rfl) takes0 (pda_cons (pd_var (pv 2)) (pda_cons pd_int (pda_cons (pd_op op_sub os_sub (pd_callB call_len_seq cs_len (by rfl) B.len boot_len (pdb_cons (pb_var (pv 0)) pdb_nil)) pd_int) pda_nil))))) rfl))) pdb_nil))))))) (pds_one (pds_ret pd_bl)) pds_nil) (pds_one (pds_ret (pd_cmp (op_eqD (room64 hr)) (OpSemB.val os_eq) (coeVB (coeNV (pd_callB (cr_srt (by rfl) (room8 hr)) cs_sort (by rfl) B.sorted boot_sorted (pdb_cons (pb_var (pv 1)) pdb_nil)))) (coeVB (coeNV (pd_listRg1 (by rfl) (by rfl) B.list (by rfl) B.range (pd_callB call_len_seq cs_len (by rfl) B.len boot_len (pdb_cons (pb_var (pv 0)) pdb_nil))))) rfl))))
theorem sc_region_at : FnScope ["windows", "cell", "number", "window"] ["windows", "cell"] (defScope (top 16)) := ⟨rfl, rfl, rfl, by decide +kernel, rfl, by decide +kernel, by decide +kernel⟩
theorem ok_region_at {P : Program} {w : World} {K : PySem.W.Frag} {mg : Str → Option Value} {base : Heap} {cls : Exc → Addr} {f : Addr} {fd : FuncData} (B : Bi mg) (F : FunD K "region_at" "region_at" (defArgs (top 16)) (defBody (top 16)) (defScope (top 16)) [] [] f fd) (hx : mg "region_at" = some (.ref f)) (g_covers : Fn P w K mg base cls 1 "covers" 2 fD_covers) :
    Fn P w K mg base cls 2 "region_at" 2 fD_region_at := by
  have nd := sc_region_at.nd
  refine fn_okD (N := ["windows", "cell", "number", "window"]) (ps := ["windows", "cell"]) (G := G_region_at) F sc_region_at hx (F.bindsN fun _ _ _ _ _ _ us hl => match us, hl with | [_, _], _ => rfl) fun cdv A outer s H E hr => ?_
  have tk : Takes (cxOf (L2.CX P w) P w K mg base ["windows", "cell", "number", "window"] "region_at" (defScope (top 16)) f cdv A outer s H E) (fun c d _ H => E c d H) := takes_of rfl rfl rfl rfl
  exact (pds_one (pds_ret (pd_callTy call_tuple_of cs_tuple (by rfl) B.tuple boot_tuple (pdb_cons (coeVB (coeNV (pd_lc (own := [("number", 2), ("window", 3)]) rfl nd  (pdi_enum (by rfl) B.enumerate (pd_var (pv 0))) (blk_of (N' := ["windows", "cell", "number", "window"]) (sc := (defScope (top 16))) rfl rfl rfl (by decide +kernel)) (fun _ _ _ _ _ => (pg_tp rfl (pgn_cons (pg_name nd rfl (.inl rfl) (.inr rfl)) (pgn_cons (pg_name nd rfl (.inl rfl) (.inr rfl)) pgn_nil)))) (fun _ _ _ _ _ => (pts_one (pdt_val (pd_call g_covers (hr.mono (by decide)) (by rfl) takes0 (pda_cons (pd_var (pv 3)) (pda_cons (pd_var (pv 1)) pda_nil)))))) (fun _ _ _ _ _ => (pd_var (pv 2))) rfl))) pdb_nil))))
theorem sc_all_cells : FnScope ["windows", "found", "window", "cell"] ["windows"] (defScope (top 17)) := ⟨rfl, rfl, rfl, by decide +kernel, rfl, by decide +kernel, by decide +kernel⟩
theorem ok_all_cells {P : Program} {w : World} {K : PySem.W.Frag} {mg : Str → Option Value} {base : Heap} {cls : Exc → Addr} {f : Addr} {fd : FuncData} (B : Bi mg) (F : FunD K "all_cells" "all_cells" (defArgs (top 17)) (defBody (top 17)) (defScope (top 17)) [] [] f fd) (hx : mg "all_cells" = some (.ref f)) (g_cells_of : Fn P w K mg base cls 1 "cells_of" 1 fD_cells_of) :
    Fn P w K mg base cls 2 "all_cells" 1 fD_all_cells := by
  have nd := sc_all_cells.nd
  refine fn_okD (N := ["windows", "found", "window", "cell"]) (ps := ["windows"]) (G := G_all_cells) F sc_all_cells hx (F.bindsN fun _ _ _ _ _ _ us hl => match us, hl with | [_], _ => rfl) fun cdv A outer s H E hr => ?_
  have tk : Takes (cxOf (L2.CX P w) P w K mg base ["windows", "found", "window", "cell"] "all_cells" (defScope (top 17)) f cdv A outer s H E) (fun c d _ H => E c d H) := takes_of rfl rfl rfl rfl
  exact (pds_cons (pds_setM (ps_set nd rfl (.inl rfl) pd_newT rfl (.inr rfl))) (pds_cons (pds_for (passes_of rfl) rfl (pdi_seq (pd_var (pv 0))) (pg_nm (pg_name nd rfl (.inl rfl) (.inr rfl))) (pds_one (pds_for (passes_of rfl) rfl (pdi_seq (pd_call g_cells_of (hr.mono (by decide)) (by rfl) tk (pda_cons (pd_var (pv 2)) pda_nil))) (pg_nm (pg_name nd rfl (.inl rfl) (.inr rfl))) (pds_one (pds_dput (ps_dputX (room1 hr) (pv 1) (pd_var (pv 3)) pd_bl rfl)))))) (pds_one (pds_ret (coeNV (pd_callB (cr_srt (by rfl) (room8 hr)) cs_sort (by rfl) B.sorted boot_sorted (pdb_cons (pb_var (pv 1)) pdb_nil)))))))
theorem sc_look_of : FnScope ["known", "order", "region"] ["known", "order"] (defScope (top 22)) := ⟨rfl, rfl, rfl, by decide +kernel, rfl, by decide +kernel, by decide +kernel⟩
theorem ok_look_of {P : Program} {w : World} {K : PySem.W.Frag} {mg : Str → Option Value} {base : Heap} {cls : Exc → Addr} {f : Addr} {fd : FuncData} (B : Bi mg) (F : FunD K "look_of" "look_of" (defArgs (top 22)) (defBody (top 22)) (defScope (top 22)) [] [] f fd) (hx : mg "look_of" = some (.ref f)) (g_top_of : Fn P w K mg base cls 1 "top_of" 2 fD_top_of) :
    Fn P w K mg base cls 2 "look_of" 2 fD_look_of := by
  have nd := sc_look_of.nd
  refine fn_okD (N := ["known", "order", "region"]) (ps := ["known", "order"]) (G := G_look_of) F sc_look_of hx (F.bindsN fun _ _ _ _ _ _ us hl => match us, hl with | [_, _], _ => rfl) fun cdv A outer s H E hr => ?_
  have tk : Takes (cxOf (L2.CX P w) P w K mg base ["known", "order", "region"] "look_of" (defScope (top 22)) f cdv A outer s H E) (fun c d _ H => E c d H) := takes_of rfl rfl rfl rfl
  exact (pds_one (pds_ret (pd_callTy call_tuple_of cs_tuple (by rfl) B.tuple boot_tuple (pdb_cons (coeVB (coeNV (pd_lc (own := [("region", 2)]) rfl nd  (pdi_seq (pd_var (pv 0))) (blk_of (N' := ["known", "order", "region"]) (sc := (defScope (top 22))) rfl rfl rfl (by decide +kernel)) (fun _ _ _ _ _ => (pg_nm (pg_name nd rfl (.inl rfl) (.inr rfl)))) (fun _ _ _ _ _ => pts_yes) (fun _ _ _ _ _ => (pd_call g_top_of (hr.mono (by decide)) (by rfl) takes0 (pda_cons (pd_var (pv 1)) (pda_cons (pd_var (pv 2)) pda_nil)))) rfl))) pdb_nil))))
theorem sc__law_pane : FnScope ["_law_script", "_law_at", "_law_step", "_law_left", "_law_top_here", "_law_wide", "_law_tall"] ["_law_script", "_law_at"] (defScope (top 33)) := ⟨rfl, rfl, rfl, by decide +kernel, rfl, by decide +kernel, by decide +kernel⟩
theorem ok__law_pane {P : Program} {w : World} {K : PySem.W.Frag} {mg : Str → Option Value} {base : Heap} {cls : Exc → Addr} {f : Addr} {fd : FuncData} (B : Bi mg) (F : FunD K "_law_pane" "_law_pane" (defArgs (top 33)) (defBody (top 33)) (defScope (top 33)) [] [] f fd) (hx : mg "_law_pane" = some (.ref f)) (g__law_pick : Fn P w K mg base cls 1 "_law_pick" 3 fD__law_pick) :
    Fn P w K mg base cls 2 "_law_pane" 2 fD__law_pane := by
  have nd := sc__law_pane.nd
  refine fn_okD (N := ["_law_script", "_law_at", "_law_step", "_law_left", "_law_top_here", "_law_wide", "_law_tall"]) (ps := ["_law_script", "_law_at"]) (G := G__law_pane) F sc__law_pane hx (F.bindsN fun _ _ _ _ _ _ us hl => match us, hl with | [_, _], _ => rfl) fun cdv A outer s H E hr => ?_
  have tk : Takes (cxOf (L2.CX P w) P w K mg base ["_law_script", "_law_at", "_law_step", "_law_left", "_law_top_here", "_law_wide", "_law_tall"] "_law_pane" (defScope (top 33)) f cdv A outer s H E) (fun c d _ H => E c d H) := takes_of rfl rfl rfl rfl
  exact (pds_cons (pds_set (ps_set nd rfl (.inl rfl) (pd_ix ix_seq os_ix (coeVB (pd_tup (pda_cons pd_int (pda_cons pd_int (pda_cons pd_int (pda_cons pd_int pda_nil)))))) (pd_call g__law_pick (hr.mono (by decide)) (by rfl) tk (pda_cons (pd_var (pv 0)) (pda_cons (pd_var (pv 1)) (pda_cons pd_int pda_nil)))) (fun _ _ => rfl)) rfl (.inr rfl))) (pds_cons (pds_par (ps_par rfl nd rfl rfl (by decide) rfl rfl (pa_cons (coeVS (pd_op op_mulA os_mulA (pd_var (pv 2)) (pd_call g__law_pick (hr.mono (by decide)) (by rfl) tk (pda_cons (pd_var (pv 0)) (pda_cons (pd_op op_addA os_add (pd_var (pv 1)) pd_int) (pda_cons pd_int pda_nil)))))) (pa_cons (coeVS (pd_op op_mulA os_mulA (pd_var (pv 2)) (pd_call g__law_pick (hr.mono (by decide)) (by rfl) tk (pda_cons (pd_var (pv 0)) (pda_cons (pd_op op_addA os_add (pd_var (pv 1)) pd_int) (pda_cons pd_int pda_nil)))))) pa_nil)) rfl)) (pds_cons (pds_par (ps_par rfl nd rfl rfl (by decide) rfl rfl (pa_cons (coeVS (pd_op op_mulA os_mulA (pd_var (pv 2)) (pd_op op_addA os_add pd_int (pd_call g__law_pick (hr.mono (by decide)) (by rfl) tk (pda_cons (pd_var (pv 0)) (pda_cons (pd_op op_addA os_add (pd_var (pv 1)) pd_int) (pda_cons pd_int pda_nil))))))) (pa_cons (coeVS (pd_op op_mulA os_mulA (pd_var (pv 2)) (pd_op op_addA os_add pd_int (pd_call g__law_pick (hr.mono (by decide)) (by rfl) tk (pda_cons (pd_var (pv 0)) (pda_cons (pd_op op_addA os_add (pd_var (pv 1)) pd_int) (pda_cons pd_int pda_nil))))))) pa_nil)) rfl)) (pds_one (pds_ret (pd_tup (pda_cons (pd_var (pv 3)) (pda_cons (pd_var (pv 4)) (pda_cons (pd_callB (call_min2 (by rfl)) cs_min2 (by rfl) B.min boot_min (pdb_cons (coeVB (pd_op op_addA os_add (pd_var (pv 3)) (pd_var (pv 5)))) (pdb_cons (coeVB pd_int) pdb_nil))) (pda_cons (pd_callB (call_min2 (by rfl)) cs_min2 (by rfl) B.min boot_min (pdb_cons (coeVB (pd_op op_addA os_add (pd_var (pv 4)) (pd_var (pv 6)))) (pdb_cons (coeVB pd_int) pdb_nil))) pda_nil))))))))))
theorem sc__law_order : FnScope ["_law_script", "_law_at", "_law_many", "_law_rest", "_law_found"] ["_law_script", "_law_at", "_law_many"] (defScope (top 36)) := ⟨rfl, rfl, rfl, by decide +kernel, rfl, by decide +kernel, by decide +kernel⟩
theorem ok__law_order {P : Program} {w : World} {K : PySem.W.Frag} {mg : Str → Option Value} {base : Heap} {cls : Exc → Addr} {f : Addr} {fd : FuncData} (B : Bi mg) (F : FunD K "_law_order" "_law_order" (defArgs (top 36)) (defBody (top 36)) (defScope (top 36)) [] [] f fd) (hx : mg "_law_order" = some (.ref f)) (g__law_pick : Fn P w K mg base cls 1 "_law_pick" 3 fD__law_pick) :
    Fn P w K mg base cls 2 "_law_order" 3 fD__law_order := by
  have nd := sc__law_order.nd
  refine fn_okD (N := ["_law_script", "_law_at", "_law_many", "_law_rest", "_law_found"]) (ps := ["_law_script", "_law_at", "_law_many"]) (G := G__law_order) F sc__law_order hx (F.bindsN fun _ _ _ _ _ _ us hl => match us, hl with | [_, _, _], _ => rfl) fun cdv A outer s H E hr => ?_
  have tk : Takes (cxOf (L2.CX P w) P w K mg base ["_law_script", "_law_at", "_law_many", "_law_rest", "_law_found"] "_law_order" (defScope (top 36)) f cdv A outer s H E) (fun c d _ H => E c d H) := takes_of rfl rfl rfl rfl
  exact (pds_cons (pds_par (ps_par rfl nd rfl rfl (by decide) rfl rfl (pa_cons (coeNS (pd_listRg1 (by rfl) (by rfl) B.list (by rfl) B.range (pd_var (pv 2)))) (pa_cons (coeNS (pd_lst pda_nil)) pa_nil)) rfl)) (pds_cons (pds_while 3000 (passes_of rfl) (pdt_cmp (op_neD (room64 hr)) os_ne (pb_var (pv 3)) (coeVB (coeNV (pd_lst pda_nil))) rfl) (pds_one (pds_appPop (ps_expr (pe_bm PySem.F.plainAttrs_list PySem.F.slot_list_append PySem.F.type_list_append mt_append (pv 4) (pa_cons (pe_bm PySem.F.plainAttrs_list PySem.F.slot_list_pop PySem.F.type_list_pop mt_popAt (pv 3) (pa_cons (pd_call g__law_pick (hr.mono (by decide)) (by rfl) tk (pda_cons (pd_var (pv 0)) (pda_cons (pd_op op_addA os_add (pd_var (pv 1)) (pd_callB call_len_seq cs_len (by rfl) B.len boot_len (pdb_cons (pb_var (pv 3)) pdb_nil))) (pda_cons (pd_callB call_len_seq cs_len (by rfl) B.len boot_len (pdb_cons (pb_var (pv 3)) pdb_nil)) pda_nil)))) pa_nil)) pa_nil)))))) (pds_one (pds_ret (pd_callTy call_tuple_of cs_tuple (by rfl) B.tuple boot_tuple (pdb_cons (pb_var (pv 4)) pdb_nil))))))
theorem sc__law_top : FnScope ["_law_panes_here", "_law_order_here", "_law_x", "_law_y", "_law_found", "_law_number"] ["_law_panes_here", "_law_order_here", "_law_x", "_law_y"] (defScope (top 37)) := ⟨rfl, rfl, rfl, by decide +kernel, rfl, by decide +kernel, by decide +kernel⟩
theorem ok__law_top {P : Program} {w : World} {K : PySem.W.Frag} {mg : Str → Option Value} {base : Heap} {cls : Exc → Addr} {f : Addr} {fd : FuncData} (B : Bi mg) (F : FunD K "_law_top" "_law_top" (defArgs (top 37)) (defBody (top 37)) (defScope (top 37)) [] [] f fd) (hx : mg "_law_top" = some (.ref f)) (g__law_in : Fn P w K mg base cls 1 "_law_in" 3 fD__law_in) :
    Fn P w K mg base cls 2 "_law_top" 4 fD__law_top := by
  have nd := sc__law_top.nd
  refine fn_okD (N := ["_law_panes_here", "_law_order_here", "_law_x", "_law_y", "_law_found", "_law_number"]) (ps := ["_law_panes_here", "_law_order_here", "_law_x", "_law_y"]) (G := G__law_top) F sc__law_top hx (F.bindsN fun _ _ _ _ _ _ us hl => match us, hl with | [_, _, _, _], _ => rfl) fun cdv A outer s H E hr => ?_
  have tk : Takes (cxOf (L2.CX P w) P w K mg base ["_law_panes_here", "_law_order_here", "_law_x", "_law_y", "_law_found", "_law_number"] "_law_top" (defScope (top 37)) f cdv A outer s H E) (fun c d _ H => E c d H) := takes_of rfl rfl rfl rfl
  exact (pds_cons (pds_set (ps_set nd rfl (.inl rfl) pd_non rfl (.inr rfl))) (pds_cons (pds_for (passes_of rfl) rfl (pdi_seq (pd_var (pv 1))) (pg_nm (pg_name nd rfl (.inl rfl) (.inr rfl))) (pds_one (pds_if (pdt_val (pd_call g__law_in (hr.mono (by decide)) (by rfl) tk (pda_cons (pd_ix ix_seq os_ix (pb_var (pv 0)) (pd_var (pv 5)) (fun _ _ => rfl)) (pda_cons (pd_var (pv 2)) (pda_cons (pd_var (pv 3)) pda_nil))))) (pds_one (pds_set (ps_set nd rfl (.inl rfl) (pd_var (pv 5)) rfl (.inr rfl)))) pds_nil))) (pds_one (pds_ret (pd_var (pv 4))))))
theorem sc_are_windows : FnScope ["candidate", "window"] ["candidate"] (defScope (top 9)) := ⟨rfl, rfl, rfl, by decide +kernel, rfl, by decide +kernel, by decide +kernel⟩
theorem ok_are_windows {P : Program} {w : World} {K : PySem.W.Frag} {mg : Str → Option Value} {base : Heap} {cls : Exc → Addr} {f : Addr} {fd : FuncData} (B : Bi mg) (F : FunD K "are_windows" "are_windows" (defArgs (top 9)) (defBody (top 9)) (defScope (top 9)) [] [] f fd) (hx : mg "are_windows" = some (.ref f)) (c_MAX_WINDOWS : ∃ t, mg "MAX_WINDOWS" = some (.int 6 t)) (g_is_window : Fn P w K mg base cls 2 "is_window" 1 fD_is_window) :
    Fn P w K mg base cls 3 "are_windows" 1 fD_are_windows := by
  have nd := sc_are_windows.nd
  refine fn_okD (N := ["candidate", "window"]) (ps := ["candidate"]) (G := G_are_windows) F sc_are_windows hx (F.bindsN fun _ _ _ _ _ _ us hl => match us, hl with | [_], _ => rfl) fun cdv A outer s H E hr => ?_
  have tk : Takes (cxOf (L2.CX P w) P w K mg base ["candidate", "window"] "are_windows" (defScope (top 9)) f cdv A outer s H E) (fun c d _ H => E c d H) := takes_of rfl rfl rfl rfl
  exact (pds_cons (pds_if (pdt_w (pdw_or (pdt_not (pdt_val (pd_isi isi_tup (by rfl) B.isinstance (by rfl) B.tuple boot_tuple (pb_var (pv 0))))) (pdw_or1 (pdt_cmp op_gt os_cmpI (pd_callB call_len_seq cs_len (by rfl) B.len boot_len (pdb_cons (pb_var (pv 0)) pdb_nil)) (pd_gint (by rfl) c_MAX_WINDOWS) rfl)))) (pds_one (pds_ret pd_bl)) pds_nil) (pds_one (pds_ret (pd_callB (cr_all (by rfl)) cs_all (by rfl) B.all boot_all (pdb_cons (coeVB (coeNV (pd_lc (own := [("window", 1)]) rfl nd  (pdi_seq (pd_var (pv 0))) (blk_of (N' := ["candidate", "window"]) (sc := (defScope (top 9))) rfl rfl rfl (by decide +kernel)) (fun _ _ _ _ _ => (pg_nm (pg_name nd rfl (.inl rfl) (.inr rfl)))) (fun _ _ _ _ _ => pts_yes) (fun _ _ _ _ _ => (pd_call g_is_window (hr.mono (by decide)) (by rfl) takes0 (pda_cons (pd_var (pv 1)) pda_nil))) rfl))) pdb_nil)))))
theorem sc_check_order : FnScope ["windows", "value"] ["windows", "value"] (defScope (top 12)) := ⟨rfl, rfl, rfl, by decide +kernel, rfl, by decide +kernel, by decide +kernel⟩
theorem ok_check_order {P : Program} {w : World} {K : PySem.W.Frag} {mg : Str → Option Value} {base : Heap} {cls : Exc → Addr} {f : Addr} {fd : FuncData} (B : Bi mg) (F : FunD K "check_order" "check_order" (defArgs (top 12)) (defBody (top 12)) (defScope (top 12)) [] [] f fd) (hx : mg "check_order" = some (.ref f)) (e_InvalidOrder : ExcAt K mg "InvalidOrder" (cls .order)) (g_has_order : Fn P w K mg base cls 2 "has_order" 2 fD_has_order) :
    Fn P w K mg base cls 3 "check_order" 2 fD_check_order := by
  have nd := sc_check_order.nd
  refine fn_okD (N := ["windows", "value"]) (ps := ["windows", "value"]) (G := G_check_order) F sc_check_order hx (F.bindsN fun _ _ _ _ _ _ us hl => match us, hl with | [_, _], _ => rfl) fun cdv A outer s H E hr => ?_
  have tk : Takes (cxOf (L2.CX P w) P w K mg base ["windows", "value"] "check_order" (defScope (top 12)) f cdv A outer s H E) (fun c d _ H => E c d H) := takes_of rfl rfl rfl rfl
  exact (pds_one (pds_if (pdt_not (pdt_val (pd_call g_has_order (hr.mono (by decide)) (by rfl) tk (pda_cons (pd_var (pv 0)) (pda_cons (pd_var (pv 1)) pda_nil))))) (pds_one (pds_raise rfl tk e_InvalidOrder rfl)) pds_nil))
theorem sc_find_regions : FnScope ["windows", "cell"] ["windows"] (defScope (top 20)) := ⟨rfl, rfl, rfl, by decide +kernel, rfl, by decide +kernel, by decide +kernel⟩
theorem ok_find_regions {P : Program} {w : World} {K : PySem.W.Frag} {mg : Str → Option Value} {base : Heap} {cls : Exc → Addr} {f : Addr} {fd : FuncData} (B : Bi mg) (F : FunD K "find_regions" "find_regions" (defArgs (top 20)) (defBody (top 20)) (defScope (top 20)) [] [] f fd) (hx : mg "find_regions" = some (.ref f)) (g_region_at : Fn P w K mg base cls 2 "region_at" 2 fD_region_at) (g_all_cells : Fn P w K mg base cls 2 "all_cells" 1 fD_all_cells) :
    Fn P w K mg base cls 3 "find_regions" 1 fD_find_regions := by
  have nd := sc_find_regions.nd
  refine fn_okD (N := ["windows", "cell"]) (ps := ["windows"]) (G := G_find_regions) F sc_find_regions hx (F.bindsN fun _ _ _ _ _ _ us hl => match us, hl with | [_], _ => rfl) fun cdv A outer s H E hr => ?_
  have tk : Takes (cxOf (L2.CX P w) P w K mg base ["windows", "cell"] "find_regions" (defScope (top 20)) f cdv A outer s H E) (fun c d _ H => E c d H) := takes_of rfl rfl rfl rfl
  exact (pds_one (pds_ret (coeNV (pd_sortSetT (by rfl) (room64 hr) (by rfl) B.sorted (by rfl) B.set (pdb_cons (coeVB (coeNV (pd_lc (own := [("cell", 1)]) rfl nd  (pdi_seq (pd_call g_all_cells (hr.mono (by decide)) (by rfl) tk (pda_cons (pd_var (pv 0)) pda_nil))) (blk_of (N' := ["windows", "cell"]) (sc := (defScope (top 20))) rfl rfl rfl (by decide +kernel)) (fun _ _ _ _ _ => (pg_nm (pg_name nd rfl (.inl rfl) (.inr rfl)))) (fun _ _ _ _ _ => pts_yes) (fun _ _ _ _ _ => (pd_call g_region_at (hr.mono (by decide)) (by rfl) takes0 (pda_cons (pd_var (pv 0)) (pda_cons (pd_var (pv 1)) pda_nil)))) rfl))) pdb_nil)))))
theorem sc__law_panes : FnScope ["_law_script", "_law_at", "_law_most", "_law_i"] ["_law_script", "_law_at", "_law_most"] (defScope (top 34)) := ⟨rfl, rfl, rfl, by decide +kernel, rfl, by decide +kernel, by decide +kernel⟩
theorem ok__law_panes {P : Program} {w : World} {K : PySem.W.Frag} {mg : Str → Option Value} {base : Heap} {cls : Exc → Addr} {f : Addr} {fd : FuncData} (B : Bi mg) (F : FunD K "_law_panes" "_law_panes" (defArgs (top 34)) (defBody (top 34)) (defScope (top 34)) [] [] f fd) (hx : mg "_law_panes" = some (.ref f)) (g__law_pick : Fn P w K mg base cls 1 "_law_pick" 3 fD__law_pick) (g__law_pane : Fn P w K mg base cls 2 "_law_pane" 2 fD__law_pane) :
    Fn P w K mg base cls 3 "_law_panes" 3 fD__law_panes := by
  have nd := sc__law_panes.nd
  refine fn_okD (N := ["_law_script", "_law_at", "_law_most", "_law_i"]) (ps := ["_law_script", "_law_at", "_law_most"]) (G := G__law_panes) F sc__law_panes hx (F.bindsN fun _ _ _ _ _ _ us hl => match us, hl with | [_, _, _], _ => rfl) fun cdv A outer s H E hr => ?_
  have tk : Takes (cxOf (L2.CX P w) P w K mg base ["_law_script", "_law_at", "_law_most", "_law_i"] "_law_panes" (defScope (top 34)) f cdv A outer s H E) (fun c d _ H => E c d H) := takes_of rfl rfl rfl rfl
  exact (pds_one (pds_ret (pd_callTy call_tuple_of cs_tuple (by rfl) B.tuple boot_tuple (pdb_cons (coeVB (coeNV (pd_lc (own := [("_law_i", 3)]) rfl nd  (pdi_range1 (by rfl) B.range (pdb_cons (coeVB (pd_call g__law_pick (hr.mono (by decide)) (by rfl) tk (pda_cons (pd_var (pv 0)) (pda_cons (pd_var (pv 1)) (pda_cons (pd_op op_addA os_add (pd_var (pv 2)) pd_int) pda_nil))))) pdb_nil)) (blk_of (N' := ["_law_script", "_law_at", "_law_most", "_law_i"]) (sc := (defScope (top 34))) rfl rfl rfl (by decide +kernel)) (fun _ _ _ _ _ => (pg_nm (pg_name nd rfl (.inl rfl) (.inr rfl)))) (fun _ _ _ _ _ => pts_yes) (fun _ _ _ _ _ => (pd_call g__law_pane (hr.mono (by decide)) (by rfl) takes0 (pda_cons (pd_var (pv 0)) (pda_cons (pd_op op_addA os_add (pd_op op_addA os_add (pd_var (pv 1)) pd_int) (pd_op op_mulA os_mulA pd_int (pd_var (pv 3)))) pda_nil)))) rfl))) pdb_nil))))
theorem sc__law_screen : FnScope ["_law_panes_here", "_law_order_here", "_law_found", "_law_x", "_law_y"] ["_law_panes_here", "_law_order_here"] (defScope (top 38)) := ⟨rfl, rfl, rfl, by decide +kernel, rfl, by decide +kernel, by decide +kernel⟩
theorem ok__law_screen {P : Program} {w : World} {K : PySem.W.Frag} {mg : Str → Option Value} {base : Heap} {cls : Exc → Addr} {f : Addr} {fd : FuncData} (B : Bi mg) (F : FunD K "_law_screen" "_law_screen" (defArgs (top 38)) (defBody (top 38)) (defScope (top 38)) [] [] f fd) (hx : mg "_law_screen" = some (.ref f)) (g__law_top : Fn P w K mg base cls 2 "_law_top" 4 fD__law_top) :
    Fn P w K mg base cls 3 "_law_screen" 2 fD__law_screen := by
  have nd := sc__law_screen.nd
  refine fn_okD (N := ["_law_panes_here", "_law_order_here", "_law_found", "_law_x", "_law_y"]) (ps := ["_law_panes_here", "_law_order_here"]) (G := G__law_screen) F sc__law_screen hx (F.bindsN fun _ _ _ _ _ _ us hl => match us, hl with | [_, _], _ => rfl) fun cdv A outer s H E hr => ?_
  have tk : Takes (cxOf (L2.CX P w) P w K mg base ["_law_panes_here", "_law_order_here", "_law_found", "_law_x", "_law_y"] "_law_screen" (defScope (top 38)) f cdv A outer s H E) (fun c d _ H => E c d H) := takes_of rfl rfl rfl rfl
  exact (pds_cons (pds_setN (ps_set nd rfl (.inl rfl) (pd_lst pda_nil) rfl (.inr rfl))) (pds_cons (pds_for (passes_of rfl) rfl (pdi_range1 (by rfl) B.range (pdb_cons (coeVB pd_int) pdb_nil)) (pg_nm (pg_name nd rfl (.inr rfl) (.inl rfl))) (pds_one (pds_extend (ps_expr (pe_bm PySem.F.plainAttrs_list PySem.F.slot_list_extend PySem.F.type_list_extend mt_extend (pv 2) (pa_cons (pd_lc (own := [("_law_y", 4)]) rfl nd  (pdi_range1 (by rfl) B.range (pdb_cons (coeVB pd_int) pdb_nil)) (blk_of (N' := ["_law_panes_here", "_law_order_here", "_law_found", "_law_x", "_law_y"]) (sc := (defScope (top 38))) rfl rfl rfl (by decide +kernel)) (fun _ _ _ _ _ => (pg_nm (pg_name nd rfl (.inl rfl) (.inr rfl)))) (fun _ _ _ _ _ => pts_yes) (fun _ _ _ _ _ => (pd_call g__law_top (hr.mono (by decide)) (by rfl) takes0 (pda_cons (pd_var (pv 0)) (pda_cons (pd_var (pv 1)) (pda_cons (pd_var (pv 3)) (pda_cons (pd_var (pv 4)) pda_nil)))))) rfl) pa_nil)))))) (pds_frz 2 (pds_one (pds_ret (pd_var (pv 2)))))))
theorem sc_check_windows : FnScope ["value"] ["value"] (defScope (top 11)) := ⟨rfl, rfl, rfl, by decide +kernel, rfl, by decide +kernel, by decide +kernel⟩
theorem ok_check_windows {P : Program} {w : World} {K : PySem.W.Frag} {mg : Str → Option Value} {base : Heap} {cls : Exc → Addr} {f : Addr} {fd : FuncData} (B : Bi mg) (F : FunD K "check_windows" "check_windows" (defArgs (top 11)) (defBody (top 11)) (defScope (top 11)) [] [] f fd) (hx : mg "check_windows" = some (.ref f)) (e_InvalidWindows : ExcAt K mg "InvalidWindows" (cls .windows)) (g_are_windows : Fn P w K mg base cls 3 "are_windows" 1 fD_are_windows) :
    Fn P w K mg base cls 4 "check_windows" 1 fD_check_windows := by
  have nd := sc_check_windows.nd
  refine fn_okD (N := ["value"]) (ps := ["value"]) (G := G_check_windows) F sc_check_windows hx (F.bindsN fun _ _ _ _ _ _ us hl => match us, hl with | [_], _ => rfl) fun cdv A outer s H E hr => ?_
  have tk : Takes (cxOf (L2.CX P w) P w K mg base ["value"] "check_windows" (defScope (top 11)) f cdv A outer s H E) (fun c d _ H => E c d H) := takes_of rfl rfl rfl rfl
  exact (pds_one (pds_if (pdt_not (pdt_val (pd_call g_are_windows (hr.mono (by decide)) (by rfl) tk (pda_cons (pd_var (pv 0)) pda_nil)))) (pds_one (pds_raise rfl tk e_InvalidWindows rfl)) pds_nil))
theorem sc_find_alike : FnScope ["windows", "order", "known", "look", "other"] ["windows", "order"] (defScope (top 28)) := ⟨rfl, rfl, rfl, by decide +kernel, rfl, by decide +kernel, by decide +kernel⟩
theorem ok_find_alike {P : Program} {w : World} {K : PySem.W.Frag} {mg : Str → Option Value} {base : Heap} {cls : Exc → Addr} {f : Addr} {fd : FuncData} (B : Bi mg) (F : FunD K "find_alike" "find_alike" (defArgs (top 28)) (defBody (top 28)) (defScope (top 28)) [] [] f fd) (hx : mg "find_alike" = some (.ref f)) (g_find_regions : Fn P w K mg base cls 3 "find_regions" 1 fD_find_regions) (g_look_of : Fn P w K mg base cls 2 "look_of" 2 fD_look_of) (g_all_orders : Fn P w K mg base cls 1 "all_orders" 1 fD_all_orders) :
    Fn P w K mg base cls 4 "find_alike" 2 fD_find_alike := by
  have nd := sc_find_alike.nd
  refine fn_okD (N := ["windows", "order", "known", "look", "other"]) (ps := ["windows", "order"]) (G := G_find_alike) F sc_find_alike hx (F.bindsN fun _ _ _ _ _ _ us hl => match us, hl with | [_, _], _ => rfl) fun cdv A outer s H E hr => ?_
  have tk : Takes (cxOf (L2.CX P w) P w K mg base ["windows", "order", "known", "look", "other"] "find_alike" (defScope (top 28)) f cdv A outer s H E) (fun c d _ H => E c d H) := takes_of rfl rfl rfl rfl
  exact (pds_cons (pds_set (ps_set nd rfl (.inr rfl) (pd_call g_find_regions (hr.mono (by decide)) (by rfl) tk (pda_cons (pd_var (pv 0)) pda_nil)) rfl (.inl rfl))) (pds_cons (pds_set (ps_set nd rfl (.inr rfl) (pd_call g_look_of (hr.mono (by decide)) (by rfl) tk (pda_cons (pd_var (pv 2)) (pda_cons (pd_var (pv 1)) pda_nil))) rfl (.inl rfl))) (pds_one (pds_ret (coeNV (pd_lc (own := [("other", 4)]) rfl nd  (pdi_seq (pd_call g_all_orders (hr.mono (by decide)) (by rfl) tk (pda_cons (pd_callB call_len_seq cs_len (by rfl) B.len boot_len (pdb_cons (pb_var (pv 0)) pdb_nil)) pda_nil))) (blk_of (N' := ["windows", "order", "known", "look", "other"]) (sc := (defScope (top 28))) rfl rfl rfl (by decide +kernel)) (fun _ _ _ _ _ => (pg_nm (pg_name nd rfl (.inl rfl) (.inr rfl)))) (fun _ _ _ _ _ => (pts_one (pdt_cmp (op_eqD (room64 hr)) os_eq (coeVB (pd_call g_look_of (hr.mono (by decide)) (by rfl) takes0 (pda_cons (pd_var (pv 2)) (pda_cons (pd_var (pv 4)) pda_nil)))) (pb_var (pv 3)) rfl))) (fun _ _ _ _ _ => (pd_var (pv 4))) rfl))))))
theorem sc_check_both : FnScope ["windows", "order"] ["windows", "order"] (defScope (top 13)) := ⟨rfl, rfl, rfl, by decide +kernel, rfl, by decide +kernel, by decide +kernel⟩
theorem ok_check_both {P : Program} {w : World} {K : PySem.W.Frag} {mg : Str → Option Value} {base : Heap} {cls : Exc → Addr} {f : Addr} {fd : FuncData} (B : Bi mg) (F : FunD K "check_both" "check_both" (defArgs (top 13)) (defBody (top 13)) (defScope (top 13)) [] [] f fd) (hx : mg "check_both" = some (.ref f)) (g_check_windows : Fn P w K mg base cls 4 "check_windows" 1 fD_check_windows) (g_check_order : Fn P w K mg base cls 3 "check_order" 2 fD_check_order) :
    Fn P w K mg base cls 5 "check_both" 2 fD_check_both := by
  have nd := sc_check_both.nd
  refine fn_okD (N := ["windows", "order"]) (ps := ["windows", "order"]) (G := G_check_both) F sc_check_both hx (F.bindsN fun _ _ _ _ _ _ us hl => match us, hl with | [_, _], _ => rfl) fun cdv A outer s H E hr => ?_
  have tk : Takes (cxOf (L2.CX P w) P w K mg base ["windows", "order"] "check_both" (defScope (top 13)) f cdv A outer s H E) (fun c d _ H => E c d H) := takes_of rfl rfl rfl rfl
  exact (pds_cons (pds_expr (ps_expr (pd_call g_check_windows (hr.mono (by decide)) (by rfl) tk (pda_cons (pd_var (pv 0)) pda_nil)))) (pds_one (pds_expr (ps_expr (pd_call g_check_order (hr.mono (by decide)) (by rfl) tk (pda_cons (pd_var (pv 0)) (pda_cons (pd_var (pv 1)) pda_nil)))))))
theorem sc_regions : FnScope ["windows"] ["windows"] (defScope (top 21)) := ⟨rfl, rfl, rfl, by decide +kernel, rfl, by decide +kernel, by decide +kernel⟩
theorem ok_regions {P : Program} {w : World} {K : PySem.W.Frag} {mg : Str → Option Value} {base : Heap} {cls : Exc → Addr} {f : Addr} {fd : FuncData} (B : Bi mg) (F : FunD K "regions" "regions" (defArgs (top 21)) (defBody (top 21)) (defScope (top 21)) [] [] f fd) (hx : mg "regions" = some (.ref f)) (g_check_windows : Fn P w K mg base cls 4 "check_windows" 1 fD_check_windows) (g_find_regions : Fn P w K mg base cls 3 "find_regions" 1 fD_find_regions) :
    Fn P w K mg base cls 5 "regions" 1 fD_regions := by
  have nd := sc_regions.nd
  refine fn_okD (N := ["windows"]) (ps := ["windows"]) (G := G_regions) F sc_regions hx (F.bindsN fun _ _ _ _ _ _ us hl => match us, hl with | [_], _ => rfl) fun cdv A outer s H E hr => ?_
  have tk : Takes (cxOf (L2.CX P w) P w K mg base ["windows"] "regions" (defScope (top 21)) f cdv A outer s H E) (fun c d _ H => E c d H) := takes_of rfl rfl rfl rfl
  exact (pds_cons (pds_expr (ps_expr (pd_call g_check_windows (hr.mono (by decide)) (by rfl) tk (pda_cons (pd_var (pv 0)) pda_nil)))) (pds_one (pds_ret (pd_call g_find_regions (hr.mono (by decide)) (by rfl) tk (pda_cons (pd_var (pv 0)) pda_nil)))))
theorem sc_count_looks : FnScope ["windows", "known", "order"] ["windows"] (defScope (top 27)) := ⟨rfl, rfl, rfl, by decide +kernel, rfl, by decide +kernel, by decide +kernel⟩
theorem ok_count_looks {P : Program} {w : World} {K : PySem.W.Frag} {mg : Str → Option Value} {base : Heap} {cls : Exc → Addr} {f : Addr} {fd : FuncData} (B : Bi mg) (F : FunD K "count_looks" "count_looks" (defArgs (top 27)) (defBody (top 27)) (defScope (top 27)) [] [] f fd) (hx : mg "count_looks" = some (.ref f)) (g_check_windows : Fn P w K mg base cls 4 "check_windows" 1 fD_check_windows) (g_find_regions : Fn P w K mg base cls 3 "find_regions" 1 fD_find_regions) (g_look_of : Fn P w K mg base cls 2 "look_of" 2 fD_look_of) (g_all_orders : Fn P w K mg base cls 1 "all_orders" 1 fD_all_orders) :
    Fn P w K mg base cls 5 "count_looks" 1 fD_count_looks := by
  have nd := sc_count_looks.nd
  refine fn_okD (N := ["windows", "known", "order"]) (ps := ["windows"]) (G := G_count_looks) F sc_count_looks hx (F.bindsN fun _ _ _ _ _ _ us hl => match us, hl with | [_], _ => rfl) fun cdv A outer s H E hr => ?_
  have tk : Takes (cxOf (L2.CX P w) P w K mg base ["windows", "known", "order"] "count_looks" (defScope (top 27)) f cdv A outer s H E) (fun c d _ H => E c d H) := takes_of rfl rfl rfl rfl
  exact (pds_cons (pds_expr (ps_expr (pd_call g_check_windows (hr.mono (by decide)) (by rfl) tk (pda_cons (pd_var (pv 0)) pda_nil)))) (pds_cons (pds_set (ps_set nd rfl (.inr rfl) (pd_call g_find_regions (hr.mono (by decide)) (by rfl) tk (pda_cons (pd_var (pv 0)) pda_nil)) rfl (.inl rfl))) (pds_one (pds_ret (pd_lenSet (by rfl) (room64 hr) (by rfl) B.len (by rfl) B.set (pdb_cons (coeVB (coeNV (pd_lc (own := [("order", 2)]) rfl nd  (pdi_seq (pd_call g_all_orders (hr.mono (by decide)) (by rfl) tk (pda_cons (pd_callB call_len_seq cs_len (by rfl) B.len boot_len (pdb_cons (pb_var (pv 0)) pdb_nil)) pda_nil))) (blk_of (N' := ["windows", "known", "order"]) (sc := (defScope (top 27))) rfl rfl rfl (by decide +kernel)) (fun _ _ _ _ _ => (pg_nm (pg_name nd rfl (.inl rfl) (.inr rfl)))) (fun _ _ _ _ _ => pts_yes) (fun _ _ _ _ _ => (pd_call g_look_of (hr.mono (by decide)) (by rfl) takes0 (pda_cons (pd_var (pv 1)) (pda_cons (pd_var (pv 2)) pda_nil)))) rfl))) pdb_nil))))))
theorem sc_check_two : FnScope ["windows", "one", "other"] ["windows", "one", "other"] (defScope (top 23)) := ⟨rfl, rfl, rfl, by decide +kernel, rfl, by decide +kernel, by decide +kernel⟩
theorem ok_check_two {P : Program} {w : World} {K : PySem.W.Frag} {mg : Str → Option Value} {base : Heap} {cls : Exc → Addr} {f : Addr} {fd : FuncData} (B : Bi mg) (F : FunD K "check_two" "check_two" (defArgs (top 23)) (defBody (top 23)) (defScope (top 23)) [] [] f fd) (hx : mg "check_two" = some (.ref f)) (g_check_order : Fn P w K mg base cls 3 "check_order" 2 fD_check_order) (g_check_both : Fn P w K mg base cls 5 "check_both" 2 fD_check_both) :
    Fn P w K mg base cls 6 "check_two" 3 fD_check_two := by
  have nd := sc_check_two.nd
  refine fn_okD (N := ["windows", "one", "other"]) (ps := ["windows", "one", "other"]) (G := G_check_two) F sc_check_two hx (F.bindsN fun _ _ _ _ _ _ us hl => match us, hl with | [_, _, _], _ => rfl) fun cdv A outer s H E hr => ?_
  have tk : Takes (cxOf (L2.CX P w) P w K mg base ["windows", "one", "other"] "check_two" (defScope (top 23)) f cdv A outer s H E) (fun c d _ H => E c d H) := takes_of rfl rfl rfl rfl
  exact (pds_cons (pds_expr (ps_expr (pd_call g_check_both (hr.mono (by decide)) (by rfl) tk (pda_cons (pd_var (pv 0)) (pda_cons (pd_var (pv 1)) pda_nil))))) (pds_one (pds_expr (ps_expr (pd_call g_check_order (hr.mono (by decide)) (by rfl) tk (pda_cons (pd_var (pv 0)) (pda_cons (pd_var (pv 2)) pda_nil)))))))
theorem sc_alike_orders : FnScope ["windows", "order"] ["windows", "order"] (defScope (top 29)) := ⟨rfl, rfl, rfl, by decide +kernel, rfl, by decide +kernel, by decide +kernel⟩
theorem ok_alike_orders {P : Program} {w : World} {K : PySem.W.Frag} {mg : Str → Option Value} {base : Heap} {cls : Exc → Addr} {f : Addr} {fd : FuncData} (B : Bi mg) (F : FunD K "alike_orders" "alike_orders" (defArgs (top 29)) (defBody (top 29)) (defScope (top 29)) [] [] f fd) (hx : mg "alike_orders" = some (.ref f)) (g_check_both : Fn P w K mg base cls 5 "check_both" 2 fD_check_both) (g_find_alike : Fn P w K mg base cls 4 "find_alike" 2 fD_find_alike) :
    Fn P w K mg base cls 6 "alike_orders" 2 fD_alike_orders := by
  have nd := sc_alike_orders.nd
  refine fn_okD (N := ["windows", "order"]) (ps := ["windows", "order"]) (G := G_alike_orders) F sc_alike_orders hx (F.bindsN fun _ _ _ _ _ _ us hl => match us, hl with | [_, _], _ => rfl) fun cdv A outer s H E hr => ?_
  have tk : Takes (cxOf (L2.CX P w) P w K mg base ["windows", "order"] "alike_orders" (defScope (top 29)) f cdv A outer s H E) (fun c d _ H => E c d H) := takes_of rfl rfl rfl rfl
  exact (pds_cons (pds_expr (ps_expr (pd_call g_check_both (hr.mono (by decide)) (by rfl) tk (pda_cons (pd_var (pv 0)) (pda_cons (pd_var (pv 1)) pda_nil))))) (pds_one (pds_ret (pd_call g_find_alike (hr.mono (by decide)) (by rfl) tk (pda_cons (pd_var (pv 0)) (pda_cons (pd_var (pv 1)) pda_nil))))))
theorem sc_sure_pairs : FnScope ["windows", "order", "i", "known", "found", "j", "other"] ["windows", "order"] (defScope (top 30)) := ⟨rfl, rfl, rfl, by decide +kernel, rfl, by decide +kernel, by decide +kernel⟩
theorem ok_sure_pairs {P : Program} {w : World} {K : PySem.W.Frag} {mg : Str → Option Value} {base : Heap} {cls : Exc → Addr} {f : Addr} {fd : FuncData} (B : Bi mg) (F : FunD K "sure_pairs" "sure_pairs" (defArgs (top 30)) (defBody (top 30)) (defScope (top 30)) [] [] f fd) (hx : mg "sure_pairs" = some (.ref f)) (g_check_both : Fn P w K mg base cls 5 "check_both" 2 fD_check_both) (g_find_alike : Fn P w K mg base cls 4 "find_alike" 2 fD_find_alike) :
    Fn P w K mg base cls 6 "sure_pairs" 2 fD_sure_pairs := by
  have nd := sc_sure_pairs.nd
  refine fn_okD (N := ["windows", "order", "i", "known", "found", "j", "other"]) (ps := ["windows", "order"]) (G := G_sure_pairs) F sc_sure_pairs hx (F.bindsN fun _ _ _ _ _ _ us hl => match us, hl with | [_, _], _ => rfl) fun cdv A outer s H E hr => ?_
  have tk : Takes (cxOf (L2.CX P w) P w K mg base ["windows", "order", "i", "known", "found", "j", "other"] "sure_pairs" (defScope (top 30)) f cdv A outer s H E) (fun c d _ H => E c d H) := takes_of rfl rfl rfl rfl
  exact (pds_cons (pds_expr (ps_expr (pd_call g_check_both (hr.mono (by decide)) (by rfl) tk (pda_cons (pd_var (pv 0)) (pda_cons (pd_var (pv 1)) pda_nil))))) (pds_cons (pds_par (ps_par rfl nd rfl rfl (by decide) rfl rfl (pa_cons (coeVS (pd_call g_find_alike (hr.mono (by decide)) (by rfl) tk (pda_cons (pd_var (pv 0)) (pda_cons (pd_var (pv 1)) pda_nil)))) (pa_cons (coeNS (pd_lst pda_nil)) pa_nil)) rfl)) (pds_cons (pds_for (passes_of rfl) rfl (pdi_range1 (by rfl) B.range (pdb_cons (coeVB (pd_callB call_len_seq cs_len (by rfl) B.len boot_len (pdb_cons (pb_var (pv 0)) pdb_nil))) pdb_nil)) (pg_nm (pg_name nd rfl (.inr rfl) (.inl rfl))) (pds_one (pds_for (passes_of rfl) rfl (pdi_range1 (by rfl) B.range (pdb_cons (coeVB (pd_callB call_len_seq cs_len (by rfl) B.len boot_len (pdb_cons (pb_var (pv 0)) pdb_nil))) pdb_nil)) (pg_nm (pg_name nd rfl (.inr rfl) (.inl rfl))) (pds_one (pds_if (pdt_w (pdw_and (pdt_cmp (op_neD (room64 hr)) os_ne (pb_var (pv 2)) (pb_var (pv 5)) rfl) (pdw_and1 (pdt_val (pd_callB (cr_all (by rfl)) cs_all (by rfl) B.all boot_all (pdb_cons (coeVB (coeNV (pd_lc (own := [("other", 6)]) rfl nd  (pdi_seq (pd_var (pv 3))) (blk_of (N' := ["windows", "order", "i", "known", "found", "j", "other"]) (sc := (defScope (top 30))) rfl rfl rfl (by decide +kernel)) (fun _ _ _ _ _ => (pg_nm (pg_name nd rfl (.inl rfl) (.inr rfl)))) (fun _ _ _ _ _ => pts_yes) (fun _ _ _ _ _ => (pd_cmp op_gt (OpSemB.val os_cmpI) (pd_tidx (pd_var (pv 6)) (pda_cons (pd_var (pv 2)) pda_nil)) (pd_tidx (pd_var (pv 6)) (pda_cons (pd_var (pv 5)) pda_nil)) rfl)) rfl))) pdb_nil)))))) (pds_one (pds_append (r := rAppend) (ps_expr (pe_bm PySem.F.plainAttrs_list PySem.F.slot_list_append PySem.F.type_list_append mt_append (pv 4) (pa_cons (pd_tup (pda_cons (pd_var (pv 2)) (pda_cons (pd_var (pv 5)) pda_nil))) pa_nil))))) pds_nil))))) (pds_frz 4 (pds_one (pds_ret (pd_var (pv 4))))))))
theorem sc_are_alike : FnScope ["windows", "one", "other", "known"] ["windows", "one", "other"] (defScope (top 24)) := ⟨rfl, rfl, rfl, by decide +kernel, rfl, by decide +kernel, by decide +kernel⟩
theorem ok_are_alike {P : Program} {w : World} {K : PySem.W.Frag} {mg : Str → Option Value} {base : Heap} {cls : Exc → Addr} {f : Addr} {fd : FuncData} (B : Bi mg) (F : FunD K "are_alike" "are_alike" (defArgs (top 24)) (defBody (top 24)) (defScope (top 24)) [] [] f fd) (hx : mg "are_alike" = some (.ref f)) (g_find_regions : Fn P w K mg base cls 3 "find_regions" 1 fD_find_regions) (g_look_of : Fn P w K mg base cls 2 "look_of" 2 fD_look_of) (g_check_two : Fn P w K mg base cls 6 "check_two" 3 fD_check_two) :
    Fn P w K mg base cls 7 "are_alike" 3 fD_are_alike := by
  have nd := sc_are_alike.nd
  refine fn_okD (N := ["windows", "one", "other", "known"]) (ps := ["windows", "one", "other"]) (G := G_are_alike) F sc_are_alike hx (F.bindsN fun _ _ _ _ _ _ us hl => match us, hl with | [_, _, _], _ => rfl) fun cdv A outer s H E hr => ?_
  have tk : Takes (cxOf (L2.CX P w) P w K mg base ["windows", "one", "other", "known"] "are_alike" (defScope (top 24)) f cdv A outer s H E) (fun c d _ H => E c d H) := takes_of rfl rfl rfl rfl
  exact (pds_cons (pds_expr (ps_expr (pd_call g_check_two (hr.mono (by decide)) (by rfl) tk (pda_cons (pd_var (pv 0)) (pda_cons (pd_var (pv 1)) (pda_cons (pd_var (pv 2)) pda_nil)))))) (pds_cons (pds_set (ps_set nd rfl (.inl rfl) (pd_call g_find_regions (hr.mono (by decide)) (by rfl) tk (pda_cons (pd_var (pv 0)) pda_nil)) rfl (.inr rfl))) (pds_one (pds_ret (pd_cmp (op_eqD (room64 hr)) (OpSemB.val os_eq) (coeVB (pd_call g_look_of (hr.mono (by decide)) (by rfl) tk (pda_cons (pd_var (pv 3)) (pda_cons (pd_var (pv 1)) pda_nil)))) (coeVB (pd_call g_look_of (hr.mono (by decide)) (by rfl) tk (pda_cons (pd_var (pv 3)) (pda_cons (pd_var (pv 2)) pda_nil)))) rfl)))))
theorem sc_parting_cell : FnScope ["windows", "one", "other", "cell", "region"] ["windows", "one", "other"] (defScope (top 25)) := ⟨rfl, rfl, rfl, by decide +kernel, rfl, by decide +kernel, by decide +kernel⟩
theorem ok_parting_cell {P : Program} {w : World} {K : PySem.W.Frag} {mg : Str → Option Value} {base : Heap} {cls : Exc → Addr} {f : Addr} {fd : FuncData} (B : Bi mg) (F : FunD K "parting_cell" "parting_cell" (defArgs (top 25)) (defBody (top 25)) (defScope (top 25)) [] [] f fd) (hx : mg "parting_cell" = some (.ref f)) (g_region_at : Fn P w K mg base cls 2 "region_at" 2 fD_region_at) (g_all_cells : Fn P w K mg base cls 2 "all_cells" 1 fD_all_cells) (g_top_of : Fn P w K mg base cls 1 "top_of" 2 fD_top_of) (g_check_two : Fn P w K mg base cls 6 "check_two" 3 fD_check_two) :
    Fn P w K mg base cls 7 "parting_cell" 3 fD_parting_cell := by
  have nd := sc_parting_cell.nd
  refine fn_okD (N := ["windows", "one", "other", "cell", "region"]) (ps := ["windows", "one", "other"]) (G := G_parting_cell) F sc_parting_cell hx (F.bindsN fun _ _ _ _ _ _ us hl => match us, hl with | [_, _, _], _ => rfl) fun cdv A outer s H E hr => ?_
  have tk : Takes (cxOf (L2.CX P w) P w K mg base ["windows", "one", "other", "cell", "region"] "parting_cell" (defScope (top 25)) f cdv A outer s H E) (fun c d _ H => E c d H) := takes_of rfl rfl rfl rfl
  exact (pds_cons (pds_expr (ps_expr (pd_call g_check_two (hr.mono (by decide)) (by rfl) tk (pda_cons (pd_var (pv 0)) (pda_cons (pd_var (pv 1)) (pda_cons (pd_var (pv 2)) pda_nil)))))) (pds_cons (pds_for (passes_of rfl) rfl (pdi_seq (pd_call g_all_cells (hr.mono (by decide)) (by rfl) tk (pda_cons (pd_var (pv 0)) pda_nil))) (pg_nm (pg_name nd rfl (.inl rfl) (.inr rfl))) (pds_cons (pds_set (ps_set nd rfl (.inl rfl) (pd_call g_region_at (hr.mono (by decide)) (by rfl) tk (pda_cons (pd_var (pv 0)) (pda_cons (pd_var (pv 3)) pda_nil))) rfl (.inr rfl))) (pds_one (pds_if (pdt_cmp (op_neD (room64 hr)) os_ne (coeVB (pd_call g_top_of (hr.mono (by decide)) (by rfl) tk (pda_cons (pd_var (pv 1)) (pda_cons (pd_var (pv 4)) pda_nil)))) (coeVB (pd_call g_top_of (hr.mono (by decide)) (by rfl) tk (pda_cons (pd_var (pv 2)) (pda_cons (pd_var (pv 4)) pda_nil)))) rfl) (pds_one (pds_ret (pd_var (pv 3)))) pds_nil)))) (pds_one (pds_ret pd_non))))
theorem sc_law : FnScope ["_law_script", "_law_i", "_law_panes_here", "_law_many", "_law_x", "_law_looks", "_law_parted", "_law_alike", "_law_due", "_law_one", "_law_cells", "_law_seen", "_law_y", "_law_order_here", "_law_other", "_law_marks", "_law_k", "_law_two", "_law_row", "_law_number", "_law_region"] ["_law_script"] (defScope (top 40)) := ⟨rfl, rfl, rfl, by decide +kernel, rfl, by decide +kernel, by decide +kernel⟩
theorem ok_law {P : Program} {w : World} {K : PySem.W.Frag} {mg : Str → Option Value} {base : Heap} {cls : Exc → Addr} {f : Addr} {fd : FuncData} (B : Bi mg) (F : FunD K "law" "law" (defArgs (top 40)) (defBody (top 40)) (defScope (top 40)) [] [] f fd)  (g_regions : Fn P w K mg base cls 5 "regions" 1 fD_regions) (g_are_alike : Fn P w K mg base cls 7 "are_alike" 3 fD_are_alike) (g_parting_cell : Fn P w K mg base cls 7 "parting_cell" 3 fD_parting_cell) (g_count_looks : Fn P w K mg base cls 5 "count_looks" 1 fD_count_looks) (g_alike_orders : Fn P w K mg base cls 6 "alike_orders" 2 fD_alike_orders) (g_sure_pairs : Fn P w K mg base cls 6 "sure_pairs" 2 fD_sure_pairs) (g__law_panes : Fn P w K mg base cls 3 "_law_panes" 3 fD__law_panes) (g__law_in : Fn P w K mg base cls 1 "_law_in" 3 fD__law_in) (g__law_order : Fn P w K mg base cls 2 "_law_order" 3 fD__law_order) (g__law_screen : Fn P w K mg base cls 3 "_law_screen" 2 fD__law_screen) (g__law_orders : Fn P w K mg base cls 1 "_law_orders" 1 fD__law_orders) :
    FnOk P w K mg base (L2.CX P w) 8 f fd ["_law_script"] (spD K cls 1 fD_law) := by
  have nd := sc_law.nd
  refine fn_okD0 (N := ["_law_script", "_law_i", "_law_panes_here", "_law_many", "_law_x", "_law_looks", "_law_parted", "_law_alike", "_law_due", "_law_one", "_law_cells", "_law_seen", "_law_y", "_law_order_here", "_law_other", "_law_marks", "_law_k", "_law_two", "_law_row", "_law_number", "_law_region"]) (ps := ["_law_script"]) (G := G_law) F sc_law fun cdv A outer s H E hr => ?_
  have tk : Takes (cxOf (L2.CX P w) P w K mg base ["_law_script", "_law_i", "_law_panes_here", "_law_many", "_law_x", "_law_looks", "_law_parted", "_law_alike", "_law_due", "_law_one", "_law_cells", "_law_seen", "_law_y", "_law_order_here", "_law_other", "_law_marks", "_law_k", "_law_two", "_law_row", "_law_number", "_law_region"] "law" (defScope (top 40)) f cdv A outer s H E) (fun c d _ H => E c d H) := takes_of rfl rfl rfl rfl
  exact (pds_cons (pds_for (passes_of rfl) rfl (pdi_range1 (by rfl) B.range (pdb_cons (coeVB pd_int) pdb_nil)) (pg_nm (pg_name nd rfl (.inl rfl) (.inr rfl))) (pds_cons (pds_set (ps_set nd rfl (.inr rfl) (pd_call g__law_panes (hr.mono (by decide)) (by rfl) tk (pda_cons (pd_var (pv 0)) (pda_cons (pd_op op_mulA os_mulA pd_int (pd_var (pv 1))) (pda_cons pd_int pda_nil)))) rfl (.inl rfl))) (pds_cons (pds_set (ps_set nd rfl (.inl rfl) (pd_callB call_len_seq cs_len (by rfl) B.len boot_len (pdb_cons (pb_var (pv 2)) pdb_nil)) rfl (.inr rfl))) (pds_cons (pds_parT (ps_asg (pe_tup (pa_cons (coeNS (pd_lst pda_nil)) (pa_cons (coeNS (pd_lst pda_nil)) pa_nil))) (pg_tup rfl (pgn_cons (pg_name nd rfl (.inr rfl) (.inl rfl)) (pgn_cons (pg_name nd rfl (.inl rfl) (.inr rfl)) pgn_nil)) rfl rfl))) (pds_cons (pds_for (passes_of rfl) rfl (pdi_range1 (by rfl) B.range (pdb_cons (coeVB pd_int) pdb_nil)) (pg_nm (pg_name nd rfl (.inr rfl) (.inl rfl))) (pds_one (pds_extend (ps_expr (pe_bm PySem.F.plainAttrs_list PySem.F.slot_list_extend PySem.F.type_list_extend mt_extend (pv 10) (pa_cons (pd_lc (own := [("_law_y", 12)]) rfl nd  (pdi_range1 (by rfl) B.range (pdb_cons (coeVB pd_int) pdb_nil)) (blk_of (N' := ["_law_script", "_law_i", "_law_panes_here", "_law_many", "_law_x", "_law_looks", "_law_parted", "_law_alike", "_law_due", "_law_one", "_law_cells", "_law_seen", "_law_y", "_law_order_here", "_law_other", "_law_marks", "_law_k", "_law_two", "_law_row", "_law_number", "_law_region"]) (sc := (defScope (top 40))) rfl rfl rfl (by decide +kernel)) (fun _ _ _ _ _ => (pg_nm (pg_name nd rfl (.inl rfl) (.inr rfl)))) (fun _ _ _ _ _ => pts_yes) (fun _ _ _ _ _ => (pd_tup (pda_cons (pd_var (pv 4)) (pda_cons (pd_var (pv 12)) pda_nil)))) rfl) pa_nil)))))) (pds_frz 10 (pds_cons (pds_for (passes_of rfl) rfl (pdi_seq (pd_var (pv 10))) (pg_tp rfl (pgn_cons (pg_name nd rfl (.inr rfl) (.inl rfl)) (pgn_cons (pg_name nd rfl (.inr rfl) (.inl rfl)) pgn_nil))) (pds_one (pds_append (r := rAppend) (ps_expr (pe_bm PySem.F.plainAttrs_list PySem.F.slot_list_append PySem.F.type_list_append mt_append (pv 11) (pa_cons (pd_callTy call_tuple_of cs_tuple (by rfl) B.tuple boot_tuple (pdb_cons (coeVB (coeNV (pd_lc (own := [("_law_number", 19)]) rfl nd  (pdi_range1 (by rfl) B.range (pdb_cons (pb_var (pv 3)) pdb_nil)) (blk_of (N' := ["_law_script", "_law_i", "_law_panes_here", "_law_many", "_law_x", "_law_looks", "_law_parted", "_law_alike", "_law_due", "_law_one", "_law_cells", "_law_seen", "_law_y", "_law_order_here", "_law_other", "_law_marks", "_law_k", "_law_two", "_law_row", "_law_number", "_law_region"]) (sc := (defScope (top 40))) rfl rfl rfl (by decide +kernel)) (fun _ _ _ _ _ => (pg_nm (pg_name nd rfl (.inl rfl) (.inr rfl)))) (fun _ _ _ _ _ => (pts_one (pdt_val (pd_call g__law_in (hr.mono (by decide)) (by rfl) takes0 (pda_cons (pd_ix ix_seq os_ix (pb_var (pv 2)) (pd_var (pv 19)) (fun _ _ => rfl)) (pda_cons (pd_var (pv 4)) (pda_cons (pd_var (pv 12)) pda_nil))))))) (fun _ _ _ _ _ => (pd_var (pv 19))) rfl))) pdb_nil)) pa_nil)))))) (pds_cons (pds_if (pdt_cmp (op_neD (room64 hr)) os_ne (coeVB (pd_call g_regions (hr.mono (by decide)) (by rfl) tk (pda_cons (pd_var (pv 2)) pda_nil))) (coeVB (coeNV (pd_sortSetT (by rfl) (room64 hr) (by rfl) B.sorted (by rfl) B.set (pdb_cons (coeVB (coeNV (pd_lc (own := [("_law_region", 20)]) rfl nd  (pdi_seqB (pb_var (pv 11))) (blk_of (N' := ["_law_script", "_law_i", "_law_panes_here", "_law_many", "_law_x", "_law_looks", "_law_parted", "_law_alike", "_law_due", "_law_one", "_law_cells", "_law_seen", "_law_y", "_law_order_here", "_law_other", "_law_marks", "_law_k", "_law_two", "_law_row", "_law_number", "_law_region"]) (sc := (defScope (top 40))) rfl rfl rfl (by decide +kernel)) (fun _ _ _ _ _ => (pg_nm (pg_name nd rfl (.inl rfl) (.inr rfl)))) (fun _ _ _ _ _ => (pts_one (pdt_cmp (op_neD (room64 hr)) os_ne (pb_var (pv 20)) (coeVB (pd_tup pda_nil)) rfl))) (fun _ _ _ _ _ => (pd_var (pv 20))) rfl))) pdb_nil)))) rfl) (pds_one (pds_ret pd_bl)) pds_nil) (pds_cons (pds_parT (ps_asg (pe_tup (pa_cons (coeVS (pd_call g__law_order (hr.mono (by decide)) (by rfl) tk (pda_cons (pd_var (pv 0)) (pda_cons (pd_op op_addA os_add (pd_op op_mulA os_mulA pd_int (pd_var (pv 1))) pd_int) (pda_cons (pd_var (pv 3)) pda_nil))))) (pa_cons (coeVS (pd_call g__law_order (hr.mono (by decide)) (by rfl) tk (pda_cons (pd_var (pv 0)) (pda_cons (pd_op op_addA os_add (pd_op op_mulA os_mulA pd_int (pd_var (pv 1))) pd_int) (pda_cons (pd_var (pv 3)) pda_nil))))) pa_nil))) (pg_tup rfl (pgn_cons (pg_name nd rfl (.inr rfl) (.inl rfl)) (pgn_cons (pg_name nd rfl (.inr rfl) (.inl rfl)) pgn_nil)) rfl rfl))) (pds_cons (pds_set (ps_set nd rfl (.inr rfl) (coeMV (pd_callTy (cr_dictX (by rfl) (room8 hr)) cs_dictX (by rfl) B.dict boot_dict (pdb_cons (coeVB (coeNV (pd_lc (own := [("_law_one", 9)]) rfl nd  (pdi_seq (pd_call g__law_orders (hr.mono (by decide)) (by rfl) tk (pda_cons (pd_var (pv 3)) pda_nil))) (blk_of (N' := ["_law_script", "_law_i", "_law_panes_here", "_law_many", "_law_x", "_law_looks", "_law_parted", "_law_alike", "_law_due", "_law_one", "_law_cells", "_law_seen", "_law_y", "_law_order_here", "_law_other", "_law_marks", "_law_k", "_law_two", "_law_row", "_law_number", "_law_region"]) (sc := (defScope (top 40))) rfl rfl rfl (by decide +kernel)) (fun _ _ _ _ _ => (pg_nm (pg_name nd rfl (.inl rfl) (.inr rfl)))) (fun _ _ _ _ _ => pts_yes) (fun _ _ _ _ _ => (pd_tup (pda_cons (pd_var (pv 9)) (pda_cons (pd_call g__law_screen (hr.mono (by decide)) (by rfl) takes0 (pda_cons (pd_var (pv 2)) (pda_cons (pd_var (pv 9)) pda_nil))) pda_nil)))) rfl))) pdb_nil))) rfl (.inl rfl))) (pds_cons (pds_set (asgNV (pds_setLc (own := [("_law_k", 16)]) rfl nd (i := 6) rfl rfl rfl (pdi_range1 (by rfl) B.range (pdb_cons (coeVB pd_int) pdb_nil)) (blk_of (N' := ["_law_script", "_law_i", "_law_panes_here", "_law_many", "_law_x", "_law_looks", "_law_parted", "_law_alike", "_law_due", "_law_one", "_law_cells", "_law_seen", "_law_y", "_law_order_here", "_law_other", "_law_marks", "_law_k", "_law_two", "_law_row", "_law_number", "_law_region"]) (sc := (defScope (top 40))) rfl rfl rfl (by decide +kernel)) (fun _ _ _ _ _ => (pg_nm (pg_name nd rfl (.inl rfl) (.inr rfl)))) (fun _ _ _ _ _ => (pts_one (pdt_cmp (op_neD (room64 hr)) os_ne (coeVB (pd_ix ix_seq os_ix (coeVB (pd_dget (room1 hr) (pb_var (pv 5)) (pd_var (pv 13)) (fun _ _ => rfl))) (pd_var (pv 16)) (fun _ _ => rfl))) (coeVB (pd_ix ix_seq os_ix (coeVB (pd_dget (room1 hr) (pb_var (pv 5)) (pd_var (pv 14)) (fun _ _ => rfl))) (pd_var (pv 16)) (fun _ _ => rfl))) rfl))) (fun _ _ _ _ _ => (pd_ix ix_seq os_ix (pb_var (pv 10)) (pd_var (pv 16)) (fun _ _ => rfl))) rfl))) (pds_cons (pds_if (pdt_cmp (op_neD (room64 hr)) os_ne (coeVB (pd_call g_are_alike (hr.mono (by decide)) (by rfl) tk (pda_cons (pd_var (pv 2)) (pda_cons (pd_var (pv 13)) (pda_cons (pd_var (pv 14)) pda_nil))))) (coeVB (pd_cmp (op_eqD (room64 hr)) (OpSemB.val os_eq) (pb_var (pv 6)) (coeVB (coeNV (pd_lst pda_nil))) rfl)) rfl) (pds_one (pds_ret pd_bl)) pds_nil) (pds_cons (pds_if (pdt_cmp (op_neD (room64 hr)) os_ne (coeVB (pd_call g_parting_cell (hr.mono (by decide)) (by rfl) tk (pda_cons (pd_var (pv 2)) (pda_cons (pd_var (pv 13)) (pda_cons (pd_var (pv 14)) pda_nil))))) (coeVB (pd_if (pdt_cmp (op_neD (room64 hr)) os_ne (pb_var (pv 6)) (coeVB (coeNV (pd_lst pda_nil))) rfl) (pd_ix ix_seq os_ix (pb_var (pv 6)) pd_int (fun _ _ => rfl)) pd_non)) rfl) (pds_one (pds_ret pd_bl)) pds_nil) (pds_cons (pds_if (pdt_cmp (op_neD (room64 hr)) os_ne (coeVB (pd_call g_count_looks (hr.mono (by decide)) (by rfl) tk (pda_cons (pd_var (pv 2)) pda_nil))) (coeVB (pd_lenSet (by rfl) (room64 hr) (by rfl) B.len (by rfl) B.set (pdb_cons (coeVB (coeNV (pd_lcV (own := [("_law_one", 9)]) rfl nd (pv 5) (blk_of (N' := ["_law_script", "_law_i", "_law_panes_here", "_law_many", "_law_x", "_law_looks", "_law_parted", "_law_alike", "_law_due", "_law_one", "_law_cells", "_law_seen", "_law_y", "_law_order_here", "_law_other", "_law_marks", "_law_k", "_law_two", "_law_row", "_law_number", "_law_region"]) (sc := (defScope (top 40))) rfl rfl rfl (by decide +kernel)) (fun _ _ _ _ _ => (pg_nm (pg_name nd rfl (.inl rfl) (.inr rfl)))) (fun _ _ _ _ _ => pts_yes) (fun _ _ _ _ _ => (pd_callTy call_tuple_of cs_tuple (by rfl) B.tuple boot_tuple (pdb_cons (coeVB (pd_dget (room1 hr) (pb_var (pv 5)) (pd_var (pv 9)) (fun _ _ => rfl))) pdb_nil))) rfl))) pdb_nil))) rfl) (pds_one (pds_ret pd_bl)) pds_nil) (pds_cons (pds_set (ps_set nd rfl (.inr rfl) (coeNV (pd_lc (own := [("_law_one", 9)]) rfl nd  (pdi_seq (pd_call g__law_orders (hr.mono (by decide)) (by rfl) tk (pda_cons (pd_var (pv 3)) pda_nil))) (blk_of (N' := ["_law_script", "_law_i", "_law_panes_here", "_law_many", "_law_x", "_law_looks", "_law_parted", "_law_alike", "_law_due", "_law_one", "_law_cells", "_law_seen", "_law_y", "_law_order_here", "_law_other", "_law_marks", "_law_k", "_law_two", "_law_row", "_law_number", "_law_region"]) (sc := (defScope (top 40))) rfl rfl rfl (by decide +kernel)) (fun _ _ _ _ _ => (pg_nm (pg_name nd rfl (.inl rfl) (.inr rfl)))) (fun _ _ _ _ _ => (pts_one (pdt_cmp (op_eqD (room64 hr)) os_eq (coeVB (pd_dget (room1 hr) (pb_var (pv 5)) (pd_var (pv 9)) (fun _ _ => rfl))) (coeVB (pd_dget (room1 hr) (pb_var (pv 5)) (pd_var (pv 13)) (fun _ _ => rfl))) rfl))) (fun _ _ _ _ _ => (pd_var (pv 9))) rfl)) rfl (.inl rfl))) (pds_cons (pds_if (pdt_cmp (op_neD (room64 hr)) os_ne (coeVB (pd_call g_alike_orders (hr.mono (by decide)) (by rfl) tk (pda_cons (pd_var (pv 2)) (pda_cons (pd_var (pv 13)) pda_nil)))) (pb_var (pv 7)) rfl) (pds_one (pds_ret pd_bl)) pds_nil) (pds_cons (pds_setN (ps_set nd rfl (.inl rfl) (pd_lst pda_nil) rfl (.inr rfl))) (pds_cons (pds_for (passes_of rfl) rfl (pdi_range1 (by rfl) B.range (pdb_cons (pb_var (pv 3)) pdb_nil)) (pg_nm (pg_name nd rfl (.inr rfl) (.inl rfl))) (pds_cons (pds_set (ps_set nd rfl (.inr rfl) (coeNV (pd_lc (own := [("_law_two", 17)]) rfl nd  (pdi_range1 (by rfl) B.range (pdb_cons (pb_var (pv 3)) pdb_nil)) (blk_of (N' := ["_law_script", "_law_i", "_law_panes_here", "_law_many", "_law_x", "_law_looks", "_law_parted", "_law_alike", "_law_due", "_law_one", "_law_cells", "_law_seen", "_law_y", "_law_order_here", "_law_other", "_law_marks", "_law_k", "_law_two", "_law_row", "_law_number", "_law_region"]) (sc := (defScope (top 40))) rfl rfl rfl (by decide +kernel)) (fun _ _ _ _ _ => (pg_nm (pg_name nd rfl (.inr rfl) (.inl rfl)))) (fun _ _ _ _ _ => pts_yes) (fun _ _ _ _ _ => (coeNV (pd_lc (own := [("_law_row", 18)]) rfl nd  (pdi_seq (pd_var (pv 7))) (blk_of (N' := ["_law_script", "_law_i", "_law_panes_here", "_law_many", "_law_x", "_law_looks", "_law_parted", "_law_alike", "_law_due", "_law_one", "_law_cells", "_law_seen", "_law_y", "_law_order_here", "_law_other", "_law_marks", "_law_k", "_law_two", "_law_row", "_law_number", "_law_region"]) (sc := (L2.relS _ (defScope (top 40)))) rfl rfl rfl (by decide +kernel)) (fun _ _ _ _ _ => (pg_nm (pg_name nd rfl (.inl rfl) (.inr rfl)))) (fun _ _ _ _ _ => pts_yes) (fun _ _ _ _ _ => (pd_cmp op_gt (OpSemB.val os_cmpI) (pd_tidx (pd_var (pv 18)) (pda_cons (pd_var (pv 9)) pda_nil)) (pd_tidx (pd_var (pv 18)) (pda_cons (pd_var (pv 17)) pda_nil)) rfl)) rfl))) rfl)) rfl (.inl rfl))) (pds_one (pds_extend (ps_expr (pe_bm PySem.F.plainAttrs_list PySem.F.slot_list_extend PySem.F.type_list_extend mt_extend (pv 8) (pa_cons (pd_lc (own := [("_law_two", 17)]) rfl nd  (pdi_range1 (by rfl) B.range (pdb_cons (pb_var (pv 3)) pdb_nil)) (blk_of (N' := ["_law_script", "_law_i", "_law_panes_here", "_law_many", "_law_x", "_law_looks", "_law_parted", "_law_alike", "_law_due", "_law_one", "_law_cells", "_law_seen", "_law_y", "_law_order_here", "_law_other", "_law_marks", "_law_k", "_law_two", "_law_row", "_law_number", "_law_region"]) (sc := (defScope (top 40))) rfl rfl rfl (by decide +kernel)) (fun _ _ _ _ _ => (pg_nm (pg_name nd rfl (.inl rfl) (.inr rfl)))) (fun _ _ _ _ _ => (pts_one (pdt_w (pdw_and (pdt_cmp (op_neD (room64 hr)) os_ne (pb_var (pv 9)) (pb_var (pv 17)) rfl) (pdw_and1 (pdt_val (pd_callB (cr_all (by rfl)) cs_all (by rfl) B.all boot_all (pdb_cons (coeVB (pd_ix ix_seq os_ix (pb_var (pv 15)) (pd_var (pv 17)) (fun _ _ => rfl))) pdb_nil)))))))) (fun _ _ _ _ _ => (pd_tup (pda_cons (pd_var (pv 9)) (pda_cons (pd_var (pv 17)) pda_nil)))) rfl) pa_nil))))))) (pds_one (pds_if (pdt_cmp (op_neD (room64 hr)) os_ne (coeVB (pd_call g_sure_pairs (hr.mono (by decide)) (by rfl) tk (pda_cons (pd_var (pv 2)) (pda_cons (pd_var (pv 13)) pda_nil)))) (pb_var (pv 8)) rfl) (pds_one (pds_ret pd_bl)) pds_nil)))))))))))))))))))) (pds_one (pds_ret (pd_and (pd_cmp (op_eqD (room64 hr)) (OpSemB.val os_eq) (coeVB (pd_call g_count_looks (hr.mono (by decide)) (by rfl) tk (pda_cons (pd_tup (pda_cons (pd_tup (pda_cons pd_int (pda_cons pd_int (pda_cons pd_int (pda_cons pd_int pda_nil))))) (pda_cons (pd_tup (pda_cons pd_int (pda_cons pd_int (pda_cons pd_int (pda_cons pd_int pda_nil))))) (pda_cons (pd_tup (pda_cons pd_int (pda_cons pd_int (pda_cons pd_int (pda_cons pd_int pda_nil))))) pda_nil)))) pda_nil))) (coeVB pd_int) rfl) (pd_one (pd_cmp (op_eqD (room64 hr)) (OpSemB.val os_eq) (coeVB (pd_call g_count_looks (hr.mono (by decide)) (by rfl) tk (pda_cons (pd_tup pda_nil) pda_nil))) (coeVB pd_int) rfl))))))
end PD

set_option maxHeartbeats 0
namespace Hd
open PySem PySem.Spec PyProof.Rows L2 PD
def mk (x : Str) (s : Stmt) : He.DefD := ⟨(x, none), x, x, defArgs s, defBody s, defScope s, [], []⟩
def fn : List He.DefD := [mk "is_int" (top 7), mk "is_window" (top 8), mk "are_windows" (top 9), mk "has_order" (top 10), mk "check_windows" (top 11), mk "check_order" (top 12), mk "check_both" (top 13), mk "covers" (top 14), mk "cells_of" (top 15), mk "region_at" (top 16), mk "all_cells" (top 17), mk "top_of" (top 18), mk "find_regions" (top 20), mk "regions" (top 21), mk "look_of" (top 22), mk "check_two" (top 23), mk "are_alike" (top 24), mk "parting_cell" (top 25), mk "all_orders" (top 26), mk "count_looks" (top 27), mk "find_alike" (top 28), mk "alike_orders" (top 29), mk "sure_pairs" (top 30), mk "_law_pick" (top 32), mk "_law_pane" (top 33), mk "_law_panes" (top 34), mk "_law_in" (top 35), mk "_law_order" (top 36), mk "_law_top" (top 37), mk "_law_screen" (top 38), mk "_law_orders" (top 39), mk "law" (top 40)]
def fa : List He.Fa := [.glo "PaneError", .glo "InvalidWindows", .exc "InvalidWindows", .glo "InvalidOrder", .exc "InvalidOrder", .int "SCREEN" 12, .int "MAX_WINDOWS" 6, .glo "is_int", .glo "is_window", .glo "are_windows", .glo "has_order", .glo "check_windows", .glo "check_order", .glo "check_both", .glo "covers", .glo "cells_of", .glo "region_at", .glo "all_cells", .glo "top_of", .glo "find_regions", .glo "regions", .glo "look_of", .glo "check_two", .glo "are_alike", .glo "parting_cell", .glo "all_orders", .glo "count_looks", .glo "find_alike", .glo "alike_orders", .glo "sure_pairs", .glo "_law_pick", .glo "_law_pane", .glo "_law_panes", .glo "_law_in", .glo "_law_order", .glo "_law_top", .glo "_law_screen", .glo "_law_orders", .glo "law", .free "len", .free "all", .free "any", .free "isinstance", .free "tuple", .free "list", .free "range", .free "sorted", .free "enumerate", .free "max", .free "min", .free "set", .free "dict", .free "zip", .free "bool", .free "int", .free "abs", .free "sum", .free "str"]
def nm0 : List PySem.Str := ["PaneError", "InvalidWindows", "InvalidOrder", "SCREEN", "MAX_WINDOWS", "is_int", "is_window", "are_windows", "has_order", "check_windows", "check_order", "check_both", "covers", "cells_of", "region_at", "all_cells", "top_of", "find_regions", "regions", "look_of"]
def nm1 : List PySem.Str := ["check_two", "are_alike", "parting_cell", "all_orders", "count_looks", "find_alike", "alike_orders", "sure_pairs", "_law_pick", "_law_pane", "_law_panes", "_law_in", "_law_order", "_law_top", "_law_screen", "_law_orders"]
def nms : List PySem.Str := nm0 ++ nm1
abbrev R : PySem.W.OpenRow := PySem.W.OpenLaw.row PySem.Challenge.rw_panestacks_k07_whole_looks
abbrev hk : PySem.W.Hook := He.hookD 5 fa fn
def ob (s : PySem.W.SharedT) : He.AlD := He.obsDG 5 fa fn (HandSHeadRun.getT s)
theorem ob_eq (s : PySem.W.SharedT) : ob s = hk.obs s.abs := He.obsDG_eq (HandSHeadRun.getT_eq s)
theorem run (w : World) : HandSHeadRun.RunEq R (PySem.W.view R.prog [40]) hk ob 4000 nms w := by
  intro os
  kernel_rfl
end Hd

set_option maxHeartbeats 4000000
namespace PD
open PySem PySem.Spec PyProof.Rows L2
/-! ### windows -/
structure Win where
  l : Int
  t : Int
  r : Int
  b : Int
  deriving DecidableEq
def win (w : Win) : D := .tup [.int w.l, .int w.t, .int w.r, .int w.b]
def wins (ws : List Win) : D := .tup (ws.map win)
def natsT (ns : List Nat) : D := .tup (ns.map nD)
def cellD (c : Int × Int) : D := .tup [.int c.1, .int c.2]
def Win.Ok (w : Win) : Prop := 0 ≤ w.l ∧ w.l < w.r ∧ w.r ≤ 12 ∧ 0 ≤ w.t ∧ w.t < w.b ∧ w.b ≤ 12
def inW (w : Win) (x y : Int) : Bool := decide (w.l ≤ x) && decide (x < w.r) && (decide (w.t ≤ y) && decide (y < w.b))
def w0 : Win := ⟨0, 0, 0, 0⟩
/-- the window of a number -/
def wAt (ws : List Win) (i : Nat) : Win := ws.getD i w0
def region (ws : List Win) (x y : Int) : List Nat := (List.range ws.length).filter fun i => inW (wAt ws i) x y
/-- windows that are windows -/
structure Wins (ws : List Win) : Prop where
  ok : ∀ w ∈ ws, w.Ok
  le : ws.length ≤ 6
theorem win_inj {a b : Win} (h : win a = win b) : a = b := by
  cases a; cases b
  simp [win] at h
  simp [h]
theorem cell_inj {a b : Int × Int} (h : cellD a = cellD b) : a = b := by
  cases a; cases b
  simp [cellD] at h
  simp [h]
@[simp] theorem pl_win (w : Win) : plD 1 (win w) = true := by simp [win, plD, plDs]
@[simp] theorem pl_cell (c : Int × Int) : plD 1 (cellD c) = true := by simp [cellD, plD, plDs]
theorem pl_cells (cs : List (Int × Int)) : plD 2 (.lst (cs.map cellD)) = true := pl_lst fun d hd => by
  obtain ⟨c, _, rfl⟩ := List.mem_map.mp hd; simp
theorem pl_nats (ns : List Nat) : plD 1 (.lst (ns.map nD)) = true := pl_lst fun d hd => by
  obtain ⟨c, _, rfl⟩ := List.mem_map.mp hd; simp
theorem pl_natsT (ns : List Nat) : plD 1 (natsT ns) = true := pl_tup fun d hd => by
  obtain ⟨c, _, rfl⟩ := List.mem_map.mp hd; simp
@[simp] theorem nraw_win (w : Win) : noRaw (win w) = true := nr rfl
@[simp] theorem isNon_win (w : Win) : isNon (win w) = false := nr rfl
theorem s_is_int (v a b : Int) : fD_is_int [.int v, .int a, .int b] = .ok (.bl (decide (a ≤ v) && decide (v ≤ b))) := by
  simp [fD_is_int, G_is_int]
theorem s_covers (w : Win) (x y : Int) : fD_covers [win w, .tup [.int x, .int y]] = .ok (.bl (inW w x y)) := by
  simp [fD_covers, G_covers, win, inW]
theorem s_is_window {w : Win} (h : w.Ok) : fD_is_window [win w] = .ok (.bl true) := by
  obtain ⟨h1, h2, h3, h4, h5, h6⟩ := h
  have e : lcL (.nm 1) [1] yesF (callF fD_is_int (consF (getV 1) (consF (cst (.int 0)) (consF (cst (.int 12)) nilF)))) [.int w.l, .int w.t, .int w.r, .int w.b] [.val (win w), .no] = .ok ([w.l, w.t, w.r, w.b].map fun v => .bl (decide (0 ≤ v) && decide (v ≤ 12))) :=
    lcL_all (enc := D.int) (xs := [w.l, w.t, w.r, w.b]) (fun v => .bl (decide (0 ≤ v) && decide (v ≤ 12))) fun v _ => ⟨_, rfl, by simp [s_is_int]⟩
  have a : allD [.lst ([w.l, w.t, w.r, w.b].map fun v => .bl (decide (0 ≤ v) && decide (v ≤ 12)))] = some (.bl true) := by
    rw [all_map]; simp; omega
  simp [fD_is_window, G_is_window, win] at *
  simp [e, a, h2, h5]
theorem s_are_windows {ws : List Win} (h : Wins ws) : fD_are_windows [wins ws] = .ok (.bl true) := by
  have e : lcL (.nm 1) [1] yesF (callF fD_is_window (consF (getV 1) nilF)) (ws.map win) [.val (wins ws), .no] = .ok (ws.map fun w => .bl true) :=
    lcL_all (fun _ => .bl true) fun w hw => ⟨_, rfl, by simp [s_is_window (h.ok w hw)]⟩
  have a : allD [.lst (ws.map fun _ => .bl true)] = some (.bl true) := by
    rw [all_map (fun _ => true)]; simp
  have l : ¬ (6 : Int) < ws.length := by have := h.le; omega
  simp [fD_are_windows, G_are_windows, wins] at *
  simp [e, a, l]
theorem s_check_windows {ws : List Win} (h : Wins ws) : fD_check_windows [wins ws] = .ok .non := by
  simp [fD_check_windows, G_check_windows, s_are_windows h]
/-- an order of n windows -/
def IsOrd (n : Nat) (os : List Nat) : Prop := os.Perm (List.range n)
instance (n : Nat) (os : List Nat) : Decidable (IsOrd n os) := inferInstanceAs (Decidable (os.Perm (List.range n)))
theorem IsOrd.lt {n : Nat} {os : List Nat} (h : IsOrd n os) {i : Nat} (hi : i ∈ os) : i < n := List.mem_range.mp (h.mem_iff.mp hi)
theorem s_has_order' {ws : List Win} (os : List Nat) (hl : ws.length ≤ 6) : fD_has_order [wins ws, natsT os] = .ok (.bl (decide (IsOrd ws.length os))) := by
  have e : lcL (.nm 2) [2] yesF (callF fD_is_int (consF (getV 2) (consF (cst (.int 0)) (consF (bin subD (appL lenD (consF (getB 0) nilF)) (cst (.int 1))) nilF)))) (os.map nD) [.val (.tup (ws.map win)), .val (.tup (os.map nD)), .no] = .ok (os.map fun i => .bl (decide (i < ws.length))) :=
    lcL_all (fun i => .bl (decide (i < ws.length))) fun i hi => ⟨_, rfl, by
      simp [nD, s_is_int]
      omega⟩
  have a : allD [.lst (os.map fun i => .bl (decide (i < ws.length)))] = some (.bl (os.all fun i => decide (i < ws.length))) := all_map _ _
  have so : sortD [.tup (os.map nD)] = some (isort leD (os.map nD)) := by
    show (if srtOk (os.map nD) = true then some (isort leD (os.map nD)) else none) = _
    rw [srtOk_int fun d hd => by obtain ⟨i, _, rfl⟩ := List.mem_map.mp hd; rfl]; simp
  have r : asRng1 [.int (ws.length : Int)] = some ((List.range ws.length).map nD) := asRng1_nat (by omega)
  have pl : plD 1 (.lst (isort leD (os.map nD))) = true := pl_lst fun d hd => by
    obtain ⟨i, _, rfl⟩ := List.mem_map.mp ((isort_perm (le := leD) _).mem_iff.mp hd); simp
  have q : eqD (.lst (isort leD (os.map nD))) (.lst ((List.range ws.length).map nD)) = some (decide (IsOrd ws.length os)) := eqD_of (pl_64 pl) (pl_64 (pl_nats _)) (by
    constructor
    · intro h
      injection h with h
      have h1 : (os.map nD).Perm ((List.range ws.length).map nD) := (isort_perm (le := leD) _).symm.trans (by rw [h])
      have h2 := h1.map fun d => match d with | .int i => i.toNat | _ => 0
      rw [List.map_map, List.map_map] at h2
      have f : ((fun d => match d with | .int i => i.toNat | _ => 0) ∘ nD) = id := by funext n; simp [nD]
      rw [f, List.map_id, List.map_id] at h2
      exact h2
    · intro h
      rw [sort_nats h])
  simp [fD_has_order, G_has_order, wins, natsT] at *
  by_cases h : ∀ i ∈ os, i < ws.length
  · have h2 : (os.all fun i => decide (i < ws.length)) = true := by simpa using h
    simp [e, a, h2, so, r, q]
  · have h2 : (os.all fun i => decide (i < ws.length)) = false := by
      cases z : (os.all fun i => decide (i < ws.length))
      · rfl
      · exact absurd (by simpa using z) h
    have h3 : ¬ IsOrd ws.length os := fun p => h fun i hi => p.lt hi
    simp [e, a, h2, h3]
theorem s_has_order {ws : List Win} {os : List Nat} (h : IsOrd ws.length os) (hl : ws.length ≤ 6) : fD_has_order [wins ws, natsT os] = .ok (.bl true) := by
  rw [s_has_order' os hl]; simp [h]
theorem s_check_order {ws : List Win} {os : List Nat} (h : IsOrd ws.length os) (hl : ws.length ≤ 6) : fD_check_order [wins ws, natsT os] = .ok .non := by
  simp [fD_check_order, G_check_order, s_has_order h hl]
theorem s_check_both {ws : List Win} {os : List Nat} (hw : Wins ws) (h : IsOrd ws.length os) : fD_check_both [wins ws, natsT os] = .ok .non := by
  simp [fD_check_both, G_check_both, s_check_windows hw, s_check_order h hw.le]

/-! ### cells -/
@[irreducible] def grid : List (Int × Int) := (List.range 12).flatMap fun x => (List.range 12).map fun y => (((x : Nat) : Int), ((y : Nat) : Int))
def ltC (a b : Int × Int) : Prop := a.1 < b.1 ∨ (a.1 = b.1 ∧ a.2 < b.2)
/-- cells in rows, strictly ascending -/
theorem box_pair (x0 y0 : Int) (m n : Nat) : ((List.range m).flatMap fun i => (List.range n).map fun j => (x0 + ((i : Nat) : Int), y0 + ((j : Nat) : Int))).Pairwise ltC := by
  rw [List.pairwise_flatMap]
  refine ⟨fun i _ => range_pair fun a b h _ => .inr ⟨rfl, by show y0 + (a : Int) < y0 + (b : Int); omega⟩, ?_⟩
  refine List.pairwise_iff_getElem.mpr fun i j hi hj hij => ?_
  simp only [List.getElem_range]
  intro a ha b hb
  obtain ⟨u, _, rfl⟩ := List.mem_map.mp ha
  obtain ⟨v, _, rfl⟩ := List.mem_map.mp hb
  exact .inl (by show x0 + (i : Int) < x0 + (j : Int); omega)
theorem box_mem {x0 y0 : Int} {m n : Nat} {c : Int × Int} : c ∈ ((List.range m).flatMap fun i => (List.range n).map fun j => (x0 + ((i : Nat) : Int), y0 + ((j : Nat) : Int))) ↔ x0 ≤ c.1 ∧ c.1 < x0 + m ∧ y0 ≤ c.2 ∧ c.2 < y0 + n := by
  simp only [List.mem_flatMap, List.mem_range, List.mem_map]
  constructor
  · rintro ⟨i, hi, j, hj, rfl⟩
    dsimp only
    omega
  · intro h
    refine ⟨(c.1 - x0).toNat, by omega, (c.2 - y0).toNat, by omega, ?_⟩
    cases c
    dsimp only at h ⊢
    congr 1 <;> omega
theorem grid_eq : grid = (List.range 12).flatMap fun x => (List.range 12).map fun y => (((x : Nat) : Int), ((y : Nat) : Int)) := by unfold grid; rfl
theorem grid_box : grid = (List.range 12).flatMap fun i => (List.range 12).map fun j => ((0 : Int) + ((i : Nat) : Int), (0 : Int) + ((j : Nat) : Int)) := by
  unfold grid
  simp
theorem grid_pair : grid.Pairwise ltC := by rw [grid_box]; exact box_pair 0 0 12 12
theorem grid_mem {c : Int × Int} : c ∈ grid ↔ 0 ≤ c.1 ∧ c.1 < 12 ∧ 0 ≤ c.2 ∧ c.2 < 12 := by rw [grid_box, box_mem]; simp
theorem ltC_irrefl (a : Int × Int) : ¬ ltC a a := by unfold ltC; omega
theorem ltC_anti {a b : Int × Int} (h : ltC a b) : ¬ ltC b a := by unfold ltC at *; omega
theorem nodup_of_ltC {l : List (Int × Int)} (h : l.Pairwise ltC) : l.Nodup := List.Pairwise.imp (fun {a b} (h : ltC a b) (e : a = b) => ltC_irrefl a (by rw [← e] at h; exact h)) h
/-- two strictly ascending lists of the same cells -/
theorem cells_eq {l m : List (Int × Int)} (hl : l.Pairwise ltC) (hm : m.Pairwise ltC) (h : ∀ c, c ∈ l ↔ c ∈ m) : l = m :=
  List.Perm.eq_of_pairwise (le := ltC) (fun a b _ _ h1 h2 => absurd h2 (ltC_anti h1)) hl hm ((List.perm_ext_iff_of_nodup (nodup_of_ltC hl) (nodup_of_ltC hm)).mpr h)
theorem grid_len : grid.length = 144 := by rw [grid_box]; rfl
/-- the cells of a window -/
@[irreducible] def cellsW (w : Win) : List (Int × Int) := grid.filter fun c => inW w c.1 c.2
theorem cellsW_eq (w : Win) : cellsW w = grid.filter fun c => inW w c.1 c.2 := by unfold cellsW; rfl
theorem cellsW_pair (w : Win) : (cellsW w).Pairwise ltC := by rw [cellsW_eq]; exact grid_pair.filter _
theorem cellsW_le (w : Win) : (cellsW w).length ≤ 144 := by
  rw [cellsW_eq, ← grid_len]; exact List.length_filter_le _ _
theorem inW_iff {w : Win} {x y : Int} : inW w x y = true ↔ w.l ≤ x ∧ x < w.r ∧ w.t ≤ y ∧ y < w.b := by
  simp [inW, and_assoc]
theorem cellsW_mem {w : Win} {c : Int × Int} (h : w.Ok) : c ∈ cellsW w ↔ w.l ≤ c.1 ∧ c.1 < w.r ∧ w.t ≤ c.2 ∧ c.2 < w.b := by
  obtain ⟨h1, h2, h3, h4, h5, h6⟩ := h
  rw [cellsW_eq, List.mem_filter, grid_mem, inW_iff]
  omega
theorem cellsW_box {w : Win} (h : w.Ok) : ((List.range (w.r - w.l).toNat).flatMap fun i => (List.range (w.b - w.t).toNat).map fun j => (w.l + ((i : Nat) : Int), w.t + ((j : Nat) : Int))) = cellsW w := by
  refine cells_eq (box_pair _ _ _ _) (cellsW_pair w) fun c => ?_
  rw [box_mem, cellsW_mem h]
  obtain ⟨h1, h2, h3, h4, h5, h6⟩ := h
  omega
@[simp] theorem u_lc2 (p : Pat) (vs : List Nat) (t : EnvD → R Bool) (src1 : EnvD → R (List D)) (p1 : Pat) (vs1 : List Nat) (t1 : EnvD → R Bool) (f : EnvD → R D) (src : EnvD → R (List D)) (env : EnvD) : lc2F p vs t src1 p1 vs1 t1 f src env = (src env).bind fun ds => match lc2L p vs t src1 p1 vs1 t1 f ds env with
  | .ok T => if small T.length = true then .ok T else .bad
  | _ => .bad := nr rfl
theorem s_cells_of {w : Win} (h : w.Ok) : fD_cells_of [win w] = .ok (.lst ((cellsW w).map cellD)) := by
  obtain ⟨h1, h2, h3, h4, h5, h6⟩ := id h
  have a1 : asRng2 [.int w.l, .int w.r] = some (rng w.l w.r) := asRng2_int (by omega) (by omega) (by omega) (by omega)
  have a2 : asRng2 [.int w.t, .int w.b] = some (rng w.t w.b) := asRng2_int (by omega) (by omega) (by omega) (by omega)
  have e : lc2L (.nm 1) [1, 2] yesF (appL asRng2 (consF (bin ixD (getB 0) (cst (.int 1))) (consF (bin ixD (getB 0) (cst (.int 3))) nilF))) (.nm 2) [2] yesF (tupF (consF (getV 1) (consF (getV 2) nilF))) (rng w.l w.r) [.val (.tup [.int w.l, .int w.t, .int w.r, .int w.b]), .no, .no] =
      .ok ((cellsW w).map cellD) := by
    rw [rng_map, lc2L_ok (fun _ => true) (fun i => (List.range (w.b - w.t).toNat).map fun j => cellD (w.l + ((i : Nat) : Int), w.t + ((j : Nat) : Int))) fun i _ => ?_]
    · rw [List.filter_eq_self.mpr fun _ _ => rfl, ← cellsW_box h, List.map_flatMap]
      congr 2
      funext i
      rw [List.map_map]
      rfl
    · refine ⟨_, rfl, rfl, fun _ => ⟨rng w.t w.b, by simp [a2], ?_⟩⟩
      rw [rng_map, lcL_all (fun j => cellD (w.l + ((i : Nat) : Int), w.t + ((j : Nat) : Int))) fun j _ => ⟨_, rfl, by simp [cellD]⟩]
  have sm : small ((cellsW w).map cellD).length = true := small_le (by
    rw [List.length_map]
    have := cellsW_le w
    omega)
  simp [fD_cells_of, G_cells_of, win] at *
  simp [a1, e, sm]

/-! ### regions, tops -/
@[simp] theorem asSeq_wins (ws : List Win) : asSeq (wins ws) = some (ws.map win) := nr rfl
@[simp] theorem asSeq_natsT (ns : List Nat) : asSeq (natsT ns) = some (ns.map nD) := nr rfl
theorem getD_mem {ws : List Win} {i : Nat} (h : i < ws.length) : wAt ws i ∈ ws := by
  unfold wAt
  rw [List.getD_eq_getElem?_getD, List.getElem?_eq_getElem h]
  exact List.getElem_mem h
theorem s_region_at (ws : List Win) (x y : Int) : fD_region_at [wins ws, .tup [.int x, .int y]] = .ok (natsT (region ws x y)) := by
  have e : lcL (.tp [2, 3]) [2, 3] (tst (callF fD_covers (consF (getV 3) (consF (getV 1) nilF)))) (getV 2) (enumL 0 (ws.map win)) [.val (.tup (ws.map win)), .val (.tup [.int x, .int y]), .no, .no] = .ok ((region ws x y).map nD) := by
    have en : enumL 0 (ws.map win) = (List.range ws.length).map fun i => .itm [.int ((0 + i : Nat) : Int), win (wAt ws i)] := enumL_map win w0 0 ws
    rw [en, lcL_ok (fun i => inW (wAt ws i) x y) nD fun i _ => ⟨_, rfl, by simp [s_covers], by simp [nD]⟩]
    rfl
  simp [fD_region_at, G_region_at, wins, natsT, enumF] at *
  simp [e]
theorem s_top_of (os reg : List Nat) : fD_top_of [natsT os, natsT reg] = .ok (optD (os.filter (· ∈ reg)).getLast?) := by
  have e : lcL (.nm 3) [3] (bin inD (getB 3) (getB 1)) (getV 3) (os.map nD) [.val (.tup (os.map nD)), .val (.tup (reg.map nD)), .no, .no] = .ok ((os.filter (· ∈ reg)).map nD) :=
    lcL_ok (fun i => decide (i ∈ reg)) nD fun i _ => ⟨_, rfl, by simp [in_nat], by simp⟩
  generalize hq : os.filter (fun i => decide (i ∈ reg)) = found at e ⊢
  simp [fD_top_of, G_top_of, natsT] at *
  simp [e, neD_nil (pl_64 (pl_nats _))]
  rcases List.eq_nil_or_concat found with rfl | ⟨l, a, rfl⟩
  · simp [optD]
  · have il : ixD (.lst (l.map nD ++ [nD a])) (.int (-1)) = some (nD a) := ix_last (by simp)
    simp [il, optD]
/-- the top of a cell -/
def topW (ws : List Win) (os : List Nat) (x y : Int) : Option Nat := (os.filter fun i => inW (wAt ws i) x y).getLast?
theorem top_region {ws : List Win} {os : List Nat} (h : IsOrd ws.length os) (x y : Int) : (os.filter (· ∈ region ws x y)).getLast? = topW ws os x y := by
  unfold topW
  congr 1
  apply List.filter_congr
  intro i hi
  rw [Bool.eq_iff_iff]
  simp [region, h.lt hi]
/-! ### all cells -/
def covd (ws : List Win) (c : Int × Int) : Bool := ws.any fun w => inW w c.1 c.2
@[irreducible] def allC (ws : List Win) : List (Int × Int) := grid.filter (covd ws)
theorem keyEq_cell (a b : Int × Int) : keyEq (cellD a) (cellD b) = decide (a = b) := by
  cases a; cases b
  simp [keyEq, cellD, keysEq, keyEq1]
theorem allC_eq (ws : List Win) : allC ws = grid.filter (covd ws) := by unfold allC; rfl
def addC (ks : List (Int × Int)) (c : Int × Int) : List (Int × Int) := if c ∈ ks then ks else ks ++ [c]
theorem dPutV_bl (c : Int × Int) : ∀ ks : List (Int × Int), dPutV (ks.map cellD) (ks.map fun _ => .bl true) (cellD c) (.bl true) = ks.map fun _ => .bl true
  | [] => rfl
  | k :: ks => by simp [dPutV, dPutV_bl c ks]
theorem dPut_cell (ks : List (Int × Int)) (c : Int × Int) : dPut (ks.map cellD) (ks.map fun _ => .bl true) (cellD c) (.bl true) = ((addC ks c).map cellD, (addC ks c).map fun _ => .bl true) := by
  unfold dPut addC
  have e : ((ks.map cellD).any fun k => keyEq k (cellD c)) = decide (c ∈ ks) := by
    rw [List.any_map, Bool.eq_iff_iff]
    simp [keyEq_cell]
  rw [e]
  by_cases h : c ∈ ks
  · simp [h, dPutV_bl]
  · simp [h]
theorem addC_nodup {ks : List (Int × Int)} {c : Int × Int} (h : ks.Nodup) : (addC ks c).Nodup := by
  unfold addC
  split
  · exact h
  · rename_i q
    rw [List.nodup_append]
    exact ⟨h, by simp, fun a ha b hb e => by simp at hb; subst hb; subst e; exact q ha⟩
theorem addC_mem {ks : List (Int × Int)} {c d : Int × Int} : d ∈ addC ks c ↔ d ∈ ks ∨ d = c := by
  unfold addC
  split
  · rename_i q
    constructor
    · exact .inl
    · rintro (h | h)
      · exact h
      · rw [h]; exact q
  · simp
theorem addC_len (ks : List (Int × Int)) (c : Int × Int) : (addC ks c).length ≤ ks.length + 1 := by
  unfold addC; split <;> simp
theorem isKey_cell (c : Int × Int) : isKey true (cellD c) = true := by cases c; rfl
def dsC (ks : List (Int × Int)) : Sl := .ownd true (ks.map cellD) (ks.map fun _ => .bl true)
theorem s_all_cells {ws : List Win} (hw : Wins ws) : fD_all_cells [wins ws] = .ok (.lst ((allC ws).map cellD)) := by
  have inner : ∀ (w : Win) (cs ks : List (Int × Int)) (s2 s3 : Sl), ks.length + cs.length ≤ 10000 → ks.Nodup → ∃ ks' s3', forL (.nm 3) (dputS 1 (getV 3) (cst (.bl true))) (cs.map cellD) [.val (wins ws), dsC ks, s2, s3] = .next [.val (wins ws), dsC ks', s2, s3'] ∧
      ks'.Nodup ∧ (∀ c, c ∈ ks' ↔ c ∈ ks ∨ c ∈ cs) ∧ ks'.length ≤ ks.length + cs.length := by
    intro w cs ks s2 s3 hl hn
    obtain ⟨e', h1, ks', s3', rfl, h2, h3, h4⟩ := forL_ind (p := .nm 3) (G := dputS 1 (getV 3) (cst (.bl true))) (enc := cellD) (xs := cs) (e := [.val (wins ws), dsC ks, s2, s3])
      (fun pre e => ∃ ks' s3', e = [.val (wins ws), dsC ks', s2, s3'] ∧ ks'.Nodup ∧ (∀ c, c ∈ ks' ↔ c ∈ ks ∨ c ∈ pre) ∧ ks'.length ≤ ks.length + pre.length)
      ⟨ks, s3, rfl, hn, by simp, by simp⟩ (by
        rintro pre x suf rfl e ⟨ks', s3', rfl, h1, h2, h3⟩
        refine ⟨_, rfl, [.val (wins ws), dsC (addC ks' x), s2, .val (cellD x)], .inl ?_, addC ks' x, _, rfl, addC_nodup h1, fun c => ?_, ?_⟩
        · have sm : small (ks'.length + 1) = true := small_le (by simp at hl; omega)
          rw [dput_ok (t := true) (ks := ks'.map cellD) (vs := ks'.map fun _ => .bl true) (k := cellD x) (v := .bl true) rfl rfl rfl (isKey_cell x) (by rw [List.length_map]; exact sm), dPut_cell]
          rfl
        · rw [addC_mem, h2]; simp [or_assoc]
        · have := addC_len ks' x; simp; omega)
    exact ⟨ks', s3', h1, h2, h3, h4⟩
  obtain ⟨e', h1, ks, s2, s3, rfl, h2, h3, h4⟩ := forL_ind (p := .nm 2) (G := forS (.nm 3) (seqF (callF fD_cells_of (consF (getV 2) nilF))) (dputS 1 (getV 3) (cst (.bl true)))) (enc := win) (xs := ws) (e := [.val (wins ws), dsC [], .no, .no])
    (fun pre e => ∃ ks s2 s3, e = [.val (wins ws), dsC ks, s2, s3] ∧ ks.Nodup ∧ (∀ c, c ∈ ks ↔ ∃ w ∈ pre, c ∈ cellsW w) ∧ ks.length ≤ 144 * pre.length)
    ⟨[], .no, .no, rfl, List.nodup_nil, by simp, by simp⟩ (by
      rintro pre w suf hq e ⟨ks, s2, s3, rfl, h1, h2, h3⟩
      have hok := hw.ok w (by rw [hq]; simp)
      have hle := hw.le
      have hwl := cellsW_le w
      have hpl : pre.length ≤ 5 := by rw [hq] at hle; simp at hle; omega
      obtain ⟨ks', s3', g1, g2, g3, g4⟩ := inner w (cellsW w) ks (.val (win w)) s3 (by omega) h1
      refine ⟨_, rfl, [.val (wins ws), dsC ks', .val (win w), s3'], .inl ?_, ks', _, _, rfl, g2, fun c => ?_, by simp; omega⟩
      · simp [s_cells_of hok]
        exact g1
      · rw [g3, h2]
        simp only [List.mem_append, List.mem_singleton]
        constructor
        · rintro (⟨v, hv, hc⟩ | hc)
          · exact ⟨v, .inl hv, hc⟩
          · exact ⟨w, .inr rfl, hc⟩
        · rintro ⟨v, hv | hv, hc⟩
          · exact .inl ⟨v, hv, hc⟩
          · subst hv; exact .inr hc)
  have so : sortD [.dic (ks.map cellD) (ks.map fun _ => .bl true)] = some ((allC ws).map cellD) := by
    show (if srtOk (ks.map cellD) = true then some (isort leD (ks.map cellD)) else none) = _
    rw [srtOk_t1 fun d hd => by obtain ⟨i, _, rfl⟩ := List.mem_map.mp hd; rfl]
    have hp : ks.Perm (allC ws) := (List.perm_ext_iff_of_nodup h2 (by rw [allC_eq]; exact nodup_of_ltC (grid_pair.filter _))).mpr fun c => by
      rw [h3, allC_eq]
      simp only [cellsW_eq, List.mem_filter, covd, List.any_eq_true]
      constructor
      · rintro ⟨w, hw', hc⟩; exact ⟨hc.1, w, hw', hc.2⟩
      · rintro ⟨hc, w, hw', hc'⟩; exact ⟨w, hw', hc, hc'⟩
    simp only [if_true]
    congr 1
    refine isort_uniq (hp.map cellD) ?_ ?_
    · rw [List.pairwise_map, allC_eq]
      refine (grid_pair.filter _).imp fun {a b} h => ?_
      show leD (.tup [.int a.1, .int a.2]) (.tup [.int b.1, .int b.2]) = true
      rw [leD_ii]
      exact decide_eq_true (by unfold ltC at h; omega)
    · intro a ha b hb h1 h2
      obtain ⟨i, _, rfl⟩ := List.mem_map.mp ha
      obtain ⟨j, _, rfl⟩ := List.mem_map.mp hb
      unfold cellD at h1 h2
      rw [leD_ii] at h1 h2
      have h1 := of_decide_eq_true h1
      have h2 := of_decide_eq_true h2
      have : i = j := by
        cases i; cases j
        dsimp only at h1 h2
        congr 1 <;> omega
      rw [this]
  have d0 : dsC [] = .ownd true [] [] := rfl
  rw [d0] at h1
  simp [fD_all_cells, G_all_cells, newT, B_all_cells_0, B_all_cells_1, h1]
  simp [dsC, so]
/-! ### overlaps, sizes -/
def ovW (a b : Win) : Win := ⟨max a.l b.l, max a.t b.t, min a.r b.r, min a.b b.b⟩
def hasOv (a b : Win) : Bool := decide ((ovW a b).l < (ovW a b).r) && decide ((ovW a b).t < (ovW a b).b)
/-! ### what the laws draw -/
theorem neD_scr (ns : List Int) : neD (.scr ns) (.lst []) = some (!decide (ns = [])) := by
  have h : SeqAt.shaped (D.scr ns).toPy = true := by
    unfold SeqAt.shaped
    simp only [D.toPy, PyData.canLay0, PyData.depth, lay_ints, dep_ints]
    rfl
  have h2 : SeqAt.shaped (D.lst []).toPy = true := rfl
  unfold neD eqD
  rw [h, h2]
  cases ns <;> simp [D.toPy, toPys, PyData.eqv, PyData.eqvAll]
theorem ix_scr {ns : List Int} {i : Int} (h0 : 0 ≤ i) (h1 : i < ns.length) : ∃ c, ixD (.scr ns) (.int i) = some (.int c) := by
  obtain ⟨n, rfl⟩ : ∃ n : Nat, i = n := ⟨i.toNat, by omega⟩
  have hl : n < ns.length := by omega
  refine ⟨ns[n], ?_⟩
  show (atI ns (n : Int)).map D.int = _
  unfold atI ixN
  rw [if_pos (by omega), Int.toNat_natCast, if_pos (by omega)]
  simp [hl]
theorem pow_e : powD (.int 10) (.int 18) = some (.int 1000000000000000000) := rfl
theorem s_pick {ns : List Int} (h63 : ns.length ≤ 63) {k m : Int} (hk : 0 ≤ k ∧ k ≤ 2000) (hm : 0 < m ∧ m ≤ 1000) : ∃ v : Int, fD__law_pick [.scr ns, .int k, .int m] = .ok (.int v) ∧ 0 ≤ v ∧ v < m := by
  obtain ⟨c, hc⟩ : ∃ c : Int, ifF (bin neD (getB 0) (mkL (lstF nilF))) (bin ixD (getB 0) (bin modD (getV 1) (appL lenD (consF (getB 0) nilF)))) (cst (.int 0)) [.val (.scr ns), .val (.int k), .val (.int m), .no, .no, .no, .no] = .ok (.int c) := by
    by_cases h : ns = []
    · subst h
      exact ⟨0, by simp [neD_scr]⟩
    · have hl := List.length_pos_iff.mpr h
      obtain ⟨c, hc⟩ := ix_scr (ns := ns) (i := k % ns.length) (Int.emod_nonneg _ (by omega)) (Int.emod_lt_of_pos _ (by omega))
      refine ⟨c, ?_⟩
      simp [neD_scr, h, u_mod k ns.length (by omega), hc]
  have hmx : 0 < max (ns.length : Int) 1 := by omega
  have hbig : max (ns.length : Int) 1 < 1000000000000000000000 := by omega
  have hq0 : 0 ≤ k / max (ns.length : Int) 1 := Int.ediv_nonneg hk.1 (by omega)
  have hq1 : k / max (ns.length : Int) 1 ≤ 2000 := by
    have := Int.ediv_le_self (a := k) (max (ns.length : Int) 1) hk.1
    omega
  obtain ⟨e', hw, r, a, rfl⟩ := whileL_ok (t := andF (bin gtI (getV 5) (cst (.int 0))) (bin gtI (getV 6) (cst (.int 0)))) (G := setPar 5 6 (slV (bin fdivD (getV 5) (cst (.int 840)))) (slV (bin subD (getV 6) (cst (.int 1)))))
    (fun n e => ∃ r a : Int, e = [.val (.scr ns), .val (.int k), .val (.int m), .val (.int c), .no, .val (.int r), .val (.int a)] ∧ a.toNat = n)
    (fun e => ∃ r a : Int, e = [.val (.scr ns), .val (.int k), .val (.int m), .val (.int c), .no, .val (.int r), .val (.int a)])
    (by
      rintro n e ⟨r, a, rfl, rfl⟩
      by_cases h : 0 < r ∧ 0 < a
      · exact .inr ⟨by simp [h], _, (a - 1).toNat, by omega, .inl (by simp [u_fdiv r 840]), r / 840, a - 1, rfl, rfl⟩
      · exact .inl ⟨by simp; omega, r, a, rfl⟩)
    3000 (k / max (ns.length : Int) 1).toNat [.val (.scr ns), .val (.int k), .val (.int m), .val (.int c), .no, .val (.int (c / 1000000000000000000)), .val (.int (k / max (ns.length : Int) 1))] (by omega) ⟨_, _, rfl, rfl⟩
  simp at hc
  by_cases hr : 0 < r
  · refine ⟨r % 840 % m, ?_, Int.emod_nonneg _ (by omega), Int.emod_lt_of_pos _ hm.1⟩
    simp [fD__law_pick, G__law_pick, B__law_pick_0, hc, pow_e, u_fdiv c 1000000000000000000, u_fdiv k _ hmx hbig, hw, hr, u_mod r 840, u_mod (r % 840) m hm.1]
  · have hd0 : 0 ≤ (c * 31 + 6151 * (k + 1)) * 40692 % 2147483399 := Int.emod_nonneg _ (by omega)
    have hd1 : (c * 31 + 6151 * (k + 1)) * 40692 % 2147483399 < 2147483399 := Int.emod_lt_of_pos _ (by omega)
    refine ⟨((c * 31 + 6151 * (k + 1)) * 40692 % 2147483399 * ((c * 31 + 6151 * (k + 1)) * 40692 % 2147483399) + (c * 31 + 6151 * (k + 1)) * 40692 % 2147483399 / 31) % 2147483629 % m, ?_, Int.emod_nonneg _ (by omega), Int.emod_lt_of_pos _ hm.1⟩
    simp [fD__law_pick, G__law_pick, B__law_pick_0, hc, pow_e, u_fdiv c 1000000000000000000, u_fdiv k _ hmx hbig, hw, hr, u_mulR c 31, u_mulL 6151 (k + 1), u_mulR _ 40692, u_mod _ 2147483399]
    generalize (c * 31 + 6151 * (k + 1)) * 40692 % 2147483399 = d at *
    simp [u_mulR d d (by omega) (by omega), u_fdiv d 31, u_mod _ 2147483629, u_mod _ m hm.1]

/-! ### windows that overlap, counts -/
theorem inW_ov (a b : Win) (x y : Int) : (inW a x y && inW b x y) = inW (ovW a b) x y := by
  rw [Bool.eq_iff_iff, Bool.and_eq_true, inW_iff, inW_iff, inW_iff]
  unfold ovW
  dsimp only
  omega
theorem hasOv_iff {a b : Win} : hasOv a b = true ↔ max a.l b.l < min a.r b.r ∧ max a.t b.t < min a.b b.b := by
  have q : hasOv a b = (decide (max a.l b.l < min a.r b.r) && decide (max a.t b.t < min a.b b.b)) := rfl
  rw [q, Bool.and_eq_true, decide_eq_true_eq, decide_eq_true_eq]
theorem ov_ok {a b : Win} (ha : a.Ok) (hb : b.Ok) (h : hasOv a b = true) : (ovW a b).Ok := by
  rw [hasOv_iff] at h
  unfold Win.Ok ovW at *
  dsimp only
  omega
theorem no_ov {a b : Win} (h : ¬ hasOv a b = true) (x y : Int) : inW (ovW a b) x y = false := by
  rw [hasOv_iff] at h
  cases q : inW (ovW a b) x y
  · rfl
  · rw [inW_iff] at q
    unfold ovW at q
    dsimp only at q
    omega
theorem ov_self {w : Win} (h : w.Ok) : hasOv w w = true ∧ ovW w w = w := by
  refine ⟨?_, ?_⟩
  · rw [hasOv_iff]; unfold Win.Ok at h; omega
  · cases w; simp [ovW]
theorem cellsW_ne {w : Win} (h : w.Ok) : cellsW w ≠ [] := fun e => by
  have m : ((w.l, w.t) : Int × Int) ∈ cellsW w := by
    rw [cellsW_mem h]
    unfold Win.Ok at h
    dsimp only
    omega
  rw [e] at m
  cases m
theorem len_const {α β : Type} (n : Nat) : ∀ (xs : List α) (f : α → List β), (∀ x ∈ xs, (f x).length = n) → (xs.flatMap f).length = xs.length * n
  | [], _, _ => by simp
  | x :: xs, f, h => by
    rw [List.flatMap_cons, List.length_append, h x (by simp), len_const n xs f fun y hy => h y (by simp [hy]), List.length_cons, Nat.add_mul]
    omega
theorem cellsW_len {w : Win} (h : w.Ok) : ((cellsW w).length : Int) = (w.r - w.l) * (w.b - w.t) := by
  rw [← cellsW_box h, len_const (w.b - w.t).toNat _ _ fun i _ => by simp, List.length_range]
  unfold Win.Ok at h
  rw [Int.natCast_mul, Int.toNat_of_nonneg (by omega), Int.toNat_of_nonneg (by omega)]
theorem top_some {ws : List Win} {os : List Nat} (h : IsOrd ws.length os) (c : Int × Int) : (topW ws os c.1 c.2).isSome = covd ws c := by
  rw [Bool.eq_iff_iff]
  unfold topW covd
  rw [List.any_eq_true]
  constructor
  · intro q
    obtain ⟨i, hi⟩ := Option.isSome_iff_exists.mp q
    have m := List.mem_of_getLast? hi
    rw [List.mem_filter] at m
    exact ⟨wAt ws i, getD_mem (h.lt m.1), m.2⟩
  · rintro ⟨w, hw, hc⟩
    obtain ⟨i, hi, rfl⟩ := List.mem_iff_getElem.mp hw
    have e : wAt ws i = ws[i] := by
      unfold wAt
      rw [List.getD_eq_getElem?_getD, List.getElem?_eq_getElem hi]; rfl
    have m : i ∈ os.filter fun i => inW (wAt ws i) c.1 c.2 := by
      rw [List.mem_filter]
      exact ⟨h.mem_iff.mpr (List.mem_range.mpr hi), by rw [e]; exact hc⟩
    cases q : (os.filter fun i => inW (wAt ws i) c.1 c.2).getLast? with
    | some j => rfl
    | none => rw [List.getLast?_eq_none_iff] at q; rw [q] at m; cases m

/-! ### seen parts -/
theorem s_region_c (ws : List Win) (c : Int × Int) : fD_region_at [wins ws, cellD c] = .ok (natsT (region ws c.1 c.2)) := s_region_at ws c.1 c.2
theorem ix_winsB {ws : List Win} {i : Nat} (h : i < ws.length) : ixD (wins ws) (nD i) = some (win (wAt ws i)) := by
  refine (ix_nat (xs := ws.map win) ?_).1
  unfold wAt
  rw [List.getElem?_map, List.getElem?_eq_getElem h, List.getD_eq_getElem?_getD, List.getElem?_eq_getElem h]
  rfl
theorem eqD_opt (o : Option Nat) (i : Nat) : eqD (optD o) (nD i) = some (decide (o = some i)) := eqD_of (pl_64 (pl_opt 0 o)) (pl_64 (pl_nat 0 i)) (by
  cases o with
  | none => simp [optD, nD]
  | some j => simp only [optD, nD, D.int.injEq, Option.some.injEq]; exact cast_eq j i)
theorem neD_opt (o : Option Nat) (i : Nat) : neD (optD o) (nD i) = some (!decide (o = some i)) := by unfold neD; rw [eqD_opt]; rfl
theorem Wins.at_ {ws : List Win} (h : Wins ws) {i : Nat} (hi : i < ws.length) : (wAt ws i).Ok := h.ok _ (getD_mem hi)
@[irreducible] def seenW (ws : List Win) (os : List Nat) (i : Nat) : List (Int × Int) := (cellsW (wAt ws i)).filter fun c => decide (topW ws os c.1 c.2 = some i)
theorem seenW_eq (ws : List Win) (os : List Nat) (i : Nat) : seenW ws os i = (cellsW (wAt ws i)).filter fun c => decide (topW ws os c.1 c.2 = some i) := by unfold seenW; rfl
theorem eqD_cells (a b : List (Int × Int)) : eqD (.lst (a.map cellD)) (.lst (b.map cellD)) = some (decide (a = b)) := eqD_of (pl_64 (pl_cells a)) (pl_64 (pl_cells b)) (by
  rw [D.lst.injEq]; exact map_inj fun _ _ => cell_inj)
theorem neD_cells (a b : List (Int × Int)) : neD (.lst (a.map cellD)) (.lst (b.map cellD)) = some (!decide (a = b)) := by unfold neD; rw [eqD_cells]; rfl
theorem eqD_nats (a b : List Nat) : eqD (.lst (a.map nD)) (.lst (b.map nD)) = some (decide (a = b)) := eqD_of (pl_64 (pl_nats a)) (pl_64 (pl_nats b)) (by
  rw [D.lst.injEq]; exact map_inj fun _ _ => nD_inj)
theorem neD_nats (a b : List Nat) : neD (.lst (a.map nD)) (.lst (b.map nD)) = some (!decide (a = b)) := by unfold neD; rw [eqD_nats]; rfl
def wholeW (ws : List Win) (os : List Nat) (i : Nat) : Bool := decide (seenW ws os i = cellsW (wAt ws i))
theorem len_wins (ws : List Win) : lenD [wins ws] = some (.int ws.length) := by
  have : lenD [wins ws] = some (.int (ws.map win).length) := rfl
  rw [this, List.length_map]
/-! ### what stands on a window -/
theorem top_lt {ws : List Win} {os : List Nat} (ho : IsOrd ws.length os) {x y : Int} {j : Nat} (h : topW ws os x y = some j) : j < ws.length ∧ inW (wAt ws j) x y = true := by
  unfold topW at h
  have m := List.mem_of_getLast? h
  rw [List.mem_filter] at m
  exact ⟨ho.lt m.1, m.2⟩
theorem top_in {ws : List Win} {os : List Nat} (ho : IsOrd ws.length os) {x y : Int} {i : Nat} (hi : i < ws.length) (h : inW (wAt ws i) x y = true) : ∃ j, topW ws os x y = some j := by
  have m : i ∈ os.filter fun i => inW (wAt ws i) x y := by
    rw [List.mem_filter]
    exact ⟨ho.mem_iff.mpr (List.mem_range.mpr hi), h⟩
  unfold topW
  cases q : (os.filter fun i => inW (wAt ws i) x y).getLast? with
  | some j => exact ⟨j, rfl⟩
  | none => rw [List.getLast?_eq_none_iff] at q; rw [q] at m; cases m
theorem cell_in {w : Win} {c : Int × Int} (h : c ∈ cellsW w) : inW w c.1 c.2 = true := by
  rw [cellsW_eq, List.mem_filter] at h; exact h.2
def topN (ws : List Win) (os : List Nat) (c : Int × Int) : Nat := (topW ws os c.1 c.2).getD 0
theorem topN_eq {ws : List Win} {os : List Nat} (ho : IsOrd ws.length os) {i : Nat} (hi : i < ws.length) {c : Int × Int} (h : c ∈ cellsW (wAt ws i)) : topW ws os c.1 c.2 = some (topN ws os c) := by
  obtain ⟨j, hj⟩ := top_in ho hi (cell_in h)
  unfold topN
  rw [hj]; rfl
@[irreducible] def hidW (ws : List Win) (os : List Nat) (i : Nat) : List Nat := (List.range ws.length).filter fun j => decide (j ≠ i) && (cellsW (wAt ws i)).any fun c => decide (topN ws os c = j)
theorem hidW_eq (ws : List Win) (os : List Nat) (i : Nat) : hidW ws os i = (List.range ws.length).filter fun j => decide (j ≠ i) && (cellsW (wAt ws i)).any fun c => decide (topN ws os c = j) := by unfold hidW; rfl
theorem sort_set {l m : List Nat} (hl : l.Nodup) (hm : m.Pairwise (· < ·)) (h : ∀ z, z ∈ l ↔ z ∈ m) : isort leD (l.map nD) = m.map nD := by
  have nm : m.Nodup := List.Pairwise.imp (fun {a b} (h : a < b) (e : a = b) => by omega) hm
  refine isort_uniq (((List.perm_ext_iff_of_nodup hl nm).mpr h).map nD) ?_ fun a ha b hb h1 h2 => ?_
  · rw [List.pairwise_map]
    exact hm.imp fun {a b} h => by rw [leD_nat]; exact decide_eq_true (by omega)
  · obtain ⟨i, _, rfl⟩ := List.mem_map.mp ha
    obtain ⟨j, _, rfl⟩ := List.mem_map.mp hb
    rw [leD_nat] at h1 h2
    rw [Nat.le_antisymm (of_decide_eq_true h1) (of_decide_eq_true h2)]
theorem range_lt (n : Nat) : (List.range n).Pairwise (· < ·) := by
  have := range_pair (R := fun a b : Nat => a < b) (f := id) (n := n) fun i j hij _ => hij
  simpa using this
theorem keyEq_nD (a b : Nat) : keyEq (nD a) (nD b) = decide (a = b) := by
  rw [Bool.eq_iff_iff]
  simp only [keyEq, nD, keyEq1, decide_eq_true_eq]
  exact cast_eq a b
theorem erase_perm {α : Type} : ∀ {l : List α} {i : Nat} (h : i < l.length), (l[i] :: l.eraseIdx i).Perm l
  | a :: l, 0, _ => .refl _
  | a :: l, i + 1, h => by
    have ih := erase_perm (l := l) (i := i) (by simpa using h)
    simp only [List.getElem_cons_succ, List.eraseIdx_cons_succ]
    exact (List.Perm.swap a (l[i]'(by simpa using h)) _).trans (ih.cons a)
theorem s_pane {ns : List Int} (h63 : ns.length ≤ 63) {k : Int} (hk : 0 ≤ k ∧ k ≤ 1900) : ∃ w : Win, w.Ok ∧ fD__law_pane [.scr ns, .int k] = .ok (win w) ∧ w.r - w.l ≤ 6 ∧ w.b - w.t ≤ 6 := by
  obtain ⟨v0, p0, a0, b0⟩ := s_pick h63 (k := k) (m := 4) (by omega) (by omega)
  obtain ⟨v1, p1, a1, b1⟩ := s_pick h63 (k := k + 1) (m := 3) (by omega) (by omega)
  obtain ⟨v2, p2, a2, b2⟩ := s_pick h63 (k := k + 2) (m := 3) (by omega) (by omega)
  obtain ⟨v3, p3, a3, b3⟩ := s_pick h63 (k := k + 3) (m := 2) (by omega) (by omega)
  obtain ⟨v4, p4, a4, b4⟩ := s_pick h63 (k := k + 4) (m := 2) (by omega) (by omega)
  obtain ⟨s, hs, s0, s1⟩ : ∃ s : Int, ixD (.tup [.int 1, .int 2, .int 2, .int 3]) (.int v0) = some (.int s) ∧ 1 ≤ s ∧ s ≤ 3 := by
    have : v0 = 0 ∨ v0 = 1 ∨ v0 = 2 ∨ v0 = 3 := by omega
    rcases this with rfl | rfl | rfl | rfl
    · exact ⟨1, by simp, by omega, by omega⟩
    · exact ⟨2, by simp, by omega, by omega⟩
    · exact ⟨2, by simp, by omega, by omega⟩
    · exact ⟨3, by simp, by omega, by omega⟩
  have m : ∀ (x : Int), -100 ≤ x → x ≤ 100 → mulD (.int s) (.int x) = some (.int (s * x)) := fun x _ _ => u_mulR s x (by omega) (by omega)
  have e1 : s * v1 = v1 + (if s = 1 then 0 else v1) + (if s = 3 then v1 else 0) := by
    have : s = 1 ∨ s = 2 ∨ s = 3 := by omega
    rcases this with rfl | rfl | rfl <;> simp <;> omega
  have e2 : s * v2 = v2 + (if s = 1 then 0 else v2) + (if s = 3 then v2 else 0) := by
    have : s = 1 ∨ s = 2 ∨ s = 3 := by omega
    rcases this with rfl | rfl | rfl <;> simp <;> omega
  have e3 : s * (1 + v3) = (1 + v3) + (if s = 1 then 0 else (1 + v3)) + (if s = 3 then (1 + v3) else 0) := by
    have : s = 1 ∨ s = 2 ∨ s = 3 := by omega
    rcases this with rfl | rfl | rfl <;> simp <;> omega
  have e4 : s * (1 + v4) = (1 + v4) + (if s = 1 then 0 else (1 + v4)) + (if s = 3 then (1 + v4) else 0) := by
    have : s = 1 ∨ s = 2 ∨ s = 3 := by omega
    rcases this with rfl | rfl | rfl <;> simp <;> omega
  refine ⟨⟨s * v1, s * v2, min (s * v1 + s * (1 + v3)) 12, min (s * v2 + s * (1 + v4)) 12⟩, ?_, ?_, ?_⟩
  · unfold Win.Ok
    dsimp only
    rw [e1, e2, e3, e4]
    split <;> split <;> omega
  · simp [fD__law_pane, G__law_pane, p0, p1, p2, p3, p4, hs, m v1 (by omega) (by omega), m v2 (by omega) (by omega), m (1 + v3) (by omega) (by omega), m (1 + v4) (by omega) (by omega), win]
  · dsimp only
    rw [e1, e2, e3, e4]
    split <;> split <;> omega
theorem s_panes {ns : List Int} (h63 : ns.length ≤ 63) {k : Int} (hk : 0 ≤ k ∧ k ≤ 1500) {most : Int} (hm : 0 ≤ most ∧ most ≤ 6) : ∃ ws : List Win, Wins ws ∧ (ws.length : Int) ≤ most ∧ fD__law_panes [.scr ns, .int k, .int most] = .ok (wins ws) ∧ ∀ w ∈ ws, w.r - w.l ≤ 6 ∧ w.b - w.t ≤ 6 := by
  obtain ⟨v, p, a, b⟩ := s_pick h63 (k := k) (m := most + 1) (by omega) (by omega)
  obtain ⟨n, rfl⟩ : ∃ n : Nat, v = n := ⟨v.toNat, by omega⟩
  obtain ⟨ws, h1, h2, h3⟩ := lcL_ex (p := .nm 3) (vs := [3]) (f := callF fD__law_pane (consF (getV 0) (consF (bin addD (bin addD (getV 1) (cst (.int 1))) (bin mulD (cst (.int 5)) (getV 3))) nilF)))
    (env := [.val (.scr ns), .val (.int k), .val (.int most), .no]) (enc := nD) win (fun _ w => w.Ok ∧ w.r - w.l ≤ 6 ∧ w.b - w.t ≤ 6) (xs := List.range n) fun i hi => by
      have hi := List.mem_range.mp hi
      obtain ⟨w, ok, hw, sm⟩ := s_pane h63 (k := k + 1 + 5 * i) (by omega)
      exact ⟨_, w, rfl, by simp [nD, u_mulL 5 (i : Int), hw], ok, sm⟩
  rw [List.length_range] at h1
  have ok : ∀ w ∈ ws, w.Ok ∧ w.r - w.l ≤ 6 ∧ w.b - w.t ≤ 6 := fun w hw => by
    obtain ⟨i, hi, rfl⟩ := List.mem_iff_getElem.mp hw
    exact h2 i i ws[i] (List.getElem?_range (by omega)) (by simp [hi])
  refine ⟨ws, ⟨fun w hw => (ok w hw).1, by omega⟩, by omega, ?_, fun w hw => (ok w hw).2⟩
  · simp [fD__law_panes, G__law_panes, p, asRng1_nat (n := n) (by omega)]
    simp [h3, wins]
theorem s_order {ns : List Int} (h63 : ns.length ≤ 63) {k : Int} (hk : 0 ≤ k ∧ k ≤ 1500) {n : Nat} (hn : n ≤ 12) : ∃ os : List Nat, IsOrd n os ∧ fD__law_order [.scr ns, .int k, .int n] = .ok (natsT os) := by
  obtain ⟨e', hw, found, rfl, hp⟩ := whileL_ok (t := bin neD (getB 3) (mkL (lstF nilF))) (G := appPopS 4 3 (callF fD__law_pick (consF (getV 0) (consF (bin addD (getV 1) (appL lenD (consF (getB 3) nilF))) (consF (appL lenD (consF (getB 3) nilF)) nilF)))))
    (fun m e => ∃ rest found : List Nat, e = [.val (.scr ns), .val (.int k), .val (.int n), .own (rest.map nD), .own (found.map nD)] ∧ (rest ++ found).Perm (List.range n) ∧ rest.length = m)
    (fun e => ∃ found : List Nat, e = [.val (.scr ns), .val (.int k), .val (.int n), .own [], .own (found.map nD)] ∧ found.Perm (List.range n))
    (by
      rintro m e ⟨rest, found, rfl, hp, rfl⟩
      have hl := hp.length_eq
      simp at hl
      by_cases hr : rest = []
      · subst hr
        exact .inl ⟨by simp, found, rfl, by simpa using hp⟩
      · have hpos := List.length_pos_iff.mpr hr
        obtain ⟨v, p, a, b⟩ := s_pick h63 (k := k + rest.length) (m := rest.length) (by omega) (by omega)
        obtain ⟨j, rfl⟩ : ∃ j : Nat, v = j := ⟨v.toNat, by omega⟩
        have hj : j < rest.length := by omega
        refine .inr ⟨by simp [neD_nil (pl_64 (pl_nats rest)), hr], _, rest.length - 1, by omega, .inl (appPop_ok (ds := found.map nD) (es := rest.map nD) (k := j) (y := nD rest[j]) (by decide) rfl rfl (by simp [p, nD]) (by simp [hj]) (small_le (by simp; omega))), rest.eraseIdx j, found ++ [rest[j]], ?_, ?_, ?_⟩
        · simp [map_erase']
        · have h1 : (rest[j] :: rest.eraseIdx j).Perm rest := erase_perm hj
          refine List.Perm.trans ?_ hp
          rw [← List.append_assoc]
          refine (List.perm_append_comm).trans ?_
          show ([rest[j]] ++ (rest.eraseIdx j ++ found)).Perm _
          rw [← List.append_assoc]
          exact h1.append_right found
        · rw [List.length_eraseIdx]; simp [hj])
    3000 n [.val (.scr ns), .val (.int k), .val (.int n), .own ((List.range n).map nD), .own (([] : List Nat).map nD)] (by omega) ⟨List.range n, [], rfl, by simp, by simp⟩
  refine ⟨found, hp, ?_⟩
  simp at hw
  simp [fD__law_order, G__law_order, B__law_order_0, asRng1_nat (n := n) (by omega), hw, natsT]
theorem s_law_in (w : Win) (x y : Int) : fD__law_in [win w, .int x, .int y] = .ok (.bl (inW w x y)) := by
  have u : unpS (.tp [3, 4, 5, 6]) (getV 0) [.val (win w), .val (.int x), .val (.int y), .no, .no, .no, .no] = .next [.val (win w), .val (.int x), .val (.int y), .val (.int w.l), .val (.int w.t), .val (.int w.r), .val (.int w.b)] := unp_ok (d := win w) rfl rfl
  simp [fD__law_in, G__law_in, u, inW, Bool.and_assoc]
theorem ix_wins {ws : List Win} {i : Nat} (h : i < ws.length) : ixD (wins ws) (nD i) = some (win (wAt ws i)) := by
  refine (ix_nat (xs := ws.map win) ?_).1
  unfold wAt
  rw [List.getElem?_map, List.getElem?_eq_getElem h, List.getD_eq_getElem?_getD, List.getElem?_eq_getElem h]
  rfl
theorem last_fold {p : Nat → Bool} : ∀ {os : List Nat} {o : Option Nat}, os.foldl (fun o i => if p i = true then some i else o) o = (os.filter p).getLast?.or o
  | [], o => by simp
  | i :: os, o => by
    rw [List.foldl_cons, last_fold (os := os)]
    by_cases h : p i = true
    · simp only [h, if_true, List.filter_cons_of_pos, List.getLast?_cons]
      cases (os.filter p).getLast? <;> simp
    · simp [h]
theorem fold_fst {S T α : Type} {f : S → α → S} {g : T → α → T} : ∀ {xs : List α} {s : S} {t : T}, (xs.foldl (fun (q : S × T) x => (f q.1 x, g q.2 x)) (s, t)).1 = xs.foldl f s
  | [], _, _ => rfl
  | x :: xs, s, t => by simp [fold_fst]
theorem s_law_top {ws : List Win} {os : List Nat} (h : IsOrd ws.length os) (x y : Int) : fD__law_top [wins ws, natsT os, .int x, .int y] = .ok (optD (topW ws os x y)) := by
  have e := forL_fold (p := .nm 5) (G := ifS (tst (callF fD__law_in (consF (bin ixD (getB 0) (getV 5)) (consF (getV 2) (consF (getV 3) nilF))))) (setS 4 (getV 5)) skipS) (enc := nD)
    (fun q : Option Nat × Sl => [.val (wins ws), .val (natsT os), .val (.int x), .val (.int y), .val (optD q.1), q.2]) (fun q i => (if inW (wAt ws i) x y = true then some i else q.1, Sl.val (nD i))) (xs := os) (s := (none, .no)) fun q i hi => by
      refine ⟨_, rfl, .inl ?_⟩
      have ix := ix_wins (h.lt hi)
      have li := s_law_in (wAt ws i) x y
      by_cases hin : inW (wAt ws i) x y = true
      · simp [ix, li, hin, optD]
      · simp [ix, li, hin]
  have f : (os.foldl (fun (q : Option Nat × Sl) i => (if inW (wAt ws i) x y = true then some i else q.1, Sl.val (nD i))) (none, .no)).1 = topW ws os x y := by
    rw [fold_fst (f := fun o i => if inW (wAt ws i) x y = true then some i else o) (g := fun _ i => Sl.val (nD i)), last_fold]
    simp [topW]
  generalize os.foldl (fun (q : Option Nat × Sl) i => (if inW (wAt ws i) x y = true then some i else q.1, Sl.val (nD i))) (none, .no) = q at e f
  have o : optD none = .non := rfl
  rw [o] at e
  simp [fD__law_top, G__law_top, B__law_top_0, e, f]

/-! ### groups that cover -/
def covG (ws : List Win) (g : List Nat) (c : Int × Int) : Bool := g.any fun j => inW (wAt ws j) c.1 c.2
@[irreducible] def coverW (ws : List Win) (g : List Nat) (i : Nat) : Bool := (cellsW (wAt ws i)).all (covG ws g)
theorem coverW_eq (ws : List Win) (g : List Nat) (i : Nat) : coverW ws g i = (cellsW (wAt ws i)).all (covG ws g) := by unfold coverW; rfl
theorem s_covers_c (w : Win) (c : Int × Int) : fD_covers [win w, cellD c] = .ok (.bl (inW w c.1 c.2)) := s_covers w c.1 c.2
def natsL (ns : List Nat) : D := .lst (ns.map nD)
@[simp] theorem asSeq_natsL (ns : List Nat) : asSeq (natsL ns) = some (ns.map nD) := nr rfl
def othN (n i : Nat) : List Nat := (List.range n).filter fun j => !decide (j = i)
theorem othN_lt {n i j : Nat} (h : j ∈ othN n i) : j < n := by
  unfold othN at h
  rw [List.mem_filter] at h
  exact List.mem_range.mp h.1
/-- the others cover window i -/
def canH (ws : List Win) (i : Nat) : Bool := coverW ws (othN ws.length i) i
/-! ### all groups -/
def subs (ns : List Nat) : List (List Nat) := ns.foldl (fun found n => found ++ found.map (· ++ [n])) [[]]
def encP (g : List Nat) : D := .tup [nD g.length, natsT g]
def leG (g h : List Nat) : Bool := leD (encP g) (encP h)
@[irreducible] def allG (ns : List Nat) : List (List Nat) := (isort leG (subs ns)).filter fun g => decide (0 < g.length)
theorem allG_eq (ns : List Nat) : allG ns = (isort leG (subs ns)).filter fun g => decide (0 < g.length) := by unfold allG; rfl
theorem subs_len (ns : List Nat) : (subs ns).length = 2 ^ ns.length := by
  have key : ∀ (ns : List Nat) (f : List (List Nat)), (ns.foldl (fun found n => found ++ found.map (· ++ [n])) f).length = f.length * 2 ^ ns.length := by
    intro ns
    induction ns with
    | nil => intro f; simp
    | cons n ns ih =>
      intro f
      rw [List.foldl_cons, ih, List.length_append, List.length_map, List.length_cons, Nat.pow_succ]
      rw [← Nat.two_mul, Nat.mul_comm 2, Nat.mul_assoc, Nat.mul_comm 2]
  unfold subs
  rw [key]; simp
theorem subs_small {ns : List Nat} (h : ns.length ≤ 12) : ∀ g ∈ subs ns, g.length ≤ 12 := by
  have key : ∀ (ns : List Nat) (f : List (List Nat)) (k : Nat), (∀ g ∈ f, g.length ≤ k) → ∀ g ∈ ns.foldl (fun found n => found ++ found.map (· ++ [n])) f, g.length ≤ k + ns.length := by
    intro ns
    induction ns with
    | nil => intro f k h g hg; exact h g hg
    | cons n ns ih =>
      intro f k h g hg
      rw [List.foldl_cons] at hg
      have := ih _ (k + 1) (fun g hg => by
        rcases List.mem_append.mp hg with hg | hg
        · have := h g hg; omega
        · obtain ⟨g', hg', rfl⟩ := List.mem_map.mp hg
          have := h g' hg'; simp; omega) g hg
      simp; omega
  intro g hg
  have := key ns [[]] 0 (by simp) g hg
  omega
/-! ### smallest covers -/
theorem subs_mem {ns : List Nat} : ∀ {g : List Nat}, g ∈ subs ns → ∀ j ∈ g, j ∈ ns := by
  have key : ∀ (ns all : List Nat) (f : List (List Nat)), (∀ n ∈ ns, n ∈ all) → (∀ g ∈ f, ∀ j ∈ g, j ∈ all) → ∀ g ∈ ns.foldl (fun found n => found ++ found.map (· ++ [n])) f, ∀ j ∈ g, j ∈ all := by
    intro ns all
    induction ns with
    | nil => intro f _ h g hg; exact h g hg
    | cons n ns ih =>
      intro f hn h g hg
      rw [List.foldl_cons] at hg
      refine ih _ (fun m hm => hn m (by simp [hm])) (fun g hg j hj => ?_) g hg
      rcases List.mem_append.mp hg with hg | hg
      · exact h g hg j hj
      · obtain ⟨g', hg', rfl⟩ := List.mem_map.mp hg
        rcases List.mem_append.mp hj with hj | hj
        · exact h g' hg' j hj
        · rw [List.mem_singleton.mp hj]; exact hn n (by simp)
  intro g hg
  exact key ns ns [[]] (fun _ h => h) (by simp) g hg
theorem allG_mem {ns : List Nat} {g : List Nat} (h : g ∈ allG ns) : g ∈ subs ns ∧ 0 < g.length := by
  rw [allG_eq, List.mem_filter] at h
  exact ⟨(isort_perm (le := leG) (subs ns)).mem_iff.mp h.1, by simpa using h.2⟩
theorem allG_in {ns : List Nat} {g : List Nat} (h : g ∈ allG ns) {j : Nat} (hj : j ∈ g) : j ∈ ns := subs_mem (allG_mem h).1 j hj
def optG : Option (List Nat) → D
  | none => .non
  | some g => natsT g
def smallG (ws : List Win) (i : Nat) : Option (List Nat) := (allG (othN ws.length i)).find? fun g => coverW ws g i
theorem othN_len (n i : Nat) : (othN n i).length ≤ n := by
  have := List.length_filter_le (fun j => !decide (j = i)) (List.range n)
  simpa [othN] using this
/-! ### groups that lie apart -/
def gAt (g : List Nat) (p : Nat) : Nat := g.getD p 0
theorem enum_nats (g : List Nat) : enumL 0 (g.map nD) = (List.range g.length).map fun p => .itm [nD p, nD (gAt g p)] := by
  rw [enumL_map nD 0 0 g]
  apply List.map_congr_left
  intro p _
  simp [nD, gAt]
theorem cut_take (g : List Nat) (p : Nat) : cutF (natsT g) none (some (p : Int)) = some (natsT (g.take p)) := by
  show some (D.tup (cutD (g.map nD) none (some (p : Int)))) = _
  have : cutD (g.map nD) none (some (p : Int)) = (g.take p).map nD := by
    unfold cutD
    rw [HT.sIx_none, HT.sIx_nat, List.map_take]
    simp
  rw [this]; rfl
def apart (ws : List Win) (g : List Nat) : Bool := (List.range g.length).all fun p => !(g.take p).any fun o => hasOv (wAt ws (gAt g p)) (wAt ws o)
theorem getD_in {g : List Nat} {p : Nat} (h : p < g.length) : gAt g p ∈ g := by
  unfold gAt
  rw [List.getD_eq_getElem?_getD, List.getElem?_eq_getElem h]; exact List.getElem_mem h
theorem noRaw_ov (b : Bool) (w : Win) : notNoneD (if b = true then win w else .non) .non = some b := by cases b <;> rfl
/-! ### groups to show, groups to hide -/
/-- a group of n windows -/
structure IsGrp (n : Nat) (g : List Nat) : Prop where
  ne : g ≠ []
  lt : ∀ j ∈ g, j < n
  up : g.Pairwise (· < ·)
  le : g.length ≤ 12
theorem zip_up : ∀ {g : List Nat}, g.Pairwise (· < ·) → ∃ ps : List (Nat × Nat), zipL (g.map nD) (g.tail.map nD) = ps.map (fun q => .itm [nD q.1, nD q.2]) ∧ ∀ q ∈ ps, q.1 < q.2
  | [], _ => ⟨[], rfl, by simp⟩
  | [a], _ => ⟨[], rfl, by simp⟩
  | a :: b :: g, h => by
    obtain ⟨ps, h1, h2⟩ := zip_up (g := b :: g) (List.pairwise_cons.mp h).2
    refine ⟨(a, b) :: ps, ?_, fun q hq => ?_⟩
    · simp only [List.map_cons, List.tail_cons, zipL] at h1 ⊢
      rw [← h1]
    · rcases List.mem_cons.mp hq with e | hq
      · subst e; exact (List.pairwise_cons.mp h).1 b (by simp)
      · exact h2 q hq
theorem cut_tail (g : List Nat) : cutF (natsT g) (some 1) none = some (natsT g.tail) := by
  show some (D.tup (cutD (g.map nD) (some 1) none)) = _
  have : cutD (g.map nD) (some 1) none = g.tail.map nD := by
    unfold cutD
    rw [HT.sIx_none, show (1 : Int) = ((1 : Nat) : Int) from rfl, HT.sIx_nat]
    cases g with
    | nil => simp
    | cons a r =>
      simp
      rw [List.take_of_length_le (by simp)]
  rw [this]; rfl
def leN (g h : List Nat) : Bool := leD (natsT g) (natsT h)
def lastLen (l : List (List Nat)) : Nat := match l.getLast? with
  | some g => g.length
  | none => 0
def apartG (ws : List Win) : List (List Nat) := (allG (List.range ws.length)).filter (apart ws)
def shownG (ws : List Win) : List (List Nat) := isort leN ((apartG ws).filter fun g => decide (g.length = lastLen (apartG ws)))
theorem len_natsT (g : List Nat) : lenD [natsT g] = some (nD g.length) := by
  have : lenD [natsT g] = some (.int (g.map nD).length) := rfl
  rw [this, List.length_map]; rfl
theorem pl_gs (gs : List (List Nat)) : plD 2 (.lst (gs.map natsT)) = true := pl_lst fun d hd => by
  obtain ⟨c, _, rfl⟩ := List.mem_map.mp hd; exact pl_natsT c
def headLen (l : List (List Nat)) : Nat := match l with
  | g :: _ => g.length
  | [] => 0
def restN (n : Nat) (g : List Nat) : List Nat := (List.range n).filter fun j => !decide (j ∈ g)
def hidB (ws : List Win) (g : List Nat) : Bool := g.all fun i => coverW ws (restN ws.length g) i
def mostH (ws : List Win) : Nat := match (allG (List.range ws.length)).reverse.find? (hidB ws) with
  | some g => g.length
  | none => 0
/-! ### the law's own helpers -/
theorem len_le {α β : Type} (n : Nat) : ∀ (xs : List α) (f : α → List β), (∀ x ∈ xs, (f x).length ≤ n) → (xs.flatMap f).length ≤ xs.length * n
  | [], _, _ => by simp
  | x :: xs, f, h => by
    have h1 := h x (by simp)
    have h2 := len_le n xs f fun y hy => h y (by simp [hy])
    rw [List.flatMap_cons, List.length_append, List.length_cons, Nat.add_mul]
    omega
theorem cnt_optD (os : List (Option Nat)) (i : Nat) : cntF (os.map optD) [nD i] = some (nD (os.countP fun o => decide (o = some i))) := by
  have fl : (os.map optD).all flatD = true := by
    rw [List.all_map, List.all_eq_true]
    intro o _
    cases o <;> rfl
  have f1 : flatD (nD i) = true := rfl
  show (if (flatD (nD i) && (os.map optD).all flatD) = true then some (D.int ((os.map optD).countP fun z => PyData.eqv z.toPy (nD i).toPy : Nat)) else none) = _
  rw [fl, f1]
  simp only [Bool.and_self, if_true, List.countP_map]
  congr 2
  congr 1
  apply List.countP_congr
  intro o _
  have e := eqD_opt o i
  have pe : PyData.eqv (optD o).toPy (nD i).toPy = decide (o = some i) := by
    cases o with
    | none => rfl
    | some j =>
      show (decide (((j : Nat) : Int) = ((i : Nat) : Int))) = _
      simp
      omega
  show (PyData.eqv (optD o).toPy (nD i).toPy) = true ↔ _
  rw [pe]
/-- orders, one more number each -/
def extO (n : Nat) (l : List (List Nat)) : List (List Nat) := l.flatMap fun o => ((List.range n).filter fun j => !decide (j ∈ o)).map fun j => o ++ [j]
def ordsK (n : Nat) : Nat → List (List Nat)
  | 0 => [[]]
  | k + 1 => extO n (ordsK n k)
theorem ordsK_mem {n k : Nat} {o : List Nat} : o ∈ ordsK n k ↔ o.Nodup ∧ (∀ j ∈ o, j < n) ∧ o.length = k := by
  induction k generalizing o with
  | zero =>
    simp only [ordsK, List.mem_singleton, List.length_eq_zero_iff]
    constructor
    · rintro rfl; simp
    · rintro ⟨_, _, h⟩; exact h
  | succ k ih =>
    simp only [ordsK, extO, List.mem_flatMap, List.mem_map, List.mem_filter, List.mem_range, Bool.not_eq_true', decide_eq_false_iff_not]
    constructor
    · rintro ⟨p, hp, j, ⟨hj, hn⟩, rfl⟩
      obtain ⟨a, b, c⟩ := ih.mp hp
      refine ⟨?_, ?_, by simp [c]⟩
      · rw [List.nodup_append]
        refine ⟨a, by simp, ?_⟩
        intro x hx y hy e
        rw [List.mem_singleton.mp hy] at e
        exact hn (e ▸ hx)
      · intro x hx
        rcases List.mem_append.mp hx with hx | hx
        · exact b x hx
        · rw [List.mem_singleton.mp hx]; exact hj
    · rintro ⟨a, b, c⟩
      rcases List.eq_nil_or_concat o with rfl | ⟨p, j, rfl⟩
      · simp at c
      · rw [List.concat_eq_append] at *
        rw [List.nodup_append] at a
        refine ⟨p, ih.mpr ⟨a.1, fun x hx => b x (by simp [hx]), by simpa using c⟩, j, ⟨b j (by simp), fun hx => a.2.2 j hx j (by simp) rfl⟩, rfl⟩
theorem nd_le : ∀ {l m : List Nat}, l.Nodup → (∀ x ∈ l, x ∈ m) → l.length ≤ m.length
  | [], _, _, _ => by simp
  | x :: l, m, h, s => by
    obtain ⟨h1, h2⟩ := List.nodup_cons.mp h
    have hx := s x (by simp)
    have ih := nd_le (m := m.erase x) h2 fun y hy => (List.mem_erase_of_ne fun e => h1 (by rw [← e]; exact hy)).mpr (s y (by simp [hy]))
    rw [List.length_erase_of_mem hx] at ih
    have := List.length_pos_of_mem hx
    rw [List.length_cons]
    omega
theorem ordsK_ord {n : Nat} {o : List Nat} : o ∈ ordsK n n ↔ IsOrd n o := by
  rw [ordsK_mem]
  constructor
  · rintro ⟨a, b, c⟩
    refine (List.perm_ext_iff_of_nodup a List.nodup_range).mpr fun x => ⟨fun hx => List.mem_range.mpr (b x hx), fun hx => ?_⟩
    refine Decidable.byContradiction fun hn => ?_
    have h1 := nd_le a (m := (List.range n).erase x) fun y hy => (List.mem_erase_of_ne fun (e : y = x) => hn (by rw [← e]; exact hy)).mpr (List.mem_range.mpr (b y hy))
    rw [List.length_erase_of_mem hx, List.length_range] at h1
    have := List.mem_range.mp hx
    omega
  · intro h
    exact ⟨h.nodup_iff.mpr List.nodup_range, fun j hj => h.lt hj, by simpa using h.length_eq⟩
theorem ordsK_len {n : Nat} (hn : n ≤ 6) : ∀ k, k ≤ 6 → (ordsK n k).length ≤ 6 ^ k
  | 0, _ => by simp [ordsK]
  | k + 1, h => by
    have ih := ordsK_len hn k (by omega)
    have := len_le 6 (ordsK n k) (fun o => ((List.range n).filter fun j => !decide (j ∈ o)).map fun j => o ++ [j]) fun o _ => by
      rw [List.length_map]
      exact Nat.le_trans (List.length_filter_le _ _) (by simpa using hn)
    have e : (ordsK n (k + 1)).length ≤ (ordsK n k).length * 6 := this
    rw [Nat.pow_succ]
    omega
theorem law_ord_step {n k : Nat} (hn : n ≤ 6) (hk : k < 6) (s2 s3 s4 : Sl) : ∃ t3 t4 : Sl, B__law_orders_1 [.val (nD n), .val (.lst ((ordsK n k).map natsT)), s2, s3, s4, .no] = .next [.val (nD n), .val (.lst ((ordsK n (k + 1)).map natsT)), s2, t3, t4, .no] := by
  have r : asRng1 [nD n] = some ((List.range n).map nD) := asRng1_nat (by omega)
  have ol := ordsK_len hn k (by omega)
  have pw : 6 ^ k ≤ 7776 := Nat.pow_le_pow_right (i := k) (j := 5) (by omega) (by omega)
  have st : ∀ o : List Nat, (((List.range n).filter fun j => !decide (j ∈ o)).map fun j => o ++ [j]).length ≤ 6 := fun o => by
    rw [List.length_map]
    exact Nat.le_trans (List.length_filter_le _ _) (by simpa using hn)
  obtain ⟨e', h1, t4, rfl⟩ := forL_ind (p := .nm 4) (G := B__law_orders_0) (enc := natsT) (xs := ordsK n k) (e := [.val (nD n), .val (.lst ((ordsK n k).map natsT)), s2, .own [], s4, .no])
    (fun pre e => ∃ t4, e = [.val (nD n), .val (.lst ((ordsK n k).map natsT)), s2, .own ((extO n pre).map natsT), t4, .no]) ⟨s4, rfl⟩ (by
      rintro pre o suf hq e ⟨t4, rfl⟩
      have ho : o ∈ ordsK n k := by rw [hq]; simp
      obtain ⟨_, _, ok⟩ := ordsK_mem.mp ho
      have pl : pre.length ≤ 6 ^ k := by
        refine Nat.le_trans ?_ ol
        rw [hq, List.length_append]
        exact Nat.le_add_right _ _
      have e1 : ∀ a1 a3 : Sl, lcL (.nm 5) [5] (bin notInD (getB 5) (getB 4)) (bin addD (getV 4) (tupF (consF (getV 5) nilF))) ((List.range n).map nD) [.val (nD n), a1, s2, a3, .val (natsT o), .no] = .ok (((List.range n).filter fun j => !decide (j ∈ o)).map fun j => natsT (o ++ [j])) := fun a1 a3 =>
        lcL_ok (fun j => !decide (j ∈ o)) (fun j => natsT (o ++ [j])) fun j _ => ⟨_, rfl, by
          have : notInD (nD j) (natsT o) = some (!decide (j ∈ o)) := by
            show (inD (nD j) (natsT o)).map (!·) = _
            rw [show inD (nD j) (natsT o) = some (decide (j ∈ o)) from in_nat j o]; rfl
          simp [this], fun _ => by
          have ad : addD (natsT o) (.tup [nD j]) = some (natsT (o ++ [j])) := by
            show (if small ((o.map nD).length + 1) = true then some (D.tup (o.map nD ++ [nD j])) else none) = _
            rw [if_pos (small_le (by rw [List.length_map]; omega))]
            simp [natsT]
          simp [ad]⟩
      refine ⟨_, rfl, _, .inl (ext_ok (ds := (extO n pre).map natsT) (es := ((List.range n).filter fun j => !decide (j ∈ o)).map fun j => natsT (o ++ [j])) rfl ?_ (small_le ?_)), .val (natsT o), ?_⟩
      · simp only [u_lc, u_appL, u_cons, e_set0, e_setS, e_getB0, e_bind, u_nil, e_map, r, e_some]
        exact e1 _ _
      · have h1 : (extO n pre).length ≤ pre.length * 6 := len_le 6 pre _ fun o _ => st o
        have h2 := st o
        rw [List.length_map] at h2
        have h3 : pre.length ≤ 7776 := Nat.le_trans pl pw
        rw [List.length_map, List.length_map]
        clear ol pw pl
        omega
      · simp [extO, Function.comp_def])
  refine ⟨.val (.lst ((ordsK n (k + 1)).map natsT)), t4, ?_⟩
  have fr : frzE 3 [.val (nD n), .val (.lst ((ordsK n k).map natsT)), s2, .own ((extO n (ordsK n k)).map natsT), t4, .no] = [.val (nD n), .val (.lst ((ordsK n k).map natsT)), s2, .val (.lst ((extO n (ordsK n k)).map natsT)), t4, .no] := rfl
  have eq : ordsK n (k + 1) = extO n (ordsK n k) := rfl
  rw [eq]
  generalize extO n (ordsK n k) = new at *
  simp [B__law_orders_1, h1, frzS, fr]
theorem s_law_orders {n : Nat} (hn : n ≤ 6) : fD__law_orders [nD n] = .ok (.lst ((ordsK n n).map natsT)) := by
  have r : asRng1 [nD n] = some ((List.range n).map nD) := asRng1_nat (by omega)
  obtain ⟨e', h1, s2, s3, s4, rfl⟩ := forL_ind (p := .nm 2) (G := B__law_orders_1) (enc := nD) (xs := List.range n) (e := [.val (nD n), .val (.lst ([[]].map natsT)), .no, .no, .no, .no])
    (fun pre e => ∃ s2 s3 s4, e = [.val (nD n), .val (.lst ((ordsK n pre.length).map natsT)), s2, s3, s4, .no]) ⟨_, _, _, rfl⟩ (by
      rintro pre x suf hq e ⟨s2, s3, s4, rfl⟩
      have hl : pre.length < 6 := by
        have := congrArg List.length hq
        simp at this; omega
      obtain ⟨t3, t4, h⟩ := law_ord_step hn hl (.val (nD x)) s3 s4
      refine ⟨_, rfl, _, .inl h, .val (nD x), t3, t4, ?_⟩
      simp)
  rw [List.length_range] at h1
  have emp : natsT [] = .tup [] := rfl
  simp [emp] at h1
  simp [fD__law_orders, G__law_orders, r, h1]
theorem in_natL (j : Nat) (h : List Nat) : inD (nD j) (.lst (h.map nD)) = some (decide (j ∈ h)) := in_lst (pl_nat 64 j) (pl_64 (pl_nats h)) (by
  rw [List.mem_map]
  constructor
  · rintro ⟨a, ha, e⟩; rw [← nD_inj e]; exact ha
  · exact fun h => ⟨j, h, rfl⟩)
theorem notIn_natL (j : Nat) (h : List Nat) : notInD (nD j) (.lst (h.map nD)) = some (!decide (j ∈ h)) := by
  unfold notInD; rw [in_natL]; rfl
theorem notIn_natT (j : Nat) (h : List Nat) : notInD (nD j) (natsT h) = some (!decide (j ∈ h)) := by
  unfold notInD; rw [show inD (nD j) (natsT h) = some (decide (j ∈ h)) from in_nat j h]; rfl
theorem s_law_screen {ws : List Win} {os : List Nat} (h : IsOrd ws.length os) : fD__law_screen [wins ws, natsT os] = .ok (.lst ((grid.map fun c => topW ws os c.1 c.2).map optD)) := by
  have r12 : asRng1 [.int 12] = some ((List.range 12).map nD) := asRng1_nat (n := 12) (by omega)
  obtain ⟨e', hl, s3, rfl⟩ := forL_ind (p := .nm 3) (G := B__law_screen_0) (enc := nD) (xs := List.range 12) (e := [.val (wins ws), .val (natsT os), .own [], .no, .no])
    (fun pre e => ∃ s3, e = [.val (wins ws), .val (natsT os), .own (((pre.flatMap fun x => (List.range 12).map fun y => (((x : Nat) : Int), ((y : Nat) : Int))).map fun c => topW ws os c.1 c.2).map optD), s3, .no]) ⟨.no, rfl⟩ (by
      rintro pre x suf hq e ⟨s3, rfl⟩
      have pl : pre.length ≤ 12 := by
        have := congrArg List.length hq
        simp at this; omega
      have e1 : ∀ a2 : Sl, lcL (.nm 4) [4] yesF (callF fD__law_top (consF (getV 0) (consF (getV 1) (consF (getV 3) (consF (getV 4) nilF))))) ((List.range 12).map nD) [.val (wins ws), .val (natsT os), a2, .val (nD x), .no] = .ok ((((List.range 12).map fun y => (((x : Nat) : Int), ((y : Nat) : Int))).map fun c => topW ws os c.1 c.2).map optD) := fun a2 => by
        rw [List.map_map, List.map_map]
        exact lcL_all (fun y => optD (topW ws os ((x : Nat) : Int) ((y : Nat) : Int))) fun y _ => ⟨_, rfl, by
          have := s_law_top h (x : Int) (y : Int)
          simp only [u_call, u_cons, u_nil, e_getVs, e_getV0, e_bind, e_map, e_wipeS, e_wipe0, e_set0, e_setS]
          exact this⟩
      refine ⟨_, rfl, _, .inl (ext_ok (ds := ((pre.flatMap fun x => (List.range 12).map fun y => (((x : Nat) : Int), ((y : Nat) : Int))).map fun c => topW ws os c.1 c.2).map optD) (es := (((List.range 12).map fun y => (((x : Nat) : Int), ((y : Nat) : Int))).map fun c => topW ws os c.1 c.2).map optD) rfl ?_ (small_le ?_)), .val (nD x), ?_⟩
      · simp only [u_lc, u_appL, u_cons, u_cst, e_set0, e_setS, e_bind, u_nil, e_map, r12, e_some]
        exact e1 _
      · have h1 := len_le 12 pre (fun x => (List.range 12).map fun y => (((x : Nat) : Int), ((y : Nat) : Int))) fun x _ => by simp
        simp only [List.length_map] at h1 ⊢
        simp only [List.length_range]
        omega
      · simp)
  rw [← grid_eq] at hl
  generalize (grid.map fun c => topW ws os c.1 c.2).map optD = gl at *
  have fr : frzE 2 [.val (wins ws), .val (natsT os), .own gl, s3, .no] = [.val (wins ws), .val (natsT os), .val (.lst gl), s3, .no] := rfl
  simp [fD__law_screen, G__law_screen, r12, hl, frzS, fr]
theorem seen_grid {ws : List Win} {os : List Nat} (ho : IsOrd ws.length os) (i : Nat) : seenW ws os i = grid.filter fun c => decide (topW ws os c.1 c.2 = some i) := by
  rw [seenW_eq, cellsW_eq, List.filter_filter]
  apply List.filter_congr
  intro c _
  by_cases h : topW ws os c.1 c.2 = some i
  · simp [h, (top_lt ho h).2]
  · simp [h]
theorem whole_len {ws : List Win} {os : List Nat} (i : Nat) : wholeW ws os i = decide ((seenW ws os i).length = (cellsW (wAt ws i)).length) := by
  unfold wholeW
  rw [seenW_eq, Bool.eq_iff_iff, decide_eq_true_eq, decide_eq_true_eq]
  constructor
  · intro h; rw [h]
  · intro h; rw [List.filter_eq_self]; exact List.length_filter_eq_length_iff.mp h
theorem last_whole {ws : List Win} {os : List Nat} (ho : IsOrd ws.length os) {i : Nat} (h : os.getLast? = some i) : wholeW ws os i = true := by
  unfold wholeW
  rw [seenW_eq, decide_eq_true_eq, List.filter_eq_self]
  intro c hc
  rw [decide_eq_true_eq]
  unfold topW
  obtain ⟨l, rfl⟩ : ∃ l, os = l ++ [i] := by
    rcases List.eq_nil_or_concat os with rfl | ⟨l, a, rfl⟩
    · cases h
    · simp at h; subst h; exact ⟨l, by simp⟩
  rw [List.filter_append]
  simp [cell_in hc]
theorem count_seen {ws : List Win} {os : List Nat} (ho : IsOrd ws.length os) (i : Nat) : ((grid.map fun c => topW ws os c.1 c.2).countP fun o => decide (o = some i)) = (seenW ws os i).length := by
  rw [seen_grid ho, List.countP_map, List.countP_eq_length_filter]
  rfl
def hiddenL (ws : List Win) (os : List Nat) : List Nat := (List.range ws.length).filter fun i => decide ((seenW ws os i).length = 0)
def shownL (ws : List Win) (os : List Nat) : List Nat := (List.range ws.length).filter fun i => decide ((seenW ws os i).length = (cellsW (wAt ws i)).length)
/-! ### orders that hide, orders that show -/
theorem filt_last {p : Nat → Bool} {a b : List Nat} {j : Nat} (hj : j ∈ b) (h : p j = true) : ∃ k, ((a ++ b).filter p).getLast? = some k ∧ k ∈ b ∧ p k = true := by
  rw [List.filter_append]
  have m : j ∈ b.filter p := List.mem_filter.mpr ⟨hj, h⟩
  rcases List.eq_nil_or_concat (b.filter p) with e | ⟨l, k, e⟩
  · rw [e] at m; cases m
  · have hk : k ∈ b.filter p := by rw [e]; simp
    refine ⟨k, ?_, (List.mem_filter.mp hk).1, (List.mem_filter.mp hk).2⟩
    rw [e]; simp
theorem rest_mem {n : Nat} {g : List Nat} {j : Nat} : j ∈ restN n g ↔ j < n ∧ j ∉ g := by
  unfold restN
  simp
theorem ord_gr {n : Nat} {g : List Nat} (hn : g.Nodup) (hl : ∀ j ∈ g, j < n) : IsOrd n (g ++ restN n g) := by
  refine (List.perm_ext_iff_of_nodup ?_ List.nodup_range).mpr fun x => ?_
  · rw [List.nodup_append]
    refine ⟨hn, List.nodup_range.filter _, fun a ha b hb e => ?_⟩
    subst e
    exact (rest_mem.mp hb).2 ha
  · rw [List.mem_append, rest_mem, List.mem_range]
    constructor
    · rintro (h | h)
      · exact hl x h
      · exact h.1
    · intro h
      by_cases q : x ∈ g
      · exact .inl q
      · exact .inr ⟨h, q⟩
theorem ord_rg {n : Nat} {g : List Nat} (hn : g.Nodup) (hl : ∀ j ∈ g, j < n) : IsOrd n (restN n g ++ g) := List.perm_append_comm.trans (ord_gr hn hl)
theorem cov_iff {ws : List Win} {g : List Nat} {i : Nat} : coverW ws g i = true ↔ ∀ c ∈ cellsW (wAt ws i), ∃ j ∈ g, inW (wAt ws j) c.1 c.2 = true := by
  rw [coverW_eq, List.all_eq_true]
  simp only [covG, List.any_eq_true]
theorem seen_nil {ws : List Win} {os : List Nat} {i : Nat} : seenW ws os i = [] ↔ ∀ c ∈ cellsW (wAt ws i), topW ws os c.1 c.2 ≠ some i := by
  rw [seenW_eq, List.filter_eq_nil_iff]
  simp
/-- a group that the rest covers is hidden at the bottom -/
theorem hid_of_cover {ws : List Win} {g : List Nat} (h : ∀ i ∈ g, coverW ws (restN ws.length g) i = true) {i : Nat} (hi : i ∈ g) : seenW ws (g ++ restN ws.length g) i = [] := by
  rw [seen_nil]
  intro c hc e
  obtain ⟨j, hj, hin⟩ := cov_iff.mp (h i hi) c hc
  obtain ⟨k, h1, h2, _⟩ := filt_last (a := g) hj (p := fun i => inW (wAt ws i) c.1 c.2) hin
  unfold topW at e
  rw [h1] at e
  cases e
  exact (rest_mem.mp h2).2 hi
theorem hid_mem {ws : List Win} {os : List Nat} {i : Nat} : i ∈ hiddenL ws os ↔ i < ws.length ∧ seenW ws os i = [] := by
  unfold hiddenL
  simp
theorem cover_of_hid {ws : List Win} {os : List Nat} (ho : IsOrd ws.length os) {i : Nat} (hi : i ∈ hiddenL ws os) : coverW ws (restN ws.length (hiddenL ws os)) i = true := by
  obtain ⟨hl, hs⟩ := hid_mem.mp hi
  rw [cov_iff]
  intro c hc
  obtain ⟨j, hj⟩ := top_in ho hl (cell_in hc)
  have tl := top_lt ho hj
  refine ⟨j, rest_mem.mpr ⟨tl.1, fun hm => ?_⟩, tl.2⟩
  have hs2 := seen_nil.mp (hid_mem.mp hm).2
  have cj : c ∈ cellsW (wAt ws j) := by
    rw [cellsW_eq, List.mem_filter] at hc ⊢
    exact ⟨hc.1, tl.2⟩
  exact hs2 c cj hj
theorem cov_mono {ws : List Win} {g h : List Nat} {i : Nat} (s : ∀ j ∈ g, j ∈ h) (c : coverW ws g i = true) : coverW ws h i = true := by
  rw [cov_iff] at c ⊢
  intro x hx
  obtain ⟨j, hj, hi⟩ := c x hx
  exact ⟨j, s j hj, hi⟩
theorem rest_one (n i : Nat) : restN n [i] = othN n i := by
  unfold restN othN
  apply List.filter_congr
  intro j _
  simp
theorem canH_iff {ws : List Win} {i : Nat} (hi : i < ws.length) : canH ws i = true ↔ ∃ os ∈ ordsK ws.length ws.length, i ∈ hiddenL ws os := by
  constructor
  · intro h
    have h' : ∀ j ∈ [i], coverW ws (restN ws.length [i]) j = true := by
      intro j hj
      rw [List.mem_singleton.mp hj, rest_one]; exact h
    refine ⟨[i] ++ restN ws.length [i], ordsK_ord.mpr (ord_gr (by simp) (by simpa using hi)), hid_mem.mpr ⟨hi, hid_of_cover h' (by simp)⟩⟩
  · rintro ⟨os, ho, hm⟩
    have c := cover_of_hid (ordsK_ord.mp ho) hm
    refine cov_mono (fun j hj => ?_) c
    obtain ⟨a, b⟩ := rest_mem.mp hj
    rw [← rest_one, rest_mem]
    refine ⟨a, fun e => b ?_⟩
    rw [List.mem_singleton.mp e]; exact hm
theorem s_law_topG {ws : List Win} {os : List Nat} (h : ∀ j ∈ os, j < ws.length) (x y : Int) : fD__law_top [wins ws, natsT os, .int x, .int y] = .ok (optD (topW ws os x y)) := by
  have e := forL_fold (p := .nm 5) (G := ifS (tst (callF fD__law_in (consF (bin ixD (getB 0) (getV 5)) (consF (getV 2) (consF (getV 3) nilF))))) (setS 4 (getV 5)) skipS) (enc := nD)
    (fun q : Option Nat × Sl => [.val (wins ws), .val (natsT os), .val (.int x), .val (.int y), .val (optD q.1), q.2]) (fun q i => (if inW (wAt ws i) x y = true then some i else q.1, Sl.val (nD i))) (xs := os) (s := (none, .no)) fun q i hi => by
      refine ⟨_, rfl, .inl ?_⟩
      have ix := ix_wins (h i hi)
      have li := s_law_in (wAt ws i) x y
      by_cases hin : inW (wAt ws i) x y = true
      · simp [ix, li, hin, optD]
      · simp [ix, li, hin]
  have f : (os.foldl (fun (q : Option Nat × Sl) i => (if inW (wAt ws i) x y = true then some i else q.1, Sl.val (nD i))) (none, .no)).1 = topW ws os x y := by
    rw [fold_fst (f := fun o i => if inW (wAt ws i) x y = true then some i else o) (g := fun _ i => Sl.val (nD i)), last_fold]
    simp [topW]
  generalize os.foldl (fun (q : Option Nat × Sl) i => (if inW (wAt ws i) x y = true then some i else q.1, Sl.val (nD i))) (none, .no) = q at e f
  have o : optD none = .non := rfl
  rw [o] at e
  simp [fD__law_top, G__law_top, B__law_top_0, e, f]
theorem top_none {ws : List Win} {g : List Nat} {c : Int × Int} : topW ws g c.1 c.2 = none ↔ ¬ ∃ j ∈ g, inW (wAt ws j) c.1 c.2 = true := by
  unfold topW
  rw [List.getLast?_eq_none_iff, List.filter_eq_nil_iff]
  simp
theorem left_nil {ws : List Win} {g : List Nat} {i : Nat} : ((cellsW (wAt ws i)).filter fun c => (topW ws g c.1 c.2).isNone) = [] ↔ coverW ws g i = true := by
  rw [List.filter_eq_nil_iff, cov_iff]
  refine forall_congr' fun c => forall_congr' fun _ => ?_
  rw [Option.isNone_iff_eq_none, top_none]
  exact Decidable.not_not
theorem allG_oth : ∀ n, n ≤ 4 → ∀ i, i < n → allG (othN n i) = (allG (List.range n)).filter fun g => !decide (i ∈ g) := by
  have : ∀ n ∈ List.range 5, ∀ i ∈ List.range n, (isort leG (subs (othN n i))).filter (fun g => decide (0 < g.length)) = ((isort leG (subs (List.range n))).filter (fun g => decide (0 < g.length))).filter fun g => !decide (i ∈ g) := by decide +kernel
  intro n hn i hi
  have := this n (List.mem_range.mpr (by omega)) i (List.mem_range.mpr hi)
  rw [allG_eq, allG_eq]
  exact this
theorem small_find {ws : List Win} (h4 : ws.length ≤ 4) {i : Nat} (hi : i < ws.length) : smallG ws i = (allG (List.range ws.length)).find? fun g => !decide (i ∈ g) && coverW ws g i := by
  unfold smallG
  rw [allG_oth _ h4 i hi, List.find?_filter]
  congr 1
  funext a
  rw [Bool.eq_iff_iff]
  simp
theorem subs_self {ns : List Nat} : ns ∈ subs ns := by
  have key : ∀ (ns pre : List Nat) (f : List (List Nat)), pre ∈ f → (pre ++ ns) ∈ ns.foldl (fun found n => found ++ found.map (· ++ [n])) f := by
    intro ns
    induction ns with
    | nil => intro pre f h; simpa using h
    | cons n ns ih =>
      intro pre f h
      rw [List.foldl_cons]
      have := ih (pre ++ [n]) (f ++ f.map (· ++ [n])) (List.mem_append.mpr (.inr (List.mem_map.mpr ⟨pre, h, rfl⟩)))
      simpa using this
  have := key ns [] [[]] (by simp)
  simpa [subs] using this
theorem allG_self {ns : List Nat} (h : ns ≠ []) : ns ∈ allG ns := by
  rw [allG_eq, List.mem_filter]
  exact ⟨(isort_perm (le := leG) (subs ns)).mem_iff.mpr subs_self, decide_eq_true (List.length_pos_iff.mpr h)⟩
theorem small_none {ws : List Win} (hw : Wins ws) {i : Nat} (hi : i < ws.length) : smallG ws i = none ↔ canH ws i = false := by
  unfold smallG
  rw [List.find?_eq_none]
  constructor
  · intro h
    rw [Bool.eq_false_iff]
    intro c
    by_cases e : othN ws.length i = []
    · unfold canH at c
      rw [e] at c
      cases q : cellsW (wAt ws i) with
      | nil => exact cellsW_ne (hw.at_ hi) q
      | cons x l =>
        obtain ⟨j, hj, _⟩ := cov_iff.mp c x (by rw [q]; simp)
        cases hj
    · exact h _ (allG_self e) c
  · intro h g hg c
    have := cov_mono (fun j hj => allG_in hg hj) c
    rw [Bool.eq_false_iff] at h
    exact h this
/-! ### orders that show a group whole -/
theorem whole_iff {ws : List Win} {os : List Nat} {i : Nat} : wholeW ws os i = true ↔ ∀ c ∈ cellsW (wAt ws i), topW ws os c.1 c.2 = some i := by
  unfold wholeW
  rw [seenW_eq, decide_eq_true_eq, List.filter_eq_self]
  simp
theorem shown_mem {ws : List Win} {os : List Nat} {i : Nat} : i ∈ shownL ws os ↔ i < ws.length ∧ wholeW ws os i = true := by
  unfold shownL
  rw [List.mem_filter, List.mem_range, whole_len]
theorem ov_cell {a b : Win} (ha : a.Ok) (hb : b.Ok) : hasOv a b = true ↔ ∃ c ∈ cellsW a, inW b c.1 c.2 = true := by
  constructor
  · intro h
    have ok := ov_ok ha hb h
    cases q : cellsW (ovW a b) with
    | nil => exact absurd q (cellsW_ne ok)
    | cons c l =>
      have hc : c ∈ cellsW (ovW a b) := by rw [q]; simp
      have hin := cell_in hc
      rw [← inW_ov, Bool.and_eq_true] at hin
      refine ⟨c, ?_, hin.2⟩
      rw [cellsW_eq, List.mem_filter] at hc ⊢
      exact ⟨hc.1, hin.1⟩
  · rintro ⟨c, hc, h⟩
    refine Decidable.byContradiction fun n => ?_
    have := no_ov n c.1 c.2
    rw [← inW_ov, cell_in hc, h] at this
    cases this
theorem ov_symm {a b : Win} : hasOv a b = hasOv b a := by
  rw [Bool.eq_iff_iff, hasOv_iff, hasOv_iff]
  omega
/-- no two of the group overlap -/
def Apt (ws : List Win) (g : List Nat) : Prop := ∀ a ∈ g, ∀ b ∈ g, a ≠ b → hasOv (wAt ws a) (wAt ws b) = false
theorem apart_iff {ws : List Win} {g : List Nat} (hn : g.Nodup) : apart ws g = true ↔ Apt ws g := by
  unfold apart Apt
  rw [List.all_eq_true]
  simp only [List.mem_range, Bool.not_eq_true', List.any_eq_false]
  have ga : ∀ p, (h : p < g.length) → gAt g p = g[p] := fun p h => by
    unfold gAt
    rw [List.getD_eq_getElem?_getD, List.getElem?_eq_getElem h]; rfl
  constructor
  · intro h a ha b hb ne
    obtain ⟨p, hp, rfl⟩ := List.mem_iff_getElem.mp ha
    obtain ⟨q, hq, rfl⟩ := List.mem_iff_getElem.mp hb
    have key : ∀ p q, (hp : p < g.length) → (hq : q < g.length) → p < q → hasOv (wAt ws g[q]) (wAt ws g[p]) = false := fun p q hp hq hpq => by
      have := h q hq g[p] (by
        rw [List.mem_iff_getElem]
        refine ⟨p, by rw [List.length_take]; omega, ?_⟩
        rw [List.getElem_take])
      rw [ga q hq] at this
      exact Bool.eq_false_iff.mpr this
    rcases Nat.lt_trichotomy p q with l | l | l
    · rw [ov_symm]; exact key p q hp hq l
    · subst l; exact absurd rfl ne
    · exact key q p hq hp l
  · intro h p hp o ho
    obtain ⟨q, hq, rfl⟩ := List.mem_iff_getElem.mp ho
    rw [List.getElem_take, ga p hp]
    rw [List.length_take] at hq
    rw [h g[p] (List.getElem_mem hp) g[q] (List.getElem_mem (by omega)) fun e => by
      have := (List.getElem_inj hn).mp e
      omega]
    simp
theorem shown_iff {ws : List Win} (hw : Wins ws) {g : List Nat} (hn : g.Nodup) (hl : ∀ j ∈ g, j < ws.length) : apart ws g = true ↔ ∃ os ∈ ordsK ws.length ws.length, ∀ j ∈ g, j ∈ shownL ws os := by
  rw [apart_iff hn]
  constructor
  · intro h
    refine ⟨restN ws.length g ++ g, ordsK_ord.mpr (ord_rg hn hl), fun j hj => shown_mem.mpr ⟨hl j hj, whole_iff.mpr fun c hc => ?_⟩⟩
    obtain ⟨k, h1, h2, h3⟩ := filt_last (a := restN ws.length g) hj (p := fun i => inW (wAt ws i) c.1 c.2) (cell_in hc)
    unfold topW
    rw [h1]
    congr 1
    refine Decidable.byContradiction fun ne => ?_
    have := h j hj k h2 fun e => ne e.symm
    rw [Bool.eq_false_iff] at this
    exact this ((ov_cell (hw.at_ (hl j hj)) (hw.at_ (hl k h2))).mpr ⟨c, hc, h3⟩)
  · rintro ⟨os, ho, hs⟩ a ha b hb ne
    rw [Bool.eq_false_iff]
    intro ov
    obtain ⟨c, hc, hb'⟩ := (ov_cell (hw.at_ (hl a ha)) (hw.at_ (hl b hb))).mp ov
    have h1 := whole_iff.mp (shown_mem.mp (hs a ha)).2 c hc
    have h2 := whole_iff.mp (shown_mem.mp (hs b hb)).2 c (by
      rw [cellsW_eq, List.mem_filter] at hc ⊢
      exact ⟨hc.1, hb'⟩)
    rw [h1] at h2
    exact ne (Option.some.inj h2)
/-! ### lengths -/
theorem allG_facts : ∀ n, n ≤ 4 → (allG (List.range n)).Pairwise (fun g h => g.length ≤ h.length) ∧ ∀ g ∈ allG (List.range n), g.Pairwise (· < ·) ∧ g ≠ [] ∧ g.length ≤ 4 := by
  have : ∀ n ∈ List.range 5, ((isort leG (subs (List.range n))).filter (fun g => decide (0 < g.length))).Pairwise (fun g h => g.length ≤ h.length) ∧ ∀ g ∈ (isort leG (subs (List.range n))).filter (fun g => decide (0 < g.length)), g.Pairwise (· < ·) ∧ g ≠ [] ∧ g.length ≤ 4 := by decide +kernel
  intro n hn
  rw [allG_eq]
  exact this n (List.mem_range.mpr (by omega))
theorem allG_grp {n : Nat} (hn : n ≤ 4) {g : List Nat} (h : g ∈ allG (List.range n)) : IsGrp n g := by
  obtain ⟨a, b, c⟩ := (allG_facts n hn).2 g h
  exact ⟨b, fun j hj => List.mem_range.mp (allG_in h hj), a, by omega⟩
theorem IsGrp.nodup {n : Nat} {g : List Nat} (h : IsGrp n g) : g.Nodup := h.up.imp fun {a b} (l : a < b) (e : a = b) => by omega
theorem subs_filter {ns : List Nat} (p : Nat → Bool) : ns.filter p ∈ subs ns := by
  have key : ∀ (ns pre : List Nat) (f : List (List Nat)), pre ∈ f → (pre ++ ns.filter p) ∈ ns.foldl (fun found n => found ++ found.map (· ++ [n])) f := by
    intro ns
    induction ns with
    | nil => intro pre f h; simpa using h
    | cons n ns ih =>
      intro pre f h
      rw [List.foldl_cons]
      by_cases q : p n = true
      · have := ih (pre ++ [n]) (f ++ f.map (· ++ [n])) (List.mem_append.mpr (.inr (List.mem_map.mpr ⟨pre, h, rfl⟩)))
        rw [List.filter_cons_of_pos q]
        simpa using this
      · have := ih pre (f ++ f.map (· ++ [n])) (List.mem_append.mpr (.inl h))
        rw [List.filter_cons_of_neg q]
        exact this
  have := key ns [] [[]] (by simp)
  simpa [subs] using this
theorem allG_filter {ns : List Nat} (p : Nat → Bool) (h : ns.filter p ≠ []) : ns.filter p ∈ allG ns := by
  rw [allG_eq, List.mem_filter]
  exact ⟨(isort_perm (le := leG) (subs ns)).mem_iff.mpr (subs_filter p), decide_eq_true (List.length_pos_iff.mpr h)⟩
/-- the last of a list sorted by length is the longest -/
theorem lastLen_max {l : List (List Nat)} (h : l.Pairwise fun g h => g.length ≤ h.length) : ∀ g ∈ l, g.length ≤ lastLen l := by
  rcases List.eq_nil_or_concat l with rfl | ⟨m, z, rfl⟩
  · simp
  · intro g hg
    have : lastLen (m.concat z) = z.length := by unfold lastLen; simp
    rw [this]
    rw [List.concat_eq_append] at *
    rcases List.mem_append.mp hg with q | q
    · exact (List.pairwise_append.mp h).2.2 g q z (by simp)
    · rw [List.mem_singleton.mp q]; exact Nat.le_refl _
theorem lastLen_mem {l : List (List Nat)} (h : l ≠ []) : ∃ g ∈ l, g.length = lastLen l := by
  rcases List.eq_nil_or_concat l with rfl | ⟨m, z, rfl⟩
  · exact absurd rfl h
  · exact ⟨z, by simp, by unfold lastLen; simp⟩
theorem head_shown {ws : List Win} : headLen (shownG ws) = lastLen (apartG ws) := by
  unfold shownG
  have hm : ∀ g ∈ isort leN ((apartG ws).filter fun g => decide (g.length = lastLen (apartG ws))), g.length = lastLen (apartG ws) := fun g hg => by
    have := (isort_perm (le := leN) _).mem_iff.mp hg
    simpa using (List.mem_filter.mp this).2
  have hn : apartG ws ≠ [] → isort leN ((apartG ws).filter fun g => decide (g.length = lastLen (apartG ws))) ≠ [] := fun h e => by
    obtain ⟨g, h1, h2⟩ := lastLen_mem h
    have : g ∈ isort leN ((apartG ws).filter fun g => decide (g.length = lastLen (apartG ws))) := (isort_perm (le := leN) _).mem_iff.mpr (List.mem_filter.mpr ⟨h1, decide_eq_true h2⟩)
    rw [e] at this
    cases this
  generalize isort leN ((apartG ws).filter fun g => decide (g.length = lastLen (apartG ws))) = sg at *
  cases sg with
  | nil =>
    have : apartG ws = [] := Decidable.byContradiction fun h => hn h rfl
    rw [this]; rfl
  | cons g l => exact hm g (by simp)
theorem hidB_iff {ws : List Win} {g : List Nat} (hn : g.Nodup) (hl : ∀ j ∈ g, j < ws.length) : hidB ws g = true ↔ ∃ os ∈ ordsK ws.length ws.length, ∀ j ∈ g, j ∈ hiddenL ws os := by
  unfold hidB
  rw [List.all_eq_true]
  constructor
  · intro h
    exact ⟨g ++ restN ws.length g, ordsK_ord.mpr (ord_gr hn hl), fun j hj => hid_mem.mpr ⟨hl j hj, hid_of_cover h hj⟩⟩
  · rintro ⟨os, ho, h⟩ i hi
    have c := cover_of_hid (ordsK_ord.mp ho) (h i hi)
    refine cov_mono (fun j hj => ?_) c
    obtain ⟨a, b⟩ := rest_mem.mp hj
    exact rest_mem.mpr ⟨a, fun e => b (h j e)⟩
theorem nodup_le {l m : List Nat} (h : l.Nodup) (s : ∀ x ∈ l, x ∈ m) : l.length ≤ m.length := nd_le h s
theorem mostH_max {ws : List Win} (h4 : ws.length ≤ 4) : (∃ os ∈ ordsK ws.length ws.length, (hiddenL ws os).length = mostH ws) ∧ ∀ os ∈ ordsK ws.length ws.length, (hiddenL ws os).length ≤ mostH ws := by
  have up : ∀ os ∈ ordsK ws.length ws.length, (hiddenL ws os).length ≤ mostH ws := fun os ho => by
    by_cases e : hiddenL ws os = []
    · rw [e]; exact Nat.zero_le _
    · have hm : hiddenL ws os ∈ allG (List.range ws.length) := allG_filter _ e
      have hg := allG_grp h4 hm
      have hb : hidB ws (hiddenL ws os) = true := (hidB_iff hg.nodup hg.lt).mpr ⟨os, ho, fun j hj => hj⟩
      have sorted := (allG_facts ws.length h4).1
      unfold mostH
      cases q : (allG (List.range ws.length)).reverse.find? (hidB ws) with
      | none =>
        exact absurd hb (List.find?_eq_none.mp q _ (List.mem_reverse.mpr hm))
      | some g =>
        rw [List.find?_eq_some_iff_append] at q
        obtain ⟨_, as, bs, e1, e2⟩ := q
        have sr : (allG (List.range ws.length)).reverse.Pairwise (fun a b => b.length ≤ a.length) := List.pairwise_reverse.mpr sorted
        rw [e1] at sr
        have hm' : hiddenL ws os ∈ as ++ g :: bs := by rw [← e1]; exact List.mem_reverse.mpr hm
        rcases List.mem_append.mp hm' with m | m
        · have := e2 _ m
          rw [hb] at this
          cases this
        · rcases List.mem_cons.mp m with m | m
          · rw [m]; exact Nat.le_refl _
          · exact (List.pairwise_cons.mp (List.pairwise_append.mp sr).2.1).1 _ m
  refine ⟨?_, up⟩
  unfold mostH at up ⊢
  cases q : (allG (List.range ws.length)).reverse.find? (hidB ws) with
  | none =>
    rw [q] at up
    have ho : List.range ws.length ∈ ordsK ws.length ws.length := ordsK_ord.mpr (List.Perm.refl _)
    exact ⟨_, ho, Nat.le_zero.mp (up _ ho)⟩
  | some g =>
    rw [q] at up
    have hm := List.mem_reverse.mp (List.mem_of_find?_eq_some q)
    have hg := allG_grp h4 hm
    obtain ⟨os, ho, hs⟩ := (hidB_iff hg.nodup hg.lt).mp (List.find?_some q)
    exact ⟨os, ho, Nat.le_antisymm (up os ho) (nodup_le hg.nodup hs)⟩
theorem max_nats {l : List Nat} {m : Nat} (hm : m ∈ l) (h : ∀ x ∈ l, x ≤ m) : maxD [.lst (l.map nD)] = some (nD m) := by
  have a : asInts (l.map nD) = some (l.map fun n : Nat => (n : Int)) := by
    clear hm h
    induction l with
    | nil => rfl
    | cons n l ih =>
      show (asInts (l.map nD)).map ((n : Int) :: ·) = _
      rw [ih]; rfl
  have ne : (l.map fun n : Nat => (n : Int)) ≠ [] := by
    cases l with
    | nil => cases hm
    | cons a l => simp
  obtain ⟨h1, h2⟩ := maxI_ok ne
  obtain ⟨k, hk, e⟩ := List.mem_map.mp h1
  have h3 := h2 (m : Int) (List.mem_map.mpr ⟨m, hm, rfl⟩)
  have h4 := h k hk
  have e2 : maxI (l.map fun n : Nat => (n : Int)) = (m : Int) := by omega
  show (match asInts (l.map nD) with
    | some (n :: ns) => some (D.int (maxI (n :: ns)))
    | _ => none) = _
  rw [a]
  cases q : (l.map fun n : Nat => (n : Int)) with
  | nil => exact absurd q ne
  | cons n ns =>
    rw [q] at e2
    show some (D.int (maxI (n :: ns))) = _
    rw [e2]; rfl

theorem pl_optG (o : Option (List Nat)) : plD 1 (optG o) = true := by
  cases o with
  | none => exact pl_non 1
  | some g => exact pl_natsT g
theorem isN_optG (o : Option (List Nat)) : isNon (optG o) = o.isNone := by cases o <;> rfl
theorem nr_optG (o : Option (List Nat)) : noRaw (optG o) = true := by cases o <;> rfl
theorem in_gs (g : List Nat) (l : List (List Nat)) : inD (natsT g) (.lst (l.map natsT)) = some (decide (g ∈ l)) := in_lst (pl_64 (pl_natsT g)) (pl_64 (pl_gs l)) (by
  rw [List.mem_map]
  constructor
  · rintro ⟨a, ha, e⟩
    have : a = g := (map_inj fun _ _ => nD_inj).mp (by injection e)
    rw [← this]; exact ha
  · exact fun h => ⟨g, h, rfl⟩)
theorem cut_last (xs : List D) : cutD xs none (some (-1)) = xs.dropLast := by
  unfold cutD
  rw [HT.sIx_none, List.dropLast_eq_take]
  have : HT.sIx xs.length xs.length (some (-1)) = xs.length - 1 := by
    unfold HT.sIx
    simp
    omega
  rw [this]; simp
def grid' : List (Int × Int) := (List.range 12).flatMap fun x => (List.range 12).map fun y => (((x : Nat) : Int), ((y : Nat) : Int))

/-! ### comprehensions, evaluated by simp -/
def lcR {α : Type} (f : α → R (Option D)) : List α → R (List D)
  | [] => .ok []
  | x :: xs => match f x with
    | .ok (some y) => (lcR f xs).map (y :: ·)
    | .ok none => lcR f xs
    | _ => .bad
def lcStep (t : EnvD → R Bool) (f : EnvD → R D) : Option EnvD → R (Option D)
  | none => .bad
  | some e => (t e).bind fun k => if k = true then (f e).map some else .ok none
theorem lcStep_some (t : EnvD → R Bool) (f : EnvD → R D) (e : EnvD) : lcStep t f (some e) = (t e).bind fun k => if k = true then (f e).map some else .ok none := nr rfl
@[simp] theorem lcStep_yes (f : EnvD → R D) (e : EnvD) : lcStep yesF f (some e) = (f e).map some := nr rfl
theorem u_lcL0 {α : Type} {p : Pat} {vs : List Nat} {t : EnvD → R Bool} {f : EnvD → R D} {env : EnvD} {enc : α → D} : ∀ xs : List α, lcL p vs t f (xs.map enc) env = lcR (fun x => lcStep t f (bindP p (enc x) (wipeE env vs))) xs
  | [] => rfl
  | x :: xs => by
    have ih := u_lcL0 (p := p) (vs := vs) (t := t) (f := f) (env := env) (enc := enc) xs
    simp only [List.map_cons, lcL, lcR]
    cases q : bindP p (enc x) (wipeE env vs) with
    | none => rfl
    | some e =>
      simp only [lcStep_some]
      cases q2 : t e with
      | ok k =>
        cases k with
        | true =>
          simp only [e_bind, if_true]
          cases q3 : f e with
          | ok y => simp only [e_map, ih]
          | err c => rfl
          | bad => rfl
        | false => simp only [e_bind, Bool.false_eq_true, if_false, ih]
      | err c => rfl
      | bad => rfl
theorem lcR_congr {α : Type} {f g : α → R (Option D)} {xs : List α} (h2 : ∀ x, x ∈ xs → f x = g x) : lcR f xs = lcR g xs := by
  induction xs with
  | nil => rfl
  | cons x xs ih => simp only [lcR, h2 x (by simp), ih fun y hy => h2 y (by simp [hy])]
theorem u_lcL {α : Type} [DecidableEq α] {p : Pat} {vs : List Nat} {t : EnvD → R Bool} {f : EnvD → R D} {env : EnvD} {enc : α → D} (xs : List α) : lcL p vs t f (xs.map enc) env = lcR (fun x => if x ∈ xs then lcStep t f (bindP p (enc x) (wipeE env vs)) else .bad) xs := by
  rw [u_lcL0]
  exact lcR_congr fun x hx => by rw [if_pos hx]
theorem lcR_all0 {α : Type} (F : α → D) : ∀ xs : List α, lcR (fun x => R.ok (some (F x))) xs = .ok (xs.map F)
  | [] => rfl
  | x :: xs => by simp only [lcR, lcR_all0 F xs, e_map, List.map_cons]
theorem lcR_if0 {α : Type} (P : α → Prop) [∀ x, Decidable (P x)] (F : α → D) : ∀ xs : List α, lcR (fun x => if P x then R.ok (some (F x)) else R.ok none) xs = .ok ((xs.filter fun x => decide (P x)).map F)
  | [] => rfl
  | x :: xs => by
    by_cases h : P x
    · simp only [lcR, h, if_true, lcR_if0 P F xs, e_map, decide_true, List.filter_cons_of_pos, List.map_cons]
    · simp only [lcR, h, if_false, lcR_if0 P F xs]
      rw [List.filter_cons_of_neg (by simpa using h)]
section
variable {α : Type} (C : α → Prop) [∀ x, Decidable (C x)] (P : α → Prop) [∀ x, Decidable (P x)] (F : α → D) {xs : List α}
theorem lcR_all (h : ∀ x, x ∈ xs → C x) : lcR (fun x => if C x then R.ok (some (F x)) else .bad) xs = .ok (xs.map F) := by
  rw [lcR_congr (g := fun x => R.ok (some (F x))) fun x hx => by rw [if_pos (h x hx)], lcR_all0]
theorem lcR_if (h : ∀ x, x ∈ xs → C x) : lcR (fun x => if C x then (if P x then R.ok (some (F x)) else R.ok none) else .bad) xs = .ok ((xs.filter fun x => decide (P x)).map F) := by
  rw [lcR_congr (g := fun x => if P x then R.ok (some (F x)) else R.ok none) fun x hx => by rw [if_pos (h x hx)], lcR_if0]
theorem lcR_ifn (h : ∀ x, x ∈ xs → C x) : lcR (fun x => if C x then (if P x then R.ok none else R.ok (some (F x))) else .bad) xs = .ok ((xs.filter fun x => !decide (P x)).map F) := by
  rw [lcR_congr (g := fun x => if ¬ P x then R.ok (some (F x)) else R.ok none) fun x hx => by rw [if_pos (h x hx)]; by_cases q : P x <;> simp [q], lcR_if0]
  congr 2
  apply List.filter_congr
  intro x _
  simp
end

/-! ### lists of lists, joined -/
def lc2R {α : Type} (f : α → R (List D)) : List α → R (List D)
  | [] => .ok []
  | x :: xs => (f x).bind fun ys => (lc2R f xs).map (ys ++ ·)
def lc2Step (t : EnvD → R Bool) (src1 : EnvD → R (List D)) (p1 : Pat) (vs1 : List Nat) (t1 : EnvD → R Bool) (f : EnvD → R D) : Option EnvD → R (List D)
  | none => .bad
  | some e => (noErr (t e)).bind fun k => if k = true then (noErr (src1 e)).bind fun ds1 => lcL p1 vs1 t1 f ds1 e else .ok []
@[simp] theorem noErr_ok' {α : Type} (a : α) : noErr (R.ok a) = .ok a := nr rfl
@[simp] theorem lc2Step_some (t : EnvD → R Bool) (src1 : EnvD → R (List D)) (p1 : Pat) (vs1 : List Nat) (t1 : EnvD → R Bool) (f : EnvD → R D) (e : EnvD) : lc2Step t src1 p1 vs1 t1 f (some e) = (noErr (t e)).bind fun k => if k = true then (noErr (src1 e)).bind fun ds1 => lcL p1 vs1 t1 f ds1 e else .ok [] := nr rfl
@[simp] theorem yesF_ok (e : EnvD) : yesF e = .ok true := nr rfl
theorem bind_assoc' {α β γ : Type} (r : R α) (f : α → R β) (g : β → R γ) : (r.bind f).bind g = r.bind fun x => (f x).bind g := by cases r <;> rfl
theorem u_lc2L0 {α : Type} {p p1 : Pat} {vs vs1 : List Nat} {t t1 : EnvD → R Bool} {f : EnvD → R D} {src1 : EnvD → R (List D)} {env : EnvD} {enc : α → D} : ∀ xs : List α, lc2L p vs t src1 p1 vs1 t1 f (xs.map enc) env = lc2R (fun x => lc2Step t src1 p1 vs1 t1 f (bindP p (enc x) (wipeE env vs))) xs
  | [] => rfl
  | x :: xs => by
    have ih := u_lc2L0 (p := p) (p1 := p1) (vs := vs) (vs1 := vs1) (t := t) (t1 := t1) (f := f) (src1 := src1) (env := env) (enc := enc) xs
    have m0 : ∀ r : R (List D), r.map (([] : List D) ++ ·) = r := fun r => by cases r <;> simp [R.map]
    simp only [List.map_cons, lc2L, lc2R]
    cases q : bindP p (enc x) (wipeE env vs) with
    | none => rfl
    | some e =>
      simp only [lc2Step_some, bind_assoc']
      congr 1
      funext k
      cases k with
      | true => simp only [if_true, bind_assoc', ih]
      | false => simp only [Bool.false_eq_true, if_false, e_bind, ih, m0]
theorem lc2R_congr {α : Type} {f g : α → R (List D)} {xs : List α} (h2 : ∀ x, x ∈ xs → f x = g x) : lc2R f xs = lc2R g xs := by
  induction xs with
  | nil => rfl
  | cons x xs ih => simp only [lc2R, h2 x (by simp), ih fun y hy => h2 y (by simp [hy])]
theorem u_lc2L {α : Type} [DecidableEq α] {p p1 : Pat} {vs vs1 : List Nat} {t t1 : EnvD → R Bool} {f : EnvD → R D} {src1 : EnvD → R (List D)} {env : EnvD} {enc : α → D} (xs : List α) : lc2L p vs t src1 p1 vs1 t1 f (xs.map enc) env = lc2R (fun x => if x ∈ xs then lc2Step t src1 p1 vs1 t1 f (bindP p (enc x) (wipeE env vs)) else .bad) xs := by
  rw [u_lc2L0]
  exact lc2R_congr fun x hx => by rw [if_pos hx]
theorem lc2R_all {α : Type} (C : α → Prop) [∀ x, Decidable (C x)] (F : α → List D) {xs : List α} (h : ∀ x, x ∈ xs → C x) : lc2R (fun x => if C x then .ok (F x) else .bad) xs = .ok (xs.flatMap F) := by
  induction xs with
  | nil => rfl
  | cons x xs ih => simp only [lc2R, if_pos (h x (by simp)), ih fun y hy => h y (by simp [hy]), e_bind, e_map, List.flatMap_cons]
/-! ### all orders -/
@[simp] theorem bindP_tp (is : List Nat) (ds : List D) (e : EnvD) : bindP (.tp is) (.tup ds) e = if ds.length = is.length then some (sets is ds e) else none := nr rfl
theorem add_one (o : List Nat) (j : Nat) (h : o.length ≤ 100) : addD (natsT o) (.tup [nD j]) = some (natsT (o ++ [j])) := by
  show (if small ((o.map nD).length + 1) = true then some (D.tup (o.map nD ++ [nD j])) else none) = _
  rw [if_pos (small_le (by rw [List.length_map]; omega))]
  simp [natsT]
theorem all_ord_step {n k : Nat} (hn : n ≤ 6) (hk : k < 6) (s0 s2 s3 s4 : Sl) : lc2F (.nm 3) [3, 4] yesF (appL asRng1 (consF (getB 0) nilF)) (.nm 4) [4] (bin notInD (getB 4) (getB 3)) (bin addD (getV 3) (tupF (consF (getV 4) nilF))) (seqF (getV 1)) [.val (nD n), .val (.lst ((ordsK n k).map natsT)), s2, s3, s4] = .ok ((ordsK n (k + 1)).map natsT) := by
  have r : asRng1 [nD n] = some ((List.range n).map nD) := asRng1_nat (by omega)
  have st : ∀ o : List Nat, (((List.range n).filter fun j => !decide (j ∈ o)).map fun j => natsT (o ++ [j])).length ≤ 6 := fun o => by
    rw [List.length_map]
    exact Nat.le_trans (List.length_filter_le _ _) (by simpa using hn)
  have ol := ordsK_len hn k (by omega)
  have pw : 6 ^ k ≤ 7776 := Nat.pow_le_pow_right (i := k) (j := 5) (by omega) (by omega)
  have fl := len_le 6 (ordsK n k) _ fun o _ => st o
  have hm : ∀ o ∈ ordsK n k, o.length ≤ 100 := fun o ho => by
    have := (ordsK_mem.mp ho).2.2
    omega
  have e : lc2L (.nm 3) [3, 4] yesF (appL asRng1 (consF (getB 0) nilF)) (.nm 4) [4] (bin notInD (getB 4) (getB 3)) (bin addD (getV 3) (tupF (consF (getV 4) nilF))) ((ordsK n k).map natsT) [.val (nD n), .val (.lst ((ordsK n k).map natsT)), s2, s3, s4] =
      .ok ((ordsK n k).flatMap fun o => ((List.range n).filter fun j => !decide (j ∈ o)).map fun j => natsT (o ++ [j])) := by
    rw [u_lc2L0, lc2R_congr (g := fun o => .ok (((List.range n).filter fun j => !decide (j ∈ o)).map fun j => natsT (o ++ [j]))) fun o ho => ?_]
    · have := lc2R_all (fun o : List Nat => True) (fun o => ((List.range n).filter fun j => !decide (j ∈ o)).map fun j => natsT (o ++ [j])) (xs := ordsK n k) fun _ _ => trivial
      simpa using this
    · have ad := add_one o
      have hl := hm o ho
      simp only [e_bindN, lc2Step_some, yesF_ok, noErr_ok', e_bind, if_true, u_appL, u_cons, e_wipeS, e_wipe0, e_set0, e_setS, e_getB0, u_nil, e_map, r, e_some]
      exact lcL_ok (fun j => !decide (j ∈ o)) (fun j => natsT (o ++ [j])) fun j _ => ⟨_, rfl, by simp [notIn_natT], fun _ => by simp [ad j hl]⟩
  have sm : small ((ordsK n k).flatMap fun o => ((List.range n).filter fun j => !decide (j ∈ o)).map fun j => natsT (o ++ [j])).length = true := small_le (by
    have : (ordsK n k).length ≤ 7776 := Nat.le_trans ol pw
    clear ol pw
    omega)
  have eq : (ordsK n k).flatMap (fun o => ((List.range n).filter fun j => !decide (j ∈ o)).map fun j => natsT (o ++ [j])) = (ordsK n (k + 1)).map natsT := by
    show _ = (extO n (ordsK n k)).map natsT
    unfold extO
    rw [List.map_flatMap]
    simp only [List.map_map, Function.comp_def]
  rw [eq] at e sm
  rw [u_lc2]
  simp only [u_seqF, e_getVs, e_getV0, e_bind, u_lst', e_some, e, sm, if_true]
theorem s_all_orders {n : Nat} (hn : n ≤ 6) : fD_all_orders [nD n] = .ok (.lst ((ordsK n n).map natsT)) := by
  have r : asRng1 [nD n] = some ((List.range n).map nD) := asRng1_nat (by omega)
  obtain ⟨e', h1, s2, rfl⟩ := forL_ind (p := .nm 2) (G := B_all_orders_0) (enc := nD) (xs := List.range n) (e := [.val (nD n), .val (.lst ([[]].map natsT)), .no, .no, .no])
    (fun pre e => ∃ s2, e = [.val (nD n), .val (.lst ((ordsK n pre.length).map natsT)), s2, .no, .no]) ⟨_, rfl⟩ (by
      rintro pre x suf hq e ⟨s2, rfl⟩
      have hl : pre.length < 6 := by
        have := congrArg List.length hq
        simp at this; omega
      have st := all_ord_step hn hl (.val (nD n)) (.val (nD x)) .no .no
      refine ⟨_, rfl, [.val (nD n), .val (.lst ((ordsK n (pre.length + 1)).map natsT)), .val (nD x), .no, .no], .inl ?_, .val (nD x), by simp⟩
      simp only [B_all_orders_0, u_set, u_mkL, e_set0, e_setS, st, e_map, e_bindS])
  rw [List.length_range] at h1
  have emp : natsT [] = .tup [] := rfl
  simp [emp] at h1
  simp [fD_all_orders, G_all_orders, r, h1]

/-! ### what lies above, minimizing -/
def abv (os : List Nat) (i : Nat) : List Nat := os.drop (os.idxOf i + 1)
theorem idx_map (i : Nat) : ∀ os : List Nat, (os.map fun n => ((n : Nat) : Int)).idxOf ((i : Nat) : Int) = os.idxOf i
  | [] => rfl
  | o :: os => by
    rw [List.map_cons, List.idxOf_cons, List.idxOf_cons, idx_map i os]
    have : (((o : Nat) : Int) == ((i : Nat) : Int)) = (o == i) := by rw [Bool.eq_iff_iff, beq_iff_eq, beq_iff_eq]; omega
    rw [this]
theorem tix_nats {os : List Nat} {i : Nat} (h : i ∈ os) : tixD (os.map nD) [nD i] = some (nD (os.idxOf i)) := by
  have e : os.map nD = (os.map fun n => ((n : Nat) : Int)).map D.int := by rw [List.map_map]; rfl
  have m : ((i : Nat) : Int) ∈ os.map fun n => ((n : Nat) : Int) := List.mem_map.mpr ⟨i, h, rfl⟩
  show ((asInts (os.map nD)).bind fun ns => if ((i : Nat) : Int) ∈ ns then some (D.int (ns.idxOf ((i : Nat) : Int) : Nat)) else none) = _
  rw [e, asInts_map]
  show (if ((i : Nat) : Int) ∈ _ then _ else _) = _
  rw [if_pos m, idx_map]
  rfl
theorem met_tix {fo : EnvD → R D} {fs : EnvD → R (List D)} {env : EnvD} {os : List Nat} {i : Nat} (h1 : fo env = .ok (natsT os)) (h2 : fs env = .ok [nD i]) (h : i ∈ os) : metT tixD fo fs env = .ok (nD (os.idxOf i)) := by
  rw [u_metT h1 h2, tix_nats h]; rfl
theorem top_regionG {ws : List Win} {os : List Nat} (h : ∀ j ∈ os, j < ws.length) (x y : Int) : (os.filter (· ∈ region ws x y)).getLast? = topW ws os x y := by
  unfold topW
  congr 1
  apply List.filter_congr
  intro i hi
  rw [Bool.eq_iff_iff]
  simp [region, h i hi]
/-- the order without g -/
def wout (os g : List Nat) : List Nat := os.filter fun j => !decide (j ∈ g)
def szs (ws : List Win) (os g : List Nat) : List Nat := (List.range ws.length).map fun i => if i ∈ g then 0 else (seenW ws (wout os g) i).length
theorem len_cells (l : List (Int × Int)) : lenD [.lst (l.map cellD)] = some (nD l.length) := by
  have : lenD [.lst (l.map cellD)] = some (.int (l.map cellD).length) := rfl
  rw [this, List.length_map]; rfl
/-- ascending numbers -/
structure IsSm (n : Nat) (g : List Nat) : Prop where
  up : g.Pairwise (· < ·)
  lt : ∀ j ∈ g, j < n
theorem IsGrp.sm {n : Nat} {g : List Nat} (h : IsGrp n g) : IsSm n g := ⟨h.up, h.lt⟩
theorem szs_at {ws : List Win} {os g : List Nat} {i : Nat} (hi : i < ws.length) : ixD (.lst ((szs ws os g).map nD)) (nD i) = some (nD (if i ∈ g then 0 else (seenW ws (wout os g) i).length)) := by
  refine (ix_nat ?_).2
  simp [szs, hi]
def freedL (ws : List Win) (os : List Nat) (i : Nat) : List Nat := (List.range ws.length).filter fun o => decide ((if o ∈ ([] : List Nat) then 0 else (seenW ws (wout os []) o).length) < (if o ∈ [i] then 0 else (seenW ws (wout os [i]) o).length))
def dsN (ks : List Nat) : Sl := .ownd false (ks.map nD) (ks.map fun _ => .bl true)
/-- what lies above a window of g and overlaps it -/
def upS (ws : List Win) (os g : List Nat) : List Nat := (List.range ws.length).filter fun o => g.any fun i => decide (o ∈ abv os i) && hasOv (wAt ws i) (wAt ws o)
theorem abv_in {os : List Nat} {i o : Nat} (h : o ∈ abv os i) : o ∈ os := List.mem_of_mem_drop h
def minG (ws : List Win) (os g : List Nat) : Option (List Nat) := if (g.any fun i => decide (i ∈ upS ws os g)) = true then none else some (upS ws os g)
theorem abv_len (os : List Nat) (i : Nat) : (abv os i).length ≤ os.length := by unfold abv; rw [List.length_drop]; omega
/-! ### minimizing: the plain facts -/
theorem split_idx {l : List Nat} {i : Nat} (h : i ∈ l) : l = l.take (l.idxOf i) ++ i :: abv l i := by
  have k := List.idxOf_lt_length_of_mem h
  have e : l[l.idxOf i] = i := List.getElem_idxOf k
  conv => lhs; rw [← List.take_append_drop (l.idxOf i) l, List.drop_eq_getElem_cons k, e]
  rfl
theorem abv_iff {l : List Nat} (nd : l.Nodup) {i k : Nat} : k ∈ abv l i ↔ k ∈ l ∧ l.idxOf i < l.idxOf k := by
  unfold abv
  constructor
  · intro h
    obtain ⟨t, ht, e⟩ := List.getElem_of_mem h
    rw [List.getElem_drop] at e
    refine ⟨List.mem_of_mem_drop h, ?_⟩
    rw [← e, List.Nodup.idxOf_getElem nd]
    omega
  · rintro ⟨h1, h2⟩
    have k1 := List.idxOf_lt_length_of_mem h1
    have e : l[l.idxOf k] = k := List.getElem_idxOf k1
    rw [List.mem_iff_getElem]
    refine ⟨l.idxOf k - (l.idxOf i + 1), by rw [List.length_drop]; omega, ?_⟩
    rw [List.getElem_drop]
    have : l.idxOf i + 1 + (l.idxOf k - (l.idxOf i + 1)) = l.idxOf k := by omega
    simp only [this, e]
theorem abv_ne {l : List Nat} (nd : l.Nodup) {i k : Nat} (h : k ∈ abv l i) : k ≠ i := fun e => by
  have := ((abv_iff nd).mp h).2
  rw [e] at this; omega
theorem abv_trans {l : List Nat} (nd : l.Nodup) {i j k : Nat} (h : k ∈ abv l j) (h' : j ∈ abv l i) : k ∈ abv l i := by
  have a := (abv_iff nd).mp h
  have b := (abv_iff nd).mp h'
  exact (abv_iff nd).mpr ⟨a.1, by omega⟩
theorem last_iff {l : List Nat} (nd : l.Nodup) (p : Nat → Bool) {i : Nat} : (l.filter p).getLast? = some i ↔ i ∈ l ∧ p i = true ∧ ∀ j ∈ abv l i, p j = false := by
  have core : ∀ (_ : i ∈ l) (_ : p i = true), (l.filter p).getLast? = some i ↔ ∀ j ∈ abv l i, p j = false := fun h hp => by
    have e := split_idx h
    have ef : l.filter p = (l.take (l.idxOf i)).filter p ++ i :: (abv l i).filter p := by
      conv => lhs; rw [e]
      rw [List.filter_append, List.filter_cons_of_pos hp]
    rw [ef, List.getLast?_append]
    have nf : (abv l i).filter p = [] ↔ ∀ j ∈ abv l i, p j = false := by
      rw [List.filter_eq_nil_iff]; simp
    rw [← nf]
    rcases List.eq_nil_or_concat ((abv l i).filter p) with q | ⟨m, a, q⟩
    · rw [q]; simp
    · rw [q]
      have ha : a ∈ abv l i := (List.mem_filter.mp (show a ∈ (abv l i).filter p by rw [q]; simp)).1
      have na := abv_ne nd ha
      rw [List.concat_eq_append]
      have lc : (i :: (m ++ [a])).getLast? = some a := by
        rw [← List.cons_append, List.getLast?_concat]
      simp [lc, na]
  constructor
  · intro h
    have m := List.mem_of_getLast? h
    obtain ⟨h1, h2⟩ := List.mem_filter.mp m
    exact ⟨h1, h2, (core h1 h2).mp h⟩
  · rintro ⟨h1, h2, h3⟩
    exact (core h1 h2).mpr h3
theorem wout_nil (os : List Nat) : wout os [] = os := by
  unfold wout
  rw [List.filter_eq_self]
  simp
theorem top_wout (ws : List Win) (os g : List Nat) (x y : Int) : topW ws (wout os g) x y = (os.filter fun j => inW (wAt ws j) x y && !decide (j ∈ g)).getLast? := by
  unfold topW wout
  rw [List.filter_filter]
theorem topO {ws : List Win} {os : List Nat} (nd : os.Nodup) (g : List Nat) (x y : Int) {i : Nat} : topW ws (wout os g) x y = some i ↔ i ∈ os ∧ i ∉ g ∧ inW (wAt ws i) x y = true ∧ ∀ j ∈ abv os i, j ∉ g → inW (wAt ws j) x y = false := by
  rw [top_wout, last_iff nd]
  simp only [Bool.and_eq_true, Bool.not_eq_true', decide_eq_false_iff_not, Bool.and_eq_false_iff, Bool.not_eq_false', decide_eq_true_eq]
  constructor
  · rintro ⟨h1, ⟨h2, h3⟩, h4⟩
    exact ⟨h1, h3, h2, fun j hj hg => (h4 j hj).resolve_right hg⟩
  · rintro ⟨h1, h2, h3, h4⟩
    exact ⟨h1, ⟨h3, h2⟩, fun j hj => by
      by_cases q : j ∈ g
      · exact .inr q
      · exact .inl (h4 j hj q)⟩
theorem ord_nd {n : Nat} {os : List Nat} (ho : IsOrd n os) : os.Nodup := ho.nodup_iff.mpr List.nodup_range
def gsz (ws : List Win) (os g : List Nat) (i : Nat) : Nat := (grid.filter fun c => decide (topW ws (wout os g) c.1 c.2 = some i)).length
theorem seen_wout {ws : List Win} {os : List Nat} (nd : os.Nodup) (g : List Nat) (i : Nat) : seenW ws (wout os g) i = grid.filter fun c => decide (topW ws (wout os g) c.1 c.2 = some i) := by
  rw [seenW_eq, cellsW_eq, List.filter_filter]
  apply List.filter_congr
  intro c _
  rw [Bool.eq_iff_iff, Bool.and_eq_true, decide_eq_true_eq]
  exact ⟨fun h => h.1, fun h => ⟨h, ((topO nd g c.1 c.2).mp h).2.2.1⟩⟩
/-- the size of what is seen of i without g -/
theorem szs_eq {ws : List Win} {os : List Nat} (nd : os.Nodup) (g : List Nat) (i : Nat) : (if i ∈ g then 0 else (seenW ws (wout os g) i).length) = gsz ws os g i := by
  unfold gsz
  rw [seen_wout nd]
  by_cases q : i ∈ g
  · rw [if_pos q]
    symm
    rw [List.length_eq_zero_iff, List.filter_eq_nil_iff]
    intro c _ h
    exact ((topO nd g c.1 c.2).mp (of_decide_eq_true h)).2.1 q
  · rw [if_neg q]
theorem gsz_in {ws : List Win} {os : List Nat} (nd : os.Nodup) {g : List Nat} {i : Nat} (h : i ∈ g) : gsz ws os g i = 0 := by rw [← szs_eq nd, if_pos h]
theorem szs_map {ws : List Win} {os : List Nat} (nd : os.Nodup) (g : List Nat) : szs ws os g = (List.range ws.length).map (gsz ws os g) := by
  unfold szs
  exact List.map_congr_left fun i _ => szs_eq nd g i
theorem filt_le {α : Type} {l : List α} {p q : α → Bool} (h : ∀ x ∈ l, p x = true → q x = true) : (l.filter p).length ≤ (l.filter q).length := by
  rw [← List.countP_eq_length_filter, ← List.countP_eq_length_filter]
  exact List.countP_mono_left h
theorem gsz_mono {ws : List Win} {os : List Nat} (nd : os.Nodup) {g : List Nat} {i : Nat} (h : i ∉ g) : gsz ws os [] i ≤ gsz ws os g i := by
  unfold gsz
  refine filt_le fun c _ e => ?_
  have e := (topO nd [] c.1 c.2).mp (of_decide_eq_true e)
  exact decide_eq_true ((topO nd g c.1 c.2).mpr ⟨e.1, h, e.2.2.1, fun j hj _ => e.2.2.2 j hj (by simp)⟩)
/-- each cell is counted once -/
theorem sum_ind {n : Nat} : ∀ {k : Nat}, k < n → ((List.range n).map fun i => if k = i then 1 else 0).sum = 1 := by
  induction n with
  | zero => intro k h; omega
  | succ n ih =>
    intro k h
    rw [List.range_succ, List.map_append, List.sum_append]
    by_cases q : k = n
    · subst q
      have z : ((List.range k).map fun i => if k = i then 1 else 0) = (List.range k).map fun _ => 0 := List.map_congr_left fun i hi => by
        have := List.mem_range.mp hi
        rw [if_neg (by omega)]
      rw [z]
      have : ((List.range k).map fun _ => 0).sum = 0 := by
        rw [List.map_const', List.sum_replicate_nat]; simp
      rw [this]; simp
    · rw [ih (by omega)]; simp [q]
theorem sum_cells {α : Type} (n : Nat) (f : α → Option Nat) : ∀ l : List α, (∀ x ∈ l, ∀ i, f x = some i → i < n) → ((List.range n).map fun i => (l.filter fun x => decide (f x = some i)).length).sum = (l.filter fun x => (f x).isSome).length
  | [], _ => by
    have : ((List.range n).map fun i => (([] : List α).filter fun x => decide (f x = some i)).length) = (List.range n).map fun _ => 0 := List.map_congr_left fun i _ => rfl
    rw [this, List.map_const', List.sum_replicate_nat]; simp
  | x :: l, h => by
    have ih := sum_cells n f l fun y hy => h y (by simp [hy])
    have e : ((List.range n).map fun i => ((x :: l).filter fun x => decide (f x = some i)).length) = (List.range n).map fun i => (if f x = some i then 1 else 0) + (l.filter fun x => decide (f x = some i)).length := List.map_congr_left fun i _ => by
      rw [List.filter_cons]
      by_cases q : f x = some i
      · simp [q]; omega
      · simp [q]
    have sm : ∀ (ks : List Nat) (a b : Nat → Nat), (ks.map fun i => a i + b i).sum = (ks.map a).sum + (ks.map b).sum := by
      intro ks a b
      induction ks with
      | nil => rfl
      | cons k ks ihk => simp only [List.map_cons, List.sum_cons, ihk]; omega
    rw [e, sm, ih, List.filter_cons]
    cases q : f x with
    | none =>
      have z : ((List.range n).map fun i => if (none : Option Nat) = some i then 1 else 0) = (List.range n).map fun _ => 0 := List.map_congr_left fun i _ => by simp
      rw [z, List.map_const', List.sum_replicate_nat]; simp
    | some k =>
      have hk := h x (by simp) k q
      have z : ((List.range n).map fun i => if some k = some i then 1 else 0) = (List.range n).map fun i => if k = i then 1 else 0 := List.map_congr_left fun i _ => by simp
      rw [z, sum_ind hk]; simp; omega
theorem isSome_last {α : Type} {l : List α} {p : α → Bool} : (l.filter p).getLast?.isSome = l.any p := by
  rw [Bool.eq_iff_iff, List.any_eq_true]
  cases q : (l.filter p).getLast? with
  | none =>
    rw [List.getLast?_eq_none_iff, List.filter_eq_nil_iff] at q
    simp
    intro x hx
    simpa using q x hx
  | some a =>
    have m := List.mem_filter.mp (List.mem_of_getLast? q)
    simp
    exact ⟨a, m.1, m.2⟩
theorem sum_gsz {ws : List Win} {os : List Nat} (ho : IsOrd ws.length os) (g : List Nat) : ((List.range ws.length).map (gsz ws os g)).sum = (allC (((List.range ws.length).filter fun j => !decide (j ∈ g)).map (wAt ws))).length := by
  have nd := ord_nd ho
  have e := sum_cells ws.length (fun c : Int × Int => topW ws (wout os g) c.1 c.2) grid fun c _ i h => ho.lt ((topO nd g c.1 c.2).mp h).1
  unfold gsz
  rw [e, allC_eq]
  congr 1
  apply List.filter_congr
  intro c _
  rw [top_wout, isSome_last]
  unfold covd
  rw [Bool.eq_iff_iff, List.any_eq_true, List.any_eq_true]
  constructor
  · rintro ⟨j, hj, h⟩
    simp only [Bool.and_eq_true] at h
    exact ⟨wAt ws j, List.mem_map.mpr ⟨j, List.mem_filter.mpr ⟨List.mem_range.mpr (ho.lt hj), h.2⟩, rfl⟩, h.1⟩
  · rintro ⟨w, hw, h⟩
    obtain ⟨j, hj, rfl⟩ := List.mem_map.mp hw
    obtain ⟨h1, h2⟩ := List.mem_filter.mp hj
    exact ⟨j, ho.mem_iff.mpr h1, by simp only [Bool.and_eq_true]; exact ⟨h, h2⟩⟩
theorem sum_but (i : Nat) (f : Nat → Nat) : ∀ l : List Nat, l.Nodup → i ∈ l → (l.map fun o => if o = i then 0 else f o).sum + f i = (l.map f).sum
  | [], _, h => by cases h
  | o :: l, nd, h => by
    obtain ⟨n1, n2⟩ := List.nodup_cons.mp nd
    simp only [List.map_cons, List.sum_cons]
    by_cases q : o = i
    · subst q
      have : (l.map fun k => if k = o then 0 else f k) = l.map f := List.map_congr_left fun k hk => by rw [if_neg fun (e : k = o) => n1 (e ▸ hk)]
      rw [this]; simp; omega
    · have hm : i ∈ l := by
        rcases List.mem_cons.mp h with e | m
        · exact absurd e.symm q
        · exact m
      have := sum_but i f l n2 hm
      rw [if_neg q]; omega

/-! ### what is freed -/
theorem idx_lt {os : List Nat} (nd : os.Nodup) {i o : Nat} (h : i ∈ abv os o) : os.idxOf o < os.idxOf i := ((abv_iff nd).mp h).2
theorem freed_mem {ws : List Win} {os : List Nat} (nd : os.Nodup) {i o : Nat} : o ∈ freedL ws os i ↔ o < ws.length ∧ gsz ws os [] o < gsz ws os [i] o := by
  unfold freedL
  rw [List.mem_filter, List.mem_range, decide_eq_true_eq, szs_eq nd, szs_eq nd]
theorem freed_why {ws : List Win} {os : List Nat} (ho : IsOrd ws.length os) {i o : Nat} (h : o ∈ freedL ws os i) : i ∈ abv os o ∧ i ∈ hidW ws os o := by
  have nd := ord_nd ho
  obtain ⟨h1, h2⟩ := (freed_mem nd).mp h
  have hoi : o ≠ i := fun e => by
    rw [gsz_in (g := [i]) nd (by rw [e]; simp)] at h2; omega
  obtain ⟨c, hc, t1, t2⟩ : ∃ c ∈ grid, topW ws (wout os [i]) c.1 c.2 = some o ∧ topW ws (wout os []) c.1 c.2 ≠ some o := by
    refine Classical.byContradiction fun no => ?_
    have : gsz ws os [i] o ≤ gsz ws os [] o := filt_le fun c hc e => by
      refine decide_eq_true (Classical.byContradiction fun n => no ⟨c, hc, of_decide_eq_true e, n⟩)
    omega
  obtain ⟨a1, a2, a3, a4⟩ := (topO nd [i] c.1 c.2).mp t1
  obtain ⟨j, j1, j2⟩ : ∃ j ∈ abv os o, inW (wAt ws j) c.1 c.2 = true := by
    refine Classical.byContradiction fun no => t2 ((topO nd [] c.1 c.2).mpr ⟨a1, by simp, a3, fun j hj _ => ?_⟩)
    rw [Bool.eq_false_iff]
    exact fun e => no ⟨j, hj, e⟩
  have ji : j = i := Classical.byContradiction fun n => by
    rw [a4 j j1 (by simpa using n)] at j2; cases j2
  subst ji
  refine ⟨j1, ?_⟩
  have tt : topW ws os c.1 c.2 = some j := by
    have := (topO (ws := ws) nd [] c.1 c.2 (i := j)).mpr ⟨abv_in j1, by simp, j2, fun k hk _ => a4 k (abv_trans nd hk j1) (by simpa using abv_ne nd hk)⟩
    rw [wout_nil] at this
    exact this
  rw [hidW_eq]
  simp only [List.mem_filter, List.mem_range, Bool.and_eq_true, decide_eq_true_eq, List.any_eq_true]
  refine ⟨ho.lt (abv_in j1), abv_ne nd j1, c, ?_, ?_⟩
  · rw [cellsW_eq, List.mem_filter]; exact ⟨hc, a3⟩
  · unfold topN; rw [tt]; rfl
theorem freed_nil {ws : List Win} {os : List Nat} (ho : IsOrd ws.length os) {i : Nat} (hi : i < ws.length) (h : freedL ws os i = []) : ((List.range ws.length).map (gsz ws os [i])).sum + gsz ws os [] i = ((List.range ws.length).map (gsz ws os [])).sum := by
  have nd := ord_nd ho
  have e : (List.range ws.length).map (gsz ws os [i]) = (List.range ws.length).map fun o => if o = i then 0 else gsz ws os [] o := List.map_congr_left fun o ho' => by
    by_cases q : o = i
    · rw [if_pos q, gsz_in nd (by simp [q])]
    · rw [if_neg q]
      have m := gsz_mono (ws := ws) nd (g := [i]) (i := o) (by simpa using q)
      have nf : ¬ o ∈ freedL ws os i := by rw [h]; simp
      rw [freed_mem nd] at nf
      have := List.mem_range.mp ho'
      omega
  rw [e]
  exact sum_but i _ _ List.nodup_range (List.mem_range.mpr hi)
/-! ### groups made whole -/
theorem gsz_whole {ws : List Win} {os : List Nat} (nd : os.Nodup) {g : List Nat} {i : Nat} (hi : i ∈ os) (hg : i ∉ g) : gsz ws os g i = (cellsW (wAt ws i)).length ↔ ∀ c ∈ cellsW (wAt ws i), ∀ j ∈ abv os i, j ∉ g → inW (wAt ws j) c.1 c.2 = false := by
  rw [← szs_eq nd, if_neg hg, seenW_eq, List.length_filter_eq_length_iff]
  constructor
  · intro h c hc
    exact ((topO nd g c.1 c.2).mp (of_decide_eq_true (h c hc))).2.2.2
  · intro h c hc
    exact decide_eq_true ((topO nd g c.1 c.2).mpr ⟨hi, hg, cell_in hc, h c hc⟩)
theorem ups_mem {ws : List Win} {os g : List Nat} (ho : IsOrd ws.length os) {o : Nat} : o ∈ upS ws os g ↔ ∃ i ∈ g, o ∈ abv os i ∧ hasOv (wAt ws i) (wAt ws o) = true := by
  simp only [upS, List.mem_filter, List.mem_range, List.any_eq_true, Bool.and_eq_true, decide_eq_true_eq]
  exact ⟨fun ⟨_, i, a, b, c⟩ => ⟨i, a, b, c⟩, fun ⟨i, a, b, c⟩ => ⟨ho.lt (abv_in b), i, a, b, c⟩⟩
theorem ups_sm {ws : List Win} {os g : List Nat} : IsSm ws.length (upS ws os g) := ⟨(range_lt _).filter _, fun j h => List.mem_range.mp (List.mem_filter.mp h).1⟩
theorem IsSm.filter {n : Nat} {g : List Nat} (h : IsSm n g) (p : Nat → Bool) : IsSm n (g.filter p) := ⟨h.up.filter _, fun j hj => h.lt j (List.mem_filter.mp hj).1⟩
theorem min_show {ws : List Win} {os g : List Nat} (ho : IsOrd ws.length os) (hg : IsGrp ws.length g) : (g.any fun i => decide (i ∈ upS ws os g)) = !apart ws g := by
  have nd := ord_nd ho
  rw [Bool.eq_iff_iff, List.any_eq_true, Bool.not_eq_true', ← Bool.not_eq_true, apart_iff hg.nodup]
  simp only [decide_eq_true_eq]
  constructor
  · rintro ⟨o, h1, h2⟩ ap
    obtain ⟨i, i1, i2, i3⟩ := (ups_mem ho).mp h2
    rw [ap i i1 o h1 (Ne.symm (abv_ne nd i2))] at i3; cases i3
  · intro na
    refine Classical.byContradiction fun no => na fun a ha b hb ne => ?_
    rw [Bool.eq_false_iff]
    intro ov
    have ma : a ∈ os := ho.mem_iff.mpr (List.mem_range.mpr (hg.lt a ha))
    have mb : b ∈ os := ho.mem_iff.mpr (List.mem_range.mpr (hg.lt b hb))
    rcases Nat.lt_trichotomy (os.idxOf a) (os.idxOf b) with q | q | q
    · exact no ⟨b, hb, (ups_mem ho).mpr ⟨a, ha, (abv_iff nd).mpr ⟨mb, q⟩, ov⟩⟩
    · have e1 := List.getElem_idxOf (List.idxOf_lt_length_of_mem ma)
      have e2 := List.getElem_idxOf (List.idxOf_lt_length_of_mem mb)
      simp only [q] at e1
      exact ne (e1.symm.trans e2)
    · exact no ⟨a, ha, (ups_mem ho).mpr ⟨b, hb, (abv_iff nd).mpr ⟨ma, q⟩, by rw [ov_symm]; exact ov⟩⟩
/-- which sets make all of g whole -/
theorem all_whole {ws : List Win} {os g s : List Nat} (hw : Wins ws) (ho : IsOrd ws.length os) (hg : IsGrp ws.length g) (hs : ∀ i ∈ g, i ∉ s) : (∀ i ∈ g, gsz ws os s i = (cellsW (wAt ws i)).length) ↔ ∀ o ∈ upS ws os g, o ∈ s := by
  have nd := ord_nd ho
  have mo : ∀ i ∈ g, i ∈ os := fun i hi => ho.mem_iff.mpr (List.mem_range.mpr (hg.lt i hi))
  constructor
  · intro h o h1
    obtain ⟨i, i1, i2, i3⟩ := (ups_mem ho).mp h1
    obtain ⟨c, c1, c2⟩ := (ov_cell (hw.at_ (hg.lt i i1)) (hw.at_ (ho.lt (abv_in i2)))).mp i3
    refine Classical.byContradiction fun no => ?_
    rw [(gsz_whole nd (mo i i1) (hs i i1)).mp (h i i1) c c1 o i2 no] at c2; cases c2
  · intro h i hi
    refine (gsz_whole nd (mo i hi) (hs i hi)).mpr fun c hc j hj js => ?_
    rw [Bool.eq_false_iff]
    exact fun e => js (h j ((ups_mem ho).mpr ⟨i, hi, hj, (ov_cell (hw.at_ (hg.lt i hi)) (hw.at_ (ho.lt (abv_in hj)))).mpr ⟨c, hc, e⟩⟩))
theorem whole_gsz {ws : List Win} {os : List Nat} (ho : IsOrd ws.length os) (i : Nat) : wholeW ws os i = decide (gsz ws os [] i = (cellsW (wAt ws i)).length) := by
  rw [whole_len, ← szs_eq (ord_nd ho), if_neg (by simp), wout_nil]

/-! ### moves -/
def sh (w : Win) (m : Int × Int) : Win := ⟨w.l + m.1, w.t + m.2, w.r + m.1, w.b + m.2⟩
def mvW (ws : List Win) (i : Nat) (m : Int × Int) : List Win := ws.set i (sh (wAt ws i) m)
theorem mv_len (ws : List Win) (i : Nat) (m : Int × Int) : (mvW ws i m).length = ws.length := by simp [mvW]
theorem mv_same {ws : List Win} {i : Nat} (hi : i < ws.length) (m : Int × Int) : wAt (mvW ws i m) i = sh (wAt ws i) m := by
  simp [mvW, wAt, hi]
theorem mv_other {ws : List Win} {i j : Nat} (h : j ≠ i) (m : Int × Int) : wAt (mvW ws i m) j = wAt ws j := by
  unfold mvW
  conv => lhs; unfold wAt
  rw [List.getD_eq_getElem?_getD, List.getElem?_set_ne (Ne.symm h)]
  unfold wAt
  rw [List.getD_eq_getElem?_getD]
theorem mv_ok {ws : List Win} (hw : Wins ws) {i : Nat} (hi : i < ws.length) {m : Int × Int} (hm : (sh (wAt ws i) m).Ok) : Wins (mvW ws i m) := ⟨fun w h => by
  obtain ⟨j, hj, rfl⟩ := List.getElem_of_mem h
  rw [mv_len] at hj
  have e : (mvW ws i m)[j]'(by rw [mv_len]; exact hj) = wAt (mvW ws i m) j := by simp [wAt, mv_len, hj]
  rw [e]
  by_cases q : j = i
  · rw [q, mv_same hi]; exact hm
  · rw [mv_other q]; exact hw.at_ hj, by rw [mv_len]; exact hw.le⟩
/-- all moves of a window -/
def allM (w : Win) : List (Int × Int) := (List.range (13 + w.l - w.r).toNat).flatMap fun a => (List.range (13 + w.t - w.b).toNat).map fun b => ((0 - w.l) + ((a : Nat) : Int), (0 - w.t) + ((b : Nat) : Int))
theorem allM_mem {w : Win} (hw : w.Ok) {m : Int × Int} : m ∈ allM w ↔ (sh w m).Ok := by
  unfold allM
  rw [box_mem]
  obtain ⟨h1, h2, h3, h4, h5, h6⟩ := hw
  unfold Win.Ok sh
  dsimp only
  omega
def freeM (ws : List Win) (os : List Nat) (i : Nat) (m : Int × Int) : Bool := !(abv os i).any fun j => hasOv (sh (wAt ws i) m) (wAt ws j)
def whM (ws : List Win) (os : List Nat) (i : Nat) : List (Int × Int) := (allM (wAt ws i)).filter (freeM ws os i)
def avW (ws : List Win) (os : List Nat) (i : Nat) : D := .lst ((abv os i).map fun j => win (wAt ws j))
/-! ### the nearest move, what a move changes -/
def optC : Option (Int × Int) → D
  | none => .non
  | some m => cellD m
def absI (x : Int) : Int := if x < 0 then -x else x
def distM (m : Int × Int) : Int := absI m.1 + absI m.2
def keyM (m : Int × Int) : D := .tup [.int (distM m), cellD m]
def ltM (y a : Int × Int) : Bool := PySem.W.dataLt (keyM y).toPy (keyM a).toPy
theorem ltM_eq (y a : Int × Int) : ∃ b : Bool, ltM y a = if distM y = distM a then b else decide (distM y < distM a) := by
  refine ⟨if PyData.eqv (cellD y).toPy (cellD a).toPy = true then false else PySem.W.dataLt (cellD y).toPy (cellD a).toPy, ?_⟩
  have e := PySem.W.dataLt_pair (x := .int (distM y)) (y := (cellD y).toPy) (x' := .int (distM a)) (y' := (cellD a).toPy) (by simp [PySem.W.alike]) (by
    show PySem.W.alike (.tuple [.int y.1, .int y.2]) (.tuple [.int a.1, .int a.2]) = true
    simp [PySem.W.alike, PySem.W.alikeAll])
  have q : ltM y a = PySem.W.dataLt (.tuple [.int (distM y), (cellD y).toPy]) (.tuple [.int (distM a), (cellD a).toPy]) := rfl
  rw [q, e, PySem.W.dataLt_int]
  by_cases h : distM y = distM a
  · simp [PyData.eqv, h]
  · simp [PyData.eqv, h]
theorem ltM_t {y a : Int × Int} (h : ltM y a = true) : distM y ≤ distM a := by
  obtain ⟨b, e⟩ := ltM_eq y a
  rw [e] at h
  by_cases q : distM y = distM a
  · omega
  · rw [if_neg q, decide_eq_true_eq] at h; omega
theorem ltM_f {y a : Int × Int} (h : ltM y a = false) : distM a ≤ distM y := by
  obtain ⟨b, e⟩ := ltM_eq y a
  rw [e] at h
  by_cases q : distM y = distM a
  · omega
  · rw [if_neg q, decide_eq_false_iff_not] at h; omega
def bestM (m : Int × Int) (ms : List (Int × Int)) : Int × Int := ms.foldl (fun a y => if ltM y a = true then y else a) m
theorem best_key (m : Int × Int) : ∀ ms : List (Int × Int), (ms.map keyM).foldl (fun a y => if PySem.W.dataLt y.toPy a.toPy = true then y else a) (keyM m) = keyM (bestM m ms) := fun ms => by
  induction ms generalizing m with
  | nil => rfl
  | cons y ms ih =>
    unfold bestM at ih ⊢
    rw [List.map_cons, List.foldl_cons, List.foldl_cons]
    by_cases q : ltM y m = true
    · have q' : PySem.W.dataLt (keyM y).toPy (keyM m).toPy = true := q
      rw [if_pos q, if_pos q', ih]
    · have q' : ¬ PySem.W.dataLt (keyM y).toPy (keyM m).toPy = true := q
      rw [if_neg q, if_neg q', ih]
theorem best_facts (m : Int × Int) : ∀ ms : List (Int × Int), bestM m ms ∈ m :: ms ∧ ∀ x ∈ m :: ms, distM (bestM m ms) ≤ distM x := fun ms => by
  induction ms generalizing m with
  | nil => simp [bestM]
  | cons y ms ih =>
    have e : bestM m (y :: ms) = bestM (if ltM y m = true then y else m) ms := rfl
    rw [e]
    by_cases q : ltM y m = true
    · rw [if_pos q]
      obtain ⟨h1, h2⟩ := ih y
      refine ⟨List.mem_cons_of_mem _ h1, fun x hx => ?_⟩
      rcases List.mem_cons.mp hx with rfl | hx
      · exact Int.le_trans (h2 y (by simp)) (ltM_t q)
      · exact h2 x hx
    · rw [if_neg q]
      obtain ⟨h1, h2⟩ := ih m
      refine ⟨?_, fun x hx => ?_⟩
      · rcases List.mem_cons.mp h1 with h | h
        · rw [h]; simp
        · exact List.mem_cons_of_mem _ (List.mem_cons_of_mem _ h)
      · rcases List.mem_cons.mp hx with rfl | hx
        · exact h2 _ (by simp)
        · rcases List.mem_cons.mp hx with rfl | hx
          · exact Int.le_trans (h2 m (by simp)) (ltM_f (by simpa using q))
          · exact h2 x (by simp [hx])
def nearM : List (Int × Int) → Option (Int × Int)
  | [] => none
  | m :: ms => some (bestM m ms)
theorem min_keys (m : Int × Int) (ms : List (Int × Int)) (h : ms.length ≤ 1000) : minT [.lst ((m :: ms).map keyM)] = some (keyM (bestM m ms)) := by
  have so : srtOk ((m :: ms).map keyM) = true := by
    unfold srtOk
    have : ((m :: ms).map keyM).all isT2 = true := by
      rw [List.all_map, List.all_eq_true]
      intro x _
      rfl
    rw [this]; simp
  have sm : small ((m :: ms).map keyM).length = true := small_le (by simp; omega)
  show (if (srtOk ((m :: ms).map keyM) && small ((m :: ms).map keyM).length) = true then some ((ms.map keyM).foldl (fun a y => if PySem.W.dataLt y.toPy a.toPy = true then y else a) (keyM m)) else none) = _
  rw [so, sm]
  simp only [Bool.and_self, if_true]
  rw [best_key]
theorem allM_le {w : Win} (hw : w.Ok) : (allM w).length ≤ 169 := by
  obtain ⟨h1, h2, h3, h4, h5, h6⟩ := hw
  have := len_le 13 (List.range (13 + w.l - w.r).toNat) (fun a => (List.range (13 + w.t - w.b).toNat).map fun b => ((0 - w.l) + ((a : Nat) : Int), (0 - w.t) + ((b : Nat) : Int))) fun a _ => by simp; omega
  unfold allM
  rw [List.length_range] at this
  omega
def chL (ws vs : List Win) (os : List Nat) (i : Nat) : List Nat := ((List.range ws.length).filter fun o => !decide (o = i)).filter fun o => !decide (seenW ws os o = seenW vs os o)
theorem whole_free {ws : List Win} {os : List Nat} (hw : Wins ws) (ho : IsOrd ws.length os) {i : Nat} (hi : i < ws.length) : wholeW ws os i = !(abv os i).any fun j => hasOv (wAt ws i) (wAt ws j) := by
  have nd := ord_nd ho
  have io : i ∈ os := ho.mem_iff.mpr (List.mem_range.mpr hi)
  rw [Bool.eq_iff_iff, whole_iff, Bool.not_eq_true', ← Bool.not_eq_true, List.any_eq_true]
  have tt := fun c : Int × Int => topO (ws := ws) nd [] c.1 c.2 (i := i)
  simp only [wout_nil] at tt
  constructor
  · rintro h ⟨j, j1, j2⟩
    obtain ⟨c, c1, c2⟩ := (ov_cell (hw.at_ hi) (hw.at_ (ho.lt (abv_in j1)))).mp j2
    rw [((tt c).mp (h c c1)).2.2.2 j j1 (by simp)] at c2; cases c2
  · intro h c hc
    refine (tt c).mpr ⟨io, by simp, cell_in hc, fun j hj _ => ?_⟩
    rw [Bool.eq_false_iff]
    exact fun e => h ⟨j, hj, (ov_cell (hw.at_ hi) (hw.at_ (ho.lt (abv_in hj)))).mpr ⟨c, hc, e⟩⟩
/-- what is seen of o is told by o and what lies above it -/
theorem seen_same {ws vs : List Win} {os : List Nat} (nd : os.Nodup) {o : Nat} (h1 : wAt vs o = wAt ws o) (h2 : ∀ j ∈ abv os o, wAt vs j = wAt ws j) : seenW vs os o = seenW ws os o := by
  rw [seenW_eq, seenW_eq, h1]
  apply List.filter_congr
  intro c _
  have t1 := topO (ws := ws) nd [] c.1 c.2 (i := o)
  have t2 := topO (ws := vs) nd [] c.1 c.2 (i := o)
  rw [wout_nil] at t1 t2
  rw [Bool.eq_iff_iff, decide_eq_true_eq, decide_eq_true_eq, t1, t2, h1]
  constructor
  · rintro ⟨a, b, c', d⟩
    exact ⟨a, b, c', fun j hj x => by rw [← h2 j hj]; exact d j hj x⟩
  · rintro ⟨a, b, c', d⟩
    exact ⟨a, b, c', fun j hj x => by rw [h2 j hj]; exact d j hj x⟩

theorem lenF_le {α β : Type} (n : Nat) : ∀ (xs : List α) (f : α → List β), (∀ x ∈ xs, (f x).length ≤ n) → (xs.flatMap f).length ≤ xs.length * n
  | [], _, _ => by simp
  | x :: xs, f, h => by
    have h1 := h x (by simp)
    have h2 := lenF_le n xs f fun y hy => h y (by simp [hy])
    have e : (xs.length + 1) * n = xs.length * n + n := Nat.succ_mul _ _
    rw [List.flatMap_cons, List.length_append, List.length_cons, e]
    omega
/-! ### loops that push onto a list -/
theorem forL_acc {α δ : Type} {p : Pat} {G : EnvD → Out} {enc : α → D} (st : List D → δ → EnvD) (out : α → List D) (m B : Nat) : ∀ {xs : List α} (acc : List D) (d : δ), acc.length + xs.length * m ≤ B → (∀ x ∈ xs, (out x).length ≤ m) →
    (∀ acc d x, x ∈ xs → acc.length + m ≤ B → ∃ e1 d', bindP p (enc x) (st acc d) = some e1 ∧ G e1 = .next (st (acc ++ out x) d')) → ∃ d', forL p G (xs.map enc) (st acc d) = .next (st (acc ++ xs.flatMap out) d')
  | [], acc, d, _, _, _ => ⟨d, by simp [forL]⟩
  | x :: xs, acc, d, hb, ho, h => by
    have e0 : (x :: xs).length * m = xs.length * m + m := by rw [List.length_cons, Nat.succ_mul]
    obtain ⟨e1, d', h1, h2⟩ := h acc d x (by simp) (by omega)
    have lx := ho x (by simp)
    obtain ⟨d2, h3⟩ := forL_acc st out m B (xs := xs) (acc ++ out x) d' (by rw [List.length_append]; omega) (fun y hy => ho y (by simp [hy])) fun acc d y hy => h acc d y (by simp [hy])
    refine ⟨d2, ?_⟩
    rw [List.map_cons]
    unfold forL
    rw [h1]
    simp only [h2, h3, List.flatMap_cons, List.append_assoc]
/-- a loop that refuses -/
theorem forL_chk {α : Type} {p : Pat} {G : EnvD → Out} {enc : α → D} (E : EnvD → Prop) (P : α → Bool) (res : D) : ∀ {xs : List α} {e : EnvD}, E e → (∀ e x, E e → x ∈ xs → ∃ e1, bindP p (enc x) e = some e1 ∧ (P x = true → ∃ e2, G e1 = .next e2 ∧ E e2) ∧ (P x = false → G e1 = .ret res)) →
    (xs.all P = true → ∃ e2, forL p G (xs.map enc) e = .next e2 ∧ E e2) ∧ (xs.all P = false → forL p G (xs.map enc) e = .ret res)
  | [], e, he, _ => ⟨fun _ => ⟨e, rfl, he⟩, fun h => by simp at h⟩
  | x :: xs, e, he, h => by
    obtain ⟨e1, h1, h2, h3⟩ := h e x he (by simp)
    rw [List.all_cons, List.map_cons]
    unfold forL
    rw [h1]
    cases q : P x with
    | false =>
      refine ⟨fun z => by simp at z, fun _ => ?_⟩
      simp only [h3 q]
    | true =>
      obtain ⟨e2, h4, h5⟩ := h2 q
      simp only [h4, Bool.true_and]
      exact forL_chk E P res h5 fun e y he hy => h e y he (by simp [hy])
/-! ### places -/
def SzOk (s : Int × Int) : Prop := 1 ≤ s.1 ∧ s.1 ≤ 12 ∧ 1 ≤ s.2 ∧ s.2 ≤ 12
instance (s : Int × Int) : Decidable (SzOk s) := inferInstanceAs (Decidable (_ ∧ _))
def pwin (s c : Int × Int) : Win := ⟨c.1, c.2, c.1 + s.1, c.2 + s.2⟩
def corners (s : Int × Int) : List (Int × Int) := (List.range (13 - s.1).toNat).flatMap fun a => (List.range (13 - s.2).toNat).map fun b => ((0 : Int) + ((a : Nat) : Int), (0 : Int) + ((b : Nat) : Int))
theorem corners_mem {s c : Int × Int} (hs : SzOk s) : c ∈ corners s ↔ (pwin s c).Ok := by
  unfold corners
  rw [box_mem]
  unfold SzOk at hs
  unfold Win.Ok pwin
  dsimp only
  omega
def allP (s : Int × Int) : List Win := (corners s).map (pwin s)
theorem allP_eq (s : Int × Int) : allP s = (List.range (13 - s.1).toNat).flatMap fun a => (List.range (13 - s.2).toNat).map fun b => pwin s (((a : Nat) : Int), ((b : Nat) : Int)) := by
  unfold allP corners
  rw [List.map_flatMap]
  congr 1
  funext a
  rw [List.map_map]
  congr 1
  funext b
  simp
theorem allP_ok {s : Int × Int} (hs : SzOk s) {w : Win} (h : w ∈ allP s) : w.Ok ∧ w.r - w.l = s.1 ∧ w.b - w.t = s.2 := by
  obtain ⟨c, hc, rfl⟩ := List.mem_map.mp h
  refine ⟨(corners_mem hs).mp hc, ?_, ?_⟩ <;> (unfold pwin; dsimp only; omega)
theorem allP_in {s : Int × Int} (hs : SzOk s) {w : Win} (h : w.Ok) (h1 : w.r - w.l = s.1) (h2 : w.b - w.t = s.2) : w ∈ allP s := by
  have e : pwin s (w.l, w.t) = w := by
    cases w
    unfold pwin
    simp at *
    omega
  exact List.mem_map.mpr ⟨(w.l, w.t), (corners_mem hs).mpr (by rw [e]; exact h), e⟩
theorem allP_le {s : Int × Int} (hs : SzOk s) : (allP s).length ≤ 144 := by
  unfold SzOk at hs
  unfold allP corners
  rw [List.length_map, len_const (13 - s.2).toNat _ _ (fun x _ => by simp), List.length_range]
  have h1 : (13 - s.1).toNat ≤ 12 := by omega
  have h2 : (13 - s.2).toNat ≤ 12 := by omega
  exact Nat.le_trans (Nat.mul_le_mul h1 h2) (by decide)
def freeP (vs : List Win) (w : Win) : Bool := !(vs.any fun v => hasOv v w)
def plc (vs : List Win) (s : Int × Int) : List Win := (allP s).filter (freeP vs)
/-! ### places for several sizes -/
def szl (ss : List (Int × Int)) : D := .lst (ss.map cellD)
def optT : Option (List Win) → D
  | none => .non
  | some ws => wins ws
def faW : List Win → List (Int × Int) → Option (List Win)
  | _, [] => some []
  | vs, s :: ss => (plc vs s).findSome? fun p => (faW (vs ++ [p]) ss).map (p :: ·)
theorem faW_len : ∀ {ss : List (Int × Int)} {vs rs : List Win}, faW vs ss = some rs → rs.length = ss.length
  | [], vs, rs, h => by cases h; rfl
  | s :: ss, vs, rs, h => by
    unfold faW at h
    obtain ⟨p, _, hp⟩ := List.exists_of_findSome?_eq_some h
    cases q : faW (vs ++ [p]) ss with
    | none => rw [q] at hp; cases hp
    | some r => rw [q] at hp; cases hp; simp [faW_len q]
theorem add_wins (vs rs : List Win) (h : vs.length + rs.length ≤ 1000) : addD (wins vs) (wins rs) = some (wins (vs ++ rs)) := by
  show (if small ((vs.map win).length + (rs.map win).length) = true then some (D.tup (vs.map win ++ rs.map win)) else none) = _
  rw [if_pos (small_le (by simp; omega)), ← List.map_append]; rfl
theorem szl_pl (ss : List (Int × Int)) : plD 2 (szl ss) = true := pl_cells ss
def SzsOk (ss : List (Int × Int)) : Prop := ∀ s ∈ ss, SzOk s
/-! ### raising -/
def rz (o : List Nat) (n : Nat) : List Nat := (o.filter fun j => !decide (j = n)) ++ [n]
theorem ord_perm_of {n : Nat} {o : List Nat} (nd : o.Nodup) (h : ∀ j, j ∈ o ↔ j < n) : IsOrd n o :=
  (List.perm_ext_iff_of_nodup nd List.nodup_range).mpr fun j => by rw [h, List.mem_range]
theorem rz_mem {o : List Nat} {n j : Nat} (hn : n ∈ o) : j ∈ rz o n ↔ j ∈ o := by
  unfold rz
  rw [List.mem_append, List.mem_filter, List.mem_singleton]
  constructor
  · rintro (⟨h, _⟩ | rfl)
    · exact h
    · exact hn
  · intro h
    by_cases e : j = n
    · exact .inr e
    · exact .inl ⟨h, by simp [e]⟩
theorem rz_nd {o : List Nat} (nd : o.Nodup) (n : Nat) : (rz o n).Nodup := by
  unfold rz
  rw [List.nodup_append]
  refine ⟨nd.filter _, by simp, ?_⟩
  intro a ha b hb
  rw [List.mem_singleton.mp hb]
  have := (List.mem_filter.mp ha).2
  simpa using this
theorem rz_ord {n x : Nat} {o : List Nat} (h : IsOrd n o) (hx : x < n) : IsOrd n (rz o x) :=
  ord_perm_of (rz_nd (ord_nd h) x) fun j => by
    rw [rz_mem (h.mem_iff.mpr (List.mem_range.mpr hx)), h.mem_iff, List.mem_range]
/-- i stands below j -/
def bef (o : List Nat) (i j : Nat) : Prop := [i, j].Sublist o
theorem bef_app {A B : List Nat} {i j : Nat} : bef (A ++ B) i j ↔ bef A i j ∨ (i ∈ A ∧ j ∈ B) ∨ bef B i j := by
  unfold bef
  rw [List.sublist_append_iff]
  constructor
  · rintro ⟨l1, l2, e, h1, h2⟩
    match l1, e with
    | [], e => exact .inr (.inr (by rw [e]; exact h2))
    | [a], e =>
      simp at e
      obtain ⟨rfl, rfl⟩ := e
      exact .inr (.inl ⟨List.singleton_sublist.mp h1, List.singleton_sublist.mp h2⟩)
    | [a, b], e =>
      simp at e
      obtain ⟨rfl, rfl, rfl⟩ := e
      exact .inl h1
    | a :: b :: c :: r, e => simp at e
  · rintro (h | ⟨h1, h2⟩ | h)
    · exact ⟨[i, j], [], rfl, h, List.nil_sublist _⟩
    · exact ⟨[i], [j], rfl, List.singleton_sublist.mpr h1, List.singleton_sublist.mpr h2⟩
    · exact ⟨[], [i, j], rfl, List.nil_sublist _, h⟩
theorem bef_mem {o : List Nat} {i j : Nat} (h : bef o i j) : i ∈ o ∧ j ∈ o := ⟨h.subset (by simp), h.subset (by simp)⟩
theorem bef_ne {o : List Nat} (nd : o.Nodup) {i j : Nat} (h : bef o i j) : i ≠ j := fun e => by
  subst e
  have := h.nodup nd
  simp at this
theorem abv_bef {o : List Nat} (nd : o.Nodup) {i j : Nat} (hi : i ∈ o) : j ∈ abv o i ↔ bef o i j := by
  have sp := split_idx hi
  constructor
  · intro h
    rw [sp]
    exact bef_app.mpr (.inr (.inr (List.Sublist.cons₂ i (List.singleton_sublist.mpr h))))
  · intro h
    rw [sp] at h nd
    rcases bef_app.mp h with h | ⟨h, _⟩ | h
    · have := (bef_mem h).1
      have := (List.nodup_append.mp nd).2.2 i this i (by simp)
      exact absurd rfl this
    · have := (List.nodup_append.mp nd).2.2 i h i (by simp)
      exact absurd rfl this
    · cases h with
      | cons _ h =>
        have := (List.nodup_cons.mp (List.nodup_append.mp nd).2.1).1
        exact absurd (bef_mem h).1 this
      | cons_cons _ h => exact List.singleton_sublist.mp h
theorem bef_filter {o : List Nat} {p : Nat → Bool} {i j : Nat} (h : bef (o.filter p) i j) : bef o i j := h.trans List.filter_sublist
theorem bef_filter' {o : List Nat} {p : Nat → Bool} {i j : Nat} (h : bef o i j) (hi : p i = true) (hj : p j = true) : bef (o.filter p) i j := by
  have := h.filter p
  rw [List.filter_cons, if_pos hi, List.filter_cons, if_pos hj, List.filter_nil] at this
  exact this
theorem whole_bef {ws : List Win} {os : List Nat} (hw : Wins ws) (ho : IsOrd ws.length os) {i : Nat} (hi : i < ws.length) : wholeW ws os i = true ↔ ∀ j, bef os i j → hasOv (wAt ws i) (wAt ws j) = false := by
  have io : i ∈ os := ho.mem_iff.mpr (List.mem_range.mpr hi)
  rw [whole_free hw ho hi, Bool.not_eq_true', List.any_eq_false]
  constructor
  · intro h j hj
    have := h j ((abv_bef (ord_nd ho) io).mpr hj)
    simpa using this
  · intro h j hj
    have := h j ((abv_bef (ord_nd ho) io).mp hj)
    simp [this]
/-- what is whole behind a raising was so before, but the raised one -/
theorem whole_rz {ws : List Win} {o : List Nat} (hw : Wins ws) (ho : IsOrd ws.length o) {n i : Nat} (hn : n < ws.length) (hi : i < ws.length) (ne : i ≠ n) (h : wholeW ws (rz o n) i = true) : wholeW ws o i = true := by
  rw [whole_bef hw ho hi]
  rw [whole_bef hw (rz_ord ho hn) hi] at h
  intro j hj
  refine h j ?_
  unfold rz
  by_cases e : j = n
  · subst e
    exact bef_app.mpr (.inr (.inl ⟨List.mem_filter.mpr ⟨(bef_mem hj).1, by simp [ne]⟩, by simp⟩))
  · exact bef_app.mpr (.inl (bef_filter' hj (by simp [ne]) (by simp [e])))
/-- how many of a group are not whole -/
def nwh (ws : List Win) (g o : List Nat) : Nat := (g.filter fun i => !wholeW ws o i).length
theorem filt_one {g : List Nat} (nd : g.Nodup) {p q : Nat → Bool} {n : Nat} (h : ∀ i ∈ g, i ≠ n → p i = true → q i = true) : (g.filter p).length ≤ (g.filter q).length + 1 := by
  induction g with
  | nil => simp
  | cons a g ih =>
    obtain ⟨n1, n2⟩ := List.nodup_cons.mp nd
    by_cases e : a = n
    · subst e
      have : (g.filter p).length ≤ (g.filter q).length := by
        clear ih
        have h' : ∀ i ∈ g, p i = true → q i = true := fun i hi => h i (by simp [hi]) fun e => n1 (by rw [← e]; exact hi)
        clear h nd n1 n2
        induction g with
        | nil => simp
        | cons b g ih =>
          have := ih fun i hi => h' i (by simp [hi])
          have hb := h' b (by simp)
          rw [List.filter_cons, List.filter_cons]
          cases hp : p b <;> cases hq : q b <;> simp [hp, hq] at hb ⊢ <;> omega
      rw [List.filter_cons, List.filter_cons]
      cases p a <;> cases q a <;> simp <;> omega
    · have := ih n2 fun i hi => h i (by simp [hi])
      have ha := h a (by simp) e
      rw [List.filter_cons, List.filter_cons]
      cases hp : p a <;> cases hq : q a <;> simp [hp, hq] at ha ⊢ <;> omega
theorem nwh_rz {ws : List Win} {g o : List Nat} (hw : Wins ws) (ho : IsOrd ws.length o) (nd : g.Nodup) (hg : ∀ i ∈ g, i < ws.length) {n : Nat} (hn : n < ws.length) : nwh ws g o ≤ nwh ws g (rz o n) + 1 := by
  unfold nwh
  refine filt_one nd (n := n) fun i hi ne h => ?_
  have hi' := hg i hi
  cases q : wholeW ws (rz o n) i with
  | false => rfl
  | true =>
    have := whole_rz hw ho hn hi' ne q
    rw [this] at h
    exact h
/-- several raisings -/
def rzs (o rs : List Nat) : List Nat := rs.foldl rz o
theorem rzs_eq : ∀ {rs o : List Nat}, rs.Nodup → rzs o rs = (o.filter fun j => !decide (j ∈ rs)) ++ rs
  | [], o, _ => by
    show o = (o.filter fun j => !decide (j ∈ ([] : List Nat))) ++ []
    rw [List.append_nil, List.filter_eq_self.mpr (fun _ _ => by simp)]
  | r :: rs, o, nd => by
    obtain ⟨n1, n2⟩ := List.nodup_cons.mp nd
    show rzs (rz o r) rs = _
    rw [rzs_eq n2]
    unfold rz
    rw [List.filter_append, List.filter_filter]
    have e1 : ([r].filter fun j => !decide (j ∈ rs)) = [r] := by simp [n1]
    rw [e1, List.append_assoc]
    congr 1
    apply List.filter_congr
    intro j _
    simp only [List.mem_cons, Bool.decide_or, Bool.not_or]
    rw [Bool.and_comm]
/-- orders after so many raisings -/
def rch (os : List Nat) : Nat → List Nat → Prop
  | 0, o => o = os
  | t + 1, o => ∃ p, rch os t p ∧ ∃ x ∈ os, o = rz p x
theorem rch_ord {os : List Nat} {n : Nat} (ho : IsOrd n os) : ∀ {t : Nat} {o : List Nat}, rch os t o → IsOrd n o
  | 0, o, h => by cases h; exact ho
  | t + 1, o, ⟨p, h, x, hx, e⟩ => by rw [e]; exact rz_ord (rch_ord ho h) (ho.lt hx)
theorem rch_rzs {os : List Nat} : ∀ {rs : List Nat} {t : Nat} {o : List Nat}, (∀ r ∈ rs, r ∈ os) → rch os t o → rch os (t + rs.length) (rzs o rs)
  | [], t, o, _, h => h
  | r :: rs, t, o, hr, h => by
    have := rch_rzs (os := os) (rs := rs) (t := t + 1) (o := rz o r) (fun x hx => hr x (by simp [hx])) ⟨o, h, r, hr r (by simp), rfl⟩
    have e : t + 1 + rs.length = t + (r :: rs).length := by simp; omega
    rw [e] at this
    exact this
theorem nwh_rch {ws : List Win} {g os : List Nat} (hw : Wins ws) (ho : IsOrd ws.length os) (nd : g.Nodup) (hg : ∀ i ∈ g, i < ws.length) : ∀ {t : Nat} {o : List Nat}, rch os t o → nwh ws g os ≤ nwh ws g o + t
  | 0, o, h => by cases h; simp
  | t + 1, o, ⟨p, h, x, hx, e⟩ => by
    have h1 := nwh_rch hw ho nd hg h
    have h2 := nwh_rz hw (rch_ord ho h) nd hg (ho.lt hx)
    rw [e]; omega
/-- all of a group are whole -/
def goodO (ws : List Win) (g o : List Nat) : Bool := g.all fun i => wholeW ws o i
theorem good_nwh {ws : List Win} {g o : List Nat} : goodO ws g o = true ↔ nwh ws g o = 0 := by
  unfold goodO nwh
  rw [List.all_eq_true, List.length_eq_zero_iff, List.filter_eq_nil_iff]
  simp
theorem good_apart {ws : List Win} {g o : List Nat} (hw : Wins ws) (ho : IsOrd ws.length o) (nd : g.Nodup) (hg : ∀ i ∈ g, i < ws.length) (h : goodO ws g o = true) : apart ws g = true := by
  rw [shown_iff hw nd hg]
  refine ⟨o, ordsK_ord.mpr ho, fun j hj => shown_mem.mpr ⟨hg j hj, ?_⟩⟩
  exact List.all_eq_true.mp h j hj
theorem apart_good {ws : List Win} {g os : List Nat} (hw : Wins ws) (ho : IsOrd ws.length os) (nd : g.Nodup) (hg : ∀ i ∈ g, i < ws.length) (h : apart ws g = true) : ∃ o, rch os (nwh ws g os) o ∧ goodO ws g o = true := by
  have ap := (apart_iff nd).mp h
  have rin : ∀ r ∈ g.filter fun i => !wholeW ws os i, r ∈ os := fun r hr => ho.mem_iff.mpr (List.mem_range.mpr (hg r (List.mem_filter.mp hr).1))
  have rc := rch_rzs (os := os) (rs := g.filter fun i => !wholeW ws os i) (t := 0) (o := os) rin rfl
  rw [Nat.zero_add] at rc
  refine ⟨_, rc, ?_⟩
  have oo := rch_ord ho rc
  unfold goodO
  rw [List.all_eq_true]
  intro i hi
  rw [whole_bef hw oo (hg i hi)]
  intro j hj
  rw [rzs_eq (nd.filter _)] at hj
  have ne : i ≠ j := by
    have n2 := ord_nd oo
    rw [rzs_eq (nd.filter _)] at n2
    exact bef_ne n2 hj
  rcases bef_app.mp hj with hb | ⟨_, hb⟩ | hb
  · have hb2 := bef_filter hb
    have ni : i ∉ g.filter fun i => !wholeW ws os i := by
      intro hm
      have := (List.mem_filter.mp (bef_mem hb).1).2
      rw [decide_eq_true hm] at this
      cases this
    have wi : wholeW ws os i = true := by
      cases q : wholeW ws os i with
      | true => rfl
      | false => exact absurd (List.mem_filter.mpr ⟨hi, by simp [q]⟩) ni
    exact (whole_bef hw ho (hg i hi)).mp wi j hb2
  · exact ap i hi j (List.mem_filter.mp hb).1 ne
  · exact ap i hi j (List.mem_filter.mp (bef_mem hb).2).1 ne
/-! ### a search by breadth -/
def exp1 (os : List Nat) (KM : List (List Nat) × List (List Nat)) (o : List Nat) : List (List Nat) × List (List Nat) :=
  os.foldl (fun KM x => if rz o x ∈ KM.1 then KM else (KM.1 ++ [rz o x], KM.2 ++ [rz o x])) KM
def expand (os : List Nat) (K L : List (List Nat)) : List (List Nat) × List (List Nat) := L.foldl (exp1 os) (K, [])
structure ExpI (os : List Nat) (K : List (List Nat)) (P : List Nat → Nat → Prop) (KM : List (List Nat) × List (List Nat)) : Prop where
  eq : KM.1 = K ++ KM.2
  nd : KM.1.Nodup
  from_ : ∀ o ∈ KM.2, ∃ p x, P p x ∧ o = rz p x
  all : ∀ p x, P p x → rz p x ∈ KM.1
theorem exp1_ok {os : List Nat} {K : List (List Nat)} (o : List Nat) : ∀ {xs : List Nat} {P : List Nat → Nat → Prop} {KM : List (List Nat) × List (List Nat)}, ExpI os K P KM →
    ExpI os K (fun p x => P p x ∨ (p = o ∧ x ∈ xs)) (xs.foldl (fun KM x => if rz o x ∈ KM.1 then KM else (KM.1 ++ [rz o x], KM.2 ++ [rz o x])) KM)
  | [], P, KM, h => ⟨h.eq, h.nd, fun z hz => by obtain ⟨p, x, h1, h2⟩ := h.from_ z hz; exact ⟨p, x, .inl h1, h2⟩, fun p x hp => by
      rcases hp with hp | ⟨_, hp⟩
      · exact h.all p x hp
      · cases hp⟩
  | y :: xs, P, KM, h => by
    have step : ExpI os K (fun p x => P p x ∨ (p = o ∧ x = y)) (if rz o y ∈ KM.1 then KM else (KM.1 ++ [rz o y], KM.2 ++ [rz o y])) := by
      by_cases q : rz o y ∈ KM.1
      · rw [if_pos q]
        exact ⟨h.eq, h.nd, fun z hz => by obtain ⟨p, x, h1, h2⟩ := h.from_ z hz; exact ⟨p, x, .inl h1, h2⟩, fun p x hp => by
          rcases hp with hp | ⟨rfl, rfl⟩
          · exact h.all p x hp
          · exact q⟩
      · rw [if_neg q]
        refine ⟨by show KM.1 ++ [rz o y] = K ++ (KM.2 ++ [rz o y]); rw [h.eq, List.append_assoc], ?_, fun z hz => ?_, fun p x hp => ?_⟩
        · rw [List.nodup_append]
          refine ⟨h.nd, by simp, fun a ha b hb => ?_⟩
          rw [List.mem_singleton.mp hb]
          exact fun e => q (by rw [← e]; exact ha)
        · rcases List.mem_append.mp hz with hz | hz
          · obtain ⟨p, x, h1, h2⟩ := h.from_ z hz; exact ⟨p, x, .inl h1, h2⟩
          · exact ⟨o, y, .inr ⟨rfl, rfl⟩, List.mem_singleton.mp hz⟩
        · rcases hp with hp | ⟨rfl, rfl⟩
          · exact List.mem_append_left _ (h.all p x hp)
          · exact List.mem_append_right _ (by simp)
    have := exp1_ok o (xs := xs) step
    rw [List.foldl_cons]
    refine ⟨this.eq, this.nd, fun z hz => ?_, fun p x hp => ?_⟩
    · obtain ⟨p, x, h1, h2⟩ := this.from_ z hz
      refine ⟨p, x, ?_, h2⟩
      rcases h1 with (h1 | ⟨h1, h3⟩) | ⟨h1, h3⟩
      · exact .inl h1
      · exact .inr ⟨h1, by simp [h3]⟩
      · exact .inr ⟨h1, by simp [h3]⟩
    · rcases hp with hp | ⟨h1, h3⟩
      · exact this.all p x (.inl (.inl hp))
      · rcases List.mem_cons.mp h3 with h3 | h3
        · exact this.all p x (.inl (.inr ⟨h1, h3⟩))
        · exact this.all p x (.inr ⟨h1, h3⟩)
theorem expand_ok {os : List Nat} {K : List (List Nat)} : ∀ {L : List (List Nat)} {P : List Nat → Nat → Prop} {KM : List (List Nat) × List (List Nat)}, ExpI os K P KM → ExpI os K (fun p x => P p x ∨ (p ∈ L ∧ x ∈ os)) (L.foldl (exp1 os) KM)
  | [], P, KM, h => ⟨h.eq, h.nd, fun z hz => by obtain ⟨p, x, h1, h2⟩ := h.from_ z hz; exact ⟨p, x, .inl h1, h2⟩, fun p x hp => by
      rcases hp with hp | ⟨hp, _⟩
      · exact h.all p x hp
      · cases hp⟩
  | l :: L, P, KM, h => by
    have := expand_ok (L := L) (exp1_ok l (xs := os) h)
    rw [List.foldl_cons]
    refine ⟨this.eq, this.nd, fun z hz => ?_, fun p x hp => ?_⟩
    · obtain ⟨p, x, h1, h2⟩ := this.from_ z hz
      refine ⟨p, x, ?_, h2⟩
      rcases h1 with (h1 | ⟨h1, h3⟩) | ⟨h1, h3⟩
      · exact .inl h1
      · exact .inr ⟨by simp [h1], h3⟩
      · exact .inr ⟨by simp [h1], h3⟩
    · rcases hp with hp | ⟨h1, h3⟩
      · exact this.all p x (.inl (.inl hp))
      · rcases List.mem_cons.mp h1 with h1 | h1
        · exact this.all p x (.inl (.inr ⟨h1, h3⟩))
        · exact this.all p x (.inr ⟨h1, h3⟩)
theorem expand_start {os : List Nat} {K L : List (List Nat)} (nd : K.Nodup) : ExpI os K (fun p x => p ∈ L ∧ x ∈ os) (expand os K L) := by
  have := expand_ok (os := os) (K := K) (L := L) (P := fun _ _ => False) (KM := (K, [])) ⟨by simp, nd, by simp, fun _ _ h => h.elim⟩
  exact ⟨this.eq, this.nd, fun z hz => by
    obtain ⟨p, x, h1, h2⟩ := this.from_ z hz
    rcases h1 with h1 | h1
    · exact h1.elim
    · exact ⟨p, x, h1, h2⟩, fun p x hp => this.all p x (.inr hp)⟩
structure Bfs (os : List Nat) (K L : List (List Nat)) (t : Nat) : Prop where
  known : ∀ o ∈ K, ∃ s, s ≤ t ∧ rch os s o
  all : ∀ s, s ≤ t → ∀ o, rch os s o → o ∈ K
  lev : ∀ o ∈ L, rch os t o
  lev2 : ∀ o, rch os t o → o ∈ L ∨ ∃ s, s < t ∧ rch os s o
  nd : K.Nodup
theorem bfs_start (os : List Nat) : Bfs os [os] [os] 0 :=
  ⟨fun o h => ⟨0, Nat.le_refl _, List.mem_singleton.mp h⟩, fun s hs o h => by
    have : s = 0 := by omega
    subst this
    exact List.mem_singleton.mpr h, fun o h => List.mem_singleton.mp h, fun o h => .inl (List.mem_singleton.mpr h), by simp⟩
theorem bfs_step {os : List Nat} {K L : List (List Nat)} {t : Nat} (h : Bfs os K L t) : Bfs os (expand os K L).1 (expand os K L).2 (t + 1) := by
  have x := expand_start (os := os) (K := K) (L := L) h.nd
  have inK : ∀ o ∈ K, o ∈ (expand os K L).1 := fun o ho => by rw [x.eq]; exact List.mem_append_left _ ho
  have key : ∀ o, rch os (t + 1) o → o ∈ (expand os K L).2 ∨ ∃ s, s < t + 1 ∧ rch os s o := fun o ⟨p, hp, y, hy, e⟩ => by
    rcases h.lev2 p hp with hl | ⟨s, hs, hr⟩
    · have := x.all p y ⟨hl, hy⟩
      rw [← e, x.eq] at this
      rcases List.mem_append.mp this with q | q
      · obtain ⟨s, h1, h2⟩ := h.known o q
        exact .inr ⟨s, by omega, h2⟩
      · exact .inl q
    · exact .inr ⟨s + 1, by omega, ⟨p, hr, y, hy, e⟩⟩
  have levN : ∀ o ∈ (expand os K L).2, rch os (t + 1) o := fun o ho => by
    obtain ⟨p, y, ⟨h1, h2⟩, e⟩ := x.from_ o ho
    exact ⟨p, h.lev p h1, y, h2, e⟩
  refine ⟨fun o ho => ?_, fun s hs o hr => ?_, levN, key, x.nd⟩
  · rw [x.eq] at ho
    rcases List.mem_append.mp ho with q | q
    · obtain ⟨s, h1, h2⟩ := h.known o q
      exact ⟨s, by omega, h2⟩
    · exact ⟨t + 1, Nat.le_refl _, levN o q⟩
  · rcases Nat.lt_or_eq_of_le hs with hs | rfl
    · exact inK o (h.all s (by omega) o hr)
    · rcases key o hr with q | ⟨s, h1, h2⟩
      · rw [x.eq]; exact List.mem_append_right _ q
      · exact inK o (h.all s (by omega) o h2)
theorem bfs_end {os : List Nat} {K : List (List Nat)} {t : Nat} (h : Bfs os K [] t) : ∀ (k : Nat) (o : List Nat), rch os (t + k) o → ∃ s, s < t ∧ rch os s o
  | 0, o, hr => by
    rcases h.lev2 o hr with q | q
    · cases q
    · exact q
  | k + 1, o, ⟨p, hp, y, hy, e⟩ => by
    obtain ⟨s, h1, h2⟩ := bfs_end h k p hp
    have z : rch os (s + 1) o := ⟨p, h2, y, hy, e⟩
    by_cases q : s + 1 < t
    · exact ⟨s + 1, q, z⟩
    · have : s + 1 = t := by omega
      rw [this] at z
      rcases h.lev2 o z with q | q
      · cases q
      · exact q
theorem nodupL_le {α : Type} [DecidableEq α] : ∀ {l m : List α}, l.Nodup → (∀ x ∈ l, x ∈ m) → l.length ≤ m.length
  | [], m, _, _ => by simp
  | a :: l, m, nd, h => by
    obtain ⟨n1, n2⟩ := List.nodup_cons.mp nd
    have hm := h a (by simp)
    have := nodupL_le (m := m.erase a) n2 fun x hx => (List.mem_erase_of_ne (fun e => n1 (by rw [← e]; exact hx))).mpr (h x (by simp [hx]))
    rw [List.length_erase_of_mem hm] at this
    have := List.length_pos_of_mem hm
    simp
    omega
theorem bfs_len {os : List Nat} {n : Nat} (ho : IsOrd n os) (hn : n ≤ 4) {K L : List (List Nat)} {t : Nat} (h : Bfs os K L t) : K.length ≤ 1296 := by
  have h1 := nodupL_le h.nd (m := ordsK n n) fun o q => by
    obtain ⟨s, _, hr⟩ := h.known o q
    exact ordsK_ord.mpr (rch_ord ho hr)
  have h2 := ordsK_len (n := n) (by omega) n (by omega)
  have h3 : 6 ^ n ≤ 6 ^ 4 := Nat.pow_le_pow_right (by omega) hn
  have : (6 : Nat) ^ 4 = 1296 := by decide
  omega

/-! ### a dict of orders -/
theorem natsT_kT (o : List Nat) : natsT o = kT (o.map fun n : Nat => (n : Int)) := by
  unfold natsT kT
  rw [List.map_map]; rfl
theorem asInts_nats (o : List Nat) : asInts (o.map nD) = some (o.map fun n : Nat => (n : Int)) := by
  have : o.map nD = (o.map fun n : Nat => (n : Int)).map D.int := by rw [List.map_map]; rfl
  rw [this]
  exact asInts_map _
theorem keyEq_nats (a b : List Nat) : keyEq (natsT a) (natsT b) = decide (a = b) := by
  rw [natsT_kT, natsT_kT, keyEq_t, Bool.eq_iff_iff, decide_eq_true_iff, decide_eq_true_iff]
  constructor
  · intro h
    have inj : ∀ (x y : List Nat), (x.map fun n : Nat => (n : Int)) = (y.map fun n : Nat => (n : Int)) → x = y := fun x => by
      induction x with
      | nil => intro y h; cases y with
        | nil => rfl
        | cons c y => cases h
      | cons c x ih => intro y h; cases y with
        | nil => cases h
        | cons d y =>
          rw [List.map_cons, List.map_cons, List.cons.injEq] at h
          rw [ih y h.2]
          congr 1
          omega
    exact inj a b h
  · intro h; rw [h]
theorem isKey_nats (o : List Nat) : isKey true (natsT o) = true := by
  show (true && (asInts (o.map nD)).isSome) = true
  rw [asInts_nats]; rfl
theorem dPut_new {pre : List (List Nat)} {x : List Nat} (h : x ∉ pre) (val : List Nat → D) (v : D) : dPut (pre.map natsT) (pre.map val) (natsT x) v = ((pre ++ [x]).map natsT, pre.map val ++ [v]) := by
  unfold dPut
  have : (pre.map natsT).any (fun k => keyEq k (natsT x)) = false := by
    rw [List.any_map, List.any_eq_false]
    intro y hy
    show ¬ keyEq (natsT y) (natsT x) = true
    rw [keyEq_nats, decide_eq_true_iff]
    exact fun e => h (by rw [← e]; exact hy)
  rw [this, List.map_append]
  rfl
theorem dPuts_nats (val : List Nat → D) : ∀ (xs pre : List (List Nat)), (pre ++ xs).Nodup → dPuts (xs.map fun x => .tup [natsT x, val x]) (pre.map natsT, pre.map val) = some ((pre ++ xs).map natsT, (pre ++ xs).map val)
  | [], pre, _ => by simp [dPuts]
  | x :: xs, pre, nd => by
    have hx : x ∉ pre := fun h => (List.nodup_append.mp nd).2.2 x h x (by simp) rfl
    have ih := dPuts_nats val xs (pre ++ [x]) (by rw [List.append_assoc]; exact nd)
    rw [List.map_cons]
    show (match asInts (x.map nD) with
      | some _ => dPuts (xs.map fun x => .tup [natsT x, val x]) (dPut (pre.map natsT) (pre.map val) (natsT x) (val x))
      | none => none) = _
    rw [asInts_nats]
    show dPuts _ _ = _
    rw [dPut_new hx val]
    have e : pre.map val ++ [val x] = (pre ++ [x]).map val := by simp
    rw [e, ih, List.append_assoc]
    rfl
theorem dictD_nats (val : List Nat → D) {xs : List (List Nat)} (nd : xs.Nodup) : dictD [.lst (xs.map fun x => .tup [natsT x, val x])] = some (true, xs.map natsT, xs.map val) := by
  have := dPuts_nats val xs [] (by simpa using nd)
  simp only [List.map_nil, List.nil_append] at this
  show (dPuts _ ([], [])).map _ = _
  rw [this]; rfl
theorem dFind_nats (val : List Nat → D) {o : List Nat} : ∀ {xs : List (List Nat)}, o ∈ xs → dFind (xs.map natsT) (xs.map val) (natsT o) = some (val o)
  | x :: xs, h => by
    rw [List.map_cons, List.map_cons]
    unfold dFind
    rw [keyEq_nats]
    by_cases e : x = o
    · rw [decide_eq_true e, if_pos rfl, e]
    · rw [decide_eq_false e, if_neg (by simp)]
      rcases List.mem_cons.mp h with q | q
      · exact absurd q.symm e
      · exact dFind_nats val q
theorem dix_nats (val : List Nat → D) {o : List Nat} {xs : List (List Nat)} (h : o ∈ xs) : dixD (.dic (xs.map natsT) (xs.map val)) (natsT o) = some (val o) := by
  show (match asInts (o.map nD) with
    | some _ => dFind (xs.map natsT) (xs.map val) (natsT o)
    | none => none) = _
  rw [asInts_nats]
  exact dFind_nats val h
theorem ordsK_nd {n : Nat} : ∀ k, (ordsK n k).Nodup
  | 0 => by simp [ordsK]
  | k + 1 => by
    show (extO n (ordsK n k)).Nodup
    unfold extO
    unfold List.Nodup
    rw [List.pairwise_flatMap]
    refine ⟨fun o _ => ?_, ?_⟩
    · rw [List.pairwise_map]
      exact List.Pairwise.imp (fun {a b} (h : a ≠ b) (e : o ++ [a] = o ++ [b]) => h (by have := congrArg List.getLast? e; simpa using this)) ((List.nodup_range (n := n)).filter _)
    · refine List.Pairwise.imp (fun {a b} (h : a ≠ b) => ?_) (ordsK_nd k)
      intro x hx y hy e
      obtain ⟨c, _, e1⟩ := List.mem_map.mp hx
      obtain ⟨d, _, e2⟩ := List.mem_map.mp hy
      apply h
      rw [← e1, ← e2] at e
      have := congrArg List.dropLast e
      simpa using this

/-! ### the loop of a search by breadth -/
theorem forL_fd {α S δ : Type} {p : Pat} {G : EnvD → Out} {enc : α → D} (E : S → δ → EnvD) (step : S → α → S) (inv : S → Prop) : ∀ {xs : List α} {s : S} (d : δ), inv s →
    (∀ s d x, x ∈ xs → inv s → ∃ e1 d', bindP p (enc x) (E s d) = some e1 ∧ G e1 = .next (E (step s x) d') ∧ inv (step s x)) → ∃ d', forL p G (xs.map enc) (E s d) = .next (E (xs.foldl step s) d') ∧ inv (xs.foldl step s)
  | [], s, d, hi, _ => ⟨d, rfl, hi⟩
  | x :: xs, s, d, hi, k => by
    obtain ⟨e1, d', h1, h2, h3⟩ := k s d x (by simp) hi
    obtain ⟨d2, h4, h5⟩ := forL_fd E step inv (xs := xs) (s := step s x) d' h3 fun s d y m => k s d y (by simp [m])
    refine ⟨d2, ?_, h5⟩
    simp only [List.map_cons, forL, h1, List.foldl_cons, h2, h4]
/-- what the loops keep -/
structure KMok (n : Nat) (KM : List (List Nat) × List (List Nat)) : Prop where
  nd : KM.1.Nodup
  ord : ∀ o ∈ KM.1, IsOrd n o
  le : KM.2.length ≤ KM.1.length
theorem KMok.len {n : Nat} {KM : List (List Nat) × List (List Nat)} (h : KMok n KM) (hn : n ≤ 4) : KM.1.length ≤ 1296 := by
  have h1 := nodupL_le h.nd (m := ordsK n n) fun o q => ordsK_ord.mpr (h.ord o q)
  have h2 := ordsK_len (n := n) (by omega) n (by omega)
  have h3 : 6 ^ n ≤ 6 ^ 4 := Nat.pow_le_pow_right (by omega) hn
  have : (6 : Nat) ^ 4 = 1296 := by decide
  omega
theorem KMok.step {n : Nat} {KM : List (List Nat) × List (List Nat)} (h : KMok n KM) {o : List Nat} (ho : IsOrd n o) {x : Nat} (hx : x < n) : KMok n (if rz o x ∈ KM.1 then KM else (KM.1 ++ [rz o x], KM.2 ++ [rz o x])) := by
  by_cases q : rz o x ∈ KM.1
  · rw [if_pos q]; exact h
  · rw [if_neg q]
    refine ⟨?_, fun z hz => ?_, by have := h.le; simp; omega⟩
    · show (KM.1 ++ [rz o x]).Nodup
      rw [List.nodup_append]
      refine ⟨h.nd, by simp, fun a ha b hb => ?_⟩
      rw [List.mem_singleton.mp hb]
      exact fun e => q (by rw [← e]; exact ha)
    · rcases List.mem_append.mp hz with hz | hz
      · exact h.ord z hz
      · rw [List.mem_singleton.mp hz]; exact rz_ord ho hx
/-- the order after a raising, as the law makes it -/
theorem raise_lc {o : List Nat} {x : Nat} {i j : Nat} (env : EnvD) (f : EnvD → R (List D)) (h : lcL (.nm j) [j] (bin neD (getB j) (getB i)) (getV j) (o.map nD) env = .ok ((o.filter fun k => !decide (k = x)).map nD)) : True := trivial
theorem add_nats (a b : List Nat) (h : a.length + b.length ≤ 1000) : addD (natsT a) (natsT b) = some (natsT (a ++ b)) := by
  show (if small ((a.map nD).length + (b.map nD).length) = true then some (D.tup (a.map nD ++ b.map nD)) else none) = _
  rw [if_pos (small_le (by simp; omega)), ← List.map_append]; rfl
theorem notIn_gs (g : List Nat) (l : List (List Nat)) : notInD (natsT g) (.lst (l.map natsT)) = some (!decide (g ∈ l)) := by
  unfold notInD
  rw [in_gs]; rfl

/-! ### raising to an order -/
def emb : List Nat → List Nat → Nat
  | _, [] => 0
  | r, t :: tg => if t ∈ r then emb (abv r t) tg + 1 else 0
theorem emb_le : ∀ (tg r : List Nat), emb r tg ≤ tg.length
  | [], r => by simp [emb]
  | t :: tg, r => by
    unfold emb
    have := emb_le tg (abv r t)
    split <;> simp <;> omega
theorem emb_sub : ∀ (tg r : List Nat), (tg.take (emb r tg)).Sublist r
  | [], r => by simp
  | t :: tg, r => by
    unfold emb
    by_cases h : t ∈ r
    · rw [if_pos h, List.take_succ_cons]
      have s : (t :: abv r t).Sublist r := by
        have e := split_idx h
        conv => rhs; rw [e]
        exact List.sublist_append_right _ _
      exact ((emb_sub tg (abv r t)).cons₂ t).trans s
    · rw [if_neg h]; simp
theorem cons_sub_abv {t : Nat} {l : List Nat} : ∀ {r : List Nat}, (t :: l).Sublist r → l.Sublist (abv r t)
  | [], h => by cases h
  | x :: r, h => by
    unfold abv
    rw [List.idxOf_cons]
    by_cases e : x = t
    · subst e
      rw [beq_self_eq_true]
      cases h with
      | cons _ h => exact ((List.sublist_cons_self _ _).trans h)
      | cons_cons _ h => exact h
    · have : (x == t) = false := beq_eq_false_iff_ne.mpr e
      rw [this]
      cases h with
      | cons _ h => exact cons_sub_abv h
      | cons_cons _ h => exact absurd rfl e
theorem emb_max : ∀ {tg r : List Nat} {k : Nat}, k ≤ tg.length → (tg.take k).Sublist r → k ≤ emb r tg
  | [], r, k, h, _ => by simp at h; omega
  | t :: tg, r, 0, _, _ => by omega
  | t :: tg, r, k + 1, h, s => by
    rw [List.take_succ_cons] at s
    unfold emb
    have m : t ∈ r := s.subset (by simp)
    rw [if_pos m]
    have := emb_max (tg := tg) (r := abv r t) (k := k) (by simpa using h) (cons_sub_abv s)
    omega
def frL (os tg : List Nat) : List Nat := tg.drop (emb os tg)
def frn (os tg : List Nat) : Nat := (frL os tg).length
theorem sub_filter : ∀ {s os : List Nat}, s.Sublist os → os.Nodup → os.filter (fun j => decide (j ∈ s)) = s := by
  intro s os h
  induction h with
  | slnil => intro _; rfl
  | cons a h ih =>
    intro nd
    obtain ⟨n1, n2⟩ := List.nodup_cons.mp nd
    rw [List.filter_cons, if_neg (by simpa using fun m => n1 (h.subset m))]
    exact ih n2
  | cons_cons a h ih =>
    intro nd
    obtain ⟨n1, n2⟩ := List.nodup_cons.mp nd
    rw [List.filter_cons, if_pos (by simp)]
    congr 1
    have e := ih n2
    conv => rhs; rw [← e]
    apply List.filter_congr
    intro j hj
    have : j ≠ a := fun e => n1 (by rw [← e]; exact hj)
    simp [this]
theorem frL_rzs {n : Nat} {os tg : List Nat} (ho : IsOrd n os) (ht : IsOrd n tg) : rzs os (frL os tg) = tg := by
  have nt := ord_nd ht
  have sp : tg = tg.take (emb os tg) ++ frL os tg := (List.take_append_drop _ _).symm
  have nf : (tg.take (emb os tg) ++ frL os tg).Nodup := by rw [← sp]; exact nt
  obtain ⟨_, n2, n3⟩ := List.nodup_append.mp nf
  rw [rzs_eq n2]
  conv => rhs; rw [sp]
  congr 1
  have e := sub_filter (emb_sub tg os) (ord_nd ho)
  conv => rhs; rw [← e]
  apply List.filter_congr
  intro j hj
  have jt : j ∈ tg := ht.mem_iff.mpr (ho.mem_iff.mp hj)
  rw [Bool.eq_iff_iff, Bool.not_eq_true', decide_eq_false_iff_not, decide_eq_true_iff]
  constructor
  · intro h
    rw [sp] at jt
    rcases List.mem_append.mp jt with h1 | h1
    · exact h1
    · exact absurd h1 h
  · intro h h2
    exact n3 j h j h2 rfl
theorem rch_fr {n : Nat} {os tg : List Nat} (ho : IsOrd n os) (ht : IsOrd n tg) : rch os (frn os tg) tg := by
  have := rch_rzs (os := os) (rs := frL os tg) (t := 0) (o := os) (fun r hr => ho.mem_iff.mpr (ht.mem_iff.mp (List.mem_of_mem_drop hr))) rfl
  rw [frL_rzs ho ht, Nat.zero_add] at this
  exact this
theorem filt_take {x : Nat} : ∀ {l : List Nat} (k : Nat), l.Nodup → ((l.filter fun j => !decide (j = x)).take k).Sublist (l.take (k + 1))
  | [], k, _ => by simp
  | a :: l, k, nd => by
    obtain ⟨n1, n2⟩ := List.nodup_cons.mp nd
    rw [List.take_succ_cons, List.filter_cons]
    by_cases e : a = x
    · subst e
      rw [if_neg (by simp), List.filter_eq_self.mpr (fun j hj => by
        have : j ≠ a := fun e => n1 (by rw [← e]; exact hj)
        simp [this])]
      exact List.sublist_cons_self _ _
    · rw [if_pos (by simp [e])]
      cases k with
      | zero => simp
      | succ k =>
        rw [List.take_succ_cons]
        exact (filt_take k n2).cons₂ a
theorem rch_take {n : Nat} {os : List Nat} (ho : IsOrd n os) : ∀ {t : Nat} {o : List Nat}, rch os t o → (o.take (n - t)).Sublist os
  | 0, o, h => by cases h; exact List.take_sublist _ _
  | t + 1, o, ⟨p, h, x, hx, e⟩ => by
    have ih := rch_take ho h
    have po := rch_ord ho h
    have oo := rz_ord po (ho.lt hx)
    by_cases q : n ≤ t
    · rw [show n - (t + 1) = 0 by omega]; simp
    · have hl := oo.length_eq
      rw [List.length_range] at hl
      unfold rz at e hl
      rw [List.length_append, List.length_singleton] at hl
      rw [e, List.take_append_of_le_length (by omega)]
      have := filt_take (x := x) (n - (t + 1)) (ord_nd po)
      rw [show n - (t + 1) + 1 = n - t by omega] at this
      exact this.trans ih
theorem fr_le {n : Nat} {os o : List Nat} (ho : IsOrd n os) {t : Nat} (h : rch os t o) : frn os o ≤ t := by
  have hl := (rch_ord ho h).length_eq
  rw [List.length_range] at hl
  have := emb_max (tg := o) (r := os) (k := n - t) (by omega) (rch_take ho h)
  unfold frn frL
  rw [List.length_drop]
  omega
/-! ### screens -/
def scrW (ws : List Win) (o : List Nat) : List (Option Nat) := grid.map fun c => topW ws o c.1 c.2
theorem top_rz {ws : List Win} (os : List Nat) (i : Nat) (x y : Int) : topW ws (rz os i) x y = if inW (wAt ws i) x y = true then some i else topW ws os x y := by
  unfold topW rz
  rw [List.filter_append, List.filter_filter]
  by_cases h : inW (wAt ws i) x y = true
  · rw [if_pos h, List.filter_cons, if_pos h]
    simp
  · rw [if_neg h, List.filter_cons, if_neg h, List.filter_nil, List.append_nil]
    congr 1
    apply List.filter_congr
    intro j _
    by_cases e : j = i
    · subst e; simp at h; simp [h]
    · simp [e]
theorem whole_screen {ws : List Win} {os : List Nat} (i : Nat) : wholeW ws os i = decide (scrW ws (rz os i) = scrW ws os) := by
  rw [Bool.eq_iff_iff, whole_iff, decide_eq_true_iff]
  unfold scrW
  rw [List.map_inj_left]
  constructor
  · intro h c hc
    rw [top_rz]
    by_cases q : inW (wAt ws i) c.1 c.2 = true
    · rw [if_pos q, h c (by rw [cellsW_eq]; exact List.mem_filter.mpr ⟨hc, q⟩)]
    · rw [if_neg q]
  · intro h c hc
    rw [cellsW_eq] at hc
    obtain ⟨h1, h2⟩ := List.mem_filter.mp hc
    have := h c h1
    rw [top_rz, if_pos h2] at this
    exact this.symm

/-! ### regions, looks -/
def toI (g : List Nat) : List Int := g.map fun n : Nat => (n : Int)
def ofI (z : List Int) : List Nat := z.map Int.toNat
theorem ofI_toI (g : List Nat) : ofI (toI g) = g := by
  unfold ofI toI
  rw [List.map_map]
  conv => rhs; rw [← List.map_id g]
  apply List.map_congr_left
  intro n _; simp
theorem natsT_toI (g : List Nat) : natsT g = kT (toI g) := natsT_kT g
theorem tupsI_nats : ∀ {l : List (List Nat)}, (∀ g ∈ l, g ≠ []) → tupsI (l.map natsT) = some (l.map toI)
  | [], _ => rfl
  | g :: l, h => by
    cases g with
    | nil => exact absurd rfl (h [] (by simp))
    | cons n g =>
      have ih := tupsI_nats (l := l) fun g hg => h g (by simp [hg])
      show (match asInts (g.map nD), tupsI (l.map natsT) with
        | some ns, some ks => some ((((n : Nat) : Int) :: ns) :: ks)
        | _, _ => none) = _
      rw [asInts_nats, ih]
      rfl
theorem filt_subs (p : Nat → Bool) : ∀ n, (List.range n).filter p ∈ subs (List.range n)
  | 0 => by simp [subs]
  | n + 1 => by
    have ih := filt_subs p n
    have e : subs (List.range (n + 1)) = subs (List.range n) ++ (subs (List.range n)).map (· ++ [n]) := by
      rw [List.range_succ]
      unfold subs
      rw [List.foldl_append]; rfl
    rw [e, List.range_succ, List.filter_append]
    cases q : p n with
    | true =>
      rw [List.filter_cons, if_pos q]
      exact List.mem_append_right _ (List.mem_map.mpr ⟨_, ih, rfl⟩)
    | false =>
      rw [List.filter_cons, if_neg (by rw [q]; simp)]
      simp only [List.filter_nil, List.append_nil]
      exact List.mem_append_left _ ih
theorem region_ne {ws : List Win} {c : Int × Int} (h : covd ws c = true) : region ws c.1 c.2 ≠ [] := by
  unfold covd at h
  obtain ⟨w, hw, q⟩ := List.any_eq_true.mp h
  obtain ⟨i, hi, e⟩ := List.mem_iff_getElem.mp hw
  intro z
  have : i ∈ region ws c.1 c.2 := by
    unfold region
    refine List.mem_filter.mpr ⟨List.mem_range.mpr hi, ?_⟩
    unfold wAt
    rw [List.getD_eq_getElem?_getD, List.getElem?_eq_getElem hi, e]
    exact q
  rw [z] at this; cases this
theorem s_find_regions {ws : List Win} (hw : Wins ws) (h4 : ws.length ≤ 4) : ∃ rg : List (List Nat), fD_find_regions [wins ws] = .ok (.lst (rg.map natsT)) ∧ ∀ g, g ∈ rg ↔ ∃ c ∈ allC ws, region ws c.1 c.2 = g := by
  have ac := s_all_cells hw
  have e : ∀ a1 : Sl, lcL (.nm 1) [1] yesF (callF fD_region_at (consF (getV 0) (consF (getV 1) nilF))) ((allC ws).map cellD) [.val (wins ws), a1] = .ok (((allC ws).map fun c => region ws c.1 c.2).map natsT) := fun _ => by
    rw [List.map_map]
    exact lcL_all (fun c : Int × Int => natsT (region ws c.1 c.2)) fun c _ => ⟨_, rfl, by simp [s_region_c]⟩
  have cg : ∀ c ∈ allC ws, covd ws c = true := fun c hc => by
    rw [allC_eq] at hc
    exact (List.mem_filter.mp hc).2
  have ti := tupsI_nats (l := (allC ws).map fun c => region ws c.1 c.2) fun g hg => by
    obtain ⟨c, hc, rfl⟩ := List.mem_map.mp hg
    exact region_ne (cg c hc)
  have few : (ddL (((allC ws).map fun c => region ws c.1 c.2).map toI)).length + 1 < 64 := by
    have := nodT_le (m := (subs (List.range ws.length)).map toI) (ddL_nd (((allC ws).map fun c => region ws c.1 c.2).map toI)) fun z hz => by
      rw [ddL_mem] at hz
      obtain ⟨g, hg, rfl⟩ := List.mem_map.mp hz
      obtain ⟨c, _, rfl⟩ := List.mem_map.mp hg
      exact List.mem_map.mpr ⟨_, filt_subs _ _, rfl⟩
    rw [List.length_map, subs_len, List.length_range] at this
    have p : 2 ^ ws.length ≤ 2 ^ 4 := Nat.pow_le_pow_right (by omega) h4
    have : (2 : Nat) ^ 4 = 16 := by decide
    omega
  obtain ⟨m', p1, p2⟩ := perm_map_inv (isort_perm (le := leD) ((ddL (((allC ws).map fun c => region ws c.1 c.2).map toI)).map kT)) _ rfl
  have mm : ∀ z, z ∈ m' ↔ ∃ c ∈ allC ws, toI (region ws c.1 c.2) = z := fun z => by
    rw [p1.mem_iff, ddL_mem, List.map_map, List.mem_map]; rfl
  refine ⟨m'.map ofI, ?_, fun g => ?_⟩
  · have sd : sdT [.lst (((allC ws).map fun c => region ws c.1 c.2).map natsT)] = some ((m'.map ofI).map natsT) := by
      show (match tupsI (((allC ws).map fun c => region ws c.1 c.2).map natsT) with
        | some ks => if (ddL ks).length + 1 < 64 then some (isort leD ((ddL ks).map kT)) else none
        | none => none) = _
      rw [ti]
      show (if (ddL (((allC ws).map fun c => region ws c.1 c.2).map toI)).length + 1 < 64 then some (isort leD ((ddL (((allC ws).map fun c => region ws c.1 c.2).map toI)).map kT)) else none) = _
      rw [if_pos few, p2, List.map_map]
      congr 1
      apply List.map_congr_left
      intro z hz
      obtain ⟨c, _, rfl⟩ := (mm z).mp hz
      show kT _ = natsT (ofI _)
      rw [ofI_toI, natsT_toI]
    generalize ((allC ws).map fun c => region ws c.1 c.2).map natsT = RL at *
    generalize (m'.map ofI).map natsT = RG at *
    generalize (allC ws).map cellD = CL at *
    generalize wins ws = W at *
    simp [fD_find_regions, G_find_regions, ac, e, sd]
  · rw [List.mem_map]
    constructor
    · rintro ⟨z, hz, rfl⟩
      obtain ⟨c, hc, rfl⟩ := (mm z).mp hz
      exact ⟨c, hc, (ofI_toI _).symm⟩
    · rintro ⟨c, hc, rfl⟩
      exact ⟨_, (mm _).mpr ⟨c, hc, rfl⟩, ofI_toI _⟩
def tpR (o g : List Nat) : Option Nat := (o.filter (· ∈ g)).getLast?
theorem s_look_of (rg : List (List Nat)) (o : List Nat) : fD_look_of [.lst (rg.map natsT), natsT o] = .ok (.tup ((rg.map (tpR o)).map optD)) := by
  have e : ∀ a0 a2 : Sl, lcL (.nm 2) [2] yesF (callF fD_top_of (consF (getV 1) (consF (getV 2) nilF))) (rg.map natsT) [a0, .val (natsT o), a2] = .ok ((rg.map (tpR o)).map optD) := fun _ _ => by
    rw [List.map_map]
    exact lcL_all (fun g => optD (tpR o g)) fun g _ => ⟨_, rfl, by
      have := s_top_of o g
      unfold tpR
      generalize natsT o = O at *
      generalize natsT g = GG at *
      simp [this]⟩
  have sq : asSeq (.lst (rg.map natsT)) = some (rg.map natsT) := rfl
  have tp : tupleD [.lst ((rg.map (tpR o)).map optD)] = some (.tup ((rg.map (tpR o)).map optD)) := rfl
  generalize (rg.map (tpR o)).map optD = T at *
  generalize rg.map natsT = RG at *
  generalize natsT o = O at *
  simp [fD_look_of, G_look_of, sq, e, tp]
theorem pl_optsT (a : List (Option Nat)) : plD 1 (.tup (a.map optD)) = true := pl_tup fun d hd => by
  obtain ⟨o, _, rfl⟩ := List.mem_map.mp hd; simp
theorem pl_optsL (a : List (Option Nat)) : plD 1 (.lst (a.map optD)) = true := pl_lst fun d hd => by
  obtain ⟨o, _, rfl⟩ := List.mem_map.mp hd; simp
theorem eqD_optsT (a b : List (Option Nat)) : eqD (.tup (a.map optD)) (.tup (b.map optD)) = some (decide (a = b)) := eqD_of (pl_64 (pl_optsT a)) (pl_64 (pl_optsT b)) (by
  rw [D.tup.injEq]; exact map_inj fun _ _ => optD_inj)
theorem eqD_optsL (a b : List (Option Nat)) : eqD (.lst (a.map optD)) (.lst (b.map optD)) = some (decide (a = b)) := eqD_of (pl_64 (pl_optsL a)) (pl_64 (pl_optsL b)) (by
  rw [D.lst.injEq]; exact map_inj fun _ _ => optD_inj)
theorem look_scr {ws : List Win} {o o' : List Nat} (ho : IsOrd ws.length o) (ho' : IsOrd ws.length o') {rg : List (List Nat)} (h : ∀ g, g ∈ rg ↔ ∃ c ∈ allC ws, region ws c.1 c.2 = g) : decide (rg.map (tpR o) = rg.map (tpR o')) = decide (scrW ws o = scrW ws o') := by
  rw [decide_eq_decide]
  unfold scrW
  rw [List.map_inj_left, List.map_inj_left]
  constructor
  · intro k c hc
    cases q : covd ws c with
    | true =>
      have := k (region ws c.1 c.2) ((h _).mpr ⟨c, by rw [allC_eq]; exact List.mem_filter.mpr ⟨hc, q⟩, rfl⟩)
      unfold tpR at this
      rw [top_region ho, top_region ho'] at this
      exact this
    | false =>
      have h1 := top_some ho c
      have h2 := top_some ho' c
      rw [q] at h1 h2
      rw [Option.isSome_eq_false_iff, Option.isNone_iff_eq_none] at h1 h2
      rw [h1, h2]
  · intro k g hg
    obtain ⟨c, hc, rfl⟩ := (h g).mp hg
    rw [allC_eq] at hc
    unfold tpR
    rw [top_region ho, top_region ho']
    exact k c (List.mem_filter.mp hc).1
def alikeL (ws : List Win) (tg : List Nat) : List (List Nat) := (ordsK ws.length ws.length).filter fun o => decide (scrW ws o = scrW ws tg)
theorem s_find_alike {ws : List Win} (hw : Wins ws) (h4 : ws.length ≤ 4) {tg : List Nat} (ht : IsOrd ws.length tg) : fD_find_alike [wins ws, natsT tg] = .ok (.lst ((alikeL ws tg).map natsT)) := by
  obtain ⟨rg, h1, h2⟩ := s_find_regions hw h4
  have lw : lenD [wins ws] = some (nD ws.length) := len_wins ws
  have ao := s_all_orders (n := ws.length) (by omega)
  have lk := fun o => s_look_of rg o
  have e : ∀ b0 b1 b4 : Sl, lcL (.nm 4) [4] (bin eqD (callF fD_look_of (consF (getV 2) (consF (getV 4) nilF))) (getB 3)) (getV 4) ((ordsK ws.length ws.length).map natsT) [b0, b1, .val (.lst (rg.map natsT)), .val (.tup ((rg.map (tpR tg)).map optD)), b4] = .ok ((alikeL ws tg).map natsT) := fun _ _ _ =>
    lcL_ok (fun o => decide (scrW ws o = scrW ws tg)) natsT fun o ho => ⟨_, rfl, by
      have l1 := lk o
      have q := eqD_optsT (rg.map (tpR o)) (rg.map (tpR tg))
      rw [look_scr (ordsK_ord.mp ho) ht h2] at q
      generalize D.tup ((rg.map (tpR o)).map optD) = T1 at *
      generalize D.tup ((rg.map (tpR tg)).map optD) = T2 at *
      generalize D.lst (rg.map natsT) = RG at *
      generalize natsT o = O at *
      simp [l1, q], fun _ => by simp⟩
  have l2 := lk tg
  generalize D.tup ((rg.map (tpR tg)).map optD) = T2 at *
  generalize D.lst (rg.map natsT) = RG at *
  generalize (alikeL ws tg).map natsT = AL at *
  generalize (ordsK ws.length ws.length).map natsT = OK at *
  generalize nD ws.length = N at *
  generalize natsT tg = TG at *
  generalize wins ws = W at *
  simp [fD_find_alike, G_find_alike, h1, l2, lw, ao, e]

/-! ### the functions -/
theorem s_check_two {ws : List Win} {os tg : List Nat} (hw : Wins ws) (ho : IsOrd ws.length os) (ht : IsOrd ws.length tg) : fD_check_two [wins ws, natsT os, natsT tg] = .ok .non := by
  have h1 := s_check_both hw ho
  have h2 := s_check_order ht hw.le
  generalize natsT os = OS at *
  generalize natsT tg = TG at *
  generalize wins ws = W at *
  simp [fD_check_two, G_check_two, h1, h2]
theorem ord_le {ws : List Win} (hw : Wins ws) {o : List Nat} (ho : IsOrd ws.length o) : o.length ≤ 6 := by
  have := ho.length_eq
  rw [List.length_range] at this
  have := hw.le
  omega
theorem len_natsL (l : List Nat) : lenD [natsL l] = some (nD l.length) := by
  show some (D.int ((l.map nD).length : Nat)) = _
  rw [List.length_map]; rfl
/-! ### least ones -/
theorem min_map {l : List Int} (h : l ≠ []) : minD [.lst (l.map D.int)] = some (.int (minI l)) := by
  show (match asInts (l.map D.int) with
    | some (n :: ns) => some (D.int (minI (n :: ns)))
    | _ => none) = _
  rw [asInts_map]
  cases l with
  | nil => exact absurd rfl h
  | cons n l => rfl
theorem min_same {l m : List Int} (hl : l ≠ []) (h : ∀ x, x ∈ l ↔ x ∈ m) : minI l = minI m := by
  have hm : m ≠ [] := fun e => by
    obtain ⟨a, ha⟩ := List.exists_mem_of_ne_nil l hl
    have := (h a).mp ha
    rw [e] at this; cases this
  obtain ⟨h1, h2⟩ := minI_ok hl
  obtain ⟨h3, h4⟩ := minI_ok hm
  have a := h2 _ ((h _).mpr h3)
  have b := h4 _ ((h _).mp h1)
  omega
def frI (os : List Nat) (L : List (List Nat)) : List Int := L.map fun o => ((frn os o : Nat) : Int)
theorem cv_frI (os : List Nat) (L : List (List Nat)) : (L.map fun o => nD (frn os o)) = (frI os L).map D.int := by
  unfold frI
  rw [List.map_map]; rfl
theorem alike_ne {ws : List Win} {tg : List Nat} (ht : IsOrd ws.length tg) : tg ∈ alikeL ws tg := List.mem_filter.mpr ⟨ordsK_ord.mpr ht, by simp⟩
/-! ### regions told exactly -/
theorem sdT_nats {l : List (List Nat)} (ne : ∀ g ∈ l, g ≠ []) (few : (ddL (l.map toI)).length + 1 < 64) : sdT [.lst (l.map natsT)] = some (isort leD ((ddL (l.map toI)).map kT)) := by
  show (match tupsI (l.map natsT) with
    | some ks => if (ddL ks).length + 1 < 64 then some (isort leD ((ddL ks).map kT)) else none
    | none => none) = _
  rw [tupsI_nats ne]
  show (if (ddL (l.map toI)).length + 1 < 64 then some (isort leD ((ddL (l.map toI)).map kT)) else none) = _
  rw [if_pos few]
theorem few_regions {ws : List Win} (h4 : ws.length ≤ 4) {cs : List (Int × Int)} {l : List (List Nat)} (h : ∀ g ∈ l, ∃ c ∈ cs, region ws c.1 c.2 = g) : (ddL (l.map toI)).length + 1 < 64 := by
  have := nodT_le (m := (subs (List.range ws.length)).map toI) (ddL_nd (l.map toI)) fun z hz => by
    rw [ddL_mem] at hz
    obtain ⟨g, hg, rfl⟩ := List.mem_map.mp hz
    obtain ⟨c, _, rfl⟩ := h g hg
    exact List.mem_map.mpr ⟨_, filt_subs _ _, rfl⟩
  rw [List.length_map, subs_len, List.length_range] at this
  have p : 2 ^ ws.length ≤ 2 ^ 4 := Nat.pow_le_pow_right (by omega) h4
  have : (2 : Nat) ^ 4 = 16 := by decide
  omega
def rgs (ws : List Win) : List (List Nat) := (allC ws).map fun c => region ws c.1 c.2
def rgD (ws : List Win) : List D := isort leD ((ddL ((rgs ws).map toI)).map kT)
theorem rgs_sd {ws : List Win} (h4 : ws.length ≤ 4) : sdT [.lst ((rgs ws).map natsT)] = some (rgD ws) := by
  refine sdT_nats (fun g hg => ?_) (few_regions (cs := allC ws) h4 fun g hg => ?_)
  · obtain ⟨c, hc, rfl⟩ := List.mem_map.mp hg
    rw [allC_eq] at hc
    exact region_ne (List.mem_filter.mp hc).2
  · obtain ⟨c, hc, rfl⟩ := List.mem_map.mp hg
    exact ⟨c, hc, rfl⟩
theorem s_regions {ws : List Win} (hw : Wins ws) (h4 : ws.length ≤ 4) : fD_regions [wins ws] = .ok (.lst (rgD ws)) := by
  have cw := s_check_windows hw
  have ac := s_all_cells hw
  have e : ∀ a1 : Sl, lcL (.nm 1) [1] yesF (callF fD_region_at (consF (getV 0) (consF (getV 1) nilF))) ((allC ws).map cellD) [.val (wins ws), a1] = .ok ((rgs ws).map natsT) := fun _ => by
    unfold rgs
    rw [List.map_map]
    exact lcL_all (fun c : Int × Int => natsT (region ws c.1 c.2)) fun c _ => ⟨_, rfl, by simp [s_region_c]⟩
  have sd := rgs_sd h4
  have fr : fD_find_regions [wins ws] = .ok (.lst (rgD ws)) := by
    generalize (rgs ws).map natsT = RL at *
    generalize rgD ws = RG at *
    generalize (allC ws).map cellD = CL at *
    generalize wins ws = W at *
    simp [fD_find_regions, G_find_regions, ac, e, sd]
  generalize rgD ws = RG at *
  generalize wins ws = W at *
  simp [fD_regions, G_regions, cw, fr]
theorem pl_rgD (ws : List Win) : plD 2 (.lst (rgD ws)) = true := pl_lst fun d hd => by
  obtain ⟨z, _, rfl⟩ := List.mem_map.mp ((isort_perm (le := leD) _).mem_iff.mp hd)
  exact pl_tup fun d hd => by
    obtain ⟨i, _, rfl⟩ := List.mem_map.mp hd
    simp
/-- the regions of all cells but the empty one, in the law's way -/
theorem law_rg {ws : List Win} (h4 : ws.length ≤ 4) : sdT [.lst (((grid.map fun c => region ws c.1 c.2).filter fun g => !decide (g = [])).map natsT)] = some (rgD ws) := by
  rw [sdT_nats (fun g hg => by simpa using (List.mem_filter.mp hg).2) (few_regions (cs := grid) h4 fun g hg => by
    obtain ⟨c, hc, rfl⟩ := List.mem_map.mp (List.mem_filter.mp hg).1
    exact ⟨c, hc, rfl⟩)]
  congr 1
  refine isort_same ((List.perm_ext_iff_of_nodup (ddL_nd _) (ddL_nd _)).mpr fun z => ?_)
  rw [ddL_mem, ddL_mem, List.mem_map, List.mem_map]
  have key : ∀ g, g ∈ ((grid.map fun c => region ws c.1 c.2).filter fun g => !decide (g = [])) ↔ g ∈ rgs ws := fun g => by
    unfold rgs
    rw [List.mem_filter, List.mem_map, List.mem_map, allC_eq]
    constructor
    · rintro ⟨⟨c, hc, rfl⟩, ne⟩
      refine ⟨c, List.mem_filter.mpr ⟨hc, ?_⟩, rfl⟩
      have ne : region ws c.1 c.2 ≠ [] := by simpa using ne
      obtain ⟨i, hi⟩ := List.exists_mem_of_ne_nil _ ne
      unfold region at hi
      obtain ⟨h1, h2⟩ := List.mem_filter.mp hi
      have h1 := List.mem_range.mp h1
      unfold covd
      rw [List.any_eq_true]
      exact ⟨wAt ws i, getD_mem h1, h2⟩
    · rintro ⟨c, hc, rfl⟩
      obtain ⟨h1, h2⟩ := List.mem_filter.mp hc
      exact ⟨⟨c, h1, rfl⟩, by simpa using region_ne h2⟩
  exact ⟨fun ⟨g, h, e⟩ => ⟨g, (key g).mp h, e⟩, fun ⟨g, h, e⟩ => ⟨g, (key g).mpr h, e⟩⟩
/-! ### are_alike, parting_cell -/
theorem s_are_alike {ws : List Win} (hw : Wins ws) (h4 : ws.length ≤ 4) {o o' : List Nat} (ho : IsOrd ws.length o) (ho' : IsOrd ws.length o') : fD_are_alike [wins ws, natsT o, natsT o'] = .ok (.bl (decide (scrW ws o = scrW ws o'))) := by
  obtain ⟨rg, h1, h2⟩ := s_find_regions hw h4
  have c2 := s_check_two hw ho ho'
  have l1 := s_look_of rg o
  have l2 := s_look_of rg o'
  have q := eqD_optsT (rg.map (tpR o)) (rg.map (tpR o'))
  rw [look_scr ho ho' h2] at q
  generalize decide (scrW ws o = scrW ws o') = b at *
  generalize D.tup ((rg.map (tpR o)).map optD) = T1 at *
  generalize D.tup ((rg.map (tpR o')).map optD) = T2 at *
  generalize D.lst (rg.map natsT) = RG at *
  generalize natsT o = O at *
  generalize natsT o' = O' at *
  generalize wins ws = W at *
  simp [fD_are_alike, G_are_alike, c2, h1, l1, l2, q]
def difC (ws : List Win) (o o' : List Nat) (c : Int × Int) : Bool := !decide (topW ws o c.1 c.2 = topW ws o' c.1 c.2)
def partL (ws : List Win) (o o' : List Nat) : List (Int × Int) := grid.filter (difC ws o o')
theorem part_allC {ws : List Win} {o o' : List Nat} (ho : IsOrd ws.length o) (ho' : IsOrd ws.length o') : (allC ws).find? (difC ws o o') = (partL ws o o').head? := by
  unfold partL
  rw [List.head?_filter, allC_eq]
  have : ∀ c, difC ws o o' c = true → covd ws c = true := fun c h => by
    cases q : covd ws c with
    | true => rfl
    | false =>
      have h1 := top_some ho c
      have h2 := top_some ho' c
      rw [q] at h1 h2
      rw [Option.isSome_eq_false_iff, Option.isNone_iff_eq_none] at h1 h2
      unfold difC at h
      rw [h1, h2] at h
      simp at h
  induction grid with
  | nil => rfl
  | cons c l ih =>
    rw [List.filter_cons, List.find?_cons]
    cases q : difC ws o o' c with
    | true =>
      rw [this c q]
      simp [q]
    | false =>
      cases covd ws c <;> simp [q, ih]
theorem scr_part {ws : List Win} {o o' : List Nat} : decide (partL ws o o' = []) = decide (scrW ws o = scrW ws o') := by
  rw [decide_eq_decide]
  unfold partL scrW
  rw [List.filter_eq_nil_iff, List.map_inj_left]
  unfold difC
  simp
theorem s_parting {ws : List Win} (hw : Wins ws) {o o' : List Nat} (ho : IsOrd ws.length o) (ho' : IsOrd ws.length o') : fD_parting_cell [wins ws, natsT o, natsT o'] = .ok (match (partL ws o o').head? with
    | some c => cellD c
    | none => .non) := by
  have c2 := s_check_two hw ho ho'
  have ac := s_all_cells hw
  have lp := forL_find (p := .nm 3) (G := B_parting_cell_0) (enc := cellD) (xs := allC ws) (e := [.val (wins ws), .val (natsT o), .val (natsT o'), .no, .no]) (fun e => ∃ s3 s4, e = [.val (wins ws), .val (natsT o), .val (natsT o'), s3, s4]) (difC ws o o') cellD ⟨_, _, rfl⟩ (by
    rintro e c ⟨s3, s4, rfl⟩ hc
    have rc := s_region_c ws c
    have t1 := s_top_of o (region ws c.1 c.2)
    have t2 := s_top_of o' (region ws c.1 c.2)
    rw [top_region ho] at t1
    rw [top_region ho'] at t2
    have q : neD (optD (topW ws o c.1 c.2)) (optD (topW ws o' c.1 c.2)) = some (difC ws o o' c) := by
      rw [neD_of (p := topW ws o c.1 c.2 = topW ws o' c.1 c.2) (pl_64 (pl_opt 0 _)) (pl_64 (pl_opt 0 _)) ⟨optD_inj, fun e => by rw [e]⟩]
      rfl
    generalize difC ws o o' c = b at *
    generalize optD (topW ws o c.1 c.2) = T1 at *
    generalize optD (topW ws o' c.1 c.2) = T2 at *
    generalize natsT (region ws c.1 c.2) = RG at *
    generalize natsT o = O at *
    generalize natsT o' = O' at *
    generalize wins ws = W at *
    refine ⟨_, rfl, fun hb => ?_, fun hb => ⟨[.val W, .val O, .val O', .val (cellD c), .val RG], .inl ?_, _, _, rfl⟩⟩
    · subst hb
      generalize cellD c = CC at *
      simp [B_parting_cell_0, rc, t1, t2, q]
    · subst hb
      generalize cellD c = CC at *
      simp [B_parting_cell_0, rc, t1, t2, q])
  rw [part_allC ho ho'] at lp
  rcases lp with ⟨c, h1, h2⟩ | ⟨h1, e', h2, s3, s4, rfl⟩
  · rw [h1]
    show _ = R.ok (cellD c)
    generalize (allC ws).map cellD = CL at *
    generalize natsT o = O at *
    generalize natsT o' = O' at *
    generalize wins ws = W at *
    generalize cellD c = CC at *
    simp [fD_parting_cell, G_parting_cell, c2, ac, h2]
  · rw [h1]
    generalize (allC ws).map cellD = CL at *
    generalize natsT o = O at *
    generalize natsT o' = O' at *
    generalize wins ws = W at *
    simp [fD_parting_cell, G_parting_cell, c2, ac, h2]
/-! ### how many looks -/
def oI : Option Nat → Option Int := Option.map fun n : Nat => (n : Int)
theorem oI_inj {a b : Option Nat} (h : oI a = oI b) : a = b := by
  cases a <;> cases b <;> simp [oI] at h ⊢
  omega
theorem optI_opts : ∀ l : List (Option Nat), optI (l.map optD) = some (l.map oI)
  | [] => rfl
  | a :: l => by
    have ih := optI_opts l
    cases a with
    | none =>
      show (optI (l.map optD)).map (none :: ·) = _
      rw [ih]; rfl
    | some n =>
      show (optI (l.map optD)).map (some ((n : Nat) : Int) :: ·) = _
      rw [ih]; rfl
theorem optsI_opts : ∀ ls : List (List (Option Nat)), optsI (ls.map fun l => .tup (l.map optD)) = some (ls.map fun l => l.map oI)
  | [] => rfl
  | l :: ls => by
    have ih := optsI_opts ls
    show (match optI (l.map optD), optsI (ls.map fun l => D.tup (l.map optD)) with
      | some o, some os => some (o :: os)
      | _, _ => none) = _
    rw [optI_opts, ih]; rfl
theorem ddO_len : ∀ l : List (List (Option Int)), (ddO l).length ≤ l.length
  | [] => by simp [ddO]
  | x :: xs => by
    have := ddO_len xs
    unfold ddO
    split <;> simp <;> omega
theorem ddO_same {α : Type} {f g : α → List (Option Int)} : ∀ {l : List α}, (∀ a ∈ l, ∀ b ∈ l, f a = f b ↔ g a = g b) → (ddO (l.map f)).length = (ddO (l.map g)).length
  | [], _ => rfl
  | a :: l, h => by
    have ih := ddO_same (l := l) fun x hx y hy => h x (by simp [hx]) y (by simp [hy])
    have m : f a ∈ l.map f ↔ g a ∈ l.map g := by
      rw [List.mem_map, List.mem_map]
      exact ⟨fun ⟨b, hb, e⟩ => ⟨b, hb, (h b (by simp [hb]) a (by simp)).mp e⟩, fun ⟨b, hb, e⟩ => ⟨b, hb, (h b (by simp [hb]) a (by simp)).mpr e⟩⟩
    rw [List.map_cons, List.map_cons]
    unfold ddO
    by_cases q : f a ∈ l.map f
    · rw [if_pos q, if_pos (m.mp q), ih]
    · rw [if_neg q, if_neg (fun z => q (m.mpr z)), List.length_cons, List.length_cons, ih]
theorem ords_24 {n : Nat} (h : n ≤ 4) : (ordsK n n).length ≤ 24 := by
  have : n = 0 ∨ n = 1 ∨ n = 2 ∨ n = 3 ∨ n = 4 := by omega
  rcases this with rfl | rfl | rfl | rfl | rfl <;> decide
def nLooks (ws : List Win) : Nat := (ddO ((ordsK ws.length ws.length).map fun o => (scrW ws o).map oI)).length
theorem mapI_inj : ∀ {a b : List (Option Nat)}, a.map oI = b.map oI → a = b
  | [], [], _ => rfl
  | [], _ :: _, h => by cases h
  | _ :: _, [], h => by cases h
  | x :: a, y :: b, h => by
    rw [List.map_cons, List.map_cons, List.cons.injEq] at h
    rw [oI_inj h.1, mapI_inj h.2]
theorem map_oI {a b : List (Option Nat)} : a.map oI = b.map oI ↔ a = b := by
  constructor
  · exact mapI_inj
  · intro h; rw [h]
theorem lenSet_opts {ls : List (List (Option Nat))} (h : ls.length ≤ 60) : lenSetD [.lst (ls.map fun l => .tup (l.map optD))] = some (nD (ddO (ls.map fun l => l.map oI)).length) := by
  show (match optsI (ls.map fun l => D.tup (l.map optD)) with
    | some ks => if (ddO ks).length + 1 < 64 then some (D.int (ddO ks).length) else none
    | none => none) = _
  rw [optsI_opts]
  show (if (ddO (ls.map fun l => l.map oI)).length + 1 < 64 then some (D.int (ddO (ls.map fun l => l.map oI)).length) else none) = _
  have := ddO_len (ls.map fun l => l.map oI)
  rw [List.length_map] at this
  rw [if_pos (by omega)]; rfl
theorem s_count_looks {ws : List Win} (hw : Wins ws) (h4 : ws.length ≤ 4) : fD_count_looks [wins ws] = .ok (nD (nLooks ws)) := by
  have cw := s_check_windows hw
  obtain ⟨rg, h1, h2⟩ := s_find_regions hw h4
  have lw : lenD [wins ws] = some (nD ws.length) := len_wins ws
  have ao := s_all_orders (n := ws.length) (by omega)
  have e : ∀ b0 b2 : Sl, lcL (.nm 2) [2] yesF (callF fD_look_of (consF (getV 1) (consF (getV 2) nilF))) ((ordsK ws.length ws.length).map natsT) [b0, .val (.lst (rg.map natsT)), b2] = .ok (((ordsK ws.length ws.length).map fun o => rg.map (tpR o)).map fun l => .tup (l.map optD)) := fun _ _ => by
    rw [List.map_map]
    exact lcL_all (fun o => D.tup ((rg.map (tpR o)).map optD)) fun o _ => ⟨_, rfl, by
      have := s_look_of rg o
      generalize D.tup ((rg.map (tpR o)).map optD) = T1 at *
      generalize D.lst (rg.map natsT) = RG at *
      generalize natsT o = O at *
      simp [this]⟩
  have ls := lenSet_opts (ls := (ordsK ws.length ws.length).map fun o => rg.map (tpR o)) (by rw [List.length_map]; have := ords_24 h4; omega)
  have nn : (ddO (((ordsK ws.length ws.length).map fun o => rg.map (tpR o)).map fun l => l.map oI)).length = nLooks ws := by
    unfold nLooks
    rw [List.map_map]
    refine ddO_same fun a ha b hb => ?_
    show (rg.map (tpR a)).map oI = (rg.map (tpR b)).map oI ↔ (scrW ws a).map oI = (scrW ws b).map oI
    rw [map_oI, map_oI]
    have := look_scr (ordsK_ord.mp ha) (ordsK_ord.mp hb) h2
    rw [decide_eq_decide] at this
    exact this
  rw [nn] at ls
  generalize ((ordsK ws.length ws.length).map fun o => rg.map (tpR o)).map (fun l => D.tup (l.map optD)) = LL at *
  generalize (ordsK ws.length ws.length).map natsT = OK at *
  generalize nD (nLooks ws) = NL at *
  generalize nD ws.length = N at *
  generalize D.lst (rg.map natsT) = RG at *
  generalize wins ws = W at *
  simp [fD_count_looks, G_count_looks, cw, h1, lw, ao, e, ls]
/-! ### alike orders, sure pairs -/
theorem s_alike_orders {ws : List Win} (hw : Wins ws) (h4 : ws.length ≤ 4) {o : List Nat} (ho : IsOrd ws.length o) : fD_alike_orders [wins ws, natsT o] = .ok (.lst ((alikeL ws o).map natsT)) := by
  have cb := s_check_both hw ho
  have fa := s_find_alike hw h4 ho
  generalize (alikeL ws o).map natsT = AL at *
  generalize natsT o = O at *
  generalize wins ws = W at *
  simp [fD_alike_orders, G_alike_orders, cb, fa]
def abvB (al : List (List Nat)) (i j : Nat) : Bool := al.all fun o => decide (o.idxOf j < o.idxOf i)
def sureP (al : List (List Nat)) (i j : Nat) : Bool := !decide (i = j) && abvB al i j
def pr2 (c : Nat × Nat) : D := .tup [nD c.1, nD c.2]
def sureL (al : List (List Nat)) (n : Nat) : List (Nat × Nat) := (List.range n).flatMap fun i => ((List.range n).filter fun j => sureP al i j).map fun j => (i, j)
theorem gt_idx {o : List Nat} {i j : Nat} (hi : i ∈ o) (hj : j ∈ o) : gtI (nD (o.idxOf i)) (nD (o.idxOf j)) = some (decide (o.idxOf j < o.idxOf i)) := by
  show some (decide (((o.idxOf i : Nat) : Int) > ((o.idxOf j : Nat) : Int))) = _
  congr 1
  rw [decide_eq_decide]; omega
theorem sp0 {al : List (List Nat)} {n : Nat} (h : ∀ o ∈ al, IsOrd n o) {i j : Nat} (hi : i < n) (hj : j < n) {acc : List D} (sm : small (acc.length + 1) = true) (s0 s1 s6 : Sl) :
    B_sure_pairs_0 [s0, s1, .val (nD i), .val (.lst (al.map natsT)), .own acc, .val (nD j), s6] = .next [s0, s1, .val (nD i), .val (.lst (al.map natsT)), .own (acc ++ (if sureP al i j = true then [pr2 (i, j)] else [])), .val (nD j), s6] := by
  have ne := neD_nD i j
  have e : ∀ b0 b1 b3 b4 b6 : Sl, lcL (.nm 6) [6] yesF (bin (fun x y => toD (gtI x y)) (metT tixD (getV 6) (consF (getV 2) nilF)) (metT tixD (getV 6) (consF (getV 5) nilF))) (al.map natsT) [b0, b1, .val (nD i), b3, b4, .val (nD j), b6] = .ok (al.map fun o : List Nat => D.bl (decide (o.idxOf j < o.idxOf i))) := fun b0 b1 b3 b4 b6 =>
    lcL_all (fun o : List Nat => D.bl (decide (o.idxOf j < o.idxOf i))) fun o ho => ⟨_, rfl, by
      have oo := h o ho
      have io : i ∈ o := oo.mem_iff.mpr (List.mem_range.mpr hi)
      have jo : j ∈ o := oo.mem_iff.mpr (List.mem_range.mpr hj)
      have m1 : metT tixD (getV 6) (consF (getV 2) nilF) [b0, b1, .val (nD i), b3, b4, .val (nD j), .val (natsT o)] = .ok (nD (o.idxOf i)) := met_tix rfl rfl io
      have m2 : metT tixD (getV 6) (consF (getV 5) nilF) [b0, b1, .val (nD i), b3, b4, .val (nD j), .val (natsT o)] = .ok (nD (o.idxOf j)) := met_tix rfl rfl jo
      have g := gt_idx io jo
      generalize decide (o.idxOf j < o.idxOf i) = b at *
      generalize nD (o.idxOf i) = I1 at *
      generalize nD (o.idxOf j) = J1 at *
      generalize natsT o = O at *
      generalize nD i = II at *
      generalize nD j = JJ at *
      simp [m1, m2, g]⟩
  have al1 := all_map (fun o : List Nat => decide (o.idxOf j < o.idxOf i)) al
  have sq : asSeq (.lst (al.map natsT)) = some (al.map natsT) := rfl
  have tt : D.tup [nD i, nD j] = pr2 (i, j) := rfl
  unfold sureP
  show _ = Out.next [s0, s1, .val (nD i), .val (.lst (al.map natsT)), .own (acc ++ (if (!decide (i = j) && al.all fun o => decide (o.idxOf j < o.idxOf i)) = true then [pr2 (i, j)] else [])), .val (nD j), s6]
  generalize (al.all fun o => decide (o.idxOf j < o.idxOf i)) = b at *
  generalize al.map (fun o : List Nat => D.bl (decide (o.idxOf j < o.idxOf i))) = BL at *
  generalize al.map natsT = AL at *
  generalize pr2 (i, j) = PR at *
  generalize decide (i = j) = d at *
  generalize nD i = II at *
  generalize nD j = JJ at *
  cases d with
  | true => simp [B_sure_pairs_0, ne]
  | false =>
    cases b with
    | true => simp [B_sure_pairs_0, ne, sq, e, al1, appS, sm, tt]
    | false => simp [B_sure_pairs_0, ne, sq, e, al1]
theorem filt_flat (p : Nat → Bool) (i : Nat) : ∀ l : List Nat, l.flatMap (fun j => if p j = true then [pr2 (i, j)] else []) = ((l.filter p).map fun j => (i, j)).map pr2
  | [] => rfl
  | j :: l => by
    rw [List.flatMap_cons, filt_flat p i l, List.filter_cons]
    cases p j <;> simp
theorem row_le (al : List (List Nat)) (n i : Nat) : (((List.range n).filter fun j => sureP al i j).map fun j => (i, j)).length ≤ n := by
  rw [List.length_map]
  have := List.length_filter_le (fun j => sureP al i j) (List.range n)
  rw [List.length_range] at this
  exact this
theorem s_sure_pairs {ws : List Win} (hw : Wins ws) (h4 : ws.length ≤ 4) {o : List Nat} (ho : IsOrd ws.length o) : fD_sure_pairs [wins ws, natsT o] = .ok (.lst ((sureL (alikeL ws o) ws.length).map pr2)) := by
  have cb := s_check_both hw ho
  have fa := s_find_alike hw h4 ho
  have lw : lenD [wins ws] = some (nD ws.length) := len_wins ws
  have rn : asRng1 [nD ws.length] = some ((List.range ws.length).map nD) := asRng1_nat (by omega)
  have oa : ∀ q ∈ alikeL ws o, IsOrd ws.length q := fun q hq => ordsK_ord.mp (List.mem_filter.mp hq).1
  generalize alikeL ws o = al at *
  have inner : ∀ (i : Nat) (hi : i < ws.length) (acc : List D) (hl : acc.length ≤ 50) (s5 s6 : Sl), ∃ t5 : Sl, B_sure_pairs_1 [.val (wins ws), .val (natsT o), .val (nD i), .val (.lst (al.map natsT)), .own acc, s5, s6] = .next [.val (wins ws), .val (natsT o), .val (nD i), .val (.lst (al.map natsT)), .own (acc ++ (((List.range ws.length).filter fun j => sureP al i j).map fun j => (i, j)).map pr2), t5, s6] := fun i hi acc hl s5 s6 => by
    obtain ⟨t5, hf⟩ := forL_acc (p := .nm 5) (G := B_sure_pairs_0) (enc := nD) (δ := Sl) (fun acc d => [.val (wins ws), .val (natsT o), .val (nD i), .val (.lst (al.map natsT)), .own acc, d, s6]) (fun j => if sureP al i j = true then [pr2 (i, j)] else []) 1 100 (xs := List.range ws.length) acc s5 (by simp; omega) (fun j _ => by split <;> simp) (by
      rintro acc d j hj hb
      have hj' := List.mem_range.mp hj
      exact ⟨_, .val (nD j), rfl, sp0 oa hi hj' (small_le (by omega)) _ _ _⟩)
    rw [filt_flat] at hf
    refine ⟨t5, ?_⟩
    generalize (((List.range ws.length).filter fun j => sureP al i j).map fun j => (i, j)).map pr2 = RW at *
    generalize (List.range ws.length).map nD = RG at *
    generalize nD ws.length = N at *
    generalize wins ws = W at *
    generalize natsT o = O at *
    generalize nD i = II at *
    generalize al.map natsT = AL at *
    simp [B_sure_pairs_1, lw, rn, hf]
  obtain ⟨e', hl, t2, t5, rfl⟩ := forL_ind (p := .nm 2) (G := B_sure_pairs_1) (enc := nD) (xs := List.range ws.length) (e := [.val (wins ws), .val (natsT o), .no, .val (.lst (al.map natsT)), .own [], .no, .no])
    (fun pre e => ∃ t2 t5 : Sl, e = [.val (wins ws), .val (natsT o), t2, .val (.lst (al.map natsT)), .own ((pre.flatMap fun i => ((List.range ws.length).filter fun j => sureP al i j).map fun j => (i, j)).map pr2), t5, .no]) ⟨_, _, rfl⟩ (by
      rintro pre i suf hq e ⟨t2, t5, rfl⟩
      have hi : i < ws.length := List.mem_range.mp (by rw [hq]; simp)
      have pl : pre.length ≤ 4 := by
        have := congrArg List.length hq
        simp at this; omega
      have bl := len_le 4 pre (fun i => ((List.range ws.length).filter fun j => sureP al i j).map fun j => (i, j)) fun i _ => by have := row_le al ws.length i; omega
      obtain ⟨u5, h⟩ := inner i hi ((pre.flatMap fun i => ((List.range ws.length).filter fun j => sureP al i j).map fun j => (i, j)).map pr2) (by rw [List.length_map]; omega) t5 .no
      refine ⟨_, rfl, _, .inl h, .val (nD i), u5, ?_⟩
      rw [List.flatMap_append, List.map_append]
      simp)
  have fr : frzE 4 [.val (wins ws), .val (natsT o), t2, .val (.lst (al.map natsT)), .own ((sureL al ws.length).map pr2), t5, .no] = [.val (wins ws), .val (natsT o), t2, .val (.lst (al.map natsT)), .val (.lst ((sureL al ws.length).map pr2)), t5, .no] := rfl
  have hl : forL (.nm 2) B_sure_pairs_1 ((List.range ws.length).map nD) [.val (wins ws), .val (natsT o), .no, .val (.lst (al.map natsT)), .own [], .no, .no] = .next [.val (wins ws), .val (natsT o), t2, .val (.lst (al.map natsT)), .own ((sureL al ws.length).map pr2), t5, .no] := hl
  generalize (sureL al ws.length).map pr2 = SL at *
  generalize (List.range ws.length).map nD = RG at *
  generalize nD ws.length = N at *
  generalize wins ws = W at *
  generalize natsT o = O at *
  generalize al.map natsT = AL at *
  simp [fD_sure_pairs, G_sure_pairs, cb, setPar, slV, slN, fa, lw, rn, hl, frzS, fr]

/-! ### the law -/
theorem neD_nil_nats (g : List Nat) : neD (natsT g) (.tup []) = some (!decide (g = [])) := neD_of (pl_64 (pl_natsT g)) rfl (by
  unfold natsT
  rw [D.tup.injEq]; simp)
theorem lb2 (s0 s1 s2 s3 s5 s6 s7 s8 s9 s11 s12 s13 s14 s15 s16 s17 s18 s19 s20 s4 : Sl) :
    ∃ t4 : Sl, forL (.nm 4) B_law_2 ((List.range 12).map nD) [s0, s1, s2, s3, s4, s5, s6, s7, s8, s9, .own [], s11, s12, s13, s14, s15, s16, s17, s18, s19, s20] =
      .next [s0, s1, s2, s3, t4, s5, s6, s7, s8, s9, .own (grid.map cellD), s11, s12, s13, s14, s15, s16, s17, s18, s19, s20] := by
  have r12 : asRng1 [.int 12] = some ((List.range 12).map nD) := asRng1_nat (n := 12) (by omega)
  obtain ⟨t4, hl⟩ := forL_acc (p := .nm 4) (G := B_law_2) (enc := nD) (δ := Sl) (fun acc d => [s0, s1, s2, s3, d, s5, s6, s7, s8, s9, .own acc, s11, s12, s13, s14, s15, s16, s17, s18, s19, s20])
    (fun x => (List.range 12).map fun y => cellD (((x : Nat) : Int), ((y : Nat) : Int))) 12 200 (xs := List.range 12) [] s4 (by simp) (fun x _ => by simp) (by
      intro acc d x hx hb
      refine ⟨_, .val (nD x), rfl, ?_⟩
      refine (ext_ok (ds := acc) (es := (List.range 12).map fun y => cellD (((x : Nat) : Int), ((y : Nat) : Int))) rfl ?_ (small_le (by simp; omega))).trans rfl
      have e1 : lcL (.nm 12) [12] yesF (tupF (consF (getV 4) (consF (getV 12) nilF))) ((List.range 12).map nD) [s0, s1, s2, s3, .val (nD x), s5, s6, s7, s8, s9, .own acc, s11, s12, s13, s14, s15, s16, s17, s18, s19, s20] = .ok ((List.range 12).map fun y => cellD (((x : Nat) : Int), ((y : Nat) : Int))) :=
        lcL_all (fun y => cellD (((x : Nat) : Int), ((y : Nat) : Int))) fun y _ => ⟨_, rfl, by simp [cellD, nD]⟩
      simp only [u_lc, u_appL, u_cons, u_cst, e_set0, e_setS, e_bind, u_nil, e_map, r12, e_some]
      exact e1)
  rw [List.nil_append] at hl
  have eq : (List.range 12).flatMap (fun x => (List.range 12).map fun y => cellD (((x : Nat) : Int), ((y : Nat) : Int))) = grid.map cellD := by
    rw [grid_eq, List.map_flatMap]
    simp only [List.map_map, Function.comp_def]
  rw [eq] at hl
  exact ⟨t4, hl⟩
theorem lb1 {ws : List Win} (h4 : ws.length ≤ 4) (s0 s1 s4 s5 s6 s7 s8 s9 s10 s12 s13 s14 s15 s16 s17 s18 s19 s20 : Sl) :
    ∃ t4 t12 : Sl, forL (.tp [4, 12]) B_law_1 (grid.map cellD) [s0, s1, .val (wins ws), .val (nD ws.length), s4, s5, s6, s7, s8, s9, s10, .own [], s12, s13, s14, s15, s16, s17, s18, s19, s20] =
      .next [s0, s1, .val (wins ws), .val (nD ws.length), t4, s5, s6, s7, s8, s9, s10, .own ((grid.map fun c => region ws c.1 c.2).map natsT), t12, s13, s14, s15, s16, s17, s18, s19, s20] := by
  have rn : asRng1 [nD ws.length] = some ((List.range ws.length).map nD) := asRng1_nat (by omega)
  obtain ⟨⟨t4, t12⟩, hl⟩ := forL_acc (p := .tp [4, 12]) (G := B_law_1) (enc := cellD) (δ := Sl × Sl) (fun acc d => [s0, s1, .val (wins ws), .val (nD ws.length), d.1, s5, s6, s7, s8, s9, s10, .own acc, d.2, s13, s14, s15, s16, s17, s18, s19, s20])
    (fun c => [natsT (region ws c.1 c.2)]) 1 200 (xs := grid) [] (s4, s12) (by rw [grid_len]; simp) (fun c _ => by simp) (by
      rintro acc ⟨d1, d2⟩ c hc hb
      refine ⟨_, (.val (.int c.1), .val (.int c.2)), rfl, ?_⟩
      have e : ∀ b0 b1 b5 b6 b7 b8 b9 b10 b11 b13 b14 b15 b16 b17 b18 b19 b20 : Sl, lcL (.nm 19) [19] (tst (callF fD__law_in (consF (bin ixD (getB 2) (getV 19)) (consF (getV 4) (consF (getV 12) nilF))))) (getV 19) ((List.range ws.length).map nD) [b0, b1, .val (wins ws), .val (nD ws.length), .val (.int c.1), b5, b6, b7, b8, b9, b10, b11, .val (.int c.2), b13, b14, b15, b16, b17, b18, b19, b20] = .ok ((region ws c.1 c.2).map nD) := fun _ _ _ _ _ _ _ _ _ _ _ _ _ _ _ _ _ =>
        lcL_ok (fun i => inW (wAt ws i) c.1 c.2) nD fun i hi => ⟨_, rfl, by
          have ii := ix_winsB (List.mem_range.mp hi)
          have li := s_law_in (wAt ws i) c.1 c.2
          generalize win (wAt ws i) = WI at *
          generalize wins ws = W at *
          generalize nD i = II at *
          simp [ii, li], fun _ => by simp⟩
      have tp : tupleD [.lst ((region ws c.1 c.2).map nD)] = some (natsT (region ws c.1 c.2)) := rfl
      have sm : small (acc.length + 1) = true := small_le (by omega)
      generalize (region ws c.1 c.2).map nD = RM at *
      generalize natsT (region ws c.1 c.2) = RT at *
      generalize (List.range ws.length).map nD = RG at *
      generalize nD ws.length = N at *
      generalize wins ws = W at *
      simp [B_law_1, rn, e, tp, appS, sm])
  rw [List.nil_append] at hl
  have eq : grid.flatMap (fun c => [natsT (region ws c.1 c.2)]) = (grid.map fun c => region ws c.1 c.2).map natsT := by
    rw [List.map_map]
    induction grid with
    | nil => rfl
    | cons c l ih => rw [List.flatMap_cons, ih]; rfl
  rw [eq] at hl
  exact ⟨t4, t12, hl⟩
theorem range_filt {α : Type} (d : α) (p : α → Bool) (l : List α) : ((List.range l.length).filter fun k => p (l.getD k d)).map (fun k => l.getD k d) = l.filter p := by
  have e : (List.range l.length).map (fun k => l.getD k d) = l := by
    apply List.ext_getElem?
    intro i
    rw [List.getElem?_map]
    by_cases h : i < l.length
    · rw [List.getElem?_range h, List.getElem?_eq_getElem h]
      simp [List.getD_eq_getElem?_getD, List.getElem?_eq_getElem h]
    · rw [List.getElem?_eq_none (by simp; omega), List.getElem?_eq_none (by omega)]; rfl
  conv => rhs; rw [← e]
  rw [List.filter_map]
  rfl
def lookV (ws : List Win) : Sl := .val (.dic ((ordsK ws.length ws.length).map natsT) ((ordsK ws.length ws.length).map fun o => .lst ((scrW ws o).map optD)))
theorem look_dix {ws : List Win} {o : List Nat} (ho : IsOrd ws.length o) : dixD (.dic ((ordsK ws.length ws.length).map natsT) ((ordsK ws.length ws.length).map fun o => .lst ((scrW ws o).map optD))) (natsT o) = some (.lst ((scrW ws o).map optD)) :=
  dix_nats (fun o => .lst ((scrW ws o).map optD)) (ordsK_ord.mpr ho)
theorem grid_at {k : Nat} (h : k < 144) : grid[k]? = some (grid.getD k (0, 0)) := by
  rw [← grid_len] at h
  rw [List.getD_eq_getElem?_getD, List.getElem?_eq_getElem h]; rfl
theorem lc_part {ws : List Win} {o o' : List Nat} (ho : IsOrd ws.length o) (ho' : IsOrd ws.length o') (b0 b1 b2 b3 b4 b6 b7 b8 b9 b11 b12 b15 b16 b17 b18 b19 b20 : Sl) :
    lcL (.nm 16) [16] (bin neD (bin ixD (bin dixD (getB 5) (getV 13)) (getV 16)) (bin ixD (bin dixD (getB 5) (getV 14)) (getV 16))) (bin ixD (getB 10) (getV 16)) ((List.range 144).map nD) [b0, b1, b2, b3, b4, lookV ws, b6, b7, b8, b9, .val (.lst (grid.map cellD)), b11, b12, .val (natsT o), .val (natsT o'), b15, b16, b17, b18, b19, b20] = .ok ((partL ws o o').map cellD) := by
  have d1 := look_dix ho
  have d2 := look_dix ho'
  have x1 : ∀ (q : List Nat) (k : Nat), k < 144 → ixD (.lst ((scrW ws q).map optD)) (nD k) = some (optD (topW ws q (grid.getD k (0, 0)).1 (grid.getD k (0, 0)).2)) := fun q k hk => by
    refine (ix_nat (xs := (scrW ws q).map optD) ?_).2
    unfold scrW
    rw [List.getElem?_map, List.getElem?_map, grid_at hk]; rfl
  have x2 : ∀ k, k < 144 → ixD (.lst (grid.map cellD)) (nD k) = some (cellD (grid.getD k (0, 0))) := fun k hk => by
    refine (ix_nat (xs := grid.map cellD) ?_).2
    rw [List.getElem?_map, grid_at hk]; rfl
  have e := lcL_ok (p := .nm 16) (vs := [16]) (t := bin neD (bin ixD (bin dixD (getB 5) (getV 13)) (getV 16)) (bin ixD (bin dixD (getB 5) (getV 14)) (getV 16))) (f := bin ixD (getB 10) (getV 16)) (env := [b0, b1, b2, b3, b4, lookV ws, b6, b7, b8, b9, .val (.lst (grid.map cellD)), b11, b12, .val (natsT o), .val (natsT o'), b15, b16, b17, b18, b19, b20]) (enc := nD) (fun k => difC ws o o' (grid.getD k (0, 0))) (fun k => cellD (grid.getD k (0, 0))) (xs := List.range 144) fun k hk => ⟨_, rfl, by
    have hk := List.mem_range.mp hk
    have y1 := x1 o k hk
    have y2 := x1 o' k hk
    have q : neD (optD (topW ws o (grid.getD k (0, 0)).1 (grid.getD k (0, 0)).2)) (optD (topW ws o' (grid.getD k (0, 0)).1 (grid.getD k (0, 0)).2)) = some (difC ws o o' (grid.getD k (0, 0))) := by
      rw [neD_of (p := topW ws o (grid.getD k (0, 0)).1 (grid.getD k (0, 0)).2 = topW ws o' (grid.getD k (0, 0)).1 (grid.getD k (0, 0)).2) (pl_64 (pl_opt 0 _)) (pl_64 (pl_opt 0 _)) ⟨optD_inj, fun e => by rw [e]⟩]
      rfl
    unfold lookV
    generalize difC ws o o' (grid.getD k (0, 0)) = b at *
    generalize optD (topW ws o (grid.getD k (0, 0)).1 (grid.getD k (0, 0)).2) = T1 at *
    generalize optD (topW ws o' (grid.getD k (0, 0)).1 (grid.getD k (0, 0)).2) = T2 at *
    generalize (ordsK ws.length ws.length).map natsT = KS at *
    generalize ((ordsK ws.length ws.length).map fun o => D.lst ((scrW ws o).map optD)) = VS at *
    generalize D.lst ((scrW ws o).map optD) = L1 at *
    generalize D.lst ((scrW ws o').map optD) = L2 at *
    generalize natsT o = O at *
    generalize natsT o' = O' at *
    generalize nD k = KK at *
    simp [d1, d2, y1, y2, q], fun _ => by
    have y3 := x2 k (List.mem_range.mp hk)
    generalize grid.map cellD = GC at *
    generalize cellD (grid.getD k (0, 0)) = CK at *
    generalize nD k = KK at *
    simp [y3]⟩
  rw [e]
  have z := range_filt ((0 : Int), (0 : Int)) (difC ws o o') grid
  rw [grid_len] at z
  unfold partL
  rw [← z, List.map_map]
  rfl
theorem nd_pr2 (l : List (Nat × Nat)) : plD 2 (.lst (l.map pr2)) = true := pl_lst fun d hd => by
  obtain ⟨c, _, rfl⟩ := List.mem_map.mp hd
  simp [pr2, plD, plDs]
theorem lb0 {al : List (List Nat)} {n : Nat} (hn : n ≤ 4) (h : ∀ o ∈ al, IsOrd n o) {i : Nat} (hi : i < n) {acc : List D} (sm : acc.length ≤ 50) (s0 s1 s2 s4 s5 s6 s10 s11 s12 s13 s14 s15 s16 s17 s18 s19 s20 : Sl) :
    ∃ t15 : Sl, B_law_0 [s0, s1, s2, .val (nD n), s4, s5, s6, .val (.lst (al.map natsT)), .own acc, .val (nD i), s10, s11, s12, s13, s14, s15, s16, s17, s18, s19, s20] =
      .next [s0, s1, s2, .val (nD n), s4, s5, s6, .val (.lst (al.map natsT)), .own (acc ++ (((List.range n).filter fun j => sureP al i j).map fun j => (i, j)).map pr2), .val (nD i), s10, s11, s12, s13, s14, t15, s16, s17, s18, s19, s20] := by
  have rn : asRng1 [nD n] = some ((List.range n).map nD) := asRng1_nat (by omega)
  have sq : asSeq (.lst (al.map natsT)) = some (al.map natsT) := rfl
  have e18 : ∀ (j : Nat) (hj : j < n) (b0 b1 b2 b3 b4 b5 b6 b7 b8 b10 b11 b12 b13 b14 b15 b16 b18 b19 b20 : Sl), lcL (.nm 18) [18] yesF (bin (fun x y => toD (gtI x y)) (metT tixD (getV 18) (consF (getV 9) nilF)) (metT tixD (getV 18) (consF (getV 17) nilF))) (al.map natsT) [b0, b1, b2, b3, b4, b5, b6, b7, b8, .val (nD i), b10, b11, b12, b13, b14, b15, b16, .val (nD j), b18, b19, b20] = .ok (al.map fun o : List Nat => D.bl (decide (o.idxOf j < o.idxOf i))) := fun j hj b0 b1 b2 b3 b4 b5 b6 b7 b8 b10 b11 b12 b13 b14 b15 b16 b18 b19 b20 =>
    lcL_all (fun o : List Nat => D.bl (decide (o.idxOf j < o.idxOf i))) fun o ho => ⟨_, rfl, by
      have oo := h o ho
      have io : i ∈ o := oo.mem_iff.mpr (List.mem_range.mpr hi)
      have jo : j ∈ o := oo.mem_iff.mpr (List.mem_range.mpr hj)
      have m1 : metT tixD (getV 18) (consF (getV 9) nilF) [b0, b1, b2, b3, b4, b5, b6, b7, b8, .val (nD i), b10, b11, b12, b13, b14, b15, b16, .val (nD j), .val (natsT o), b19, b20] = .ok (nD (o.idxOf i)) := met_tix rfl rfl io
      have m2 : metT tixD (getV 18) (consF (getV 17) nilF) [b0, b1, b2, b3, b4, b5, b6, b7, b8, .val (nD i), b10, b11, b12, b13, b14, b15, b16, .val (nD j), .val (natsT o), b19, b20] = .ok (nD (o.idxOf j)) := met_tix rfl rfl jo
      have g := gt_idx io jo
      generalize decide (o.idxOf j < o.idxOf i) = b at *
      generalize nD (o.idxOf i) = I1 at *
      generalize nD (o.idxOf j) = J1 at *
      generalize natsT o = O at *
      generalize nD i = II at *
      generalize nD j = JJ at *
      simp [m1, m2, g]⟩
  have e17 : ∀ b0 b1 b2 b4 b5 b6 b8 b10 b11 b12 b13 b14 b15 b16 b17 b18 b19 b20 : Sl, lcL (.nm 17) [17] yesF (mkL (lcF (.nm 18) [18] yesF (bin (fun x y => toD (gtI x y)) (metT tixD (getV 18) (consF (getV 9) nilF)) (metT tixD (getV 18) (consF (getV 17) nilF))) (seqF (getV 7)))) ((List.range n).map nD) [b0, b1, b2, .val (nD n), b4, b5, b6, .val (.lst (al.map natsT)), b8, .val (nD i), b10, b11, b12, b13, b14, b15, b16, b17, b18, b19, b20] = .ok ((List.range n).map fun j => .lst (al.map fun o : List Nat => D.bl (decide (o.idxOf j < o.idxOf i)))) := fun b0 b1 b2 b4 b5 b6 b8 b10 b11 b12 b13 b14 b15 b16 b17 b18 b19 b20 =>
    lcL_all (fun j => .lst (al.map fun o : List Nat => D.bl (decide (o.idxOf j < o.idxOf i)))) fun j hj => ⟨_, rfl, by
      have e := e18 j (List.mem_range.mp hj)
      generalize al.map (fun o : List Nat => D.bl (decide (o.idxOf j < o.idxOf i))) = BL at *
      generalize al.map natsT = AL at *
      generalize nD i = II at *
      generalize nD j = JJ at *
      generalize nD n = NN at *
      simp [sq, e]⟩
  have ixm : ∀ j, j < n → ixD (.lst ((List.range n).map fun j => .lst (al.map fun o : List Nat => D.bl (decide (o.idxOf j < o.idxOf i))))) (nD j) = some (.lst (al.map fun o : List Nat => D.bl (decide (o.idxOf j < o.idxOf i)))) := fun j hj => by
    refine (ix_nat (xs := (List.range n).map fun j => D.lst (al.map fun o : List Nat => D.bl (decide (o.idxOf j < o.idxOf i)))) ?_).2
    rw [List.getElem?_map, List.getElem?_range hj]; rfl
  have ex : ∀ b0 b1 b2 b4 b5 b6 b8 b10 b11 b12 b13 b14 b16 b17 b18 b19 b20 : Sl, lcL (.nm 17) [17] (andF (bin neD (getB 9) (getB 17)) (tst (appL allD (consF (bin ixD (getB 15) (getV 17)) nilF)))) (tupF (consF (getV 9) (consF (getV 17) nilF))) ((List.range n).map nD) [b0, b1, b2, .val (nD n), b4, b5, b6, .val (.lst (al.map natsT)), b8, .val (nD i), b10, b11, b12, b13, b14, .val (.lst ((List.range n).map fun j => .lst (al.map fun o : List Nat => D.bl (decide (o.idxOf j < o.idxOf i))))), b16, b17, b18, b19, b20] = .ok ((((List.range n).filter fun j => sureP al i j).map fun j => (i, j)).map pr2) := fun b0 b1 b2 b4 b5 b6 b8 b10 b11 b12 b13 b14 b16 b17 b18 b19 b20 => by
    rw [List.map_map]
    refine lcL_ok (fun j => sureP al i j) (fun j => pr2 (i, j)) fun j hj => ⟨_, rfl, ?_, fun _ => ?_⟩
    · have ne := neD_nD i j
      have ii := ixm j (List.mem_range.mp hj)
      have al1 := all_map (fun o : List Nat => decide (o.idxOf j < o.idxOf i)) al
      show _ = R.ok (!decide (i = j) && al.all fun o => decide (o.idxOf j < o.idxOf i))
      generalize (al.all fun o => decide (o.idxOf j < o.idxOf i)) = b at *
      generalize D.lst ((List.range n).map fun j => D.lst (al.map fun o : List Nat => D.bl (decide (o.idxOf j < o.idxOf i)))) = MM at *
      generalize al.map (fun o : List Nat => D.bl (decide (o.idxOf j < o.idxOf i))) = BL at *
      generalize decide (i = j) = d at *
      generalize nD i = II at *
      generalize nD j = JJ at *
      generalize nD n = NN at *
      cases d with
      | true => simp [ne]
      | false => simp [ne, ii, al1]
    · show _ = R.ok (D.tup [nD i, nD j])
      generalize nD i = II at *
      generalize nD j = JJ at *
      generalize nD n = NN at *
      simp
  have rl := row_le al n i
  have sm2 : small (acc.length + ((((List.range n).filter fun j => sureP al i j).map fun j => (i, j)).map pr2).length) = true := small_le (by rw [List.length_map]; omega)
  refine ⟨.val (.lst ((List.range n).map fun j => .lst (al.map fun o : List Nat => D.bl (decide (o.idxOf j < o.idxOf i))))), ?_⟩
  generalize (((List.range n).filter fun j => sureP al i j).map fun j => (i, j)).map pr2 = RW at *
  generalize ((List.range n).map fun j => D.lst (al.map fun o : List Nat => D.bl (decide (o.idxOf j < o.idxOf i)))) = MM at *
  generalize (List.range n).map nD = RG at *
  generalize nD n = NN at *
  generalize nD i = II at *
  generalize al.map natsT = AL at *
  simp [B_law_0, rn, e17, ex, extS, sm2]

theorem part_get {ws : List Win} (hw : Wins ws) {o o' : List Nat} (ho : IsOrd ws.length o) (ho' : IsOrd ws.length o') : ∃ PC : D, fD_parting_cell [wins ws, natsT o, natsT o'] = .ok PC ∧ neD PC PC = some false ∧
    (decide (scrW ws o = scrW ws o') = true → PC = .non) ∧ (decide (scrW ws o = scrW ws o') = false → ixD (.lst ((partL ws o o').map cellD)) (.int 0) = some PC) := by
  have h := s_parting hw ho ho'
  have sp := scr_part (ws := ws) (o := o) (o' := o')
  rw [← sp]
  cases q : partL ws o o' with
  | nil =>
    rw [q] at h
    exact ⟨.non, h, neD_self rfl, fun _ => rfl, fun z => by simp at z⟩
  | cons c l =>
    rw [q] at h
    exact ⟨cellD c, h, neD_self (pl_64 (pl_cell c)), fun z => by simp at z, fun _ => (ix_nat (i := 0) rfl).2⟩
theorem b3_step {ns : List Int} (h63 : ns.length ≤ 63) {i : Nat} (hi : i < 2) (s2 s3 s4 s5 s6 s7 s8 s9 s10 s11 s12 s13 s14 s15 s16 s17 s18 s19 s20 : Sl) :
    ∃ t2 t3 t4 t5 t6 t7 t8 t9 t10 t11 t12 t13 t14 t15 t16 t17 t18 t19 t20 : Sl, B_law_3 [.val (.scr ns), .val (nD i), s2, s3, s4, s5, s6, s7, s8, s9, s10, s11, s12, s13, s14, s15, s16, s17, s18, s19, s20] =
      .next [.val (.scr ns), .val (nD i), t2, t3, t4, t5, t6, t7, t8, t9, t10, t11, t12, t13, t14, t15, t16, t17, t18, t19, t20] := by
  obtain ⟨ws, hw, hlen, hp, _⟩ := s_panes h63 (k := 60 * i) (most := 4) (by omega) (by omega)
  have h4 : ws.length ≤ 4 := by omega
  obtain ⟨os, ho, hos⟩ := s_order h63 (k := 60 * i + 30) (by omega) (n := ws.length) (by omega)
  obtain ⟨ot, ht, hot⟩ := s_order h63 (k := 60 * i + 40) (by omega) (n := ws.length) (by omega)
  have i60 : mulD (.int 60) (nD i) = some (.int (60 * i)) := u_mulL 60 i (by omega) (by omega)
  have lw : lenD [wins ws] = some (nD ws.length) := len_wins ws
  have rn : asRng1 [nD ws.length] = some ((List.range ws.length).map nD) := asRng1_nat (by omega)
  have r12 : asRng1 [.int 12] = some ((List.range 12).map nD) := asRng1_nat (n := 12) (by omega)
  have r144 : asRng1 [.int 144] = some ((List.range 144).map nD) := asRng1_nat (n := 144) (by omega)
  obtain ⟨t4, l2⟩ := lb2 (.val (.scr ns)) (.val (nD i)) (.val (wins ws)) (.val (nD ws.length)) s5 s6 s7 s8 s9 (.own []) s12 s13 s14 s15 s16 s17 s18 s19 s20 s4
  obtain ⟨t4', t12, l1⟩ := lb1 h4 (.val (.scr ns)) (.val (nD i)) t4 s5 s6 s7 s8 s9 (.val (.lst (grid.map cellD))) s12 s13 s14 s15 s16 s17 s18 s19 s20
  have sqc : asSeq (.lst (grid.map cellD)) = some (grid.map cellD) := rfl
  have rg1 := s_regions hw h4
  have e20 : ∀ b0 b1 b2 b3 b4 b5 b6 b7 b8 b9 b10 b12 b13 b14 b15 b16 b17 b18 b19 b20 b11 : Sl, lcL (.nm 20) [20] (bin neD (getB 20) (tupF nilF)) (getV 20) ((grid.map fun c => region ws c.1 c.2).map natsT) [b0, b1, b2, b3, b4, b5, b6, b7, b8, b9, b10, b11, b12, b13, b14, b15, b16, b17, b18, b19, b20] = .ok (((grid.map fun c => region ws c.1 c.2).filter fun g => !decide (g = [])).map natsT) := fun _ _ _ _ _ _ _ _ _ _ _ _ _ _ _ _ _ _ _ _ _ =>
    lcL_ok (fun g : List Nat => !decide (g = [])) natsT fun g _ => ⟨_, rfl, by
      have := neD_nil_nats g
      generalize natsT g = G at *
      simp [this], fun _ => by simp⟩
  have sq11 : asSeq (.lst ((grid.map fun c => region ws c.1 c.2).map natsT)) = some ((grid.map fun c => region ws c.1 c.2).map natsT) := rfl
  have rg2 := law_rg h4
  have rgn : neD (.lst (rgD ws)) (.lst (rgD ws)) = some false := neD_self (pl_64 (pl_rgD ws))
  have og := s_law_orders (n := ws.length) (by omega)
  have e9 : ∀ b0 b1 b3 b4 b5 b6 b7 b8 b9 b10 b11 b12 b13 b14 b15 b16 b17 b18 b19 b20 : Sl, lcL (.nm 9) [9] yesF (tupF (consF (getV 9) (consF (callF fD__law_screen (consF (getV 2) (consF (getV 9) nilF))) nilF))) ((ordsK ws.length ws.length).map natsT) [b0, b1, .val (wins ws), b3, b4, b5, b6, b7, b8, b9, b10, b11, b12, b13, b14, b15, b16, b17, b18, b19, b20] = .ok ((ordsK ws.length ws.length).map fun o => .tup [natsT o, .lst ((scrW ws o).map optD)]) := fun _ _ _ _ _ _ _ _ _ _ _ _ _ _ _ _ _ _ _ _ =>
    lcL_all (fun o => .tup [natsT o, .lst ((scrW ws o).map optD)]) fun o hmem => ⟨_, rfl, by
      have := s_law_screen (ordsK_ord.mp hmem)
      have this : fD__law_screen [wins ws, natsT o] = .ok (.lst ((scrW ws o).map optD)) := this
      generalize natsT o = O at *
      generalize D.lst ((scrW ws o).map optD) = L1 at *
      simp [this]⟩
  have dd := dictD_nats (fun o => .lst ((scrW ws o).map optD)) (ordsK_nd (n := ws.length) ws.length)
  have ep := fun b0 b1 b2 b3 b4 b6 b7 b8 b9 b11 b12 b15 b16 b17 b18 b19 b20 => lc_part ho ht b0 b1 b2 b3 b4 b6 b7 b8 b9 b11 b12 b15 b16 b17 b18 b19 b20
  have aa := s_are_alike hw h4 ho ht
  have q6 : eqD (.lst ((partL ws os ot).map cellD)) (.lst []) = some (decide (scrW ws os = scrW ws ot)) := by
    have z : decide ((partL ws os ot).map cellD = []) = decide (partL ws os ot = []) := by rw [decide_eq_decide, List.map_eq_nil_iff]
    rw [eqD_nil (pl_64 (pl_cells _)), z, scr_part]
  have n6 : neD (.lst ((partL ws os ot).map cellD)) (.lst []) = some (!decide (scrW ws os = scrW ws ot)) := by
    unfold neD
    rw [q6]; rfl
  have nb : neD (.bl (decide (scrW ws os = scrW ws ot))) (.bl (decide (scrW ws os = scrW ws ot))) = some false := by rw [neD_bl]; simp
  obtain ⟨PC, pc1, pc2, pc3, pc4⟩ := part_get hw ho ht
  have cl := s_count_looks hw h4
  have ev : ∀ b0 b1 b2 b3 b4 b6 b7 b8 b9 b10 b11 b12 b13 b14 b15 b16 b17 b18 b19 b20 : Sl, lcVF 5 (.nm 9) [9] yesF (appL tupleD (consF (bin dixD (getB 5) (getV 9)) nilF)) [b0, b1, b2, b3, b4, lookV ws, b6, b7, b8, b9, b10, b11, b12, b13, b14, b15, b16, b17, b18, b19, b20] = .ok (((ordsK ws.length ws.length).map (scrW ws)).map fun l => .tup (l.map optD)) := fun b0 b1 b2 b3 b4 b6 b7 b8 b9 b10 b11 b12 b13 b14 b15 b16 b17 b18 b19 b20 => by
    have e := lcL_all (p := .nm 9) (vs := [9]) (f := appL tupleD (consF (bin dixD (getB 5) (getV 9)) nilF)) (env := [b0, b1, b2, b3, b4, lookV ws, b6, b7, b8, b9, b10, b11, b12, b13, b14, b15, b16, b17, b18, b19, b20]) (enc := natsT) (fun o => D.tup ((scrW ws o).map optD)) (xs := ordsK ws.length ws.length) fun o hm => ⟨_, rfl, by
      have d1 := look_dix (ordsK_ord.mp hm)
      have tp : tupleD [.lst ((scrW ws o).map optD)] = some (.tup ((scrW ws o).map optD)) := rfl
      unfold lookV
      generalize (ordsK ws.length ws.length).map natsT = KS at *
      generalize ((ordsK ws.length ws.length).map fun o => D.lst ((scrW ws o).map optD)) = VS at *
      generalize D.tup ((scrW ws o).map optD) = T1 at *
      generalize D.lst ((scrW ws o).map optD) = L1 at *
      generalize natsT o = O at *
      simp [d1, tp]⟩
    unfold lcVF lookV
    show noErr (lcL _ _ _ _ ((ordsK ws.length ws.length).map natsT) _) = _
    unfold lookV at e
    rw [e, List.map_map]; rfl
  have ls := lenSet_opts (ls := (ordsK ws.length ws.length).map (scrW ws)) (by rw [List.length_map]; have := ords_24 h4; omega)
  have nn : (ddO (((ordsK ws.length ws.length).map (scrW ws)).map fun l => l.map oI)).length = nLooks ws := by
    unfold nLooks
    rw [List.map_map]; rfl
  rw [nn] at ls
  have nln : neD (nD (nLooks ws)) (nD (nLooks ws)) = some false := neD_self (pl_nat 64 _)
  have ea : ∀ b0 b1 b2 b3 b4 b6 b7 b8 b9 b10 b11 b12 b14 b15 b16 b17 b18 b19 b20 : Sl, lcL (.nm 9) [9] (bin eqD (bin dixD (getB 5) (getV 9)) (bin dixD (getB 5) (getV 13))) (getV 9) ((ordsK ws.length ws.length).map natsT) [b0, b1, b2, b3, b4, lookV ws, b6, b7, b8, b9, b10, b11, b12, .val (natsT os), b14, b15, b16, b17, b18, b19, b20] = .ok ((alikeL ws os).map natsT) := fun _ _ _ _ _ _ _ _ _ _ _ _ _ _ _ _ _ _ _ =>
    lcL_ok (fun o => decide (scrW ws o = scrW ws os)) natsT fun o hm => ⟨_, rfl, by
      have d1 := look_dix (ordsK_ord.mp hm)
      have d2 := look_dix ho
      have q := eqD_optsL (scrW ws o) (scrW ws os)
      unfold lookV
      generalize (ordsK ws.length ws.length).map natsT = KS at *
      generalize ((ordsK ws.length ws.length).map fun o => D.lst ((scrW ws o).map optD)) = VS at *
      generalize D.lst ((scrW ws o).map optD) = L1 at *
      generalize D.lst ((scrW ws os).map optD) = L2 at *
      generalize natsT o = O at *
      generalize natsT os = O2 at *
      simp [d1, d2, q], fun _ => by simp⟩
  have ao := s_alike_orders hw h4 ho
  have aon : neD (.lst ((alikeL ws os).map natsT)) (.lst ((alikeL ws os).map natsT)) = some false := neD_self (pl_64 (pl_gs _))
  have oa : ∀ q ∈ alikeL ws os, IsOrd ws.length q := fun q hq => ordsK_ord.mp (List.mem_filter.mp hq).1
  have spr := s_sure_pairs hw h4 ho
  have spn : neD (.lst ((sureL (alikeL ws os) ws.length).map pr2)) (.lst ((sureL (alikeL ws os) ws.length).map pr2)) = some false := neD_self (pl_64 (nd_pr2 _))
  obtain ⟨e', hl, t9, t15, rfl⟩ := forL_ind (p := .nm 9) (G := B_law_0) (enc := nD) (xs := List.range ws.length) (e := [.val (.scr ns), .val (nD i), .val (wins ws), .val (nD ws.length), t4', lookV ws, .val (.lst ((partL ws os ot).map cellD)), .val (.lst ((alikeL ws os).map natsT)), .own [], s9, .val (.lst (grid.map cellD)), .own ((grid.map fun c => region ws c.1 c.2).map natsT), t12, .val (natsT os), .val (natsT ot), s15, s16, s17, s18, s19, s20])
    (fun pre e => ∃ t9 t15 : Sl, e = [.val (.scr ns), .val (nD i), .val (wins ws), .val (nD ws.length), t4', lookV ws, .val (.lst ((partL ws os ot).map cellD)), .val (.lst ((alikeL ws os).map natsT)), .own ((pre.flatMap fun i => ((List.range ws.length).filter fun j => sureP (alikeL ws os) i j).map fun j => (i, j)).map pr2), t9, .val (.lst (grid.map cellD)), .own ((grid.map fun c => region ws c.1 c.2).map natsT), t12, .val (natsT os), .val (natsT ot), t15, s16, s17, s18, s19, s20]) ⟨_, _, rfl⟩ (by
      rintro pre x suf hq e ⟨t9, t15, rfl⟩
      have hx : x < ws.length := List.mem_range.mp (by rw [hq]; simp)
      have pl : pre.length ≤ 4 := by
        have := congrArg List.length hq
        simp at this; omega
      have bl := len_le 4 pre (fun i => ((List.range ws.length).filter fun j => sureP (alikeL ws os) i j).map fun j => (i, j)) fun i _ => by have := row_le (alikeL ws os) ws.length i; omega
      obtain ⟨u15, h⟩ := lb0 h4 oa hx (acc := (pre.flatMap fun i => ((List.range ws.length).filter fun j => sureP (alikeL ws os) i j).map fun j => (i, j)).map pr2) (by rw [List.length_map]; omega) (.val (.scr ns)) (.val (nD i)) (.val (wins ws)) t4' (lookV ws) (.val (.lst ((partL ws os ot).map cellD))) (.val (.lst (grid.map cellD))) (.own ((grid.map fun c => region ws c.1 c.2).map natsT)) t12 (.val (natsT os)) (.val (natsT ot)) t15 s16 s17 s18 s19 s20
      refine ⟨_, rfl, _, .inl h, .val (nD x), u15, ?_⟩
      rw [List.flatMap_append, List.map_append]
      simp)
  have hl : forL (.nm 9) B_law_0 ((List.range ws.length).map nD) [.val (.scr ns), .val (nD i), .val (wins ws), .val (nD ws.length), t4', lookV ws, .val (.lst ((partL ws os ot).map cellD)), .val (.lst ((alikeL ws os).map natsT)), .own [], s9, .val (.lst (grid.map cellD)), .own ((grid.map fun c => region ws c.1 c.2).map natsT), t12, .val (natsT os), .val (natsT ot), s15, s16, s17, s18, s19, s20] =
      .next [.val (.scr ns), .val (nD i), .val (wins ws), .val (nD ws.length), t4', lookV ws, .val (.lst ((partL ws os ot).map cellD)), .val (.lst ((alikeL ws os).map natsT)), .own ((sureL (alikeL ws os) ws.length).map pr2), t9, .val (.lst (grid.map cellD)), .own ((grid.map fun c => region ws c.1 c.2).map natsT), t12, .val (natsT os), .val (natsT ot), t15, s16, s17, s18, s19, s20] := hl
  refine ⟨.val (wins ws), .val (nD ws.length), t4', lookV ws, .val (.lst ((partL ws os ot).map cellD)), .val (.lst ((alikeL ws os).map natsT)), .own ((sureL (alikeL ws os) ws.length).map pr2), t9, .val (.lst (grid.map cellD)), .own ((grid.map fun c => region ws c.1 c.2).map natsT), t12, .val (natsT os), .val (natsT ot), t15, s16, s17, s18, s19, s20, ?_⟩
  have hos' : fD__law_order [.scr ns, .int (60 * i + 30), nD ws.length] = .ok (natsT os) := hos
  have hot' : fD__law_order [.scr ns, .int (60 * i + 40), nD ws.length] = .ok (natsT ot) := hot
  have fr : ∀ (a0 a1 a2 a3 a4 a5 a6 a7 a8 a9 a11 a12 a13 a14 a15 a16 a17 a18 a19 a20 : Sl) (M : List D), frzE 10 [a0, a1, a2, a3, a4, a5, a6, a7, a8, a9, .own M, a11, a12, a13, a14, a15, a16, a17, a18, a19, a20] = [a0, a1, a2, a3, a4, a5, a6, a7, a8, a9, .val (.lst M), a11, a12, a13, a14, a15, a16, a17, a18, a19, a20] := fun _ _ _ _ _ _ _ _ _ _ _ _ _ _ _ _ _ _ _ _ _ => rfl
  unfold lookV at *
  generalize decide (scrW ws os = scrW ws ot) = b at *
  generalize (((grid.map fun c => region ws c.1 c.2).filter fun g => !decide (g = [])).map natsT) = GF at *
  generalize (grid.map fun c => region ws c.1 c.2).map natsT = GR at *
  generalize rgD ws = RGD at *
  generalize ((ordsK ws.length ws.length).map (scrW ws)).map (fun l => D.tup (l.map optD)) = SS at *
  generalize nD (nLooks ws) = NL at *
  generalize (ordsK ws.length ws.length).map natsT = KS at *
  generalize ((ordsK ws.length ws.length).map fun o => D.lst ((scrW ws o).map optD)) = VS at *
  generalize ((ordsK ws.length ws.length).map fun o => D.tup [natsT o, D.lst ((scrW ws o).map optD)]) = PS at *
  generalize (sureL (alikeL ws os) ws.length).map pr2 = SL at *
  generalize (alikeL ws os).map natsT = AL at *
  generalize (partL ws os ot).map cellD = PL at *
  generalize grid.map cellD = GC at *
  generalize (List.range 144).map nD = R1 at *
  generalize (List.range 12).map nD = R2 at *
  generalize (List.range ws.length).map nD = RG at *
  generalize nD ws.length = N at *
  generalize natsT os = O at *
  generalize natsT ot = O' at *
  generalize wins ws = W at *
  cases b with
  | true =>
    have pc3 := pc3 rfl
    subst pc3
    simp [B_law_3, i60, hp, lw, setPar, slN, slV, r12, l2, frzS, fr, sqc, l1, sq11, rg1, e20, rg2, rgn, hos', hot', og, e9, dd, mkM, r144, ep, aa, q6, nb, pc1, n6, pc2, cl, ev, ls, nln, ea, ao, aon, rn, hl, spr, spn]
  | false =>
    have pc4 := pc4 rfl
    simp [B_law_3, i60, hp, lw, setPar, slN, slV, r12, l2, frzS, fr, sqc, l1, sq11, rg1, e20, rg2, rgn, hos', hot', og, e9, dd, mkM, r144, ep, aa, q6, nb, pc1, n6, pc4, pc2, cl, ev, ls, nln, ea, ao, aon, rn, hl, spr, spn]

theorem law_true (ns : List Int) (h63 : ns.length ≤ 63) : fD_law [.scr ns] = .ok (.bl true) := by
  have r2 : asRng1 [.int 2] = some ((List.range 2).map nD) := asRng1_nat (n := 2) (by omega)
  obtain ⟨e', hL, t1, t2, t3, t4, t5, t6, t7, t8, t9, t10, t11, t12, t13, t14, t15, t16, t17, t18, t19, t20, rfl⟩ := forL_ind (p := .nm 1) (G := B_law_3) (enc := nD) (xs := List.range 2) (e := [.val (.scr ns), .no, .no, .no, .no, .no, .no, .no, .no, .no, .no, .no, .no, .no, .no, .no, .no, .no, .no, .no, .no])
    (fun pre e => ∃ t1 t2 t3 t4 t5 t6 t7 t8 t9 t10 t11 t12 t13 t14 t15 t16 t17 t18 t19 t20, e = [.val (.scr ns), t1, t2, t3, t4, t5, t6, t7, t8, t9, t10, t11, t12, t13, t14, t15, t16, t17, t18, t19, t20]) ⟨_, _, _, _, _, _, _, _, _, _, _, _, _, _, _, _, _, _, _, _, rfl⟩ (by
      rintro pre i suf hq e ⟨t1, t2, t3, t4, t5, t6, t7, t8, t9, t10, t11, t12, t13, t14, t15, t16, t17, t18, t19, t20, rfl⟩
      have hi : i < 2 := List.mem_range.mp (by rw [hq]; simp)
      obtain ⟨u2, u3, u4, u5, u6, u7, u8, u9, u10, u11, u12, u13, u14, u15, u16, u17, u18, u19, u20, h⟩ := b3_step h63 hi t2 t3 t4 t5 t6 t7 t8 t9 t10 t11 t12 t13 t14 t15 t16 t17 t18 t19 t20
      exact ⟨_, rfl, _, .inl h, _, _, _, _, _, _, _, _, _, _, _, _, _, _, _, _, _, _, _, _, rfl⟩)
  have dw : Wins [⟨0, 0, 4, 4⟩, ⟨2, 2, 6, 6⟩, ⟨3, 0, 5, 3⟩] := ⟨fun w h => by
    simp only [List.mem_cons, List.not_mem_nil, or_false] at h
    rcases h with rfl | rfl | rfl <;> simp [Win.Ok], by simp⟩
  have d1 := s_count_looks dw (by simp)
  have n1 : nLooks [⟨0, 0, 4, 4⟩, ⟨2, 2, 6, 6⟩, ⟨3, 0, 5, 3⟩] = 6 := by
    unfold nLooks scrW
    rw [grid_eq]
    decide +kernel
  rw [n1] at d1
  have d1' : fD_count_looks [.tup [.tup [.int 0, .int 0, .int 4, .int 4], .tup [.int 2, .int 2, .int 6, .int 6], .tup [.int 3, .int 0, .int 5, .int 3]]] = .ok (.int 6) := d1
  have d2 := s_count_looks (ws := []) ⟨by simp, by simp⟩ (by simp)
  have n2 : nLooks [] = 1 := by
    unfold nLooks scrW
    rw [grid_eq]
    decide +kernel
  rw [n2] at d2
  have d2' : fD_count_looks [.tup []] = .ok (.int 1) := d2
  simp [fD_law, G_law, r2, hL, d1', d2']

end PD

set_option maxHeartbeats 0
namespace Hd
open PySem PySem.Spec PyProof.Rows L2 PD
def cls (K : PySem.W.Frag) : Exc → Addr
  | .paneError => He.ga K "PaneError"
  | .windows => He.ga K "InvalidWindows"
  | .order => He.ga K "InvalidOrder"
  | _ => 0
theorem facts {P : Program} {w : World} {K : PySem.W.Frag} {h : Heap} {mg : Str → Option Value} {f : Addr} (X : K.In h) (G : h.Ns mainGlobals mg) (hfa : mg ("law" : Str) = some (.ref f)) (c : He.SaysD fa fn K) :
    ∃ fd : FuncData, (∀ (s : Shared) (v : Value), BindsTo s fd ⟨[v], []⟩ [("_law_script", v)]) ∧ ∀ base : Heap, K.In base → base.Ns mainGlobals mg → FnOk P w K mg base (L2.CX P w) 8 f fd ["_law_script"] (spD K (cls K) 1 fD_law) := by
  obtain ⟨fd_is_int, F_is_int⟩ := c.def_ 0 (d := mk "is_int" (top 7)) rfl
  obtain ⟨fd_covers, F_covers⟩ := c.def_ 7 (d := mk "covers" (top 14)) rfl
  obtain ⟨fd_cells_of, F_cells_of⟩ := c.def_ 8 (d := mk "cells_of" (top 15)) rfl
  obtain ⟨fd_top_of, F_top_of⟩ := c.def_ 11 (d := mk "top_of" (top 18)) rfl
  obtain ⟨fd_all_orders, F_all_orders⟩ := c.def_ 18 (d := mk "all_orders" (top 26)) rfl
  obtain ⟨fd__law_pick, F__law_pick⟩ := c.def_ 23 (d := mk "_law_pick" (top 32)) rfl
  obtain ⟨fd__law_in, F__law_in⟩ := c.def_ 26 (d := mk "_law_in" (top 35)) rfl
  obtain ⟨fd__law_orders, F__law_orders⟩ := c.def_ 30 (d := mk "_law_orders" (top 39)) rfl
  obtain ⟨fd_is_window, F_is_window⟩ := c.def_ 1 (d := mk "is_window" (top 8)) rfl
  obtain ⟨fd_has_order, F_has_order⟩ := c.def_ 3 (d := mk "has_order" (top 10)) rfl
  obtain ⟨fd_region_at, F_region_at⟩ := c.def_ 9 (d := mk "region_at" (top 16)) rfl
  obtain ⟨fd_all_cells, F_all_cells⟩ := c.def_ 10 (d := mk "all_cells" (top 17)) rfl
  obtain ⟨fd_look_of, F_look_of⟩ := c.def_ 14 (d := mk "look_of" (top 22)) rfl
  obtain ⟨fd__law_pane, F__law_pane⟩ := c.def_ 24 (d := mk "_law_pane" (top 33)) rfl
  obtain ⟨fd__law_order, F__law_order⟩ := c.def_ 27 (d := mk "_law_order" (top 36)) rfl
  obtain ⟨fd__law_top, F__law_top⟩ := c.def_ 28 (d := mk "_law_top" (top 37)) rfl
  obtain ⟨fd_are_windows, F_are_windows⟩ := c.def_ 2 (d := mk "are_windows" (top 9)) rfl
  obtain ⟨fd_check_order, F_check_order⟩ := c.def_ 5 (d := mk "check_order" (top 12)) rfl
  obtain ⟨fd_find_regions, F_find_regions⟩ := c.def_ 12 (d := mk "find_regions" (top 20)) rfl
  obtain ⟨fd__law_panes, F__law_panes⟩ := c.def_ 25 (d := mk "_law_panes" (top 34)) rfl
  obtain ⟨fd__law_screen, F__law_screen⟩ := c.def_ 29 (d := mk "_law_screen" (top 38)) rfl
  obtain ⟨fd_check_windows, F_check_windows⟩ := c.def_ 4 (d := mk "check_windows" (top 11)) rfl
  obtain ⟨fd_find_alike, F_find_alike⟩ := c.def_ 20 (d := mk "find_alike" (top 28)) rfl
  obtain ⟨fd_check_both, F_check_both⟩ := c.def_ 6 (d := mk "check_both" (top 13)) rfl
  obtain ⟨fd_regions, F_regions⟩ := c.def_ 13 (d := mk "regions" (top 21)) rfl
  obtain ⟨fd_count_looks, F_count_looks⟩ := c.def_ 19 (d := mk "count_looks" (top 27)) rfl
  obtain ⟨fd_check_two, F_check_two⟩ := c.def_ 15 (d := mk "check_two" (top 23)) rfl
  obtain ⟨fd_alike_orders, F_alike_orders⟩ := c.def_ 21 (d := mk "alike_orders" (top 29)) rfl
  obtain ⟨fd_sure_pairs, F_sure_pairs⟩ := c.def_ 22 (d := mk "sure_pairs" (top 30)) rfl
  obtain ⟨fd_are_alike, F_are_alike⟩ := c.def_ 16 (d := mk "are_alike" (top 24)) rfl
  obtain ⟨fd_parting_cell, F_parting_cell⟩ := c.def_ 17 (d := mk "parting_cell" (top 25)) rfl
  obtain ⟨fd_law, F_law⟩ := c.def_ 31 (d := mk "law" (top 40)) rfl
  have e := hfa.symm.trans (He.glo_ok X G (c.fact 38 (f := .glo "law") rfl))
  cases e
  have b := FunD.bindsA (ps := ["_law_script"]) F_law fun _ _ _ _ _ _ us hl => match us, hl with | [_], _ => rfl
  refine ⟨fd_law, fun s v => b s [v] rfl, fun base _ _ => ?_⟩
  have B : Bi mg := ⟨He.free_ok X G (c.fact 39 (f := .free "len") rfl), He.free_ok X G (c.fact 40 (f := .free "all") rfl), He.free_ok X G (c.fact 41 (f := .free "any") rfl), He.free_ok X G (c.fact 42 (f := .free "isinstance") rfl), He.free_ok X G (c.fact 43 (f := .free "tuple") rfl), He.free_ok X G (c.fact 44 (f := .free "list") rfl), He.free_ok X G (c.fact 45 (f := .free "range") rfl), He.free_ok X G (c.fact 46 (f := .free "sorted") rfl), He.free_ok X G (c.fact 47 (f := .free "enumerate") rfl), He.free_ok X G (c.fact 48 (f := .free "max") rfl), He.free_ok X G (c.fact 49 (f := .free "min") rfl), He.free_ok X G (c.fact 50 (f := .free "set") rfl), He.free_ok X G (c.fact 51 (f := .free "dict") rfl), He.free_ok X G (c.fact 52 (f := .free "zip") rfl), He.free_ok X G (c.fact 53 (f := .free "bool") rfl), He.free_ok X G (c.fact 54 (f := .free "int") rfl), He.free_ok X G (c.fact 55 (f := .free "abs") rfl), He.free_ok X G (c.fact 56 (f := .free "sum") rfl), He.free_ok X G (c.fact 57 (f := .free "str") rfl)⟩
  have c_MAX_WINDOWS : ∃ t, mg "MAX_WINDOWS" = some (.int 6 t) := He.int_ok X G (c.fact 6 (f := .int "MAX_WINDOWS" 6) rfl)
  have c_SCREEN : ∃ t, mg "SCREEN" = some (.int 12 t) := He.int_ok X G (c.fact 5 (f := .int "SCREEN" 12) rfl)
  have e_InvalidOrder : ExcAt K mg "InvalidOrder" (cls K .order) := have z := He.exc_ok (c.fact 4 (f := .exc "InvalidOrder") rfl); ⟨He.glo_ok X G (c.fact 3 (f := .glo "InvalidOrder") rfl), z.1, z.2.1, z.2.2.1, z.2.2.2⟩
  have e_InvalidWindows : ExcAt K mg "InvalidWindows" (cls K .windows) := have z := He.exc_ok (c.fact 2 (f := .exc "InvalidWindows") rfl); ⟨He.glo_ok X G (c.fact 1 (f := .glo "InvalidWindows") rfl), z.1, z.2.1, z.2.2.1, z.2.2.2⟩
  have g_is_int : Fn P w K mg base (cls K) 1 "is_int" 3 fD_is_int := ok_is_int B F_is_int (He.glo_ok X G (c.fact 7 (f := .glo "is_int") rfl))  
  have g_covers : Fn P w K mg base (cls K) 1 "covers" 2 fD_covers := ok_covers B F_covers (He.glo_ok X G (c.fact 14 (f := .glo "covers") rfl))  
  have g_cells_of : Fn P w K mg base (cls K) 1 "cells_of" 1 fD_cells_of := ok_cells_of B F_cells_of (He.glo_ok X G (c.fact 15 (f := .glo "cells_of") rfl))  
  have g_top_of : Fn P w K mg base (cls K) 1 "top_of" 2 fD_top_of := ok_top_of B F_top_of (He.glo_ok X G (c.fact 18 (f := .glo "top_of") rfl))  
  have g_all_orders : Fn P w K mg base (cls K) 1 "all_orders" 1 fD_all_orders := ok_all_orders B F_all_orders (He.glo_ok X G (c.fact 25 (f := .glo "all_orders") rfl))  
  have g__law_pick : Fn P w K mg base (cls K) 1 "_law_pick" 3 fD__law_pick := ok__law_pick B F__law_pick (He.glo_ok X G (c.fact 30 (f := .glo "_law_pick") rfl))  
  have g__law_in : Fn P w K mg base (cls K) 1 "_law_in" 3 fD__law_in := ok__law_in B F__law_in (He.glo_ok X G (c.fact 33 (f := .glo "_law_in") rfl))  
  have g__law_orders : Fn P w K mg base (cls K) 1 "_law_orders" 1 fD__law_orders := ok__law_orders B F__law_orders (He.glo_ok X G (c.fact 37 (f := .glo "_law_orders") rfl))  
  have g_is_window : Fn P w K mg base (cls K) 2 "is_window" 1 fD_is_window := ok_is_window B F_is_window (He.glo_ok X G (c.fact 8 (f := .glo "is_window") rfl)) c_SCREEN g_is_int
  have g_has_order : Fn P w K mg base (cls K) 2 "has_order" 2 fD_has_order := ok_has_order B F_has_order (He.glo_ok X G (c.fact 10 (f := .glo "has_order") rfl))  g_is_int
  have g_region_at : Fn P w K mg base (cls K) 2 "region_at" 2 fD_region_at := ok_region_at B F_region_at (He.glo_ok X G (c.fact 16 (f := .glo "region_at") rfl))  g_covers
  have g_all_cells : Fn P w K mg base (cls K) 2 "all_cells" 1 fD_all_cells := ok_all_cells B F_all_cells (He.glo_ok X G (c.fact 17 (f := .glo "all_cells") rfl))  g_cells_of
  have g_look_of : Fn P w K mg base (cls K) 2 "look_of" 2 fD_look_of := ok_look_of B F_look_of (He.glo_ok X G (c.fact 21 (f := .glo "look_of") rfl))  g_top_of
  have g__law_pane : Fn P w K mg base (cls K) 2 "_law_pane" 2 fD__law_pane := ok__law_pane B F__law_pane (He.glo_ok X G (c.fact 31 (f := .glo "_law_pane") rfl))  g__law_pick
  have g__law_order : Fn P w K mg base (cls K) 2 "_law_order" 3 fD__law_order := ok__law_order B F__law_order (He.glo_ok X G (c.fact 34 (f := .glo "_law_order") rfl))  g__law_pick
  have g__law_top : Fn P w K mg base (cls K) 2 "_law_top" 4 fD__law_top := ok__law_top B F__law_top (He.glo_ok X G (c.fact 35 (f := .glo "_law_top") rfl))  g__law_in
  have g_are_windows : Fn P w K mg base (cls K) 3 "are_windows" 1 fD_are_windows := ok_are_windows B F_are_windows (He.glo_ok X G (c.fact 9 (f := .glo "are_windows") rfl)) c_MAX_WINDOWS g_is_window
  have g_check_order : Fn P w K mg base (cls K) 3 "check_order" 2 fD_check_order := ok_check_order B F_check_order (He.glo_ok X G (c.fact 12 (f := .glo "check_order") rfl)) e_InvalidOrder g_has_order
  have g_find_regions : Fn P w K mg base (cls K) 3 "find_regions" 1 fD_find_regions := ok_find_regions B F_find_regions (He.glo_ok X G (c.fact 19 (f := .glo "find_regions") rfl))  g_region_at g_all_cells
  have g__law_panes : Fn P w K mg base (cls K) 3 "_law_panes" 3 fD__law_panes := ok__law_panes B F__law_panes (He.glo_ok X G (c.fact 32 (f := .glo "_law_panes") rfl))  g__law_pick g__law_pane
  have g__law_screen : Fn P w K mg base (cls K) 3 "_law_screen" 2 fD__law_screen := ok__law_screen B F__law_screen (He.glo_ok X G (c.fact 36 (f := .glo "_law_screen") rfl))  g__law_top
  have g_check_windows : Fn P w K mg base (cls K) 4 "check_windows" 1 fD_check_windows := ok_check_windows B F_check_windows (He.glo_ok X G (c.fact 11 (f := .glo "check_windows") rfl)) e_InvalidWindows g_are_windows
  have g_find_alike : Fn P w K mg base (cls K) 4 "find_alike" 2 fD_find_alike := ok_find_alike B F_find_alike (He.glo_ok X G (c.fact 27 (f := .glo "find_alike") rfl))  g_find_regions g_look_of g_all_orders
  have g_check_both : Fn P w K mg base (cls K) 5 "check_both" 2 fD_check_both := ok_check_both B F_check_both (He.glo_ok X G (c.fact 13 (f := .glo "check_both") rfl))  g_check_windows g_check_order
  have g_regions : Fn P w K mg base (cls K) 5 "regions" 1 fD_regions := ok_regions B F_regions (He.glo_ok X G (c.fact 20 (f := .glo "regions") rfl))  g_check_windows g_find_regions
  have g_count_looks : Fn P w K mg base (cls K) 5 "count_looks" 1 fD_count_looks := ok_count_looks B F_count_looks (He.glo_ok X G (c.fact 26 (f := .glo "count_looks") rfl))  g_check_windows g_find_regions g_look_of g_all_orders
  have g_check_two : Fn P w K mg base (cls K) 6 "check_two" 3 fD_check_two := ok_check_two B F_check_two (He.glo_ok X G (c.fact 22 (f := .glo "check_two") rfl))  g_check_order g_check_both
  have g_alike_orders : Fn P w K mg base (cls K) 6 "alike_orders" 2 fD_alike_orders := ok_alike_orders B F_alike_orders (He.glo_ok X G (c.fact 28 (f := .glo "alike_orders") rfl))  g_check_both g_find_alike
  have g_sure_pairs : Fn P w K mg base (cls K) 6 "sure_pairs" 2 fD_sure_pairs := ok_sure_pairs B F_sure_pairs (He.glo_ok X G (c.fact 29 (f := .glo "sure_pairs") rfl))  g_check_both g_find_alike
  have g_are_alike : Fn P w K mg base (cls K) 7 "are_alike" 3 fD_are_alike := ok_are_alike B F_are_alike (He.glo_ok X G (c.fact 23 (f := .glo "are_alike") rfl))  g_find_regions g_look_of g_check_two
  have g_parting_cell : Fn P w K mg base (cls K) 7 "parting_cell" 3 fD_parting_cell := ok_parting_cell B F_parting_cell (He.glo_ok X G (c.fact 24 (f := .glo "parting_cell") rfl))  g_region_at g_all_cells g_top_of g_check_two
  exact ok_law (cls := cls K) B F_law  g_regions g_are_alike g_parting_cell g_count_looks g_alike_orders g_sure_pairs g__law_panes g__law_in g__law_order g__law_screen g__law_orders
end Hd
open PySem PySem.W PySem.Calls PyProof.Rows
theorem PySem.Challenge.cw_panestacks_k07_whole_looks_holds : PySem.Challenge.rw_panestacks_k07_whole_looks.Holds := by
  w_on; o_law
  refine HandSHeadRun.head_any (r := OpenLaw.row PySem.Challenge.rw_panestacks_k07_whole_looks) (q := view (OpenLaw.row PySem.Challenge.rw_panestacks_k07_whole_looks).prog [40]) (H := Hd.hk) (ob := Hd.ob) (M := 4000) (loose := Hd.nms) (d := HandSHeadRun.topDef (OpenLaw.row PySem.Challenge.rw_panestacks_k07_whole_looks).prog 40) (kwd := []) Hd.ob_eq
    (by kernel_rfl) (fun s => by kernel_rfl) Hd.run (by kernel_rfl) (by kernel_rfl) (by kernel_rfl) (by rfl) (by first | assumption | decide +kernel) (by decide +kernel) ⟨rfl, rfl, rfl, rfl, rfl, by decide +kernel⟩ ?hw ?hc
  case hw => w_witness2
  case hc =>
    refine PD.walk_ofX (l := PySem.Challenge.rw_panestacks_k07_whole_looks) (n := 63) (k := 8) (x := "_law_script") (CX := fun w => L2.CX (PySem.Challenge.rw_panestacks_k07_whole_looks).prog w) rfl (by decide) (by kernel_rfl) ⟨rfl, by decide, by decide⟩ ?F (fun w H s e s' h => by obtain ⟨_, _, _, _, _, _, _, _, _, _, _, _, z⟩ := h; exact z)
    intro w mg fa h Y G hmg0
    obtain ⟨K, KX, c⟩ := Y
    have hmg : mg ("law" : PySem.Str) = some (.ref fa) := by
      have e : (HandSHeadRun.topDef (OpenLaw.row PySem.Challenge.rw_panestacks_k07_whole_looks).prog 40).name = ("law" : PySem.Str) := by kernel_rfl
      rw [← e]
      exact hmg0
    obtain ⟨fd, hb, hF⟩ := Hd.facts (P := (PySem.Challenge.rw_panestacks_k07_whole_looks).prog) (w := w) KX G hmg c
    exact ⟨K, fd, PD.spD K (Hd.cls K) 1 PD.fD_law, KX, hb, fun H a ns hl _ hS => PD.law_sp PD.law_true hl hS, hF⟩
