import PyProof.Rows.All
import Wide.All
import OpenK.AllK
import Wide.FinOn
import KE.KStateDown
import Lean
import HandS.ForMost
import HandS.ForExc
import HandS.Defaults
import HandS.Head0
import HandS.Head1
import HandS.Head2
import HandS.HeadEnd
import HandS.HeadHook1
import HandS.HeadHook2
import HandS.Walk
import HandS.TupAny
import HandS.TupMul
import HandS.TupLe
import HandS.Deep
import HandS.IsInst
import HandS.ExcIs
import HandS.Wide
import HandS.Style
import HandS.Conv
import HandS.Zip
import HandS.Strs
import HandS.SortOrd
import HandS.SortInts
import HandS.DictComp
import KE.KIndexOf
import HandS.Star
import KE.KUnpack
import KE.SortData
import KE.KDictSum
import KE.GoesMore
import KE.GoesEnum
import HandS.SetFor
import HandS.SetKeys
import HandS.Rev
import KE.DataMinMax
import PySem.Challenge.RW_panestacks_k56_placing
set_option Elab.async false
set_option linter.all false
set_option maxRecDepth 100000
set_option maxHeartbeats 4000000
namespace PD
open PySem PySem.Spec PyProof.Rows L2
/-! ### pure data -/
inductive D where
  | non | bl (b : Bool) | int (i : Int) | str (x : Str) | tup (xs : List D) | itm (xs : List D) | lst (xs : List D) | scr (ns : List Int) | dic (ks vs : List D) | raw (v : V)
inductive Exc where
  | paneError | window | windows | order | cell | number | group | reports | move | size | sizes | tooLarge | nothing | parse
  deriving DecidableEq
inductive R (α : Type) where
  | ok (a : α) | err (c : Exc) | bad
def R.bind {α β : Type} (r : R α) (f : α → R β) : R β := match r with
  | .ok a => f a
  | .err c => .err c
  | .bad => .bad
def R.map {α β : Type} (f : α → β) (r : R α) : R β := match r with
  | .ok a => .ok (f a)
  | .err c => .err c
  | .bad => .bad
inductive Sl where
  | no | val (d : D) | own (xs : List D) | ownd (t : Bool) (ks vs : List D)
def Sl.isOwn : Sl → Bool
  | .own _ => true
  | .ownd _ _ _ => true
  | _ => false
abbrev EnvD := List Sl
inductive Out where
  | next (e : EnvD) | ret (d : D) | err (c : Exc) (e : EnvD) | brk (e : EnvD) | cont (e : EnvD) | bad
/-! ### how data stands in a heap -/
def kD : Key → D
  | .inl i => .int i
  | .inr x => .str x
/-- a tuple whose object is known, and has no dict of its own -/
def TupAt (H : Hp) (a : Addr) (xs : List V) : Prop := ∃ o : Obj, o.dict = none ∧ H a = some (.frz o (.tup xs))
theorem TupAt.mono {H H' : Hp} {a : Addr} {xs : List V} (h : TupAt H a xs) (e : Same H H') : TupAt H' a xs := let ⟨o, h1, h2⟩ := h; ⟨o, h1, e _ _ h2⟩
theorem TupAt.sq {K : PySem.W.Frag} {H : Hp} {a : Addr} {xs : List V} (h : TupAt H a xs) : SqT K H a xs := let ⟨o, _, h2⟩ := h; .inl (.inr ⟨o, h2⟩)
mutual
inductive Rep (K : PySem.W.Frag) (H : Hp) : V → D → Prop
  | non : Rep K H .non .non
  | bl (b : Bool) : Rep K H (.bl b) (.bl b)
  | int (i : Int) : Rep K H (.int i) (.int i)
  | str (x : Str) : Rep K H (.str x) (.str x)
  | tup {a : Addr} {xs : List V} {ds : List D} : TupAt H a xs → xs.length ≤ sizeLine → Reps K H xs ds → Rep K H (.ref a) (.tup ds)
  | itm {a : Addr} {xs : List V} {ds : List D} : H a = some (.tup xs) → xs.length ≤ sizeLine → Reps K H xs ds → Rep K H (.ref a) (.itm ds)
  | lst {a : Addr} {xs : List V} {ds : List D} : H a = some (.lst xs) → xs.length ≤ sizeLine → Reps K H xs ds → Rep K H (.ref a) (.lst ds)
  | scr {a : Addr} {ns : List Int} : SqL K H a (ns.map V.int) → ns.length ≤ 63 → Rep K H (.ref a) (.scr ns)
  | dicK {a : Addr} {kvs : List (Key × V)} {vs : List D} : Rd H a (.dK kvs) → kvs.length ≤ sizeLine → Reps K H (kvs.map (·.2)) vs → Rep K H (.ref a) (.dic (kvs.map fun p => kD p.1) vs)
  | dicT {a : Addr} {kvs : List (List Key × V)} {vs : List D} : Rd H a (.dT kvs) → (∀ q ∈ kvs, q.1.length ≤ sizeLine) → kvs.length ≤ sizeLine → Reps K H (kvs.map (·.2)) vs → Rep K H (.ref a) (.dic (kvs.map fun p => D.itm (p.1.map kD)) vs)
  | raw (v : V) : Rep K H v (.raw v)
inductive Reps (K : PySem.W.Frag) (H : Hp) : List V → List D → Prop
  | nil : Reps K H [] []
  | cons {v : V} {vs : List V} {d : D} {ds : List D} : Rep K H v d → Reps K H vs ds → Reps K H (v :: vs) (d :: ds)
end
section
variable {K : PySem.W.Frag} {F F' F'' H H' H'' : Hp}
theorem _root_.L2.Same.tupS {a : Addr} {xs : List V} (e : Same H H') (h : SqT K H a xs) : SqT K H' a xs := by
  rcases h with (h | ⟨o, h⟩) | h
  · exact .inl (.inl (e _ _ h))
  · exact .inl (.inr ⟨o, e _ _ h⟩)
  · exact .inr h
theorem _root_.L2.Rd.mono {a : Addr} {u : HO} (h : Rd H a u) (e : Same H H') : Rd H' a u := h.elim (fun h => .inl (e _ _ h)) fun ⟨ob, h⟩ => .inr ⟨ob, e _ _ h⟩
theorem Rep.mono {v : V} {d : D} (h : Rep K H v d) (e : Same H H') : Rep K H' v d :=
  Rep.rec (motive_1 := fun v d _ => Rep K H' v d) (motive_2 := fun vs ds _ => Reps K H' vs ds)
    .non .bl .int .str (fun a l _ r => .tup (a.mono e) l r) (fun a l _ r => .itm (e _ _ a) l r) (fun a l _ r => .lst (e _ _ a) l r) (fun a l => .scr (e.seq a) l) (fun a l _ r => .dicK (a.mono e) l r) (fun a k l _ r => .dicT (a.mono e) k l r) .raw .nil (fun _ _ a b => .cons a b) h
theorem Reps.mono {vs : List V} {ds : List D} (h : Reps K H vs ds) (e : Same H H') : Reps K H' vs ds := by
  induction ds generalizing vs with
  | nil => cases h; exact .nil
  | cons d ds ih => cases h with | cons a b => exact .cons (a.mono e) (ih b)
theorem Rep.swap (hz : ∀ a xs, TupAt H a xs → TupAt H' a xs) (ht : ∀ a xs, H a = some (.tup xs) → H' a = some (.tup xs)) (hl : ∀ a xs, H a = some (.lst xs) → H' a = some (.lst xs)) (hs : ∀ a xs, SqL K H a xs → SqL K H' a xs) (hk : ∀ a kvs, Rd H a (.dK kvs) → Rd H' a (.dK kvs)) (hd : ∀ a kvs, Rd H a (.dT kvs) → Rd H' a (.dT kvs))
    {v : V} {d : D} (h : Rep K H v d) : Rep K H' v d :=
  Rep.rec (motive_1 := fun v d _ => Rep K H' v d) (motive_2 := fun vs ds _ => Reps K H' vs ds)
    .non .bl .int .str (fun a l _ r => .tup (hz _ _ a) l r) (fun a l _ r => .itm (ht _ _ a) l r) (fun a l _ r => .lst (hl _ _ a) l r) (fun a l => .scr (hs _ _ a) l) (fun a l _ r => .dicK (hk _ _ a) l r) (fun a k l _ r => .dicT (hd _ _ a) k l r) .raw .nil (fun _ _ a b => .cons a b) h
theorem Reps.swap (hz : ∀ a xs, TupAt H a xs → TupAt H' a xs) (ht : ∀ a xs, H a = some (.tup xs) → H' a = some (.tup xs)) (hl : ∀ a xs, H a = some (.lst xs) → H' a = some (.lst xs)) (hs : ∀ a xs, SqL K H a xs → SqL K H' a xs) (hk : ∀ a kvs, Rd H a (.dK kvs) → Rd H' a (.dK kvs)) (hd : ∀ a kvs, Rd H a (.dT kvs) → Rd H' a (.dT kvs))
    {vs : List V} {ds : List D} (h : Reps K H vs ds) : Reps K H' vs ds := by
  induction ds generalizing vs with
  | nil => cases h; exact .nil
  | cons d ds ih => cases h with | cons a b => exact .cons (a.swap hz ht hl hs hk hd) (ih b)
theorem Reps.length {vs : List V} {ds : List D} (h : Reps K H vs ds) : vs.length = ds.length := by
  induction ds generalizing vs with
  | nil => cases h; rfl
  | cons d ds ih => cases h with | cons a b => simp [ih b]
theorem Reps.get {vs : List V} {ds : List D} (h : Reps K H vs ds) : ∀ {i : Nat} {d : D}, ds[i]? = some d → ∃ v, vs[i]? = some v ∧ Rep K H v d := by
  induction ds generalizing vs with
  | nil => intro i d e; simp at e
  | cons x ds ih =>
    cases h with
    | cons a b =>
      intro i d e
      cases i with
      | zero => simp at e; subst e; exact ⟨_, rfl, a⟩
      | succ i => simp at e; obtain ⟨v, h1, h2⟩ := ih b e; exact ⟨v, by simpa using h1, h2⟩
theorem Reps.getV {vs : List V} {ds : List D} (h : Reps K H vs ds) {i : Nat} {v : V} (e : vs[i]? = some v) : ∃ d, ds[i]? = some d ∧ Rep K H v d := by
  have hl := h.length
  obtain ⟨hi, _⟩ := List.getElem?_eq_some_iff.mp e
  obtain ⟨v', h1, h2⟩ := h.get (i := i) (d := ds[i]'(by omega)) (by simp [show i < ds.length by omega])
  rw [e] at h1; cases h1
  exact ⟨_, by simp [show i < ds.length by omega], h2⟩
theorem Reps.append {vs ws : List V} {ds es : List D} (h : Reps K H vs ds) (h' : Reps K H ws es) : Reps K H (vs ++ ws) (ds ++ es) := by
  induction ds generalizing vs with
  | nil => cases h; exact h'
  | cons d ds ih => cases h with | cons a b => exact .cons a (ih b)
theorem Reps.snoc {vs : List V} {ds : List D} {v : V} {d : D} (h : Reps K H vs ds) (h' : Rep K H v d) : Reps K H (vs ++ [v]) (ds ++ [d]) := h.append (.cons h' .nil)
theorem Reps.take {vs : List V} {ds : List D} (h : Reps K H vs ds) : ∀ n : Nat, Reps K H (vs.take n) (ds.take n) := by
  induction ds generalizing vs with
  | nil => intro n; cases h; simp; exact .nil
  | cons d ds ih =>
    intro n
    cases h with
    | cons a b =>
      cases n with
      | zero => exact .nil
      | succ n => exact .cons a (ih b n)
theorem Reps.drop {vs : List V} {ds : List D} (h : Reps K H vs ds) : ∀ n : Nat, Reps K H (vs.drop n) (ds.drop n) := by
  induction ds generalizing vs with
  | nil => intro n; cases h; simp; exact .nil
  | cons d ds ih =>
    intro n
    cases h with
    | cons a b =>
      cases n with
      | zero => exact .cons a b
      | succ n => exact ih b n
theorem Reps.ints {ns : List Int} : Reps K H (ns.map V.int) (ns.map D.int) := by
  induction ns with
  | nil => exact .nil
  | cons n ns ih => exact .cons (.int n) ih
theorem Reps.reverse {vs : List V} {ds : List D} (h : Reps K H vs ds) : Reps K H vs.reverse ds.reverse := by
  induction ds generalizing vs with
  | nil => cases h; exact .nil
  | cons d ds ih => cases h with | cons a b => simp only [List.reverse_cons]; exact (ih b).snoc a
theorem Reps.of_ints : ∀ {ns : List Int} {vs : List V}, Reps K H vs (ns.map D.int) → vs = ns.map V.int
  | [], _, h => by cases h; rfl
  | n :: ns, _, h => by
    cases h with
    | cons a b => cases a; rw [Reps.of_ints b]; rfl
theorem Reps.of_bls : ∀ {ns : List Bool} {vs : List V}, Reps K H vs (ns.map D.bl) → vs = ns.map V.bl
  | [], _, h => by cases h; rfl
  | n :: ns, _, h => by
    cases h with
    | cons a b => cases a; rw [Reps.of_bls b]; rfl

/-! ### frozen part F of the heap H; how both may grow -/
def isMut : HO → Bool
  | .lst _ => true
  | .dK _ => true
  | .dT _ => true
  | .ins _ _ _ => true
  | .set _ _ => true
  | .frz _ _ => true
  | _ => false
structure Ext (F H F' H' : Hp) : Prop where
  f : Same F F'
  h : Same H H'
  i : Same F' H'
  n : ∀ a o, H a = some o → isMut o = true → F' a ≠ none → F a ≠ none
theorem Ext.refl (i : Same F H) : Ext F H F H := ⟨Same.refl F, Same.refl H, i, fun _ _ _ _ h => h⟩
theorem some_ne {α : Type} {o : Option α} {x : α} (h : o = some x) : o ≠ none := by rw [h]; exact fun q => nomatch q
theorem _root_.L2.Same.ne (e : Same H H') {a : Addr} (h : H a ≠ none) : H' a ≠ none := by
  cases q : H a with
  | none => exact absurd q h
  | some o => exact some_ne (e _ _ q)
theorem Ext.trans (a : Ext F H F' H') (b : Ext F' H' F'' H'') : Ext F H F'' H'' :=
  ⟨a.f.trans b.f, a.h.trans b.h, b.i, fun x o h1 m h2 => a.n x o h1 m (b.n x o (a.h _ _ h1) m h2)⟩
theorem _root_.L2.Same.updN {p : Addr} {o : HO} (h : H p = none) : Same H (upd H p o) := fun b u e => by
  rw [upd_ne (ne_of_none e h)]; exact e
theorem _root_.L2.Same.upd2 {p : Addr} {o : HO} (i : Same F H) : Same (L2.upd F p o) (L2.upd H p o) := fun b u e => by
  by_cases hb : b = p
  · subst hb; rw [upd_same] at e ⊢; exact e
  · rw [upd_ne hb] at e ⊢; exact i b u e
theorem _root_.L2.Same.into {p : Addr} {o : HO} (i : Same F H) (h : F p = none) : Same F (L2.upd H p o) := fun b u e => by
  rw [upd_ne (ne_of_none e h)]; exact i b u e
theorem _root_.L2.Same.put {p : Addr} {o : HO} (i : Same F H) (h : H p = some o) : Same (L2.upd F p o) H := fun b u e => by
  by_cases hb : b = p
  · subst hb; rw [upd_same] at e; rw [h]; exact e
  · rw [upd_ne hb] at e; exact i b u e
theorem upd_ne_none {p a : Addr} {o : HO} (h : L2.upd F p o a ≠ none) (hp : a ≠ p) : F a ≠ none := by rw [upd_ne hp] at h; exact h
/-- a new frozen object -/
theorem Ext.new {p : Addr} {o : HO} (i : Same F H) (h : H p = none) : Ext F H (upd F p o) (upd H p o) :=
  ⟨Same.updN (i.free h), Same.updN h, i.upd2, fun a o' h1 m h2 => upd_ne_none h2 fun q => by rw [q, h] at h1; cases h1⟩
/-- a new object, not frozen -/
theorem Ext.newH {p : Addr} {o : HO} (i : Same F H) (h : H p = none) : Ext F H F (upd H p o) :=
  ⟨Same.refl F, Same.updN h, i.into (i.free h), fun _ _ _ _ h => h⟩
/-- an object that is new since F H is frozen -/
theorem Ext.frz {p : Addr} {o : HO} (e : Ext F H F' H') (h : H p = none) (h' : H' p = some o) (hf : F' p = none) : Ext F H (upd F' p o) H' :=
  ⟨e.f.trans (Same.updN hf), e.h, e.i.put h', fun a o' h1 m h2 => e.n a o' h1 m (upd_ne_none h2 fun q => by rw [q, h] at h1; cases h1)⟩
/-- what is not frozen stays so -/
theorem Ext.keep {p : Addr} {o : HO} (e : Ext F H F' H') (h : H p = some o) (m : isMut o = true) (hf : F p = none) : F' p = none := by
  cases q : F' p with
  | none => rfl
  | some u => exact absurd hf (e.n p o h m (some_ne q))
end
/-! ### slots -/
inductive DicAt (K : PySem.W.Frag) (F : Hp) : HO → Bool → List D → List D → Prop
  | k {kvs : List (Key × V)} {vs : List D} : kvs.length ≤ sizeLine → Reps K F (kvs.map (·.2)) vs → DicAt K F (.dK kvs) false (kvs.map fun p => kD p.1) vs
  | t {kvs : List (List Key × V)} {vs : List D} : (∀ q ∈ kvs, q.1.length ≤ sizeLine) → kvs.length ≤ sizeLine → Reps K F (kvs.map (·.2)) vs → DicAt K F (.dT kvs) true (kvs.map fun p => D.itm (p.1.map kD)) vs
def SlotAt (K : PySem.W.Frag) (H0 F H : Hp) : Sl → Option V → Prop
  | .no, _ => True
  | .val d, o => ∃ v, o = some v ∧ Rep K F v d
  | .own ds, o => ∃ p xs, o = some (V.ref p) ∧ H0 p = none ∧ F p = none ∧ H p = some (.lst xs) ∧ xs.length ≤ sizeLine ∧ Reps K F xs ds
  | .ownd t ks vs, o => ∃ p u, o = some (V.ref p) ∧ H0 p = none ∧ F p = none ∧ H p = some u ∧ DicAt K F u t ks vs
structure EnvAt (K : PySem.W.Frag) (H0 : Hp) (env : EnvD) (σ : L2.St) (F H : Hp) : Prop where
  fh : Same F H
  len : env.length = σ.length
  at_ : ∀ i s, env[i]? = some s → SlotAt K H0 F H s (σ.getD i none)
  ap : ∀ i j s t p, i ≠ j → env[i]? = some s → env[j]? = some t → s.isOwn = true → t.isOwn = true → σ.getD i none = some (.ref p) → σ.getD j none = some (.ref p) → False
section
variable {K : PySem.W.Frag} {H0 F F' H H' : Hp} {env : EnvD} {σ : L2.St}
theorem DicAt.isMut {u : HO} {t : Bool} {ks vs : List D} (h : DicAt K F u t ks vs) : PD.isMut u = true := by cases h <;> rfl
theorem DicAt.mono {u : HO} {t : Bool} {ks vs : List D} (h : DicAt K F u t ks vs) (e : Same F F') : DicAt K F' u t ks vs := by
  cases h with
  | k a b => exact .k a (b.mono e)
  | t c a b => exact .t c a (b.mono e)
theorem SlotAt.mono {s : Sl} {o : Option V} (h : SlotAt K H0 F H s o) (e : Ext F H F' H') : SlotAt K H0 F' H' s o := by
  cases s with
  | no => trivial
  | val d => obtain ⟨v, h1, h2⟩ := h; exact ⟨v, h1, h2.mono e.f⟩
  | own ds => obtain ⟨p, xs, h1, h2, h3, h4, h5, h6⟩ := h; exact ⟨p, xs, h1, h2, e.keep h4 rfl h3, e.h _ _ h4, h5, h6.mono e.f⟩
  | ownd _ ks vs => obtain ⟨p, u, h1, h2, h3, h4, h5⟩ := h; exact ⟨p, u, h1, h2, e.keep h4 h5.isMut h3, e.h _ _ h4, h5.mono e.f⟩
theorem EnvAt.mono (h : EnvAt K H0 env σ F H) (e : Ext F H F' H') : EnvAt K H0 env σ F' H' :=
  ⟨e.i, h.len, fun i s q => (h.at_ i s q).mono e, h.ap⟩
theorem getD_set_self {α : Type} {l : List α} {i : Nat} {x d : α} (h : i < l.length) : (l.set i x).getD i d = x := by
  rw [List.getD_eq_getElem?_getD, List.getElem?_set_self h]; rfl
theorem getD_set_ne {α : Type} {l : List α} {i j : Nat} {x d : α} (h : i ≠ j) : (l.set i x).getD j d = l.getD j d := by
  rw [List.getD_eq_getElem?_getD, List.getD_eq_getElem?_getD, List.getElem?_set_ne h]
theorem getD_some {l : L2.St} {i : Nat} {v : V} (h : l.getD i none = some v) : l[i]? = some (some v) := by
  rw [List.getD_eq_getElem?_getD] at h
  cases q : l[i]? with
  | none => rw [q] at h; cases h
  | some o => rw [q] at h; exact congrArg some h
/-- a slot gets a value -/
theorem EnvAt.setV (h : EnvAt K H0 env σ F H) (i : Nat) {v : V} {d : D} (r : Rep K F v d) : EnvAt K H0 (env.set i (.val d)) (σ.set i (some v)) F H := by
  refine ⟨h.fh, by simp [h.len], fun j s q => ?_, fun j k s t p hjk hs ht os ot pj pk => ?_⟩
  · by_cases e : i = j
    · subst e
      have hi : i < env.length := by
        have := (List.getElem?_eq_some_iff.mp q).1
        simpa using this
      rw [List.getElem?_set_self hi] at q
      cases q
      exact ⟨v, getD_set_self (by rw [← h.len]; exact hi), r⟩
    · rw [List.getElem?_set_ne e] at q
      rw [getD_set_ne e]
      exact h.at_ j s q
  · have nj : i ≠ j := fun e => by
      subst e
      have hi : i < env.length := by have := (List.getElem?_eq_some_iff.mp hs).1; simpa using this
      rw [List.getElem?_set_self hi] at hs; cases hs; cases os
    have nk : i ≠ k := fun e => by
      subst e
      have hi : i < env.length := by have := (List.getElem?_eq_some_iff.mp ht).1; simpa using this
      rw [List.getElem?_set_self hi] at ht; cases ht; cases ot
    rw [List.getElem?_set_ne nj] at hs
    rw [List.getElem?_set_ne nk] at ht
    rw [getD_set_ne nj] at pj
    rw [getD_set_ne nk] at pk
    exact h.ap j k s t p hjk hs ht os ot pj pk
/-- a slot is forgotten -/
theorem EnvAt.setNo (h : EnvAt K H0 env σ F H) (i : Nat) (o : Option V) : EnvAt K H0 (env.set i .no) (σ.set i o) F H := by
  refine ⟨h.fh, by simp [h.len], fun j s q => ?_, fun j k s t p hjk hs ht os ot pj pk => ?_⟩
  · by_cases e : i = j
    · subst e
      have hi : i < env.length := by
        have := (List.getElem?_eq_some_iff.mp q).1
        simpa using this
      rw [List.getElem?_set_self hi] at q
      cases q
      trivial
    · rw [List.getElem?_set_ne e] at q
      rw [getD_set_ne e]
      exact h.at_ j s q
  · have nj : i ≠ j := fun e => by
      subst e
      have hi : i < env.length := by have := (List.getElem?_eq_some_iff.mp hs).1; simpa using this
      rw [List.getElem?_set_self hi] at hs; cases hs; cases os
    have nk : i ≠ k := fun e => by
      subst e
      have hi : i < env.length := by have := (List.getElem?_eq_some_iff.mp ht).1; simpa using this
      rw [List.getElem?_set_self hi] at ht; cases ht; cases ot
    rw [List.getElem?_set_ne nj] at hs
    rw [List.getElem?_set_ne nk] at ht
    rw [getD_set_ne nj] at pj
    rw [getD_set_ne nk] at pk
    exact h.ap j k s t p hjk hs ht os ot pj pk
/-- a slot gets an object of its own, at p, that no other slot owns -/
theorem EnvAt.setO (h : EnvAt K H0 env σ F H) (i : Nat) {s : Sl} {p : Addr} (r : SlotAt K H0 F H s (some (.ref p)))
    (n : ∀ j t, j ≠ i → env[j]? = some t → t.isOwn = true → σ.getD j none ≠ some (.ref p)) : EnvAt K H0 (env.set i s) (σ.set i (some (.ref p))) F H := by
  refine ⟨h.fh, by simp [h.len], fun j t q => ?_, fun j k u t p' hjk hs ht os ot pj pk => ?_⟩
  · by_cases e : i = j
    · subst e
      have hi : i < env.length := by
        have := (List.getElem?_eq_some_iff.mp q).1
        simpa using this
      rw [List.getElem?_set_self hi] at q
      cases q
      rw [getD_set_self (by rw [← h.len]; exact hi)]
      exact r
    · rw [List.getElem?_set_ne e] at q
      rw [getD_set_ne e]
      exact h.at_ j t q
  · by_cases ej : i = j
    · subst ej
      have hi : i < env.length := by have := (List.getElem?_eq_some_iff.mp hs).1; simpa using this
      rw [getD_set_self (by rw [← h.len]; exact hi)] at pj
      rw [List.getElem?_set_ne hjk] at ht
      rw [getD_set_ne hjk] at pk
      cases pj
      exact n k t (Ne.symm hjk) ht ot pk
    · by_cases ek : i = k
      · subst ek
        have hi : i < env.length := by have := (List.getElem?_eq_some_iff.mp ht).1; simpa using this
        rw [getD_set_self (by rw [← h.len]; exact hi)] at pk
        rw [List.getElem?_set_ne ej] at hs
        rw [getD_set_ne ej] at pj
        cases pk
        exact n j u hjk hs os pj
      · rw [List.getElem?_set_ne ej] at hs
        rw [List.getElem?_set_ne ek] at ht
        rw [getD_set_ne ej] at pj
        rw [getD_set_ne ek] at pk
        exact h.ap j k u t p' hjk hs ht os ot pj pk
/-- an owned object's address is that of the heap -/
theorem EnvAt.ownAt (h : EnvAt K H0 env σ F H) {j : Nat} {t : Sl} {p : Addr} (q : env[j]? = some t) (o : t.isOwn = true) (e : σ.getD j none = some (.ref p)) : H p ≠ none ∧ F p = none ∧ H0 p = none := by
  have z := h.at_ j t q
  cases t with
  | no => cases o
  | val d => cases o
  | own ds => obtain ⟨p', xs, h1, h2, h3, h4, _⟩ := z; rw [e] at h1; cases h1; exact ⟨some_ne h4, h3, h2⟩
  | ownd _ ks vs => obtain ⟨p', u, h1, h2, h3, h4, _⟩ := z; rw [e] at h1; cases h1; exact ⟨some_ne h4, h3, h2⟩
/-- an owned object changes -/
theorem EnvAt.mut (h : EnvAt K H0 env σ F H) {i : Nat} {s s' : Sl} {p : Addr} {u : HO} (q : env[i]? = some s) (o : s.isOwn = true) (e : σ.getD i none = some (.ref p))
    (r : SlotAt K H0 F (upd H p u) s' (some (.ref p))) : EnvAt K H0 (env.set i s') σ F (upd H p u) := by
  have hp := h.ownAt q o e
  have hi : i < env.length := (List.getElem?_eq_some_iff.mp q).1
  refine ⟨h.fh.into hp.2.1, by simp [h.len], fun j t z => ?_, fun j k a b p' hjk ha hb oa ob pj pk => ?_⟩
  · by_cases ej : i = j
    · subst ej
      rw [List.getElem?_set_self hi] at z
      cases z
      rw [e]
      exact r
    · rw [List.getElem?_set_ne ej] at z
      have y := h.at_ j t z
      cases t with
      | no => trivial
      | val d => exact y
      | own ds =>
        obtain ⟨p', xs, h1, h2, h3, h4, h5, h6⟩ := y
        have npp : p' ≠ p := fun w => by subst w; exact h.ap j i _ _ p' (Ne.symm ej) z q rfl o h1 e
        exact ⟨p', xs, h1, h2, h3, by rw [upd_ne npp]; exact h4, h5, h6⟩
      | ownd _ ks vs =>
        obtain ⟨p', v, h1, h2, h3, h4, h5⟩ := y
        have npp : p' ≠ p := fun w => by subst w; exact h.ap j i _ _ p' (Ne.symm ej) z q rfl o h1 e
        exact ⟨p', v, h1, h2, h3, by rw [upd_ne npp]; exact h4, h5⟩
  · have own_of : ∀ (m : Nat) (c : Sl), (env.set i s')[m]? = some c → c.isOwn = true → ∃ c' : Sl, env[m]? = some c' ∧ c'.isOwn = true := fun m c hc oc => by
      by_cases em : i = m
      · subst em; exact ⟨s, q, o⟩
      · rw [List.getElem?_set_ne em] at hc; exact ⟨c, hc, oc⟩
    obtain ⟨a', ha', oa'⟩ := own_of j a ha oa
    obtain ⟨b', hb', ob'⟩ := own_of k b hb ob
    exact h.ap j k a' b' p' hjk ha' hb' oa' ob' pj pk
/-- an owned list is frozen -/
theorem EnvAt.freeze (h : EnvAt K H0 env σ F H) {i : Nat} {ds : List D} (q : env[i]? = some (.own ds)) : ∃ F', Same F F' ∧ (∀ a o, H0 a = some o → isMut o = true → F' a ≠ none → F a ≠ none) ∧ EnvAt K H0 (env.set i (.val (.lst ds))) σ F' H := by
  obtain ⟨p, xs, h1, h2, h3, h4, h5, h6⟩ := h.at_ i _ q
  have hi : i < env.length := (List.getElem?_eq_some_iff.mp q).1
  have sf : Same F (upd F p (.lst xs)) := Same.updN h3
  refine ⟨upd F p (.lst xs), sf, fun a o z1 m z2 => upd_ne_none z2 (fun w => by rw [w, h2] at z1; cases z1), h.fh.put h4, by simp [h.len], fun j t z => ?_, fun j k a b p' hjk ha hb oa ob pj pk => ?_⟩
  · by_cases ej : i = j
    · subst ej
      rw [List.getElem?_set_self hi] at z
      cases z
      rw [h1]
      exact ⟨_, rfl, .lst upd_same h5 (h6.mono sf)⟩
    · rw [List.getElem?_set_ne ej] at z
      have y := h.at_ j t z
      cases t with
      | no => trivial
      | val d => obtain ⟨v, y1, y2⟩ := y; exact ⟨v, y1, y2.mono sf⟩
      | own es =>
        obtain ⟨p', ys, y1, y2, y3, y4, y5, y6⟩ := y
        have npp : p' ≠ p := fun w => by subst w; exact h.ap j i _ _ p' (Ne.symm ej) z q rfl rfl y1 h1
        exact ⟨p', ys, y1, y2, by rw [upd_ne npp]; exact y3, y4, y5, y6.mono sf⟩
      | ownd _ ks vs =>
        obtain ⟨p', v, y1, y2, y3, y4, y5⟩ := y
        have npp : p' ≠ p := fun w => by subst w; exact h.ap j i _ _ p' (Ne.symm ej) z q rfl rfl y1 h1
        exact ⟨p', v, y1, y2, by rw [upd_ne npp]; exact y3, y4, y5.mono sf⟩
  · have nj : i ≠ j := fun w => by subst w; rw [List.getElem?_set_self hi] at ha; cases ha; cases oa
    have nk : i ≠ k := fun w => by subst w; rw [List.getElem?_set_self hi] at hb; cases hb; cases ob
    rw [List.getElem?_set_ne nj] at ha
    rw [List.getElem?_set_ne nk] at hb
    exact h.ap j k a b p' hjk ha hb oa ob pj pk
theorem EnvAt.freezeD (h : EnvAt K H0 env σ F H) {i : Nat} {tt : Bool} {dk dv : List D} (q : env[i]? = some (.ownd tt dk dv)) : ∃ F', Same F F' ∧ (∀ a o, H0 a = some o → isMut o = true → F' a ≠ none → F a ≠ none) ∧ EnvAt K H0 (env.set i (.val (.dic dk dv))) σ F' H := by
  obtain ⟨p, u, h1, h2, h3, h4, h5⟩ := h.at_ i _ q
  have hi : i < env.length := (List.getElem?_eq_some_iff.mp q).1
  have sf : Same F (upd F p u) := Same.updN h3
  refine ⟨upd F p u, sf, fun a o z1 m z2 => upd_ne_none z2 (fun w => by rw [w, h2] at z1; cases z1), h.fh.put h4, by simp [h.len], fun j t z => ?_, fun j k a b p' hjk ha hb oa ob pj pk => ?_⟩
  · by_cases ej : i = j
    · subst ej
      rw [List.getElem?_set_self hi] at z
      cases z
      rw [h1]
      refine ⟨_, rfl, ?_⟩
      cases h5 with
      | k l r => exact .dicK (.inl upd_same) l (r.mono sf)
      | t kl l r => exact .dicT (.inl upd_same) kl l (r.mono sf)
    · rw [List.getElem?_set_ne ej] at z
      have y := h.at_ j t z
      cases t with
      | no => trivial
      | val d => obtain ⟨v, y1, y2⟩ := y; exact ⟨v, y1, y2.mono sf⟩
      | own es =>
        obtain ⟨p', ys, y1, y2, y3, y4, y5, y6⟩ := y
        have npp : p' ≠ p := fun w => by subst w; exact h.ap j i _ _ p' (Ne.symm ej) z q rfl rfl y1 h1
        exact ⟨p', ys, y1, y2, by rw [upd_ne npp]; exact y3, y4, y5, y6.mono sf⟩
      | ownd _ ks vs =>
        obtain ⟨p', v, y1, y2, y3, y4, y5⟩ := y
        have npp : p' ≠ p := fun w => by subst w; exact h.ap j i _ _ p' (Ne.symm ej) z q rfl rfl y1 h1
        exact ⟨p', v, y1, y2, by rw [upd_ne npp]; exact y3, y4, y5.mono sf⟩
  · have nj : i ≠ j := fun w => by subst w; rw [List.getElem?_set_self hi] at ha; cases ha; cases oa
    have nk : i ≠ k := fun w => by subst w; rw [List.getElem?_set_self hi] at hb; cases hb; cases ob
    rw [List.getElem?_set_ne nj] at ha
    rw [List.getElem?_set_ne nk] at hb
    exact h.ap j k a b p' hjk ha hb oa ob pj pk
end
end PD

set_option maxHeartbeats 4000000
/-! tuples whose object is known: what makes them, and their index -/
namespace PD
open PySem PySem.Spec PyProof.Rows L2 HT
section
variable {X : Cx} {pins : List (Addr × Obj)} {σ : L2.St} {H : Hp} {s : Shared} {Q : VK}
theorem new_tup {vs : List V} {us : List Value} (I : Inv X pins σ H s) (r : Vals vs us) (hz : vs.length ≤ sizeLine) (t' : Nat) (k : ∀ q, H q = none → ∀ o, o.dict = none → Q (.ref q) (upd H q (.frz o (.tup vs)))) :
    EP X pins σ Q (.ref s.heap.objs.size) { s with heap := s.heap.push { cls := .type "tuple", data := .seq us.toArray }, toks := t' } :=
  ⟨.ref s.heap.objs.size, _, I.laid (t' := t') (o := .frz { cls := .type "tuple", data := .seq us.toArray } (.tup vs)) (fun b ob q => Heap.get?_push_of_some _ q) (Nat.le_refl _)
    ⟨Heap.get?_push_size _ rfl, hz, us, r, IsTup.new _ _⟩, rfl, k _ (I.hok.fresh (Nat.le_refl _)) _ rfl⟩
/-- a display -/
def tTupN (t : TA) : TE := fun σ H Q => t σ H fun xs H1 => xs.length ≤ sizeLine ∧ ∀ p, H1 p = none → ∀ o : Obj, o.dict = none → Q (.ref p) (upd H1 p (.frz o (.tup xs)))
theorem pe_tupN {es : List Expr} {t : TA} {pos : Pos} {x1} (h : PA X es t) : PE X (.Tuple es x1 pos) (tTupN t) := by
  refine ⟨fun pins s σ H Q I hq => ?_⟩
  exact wpAny_Tuple_spliced (thn (h.run pos pins s σ H _ I hq) fun us s1 ⟨xs, H1, I1, r, z, q⟩ => ⟨by rw [← r.length]; exact z, new_tup I1 r z _ q⟩)
/-- t + u -/
def rCatN (K : PySem.W.Frag) : R2 := fun x y H Q => ∃ a b xs ys, x = .ref a ∧ y = .ref b ∧ SqT K H a xs ∧ SqT K H b ys ∧ xs.length + ys.length ≤ sizeLine ∧
  (xs = [] → Q (.ref b) H) ∧ (xs ≠ [] → ys = [] → Q (.ref a) H) ∧ (xs ≠ [] → ys ≠ [] → ∀ p, H p = none → ∀ o : Obj, o.dict = none → Q (.ref p) (upd H p (.frz o (.tup (xs ++ ys)))))
theorem op_catN : OpR X (binaryOp .Add) (rCatN X.K) := by
  intro pins s σ H x y v u Q I rx ry h
  obtain ⟨a, b, xs, ys, rfl, rfl, ha, hb, hz, q0, q1, q2⟩ := h
  cases rx
  cases ry
  obtain ⟨its, r1, p1, _⟩ := I.tuple ha
  obtain ⟨its2, r2, p2, _⟩ := I.tuple hb
  by_cases hx : xs = []
  · subst hx
    cases r1
    exact cat_tup0 p1 p2 ⟨.ref b, H, I, rfl, q0 rfl⟩
  · exact HT.cat_tup p1 p2 (fun z => hx (r1.nil_iff.mp z)) (fun z => ⟨.ref a, H, I, rfl, q1 hx (r2.nil_iff.mp z)⟩) (fun z => new_tup I (r1.append r2) (by rw [List.length_append]; exact hz) _ (q2 hx fun w => z (r2.nil_iff.mpr w))) (by rw [← r1.length, ← r2.length]; exact hz)
/-- t[lo:hi] -/
def rSlN (K : PySem.W.Frag) : V → Option Int → Option Int → Hp → VK → Prop := fun x lo hi H Q => ∃ a xs, x = .ref a ∧ SqT K H a xs ∧
  (HT.sIx xs.length 0 lo = 0 ∧ HT.sIx xs.length xs.length hi = xs.length → Q (.ref a) H) ∧ (¬ (HT.sIx xs.length 0 lo = 0 ∧ HT.sIx xs.length xs.length hi = xs.length) → ∀ p, H p = none → ∀ o : Obj, o.dict = none → Q (.ref p) (upd H p (.frz o (.tup (cutV xs lo hi)))))
theorem sl_tupN : SlR X (rSlN X.K) := by
  intro pins s σ H x v vl vu lo hi sl Q I rx hs pl pu h
  obtain ⟨a, xs, rfl, hx, q1, q2⟩ := h
  cases rx
  obtain ⟨its, r, ht, hz⟩ := I.tuple hx
  have hlen : its.toArray.size = xs.length := by rw [List.size_toArray]; exact r.length.symm
  refine ⟨"tuple", _, PyProof.Rows.slot_tuple_getitem.lookup, ht.typeIs, ?_⟩
  by_cases hw : HT.sIx xs.length 0 lo = 0 ∧ HT.sIx xs.length xs.length hi = xs.length
  · exact getItem_tuple_whole ht hs pl pu (by rw [hlen]; exact hw) ⟨.ref a, H, I, rfl, q1 hw⟩
  · refine HT.getItem_tuple_cut ht hs pl pu (by rw [hlen]; exact hw) ?_ (by rw [hlen]; exact hz)
    rw [hlen]
    exact new_tup I ((r.drop (HT.sIx xs.length 0 lo)).take (HT.sIx xs.length xs.length hi - HT.sIx xs.length 0 lo)) (Nat.le_trans (cutV_length xs lo hi) hz) _ (q2 hw)
/-- tuple(x) -/
theorem call_tuple_of : CallR X (.type "tuple") (fun xs H Q => ∃ p ys, xs = [.ref p] ∧ ((SqL X.K H p ys ∧ ∀ l, H l = none → ∀ o : Obj, o.dict = none → Q (.ref l) (upd H l (.frz o (.tup ys)))) ∨ (SqT X.K H p ys ∧ Q (.ref p) H))) := by
  intro pins s σ H xs us Q I r h
  obtain ⟨p, ys, rfl, h⟩ := h
  obtain ⟨u, rfl, rx⟩ := vals1 r
  cases rx
  rcases h with ⟨hq, q⟩ | ⟨hq, q⟩
  · obtain ⟨its, r', pl, hz⟩ := I.list hq
    have hlen := r'.length
    refine call_tuple_list pl.isList (fun h' kp => ?_) (by simp only [List.size_toArray] <;> omega)
    have I1 : Inv X pins σ H { s with heap := h' } := I.kept (t' := s.toks) kp
    exact new_tup (s := { s with heap := h' }) I1 r' hz _ q
  · obtain ⟨its, r', pl, hz⟩ := I.tuple hq
    exact call_tuple_same pl ⟨.ref p, H, I, rfl, q⟩
/-- tuple(range(..)) -/
def tTupRgN (te : L2.St → Hp → (Int → Int → Hp → Prop) → Prop) : TE := fun σ H Q => te σ H fun a b H1 => RgOk a b ∧ ∀ q, H1 q = none → ∀ o : Obj, o.dict = none → Q (.ref q) (upd H1 q (.frz o (.tup (rgV a b))))
theorem pe_tupRgN {e : Expr} {te : L2.St → Hp → (Int → Int → Hp → Prop) → Prop} {p pos : Pos} (hc : X.calm = true) (hg : Gl X "tuple") (hm : X.mg "tuple" = none) (he : PRg X e te) (na : starEach [e] X.env = (false, eval e X.env) :: starEach [] X.env := by rfl) : PE X (.Call (.Name "tuple" p) [e] [] pos) (tTupRgN te) := by
  refine ⟨fun pins s σ H Q I h => ?_⟩
  refine Call_ (ld_blt I hg hm boot_tuple (PyProof.Rows.callWith_type1 (args_cons (thn (he pins s σ H _ I h) fun x s1 ⟨r, a, b, t, u, v, H1, ex, hr, I1, ok, q⟩ => args_nil ?_) na) na))
  subst ex
  obtain ⟨b1, b2, b3, b4, b5⟩ := ok
  refine call_tuple_range (n := (b - a).toNat) (I1.ok.hd hc) hr (small_one b1 b2 b3 b4) (rangeSize_nat a b) b5 fun h' tk acc hk hi => ?_
  have I2 : Inv X pins σ H1 { s1 with heap := h', toks := tk } := I1.kept hk
  have hz : (rgV a b).length ≤ sizeLine := by rw [rgV_length, sizeLine_eq]; omega
  have := new_tup I2 (vals_rg hi) hz tk q
  rw [Array.toArray_toList] at this
  exact this
/-- t * k -/
def rRepN (K : PySem.W.Frag) : R2 := fun x y H Q => ∃ l k xs, x = .ref l ∧ y = .int k ∧ SqT K H l xs ∧ xs ≠ [] ∧ 2 ≤ k ∧ k ≤ 1000 ∧ xs.length ≤ 1000 ∧ ∀ p, H p = none → ∀ o : Obj, o.dict = none → Q (.ref p) (upd H p (.frz o (.tup (List.replicate k.toNat xs).flatten)))
theorem op_repN : OpR X (binaryOp .Mult) (rRepN X.K) := by
  intro pins s τ G x y vx vy Q I relx rely hyp
  obtain ⟨l, k, xs, rfl, rfl, hT, hne, lo, up, few, q⟩ := hyp
  cases relx
  obtain ⟨t, rfl⟩ := rely
  obtain ⟨its, rv, ⟨⟨cc, dd, data, sl⟩, ho, hcc, n, hdd⟩, _⟩ := I.tuple hT
  obtain rfl : cc = .type "tuple" := hcc
  obtain rfl : data = .seq its.toArray n := hdd
  have le : its.length = xs.length := rv.length.symm
  have nonE : its.toArray.isEmpty = false := by
    cases its with
    | nil => exact absurd (List.eq_nil_of_length_eq_zero le.symm) hne
    | cons a b => rfl
  have sz : its.toArray.size = xs.length := by rw [List.size_toArray, le]
  have big : k.toNat * xs.length ≤ 1000 * 1000 := Nat.mul_le_mul (by omega) few
  have mil : ((its.toArray.size : Nat) : Int) * k ≤ 1000000 := by
    rw [sz]
    have : ((xs.length : Nat) : Int) * k ≤ 1000 * k := Int.mul_le_mul_of_nonneg_right (by omega) (by omega)
    omega
  have fl : (List.replicate k.toNat its).flatten.length ≤ sizeLine := by rw [PyProof.Rows.lm_len_rep_flat, le, sizeLine_eq]; omega
  have f0 : (decide (k < -(2 ^ 63)) || decide (k ≥ 2 ^ 63)) = false := by rw [decide_eq_false (by omega), decide_eq_false (by omega)]; rfl
  have f1 : (its.toArray.isEmpty || k == 1) = false := by rw [nonE, Bool.false_or]; exact beq_eq_false_iff_ne.mpr (by omega)
  have f2 : (decide (k ≤ 0) || its.toArray.isEmpty) = false := by rw [nonE, Bool.or_false]; exact decide_eq_false (by omega)
  have f3 : Builtin.Tuple.tupleTooMany (((its.toArray.size : Nat) : Int) * k) = false := by unfold Builtin.Tuple.tupleTooMany; rw [sizeLine_eq]; exact decide_eq_false (by omega)
  have wk := tuple_mulW l its.toArray n dd sl k t f0 f1 f2 (by omega) f3 (by rw [size_rep, List.size_toArray]; exact fl)
  have last : EP X pins τ Q (Value.ref s.heap.objs.size) { s with heap := s.heap.push { cls := Value.type "tuple", data := Data.seq (List.foldl (fun x1 x2 => x1 ++ x2) #[] (List.replicate k.toNat its.toArray)) }, toks := s.toks } := by
    rw [size_rep]
    exact new_tup I (rv.rep k.toNat) (by rw [PyProof.Rows.lm_len_rep_flat, sizeLine_eq]; omega) _ q
  exact wpAny_binaryOp_repeat_ref (T := "tuple") (U := "int") (by decide) ⟨_, ho, rfl⟩ (fun s' => typeIs_int s' k t) noFill_tuple_mul F.fills_int_mul F.slot_int_rmul repeat_tuple F.slot_int_index.lookup
    (call_meets F.slot_int_rmul (typeIs_int s k t) F.entry_int_rmul (F.args_int_rmul_2 _ _) (int_rmul_tuple k t l its.toArray n dd sl)
      ⟨ho, rfl, ⟨_, ho, rfl⟩, call_meets F.slot_tuple_mul ⟨_, ho, rfl⟩ F.entry_tuple_mul (F.args_tuple_mul_2 _ _) wk ⟨ho, last⟩⟩)
/-- t.index(x) of ints -/
def rTIx (K : PySem.W.Frag) : V → List V → Hp → VK → Prop := fun x xs H Q => ∃ (p : Addr) (ns : List Int) (k : Int), x = .ref p ∧ xs = [.int k] ∧ SqT K H p (ns.map V.int) ∧ k ∈ ns ∧ Q (.int (ns.idxOf k : Nat)) H
theorem mt_tidx : MtR X "tuple.index" (rTIx X.K) := by
  intro pins s σ H x xs v us Q I rx rs h
  obtain ⟨p, ns, k, rfl, rfl, hq, hk, q⟩ := h
  cases rx
  obtain ⟨u, rfl, t, rfl⟩ := vals1 rs
  obtain ⟨its, r, pl, hz⟩ := I.tuple hq
  have i1 : IntsAre its.toArray.toList ns := intsAre_of r
  exact PySem.SeqAt.tuple_index_ints (vs := its) (show s.heap.IsTuple p its.toArray from pl) (by simpa using i1) hk ⟨.int (ns.idxOf k : Nat), H, I.tok _, ⟨_, rfl⟩, q⟩
def tBMT (r : V → List V → Hp → VK → Prop) (to : TE) (t : TA) : TE := fun σ H Q => to σ H fun x H1 => (∃ a xs, x = .ref a ∧ TupAt H1 a xs) ∧ t σ H1 fun xs H2 => r x xs H2 Q
variable {o e : Expr} {es : List Expr} {to : TE} {t : TA} {name : Str} {apos cpos : Pos} {id : String} {r : V → List V → Hp → VK → Prop}
theorem pe_bmT (pa : PlainAttrs "tuple") (slot : Slot "tuple" name id) (hty : typeOf (.builtin id) = pure (.type "method_descriptor")) (hm : MtR X id r) (ho : PE X o to) (ha : PA X (e :: es) t)
    (hbase : attributeBase o name X.env (eval o X.env) = eval o X.env := by rfl)
    (hfew : ((backTo cpos (starEach (e :: es) X.env)).all (fun x => !x.1) && (backToKw cpos (keywordEach [] X.env)).all (fun x => x.1.isSome)
      && decide ((e :: es).length + ([] : List Keyword).length + (if ([] : List Keyword).isEmpty then 0 else 1) < 30)) = true := by rfl)
    (hline : (apos.endLine == cpos.line) = true := by rfl) (hs : starEach (e :: es) X.env = (false, eval e X.env) :: starEach es X.env := by rfl) (hplain : (backTo cpos (starEach es X.env)).any (·.1) = false := by rfl) :
    PE X (.Call (.Attribute o name apos) (e :: es) [] cpos) (tBMT r to t) := by
  refine ⟨fun pins s σ H Q I h => ?_⟩
  refine wpAny_Call_method_late hbase hfew hline rfl (thn (ho.run pins s σ H _ I h) fun v s1 ⟨x, H1, I1, r1, ty, q1⟩ => ?_)
  obtain ⟨a, xs, rfl, ob, hd, hk⟩ := ty
  cases r1
  have z := I1.hok a _ hk
  obtain ⟨ge, _, its, _, o', g1, g2, _⟩ := z
  refine ⟨"tuple", id, pa, slot, hty, ⟨o', g1, g2⟩, fun b eb => by cases eb; exact ⟨ob, ge, hd⟩, ?_⟩
  have hA := ha.run cpos pins s1 σ H1 _ I1 q1
  rw [hs] at hA ⊢
  refine Calls.callWith_builtin (by show (false || (backTo cpos (starEach es X.env)).any (·.1)) = false; rw [hplain] <;> rfl) (Calls.evalArgs_plain ?_)
  exact thn hA fun us s2 ⟨vs, H2, I2, r2, q2⟩ => hm pins s2 σ H2 (.ref a) vs _ us Q I2 (show RelV (.ref a) (.ref a) from rfl) r2 q2
end
end PD

set_option maxHeartbeats 4000000
/-! tuple * 0, tuple * 1 -/
namespace PD
open PySem PySem.Spec PyProof.Rows L2
theorem tuple_mulOne (l : Addr) (items : Array Value) (n : Nat) (dd : Option Addr) (sl : Array (Option Value)) (u : Tok) (hne : items.isEmpty = false) :
    Meets (Builtin.«tuple.__mul__» ⟨[.ref l, .int 1 u], []⟩) (fun _ R s => s.heap.get? l = some { cls := .type "tuple", dict := dd, data := .seq items n, slots := sl } ∧ R (.ok (.ret (Value.ref l))) s) :=
  .of_wp fun prog w A R s h => by
    obtain ⟨hp, g, d, tk, os⟩ := s
    obtain ⟨hl, h⟩ := h
    have f1 := AutoSeq1.idx_int
    have c0 : (decide ((1 : Int) < -(2 ^ 63)) || decide ((1 : Int) ≥ 2 ^ 63)) = false := by decide
    have c1 : (items.isEmpty || (1 : Int) == 1) = true := by rw [hne]; rfl
    wp_walk using wpAny_loadPart' hl
    repeat (first
      | (refine wpAny_ite_false (decide_eq_false (by rw [c0]; exact Bool.false_ne_true)) ?_; wp_walk using wpAny_loadPart' hl)
      | (refine wpAny_ite_true (decide_eq_true (by rw [c1])) ?_; wp_walk using wpAny_loadPart' hl))
    exact ⟨_, rfl, h⟩
theorem tuple_mulNil (l : Addr) (items : Array Value) (n : Nat) (dd : Option Addr) (sl : Array (Option Value)) (u : Tok) (hne : items.isEmpty = false) :
    Meets (Builtin.«tuple.__mul__» ⟨[.ref l, .int 0 u], []⟩) (fun _ R s => s.heap.get? l = some { cls := .type "tuple", dict := dd, data := .seq items n, slots := sl } ∧
      R (.ok (.ret (Value.ref s.heap.objs.size))) { s with heap := s.heap.push { cls := Value.type "tuple", data := Data.seq #[] }, toks := s.toks }) :=
  .of_wp fun prog w A R s h => by
    obtain ⟨hp, g, d, tk, os⟩ := s
    obtain ⟨hl, h⟩ := h
    have f1 := AutoSeq1.idx_int
    have c0 : (decide ((0 : Int) < -(2 ^ 63)) || decide ((0 : Int) ≥ 2 ^ 63)) = false := by decide
    have c1 : (items.isEmpty || (0 : Int) == 1) = false := by rw [hne]; rfl
    have c2 : (decide ((0 : Int) ≤ 0) || items.isEmpty) = true := by rfl
    wp_walk using wpAny_loadPart' hl
    repeat (first
      | (refine wpAny_ite_false (decide_eq_false (by rw [c0]; exact Bool.false_ne_true)) ?_; wp_walk using wpAny_loadPart' hl)
      | (refine wpAny_ite_false (decide_eq_false (by rw [c1]; exact Bool.false_ne_true)) ?_; wp_walk using wpAny_loadPart' hl)
      | (refine wpAny_ite_true (decide_eq_true (by rw [c2])) ?_; wp_walk using wpAny_loadPart' hl))
    exact ⟨_, rfl, h⟩
/-- t * 0, t * 1 -/
def rRep01 (K : PySem.W.Frag) : R2 := fun x y H Q => ∃ l k xs, x = .ref l ∧ y = .int k ∧ SqT K H l xs ∧ xs ≠ [] ∧ ((k = 1 ∧ Q (.ref l) H) ∨ (k = 0 ∧ ∀ p, H p = none → ∀ o : Obj, o.dict = none → Q (.ref p) (upd H p (.frz o (.tup [])))))
theorem op_rep01 {X : Cx} : OpR X (binaryOp .Mult) (rRep01 X.K) := by
  intro pins s τ G x y vx vy Q I relx rely hyp
  obtain ⟨l, k, xs, rfl, rfl, hT, hne, q⟩ := hyp
  cases relx
  obtain ⟨t, rfl⟩ := rely
  obtain ⟨its, rv, ⟨⟨cc, dd, data, sl⟩, ho, hcc, n, hdd⟩, _⟩ := I.tuple hT
  obtain rfl : cc = .type "tuple" := hcc
  obtain rfl : data = .seq its.toArray n := hdd
  have nonE : its.toArray.isEmpty = false := by
    cases its with
    | nil => exact absurd (List.eq_nil_of_length_eq_zero rv.length) hne
    | cons a b => rfl
  rcases q with ⟨rfl, q⟩ | ⟨rfl, q⟩
  · exact wpAny_binaryOp_repeat_ref (T := "tuple") (U := "int") (by decide) ⟨_, ho, rfl⟩ (fun s' => typeIs_int s' 1 t) noFill_tuple_mul F.fills_int_mul F.slot_int_rmul repeat_tuple F.slot_int_index.lookup
      (call_meets F.slot_int_rmul (typeIs_int s 1 t) F.entry_int_rmul (F.args_int_rmul_2 _ _) (int_rmul_tuple 1 t l its.toArray n dd sl)
        ⟨ho, rfl, ⟨_, ho, rfl⟩, call_meets F.slot_tuple_mul ⟨_, ho, rfl⟩ F.entry_tuple_mul (F.args_tuple_mul_2 _ _) (tuple_mulOne l its.toArray n dd sl t nonE) ⟨ho, .ref l, G, I, rfl, q⟩⟩)
  · have last : EP X pins τ Q (Value.ref s.heap.objs.size) { s with heap := s.heap.push { cls := Value.type "tuple", data := Data.seq #[] }, toks := s.toks } :=
      new_tup (vs := []) (us := []) I .nil (by rw [sizeLine_eq]; exact Nat.zero_le _) _ q
    exact wpAny_binaryOp_repeat_ref (T := "tuple") (U := "int") (by decide) ⟨_, ho, rfl⟩ (fun s' => typeIs_int s' 0 t) noFill_tuple_mul F.fills_int_mul F.slot_int_rmul repeat_tuple F.slot_int_index.lookup
      (call_meets F.slot_int_rmul (typeIs_int s 0 t) F.entry_int_rmul (F.args_int_rmul_2 _ _) (int_rmul_tuple 0 t l its.toArray n dd sl)
        ⟨ho, rfl, ⟨_, ho, rfl⟩, call_meets F.slot_tuple_mul ⟨_, ho, rfl⟩ F.entry_tuple_mul (F.args_tuple_mul_2 _ _) (tuple_mulNil l its.toArray n dd sl t nonE) ⟨ho, last⟩⟩)
end PD

set_option maxHeartbeats 4000000
namespace PD
open PySem PySem.Spec PyProof.Rows L2
/-! ### what a reading evaluates to -/
/-- how a result (a value, a truth, a list of values) stands for data: from the heap at the start, in the frozen part and the heap behind -/
structure PP (ρ α : Type) where
  rel : Hp → Hp → Hp → ρ → α → Prop
  anti : ∀ {H H1 F' H' : Hp} {v : ρ} {d : α}, Same H H1 → rel H1 F' H' v d → rel H F' H' v d
  mono : ∀ {H F' H' F'' H'' : Hp} {v : ρ} {d : α}, Ext F' H' F'' H'' → rel H F' H' v d → rel H F'' H'' v d
/-- frozen data -/
def pV (K : PySem.W.Frag) : PP V D := ⟨fun _ F' _ v d => Rep K F' v d, fun _ h => h, fun e h => h.mono e.f⟩
/-- data, or an owned object that holds frozen data -/
def RepB (K : PySem.W.Frag) (F H : Hp) (v : V) (d : D) : Prop :=
  Rep K F v d ∨ (∃ p xs ds, v = .ref p ∧ d = .lst ds ∧ H p = some (.lst xs) ∧ xs.length ≤ sizeLine ∧ Reps K F xs ds) ∨ ∃ p u t ks vs, v = .ref p ∧ d = .dic ks vs ∧ H p = some u ∧ DicAt K F u t ks vs
theorem RepB.mono {K : PySem.W.Frag} {F H F' H' : Hp} {v : V} {d : D} (h : RepB K F H v d) (f : Same F F') (e : Same H H') : RepB K F' H' v d := by
  rcases h with h | ⟨p, xs, ds, h1, h2, h3, h4, h5⟩ | ⟨p, u, t, ks, vs, h1, h2, h3, h4⟩
  · exact .inl (h.mono f)
  · exact .inr (.inl ⟨p, xs, ds, h1, h2, e _ _ h3, h4, h5.mono f⟩)
  · exact .inr (.inr ⟨p, u, t, ks, vs, h1, h2, e _ _ h3, h4.mono f⟩)
def pB (K : PySem.W.Frag) : PP V D := ⟨fun _ F' H' v d => RepB K F' H' v d, fun _ h => h, fun e h => h.mono e.f e.h⟩
/-- a new list, owned -/
def pN (K : PySem.W.Frag) : PP V (List D) := ⟨fun H F' H' v ds => ∃ p xs, v = .ref p ∧ H p = none ∧ F' p = none ∧ H' p = some (.lst xs) ∧ xs.length ≤ sizeLine ∧ Reps K F' xs ds,
  fun e ⟨p, xs, h1, h2, h3⟩ => ⟨p, xs, h1, e.free h2, h3⟩, fun e ⟨p, xs, h1, h2, h3, h4, h5, h6⟩ => ⟨p, xs, h1, h2, e.keep h4 rfl h3, e.h _ _ h4, h5, h6.mono e.f⟩⟩
/-- a new dict, owned -/
def pM (K : PySem.W.Frag) : PP V (Bool × List D × List D) := ⟨fun H F' H' v ds => ∃ p u, v = .ref p ∧ H p = none ∧ F' p = none ∧ H' p = some u ∧ DicAt K F' u ds.1 ds.2.1 ds.2.2,
  fun e ⟨p, xs, h1, h2, h3⟩ => ⟨p, xs, h1, e.free h2, h3⟩, fun e ⟨p, xs, h1, h2, h3, h4, h5⟩ => ⟨p, xs, h1, h2, e.keep h4 h5.isMut h3, e.h _ _ h4, h5.mono e.f⟩⟩
def pT : PP Bool Bool := ⟨fun _ _ _ b c => b = c, fun _ h => h, fun _ h => h⟩
inductive RepBs (K : PySem.W.Frag) (F H : Hp) : List V → List D → Prop
  | nil : RepBs K F H [] []
  | cons {v : V} {vs : List V} {d : D} {ds : List D} : RepB K F H v d → RepBs K F H vs ds → RepBs K F H (v :: vs) (d :: ds)
theorem RepBs.mono {K : PySem.W.Frag} {F H F' H' : Hp} {vs : List V} {ds : List D} (h : RepBs K F H vs ds) (f : Same F F') (e : Same H H') : RepBs K F' H' vs ds := by
  induction h with
  | nil => exact .nil
  | cons a _ ih => exact .cons (a.mono f e) ih
/-- arguments -/
def pB' (K : PySem.W.Frag) : PP (List V) (List D) := ⟨fun _ F' H' v d => RepBs K F' H' v d, fun _ h => h, fun e h => h.mono e.f e.h⟩
def pA (K : PySem.W.Frag) : PP (List V) (List D) := ⟨fun _ F' _ v d => Reps K F' v d, fun _ h => h, fun e h => h.mono e.f⟩
section
variable {ρ ρ1 ρ2 α β γ : Type} {cls : Exc → Addr} {W : WX} {σ : L2.St} {F H F1 H1 : Hp}
def Go (cls : Exc → Addr) (P : PP ρ α) (W : WX) (σ : L2.St) (F H : Hp) (r : R α) (Q : ρ → Hp → Prop) : Prop := match r with
  | .ok d => ∀ v F' H', Ext F H F' H' → P.rel H F' H' v d → Q v H'
  | .err c => ∀ F' H', Ext F H F' H' → W (.ref (cls c)) none σ H'
  | .bad => False
theorem Go.from {P : PP ρ α} {r : R α} {Q : ρ → Hp → Prop} (g : Go cls P W σ F H r Q) (e : Ext F H F1 H1) : Go cls P W σ F1 H1 r Q := by
  cases r with
  | ok d => exact fun v F' H' e' p => g v F' H' (e.trans e') (P.anti e.h p)
  | err c => exact fun F' H' e' => g F' H' (e.trans e')
  | bad => exact g
theorem Go.bind {P : PP ρ α} {P1 : PP ρ1 β} {r : R β} {k : β → R α} {Q : ρ → Hp → Prop} (g : Go cls P W σ F H (r.bind k) Q) :
    Go cls P1 W σ F H r (fun x H1 => ∃ F1 b, r = .ok b ∧ Ext F H F1 H1 ∧ P1.rel H F1 H1 x b ∧ Go cls P W σ F1 H1 (k b) Q) := by
  cases r with
  | ok b => exact fun v F' H' e p => ⟨F', b, rfl, e, p, Go.from g e⟩
  | err c => exact g
  | bad => exact g
theorem Go.imp {P : PP ρ α} {r : R α} {Q Q' : ρ → Hp → Prop} (g : Go cls P W σ F H r Q) (h : ∀ v H', Q v H' → Q' v H') : Go cls P W σ F H r Q' := by
  cases r with
  | ok b => exact fun v F' H' e p => h v H' (g v F' H' e p)
  | err c => exact g
  | bad => exact g
def R.ofO (o : Option α) : R α := match o with
  | some a => .ok a
  | none => .bad
theorem Go.ofO {P : PP ρ α} {o : Option α} {Q : ρ → Hp → Prop} (g : Go cls P W σ F H (R.ofO o) Q) : ∃ a, o = some a ∧ ∀ v F' H', Ext F H F' H' → P.rel H F' H' v a → Q v H' := by
  cases o with
  | some a => exact ⟨a, rfl, g⟩
  | none => exact g.elim
/-- the reading of a thing that evaluates to f env -/
def tG (K : PySem.W.Frag) (cls : Exc → Addr) (W : WX) (P : PP ρ α) (f : EnvD → R α) : L2.St → Hp → (ρ → Hp → Prop) → Prop :=
  fun σ H Q => ∃ H0 F env, EnvAt K H0 env σ F H ∧ Go cls P W σ F H (f env) Q
end
/-! ### readings made weaker -/
section
variable {X : Cx}
theorem pe_imp {e : Expr} {t t' : TE} (h : PE X e t) (m : ∀ σ H Q, t' σ H Q → t σ H Q) : PE X e t' := ⟨fun pins s σ H Q I q => h.run pins s σ H Q I (m σ H Q q)⟩
theorem pt_imp {e : Expr} {t t' : TT} (h : PT X e t) (m : ∀ σ H Q, t' σ H Q → t σ H Q) : PT X e t' := ⟨fun pins s σ H Q I q => h.run pins s σ H Q I (m σ H Q q)⟩
theorem pw_imp {e : Expr} {t t' : TT} (h : PW X e t) (m : ∀ σ H Q, t' σ H Q → t σ H Q) : PW X e t' := ⟨fun w pins s σ H Q I q => h.run w pins s σ H Q I (m σ H Q q)⟩
theorem pa_imp {es : List Expr} {t t' : TA} (h : PA X es t) (m : ∀ σ H Q, t' σ H Q → t σ H Q) : PA X es t' := ⟨fun pos pins s σ H Q I q => h.run pos pins s σ H Q I (m σ H Q q)⟩
theorem ps_imp {st : Stmt} {t t' : TS} (h : PS X st t) (m : ∀ D σ H, t' D σ H → t D σ H) : PS X st t' := ⟨fun pins s σ H D I q => h.run pins s σ H D I (m D σ H q)⟩
theorem pss_imp {st : List Stmt} {t t' : TS} (h : PSs X st t) (m : ∀ D σ H, t' D σ H → t D σ H) : PSs X st t' := ⟨fun pins s σ H D I q => h.run pins s σ H D I (m D σ H q)⟩
theorem pi_imp {tg iter : Expr} {t t' : TI} (h : PI X tg iter t) (m : ∀ σ H Q, t' σ H Q → t σ H Q) : PI X tg iter t' := ⟨fun pins s σ H Q I q => h.run pins s σ H Q I (m σ H Q q)⟩
theorem pg_imp {tg : Expr} {t t' : TG} (h : PG X tg t) (m : ∀ v σ H Q, t' v σ H Q → t v σ H Q) : PG X tg t' := ⟨fun pins s σ H v u Q I r q => h.run pins s σ H v u Q I r (m v σ H Q q)⟩
end
abbrev PDE {α : Type} (X : Cx) (cls : Exc → Addr) (W : WX) (P : PP V α) (e : Expr) (f : EnvD → R α) : Prop := PE X e (tG X.K cls W P f)
abbrev PDT (X : Cx) (cls : Exc → Addr) (W : WX) (e : Expr) (f : EnvD → R Bool) : Prop := PT X e (tG X.K cls W pT f)
abbrev PDA (X : Cx) (cls : Exc → Addr) (W : WX) (P : PP (List V) (List D)) (es : List Expr) (f : EnvD → R (List D)) : Prop := PA X es (tG X.K cls W P f)
section
variable {X : Cx} {cls : Exc → Addr} {W : WX} {e a b c : Expr} {pos : Pos}
/-! ### coercions -/
theorem coeVB {f : EnvD → R D} (h : PDE X cls W (pV X.K) e f) : PDE X cls W (pB X.K) e f := pe_imp h fun σ H Q ⟨H0, F, env, ea, g⟩ => ⟨H0, F, env, ea, by
  cases q : f env with
  | ok d => rw [q] at g; exact fun v F' H' x r => g v F' H' x (.inl r)
  | err c => rw [q] at g; exact g
  | bad => rw [q] at g; exact g⟩
def mkL (f : EnvD → R (List D)) : EnvD → R D := fun env => (f env).map D.lst
theorem coeNV {f : EnvD → R (List D)} (h : PDE X cls W (pN X.K) e f) : PDE X cls W (pV X.K) e (mkL f) := pe_imp h fun σ H Q ⟨H0, F, env, ea, g⟩ => ⟨H0, F, env, ea, by
  unfold mkL at g
  cases q : f env with
  | ok d =>
    rw [q] at g
    rintro v F' H' x ⟨p, xs, rfl, h1, h2, h3, h4, h5⟩
    exact g _ (upd F' p (.lst xs)) H' (x.frz h1 h3 h2) (.lst upd_same h4 (h5.mono (Same.updN h2)))
  | err c => rw [q] at g; exact g
  | bad => rw [q] at g; exact g⟩
theorem coeNB {f : EnvD → R (List D)} (h : PDE X cls W (pN X.K) e f) : PDE X cls W (pB X.K) e (mkL f) := coeVB (coeNV h)
/-! ### names, constants -/
def getV (i : Nat) (env : EnvD) : R D := match env[i]? with
  | some (.val d) => .ok d
  | _ => .bad
def getB (i : Nat) (env : EnvD) : R D := match env[i]? with
  | some (.val d) => .ok d
  | some (.own ds) => .ok (.lst ds)
  | some (.ownd _ ks vs) => .ok (.dic ks vs)
  | _ => .bad
theorem pd_var {i : Nat} (h : PE X e (tVar i)) : PDE X cls W (pV X.K) e (getV i) := pe_imp h fun σ H Q ⟨H0, F, env, ea, g⟩ => by
  unfold getV at g
  cases q : env[i]? with
  | none => rw [q] at g; exact g.elim
  | some s =>
    rw [q] at g
    cases s with
    | val d =>
      obtain ⟨v, h1, h2⟩ := ea.at_ i _ q
      exact ⟨v, getD_some h1, g v F H (Ext.refl ea.fh) h2⟩
    | no => exact g.elim
    | own _ => exact g.elim
    | ownd _ _ _ => exact g.elim
theorem pb_var {i : Nat} (h : PE X e (tVar i)) : PDE X cls W (pB X.K) e (getB i) := pe_imp h fun σ H Q ⟨H0, F, env, ea, g⟩ => by
  unfold getB at g
  cases q : env[i]? with
  | none => rw [q] at g; exact g.elim
  | some s =>
    rw [q] at g
    cases s with
    | val d =>
      obtain ⟨v, h1, h2⟩ := ea.at_ i _ q
      exact ⟨v, getD_some h1, g v F H (Ext.refl ea.fh) (.inl h2)⟩
    | no => exact g.elim
    | own ds =>
      obtain ⟨p, xs, h1, h2, h3, h4, h5, h6⟩ := ea.at_ i _ q
      exact ⟨_, getD_some h1, g _ F H (Ext.refl ea.fh) (.inr (.inl ⟨p, xs, ds, rfl, rfl, h4, h5, h6⟩))⟩
    | ownd t ks vs =>
      obtain ⟨p, u, h1, h2, h3, h4, h5⟩ := ea.at_ i _ q
      exact ⟨_, getD_some h1, g _ F H (Ext.refl ea.fh) (.inr (.inr ⟨p, u, t, ks, vs, rfl, rfl, h4, h5⟩))⟩
def cst (d : D) : EnvD → R D := fun _ => .ok d
theorem pd_c {v : V} {d : D} (h : PE X e (tC v)) (r : ∀ F, Rep X.K F v d) : PDE X cls W (pV X.K) e (cst d) := pe_imp h fun σ H Q ⟨H0, F, env, ea, g⟩ => g v F H (Ext.refl ea.fh) (r F)
theorem pd_int {i : Int} {j : Nat} : PDE X cls W (pV X.K) (.Constant (.int i) j pos) (cst (.int i)) := pd_c pe_int fun _ => .int i
theorem pd_bl {b : Bool} {j : Nat} : PDE X cls W (pV X.K) (.Constant (.bool b) j pos) (cst (.bl b)) := pd_c pe_bl fun _ => .bl b
theorem pd_non {j : Nat} : PDE X cls W (pV X.K) (.Constant .none j pos) (cst .non) := pd_c pe_non fun _ => .non
theorem pd_str {x : Str} {j : Nat} : PDE X cls W (pV X.K) (.Constant (.str x) j pos) (cst (.str x)) := pd_c pe_str fun _ => .str x
theorem pd_gint {x : Str} {i : Int} {p : Pos} (hg : Gl X x) (hm : ∃ t, X.mg x = some (.int i t)) (hd : (x == ("__debug__" : Str)) = false := by decide) : PDE X cls W (pV X.K) (.Name x p) (cst (.int i)) := by
  obtain ⟨t, hm⟩ := hm
  exact pd_c (pe_glob (v := .int i) hg hm ⟨t, rfl⟩ hd) fun _ => .int i
theorem pd_gstr {x z : Str} {p : Pos} (hg : Gl X x) (hm : ∃ t, X.mg x = some (.str z t)) (hd : (x == ("__debug__" : Str)) = false := by decide) : PDE X cls W (pV X.K) (.Name x p) (cst (.str z)) := by
  obtain ⟨t, hm⟩ := hm
  exact pd_c (pe_glob (v := .str z) hg hm ⟨t, rfl⟩ hd) fun _ => .str z
/-! ### operators by values -/
def bin {α β γ : Type} (f : α → β → Option γ) (fa : EnvD → R α) (fb : EnvD → R β) : EnvD → R γ := fun env => (fa env).bind fun x => (fb env).bind fun y => R.ofO (f x y)
def una {α γ : Type} (f : α → Option γ) (fa : EnvD → R α) : EnvD → R γ := fun env => (fa env).bind fun x => R.ofO (f x)
/-- what an operator's reading asks is had from data -/
def OpSem {α β γ : Type} (P1 : PP V α) (P2 : PP V β) (P3 : PP V γ) (r : R2) (f : α → β → Option γ) : Prop :=
  ∀ S1 S2 F H x y d e z Q, Same F H → P1.rel S1 F H x d → P2.rel S2 F H y e → f d e = some z → (∀ v F' H', Ext F H F' H' → P3.rel H F' H' v z → Q v H') → r x y H Q
section
variable {α β γ : Type} {P1 : PP V α} {P2 : PP V β} {P3 : PP V γ} {fa : EnvD → R α} {fb : EnvD → R β}
theorem tG_bin {r : R2} {f : α → β → Option γ} (hr : OpSem P1 P2 P3 r f) {K : PySem.W.Frag} {σ : L2.St} {H : Hp} {Q : VK} (h : tG K cls W P3 (bin f fa fb) σ H Q) : tOp r (tG K cls W P1 fa) (tG K cls W P2 fb) σ H Q := by
  obtain ⟨H0, F, env, ea, g⟩ := h
  refine ⟨H0, F, env, ea, (Go.bind g).imp fun x H1 ⟨F1, d, _, e1, p1, g1⟩ => ⟨H0, F1, env, ea.mono e1, (Go.bind g1).imp fun y H2 ⟨F2, e, _, e2, p2, g2⟩ => ?_⟩⟩
  obtain ⟨z, hz, g3⟩ := Go.ofO g2
  exact hr _ _ F2 H2 x y d e z Q e2.i (P1.mono e2 p1) p2 hz g3
theorem pd_op {op : Operator} {r : R2} {f : α → β → Option γ} (ho : OpR X (binaryOp op) r) (hr : OpSem P1 P2 P3 r f) (ha : PDE X cls W P1 a fa) (hb : PDE X cls W P2 b fb) : PDE X cls W P3 (.BinOp a op b pos) (bin f fa fb) :=
  pe_imp (pe_op ho ha hb) fun σ H Q h => tG_bin hr h
theorem pd_cmp {op : CmpOp} {r : R2} {f : α → β → Option γ} (ho : OpR X (compareOp op) r) (hr : OpSem P1 P2 P3 r f) (ha : PDE X cls W P1 a fa) (hb : PDE X cls W P2 b fb) (hm : behindInMarks op b = false) :
    PDE X cls W P3 (.Compare a [op] [b] pos) (bin f fa fb) := pe_imp (pe_cmpR ho ha hb hm) fun σ H Q h => tG_bin hr h
theorem pd_un {op : UnaryOp} {r : V → Hp → VK → Prop} {f : α → Option γ} (ho : UnR X (unaryOp op) r) (hr : ∀ S F H x d z Q, Same F H → P1.rel S F H x d → f d = some z → (∀ v F' H', Ext F H F' H' → P3.rel H F' H' v z → Q v H') → r x H Q)
    (ha : PDE X cls W P1 a fa) : PDE X cls W P3 (.UnaryOp op a pos) (una f fa) := pe_imp (pe_un ho ha) fun σ H Q ⟨H0, F, env, ea, g⟩ => by
  refine ⟨H0, F, env, ea, (Go.bind g).imp fun x H1 ⟨F1, d, _, e1, p1, g1⟩ => ?_⟩
  obtain ⟨z, hz, g3⟩ := Go.ofO g1
  exact hr _ F1 H1 x d z Q e1.i p1 hz g3
/-- a subscript -/
theorem pd_ix {r : R2} {f : α → β → Option γ} (ho : IxR X r) (hr : OpSem P1 P2 P3 r f) (ha : PDE X cls W P1 a fa) (hb : PDE X cls W P2 b fb) (hs : PlainIx b) : PDE X cls W P3 (.Subscript a b pos) (bin f fa fb) :=
  pe_imp (pe_ix ho ha hb hs) fun σ H Q h => tG_bin hr h
end
/-- an operator's truth -/
def OpSemB {α β : Type} (P1 : PP V α) (P2 : PP V β) (r : R2) (f : α → β → Option Bool) : Prop :=
  ∀ S1 S2 F H x y d e z (Q : VK), Same F H → P1.rel S1 F H x d → P2.rel S2 F H y e → f d e = some z → Q (.bl z) H → r x y H Q
def toD (o : Option Bool) : Option D := o.map D.bl
theorem OpSemB.val {α β : Type} {P1 : PP V α} {P2 : PP V β} {r : R2} {f : α → β → Option Bool} {K : PySem.W.Frag} (h : OpSemB P1 P2 r f) : OpSem P1 P2 (pV K) r (fun x y => toD (f x y)) := fun S1 S2 F H x y d e z Q i p q hz k => by
  cases w : f d e with
  | none => simp [toD, w] at hz
  | some b =>
    simp [toD, w] at hz
    subst hz
    exact h S1 S2 F H x y d e b Q i p q w (k _ F H (Ext.refl i) (.bl b))
section
variable {α β γ : Type} {P1 : PP V α} {P2 : PP V β} {P3 : PP V γ} {fa : EnvD → R α} {fb : EnvD → R β} {fc : EnvD → R γ}
theorem pdt_cmp {op : CmpOp} {r : R2} {f : α → β → Option Bool} (ho : OpR X (compareOp op) r) (hr : OpSemB P1 P2 r f) (ha : PDE X cls W P1 a fa) (hb : PDE X cls W P2 b fb) (hm : behindInMarks op b = false) :
    PDT X cls W (.Compare a [op] [b] pos) (bin f fa fb) := pt_imp (pt_cmpR ho ha hb hm) fun σ H Q ⟨H0, F, env, ea, g⟩ => by
  refine ⟨H0, F, env, ea, (Go.bind g).imp fun x H1 ⟨F1, d, _, e1, p1, g1⟩ => ⟨H0, F1, env, ea.mono e1, (Go.bind g1).imp fun y H2 ⟨F2, e, _, e2, p2, g2⟩ => ?_⟩⟩
  obtain ⟨z, hz, g3⟩ := Go.ofO g2
  exact hr _ _ F2 H2 x y d e z _ e2.i (P1.mono e2 p1) p2 hz ⟨z, rfl, g3 z F2 H2 (Ext.refl e2.i) rfl⟩
/-- a < b < c -/
def chain {α β γ : Type} (f : α → β → Option Bool) (f' : β → γ → Option Bool) (fa : EnvD → R α) (fb : EnvD → R β) (fc : EnvD → R γ) : EnvD → R Bool :=
  fun env => (fa env).bind fun x => (fb env).bind fun y => (R.ofO (f x y)).bind fun k => if k = true then (fc env).bind fun z => R.ofO (f' y z) else .ok false
theorem tG_chain {r r' : R2} {f : α → β → Option Bool} {f' : β → γ → Option Bool} (hr : OpSemB P1 P2 r f) (hr' : OpSemB P2 P3 r' f') {K : PySem.W.Frag} {σ : L2.St} {H : Hp} {Q : VK} {H0 F : Hp} {env : EnvD} {Q' : Bool → Hp → Prop}
    (ea : EnvAt K H0 env σ F H) (g : Go cls pT W σ F H (chain f f' fa fb fc env) Q') (hq : ∀ k H1, Q' k H1 → Q (.bl k) H1) : tChain r r' (tG K cls W P1 fa) (tG K cls W P2 fb) (tG K cls W P3 fc) σ H Q := by
  refine ⟨H0, F, env, ea, (Go.bind g).imp fun x H1 ⟨F1, d, _, e1, p1, g1⟩ => ⟨H0, F1, env, ea.mono e1, (Go.bind g1).imp fun y H2 ⟨F2, e, _, e2, p2, g2⟩ => ?_⟩⟩
  have ea2 := (ea.mono e1).mono e2
  cases q : f d e with
  | none => rw [q] at g2; exact g2.elim
  | some k =>
    rw [q] at g2
    refine hr _ _ F2 H2 x y d e k _ e2.i (P1.mono e2 p1) p2 q ⟨k, rfl, ?_⟩
    cases k with
    | false => exact hq _ _ (g2 false F2 H2 (Ext.refl e2.i) rfl)
    | true =>
      have g2' : Go cls pT W σ F2 H2 ((fc env).bind fun z => R.ofO (f' e z)) Q' := g2
      refine ⟨H0, F2, env, ea2, (Go.bind g2').imp fun w H3 ⟨F3, u, _, e3, p3, g3⟩ => ?_⟩
      obtain ⟨z, hz, g4⟩ := Go.ofO g3
      exact hr' _ _ F3 H3 y w e u z Q e3.i (P2.mono e3 p2) p3 hz (hq _ _ (g4 z F3 H3 (Ext.refl e3.i) rfl))
def asV (f : EnvD → R Bool) : EnvD → R D := fun env => (f env).map D.bl
theorem Go.asV {K : PySem.W.Frag} {σ : L2.St} {F H : Hp} {f : EnvD → R Bool} {env : EnvD} {Q : VK} (g : Go cls (pV K) W σ F H (asV f env) Q) : Go cls pT W σ F H (f env) (fun k H1 => Q (.bl k) H1) := by
  unfold PD.asV at g
  cases q : f env with
  | ok k => rw [q] at g; exact fun v F' H' e p => by cases p; exact g _ F' H' e (.bl _)
  | err c => rw [q] at g; exact g
  | bad => rw [q] at g; exact g
theorem pd_chain {op op' : CmpOp} {r r' : R2} {f : α → β → Option Bool} {f' : β → γ → Option Bool} (ho : OpR X (compareOp op) r) (hr : OpSemB P1 P2 r f) (ho' : OpR X (compareOp op') r') (hr' : OpSemB P2 P3 r' f')
    (ha : PDE X cls W P1 a fa) (hb : PDE X cls W P2 b fb) (hc : PDE X cls W P3 c fc) (hm : lastMarks [op, op'] [b, c] = false) : PDE X cls W (pV X.K) (.Compare a [op, op'] [b, c] pos) (asV (chain f f' fa fb fc)) :=
  pe_imp (pe_chain ho ho' ha hb hc hm) fun σ H Q ⟨H0, F, env, ea, g⟩ => tG_chain hr hr' ea g.asV fun _ _ h => h
theorem pdt_chain {op op' : CmpOp} {r r' : R2} {f : α → β → Option Bool} {f' : β → γ → Option Bool} (ho : OpR X (compareOp op) r) (hr : OpSemB P1 P2 r f) (ho' : OpR X (compareOp op') r') (hr' : OpSemB P2 P3 r' f')
    (ha : PDE X cls W P1 a fa) (hb : PDE X cls W P2 b fb) (hc : PDE X cls W P3 c fc) (hm : lastMarks [op, op'] [b, c] = false) : PDT X cls W (.Compare a [op, op'] [b, c] pos) (chain f f' fa fb fc) :=
  pt_imp (pt_chain ho ho' ha hb hc hm) fun σ H Q ⟨H0, F, env, ea, g⟩ => tG_chain hr hr' ea g fun k H1 h => ⟨k, rfl, h⟩
end
/-! ### truth -/
def asB : D → Option Bool
  | .bl b => some b
  | _ => none
theorem rep_bl {K : PySem.W.Frag} {F : Hp} {v : V} {d : D} {b : Bool} (h : Rep K F v d) (q : asB d = some b) : v = .bl b ∧ d = .bl b := by
  cases h with
  | bl c => simp [asB] at q; subst q; exact ⟨rfl, rfl⟩
  | _ => simp [asB] at q
def tst (f : EnvD → R D) : EnvD → R Bool := una asB f
theorem Go.tst {K : PySem.W.Frag} {σ : L2.St} {F H : Hp} {f : EnvD → R D} {env : EnvD} {Q : Bool → Hp → Prop} (g : Go cls pT W σ F H (tst f env) Q) : Go cls (pV K) W σ F H (f env) (fun x H1 => ∃ k, x = .bl k ∧ Q k H1) := by
  unfold PD.tst una at g
  refine (Go.bind g).imp fun x H1 ⟨F1, d, _, e1, p1, g1⟩ => ?_
  obtain ⟨b, hb, g2⟩ := Go.ofO g1
  obtain ⟨h1, h2⟩ := rep_bl p1 hb
  exact ⟨b, h1, g2 b F1 H1 (Ext.refl e1.i) rfl⟩
variable {fa fb fc : EnvD → R D} {ta tb tc : EnvD → R Bool}
theorem pdt_val (ha : PDE X cls W (pV X.K) a fa) (he : ∀ whole, isTrue a X.env whole = (do let v ← whole; standAt a.pos; holding [v] (truthy v)) := by intro _; rfl) : PDT X cls W a (tst fa) :=
  pt_imp (pt_val ha he) fun σ H Q ⟨H0, F, env, ea, g⟩ => ⟨H0, F, env, ea, g.tst⟩
def andF (ta tb : EnvD → R Bool) : EnvD → R Bool := fun env => (ta env).bind fun k => if k = true then tb env else .ok false
def orF (ta tb : EnvD → R Bool) : EnvD → R Bool := fun env => (ta env).bind fun k => if k = true then .ok true else tb env
def notF (ta : EnvD → R Bool) : EnvD → R Bool := fun env => (ta env).map (!·)
abbrev PDW (X : Cx) (cls : Exc → Addr) (W : WX) (e : Expr) (f : EnvD → R Bool) : Prop := PW X e (tG X.K cls W pT f)
theorem pdw_and1 (ha : PDT X cls W a ta) : PDW X cls W (.BoolOp .And [a] pos) ta := pw_and1 ha
theorem pdw_or1 (ha : PDT X cls W a ta) : PDW X cls W (.BoolOp .Or [a] pos) ta := pw_or1 ha
theorem pdw_and {rest : List Expr} (ha : PDT X cls W a ta) (hb : PDW X cls W (.BoolOp .And (b :: rest) pos) tb) : PDW X cls W (.BoolOp .And (a :: b :: rest) pos) (andF ta tb) :=
  pw_imp (pw_and ha hb) fun σ H Q ⟨H0, F, env, ea, g⟩ => by
    refine ⟨H0, F, env, ea, (Go.bind g).imp fun k H1 ⟨F1, d, _, e1, p1, g1⟩ => ?_⟩
    cases p1
    cases k with
    | true => exact ⟨H0, F1, env, ea.mono e1, g1⟩
    | false => exact g1 false F1 H1 (Ext.refl e1.i) rfl
theorem pdw_or {rest : List Expr} (ha : PDT X cls W a ta) (hb : PDW X cls W (.BoolOp .Or (b :: rest) pos) tb) : PDW X cls W (.BoolOp .Or (a :: b :: rest) pos) (orF ta tb) :=
  pw_imp (pw_or ha hb) fun σ H Q ⟨H0, F, env, ea, g⟩ => by
    refine ⟨H0, F, env, ea, (Go.bind g).imp fun k H1 ⟨F1, d, _, e1, p1, g1⟩ => ?_⟩
    cases p1
    cases k with
    | false => exact ⟨H0, F1, env, ea.mono e1, g1⟩
    | true => exact g1 true F1 H1 (Ext.refl e1.i) rfl
theorem pdt_w (h : PDW X cls W e ta) : PDT X cls W e ta := h.pt
theorem Go.map {ρ α β : Type} {P : PP ρ β} {P1 : PP ρ α} {σ : L2.St} {F H : Hp} {r : R α} {f : α → β} {Q : ρ → Hp → Prop} (g : Go cls P W σ F H (r.map f) Q) {Q1 : ρ → Hp → Prop}
    (h : ∀ d, r = .ok d → (∀ v F' H', Ext F H F' H' → P.rel H F' H' v (f d) → Q v H') → ∀ v F' H', Ext F H F' H' → P1.rel H F' H' v d → Q1 v H') : Go cls P1 W σ F H r Q1 := by
  cases r with
  | ok d => exact h d rfl g
  | err c => exact g
  | bad => exact g
theorem pdt_not (ha : PDT X cls W a ta) : PDT X cls W (.UnaryOp .Not a pos) (notF ta) :=
  pt_imp (pt_not ha) fun σ H Q ⟨H0, F, env, ea, g⟩ => ⟨H0, F, env, ea, Go.map g fun d _ k v F' H' e p => by cases p; exact k _ F' H' e rfl⟩
/-- and, or, not as values -/
def andV (fa fb : EnvD → R D) : EnvD → R D := fun env => (tst fa env).bind fun k => if k = true then fb env else .ok (.bl false)
def orV (fa fb : EnvD → R D) : EnvD → R D := fun env => (tst fa env).bind fun k => if k = true then .ok (.bl true) else fb env
def notV (fa : EnvD → R D) : EnvD → R D := fun env => (tst fa env).map fun k => .bl (!k)
theorem pd_one {op : BoolOp} (h : PDE X cls W (pV X.K) a fa) : PDE X cls W (pV X.K) (.BoolOp op [a] pos) fa := pe_one h
theorem pd_and {rest : List Expr} (ha : PDE X cls W (pV X.K) a fa) (hb : PDE X cls W (pV X.K) (.BoolOp .And (b :: rest) pos) fb) : PDE X cls W (pV X.K) (.BoolOp .And (a :: b :: rest) pos) (andV fa fb) :=
  pe_imp (pe_and ha hb) fun σ H Q ⟨H0, F, env, ea, g⟩ => by
    refine ⟨H0, F, env, ea, (Go.tst (Go.bind (P1 := pT) g)).imp fun x H1 ⟨k, ex, F1, d, _, e1, p1, g1⟩ => ⟨k, ex, ?_⟩⟩
    cases p1
    cases k with
    | true => exact ⟨H0, F1, env, ea.mono e1, g1⟩
    | false => exact g1 _ F1 H1 (Ext.refl e1.i) (.bl false)
theorem pd_or {rest : List Expr} (ha : PDE X cls W (pV X.K) a fa) (hb : PDE X cls W (pV X.K) (.BoolOp .Or (b :: rest) pos) fb) : PDE X cls W (pV X.K) (.BoolOp .Or (a :: b :: rest) pos) (orV fa fb) :=
  pe_imp (pe_or ha hb) fun σ H Q ⟨H0, F, env, ea, g⟩ => by
    refine ⟨H0, F, env, ea, (Go.tst (Go.bind (P1 := pT) g)).imp fun x H1 ⟨k, ex, F1, d, _, e1, p1, g1⟩ => ⟨k, ex, ?_⟩⟩
    cases p1
    cases k with
    | false => exact ⟨H0, F1, env, ea.mono e1, g1⟩
    | true => exact g1 _ F1 H1 (Ext.refl e1.i) (.bl true)
theorem pd_not (ha : PDE X cls W (pV X.K) a fa) : PDE X cls W (pV X.K) (.UnaryOp .Not a pos) (notV fa) :=
  pe_imp (pe_not ha) fun σ H Q ⟨H0, F, env, ea, g⟩ => by
    have g' : Go cls pT W σ F H (tst fa env) (fun k H1 => Q (.bl (!k)) H1) := by
      unfold notV at g
      cases q : tst fa env with
      | ok k => rw [q] at g; exact fun v F' H' e p => by cases p; exact g _ F' H' e (.bl _)
      | err c => rw [q] at g; exact g
      | bad => rw [q] at g; exact g
    exact ⟨H0, F, env, ea, g'.tst⟩
def ifF {α : Type} (t : EnvD → R Bool) (fa fb : EnvD → R α) : EnvD → R α := fun env => (t env).bind fun k => if k = true then fa env else fb env
theorem pd_if {α : Type} {P : PP V α} {fa fb : EnvD → R α} (hc : PDT X cls W c tc) (ha : PDE X cls W P a fa) (hb : PDE X cls W P b fb) : PDE X cls W P (.IfExp c a b pos) (ifF tc fa fb) :=
  pe_imp (pe_ifExp hc ha hb) fun σ H Q ⟨H0, F, env, ea, g⟩ => by
    refine ⟨H0, F, env, ea, (Go.bind g).imp fun k H1 ⟨F1, d, _, e1, p1, g1⟩ => ?_⟩
    cases p1
    cases k with
    | true => exact ⟨H0, F1, env, ea.mono e1, g1⟩
    | false => exact ⟨H0, F1, env, ea.mono e1, g1⟩
/-! ### arguments, displays -/
def consF (fa : EnvD → R D) (fs : EnvD → R (List D)) : EnvD → R (List D) := fun env => (fa env).bind fun d => (fs env).map (d :: ·)
def nilF : EnvD → R (List D) := fun _ => .ok []
theorem pda_nil : PDA X cls W (pA X.K) [] nilF := pa_imp pa_nil fun σ H Q ⟨H0, F, env, ea, g⟩ => g [] F H (Ext.refl ea.fh) .nil
theorem pda_cons {es : List Expr} {fs : EnvD → R (List D)} (ha : PDE X cls W (pV X.K) a fa) (hs : PDA X cls W (pA X.K) es fs) (he : starEach (a :: es) X.env = (false, eval a X.env) :: starEach es X.env := by rfl) :
    PDA X cls W (pA X.K) (a :: es) (consF fa fs) := pa_imp (pa_cons ha hs he) fun σ H Q ⟨H0, F, env, ea, g⟩ =>
  ⟨H0, F, env, ea, (Go.bind g).imp fun x H1 ⟨F1, d, _, e1, p1, g1⟩ => ⟨H0, F1, env, ea.mono e1, Go.map g1 fun ds _ k vs F' H' e p => k _ F' H' e (.cons (p1.mono e.f) p)⟩⟩
theorem pdb_nil : PDA X cls W (pB' X.K) [] nilF := pa_imp pa_nil fun σ H Q ⟨H0, F, env, ea, g⟩ => g [] F H (Ext.refl ea.fh) .nil
theorem pdb_cons {es : List Expr} {fs : EnvD → R (List D)} (ha : PDE X cls W (pB X.K) a fa) (hs : PDA X cls W (pB' X.K) es fs) (he : starEach (a :: es) X.env = (false, eval a X.env) :: starEach es X.env := by rfl) :
    PDA X cls W (pB' X.K) (a :: es) (consF fa fs) := pa_imp (pa_cons ha hs he) fun σ H Q ⟨H0, F, env, ea, g⟩ =>
  ⟨H0, F, env, ea, (Go.bind g).imp fun x H1 ⟨F1, d, _, e1, p1, g1⟩ => ⟨H0, F1, env, ea.mono e1, Go.map g1 fun ds _ k vs F' H' e p => k _ F' H' e (.cons (RepB.mono p1 e.f e.h) p)⟩⟩
def small (n : Nat) : Bool := decide (n ≤ 16777216)
theorem small_ok {n : Nat} (h : small n = true) : n ≤ sizeLine := by rw [sizeLine_eq]; exact of_decide_eq_true h
def tupF (fs : EnvD → R (List D)) : EnvD → R D := fun env => (fs env).bind fun ds => if small ds.length = true then .ok (.tup ds) else .bad
theorem pd_tup {es : List Expr} {x1} {fs : EnvD → R (List D)} (hs : PDA X cls W (pA X.K) es fs) : PDE X cls W (pV X.K) (.Tuple es x1 pos) (tupF fs) := pe_imp (pe_tupN hs) fun σ H Q ⟨H0, F, env, ea, g⟩ =>
  ⟨H0, F, env, ea, (Go.bind g).imp fun xs H1 ⟨F1, ds, _, e1, p1, g1⟩ => by
    by_cases hz : small ds.length = true
    · rw [if_pos hz] at g1
      have hl : xs.length ≤ sizeLine := by rw [Reps.length p1]; exact small_ok hz
      exact ⟨hl, fun p hp o hd => g1 _ (upd F1 p (.frz o (.tup xs))) _ (Ext.new e1.i hp) (.tup ⟨o, hd, upd_same⟩ hl (Reps.mono p1 (Same.updN (e1.i.free hp))))⟩
    · rw [if_neg hz] at g1; exact g1.elim⟩
/-- a tuple that may be a key -/
def itmF (fs : EnvD → R (List D)) : EnvD → R D := fun env => (fs env).bind fun ds => if small ds.length = true then .ok (.itm ds) else .bad
theorem pd_itm {es : List Expr} {x1} {fs : EnvD → R (List D)} (hs : PDA X cls W (pA X.K) es fs) : PDE X cls W (pV X.K) (.Tuple es x1 pos) (itmF fs) := pe_imp (pe_tup hs) fun σ H Q ⟨H0, F, env, ea, g⟩ =>
  ⟨H0, F, env, ea, (Go.bind g).imp fun xs H1 ⟨F1, ds, _, e1, p1, g1⟩ => by
    by_cases hz : small ds.length = true
    · rw [if_pos hz] at g1
      have hl : xs.length ≤ sizeLine := by rw [Reps.length p1]; exact small_ok hz
      exact ⟨hl, fun p hp => g1 _ (upd F1 p (.tup xs)) _ (Ext.new e1.i hp) (.itm upd_same hl (Reps.mono p1 (Same.updN (e1.i.free hp))))⟩
    · rw [if_neg hz] at g1; exact g1.elim⟩
def lstF (fs : EnvD → R (List D)) : EnvD → R (List D) := fun env => (fs env).bind fun ds => if small ds.length = true then .ok ds else .bad
theorem pd_lst {es : List Expr} {fs : EnvD → R (List D)} (hs : PDA X cls W (pA X.K) es fs) : PDE X cls W (pN X.K) (.List es pos) (lstF fs) := pe_imp (pe_lst hs) fun σ H Q ⟨H0, F, env, ea, g⟩ =>
  ⟨H0, F, env, ea, (Go.bind g).imp fun xs H1 ⟨F1, ds, _, e1, p1, g1⟩ => by
    by_cases hz : small ds.length = true
    · rw [if_pos hz] at g1
      have hl : xs.length ≤ sizeLine := by rw [Reps.length p1]; exact small_ok hz
      exact ⟨hl, fun p hp => g1 _ F1 _ (Ext.newH e1.i hp) ⟨p, xs, rfl, hp, e1.i.free hp, upd_same, hl, p1⟩⟩
    · rw [if_neg hz] at g1; exact g1.elim⟩
/-! ### calls of built-ins -/
def appL {α : Type} (f : List D → Option α) (fs : EnvD → R (List D)) : EnvD → R α := fun env => (fs env).bind fun ds => R.ofO (f ds)
def CallSem {α : Type} (P : PP V α) (K : PySem.W.Frag) (r : List V → Hp → VK → Prop) (f : List D → Option α) : Prop :=
  ∀ F H xs ds z Q, Same F H → RepBs K F H xs ds → f ds = some z → (∀ v F' H', Ext F H F' H' → P.rel H F' H' v z → Q v H') → r xs H Q
variable {x : Str} {p : Pos} {es : List Expr} {fs : EnvD → R (List D)} {α : Type} {P : PP V α} {f : List D → Option α} {r : List V → Hp → VK → Prop} {id T : String}
theorem tG_call (hr : CallSem P X.K r f) {σ : L2.St} {H : Hp} {Q : VK} (h : tG X.K cls W P (appL f fs) σ H Q) : tCB r (tG X.K cls W (pB' X.K) fs) σ H Q := by
  obtain ⟨H0, F, env, ea, g⟩ := h
  refine ⟨H0, F, env, ea, (Go.bind g).imp fun xs H1 ⟨F1, ds, _, e1, p1, g1⟩ => ?_⟩
  obtain ⟨z, hz, g2⟩ := Go.ofO g1
  exact hr F1 H1 xs ds z Q e1.i p1 hz g2
theorem pd_callB (hc : CallR X (.builtin id) r) (hr : CallSem P X.K r f) (hg : Gl X x) (hm : X.mg x = none) (hv : bootBuiltins x = some (.builtin id)) (ha : PDA X cls W (pB' X.K) (e :: es) fs) (hn : x ≠ "__name__" := by decide) (hdb : (x == ("__debug__" : Str)) = false := by decide)
    (he : starEach (e :: es) X.env = (false, eval e X.env) :: starEach es X.env := by rfl) (hpl : (backTo pos (starEach es X.env)).any (·.1) = false := by rfl) : PDE X cls W P (.Call (.Name x p) (e :: es) [] pos) (appL f fs) :=
  pe_imp (pe_callB hc hg hm hv ha hn hdb he hpl) fun σ H Q h => tG_call hr h
theorem pd_callTy (hc : CallR X (.type T) r) (hr : CallSem P X.K r f) (hg : Gl X x) (hm : X.mg x = none) (hv : bootBuiltins x = some (.type T)) (ha : PDA X cls W (pB' X.K) (e :: es) fs) (hn : x ≠ "__name__" := by decide) (hdb : (x == ("__debug__" : Str)) = false := by decide)
    (he : starEach (e :: es) X.env = (false, eval e X.env) :: starEach es X.env := by rfl) (hpl : (backTo pos (starEach es X.env)).any (·.1) = false := by rfl) : PDE X cls W P (.Call (.Name x p) (e :: es) [] pos) (appL f fs) :=
  pe_imp (pe_callTy hc hg hm hv ha hn hdb he hpl) fun σ H Q h => tG_call hr h
end
end PD

set_option maxHeartbeats 4000000
namespace PD
open PySem PySem.Spec PyProof.Rows L2
/-! ### calls of defs -/
def GoF (K : PySem.W.Frag) (cls : Exc → Addr) (F H : Hp) (r : R D) (Q : VK) (E : XK) : Prop := match r with
  | .ok d => ∀ v F' H', Ext F H F' H' → Rep K F' v d → Q v H'
  | .err c => ∀ F' H', Ext F H F' H' → E (.ref (cls c)) none H'
  | .bad => False
def spD (K : PySem.W.Frag) (cls : Exc → Addr) (n : Nat) (fn : List D → R D) : Sp := fun vs H Q E => vs.length = n ∧ ∃ F ds, Same F H ∧ Reps K F vs ds ∧ GoF K cls F H (fn ds) Q E
structure Fn (P : Program) (w : World) (K : PySem.W.Frag) (mg : Str → Option Value) (base : Heap) (cls : Exc → Addr) (k : Nat) (x : Str) (n : Nat) (fn : List D → R D) : Prop where
  ex : ∃ (f : Addr) (fd : FuncData) (ps : List Str), FnOk P w K mg base (L2.CX P w) k f fd ps (spD K cls n fn) ∧ mg x = some (.ref f) ∧ PySem.W.keepIn K (.ref f) = true ∧ Binds K fd ps []
  len : ∀ ds, ds.length ≠ n → fn ds = .bad
def callF (fn : List D → R D) (fs : EnvD → R (List D)) : EnvD → R D := fun env => (fs env).bind fn
section
variable {X : Cx} {cls : Exc → Addr} {W : WX} {e a b c : Expr} {pos p : Pos}
theorem pd_call {k n : Nat} {x : Str} {fn : List D → R D} {es : List Expr} {fs : EnvD → R (List D)} (G : Fn X.prog X.w X.K X.mg X.base cls k x n fn) (hr : Room k X.A) (hg : Gl X x) (tk : Takes X W) (ha : PDA X cls W (pA X.K) (e :: es) fs)
    (hdb : (x == ("__debug__" : Str)) = false := by decide) (he : starEach (e :: es) X.env = (false, eval e X.env) :: starEach es X.env := by rfl) (hpl : (backTo pos (starEach es X.env)).any (·.1) = false := by rfl) :
    PDE X cls W (pV X.K) (.Call (.Name x p) (e :: es) [] pos) (callF fn fs) := by
  obtain ⟨f, fd, ps, G1, G2, G3, G4⟩ := G.ex
  refine pe_imp (pe_callS G1 hr hg G2 G3 G4 (fun σ => passAt tk σ) ha hdb he hpl) fun σ H Q ⟨H0, F, env, ea, g⟩ => ⟨H0, F, env, ea, (Go.bind g).imp fun vs H1 ⟨F1, ds, _, e1, p1, g1⟩ => ?_⟩
  have hl : ds.length = n := by
    by_cases q : ds.length = n
    · exact q
    · rw [G.len ds q] at g1; exact g1.elim
  refine ⟨by rw [Reps.length p1]; exact hl, F1, ds, e1.i, p1, ?_⟩
  cases q : fn ds with
  | ok d => rw [q] at g1; exact g1
  | err c => rw [q] at g1; exact g1
  | bad => rw [q] at g1; exact g1
/-! ### statements -/
def GoS (K : PySem.W.Frag) (cls : Exc → Addr) (W : WX) (F0 H0 F : Hp) (o : Out) (D : Ends) : Prop := match o with
  | .next e => ∀ σ' F' H', Ext F0 H0 F' H' → Same F F' → EnvAt K H0 e σ' F' H' → D.nx σ' H'
  | .brk e => ∀ σ' F' H', Ext F0 H0 F' H' → Same F F' → EnvAt K H0 e σ' F' H' → D.bk σ' H'
  | .cont e => ∀ σ' F' H', Ext F0 H0 F' H' → Same F F' → EnvAt K H0 e σ' F' H' → D.ct σ' H'
  | .ret d => ∀ v F' H', Ext F0 H0 F' H' → Same F F' → Rep K F' v d → D.rt v H'
  | .err c e => ∀ σ' F' H', Ext F0 H0 F' H' → Same F F' → EnvAt K H0 e σ' F' H' → W (.ref (cls c)) none σ' H'
  | .bad => False
theorem GoS.from {K : PySem.W.Frag} {F0 H0 F F1 : Hp} {o : Out} {D : Ends} (g : GoS K cls W F0 H0 F o D) (s : Same F F1) : GoS K cls W F0 H0 F1 o D := by
  cases o with
  | next e => exact fun σ' F' H' x y z => g σ' F' H' x (s.trans y) z
  | brk e => exact fun σ' F' H' x y z => g σ' F' H' x (s.trans y) z
  | cont e => exact fun σ' F' H' x y z => g σ' F' H' x (s.trans y) z
  | ret e => exact fun σ' F' H' x y z => g σ' F' H' x (s.trans y) z
  | err c e => exact fun σ' F' H' x y z => g σ' F' H' x (s.trans y) z
  | bad => exact g
def tS (K : PySem.W.Frag) (cls : Exc → Addr) (W : WX) (G : EnvD → Out) : TS := fun D σ H => ∃ H0 F0 env F, Ext F0 H0 F H ∧ EnvAt K H0 env σ F H ∧ GoS K cls W F0 H0 F (G env) D
abbrev PDS (X : Cx) (cls : Exc → Addr) (W : WX) (st : Stmt) (G : EnvD → Out) : Prop := PS X st (tS X.K cls W G)
abbrev PDSs (X : Cx) (cls : Exc → Addr) (W : WX) (st : List Stmt) (G : EnvD → Out) : Prop := PSs X st (tS X.K cls W G)
def seqS (G1 G2 : EnvD → Out) : EnvD → Out := fun env => match G1 env with
  | .next e => G2 e
  | .ret d => .ret d
  | .err c e => .err c e
  | .brk e => .brk e
  | .cont e => .cont e
  | .bad => .bad
theorem pds_cons {st : Stmt} {rest : List Stmt} {G1 G2 : EnvD → Out} (h1 : PDS X cls W st G1) (h2 : PDSs X cls W rest G2) : PDSs X cls W (st :: rest) (seqS G1 G2) := pss_imp (pss_cons h1 h2) fun D σ H ⟨H0, F0, env, F, x, ea, g⟩ => by
  refine ⟨H0, F0, env, F, x, ea, ?_⟩
  unfold seqS at g
  cases q : G1 env with
  | next e => rw [q] at g; exact fun σ' F' H' x' s' ea' => ⟨H0, F0, e, F', x', ea', g.from s'⟩
  | brk e => rw [q] at g; exact g
  | cont e => rw [q] at g; exact g
  | ret e => rw [q] at g; exact g
  | err c e => rw [q] at g; exact g
  | bad => rw [q] at g; exact g
def skipS : EnvD → Out := fun env => .next env
theorem pds_nil : PDSs X cls W [] skipS := pss_imp pss_nil fun D σ H ⟨H0, F0, env, F, x, ea, g⟩ => g σ F H x (Same.refl F) ea
theorem pds_one {st : Stmt} {G : EnvD → Out} (h : PDS X cls W st G) : PDSs X cls W [st] G := pss_one h
theorem pds_pass : PDS X cls W (.Pass pos) skipS := ps_imp ps_pass fun D σ H ⟨H0, F0, env, F, x, ea, g⟩ => g σ F H x (Same.refl F) ea
/-- a ghost step: slot i is frozen -/
def frzE (i : Nat) (env : EnvD) : EnvD := match env[i]? with
  | some (.own ds) => env.set i (.val (.lst ds))
  | some (.ownd _ ks vs) => env.set i (.val (.dic ks vs))
  | _ => env
theorem pds_frz {sts : List Stmt} {G : EnvD → Out} (i : Nat) (h : PDSs X cls W sts G) : PDSs X cls W sts (fun env => G (frzE i env)) := pss_imp h fun D σ H ⟨H0, F0, env, F, x, ea, g⟩ => by
  have g : GoS X.K cls W F0 H0 F (G (frzE i env)) D := g
  cases q : env[i]? with
  | none =>
    have e : frzE i env = env := by unfold frzE; rw [q]
    rw [e] at g; exact ⟨H0, F0, env, F, x, ea, g⟩
  | some s =>
    cases s with
    | own ds =>
      have e : frzE i env = env.set i (.val (.lst ds)) := by unfold frzE; rw [q]
      rw [e] at g
      obtain ⟨F', s1, s2, ea'⟩ := ea.freeze q
      exact ⟨H0, F0, _, F', ⟨x.f.trans s1, x.h, ea'.fh, fun a o z1 m z2 => x.n a o z1 m (s2 a o z1 m z2)⟩, ea', g.from s1⟩
    | no => (have e : frzE i env = env := by unfold frzE; rw [q]); rw [e] at g; exact ⟨H0, F0, env, F, x, ea, g⟩
    | val d => (have e : frzE i env = env := by unfold frzE; rw [q]); rw [e] at g; exact ⟨H0, F0, env, F, x, ea, g⟩
    | ownd tt ks vs =>
      have e : frzE i env = env.set i (.val (.dic ks vs)) := by unfold frzE; rw [q]
      rw [e] at g
      obtain ⟨F', s1, s2, ea'⟩ := ea.freezeD q
      exact ⟨H0, F0, _, F', ⟨x.f.trans s1, x.h, ea'.fh, fun a o z1 m z2 => x.n a o z1 m (s2 a o z1 m z2)⟩, ea', g.from s1⟩
def bindS {α : Type} (r : R α) (env : EnvD) (k : α → Out) : Out := match r with
  | .ok a => k a
  | .err c => .err c env
  | .bad => .bad
theorem GoS.expr {ρ α : Type} {P : PP ρ α} {K : PySem.W.Frag} {F0 H0 F H : Hp} {env : EnvD} {σ : L2.St} {r : R α} {k : α → Out} {D : Ends} (g : GoS K cls W F0 H0 F (bindS r env k) D) (x : Ext F0 H0 F H) (ea : EnvAt K H0 env σ F H) :
    Go cls P W σ F H r (fun v H1 => ∃ F1 d, r = .ok d ∧ Ext F H F1 H1 ∧ P.rel H F1 H1 v d ∧ GoS K cls W F0 H0 F1 (k d) D) := by
  cases r with
  | ok d => exact fun v F' H' e p => ⟨F', d, rfl, e, p, GoS.from g e.f⟩
  | err c => exact fun F' H' e => g σ F' H' (x.trans e) e.f (ea.mono e)
  | bad => exact g
variable {st : Stmt} {G G1 G2 : EnvD → Out}
def setS (i : Nat) (f : EnvD → R D) : EnvD → Out := fun env => bindS (f env) env fun d => .next (env.set i (.val d))
theorem pds_set {i : Nat} {f : EnvD → R D} (h : PS X st (tAsg (tG X.K cls W (pV X.K) f) (gName i))) : PDS X cls W st (setS i f) := ps_imp h fun D σ H ⟨H0, F0, env, F, x, ea, g⟩ =>
  ⟨H0, F, env, ea, (g.expr x ea).imp fun v H1 ⟨F1, d, _, e1, p1, g1⟩ => g1 _ F1 H1 (x.trans e1) (Same.refl F1) ((ea.mono e1).setV i p1)⟩
def setO (i : Nat) (f : EnvD → R (List D)) : EnvD → Out := fun env => bindS (f env) env fun d => .next (env.set i (.own d))
theorem pds_setN {i : Nat} {f : EnvD → R (List D)} (h : PS X st (tAsg (tG X.K cls W (pN X.K) f) (gName i))) : PDS X cls W st (setO i f) := ps_imp h fun D σ H ⟨H0, F0, env, F, x, ea, g⟩ =>
  ⟨H0, F, env, ea, (g.expr x ea).imp fun v H1 ⟨F1, d, _, e1, ⟨p, xs, ev, n1, n2, n3, n4, n5⟩, g1⟩ => by
    subst ev
    exact g1 _ F1 H1 (x.trans e1) (Same.refl F1) ((ea.mono e1).setO i ⟨p, xs, rfl, x.h.free n1, n2, n3, n4, n5⟩ fun j t _ hj ot hp => (ea.ownAt hj ot hp).1 n1)⟩
def setM (i : Nat) (f : EnvD → R (Bool × List D × List D)) : EnvD → Out := fun env => bindS (f env) env fun d => .next (env.set i (.ownd d.1 d.2.1 d.2.2))
theorem pds_setM {i : Nat} {f : EnvD → R (Bool × List D × List D)} (h : PS X st (tAsg (tG X.K cls W (pM X.K) f) (gName i))) : PDS X cls W st (setM i f) := ps_imp h fun D σ H ⟨H0, F0, env, F, x, ea, g⟩ =>
  ⟨H0, F, env, ea, (g.expr x ea).imp fun v H1 ⟨F1, d, _, e1, ⟨p, u, ev, n1, n2, n3, n4⟩, g1⟩ => by
    subst ev
    exact g1 _ F1 H1 (x.trans e1) (Same.refl F1) ((ea.mono e1).setO i ⟨p, u, rfl, x.h.free n1, n2, n3, n4⟩ fun j t _ hj ot hp => (ea.ownAt hj ot hp).1 n1)⟩
def dropS {α : Type} (f : EnvD → R α) : EnvD → Out := fun env => bindS (f env) env fun _ => .next env
theorem pds_expr {f : EnvD → R D} (h : PS X st (tDrop (tG X.K cls W (pV X.K) f))) : PDS X cls W st (dropS f) := ps_imp h fun D σ H ⟨H0, F0, env, F, x, ea, g⟩ =>
  ⟨H0, F, env, ea, (g.expr x ea).imp fun v H1 ⟨F1, d, _, e1, p1, g1⟩ => g1 _ F1 H1 (x.trans e1) (Same.refl F1) (ea.mono e1)⟩
def retS (f : EnvD → R D) : EnvD → Out := fun env => bindS (f env) env fun d => .ret d
theorem pds_ret {f : EnvD → R D} (h : PDE X cls W (pV X.K) e f) : PDS X cls W (.Return (some e) pos) (retS f) := ps_imp (ps_ret h) fun D σ H ⟨H0, F0, env, F, x, ea, g⟩ =>
  ⟨H0, F, env, ea, (g.expr x ea).imp fun v H1 ⟨F1, d, _, e1, p1, g1⟩ => g1 v F1 H1 (x.trans e1) (Same.refl F1) p1⟩
def ifS (t : EnvD → R Bool) (G1 G2 : EnvD → Out) : EnvD → Out := fun env => bindS (t env) env fun k => if k = true then G1 env else G2 env
theorem pds_if {t : EnvD → R Bool} {s1 s2 : List Stmt} (hc : PDT X cls W c t) (ha : PDSs X cls W s1 G1) (hb : PDSs X cls W s2 G2) : PDS X cls W (.If c s1 s2 pos) (ifS t G1 G2) := ps_imp (ps_if hc ha hb) fun D σ H ⟨H0, F0, env, F, x, ea, g⟩ =>
  ⟨H0, F, env, ea, (g.expr x ea).imp fun k H1 ⟨F1, d, _, e1, p1, g1⟩ => by
    cases p1
    cases k with
    | true => exact ⟨H0, F0, env, F1, x.trans e1, ea.mono e1, g1⟩
    | false => exact ⟨H0, F0, env, F1, x.trans e1, ea.mono e1, g1⟩⟩
def raiseS (c : Exc) : EnvD → Out := fun env => .err c env
/-- what is known of an exception class of the text -/
structure ExcAt (K : PySem.W.Frag) (mg : Str → Option Value) (x : Str) (C : Addr) : Prop where
  g : mg x = some (.ref C)
  x : PySem.W.excIn K C He.veBase "ValueError.__new__" = true
  k : PySem.W.keepIn K (.ref C) = true
  b : PySem.W.subIn K (.ref C) (.type "BaseException") = some true
  t : PySem.W.typeIn K (.ref C) = some (.type "type")
theorem pds_raise {x m : Str} {j : Nat} {q : Exc} {p2 pos2 pos3 : Pos} (hc : X.calm = true) (tk : Takes X W) (h : ExcAt X.K X.mg x (cls q)) (hg : Gl X x) (hdb : (x == ("__debug__" : Str)) = false := by decide) :
    PDS X cls W (.Raise (some (.Call (.Name x p) [.Constant (.str m) j p2] [] pos2)) none pos3) (raiseS q) :=
  ps_imp (ps_raise hc tk (pmk_own PySem.F.excBase_ValueError h.x h.g h.k (raises_own h.b h.t) hg hdb)) fun D σ H ⟨H0, F0, env, F, x, ea, g⟩ => g σ F H x (Same.refl F) ea
end
/-! ### walks -/
def WalkD (K : PySem.W.Frag) (b : Bool) (J : It) (F' H' : Hp) (ds : List D) : Prop :=
  ds.length ≤ sizeLine ∧ ∀ F1 H1, Same F' F1 → Same F1 H1 → (b = true → Same H' H1) →
    (∀ i d, ds[i]? = some d → J.go i H1 ∧ ∀ x H2, J.yld i H1 x H2 → ∃ F2, Ext F1 H1 F2 H2 ∧ Rep K F2 x d) ∧ J.stop ds.length H1
def pI (K : PySem.W.Frag) (b : Bool) : PP It (List D) := ⟨fun _ F' H' J ds => WalkD K b J F' H' ds, fun _ h => h, fun e h => ⟨h.1, fun F1 H1 a c d => h.2 F1 H1 (e.f.trans a) c fun q => e.h.trans (d q)⟩⟩
abbrev PDI (X : Cx) (cls : Exc → Addr) (W : WX) (b : Bool) (tg iter : Expr) (f : EnvD → R (List D)) : Prop := PI X tg iter (tG X.K cls W (pI X.K b) f)
section
variable {X : Cx} {cls : Exc → Addr} {W : WX} {e a b c tg : Expr} {pos p : Pos}
theorem pi_seq {tl : TE} {l : Expr} (hl : PE X l tl) : PI X tg l (fun σ H R => tl σ H fun x H1 => ∃ a, x = .ref a ∧ ((∃ xs, SqL X.K H1 a xs) ∧ R (Itl X.K a) H1 ∨ (∃ xs, SqT X.K H1 a xs) ∧ R (Itt X.K a) H1)) := by
  refine ⟨fun pins s σ H R I h => ?_⟩
  refine thn (hl.run pins s σ H _ I h) fun v s1 ⟨x, H1, I1, r1, q1⟩ => ?_
  obtain ⟨a, e, q1⟩ := q1
  subst e
  cases r1
  rcases q1 with ⟨⟨xs, hq⟩, q⟩ | ⟨⟨xs, hq⟩, q⟩
  · obtain ⟨its, rv, p, hz⟩ := I1.list hq
    refine wpAny_pyIter_list p.isList ?_
    refine ⟨s1.heap.objs.size, [s1.heap.objs.size], _, _, H1, rfl, I1.kept (t' := s1.toks) fun b o e => Heap.get?_push_of_some _ e, turn_list a _, ⟨_, Heap.get?_push_size _ rfl, rfl, rfl⟩, fun b hb => ?_, q⟩
    have e : b = s1.heap.objs.size := by simpa using hb
    subst e
    exact I1.fpOk (Nat.le_refl _) (I1.hok.fresh (Nat.le_refl _))
  · obtain ⟨its, rv, p, hz⟩ := I1.tuple hq
    refine wpAny_pyIter_tuple (show s1.heap.IsTuple a its.toArray from p) ?_
    refine ⟨s1.heap.objs.size, [s1.heap.objs.size], _, _, H1, rfl, I1.kept (t' := s1.toks) fun b o e => Heap.get?_push_of_some _ e, turn_tuple a _, ⟨_, Heap.get?_push_size _ rfl, rfl, rfl⟩, fun b hb => ?_, q⟩
    have e : b = s1.heap.objs.size := by simpa using hb
    subst e
    exact I1.fpOk (Nat.le_refl _) (I1.hok.fresh (Nat.le_refl _))
def asSeq : D → Option (List D)
  | .lst xs => some xs
  | .tup xs => some xs
  | _ => none
def seqF (f : EnvD → R D) : EnvD → R (List D) := una asSeq f
theorem walkL {K : PySem.W.Frag} {bb : Bool} {F H : Hp} {q : Addr} {xs : List V} {ds : List D} (h : ∀ F1 H1, Same F F1 → Same F1 H1 → (bb = true → Same H H1) → H1 q = some (.lst xs)) (hl : xs.length ≤ sizeLine) (r : Reps K F xs ds) : WalkD K bb (Itl K q) F H ds := by
  refine ⟨by rw [← r.length]; exact hl, fun F1 H1 a1 a2 a3 => ⟨fun i d hd => ?_, ⟨xs, SqL.of (h F1 H1 a1 a2 a3), by rw [r.length]; exact Nat.le_refl _⟩⟩⟩
  obtain ⟨v, hv, rv⟩ := r.get hd
  refine ⟨⟨xs, v, SqL.of (h F1 H1 a1 a2 a3), hv⟩, fun x H2 ⟨e1, e2⟩ => ?_⟩
  subst e1
  have := e2 xs (SqL.of (h F1 H2 a1 a2 a3))
  rw [hv] at this; cases this
  exact ⟨F1, Ext.refl a2, rv.mono a1⟩
theorem walkT {K : PySem.W.Frag} {bb : Bool} {F H : Hp} {q : Addr} {xs : List V} {ds : List D} (h : TupAt F q xs) (hl : xs.length ≤ sizeLine) (r : Reps K F xs ds) : WalkD K bb (Itt K q) F H ds := by
  refine ⟨by rw [← r.length]; exact hl, fun F1 H1 a1 a2 a3 => ⟨fun i d hd => ?_, ⟨xs, ((h.mono a1).mono a2).sq, by rw [r.length]; exact Nat.le_refl _⟩⟩⟩
  obtain ⟨v, hv, rv⟩ := r.get hd
  refine ⟨⟨xs, v, ((h.mono a1).mono a2).sq, hv⟩, fun x H2 ⟨e1, e2⟩ => ?_⟩
  subst e1
  have := e2 xs (((h.mono a1).mono a2).sq)
  rw [hv] at this; cases this
  exact ⟨F1, Ext.refl a2, rv.mono a1⟩
theorem pdi_seq {f : EnvD → R D} (h : PDE X cls W (pV X.K) e f) : PDI X cls W false tg e (seqF f) := pi_imp (pi_seq h) fun σ H Q ⟨H0, F, env, ea, g⟩ =>
  ⟨H0, F, env, ea, (Go.bind g).imp fun x H1 ⟨F1, d, _, e1, p1, g1⟩ => by
    obtain ⟨ds, hd, g2⟩ := Go.ofO g1
    cases p1 with
    | lst h1 h2 h3 =>
      cases hd
      exact ⟨_, rfl, .inl ⟨⟨_, SqL.of (e1.i _ _ h1)⟩, g2 _ F1 H1 (Ext.refl e1.i) (walkL (fun F2 H2 a1 a2 _ => a2 _ _ (a1 _ _ h1)) h2 h3)⟩⟩
    | tup h1 h2 h3 =>
      cases hd
      exact ⟨_, rfl, .inr ⟨⟨_, (h1.mono e1.i).sq⟩, g2 _ F1 H1 (Ext.refl e1.i) (walkT h1 h2 h3)⟩⟩
    | _ => cases hd⟩
theorem pdi_seqB {f : EnvD → R D} (h : PDE X cls W (pB X.K) e f) : PDI X cls W true tg e (seqF f) := pi_imp (pi_seq h) fun σ H Q ⟨H0, F, env, ea, g⟩ =>
  ⟨H0, F, env, ea, (Go.bind g).imp fun x H1 ⟨F1, d, _, e1, p1, g1⟩ => by
    obtain ⟨ds, hd, g2⟩ := Go.ofO g1
    rcases p1 with p1 | ⟨q, xs, es, rfl, rfl, h1, h2, h3⟩ | ⟨q, u, t, ks, vs, rfl, rfl, h1, h2⟩
    · cases p1 with
      | lst h1 h2 h3 =>
        cases hd
        exact ⟨_, rfl, .inl ⟨⟨_, SqL.of (e1.i _ _ h1)⟩, g2 _ F1 H1 (Ext.refl e1.i) (walkL (fun F2 H2 a1 a2 _ => a2 _ _ (a1 _ _ h1)) h2 h3)⟩⟩
      | tup h1 h2 h3 =>
        cases hd
        exact ⟨_, rfl, .inr ⟨⟨_, (h1.mono e1.i).sq⟩, g2 _ F1 H1 (Ext.refl e1.i) (walkT h1 h2 h3)⟩⟩
      | _ => cases hd
    · cases hd
      exact ⟨_, rfl, .inl ⟨⟨_, SqL.of h1⟩, g2 _ F1 H1 (Ext.refl e1.i) (walkL (fun F2 H2 _ _ a3 => a3 rfl _ _ h1) h2 h3)⟩⟩
    · cases hd⟩
/-! ### ranges -/
def rng (lo hi : Int) : List D := (List.range (hi - lo).toNat).map fun i => .int (lo + (i : Nat))
def rngOk (lo hi : Int) : Bool := decide (-4611686018427387904 ≤ lo ∧ lo < 4611686018427387904 ∧ -4611686018427387904 ≤ hi ∧ hi < 4611686018427387904 ∧ hi - lo ≤ 16777216)
def asRng1 : List D → Option (List D)
  | [.int j] => if rngOk 0 j = true then some (rng 0 j) else none
  | _ => none
def asRng2 : List D → Option (List D)
  | [.int i, .int j] => if rngOk i j = true then some (rng i j) else none
  | _ => none
theorem walkR {K : PySem.W.Frag} {bb : Bool} {F H : Hp} {lo : Int} {n : Nat} (h : n ≤ sizeLine) : WalkD K bb (Itr lo n) F H ((List.range n).map fun i => .int (lo + (i : Nat))) := by
  refine ⟨by simpa using h, fun F1 H1 a1 a2 a3 => ⟨fun i d hd => ?_, by simp [Itr]⟩⟩
  rw [List.getElem?_map] at hd
  cases q : (List.range n)[i]? with
  | none => rw [q] at hd; cases hd
  | some j =>
    rw [q] at hd
    obtain ⟨hi, ej⟩ := List.getElem?_eq_some_iff.mp q
    have hi' : i < n := by simpa using hi
    have ej' : i = j := by simpa using ej
    subst ej'
    cases hd
    exact ⟨hi', fun x H2 ⟨e1, e2⟩ => by subst e1 e2; exact ⟨F1, Ext.refl a2, .int _⟩⟩
theorem rng_le {lo hi : Int} (h : rngOk lo hi = true) : (hi - lo).toNat ≤ sizeLine := by
  have := of_decide_eq_true h
  rw [sizeLine_eq]; omega
theorem reps_bs1 {K : PySem.W.Frag} {F H : Hp} {vs : List V} {i : Int} (h : RepBs K F H vs [.int i]) : vs = [.int i] := by
  cases h with | cons a b => cases b; rcases a with a | ⟨_, _, _, _, a, _⟩ | ⟨_, _, _, _, _, _, a, _⟩ <;> cases a; rfl
theorem reps_bs2 {K : PySem.W.Frag} {F H : Hp} {vs : List V} {i j : Int} (h : RepBs K F H vs [.int i, .int j]) : vs = [.int i, .int j] := by
  cases h with | cons a b => rw [reps_bs1 b]; rcases a with a | ⟨_, _, _, _, a, _⟩ | ⟨_, _, _, _, _, _, a, _⟩ <;> cases a; rfl
theorem pdi_range1 {fs : EnvD → R (List D)} (hg : Gl X "range") (hm : X.mg "range" = none) (ha : PDA X cls W (pB' X.K) [a] fs) (hs : starEach [a] X.env = [(false, eval a X.env)] := by rfl) : PDI X cls W false tg (.Call (.Name "range" p) [a] [] pos) (appL asRng1 fs) :=
  pi_imp (pi_range1 hg hm ha hs) fun σ H Q ⟨H0, F, env, ea, g⟩ => ⟨H0, F, env, ea, (Go.bind g).imp fun xs H1 ⟨F1, ds, _, e1, p1, g1⟩ => by
    obtain ⟨z, hz, g2⟩ := Go.ofO g1
    unfold asRng1 at hz
    split at hz
    · rename_i j hq
      by_cases hk : rngOk 0 j = true
      · rw [if_pos hk] at hz; cases hz
        have hb := of_decide_eq_true hk
        have hw := walkR (K := X.K) (bb := false) (F := F1) (H := H1) (lo := 0) (rng_le hk)
        rw [Int.sub_zero] at hw
        refine ⟨j, reps_bs1 p1, by omega, by omega, g2 _ F1 H1 (Ext.refl e1.i) ?_⟩
        unfold rng
        rw [Int.sub_zero]
        exact hw
      · rw [if_neg hk] at hz; cases hz
    · cases hz⟩
theorem pdi_range2 {fs : EnvD → R (List D)} (hg : Gl X "range") (hm : X.mg "range" = none) (ha : PDA X cls W (pB' X.K) [a, b] fs) (hs : starEach [a, b] X.env = [(false, eval a X.env), (false, eval b X.env)] := by rfl) (hs2 : starEach [b] X.env = [(false, eval b X.env)] := by rfl) : PDI X cls W false tg (.Call (.Name "range" p) [a, b] [] pos) (appL asRng2 fs) :=
  pi_imp (pi_range2 hg hm ha hs hs2) fun σ H Q ⟨H0, F, env, ea, g⟩ => ⟨H0, F, env, ea, (Go.bind g).imp fun xs H1 ⟨F1, ds, _, e1, p1, g1⟩ => by
    obtain ⟨z, hz, g2⟩ := Go.ofO g1
    unfold asRng2 at hz
    split at hz
    · rename_i i j hq
      by_cases hk : rngOk i j = true
      · rw [if_pos hk] at hz; cases hz
        have hb := of_decide_eq_true hk
        exact ⟨i, j, reps_bs2 p1, ⟨by omega, by omega, by omega, by omega⟩, g2 _ F1 H1 (Ext.refl e1.i) (walkR (rng_le hk))⟩
      · rw [if_neg hk] at hz; cases hz
    · cases hz⟩
end
end PD

set_option maxHeartbeats 4000000
/-! [f, g, ..][i](e, ..): a function picked from a list -/
namespace PD
open PySem PySem.Spec PyProof.Rows L2
section
variable {X : Cx} {W : WX} {cls : Exc → Addr} {fe e i : Expr} {es : List Expr} {pos : Pos} {tf : TE} {t : TA}
def tCallX (X : Cx) (W : WX) (tf : TE) (t : TA) : TE := fun σ H Q => tf σ H fun y H1 => ∃ (f : Addr) (k : Nat) (fd : FuncData) (ps : List Str) (sp : Sp), y = .ref f ∧ FnOk X.prog X.w X.K X.mg X.base (L2.CX X.prog X.w) k f fd ps sp ∧ Room k X.A ∧
  PySem.W.keepIn X.K (.ref f) = true ∧ Binds X.K fd ps [] ∧ t σ H1 fun vs H2 => sp vs H2 Q (WE W σ)
theorem pe_callX (tk : Takes X W) (hf : PE X fe tf) (ha : PA X (e :: es) t)
    (ht : eval (.Call fe (e :: es) [] pos) X.env = (do callWith pos (← eval fe X.env) [] (backTo pos (starEach (e :: es) X.env)) (backToKw pos (keywordEach [] X.env))) := by rfl)
    (he : starEach (e :: es) X.env = (false, eval e X.env) :: starEach es X.env := by rfl) (hpl : (backTo pos (starEach es X.env)).any (·.1) = false := by rfl) : PE X (.Call fe (e :: es) [] pos) (tCallX X W tf t) := by
  refine ⟨fun pins s σ H Q I h => ?_⟩
  refine Call_ (thn (hf.run pins s σ H _ I h) fun u s1 ⟨y, H1, I1, ry, f, k, fd, ps, sp, ey, F, hr, hk, hb, q⟩ => ?_) ht
  subst ey
  obtain rfl : u = Value.ref f := ry
  exact PySem.W.callWith_K (h₀ := X.base) I1.ok.mod.kin hk (thn (ha.run pos pins s1 σ H1 _ I1 q) fun us s2 ⟨vs, H2, I2, r, q2⟩ => ⟨I2.kIn, run_fnS F hr hb (passAt tk σ) I2 r q2⟩) he hpl
def callXF (fns : List (List D → R D)) (fi : EnvD → R D) (fs : EnvD → R (List D)) : EnvD → R D := fun env => (fi env).bind fun d => match d with
  | .int j => match atI fns j with
    | some fn => (fs env).bind fn
    | none => .bad
  | _ => .bad
/-- a function of the module -/
def FnA (X : Cx) (cls : Exc → Addr) (v : V) (fn : List D → R D) : Prop := ∃ (f : Addr) (k n : Nat) (fd : FuncData) (ps : List Str), v = .ref f ∧ FnOk X.prog X.w X.K X.mg X.base (L2.CX X.prog X.w) k f fd ps (spD X.K cls n fn) ∧ Room k X.A ∧
  PySem.W.keepIn X.K (.ref f) = true ∧ Binds X.K fd ps [] ∧ ∀ ds, ds.length ≠ n → fn ds = .bad
theorem fn_get {fn : List D → R D} : ∀ {vs : List V} {fns : List (List D → R D)} {k : Nat}, Paired (FnA X cls) vs fns → fns[k]? = some fn → ∃ v, vs[k]? = some v ∧ FnA X cls v fn
  | _, _, _, .nil, e => by simp at e
  | _, _, 0, .cons a _, e => by simp at e; subst e; exact ⟨_, rfl, a⟩
  | _, _, k + 1, .cons _ b, e => by
    obtain ⟨v, h1, h2⟩ := fn_get (k := k) b (by simpa using e)
    exact ⟨v, by simpa using h1, h2⟩
theorem fn_at {vs : List V} {fns : List (List D → R D)} (h : Paired (FnA X cls) vs fns) {j : Int} {fn : List D → R D} (e : atI fns j = some fn) : ∃ v, atI vs j = some v ∧ FnA X cls v fn := by
  have hl : vs.length = fns.length := Paired.length h
  unfold atI at e ⊢
  rw [hl]
  cases q : ixN fns.length j with
  | none => rw [q] at e; cases e
  | some k =>
    rw [q] at e
    exact fn_get h e
theorem tG_callX {vs : List V} {fns : List (List D → R D)} {fi : EnvD → R D} {fs : EnvD → R (List D)} {tl : TA} (hp : Paired (FnA X cls) vs fns) (hz : vs.length ≤ sizeLine) (htl : ∀ σ H (Q : List V → Hp → Prop), Q vs H → tl σ H Q) {σ : L2.St} {H : Hp} {Q : VK}
    (h : tG X.K cls W (pV X.K) (callXF fns fi fs) σ H Q) : tCallX X W (tOp (rIx X.K) (tLst tl) (tG X.K cls W (pV X.K) fi)) (tG X.K cls W (pA X.K) fs) σ H Q := by
  obtain ⟨H0, F, env, ea, g⟩ := h
  refine htl σ H _ ⟨hz, fun p hpn => ?_⟩
  have e0 : Ext F H F (upd H p (.lst vs)) := Ext.newH ea.fh hpn
  have ea0 := ea.mono e0
  have g0 : Go cls (pV X.K) W σ F (upd H p (.lst vs)) (callXF fns fi fs env) Q := by
    cases q : callXF fns fi fs env with
    | ok d => rw [q] at g; exact fun v F' H' x r => g v F' H' (e0.trans x) r
    | err c => rw [q] at g; exact fun F' H' x => g F' H' (e0.trans x)
    | bad => rw [q] at g; exact g
  refine ⟨H0, F, env, ea0, (Go.bind g0).imp fun y H1 ⟨F1, d, _, e1, p1, g1⟩ => ?_⟩
  cases d with
  | int j =>
    cases p1
    cases w : atI fns j with
    | none => simp only [w] at g1; exact g1.elim
    | some fn =>
      simp only [w] at g1
      obtain ⟨v, hv, f, k, n, fd, ps, rfl, f1, f2, f3, f4, f5⟩ := fn_at hp w
      refine .inl ⟨p, vs, j, .ref f, rfl, rfl, SqL.of (e1.h _ _ upd_same), hv, f, k, fd, ps, _, rfl, f1, f2, f3, f4, H0, F1, env, ea0.mono e1, (Go.bind g1).imp fun us H2 ⟨F2, ds, _, e2, p2, g2⟩ => ?_⟩
      have hl : ds.length = n := by
        by_cases q : ds.length = n
        · exact q
        · rw [f5 ds q] at g2; exact g2.elim
      refine ⟨by rw [Reps.length p2]; exact hl, F2, ds, e2.i, p2, ?_⟩
      cases q : fn ds with
      | ok d => rw [q] at g2; exact g2
      | err c => rw [q] at g2; exact g2
      | bad => rw [q] at g2; exact g2
  | _ => exact g1.elim
theorem Fn.at' {k n : Nat} {x : Str} {fn : List D → R D} (G : Fn X.prog X.w X.K X.mg X.base cls k x n fn) (hr : Room k X.A) : ∃ f : Addr, X.mg x = some (.ref f) ∧ FnA X cls (.ref f) fn := by
  obtain ⟨f, fd, ps, G1, G2, G3, G4⟩ := G.ex
  exact ⟨f, G2, f, k, n, fd, ps, rfl, G1, hr, G3, G4, G.len⟩
theorem pd_callX2 {k1 n1 k2 n2 : Nat} {x1 x2 : Str} {fn1 fn2 : List D → R D} {fi : EnvD → R D} {fs : EnvD → R (List D)} {p1 p2 lp sp : Pos} (G1 : Fn X.prog X.w X.K X.mg X.base cls k1 x1 n1 fn1) (G2 : Fn X.prog X.w X.K X.mg X.base cls k2 x2 n2 fn2)
    (r1 : Room k1 X.A) (r2 : Room k2 X.A) (g1 : Gl X x1) (g2 : Gl X x2) (tk : Takes X W) (hi : PDE X cls W (pV X.K) i fi) (hs : PlainIx i) (ha : PDA X cls W (pA X.K) (e :: es) fs)
    (d1 : (x1 == ("__debug__" : Str)) = false := by decide) (d2 : (x2 == ("__debug__" : Str)) = false := by decide)
    (s1 : starEach [.Name x1 p1, .Name x2 p2] X.env = (false, eval (.Name x1 p1) X.env) :: starEach [.Name x2 p2] X.env := by rfl) (s2 : starEach [.Name x2 p2] X.env = (false, eval (.Name x2 p2) X.env) :: starEach [] X.env := by rfl)
    (ht : eval (.Call (.Subscript (.List [.Name x1 p1, .Name x2 p2] lp) i sp) (e :: es) [] pos) X.env = (do callWith pos (← eval (.Subscript (.List [.Name x1 p1, .Name x2 p2] lp) i sp) X.env) [] (backTo pos (starEach (e :: es) X.env)) (backToKw pos (keywordEach [] X.env))) := by rfl)
    (he : starEach (e :: es) X.env = (false, eval e X.env) :: starEach es X.env := by rfl) (hpl : (backTo pos (starEach es X.env)).any (·.1) = false := by rfl) :
    PDE X cls W (pV X.K) (.Call (.Subscript (.List [.Name x1 p1, .Name x2 p2] lp) i sp) (e :: es) [] pos) (callXF [fn1, fn2] fi fs) := by
  obtain ⟨f1, m1, a1⟩ := Fn.at' G1 r1
  obtain ⟨f2, m2, a2⟩ := Fn.at' G2 r2
  refine pe_imp (pe_callX tk (pe_ix ix_seq (pe_lst (pa_cons (pe_glob (v := .ref f1) g1 m1 rfl d1) (pa_cons (pe_glob (v := .ref f2) g2 m2 rfl d2) pa_nil s2) s1)) hi hs) ha ht he hpl) fun σ H Q h => ?_
  exact tG_callX (vs := [.ref f1, .ref f2]) (.cons a1 (.cons a2 .nil)) (by show 2 ≤ sizeLine; decide) (fun σ H Q h => h) h
theorem pd_callX3 {k1 n1 k2 n2 k3 n3 : Nat} {x1 x2 x3 : Str} {fn1 fn2 fn3 : List D → R D} {fi : EnvD → R D} {fs : EnvD → R (List D)} {p1 p2 p3 lp sp : Pos} (G1 : Fn X.prog X.w X.K X.mg X.base cls k1 x1 n1 fn1) (G2 : Fn X.prog X.w X.K X.mg X.base cls k2 x2 n2 fn2) (G3 : Fn X.prog X.w X.K X.mg X.base cls k3 x3 n3 fn3)
    (r1 : Room k1 X.A) (r2 : Room k2 X.A) (r3 : Room k3 X.A) (g1 : Gl X x1) (g2 : Gl X x2) (g3 : Gl X x3) (tk : Takes X W) (hi : PDE X cls W (pV X.K) i fi) (hs : PlainIx i) (ha : PDA X cls W (pA X.K) (e :: es) fs)
    (d1 : (x1 == ("__debug__" : Str)) = false := by decide) (d2 : (x2 == ("__debug__" : Str)) = false := by decide) (d3 : (x3 == ("__debug__" : Str)) = false := by decide)
    (s1 : starEach [.Name x1 p1, .Name x2 p2, .Name x3 p3] X.env = (false, eval (.Name x1 p1) X.env) :: starEach [.Name x2 p2, .Name x3 p3] X.env := by rfl) (s2 : starEach [.Name x2 p2, .Name x3 p3] X.env = (false, eval (.Name x2 p2) X.env) :: starEach [.Name x3 p3] X.env := by rfl)
    (s3 : starEach [.Name x3 p3] X.env = (false, eval (.Name x3 p3) X.env) :: starEach [] X.env := by rfl)
    (ht : eval (.Call (.Subscript (.List [.Name x1 p1, .Name x2 p2, .Name x3 p3] lp) i sp) (e :: es) [] pos) X.env = (do callWith pos (← eval (.Subscript (.List [.Name x1 p1, .Name x2 p2, .Name x3 p3] lp) i sp) X.env) [] (backTo pos (starEach (e :: es) X.env)) (backToKw pos (keywordEach [] X.env))) := by rfl)
    (he : starEach (e :: es) X.env = (false, eval e X.env) :: starEach es X.env := by rfl) (hpl : (backTo pos (starEach es X.env)).any (·.1) = false := by rfl) :
    PDE X cls W (pV X.K) (.Call (.Subscript (.List [.Name x1 p1, .Name x2 p2, .Name x3 p3] lp) i sp) (e :: es) [] pos) (callXF [fn1, fn2, fn3] fi fs) := by
  obtain ⟨f1, m1, a1⟩ := Fn.at' G1 r1
  obtain ⟨f2, m2, a2⟩ := Fn.at' G2 r2
  obtain ⟨f3, m3, a3⟩ := Fn.at' G3 r3
  refine pe_imp (pe_callX tk (pe_ix ix_seq (pe_lst (pa_cons (pe_glob (v := .ref f1) g1 m1 rfl d1) (pa_cons (pe_glob (v := .ref f2) g2 m2 rfl d2) (pa_cons (pe_glob (v := .ref f3) g3 m3 rfl d3) pa_nil s3) s2) s1)) hi hs) ha ht he hpl) fun σ H Q h => ?_
  exact tG_callX (vs := [.ref f1, .ref f2, .ref f3]) (.cons a1 (.cons a2 (.cons a3 .nil))) (by show 3 ≤ sizeLine; decide) (fun σ H Q h => h) h
end
end PD

set_option maxHeartbeats 4000000
namespace PD
open PySem PySem.Spec PyProof.Rows L2
/-! ### targets -/
/-- (a, .., z) = v, v a tuple or a list -/
def gSeqA (K : PySem.W.Frag) (n : Nat) (t : TGs) : TG := fun v σ H Q => ∃ a xs, v = .ref a ∧ (SqT K H a xs ∨ SqL K H a xs) ∧ xs.length = n ∧ t xs σ H Q
theorem pg_seqA {X : Cx} {pos : Pos} {es : List Expr} {k : Nat} {t : TGs} {n : Nat} (hc : X.calm = true) (h : PGs X es t)
    (hn : (assignEach es X.env).length = n := by rfl) (hst : (assignEach es X.env).findIdx? (·.1) = none := by rfl) : PG X (.Tuple es k pos) (gSeqA X.K n t) := by
  refine ⟨fun pins s σ H v u Q I r hw => ?_⟩
  obtain ⟨a, xs, e1, hq, hl, hw⟩ := hw
  rcases hq with hq | hq
  · exact (pg_tup hc h hn hst).run pins s σ H v u Q I r ⟨a, xs, e1, hq, hl, hw⟩
  · subst e1
    cases r
    obtain ⟨its, rv, p, hz⟩ := I.list hq
    rw [assign_Tuple]
    refine wpAny_bind (wpAny_standAt ?_)
    unfold unpack
    rw [show (assignEach es X.env).length = its.toArray.size by simp [hn, ← hl, rv.length], hst]
    refine wpAny_bind (wpAny_holding (PySem.W.kun_itemsOf (I.ok.hd hc) p.isList fun h' hx => ?_))
    have I1 : Inv X pins σ H { s with heap := h' } := I.kept (t' := s.toks) fun b o e => hx b o (Nat.ne_of_lt (Heap.lt_size e)) e
    exact h.run pins _ σ H xs _ Q I1 (by simpa using rv) hw
inductive Pat where
  | nm (i : Nat) | tp (is : List Nat)
def Pat.ix : Pat → List Nat
  | .nm i => [i]
  | .tp is => is
def sets : List Nat → List D → EnvD → EnvD
  | i :: is, d :: ds, e => sets is ds (e.set i (.val d))
  | _, _, e => e
def bindP : Pat → D → EnvD → Option EnvD
  | .nm i, d, e => some (e.set i (.val d))
  | .tp is, .tup ds, e => if ds.length = is.length then some (sets is ds e) else none
  | .tp is, .itm ds, e => if ds.length = is.length then some (sets is ds e) else none
  | .tp is, .lst ds, e => if ds.length = is.length then some (sets is ds e) else none
  | .tp _, _, _ => none
def gNames : List Nat → TGs
  | [] => gNil
  | i :: is => gCons (gName i) (gNames is)
def gPat (K : PySem.W.Frag) : Pat → TG
  | .nm i => gName i
  | .tp is => gSeqA K is.length (gNames is)
def wipeE (env : EnvD) : List Nat → EnvD
  | [] => env
  | v :: vs => (wipeE env vs).set v .no
theorem set_swap {α : Type} {l : List α} {i j : Nat} {x y : α} (h : i ≠ j) : (l.set i x).set j y = (l.set j y).set i x := by
  apply List.ext_getElem?
  intro k
  by_cases hi : i = k
  · subst hi
    rw [List.getElem?_set_ne (Ne.symm h)]
    simp [List.getElem?_set]
  · by_cases hj : j = k
    · subst hj
      rw [List.getElem?_set_ne (l := l.set j y) hi]
      simp [List.getElem?_set, hi]
    · rw [List.getElem?_set_ne hj, List.getElem?_set_ne hi, List.getElem?_set_ne hi, List.getElem?_set_ne hj]
theorem set_set' {α : Type} {l : List α} {i : Nat} {x y : α} : (l.set i x).set i y = l.set i y := by
  apply List.ext_getElem?
  intro k
  simp only [List.getElem?_set, List.length_set]
  split <;> rfl
theorem wipe_set {σ : L2.St} {i : Nat} {x : Option V} : ∀ {vs : List Nat}, i ∈ vs → wipe (σ.set i x) vs = wipe σ vs
  | v :: vs, h => by
    show (wipe (σ.set i x) vs).set v none = (wipe σ vs).set v none
    have comm : ∀ ws : List Nat, i ∉ ws → wipe (σ.set i x) ws = (wipe σ ws).set i x := by
      intro ws
      induction ws with
      | nil => intro _; rfl
      | cons u us ih =>
        intro hn
        have h1 : i ≠ u := fun e => hn (by simp [e])
        have h2 : i ∉ us := fun e => hn (by simp [e])
        show (wipe (σ.set i x) us).set u none = ((wipe σ us).set u none).set i x
        rw [ih h2, set_swap h1]
    by_cases hm : i ∈ vs
    · rw [wipe_set hm]
    · have e : i = v := by
        rcases List.mem_cons.mp h with e | e
        · exact e
        · exact absurd e hm
      subst e
      rw [comm vs hm, set_set']
section
variable {K : PySem.W.Frag} {H0 F H : Hp} {env : EnvD} {σ : L2.St}
theorem EnvAt.wipe (h : EnvAt K H0 env σ F H) : ∀ vs : List Nat, EnvAt K H0 (wipeE env vs) (wipe σ vs) F H
  | [] => h
  | v :: vs => (EnvAt.wipe h vs).setNo v none
theorem gNames_ok : ∀ {is : List Nat} {ds : List D} {vs : List V} {env : EnvD} {σ : L2.St} {Q : L2.St → Hp → Prop}, is.length = ds.length → Reps K F vs ds → EnvAt K H0 env σ F H →
    (∀ σ', EnvAt K H0 (sets is ds env) σ' F H → (∀ ws : List Nat, (∀ i ∈ is, i ∈ ws) → L2.wipe σ' ws = L2.wipe σ ws) → Q σ' H) → gNames is vs σ H Q
  | [], [], _, env, σ, Q, _, r, ea, k => by cases r; exact ⟨rfl, k σ ea fun _ _ => rfl⟩
  | i :: is, d :: ds, _, env, σ, Q, hl, r, ea, k => by
    cases r with
    | cons a b =>
      refine ⟨_, _, rfl, gNames_ok (is := is) (ds := ds) (by simpa using hl) b (ea.setV i a) fun σ' ea' hw => k σ' ea' fun ws hws => ?_⟩
      rw [hw ws fun j hj => hws j (List.mem_cons_of_mem _ hj), wipe_set (hws i (by simp))]
theorem gPat_ok {p : Pat} {d : D} {v : V} {env' : EnvD} {Q : L2.St → Hp → Prop} (ea : EnvAt K H0 env σ F H) (r : Rep K F v d) (hb : bindP p d env = some env')
    (k : ∀ σ', EnvAt K H0 env' σ' F H → (∀ ws : List Nat, (∀ i ∈ p.ix, i ∈ ws) → L2.wipe σ' ws = L2.wipe σ ws) → Q σ' H) : gPat K p v σ H Q := by
  cases p with
  | nm i =>
    cases hb
    exact k _ (ea.setV i r) fun ws hws => wipe_set (hws i (by simp [Pat.ix]))
  | tp is =>
    cases r with
    | tup h1 h2 h3 =>
      rename_i ds
      have hb : (if ds.length = is.length then some (sets is ds env) else none) = some env' := hb
      by_cases hl : ds.length = is.length
      · rw [if_pos hl] at hb
        cases hb
        exact ⟨_, _, rfl, .inl (h1.mono ea.fh).sq, by rw [h3.length]; exact hl, gNames_ok hl.symm h3 ea k⟩
      · rw [if_neg hl] at hb; cases hb
    | itm h1 h2 h3 =>
      rename_i ds
      have hb : (if ds.length = is.length then some (sets is ds env) else none) = some env' := hb
      by_cases hl : ds.length = is.length
      · rw [if_pos hl] at hb
        cases hb
        exact ⟨_, _, rfl, .inl (SqT.of (ea.fh _ _ h1)), by rw [h3.length]; exact hl, gNames_ok hl.symm h3 ea k⟩
      · rw [if_neg hl] at hb; cases hb
    | lst h1 h2 h3 =>
      rename_i ds
      have hb : (if ds.length = is.length then some (sets is ds env) else none) = some env' := hb
      by_cases hl : ds.length = is.length
      · rw [if_pos hl] at hb
        cases hb
        exact ⟨_, _, rfl, .inr (SqL.of (ea.fh _ _ h1)), by rw [h3.length]; exact hl, gNames_ok hl.symm h3 ea k⟩
      · rw [if_neg hl] at hb; cases hb
    | _ => cases hb
end
theorem pg_nm {X : Cx} {i : Nat} {e : Expr} (h : PG X e (gName i)) : PG X e (gPat X.K (.nm i)) := h
theorem pg_tp {X : Cx} {es : List Expr} {k : Nat} {is : List Nat} {pos : Pos} (hc : X.calm = true) (h : PGs X es (gNames is)) (hn : (assignEach es X.env).length = is.length := by rfl) (hst : (assignEach es X.env).findIdx? (fun x => x.1) = none := by rfl) : PG X (.Tuple es k pos) (gPat X.K (.tp is)) := pg_seqA hc h hn hst
theorem pgn_nil {X : Cx} : PGs X [] (gNames []) := pgs_nil
theorem pgn_cons {X : Cx} {e : Expr} {es : List Expr} {i : Nat} {is : List Nat} (h1 : PG X e (gName i)) (h2 : PGs X es (gNames is)) (hs : (assignEach (e :: es) X.env).map (·.2) = assign e X.env :: (assignEach es X.env).map (·.2) := by rfl) : PGs X (e :: es) (gNames (i :: is)) := pgs_cons h1 h2 hs
/-! ### for -/
def forL (p : Pat) (G : EnvD → Out) : List D → EnvD → Out
  | [], e => .next e
  | d :: r, e => match bindP p d e with
    | none => .bad
    | some e1 => match G e1 with
      | .next e2 => forL p G r e2
      | .cont e2 => forL p G r e2
      | .brk e2 => .next e2
      | .ret d => .ret d
      | .err c e2 => .err c e2
      | .bad => .bad
def forS (p : Pat) (f : EnvD → R (List D)) (G : EnvD → Out) : EnvD → Out := fun env => bindS (f env) env fun ds => forL p G ds env
section
variable {X : Cx} {cls : Exc → Addr} {W : WX} {e a b c tg iter : Expr} {pos : Pos} {G : EnvD → Out}
theorem pds_for {p : Pat} {f : EnvD → R (List D)} {body : List Stmt} (hp : PassesOwn (model X.prog X.w) X.A X.env X.xe) (hc : X.calm = true) (hi : PDI X cls W false tg iter f) (hg : PG X tg (gPat X.K p)) (hb : PDSs X cls W body G)
    (hs : ∀ x, foldedSetIterable iter X.env x = pure x := by intro _; rfl) : PDS X cls W (.For tg iter body [] pos) (forS p f G) := ps_imp (ps_for hp hc hi hg hb hs) fun D σ H ⟨H0, F0, env, F, x, ea, g⟩ => by
  refine ⟨H0, F, env, ea, (g.expr x ea).imp fun J H1 ⟨F1, ds, _, e1, ⟨hz, wk⟩, g1⟩ => ?_⟩
  have ea1 := ea.mono e1
  have x1 := x.trans e1
  refine ⟨fun i m σ' H' => m = ds.length - i ∧ i ≤ ds.length ∧ ∃ F' env', Ext F0 H0 F' H' ∧ Same F1 F' ∧ EnvAt X.K H0 env' σ' F' H' ∧ GoS X.K cls W F0 H0 F' (forL p G (ds.drop i) env') D, ⟨ds.length, by simp, Nat.zero_le _, F1, env, x1, Same.refl _, ea1, g1⟩, ?_⟩
  rintro i m σ' H' ⟨rfl, hi, F', env', x', s', ea', g'⟩
  have w := wk F' H' s' ea'.fh (fun q => nomatch q)
  by_cases hlt : i < ds.length
  · obtain ⟨d, hd⟩ : ∃ d, ds[i]? = some d := ⟨ds[i], by simp [hlt]⟩
    have hdr : ds.drop i = d :: ds.drop (i + 1) := by
      rw [List.drop_eq_getElem_cons hlt]
      have : ds[i] = d := by rw [List.getElem?_eq_getElem hlt] at hd; exact Option.some.inj hd
      rw [this]
    rw [hdr] at g'
    have g2 : GoS X.K cls W F0 H0 F' (match bindP p d env' with
      | none => .bad
      | some e1 => match G e1 with
        | .next e2 => forL p G (ds.drop (i + 1)) e2
        | .cont e2 => forL p G (ds.drop (i + 1)) e2
        | .brk e2 => .next e2
        | .ret d => .ret d
        | .err c e2 => .err c e2
        | .bad => .bad) D := g'
    obtain ⟨go, yl⟩ := w.1 i d hd
    refine .inr ⟨go, fun σ2 H2 => ∃ F2 env2, Ext F0 H0 F2 H2 ∧ Same F1 F2 ∧ EnvAt X.K H0 env2 σ2 F2 H2 ∧ GoS X.K cls W F0 H0 F2 (forL p G (ds.drop (i + 1)) env2) D, ?_, fun v H2 y => ?_⟩
    · rintro σ2 H2 ⟨F2, env2, h1, h2, h3, h4⟩
      exact ⟨ds.length - (i + 1), by omega, rfl, hlt, F2, env2, h1, h2, h3, h4⟩
    · obtain ⟨F2, e2, r2⟩ := yl v H2 y
      cases qb : bindP p d env' with
      | none => rw [qb] at g2; exact g2.elim
      | some env1 =>
        rw [qb] at g2
        refine gPat_ok (ea'.mono e2) r2 qb fun σ2 ea2 _ => ⟨H0, F0, env1, F2, x'.trans e2, ea2, ?_⟩
        have g3 := g2.from e2.f
        dsimp only at g3
        have s2 : Same F1 F2 := s'.trans e2.f
        cases q : G env1 with
        | next e => rw [q] at g3; exact fun σ3 F3 H3 x3 s3 ea3 => ⟨F3, e, x3, s2.trans s3, ea3, g3.from s3⟩
        | cont e => rw [q] at g3; exact fun σ3 F3 H3 x3 s3 ea3 => ⟨F3, e, x3, s2.trans s3, ea3, g3.from s3⟩
        | brk e => rw [q] at g3; exact g3
        | ret e => rw [q] at g3; exact g3
        | err c e => rw [q] at g3; exact g3
        | bad => rw [q] at g3; exact g3
  · have e : i = ds.length := by omega
    subst e
    rw [List.drop_length] at g'
    exact .inl ⟨w.2, g' σ' F' H' x' (Same.refl _) ea'⟩
/-! ### while -/
def whileL (t : EnvD → R Bool) (G : EnvD → Out) : Nat → EnvD → Out
  | 0, _ => .bad
  | n + 1, e => bindS (t e) e fun k => if k = true then (match G e with
      | .next e2 => whileL t G n e2
      | .cont e2 => whileL t G n e2
      | .brk e2 => .next e2
      | .ret d => .ret d
      | .err c e2 => .err c e2
      | .bad => .bad) else .next e
theorem pds_while {t : EnvD → R Bool} {body : List Stmt} (n : Nat) (hp : PassesOwn (model X.prog X.w) X.A X.env X.xe) (hc : PDT X cls W c t) (hb : PDSs X cls W body G) : PDS X cls W (.While c body [] pos) (whileL t G n) :=
  ps_imp (ps_while hp hc hb) fun D σ H ⟨H0, F0, env, F, x, ea, g⟩ => by
  refine ⟨fun m σ' H' => ∃ F' env', Ext F0 H0 F' H' ∧ EnvAt X.K H0 env' σ' F' H' ∧ Same F F' ∧ GoS X.K cls W F0 H0 F' (whileL t G m env') D, ⟨n, F, env, x, ea, Same.refl _, g⟩, ?_⟩
  rintro m σ' H' ⟨F', env', x', ea', s', g'⟩
  cases m with
  | zero => exact g'.elim
  | succ m =>
    have g2 : GoS X.K cls W F0 H0 F' (bindS (t env') env' fun k => if k = true then (match G env' with
      | .next e2 => whileL t G m e2
      | .cont e2 => whileL t G m e2
      | .brk e2 => .next e2
      | .ret d => .ret d
      | .err c e2 => .err c e2
      | .bad => .bad) else .next env') D := g'
    refine ⟨H0, F', env', ea', (g2.expr x' ea').imp fun k H1 ⟨F1, d, _, e1, p1, g3⟩ => ?_⟩
    cases p1
    have x1 := x'.trans e1
    have ea1 := ea'.mono e1
    cases k with
    | false => exact g3 σ' F1 H1 x1 (Same.refl _) ea1
    | true =>
      refine ⟨fun σ2 H2 => ∃ F2 env2, Ext F0 H0 F2 H2 ∧ EnvAt X.K H0 env2 σ2 F2 H2 ∧ Same F F2 ∧ GoS X.K cls W F0 H0 F2 (whileL t G m env2) D, fun σ2 H2 h => ⟨m, Nat.lt_succ_self m, h⟩, H0, F0, env', F1, x1, ea1, ?_⟩
      have s1 := s'.trans e1.f
      have g4 : GoS X.K cls W F0 H0 F1 (match G env' with
        | .next e2 => whileL t G m e2
        | .cont e2 => whileL t G m e2
        | .brk e2 => .next e2
        | .ret d => .ret d
        | .err c e2 => .err c e2
        | .bad => .bad) D := g3
      cases q : G env' with
      | next e => rw [q] at g4; exact fun σ3 F3 H3 x3 s3 ea3 => ⟨F3, e, x3, ea3, s1.trans s3, g4.from s3⟩
      | cont e => rw [q] at g4; exact fun σ3 F3 H3 x3 s3 ea3 => ⟨F3, e, x3, ea3, s1.trans s3, g4.from s3⟩
      | brk e => rw [q] at g4; exact g4
      | ret e => rw [q] at g4; exact g4
      | err c e => rw [q] at g4; exact g4
      | bad => rw [q] at g4; exact g4
/-! ### comprehensions -/
abbrev W0 : WX := fun _ _ _ _ => False
def lcL (p : Pat) (vs : List Nat) (t : EnvD → R Bool) (f : EnvD → R D) : List D → EnvD → R (List D)
  | [], _ => .ok []
  | d :: r, env => match bindP p d (wipeE env vs) with
    | none => .bad
    | some e => match t e with
      | .ok true => (match f e with
        | .ok y => (lcL p vs t f r env).map (y :: ·)
        | _ => .bad)
      | .ok false => lcL p vs t f r env
      | _ => .bad
def lcF (p : Pat) (vs : List Nat) (t : EnvD → R Bool) (f : EnvD → R D) (src : EnvD → R (List D)) : EnvD → R (List D) := fun env => (src env).bind fun ds => lcL p vs t f ds env
def yesF : EnvD → R Bool := fun _ => .ok true
theorem pts_yes {X : Cx} {K : PySem.W.Frag} : PTs X [] (tG K cls W0 pT yesF) := ⟨fun pins s σ H Q I h => pts_nil.run pins s σ H Q I (by
  obtain ⟨H0, F, env, ea, g⟩ := h
  exact g true F H (Ext.refl ea.fh) rfl)⟩
theorem R.map_map {α β γ : Type} (f : α → β) (g : β → γ) (r : R α) : (r.map f).map g = r.map (fun x => g (f x)) := by cases r <;> rfl
theorem lcTurn {K : PySem.W.Frag} {F1 H1 F' H : Hp} {Da : Addr} {acc : List V} {es : List D} (nD : H1 Da = none) (x : Ext F1 H1 F' H) (fD : F' Da = none) (v : V) : Ext F1 H1 F' (upd H Da (.lst (acc ++ [v]))) :=
  ⟨x.f, fun a o h => by rw [upd_ne (ne_of_none h nD)]; exact x.h a o h, x.i.into fD, x.n⟩
theorem lc_read {bb : Bool} {p : Pat} {vs : List Nat} {t : EnvD → R Bool} {f : EnvD → R D} {src : EnvD → R (List D)} {K : PySem.W.Frag} {σ : L2.St} {H : Hp} {Q : VK} (hp : ∀ i ∈ p.ix, i ∈ vs)
    (h : tG K cls W (pN K) (lcF p vs t f src) σ H Q) : tLc (tG K cls W (pI K bb) src) (gPat K p) (tG K cls W0 pT t) (tG K cls W0 (pV K) f) vs σ H Q := by
  obtain ⟨H0, F, env, ea, g⟩ := h
  refine ⟨H0, F, env, ea, (Go.bind g).imp fun J H1 ⟨F1, ds, _, e1, ⟨hz, wk⟩, g1⟩ => fun Da nD => ?_⟩
  have ea1 := ea.mono e1
  refine ⟨fun i m H2 => m = ds.length - i ∧ i ≤ ds.length ∧ ∃ F2 acc es, Ext F1 H1 F2 H2 ∧ F2 Da = none ∧ H2 Da = some (.lst acc) ∧ acc.length ≤ i ∧ Reps K F2 acc es ∧ lcL p vs t f ds env = (lcL p vs t f (ds.drop i) env).map (es ++ ·),
    ⟨ds.length, by simp, Nat.zero_le _, F1, [], [], Ext.newH e1.i nD, e1.i.free nD, upd_same, Nat.le_refl _, .nil, ?_⟩, ?_⟩
  · cases q : lcL p vs t f ds env with
    | ok r => simp [R.map, q]
    | err c => simp [R.map, q]
    | bad => simp [R.map, q]
  rintro i m H2 ⟨rfl, hi, F2, acc, es, x2, fD, hD, hl, ra, tot⟩
  have w := wk F2 H2 x2.f x2.i fun _ => x2.h
  by_cases hlt : i < ds.length
  · obtain ⟨d, hd⟩ : ∃ d, ds[i]? = some d := ⟨ds[i], by simp [hlt]⟩
    have hdr : ds.drop i = d :: ds.drop (i + 1) := by
      rw [List.drop_eq_getElem_cons hlt]
      have : ds[i] = d := by rw [List.getElem?_eq_getElem hlt] at hd; exact Option.some.inj hd
      rw [this]
    rw [hdr] at tot
    obtain ⟨go, yl⟩ := w.1 i d hd
    refine .inr ⟨go, fun H3 => ∃ F3 acc es, Ext F1 H1 F3 H3 ∧ F3 Da = none ∧ H3 Da = some (.lst acc) ∧ acc.length ≤ i + 1 ∧ Reps K F3 acc es ∧ lcL p vs t f ds env = (lcL p vs t f (ds.drop (i + 1)) env).map (es ++ ·), ?_, fun v H3 y => ?_⟩
    · rintro H3 ⟨F3, acc3, es3, h1, h2, h3, h4, h5, h6⟩
      exact ⟨ds.length - (i + 1), by omega, rfl, hlt, F3, acc3, es3, h1, h2, h3, h4, h5, h6⟩
    · obtain ⟨F3, e3, r3⟩ := yl v H3 y
      have x3 := x2.trans e3
      have bad_of : lcL p vs t f (d :: ds.drop (i + 1)) env = .bad → False := fun q => by
        rw [tot, q] at g1; exact g1
      cases qb : bindP p d (wipeE env vs) with
      | none => exact (bad_of (by simp [lcL, qb])).elim
      | some env1 =>
        refine gPat_ok ((ea1.mono x3).wipe vs) r3 qb fun σ4 ea4 hw => ⟨?_, ?_⟩
        · rw [hw vs hp]
          have idem : ∀ (ws : List Nat) (τ : L2.St), (∀ i ∈ ws, i ∈ vs) → L2.wipe (L2.wipe τ ws) vs = L2.wipe τ vs := by
            intro ws
            induction ws with
            | nil => intro τ _; rfl
            | cons u us ih =>
              intro τ hu
              show L2.wipe ((L2.wipe τ us).set u none) vs = L2.wipe τ vs
              rw [wipe_set (hu u (by simp)), ih τ fun j hj => hu j (List.mem_cons_of_mem _ hj)]
          exact idem vs σ fun _ h => h
        · refine ⟨H0, F3, env1, ea4, ?_⟩
          cases qt : t env1 with
          | err c => exact (bad_of (by simp [lcL, qb, qt])).elim
          | bad => exact (bad_of (by simp [lcL, qb, qt])).elim
          | ok k =>
            intro kk F5 H5 e5 pk
            cases pk
            have x5 := x3.trans e5
            have d5 : F5 Da = none := by
              have := e3.keep hD rfl fD
              exact e5.keep (e3.h _ _ hD) rfl this
            have hD5 : H5 Da = some (.lst acc) := e5.h _ _ (e3.h _ _ hD)
            cases k with
            | false =>
              refine ⟨F5, acc, es, x5, d5, hD5, by omega, ra.mono (e3.f.trans e5.f), ?_⟩
              rw [tot]; simp [lcL, qb, qt]
            | true =>
              refine ⟨H0, F5, env1, ea4.mono e5, ?_⟩
              cases qf : f env1 with
              | err c => exact (bad_of (by simp [lcL, qb, qt, qf])).elim
              | bad => exact (bad_of (by simp [lcL, qb, qt, qf])).elim
              | ok yd =>
                intro yv F6 H6 e6 ry
                have d6 := e6.keep hD5 rfl d5
                have hD6 := e6.h _ _ hD5
                have hs : acc.length < sizeLine := by omega
                refine ⟨acc, hD6, hs, F6, acc ++ [yv], es ++ [yd], lcTurn (K := K) (es := es) nD (x5.trans e6) d6 yv, d6, upd_same, by simp; omega, (ra.mono ((e3.f.trans e5.f).trans e6.f)).snoc ry, ?_⟩
                rw [tot]
                simp only [lcL, qb, qt, qf]
                rw [R.map_map]
                congr 1
                funext z
                simp
  · have e : i = ds.length := by omega
    subst e
    rw [List.drop_length] at tot
    have g2 : Go cls (pN K) W σ F1 H1 (.ok es) Q := by
      have : lcL p vs t f ds env = .ok es := by rw [tot]; simp [lcL, R.map]
      rw [this] at g1; exact g1
    exact .inl ⟨w.2, g2 _ F2 H2 x2 ⟨Da, acc, rfl, nD, fD, hD, by omega, ra⟩⟩
theorem pd_lc {bb : Bool} {elt : Expr} {ifs : List Expr} {scope : Scope} {own : List (Str × Nat)} {p : Pat} {t : EnvD → R Bool} {f : EnvD → R D} {src : EnvD → R (List D)} (hc : X.calm = true) (hN : X.N.Nodup) (hi : PDI X cls W bb tg iter src) (ok : BlkOk X.N X.env.scope scope own)
    (hg : ∀ (s : Shared) (H : Hp) (C : Addr) (cl : List (Str × Addr)) (fp : List Addr), PG (X.blk s H scope (compEnvC scope cl C X.env) fp) tg (gPat X.K p))
    (ht : ∀ (s : Shared) (H : Hp) (C : Addr) (cl : List (Str × Addr)) (fp : List Addr), PTs (X.blk s H scope (compEnvC scope cl C X.env) fp) ifs (tG X.K cls W0 pT t))
    (he : ∀ (s : Shared) (H : Hp) (C : Addr) (cl : List (Str × Addr)) (fp : List Addr), PE (X.blk s H scope (compEnvC scope cl C X.env) fp) elt (tG X.K cls W0 (pV X.K) f))
    (hp : (p.ix.all fun i => (own.map (·.2)).contains i) = true) (hs : ∀ x, foldedSetIterable iter X.env x = pure x := by intro _; rfl) :
    PDE X cls W (pN X.K) (.ListComp elt [⟨tg, iter, ifs, 0⟩] scope pos) (lcF p (own.map (·.2)) t f src) :=
  pe_imp (pe_lc hc hN hi ok hg ht he hs) fun σ H Q h => lc_read (fun i hi => by simpa using List.all_eq_true.mp hp i hi) h
theorem pds_setLc {bb : Bool} {i : Nat} {y : Str} {py : Pos} {elt : Expr} {ifs : List Expr} {scope : Scope} {own : List (Str × Nat)} {p : Pat} {t : EnvD → R Bool} {f : EnvD → R D} {src : EnvD → R (List D)} {spos : Pos} (hc : X.calm = true) (hN : X.N.Nodup)
    (hy : X.N[i]? = some y) (hyl : X.env.scope.names.lookup y = some .local)
    (hsw : swapsWith (.ListComp elt [⟨tg, iter, ifs, 0⟩] scope pos) (some (.Name y py)) spos.line X.env = pure true) (hi : PDI X cls W bb tg iter src) (ok : BlkOk X.N X.env.scope scope own)
    (hg : ∀ (s : Shared) (H : Hp) (C : Addr) (cl : List (Str × Addr)) (fp : List Addr), PG (X.blk s H scope (compEnvC scope cl C X.env) fp) tg (gPat X.K p))
    (ht : ∀ (s : Shared) (H : Hp) (C : Addr) (cl : List (Str × Addr)) (fp : List Addr), PTs (X.blk s H scope (compEnvC scope cl C X.env) fp) ifs (tG X.K cls W0 pT t))
    (he : ∀ (s : Shared) (H : Hp) (C : Addr) (cl : List (Str × Addr)) (fp : List Addr), PE (X.blk s H scope (compEnvC scope cl C X.env) fp) elt (tG X.K cls W0 (pV X.K) f))
    (hp : (p.ix.all fun i => (own.map (·.2)).contains i) = true) (hs : ∀ x, foldedSetIterable iter X.env x = pure x := by intro _; rfl) :
    PS X (.Assign [.Name y py] (.ListComp elt [⟨tg, iter, ifs, 0⟩] scope pos) spos) (tAsg (tG X.K cls W (pN X.K) (lcF p (own.map (·.2)) t f src)) (gName i)) :=
  ps_imp (ps_setLc hc hN hy hyl hsw hi ok hg ht he hs) fun D σ H h => lc_read (fun i hi => by simpa using List.all_eq_true.mp hp i hi) h
end
/-! ### a def -/
def runO : Out → R D
  | .ret d => .ok d
  | .next _ => .ok .non
  | .err c _ => .err c
  | _ => .bad
def fnD (N n : Nat) (G : EnvD → Out) (ds : List D) : R D := if ds.length = n then runO (G (ds.map Sl.val ++ List.replicate (N - n) Sl.no)) else .bad
theorem envAt_start {K : PySem.W.Frag} {F H : Hp} (i : Same F H) : ∀ {vs : List V} {ds : List D} (m : Nat), Reps K F vs ds → EnvAt K H (ds.map Sl.val ++ List.replicate m Sl.no) (vs.map some ++ List.replicate m none) F H := by
  intro vs ds m r
  refine ⟨i, by simp [r.length], fun j s hj => ?_, fun j k s t p _ hs _ os _ _ _ => ?_⟩
  · by_cases hlt : j < ds.length
    · rw [List.getElem?_append_left (by simpa using hlt)] at hj
      rw [List.getElem?_map] at hj
      obtain ⟨d, hd⟩ : ∃ d, ds[j]? = some d := ⟨ds[j], by simp [hlt]⟩
      rw [hd] at hj
      cases hj
      obtain ⟨v, hv, rv⟩ := r.get hd
      refine ⟨v, ?_, rv⟩
      rw [List.getD_eq_getElem?_getD, List.getElem?_append_left (by simpa [r.length] using hlt), List.getElem?_map, hv]; rfl
    · rw [List.getElem?_append_right (by simp; omega)] at hj
      have := List.mem_of_getElem? hj
      rw [List.mem_replicate] at this
      rw [this.2]; trivial
  · have := List.mem_of_getElem? hs
    rcases List.mem_append.mp this with h | h
    · obtain ⟨d, _, e⟩ := List.mem_map.mp h; subst e; cases os
    · rw [List.mem_replicate] at h; rw [h.2] at os; cases os
theorem fn_okD0 {P : Program} {w : World} {K : PySem.W.Frag} {mg : Str → Option Value} {base : Heap} {cls : Exc → Addr} {x qual : Str} {params : Arguments} {body : List Stmt} {scope : Scope} {f : Addr} {fd : FuncData} {N ps : List Str} {k : Nat} {G : EnvD → Out}
    (F : FunD K x qual params body scope [] [] f fd) (S : FnScope N ps scope) 
    (h : ∀ (cdv : Value) (A : Around) (outer : List Env) (s : Shared) (H : Hp) (E : XK), Room k (A.deeper (envOfC qual scope s.heap.objs.size f cdv)) →
      PDSs (cxOf (L2.CX P w) P w K mg base N qual scope f cdv A outer s H E) cls (fun c d _ H => E c d H) body G) : FnOk P w K mg base (L2.CX P w) (k + 1) f fd ps (spD K cls ps.length (fnD N.length ps.length G)) := by
  refine F.ok S (fun vs H Q E q => q.1) fun cdv A outer s H vs Q E hr q => ?_
  obtain ⟨hl, F0, ds, i, r, g⟩ := q
  refine ⟨_, h cdv A outer s H E hr, H, F0, ds.map Sl.val ++ List.replicate (N.length - ps.length) Sl.no, F0, Ext.refl i, ?_, ?_⟩
  · show EnvAt K H _ (vs.map some ++ List.replicate (N.length - vs.length) none) F0 H
    rw [hl]
    exact envAt_start i _ r
  · have hd : ds.length = ps.length := by rw [← r.length]; exact hl
    unfold fnD at g
    rw [if_pos hd] at g
    cases q : G (ds.map Sl.val ++ List.replicate (N.length - ps.length) Sl.no) with
    | ret d => rw [q] at g; exact fun v F' H' e _ r' => g v F' H' e r'
    | next e => rw [q] at g; exact fun σ' F' H' e _ _ => g .non F' H' e .non
    | err c e => rw [q] at g; exact fun σ' F' H' e _ _ => g F' H' e
    | brk e => rw [q] at g; exact g.elim
    | cont e => rw [q] at g; exact g.elim
    | bad => rw [q] at g; exact g.elim
theorem fn_okD {P : Program} {w : World} {K : PySem.W.Frag} {mg : Str → Option Value} {base : Heap} {cls : Exc → Addr} {x qual : Str} {params : Arguments} {body : List Stmt} {scope : Scope} {f : Addr} {fd : FuncData} {N ps : List Str} {k : Nat} {G : EnvD → Out}
    (F : FunD K x qual params body scope [] [] f fd) (S : FnScope N ps scope) (hx : mg x = some (.ref f)) (hb : Binds K fd ps [])
    (h : ∀ (cdv : Value) (A : Around) (outer : List Env) (s : Shared) (H : Hp) (E : XK), Room k (A.deeper (envOfC qual scope s.heap.objs.size f cdv)) →
      PDSs (cxOf (L2.CX P w) P w K mg base N qual scope f cdv A outer s H E) cls (fun c d _ H => E c d H) body G) : Fn P w K mg base cls (k + 1) x ps.length (fnD N.length ps.length G) :=
  ⟨⟨f, fd, ps, fn_okD0 F S h, hx, F.kp, hb⟩, fun ds hd => by unfold fnD; rw [if_neg hd]⟩
/-- nothing is promised -/
theorem fn_bad {P : Program} {w : World} {K : PySem.W.Frag} {mg : Str → Option Value} {base : Heap} {cls : Exc → Addr} {x qual : Str} {params : Arguments} {body : List Stmt} {scope : Scope} {f : Addr} {fd : FuncData} {ps : List Str} {k : Nat}
    (F : FunD K x qual params body scope [] [] f fd) (hx : mg x = some (.ref f)) (hb : Binds K fd ps []) : Fn P w K mg base cls k x ps.length (fun _ => .bad) :=
  ⟨⟨f, fd, ps, ⟨fun vs H Q E q => q.1, fun A outer s H args us vs Q E hr he hb hv q => by obtain ⟨_, _, _, _, _, g⟩ := q; exact g.elim⟩, hx, F.kp, hb⟩, fun _ _ => rfl⟩
end PD

set_option maxHeartbeats 4000000
namespace PD
open PySem PySem.Spec PyProof.Rows L2
/-! ### equality of data -/
mutual
def D.toPy : D → PyData
  | .non => .none
  | .bl b => .bool b
  | .int i => .int i
  | .str x => .str x
  | .tup xs => .tuple (toPys xs)
  | .itm xs => .tuple (toPys xs)
  | .lst xs => .list (toPys xs)
  | .scr ns => .list (ns.map PyData.int)
  | .dic _ _ => .dict []
  | .raw _ => .dict []
def toPys : List D → List PyData
  | [] => []
  | x :: xs => x.toPy :: toPys xs
end
theorem dp_ints {K : PySem.W.Frag} {H : Hp} : ∀ ns : List Int, DpAll K H (ns.map V.int) (ns.map PyData.int)
  | [] => .nil
  | n :: ns => .cons (.int n) (dp_ints ns)
theorem no_dic {a : List (PyData × PyData)} : SeqAt.shaped (.dict a) = true → False := fun h => by simp [SeqAt.shaped, PyData.canLay0] at h
theorem canLay_all {xs : List PyData} {x : PyData} (h : PyData.canLayAll0 xs = true) (m : x ∈ xs) : x.canLay0 = true := by
  induction xs with
  | nil => cases m
  | cons y ys ih =>
    have h' : (y.canLay0 && PyData.canLayAll0 ys) = true := by simpa [PyData.canLayAll0] using h
    obtain ⟨h1, h2⟩ := Bool.and_eq_true_iff.mp h'
    rcases List.mem_cons.mp m with e | m
    · rw [e]; exact h1
    · exact ih h2 m
theorem rep_dp {K : PySem.W.Frag} {H : Hp} {v : V} {d : D} (h : Rep K H v d) : d.toPy.canLay0 = true → Dp K H v d.toPy :=
  Rep.rec (motive_1 := fun v d _ => d.toPy.canLay0 = true → Dp K H v d.toPy) (motive_2 := fun vs ds _ => PyData.canLayAll0 (toPys ds) = true → DpAll K H vs (toPys ds))
    (fun _ => by simpa [D.toPy] using Dp.non) (fun b _ => by simpa [D.toPy] using Dp.bl b) (fun i _ => by simpa [D.toPy] using Dp.int i) (fun x _ => by simpa [D.toPy] using Dp.str x)
    (fun h1 _ _ ih q => by simp only [D.toPy] at q ⊢; exact .tup h1.sq (ih (by simpa [PyData.canLay0] using q)))
    (fun h1 _ _ ih q => by simp only [D.toPy] at q ⊢; exact .tup (SqT.of h1) (ih (by simpa [PyData.canLay0] using q)))
    (fun h1 _ _ ih q => by simp only [D.toPy] at q ⊢; exact .lst (SqL.of h1) (ih (by simpa [PyData.canLay0] using q)))
    (fun h1 _ _ => by simp only [D.toPy]; exact .lst h1 (dp_ints _))
    (fun _ _ _ _ q => by simp [D.toPy, PyData.canLay0] at q) (fun _ _ _ _ _ q => by simp [D.toPy, PyData.canLay0] at q) (fun v q => by simp [D.toPy, PyData.canLay0] at q)
    (fun _ => by simp only [toPys]; exact .nil)
    (fun _ _ i1 i2 q => by
      simp only [toPys] at q ⊢
      have q' := Bool.and_eq_true_iff.mp (by simpa [PyData.canLayAll0] using q)
      exact .cons (i1 q'.1) (i2 q'.2)) h
theorem reps_dp {K : PySem.W.Frag} {H : Hp} : ∀ {vs : List V} {ds : List D}, Reps K H vs ds → PyData.canLayAll0 (toPys ds) = true → DpAll K H vs (toPys ds)
  | _, [], h, _ => by cases h; simp only [toPys]; exact .nil
  | _, d :: ds, h, q => by
    cases h with
    | cons a b =>
      simp only [toPys] at q ⊢
      have q' := Bool.and_eq_true_iff.mp (by simpa [PyData.canLayAll0] using q)
      exact .cons (rep_dp a q'.1) (reps_dp b q'.2)
theorem repB_dp {K : PySem.W.Frag} {F H : Hp} {v : V} {d : D} (i : Same F H) (h : RepB K F H v d) (q : d.toPy.canLay0 = true) : Dp K H v d.toPy := by
  rcases h with h | ⟨p, xs, ds, rfl, rfl, h1, _, h2⟩ | ⟨p, u, t, ks, vs, rfl, rfl, _⟩
  · exact rep_dp (h.mono i) q
  · simp only [D.toPy] at q ⊢
    exact .lst (SqL.of h1) (reps_dp (h2.mono i) (by simpa [PyData.canLay0] using q))
  · simp [D.toPy, PyData.canLay0] at q
def eqD (d e : D) : Option Bool := if SeqAt.shaped d.toPy && SeqAt.shaped e.toPy then some (PyData.eqv d.toPy e.toPy) else none
def neD (d e : D) : Option Bool := (eqD d e).map (!·)
section
variable {X : Cx} {K : PySem.W.Frag}
theorem os_eq : OpSemB (pB K) (pB K) (rEqD K) eqD := fun S1 S2 F H x y d e z Q i p q hz k => by
  unfold eqD at hz
  split at hz
  · rename_i h
    obtain ⟨h1, h2⟩ := Bool.and_eq_true_iff.mp h
    cases hz
    exact ⟨_, _, repB_dp i p (SeqAt.canLay_of_shaped h1), repB_dp i q (SeqAt.canLay_of_shaped h2), h1, h2, k⟩
  · cases hz
theorem os_ne : OpSemB (pB K) (pB K) (rNeD K) neD := fun S1 S2 F H x y d e z Q i p q hz k => by
  unfold neD eqD at hz
  split at hz
  · rename_i h
    obtain ⟨h1, h2⟩ := Bool.and_eq_true_iff.mp h
    cases hz
    exact ⟨_, _, repB_dp i p (SeqAt.canLay_of_shaped h1), repB_dp i q (SeqAt.canLay_of_shaped h2), h1, h2, k⟩
  · cases hz
/-! ### ints -/
def int2 (f : Int → Int → Option D) : D → D → Option D
  | .int i, .int j => f i j
  | _, _ => none
theorem rep_int {F : Hp} {v : V} {i : Int} (h : Rep K F v (.int i)) : v = .int i := by cases h; rfl
theorem repB_int {F H : Hp} {v : V} {i : Int} (h : RepB K F H v (.int i)) : v = .int i := by
  rcases h with h | ⟨_, _, _, _, h, _⟩ | ⟨_, _, _, _, _, _, h, _⟩
  · exact rep_int h
  · cases h
  · cases h
theorem os_I {C : Int → Int → Prop} {g : Int → Int → Int} {f : Int → Int → Option D} (h : ∀ i j d, f i j = some d → C i j ∧ d = .int (g i j)) : OpSem (pV K) (pV K) (pV K) (rI C fun i j => .int (g i j)) (int2 f) :=
  fun S1 S2 F H x y d e z Q i p q hz k => by
    unfold int2 at hz
    split at hz
    · obtain ⟨h1, h2⟩ := h _ _ _ hz
      subst h2
      exact ⟨_, _, rep_int p, rep_int q, h1, k _ F H (Ext.refl i) (.int _)⟩
    · cases hz
theorem os_I0 {g : Int → Int → Int} : OpSem (pV K) (pV K) (pV K) (rI0 fun i j => .int (g i j)) (int2 fun i j => some (.int (g i j))) :=
  fun S1 S2 F H x y d e z Q i p q hz k => by
    unfold int2 at hz
    split at hz
    · cases hz
      exact ⟨_, _, rep_int p, rep_int q, k _ F H (Ext.refl i) (.int _)⟩
    · cases hz
def subD := int2 fun i j => some (.int (i - j))
theorem os_sub : OpSem (pV K) (pV K) (pV K) (rI0 fun i j => .int (i - j)) subD := os_I0
def modD := int2 fun i j => if 0 < j then some (.int (i % j)) else none
theorem os_mod : OpSem (pV K) (pV K) (pV K) (rI (fun _ j => 0 < j) fun i j => .int (i % j)) modD := os_I fun i j d h => by
  by_cases hj : 0 < j
  · rw [if_pos hj] at h; cases h; exact ⟨hj, rfl⟩
  · rw [if_neg hj] at h; cases h
def fdivD := int2 fun i j => if 0 < j ∧ j < 1000000000000000000000 then some (.int (i / j)) else none
theorem os_fdiv : OpSem (pV K) (pV K) (pV K) (rI CDivW fun i j => .int (i / j)) fdivD := os_I fun i j d h => by
  by_cases hj : 0 < j ∧ j < 1000000000000000000000
  · rw [if_pos hj] at h; cases h
    exact ⟨wide_div (b := 70) hj.1 (by have := hj.2; have : j.natAbs < 1000000000000000000000 := by omega
                                       exact Nat.lt_trans this (by decide)) (by decide) (by decide), rfl⟩
  · rw [if_neg hj] at h; cases h
def powD := int2 fun i j => if 0 ≤ j ∧ j ≤ 1000 ∧ i.natAbs < 1000 then some (.int (i ^ j.toNat)) else none
theorem os_pow : OpSem (pV K) (pV K) (pV K) (rI CPow fun i j => .int (i ^ j.toNat)) powD := os_I fun i j d h => by
  by_cases hj : 0 ≤ j ∧ j ≤ 1000 ∧ i.natAbs < 1000
  · rw [if_pos hj] at h; cases h
    exact ⟨⟨hj.1, by omega, Nat.lt_trans hj.2.2 (by decide)⟩, rfl⟩
  · rw [if_neg hj] at h; cases h
def mulI := int2 fun i j => if (-18446744073709551616 < i ∧ i < 18446744073709551616) ∨ (-18446744073709551616 < j ∧ j < 18446744073709551616) then some (.int (i * j)) else none
theorem os_mul : OpSem (pV K) (pV K) (pV K) (rI CMul fun i j => .int (i * j)) mulI := os_I fun i j d h => by
  by_cases hj : (-18446744073709551616 < i ∧ i < 18446744073709551616) ∨ (-18446744073709551616 < j ∧ j < 18446744073709551616)
  · rw [if_pos hj] at h; cases h
    exact ⟨hj, rfl⟩
  · rw [if_neg hj] at h; cases h
def negD : D → Option D
  | .int i => some (.int (-i))
  | _ => none
theorem pd_neg {cls : Exc → Addr} {W : WX} {a : Expr} {pos : Pos} {fa : EnvD → R D} (ha : PDE X cls W (pV X.K) a fa) : PDE X cls W (pV X.K) (.UnaryOp .USub a pos) (una negD fa) :=
  pd_un un_neg (fun S F H x d z Q i p hz k => by
    cases p with
    | int j => cases hz; exact ⟨j, rfl, k _ F H (Ext.refl i) (.int _)⟩
    | _ => cases hz) ha
/-- +: ints, texts, tuples -/
def addD : D → D → Option D
  | .int i, .int j => some (.int (i + j))
  | .str x, .str y => if small (x.length + y.length) = true then some (.str (x ++ y)) else none
  | .tup xs, .tup ys => if small (xs.length + ys.length) = true then some (.tup (xs ++ ys)) else none
  | _, _ => none
def rAddA (K : PySem.W.Frag) : R2 := fun x y H Q => rI0 (fun i j => .int (i + j)) x y H Q ∨ (∃ i j, x = .str i ∧ y = .str j ∧ i.length + j.length ≤ sizeLine ∧ Q (.str (i ++ j)) H) ∨ rCatN K x y H Q
theorem op_addA : OpR X (binaryOp .Add) (rAddA X.K) := OpR.or op_add (OpR.or op_add_str op_catN)
theorem os_add : OpSem (pV K) (pV K) (pV K) (rAddA K) addD := fun S1 S2 F H x y d e z Q i p q hz k => by
  unfold addD at hz
  split at hz
  · cases hz
    exact .inl ⟨_, _, rep_int p, rep_int q, k _ F H (Ext.refl i) (.int _)⟩
  · rename_i a b
    by_cases hl : small (a.length + b.length) = true
    · rw [if_pos hl] at hz; cases hz
      cases p; cases q
      exact .inr (.inl ⟨_, _, rfl, rfl, small_ok hl, k _ F H (Ext.refl i) (.str _)⟩)
    · rw [if_neg hl] at hz; cases hz
  · rename_i a b
    by_cases hl : small (a.length + b.length) = true
    · rw [if_pos hl] at hz; cases hz
      cases p with
      | tup h1 h2 h3 =>
        cases q with
        | tup g1 g2 g3 =>
          have hl' := small_ok hl
          rw [← h3.length, ← g3.length] at hl'
          refine .inr (.inr ⟨_, _, _, _, rfl, rfl, (h1.mono i).sq, (g1.mono i).sq, hl', fun e => ?_, fun _ e => ?_, fun _ _ p hp o hd => ?_⟩)
          · subst e; cases h3
            exact k _ F H (Ext.refl i) (.tup g1 g2 g3)
          · subst e; cases g3
            rw [List.append_nil] at k
            exact k _ F H (Ext.refl i) (.tup h1 h2 h3)
          · exact k _ (upd F p _) _ (Ext.new i hp) (.tup ⟨o, hd, upd_same⟩ (by rw [List.length_append]; exact hl') ((h3.mono (Same.updN (i.free hp))).append (g3.mono (Same.updN (i.free hp)))))
    · rw [if_neg hl] at hz; cases hz
  · cases hz
/-- * of two ints, of a tuple and an int -/
def mulD : D → D → Option D
  | .tup xs, .int j => if xs ≠ [] ∧ 0 ≤ j ∧ j ≤ 1000 ∧ xs.length ≤ 1000 then some (.tup (List.replicate j.toNat xs).flatten) else none
  | x, y => mulI x y
theorem Reps.rep {F : Hp} {xs : List V} {ds : List D} (h : Reps K F xs ds) : ∀ n : Nat, Reps K F (List.replicate n xs).flatten (List.replicate n ds).flatten
  | 0 => .nil
  | n + 1 => by simp only [List.replicate_succ, List.flatten_cons]; exact h.append (Reps.rep h n)
theorem os_mulA : OpSem (pV K) (pV K) (pV K) (fun x y H Q => (rRepN K x y H Q ∨ rRep01 K x y H Q) ∨ rI CMul (fun i j => .int (i * j)) x y H Q) mulD := fun S1 S2 F H x y d e z Q i p q hz k => by
  unfold mulD at hz
  split at hz
  · rename_i xs j
    by_cases hj : xs ≠ [] ∧ 0 ≤ j ∧ j ≤ 1000 ∧ xs.length ≤ 1000
    · rw [if_pos hj] at hz; cases hz
      cases p with
      | tup h1 h2 h3 =>
        rename_i a0 vs0
        have hne : vs0 ≠ [] := fun e => hj.1 (by subst e; cases h3; rfl)
        by_cases j0 : j = 0
        · subst j0
          refine .inl (.inr ⟨_, 0, _, rfl, rep_int q, (h1.mono i).sq, hne, .inr ⟨rfl, fun p hp o hd => ?_⟩⟩)
          exact k _ (upd F p _) _ (Ext.new i hp) (.tup ⟨o, hd, upd_same⟩ (by rw [sizeLine_eq]; exact Nat.zero_le _) .nil)
        by_cases j1 : j = 1
        · subst j1
          refine .inl (.inr ⟨_, 1, _, rfl, rep_int q, (h1.mono i).sq, hne, .inl ⟨rfl, ?_⟩⟩)
          refine k _ F _ (Ext.refl i) ?_
          have e : (List.replicate (1 : Int).toNat xs).flatten = xs := by simp
          rw [e]
          exact .tup h1 h2 h3
        refine .inl (.inl ⟨_, j, _, rfl, rep_int q, (h1.mono i).sq, hne, by omega, hj.2.2.1, by rw [h3.length]; exact hj.2.2.2, fun p hp o hd => ?_⟩)
        refine k _ (upd F p _) _ (Ext.new i hp) (.tup ⟨o, hd, upd_same⟩ ?_ ((h3.mono (Same.updN (i.free hp))).rep _))
        have : (List.replicate j.toNat vs0).flatten.length ≤ 1000 * 1000 := by
          rw [List.length_flatten, List.map_replicate, List.sum_replicate_nat]
          exact Nat.mul_le_mul (by omega) (by rw [h3.length]; exact hj.2.2.2)
        exact Nat.le_trans this (by rw [sizeLine_eq]; decide)
    · rw [if_neg hj] at hz; cases hz
  · exact .inr (os_mul S1 S2 F H x y d e z Q i p q hz k)
theorem op_mulA : OpR X (binaryOp .Mult) (fun x y H Q => (rRepN X.K x y H Q ∨ rRep01 X.K x y H Q) ∨ rI CMul (fun i j => .int (i * j)) x y H Q) := OpR.or (OpR.or op_repN op_rep01) op_mul
/-- comparisons of ints -/
def cmpI (f : Int → Int → Bool) : D → D → Option Bool
  | .int i, .int j => some (f i j)
  | _, _ => none
theorem os_cmpI {g : Int → Int → Bool} : OpSemB (pV K) (pV K) (rI0 fun i j => .bl (g i j)) (cmpI g) := fun S1 S2 F H x y d e z Q i p q hz k => by
  unfold cmpI at hz
  split at hz
  · cases hz; exact ⟨_, _, rep_int p, rep_int q, k⟩
  · cases hz
abbrev ltI := cmpI fun i j => decide (i < j)
abbrev leI := cmpI fun i j => decide (i ≤ j)
abbrev gtI := cmpI fun i j => decide (j < i)
abbrev geI := cmpI fun i j => decide (j ≤ i)
/-- < of ints, of tuples of ints -/
def asInts : List D → Option (List Int)
  | [] => some []
  | .int i :: r => (asInts r).map (i :: ·)
  | _ => none
theorem asInts_eq : ∀ {ds : List D} {ns : List Int}, asInts ds = some ns → ds = ns.map D.int
  | [], ns, h => by cases h; rfl
  | .int i :: r, ns, h => by
    simp only [asInts] at h
    cases q : asInts r with
    | none => rw [q] at h; cases h
    | some ms => rw [q] at h; cases h; rw [asInts_eq q]; rfl
  | .non :: _, _, h => by cases h
  | .bl _ :: _, _, h => by cases h
  | .str _ :: _, _, h => by cases h
  | .tup _ :: _, _, h => by cases h
  | .itm _ :: _, _, h => by cases h
  | .lst _ :: _, _, h => by cases h
  | .scr _ :: _, _, h => by cases h
  | .dic _ _ :: _, _, h => by cases h
  | .raw _ :: _, _, h => by cases h
def ltTD : D → D → Option Bool
  | .tup xs, .tup ys => match asInts xs, asInts ys with
    | some ns, some ms => some (HT.lexLt ns ms)
    | _, _ => none
  | x, y => ltI x y
theorem os_ltT : OpSemB (pV K) (pV K) (fun x y H Q => rLtT K x y H Q ∨ rI0 (fun i j => .bl (decide (i < j))) x y H Q) ltTD := fun S1 S2 F H x y d e z Q i p q hz k => by
  unfold ltTD at hz
  split at hz
  · rename_i xs ys
    split at hz
    · rename_i ns ms e1 e2
      cases hz
      rw [asInts_eq e1] at p
      rw [asInts_eq e2] at q
      cases p with
      | tup h1 h2 h3 =>
        cases q with
        | tup g1 g2 g3 =>
          rw [h3.of_ints] at h1
          rw [g3.of_ints] at g1
          exact .inl ⟨_, _, ns, ms, rfl, rfl, (h1.mono i).sq, (g1.mono i).sq, k⟩
    · cases hz
  · exact .inr (os_cmpI S1 S2 F H x y d e z Q i p q hz k)
theorem op_ltTD (hu : X.A.units < cLine) : OpR X (compareOp .Lt) (fun x y H Q => rLtT X.K x y H Q ∨ rI0 (fun i j => .bl (decide (i < j))) x y H Q) := OpR.or (op_ltT hu) op_lt
/-- is None -/
def isNon : D → Bool
  | .non => true
  | _ => false
def noRaw : D → Bool
  | .raw _ => false
  | _ => true
theorem repB_non {F H : Hp} {v : V} {d : D} (h : RepB K F H v d) (n : noRaw d = true) : decide (v = V.non) = isNon d := by
  rcases h with h | ⟨_, _, _, rfl, rfl, _⟩ | ⟨_, _, _, _, _, rfl, rfl, _⟩
  · cases h <;> first | rfl | cases n
  · rfl
  · rfl
def isNoneD : D → D → Option Bool
  | d, .non => if noRaw d = true then some (isNon d) else none
  | _, _ => none
def notNoneD : D → D → Option Bool := fun d e => (isNoneD d e).map (!·)
theorem os_isN : OpSemB (pB K) (pV K) (fun x y H Q => y = .non ∧ Q (.bl (decide (x = .non))) H) isNoneD := fun S1 S2 F H x y d e z Q i p q hz k => by
  unfold isNoneD at hz
  split at hz
  · by_cases n : noRaw d = true
    · rw [if_pos n] at hz; cases hz; cases q; exact ⟨rfl, by rw [repB_non p n]; exact k⟩
    · rw [if_neg n] at hz; cases hz
  · cases hz
theorem os_notN : OpSemB (pB K) (pV K) (fun x y H Q => y = .non ∧ Q (.bl (!decide (x = .non))) H) notNoneD := fun S1 S2 F H x y d e z Q i p q hz k => by
  unfold notNoneD at hz
  cases w : isNoneD d e with
  | none => rw [w] at hz; cases hz
  | some b =>
    rw [w] at hz
    cases hz
    unfold isNoneD at w
    split at w
    · by_cases n : noRaw d = true
      · rw [if_pos n] at w; cases w; cases q; exact ⟨rfl, by rw [repB_non p n]; exact k⟩
      · rw [if_neg n] at w; cases w
    · cases w
/-- is True, is False -/
def isBD : D → D → Option Bool
  | .bl a, .bl b => some (decide (a = b))
  | _, _ => none
def notBD : D → D → Option Bool := fun d e => (isBD d e).map (!·)
theorem os_isB : OpSemB (pV K) (pV K) rIsB isBD := fun S1 S2 F H x y d e z Q i p q hz k => by
  unfold isBD at hz
  split at hz
  · cases hz; cases p; cases q; exact ⟨_, _, rfl, rfl, k⟩
  · cases hz
theorem os_notB : OpSemB (pV K) (pV K) rNotB notBD := fun S1 S2 F H x y d e z Q i p q hz k => by
  unfold notBD isBD at hz
  split at hz
  · cases hz; cases p; cases q; exact ⟨_, _, rfl, rfl, k⟩
  · cases hz
/-! ### in -/
def flatD : D → Bool
  | .non => true
  | .bl _ => true
  | .int _ => true
  | .str _ => true
  | _ => false
theorem rep_flat {F : Hp} {v : V} {d : D} (h : Rep K F v d) (f : flatD d = true) : flatV v = true ∧ ∀ v' d', Rep K F v' d' → flatD d' = true → eqV v v' = PyData.eqv d.toPy d'.toPy := by
  refine ⟨(by cases h <;> first | rfl | (cases f)), fun v' d' h' f' => ?_⟩
  cases h <;> first | cases f | skip
  all_goals (cases h' <;> first | cases f' | skip)
  all_goals simp [eqV, D.toPy, PyData.eqv]
theorem repB_flat {F H : Hp} {v : V} {d : D} (h : RepB K F H v d) (f : flatD d = true) : Rep K F v d := by
  rcases h with h | ⟨_, _, _, rfl, rfl, _⟩ | ⟨_, _, _, _, _, rfl, rfl, _⟩
  · exact h
  · cases f
  · cases f
theorem reps_flat {F : Hp} : ∀ {vs : List V} {ds : List D}, Reps K F vs ds → ds.all flatD = true → vs.all flatV = true
  | _, [], h, _ => by cases h; rfl
  | _, d :: ds, h, q => by
    cases h with
    | cons a b =>
      simp only [List.all_cons, Bool.and_eq_true] at q ⊢
      exact ⟨(rep_flat a q.1).1, reps_flat b q.2⟩
theorem in_flat {F : Hp} {v : V} {d : D} (hv : Rep K F v d) (f : flatD d = true) : ∀ {vs : List V} {ds : List D}, Reps K F vs ds → ds.all flatD = true → inV v vs = ds.any fun y => PyData.eqv y.toPy d.toPy
  | _, [], h, _ => by cases h; rfl
  | _, e :: ds, h, q => by
    cases h with
    | cons a b =>
      simp only [List.all_cons, Bool.and_eq_true] at q
      have i1 := in_flat hv f b q.2
      unfold inV at i1 ⊢
      rw [List.any_cons, List.any_cons, i1, (rep_flat a q.1).2 v d hv f]
def inD : D → D → Option Bool
  | x, .tup ys => if flatD x && ys.all flatD then some (ys.any fun y => PyData.eqv y.toPy x.toPy) else none
  | x, .lst ys => if SeqAt.shaped x.toPy && SeqAt.shaped (D.lst ys).toPy then some ((toPys ys).any fun y => PyData.eqv y x.toPy) else none
  | _, _ => none
def notInD : D → D → Option Bool := fun d e => (inD d e).map (!·)
def rInA (K : PySem.W.Frag) : R2 := fun x y H Q => rIn K false x y H Q ∨ rInD K x y H Q
def rNotInA (K : PySem.W.Frag) : R2 := fun x y H Q => rIn K true x y H Q ∨ rNotInD K x y H Q
theorem op_inA (hu : X.A.units + 65 < cLine) : OpR X (compareOp .In) (rInA X.K) := OpR.or op_in_seq (op_inD hu)
theorem op_notInA (hu : X.A.units + 65 < cLine) : OpR X (compareOp .NotIn) (rNotInA X.K) := OpR.or op_notIn_seq (op_notInD hu)
theorem in_core {F H : Hp} {x y : V} {d e : D} {z : Bool} {Q Q' : VK} (i : Same F H) (p : RepB K F H x d) (q : RepB K F H y e) (hz : inD d e = some z) (k : Q (.bl z) H) (k' : Q' (.bl (!z)) H) : rInA K x y H Q ∧ rNotInA K x y H Q' := by
  unfold inD at hz
  split at hz
  · rename_i ys
    split at hz
    · rename_i h
      obtain ⟨h1, h2⟩ := Bool.and_eq_true_iff.mp h
      cases hz
      have p' := repB_flat p h1
      have q' : Rep K F y (.tup ys) := by
        rcases q with q | ⟨_, _, _, _, q, _⟩ | ⟨_, _, _, _, _, _, q, _⟩
        · exact q
        · cases q
        · cases q
      cases q' with
      | tup g1 g2 g3 =>
        have e1 := in_flat p' h1 g3 h2
        refine ⟨.inl ⟨_, _, rfl, .inr (g1.mono i).sq, (rep_flat p' h1).1, reps_flat g3 h2, ?_⟩, .inl ⟨_, _, rfl, .inr (g1.mono i).sq, (rep_flat p' h1).1, reps_flat g3 h2, ?_⟩⟩
        · simp only [Bool.false_eq_true, if_false]; rw [e1]; exact k
        · simp only [if_true]; rw [e1]; exact k'
    · cases hz
  · rename_i ys
    split at hz
    · rename_i h
      obtain ⟨h1, h2⟩ := Bool.and_eq_true_iff.mp h
      cases hz
      have a1 := repB_dp i p (SeqAt.canLay_of_shaped h1)
      have a2 := repB_dp i q (SeqAt.canLay_of_shaped h2)
      simp only [D.toPy] at a2 h2
      exact ⟨.inr ⟨_, _, a1, a2, h1, h2, k⟩, .inr ⟨_, _, a1, a2, h1, h2, k'⟩⟩
    · cases hz
  · cases hz
theorem os_in : OpSemB (pB K) (pB K) (rInA K) inD := fun S1 S2 F H x y d e z Q i p q hz k => (in_core (Q' := fun _ _ => True) i p q hz k trivial).1
theorem os_notIn : OpSemB (pB K) (pB K) (rNotInA K) notInD := fun S1 S2 F H x y d e z Q i p q hz k => by
  unfold notInD at hz
  cases w : inD d e with
  | none => rw [w] at hz; cases hz
  | some b =>
    rw [w] at hz; cases hz
    exact (in_core (Q := fun _ _ => True) i p q w trivial k).2
/-! ### subscripts, slices -/
def ixD : D → D → Option D
  | .lst xs, .int i => atI xs i
  | .tup xs, .int i => atI xs i
  | .itm xs, .int i => atI xs i
  | .scr ns, .int i => (atI ns i).map D.int
  | _, _ => none
theorem atI_reps {F : Hp} {vs : List V} {ds : List D} (h : Reps K F vs ds) {i : Int} {d : D} (e : atI ds i = some d) : ∃ v, atI vs i = some v ∧ Rep K F v d := by
  unfold atI at e ⊢
  rw [h.length]
  cases q : ixN ds.length i with
  | none => rw [q] at e; cases e
  | some j =>
    rw [q] at e
    obtain ⟨v, h1, h2⟩ := h.get (i := j) (d := d) e
    exact ⟨v, h1, h2⟩
theorem os_ix : OpSem (pB K) (pV K) (pV K) (rIx K) ixD := fun S1 S2 F H x y d e z Q i p q hz k => by
  unfold ixD at hz
  split at hz
  · rename_i xs j
    cases rep_int q
    rcases p with p | ⟨a, vs, ds, rfl, h, h1, h2, h3⟩ | ⟨_, _, _, _, _, _, h, _⟩
    · cases p with
      | lst h1 h2 h3 =>
        obtain ⟨v, e1, e2⟩ := atI_reps h3 hz
        exact .inl ⟨_, _, j, v, rfl, rfl, SqL.of (i _ _ h1), e1, k v F H (Ext.refl i) e2⟩
    · cases h
      obtain ⟨v, e1, e2⟩ := atI_reps h3 hz
      exact .inl ⟨_, _, j, v, rfl, rfl, SqL.of h1, e1, k v F H (Ext.refl i) e2⟩
    · cases h
  · rename_i xs j
    cases rep_int q
    rcases p with p | ⟨_, _, _, _, h, _⟩ | ⟨_, _, _, _, _, _, h, _⟩
    · cases p with
      | tup h1 h2 h3 =>
        obtain ⟨v, e1, e2⟩ := atI_reps h3 hz
        exact .inr (.inl ⟨_, _, j, v, rfl, rfl, (h1.mono i).sq, e1, k v F H (Ext.refl i) e2⟩)
    · cases h
    · cases h
  · rename_i xs j
    cases rep_int q
    rcases p with p | ⟨_, _, _, _, h, _⟩ | ⟨_, _, _, _, _, _, h, _⟩
    · cases p with
      | itm h1 h2 h3 =>
        obtain ⟨v, e1, e2⟩ := atI_reps h3 hz
        exact .inr (.inl ⟨_, _, j, v, rfl, rfl, SqT.of (i _ _ h1), e1, k v F H (Ext.refl i) e2⟩)
    · cases h
    · cases h
  · rename_i ns j
    cases rep_int q
    rcases p with p | ⟨_, _, _, _, h, _⟩ | ⟨_, _, _, _, _, _, h, _⟩
    · cases p with
      | scr h1 h2 =>
        cases w : atI ns j with
        | none => rw [w] at hz; cases hz
        | some n =>
          rw [w] at hz; cases hz
          have e1 : atI (ns.map V.int) j = some (.int n) := by
            unfold atI at w ⊢
            rw [List.length_map]
            cases u : ixN ns.length j with
            | none => rw [u] at w; cases w
            | some m =>
              rw [u] at w
              have w' : ns[m]? = some n := w
              show (ns.map V.int)[m]? = some (.int n)
              rw [List.getElem?_map, w']; rfl
          exact .inl ⟨_, _, j, _, rfl, rfl, i.seq h1, e1, k _ F H (Ext.refl i) (.int n)⟩
    · cases h
    · cases h
  · cases hz
end
end PD

set_option maxHeartbeats 4000000
namespace PD
open PySem PySem.Spec PyProof.Rows L2
/-! ### assignments: slots -/
def relS (K : PySem.W.Frag) (H F' H' : Hp) (v : V) : Sl → Prop
  | .no => False
  | .val d => Rep K F' v d
  | .own ds => (pN K).rel H F' H' v ds
  | .ownd t ks vs => (pM K).rel H F' H' v (t, ks, vs)
def pS (K : PySem.W.Frag) : PP V Sl := ⟨relS K, fun {H H1 F' H' v d} e h => by
  cases d with
  | no => exact h
  | val d => exact h
  | own ds => exact (pN K).anti e h
  | ownd _ ks vs => exact (pM K).anti e h, fun {H F' H' F'' H'' v d} e h => by
  cases d with
  | no => exact h
  | val d => exact Rep.mono h e.f
  | own ds => exact (pN K).mono e h
  | ownd _ ks vs => exact (pM K).mono e h⟩
section
variable {X : Cx} {cls : Exc → Addr} {W : WX} {e a b c tg : Expr} {pos p : Pos} {st : Stmt} {fa fb fc : EnvD → R Sl}
def slV (f : EnvD → R D) : EnvD → R Sl := fun env => (f env).map Sl.val
def slN (f : EnvD → R (List D)) : EnvD → R Sl := fun env => (f env).map Sl.own
def slM (f : EnvD → R (Bool × List D × List D)) : EnvD → R Sl := fun env => (f env).map fun d => Sl.ownd d.1 d.2.1 d.2.2
theorem tG_map {ρ α β : Type} {P : PP ρ α} {P' : PP ρ β} {g : α → β} {K : PySem.W.Frag} {f : EnvD → R α} (h : ∀ H F' H' v d, P.rel H F' H' v d → P'.rel H F' H' v (g d)) {σ : L2.St} {H : Hp} {Q : ρ → Hp → Prop} (t : tG K cls W P' (fun env => (f env).map g) σ H Q) : tG K cls W P f σ H Q := by
  obtain ⟨H0, F, env, ea, q⟩ := t
  exact ⟨H0, F, env, ea, Go.map q fun d _ k v F' H' e p => k v F' H' e (h _ _ _ _ _ p)⟩
theorem coeVS {f : EnvD → R D} (h : PDE X cls W (pV X.K) e f) : PDE X cls W (pS X.K) e (slV f) := pe_imp h fun σ H Q t => tG_map (P := pV X.K) (P' := pS X.K) (g := Sl.val) (fun _ _ _ _ _ h => h) t
theorem coeNS {f : EnvD → R (List D)} (h : PDE X cls W (pN X.K) e f) : PDE X cls W (pS X.K) e (slN f) := pe_imp h fun σ H Q t => tG_map (P := pN X.K) (P' := pS X.K) (g := Sl.own) (fun _ _ _ _ _ h => h) t
theorem coeMS {f : EnvD → R (Bool × List D × List D)} (h : PDE X cls W (pM X.K) e f) : PDE X cls W (pS X.K) e (slM f) := pe_imp h fun σ H Q t => tG_map (P := pM X.K) (P' := pS X.K) (g := fun d => Sl.ownd d.1 d.2.1 d.2.2) (fun _ _ _ _ _ h => h) t
/-- where a slot's value lies -/
theorem EnvAt.setSl {K : PySem.W.Frag} {H0 F F1 H H1 : Hp} {env : EnvD} {σ : L2.St} (h0 : Same H0 H) (ea : EnvAt K H0 env σ F H) (e1 : Ext F H F1 H1) (i : Nat) {v : V} {s : Sl} (r : relS K H F1 H1 v s) : EnvAt K H0 (env.set i s) (σ.set i (some v)) F1 H1 := by
  cases s with
  | no => exact r.elim
  | val d => exact (ea.mono e1).setV i r
  | own ds =>
    obtain ⟨p, xs, ev, n1, n2, n3, n4, n5⟩ := r
    subst ev
    exact (ea.mono e1).setO i ⟨p, xs, rfl, h0.free n1, n2, n3, n4, n5⟩ fun j t _ hj ot hp => (ea.ownAt hj ot hp).1 n1
  | ownd _ ks vs =>
    obtain ⟨p, u, ev, n1, n2, n3, n4⟩ := r
    subst ev
    exact (ea.mono e1).setO i ⟨p, u, rfl, h0.free n1, n2, n3, n4⟩ fun j t _ hj ot hp => (ea.ownAt hj ot hp).1 n1
def setSl (i : Nat) (f : EnvD → R Sl) : EnvD → Out := fun env => bindS (f env) env fun d => .next (env.set i d)
theorem pds_asg {i : Nat} (h : PS X st (tAsg (tG X.K cls W (pS X.K) fa) (gName i))) : PDS X cls W st (setSl i fa) := ps_imp h fun D σ H ⟨H0, F0, env, F, x, ea, g⟩ =>
  ⟨H0, F, env, ea, (g.expr x ea).imp fun v H1 ⟨F1, d, _, e1, p1, g1⟩ => g1 _ F1 H1 (x.trans e1) (Same.refl F1) (ea.setSl x.h e1 i p1)⟩
/-- a, b = x, y -/
def setPar (i j : Nat) (fa fb : EnvD → R Sl) : EnvD → Out := fun env => bindS (fa env) env fun s => bindS (fb env) env fun t => .next ((env.set i s).set j t)
theorem relS.fresh {K : PySem.W.Frag} {H F' H' : Hp} {v : V} {s : Sl} {q : Addr} (r : relS K H F' H' v s) (o : s.isOwn = true) (hq : v = .ref q) : H q = none ∧ H' q ≠ none := by
  cases s with
  | no => cases o
  | val d => cases o
  | own ds => obtain ⟨p, xs, ev, n1, n2, n3, _⟩ := r; rw [ev] at hq; cases hq; exact ⟨n1, some_ne n3⟩
  | ownd _ ks vs => obtain ⟨p, xs, ev, n1, n2, n3, _⟩ := r; rw [ev] at hq; cases hq; exact ⟨n1, some_ne n3⟩
theorem par_env {K : PySem.W.Frag} {H0 F F1 F2 H H1 H2 : Hp} {env : EnvD} {σ : L2.St} (h0 : Same H0 H) (ea : EnvAt K H0 env σ F H) (e1 : Ext F H F1 H1) (e2 : Ext F1 H1 F2 H2) (i j : Nat) {v w : V} {s t : Sl} (r1 : relS K H F1 H1 v s) (r2 : relS K H1 F2 H2 w t) :
    EnvAt K H0 ((env.set i s).set j t) ((σ.set i (some v)).set j (some w)) F2 H2 := (ea.setSl h0 e1 i r1).setSl (h0.trans e1.h) e2 j r2
theorem pds_par {i j : Nat} (h : PS X st (tPar i j (tCons (tG X.K cls W (pS X.K) fa) (tCons (tG X.K cls W (pS X.K) fb) tNil)))) : PDS X cls W st (setPar i j fa fb) := ps_imp h fun D σ H ⟨H0, F0, env, F, x, ea, g⟩ =>
  ⟨H0, F, env, ea, (g.expr x ea).imp fun v H1 ⟨F1, s, _, e1, p1, g1⟩ => ⟨H0, F1, env, ea.mono e1, (g1.expr (x.trans e1) (ea.mono e1)).imp fun w H2 ⟨F2, t, _, e2, p2, g2⟩ =>
    ⟨v, w, rfl, g2 _ F2 H2 ((x.trans e1).trans e2) (Same.refl F2) (par_env x.h ea e1 e2 i j p1 p2)⟩⟩⟩
theorem pds_parT {i j : Nat} (h : PS X st (tAsg (tTup (tCons (tG X.K cls W (pS X.K) fa) (tCons (tG X.K cls W (pS X.K) fb) tNil))) (gTup X.K 2 (gNames [i, j])))) : PDS X cls W st (setPar i j fa fb) := ps_imp h fun D σ H ⟨H0, F0, env, F, x, ea, g⟩ =>
  ⟨H0, F, env, ea, (g.expr x ea).imp fun v H1 ⟨F1, s, _, e1, p1, g1⟩ => ⟨H0, F1, env, ea.mono e1, (g1.expr (x.trans e1) (ea.mono e1)).imp fun w H2 ⟨F2, t, _, e2, p2, g2⟩ =>
    ⟨by show 2 ≤ sizeLine; decide, fun q hq => by
      have e3 : Ext F2 H2 F2 (upd H2 q (.tup [v, w])) := Ext.newH e2.i hq
      exact ⟨q, _, rfl, SqT.of upd_same, rfl, v, _, rfl, w, _, rfl, rfl, g2 _ F2 _ (((x.trans e1).trans e2).trans e3) (Same.refl F2) ((par_env x.h ea e1 e2 i j p1 p2).mono e3)⟩⟩⟩⟩
/-- a, b, c = x, y, z -/
def setPar3 (i j l : Nat) (fa fb fc : EnvD → R Sl) : EnvD → Out := fun env => bindS (fa env) env fun s => bindS (fb env) env fun t => bindS (fc env) env fun u => .next (((env.set i s).set j t).set l u)
theorem pds_par3 {i j l : Nat} (h : PS X st (tPar3 i j l (tCons (tG X.K cls W (pS X.K) fa) (tCons (tG X.K cls W (pS X.K) fb) (tCons (tG X.K cls W (pS X.K) fc) tNil))))) : PDS X cls W st (setPar3 i j l fa fb fc) := ps_imp h fun D σ H ⟨H0, F0, env, F, x, ea, g⟩ =>
  ⟨H0, F, env, ea, (g.expr x ea).imp fun v H1 ⟨F1, s, _, e1, p1, g1⟩ => ⟨H0, F1, env, ea.mono e1, (g1.expr (x.trans e1) (ea.mono e1)).imp fun w H2 ⟨F2, t, _, e2, p2, g2⟩ =>
    ⟨H0, F2, env, (ea.mono e1).mono e2, (g2.expr ((x.trans e1).trans e2) ((ea.mono e1).mono e2)).imp fun w3 H3 ⟨F3, u, _, e3, p3, g3⟩ =>
    ⟨v, w, w3, rfl, g3 _ F3 H3 (((x.trans e1).trans e2).trans e3) (Same.refl F3) ((par_env x.h ea e1 e2 i j p1 p2).setSl ((x.h.trans e1.h).trans e2.h) e3 l p3)⟩⟩⟩⟩
theorem pds_parT3 {i j l : Nat} (h : PS X st (tAsg (tTup (tCons (tG X.K cls W (pS X.K) fa) (tCons (tG X.K cls W (pS X.K) fb) (tCons (tG X.K cls W (pS X.K) fc) tNil)))) (gTup X.K 3 (gNames [i, j, l])))) : PDS X cls W st (setPar3 i j l fa fb fc) := ps_imp h fun D σ H ⟨H0, F0, env, F, x, ea, g⟩ =>
  ⟨H0, F, env, ea, (g.expr x ea).imp fun v H1 ⟨F1, s, _, e1, p1, g1⟩ => ⟨H0, F1, env, ea.mono e1, (g1.expr (x.trans e1) (ea.mono e1)).imp fun w H2 ⟨F2, t, _, e2, p2, g2⟩ =>
    ⟨H0, F2, env, (ea.mono e1).mono e2, (g2.expr ((x.trans e1).trans e2) ((ea.mono e1).mono e2)).imp fun w3 H3 ⟨F3, u, _, e3, p3, g3⟩ =>
    ⟨by show 3 ≤ sizeLine; decide, fun q hq => by
      have e4 : Ext F3 H3 F3 (upd H3 q (.tup [v, w, w3])) := Ext.newH e3.i hq
      exact ⟨q, _, rfl, SqT.of upd_same, rfl, v, _, rfl, w, _, rfl, w3, _, rfl, rfl, g3 _ F3 _ ((((x.trans e1).trans e2).trans e3).trans e4) (Same.refl F3) (((par_env x.h ea e1 e2 i j p1 p2).setSl ((x.h.trans e1.h).trans e2.h) e3 l p3).mono e4)⟩⟩⟩⟩⟩
/-- a, b, .. = e, e a tuple -/
def unpS (q : Pat) (f : EnvD → R D) : EnvD → Out := fun env => bindS (f env) env fun d => match bindP q d env with
  | some e => .next e
  | none => .bad
theorem pds_unp {q : Pat} {f : EnvD → R D} (h : PS X st (tAsg (tG X.K cls W (pV X.K) f) (gPat X.K q))) : PDS X cls W st (unpS q f) := ps_imp h fun D σ H ⟨H0, F0, env, F, x, ea, g⟩ =>
  ⟨H0, F, env, ea, (g.expr x ea).imp fun v H1 ⟨F1, d, _, e1, p1, g1⟩ => by
    cases w : bindP q d env with
    | none => rw [w] at g1; exact g1.elim
    | some e =>
      rw [w] at g1
      exact gPat_ok (ea.mono e1) p1 w fun σ' ea' _ => g1 _ F1 H1 (x.trans e1) (Same.refl F1) ea'⟩
/-! ### lists that change -/
def appS (i : Nat) (f : EnvD → R D) : EnvD → Out := fun env => match env[i]? with
  | some (.own ds) => bindS (f env) env fun d => if small (ds.length + 1) = true then .next (env.set i (.own (ds ++ [d]))) else .bad
  | _ => .bad
theorem tv_own {K : PySem.W.Frag} {H0 F H : Hp} {env : EnvD} {σ : L2.St} {i : Nat} {ds : List D} (ea : EnvAt K H0 env σ F H) (q : env[i]? = some (.own ds)) : ∃ p xs, σ.getD i none = some (V.ref p) ∧ H p = some (.lst xs) ∧ xs.length ≤ sizeLine ∧ Reps K F xs ds ∧ F p = none ∧ H0 p = none := by
  obtain ⟨p, xs, h1, h2, h3, h4, h5, h6⟩ := ea.at_ i _ q
  exact ⟨p, xs, h1, h4, h5, h6, h3, h2⟩
theorem mut_ext {F0 H0 F H : Hp} {p : Addr} {o u : HO} (x : Ext F0 H0 F H) (h0 : H0 p = none) (hf : F p = none) : Ext F0 H0 F (upd H p u) :=
  ⟨x.f, fun a o h => by rw [upd_ne (ne_of_none h h0)]; exact x.h a o h, x.i.into hf, x.n⟩
theorem pds_append {i : Nat} {f : EnvD → R D} {r : V → List V → Hp → VK → Prop} (h : PS X st (tDrop (tBM X.K "list" rAppend (tVar i) (tCons (tG X.K cls W (pV X.K) f) tNil)))) : PDS X cls W st (appS i f) := ps_imp h fun D σ H ⟨H0, F0, env, F, x, ea, g⟩ => by
  unfold appS at g
  cases q : env[i]? with
  | none => rw [q] at g; exact g.elim
  | some s =>
    rw [q] at g
    cases s with
    | own ds =>
      obtain ⟨p, xs, h1, h2, h3, h4, h5, h6⟩ := tv_own ea q
      refine ⟨.ref p, getD_some h1, .inl ⟨rfl, xs, SqL.of h2⟩, H0, F, env, ea, (g.expr x ea).imp fun v H1 ⟨F1, d, _, e1, p1, g1⟩ => ?_⟩
      by_cases hz : small (ds.length + 1) = true
      · rw [if_pos hz] at g1
        have hz' := small_ok hz
        have ea1 := ea.mono e1
        have hp1 := e1.h _ _ h2
        have fp1 := e1.keep h2 rfl h5
        refine ⟨p, xs, v, rfl, rfl, hp1, by have := h4.length; omega, g1 σ F1 _ (mut_ext (o := .lst xs) (x.trans e1) h6 fp1) (Same.refl F1) (ea1.mut q rfl h1 ⟨p, _, rfl, h6, fp1, upd_same, by simp; have := h4.length; omega, (h4.mono e1.f).snoc p1⟩)⟩
      · rw [if_neg hz] at g1; exact g1.elim
    | no => exact g.elim
    | val d => exact g.elim
    | ownd _ ks vs => exact g.elim
def extS (i : Nat) (f : EnvD → R (List D)) : EnvD → Out := fun env => match env[i]? with
  | some (.own ds) => bindS (f env) env fun es => if small (ds.length + es.length) = true then .next (env.set i (.own (ds ++ es))) else .bad
  | _ => .bad
theorem pds_extend {i : Nat} {f : EnvD → R (List D)} (h : PS X st (tDrop (tBM X.K "list" rExtend (tVar i) (tCons (tG X.K cls W (pN X.K) f) tNil)))) : PDS X cls W st (extS i f) := ps_imp h fun D σ H ⟨H0, F0, env, F, x, ea, g⟩ => by
  unfold extS at g
  cases q : env[i]? with
  | none => rw [q] at g; exact g.elim
  | some s =>
    rw [q] at g
    cases s with
    | own ds =>
      obtain ⟨p, xs, h1, h2, h3, h4, h5, h6⟩ := tv_own ea q
      refine ⟨.ref p, getD_some h1, .inl ⟨rfl, xs, SqL.of h2⟩, H0, F, env, ea, (g.expr x ea).imp fun v H1 ⟨F1, es, _, e1, ⟨p2, ys, ev, n1, n2, n3, n4, n5⟩, g1⟩ => ?_⟩
      subst ev
      by_cases hz : small (ds.length + es.length) = true
      · rw [if_pos hz] at g1
        have hz' := small_ok hz
        have ea1 := ea.mono e1
        have hp1 := e1.h _ _ h2
        have fp1 := e1.keep h2 rfl h5
        have l1 := h4.length
        have l2 := n5.length
        refine ⟨p, p2, xs, ys, rfl, rfl, hp1, n3, by omega, g1 σ F1 _ (mut_ext (o := .lst xs) (x.trans e1) h6 fp1) (Same.refl F1) (ea1.mut q rfl h1 ⟨p, _, rfl, h6, fp1, upd_same, by simp; omega, (h4.mono e1.f).append n5⟩)⟩
      · rw [if_neg hz] at g1; exact g1.elim
    | no => exact g.elim
    | val d => exact g.elim
    | ownd _ ks vs => exact g.elim
/-- xs.append(ys.pop(k)) -/
def appPopS (i j : Nat) (f : EnvD → R D) : EnvD → Out := fun env => match env[i]?, env[j]? with
  | some (.own ds), some (.own es) => bindS (f env) env fun d => match d with
    | .int k => if i ≠ j ∧ 0 ≤ k ∧ k < es.length ∧ small (ds.length + 1) = true then (match es[k.toNat]? with
      | some y => .next ((env.set j (.own (es.eraseIdx k.toNat))).set i (.own (ds ++ [y])))
      | none => .bad) else .bad
    | _ => .bad
  | _, _ => .bad
theorem Reps.erase {K : PySem.W.Frag} {F : Hp} {vs : List V} {ds : List D} (h : Reps K F vs ds) : ∀ i : Nat, Reps K F (vs.eraseIdx i) (ds.eraseIdx i) := by
  induction ds generalizing vs with
  | nil => intro i; cases h; exact .nil
  | cons d ds ih =>
    intro i
    cases h with
    | cons a b =>
      cases i with
      | zero => exact b
      | succ i => exact .cons a (ih b i)
theorem pds_appPop {i j : Nat} {f : EnvD → R D} (h : PS X st (tDrop (tBM X.K "list" rAppend (tVar i) (tCons (tBM X.K "list" rPopAt (tVar j) (tCons (tG X.K cls W (pV X.K) f) tNil)) tNil)))) : PDS X cls W st (appPopS i j f) := ps_imp h fun D σ H ⟨H0, F0, env, F, x, ea, g⟩ => by
  unfold appPopS at g
  cases q : env[i]? with
  | none => rw [q] at g; exact g.elim
  | some s =>
    cases s with
    | own ds =>
      cases q2 : env[j]? with
      | none => rw [q, q2] at g; exact g.elim
      | some t =>
        rw [q, q2] at g
        cases t with
        | own es =>
          obtain ⟨p, xs, h1, h2, h3, h4, h5, h6⟩ := tv_own ea q
          obtain ⟨p2, ys, g1, g2, g3, g4, g5, g6⟩ := tv_own ea q2
          refine ⟨.ref p, getD_some h1, .inl ⟨rfl, xs, SqL.of h2⟩, .ref p2, getD_some g1, .inl ⟨rfl, ys, SqL.of g2⟩, H0, F, env, ea, (g.expr x ea).imp fun v H1 ⟨F1, d, _, e1, p1, k1⟩ => ?_⟩
          cases d with
          | int k =>
            cases rep_int p1
            have k1 : GoS X.K cls W F0 H0 F1 (if i ≠ j ∧ 0 ≤ k ∧ k < es.length ∧ small (ds.length + 1) = true then (match es[k.toNat]? with
              | some y => .next ((env.set j (.own (es.eraseIdx k.toNat))).set i (.own (ds ++ [y])))
              | none => .bad) else .bad) D := k1
            by_cases hz : i ≠ j ∧ 0 ≤ k ∧ k < es.length ∧ small (ds.length + 1) = true
            · rw [if_pos hz] at k1
              obtain ⟨z1, z2, z3, z4⟩ := hz
              have l1 := h4.length
              have l2 := g4.length
              have hk : k.toNat < es.length := by omega
              obtain ⟨y, hy⟩ : ∃ y, es[k.toNat]? = some y := ⟨es[k.toNat], by simp [hk]⟩
              rw [hy] at k1
              obtain ⟨w, hw, rw1⟩ := g4.get hy
              have b63 := line63
              have hsi : seqIndex? k ys.length = some k.toNat := (ixN_seq (n := ys.length) (i := k) (j := k.toNat) (by unfold ixN; rw [if_pos z2, if_pos (by omega)])).1
              refine ⟨p2, ys, k, k.toNat, w, rfl, rfl, e1.h _ _ g2, by omega, by omega, hsi, hw, ?_⟩
              have ea1 := ea.mono e1
              have fp2 := e1.keep g2 rfl g5
              have fp1 := e1.keep h2 rfl h5
              have npp : p ≠ p2 := fun e => by subst e; exact ea.ap i j _ _ p z1 q q2 rfl rfl h1 g1
              have x1 := mut_ext (o := .lst ys) (u := .lst (ys.eraseIdx k.toNat)) (x.trans e1) g6 fp2
              have ea2 := ea1.mut (u := .lst (ys.eraseIdx k.toNat)) (s' := .own (es.eraseIdx k.toNat)) q2 rfl g1 ⟨p2, _, rfl, g6, fp2, upd_same, by have := len_erase ys k.toNat; omega, (g4.mono e1.f).erase _⟩
              have q3 : (env.set j (.own (es.eraseIdx k.toNat)))[i]? = some (.own ds) := by rw [List.getElem?_set_ne (Ne.symm z1)]; exact q
              have hz' := small_ok z4
              refine ⟨p, xs, w, rfl, rfl, by rw [upd_ne npp]; exact e1.h _ _ h2, by omega, k1 σ F1 _ (mut_ext (o := .lst xs) x1 h6 fp1) (Same.refl F1) (ea2.mut q3 rfl h1 ⟨p, _, rfl, h6, fp1, upd_same, by simp; omega, (h4.mono e1.f).snoc (rw1.mono e1.f)⟩)⟩
            · rw [if_neg hz] at k1; exact k1.elim
          | _ => exact k1.elim
        | no => exact g.elim
        | val d => exact g.elim
        | ownd _ ks vs => exact g.elim
    | no => rw [q] at g; exact g.elim
    | val d => rw [q] at g; exact g.elim
    | ownd _ ks vs => rw [q] at g; exact g.elim
end
section
variable {X : Cx} {cls : Exc → Addr} {W : WX} {e a b c tg : Expr} {pos p p2 : Pos} {fa fb : EnvD → R D}
/-! ### list + list -/
def catD : D → D → Option (List D)
  | .lst xs, .lst ys => if small (xs.length + ys.length) = true then some (xs ++ ys) else none
  | _, _ => none
theorem repB_lst {K : PySem.W.Frag} {F H : Hp} {v : V} {ds : List D} (i : Same F H) (h : RepB K F H v (.lst ds)) : ∃ p xs, v = .ref p ∧ H p = some (.lst xs) ∧ xs.length ≤ sizeLine ∧ Reps K F xs ds := by
  rcases h with h | ⟨p, xs, es, h1, h2, h3, h4, h5⟩ | ⟨_, _, _, _, _, _, h, _⟩
  · cases h with | lst h1 h2 h3 => exact ⟨_, _, rfl, i _ _ h1, h2, h3⟩
  · cases h2; exact ⟨p, xs, h1, h3, h4, h5⟩
  · cases h
theorem repB_tup {K : PySem.W.Frag} {F H : Hp} {v : V} {ds : List D} (h : RepB K F H v (.tup ds)) : ∃ p xs, v = .ref p ∧ TupAt F p xs ∧ xs.length ≤ sizeLine ∧ Reps K F xs ds := by
  rcases h with h | ⟨_, _, _, _, h, _⟩ | ⟨_, _, _, _, _, _, h, _⟩
  · cases h with | tup h1 h2 h3 => exact ⟨_, _, rfl, h1, h2, h3⟩
  · cases h
  · cases h
theorem os_cat {K : PySem.W.Frag} : OpSem (pB K) (pB K) (pN K) rCat catD := fun S1 S2 F H x y d e z Q i p q hz k => by
  unfold catD at hz
  split at hz
  · rename_i xs ys
    by_cases hl : small (xs.length + ys.length) = true
    · rw [if_pos hl] at hz; cases hz
      obtain ⟨a, us, rfl, h1, h2, h3⟩ := repB_lst i p
      obtain ⟨b, ws, rfl, g1, g2, g3⟩ := repB_lst i q
      have hl' := small_ok hl
      rw [← h3.length, ← g3.length] at hl'
      exact ⟨a, b, us, ws, rfl, rfl, h1, g1, hl', fun p hp => k _ F _ (Ext.newH i hp) ⟨p, _, rfl, hp, i.free hp, upd_same, by simpa using hl', h3.append g3⟩⟩
    · rw [if_neg hl] at hz; cases hz
  · cases hz
def repD : D → D → Option (List D)
  | .lst xs, .int j => if 0 ≤ j ∧ j ≤ 1000 ∧ xs.length ≤ 1000 then some (List.replicate j.toNat xs).flatten else none
  | _, _ => none
theorem os_rep {K : PySem.W.Frag} : OpSem (pB K) (pV K) (pN K) rRep repD := fun S1 S2 F H x y d e z Q i p q hz k => by
  unfold repD at hz
  split at hz
  · rename_i xs j
    by_cases hj : 0 ≤ j ∧ j ≤ 1000 ∧ xs.length ≤ 1000
    · rw [if_pos hj] at hz; cases hz
      obtain ⟨a, us, rfl, h1, h2, h3⟩ := repB_lst i p
      cases rep_int q
      have l : us.length * j.toNat ≤ 1000 * 1000 := Nat.mul_le_mul (by rw [h3.length]; exact hj.2.2) (by omega)
      have l2 : us.length * j.toNat ≤ sizeLine := Nat.le_trans l (by rw [sizeLine_eq]; decide)
      refine ⟨a, j, us, rfl, rfl, h1, by omega, by omega, l2, fun p hp => k _ F _ (Ext.newH i hp) ⟨p, _, rfl, hp, i.free hp, upd_same, ?_, h3.rep _⟩⟩
      rw [List.length_flatten, List.map_replicate, List.sum_replicate_nat, Nat.mul_comm]; exact l2
    · rw [if_neg hj] at hz; cases hz
  · cases hz
/-! ### slices -/
def pO : PP (Option Int) (Option Int) := ⟨fun _ _ _ b c => b = c, fun _ h => h, fun _ h => h⟩
abbrev PDO (X : Cx) (cls : Exc → Addr) (W : WX) (e : Option Expr) (f : EnvD → R (Option Int)) : Prop := PO X e (tG X.K cls W pO f)
theorem po_imp {e : Option Expr} {t t' : TO} (h : PO X e t) (m : ∀ σ H Q, t' σ H Q → t σ H Q) : PO X e t' := ⟨fun pins s σ H Q I q => h.run pins s σ H Q I (m σ H Q q)⟩
def noO : EnvD → R (Option Int) := fun _ => .ok none
def asO : D → Option (Option Int)
  | .int i => some (some i)
  | _ => none
def someO (f : EnvD → R D) : EnvD → R (Option Int) := una asO f
theorem pdo_none : PDO X cls W none noO := po_imp po_none fun σ H Q ⟨H0, F, env, ea, g⟩ => g none F H (Ext.refl ea.fh) rfl
theorem pdo_some (h : PDE X cls W (pV X.K) e fa) : PDO X cls W (some e) (someO fa) := po_imp (po_some h) fun σ H Q ⟨H0, F, env, ea, g⟩ => ⟨H0, F, env, ea, (Go.bind g).imp fun x H1 ⟨F1, d, _, e1, p1, g1⟩ => by
  obtain ⟨z, hz, g2⟩ := Go.ofO g1
  cases d with
  | int i => cases hz; exact ⟨i, rep_int p1, g2 _ F1 H1 (Ext.refl e1.i) rfl⟩
  | _ => cases hz⟩
def cutD (xs : List D) (lo hi : Option Int) : List D := (xs.drop (HT.sIx xs.length 0 lo)).take (HT.sIx xs.length xs.length hi - HT.sIx xs.length 0 lo)
theorem cutD_whole {ds : List D} {lo hi : Option Int} (w : HT.sIx ds.length 0 lo = 0 ∧ HT.sIx ds.length ds.length hi = ds.length) : cutD ds lo hi = ds := by
  unfold cutD
  rw [w.1, w.2]
  simp
theorem reps_cut {K : PySem.W.Frag} {F : Hp} {vs : List V} {ds : List D} (h : Reps K F vs ds) (lo hi : Option Int) : Reps K F (cutV vs lo hi) (cutD ds lo hi) := by
  unfold cutV cutD
  rw [h.length]
  exact (h.drop _).take _
def cutF : D → Option Int → Option Int → Option D
  | .tup xs, lo, hi => some (.tup (cutD xs lo hi))
  | .lst xs, lo, hi => some (.lst (cutD xs lo hi))
  | _, _, _ => none
def sliceF (fa : EnvD → R D) (fl fh : EnvD → R (Option Int)) : EnvD → R D := fun env => (fa env).bind fun x => (fl env).bind fun lo => (fh env).bind fun hi => R.ofO (cutF x lo hi)
theorem sl_any : SlR X (fun x lo hi H Q => rSlN X.K x lo hi H Q ∨ rSlL X.K x lo hi H Q) := SlR.or sl_tupN sl_list
theorem pd_slice {lo hi : Option Expr} {fl fh : EnvD → R (Option Int)} (ha : PDE X cls W (pB X.K) a fa) (hl : PDO X cls W lo fl) (hh : PDO X cls W hi fh) : PDE X cls W (pV X.K) (.Subscript a (.Slice lo hi none p2) pos) (sliceF fa fl fh) :=
  pe_imp (pe_slice sl_any ha hl hh) fun σ H Q ⟨H0, F, env, ea, g⟩ => ⟨H0, F, env, ea, (Go.bind g).imp fun x H1 ⟨F1, d, _, e1, p1, g1⟩ => ⟨H0, F1, env, ea.mono e1, (Go.bind (P1 := pO) g1).imp fun l H2 ⟨F2, lo', _, e2, q2, g2⟩ => ⟨H0, F2, env, (ea.mono e1).mono e2, (Go.bind (P1 := pO) g2).imp fun u H3 ⟨F3, hi', _, e3, q3, g3⟩ => by
    cases q2; cases q3
    obtain ⟨z, hz, g4⟩ := Go.ofO g3
    have p3 := RepB.mono p1 (e2.f.trans e3.f) (e2.h.trans e3.h)
    unfold cutF at hz
    split at hz
    · cases hz
      obtain ⟨q, xs, rfl, h1, h2, h3⟩ := repB_tup p3
      refine .inl ⟨q, xs, rfl, (h1.mono e3.i).sq, fun w => ?_, fun _ t ht o hd => ?_⟩
      · rw [cutD_whole (by rw [← h3.length]; exact w)] at g4
        exact g4 _ F3 H3 (Ext.refl e3.i) (.tup h1 h2 h3)
      · exact g4 _ (upd F3 t _) _ (Ext.new e3.i ht) (.tup ⟨o, hd, upd_same⟩ (Nat.le_trans (cutV_length xs l u) h2) ((reps_cut h3 l u).mono (Same.updN (e3.i.free ht))))
    · cases hz
      obtain ⟨q, xs, rfl, h1, h2, h3⟩ := repB_lst e3.i p3
      exact .inr ⟨q, xs, rfl, SqL.of h1, fun t ht => g4 _ (upd F3 t _) _ (Ext.new e3.i ht) (.lst upd_same (Nat.le_trans (cutV_length xs l u) h2) ((reps_cut h3 l u).mono (Same.updN (e3.i.free ht))))⟩
    · cases hz⟩⟩⟩
/-! ### built-ins -/
theorem repBs1 {K : PySem.W.Frag} {F H : Hp} {vs : List V} {d : D} (h : RepBs K F H vs [d]) : ∃ v, vs = [v] ∧ RepB K F H v d := by
  cases h with | cons a b => cases b; exact ⟨_, rfl, a⟩
theorem repBs2 {K : PySem.W.Frag} {F H : Hp} {vs : List V} {d e : D} (h : RepBs K F H vs [d, e]) : ∃ v w, vs = [v, w] ∧ RepB K F H v d ∧ RepB K F H w e := by
  cases h with | cons a b => cases b with | cons c d => cases d; exact ⟨_, _, rfl, a, c⟩
def lenD : List D → Option D
  | [.lst xs] => some (.int xs.length)
  | [.tup xs] => some (.int xs.length)
  | [.scr xs] => some (.int xs.length)
  | _ => none
theorem cs_len {K : PySem.W.Frag} : CallSem (pV K) K (fun xs H Q => ∃ p ys, xs = [.ref p] ∧ (SqL K H p ys ∨ SqT K H p ys) ∧ Q (.int ys.length) H) lenD := fun F H xs ds z Q i h hz k => by
  unfold lenD at hz
  split at hz
  · cases hz
    obtain ⟨v, rfl, hv⟩ := repBs1 h
    obtain ⟨p, us, rfl, h1, h2, h3⟩ := repB_lst i hv
    exact ⟨p, us, rfl, .inl (SqL.of h1), by rw [h3.length]; exact k _ F H (Ext.refl i) (.int _)⟩
  · cases hz
    obtain ⟨v, rfl, hv⟩ := repBs1 h
    obtain ⟨p, us, rfl, h1, h2, h3⟩ := repB_tup hv
    exact ⟨p, us, rfl, .inr (h1.mono i).sq, by rw [h3.length]; exact k _ F H (Ext.refl i) (.int _)⟩
  · cases hz
    obtain ⟨v, rfl, hv⟩ := repBs1 h
    rcases hv with hv | ⟨_, _, _, _, q, _⟩ | ⟨_, _, _, _, _, _, q, _⟩
    · cases hv with
      | scr h1 h2 => exact ⟨_, _, rfl, .inl (i.seq h1), by rw [List.length_map]; exact k _ F H (Ext.refl i) (.int _)⟩
    · cases q
    · cases q
  · cases hz
def asBls : List D → Option (List Bool)
  | [] => some []
  | .bl b :: r => (asBls r).map (b :: ·)
  | _ => none
theorem asBls_eq : ∀ {ds : List D} {bs : List Bool}, asBls ds = some bs → ds = bs.map D.bl
  | [], _, h => by cases h; rfl
  | .bl b :: r, _, h => by
    simp only [asBls] at h
    cases q : asBls r with
    | none => rw [q] at h; cases h
    | some ms => rw [q] at h; cases h; rw [asBls_eq q]; rfl
  | .non :: _, _, h => by cases h
  | .int _ :: _, _, h => by cases h
  | .str _ :: _, _, h => by cases h
  | .tup _ :: _, _, h => by cases h
  | .itm _ :: _, _, h => by cases h
  | .lst _ :: _, _, h => by cases h
  | .scr _ :: _, _, h => by cases h
  | .dic _ _ :: _, _, h => by cases h
  | .raw _ :: _, _, h => by cases h
def allD : List D → Option D
  | [.lst ds] => (asBls ds).map fun bs => .bl (bs.all id)
  | _ => none
def anyD : List D → Option D
  | [.lst ds] => (asBls ds).map fun bs => .bl (bs.any id)
  | _ => none
theorem cs_all {K : PySem.W.Frag} : CallSem (pV K) K (rAll K) allD := fun F H xs ds z Q i h hz k => by
  unfold allD at hz
  split at hz
  · rename_i es
    cases w : asBls es with
    | none => rw [w] at hz; cases hz
    | some bs =>
      rw [w] at hz; cases hz
      obtain ⟨v, rfl, hv⟩ := repBs1 h
      obtain ⟨p, us, rfl, h1, h2, h3⟩ := repB_lst i hv
      rw [asBls_eq w] at h3
      rw [h3.of_bls] at h1
      exact ⟨p, bs, rfl, SqL.of h1, k _ F H (Ext.refl i) (.bl _)⟩
  · cases hz
theorem cs_any {K : PySem.W.Frag} : CallSem (pV K) K (rAny K) anyD := fun F H xs ds z Q i h hz k => by
  unfold anyD at hz
  split at hz
  · rename_i es
    cases w : asBls es with
    | none => rw [w] at hz; cases hz
    | some bs =>
      rw [w] at hz; cases hz
      obtain ⟨v, rfl, hv⟩ := repBs1 h
      obtain ⟨p, us, rfl, h1, h2, h3⟩ := repB_lst i hv
      rw [asBls_eq w] at h3
      rw [h3.of_bls] at h1
      exact ⟨p, bs, rfl, SqL.of h1, k _ F H (Ext.refl i) (.bl _)⟩
  · cases hz
def max2D : List D → Option D
  | [.int i, .int j] => some (.int (if j > i then j else i))
  | _ => none
def min2D : List D → Option D
  | [.int i, .int j] => some (.int (if j < i then j else i))
  | _ => none
theorem cs_max2 {K : PySem.W.Frag} : CallSem (pV K) K (fun xs H Q => ∃ i j, xs = [.int i, .int j] ∧ Q (.int (if j > i then j else i)) H) max2D := fun F H xs ds z Q i h hz k => by
  unfold max2D at hz
  split at hz
  · cases hz; rw [reps_bs2 h]; exact ⟨_, _, rfl, k _ F H (Ext.refl i) (.int _)⟩
  · cases hz
theorem cs_min2 {K : PySem.W.Frag} : CallSem (pV K) K (fun xs H Q => ∃ i j, xs = [.int i, .int j] ∧ Q (.int (if j < i then j else i)) H) min2D := fun F H xs ds z Q i h hz k => by
  unfold min2D at hz
  split at hz
  · cases hz; rw [reps_bs2 h]; exact ⟨_, _, rfl, k _ F H (Ext.refl i) (.int _)⟩
  · cases hz
def absD : List D → Option D
  | [.int i] => some (.int (if i < 0 then -i else i))
  | _ => none
theorem cs_abs {K : PySem.W.Frag} : CallSem (pV K) K (fun xs H Q => ∃ i, xs = [.int i] ∧ Q (.int (if i < 0 then -i else i)) H) absD := fun F H xs ds z Q i h hz k => by
  unfold absD at hz
  split at hz
  · cases hz; rw [reps_bs1 h]; exact ⟨_, rfl, k _ F H (Ext.refl i) (.int _)⟩
  · cases hz
def tupleD : List D → Option D
  | [.lst xs] => some (.tup xs)
  | [.tup xs] => some (.tup xs)
  | _ => none
theorem cs_tuple {K : PySem.W.Frag} : CallSem (pV K) K (fun xs H Q => ∃ p ys, xs = [.ref p] ∧ ((SqL K H p ys ∧ ∀ l, H l = none → ∀ o : Obj, o.dict = none → Q (.ref l) (upd H l (.frz o (.tup ys)))) ∨ (SqT K H p ys ∧ Q (.ref p) H))) tupleD := fun F H xs ds z Q i h hz k => by
  unfold tupleD at hz
  split at hz
  · cases hz
    obtain ⟨v, rfl, hv⟩ := repBs1 h
    obtain ⟨p, us, rfl, h1, h2, h3⟩ := repB_lst i hv
    exact ⟨p, us, rfl, .inl ⟨SqL.of h1, fun t ht o hd => k _ (upd F t _) _ (Ext.new i ht) (.tup ⟨o, hd, upd_same⟩ h2 (h3.mono (Same.updN (i.free ht))))⟩⟩
  · cases hz
    obtain ⟨v, rfl, hv⟩ := repBs1 h
    obtain ⟨p, us, rfl, h1, h2, h3⟩ := repB_tup hv
    exact ⟨p, us, rfl, .inr ⟨(h1.mono i).sq, k _ F H (Ext.refl i) (.tup h1 h2 h3)⟩⟩
  · cases hz
def listD : List D → Option (List D)
  | [.lst xs] => some xs
  | [.tup xs] => some xs
  | _ => none
theorem cs_list {K : PySem.W.Frag} : CallSem (pN K) K (fun xs H Q => ∃ p ys, xs = [.ref p] ∧ (SqL K H p ys ∨ SqT K H p ys) ∧ ∀ l, H l = none → Q (.ref l) (upd H l (.lst ys))) listD := fun F H xs ds z Q i h hz k => by
  unfold listD at hz
  split at hz
  · cases hz
    obtain ⟨v, rfl, hv⟩ := repBs1 h
    obtain ⟨p, us, rfl, h1, h2, h3⟩ := repB_lst i hv
    exact ⟨p, us, rfl, .inl (SqL.of h1), fun t ht => k _ F _ (Ext.newH i ht) ⟨t, _, rfl, ht, i.free ht, upd_same, h2, h3⟩⟩
  · cases hz
    obtain ⟨v, rfl, hv⟩ := repBs1 h
    obtain ⟨p, us, rfl, h1, h2, h3⟩ := repB_tup hv
    exact ⟨p, us, rfl, .inr (h1.mono i).sq, fun t ht => k _ F _ (Ext.newH i ht) ⟨t, _, rfl, ht, i.free ht, upd_same, h2, h3⟩⟩
  · cases hz
/-- list(range(..)), tuple(range(..)) -/
def rngV (n : Int) : EnvD → R (List D) := fun _ => .bad
theorem rgV_eq (lo hi : Int) : rgV lo hi = (List.range (hi - lo).toNat).map fun i => V.int (lo + (i : Nat)) := rfl
theorem reps_rng {K : PySem.W.Frag} {F : Hp} (lo hi : Int) : Reps K F (rgV lo hi) (rng lo hi) := by
  have e1 : rgV lo hi = ((List.range (hi - lo).toNat).map fun i => lo + ((i : Nat) : Int)).map V.int := by unfold rgV; rw [List.map_map]; rfl
  have e2 : rng lo hi = ((List.range (hi - lo).toNat).map fun i => lo + ((i : Nat) : Int)).map D.int := by unfold rng; rw [List.map_map]; rfl
  rw [e1, e2]; exact .ints
def rngL1 (f : EnvD → R D) : EnvD → R (List D) := una (fun d => asRng1 [d]) f
theorem rng_ok2 {lo hi : Int} (h : rngOk lo hi = true) : RgOk lo hi := by
  have := of_decide_eq_true h
  refine ⟨by omega, by omega, by omega, by omega, by omega⟩
theorem pd_listRg1 (hc : X.calm = true) (hg : Gl X "list") (hm : X.mg "list" = none) (hg2 : Gl X "range") (hm2 : X.mg "range" = none) (ha : PDE X cls W (pV X.K) a fa)
    (na : starEach [a] X.env = (false, eval a X.env) :: starEach [] X.env := by rfl) (na2 : starEach [.Call (.Name "range" p2) [a] [] pos] X.env = (false, eval (.Call (.Name "range" p2) [a] [] pos) X.env) :: starEach [] X.env := by rfl) {p3 pos3 : Pos} :
    PDE X cls W (pN X.K) (.Call (.Name "list" p3) [.Call (.Name "range" p2) [a] [] pos] [] pos3) (rngL1 fa) :=
  pe_imp (pe_listRg hc hg hm (prg_1 hg2 hm2 ha na) na2) fun σ H Q ⟨H0, F, env, ea, g⟩ => ⟨H0, F, env, ea, (Go.bind g).imp fun x H1 ⟨F1, d, _, e1, p1, g1⟩ => by
    obtain ⟨z, hz, g2⟩ := Go.ofO g1
    cases d with
    | int n =>
      have hz : (if rngOk 0 n = true then some (rng 0 n) else none) = some z := hz
      by_cases hk : rngOk 0 n = true
      · rw [if_pos hk] at hz; cases hz
        exact ⟨n, rep_int p1, rng_ok2 hk, fun q hq => g2 _ F1 _ (Ext.newH e1.i hq) ⟨q, _, rfl, hq, e1.i.free hq, upd_same, by rw [rgV_length]; exact rng_le hk, reps_rng 0 n⟩⟩
      · rw [if_neg hk] at hz; cases hz
    | _ => cases hz⟩
theorem pd_tupRg1 (hc : X.calm = true) (hg : Gl X "tuple") (hm : X.mg "tuple" = none) (hg2 : Gl X "range") (hm2 : X.mg "range" = none) (ha : PDE X cls W (pV X.K) a fa)
    (na : starEach [a] X.env = (false, eval a X.env) :: starEach [] X.env := by rfl) (na2 : starEach [.Call (.Name "range" p2) [a] [] pos] X.env = (false, eval (.Call (.Name "range" p2) [a] [] pos) X.env) :: starEach [] X.env := by rfl) {p3 pos3 : Pos} :
    PDE X cls W (pV X.K) (.Call (.Name "tuple" p3) [.Call (.Name "range" p2) [a] [] pos] [] pos3) (fun env => (rngL1 fa env).map D.tup) :=
  pe_imp (pe_tupRgN hc hg hm (prg_1 hg2 hm2 ha na) na2) fun σ H Q ⟨H0, F, env, ea, g⟩ => ⟨H0, F, env, ea, by
    have g : Go cls (pV X.K) W σ F H (((fa env).bind fun d => R.ofO (asRng1 [d])).map D.tup) Q := g
    have g' : Go cls (pV X.K) W σ F H ((fa env).bind fun d => (R.ofO (asRng1 [d])).map D.tup) Q := by
      cases q : fa env with
      | ok d => rw [q] at g; exact g
      | err c => rw [q] at g; exact g
      | bad => rw [q] at g; exact g
    refine (Go.bind g').imp fun x H1 ⟨F1, d, _, e1, p1, g1⟩ => ?_
    cases d with
    | int n =>
      have g1 : Go cls (pV X.K) W σ F1 H1 ((R.ofO (if rngOk 0 n = true then some (rng 0 n) else none)).map D.tup) Q := g1
      by_cases hk : rngOk 0 n = true
      · rw [if_pos hk] at g1
        exact ⟨n, rep_int p1, rng_ok2 hk, fun q hq o hd => g1 _ (upd F1 q _) _ (Ext.new e1.i hq) (.tup ⟨o, hd, upd_same⟩ (by rw [rgV_length]; exact rng_le hk) (reps_rng 0 n))⟩
      · rw [if_neg hk] at g1; exact g1.elim
    | _ => exact g1.elim⟩
/-! ### isinstance -/
def tyN : D → Option String
  | .non => some "NoneType"
  | .bl _ => some "bool"
  | .int _ => some "int"
  | .str _ => some "str"
  | .tup _ => some "tuple"
  | .lst _ => some "list"
  | _ => none
theorem repB_ty {K : PySem.W.Frag} {F H : Hp} {v : V} {d : D} {t : String} (i : Same F H) (h : RepB K F H v d) (q : tyN d = some t) : TyX K H v (.type t) := by
  rcases h with h | ⟨p, xs, ds, rfl, rfl, h1, _⟩ | ⟨p, u, t, ks, vs, rfl, rfl, _⟩
  · cases h with
    | non => cases q; exact .base .non
    | bl b => cases q; exact .base (.bl b)
    | int j => cases q; exact .base (.int j)
    | str x => cases q; exact .base (.str x)
    | tup h1 _ _ => obtain ⟨o, _, hk⟩ := h1; cases q; exact .fTuple (i _ _ hk)
    | lst h1 _ _ => cases q; exact .base (.lst (i _ _ h1))
    | _ => cases q
  · cases q; exact .base (.lst h1)
  · cases q
/-- g says what isinstance(.., n) is -/
def IsiOk (n : String) (g : D → Option Bool) : Prop := ∀ d b, g d = some b → ∃ t, tyN d = some t ∧ kitB t n = some b
theorem pd_isi {n : String} {x : Str} {g : D → Option Bool} (hk : IsiOk n g) (hg : Gl X "isinstance") (hm : X.mg "isinstance" = none) (hx : Gl X x) (hxm : X.mg x = none) (hxv : bootBuiltins x = some (.type n)) (ha : PDE X cls W (pB X.K) a fa) {p3 : Pos}
    (hs : starEach (a :: [.Name x p3]) X.env = (false, eval a X.env) :: starEach [.Name x p3] X.env := by rfl) (hs2 : starEach [.Name x p3] X.env = (false, eval (.Name x p3) X.env) :: starEach [] X.env := by rfl) (hpl : (backTo pos (starEach [.Name x p3] X.env)).any (·.1) = false := by rfl)
    (hn : x ≠ "__name__" := by decide) (hd : (x == ("__debug__" : Str)) = false := by decide) :
    PDE X cls W (pV X.K) (.Call (.Name "isinstance" p) [a, .Name x p3] [] pos) (una (fun d => toD (g d)) fa) :=
  pe_imp (pe_callB call_isi hg hm (by decide +kernel) (pa_cons ha (pa_cons (pe_bltn (v := .ty n) hx hxm hxv rfl hn hd) pa_nil hs2) hs) (by decide) (by decide) hs hpl) fun σ H Q ⟨H0, F, env, ea, g1⟩ => ⟨H0, F, env, ea, (Go.bind g1).imp fun v H1 ⟨F1, d, _, e1, p1, g2⟩ => by
    obtain ⟨z, hz, g3⟩ := Go.ofO g2
    cases w : g d with
    | none => simp [toD, w] at hz
    | some b =>
      simp [toD, w] at hz
      subst hz
      obtain ⟨t, h1, h2⟩ := hk d b w
      exact ⟨v, .ty n, .type t, .type n, b, rfl, .ty n, repB_ty e1.i p1 h1, kit_ty h2, g3 _ F1 H1 (Ext.refl e1.i) (.bl b)⟩⟩
def isIntD : D → Option Bool
  | .int _ => some true
  | .bl _ => some true
  | .non => some false
  | .str _ => some false
  | .tup _ => some false
  | .lst _ => some false
  | _ => none
def isBoolD : D → Option Bool
  | .bl _ => some true
  | .int _ => some false
  | .non => some false
  | .str _ => some false
  | .tup _ => some false
  | .lst _ => some false
  | _ => none
def isTupD : D → Option Bool
  | .tup _ => some true
  | .bl _ => some false
  | .int _ => some false
  | .non => some false
  | .str _ => some false
  | .lst _ => some false
  | _ => none
def isLstD : D → Option Bool
  | .lst _ => some true
  | .tup _ => some false
  | .bl _ => some false
  | .int _ => some false
  | .non => some false
  | .str _ => some false
  | _ => none
def isStrD : D → Option Bool
  | .str _ => some true
  | .lst _ => some false
  | .tup _ => some false
  | .bl _ => some false
  | .int _ => some false
  | .non => some false
  | _ => none
theorem isi_int : IsiOk "int" isIntD := fun d b h => by cases d <;> first | (cases h; exact ⟨_, rfl, by decide +kernel⟩) | cases h
theorem isi_bool : IsiOk "bool" isBoolD := fun d b h => by cases d <;> first | (cases h; exact ⟨_, rfl, by decide +kernel⟩) | cases h
theorem isi_tup : IsiOk "tuple" isTupD := fun d b h => by cases d <;> first | (cases h; exact ⟨_, rfl, by decide +kernel⟩) | cases h
theorem isi_lst : IsiOk "list" isLstD := fun d b h => by cases d <;> first | (cases h; exact ⟨_, rfl, by decide +kernel⟩) | cases h
theorem isi_str : IsiOk "str" isStrD := fun d b h => by cases d <;> first | (cases h; exact ⟨_, rfl, by decide +kernel⟩) | cases h
end
end PD

set_option maxHeartbeats 4000000
namespace PD
open PySem PySem.Spec PyProof.Rows L2
open PySem.W (EachIs AllAlike Sortable dataKind sortingHeap dataLe alike TotalLe sameRank sort_unique)
/-! ### insertion sort: what the machine's sort gives -/
def insL {α : Type} (le : α → α → Bool) (x : α) : List α → List α
  | [] => [x]
  | y :: ys => if le x y = true then x :: y :: ys else y :: insL le x ys
def isort {α : Type} (le : α → α → Bool) : List α → List α
  | [] => []
  | x :: xs => insL le x (isort le xs)
section
variable {α : Type} {le : α → α → Bool}
theorem mem_insL {x z : α} : ∀ {l : List α}, z ∈ insL le x l ↔ z = x ∨ z ∈ l
  | [] => by simp [insL]
  | y :: ys => by
    unfold insL
    split
    · simp
    · simp only [List.mem_cons, mem_insL (l := ys)]
      constructor
      · rintro (h | h | h) <;> simp [h]
      · rintro (h | h | h) <;> simp [h]
theorem insL_sorted (T : TotalLe le) {x : α} : ∀ {l : List α}, l.Pairwise (fun a b => le a b = true) → (insL le x l).Pairwise (fun a b => le a b = true)
  | [], _ => by simp [insL]
  | y :: ys, h => by
    obtain ⟨h1, h2⟩ := List.pairwise_cons.mp h
    unfold insL
    split
    · rename_i q
      exact List.pairwise_cons.mpr ⟨fun z hz => by
        rcases List.mem_cons.mp hz with e | hz
        · rw [e]; exact q
        · exact T.trans _ _ _ q (h1 z hz), h⟩
    · rename_i q
      refine List.pairwise_cons.mpr ⟨fun z hz => ?_, insL_sorted T h2⟩
      rcases mem_insL.mp hz with e | hz
      · rw [e]; exact (T.total y x).resolve_right q
      · exact h1 z hz
theorem isort_sorted (T : TotalLe le) : ∀ l : List α, (isort le l).Pairwise (fun a b => le a b = true)
  | [] => List.Pairwise.nil
  | x :: xs => insL_sorted T (isort_sorted T xs)
theorem insL_filter (T : TotalLe le) {x c : α} : ∀ {l : List α}, (insL le x l).filter (sameRank le c) = (x :: l).filter (sameRank le c)
  | [] => rfl
  | y :: ys => by
    unfold insL
    split
    · rfl
    · rename_i q
      rw [List.filter_cons, insL_filter T (l := ys)]
      by_cases hx : sameRank le c x = true
      · by_cases hy : sameRank le c y = true
        · exfalso
          unfold sameRank at hx hy
          exact q (T.trans _ _ _ (Bool.and_eq_true_iff.mp hx).2 (Bool.and_eq_true_iff.mp hy).1)
        · simp [List.filter_cons, hx, hy]
      · simp [List.filter_cons, hx]
theorem isort_filter (T : TotalLe le) (c : α) : ∀ l : List α, (isort le l).filter (sameRank le c) = l.filter (sameRank le c)
  | [] => rfl
  | x :: xs => by
    show (insL le x (isort le xs)).filter _ = _
    rw [insL_filter T, List.filter_cons, List.filter_cons, isort_filter T c xs]
theorem isort_eq (T : TotalLe le) (l : List α) : isort le l = l.mergeSort le := sort_unique T (isort_sorted T l) fun c => isort_filter T c l
theorem isort_perm (l : List α) : (isort le l).Perm l := by
  induction l with
  | nil => exact .refl _
  | cons x xs ih =>
    have h : ∀ l : List α, (insL le x l).Perm (x :: l) := by
      intro l
      induction l with
      | nil => exact .refl _
      | cons y ys ih2 =>
        unfold insL
        split
        · exact .refl _
        · exact (List.Perm.cons y ih2).trans (List.Perm.swap x y ys)
    exact (h _).trans (List.Perm.cons x ih)
end
def leD : D → D → Bool := dataLe false D.toPy
theorem leD_total : TotalLe leD := by unfold leD; rw [PySem.W.dataLe]; exact PySem.W.sortLe_total _ _ _
/-! ### which lists are sorted here -/
def isI : D → Bool
  | .int _ => true
  | _ => false
def isTI : D → Bool
  | .tup r => r.all isI
  | _ => false
def isT1 : D → Bool
  | .tup (.int _ :: r) => r.all isI
  | .itm (.int _ :: r) => r.all isI
  | _ => false
def isT2 : D → Bool
  | .tup [.int _, b] => isTI b
  | _ => false
def srtOk (ds : List D) : Bool := ds.all isI || ds.all isT1 || ds.all isT2
theorem toPys_map : ∀ ds : List D, toPys ds = ds.map D.toPy
  | [] => by simp [toPys]
  | d :: ds => by simp [toPys, toPys_map ds]
theorem isI_eq {d : D} (h : isI d = true) : ∃ i, d = .int i := by cases d <;> first | exact ⟨_, rfl⟩ | cases h
theorem allI_eq : ∀ {ds : List D}, ds.all isI = true → ∃ ns : List Int, ds = ns.map D.int
  | [], _ => ⟨[], rfl⟩
  | d :: ds, h => by
    simp only [List.all_cons, Bool.and_eq_true] at h
    obtain ⟨i, rfl⟩ := isI_eq h.1
    obtain ⟨ns, rfl⟩ := allI_eq h.2
    exact ⟨i :: ns, rfl⟩
theorem toPys_ints (ns : List Int) : toPys (ns.map D.int) = ns.map PyData.int := by rw [toPys_map, List.map_map]; congr 1
theorem isTI_eq {d : D} (h : isTI d = true) : ∃ ns : List Int, d = .tup (ns.map D.int) := by
  cases d with
  | tup r => obtain ⟨ns, rfl⟩ := allI_eq h; exact ⟨ns, rfl⟩
  | _ => cases h
theorem isT1_eq {d : D} (h : isT1 d = true) : ∃ (n : Int) (ns : List Int), d.toPy = .tuple (.int n :: ns.map PyData.int) := by
  unfold isT1 at h
  split at h
  · rename_i i r
    obtain ⟨ns, rfl⟩ := allI_eq h
    exact ⟨i, ns, by simp only [D.toPy, toPys, toPys_ints]⟩
  · rename_i i r
    obtain ⟨ns, rfl⟩ := allI_eq h
    exact ⟨i, ns, by simp only [D.toPy, toPys, toPys_ints]⟩
  · cases h
theorem isT2_eq {d : D} (h : isT2 d = true) : ∃ (n : Int) (ns : List Int), d = .tup [.int n, .tup (ns.map D.int)] := by
  unfold isT2 at h
  split at h
  · rename_i i b
    obtain ⟨ns, rfl⟩ := isTI_eq h
    exact ⟨i, ns, rfl⟩
  · cases h
theorem lay_ints : ∀ ns : List Int, PyData.canLayAll0 (ns.map PyData.int) = true
  | [] => by simp [PyData.canLayAll0]
  | n :: ns => by simp [PyData.canLayAll0, PyData.canLay0, lay_ints ns]
theorem dep_ints (ns : List Int) : PyData.depthAll (ns.map PyData.int) = 0 := PySem.W.depth_ints ns
structure SrtP (ds : List D) : Prop where
  al : AllAlike (ds.map D.toPy)
  so : Sortable (ds.map D.toPy)
  dp : ∀ d ∈ ds, d.toPy.depth ≤ 2
  ly : ∀ d ∈ ds, d.toPy.canLay0 = true
theorem srt_ok {ds : List D} (h : srtOk ds = true) : SrtP ds := by
  unfold srtOk at h
  simp only [Bool.or_eq_true] at h
  rcases h with (h | h) | h
  · have q : ∀ d ∈ ds, ∃ i, d = .int i := fun d hd => isI_eq (List.all_eq_true.mp h d hd)
    refine ⟨fun d hd d' hd' => ?_, .inr fun d hd => ?_, fun d hd => ?_, fun d hd => ?_⟩
    · obtain ⟨b, hb, rfl⟩ := List.mem_map.mp hd
      obtain ⟨c, hc, rfl⟩ := List.mem_map.mp hd'
      obtain ⟨i, rfl⟩ := q b hb
      obtain ⟨j, rfl⟩ := q c hc
      simp [D.toPy, alike]
    · obtain ⟨b, hb, rfl⟩ := List.mem_map.mp hd
      obtain ⟨i, rfl⟩ := q b hb
      simp [D.toPy]
    · obtain ⟨i, rfl⟩ := q d hd
      simp [D.toPy, PyData.depth]
    · obtain ⟨i, rfl⟩ := q d hd
      simp [D.toPy, PyData.canLay0]
  · have q : ∀ d ∈ ds, ∃ (n : Int) (ns : List Int), d.toPy = .tuple (.int n :: ns.map PyData.int) := fun d hd => isT1_eq (List.all_eq_true.mp h d hd)
    refine ⟨fun d hd d' hd' => ?_, .inl fun d hd => ?_, fun d hd => ?_, fun d hd => ?_⟩
    · obtain ⟨b, hb, rfl⟩ := List.mem_map.mp hd
      obtain ⟨c, hc, rfl⟩ := List.mem_map.mp hd'
      obtain ⟨i, ns, e1⟩ := q b hb
      obtain ⟨j, ms, e2⟩ := q c hc
      rw [e1, e2]
      simp only [alike]
      exact PySem.W.alike_ints (i :: ns) (j :: ms)
    · obtain ⟨b, hb, rfl⟩ := List.mem_map.mp hd
      obtain ⟨i, ns, e1⟩ := q b hb
      rw [e1]
      exact ⟨_, _, rfl⟩
    · obtain ⟨i, ns, e1⟩ := q d hd
      rw [e1]
      have := dep_ints (i :: ns)
      rw [List.map_cons] at this
      simp only [PyData.depth, this]
      omega
    · obtain ⟨i, ns, e1⟩ := q d hd
      rw [e1]
      have := lay_ints (i :: ns)
      rw [List.map_cons] at this
      simp only [PyData.canLay0, this]
  · have q : ∀ d ∈ ds, ∃ (n : Int) (ns : List Int), d = .tup [.int n, .tup (ns.map D.int)] := fun d hd => isT2_eq (List.all_eq_true.mp h d hd)
    refine ⟨fun d hd d' hd' => ?_, .inl fun d hd => ?_, fun d hd => ?_, fun d hd => ?_⟩
    · obtain ⟨b, hb, rfl⟩ := List.mem_map.mp hd
      obtain ⟨c, hc, rfl⟩ := List.mem_map.mp hd'
      obtain ⟨i, ns, rfl⟩ := q b hb
      obtain ⟨j, ms, rfl⟩ := q c hc
      simp [D.toPy, toPys, toPys_ints, alike, PySem.W.alikeAll, PySem.W.alike_ints]
    · obtain ⟨b, hb, rfl⟩ := List.mem_map.mp hd
      obtain ⟨i, ns, rfl⟩ := q b hb
      simp only [D.toPy, toPys]
      exact ⟨_, _, rfl⟩
    · obtain ⟨i, ns, rfl⟩ := q d hd
      simp [D.toPy, toPys, toPys_ints, PyData.depth, PyData.depthAll, dep_ints]
    · obtain ⟨i, ns, rfl⟩ := q d hd
      simp [D.toPy, toPys, toPys_ints, PyData.canLay0, PyData.canLayAll0, lay_ints]
/-! ### sorted over what collects -/
theorem collect_tup {prog : Program} {w : World} {A : Around} {E : Value → Shared → Prop} {s : Shared} {l : Addr} {vs : List Value} {Q : List Value → Shared → Prop} (hl : s.heap.IsTuple l vs.toArray)
    (h : Q vs { s with heap := (s.heap.push (seqObj "list" #[] 0)).update s.heap.objs.size (Obj.mapSeq (· ++ vs.toArray)) }) (hsz : vs.length ≤ sizeLine) :
    wpAny (model prog w) A (collect (.ref l)) Q E s := by
  obtain ⟨o, ho, hc, n, hd⟩ := id hl
  unfold collect
  refine wpAny_bind (wpAny_runValue (codeAny_builtin entry_proto_collect' ?_))
  show wpAny _ _ (do again (.builtin "list.__iadd__" ⟨[← newList [], .ref l], []⟩)) _ _ s
  refine wpAny_bind (wpAny_newList (wpAny_pure ⟨Code.quiet_builtin _ (by decide +kernel), codeAny_builtin entry_list_iadd' ?_⟩))
  show wpAny _ _ (Builtin.List.listExtendWith (.ref s.heap.objs.size) (.ref l) (.ref s.heap.objs.size)) _ _ { s with heap := s.heap.push (seqObj "list" #[] 0) }
  unfold Builtin.List.listExtendWith
  have ho' : (s.heap.push (seqObj "list" #[] 0)).get? l = some o := Heap.get?_push_of_some _ ho
  refine wpAny_bind (wpAny_typeOf (T := "tuple") ⟨o, ho', hc⟩ ?_)
  have ht : (Value.type "tuple" == Value.type "tuple") = true := by rfl
  rw [if_pos (by rw [ht]; simp)]
  refine wpAny_bind (listItems_at ho' hd ?_)
  refine wpAny_bind (listItems_at (xs := #[]) (n := 0) (Heap.get?_push_size _ rfl) rfl ?_)
  rw [if_neg (by simp)]
  refine wpAny_bind (listUpdate_at (xs := #[]) (n := 0) (Heap.get?_push_size _ rfl) rfl ?_ (Nat.zero_le _) (by show (#[] ++ vs.toArray).size ≤ sizeLine + 1; simp only [Array.size_append, List.size_toArray, List.length_nil]; omega))
  refine wpAny_pure ?_
  show wpAny (model prog w) A (do
      let o ← load s.heap.objs.size
      match o.data with
      | .seq xs _ => pure xs.toList
      | _ => unsupported "internal:collect") Q E { s with heap := (s.heap.push (seqObj "list" #[] 0)).update s.heap.objs.size (Obj.mapSeq (· ++ vs.toArray)) }
  refine wpAny_bind (wpAny_load (get?_update_seq (Heap.get?_push_size _ rfl) _) ?_)
  show wpAny _ _ (pure ((#[] : Array Value) ++ vs.toArray).toList) Q E _
  rw [show ((#[] : Array Value) ++ vs.toArray).toList = vs by simp]
  exact wpAny_pure h
theorem keepL {h : Heap} {f : Array Value → Array Value} : ∀ b o, h.get? b = some o → ((h.push (seqObj "list" #[] 0)).update h.objs.size (Obj.mapSeq f)).get? b = some o := fun b o e => by
  rw [Heap.get?_update_ne _ _ _ _ (Nat.ne_of_lt (Heap.lt_size e))]
  exact Heap.get?_push_of_some _ e
theorem sorted_gen {prog : Program} {w : World} {A : Around} {E : Value → Shared → Prop} {s : Shared} {l : Addr} {Q : Value → Shared → Prop} {bs : List D} {R : Value → D → Prop} (P : SrtP bs) (hL : bs.length ≤ sizeLine) (hu : A.units + 8 < cLine)
    (hcol : ∀ (Q' : List Value → Shared → Prop) (E' : Value → Shared → Prop), (∀ vs h' tk, (∀ b o, s.heap.get? b = some o → h'.get? b = some o) → EachIs R vs bs → EachIs (fun v b => ∃ as, Reads h' v b.toPy as) vs bs → Q' vs { s with heap := h', toks := tk }) →
      wpAny (model prog w) A.in1 (collect (.ref l)) Q' E' s)
    (h : ∀ (out : List Value) (h1 h' : Heap) (tk : Nat) (d : Addr) (n : Nat), out.length = bs.length → EachIs R out (isort leD bs) → (∀ b o, s.heap.get? b = some o → h1.get? b = some o) → (∀ b o, h1.get? b = some o → h'.get? b = some o) → h1.objs.size ≤ d → h'.get? d = some (seqObj "list" (List.toArray out) n) → Q (.ref d) { s with heap := h', toks := tk }) :
    wpAny (model prog w) A (call (.builtin "sorted") [.ref l]) Q E s := by
  refine Calls.call_function_entry kind_sorted plain_sorted entry_sorted (args_sorted1 _) ?_
  unfold Builtin.«sorted»
  refine wpAny_bind (m := checkCount "sorted" 1 1 _) (wpAny_pure ?_)
  refine wpAny_bind (hcol _ _ fun vs h1 tk k1 e er => ?_)
  have hvl : vs.length ≤ sizeLine := by rw [e.length]; exact hL
  refine wpAny_bind (wpAny_newList ?_ hvl)
  have hoL : (h1.push (seqObj "list" vs.toArray 0)).get? h1.objs.size = some (seqObj "list" vs.toArray 0) := Heap.get?_push_size _ rfl
  show wpAny _ _ _ _ _ { s with heap := h1.push (seqObj "list" vs.toArray 0), toks := tk }
  have er' : EachIs (fun v b => ∃ as, Reads (sortingHeap (h1.push (seqObj "list" vs.toArray 0)) h1.objs.size vs) v b.toPy as) vs bs := er.mono fun v d ⟨as, r⟩ => ⟨as, PyProof.Rows.Reads.keeps (fun b o q => PySem.W.sortingHeap_old (Nat.ne_of_lt (Heap.lt_size q)) (Heap.get?_push_of_some _ q)) r⟩
  refine wpAny_bind (wpAny_holding (wpAny_call_entry slot_list_sort ⟨_, hoL, rfl⟩ entry_list_sort
    (PySem.W.list_sort_vals (κ := dataKind (sortingHeap (h1.push (seqObj "list" vs.toArray 0)) h1.objs.size vs) (bs.map D.toPy)) hoL
      (PySem.W.SortsAt.data (s := { s with heap := sortingHeap (h1.push (seqObj "list" vs.toArray 0)) h1.objs.size vs, toks := tk }) (PySem.W.each_map (R := fun v d => ∃ as, Reads (sortingHeap (h1.push (seqObj "list" vs.toArray 0)) h1.objs.size vs) v d as) D.toPy er') P.al P.so (fun d hd => by
        obtain ⟨b, hb, rfl⟩ := List.mem_map.mp hd
        have := P.dp b hb
        show A.units + 1 + 1 + b.toPy.depth < cLine
        omega)) hvl ⟨_, rfl, ?_⟩) (args_list_sort _)))
  obtain ⟨n, hn⟩ := PyProof.Rows.sortedHeap_at (vs := vs) (out := List.toArray (PySem.W.sortVals (dataKind (sortingHeap (h1.push (seqObj "list" vs.toArray 0)) h1.objs.size vs) (bs.map D.toPy)) false vs vs)) hoL
  refine wpAny_pure ⟨_, rfl, h _ h1 _ tk h1.objs.size n (by rw [PySem.W.sortVals_length false rfl]; exact e.length) ?_ k1 (fun b o q1 => ?_) (Nat.le_refl _) hn⟩
  · rw [isort_eq leD_total]
    exact PySem.W.sortVals_data false e er' P.al
  · have hb : b < h1.objs.size := Heap.lt_size q1
    rw [PyProof.Rows.sortedHeap_old (Nat.ne_of_lt hb) (by rw [size_push']; exact Nat.lt_succ_of_lt hb)]
    exact Heap.get?_push_of_some _ q1
/-! ### as a rule -/
/-- the values' relation -/
def RvD (K : PySem.W.Frag) (F : Hp) (u : Value) (d : D) : Prop := ∃ v, RelV v u ∧ Rep K F v d
theorem each_rv {K : PySem.W.Frag} {F : Hp} : ∀ {vs : List V} {us : List Value} {ds : List D}, Vals vs us → Reps K F vs ds → EachIs (RvD K F) us ds
  | _, _, [], r, h => by cases h; cases r; exact .nil
  | _, _, d :: ds, r, h => by
    cases h with
    | cons a b => cases r with | cons x y => exact .cons ⟨_, x, a⟩ (each_rv y b)
theorem rv_each {K : PySem.W.Frag} {F : Hp} : ∀ {us : List Value} {ds : List D}, EachIs (RvD K F) us ds → ∃ vs, Vals vs us ∧ Reps K F vs ds
  | _, _, .nil => ⟨[], .nil, .nil⟩
  | _, _, .cons ⟨v, x, a⟩ t => by
    obtain ⟨vs, y, b⟩ := rv_each t
    exact ⟨v :: vs, .cons x y, .cons a b⟩
theorem each_reads {X : Cx} {pins : List (Addr × Obj)} {σ : L2.St} {F H : Hp} {s : Shared} (I : Inv X pins σ H s) (i : Same F H) : ∀ {us : List Value} {ds : List D}, EachIs (RvD X.K F) us ds → (∀ d ∈ ds, d.toPy.canLay0 = true) → EachIs (fun v b => ∃ as, Reads s.heap v b.toPy as) us ds
  | _, _, .nil, _ => .nil
  | _, _, .cons ⟨v, x, a⟩ t, h => .cons (Dp.reads I _ _ _ (rep_dp (a.mono i) (h _ (by simp))) x) (each_reads I i t fun d hd => h d (by simp [hd]))
/-- what sorted walks -/
inductive SrtSrc (K : PySem.W.Frag) (F H : Hp) : V → List D → Prop
  | lst {p : Addr} {xs : List V} {ds : List D} : H p = some (.lst xs) → xs.length ≤ sizeLine → Reps K F xs ds → SrtSrc K F H (.ref p) ds
  | tup {p : Addr} {xs : List V} {ds : List D} : TupAt H p xs → xs.length ≤ sizeLine → Reps K F xs ds → SrtSrc K F H (.ref p) ds
  | dT {p : Addr} {kvs : List (List Key × V)} : Rd H p (.dT kvs) → kvs.length ≤ sizeLine → SrtSrc K F H (.ref p) (kvs.map fun q => D.itm (q.1.map kD))
  | dK {p : Addr} {kvs : List (Key × V)} : Rd H p (.dK kvs) → kvs.length ≤ sizeLine → SrtSrc K F H (.ref p) (kvs.map fun q => kD q.1)
def rSrt (K : PySem.W.Frag) : List V → Hp → VK → Prop := fun vs H Q => ∃ F v ds, Same F H ∧ vs = [v] ∧ SrtSrc K F H v ds ∧ srtOk ds = true ∧
  ∀ F' ys p, Ext F H F' H → Reps K F' ys (isort leD ds) → ys.length ≤ sizeLine → H p = none → Q (.ref p) (upd H p (.lst ys))
theorem kD_rep {K : PySem.W.Frag} {F : Hp} (k : Key) : Rep K F (kV k) (kD k) := by cases k <;> constructor
theorem kDs_rep {K : PySem.W.Frag} {F : Hp} : ∀ ks : List Key, Reps K F (ks.map kV) (ks.map kD)
  | [] => .nil
  | k :: ks => .cons (kD_rep k) (kDs_rep ks)
/-- all tuples are frozen -/
def tupsF (F H : Hp) : Hp := fun a => match H a with
  | some (.tup xs) => some (.tup xs)
  | _ => F a
theorem tupsF_at {F H : Hp} {a : Addr} {xs : List V} (h : H a = some (.tup xs)) : tupsF F H a = some (.tup xs) := by unfold tupsF; rw [h]
theorem tupsF_ext {F H : Hp} (i : Same F H) : Ext F H (tupsF F H) H := by
  refine ⟨fun a o e => ?_, Same.refl H, fun a o e => ?_, fun a o h m n => ?_⟩
  · unfold tupsF
    split
    · rename_i xs q; rw [← q]; exact i _ _ e
    · exact e
  · unfold tupsF at e
    split at e
    · rename_i xs q; rw [q]; exact e
    · exact i _ _ e
  · unfold tupsF at n
    split at n
    · rename_i xs q; rw [q] at h; cases h; cases m
    · exact n
theorem cr_srt {X : Cx} (hc : X.calm = true) (hu : X.A.units + 8 < cLine) : CallR X (.builtin "sorted") (rSrt X.K) := by
  intro pins s σ H vs us Q I r h
  obtain ⟨F, v, ds, i, rfl, src, ok, q⟩ := h
  obtain ⟨u, rfl, rv⟩ := vals1 r
  have P := srt_ok ok
  have fin : ∀ (F' : Hp), Ext F H F' H → ∀ (out : List Value) (h1 h' : Heap) (tk : Nat) (d : Addr) (n : Nat), out.length = ds.length → ds.length ≤ sizeLine → EachIs (RvD X.K F') out (isort leD ds) → (∀ b o, s.heap.get? b = some o → h1.get? b = some o) → (∀ b o, h1.get? b = some o → h'.get? b = some o) → h1.objs.size ≤ d → h'.get? d = some (seqObj "list" (List.toArray out) n) → EP X pins σ Q (.ref d) { s with heap := h', toks := tk } := by
    intro F' f1 out h1 h' tk d n hl hz e k1 k2 hd hn
    obtain ⟨ys, y1, y2⟩ := rv_each e
    have I1 : Inv X pins σ H { s with heap := h1, toks := tk } := I.kept k1
    have hyl : ys.length ≤ sizeLine := by rw [y1.length, hl]; exact hz
    exact ⟨.ref d, upd H d (.lst ys), I1.laid (t' := tk) k2 hd ⟨hyl, out, n, y1, hn⟩, rfl, q F' ys d f1 y2 hyl (I1.hok.fresh hd)⟩
  cases src with
  | lst h1 h2 h3 =>
    cases rv
    obtain ⟨its, r1, pl, hz⟩ := I.list (SqL.of h1)
    have e := each_rv r1 h3
    have hdl : ds.length ≤ sizeLine := by rw [← h3.length]; exact h2
    refine sorted_gen (R := RvD X.K F) P hdl hu (fun Q' E' k => collect_list pl.isList (k its _ s.toks keepL e ?_) (by rw [← r1.length]; exact h2)) fun out h1 h' tk d n a b c d' e' f' => fin F (Ext.refl i) out h1 h' tk d n a hdl b c d' e' f'
    exact (each_reads I i e P.ly).mono fun v d ⟨as, r⟩ => ⟨as, PyProof.Rows.Reads.keeps keepL r⟩
  | tup h1 h2 h3 =>
    cases rv
    obtain ⟨its, r1, pl, hz⟩ := I.tuple h1.sq
    have e := each_rv r1 h3
    have hdl : ds.length ≤ sizeLine := by rw [← h3.length]; exact h2
    refine sorted_gen (R := RvD X.K F) P hdl hu (fun Q' E' k => collect_tup pl (k its _ s.toks keepL e ?_) (by rw [← r1.length]; exact h2)) fun out h1 h' tk d n a b c d' e' f' => fin F (Ext.refl i) out h1 h' tk d n a hdl b c d' e' f'
    exact (each_reads I i e P.ly).mono fun v d ⟨as, r⟩ => ⟨as, PyProof.Rows.Reads.keeps keepL r⟩
  | @dT p kvs h1 h2 =>
    cases rv
    obtain ⟨z, hs, ks, pr, o, es, ep, ho, hx, hdt, he, hn⟩ := (show ObjOk X.prog X.w H s.heap p (.dT kvs) from h1.ok I.hok)
    have l1 : es.size = ks.length := size_of_entries he
    have l2 : kvs.length = ks.length := Paired.length pr
    have e : EachIs (RvD X.K (tupsF F H)) (ks.map fun x => Value.ref x.2.1) (kvs.map fun q => D.itm (q.1.map kD)) := by
      clear l1 l2 he hn hdt hx ho ok P fin h2 h1 z hs q
      induction pr with
      | nil => exact .nil
      | cons hd tl ih =>
        have hl := (show ObjOk X.prog X.w H s.heap _ (.tup _) from I.hok _ _ hd.2.1).1
        exact .cons ⟨.ref _, rfl, .itm (tupsF_at hd.2.1) hl (kDs_rep _)⟩ ih
    have hdl : (kvs.map fun q => D.itm (q.1.map kD)).length ≤ sizeLine := by rw [List.length_map]; exact h2
    refine sorted_gen (R := RvD X.K (tupsF F H)) P hdl hu (fun Q' E' k => PySem.W.kdu_collect (A := X.A.in1) (kdl_raw hs hx hdt) (I.ok.hd hc) ho (by omega) fun h' tk acc kp it => ?_) fun out h1 h' tk d n a b c d' e' f' => fin (tupsF F H) (tupsF_ext i) out h1 h' tk d n a hdl b c d' e' f'
    have ea : acc.toList = ks.map fun x => Value.ref x.2.1 := by
      have hl : acc.toList.length = ks.length := by rw [Array.length_toList, it.1]; exact l1
      apply List.ext_getElem?
      intro j
      rw [List.getElem?_map]
      cases hj : acc.toList[j]? with
      | none =>
        have h1 := List.getElem?_eq_none_iff.mp hj
        rw [List.getElem?_eq_none (by omega)]
        all_goals rfl
      | some v =>
        obtain ⟨en, hen, hv⟩ := it.2 j v (by rw [← Array.getElem?_toList]; exact hj)
        have qe := entry_at he j
        rw [hen] at qe
        cases hb : ks[j]? with
        | none => rw [hb] at qe; exact nomatch (show some en = none from qe)
        | some b =>
          rw [hb] at qe
          have e2 : en = entryOfKey (tupleKind (mixKind X.prog X.w)) b := Option.some.inj qe
          rw [hv, e2]
          all_goals rfl
    rw [ea]
    exact k _ _ tk kp e ((each_reads I (tupsF_ext i).i e P.ly).mono fun v d ⟨as, r⟩ => ⟨as, PyProof.Rows.Reads.keeps kp r⟩)
  | @dK p kvs h1 h2 =>
    cases rv
    obtain ⟨z, lo, vs, rk, hd⟩ := (show ObjOk X.prog X.w H s.heap p (.dK kvs) from h1.ok I.hok)
    obtain ⟨ep, hat⟩ := hd.dictAt
    have hl : kvs.length = vs.length := Paired.length rk
    have hdl : (kvs.map fun q => kD q.1).length ≤ sizeLine := by rw [List.length_map]; exact h2
    refine sorted_gen (R := RvD X.K F) P hdl hu (fun Q' E' k => PySem.W.kdu_collect (A := X.A.in1) (PySem.W.kdl_dict (knd := mixKind X.prog X.w) (kvs := vs) (ep := ep) lo) (I.ok.hd hc) hat (by rw [← hl]; exact z) fun h' tk acc kp it => ?_) fun out h1 h' tk d n a b c d' e' f' => fin F (Ext.refl i) out h1 h' tk d n a hdl b c d' e' f'
    have rvs : Vals (kvs.map fun kv => kV kv.1) acc.toList := by
      have el : acc.toList.length = acc.size := by simp
      refine vals_of_at (by rw [List.length_map, el, it.1, hl]) fun j x w h1 h2 => ?_
      obtain ⟨k, y, hky, hi⟩ := it.2 j w (by rw [← Array.getElem?_toList]; exact h2)
      have e1 : (kvs.map (·.1))[j]? = some k := by
        rw [KV.keys rk, List.getElem?_map, hky] <;> rfl
      have e2 : (kvs.map fun kv => kV kv.1)[j]? = some (kV k) := by
        have e3 : (kvs.map fun kv => kV kv.1) = (kvs.map (·.1)).map kV := by rw [List.map_map] <;> rfl
        rw [e3, List.getElem?_map, e1] <;> rfl
      rw [e2] at h1
      cases h1
      exact keyIs_rel hi
    have er : Reps X.K F (kvs.map fun kv => kV kv.1) (kvs.map fun q => kD q.1) := by
      have := kDs_rep (K := X.K) (F := F) (kvs.map (·.1))
      rw [List.map_map, List.map_map] at this
      exact this
    have e := each_rv rvs er
    exact k _ _ tk kp e ((each_reads I i e P.ly).mono fun v d ⟨as, r⟩ => ⟨as, PyProof.Rows.Reads.keeps kp r⟩)
/-! ### sorted(x) -/
def keyT : D → Bool
  | .dic _ _ => true
  | _ => false
def sortD : List D → Option (List D)
  | [.lst ds] => if srtOk ds = true then some (isort leD ds) else none
  | [.tup ds] => if srtOk ds = true then some (isort leD ds) else none
  | [.dic ks _] => if srtOk ks = true then some (isort leD ks) else none
  | _ => none
theorem isort_len {ds : List D} : (isort leD ds).length = ds.length := (isort_perm (le := leD) ds).length_eq
theorem cs_sort {K : PySem.W.Frag} : CallSem (pN K) K (rSrt K) sortD := fun F H xs ds z Q i h hz k => by
  have fin : ∀ {v : V} {es : List D}, SrtSrc K F H v es → srtOk es = true → es.length ≤ sizeLine → z = isort leD es → xs = [v] → rSrt K xs H Q := fun {v es} s o l e ex => by
    refine ⟨F, v, es, i, ex, s, o, fun F' ys p x r hl hp => ?_⟩
    subst e
    exact k _ F' _ ⟨x.f, Same.updN hp, x.i.into (x.i.free hp), x.n⟩ ⟨p, ys, rfl, hp, x.i.free hp, upd_same, hl, r⟩
  unfold sortD at hz
  split at hz
  · obtain ⟨v, rfl, r⟩ := repBs1 h
    split at hz
    · rename_i o
      cases hz
      obtain ⟨p, ys, rfl, h1, h2, h3⟩ := repB_lst i r
      exact fin (.lst h1 h2 h3) o (by rw [← h3.length]; exact h2) rfl rfl
    · cases hz
  · obtain ⟨v, rfl, r⟩ := repBs1 h
    split at hz
    · rename_i o
      cases hz
      obtain ⟨p, ys, rfl, h1, h2, h3⟩ := repB_tup r
      exact fin (.tup (h1.mono i) h2 h3) o (by rw [← h3.length]; exact h2) rfl rfl
    · cases hz
  · obtain ⟨v, rfl, r⟩ := repBs1 h
    split at hz
    · rename_i o
      cases hz
      rcases r with r | ⟨p, ys, ws, _, q, _⟩ | ⟨p, u, t, ks', vs', rfl, q, h1, h2⟩
      · cases r with
        | dicK h1 h2 h3 => exact fin (.dK (h1.mono i) h2) o (by rw [List.length_map]; exact h2) rfl rfl
        | dicT h1 hk h2 h3 => exact fin (.dT (h1.mono i) h2) o (by rw [List.length_map]; exact h2) rfl rfl
      · cases q
      · cases q
        cases h2 with
        | k l r => exact fin (.dK (.inl h1) l) o (by rw [List.length_map]; exact l) rfl rfl
        | t _ l r => exact fin (.dT (.inl h1) l) o (by rw [List.length_map]; exact l) rfl rfl
    · cases hz
  · cases hz
end PD

set_option maxHeartbeats 4000000
namespace PD
open PySem PySem.Spec PyProof.Rows L2
/-! ### enumerate of a tuple -/
set_option maxHeartbeats 1000000 in
theorem meets_enumerate_new1 {v : Value} {o : Obj} {H : Heap → Prop} (B : PySem.Begins v o H) :
    Meets (Builtin.«enumerate.__new__» ⟨[.type "enumerate", v], []⟩) (fun _ R s => H s.heap ∧
      R (.ok (.ret (.ref (s.heap.push o).objs.size))) { s with heap := (s.heap.push o).push { cls := .type "enumerate", data := .fields #[.none, .bool false, .ref s.heap.objs.size, rawInt 0, .none, .none] } }) :=
  .of_wp fun prog w A R s h => by
    obtain ⟨hp, g, d, tk, os⟩ := s; obtain ⟨h1, h⟩ := h
    have hsub := sub_enumerate
    have q1 : ∀ {A' : Around} {E : Value → Shared → Prop} {Q : Value → Shared → Prop}, Q (.ref hp.objs.size) ⟨hp.push o, g, d, tk, os⟩ → wpAny (model prog w) A' (pyIter v) Q E ⟨hp, g, d, tk, os⟩ :=
      fun q => B.iter prog w _ _ ⟨hp, g, d, tk, os⟩ _ h1 q
    wp_walk using q1
    refine wpAny_stack_any fun st => wpAny_pure ?_
    split
    · rename_i c _ _ _ _ _
      cases (c == Value.type "enumerate")
      · wp_walk using q1
        exact ⟨_, rfl, h⟩
      · wp_walk using q1
        exact ⟨_, rfl, h⟩
    · wp_walk using q1
      exact ⟨_, rfl, h⟩
theorem call_enumerate1 {prog : Program} {w : World} {A : Around} {E : Value → Shared → Prop} {s : Shared} {v : Value} {o : Obj} {H : Heap → Prop} {Q : Value → Shared → Prop} (B : PySem.Begins v o H) (h1 : H s.heap)
    (h : ∀ h', IsEnum h' (s.heap.objs.size + 1) s.heap.objs.size 0 .none → h'.get? s.heap.objs.size = some o → h'.objs.size = s.heap.objs.size + 2 →
      (∀ b o, s.heap.get? b = some o → h'.get? b = some o) → Q (.ref (s.heap.objs.size + 1)) { s with heap := h' }) :
    wpAny (model prog w) A (call (.type "enumerate") [v]) Q E s := by
  refine callType_new F.called_enumerate (by decide) (F.typeCall_enumerate_1 _) (F.newCall_enumerate_1 _) (fun obj => F.args_object_init_2 obj _) F.entry_enumerate_new
    (meets_enumerate_new1 B) ⟨h1, ?_⟩
  have hz : (s.heap.push o).objs.size = s.heap.objs.size + 1 := Heap.size_push ..
  show _ ∧ _
  rw [hz]
  have he : IsEnum ((s.heap.push o).push { cls := .type "enumerate", data := .fields #[.none, .bool false, .ref s.heap.objs.size, rawInt 0, .none, .none] }) (s.heap.objs.size + 1) s.heap.objs.size 0 .none := by
    have := Heap.get?_push_size (s.heap.push o) (o := { cls := .type "enumerate", data := .fields #[.none, .bool false, .ref s.heap.objs.size, rawInt 0, .none, .none] }) rfl
    rw [hz] at this; exact this
  refine ⟨⟨_, he, rfl⟩, h _ he (Heap.get?_push_of_some _ (Heap.get?_push_size _ B.free)) (by rw [Heap.size_push, hz]) fun b o x => Heap.get?_push_of_some _ (Heap.get?_push_of_some _ x)⟩
/-- the tuple at a as it stands at each turn, each item in a new pair -/
def IteT (K : PySem.W.Frag) (a : Addr) : It :=
  ⟨fun i H => ∃ (xs : List V) (x : V), SqT K H a xs ∧ xs[i]? = some x, fun i H v H' => ∃ T x, v = .ref T ∧ H T = none ∧ H' = upd H T (.tup [.int (i : Nat), x]) ∧ ∀ xs, SqT K H a xs → xs[i]? = some x, fun i H => ∃ xs : List V, SqT K H a xs ∧ xs.length ≤ i⟩
theorem turn_enumT {P : Program} {w : World} {K : PySem.W.Frag} {elts : List Expr} {kk : Nat} {tpos : Pos} (a e it : Addr) (hae : a ≠ e) (hai : a ≠ it) :
    Turn P w K (.Tuple elts kk tpos) (IteT K a) [e, it] e (fun i h => (∃ old, IsEnum h e it ((i : Nat) : Int) old) ∧ h.IsTupleIter it a i ∧ e ≠ it) where
  mem := by simp
  obj := fun i h st b hb => by
    obtain ⟨⟨old, he⟩, ⟨o, ho, hc, hd⟩, _⟩ := st
    have e' : b = e ∨ b = it := by simpa using hb
    rcases e' with z | z
    · rw [z]; exact ⟨_, he, fun v q => nomatch q⟩
    · rw [z]; exact ⟨o, ho, fun v q => by rw [hd] at q; cases q⟩
  keep := fun i h h' st k => let ⟨⟨old, he⟩, hi, hne⟩ := st; ⟨⟨old, k e (by simp) _ he⟩, hi.at fun o q => k it (by simp) o q, hne⟩
  item := by
    intro X hP hw hK hc i pins s σ H E I hf st hg
    subst hP hw hK
    obtain ⟨⟨old, he⟩, hit, hne⟩ := st
    obtain ⟨xs, x, hq, hx⟩ := hg
    obtain ⟨its, rv, p, hz⟩ := I.tuple hq
    obtain ⟨u, hu, ru⟩ := rv.get hx
    have hel : e < s.heap.objs.size := Heap.lt_size he
    have hil : it < s.heap.objs.size := by obtain ⟨_, q, _⟩ := hit; exact Heap.lt_size q
    have hlt : i < its.toArray.size := by
      have := (List.getElem?_eq_some_iff.mp hu).1
      simpa using this
    have p' : s.heap.IsTuple a its.toArray := p
    refine wpAny_pyNext_enum_itemD (PySem.Draws.tuple (A := X.A.in1) (I.ok.hd hc) it a hai its.toArray) he ⟨hit, p'⟩ hlt hne (by simp [hne, Ne.symm hae]) fun x' h' tk hx' ho hst' hT hsz hk => ?_
    have ex : x' = u := by
      have : its.toArray[i]? = some u := by simpa using hu
      rw [this] at hx'; exact (Option.some.inj hx').symm
    subst ex
    have hit' := hst'.1
    refine ⟨_, rfl, wpAny_letOwnedTupleGo_enum (s := { s with heap := h', toks := tk + 1 }) ho fun h'' he' sb => ?_⟩
    have hT2 : h''.get? s.heap.objs.size = some { cls := .type "tuple", data := .seq #[.int i tk, x'] } := (sb.2 _ (Nat.ne_of_gt hel)).trans hT
    have new : ObjOk X.prog X.w (upd H s.heap.objs.size (.tup [.int (i : Nat), x])) h'' s.heap.objs.size (.tup [.int (i : Nat), x]) :=
      ⟨by show 2 ≤ sizeLine; decide, [.int i tk, x'], .cons ⟨_, rfl⟩ (.cons ru .nil), ⟨_, hT2, rfl, _, rfl⟩⟩
    have I1 : Inv X pins σ (upd H s.heap.objs.size (.tup [.int (i : Nat), x])) { s with heap := h'', toks := tk + 1 } :=
      I.turnedNew (ch := [e, it]) (fun b ob hb q => (sb.2 b (fun z => hb (by simp [z]))).trans (hk b ob (fun z => hb (by simp [z])) (fun z => hb (by simp [z])) q)) hf (Nat.le_refl _) new
    refine ⟨.ref s.heap.objs.size, _, I1, rfl, ⟨_, x, rfl, I.hok.fresh (Nat.le_refl _), rfl, fun ys hy => by rw [I.tuple_inj hy hq]; exact hx⟩, ⟨⟨x', ?_⟩, hit'.at fun o q => (sb.2 it (Ne.symm hne)).trans q, hne⟩, fun b hb => ?_⟩
    · have e1 : ((i + 1 : Nat) : Int) = (i : Int) + 1 := by omega
      rw [e1]; exact he'
    · have hb' : b < s.heap.objs.size := by
        have e' : b = e ∨ b = it := by simpa using hb
        rcases e' with z | z
        · rw [z]; exact hel
        · rw [z]; exact hil
      rw [upd_ne (Nat.ne_of_lt hb')]
      exact (hf b hb).1
  done := by
    intro X hP hw hK hc i pins s σ H E I hf st hg
    subst hP hw hK
    obtain ⟨⟨old, he⟩, hit, hne⟩ := st
    obtain ⟨xs, hq, hx⟩ := hg
    obtain ⟨its, rv, p, hz⟩ := I.tuple hq
    have p' : s.heap.IsTuple a its.toArray := p
    obtain ⟨f0, f1, f2, f3, f4, f5⟩ := hf it (by simp)
    have hl := rv.length
    have D := (PySem.Draws.tuple (prog := X.prog) (w := X.w) (A := X.A.in1) (I.ok.hd hc) it a hai its.toArray)
    have hiz : its.toArray[i]? = none := by simp; omega
    unfold pyNext
    refine wpAny_bind (wpAny_attempt (wpAny_callSpecial?_slot (name := Str.ofString "__next__") (⟨_, he, rfl⟩ : s.TypeIs (.ref e) "enumerate") F.slot_enumerate_next
      (wpAny_call_entry F.slot_enumerate_next (⟨_, he, rfl⟩ : s.TypeIs (.ref e) "enumerate") F.entry_enumerate_next ?_ (F.args_enumerate_next_1 _))))
    show wpAny _ _ (field (.ref e) 2 >>= _) _ _ _
    refine wpAny_bind (wpAny_field he rfl (x := .ref it) rfl ?_)
    refine wpAny_bind (RZ.nextOf_tuple_end (I.ok.hd hc) hit p' hiz fun h' x he' hx' => ?_)
    obtain ⟨o, ho, hcc⟩ := hx'
    refine wpAny_bind (wpAny_isInstance (T := "StopIteration") (b := true) ⟨o, ho, hcc⟩ isSubtype_stop ?_)
    exact wpAny_pure ⟨rfl, I.turned (t' := s.toks) (fun b o hb q => he' b o hb q) f0 f1 f3 f4 f5⟩
  self := fun A i s Q E st h => let ⟨⟨_, he⟩, _⟩ := st; wpAny_pyIter_enum he h
theorem pi_enumA {X : Cx} {e : Expr} {te : TE} {p pos tpos : Pos} {elts : List Expr} {kk : Nat} (hg : Gl X "enumerate") (hm : X.mg "enumerate" = none) (he : PE X e te) (na : starEach [e] X.env = (false, eval e X.env) :: starEach [] X.env := by rfl) :
    PI X (.Tuple elts kk tpos) (.Call (.Name "enumerate" p) [e] [] pos) (fun σ H R => te σ H fun v H1 => ∃ a xs, v = .ref a ∧ (SqL X.K H1 a xs ∧ R (Ite X.K a) H1 ∨ SqT X.K H1 a xs ∧ R (IteT X.K a) H1)) := by
  refine ⟨fun pins s σ H R I h => ?_⟩
  refine Call_ (ld_blt I hg hm boot_enumerate (PyProof.Rows.callWith_type1 (one_arg he I h (fun v s1 x H1 I1 r q1 => ?_) na) na))
  obtain ⟨a, xs, ex, q⟩ := q1
  subst ex
  cases r
  have fin : ∀ (b : Addr), b ∈ [s1.heap.objs.size + 1, s1.heap.objs.size] → FpOk X pins H1 b := fun b hb => by
    have e' : b = s1.heap.objs.size + 1 ∨ b = s1.heap.objs.size := by simpa using hb
    have hle : s1.heap.objs.size ≤ b := by
      rcases e' with z | z
      · rw [z]; exact Nat.le_add_right _ _
      · rw [z]; exact Nat.le_refl _
    exact I1.fpOk hle (I1.hok.fresh hle)
  rcases q with ⟨hq, q⟩ | ⟨hq, q⟩
  · obtain ⟨its, rv, p', hz⟩ := I1.list hq
    refine call_enumerate_list p'.isList fun h' he hit hsz hk => wpAny_pyIter_enum he ?_
    have I2 : Inv X pins σ H1 { s1 with heap := h' } := I1.kept (t' := s1.toks) hk
    exact ⟨s1.heap.objs.size + 1, [s1.heap.objs.size + 1, s1.heap.objs.size], _, _, H1, rfl, I2, turn_enum a (s1.heap.objs.size + 1) s1.heap.objs.size, ⟨⟨.none, he⟩, hit, Nat.succ_ne_self _⟩, fin, q⟩
  · obtain ⟨its, rv, p', hz⟩ := I1.tuple hq
    have p'' : s1.heap.IsTuple a its.toArray := p'
    obtain ⟨ob, hob, _⟩ := id p''
    have hal : a < s1.heap.objs.size := Heap.lt_size hob
    refine call_enumerate1 (PySem.begins_tuple a its.toArray) p'' fun h' he hit hsz hk => wpAny_pyIter_enum he ?_
    have I2 : Inv X pins σ H1 { s1 with heap := h' } := I1.kept (t' := s1.toks) hk
    exact ⟨s1.heap.objs.size + 1, [s1.heap.objs.size + 1, s1.heap.objs.size], _, _, H1, rfl, I2, turn_enumT a (s1.heap.objs.size + 1) s1.heap.objs.size (Nat.ne_of_lt (Nat.lt_succ_of_lt hal)) (Nat.ne_of_lt hal), ⟨⟨.none, he⟩, ⟨_, hit, rfl, rfl⟩, Nat.succ_ne_self _⟩, fin, q⟩

/-! ### enumerate as pure data -/
def enumL : Nat → List D → List D
  | _, [] => []
  | k, d :: ds => .itm [.int k, d] :: enumL (k + 1) ds
theorem enumL_len : ∀ (k : Nat) (ds : List D), (enumL k ds).length = ds.length
  | _, [] => rfl
  | k, d :: ds => by simp [enumL, enumL_len]
theorem enumL_get : ∀ (k : Nat) (ds : List D) (i : Nat) (x : D), (enumL k ds)[i]? = some x → ∃ d, ds[i]? = some d ∧ x = .itm [.int ((k + i : Nat) : Int), d]
  | _, [], i, x, h => by simp [enumL] at h
  | k, d :: ds, 0, x, h => by simp [enumL] at h; exact ⟨d, rfl, by rw [← h]; simp⟩
  | k, d :: ds, i + 1, x, h => by
    simp only [enumL, List.getElem?_cons_succ] at h
    obtain ⟨d', h1, h2⟩ := enumL_get (k + 1) ds i x h
    exact ⟨d', by simpa using h1, by rw [h2]; congr 3; congr 1; omega⟩
def enumF (f : EnvD → R D) : EnvD → R (List D) := fun env => (f env).bind fun d => R.ofO ((asSeq d).map (enumL 0))
section
variable {X : Cx} {cls : Exc → Addr} {W : WX} {e a b c tg : Expr} {pos p : Pos}
theorem pdi_enum {f : EnvD → R D} {p pos tpos : Pos} {elts : List Expr} {kk : Nat} (hg : Gl X "enumerate") (hm : X.mg "enumerate" = none) (h : PDE X cls W (pV X.K) e f) (na : starEach [e] X.env = (false, eval e X.env) :: starEach [] X.env := by rfl) :
    PDI X cls W false (.Tuple elts kk tpos) (.Call (.Name "enumerate" p) [e] [] pos) (enumF f) := pi_imp (pi_enumA hg hm h na) fun σ H Q ⟨H0, F, env, ea, g⟩ =>
  ⟨H0, F, env, ea, (Go.bind g).imp fun x H1 ⟨F1, d, _, e1, p1, g1⟩ => by
    obtain ⟨ds, hd, g2⟩ := Go.ofO g1
    have fin : ∀ {J : It} {q : Addr} {xs : List V} {es : List D} {SQ : Hp → List V → Prop}, (∀ F2 H2, Same F1 F2 → Same F2 H2 → SQ H2 xs) → (∀ H2 ys zs, SQ H2 ys → SQ H2 zs → ys = zs → True) → xs.length ≤ sizeLine → Reps X.K F1 xs es → ds = enumL 0 es →
        (∀ i H2, J.go i H2 ↔ ∃ (xs : List V) (x : V), SQ H2 xs ∧ xs[i]? = some x) → (∀ i H2 x H3, J.yld i H2 x H3 → ∃ T v, x = .ref T ∧ H2 T = none ∧ H3 = upd H2 T (.tup [.int (i : Nat), v]) ∧ ∀ xs, SQ H2 xs → xs[i]? = some v) → (∀ i H2, J.stop i H2 ↔ ∃ xs : List V, SQ H2 xs ∧ xs.length ≤ i) → WalkD X.K false J F1 H1 ds := by
      intro J q xs es SQ hsq _ hl r ed y1 y2 y3
      subst ed
      have le : (enumL 0 es).length = xs.length := by rw [enumL_len, r.length]
      refine ⟨by rw [le]; exact hl, fun F2 H2 a1 a2 _ => ⟨fun i d hd => ?_, (y3 _ _).mpr ⟨xs, hsq F2 H2 a1 a2, by rw [le]; exact Nat.le_refl _⟩⟩⟩
      obtain ⟨d', h1, h2⟩ := enumL_get 0 es i d hd
      obtain ⟨v, hv, rv⟩ := r.get h1
      refine ⟨(y1 _ _).mpr ⟨xs, v, hsq F2 H2 a1 a2, hv⟩, fun x H3 y => ?_⟩
      obtain ⟨T, v', ex, nT, eH, hxs⟩ := y2 _ _ _ _ y
      have := hxs xs (hsq F2 H2 a1 a2)
      rw [hv] at this; cases this
      subst ex eH h2
      refine ⟨upd F2 T (.tup [.int (i : Nat), v]), Ext.new a2 nT, .itm upd_same (by show 2 ≤ sizeLine; decide) ?_⟩
      rw [Nat.zero_add]
      exact .cons (.int _) (.cons ((rv.mono a1).mono (Same.updN (a2.free nT))) .nil)
    cases p1 with
    | @lst q xs es h1 h2 h3 =>
      cases hd
      refine ⟨q, xs, rfl, .inl ⟨SqL.of (e1.i _ _ h1), g2 _ F1 H1 (Ext.refl e1.i) (fin (q := q) (SQ := fun H xs => SqL X.K H q xs) (fun F2 H2 a1 a2 => SqL.of (a2 _ _ (a1 _ _ h1))) (fun _ _ _ _ _ _ => trivial) h2 h3 rfl (fun i H2 => Iff.rfl) (fun i H2 x H3 y => y) (fun i H2 => Iff.rfl))⟩⟩
    | @tup q xs es h1 h2 h3 =>
      cases hd
      refine ⟨q, xs, rfl, .inr ⟨(h1.mono e1.i).sq, g2 _ F1 H1 (Ext.refl e1.i) (fin (q := q) (SQ := fun H xs => SqT X.K H q xs) (fun F2 H2 a1 a2 => ((h1.mono a1).mono a2).sq) (fun _ _ _ _ _ _ => trivial) h2 h3 rfl (fun i H2 => Iff.rfl) (fun i H2 x H3 y => y) (fun i H2 => Iff.rfl))⟩⟩
    | _ => cases hd⟩
end
/-! ### two fors -/
def noErr {α : Type} : R α → R α
  | .ok a => .ok a
  | _ => .bad
theorem noErr_ok {α : Type} {r : R α} {a : α} (h : noErr r = .ok a) : r = .ok a := by cases r <;> first | exact h | cases h
theorem bind_ok {α β : Type} {r : R α} {f : α → R β} {b : β} (h : r.bind f = .ok b) : ∃ a, r = .ok a ∧ f a = .ok b := by cases r <;> first | exact ⟨_, rfl, h⟩ | cases h
theorem map_ok {α β : Type} {r : R α} {f : α → β} {b : β} (h : r.map f = .ok b) : ∃ a, r = .ok a ∧ f a = b := by cases r <;> first | (cases h; exact ⟨_, rfl, rfl⟩) | cases h
theorem lcL_inv {p : Pat} {vs : List Nat} {t : EnvD → R Bool} {f : EnvD → R D} {d : D} {r : List D} {env : EnvD} {ys : List D} (h : lcL p vs t f (d :: r) env = .ok ys) :
    ∃ e k, bindP p d (wipeE env vs) = some e ∧ t e = .ok k ∧ (k = false ∧ lcL p vs t f r env = .ok ys ∨ k = true ∧ ∃ y ys', f e = .ok y ∧ ys = y :: ys' ∧ lcL p vs t f r env = .ok ys') := by
  unfold lcL at h
  split at h
  · cases h
  · rename_i e q
    split at h
    · rename_i q2
      split at h
      · rename_i y q3
        obtain ⟨a, h1, h2⟩ := map_ok h
        exact ⟨e, true, q, q2, .inr ⟨rfl, y, a, q3, h2.symm, h1⟩⟩
      · cases h
    · rename_i q2
      exact ⟨e, false, q, q2, .inl ⟨rfl, h⟩⟩
    · cases h
def lc2L (p : Pat) (vs : List Nat) (t : EnvD → R Bool) (src1 : EnvD → R (List D)) (p1 : Pat) (vs1 : List Nat) (t1 : EnvD → R Bool) (f : EnvD → R D) : List D → EnvD → R (List D)
  | [], _ => .ok []
  | d :: r, env => match bindP p d (wipeE env vs) with
    | none => .bad
    | some e => (noErr (t e)).bind fun k => if k = true then (noErr (src1 e)).bind fun ds1 => (lcL p1 vs1 t1 f ds1 e).bind fun ys => (lc2L p vs t src1 p1 vs1 t1 f r env).map (ys ++ ·) else lc2L p vs t src1 p1 vs1 t1 f r env
def lc2F (p : Pat) (vs : List Nat) (t : EnvD → R Bool) (src1 : EnvD → R (List D)) (p1 : Pat) (vs1 : List Nat) (t1 : EnvD → R Bool) (f : EnvD → R D) (src : EnvD → R (List D)) : EnvD → R (List D) := fun env => (src env).bind fun ds => match lc2L p vs t src1 p1 vs1 t1 f ds env with
  | .ok T => if small T.length = true then .ok T else .bad
  | _ => .bad
theorem lc2L_inv {p : Pat} {vs : List Nat} {t : EnvD → R Bool} {src1 : EnvD → R (List D)} {p1 : Pat} {vs1 : List Nat} {t1 : EnvD → R Bool} {f : EnvD → R D} {d : D} {r : List D} {env : EnvD} {T : List D} (h : lc2L p vs t src1 p1 vs1 t1 f (d :: r) env = .ok T) :
    ∃ e k, bindP p d (wipeE env vs) = some e ∧ t e = .ok k ∧ (k = false ∧ lc2L p vs t src1 p1 vs1 t1 f r env = .ok T ∨ k = true ∧ ∃ ds1 ys T2, src1 e = .ok ds1 ∧ lcL p1 vs1 t1 f ds1 e = .ok ys ∧ lc2L p vs t src1 p1 vs1 t1 f r env = .ok T2 ∧ T = ys ++ T2) := by
  unfold lc2L at h
  split at h
  · cases h
  · rename_i e q
    obtain ⟨k, hk, h⟩ := bind_ok h
    have hk := noErr_ok hk
    cases k with
    | false => exact ⟨e, false, q, hk, .inl ⟨rfl, h⟩⟩
    | true =>
      obtain ⟨ds1, h1, h⟩ := bind_ok (show (noErr (src1 e)).bind _ = .ok T from h)
      obtain ⟨ys, h2, h⟩ := bind_ok h
      obtain ⟨T2, h3, h4⟩ := map_ok h
      exact ⟨e, true, q, hk, .inr ⟨rfl, ds1, ys, T2, noErr_ok h1, h2, h3, h4.symm⟩⟩
theorem wipe_idem (vs : List Nat) (σ : L2.St) : L2.wipe (L2.wipe σ vs) vs = L2.wipe σ vs := by
  have idem : ∀ (ws : List Nat) (τ : L2.St), (∀ i ∈ ws, i ∈ vs) → L2.wipe (L2.wipe τ ws) vs = L2.wipe τ vs := by
    intro ws
    induction ws with
    | nil => intro τ _; rfl
    | cons u us ih =>
      intro τ hu
      show L2.wipe ((L2.wipe τ us).set u none) vs = L2.wipe τ vs
      rw [wipe_set (hu u (by simp)), ih τ fun j hj => hu j (List.mem_cons_of_mem _ hj)]
  exact idem vs σ fun _ h => h
theorem drop_of {ds : List D} {i : Nat} (h : i < ds.length) : ∃ d, ds[i]? = some d ∧ ds.drop i = d :: ds.drop (i + 1) :=
  ⟨ds[i], by simp [h], List.drop_eq_getElem_cons h⟩
theorem gNames_ok2 {K : PySem.W.Frag} {H0 F H : Hp} : ∀ {is : List Nat} {ds : List D} {vs : List V} {env : EnvD} {σ : L2.St} {Q : L2.St → Hp → Prop}, is.length = ds.length → Reps K F vs ds →
    (∀ σ', (∀ F2 H2, EnvAt K H0 env σ F2 H2 → Same F F2 → EnvAt K H0 (sets is ds env) σ' F2 H2) → (∀ ws : List Nat, (∀ i ∈ is, i ∈ ws) → L2.wipe σ' ws = L2.wipe σ ws) → Q σ' H) → gNames is vs σ H Q
  | [], [], _, env, σ, Q, _, r, k => by cases r; exact ⟨rfl, k σ (fun _ _ e _ => e) fun _ _ => rfl⟩
  | i :: is, d :: ds, _, env, σ, Q, hl, r, k => by
    cases r with
    | cons a b =>
      refine ⟨_, _, rfl, gNames_ok2 (is := is) (ds := ds) (env := env.set i (.val d)) (by simpa using hl) b fun σ' ea' hw => k σ' (fun F2 H2 e s => ea' F2 H2 (e.setV i (a.mono s)) s) fun ws hws => ?_⟩
      rw [hw ws fun j hj => hws j (List.mem_cons_of_mem _ hj), wipe_set (hws i (by simp))]
theorem gPat_ok2 {K : PySem.W.Frag} {H0 F H : Hp} {env : EnvD} {σ : L2.St} {p : Pat} {d : D} {v : V} {env' : EnvD} {Q : L2.St → Hp → Prop} (fh : Same F H) (r : Rep K F v d) (hb : bindP p d env = some env')
    (k : ∀ σ', (∀ F2 H2, EnvAt K H0 env σ F2 H2 → Same F F2 → EnvAt K H0 env' σ' F2 H2) → (∀ ws : List Nat, (∀ i ∈ p.ix, i ∈ ws) → L2.wipe σ' ws = L2.wipe σ ws) → Q σ' H) : gPat K p v σ H Q := by
  cases p with
  | nm i =>
    cases hb
    exact k _ (fun F2 H2 e s => e.setV i (r.mono s)) fun ws hws => wipe_set (hws i (by simp [Pat.ix]))
  | tp is =>
    cases r with
    | tup h1 h2 h3 =>
      rename_i ds
      have hb : (if ds.length = is.length then some (sets is ds env) else none) = some env' := hb
      by_cases hl : ds.length = is.length
      · rw [if_pos hl] at hb
        cases hb
        exact ⟨_, _, rfl, .inl (h1.mono fh).sq, by rw [h3.length]; exact hl, gNames_ok2 hl.symm h3 k⟩
      · rw [if_neg hl] at hb; cases hb
    | itm h1 h2 h3 =>
      rename_i ds
      have hb : (if ds.length = is.length then some (sets is ds env) else none) = some env' := hb
      by_cases hl : ds.length = is.length
      · rw [if_pos hl] at hb
        cases hb
        exact ⟨_, _, rfl, .inl (SqT.of (fh _ _ h1)), by rw [h3.length]; exact hl, gNames_ok2 hl.symm h3 k⟩
      · rw [if_neg hl] at hb; cases hb
    | lst h1 h2 h3 =>
      rename_i ds
      have hb : (if ds.length = is.length then some (sets is ds env) else none) = some env' := hb
      by_cases hl : ds.length = is.length
      · rw [if_pos hl] at hb
        cases hb
        exact ⟨_, _, rfl, .inr (SqL.of (fh _ _ h1)), by rw [h3.length]; exact hl, gNames_ok2 hl.symm h3 k⟩
      · rw [if_neg hl] at hb; cases hb
    | _ => cases hb
section
variable {X : Cx} {cls : Exc → Addr} {W : WX} {e a b c tg : Expr} {pos : Pos}
theorem lc2_read {bb : Bool} {p p1 : Pat} {vs vs1 : List Nat} {t t1 : EnvD → R Bool} {f : EnvD → R D} {src src1 : EnvD → R (List D)} {K : PySem.W.Frag} {σ : L2.St} {H : Hp} {Q : VK} (hp : ∀ i ∈ p.ix, i ∈ vs) (hp1 : ∀ i ∈ p1.ix, i ∈ vs1)
    (h : tG K cls W (pN K) (lc2F p vs t src1 p1 vs1 t1 f src) σ H Q) : tLc2 (tG K cls W (pI K bb) src) (gPat K p) (tG K cls W0 pT t) (tG K cls W0 (pI K false) src1) (gPat K p1) (tG K cls W0 pT t1) (tG K cls W0 (pV K) f) vs vs1 σ H Q := by
  obtain ⟨H0, F, env, ea, g⟩ := h
  refine ⟨H0, F, env, ea, (Go.bind g).imp fun J H1 ⟨F1, ds, _, e1, ⟨hz, wk⟩, g1⟩ => fun Da nD => ?_⟩
  have ea1 := ea.mono e1
  obtain ⟨T, hT, hsm, gT⟩ : ∃ T, lc2L p vs t src1 p1 vs1 t1 f ds env = .ok T ∧ small T.length = true ∧ Go cls (pN K) W σ F1 H1 (.ok T) Q := by
    cases q : lc2L p vs t src1 p1 vs1 t1 f ds env with
    | ok T =>
      rw [q] at g1
      by_cases z : small T.length = true
      · exact ⟨T, rfl, z, by simpa [z] using g1⟩
      · simp only [z] at g1; exact g1.elim
    | err c => rw [q] at g1; exact g1.elim
    | bad => rw [q] at g1; exact g1.elim
  have hTs := small_ok hsm
  refine ⟨fun i m H2 => m = ds.length - i ∧ i ≤ ds.length ∧ ∃ F2 acc es T2, Ext F1 H1 F2 H2 ∧ F2 Da = none ∧ H2 Da = some (.lst acc) ∧ Reps K F2 acc es ∧ lc2L p vs t src1 p1 vs1 t1 f (ds.drop i) env = .ok T2 ∧ T = es ++ T2,
    ⟨ds.length, by simp, Nat.zero_le _, F1, [], [], T, Ext.newH e1.i nD, e1.i.free nD, upd_same, .nil, hT, rfl⟩, ?_⟩
  rintro i m H2 ⟨rfl, hi, F2, acc, es, T2, x2, fD, hD, ra, tot, eT⟩
  have w := wk F2 H2 x2.f x2.i fun _ => x2.h
  by_cases hlt : i < ds.length
  · obtain ⟨d, hd, hdr⟩ := drop_of hlt
    rw [hdr] at tot
    obtain ⟨env1, k, qb, qt, alt⟩ := lc2L_inv tot
    obtain ⟨go, yl⟩ := w.1 i d hd
    refine .inr ⟨go, fun H3 => ∃ F3 acc es T2, Ext F1 H1 F3 H3 ∧ F3 Da = none ∧ H3 Da = some (.lst acc) ∧ Reps K F3 acc es ∧ lc2L p vs t src1 p1 vs1 t1 f (ds.drop (i + 1)) env = .ok T2 ∧ T = es ++ T2, ?_, fun v H3 y => ?_⟩
    · rintro H3 ⟨F3, acc3, es3, T3, h⟩
      exact ⟨ds.length - (i + 1), by omega, rfl, hlt, F3, acc3, es3, T3, h⟩
    · obtain ⟨F3, e3, r3⟩ := yl v H3 y
      have x3 := x2.trans e3
      refine gPat_ok2 (H0 := H0) x3.i r3 qb fun σ4 ea0 hw => ?_
      have ea4 := ea0 F3 H3 ((ea1.mono x3).wipe vs) (Same.refl F3)
      refine ⟨by rw [hw vs hp, wipe_idem], H0, F3, env1, ea4, ?_⟩
      rw [qt]
      intro kk F5 H5 e5 pk
      cases pk
      have x5 := x3.trans e5
      have d5 : F5 Da = none := e5.keep (e3.h _ _ hD) rfl (e3.keep hD rfl fD)
      have hD5 : H5 Da = some (.lst acc) := e5.h _ _ (e3.h _ _ hD)
      have ra5 := ra.mono (e3.f.trans e5.f)
      rcases alt with ⟨rfl, tot2⟩ | ⟨rfl, ds1, ys, T3, qs, ql, tot2, eT2⟩
      · exact ⟨F5, acc, es, T2, x5, d5, hD5, ra5, tot2, eT⟩
      · refine ⟨H0, F5, env1, ea4.mono e5, ?_⟩
        rw [qs]
        rintro J1 F6 H6 e6 ⟨hz1, wk1⟩
        have ea6 := (ea4.mono e5).mono e6
        have x6 := x5.trans e6
        have d6 : F6 Da = none := e6.keep hD5 rfl d5
        have hD6 : H6 Da = some (.lst acc) := e6.h _ _ hD5
        have ra6 := ra5.mono e6.f
        refine ⟨fun j m1 H7 => m1 = ds1.length - j ∧ j ≤ ds1.length ∧ ∃ F7 acc7 es7 ys7, Ext F1 H1 F7 H7 ∧ Same F6 F7 ∧ F7 Da = none ∧ H7 Da = some (.lst acc7) ∧ Reps K F7 acc7 es7 ∧ lcL p1 vs1 t1 f (ds1.drop j) env1 = .ok ys7 ∧ T = es7 ++ ys7 ++ T3,
          ⟨ds1.length, by simp, Nat.zero_le _, F6, acc, es, ys, x6, Same.refl F6, d6, hD6, ra6, ql, by rw [eT, eT2, List.append_assoc]⟩, ?_⟩
        rintro j m1 H7 ⟨rfl, hj, F7, acc7, es7, ys7, x7, s7, d7, hD7, ra7, tot7, eT7⟩
        have w1 := wk1 F7 H7 s7 x7.i fun z => nomatch z
        by_cases hlt1 : j < ds1.length
        · obtain ⟨d1, hd1, hdr1⟩ := drop_of hlt1
          rw [hdr1] at tot7
          obtain ⟨env2, k2, qb1, qt1, alt1⟩ := lcL_inv tot7
          obtain ⟨go1, yl1⟩ := w1.1 j d1 hd1
          refine .inr ⟨go1, fun H8 => ∃ F8 acc8 es8 ys8, Ext F1 H1 F8 H8 ∧ Same F6 F8 ∧ F8 Da = none ∧ H8 Da = some (.lst acc8) ∧ Reps K F8 acc8 es8 ∧ lcL p1 vs1 t1 f (ds1.drop (j + 1)) env1 = .ok ys8 ∧ T = es8 ++ ys8 ++ T3, ?_, fun v1 H8 y1 => ?_⟩
          · rintro H8 ⟨F8, acc8, es8, ys8, h⟩
            exact ⟨ds1.length - (j + 1), by omega, rfl, hlt1, F8, acc8, es8, ys8, h⟩
          · obtain ⟨F8, e8, r8⟩ := yl1 v1 H8 y1
            have x8 := x7.trans e8
            have s8 : Same F6 F8 := s7.trans e8.f
            have ea8 := ea0 F8 H8 ((ea1.mono x8).wipe vs) ((e5.f.trans e6.f).trans s8)
            refine gPat_ok (ea8.wipe vs1) r8 qb1 fun σ5 ea9 hw1 => ⟨by rw [hw1 vs1 hp1, wipe_idem], H0, F8, env2, ea9, ?_⟩
            rw [qt1]
            intro kk F9 H9 e9 pk
            cases pk
            have x9 := x8.trans e9
            have s9 : Same F6 F9 := s8.trans e9.f
            have d9 : F9 Da = none := e9.keep (e8.h _ _ hD7) rfl (e8.keep hD7 rfl d7)
            have hD9 : H9 Da = some (.lst acc7) := e9.h _ _ (e8.h _ _ hD7)
            have ra9 := ra7.mono (e8.f.trans e9.f)
            rcases alt1 with ⟨rfl, tot8⟩ | ⟨rfl, yd, ys8, qf, eys, tot8⟩
            · exact ⟨F9, acc7, es7, ys7, x9, s9, d9, hD9, ra9, tot8, eT7⟩
            · refine ⟨H0, F9, env2, ea9.mono e9, ?_⟩
              rw [qf]
              intro yv F10 H10 e10 ry
              have hD10 := e10.h _ _ hD9
              have d10 := e10.keep hD9 rfl d9
              subst eys
              have hlen : es7.length < T.length := by rw [eT7]; simp
              refine ⟨acc7, hD10, by rw [ra7.length]; omega, F10, acc7 ++ [yv], es7 ++ [yd], ys8, lcTurn (K := K) (es := es7) nD (x9.trans e10) d10 yv, s9.trans e10.f, d10, upd_same, (ra9.mono e10.f).snoc ry, tot8, by rw [eT7]; simp⟩
        · have e : j = ds1.length := by omega
          subst e
          rw [List.drop_length] at tot7
          cases tot7
          refine .inl ⟨w1.2, F7, acc7, es7, T3, x7, d7, hD7, ra7, tot2, by rw [eT7]; simp⟩
  · have e : i = ds.length := by omega
    subst e
    rw [List.drop_length] at tot
    cases tot
    rw [List.append_nil] at eT
    subst eT
    exact .inl ⟨w.2, gT _ F2 H2 x2 ⟨Da, acc, rfl, nD, fD, hD, by rw [ra.length]; exact hTs, ra⟩⟩

theorem pd_lc2 {bb : Bool} {elt iter tg1 iter1 : Expr} {ifs ifs1 : List Expr} {scope : Scope} {own : List (Str × Nat)} {vs1 : List Nat} {p p1 : Pat} {t t1 : EnvD → R Bool} {f : EnvD → R D} {src src1 : EnvD → R (List D)} (hc : X.calm = true) (hN : X.N.Nodup) (hi : PDI X cls W bb tg iter src) (ok : BlkOk X.N X.env.scope scope own)
    (hv : (vs1.all fun i => (own.map (·.2)).contains i) = true)
    (hg : ∀ (s : Shared) (H : Hp) (C : Addr) (cl : List (Str × Addr)) (fp : List Addr), PG (X.blk s H scope (compEnvC scope cl C X.env) fp) tg (gPat X.K p))
    (ht : ∀ (s : Shared) (H : Hp) (C : Addr) (cl : List (Str × Addr)) (fp : List Addr), PTs (X.blk s H scope (compEnvC scope cl C X.env) fp) ifs (tG X.K cls W0 pT t))
    (hi1 : ∀ (s : Shared) (H : Hp) (C : Addr) (cl : List (Str × Addr)) (fp : List Addr), PI (X.blk s H scope (compEnvC scope cl C X.env) fp) tg1 iter1 (tG X.K cls W0 (pI X.K false) src1))
    (hg1 : ∀ (s : Shared) (H : Hp) (C : Addr) (cl : List (Str × Addr)) (fp : List Addr), PG (X.blk s H scope (compEnvC scope cl C X.env) fp) tg1 (gPat X.K p1))
    (ht1 : ∀ (s : Shared) (H : Hp) (C : Addr) (cl : List (Str × Addr)) (fp : List Addr), PTs (X.blk s H scope (compEnvC scope cl C X.env) fp) ifs1 (tG X.K cls W0 pT t1))
    (he : ∀ (s : Shared) (H : Hp) (C : Addr) (cl : List (Str × Addr)) (fp : List Addr), PE (X.blk s H scope (compEnvC scope cl C X.env) fp) elt (tG X.K cls W0 (pV X.K) f))
    (hp : (p.ix.all fun i => (own.map (·.2)).contains i) = true) (hp1 : (p1.ix.all fun i => vs1.contains i) = true) (hs : ∀ x, foldedSetIterable iter X.env x = pure x := by intro _; rfl) (hs1 : ∀ env x, foldedSetIterable iter1 env x = pure x := by intro _ _; rfl) :
    PDE X cls W (pN X.K) (.ListComp elt [⟨tg, iter, ifs, 0⟩, ⟨tg1, iter1, ifs1, 0⟩] scope pos) (lc2F p (own.map (·.2)) t src1 p1 vs1 t1 f src) :=
  pe_imp (pe_lc2 hc hN hi ok (fun i hi => by simpa using List.all_eq_true.mp hv i hi) hg ht hi1 hg1 ht1 he hs hs1) fun σ H Q h => lc2_read (fun i hi => by simpa using List.all_eq_true.mp hp i hi) (fun i hi => by simpa using List.all_eq_true.mp hp1 i hi) h
theorem pds_setLc2 {bb : Bool} {i : Nat} {y : Str} {py : Pos} {elt iter tg1 iter1 : Expr} {ifs ifs1 : List Expr} {scope : Scope} {own : List (Str × Nat)} {vs1 : List Nat} {p p1 : Pat} {t t1 : EnvD → R Bool} {f : EnvD → R D} {src src1 : EnvD → R (List D)} {spos : Pos} (hc : X.calm = true) (hN : X.N.Nodup)
    (hy : X.N[i]? = some y) (hyl : X.env.scope.names.lookup y = some .local)
    (hsw : swapsWith (.ListComp elt [⟨tg, iter, ifs, 0⟩, ⟨tg1, iter1, ifs1, 0⟩] scope pos) (some (.Name y py)) spos.line X.env = pure true) (hi : PDI X cls W bb tg iter src) (ok : BlkOk X.N X.env.scope scope own)
    (hv : (vs1.all fun i => (own.map (·.2)).contains i) = true)
    (hg : ∀ (s : Shared) (H : Hp) (C : Addr) (cl : List (Str × Addr)) (fp : List Addr), PG (X.blk s H scope (compEnvC scope cl C X.env) fp) tg (gPat X.K p))
    (ht : ∀ (s : Shared) (H : Hp) (C : Addr) (cl : List (Str × Addr)) (fp : List Addr), PTs (X.blk s H scope (compEnvC scope cl C X.env) fp) ifs (tG X.K cls W0 pT t))
    (hi1 : ∀ (s : Shared) (H : Hp) (C : Addr) (cl : List (Str × Addr)) (fp : List Addr), PI (X.blk s H scope (compEnvC scope cl C X.env) fp) tg1 iter1 (tG X.K cls W0 (pI X.K false) src1))
    (hg1 : ∀ (s : Shared) (H : Hp) (C : Addr) (cl : List (Str × Addr)) (fp : List Addr), PG (X.blk s H scope (compEnvC scope cl C X.env) fp) tg1 (gPat X.K p1))
    (ht1 : ∀ (s : Shared) (H : Hp) (C : Addr) (cl : List (Str × Addr)) (fp : List Addr), PTs (X.blk s H scope (compEnvC scope cl C X.env) fp) ifs1 (tG X.K cls W0 pT t1))
    (he : ∀ (s : Shared) (H : Hp) (C : Addr) (cl : List (Str × Addr)) (fp : List Addr), PE (X.blk s H scope (compEnvC scope cl C X.env) fp) elt (tG X.K cls W0 (pV X.K) f))
    (hp : (p.ix.all fun i => (own.map (·.2)).contains i) = true) (hp1 : (p1.ix.all fun i => vs1.contains i) = true) (hs : ∀ x, foldedSetIterable iter X.env x = pure x := by intro _; rfl) (hs1 : ∀ env x, foldedSetIterable iter1 env x = pure x := by intro _ _; rfl) :
    PS X (.Assign [.Name y py] (.ListComp elt [⟨tg, iter, ifs, 0⟩, ⟨tg1, iter1, ifs1, 0⟩] scope pos) spos) (tAsg (tG X.K cls W (pN X.K) (lc2F p (own.map (·.2)) t src1 p1 vs1 t1 f src)) (gName i)) :=
  ps_imp (ps_setLc2 hc hN hy hyl hsw hi ok (fun i hi => by simpa using List.all_eq_true.mp hv i hi) hg ht hi1 hg1 ht1 he hs hs1) fun D σ H h => lc2_read (fun i hi => by simpa using List.all_eq_true.mp hp i hi) (fun i hi => by simpa using List.all_eq_true.mp hp1 i hi) h
end
/-! ### dicts -/
def keyEq1 : D → D → Bool
  | .int i, .int j => decide (i = j)
  | .str x, .str y => decide (x = y)
  | _, _ => false
def keysEq : List D → List D → Bool
  | [], [] => true
  | a :: as, b :: bs => keyEq1 a b && keysEq as bs
  | _, _ => false
def keyEq : D → D → Bool
  | .itm xs, .itm ys => keysEq xs ys
  | a, b => keyEq1 a b
def toKey : D → Option Key
  | .int i => some (.inl i)
  | .str x => some (.inr x)
  | _ => none
def toKeys : List D → Option (List Key)
  | [] => some []
  | d :: ds => match toKey d, toKeys ds with
    | some k, some ks => some (k :: ks)
    | _, _ => none
def isKey (t : Bool) : D → Bool
  | .itm xs => t && (toKeys xs).isSome
  | d => !t && (toKey d).isSome
theorem toKey_eq {d : D} {k : Key} (h : toKey d = some k) : d = kD k := by cases d <;> first | (cases h; rfl) | cases h
theorem toKeys_eq : ∀ {ds : List D} {ks : List Key}, toKeys ds = some ks → ds = ks.map kD
  | [], _, h => by cases h; rfl
  | d :: ds, ks, h => by
    unfold toKeys at h
    split at h
    · rename_i k ks' h1 h2
      cases h
      rw [toKey_eq h1, toKeys_eq h2]; rfl
    · cases h
theorem keyEq1_k (a b : Key) : keyEq1 (kD a) (kD b) = decide (a = b) := by
  cases a <;> cases b <;> simp [keyEq1, kD]
theorem keysEq_k : ∀ (a b : List Key), keysEq (a.map kD) (b.map kD) = decide (a = b)
  | [], [] => by simp [keysEq]
  | [], b :: bs => by simp [keysEq]
  | a :: as, [] => by simp [keysEq]
  | a :: as, b :: bs => by
    simp only [List.map_cons, keysEq, keyEq1_k, keysEq_k as bs]
    by_cases h1 : a = b <;> by_cases h2 : as = bs <;> simp [h1, h2]
theorem keyEq_k (a b : Key) : keyEq (kD a) (kD b) = decide (a = b) := by
  rw [← keyEq1_k]; cases a <;> cases b <;> rfl
theorem keyEq_t (a b : List Key) : keyEq (.itm (a.map kD)) (.itm (b.map kD)) = decide (a = b) := keysEq_k a b
def dPutV : List D → List D → D → D → List D
  | k :: ks, v :: vs, x, y => (if keyEq k x = true then y else v) :: dPutV ks vs x y
  | _, _, _, _ => []
def dPut (ks vs : List D) (x y : D) : List D × List D := if ks.any (fun k => keyEq k x) = true then (ks, dPutV ks vs x y) else (ks ++ [x], vs ++ [y])
def dFind : List D → List D → D → Option D
  | k :: ks, v :: vs, x => if keyEq k x = true then some v else dFind ks vs x
  | _, _, _ => none
section
variable {K : PySem.W.Frag} {F : Hp} {κ : Type} [DecidableEq κ] {φ : κ → D}
theorem putK_reps (hφ : ∀ a b, keyEq (φ a) (φ b) = decide (a = b)) {kvs : List (κ × V)} {vs : List D} {k : κ} {v : V} {d : D} (h : Reps K F (kvs.map (·.2)) vs) (r : Rep K F v d) :
    (putK kvs k v).map (fun p => φ p.1) = (dPut (kvs.map fun p => φ p.1) vs (φ k) d).1 ∧ Reps K F ((putK kvs k v).map (·.2)) (dPut (kvs.map fun p => φ p.1) vs (φ k) d).2 := by
  have any : (kvs.map fun p => φ p.1).any (fun k' => keyEq k' (φ k)) = kvs.any fun kv => decide (kv.1 = k) := by
    rw [List.any_map]
    congr 1
    funext p
    exact hφ _ _
  unfold putK dPut
  rw [any]
  by_cases q : (kvs.any fun kv => decide (kv.1 = k)) = true
  · simp only [q, if_true]
    refine ⟨?_, ?_⟩
    · rw [List.map_map]
      apply List.map_congr_left
      intro p _
      show φ (if p.1 = k then (p.1, v) else p).1 = φ p.1
      split <;> rfl
    · clear q any
      induction kvs generalizing vs with
      | nil => exact .nil
      | cons p ps ih =>
        cases h with
        | cons a b =>
          simp only [List.map_cons, dPutV, hφ]
          refine .cons ?_ (ih b)
          by_cases e : p.1 = k
          · simp [e]; exact r
          · simp [e]; exact a
  · simp only [q]
    refine ⟨by simp, ?_⟩
    simpa using h.snoc r
theorem reps_keys : ∀ {ks : List Key} {xs : List V}, Reps K F xs (ks.map kD) → xs = ks.map kV
  | [], _, h => by cases h; rfl
  | c :: cs, _, h => by
    cases h with
    | cons a b => rw [reps_keys b]; cases c <;> (cases a; rfl)
theorem find_reps (hφ : ∀ a b, keyEq (φ a) (φ b) = decide (a = b)) : ∀ {kvs : List (κ × V)} {vs : List D} {k : κ} {d : D}, Reps K F (kvs.map (·.2)) vs → dFind (kvs.map fun p => φ p.1) vs (φ k) = some d → ∃ v, valV kvs k = some v ∧ Rep K F v d
  | [], vs, k, d, h, e => by simp [dFind] at e
  | p :: ps, _, k, d, h, e => by
    cases h with
    | cons a b =>
      simp only [List.map_cons, dFind, hφ] at e
      by_cases q : p.1 = k
      · simp [q] at e; subst e; exact ⟨_, valV_pos q, a⟩
      · simp [q] at e
        obtain ⟨v, h1, h2⟩ := find_reps hφ b e
        exact ⟨v, by rw [valV_neg q]; exact h1, h2⟩
end
def newK : EnvD → R (Bool × List D × List D) := fun _ => .ok (false, [], [])
def newT : EnvD → R (Bool × List D × List D) := fun _ => .ok (true, [], [])
section
variable {X : Cx} {cls : Exc → Addr} {W : WX} {e a b c tg : Expr} {pos : Pos} {st : Stmt}
theorem pd_newK : PDE X cls W (pM X.K) (.Dict [] [] pos) newK := pe_imp pe_dnewK fun σ H Q ⟨H0, F, env, ea, g⟩ => fun p hp =>
  g _ F _ (Ext.newH ea.fh hp) ⟨p, _, rfl, hp, ea.fh.free hp, upd_same, .k (kvs := []) (vs := []) (Nat.zero_le _) .nil⟩
theorem pd_newT : PDE X cls W (pM X.K) (.Dict [] [] pos) newT := pe_imp pe_dnewT fun σ H Q ⟨H0, F, env, ea, g⟩ => fun p hp =>
  g _ F _ (Ext.newH ea.fh hp) ⟨p, _, rfl, hp, ea.fh.free hp, upd_same, .t (kvs := []) (vs := []) (fun q hq => by cases hq) (Nat.zero_le _) .nil⟩
def dputS (i : Nat) (fk fv : EnvD → R D) : EnvD → Out := fun env => bindS (fv env) env fun v => match env[i]? with
  | some (.ownd t ks vs) => bindS (fk env) env fun k => if isKey t k = true ∧ small (ks.length + 1) = true then .next (env.set i (.ownd t (dPut ks vs k v).1 (dPut ks vs k v).2)) else .bad
  | _ => .bad
theorem pds_dput {i : Nat} {fk fv : EnvD → R D} (h : PS X st (sDPut (tVar i) (tG X.K cls W (pV X.K) fk) (tG X.K cls W (pV X.K) fv))) : PDS X cls W st (dputS i fk fv) := ps_imp h fun D σ H ⟨H0, F0, env, F, x, ea, g⟩ =>
  ⟨H0, F, env, ea, (g.expr x ea).imp fun v H1 ⟨F1, dv, _, e1, rv, g1⟩ => by
    have ea1 := ea.mono e1
    have x1 := x.trans e1
    cases q : env[i]? with
    | none => rw [q] at g1; exact g1.elim
    | some s =>
      rw [q] at g1
      cases s with
      | ownd t ks vs =>
        obtain ⟨p, u, h1, h2, h3, h4, h5⟩ := ea1.at_ i _ q
        refine ⟨.ref p, getD_some h1, H0, F1, env, ea1, (g1.expr x1 ea1).imp fun kv H2 ⟨F2, dk, _, e2, rk, g2⟩ => ?_⟩
        have ea2 := ea1.mono e2
        have x2 := x1.trans e2
        by_cases hz : isKey t dk = true ∧ small (ks.length + 1) = true
        · rw [if_pos hz] at g2
          have hz2 := small_ok hz.2
          have hp2 := e2.h _ _ h4
          have fp2 := e2.keep h4 h5.isMut h3
          have rv2 := Rep.mono rv e2.f
          have h52 := h5.mono e2.f
          clear h5
          have h6 := h52
          cases h52 with
          | @k kvs vs' l r =>
            obtain ⟨k, hk⟩ : ∃ k, dk = kD k ∧ kv = kV k := by
              have z := hz.1
              unfold isKey at z
              cases rk with
              | int i => exact ⟨.inl i, rfl, rfl⟩
              | str x => exact ⟨.inr x, rfl, rfl⟩
              | _ => simp [toKey] at z
            obtain ⟨rfl, rfl⟩ := hk
            have P := putK_reps (φ := kD) keyEq_k (k := k) r rv2
            have hlen : (putK kvs k v).length ≤ sizeLine := by
              have : (putK kvs k v).length ≤ kvs.length + 1 := by unfold putK; split <;> simp
              simp at hz2; omega
            have D2 := DicAt.k (K := X.K) (F := F2) hlen P.2
            rw [P.1] at D2
            refine ⟨p, _, rfl, DPut.k (k := k) hp2 (by simp at hz2; omega), g2 σ F2 _ (mut_ext (o := .dK kvs) x2 h2 fp2) (Same.refl F2) (ea2.mut q rfl h1 ⟨p, _, rfl, h2, fp2, upd_same, D2⟩)⟩
          | @t kvs vs' kl l r =>
            obtain ⟨k, bA, hk, hkv, hb, hkl⟩ : ∃ (k : List Key) (bA : Addr), dk = .itm (k.map kD) ∧ kv = .ref bA ∧ F2 bA = some (.tup (k.map kV)) ∧ k.length ≤ sizeLine := by
              have z := hz.1
              cases rk with
              | @itm bA xs ds y1 y2 y3 =>
                simp [isKey] at z
                obtain ⟨k, hk⟩ := Option.isSome_iff_exists.mp z
                have := toKeys_eq hk
                subst this
                have : xs = k.map kV := reps_keys y3
                subst this
                exact ⟨k, bA, rfl, rfl, y1, by simpa using y2⟩
              | _ => simp [isKey] at z
            subst hk hkv
            have P := putK_reps (φ := fun k : List Key => PD.D.itm (k.map kD)) keyEq_t (k := k) r rv2
            have hlen : (putK kvs k v).length ≤ sizeLine := by
              have : (putK kvs k v).length ≤ kvs.length + 1 := by unfold putK; split <;> simp
              simp at hz2; omega
            have kl2 : ∀ q ∈ putK kvs k v, q.1.length ≤ sizeLine := fun q hq => by
              unfold putK at hq
              split at hq
              · obtain ⟨q', hq', e⟩ := List.mem_map.mp hq
                rw [← e]
                split
                · exact kl q' hq'
                · exact kl q' hq'
              · rcases List.mem_append.mp hq with hq | hq
                · exact kl q hq
                · rw [List.mem_singleton.mp hq]; exact hkl
            have D2 := DicAt.t (K := X.K) (F := F2) kl2 hlen P.2
            rw [P.1] at D2
            refine ⟨p, _, rfl, DPut.t (k := k) hp2 (e2.i _ _ hb) (by simp at hz2; omega), g2 σ F2 _ (mut_ext (o := .dT kvs) x2 h2 fp2) (Same.refl F2) (ea2.mut q rfl h1 ⟨p, _, rfl, h2, fp2, upd_same, D2⟩)⟩
        · rw [if_neg hz] at g2; exact g2.elim
      | no => exact g1.elim
      | val d => exact g1.elim
      | own ds => exact g1.elim⟩
end
end PD

set_option maxHeartbeats 4000000
namespace PD
open PySem PySem.Spec PyProof.Rows L2
/-- the built-ins' names are not set -/
structure Bi (mg : Str → Option Value) : Prop where
  len : mg "len" = none
  all : mg "all" = none
  any : mg "any" = none
  isinstance : mg "isinstance" = none
  tuple : mg "tuple" = none
  list : mg "list" = none
  range : mg "range" = none
  sorted : mg "sorted" = none
  enumerate : mg "enumerate" = none
  max : mg "max" = none
  min : mg "min" = none
  set : mg "set" = none
  dict : mg "dict" = none
  zip : mg "zip" = none
  bool : mg "bool" = none
  int : mg "int" = none
  abs : mg "abs" = none
  sum : mg "sum" = none
  str : mg "str" = none
section
variable {k : Nat} {A : Around}
theorem room0 (h : Room k A) : A.units < cLine := by have := h.un; omega
theorem room1 (h : Room k A) : A.units + 1 < cLine := by have := h.un; omega
theorem room8 (h : Room k A) : A.units + 8 < cLine := by have := h.un; omega
theorem room64 (h : Room k A) : A.units + 64 < cLine := by have := h.un; omega
theorem room65 (h : Room k A) : A.units + 65 < cLine := by have := h.un; omega
end
section
variable {X : Cx} {cls : Exc → Addr} {W : WX} {st : Stmt}
theorem asgNV {i : Nat} {f : EnvD → R (List D)} (h : PS X st (tAsg (tG X.K cls W (pN X.K) f) (gName i))) : PS X st (tAsg (tG X.K cls W (pV X.K) (mkL f)) (gName i)) := ps_imp h fun D σ H ⟨H0, F, env, ea, g⟩ => ⟨H0, F, env, ea, by
  unfold mkL at g
  cases q : f env with
  | ok d =>
    rw [q] at g
    rintro v F' H' x ⟨p, xs, rfl, h1, h2, h3, h4, h5⟩
    exact g _ (upd F' p (.lst xs)) H' (x.frz h1 h3 h2) (.lst upd_same h4 (h5.mono (Same.updN h2)))
  | err c => rw [q] at g; exact g
  | bad => rw [q] at g; exact g⟩
theorem blk_of {X : Cx} {N' : List Str} {sc scope : Scope} {own : List (Str × Nat)} (hN : X.N = N') (hS : X.env.scope = sc) (hk : scope.kind = .function)
    (h : (∀ y ∈ scope.names, scope.names.lookup y.1 = some y.2) ∧ (∀ p ∈ own, N'[p.2]? = some p.1) ∧ (∀ y ∈ scope.names, y.2 = .free → sc.names.lookup y.1 = some .cell ∨ sc.names.lookup y.1 = some .free) ∧ (∀ y ∈ scope.names, y.2 = .local ∨ y.2 = .cell → y.1 ∈ own.map (·.1) ∨ y.1 ∉ N')) : BlkOk X.N X.env.scope scope own := by
  rw [hN, hS]; exact ⟨hk, h.1, h.2.1, h.2.2.1, h.2.2.2⟩
def frzS (i : Nat) (G : EnvD → Out) : EnvD → Out := fun env => G (frzE i env)
end
/-- the end: as L2.walk_ofE, what is let out told by the World -/
theorem walk_ofX {l : PySem.W.OpenLaw} {n k : Nat} {q : Program} {loose : List Str} {XP : (Str → Option Value) → Heap → Prop} {YP : World → Heap → Prop} {d : DefRec} {CX : World → CXT} {x : Str}
    (hn : l.most = some n) (hn2 : n ≤ sizeLine) (hdf : d.params.defaults = []) (hr : Room k callerA)
    (F : ∀ (w : World) (mg : Str → Option Value) (fa : Addr) (h : Heap), YP w h → h.Ns mainGlobals mg → mg d.name = some (.ref fa) →
      ∃ (K : PySem.W.Frag) (fd : FuncData) (sp : Sp), K.In h ∧ (∀ (s : Shared) (u : Value), BindsTo s fd ⟨[u], []⟩ [(x, u)]) ∧
        (∀ (H : Hp) (a : Addr) (ns : List Int), ns.length ≤ n → Only H → SqL K H a (ns.map V.int) → sp [.ref a] H (fun v _ => v = .bl true) fun _ _ _ => False) ∧
        ∀ base : Heap, K.In base → base.Ns mainGlobals mg → FnOk l.prog w K mg base (CX w) k fa fd [x] sp)
    (hCX : ∀ (w : World) (H : Hp) (s : Shared) (e : Value) (s' : Shared), CX w [] H s (fun _ _ _ => False) e s' → False) :
    PySem.W.WalkO q loose XP YP l.row.toRowW d [] (fun f vs => PySem.call f vs) := by
  refine Att.attach_call hn hdf fun w s₀ s₁ mg mb fa o pm cd doc a vs ns G Y ho hd hcd hmg hobj hints hlen hg => ?_
  obtain ⟨K, fd, sp, KX, hb, hsp, hF⟩ := F w mg fa _ Y G.T.g hmg
  exact law_call KX G.T.g G.T.b G.T.builtins G.T.nolimit hg hobj hints (Nat.le_trans hlen hn2) hr hF hb (fun H hO hS => hsp H a ns hlen hO hS) fun H e s' => hCX w H s₁ e s'
/-- the law's promise from its pure function -/
theorem law_sp {K : PySem.W.Frag} {cls : Exc → Addr} {fn : List D → R D} (h : ∀ ns : List Int, ns.length ≤ 63 → fn [.scr ns] = .ok (.bl true)) {H : Hp} {a : Addr} {ns : List Int} (hl : ns.length ≤ 63) (hS : SqL K H a (ns.map V.int)) :
    spD K cls 1 fn [.ref a] H (fun v _ => v = .bl true) fun _ _ _ => False := by
  refine ⟨rfl, H, [.scr ns], Same.refl H, .cons (.scr hS hl) .nil, ?_⟩
  rw [h ns hl]
  intro v F' H' _ r
  cases r; rfl
end PD

set_option maxHeartbeats 4000000
namespace PD
open PySem PySem.Spec PyProof.Rows L2
/-! ### set(xs) of a list of ints -/
section
variable {P : Program} {w : World} {A : Around} {E : Value → Shared → Prop} {s : Shared}
set_option maxHeartbeats 6400000 in
theorem call_set_listI {l : Addr} {items : Array Value} (ns : List Int) {Q : Value → Shared → Prop} (hh : A.handled = none) (hl : s.heap.IsList l items) (hit : IntsAre items.toList ns) (hb : ns.length + 1 < scanBound)
    (h : ∀ (h' : Heap) (tk c : Nat), SetR w h' s.heap.objs.size (fun j => decide (j ∈ ns)) c → c ≤ ns.length → (∀ b o, s.heap.get? b = some o → h'.get? b = some o) → Q (.ref s.heap.objs.size) { s with heap := h', toks := tk }) :
    wpAny (model P w) A (call (.type "set") [.ref l]) Q E s := by
  have hisz : items.size = ns.length := by
    have q := IntsAre.length hit
    rw [Array.length_toList] at q
    exact q
  obtain ⟨c, tl, hmro⟩ := F.called_set.mro
  have hmade := F.called_set.made
  have hsub := F.called_set.sub
  refine wpAny_call (codeAny_of_tree ?_)
  show wpAny _ _ (callAny (.type "set") _) _ _ _
  refine wpAny_pure ⟨Code.quiet_builtin _ (by decide +kernel), codeAny_builtin F.entry_type_call ?_⟩
  rw [Around.under_plain (weight_type_call_type "set" [.ref l] []) rfl]
  have h1 := F.called_set.notType
  have h2 := F.called_set.canCreate
  have hct := F.typeCall_set_1 (.ref l)
  repeat (any_goals (first | assumption | wp_step))

  refine codeAny_mono (code_set_led1 (.ref l) (E := E) (Q₁ := fun obj s₁ => obj = .ref s.heap.objs.size ∧ s₁ = { s with heap := s.heap.push { cls := .type "set", dict := none, data := .set #[] 0 (.fresh 0 0 (!w.params.followText "set-order")) } }) ⟨rfl, rfl⟩) fun r s₁ hr => ?_
  cases r with
  | error e => exact hr
  | ok fl =>
    cases fl with
    | ret obj =>
      obtain ⟨rfl, rfl⟩ := hr
      have hS : (s.heap.push { cls := .type "set", dict := none, data := .set #[] 0 (.fresh 0 0 (!w.params.followText "set-order")) }).get? s.heap.objs.size = some { cls := .type "set", dict := none, data := .set #[] 0 (.fresh 0 0 (!w.params.followText "set-order")) } := Heap.get?_push_size _ rfl
      have hT : Shared.TypeIs { s with heap := s.heap.push { cls := .type "set", dict := none, data := .set #[] 0 (.fresh 0 0 (!w.params.followText "set-order")) } } (.ref s.heap.objs.size) "set" := ⟨_, hS, rfl⟩
      have hli := F.called_set.init.lookup
      have hbi := F.called_set.init.bind (.ref s.heap.objs.size)
      repeat (any_goals (first | assumption | wp_step))

      refine codeAny_mono (codeAny_call_builtin (R := wants (fun r s₂ => r = .none ∧ ∃ h' tk c, s₂ = { s with heap := h', toks := tk } ∧ SetR w h' s.heap.objs.size (fun j => decide (j ∈ ns)) c ∧ c ≤ ns.length ∧
          (∀ b o, s.heap.get? b = some o → h'.get? b = some o)) E) F.called_set.init.plain F.entry_set_init (check_set_init_1 hT ?_)) fun r₂ s₂ hr₂ => ?_
      · obtain ⟨ol, hol, hcl, nl, hdl⟩ := hl
        obtain ⟨ocls, odict, odata, oslots⟩ := ol
        simp only at hcl hdl
        subst hcl; subst hdl
        have hol' : (s.heap.push { cls := .type "set", dict := none, data := .set #[] 0 (.fresh 0 0 (!w.params.followText "set-order")) }).get? l = some { cls := .type "list", dict := odict, data := .seq items nl, slots := oslots } := Heap.get?_push_of_some _ hol
        have hsls := F.sub_list_set
        have hslf := F.sub_list_frozenset
        have hne : (Value.type "list" == Value.type "dict") = false := by decide
        have hl1 : (s.heap.push { cls := .type "set", dict := none, data := .set #[] 0 (.fresh 0 0 (!w.params.followText "set-order")) }).IsList l items := ⟨_, hol', rfl, nl, rfl⟩
        unfold Builtin.«set.__init__» noKeywords Builtin.Frozenset.updateFrom
        generalize hPI : pyIter = PI
        wp_walk
        subst hPI

        refine wpAny_pyIter_list hl1 ?_
        refine wpAny_bind (wpAny_runValue ?_)
        have hlS : l < s.heap.objs.size := Heap.lt_size hol
        have hh3 : A.in1.in1.in1.handled = none := by simp [hh]
        have hz1 : (s.heap.push { cls := .type "set", dict := none, data := .set #[] 0 (.fresh 0 0 (!w.params.followText "set-order")) }).objs.size = s.heap.objs.size + 1 := Heap.size_push ..
        have hneI : l ≠ (s.heap.push { cls := .type "set", dict := none, data := .set #[] 0 (.fresh 0 0 (!w.params.followText "set-order")) }).objs.size := by
          rw [Heap.size_push]; exact Nat.ne_of_lt (Nat.lt_succ_of_lt hlS)
        have hSf : s.heap.objs.size ∉ [(s.heap.push { cls := .type "set", dict := none, data := .set #[] 0 (.fresh 0 0 (!w.params.followText "set-order")) }).objs.size, l] := by
          rw [Heap.size_push]; simp only [List.mem_cons, List.mem_singleton, List.not_mem_nil, or_false, not_or]
          exact ⟨Nat.ne_of_lt (Nat.lt_succ_self _), Nat.ne_of_gt hlS⟩
        have hval : ∀ (i : Nat) (v : Value), items[i]? = some v → ∃ k t, ns[i]? = some k ∧ v = .int k t := fun i v hv => by
          have hi : i < ns.length := by rw [← hisz]; exact (Array.getElem?_eq_some_iff.mp hv).1
          obtain ⟨t, e⟩ := PyProof.Rows.IntsAre.int_at hit i v (by rw [Array.getElem?_toList]; exact hv)
          refine ⟨ns[i], t, List.getElem?_eq_getElem hi, ?_⟩
          rw [e, List.getD_eq_getElem?_getD, List.getElem?_eq_getElem hi] <;> rfl
        refine set_update_ints ((Walks.list hh3 _ l hneI items).toS) s.heap.objs.size
          hSf ns hisz hb hval (items.size - 0) 0 _ (by omega) (Nat.zero_le _)
          ⟨⟨_, Heap.get?_push_size _ rfl, rfl, rfl⟩, (hl1.push _)⟩ ?hS0 ?hR
        case hS0 =>
          have hget : ((s.heap.push { cls := .type "set", dict := none, data := .set #[] 0 (.fresh 0 0 (!w.params.followText "set-order")) }).push { cls := .type "list_iterator", data := .fields #[.ref l, .int 0 0] }).get? s.heap.objs.size
              = some { cls := .type "set", dict := none, data := .set #[] 0 (.fresh 0 0 (!w.params.followText "set-order")) } := Heap.get?_push_of_some _ hS
          exact ⟨0, Nat.le_refl 0, setR_new_at hget⟩
        case hR =>
          intro s' c' hm hc' hS'
          obtain ⟨h', g2, d', tk', os'⟩ := s'
          have eg : g2 = s.gens := hm.gens
          have ed : d' = s.drawn := hm.drawn
          have eo : os' = s.os := hm.os
          subst eg; subst ed; subst eo
          show wpAny _ _ _ _ _ _
          refine wpAny_pure ?_
          show wpAny _ _ (ret Value.none) _ _ _
          rw [hisz] at hc'
          refine wpAny_pure ⟨rfl, h', tk', c', rfl, hS', hc', fun b o e => ?_⟩
          have hb0 : b < s.heap.objs.size := Heap.lt_size e
          have hb1 : b ≠ s.heap.objs.size := Nat.ne_of_lt hb0
          have hb2 : b ≠ (s.heap.push { cls := .type "set", dict := none, data := .set #[] 0 (.fresh 0 0 (!w.params.followText "set-order")) }).objs.size := by
            rw [Heap.size_push]; exact Nat.ne_of_lt (Nat.lt_succ_of_lt hb0)
          exact hm.heap b o (by simp only [List.mem_cons, List.mem_singleton, List.not_mem_nil, or_false, not_or]; exact ⟨hb1, hb2⟩) (Heap.get?_push_of_some _ (Heap.get?_push_of_some _ e))

      · cases r₂ with
        | error e => exact hr₂
        | ok fl₂ =>
          cases fl₂ with
          | ret r =>
            obtain ⟨rfl, h', tk, c', rfl, hS', hc', hk'⟩ := hr₂
            repeat (any_goals (first | assumption | wp_step))
            exact h _ _ _ hS' hc' hk'
          | _ => exact hr₂.elim
    | _ => exact hr.elim

end
theorem ints_vals : ∀ {ns : List Int} {us : List Value}, Vals (ns.map V.int) us → IntsAre us ns
  | [], _, .nil => .nil
  | n :: ns, _, .cons r t => by
    obtain ⟨k, rfl⟩ := r
    exact .cons n k (ints_vals t)
section
variable {X : Cx}
def rSetL (K : PySem.W.Frag) (w : World) : List V → Hp → VK → Prop := fun xs H Q => ∃ (l : Addr) (ns : List Int), xs = [V.ref l] ∧ SqL K H l (ns.map V.int) ∧ ns.length + 1 < scanBound ∧
  ∀ p c, H p = none → c ≤ ns.length → Q (.ref p) (upd H p (SetO w p (fun j => decide (j ∈ ns)) c))
theorem cr_setL (hc : X.calm = true) : CallR X (.type "set") (rSetL X.K X.w) := by
  intro pins s σ H xs us Q I r h
  obtain ⟨l, ns, rfl, hl, hb, q⟩ := h
  rw [Vals.ref1 r]
  obtain ⟨its, rv, pl, hz⟩ := I.list hl
  refine call_set_listI (w := X.w) ns (I.ok.hd hc) pl.isList (by simpa using ints_vals rv) hb fun h' tk c R hc' k => ?_
  exact ⟨.ref s.heap.objs.size, upd H s.heap.objs.size (SetO X.w s.heap.objs.size (fun j => decide (j ∈ ns)) c), I.laid (t' := tk) k (Nat.le_refl _) (setO_new R), rfl, q _ c (I.hok.fresh (Nat.le_refl _)) hc'⟩
end

/-! ### sorted(set(xs)) of ints -/
def insU (x : Int) : List Int → List Int
  | [] => [x]
  | y :: ys => if x < y then x :: y :: ys else if x = y then y :: ys else y :: insU x ys
def sdI : List Int → List Int
  | [] => []
  | x :: xs => insU x (sdI xs)
theorem insU_mem {x z : Int} : ∀ {l : List Int}, z ∈ insU x l ↔ z = x ∨ z ∈ l
  | [] => by simp [insU]
  | y :: ys => by
    unfold insU
    split
    · simp
    · split
      · rename_i h; subst h; simp
      · simp only [List.mem_cons, insU_mem (l := ys)]
        constructor <;> (intro h; rcases h with h | h | h <;> simp [h])
theorem insU_pair {x : Int} : ∀ {l : List Int}, l.Pairwise (· < ·) → (insU x l).Pairwise (· < ·)
  | [], _ => by simp [insU]
  | y :: ys, h => by
    obtain ⟨h1, h2⟩ := List.pairwise_cons.mp h
    unfold insU
    split
    · rename_i q
      exact List.pairwise_cons.mpr ⟨fun z hz => by
        rcases List.mem_cons.mp hz with e | hz
        · omega
        · have := h1 z hz; omega, h⟩
    · split
      · exact h
      · refine List.pairwise_cons.mpr ⟨fun z hz => ?_, insU_pair h2⟩
        rcases insU_mem.mp hz with e | hz
        · omega
        · exact h1 z hz
theorem sdI_mem {z : Int} : ∀ {l : List Int}, z ∈ sdI l ↔ z ∈ l
  | [] => by simp [sdI]
  | x :: xs => by simp only [sdI, insU_mem, sdI_mem (l := xs), List.mem_cons]
theorem sdI_pair : ∀ l : List Int, (sdI l).Pairwise (· < ·)
  | [] => List.Pairwise.nil
  | x :: xs => insU_pair (sdI_pair xs)
theorem sorted_uniq {l m : List Int} (hl : l.Pairwise (· < ·)) (hm : m.Pairwise (· < ·)) (h : ∀ z, z ∈ l ↔ z ∈ m) : l = m := by
  have nl : l.Nodup := List.Pairwise.imp (fun {a b} (h : a < b) (e : a = b) => by omega) hl
  have nm : m.Nodup := List.Pairwise.imp (fun {a b} (h : a < b) (e : a = b) => by omega) hm
  exact List.Perm.eq_of_pairwise (le := (· < ·)) (fun a b _ _ h1 h2 => by omega) hl hm ((List.perm_ext_iff_of_nodup nl nm).mpr h)
theorem insU_len (x : Int) (l : List Int) : (insU x l).length ≤ l.length + 1 := by
  induction l with
  | nil => simp [insU]
  | cons y ys ih => unfold insU; split <;> (try split) <;> simp <;> omega
theorem sdI_len : ∀ l : List Int, (sdI l).length ≤ l.length
  | [] => by simp [sdI]
  | x :: xs => by
    have := insU_len x (sdI xs)
    have := sdI_len xs
    simp only [sdI, List.length_cons]; omega
def sdD : List D → Option (List D)
  | [.lst ds] => match asInts ds with
    | some ns => if ns.length < 64 then some ((sdI ns).map D.int) else none
    | none => none
  | _ => none
section
variable {X : Cx} {cls : Exc → Addr} {W : WX} {a : Expr} {fs : EnvD → R (List D)} {p p2 pos pos2 : Pos}
theorem pd_sortSet (hc : X.calm = true) (hg : Gl X "sorted") (hm : X.mg "sorted" = none) (hg2 : Gl X "set") (hm2 : X.mg "set" = none) (ha : PDA X cls W (pB' X.K) [a] fs)
    (na : starEach [a] X.env = (false, eval a X.env) :: starEach [] X.env := by rfl) (na2 : starEach [.Call (.Name "set" p2) [a] [] pos2] X.env = (false, eval (.Call (.Name "set" p2) [a] [] pos2) X.env) :: starEach [] X.env := by rfl)
    (hpl : (backTo pos2 (starEach [] X.env)).any (·.1) = false := by rfl) (hpl2 : (backTo pos (starEach [] X.env)).any (·.1) = false := by rfl) :
    PDE X cls W (pN X.K) (.Call (.Name "sorted" p) [.Call (.Name "set" p2) [a] [] pos2] [] pos) (appL sdD fs) :=
  pe_imp (pe_callB (cr_sortedSet hc) hg hm boot_sorted (pa_cons (pe_callTy (cr_setL hc) hg2 hm2 boot_set ha (by decide) (by decide) na hpl) pa_nil na2) (by decide) (by decide) na2 hpl2) fun σ H Q ⟨H0, F, env, ea, g⟩ =>
    ⟨H0, F, env, ea, (Go.bind g).imp fun xs H1 ⟨F1, ds, _, e1, p1, g1⟩ => by
      obtain ⟨z, hz, g2⟩ := Go.ofO g1
      unfold sdD at hz
      split at hz
      · rename_i es
        split at hz
        · rename_i ns hns
          split at hz
          · rename_i h64
            cases hz
            rw [asInts_eq hns] at p1
            obtain ⟨v, rfl, r⟩ := repBs1 p1
            obtain ⟨l, ys, rfl, h1, h2, h3⟩ := repB_lst e1.i r
            rw [h3.of_ints] at h1
            refine ⟨l, ns, rfl, SqL.of h1, by unfold scanBound; omega, fun q c hq hc => ⟨q, _, c, rfl, upd_same, by omega, fun ms q2 hp hmem hlen hq2 => ?_⟩⟩
            have em : ms = sdI ns := sorted_uniq hp (sdI_pair ns) fun k => by rw [hmem, sdI_mem]; simp
            subst em
            have x1 : Ext F1 H1 F1 (upd H1 q (SetO X.w q (fun j => decide (j ∈ ns)) c)) := Ext.newH e1.i hq
            have x2 := x1.trans (Ext.newH (o := .lst ((sdI ns).map V.int)) x1.i hq2)
            have n2 : H1 q2 = none := by
              by_cases e : q2 = q
              · subst e; exact hq
              · rw [upd_ne e] at hq2; exact hq2
            exact g2 _ F1 _ x2 ⟨q2, _, rfl, n2, e1.i.free n2, upd_same, by have := sdI_len ns; simp [sizeLine_eq]; omega, .ints⟩
          · cases hz
        · cases hz
      · cases hz⟩
end
end PD

set_option maxHeartbeats 4000000
namespace PD
open PySem PySem.Spec PyProof.Rows L2
/-! ### methods of lists -/
def metL {α : Type} (f : List D → List D → Option α) (fo : EnvD → R D) (fs : EnvD → R (List D)) : EnvD → R α := fun env => (fo env).bind fun x => match x with
  | .lst xs => (fs env).bind fun ds => R.ofO (f xs ds)
  | _ => .bad
def LMet {α : Type} (P : PP V α) (K : PySem.W.Frag) (r : V → List V → Hp → VK → Prop) (f : List D → List D → Option α) : Prop :=
  ∀ F H p xs ds vs es z Q, Same F H → H p = some (.lst xs) → Reps K F xs ds → Reps K F vs es → f ds es = some z → (∀ v F' H', Ext F H F' H' → P.rel H F' H' v z → Q v H') → r (.ref p) vs H Q
section
variable {X : Cx} {cls : Exc → Addr} {W : WX} {o e : Expr} {es : List Expr} {fo : EnvD → R D} {fs : EnvD → R (List D)} {α : Type} {P : PP V α} {f : List D → List D → Option α} {r : V → List V → Hp → VK → Prop} {name : Str} {id : String} {apos cpos : Pos}
theorem pd_metL (slot : Slot "list" name id) (hty : typeOf (.builtin id) = pure (.type "method_descriptor")) (hm : MtR X id r) (hr : LMet P X.K r f) (ho : PDE X cls W (pB X.K) o fo) (ha : PDA X cls W (pA X.K) (e :: es) fs)
    (hbase : attributeBase o name X.env (eval o X.env) = eval o X.env := by rfl)
    (hfew : ((backTo cpos (starEach (e :: es) X.env)).all (fun x => !x.1) && (backToKw cpos (keywordEach [] X.env)).all (fun x => x.1.isSome)
      && decide ((e :: es).length + ([] : List Keyword).length + (if ([] : List Keyword).isEmpty then 0 else 1) < 30)) = true := by rfl)
    (hline : (apos.endLine == cpos.line) = true := by rfl) (hs : starEach (e :: es) X.env = (false, eval e X.env) :: starEach es X.env := by rfl) (hplain : (backTo cpos (starEach es X.env)).any (·.1) = false := by rfl) :
    PDE X cls W P (.Call (.Attribute o name apos) (e :: es) [] cpos) (metL f fo fs) :=
  pe_imp (pe_bm PySem.F.plainAttrs_list slot hty hm ho ha hbase hfew hline hs hplain) fun σ H Q ⟨H0, F, env, ea, g⟩ => ⟨H0, F, env, ea, (Go.bind g).imp fun x H1 ⟨F1, d, _, e1, p1, g1⟩ => by
    cases d with
    | lst ds =>
      obtain ⟨p, xs, rfl, h1, h2, h3⟩ := repB_lst e1.i p1
      have g1 : Go cls P W σ F1 H1 ((fs env).bind fun ds' => R.ofO (f ds ds')) Q := g1
      refine ⟨.inl ⟨rfl, xs, SqL.of h1⟩, H0, F1, env, ea.mono e1, (Go.bind g1).imp fun vs H2 ⟨F2, es', _, e2, p2, g2⟩ => ?_⟩
      obtain ⟨z, hz, g3⟩ := Go.ofO g2
      exact hr F2 H2 p xs ds vs es' z Q e2.i (e2.h _ _ h1) (h3.mono e2.f) p2 hz g3
    | _ => exact g1.elim⟩
end
def cntD : List D → List D → Option D
  | ds, [.int k] => (asInts ds).map fun ns => .int (ns.count k : Nat)
  | _, _ => none
theorem lm_count {K : PySem.W.Frag} : LMet (pV K) K (rCntI K) cntD := fun F H p xs ds vs es z Q i h r r2 hz k => by
  unfold cntD at hz
  split at hz
  · rename_i n
    cases q : asInts ds with
    | none => rw [q] at hz; cases hz
    | some ns =>
      rw [q] at hz; cases hz
      rw [asInts_eq q] at r
      rw [r.of_ints] at h
      cases r2 with
      | cons a b => cases b; cases a; exact ⟨p, ns, n, rfl, rfl, SqL.of h, k _ F H (Ext.refl i) (.int _)⟩
  · cases hz
/-- list.count of flat data -/
def rCntF (K : PySem.W.Frag) : V → List V → Hp → VK → Prop := fun x xs H Q => ∃ (p : Addr) (ys : List V) (y : V), x = .ref p ∧ xs = [y] ∧ SqL K H p ys ∧ flatV y = true ∧ ys.all flatV = true ∧ Q (.int (ys.countP fun z => eqV z y : Nat)) H
theorem count_eqU {x : V} : ∀ {xs : List V} {us : List Value}, Vals xs us → xs.all flatV = true → us.countP (eqU x) = xs.countP fun y => eqV y x
  | _, _, .nil, _ => rfl
  | _, _, .cons r t, f => by
    simp only [List.all_cons, Bool.and_eq_true] at f
    rw [List.countP_cons, List.countP_cons, count_eqU t f.2, eqU_of r f.1]
theorem mt_lcountF {X : Cx} : MtR X "list.count" (rCntF X.K) := by
  intro pins s σ H x xs v us Q I rx rxs h
  obtain ⟨p, ys, y, rfl, rfl, hs, fy, fys, q⟩ := h
  cases rx
  obtain ⟨u, rfl, ru⟩ := rxs.one
  obtain ⟨its, rv, ⟨⟨cls, dd, data, sl⟩, n, ho, hc, hdn, hd⟩, hlen⟩ := I.list hs
  simp only at hc hd
  subst hc hd
  refine call_meets PySem.F.slot_list_count ⟨_, ho, rfl⟩ PySem.F.entry_list_count (PySem.F.args_list_count_2 _ _)
    (SeqAt.list_countAt p its.toArray n dd sl u (eqU y)) ⟨ho, fun w hw => mem_eqAt ru fy rv fys w (by simpa using hw), ?_⟩
  have ec : its.toArray.toList.countP (eqU y) = ys.countP fun z => eqV z y := by simpa using count_eqU rv fys
  refine ⟨.int (ys.countP fun z => eqV z y : Nat), H, I.tok _, ⟨s.toks, ?_⟩, q⟩
  show Value.int ((its.toArray.toList.countP (eqU y) : Nat) : Int) s.toks = Value.int ((ys.countP fun z => eqV z y : Nat) : Int) s.toks
  rw [ec]
def cntF : List D → List D → Option D
  | ds, [d] => if flatD d && ds.all flatD then some (.int (ds.countP fun z => PyData.eqv z.toPy d.toPy : Nat)) else none
  | _, _ => none
theorem count_flat {K : PySem.W.Frag} {F : Hp} {v : V} {d : D} (hv : Rep K F v d) (f : flatD d = true) : ∀ {vs : List V} {ds : List D}, Reps K F vs ds → ds.all flatD = true → (vs.countP fun z => eqV z v) = ds.countP fun y => PyData.eqv y.toPy d.toPy
  | _, [], h, _ => by cases h; rfl
  | _, e :: ds, h, q => by
    cases h with
    | cons a b =>
      simp only [List.all_cons, Bool.and_eq_true] at q
      rw [List.countP_cons, List.countP_cons, count_flat hv f b q.2, (rep_flat a q.1).2 v d hv f]
theorem lm_countF {K : PySem.W.Frag} : LMet (pV K) K (rCntF K) cntF := fun F H p xs ds vs es z Q i h r r2 hz k => by
  unfold cntF at hz
  split at hz
  · rename_i d
    split at hz
    · rename_i fl
      obtain ⟨fd, fds⟩ := Bool.and_eq_true_iff.mp fl
      cases hz
      cases r2 with
      | cons a b =>
        cases b
        refine ⟨p, xs, _, rfl, rfl, SqL.of h, (rep_flat a fd).1, reps_flat r fds, ?_⟩
        rw [count_flat a fd r fds]
        exact k _ F H (Ext.refl i) (.int _)
    · cases hz
  · cases hz
def idxD : List D → List D → Option D
  | ds, [d] => if flatD d && ds.all flatD then (ds.findIdx? fun z => PyData.eqv z.toPy d.toPy).map fun j => .int (j : Nat) else none
  | _, _ => none
theorem lm_index {K : PySem.W.Frag} : LMet (pV K) K (rIndex K) idxD := fun F H p xs ds vs es z Q i h r r2 hz k => by
  unfold idxD at hz
  split at hz
  · rename_i d
    split at hz
    · rename_i fl
      obtain ⟨fd, fds⟩ := Bool.and_eq_true_iff.mp fl
      cases q : ds.findIdx? (fun z => PyData.eqv z.toPy d.toPy) with
      | none => rw [q] at hz; cases hz
      | some j =>
        rw [q] at hz; cases hz
        cases r2 with
        | cons a b =>
          cases b
          rename_i v
          obtain ⟨hj, h1, h2⟩ := List.findIdx?_eq_some_iff_getElem.mp q
          obtain ⟨u, hu, ru⟩ := r.get (i := j) (d := ds[j]) (by simp [hj])
          have fj : flatD ds[j] = true := List.all_eq_true.mp fds _ (List.getElem_mem hj)
          refine ⟨p, xs, v, j, u, rfl, rfl, SqL.of h, (rep_flat a fd).1, reps_flat r fds, hu, ?_, fun m u' hm hu' => ?_, k _ F H (Ext.refl i) (.int _)⟩
          · rw [(rep_flat ru fj).2 v d a fd]; exact h1
          · obtain ⟨d', hd', rd'⟩ := r.getV hu'
            have hml : m < ds.length := (List.getElem?_eq_some_iff.mp hd').1
            have ed : ds[m] = d' := (List.getElem?_eq_some_iff.mp hd').2
            have fm : flatD d' = true := List.all_eq_true.mp fds _ (List.mem_of_getElem? hd')
            rw [(rep_flat rd' fm).2 v d a fd, ← ed]
            have := h2 m hm
            simpa using this
    · cases hz
  · cases hz
/-! ### sum, max, min of a list of ints -/
def maxI : List Int → Int
  | [] => 0
  | [x] => x
  | x :: y :: r => max x (maxI (y :: r))
def minI : List Int → Int
  | [] => 0
  | [x] => x
  | x :: y :: r => min x (minI (y :: r))
theorem maxI_ok : ∀ {l : List Int}, l ≠ [] → maxI l ∈ l ∧ ∀ y ∈ l, y ≤ maxI l
  | [x], _ => by simp [maxI]
  | x :: y :: r, _ => by
    obtain ⟨h1, h2⟩ := maxI_ok (l := y :: r) (by simp)
    refine ⟨?_, fun z hz => ?_⟩
    · show max x (maxI (y :: r)) ∈ _
      by_cases q : x ≤ maxI (y :: r)
      · rw [Int.max_eq_right q]; exact List.mem_cons_of_mem _ h1
      · rw [Int.max_eq_left (by omega)]; exact List.mem_cons_self
    · show z ≤ max x (maxI (y :: r))
      rcases List.mem_cons.mp hz with e | hz
      · omega
      · have := h2 z hz; omega
theorem minI_ok : ∀ {l : List Int}, l ≠ [] → minI l ∈ l ∧ ∀ y ∈ l, minI l ≤ y
  | [x], _ => by simp [minI]
  | x :: y :: r, _ => by
    obtain ⟨h1, h2⟩ := minI_ok (l := y :: r) (by simp)
    refine ⟨?_, fun z hz => ?_⟩
    · show min x (minI (y :: r)) ∈ _
      by_cases q : x ≤ minI (y :: r)
      · rw [Int.min_eq_left q]; exact List.mem_cons_self
      · rw [Int.min_eq_right (by omega)]; exact List.mem_cons_of_mem _ h1
    · show min x (minI (y :: r)) ≤ z
      rcases List.mem_cons.mp hz with e | hz
      · omega
      · have := h2 z hz; omega
def sumD : List D → Option D
  | [.lst ds] => (asInts ds).map fun ns => .int ns.sum
  | _ => none
def maxD : List D → Option D
  | [.lst ds] => match asInts ds with
    | some (n :: ns) => some (.int (maxI (n :: ns)))
    | _ => none
  | _ => none
def minD : List D → Option D
  | [.lst ds] => match asInts ds with
    | some (n :: ns) => some (.int (minI (n :: ns)))
    | _ => none
  | _ => none
section
variable {K : PySem.W.Frag}
theorem cs_sum : CallSem (pV K) K (rSum K) sumD := fun F H xs ds z Q i h hz k => by
  unfold sumD at hz
  split at hz
  · rename_i es
    cases q : asInts es with
    | none => rw [q] at hz; cases hz
    | some ns =>
      rw [q] at hz; cases hz
      rw [asInts_eq q] at h
      obtain ⟨v, rfl, r⟩ := repBs1 h
      obtain ⟨p, ys, rfl, h1, h2, h3⟩ := repB_lst i r
      rw [h3.of_ints] at h1
      exact ⟨p, ns, rfl, SqL.of h1, k _ F H (Ext.refl i) (.int _)⟩
  · cases hz
theorem cs_max : CallSem (pV K) K (rMax K) maxD := fun F H xs ds z Q i h hz k => by
  unfold maxD at hz
  split at hz
  · rename_i es
    split at hz
    · rename_i n ns q
      cases hz
      rw [asInts_eq q] at h
      obtain ⟨v, rfl, r⟩ := repBs1 h
      obtain ⟨p, ys, rfl, h1, h2, h3⟩ := repB_lst i r
      rw [h3.of_ints] at h1
      refine ⟨p, n :: ns, rfl, SqL.of h1, by simp, fun m hm hy => ?_⟩
      obtain ⟨m1, m2⟩ := maxI_ok (l := n :: ns) (by simp)
      have : m = maxI (n :: ns) := by have := hy _ m1; have := m2 m hm; omega
      rw [this]
      exact k _ F H (Ext.refl i) (.int _)
    · cases hz
  · cases hz
theorem cs_min : CallSem (pV K) K (rMin K) minD := fun F H xs ds z Q i h hz k => by
  unfold minD at hz
  split at hz
  · rename_i es
    split at hz
    · rename_i n ns q
      cases hz
      rw [asInts_eq q] at h
      obtain ⟨v, rfl, r⟩ := repBs1 h
      obtain ⟨p, ys, rfl, h1, h2, h3⟩ := repB_lst i r
      rw [h3.of_ints] at h1
      refine ⟨p, n :: ns, rfl, SqL.of h1, by simp, fun m hm hy => ?_⟩
      obtain ⟨m1, m2⟩ := minI_ok (l := n :: ns) (by simp)
      have : m = minI (n :: ns) := by have := hy _ m1; have := m2 m hm; omega
      rw [this]
      exact k _ F H (Ext.refl i) (.int _)
    · cases hz
  · cases hz
end
/-! ### xs[::-1] -/
def revD : D → Option (List D)
  | .lst xs => some xs.reverse
  | _ => none
def revF (fa : EnvD → R D) : EnvD → R (List D) := una revD fa
section
variable {X : Cx} {cls : Exc → Addr} {W : WX} {e : Expr} {fa : EnvD → R D} {pos p1 p2 p3 : Pos} {k : Nat}
theorem pd_revL (ha : PDE X cls W (pB X.K) e fa) : PDE X cls W (pN X.K) (.Subscript e (.Slice none none (some (.UnaryOp .USub (.Constant (.int 1) k p1) p2)) p3) pos) (revF fa) :=
  pe_imp (pe_revL ha) fun σ H Q ⟨H0, F, env, ea, g⟩ => ⟨H0, F, env, ea, (Go.bind g).imp fun x H1 ⟨F1, d, _, e1, r, g1⟩ => by
    obtain ⟨z, hz, g2⟩ := Go.ofO g1
    cases d with
    | lst ds =>
      cases hz
      obtain ⟨p, xs, rfl, h1, h2, h3⟩ := repB_lst e1.i r
      exact ⟨p, xs, rfl, SqL.of h1, fun q hq => g2 _ F1 _ (Ext.newH e1.i hq) ⟨q, _, rfl, hq, e1.i.free hq, upd_same, by simpa using h2, h3.reverse⟩⟩
    | _ => cases hz⟩
end
/-! ### zip -/
def zipL : List D → List D → List D
  | d :: ds, e :: es => .itm [d, e] :: zipL ds es
  | _, _ => []
theorem zipL_len : ∀ ds es : List D, (zipL ds es).length = min ds.length es.length
  | [], es => by simp [zipL]
  | d :: ds, [] => by simp [zipL]
  | d :: ds, e :: es => by simp [zipL, zipL_len ds es, Nat.add_min_add_right]
theorem zipL_get : ∀ (ds es : List D) (i : Nat) (x : D), (zipL ds es)[i]? = some x → ∃ d e, ds[i]? = some d ∧ es[i]? = some e ∧ x = .itm [d, e]
  | [], es, i, x, h => by simp [zipL] at h
  | d :: ds, [], i, x, h => by simp [zipL] at h
  | d :: ds, e :: es, 0, x, h => by simp [zipL] at h; exact ⟨d, e, rfl, rfl, h.symm⟩
  | d :: ds, e :: es, i + 1, x, h => by
    simp only [zipL, List.getElem?_cons_succ] at h
    obtain ⟨d', e', h1, h2, h3⟩ := zipL_get ds es i x h
    exact ⟨d', e', by simpa using h1, by simpa using h2, h3⟩
def zipD : List D → Option (List D)
  | [.lst ds, .lst es] => some (zipL ds es)
  | [.tup ds, .tup es] => some (zipL ds es)
  | _ => none
section
variable {X : Cx} {cls : Exc → Addr} {W : WX} {e e2 : Expr} {fs : EnvD → R (List D)}
theorem pdi_zip {p pos tpos : Pos} {elts : List Expr} {kk : Nat} (hg : Gl X "zip") (hm : X.mg "zip" = none) (ha : PDA X cls W (pA X.K) [e, e2] fs)
    (hs : starEach [e, e2] X.env = (false, eval e X.env) :: starEach [e2] X.env := by rfl) (hpl : (backTo pos (starEach [e2] X.env)).any (·.1) = false := by rfl) :
    PDI X cls W false (.Tuple elts kk tpos) (.Call (.Name "zip" p) [e, e2] [] pos) (appL zipD fs) := pi_imp (RZ.pi_zipA hg hm ha hs hpl) fun σ H Q ⟨H0, F, env, ea, g⟩ =>
  ⟨H0, F, env, ea, (Go.bind g).imp fun vs H1 ⟨F1, ds, _, e1, p1, g1⟩ => by
    obtain ⟨z, hz, g2⟩ := Go.ofO g1
    have fin : ∀ {J : It} {a b : Addr} {xs ys : List V} {ds es : List D} {SQ : Addr → Hp → List V → Prop}, (∀ F2 H2, Same F1 F2 → Same F2 H2 → SQ a H2 xs ∧ SQ b H2 ys) → xs.length ≤ sizeLine → Reps X.K F1 xs ds → Reps X.K F1 ys es → z = zipL ds es →
        (∀ i H2, J.go i H2 ↔ ∃ (xs ys : List V) (x y : V), SQ a H2 xs ∧ SQ b H2 ys ∧ xs[i]? = some x ∧ ys[i]? = some y) →
        (∀ i H2 v H3, J.yld i H2 v H3 → ∃ T x y, v = .ref T ∧ H2 T = none ∧ H3 = upd H2 T (.tup [x, y]) ∧ (∀ xs, SQ a H2 xs → xs[i]? = some x) ∧ ∀ ys, SQ b H2 ys → ys[i]? = some y) →
        (∀ i H2, J.stop i H2 ↔ ∃ xs ys : List V, SQ a H2 xs ∧ SQ b H2 ys ∧ (xs.length ≤ i ∨ ys.length ≤ i)) → WalkD X.K false J F1 H1 z := by
      intro J a b xs ys ds es SQ hsq hl r1 r2 ez y1 y2 y3
      subst ez
      have le : (zipL ds es).length = min xs.length ys.length := by rw [zipL_len, r1.length, r2.length]
      refine ⟨by rw [le]; omega, fun F2 H2 a1 a2 _ => ⟨fun i d hd => ?_, (y3 _ _).mpr ⟨xs, ys, (hsq F2 H2 a1 a2).1, (hsq F2 H2 a1 a2).2, by rw [le]; omega⟩⟩⟩
      obtain ⟨d1, d2, h1, h2, h3⟩ := zipL_get ds es i d hd
      obtain ⟨v1, hv1, rv1⟩ := r1.get h1
      obtain ⟨v2, hv2, rv2⟩ := r2.get h2
      refine ⟨(y1 _ _).mpr ⟨xs, ys, v1, v2, (hsq F2 H2 a1 a2).1, (hsq F2 H2 a1 a2).2, hv1, hv2⟩, fun x H3 y => ?_⟩
      obtain ⟨T, u1, u2, ex, nT, eH, hxs, hys⟩ := y2 _ _ _ _ y
      have q1 := hxs xs (hsq F2 H2 a1 a2).1
      have q2 := hys ys (hsq F2 H2 a1 a2).2
      rw [hv1] at q1; cases q1
      rw [hv2] at q2; cases q2
      subst ex eH h3
      have sm := Same.updN (o := .tup [v1, v2]) (a2.free nT)
      exact ⟨upd F2 T (.tup [v1, v2]), Ext.new a2 nT, .itm upd_same (by show 2 ≤ sizeLine; decide) (.cons ((rv1.mono a1).mono sm) (.cons ((rv2.mono a1).mono sm) .nil))⟩
    unfold zipD at hz
    split at hz
    · cases hz
      cases p1 with
      | cons r1 rr =>
        cases rr with
        | cons r2 rr =>
          cases rr
          cases r1 with
          | @lst a xs _ h1 h2 h3 =>
            cases r2 with
            | @lst b ys _ k1 k2 k3 =>
              exact ⟨a, b, xs, ys, rfl, .inl ⟨SqL.of (e1.i _ _ h1), SqL.of (e1.i _ _ k1), g2 _ F1 H1 (Ext.refl e1.i) (fin (a := a) (b := b) (SQ := fun q H xs => SqL X.K H q xs) (fun F2 H2 a1 a2 => ⟨SqL.of (a2 _ _ (a1 _ _ h1)), SqL.of (a2 _ _ (a1 _ _ k1))⟩) h2 h3 k3 rfl (fun _ _ => Iff.rfl) (fun _ _ _ _ y => y) (fun _ _ => Iff.rfl))⟩⟩
    · cases hz
      cases p1 with
      | cons r1 rr =>
        cases rr with
        | cons r2 rr =>
          cases rr
          cases r1 with
          | @tup a xs _ h1 h2 h3 =>
            cases r2 with
            | @tup b ys _ k1 k2 k3 =>
              exact ⟨a, b, xs, ys, rfl, .inr ⟨(h1.mono e1.i).sq, (k1.mono e1.i).sq, g2 _ F1 H1 (Ext.refl e1.i) (fin (a := a) (b := b) (SQ := fun q H xs => SqT X.K H q xs) (fun F2 H2 a1 a2 => ⟨((h1.mono a1).mono a2).sq, ((k1.mono a1).mono a2).sq⟩) h2 h3 k3 rfl (fun _ _ => Iff.rfl) (fun _ _ _ _ y => y) (fun _ _ => Iff.rfl))⟩⟩
    · cases hz⟩
end
end PD

set_option maxHeartbeats 4000000
namespace PD
open PySem PySem.Spec PyProof.Rows L2
/-! ### dict comprehensions -/
def dcL (p : Pat) (vs : List Nat) (t : EnvD → R Bool) (fk fv : EnvD → R D) : List D → List D × List D → EnvD → R (List D × List D)
  | [], acc, _ => .ok acc
  | d :: r, acc, env => match bindP p d (wipeE env vs) with
    | none => .bad
    | some e => (noErr (t e)).bind fun k => if k = true then (noErr (fk e)).bind fun kd => (noErr (fv e)).bind fun vd => if isKey false kd = true ∧ small (acc.1.length + 1) = true then dcL p vs t fk fv r (dPut acc.1 acc.2 kd vd) env else .bad else dcL p vs t fk fv r acc env
def dcF (p : Pat) (vs : List Nat) (t : EnvD → R Bool) (fk fv : EnvD → R D) (src : EnvD → R (List D)) : EnvD → R (Bool × List D × List D) := fun env => (src env).bind fun ds => match dcL p vs t fk fv ds ([], []) env with
  | .ok a => .ok (false, a.1, a.2)
  | _ => .bad
theorem dcL_inv {p : Pat} {vs : List Nat} {t : EnvD → R Bool} {fk fv : EnvD → R D} {d : D} {r : List D} {acc T : List D × List D} {env : EnvD} (h : dcL p vs t fk fv (d :: r) acc env = .ok T) :
    ∃ e k, bindP p d (wipeE env vs) = some e ∧ t e = .ok k ∧ (k = false ∧ dcL p vs t fk fv r acc env = .ok T ∨ k = true ∧ ∃ kd vd, fk e = .ok kd ∧ fv e = .ok vd ∧ isKey false kd = true ∧ small (acc.1.length + 1) = true ∧ dcL p vs t fk fv r (dPut acc.1 acc.2 kd vd) env = .ok T) := by
  unfold dcL at h
  split at h
  · cases h
  · rename_i e q
    obtain ⟨k, hk, h⟩ := bind_ok h
    have hk := noErr_ok hk
    cases k with
    | false => exact ⟨e, false, q, hk, .inl ⟨rfl, h⟩⟩
    | true =>
      obtain ⟨kd, h1, h⟩ := bind_ok (show (noErr (fk e)).bind _ = .ok T from h)
      obtain ⟨vd, h2, h⟩ := bind_ok h
      split at h
      · rename_i z
        exact ⟨e, true, q, hk, .inr ⟨rfl, kd, vd, noErr_ok h1, noErr_ok h2, z.1, z.2, h⟩⟩
      · cases h
theorem dcTurn {F1 H1 F' H : Hp} {Da : Addr} (nD : H1 Da = none) (x : Ext F1 H1 F' H) (fD : F' Da = none) (o : HO) : Ext F1 H1 F' (upd H Da o) :=
  ⟨x.f, fun a u h => by rw [upd_ne (ne_of_none h nD)]; exact x.h a u h, x.i.into fD, x.n⟩
theorem key_of {K : PySem.W.Frag} {F : Hp} {v : V} {d : D} (r : Rep K F v d) (h : isKey false d = true) : ∃ k, d = kD k ∧ v = kV k := by
  cases r with
  | int i => exact ⟨.inl i, rfl, rfl⟩
  | str x => exact ⟨.inr x, rfl, rfl⟩
  | _ => simp [isKey, toKey] at h
section
variable {cls : Exc → Addr} {W : WX}
theorem dc_read {bb : Bool} {p : Pat} {vs : List Nat} {t : EnvD → R Bool} {fk fv : EnvD → R D} {src : EnvD → R (List D)} {K : PySem.W.Frag} {σ : L2.St} {H : Hp} {Q : VK} (hp : ∀ i ∈ p.ix, i ∈ vs)
    (h : tG K cls W (pM K) (dcF p vs t fk fv src) σ H Q) : tDc (tG K cls W (pI K bb) src) (gPat K p) (tG K cls W0 pT t) (tG K cls W0 (pV K) fk) (tG K cls W0 (pV K) fv) vs σ H Q := by
  obtain ⟨H0, F, env, ea, g⟩ := h
  refine ⟨H0, F, env, ea, (Go.bind g).imp fun J H1 ⟨F1, ds, _, e1, ⟨hz, wk⟩, g1⟩ => fun Da nD => ?_⟩
  have ea1 := ea.mono e1
  obtain ⟨T, hT, gT⟩ : ∃ T, dcL p vs t fk fv ds ([], []) env = .ok T ∧ Go cls (pM K) W σ F1 H1 (.ok (false, T.1, T.2)) Q := by
    cases q : dcL p vs t fk fv ds ([], []) env with
    | ok T => rw [q] at g1; exact ⟨T, rfl, g1⟩
    | err c => rw [q] at g1; exact g1.elim
    | bad => rw [q] at g1; exact g1.elim
  refine ⟨fun i m H2 => m = ds.length - i ∧ i ≤ ds.length ∧ ∃ F2 kvs ws, Ext F1 H1 F2 H2 ∧ F2 Da = none ∧ H2 Da = some (.dK kvs) ∧ kvs.length ≤ sizeLine ∧ Reps K F2 (kvs.map (·.2)) ws ∧ dcL p vs t fk fv (ds.drop i) (kvs.map (fun q => kD q.1), ws) env = .ok T,
    ⟨ds.length, by simp, Nat.zero_le _, F1, [], [], Ext.newH e1.i nD, e1.i.free nD, upd_same, Nat.zero_le _, .nil, hT⟩, ?_⟩
  rintro i m H2 ⟨rfl, hi, F2, kvs, ws, x2, fD, hD, hl, ra, tot⟩
  have w := wk F2 H2 x2.f x2.i fun _ => x2.h
  by_cases hlt : i < ds.length
  · obtain ⟨d, hd, hdr⟩ := drop_of hlt
    rw [hdr] at tot
    obtain ⟨env1, k, qb, qt, alt⟩ := dcL_inv tot
    obtain ⟨go, yl⟩ := w.1 i d hd
    refine .inr ⟨go, fun H3 => ∃ F3 kvs ws, Ext F1 H1 F3 H3 ∧ F3 Da = none ∧ H3 Da = some (.dK kvs) ∧ kvs.length ≤ sizeLine ∧ Reps K F3 (kvs.map (·.2)) ws ∧ dcL p vs t fk fv (ds.drop (i + 1)) (kvs.map (fun q => kD q.1), ws) env = .ok T, ?_, fun v H3 y => ?_⟩
    · rintro H3 ⟨F3, kvs3, ws3, h⟩
      exact ⟨ds.length - (i + 1), by omega, rfl, hlt, F3, kvs3, ws3, h⟩
    · obtain ⟨F3, e3, r3⟩ := yl v H3 y
      have x3 := x2.trans e3
      refine gPat_ok ((ea1.mono x3).wipe vs) r3 qb fun σ4 ea4 hw => ⟨by rw [hw vs hp, wipe_idem], H0, F3, env1, ea4, ?_⟩
      rw [qt]
      intro kk F5 H5 e5 pk
      cases pk
      have x5 := x3.trans e5
      have d5 : F5 Da = none := e5.keep (e3.h _ _ hD) rfl (e3.keep hD rfl fD)
      have hD5 : H5 Da = some (.dK kvs) := e5.h _ _ (e3.h _ _ hD)
      have ra5 := ra.mono (e3.f.trans e5.f)
      rcases alt with ⟨rfl, tot2⟩ | ⟨rfl, kd, vd, qk, qv, ky, sm, tot2⟩
      · exact ⟨F5, kvs, ws, x5, d5, hD5, hl, ra5, tot2⟩
      · refine ⟨H0, F5, env1, ea4.mono e5, ?_⟩
        rw [qk]
        intro kv F6 H6 e6 rk
        refine ⟨H0, F6, env1, (ea4.mono e5).mono e6, ?_⟩
        rw [qv]
        intro vv F7 H7 e7 rv
        obtain ⟨k, rfl, rfl⟩ := key_of rk ky
        have x7 := (x5.trans e6).trans e7
        have d6 := e6.keep hD5 rfl d5
        have hD6 := e6.h _ _ hD5
        have d7 := e7.keep hD6 rfl d6
        have hD7 := e7.h _ _ hD6
        have P := putK_reps (φ := kD) keyEq_k (k := k) (ra5.mono (e6.f.trans e7.f)) rv
        have sm2 := small_ok sm
        simp only [List.length_map] at sm2
        have hlen : (putK kvs k vv).length ≤ sizeLine := by
          have : (putK kvs k vv).length ≤ kvs.length + 1 := by unfold putK; split <;> simp
          omega
        refine ⟨kvs, k, rfl, hD7, by omega, F7, putK kvs k vv, _, dcTurn nD x7 d7 _, d7, upd_same, hlen, P.2, ?_⟩
        rw [P.1]
        exact tot2
  · have e : i = ds.length := by omega
    subst e
    rw [List.drop_length] at tot
    cases tot
    exact .inl ⟨w.2, gT _ F2 H2 x2 ⟨Da, _, rfl, nD, fD, hD, .k hl ra⟩⟩
end
section
variable {X : Cx} {cls : Exc → Addr} {W : WX}
/-- y = {k: v for ..} -/
theorem ps_setDc {i : Nat} {y : Str} {py : Pos} {kx vx tg iter : Expr} {ifs : List Expr} {scope : Scope} {own : List (Str × Nat)} {pos spos : Pos} {wi : TI} {g : TG} {tt : TT} {tk tv : TE} (hc : X.calm = true) (hN : X.N.Nodup) (hy : X.N[i]? = some y) (hyl : X.env.scope.names.lookup y = some .local)
    (hsw : swapsWith (.DictComp kx vx [⟨tg, iter, ifs, 0⟩] scope pos) (some (.Name y py)) spos.line X.env = pure true) (hi : PI X tg iter wi) (ok : BlkOk X.N X.env.scope scope own)
    (hg : ∀ (s : Shared) (H : Hp) (C : Addr) (cl : List (Str × Addr)) (fp : List Addr), PG (X.blk s H scope (compEnvC scope cl C X.env) fp) tg g) (ht : ∀ (s : Shared) (H : Hp) (C : Addr) (cl : List (Str × Addr)) (fp : List Addr), PTs (X.blk s H scope (compEnvC scope cl C X.env) fp) ifs tt)
    (hk : ∀ (s : Shared) (H : Hp) (C : Addr) (cl : List (Str × Addr)) (fp : List Addr), PE (X.blk s H scope (compEnvC scope cl C X.env) fp) kx tk)
    (he : ∀ (s : Shared) (H : Hp) (C : Addr) (cl : List (Str × Addr)) (fp : List Addr), PE (X.blk s H scope (compEnvC scope cl C X.env) fp) vx tv) (hs : ∀ x, foldedSetIterable iter X.env x = pure x := by intro _; rfl) :
    PS X (.Assign [.Name y py] (.DictComp kx vx [⟨tg, iter, ifs, 0⟩] scope pos) spos) (tAsg (tDc wi g tt tk tv (own.map (·.2))) (gName i)) := by
  refine ⟨fun pins s σ H D I h => ?_⟩
  rw [exec_Assign_Name_used _ _ _ _ hsw]
  refine wpAny_bind (wpAny_standAt (wpAny_bind ?_))
  show wpAny _ X.A (do let _ ← comprehension (.DictComp kx vx [⟨tg, iter, ifs, 0⟩] scope pos) scope X.env (firstIterPos [⟨tg, iter, ifs, 0⟩] pos) newDict false (eval iter X.env) (some (assign (.Name y py) X.env))) _ _ s
  have h : tDc wi g tt tk tv (own.map (·.2)) σ H (fun x H1 => gName i x σ H1 D.nx) := h
  refine wpAny_bind (thn (dc_core (Qf := fun _ s' => SP X pins D .next s') hc hN I hi ok hg ht hk he hs h fun L C s' m H' I' q hn f => ?_) fun _ s' hq => wpAny_pure (wpAny_pure hq))
  show wpAny _ _ (assign (.Name y py) X.env (.ref L)) _ _ _
  refine wpAny_assign_Name (store_ok2 (v := V.ref L) I' hN hy (.inl hyl) rfl (fun s2 I2 ⟨a, sb, ha⟩ => ?_) (.inr hyl))
  obtain ⟨f0, f1, f2, f3, f4, f5⟩ := f
  have haC : C ≠ a := by
    rcases ha with z | z
    · rw [z]; exact f1
    · exact fun e => f4 y a z e.symm
  refine ⟨m, hn.sameBut sb haC, fun h3 sb3 => ?_⟩
  exact ⟨_, H', I2.turned (t' := s2.toks) (fun b o hb e => (sb3.2 b hb).trans e) f0 f1 f3 f4 f5, q⟩
theorem pds_setDc {bb : Bool} {i : Nat} {y : Str} {py : Pos} {kx vx tg iter : Expr} {ifs : List Expr} {scope : Scope} {own : List (Str × Nat)} {p : Pat} {t : EnvD → R Bool} {fk fv : EnvD → R D} {src : EnvD → R (List D)} {pos spos : Pos} (hc : X.calm = true) (hN : X.N.Nodup)
    (hy : X.N[i]? = some y) (hyl : X.env.scope.names.lookup y = some .local)
    (hsw : swapsWith (.DictComp kx vx [⟨tg, iter, ifs, 0⟩] scope pos) (some (.Name y py)) spos.line X.env = pure true) (hi : PDI X cls W bb tg iter src) (ok : BlkOk X.N X.env.scope scope own)
    (hg : ∀ (s : Shared) (H : Hp) (C : Addr) (cl : List (Str × Addr)) (fp : List Addr), PG (X.blk s H scope (compEnvC scope cl C X.env) fp) tg (gPat X.K p))
    (ht : ∀ (s : Shared) (H : Hp) (C : Addr) (cl : List (Str × Addr)) (fp : List Addr), PTs (X.blk s H scope (compEnvC scope cl C X.env) fp) ifs (tG X.K cls W0 pT t))
    (hk : ∀ (s : Shared) (H : Hp) (C : Addr) (cl : List (Str × Addr)) (fp : List Addr), PE (X.blk s H scope (compEnvC scope cl C X.env) fp) kx (tG X.K cls W0 (pV X.K) fk))
    (he : ∀ (s : Shared) (H : Hp) (C : Addr) (cl : List (Str × Addr)) (fp : List Addr), PE (X.blk s H scope (compEnvC scope cl C X.env) fp) vx (tG X.K cls W0 (pV X.K) fv))
    (hp : (p.ix.all fun i => (own.map (·.2)).contains i) = true) (hs : ∀ x, foldedSetIterable iter X.env x = pure x := by intro _; rfl) :
    PS X (.Assign [.Name y py] (.DictComp kx vx [⟨tg, iter, ifs, 0⟩] scope pos) spos) (tAsg (tG X.K cls W (pM X.K) (dcF p (own.map (·.2)) t fk fv src)) (gName i)) :=
  ps_imp (ps_setDc hc hN hy hyl hsw hi ok hg ht hk he hs) fun D σ H h => dc_read (fun i hi => by simpa using List.all_eq_true.mp hp i hi) h
end
/-! ### a comprehension over the keys of an owned dict -/
theorem EnvAt.lockD {K : PySem.W.Frag} {H0 F H : Hp} {env : EnvD} {σ : L2.St} (h : EnvAt K H0 env σ F H) {i : Nat} {t : Bool} {ks vs : List D} {p : Addr} (q : env[i]? = some (.ownd t ks vs)) (e : σ.getD i none = some (.ref p)) (o : HO) :
    EnvAt K H0 (env.set i .no) σ F (upd H p o) := by
  have hp := h.ownAt q rfl e
  have hi : i < env.length := (List.getElem?_eq_some_iff.mp q).1
  refine ⟨h.fh.into hp.2.1, by simp [h.len], fun j s z => ?_, fun j k a b p' hjk ha hb oa ob pj pk => ?_⟩
  · by_cases ej : i = j
    · subst ej
      rw [List.getElem?_set_self hi] at z
      cases z
      trivial
    · rw [List.getElem?_set_ne ej] at z
      have y := h.at_ j s z
      cases s with
      | no => trivial
      | val d => exact y
      | own ds =>
        obtain ⟨p', xs, h1, h2, h3, h4, h5, h6⟩ := y
        have npp : p' ≠ p := fun w => by subst w; exact h.ap j i _ _ p' (Ne.symm ej) z q rfl rfl h1 e
        exact ⟨p', xs, h1, h2, h3, by rw [upd_ne npp]; exact h4, h5, h6⟩
      | ownd _ ks vs =>
        obtain ⟨p', v, h1, h2, h3, h4, h5⟩ := y
        have npp : p' ≠ p := fun w => by subst w; exact h.ap j i _ _ p' (Ne.symm ej) z q rfl rfl h1 e
        exact ⟨p', v, h1, h2, h3, by rw [upd_ne npp]; exact h4, h5⟩
  · have nj : i ≠ j := fun w => by subst w; rw [List.getElem?_set_self hi] at ha; cases ha; cases oa
    have nk : i ≠ k := fun w => by subst w; rw [List.getElem?_set_self hi] at hb; cases hb; cases ob
    rw [List.getElem?_set_ne nj] at ha
    rw [List.getElem?_set_ne nk] at hb
    exact h.ap j k a b p' hjk ha hb oa ob pj pk
def lcKF (i : Nat) (p : Pat) (vs : List Nat) (t : EnvD → R Bool) (f : EnvD → R D) : EnvD → R (List D) := fun env => match env[i]? with
  | some (.ownd _ ks _) => noErr (lcL p vs t f ks (env.set i .no))
  | _ => .bad
section
variable {X : Cx} {cls : Exc → Addr} {W : WX}
theorem pd_lcK {i : Nat} {x : Str} {px : Pos} {elt tg : Expr} {ifs : List Expr} {scope : Scope} {own : List (Str × Nat)} {p : Pat} {t : EnvD → R Bool} {f : EnvD → R D} {pos : Pos} (hc : X.calm = true) (hN : X.N.Nodup) (hv : PE X (.Name x px) (tVar i)) (ok : BlkOk X.N X.env.scope scope own)
    (hg : ∀ (s : Shared) (H : Hp) (C : Addr) (cl : List (Str × Addr)) (fp : List Addr), PG (X.blk s H scope (compEnvC scope cl C X.env) fp) tg (gPat X.K p))
    (ht : ∀ (s : Shared) (H : Hp) (C : Addr) (cl : List (Str × Addr)) (fp : List Addr), PTs (X.blk s H scope (compEnvC scope cl C X.env) fp) ifs (tG X.K cls W0 pT t))
    (he : ∀ (s : Shared) (H : Hp) (C : Addr) (cl : List (Str × Addr)) (fp : List Addr), PE (X.blk s H scope (compEnvC scope cl C X.env) fp) elt (tG X.K cls W0 (pV X.K) f))
    (hp : (p.ix.all fun i => (own.map (·.2)).contains i) = true) (hs : ∀ z, foldedSetIterable (.Name x px) X.env z = pure z := by intro _; rfl) :
    PDE X cls W (pN X.K) (.ListComp elt [⟨tg, .Name x px, ifs, 0⟩] scope pos) (lcKF i p (own.map (·.2)) t f) :=
  pe_imp (pe_lock (pe_lc hc hN (pi_keys hv) ok hg ht he hs)) fun σ H Q ⟨H0, F, env, ea, g⟩ => by
    unfold lcKF at g
    cases q : env[i]? with
    | none => rw [q] at g; exact g.elim
    | some s =>
      rw [q] at g
      cases s with
      | no => exact g.elim
      | val d => exact g.elim
      | own ds => exact g.elim
      | ownd tt ks vs =>
        obtain ⟨d, u, h1, h2, h3, h4, h5⟩ := ea.at_ i _ q
        refine ⟨d, u, h4, by cases h5 <;> trivial, fun od => ?_⟩
        have eaL := ea.lockD q h1 (.frz od u)
        have dL : upd H d (.frz od u) d = some (.frz od u) := upd_same
        have g0 : Go cls (pN X.K) W σ F H (noErr (lcL p (own.map (·.2)) t f ks (env.set i .no))) Q := g
        have gL : Go cls (pN X.K) W σ F (upd H d (.frz od u)) (lcF p (own.map (·.2)) t f (fun _ => .ok ks) (env.set i .no)) (fun v H' => H' d = some (.frz od u) ∧ Q v (upd H' d u)) := by
          show Go cls (pN X.K) W σ F (upd H d (.frz od u)) (lcL p (own.map (·.2)) t f ks (env.set i .no)) _
          cases r : lcL p (own.map (·.2)) t f ks (env.set i .no) with
          | ok T =>
            rw [r] at g0
            rintro v F' H' x ⟨a, xs, ev, n1, n2, n3, n4, n5⟩
            have hd := x.h _ _ dL
            have fd : F' d = none := x.keep dL rfl h3
            have nad : a ≠ d := fun e => by rw [e, dL] at n1; cases n1
            refine ⟨hd, g0 v F' _ ⟨x.f, fun b o hb => ?_, x.i.into fd, fun b o hb m hn => ?_⟩ ⟨a, xs, ev, by rw [upd_ne nad] at n1; exact n1, n2, by rw [upd_ne nad]; exact n3, n4, n5⟩⟩
            · by_cases e : b = d
              · subst e; rw [upd_same]; rw [h4] at hb; exact hb
              · rw [upd_ne e]; exact x.h b o (by rw [upd_ne e]; exact hb)
            · by_cases e : b = d
              · subst e; exact absurd fd hn
              · exact x.n b o (by rw [upd_ne e]; exact hb) m hn
          | err c => rw [r] at g0; exact g0.elim
          | bad => rw [r] at g0; exact g0.elim
        have red := lc_read (bb := true) (K := X.K) (fun i hi => by simpa using List.all_eq_true.mp hp i hi) (⟨H0, F, env.set i .no, eaL, gL⟩ : tG X.K cls W (pN X.K) (lcF p (own.map (·.2)) t f (fun _ => .ok ks)) σ (upd H d (.frz od u)) _)
        obtain ⟨H0', F', env', ea', gg⟩ := red
        refine ⟨.ref d, getD_some h1, d, od, rfl, ?_⟩
        cases h5 with
        | @k kvs ws l r =>
          refine .inl ⟨kvs, dL, gg (Itk d od kvs) F' _ (Ext.refl ea'.fh) ⟨by simpa using l, fun F1 H1 a1 a2 a3 => ⟨fun j x hx => ?_, a3 rfl _ _ dL, by simp⟩⟩⟩
          have hj : j < kvs.length := by have := (List.getElem?_eq_some_iff.mp hx).1; simpa using this
          refine ⟨⟨a3 rfl _ _ dL, hj⟩, fun y H2 ⟨e1, k, v, e2, e3⟩ => ⟨F1, by rw [e1]; exact Ext.refl a2, ?_⟩⟩
          rw [List.getElem?_map, e2] at hx
          cases hx
          rw [e3]
          exact kD_rep k
        | @t kvs ws kl l r =>
          refine .inr ⟨kvs, dL, gg (Itkt d od kvs) F' _ (Ext.refl ea'.fh) ⟨by simpa using l, fun F1 H1 a1 a2 a3 => ⟨fun j x hx => ?_, a3 rfl _ _ dL, by simp⟩⟩⟩
          have hj : j < kvs.length := by have := (List.getElem?_eq_some_iff.mp hx).1; simpa using this
          refine ⟨⟨a3 rfl _ _ dL, hj⟩, fun y H2 ⟨e1, k, v, qa, e2, e3, e4⟩ => ?_⟩
          rw [List.getElem?_map, e2] at hx
          cases hx
          subst e3 e1
          exact ⟨tupsF F1 H2, tupsF_ext a2, .itm (tupsF_at e4) (by rw [List.length_map]; exact kl _ (List.mem_of_getElem? e2)) (kDs_rep k)⟩
end
end PD

set_option maxHeartbeats 4000000
namespace PD
open PySem PySem.Spec PyProof.Rows L2
/-! ### evaluation of pure functions -/
theorem nr {α : Sort _} {a b : α} (h : a = b) : a = b := h
section
variable {α β γ : Type}
@[simp] theorem e_bind (a : α) (f : α → R β) : (R.ok a).bind f = f a := nr rfl
@[simp] theorem e_bindE (c : Exc) (f : α → R β) : (R.err c : R α).bind f = .err c := nr rfl
@[simp] theorem e_map (a : α) (f : α → β) : (R.ok a).map f = .ok (f a) := nr rfl
@[simp] theorem e_mapE (c : Exc) (f : α → β) : (R.err c : R α).map f = .err c := nr rfl
@[simp] theorem e_some (a : α) : R.ofO (some a) = .ok a := nr rfl
@[simp] theorem e_bindS (a : α) (env : EnvD) (k : α → Out) : bindS (.ok a) env k = k a := nr rfl
@[simp] theorem e_bindSE (c : Exc) (env : EnvD) (k : α → Out) : bindS (R.err c : R α) env k = .err c env := nr rfl
@[simp] theorem e_bind_ite {p : Prop} [Decidable p] (a b : R α) (f : α → R β) : (if p then a else b).bind f = if p then a.bind f else b.bind f := by split <;> rfl
@[simp] theorem e_map_ite {p : Prop} [Decidable p] (a b : R α) (f : α → β) : (if p then a else b).map f = if p then a.map f else b.map f := by split <;> rfl
@[simp] theorem e_bindS_ite {p : Prop} [Decidable p] (a b : R α) (env : EnvD) (k : α → Out) : bindS (if p then a else b) env k = if p then bindS a env k else bindS b env k := by split <;> rfl
@[simp] theorem e_ofO_ite {p : Prop} [Decidable p] (a b : Option α) : R.ofO (if p then a else b) = if p then R.ofO a else R.ofO b := by split <;> rfl
@[simp] theorem e_and (b c : Bool) : (if b = true then R.ok c else R.ok false) = R.ok (b && c) := by cases b <;> rfl
@[simp] theorem e_or (b c : Bool) : (if b = true then R.ok true else R.ok c) = R.ok (b || c) := by cases b <;> rfl
@[simp] theorem e_andD (b c : Bool) : (if b = true then R.ok (D.bl c) else R.ok (D.bl false)) = R.ok (.bl (b && c)) := by cases b <;> rfl
@[simp] theorem e_orD (b c : Bool) : (if b = true then R.ok (D.bl true) else R.ok (D.bl c)) = R.ok (.bl (b || c)) := by cases b <;> rfl
end
@[simp] theorem e_getV0 (d : D) (r : EnvD) : getV 0 (.val d :: r) = .ok d := nr rfl
@[simp] theorem e_getVs (i : Nat) (s : Sl) (r : EnvD) : getV (i + 1) (s :: r) = getV i r := nr rfl
@[simp] theorem e_getB0 (d : D) (r : EnvD) : getB 0 (.val d :: r) = .ok d := nr rfl
@[simp] theorem e_getB0o (d : List D) (r : EnvD) : getB 0 (.own d :: r) = .ok (.lst d) := nr rfl
@[simp] theorem e_getB0d (t : Bool) (k v : List D) (r : EnvD) : getB 0 (.ownd t k v :: r) = .ok (.dic k v) := nr rfl
@[simp] theorem e_getBs (i : Nat) (s : Sl) (r : EnvD) : getB (i + 1) (s :: r) = getB i r := nr rfl
/-- statements -/
def outSeq (o : Out) (k : EnvD → Out) : Out := match o with
  | .next e => k e
  | .ret d => .ret d
  | .err c e => .err c e
  | .brk e => .brk e
  | .cont e => .cont e
  | .bad => .bad
@[simp] theorem e_seq (G1 G2 : EnvD → Out) (env : EnvD) : seqS G1 G2 env = outSeq (G1 env) G2 := nr rfl
@[simp] theorem e_seqN (e : EnvD) (k : EnvD → Out) : outSeq (.next e) k = k e := nr rfl
@[simp] theorem e_seqR (d : D) (k : EnvD → Out) : outSeq (.ret d) k = .ret d := nr rfl
@[simp] theorem e_seqE (c : Exc) (e : EnvD) (k : EnvD → Out) : outSeq (.err c e) k = .err c e := nr rfl
@[simp] theorem e_seq_ite {p : Prop} [Decidable p] (a b : Out) (k : EnvD → Out) : outSeq (if p then a else b) k = if p then outSeq a k else outSeq b k := by split <;> rfl
@[simp] theorem e_run_ite {p : Prop} [Decidable p] (a b : Out) : runO (if p then a else b) = if p then runO a else runO b := by split <;> rfl
@[simp] theorem e_runR (d : D) : runO (.ret d) = .ok d := nr rfl
@[simp] theorem e_runN (e : EnvD) : runO (.next e) = .ok .non := nr rfl
@[simp] theorem e_runE (c : Exc) (e : EnvD) : runO (.err c e) = .err c := nr rfl
@[simp] theorem e_set0 (s : Sl) (a : Sl) (r : EnvD) : (a :: r).set 0 s = s :: r := nr rfl
@[simp] theorem e_setS (i : Nat) (s : Sl) (a : Sl) (r : EnvD) : (a :: r).set (i + 1) s = a :: r.set i s := nr rfl
@[simp] theorem e_fn (N n : Nat) (G : EnvD → Out) (ds : List D) : fnD N n G ds = if ds.length = n then runO (G (ds.map Sl.val ++ List.replicate (N - n) Sl.no)) else .bad := nr rfl
@[simp] theorem e_bindN (i : Nat) (d : D) (e : EnvD) : bindP (.nm i) d e = some (e.set i (.val d)) := nr rfl
@[simp] theorem e_bindI (is : List Nat) (ds : List D) (e : EnvD) : bindP (.tp is) (.itm ds) e = if ds.length = is.length then some (sets is ds e) else none := nr rfl
@[simp] theorem e_bindT (is : List Nat) (ds : List D) (e : EnvD) : bindP (.tp is) (.tup ds) e = if ds.length = is.length then some (sets is ds e) else none := nr rfl
@[simp] theorem e_bindL (is : List Nat) (ds : List D) (e : EnvD) : bindP (.tp is) (.lst ds) e = if ds.length = is.length then some (sets is ds e) else none := nr rfl
@[simp] theorem e_sets0 (e : EnvD) (ds : List D) : sets [] ds e = e := by cases ds <;> rfl
@[simp] theorem e_setsS (i : Nat) (is : List Nat) (d : D) (ds : List D) (e : EnvD) : sets (i :: is) (d :: ds) e = sets is ds (e.set i (.val d)) := nr rfl
@[simp] theorem e_wipe0 (e : EnvD) : wipeE e [] = e := nr rfl
@[simp] theorem e_wipeS (e : EnvD) (v : Nat) (vs : List Nat) : wipeE e (v :: vs) = (wipeE e vs).set v .no := nr rfl
theorem e_frz (i : Nat) (env : EnvD) {ds : List D} (h : env[i]? = some (.own ds)) : frzE i env = env.set i (.val (.lst ds)) := by unfold frzE; rw [h]
/-! unfolding -/
section
variable {α β γ : Type} {fa : EnvD → R D} {fb fc : EnvD → R D} {ta tb : EnvD → R Bool} {env : EnvD}
@[simp] theorem u_cst (d : D) : cst d env = .ok d := nr rfl
@[simp] theorem u_bin (f : α → β → Option γ) (fa : EnvD → R α) (fb : EnvD → R β) : bin f fa fb env = (fa env).bind fun x => (fb env).bind fun y => R.ofO (f x y) := nr rfl
@[simp] theorem u_una (f : α → Option γ) (fa : EnvD → R α) : una f fa env = (fa env).bind fun x => R.ofO (f x) := nr rfl
@[simp] theorem u_cons (fs : EnvD → R (List D)) : consF fa fs env = (fa env).bind fun d => (fs env).map (d :: ·) := nr rfl
@[simp] theorem u_nil : nilF env = .ok [] := nr rfl
@[simp] theorem u_call (fn : List D → R D) (fs : EnvD → R (List D)) : callF fn fs env = (fs env).bind fn := nr rfl
@[simp] theorem u_appL (f : List D → Option α) (fs : EnvD → R (List D)) : appL f fs env = (fs env).bind fun ds => R.ofO (f ds) := nr rfl
@[simp] theorem u_itm (fs : EnvD → R (List D)) : itmF fs env = (fs env).bind fun ds => if small ds.length = true then .ok (.itm ds) else .bad := nr rfl
@[simp] theorem u_tup (fs : EnvD → R (List D)) : tupF fs env = (fs env).bind fun ds => if small ds.length = true then .ok (.tup ds) else .bad := nr rfl
@[simp] theorem u_lst (fs : EnvD → R (List D)) : lstF fs env = (fs env).bind fun ds => if small ds.length = true then .ok ds else .bad := nr rfl
@[simp] theorem u_mkL (f : EnvD → R (List D)) : mkL f env = (f env).map D.lst := nr rfl
@[simp] theorem u_asV : asV ta env = (ta env).map D.bl := nr rfl
@[simp] theorem u_tst : tst fa env = (fa env).bind fun x => R.ofO (asB x) := nr rfl
@[simp] theorem u_andF : andF ta tb env = (ta env).bind fun k => if k = true then tb env else .ok false := nr rfl
@[simp] theorem u_orF : orF ta tb env = (ta env).bind fun k => if k = true then .ok true else tb env := nr rfl
@[simp] theorem u_notF : notF ta env = (ta env).map (!·) := nr rfl
@[simp] theorem u_andV : andV fa fb env = (tst fa env).bind fun k => if k = true then fb env else .ok (.bl false) := nr rfl
@[simp] theorem u_orV : orV fa fb env = (tst fa env).bind fun k => if k = true then .ok (.bl true) else fb env := nr rfl
@[simp] theorem u_notV : notV fa env = (tst fa env).map fun k => .bl (!k) := nr rfl
@[simp] theorem u_ifF (t : EnvD → R Bool) (fa fb : EnvD → R α) : ifF t fa fb env = (t env).bind fun k => if k = true then fa env else fb env := nr rfl
@[simp] theorem u_chain (f : α → β → Option Bool) (f' : β → γ → Option Bool) (fa : EnvD → R α) (fb : EnvD → R β) (fc : EnvD → R γ) :
    chain f f' fa fb fc env = (fa env).bind fun x => (fb env).bind fun y => (R.ofO (f x y)).bind fun k => if k = true then (fc env).bind fun z => R.ofO (f' y z) else .ok false := nr rfl
@[simp] theorem u_ret : retS fa env = bindS (fa env) env fun d => .ret d := nr rfl
@[simp] theorem u_set (i : Nat) : setS i fa env = bindS (fa env) env fun d => .next (env.set i (.val d)) := nr rfl
@[simp] theorem u_setO (i : Nat) (f : EnvD → R (List D)) : setO i f env = bindS (f env) env fun d => .next (env.set i (.own d)) := nr rfl
@[simp] theorem u_setM (i : Nat) (f : EnvD → R (Bool × List D × List D)) : setM i f env = bindS (f env) env fun d => .next (env.set i (.ownd d.1 d.2.1 d.2.2)) := nr rfl
@[simp] theorem u_drop (f : EnvD → R α) : dropS f env = bindS (f env) env fun _ => .next env := nr rfl
@[simp] theorem u_if (t : EnvD → R Bool) (G1 G2 : EnvD → Out) : ifS t G1 G2 env = bindS (t env) env fun k => if k = true then G1 env else G2 env := nr rfl
@[simp] theorem u_skip : skipS env = .next env := nr rfl
@[simp] theorem u_raise (c : Exc) : raiseS c env = .err c env := nr rfl
@[simp] theorem u_par (i j : Nat) (fa fb : EnvD → R Sl) : setPar i j fa fb env = bindS (fa env) env fun s => bindS (fb env) env fun t => .next ((env.set i s).set j t) := nr rfl
@[simp] theorem u_slV : slV fa env = (fa env).map Sl.val := nr rfl
@[simp] theorem u_slN (f : EnvD → R (List D)) : slN f env = (f env).map Sl.own := nr rfl
@[simp] theorem u_seqF : seqF fa env = (fa env).bind fun x => R.ofO (asSeq x) := nr rfl
@[simp] theorem u_lst' (xs : List D) : asSeq (.lst xs) = some xs := nr rfl
@[simp] theorem u_tup' (xs : List D) : asSeq (.tup xs) = some xs := nr rfl
@[simp] theorem u_asB (b : Bool) : asB (.bl b) = some b := nr rfl
@[simp] theorem u_toD (b : Bool) : toD (some b) = some (.bl b) := nr rfl
@[simp] theorem u_int2 (f : Int → Int → Option D) (i j : Int) : int2 f (.int i) (.int j) = f i j := nr rfl
@[simp] theorem u_cmpI (f : Int → Int → Bool) (i j : Int) : cmpI f (.int i) (.int j) = some (f i j) := nr rfl
@[simp] theorem u_neg (i : Int) : negD (.int i) = some (.int (-i)) := nr rfl
@[simp] theorem u_addI (i j : Int) : addD (.int i) (.int j) = some (.int (i + j)) := nr rfl
@[simp] theorem u_sub (i j : Int) : subD (.int i) (.int j) = some (.int (i - j)) := nr rfl
theorem u_mod (i j : Int) (h : 0 < j) : modD (.int i) (.int j) = some (.int (i % j)) := by unfold modD; simp [h]
theorem u_fdiv (i j : Int) (h : 0 < j) (h2 : j < 1000000000000000000000) : fdivD (.int i) (.int j) = some (.int (i / j)) := by unfold fdivD; simp [h, h2]
theorem u_mulR (i j : Int) (h : -18446744073709551616 < j) (h2 : j < 18446744073709551616) : mulD (.int i) (.int j) = some (.int (i * j)) := by
  show mulI (.int i) (.int j) = _
  unfold mulI; simp [h, h2]
theorem u_mulL (i j : Int) (h : -18446744073709551616 < i) (h2 : i < 18446744073709551616) : mulD (.int i) (.int j) = some (.int (i * j)) := by
  show mulI (.int i) (.int j) = _
  unfold mulI; simp [h, h2]
@[simp] theorem u_max (i j : Int) : max2D [.int i, .int j] = some (.int (max i j)) := by
  show some (D.int (if j > i then j else i)) = _
  congr 2; omega
@[simp] theorem u_min (i j : Int) : min2D [.int i, .int j] = some (.int (min i j)) := by
  show some (D.int (if j < i then j else i)) = _
  congr 2; omega
@[simp] theorem u_len1 (xs : List D) : lenD [.lst xs] = some (.int xs.length) := nr rfl
@[simp] theorem u_len2 (xs : List D) : lenD [.tup xs] = some (.int xs.length) := nr rfl
@[simp] theorem u_len3 (xs : List Int) : lenD [.scr xs] = some (.int xs.length) := nr rfl
@[simp] theorem u_tuple1 (xs : List D) : tupleD [.lst xs] = some (.tup xs) := nr rfl
@[simp] theorem u_tuple2 (xs : List D) : tupleD [.tup xs] = some (.tup xs) := nr rfl
@[simp] theorem u_list1 (xs : List D) : listD [.lst xs] = some xs := nr rfl
@[simp] theorem u_list2 (xs : List D) : listD [.tup xs] = some xs := nr rfl
@[simp] theorem u_isN (d : D) : isNoneD d .non = if noRaw d = true then some (isNon d) else none := by cases d <;> rfl
@[simp] theorem u_notN (d : D) : notNoneD d .non = if noRaw d = true then some (!isNon d) else none := by cases d <;> rfl
@[simp] theorem u_isB (a b : Bool) : isBD (.bl a) (.bl b) = some (decide (a = b)) := nr rfl
@[simp] theorem u_notB (a b : Bool) : notBD (.bl a) (.bl b) = some (!decide (a = b)) := nr rfl
@[simp] theorem u_isInt (i : Int) : isIntD (.int i) = some true := nr rfl
@[simp] theorem u_isBool (i : Int) : isBoolD (.int i) = some false := nr rfl
@[simp] theorem u_isTup (xs : List D) : isTupD (.tup xs) = some true := nr rfl
@[simp] theorem u_isTupL (xs : List D) : isTupD (.lst xs) = some false := nr rfl
@[simp] theorem u_nr0 : noRaw .non = true := nr rfl
@[simp] theorem u_nr1 (i : Int) : noRaw (.int i) = true := nr rfl
@[simp] theorem u_nr2 (xs : List D) : noRaw (.tup xs) = true := nr rfl
@[simp] theorem u_nr3 (xs : List D) : noRaw (.lst xs) = true := nr rfl
@[simp] theorem u_in0 : isNon .non = true := nr rfl
@[simp] theorem u_in1 (i : Int) : isNon (.int i) = false := nr rfl
@[simp] theorem u_in2 (xs : List D) : isNon (.tup xs) = false := nr rfl
@[simp] theorem u_in3 (xs : List D) : isNon (.lst xs) = false := nr rfl
@[simp] theorem u_slice (fl fh : EnvD → R (Option Int)) : sliceF fa fl fh env = (fa env).bind fun x => (fl env).bind fun lo => (fh env).bind fun hi => R.ofO (cutF x lo hi) := nr rfl
@[simp] theorem u_noO : noO env = .ok none := nr rfl
@[simp] theorem u_someO : someO fa env = (fa env).bind fun d => R.ofO (asO d) := nr rfl
@[simp] theorem u_asO (i : Int) : asO (.int i) = some (some i) := nr rfl
@[simp] theorem u_rngL1 (fa : EnvD → R D) (env : EnvD) : rngL1 fa env = (fa env).bind fun d => R.ofO (asRng1 [d]) := nr rfl
@[simp] theorem small_le {n : Nat} (h : n ≤ 16777216) : small n = true := by unfold small; exact decide_eq_true h
@[simp] theorem small_0 : small 0 = true := nr rfl
@[simp] theorem small_1 : small 1 = true := nr rfl
@[simp] theorem small_2 : small 2 = true := nr rfl
@[simp] theorem small_3 : small 3 = true := nr rfl
@[simp] theorem small_4 : small 4 = true := nr rfl
end
/-! subscripts -/
theorem ix_nat {xs : List D} {i : Nat} {d : D} (h : xs[i]? = some d) : ixD (.tup xs) (.int (i : Nat)) = some d ∧ ixD (.lst xs) (.int (i : Nat)) = some d := by
  have : atI xs (i : Int) = some d := by
    have hl := (List.getElem?_eq_some_iff.mp h).1
    unfold atI ixN
    rw [if_pos (by omega)]
    rw [Int.toNat_natCast, if_pos (by omega)]
    exact h
  exact ⟨this, this⟩
theorem ix_natI {xs : List D} {i : Nat} {d : D} (h : xs[i]? = some d) : ixD (.itm xs) (.int (i : Nat)) = some d := (ix_nat h).1
@[simp] theorem ix_i0 (d : D) (r : List D) : ixD (.itm (d :: r)) (.int 0) = some d := ix_natI (i := 0) rfl
@[simp] theorem ix_i1 (a d : D) (r : List D) : ixD (.itm (a :: d :: r)) (.int 1) = some d := ix_natI (i := 1) rfl
@[simp] theorem ix_0 (d : D) (r : List D) : ixD (.tup (d :: r)) (.int 0) = some d := (ix_nat (i := 0) rfl).1
@[simp] theorem ix_1 (a d : D) (r : List D) : ixD (.tup (a :: d :: r)) (.int 1) = some d := (ix_nat (i := 1) rfl).1
@[simp] theorem ix_2 (a b d : D) (r : List D) : ixD (.tup (a :: b :: d :: r)) (.int 2) = some d := (ix_nat (i := 2) rfl).1
@[simp] theorem ix_3 (a b c d : D) (r : List D) : ixD (.tup (a :: b :: c :: d :: r)) (.int 3) = some d := (ix_nat (i := 3) rfl).1
end PD

set_option maxHeartbeats 4000000
namespace PD
open PySem PySem.Spec PyProof.Rows L2
/-! ### equality of plain data -/
mutual
def plD : Nat → D → Bool
  | _, .non => true
  | _, .int _ => true
  | _, .str x => PyData.strOk x
  | n + 1, .tup xs => plDs n xs
  | n + 1, .lst xs => plDs n xs
  | _, _ => false
def plDs : Nat → List D → Bool
  | _, [] => true
  | n, x :: xs => plD n x && plDs n xs
end
mutual
theorem pl_lay : ∀ (n : Nat) (d : D), plD n d = true → d.toPy.canLay0 = true ∧ d.toPy.depth ≤ n
  | n, .non, _ => by simp [D.toPy, PyData.canLay0, PyData.depth]
  | n, .int _, _ => by simp [D.toPy, PyData.canLay0, PyData.depth]
  | n, .str x, h => by
    have h : PyData.strOk x = true := by cases n <;> exact h
    simp [D.toPy, PyData.canLay0, PyData.depth, h]
  | 0, .tup xs, h => by simp [plD] at h
  | n + 1, .tup xs, h => by
    have := pl_lays n xs (by simpa [plD] using h)
    simp [D.toPy, PyData.canLay0, PyData.depth, this]
  | 0, .lst xs, h => by simp [plD] at h
  | n + 1, .lst xs, h => by
    have := pl_lays n xs (by simpa [plD] using h)
    simp [D.toPy, PyData.canLay0, PyData.depth, this]
  | n, .bl _, h => by cases n <;> simp [plD] at h
  | n, .scr _, h => by cases n <;> simp [plD] at h
  | n, .dic _ _, h => by cases n <;> simp [plD] at h
  | n, .raw _, h => by cases n <;> simp [plD] at h
theorem pl_lays : ∀ (n : Nat) (ds : List D), plDs n ds = true → PyData.canLayAll0 (toPys ds) = true ∧ PyData.depthAll (toPys ds) ≤ n
  | n, [], _ => by simp [toPys, PyData.canLayAll0, PyData.depthAll]
  | n, d :: ds, h => by
    simp only [plDs, Bool.and_eq_true] at h
    have h1 := pl_lay n d h.1
    have h2 := pl_lays n ds h.2
    simp only [toPys, PyData.canLayAll0, PyData.depthAll, h1.1, h2.1, Bool.and_self, true_and]
    omega
end
mutual
theorem pl_eqv : ∀ (n m : Nat) (d e : D), plD n d = true → plD m e = true → (PyData.eqv d.toPy e.toPy = true ↔ d = e)
  | n, m, .non, e, _, h => by
    cases e <;> first | (cases m <;> simp [plD] at h; done) | simp [D.toPy, PyData.eqv]
  | n, m, .int i, e, _, h => by
    cases e <;> first | (cases m <;> simp [plD] at h; done) | simp [D.toPy, PyData.eqv]
  | n, m, .str x, e, _, h => by
    cases e <;> first | (cases m <;> simp [plD] at h; done) | simp [D.toPy, PyData.eqv]
  | 0, m, .tup xs, e, h, _ => by simp [plD] at h
  | n + 1, m, .tup xs, e, h', h => by
    cases e with
    | tup ys =>
      cases m with
      | zero => simp [plD] at h
      | succ m =>
        simp only [plD] at h h'
        simp only [D.toPy, PyData.eqv, D.tup.injEq]
        exact pl_eqvs n m xs ys h' h
    | _ => first | (cases m <;> simp [plD] at h; done) | simp [D.toPy, PyData.eqv]
  | 0, m, .lst xs, e, h, _ => by simp [plD] at h
  | n + 1, m, .lst xs, e, h', h => by
    cases e with
    | lst ys =>
      cases m with
      | zero => simp [plD] at h
      | succ m =>
        simp only [plD] at h h'
        simp only [D.toPy, PyData.eqv, D.lst.injEq]
        exact pl_eqvs n m xs ys h' h
    | _ => first | (cases m <;> simp [plD] at h; done) | simp [D.toPy, PyData.eqv]
  | n, m, .bl _, e, h, _ => by cases n <;> simp [plD] at h
  | n, m, .scr _, e, h, _ => by cases n <;> simp [plD] at h
  | n, m, .dic _ _, e, h, _ => by cases n <;> simp [plD] at h
  | n, m, .raw _, e, h, _ => by cases n <;> simp [plD] at h
theorem pl_eqvs : ∀ (n m : Nat) (ds es : List D), plDs n ds = true → plDs m es = true → (PyData.eqvAll (toPys ds) (toPys es) = true ↔ ds = es)
  | n, m, [], [], _, _ => by simp [toPys, PyData.eqvAll]
  | n, m, [], e :: es, _, _ => by simp [toPys, PyData.eqvAll]
  | n, m, d :: ds, [], _, _ => by simp [toPys, PyData.eqvAll]
  | n, m, d :: ds, e :: es, h, h' => by
    simp only [plDs, Bool.and_eq_true] at h h'
    simp only [toPys, PyData.eqvAll, Bool.and_eq_true, pl_eqv n m d e h.1 h'.1, pl_eqvs n m ds es h.2 h'.2, List.cons.injEq]
end
theorem shaped_pl {d : D} (h : plD 64 d = true) : SeqAt.shaped d.toPy = true := by
  have := pl_lay 64 d h
  unfold SeqAt.shaped
  simp [this]
theorem eqD_of {d e : D} {p : Prop} [Decidable p] (hd : plD 64 d = true) (he : plD 64 e = true) (h : d = e ↔ p) : eqD d e = some (decide p) := by
  unfold eqD
  rw [shaped_pl hd, shaped_pl he]
  simp only [Bool.and_self, if_true]
  congr 1
  rw [Bool.eq_iff_iff, decide_eq_true_eq, pl_eqv 64 64 d e hd he]
  exact h
theorem neD_of {d e : D} {p : Prop} [Decidable p] (hd : plD 64 d = true) (he : plD 64 e = true) (h : d = e ↔ p) : neD d e = some (!decide p) := by
  unfold neD; rw [eqD_of hd he h]; rfl
mutual
theorem pl_mono : ∀ (n : Nat) (d : D), plD n d = true → plD (n + 1) d = true
  | n, .non, _ => by simp [plD]
  | n, .int _, _ => by simp [plD]
  | n, .str x, h => by
    have h : PyData.strOk x = true := by cases n <;> exact h
    simp [plD, h]
  | 0, .tup xs, h => by simp [plD] at h
  | n + 1, .tup xs, h => by simp only [plD] at h ⊢; exact pl_monos n xs h
  | 0, .lst xs, h => by simp [plD] at h
  | n + 1, .lst xs, h => by simp only [plD] at h ⊢; exact pl_monos n xs h
  | n, .bl _, h => by cases n <;> simp [plD] at h
  | n, .scr _, h => by cases n <;> simp [plD] at h
  | n, .dic _ _, h => by cases n <;> simp [plD] at h
  | n, .raw _, h => by cases n <;> simp [plD] at h
theorem pl_monos : ∀ (n : Nat) (ds : List D), plDs n ds = true → plDs (n + 1) ds = true
  | n, [], _ => by simp [plDs]
  | n, d :: ds, h => by
    simp only [plDs, Bool.and_eq_true] at h ⊢
    exact ⟨pl_mono n d h.1, pl_monos n ds h.2⟩
end
theorem pl_up {n m : Nat} {d : D} (h : plD n d = true) (hm : n ≤ m) : plD m d = true := by
  induction m with
  | zero => rw [Nat.le_zero.mp hm] at h; exact h
  | succ m ih =>
    rcases Nat.lt_or_ge n (m + 1) with q | q
    · exact pl_mono m d (ih (by omega))
    · rw [show n = m + 1 by omega] at h; exact h
theorem pl_64 {n : Nat} {d : D} (h : plD n d = true) (hn : n ≤ 64 := by decide) : plD 64 d = true := pl_up h hn
theorem plDs_all {n : Nat} : ∀ {ds : List D}, (∀ d ∈ ds, plD n d = true) → plDs n ds = true
  | [], _ => by simp [plDs]
  | d :: ds, h => by
    simp only [plDs, Bool.and_eq_true]
    exact ⟨h d (by simp), plDs_all fun x hx => h x (by simp [hx])⟩
theorem pl_tup {n : Nat} {ds : List D} (h : ∀ d ∈ ds, plD n d = true) : plD (n + 1) (.tup ds) = true := by simp only [plD]; exact plDs_all h
theorem pl_lst {n : Nat} {ds : List D} (h : ∀ d ∈ ds, plD n d = true) : plD (n + 1) (.lst ds) = true := by simp only [plD]; exact plDs_all h
@[simp] theorem pl_int (n : Nat) (i : Int) : plD n (.int i) = true := by cases n <;> rfl
@[simp] theorem pl_non (n : Nat) : plD n .non = true := by cases n <;> rfl
@[simp] theorem eqD_int (i j : Int) : eqD (.int i) (.int j) = some (decide (i = j)) := eqD_of rfl rfl (by simp)
@[simp] theorem neD_int (i j : Int) : neD (.int i) (.int j) = some (!decide (i = j)) := neD_of rfl rfl (by simp)
@[simp] theorem eqD_nn : eqD .non .non = some true := nr rfl
@[simp] theorem eqD_in (i : Int) : eqD (.int i) .non = some false := nr rfl
@[simp] theorem eqD_ni (i : Int) : eqD .non (.int i) = some false := nr rfl
@[simp] theorem neD_nn : neD .non .non = some false := nr rfl
@[simp] theorem neD_in (i : Int) : neD (.int i) .non = some true := nr rfl
@[simp] theorem neD_ni (i : Int) : neD .non (.int i) = some true := nr rfl
@[simp] theorem neD_ll : neD (.lst []) (.lst []) = some false := nr rfl
@[simp] theorem eqD_ll : eqD (.lst []) (.lst []) = some true := nr rfl
theorem neD_self {d : D} (h : plD 64 d = true) : neD d d = some false := by rw [neD_of (p := True) h h (by simp)]; rfl
theorem eqD_self {d : D} (h : plD 64 d = true) : eqD d d = some true := by rw [eqD_of (p := True) h h (by simp)]; rfl
theorem neD_nil {xs : List D} (h : plD 64 (.lst xs) = true) : neD (.lst xs) (.lst []) = some (!decide (xs = [])) := neD_of h rfl (by simp)
theorem eqD_nil {xs : List D} (h : plD 64 (.lst xs) = true) : eqD (.lst xs) (.lst []) = some (decide (xs = [])) := eqD_of h rfl (by simp)
theorem eqD_bl (a b : Bool) : eqD (.bl a) (.bl b) = some (decide (a = b)) := by cases a <;> cases b <;> rfl
theorem neD_bl (a b : Bool) : neD (.bl a) (.bl b) = some (!decide (a = b)) := by cases a <;> cases b <;> rfl
/-! ### in -/
def nD (n : Nat) : D := .int n
theorem nD_inj {a b : Nat} (h : nD a = nD b) : a = b := by unfold nD at h; injection h with h; omega
theorem cast_eq (a b : Nat) : ((a : Int) = (b : Int)) ↔ a = b := by omega
@[simp] theorem eqD_nD (a b : Nat) : eqD (nD a) (nD b) = some (decide (a = b)) := by
  unfold nD; rw [eqD_int]; congr 1; rw [Bool.eq_iff_iff]; simp only [decide_eq_true_eq]; exact cast_eq a b
@[simp] theorem neD_nD (a b : Nat) : neD (nD a) (nD b) = some (!decide (a = b)) := by unfold neD; rw [eqD_nD]; rfl
@[simp] theorem addD_nD (a b : Nat) : addD (nD a) (nD b) = some (nD (a + b)) := by
  show some (D.int ((a : Int) + b)) = _
  unfold nD; congr 2
theorem map_inj {α : Type} {f : α → D} (hf : ∀ a b, f a = f b → a = b) : ∀ {xs ys : List α}, xs.map f = ys.map f ↔ xs = ys
  | [], [] => by simp
  | [], y :: ys => by simp
  | x :: xs, [] => by simp
  | x :: xs, y :: ys => by
    simp only [List.map_cons, List.cons.injEq, map_inj hf (xs := xs) (ys := ys)]
    constructor
    · rintro ⟨a, b⟩; exact ⟨hf _ _ a, b⟩
    · rintro ⟨a, b⟩; exact ⟨by rw [a], b⟩
theorem in_nat (n : Nat) (ns : List Nat) : inD (nD n) (.tup (ns.map nD)) = some (decide (n ∈ ns)) := by
  have h : (ns.map nD).all flatD = true := by simp [nD, flatD, Function.comp_def]
  show (if flatD (nD n) && (ns.map nD).all flatD then _ else _) = _
  rw [h, if_pos (by rfl)]
  congr 1
  rw [Bool.eq_iff_iff]
  simp [nD, D.toPy, PyData.eqv]
  constructor
  · rintro ⟨x, hx, e⟩
    have : x = n := by omega
    rwa [← this]
  · exact fun h => ⟨n, h, rfl⟩
theorem any_eqv {n m : Nat} {x : D} (hx : plD n x = true) : ∀ {ys : List D}, plDs m ys = true → ((toPys ys).any (fun y => PyData.eqv y x.toPy) = true ↔ x ∈ ys)
  | [], _ => by simp [toPys]
  | y :: ys, h => by
    simp only [plDs, Bool.and_eq_true] at h
    simp only [toPys, List.any_cons, Bool.or_eq_true, any_eqv hx h.2, pl_eqv m n y x h.1 hx, List.mem_cons]
    constructor <;> rintro (a | a) <;> simp [a]
/-- membership in a list -/
theorem in_lst {x : D} {ys : List D} {p : Prop} [Decidable p] (hx : plD 64 x = true) (hy : plD 64 (.lst ys) = true) (h : x ∈ ys ↔ p) : inD x (.lst ys) = some (decide p) := by
  have e : inD x (.lst ys) = if SeqAt.shaped x.toPy && SeqAt.shaped (D.lst ys).toPy then some ((toPys ys).any fun y => PyData.eqv y x.toPy) else none := by cases x <;> rfl
  rw [e, shaped_pl hx, shaped_pl hy]
  simp only [Bool.and_self, if_true]
  congr 1
  rw [Bool.eq_iff_iff, decide_eq_true_eq, any_eqv hx (m := 63) (by simpa [plD] using hy)]
  exact h
theorem in_tup {x : D} {ys : List D} {p : Prop} [Decidable p] (fx : flatD x = true) (fy : ys.all flatD = true) (hx : plD 64 x = true) (hy : plD 64 (.tup ys) = true) (h : x ∈ ys ↔ p) : inD x (.tup ys) = some (decide p) := by
  have e : inD x (.tup ys) = if flatD x && ys.all flatD then some (ys.any fun y => PyData.eqv y.toPy x.toPy) else none := by cases x <;> rfl
  rw [e, fx, fy]
  simp only [Bool.and_self, if_true]
  congr 1
  rw [Bool.eq_iff_iff, decide_eq_true_eq, ← h, ← any_eqv hx (m := 63) (by simpa [plD] using hy), toPys_map, List.any_map]
  rfl
/-! ### all, any -/
@[simp] theorem asBls_map : ∀ bs : List Bool, asBls (bs.map D.bl) = some bs
  | [] => rfl
  | b :: bs => by simp [asBls, asBls_map bs]
theorem all_map {α : Type} (f : α → Bool) (xs : List α) : allD [.lst (xs.map fun x => .bl (f x))] = some (.bl (xs.all f)) := by
  have e : (xs.map fun x => D.bl (f x)) = (xs.map f).map D.bl := by rw [List.map_map]; rfl
  show (asBls _).map _ = _
  rw [e, asBls_map]
  simp [List.all_map, Function.comp_def]
theorem any_map {α : Type} (f : α → Bool) (xs : List α) : anyD [.lst (xs.map fun x => .bl (f x))] = some (.bl (xs.any f)) := by
  have e : (xs.map fun x => D.bl (f x)) = (xs.map f).map D.bl := by rw [List.map_map]; rfl
  show (asBls _).map _ = _
  rw [e, asBls_map]
  simp [List.any_map, Function.comp_def]
/-! ### comprehensions -/
theorem lcL_ok {α : Type} {p : Pat} {vs : List Nat} {t : EnvD → R Bool} {f : EnvD → R D} {env : EnvD} {enc : α → D} (T : α → Bool) (Fv : α → D) : ∀ {xs : List α},
    (∀ x ∈ xs, ∃ e, bindP p (enc x) (wipeE env vs) = some e ∧ t e = .ok (T x) ∧ (T x = true → f e = .ok (Fv x))) → lcL p vs t f (xs.map enc) env = .ok ((xs.filter T).map Fv)
  | [], _ => rfl
  | x :: xs, h => by
    obtain ⟨e, h1, h2, h3⟩ := h x (by simp)
    have ih := lcL_ok (xs := xs) T Fv fun y hy => h y (by simp [hy])
    simp only [List.map_cons, lcL, h1, h2]
    cases q : T x with
    | false => simp [q, ih]
    | true => simp [q, ih, h3 q]
theorem lcL_all {α : Type} {p : Pat} {vs : List Nat} {f : EnvD → R D} {env : EnvD} {enc : α → D} (Fv : α → D) {xs : List α}
    (h : ∀ x ∈ xs, ∃ e, bindP p (enc x) (wipeE env vs) = some e ∧ f e = .ok (Fv x)) : lcL p vs yesF f (xs.map enc) env = .ok (xs.map Fv) := by
  rw [lcL_ok (fun _ => true) Fv fun x hx => by
    obtain ⟨e, h1, h2⟩ := h x hx
    exact ⟨e, h1, rfl, fun _ => h2⟩]
  rw [List.filter_eq_self.mpr fun _ _ => rfl]
theorem lc2L_ok {α : Type} {p p1 : Pat} {vs vs1 : List Nat} {t t1 : EnvD → R Bool} {f : EnvD → R D} {src1 : EnvD → R (List D)} {env : EnvD} {enc : α → D} (T : α → Bool) (Ys : α → List D) : ∀ {xs : List α},
    (∀ x ∈ xs, ∃ e, bindP p (enc x) (wipeE env vs) = some e ∧ t e = .ok (T x) ∧ (T x = true → ∃ ds, src1 e = .ok ds ∧ lcL p1 vs1 t1 f ds e = .ok (Ys x))) → lc2L p vs t src1 p1 vs1 t1 f (xs.map enc) env = .ok ((xs.filter T).flatMap Ys)
  | [], _ => rfl
  | x :: xs, h => by
    obtain ⟨e, h1, h2, h3⟩ := h x (by simp)
    have ih := lc2L_ok (xs := xs) T Ys fun y hy => h y (by simp [hy])
    simp only [List.map_cons, lc2L, h1, h2, noErr, e_bind]
    cases q : T x with
    | false => simp [q, ih]
    | true =>
      obtain ⟨ds, h4, h5⟩ := h3 q
      simp [q, ih, h4, h5, noErr]
/-! ### loops -/
theorem forL_pred {p : Pat} {G : EnvD → Out} (I : EnvD → Prop) : ∀ {ds : List D} {e : EnvD}, I e → (∀ e d, I e → d ∈ ds → ∃ e1, bindP p d e = some e1 ∧ ∃ e2, (G e1 = .next e2 ∨ G e1 = .cont e2) ∧ I e2) → ∃ e', forL p G ds e = .next e' ∧ I e'
  | [], e, h, _ => ⟨e, rfl, h⟩
  | d :: ds, e, h, k => by
    obtain ⟨e1, h1, e2, h2, h3⟩ := k e d h (by simp)
    obtain ⟨e', h4, h5⟩ := forL_pred I (ds := ds) h3 fun e d' i m => k e d' i (by simp [m])
    refine ⟨e', ?_, h5⟩
    simp only [forL, h1]
    rcases h2 with h2 | h2 <;> simp only [h2, h4]
/-- a loop that goes through, its state told -/
theorem forL_fold {α S : Type} {p : Pat} {G : EnvD → Out} {enc : α → D} (E : S → EnvD) (step : S → α → S) : ∀ {xs : List α} {s : S}, (∀ s x, x ∈ xs → ∃ e1, bindP p (enc x) (E s) = some e1 ∧ (G e1 = .next (E (step s x)) ∨ G e1 = .cont (E (step s x)))) →
    forL p G (xs.map enc) (E s) = .next (E (xs.foldl step s))
  | [], s, _ => rfl
  | x :: xs, s, k => by
    obtain ⟨e1, h1, h2⟩ := k s x (by simp)
    have ih := forL_fold E step (xs := xs) (s := step s x) fun s y m => k s y (by simp [m])
    simp only [List.map_cons, forL, h1, List.foldl_cons]
    rcases h2 with h2 | h2 <;> simp only [h2, ih]
@[simp] theorem u_lc (p : Pat) (vs : List Nat) (t : EnvD → R Bool) (f : EnvD → R D) (src : EnvD → R (List D)) (env : EnvD) : lcF p vs t f src env = (src env).bind fun ds => lcL p vs t f ds env := nr rfl
@[simp] theorem u_for (p : Pat) (f : EnvD → R (List D)) (G : EnvD → Out) (env : EnvD) : forS p f G env = bindS (f env) env fun ds => forL p G ds env := nr rfl
/-! ### ranges, enumerate -/
theorem rng_map (lo hi : Int) : rng lo hi = (List.range (hi - lo).toNat).map fun i => .int (lo + (i : Nat)) := rfl
theorem rng0 (n : Nat) : rng 0 (n : Int) = (List.range n).map nD := by
  unfold rng nD
  simp
theorem asRng1_nat {n : Nat} (h : n ≤ 16777216) : asRng1 [.int (n : Int)] = some ((List.range n).map nD) := by
  show (if rngOk 0 (n : Int) = true then some (rng 0 n) else none) = _
  rw [rng0, if_pos (by unfold rngOk; simp; omega)]
theorem asRng2_int {lo hi : Int} (h1 : -1000000 ≤ lo) (h2 : lo ≤ 1000000) (h3 : -1000000 ≤ hi) (h4 : hi ≤ 1000000) : asRng2 [.int lo, .int hi] = some (rng lo hi) := by
  show (if rngOk lo hi = true then some (rng lo hi) else none) = _
  rw [if_pos (by unfold rngOk; simp; omega)]
theorem enumL_map {α : Type} (enc : α → D) (dflt : α) : ∀ (k : Nat) (xs : List α), enumL k (xs.map enc) = (List.range xs.length).map fun i => .itm [.int ((k + i : Nat) : Int), enc (xs.getD i dflt)]
  | _, [] => rfl
  | k, x :: xs => by
    rw [List.map_cons, enumL, enumL_map enc dflt (k + 1) xs, List.length_cons, List.range_succ_eq_map, List.map_cons, List.map_map]
    rw [List.cons.injEq]
    refine ⟨by simp, List.map_congr_left fun i _ => ?_⟩
    simp only [Function.comp_def, List.getD_cons_succ, Nat.succ_eq_add_one]
    rw [show k + 1 + i = k + (i + 1) by omega]
/-! ### the last item -/
theorem ix_last {xs : List D} {d : D} (h : xs.getLast? = some d) : ixD (.lst xs) (.int (-1)) = some d := by
  have hl : xs ≠ [] := fun e => by rw [e] at h; cases h
  have hl2 := List.length_pos_iff.mpr hl
  show atI xs (-1) = some d
  unfold atI ixN
  rw [if_neg (by omega), if_pos (by omega)]
  rw [List.getLast?_eq_getElem?] at h
  simp only [Option.bind_some]
  rw [← h]
  congr 1
  omega
theorem ix_lastT {xs : List D} {d : D} (h : xs.getLast? = some d) : ixD (.tup xs) (.int (-1)) = some d := ix_last h
/-- none or a number -/
def optD : Option Nat → D
  | none => .non
  | some n => nD n
theorem optD_inj {a b : Option Nat} (h : optD a = optD b) : a = b := by
  cases a <;> cases b <;> simp [optD, nD] at h ⊢
  omega
@[simp] theorem pl_opt (n : Nat) (o : Option Nat) : plD n (optD o) = true := by cases o <;> simp [optD, nD]
@[simp] theorem pl_nat (n m : Nat) : plD n (nD m) = true := by simp [nD]

/-- a loop that goes through, told by what is done -/
theorem forL_ind {α : Type} {p : Pat} {G : EnvD → Out} {enc : α → D} (I : List α → EnvD → Prop) {xs : List α} {e : EnvD} (h0 : I [] e)
    (h : ∀ pre x suf, xs = pre ++ x :: suf → ∀ e, I pre e → ∃ e1, bindP p (enc x) e = some e1 ∧ ∃ e2, (G e1 = .next e2 ∨ G e1 = .cont e2) ∧ I (pre ++ [x]) e2) : ∃ e', forL p G (xs.map enc) e = .next e' ∧ I xs e' := by
  have key : ∀ (suf pre : List α) (e : EnvD), xs = pre ++ suf → I pre e → ∃ e', forL p G (suf.map enc) e = .next e' ∧ I xs e' := by
    intro suf
    induction suf with
    | nil => intro pre e q i; rw [List.append_nil] at q; subst q; exact ⟨e, rfl, i⟩
    | cons x suf ih =>
      intro pre e q i
      obtain ⟨e1, h1, e2, h2, h3⟩ := h pre x suf q e i
      obtain ⟨e', h4, h5⟩ := ih (pre ++ [x]) e2 (by rw [q]; simp) h3
      refine ⟨e', ?_, h5⟩
      simp only [List.map_cons, forL, h1]
      rcases h2 with h2 | h2 <;> simp only [h2, h4]
  exact key xs [] e rfl h0
/-- a loop that may return: at each item it goes on or returns -/
theorem whileL_ok {t : EnvD → R Bool} {G : EnvD → Out} (I : Nat → EnvD → Prop) (J : EnvD → Prop) (h : ∀ m e, I m e → (t e = .ok false ∧ J e) ∨ (t e = .ok true ∧ ∃ e2 m', m' < m ∧ (G e = .next e2 ∨ G e = .cont e2) ∧ I m' e2)) :
    ∀ (n m : Nat) (e : EnvD), m < n → I m e → ∃ e', whileL t G n e = .next e' ∧ J e'
  | 0, m, e, hm, _ => absurd hm (Nat.not_lt_zero _)
  | n + 1, m, e, hm, i => by
    rcases h m e i with ⟨h1, h2⟩ | ⟨h1, e2, m', h2, h3, h4⟩
    · exact ⟨e, by simp [whileL, h1], h2⟩
    · obtain ⟨e', h5, h6⟩ := whileL_ok I J h n m' e2 (by omega) h4
      refine ⟨e', ?_, h6⟩
      rcases h3 with h3 | h3 <;> simp [whileL, h1, h3, h5]
/-! ### sorting -/
theorem leD_eq (a b : D) : leD a b = !PySem.W.dataLt b.toPy a.toPy := by unfold leD; rw [PySem.W.dataLe_eq]; rfl
theorem leD_nat (a b : Nat) : leD (nD a) (nD b) = decide (a ≤ b) := by
  rw [leD_eq]
  show (!PySem.W.dataLt (.int b) (.int a)) = _
  rw [PySem.W.dataLt_int, Bool.eq_iff_iff]
  simp
theorem leD_ii (a b c d : Int) : leD (.tup [.int a, .int b]) (.tup [.int c, .int d]) = decide (a < c ∨ (a = c ∧ b ≤ d)) := by
  rw [leD_eq]
  show (!PySem.W.dataLt (.tuple [.int c, .int d]) (.tuple [.int a, .int b])) = _
  rw [PySem.W.dataLt_ii, Bool.eq_iff_iff]
  simp
  omega
theorem leD_iiI (a b c d : Int) : leD (.itm [.int a, .int b]) (.itm [.int c, .int d]) = decide (a < c ∨ (a = c ∧ b ≤ d)) := leD_ii a b c d
theorem isort_uniq {ds es : List D} (hp : ds.Perm es) (hs : es.Pairwise fun a b => leD a b = true) (anti : ∀ a ∈ es, ∀ b ∈ es, leD a b = true → leD b a = true → a = b) : isort leD ds = es :=
  List.Perm.eq_of_pairwise (le := fun a b => leD a b = true) (fun a b ha hb h1 h2 => anti a (((isort_perm (le := leD) ds).trans hp).mem_iff.mp ha) b hb h1 h2) (isort_sorted leD_total ds) hs ((isort_perm ds).trans hp)
theorem srtOk_int {ds : List D} (h : ∀ d ∈ ds, isI d = true) : srtOk ds = true := by
  unfold srtOk
  rw [List.all_eq_true.mpr h]; simp
theorem srtOk_t1 {ds : List D} (h : ∀ d ∈ ds, isT1 d = true) : srtOk ds = true := by
  unfold srtOk
  rw [List.all_eq_true.mpr h]; simp
theorem srtOk_t2 {ds : List D} (h : ∀ d ∈ ds, isT2 d = true) : srtOk ds = true := by
  unfold srtOk
  rw [List.all_eq_true.mpr h]; simp
theorem range_pair {α : Type} {R : α → α → Prop} {f : Nat → α} : ∀ {n : Nat}, (∀ i j, i < j → j < n → R (f i) (f j)) → ((List.range n).map f).Pairwise R := fun {n} h =>
  List.pairwise_iff_getElem.mpr fun i j hi hj hij => by
    simp only [List.length_map, List.length_range] at hi hj
    simp only [List.getElem_map, List.getElem_range]
    exact h i j hij hj
theorem sort_nats {os : List Nat} {n : Nat} (h : os.Perm (List.range n)) : isort leD (os.map nD) = (List.range n).map nD := by
  refine isort_uniq (h.map nD) (range_pair fun i j hij _ => by rw [leD_nat]; exact decide_eq_true (by omega)) fun a ha b hb h1 h2 => ?_
  obtain ⟨i, _, rfl⟩ := List.mem_map.mp ha
  obtain ⟨j, _, rfl⟩ := List.mem_map.mp hb
  rw [leD_nat] at h1 h2
  rw [Nat.le_antisymm (of_decide_eq_true h1) (of_decide_eq_true h2)]

theorem dput_ok {i : Nat} {fk fv : EnvD → R D} {env : EnvD} {t : Bool} {ks vs : List D} {k v : D} (h1 : fv env = .ok v) (h2 : env[i]? = some (.ownd t ks vs)) (h3 : fk env = .ok k) (h4 : isKey t k = true) (h5 : small (ks.length + 1) = true) :
    dputS i fk fv env = .next (env.set i (.ownd t (dPut ks vs k v).1 (dPut ks vs k v).2)) := by
  unfold dputS
  simp [h1, h2, h3, h4, h5]

theorem lcL_ex {α β : Type} {p : Pat} {vs : List Nat} {f : EnvD → R D} {env : EnvD} {enc : α → D} (g : β → D) (P : α → β → Prop) : ∀ {xs : List α}, (∀ x ∈ xs, ∃ e y, bindP p (enc x) (wipeE env vs) = some e ∧ f e = .ok (g y) ∧ P x y) →
    ∃ ys : List β, ys.length = xs.length ∧ (∀ (i : Nat) x y, xs[i]? = some x → ys[i]? = some y → P x y) ∧ lcL p vs yesF f (xs.map enc) env = .ok (ys.map g)
  | [], _ => ⟨[], rfl, by simp, rfl⟩
  | x :: xs, h => by
    obtain ⟨e, y, h1, h2, h3⟩ := h x (by simp)
    obtain ⟨ys, h4, h5, h6⟩ := lcL_ex g P (xs := xs) fun z hz => h z (by simp [hz])
    refine ⟨y :: ys, by simp [h4], fun i u v hu hv => ?_, by simp [lcL, h1, yesF, h2, h6]⟩
    cases i with
    | zero => simp at hu hv; subst hu hv; exact h3
    | succ i => exact h5 i u v (by simpa using hu) (by simpa using hv)
theorem appPop_ok {i j : Nat} {f : EnvD → R D} {env : EnvD} {ds es : List D} {k : Nat} {y : D} (hij : i ≠ j) (h1 : env[i]? = some (.own ds)) (h2 : env[j]? = some (.own es)) (h3 : f env = .ok (nD k)) (h4 : es[k]? = some y) (h5 : small (ds.length + 1) = true) :
    appPopS i j f env = .next ((env.set j (.own (es.eraseIdx k))).set i (.own (ds ++ [y]))) := by
  have hl := (List.getElem?_eq_some_iff.mp h4).1
  unfold appPopS
  simp [h1, h2, h3, nD, hij, h4, h5, hl]
  rw [List.getElem?_eq_getElem hl] at h4
  rw [Option.some.inj h4]
theorem app_ok {i : Nat} {f : EnvD → R D} {env : EnvD} {ds : List D} {d : D} (h1 : env[i]? = some (.own ds)) (h2 : f env = .ok d) (h3 : small (ds.length + 1) = true) : appS i f env = .next (env.set i (.own (ds ++ [d]))) := by
  unfold appS
  simp [h1, h2, h3]
theorem ext_ok {i : Nat} {f : EnvD → R (List D)} {env : EnvD} {ds es : List D} (h1 : env[i]? = some (.own ds)) (h2 : f env = .ok es) (h3 : small (ds.length + es.length) = true) : extS i f env = .next (env.set i (.own (ds ++ es))) := by
  unfold extS
  simp [h1, h2, h3]
theorem unp_ok {q : Pat} {f : EnvD → R D} {env e : EnvD} {d : D} (h1 : f env = .ok d) (h2 : bindP q d env = some e) : unpS q f env = .next e := by
  unfold unpS
  simp [h1, h2]
theorem map_erase' {α : Type} (f : α → D) : ∀ (l : List α) (i : Nat), (l.map f).eraseIdx i = (l.eraseIdx i).map f
  | [], _ => by simp
  | a :: l, 0 => by simp
  | a :: l, i + 1 => by simp [map_erase' f l i]

/-! ### keys -/
def addK {α : Type} [DecidableEq α] (ks : List α) (c : α) : List α := if c ∈ ks then ks else ks ++ [c]
section
variable {α β : Type} [DecidableEq α] {enc : α → D}
theorem dPutV_k (enc : α → D) (c : D) : ∀ ks : List α, dPutV (ks.map enc) (ks.map fun _ => .bl true) c (.bl true) = ks.map fun _ => .bl true
  | [] => rfl
  | k :: ks => by simp [dPutV, dPutV_k enc c ks]
theorem dPut_k (h : ∀ a b, keyEq (enc a) (enc b) = decide (a = b)) (ks : List α) (c : α) : dPut (ks.map enc) (ks.map fun _ => .bl true) (enc c) (.bl true) = ((addK ks c).map enc, (addK ks c).map fun _ => .bl true) := by
  unfold dPut addK
  have e : ((ks.map enc).any fun k => keyEq k (enc c)) = decide (c ∈ ks) := by
    rw [List.any_map, Bool.eq_iff_iff]
    simp [h]
  rw [e]
  by_cases q : c ∈ ks
  · simp [q, dPutV_k]
  · simp [q]
theorem addK_nodup {ks : List α} {c : α} (h : ks.Nodup) : (addK ks c).Nodup := by
  unfold addK
  split
  · exact h
  · rename_i q
    rw [List.nodup_append]
    exact ⟨h, by simp, fun a ha b hb e => by simp at hb; subst hb; subst e; exact q ha⟩
theorem addK_mem {ks : List α} {c d : α} : d ∈ addK ks c ↔ d ∈ ks ∨ d = c := by
  unfold addK
  split
  · rename_i q
    constructor
    · exact .inl
    · rintro (h | h)
      · exact h
      · rw [h]; exact q
  · simp
theorem addK_len (ks : List α) (c : α) : (addK ks c).length ≤ ks.length + 1 := by
  unfold addK; split <;> simp
theorem foldK_nodup {f : β → α} : ∀ (xs : List β) {ks : List α}, ks.Nodup → (xs.foldl (fun ks x => addK ks (f x)) ks).Nodup
  | [], _, h => h
  | x :: xs, _, h => foldK_nodup xs (addK_nodup h)
theorem foldK_mem {f : β → α} {j : α} : ∀ (xs : List β) {ks : List α}, j ∈ xs.foldl (fun ks x => addK ks (f x)) ks ↔ j ∈ ks ∨ ∃ x ∈ xs, f x = j
  | [], ks => by simp
  | x :: xs, ks => by
    rw [List.foldl_cons, foldK_mem xs, addK_mem]
    constructor
    · rintro ((h | h) | ⟨y, hy, e⟩)
      · exact .inl h
      · exact .inr ⟨x, by simp, h.symm⟩
      · exact .inr ⟨y, by simp [hy], e⟩
    · rintro (h | ⟨y, hy, e⟩)
      · exact .inl (.inl h)
      · rcases List.mem_cons.mp hy with q | q
        · exact .inl (.inr (by rw [← e, q]))
        · exact .inr ⟨y, q, e⟩
theorem dcL_keys {p : Pat} {vs : List Nat} {t : EnvD → R Bool} {fk fv : EnvD → R D} {env : EnvD} {en : β → D} (enc : α → D) (h : ∀ a b, keyEq (enc a) (enc b) = decide (a = b)) (κ : β → α) (hk : ∀ a, isKey false (enc a) = true) : ∀ {xs : List β} {ks : List α}, ks.length + xs.length ≤ 1000000 →
    (∀ x ∈ xs, ∃ e, bindP p (en x) (wipeE env vs) = some e ∧ t e = .ok true ∧ fk e = .ok (enc (κ x)) ∧ fv e = .ok (.bl true)) →
    dcL p vs t fk fv (xs.map en) (ks.map enc, ks.map fun _ => .bl true) env = .ok ((xs.foldl (fun ks x => addK ks (κ x)) ks).map enc, (xs.foldl (fun ks x => addK ks (κ x)) ks).map fun _ => .bl true)
  | [], ks, _, _ => rfl
  | x :: xs, ks, hl, hx => by
    obtain ⟨e, h1, h2, h3, h4⟩ := hx x (by simp)
    have hl' : ks.length + xs.length + 1 ≤ 1000000 := by simp at hl; omega
    have := addK_len ks (κ x)
    have ih := dcL_keys enc h κ hk (xs := xs) (ks := addK ks (κ x)) (by omega) fun y hy => hx y (by simp [hy])
    have sm : small (ks.length + 1) = true := small_le (by omega)
    simp only [List.map_cons, dcL, h1, h2, h3, h4, noErr, e_bind, if_true, List.length_map, sm, hk, and_self, dPut_k h, List.foldl_cons]
    exact ih
end

/-! ### more about loops and sorting -/
/-- a loop that returns at the first item that P tells -/
theorem forL_find {α : Type} {p : Pat} {G : EnvD → Out} {enc : α → D} (E : EnvD → Prop) (P : α → Bool) (res : α → D) : ∀ {xs : List α} {e : EnvD}, E e → (∀ e x, E e → x ∈ xs → ∃ e1, bindP p (enc x) e = some e1 ∧ (P x = true → G e1 = .ret (res x)) ∧ (P x = false → ∃ e2, (G e1 = .next e2 ∨ G e1 = .cont e2) ∧ E e2)) →
    (∃ x, xs.find? P = some x ∧ forL p G (xs.map enc) e = .ret (res x)) ∨ (xs.find? P = none ∧ ∃ e', forL p G (xs.map enc) e = .next e' ∧ E e')
  | [], e, h, _ => .inr ⟨rfl, e, rfl, h⟩
  | x :: xs, e, h, k => by
    obtain ⟨e1, h1, h2, h3⟩ := k e x h (by simp)
    cases q : P x with
    | true => exact .inl ⟨x, by simp [q], by simp only [List.map_cons, forL, h1, h2 q]⟩
    | false =>
      obtain ⟨e2, h4, h5⟩ := h3 q
      rcases forL_find E P res (xs := xs) h5 fun e y he hy => k e y he (by simp [hy]) with ⟨y, a, b⟩ | ⟨a, e', b, c⟩
      · refine .inl ⟨y, by simp [q, a], ?_⟩
        simp only [List.map_cons, forL, h1]
        rcases h4 with h4 | h4 <;> simp only [h4, b]
      · refine .inr ⟨by simp [q, a], e', ?_, c⟩
        simp only [List.map_cons, forL, h1]
        rcases h4 with h4 | h4 <;> simp only [h4, b]
theorem insL_map {α β : Type} {le : β → β → Bool} (f : α → β) (x : α) : ∀ l : List α, insL le (f x) (l.map f) = (insL (fun a b => le (f a) (f b)) x l).map f
  | [] => rfl
  | y :: ys => by
    simp only [List.map_cons, insL]
    split
    · simp
    · simp [insL_map f x ys]
theorem isort_map {α β : Type} {le : β → β → Bool} (f : α → β) : ∀ l : List α, isort le (l.map f) = (isort (fun a b => le (f a) (f b)) l).map f
  | [] => rfl
  | x :: xs => by
    simp only [List.map_cons, isort, isort_map f xs, insL_map]
end PD

set_option maxHeartbeats 4000000
namespace PD
open PySem PySem.Spec PyProof.Rows L2
/-! ### what is not reached -/
def noneF {α : Type} : EnvD → R α := fun _ => .bad
theorem pd_none {α : Type} {X : Cx} {cls : Exc → Addr} {W : WX} {P : PP V α} {e : Expr} : PDE X cls W P e (noneF : EnvD → R α) := ⟨fun _ _ _ _ _ _ ⟨_, _, _, _, g⟩ => g.elim⟩
end PD

set_option maxHeartbeats 4000000
namespace PD
open PySem PySem.Spec PyProof.Rows L2
/-! ### the exception classes -/
def excName : Exc → Str
  | .paneError => "PaneError"
  | .window => "InvalidWindow"
  | .windows => "InvalidWindows"
  | .order => "InvalidOrder"
  | .cell => "InvalidCell"
  | .number => "InvalidNumber"
  | .group => "InvalidGroup"
  | .reports => "InvalidReports"
  | .move => "InvalidMove"
  | .size => "InvalidSize"
  | .sizes => "InvalidSizes"
  | .tooLarge => "TooLarge"
  | .nothing => "NothingToUndo"
  | .parse => "ParseError"
def clsK (K : PySem.W.Frag) (c : Exc) : Addr := He.ga K (excName c)
def excLe (c d : Exc) : Bool := decide (c = d) || decide (d = .paneError)
def excOk1 (K : PySem.W.Frag) (C : Addr) : Bool := He.eqO (PySem.W.findIn K (.ref C) "__getattribute__") (some (some (.builtin "BaseException.__getattribute__"))) && (He.eqO (PySem.W.findIn K (.ref C) "__getattr__") (some none) &&
  (decide (PySem.W.subIn K (.ref C) (.type "BaseException") = some true) && (PySem.W.hasDictIn K C && (He.eqO (PySem.W.findIn K (.ref C) "__class__") (some (some (.builtin "object.__class__"))) &&
  (He.eqO (PySem.W.specialIn K (.builtin "object.__class__") "__get__") (some (some (.builtin "getset_descriptor.__get__"))) && (decide (PySem.W.takesIn K (.builtin "object.__class__") = some true) && decide (PySem.W.mroIn K C (.type "object") = some true)))))))
def excOk (exs : List Exc) (K : PySem.W.Frag) : Bool := exs.all fun c => excOk1 K (clsK K c) && exs.all fun d => decide (PySem.W.exmOne K (.ref (clsK K c)) (.ref (clsK K d)) = some (excLe c d))
structure ExcF (K : PySem.W.Frag) (cls : Exc → Addr) (exs : List Exc) : Prop where
  c : ∀ c ∈ exs, ExcC K (cls c)
  m : ∀ c ∈ exs, ∀ d ∈ exs, PySem.W.exmOne K (.ref (cls c)) (.ref (cls d)) = some (excLe c d)
theorem excF_of {exs : List Exc} {K : PySem.W.Frag} (h : excOk exs K = true) : ExcF K (clsK K) exs := by
  have h1 := fun c hc => List.all_eq_true.mp h c hc
  simp only [Bool.and_eq_true] at h1
  refine ⟨fun c hc => ?_, fun c hc d hd => ?_⟩
  · have e := (h1 c hc).1
    unfold excOk1 at e
    simp only [Bool.and_eq_true] at e
    obtain ⟨a1, a2, a3, a4, a5, a6, a7, a8⟩ := e
    exact ⟨He.eqO_ok a1, He.eqO_ok a2, of_decide_eq_true a3, a4, He.eqO_ok a5, He.eqO_ok a6, of_decide_eq_true a7, of_decide_eq_true a8⟩
  · exact of_decide_eq_true (List.all_eq_true.mp (h1 c hc).2 d hd)
theorem ExcF.kit {exs : List Exc} {K : PySem.W.Frag} {cls : Exc → Addr} (x : ExcF K cls exs) {c d : Exc} (hc : c ∈ exs) (hd : d ∈ exs) : PySem.W.kitOne K (.ref (cls c)) (.ref (cls d)) = some (excLe c d) := by
  have m := x.m c hc d hd
  unfold PySem.W.exmOne at m
  split at m
  · unfold PySem.W.kitOne
    split
    · rename_i e
      have e2 : cls c = cls d := by
        have := beq_iff_eq.mp e
        injection this
      have m2 := x.m d hd d hd
      rw [← x.m c hc d hd, e2, m2]
      unfold excLe
      simp
    · exact m
  · cases m
/-! ### isinstance(e, X), e the exception that a handler holds -/
def isE (i : Nat) (a : Addr) (b : Bool) : EnvD → R D := fun env => match env[i]? with
  | some (.val (.raw (.ref x))) => if x = a then .ok (.bl b) else .bad
  | _ => .bad
theorem pd_isE {X : Cx} {cls : Exc → Addr} {W : WX} {a : Addr} {oe : Obj} {pn : List (Addr × Obj)} {c d : Exc} {i : Nat} {n x : Str} {p p2 p3 pos : Pos} {exs : List Exc} (xf : ExcF X.K cls exs) (hc : c ∈ exs) (hdx : d ∈ exs) (hz : Zc (.ref (cls c)) none oe) (hf : ∃ vs, oe.data = .fields vs)
    (hv : PE (X.suite a ((a, oe) :: pn)) (.Name n p2) (tVar i)) (hg : Gl X "isinstance") (hm : X.mg "isinstance" = none) (hx : Gl X x) (hxm : X.mg x = some (.ref (cls d))) (hd : (x == ("__debug__" : Str)) = false := by decide)
    (hs : starEach [.Name n p2, .Name x p3] X.env = (false, eval (.Name n p2) X.env) :: starEach [.Name x p3] X.env := by rfl) (hs2 : starEach [.Name x p3] X.env = (false, eval (.Name x p3) X.env) :: starEach [] X.env := by rfl) (hpl : (backTo pos (starEach [.Name x p3] X.env)).any (·.1) = false := by rfl) :
    PDE (X.suite a ((a, oe) :: pn)) cls W (pV X.K) (.Call (.Name "isinstance" p) [.Name n p2, .Name x p3] [] pos) (isE i a (excLe c d)) :=
  pe_imp (pe_callB (call_isE (xf.c c hc) hz hf) hg hm (by decide +kernel) (pa_cons hv (pa_cons (pe_glob (X := X.suite a ((a, oe) :: pn)) (v := .ref (cls d)) hx hxm rfl hd) pa_nil hs2) hs) (by decide) (by decide) hs hpl) fun σ H Q ⟨H0, F, env, ea, g⟩ => by
    unfold isE at g
    split at g
    · rename_i z q
      split at g
      · rename_i e
        subst e
        obtain ⟨v, h1, h2⟩ := ea.at_ i _ q
        cases h2
        refine ⟨.ref z, getD_some h1, .ref (cls d), .ref (cls d), excLe c d, rfl, fun u r => ?_, xf.kit hc hdx, g _ F H (Ext.refl ea.fh) (.bl _)⟩
        cases r; rfl
      · exact g.elim
    · exact g.elim
theorem isE_at {i : Nat} {a : Addr} {b : Bool} {e : EnvD} (h : i < e.length) : isE i a b (e.set i (.val (.raw (.ref a)))) = .ok (.bl b) := by
  unfold isE
  rw [List.getElem?_set_self h]
  simp
theorem isE_no {i : Nat} {a : Addr} {b : Bool} {e : EnvD} (h : ¬ i < e.length) : isE i a b (e.set i (.val (.raw (.ref a)))) = .bad := by
  unfold isE
  rw [List.getElem?_eq_none (by simpa using h)]
theorem isE_at2 {i j : Nat} {a : Addr} {b : Bool} {e : EnvD} {s : Sl} (hij : j ≠ i) (h : i < e.length) : isE i a b ((e.set i (.val (.raw (.ref a)))).set j s) = .ok (.bl b) := by
  unfold isE
  rw [List.getElem?_set_ne hij, List.getElem?_set_self h]
  simp
/-! ### try .. except PaneError as e: what returns -/
def tryR (i : Nat) (Hd : Addr → Exc → EnvD → Out) (c : Exc) (e : EnvD) : Out := match Hd 0 c (e.set i (.val (.raw (.ref 0)))) with
  | .ret d => .ret d
  | _ => .bad
def tryS (exs : List Exc) (i : Nat) (G : EnvD → Out) (Hd : Addr → Exc → EnvD → Out) : EnvD → Out := fun env => match G env with
  | .err c e => if c ∈ exs then tryR i Hd c e else .bad
  | .next e => .next e
  | .brk e => .brk e
  | .cont e => .cont e
  | .ret d => .ret d
  | .bad => .bad
theorem pds_try {exs : List Exc} {X : Cx} {cls : Exc → Addr} {W : WX} {x n : Str} {i : Nat} {body suite : List Stmt} {b₀ : Stmt} {np pos pos' : Pos} {G : EnvD → Out} {Hd : Addr → Exc → EnvD → Out}
    (hs : X.stack = X.env :: X.outer) (hf : X.env.frame = some X.env.locals) (hN : X.N.Nodup) (hi : X.N[i]? = some n) (hln : X.env.kindOf n = some .local) (xf : ExcF X.K cls exs) (hpe : .paneError ∈ exs) (hx : Gl X x) (hxm : X.mg x = some (.ref (cls .paneError))) (tk : Takes X W)
    (hb : ∀ (W' : WX) (pn : List (Addr × Obj)) (xe : Value → Shared → Prop), Takes (X.tr pn xe) W' → PassesOwn (model X.prog X.w) X.A X.env xe → PDSs (X.tr pn xe) cls W' body G)
    (hu : ∀ (a : Addr) (c : Exc) (e : EnvD) (d : D), Hd 0 c (e.set i (.val (.raw (.ref 0)))) = .ret d → Hd a c (e.set i (.val (.raw (.ref a)))) = .ret d)
    (hsu : ∀ (c : Exc), c ∈ exs → ∀ (a : Addr) (oe : Obj) (pn : List (Addr × Obj)), Zc (.ref (cls c)) none oe → (∃ vs, oe.data = .fields vs) → PDSs (X.suite a ((a, oe) :: pn)) cls W0 (b₀ :: suite) (Hd a c)) (hd : (x == ("__debug__" : Str)) = false := by decide) :
    PDS X cls W (.Try body [.ExceptHandler (some (.Name x np)) (some n) (b₀ :: suite) pos'] [] [] pos) (tryS exs i G Hd) :=
  ps_imp (ps_try_as (tb := fun W' => tS X.K cls W' G) (ts := fun a cv d D σ H => ∃ c, c ∈ exs ∧ cv = .ref (cls c) ∧ d = none ∧ tS X.K cls W0 (Hd a c) D σ H) (Wout := W) hs hf hN hi hln ⟨hx, hd, .inl hxm⟩ tk
    (fun W' pn xe tk' hp => hb W' pn xe tk' hp)
    (fun a oe cv d pn hz hfd => ⟨fun pins s σ H D I ⟨c, hc, e1, e2, h⟩ => by
      subst e1 e2
      exact (hsu c hc a oe pn hz hfd).run pins s σ H D I h⟩)) fun D σ H ⟨H0, F0, env, F, z, ea, g⟩ => by
    refine ⟨H0, F0, env, F, z, ea, ?_⟩
    unfold tryS at g
    cases q : G env with
    | err c e =>
      rw [q] at g
      have g : GoS X.K cls W F0 H0 F (if c ∈ exs then tryR i Hd c e else .bad) D := g
      split at g
      rotate_left
      · exact g.elim
      rename_i hc
      intro σ' F' H' x' s' ea'
      refine ⟨true, by rw [xf.m c hc .paneError hpe]; simp [excLe], fun _ a ha => ⟨c, hc, rfl, rfl, H0, F0, e.set i (.val (.raw (.ref a))), F', x', ea'.setV i (.raw _), ?_⟩, fun h => by cases h⟩
      have g : GoS X.K cls W F0 H0 F (tryR i Hd c e) D := g
      unfold tryR at g
      split at g
      · rename_i d w
        rw [hu a c e d w]
        exact fun v F1 H1 y1 y2 r => g v F1 H1 y1 (s'.trans y2) r
      · exact g.elim
    | next e => rw [q] at g; exact g
    | brk e => rw [q] at g; exact g
    | cont e => rw [q] at g; exact g
    | ret e => rw [q] at g; exact g
    | bad => rw [q] at g; exact g
theorem getB_self {e : EnvD} {j : Nat} {v : D} (h : j < e.length) : getB j (e.set j (.val v)) = .ok v := by
  unfold getB
  rw [List.getElem?_set_self h]
theorem getV_self {e : EnvD} {j : Nat} {v : D} (h : j < e.length) : getV j (e.set j (.val v)) = .ok v := by
  unfold getV
  rw [List.getElem?_set_self h]
theorem getB_out {e : EnvD} {j : Nat} (h : ¬ j < e.length) : getB j e = .bad := by
  unfold getB
  rw [List.getElem?_eq_none (by omega)]
theorem getV_out {e : EnvD} {j : Nat} (h : ¬ j < e.length) : getV j e = .bad := by
  unfold getV
  rw [List.getElem?_eq_none (by omega)]
@[simp] theorem u_catL (xs ys : List D) : catD (.lst xs) (.lst ys) = if small (xs.length + ys.length) = true then some (xs ++ ys) else none := nr rfl
theorem bindS_ret {r : R D} {env : EnvD} {x : D} : (bindS r env fun d => .ret d) = .ret x ↔ r = .ok x := by cases r <;> simp [bindS]
/-! ### the head, with what is asked of the exception classes -/
def obsE (n : Nat) (fa : List He.Fa) (fn : List He.DefD) (ex : PySem.W.Frag → Bool) (g : Addr → Option Obj) : He.AlD × Bool := (He.obsDG n fa fn g, ex (He.frG g (He.asD g n)))
def hookE (n : Nat) (fa : List He.Fa) (fn : List He.DefD) (ex : PySem.W.Frag → Bool) : PySem.W.Hook where
  α := He.AlD × Bool
  obs := fun s => obsE n fa fn ex s.heap.get?
  val := fun _ => (He.valD fn, true)
  says := fun _ h => ∃ K : PySem.W.Frag, K.In h ∧ He.SaysD fa fn K ∧ ex K = true
  of := fun _ _ e => ⟨_, He.frG_in, congrArg (fun z : He.AlD × Bool => z.1) e, congrArg (fun z : He.AlD × Bool => z.2) e⟩
  keeps := fun _ _ _ ⟨K, hK, c, d⟩ k => ⟨K, PySem.W.Frag.In.keeps hK k, c, d⟩
theorem obsE_eq {n : Nat} {fa : List He.Fa} {fn : List He.DefD} {ex : PySem.W.Frag → Bool} {g : Addr → Option Obj} {s : Shared} (h : ∀ a, g a = s.heap.get? a) : obsE n fa fn ex g = (hookE n fa fn ex).obs s := by
  have e : g = s.heap.get? := funext h
  rw [e] <;> rfl
end PD

set_option maxHeartbeats 4000000
namespace PD
open PySem PySem.Spec PyProof.Rows L2
/-! ### methods of tuples -/
def metT (f : List D → List D → Option D) (fo : EnvD → R D) (fs : EnvD → R (List D)) : EnvD → R D := fun env => (fo env).bind fun x => match x with
  | .tup xs => (fs env).bind fun ds => R.ofO (f xs ds)
  | _ => .bad
def tixD : List D → List D → Option D
  | ds, [.int k] => (asInts ds).bind fun ns => if k ∈ ns then some (.int (ns.idxOf k : Nat)) else none
  | _, _ => none
theorem tixD_inv {ds es : List D} {z : D} (h : tixD ds es = some z) : ∃ (ns : List Int) (k : Int), ds = ns.map D.int ∧ es = [.int k] ∧ k ∈ ns ∧ z = .int (ns.idxOf k : Nat) := by
  match es, h with
  | [.int k], h =>
    have h : ((asInts ds).bind fun ns => if k ∈ ns then some (D.int (ns.idxOf k : Nat)) else none) = some z := h
    cases w : asInts ds with
    | none => rw [w] at h; cases h
    | some ns =>
      rw [w] at h
      have h : (if k ∈ ns then some (D.int (ns.idxOf k : Nat)) else none) = some z := h
      by_cases hk : k ∈ ns
      · rw [if_pos hk] at h; cases h; exact ⟨ns, k, asInts_eq w, rfl, hk, rfl⟩
      · rw [if_neg hk] at h; cases h
section
variable {X : Cx} {cls : Exc → Addr} {W : WX} {o e : Expr} {fo : EnvD → R D} {fs : EnvD → R (List D)} {apos cpos : Pos}
theorem pd_tidx (ho : PDE X cls W (pV X.K) o fo) (ha : PDA X cls W (pA X.K) [e] fs)
    (hbase : attributeBase o "index" X.env (eval o X.env) = eval o X.env := by rfl)
    (hfew : ((backTo cpos (starEach [e] X.env)).all (fun x => !x.1) && (backToKw cpos (keywordEach [] X.env)).all (fun x => x.1.isSome)
      && decide ([e].length + ([] : List Keyword).length + (if ([] : List Keyword).isEmpty then 0 else 1) < 30)) = true := by rfl)
    (hline : (apos.endLine == cpos.line) = true := by rfl) (hs : starEach [e] X.env = (false, eval e X.env) :: starEach [] X.env := by rfl) (hplain : (backTo cpos (starEach [] X.env)).any (·.1) = false := by rfl) :
    PDE X cls W (pV X.K) (.Call (.Attribute o "index" apos) [e] [] cpos) (metT tixD fo fs) :=
  pe_imp (pe_bmT PySem.F.plainAttrs_tuple PySem.F.slot_tuple_index PySem.F.type_tuple_index mt_tidx ho ha hbase hfew hline hs hplain) fun σ H Q ⟨H0, F, env, ea, g⟩ => ⟨H0, F, env, ea, (Go.bind g).imp fun x H1 ⟨F1, d, _, e1, p1, g1⟩ => by
    cases d with
    | tup ds =>
      cases p1 with
      | @tup a xs ds h1 h2 h3 =>
        have g1 : Go cls (pV X.K) W σ F1 H1 ((fs env).bind fun ds' => R.ofO (tixD ds ds')) Q := g1
        refine ⟨⟨a, xs, rfl, h1.mono e1.i⟩, H0, F1, env, ea.mono e1, (Go.bind g1).imp fun vs H2 ⟨F2, es', _, e2, p2, g2⟩ => ?_⟩
        obtain ⟨z, hz, g3⟩ := Go.ofO g2
        obtain ⟨ns, k, rfl, rfl, hk, rfl⟩ := tixD_inv hz
        have ex := h3.of_ints
        subst ex
        cases p2 with
        | cons a1 a2 =>
          cases a1; cases a2
          exact ⟨a, ns, k, rfl, rfl, ((h1.mono e1.i).mono e2.h).sq, hk, g3 _ F2 H2 (Ext.refl e2.i) (.int _)⟩
    | _ => exact g1.elim⟩
end
theorem asInts_map : ∀ ns : List Int, asInts (ns.map D.int) = some ns
  | [] => rfl
  | n :: ns => by show (asInts (ns.map D.int)).map (n :: ·) = _; rw [asInts_map ns]; rfl
theorem u_metT {f : List D → List D → Option D} {fo : EnvD → R D} {fs : EnvD → R (List D)} {env : EnvD} {xs ds : List D} (h1 : fo env = .ok (.tup xs)) (h2 : fs env = .ok ds) : metT f fo fs env = R.ofO (f xs ds) := by
  unfold metT
  rw [h1]
  show (fs env).bind _ = _
  rw [h2]; rfl
/-! ### x in d, d a dict of one's own with int keys -/
def inK (i : Nat) (fy : EnvD → R D) : EnvD → R D := fun env => (fy env).bind fun y => match y, env[i]? with
  | .int j, some (.ownd false ks _) => .ok (.bl (ks.any fun k => keyEq k (.int j)))
  | _, _ => .bad
theorem any_valV (j : Int) : ∀ kvs : List (Key × V), ((kvs.map fun p => kD p.1).any fun k => keyEq k (.int j)) = (valV kvs (.inl j)).isSome
  | [] => rfl
  | p :: ps => by
    have e : keyEq (kD p.1) (.int j) = decide (p.1 = .inl j) := keyEq_k p.1 (.inl j)
    rw [List.map_cons, List.any_cons, e, any_valV j ps]
    by_cases q : p.1 = .inl j
    · rw [valV_pos q]; simp [q]
    · rw [valV_neg q]; simp [q]
theorem pd_inK {X : Cx} {cls : Exc → Addr} {W : WX} {y o : Expr} {fy : EnvD → R D} {i : Nat} {pos : Pos} (hu : X.A.units + 1 < cLine) (hy : PDE X cls W (pV X.K) y fy) (ho : PE X o (tVar i)) (hb : behindInMarks .In o = false := by rfl) :
    PDE X cls W (pV X.K) (.Compare y [.In] [o] pos) (inK i fy) :=
  pe_imp (pe_cmp (pc_din hu hy ho) hb) fun σ H Q ⟨H0, F, env, ea, g⟩ => ⟨H0, F, env, ea, (Go.bind g).imp fun v H1 ⟨F1, d, _, e1, p1, g1⟩ => by
    have ea1 := ea.mono e1
    cases d with
    | int j =>
      cases p1
      cases q : env[i]? with
      | none => rw [q] at g1; exact g1.elim
      | some s =>
        rw [q] at g1
        cases s with
        | ownd t ks vs =>
          cases t with
          | false =>
            obtain ⟨p, u, h1, h2, h3, h4, h5⟩ := ea1.at_ i _ q
            cases h5 with
            | @k kvs vs' l r =>
              refine ⟨.ref p, getD_some h1, p, valV kvs (.inl j), rfl, .inl ⟨kvs, .inl j, .inl h4, rfl, rfl⟩, ?_⟩
              have g1 : Q (.bl ((kvs.map fun p => kD p.1).any fun k => keyEq k (.int j))) H1 := g1 _ F1 H1 (Ext.refl e1.i) (.bl _)
              rw [any_valV] at g1
              exact g1
          | true => exact g1.elim
        | _ => exact g1.elim
    | _ => exact g1.elim⟩
end PD

set_option maxHeartbeats 4000000
namespace PD
open PySem PySem.Spec PyProof.Rows L2
/-! ### min(xs) of alike data: the first of the least -/
def minT : List D → Option D
  | [.lst (d :: ds)] => if srtOk (d :: ds) && small (d :: ds).length then some (ds.foldl (fun a y => if PySem.W.dataLt y.toPy a.toPy = true then y else a) d) else none
  | _ => none
def rMinT (K : PySem.W.Frag) : List V → Hp → VK → Prop := fun vs H Q => ∃ (F : Hp) (p : Addr) (xs : List V) (d : D) (ds : List D), Same F H ∧ vs = [.ref p] ∧ H p = some (.lst xs) ∧ Reps K F xs (d :: ds) ∧ srtOk (d :: ds) = true ∧
  ∀ v, Rep K F v (ds.foldl (fun a y => if PySem.W.dataLt y.toPy a.toPy = true then y else a) d) → Q v H
theorem srt_nn {ds : List D} (h : srtOk ds = true) : ∀ d ∈ ds, d.toPy ≠ .none := by
  unfold srtOk at h
  simp only [Bool.or_eq_true] at h
  rcases h with (h | h) | h
  · intro d hd
    obtain ⟨i, rfl⟩ := isI_eq (List.all_eq_true.mp h d hd)
    simp [D.toPy]
  · intro d hd
    obtain ⟨i, ns, e⟩ := isT1_eq (List.all_eq_true.mp h d hd)
    rw [e]; simp
  · intro d hd
    obtain ⟨i, ns, rfl⟩ := isT2_eq (List.all_eq_true.mp h d hd)
    simp [D.toPy]
theorem dep_all : ∀ {xs : List PyData} {n : Nat}, (∀ x ∈ xs, x.depth ≤ n) → PyData.depthAll xs ≤ n
  | [], n, _ => by simp [PyData.depthAll]
  | x :: xs, n, h => by
    have a := h x (by simp)
    have b := dep_all (xs := xs) (n := n) fun y hy => h y (by simp [hy])
    simp only [PyData.depthAll]
    omega
theorem lay_all : ∀ {ds : List D}, (∀ d ∈ ds, d.toPy.canLay0 = true) → PyData.canLayAll0 (toPys ds) = true
  | [], _ => by simp [toPys, PyData.canLayAll0]
  | d :: ds, h => by
    simp only [toPys, PyData.canLayAll0, h d (by simp), lay_all (ds := ds) fun e he => h e (by simp [he]), Bool.and_self]
theorem cr_minT {X : Cx} (hc : X.calm = true) (hu : X.A.units + 8 < cLine) : CallR X (.builtin "min") (rMinT X.K) := by
  intro pins s σ H vs us Q I r h
  obtain ⟨F, p, xs, d, ds, i, rfl, hp, rs, ok, q⟩ := h
  obtain ⟨u, rfl, rv⟩ := vals1 r
  cases rv
  obtain ⟨its, r1, pl, _⟩ := I.list (SqL.of hp)
  have P := srt_ok ok
  have dp := reps_dp (rs.mono i) (lay_all P.ly)
  rw [toPys_map] at dp
  obtain ⟨as, rd⟩ := Dp.readsAll I _ _ _ dp r1
  have al : PySem.W.AlikeAll ((d :: ds).map D.toPy) := ⟨fun x hx y hy => P.al x hx y hy, fun x hx => by
    obtain ⟨e, he, rfl⟩ := List.mem_map.mp hx
    exact srt_nn ok e he⟩
  have dd : PyData.depthAll ((d :: ds).map D.toPy) ≤ 2 := dep_all fun x hx => by
    obtain ⟨e, he, rfl⟩ := List.mem_map.mp hx
    exact P.dp e he
  have hn : its.toArray.size = ds.length + 1 := by
    rw [List.size_toArray, ← r1.length, rs.length, List.length_cons]
  have rd' : ReadsAll s.heap its.toArray.toList ((d :: ds).map D.toPy) as := by simpa using rd
  refine PySem.call_min_walkH (PySem.W.iter_listW (A := X.A.in1) (I.ok.hd hc) pl.isList fun s₂ e W st hfp hw hk => ?_)
  refine ⟨_, _, _, _, _, _, _, s.heap, _, rfl, W, st, hfp, by omega, hw, hk, PySem.W.cmpIn_lt (A := X.A.in1) rd' al (by show X.A.units + 1 + _ < _; omega), fun v s' hP m => ?_⟩
  obtain ⟨h', tk, rfl, hk'⟩ := PySem.W.moved_old e rfl m
  have bt : (fun i j => PySem.W.dataLt (((d :: ds).map D.toPy).getD i .none) (((d :: ds).map D.toPy).getD j .none)) = fun i j => (fun a b : D => PySem.W.dataLt a.toPy b.toPy) ((d :: ds).getD i .non) ((d :: ds).getD j .non) := by
    have g : ∀ k : Nat, ((d :: ds).map D.toPy).getD k .none = ((d :: ds).getD k .non).toPy := fun k => by
      rw [List.getD_eq_getElem?_getD, List.getD_eq_getElem?_getD, List.getElem?_map]
      cases (d :: ds)[k]? with
      | none => simp [D.toPy]
      | some x => rfl
    funext i j
    rw [g, g]
  rw [bt, hn, Nat.add_sub_cancel] at hP
  obtain ⟨a1, a2⟩ := PySem.W.argBest_fold (fun a b : D => PySem.W.dataLt a.toPy b.toPy) D.non d ds ds.length (Nat.le_refl _)
  rw [List.take_length] at a2
  generalize argBest (fun i j => (fun a b : D => PySem.W.dataLt a.toPy b.toPy) ((d :: ds).getD i .non) ((d :: ds).getD j .non)) ds.length = k at *
  have hk2 : k < (d :: ds).length := by rw [List.length_cons]; omega
  obtain ⟨x, hx, rx⟩ := rs.get (i := k) (d := (d :: ds)[k]'hk2) (by simp [hk2])
  obtain ⟨u, hu', ru⟩ := r1.get hx
  have hP : its.toArray[k]? = some v := hP
  rw [List.getElem?_toArray, hu'] at hP
  cases hP
  have e2 : (d :: ds)[k]'hk2 = ds.foldl (fun a y => if PySem.W.dataLt y.toPy a.toPy = true then y else a) d := by
    rw [← a2, List.getD_eq_getElem?_getD, List.getElem?_eq_getElem hk2]; rfl
  rw [e2] at rx
  exact ⟨x, H, I.kept (t' := tk) hk', ru, q x rx⟩
theorem cs_minT {K : PySem.W.Frag} : CallSem (pV K) K (rMinT K) minT := fun F H xs ds z Q i h hz k => by
  unfold minT at hz
  split at hz
  · rename_i d es
    split at hz
    · rename_i ok
      cases hz
      obtain ⟨v, rfl, hv⟩ := repBs1 h
      obtain ⟨p, us, rfl, h1, h2, h3⟩ := repB_lst i hv
      exact ⟨F, p, us, d, es, i, rfl, h1, h3, (Bool.and_eq_true_iff.mp ok).1, fun v rv => k v F H (Ext.refl i) rv⟩
    · cases hz
  · cases hz
end PD

set_option maxHeartbeats 4000000
namespace PD
open PySem PySem.Spec PyProof.Rows L2
def exsA : List Exc := [.paneError, .windows, .size, .sizes]
def G_is_int : EnvD → Out := (retS (andV (una (fun d => toD (isIntD d)) (getB 0)) (andV (notV (una (fun d => toD (isBoolD d)) (getB 0))) (asV (chain leI leI (getV 1) (getV 0) (getV 2))))))
def fD_is_int : List D → R D := fnD 3 3 G_is_int
def G_find_overlap : EnvD → Out := (seqS (setS 2 (tupF (consF (appL max2D (consF (bin ixD (getB 0) (cst (.int 0))) (consF (bin ixD (getB 1) (cst (.int 0))) nilF))) (consF (appL max2D (consF (bin ixD (getB 0) (cst (.int 1))) (consF (bin ixD (getB 1) (cst (.int 1))) nilF))) (consF (appL min2D (consF (bin ixD (getB 0) (cst (.int 2))) (consF (bin ixD (getB 1) (cst (.int 2))) nilF))) (consF (appL min2D (consF (bin ixD (getB 0) (cst (.int 3))) (consF (bin ixD (getB 1) (cst (.int 3))) nilF))) nilF)))))) (retS (ifF (andF (bin ltI (bin ixD (getB 2) (cst (.int 0))) (bin ixD (getB 2) (cst (.int 2)))) (bin ltI (bin ixD (getB 2) (cst (.int 1))) (bin ixD (getB 2) (cst (.int 3))))) (getV 2) (cst .non))))
def fD_find_overlap : List D → R D := fnD 3 2 G_find_overlap
def B_all_places_0 : EnvD → Out := (appS 1 (tupF (consF (getV 2) (consF (getV 3) (consF (bin addD (getV 2) (bin ixD (getB 0) (cst (.int 0)))) (consF (bin addD (getV 3) (bin ixD (getB 0) (cst (.int 1)))) nilF))))))
def B_all_places_1 : EnvD → Out := (forS (.nm 3) (appL asRng1 (consF (bin addD (bin subD (cst (.int 12)) (bin ixD (getB 0) (cst (.int 1)))) (cst (.int 1))) nilF)) B_all_places_0)
def G_all_places : EnvD → Out := (seqS (setO 1 (lstF nilF)) (seqS (forS (.nm 2) (appL asRng1 (consF (bin addD (bin subD (cst (.int 12)) (bin ixD (getB 0) (cst (.int 0)))) (cst (.int 1))) nilF)) B_all_places_1) (frzS 1 (retS (getV 1)))))
def fD_all_places : List D → R D := fnD 4 1 G_all_places
def B__law_drawn_0 : EnvD → Out := (seqS (setS 5 (bin fdivD (getV 5) (cst (.int 1000000)))) (setS 4 (bin subD (getV 4) (cst (.int 1)))))
def G__law_drawn : EnvD → Out := (seqS (setS 3 (bin mulD (cst (.int 7)) (getV 1))) (seqS (ifS (bin neD (getB 0) (mkL (lstF nilF))) (seqS (setS 3 (bin ixD (getB 0) (bin modD (getV 1) (appL lenD (consF (getB 0) nilF))))) (seqS (setS 4 (bin fdivD (getV 1) (appL lenD (consF (getB 0) nilF)))) (seqS (ifS (andF (bin geI (getV 3) (bin powD (cst (.int 10)) (cst (.int 18)))) (bin ltI (getV 4) (cst (.int 60)))) (seqS (setS 5 (bin fdivD (getV 3) (bin powD (cst (.int 10)) (cst (.int 18))))) (seqS (whileL (andF (bin gtI (getV 5) (cst (.int 0))) (bin gtI (getV 4) (cst (.int 0)))) B__law_drawn_0 3000) (ifS (bin gtI (getV 5) (cst (.int 0))) (retS (bin modD (bin modD (getV 5) (cst (.int 1000000))) (getV 2))) skipS))) skipS) (setS 3 (bin addD (getV 3) (bin mulD (cst (.int 6553)) (bin fdivD (getV 1) (appL lenD (consF (getB 0) nilF))))))))) skipS) (seqS (setS 3 (bin modD (bin addD (bin mulD (bin modD (getV 3) (cst (.int 2147483563))) (cst (.int 69069))) (bin mulD (cst (.int 104723)) (bin addD (getV 1) (cst (.int 1))))) (cst (.int 2147483563)))) (seqS (setS 3 (bin modD (bin addD (bin mulD (getV 3) (getV 3)) (bin fdivD (getV 3) (cst (.int 3)))) (cst (.int 2147483399)))) (retS (bin modD (bin fdivD (bin modD (bin addD (bin mulD (getV 3) (getV 3)) (bin fdivD (getV 3) (cst (.int 7)))) (cst (.int 2147483647))) (cst (.int 11))) (getV 2)))))))
def fD__law_drawn : List D → R D := fnD 6 3 G__law_drawn
def G__law_meet : EnvD → Out := (retS (andV (bin (fun x y => toD (ltI x y)) (bin ixD (getB 0) (cst (.int 0))) (bin ixD (getB 1) (cst (.int 2)))) (andV (bin (fun x y => toD (ltI x y)) (bin ixD (getB 1) (cst (.int 0))) (bin ixD (getB 0) (cst (.int 2)))) (andV (bin (fun x y => toD (ltI x y)) (bin ixD (getB 0) (cst (.int 1))) (bin ixD (getB 1) (cst (.int 3)))) (bin (fun x y => toD (ltI x y)) (bin ixD (getB 1) (cst (.int 1))) (bin ixD (getB 0) (cst (.int 3))))))))
def fD__law_meet : List D → R D := fnD 2 2 G__law_meet
def G_is_window : EnvD → Out := (seqS (ifS (orF (notF (tst (una (fun d => toD (isTupD d)) (getB 0)))) (bin neD (appL lenD (consF (getB 0) nilF)) (cst (.int 4)))) (retS (cst (.bl false))) skipS) (seqS (ifS (notF (tst (appL allD (consF (mkL (lcF (.nm 1) [1] yesF (callF fD_is_int (consF (getV 1) (consF (cst (.int 0)) (consF (cst (.int 12)) nilF)))) (seqF (getV 0)))) nilF)))) (retS (cst (.bl false))) skipS) (retS (andV (bin (fun x y => toD (ltI x y)) (bin ixD (getB 0) (cst (.int 0))) (bin ixD (getB 0) (cst (.int 2)))) (bin (fun x y => toD (ltI x y)) (bin ixD (getB 0) (cst (.int 1))) (bin ixD (getB 0) (cst (.int 3))))))))
def fD_is_window : List D → R D := fnD 2 1 G_is_window
def G_is_size : EnvD → Out := (retS (andV (una (fun d => toD (isTupD d)) (getB 0)) (andV (bin (fun x y => toD (eqD x y)) (appL lenD (consF (getB 0) nilF)) (cst (.int 2))) (appL allD (consF (mkL (lcF (.nm 1) [1] yesF (callF fD_is_int (consF (getV 1) (consF (cst (.int 1)) (consF (cst (.int 12)) nilF)))) (seqF (getV 0)))) nilF)))))
def fD_is_size : List D → R D := fnD 2 1 G_is_size
def G_is_free : EnvD → Out := (retS (notV (appL anyD (consF (mkL (lcF (.nm 2) [2] yesF (bin (fun x y => toD (notNoneD x y)) (callF fD_find_overlap (consF (getV 2) (consF (getV 1) nilF))) (cst .non)) (seqF (getV 0)))) nilF))))
def fD_is_free : List D → R D := fnD 3 2 G_is_free
def G__law_window : EnvD → Out := (seqS (setPar 2 3 (slV (callF fD__law_drawn (consF (getV 0) (consF (getV 1) (consF (cst (.int 9)) nilF))))) (slV (callF fD__law_drawn (consF (getV 0) (consF (bin addD (getV 1) (cst (.int 1))) (consF (cst (.int 9)) nilF)))))) (retS (tupF (consF (getV 2) (consF (getV 3) (consF (bin addD (bin addD (getV 2) (cst (.int 1))) (callF fD__law_drawn (consF (getV 0) (consF (bin addD (getV 1) (cst (.int 2))) (consF (cst (.int 4)) nilF))))) (consF (bin addD (bin addD (getV 3) (cst (.int 1))) (callF fD__law_drawn (consF (getV 0) (consF (bin addD (getV 1) (cst (.int 3))) (consF (cst (.int 4)) nilF))))) nilF)))))))
def fD__law_window : List D → R D := fnD 4 2 G__law_window
def G__law_badwindows : EnvD → Out := (seqS (setS 2 (mkL (lstF (consF (cst .non) (consF (mkL (lstF nilF)) (consF (mkL (lstF (consF (tupF (consF (cst (.int 0)) (consF (cst (.int 0)) (consF (cst (.int 1)) (consF (cst (.int 1)) nilF))))) nilF))) (consF (tupF (consF (tupF (consF (cst (.int 0)) (consF (cst (.int 0)) (consF (cst (.int 0)) (consF (cst (.int 1)) nilF))))) nilF)) (consF (tupF (consF (tupF (consF (cst (.int 0)) (consF (cst (.int 0)) (consF (cst (.int 13)) (consF (cst (.int 1)) nilF))))) nilF)) (consF (tupF (consF (tupF (consF (cst (.int 0)) (consF (cst (.int 1)) (consF (cst (.int 1)) (consF (cst (.int 1)) nilF))))) nilF)) nilF))))))))) (seqS (setS 2 (mkL (bin catD (getB 2) (mkL (lstF (consF (tupF (consF (tupF (consF (cst (.bl true)) (consF (cst (.int 0)) (consF (cst (.int 2)) (consF (cst (.int 2)) nilF))))) nilF)) (consF (tupF (consF (tupF (consF (cst (.int 0)) (consF (cst (.int 0)) (consF (cst (.int 1)) nilF)))) nilF)) nilF))))))) (retS (bin ixD (mkL (bin catD (getB 2) (mkL (lstF (consF (bin mulD (tupF (consF (tupF (consF (cst (.int 0)) (consF (cst (.int 0)) (consF (cst (.int 1)) (consF (cst (.int 1)) nilF))))) nilF)) (cst (.int 7))) (consF (tupF (consF (cst (.int 0)) (consF (cst (.int 0)) (consF (cst (.int 1)) (consF (cst (.int 1)) nilF))))) (consF (tupF (consF (tupF (consF (una negD (cst (.int 1))) (consF (cst (.int 0)) (consF (cst (.int 1)) (consF (cst (.int 1)) nilF))))) nilF)) nilF))))))) (callF fD__law_drawn (consF (getV 0) (consF (getV 1) (consF (cst (.int 11)) nilF))))))))
def fD__law_badwindows : List D → R D := fnD 3 2 G__law_badwindows
def B__law_places_0 : EnvD → Out := (seqS (setS 5 (tupF (consF (getV 3) (consF (getV 4) (consF (bin addD (getV 3) (bin ixD (getB 1) (cst (.int 0)))) (consF (bin addD (getV 4) (bin ixD (getB 1) (cst (.int 1)))) nilF)))))) (ifS (bin eqD (mkL (lcF (.nm 6) [6] (tst (callF fD__law_meet (consF (getV 6) (consF (getV 5) nilF)))) (getV 6) (seqF (getV 0)))) (mkL (lstF nilF))) (appS 2 (getV 5)) skipS))
def B__law_places_1 : EnvD → Out := (forS (.nm 4) (appL asRng1 (consF (bin subD (cst (.int 13)) (bin ixD (getB 1) (cst (.int 1)))) nilF)) B__law_places_0)
def G__law_places : EnvD → Out := (seqS (setO 2 (lstF nilF)) (seqS (forS (.nm 3) (appL asRng1 (consF (bin subD (cst (.int 13)) (bin ixD (getB 1) (cst (.int 0)))) nilF)) B__law_places_1) (frzS 2 (retS (getV 2)))))
def fD__law_places : List D → R D := fnD 7 2 G__law_places
def B__law_good_0 : EnvD → Out := (seqS (ifS (bin neD (tupF (consF (bin subD (bin ixD (getB 4) (cst (.int 2))) (bin ixD (getB 4) (cst (.int 0)))) (consF (bin subD (bin ixD (getB 4) (cst (.int 3))) (bin ixD (getB 4) (cst (.int 1)))) nilF))) (bin ixD (getB 1) (getV 3))) (retS (cst (.bl false))) skipS) (ifS (bin neD (mkL (lcF (.nm 5) [5] (tst (callF fD__law_meet (consF (getV 5) (consF (getV 4) nilF)))) (getV 5) (seqF (bin addD (getV 0) (sliceF (getB 2) noO (someO (getV 3))))))) (mkL (lstF nilF))) (retS (cst (.bl false))) skipS))
def G__law_good : EnvD → Out := (seqS (ifS (bin neD (appL lenD (consF (getB 2) nilF)) (appL lenD (consF (getB 1) nilF))) (retS (cst (.bl false))) skipS) (seqS (forS (.tp [3, 4]) (enumF (getV 2)) B__law_good_0) (retS (cst (.bl true)))))
def fD__law_good : List D → R D := fnD 6 3 G__law_good
def G_are_windows : EnvD → Out := (seqS (ifS (orF (notF (tst (una (fun d => toD (isTupD d)) (getB 0)))) (bin gtI (appL lenD (consF (getB 0) nilF)) (cst (.int 6)))) (retS (cst (.bl false))) skipS) (retS (appL allD (consF (mkL (lcF (.nm 1) [1] yesF (callF fD_is_window (consF (getV 1) nilF)) (seqF (getV 0)))) nilF))))
def fD_are_windows : List D → R D := fnD 2 1 G_are_windows
def G_find_places : EnvD → Out := (retS (mkL (lcF (.nm 2) [2] (tst (callF fD_is_free (consF (getV 0) (consF (getV 2) nilF)))) (getV 2) (seqF (callF fD_all_places (consF (getV 1) nilF))))))
def fD_find_places : List D → R D := fnD 3 2 G_find_places
def B__law_windows_0 : EnvD → Out := (seqS (unpS (.tp [6, 7, 8, 9]) (callF fD__law_window (consF (getV 0) (consF (bin addD (bin addD (getV 1) (cst (.int 1))) (bin mulD (cst (.int 4)) (getV 4))) nilF)))) (seqS (setS 5 (bin addD (cst (.int 1)) (callF fD__law_drawn (consF (getV 0) (consF (bin addD (getV 1) (cst (.int 30))) (consF (cst (.int 3)) nilF)))))) (seqS (setPar 10 11 (slV (bin fdivD (getV 6) (getV 5))) (slV (bin fdivD (getV 7) (getV 5)))) (appS 3 (tupF (consF (getV 10) (consF (getV 11) (consF (bin subD (bin addD (getV 10) (getV 8)) (getV 6)) (consF (bin subD (bin addD (getV 11) (getV 9)) (getV 7)) nilF)))))))))
def G__law_windows : EnvD → Out := (seqS (setO 3 (lstF nilF)) (seqS (forS (.nm 4) (appL asRng1 (consF (callF fD__law_drawn (consF (getV 0) (consF (getV 1) (consF (bin addD (getV 2) (cst (.int 1))) nilF)))) nilF)) B__law_windows_0) (retS (appL tupleD (consF (getB 3) nilF)))))
def fD__law_windows : List D → R D := fnD 12 3 G__law_windows
def G_check_windows : EnvD → Out := (ifS (notF (tst (callF fD_are_windows (consF (getV 0) nilF)))) (raiseS .windows) skipS)
def fD_check_windows : List D → R D := fnD 1 1 G_check_windows
def G_places : EnvD → Out := (seqS (dropS (callF fD_check_windows (consF (getV 0) nilF))) (seqS (ifS (notF (tst (callF fD_is_size (consF (getV 1) nilF)))) (raiseS .size) skipS) (retS (callF fD_find_places (consF (getV 0) (consF (getV 1) nilF))))))
def fD_places : List D → R D := fnD 2 2 G_places
def G_check_sizes : EnvD → Out := (seqS (dropS (callF fD_check_windows (consF (getV 0) nilF))) (ifS (orF (notF (tst (una (fun d => toD (isLstD d)) (getB 1)))) (orF (bin gtI (appL lenD (consF (getB 1) nilF)) (cst (.int 3))) (notF (tst (appL allD (consF (mkL (lcF (.nm 2) [2] yesF (callF fD_is_size (consF (getV 2) nilF)) (seqF (getV 1)))) nilF)))))) (raiseS .sizes) skipS))
def fD_check_sizes : List D → R D := fnD 3 2 G_check_sizes
def B_largest_free_0 : EnvD → Out := (ifS (orF (bin isNoneD (getB 2) (cst .non)) (bin ltTD (getV 5) (bin ixD (getB 2) (cst (.int 1))))) (setS 2 (tupF (consF (getV 4) (consF (getV 5) nilF)))) skipS)
def B_largest_free_1 : EnvD → Out := (seqS (setS 4 (bin mulD (bin ixD (getB 3) (cst (.int 0))) (bin ixD (getB 3) (cst (.int 1))))) (seqS (ifS (andF (bin notNoneD (getB 2) (cst .non)) (bin ltI (getV 4) (bin ixD (getB 2) (cst (.int 0))))) (retS (bin ixD (getB 2) (cst (.int 1)))) skipS) (forS (.nm 5) (seqF (sliceF (callF fD_find_places (consF (getV 0) (consF (getV 3) nilF))) noO (someO (cst (.int 1))))) B_largest_free_0)))
def G_largest_free : EnvD → Out := (seqS (dropS (callF fD_check_windows (consF (getV 0) nilF))) (seqS (setS 1 (mkL (lc2F (.nm 6) [6, 7] yesF (appL asRng2 (consF (cst (.int 1)) (consF (bin addD (cst (.int 12)) (cst (.int 1))) nilF))) (.nm 7) [7] yesF (tupF (consF (getV 6) (consF (getV 7) nilF))) (appL asRng2 (consF (cst (.int 1)) (consF (bin addD (cst (.int 12)) (cst (.int 1))) nilF)))))) (seqS (setS 2 (cst .non)) (seqS (forS (.nm 3) (seqF noneF) B_largest_free_1) (retS (ifF (bin isNoneD (getB 2) (cst .non)) (cst .non) (bin ixD (getB 2) (cst (.int 1)))))))))
def fD_largest_free : List D → R D := fnD 8 1 G_largest_free
def B_are_places_0 : EnvD → Out := (seqS (ifS (bin neD (tupF (consF (bin subD (bin ixD (getB 4) (cst (.int 2))) (bin ixD (getB 4) (cst (.int 0)))) (consF (bin subD (bin ixD (getB 4) (cst (.int 3))) (bin ixD (getB 4) (cst (.int 1)))) nilF))) (bin ixD (getB 1) (getV 3))) (retS (cst (.bl false))) skipS) (ifS (orF (notF (tst (callF fD_is_free (consF (getV 0) (consF (getV 4) nilF))))) (notF (tst (callF fD_is_free (consF (sliceF (getB 2) noO (someO (getV 3))) (consF (getV 4) nilF)))))) (retS (cst (.bl false))) skipS))
def G_are_places : EnvD → Out := (seqS (dropS (callF fD_check_sizes (consF (getV 0) (consF (getV 1) nilF)))) (seqS (ifS (orF (notF (tst (una (fun d => toD (isTupD d)) (getB 2)))) (bin neD (appL lenD (consF (getB 2) nilF)) (appL lenD (consF (getB 1) nilF)))) (retS (cst (.bl false))) skipS) (seqS (ifS (notF (tst (appL allD (consF (mkL (lcF (.nm 4) [4] yesF (callF fD_is_window (consF (getV 4) nilF)) (seqF (getV 2)))) nilF)))) (retS (cst (.bl false))) skipS) (seqS (forS (.tp [3, 4]) (enumF (getV 2)) B_are_places_0) (retS (cst (.bl true)))))))
def fD_are_places : List D → R D := fnD 5 3 G_are_places
def B_find_all_0 (rc : List D → R D) : EnvD → Out := (seqS (setS 3 (callF rc (consF (bin addD (getV 0) (tupF (consF (getV 2) nilF))) (consF (sliceF (getB 1) (someO (cst (.int 1))) noO) nilF)))) (ifS (bin notNoneD (getB 3) (cst .non)) (retS (bin addD (tupF (consF (getV 2) nilF)) (getV 3))) skipS))
def G_find_all (rc : List D → R D) : EnvD → Out := (seqS (ifS (bin eqD (getB 1) (mkL (lstF nilF))) (retS (tupF nilF)) skipS) (seqS (forS (.nm 2) (seqF (callF fD_find_places (consF (getV 0) (consF (bin ixD (getB 1) (cst (.int 0))) nilF)))) (B_find_all_0 rc)) (retS (cst .non))))
def fD_find_all_0 : List D → R D := fun _ => .bad
def fD_find_all_1 : List D → R D := fnD 4 2 (G_find_all fD_find_all_0)
def fD_find_all_2 : List D → R D := fnD 4 2 (G_find_all fD_find_all_1)
def fD_find_all_3 : List D → R D := fnD 4 2 (G_find_all fD_find_all_2)
def fD_find_all_4 : List D → R D := fnD 4 2 (G_find_all fD_find_all_3)
def fD_find_all : List D → R D := fD_find_all_4
def G_place_all : EnvD → Out := (seqS (dropS (callF fD_check_sizes (consF (getV 0) (consF (getV 1) nilF)))) (retS (callF fD_find_all (consF (getV 0) (consF (getV 1) nilF)))))
def fD_place_all : List D → R D := fnD 2 2 G_place_all
def H__law_error_0 (exa : Addr) (exk : Exc) : EnvD → Out := (retS (metL idxD (mkL (lstF (consF (isE 3 exa (excLe exk .windows)) (consF (isE 3 exa (excLe exk .size)) (consF (isE 3 exa (excLe exk .sizes)) nilF))))) (consF (cst (.bl true)) nilF)))
def B__law_error_0 : EnvD → Out := (ifS (bin ltI (getV 0) (cst (.int 2))) (dropS (callXF [fD_places, fD_place_all] (getV 0) (consF (getV 1) (consF (getV 2) nilF)))) (ifS (bin eqD (getB 0) (cst (.int 2))) (dropS (callF fD_are_places (consF (getV 1) (consF (getV 2) (consF (cst .non) nilF))))) (dropS (callF fD_largest_free (consF (getV 1) nilF)))))
def G__law_error : EnvD → Out := (seqS (tryS exsA 3 B__law_error_0 H__law_error_0) (retS (cst .non)))
def fD__law_error : List D → R D := fnD 4 3 G__law_error
def B__law_rejected_0 : EnvD → Out := (ifS (tst (callF fD_are_places (consF (getV 1) (consF (getV 2) (consF (getV 6) nilF))))) (retS (cst (.bl false))) skipS)
def G__law_rejected : EnvD → Out := (seqS (setS 3 (callF fD__law_badwindows (consF (getV 0) (consF (cst (.int 3)) nilF)))) (seqS (setS 4 (bin ixD (mkL (lstF (consF (cst .non) (consF (tupF nilF) (consF (tupF (consF (cst (.int 0)) (consF (cst (.int 1)) nilF))) (consF (tupF (consF (cst (.int 13)) (consF (cst (.int 1)) nilF))) (consF (mkL (lstF (consF (cst (.int 1)) (consF (cst (.int 1)) nilF)))) (consF (tupF (consF (cst (.int 1)) (consF (cst (.bl true)) nilF))) (consF (tupF (consF (cst (.int 1)) (consF (cst (.int 1)) (consF (cst (.int 1)) nilF)))) (consF (cst (.str "11")) nilF)))))))))) (callF fD__law_drawn (consF (getV 0) (consF (cst (.int 4)) (consF (cst (.int 8)) nilF)))))) (seqS (setS 5 (bin ixD (mkL (lstF (consF (cst .non) (consF (tupF nilF) (consF (tupF (consF (tupF (consF (cst (.int 1)) (consF (cst (.int 1)) nilF))) nilF)) (consF (mkL (lstF (consF (getV 4) nilF))) (consF (mkL (bin repD (mkL (lstF (consF (tupF (consF (cst (.int 1)) (consF (cst (.int 1)) nilF))) nilF))) (cst (.int 4)))) nilF))))))) (callF fD__law_drawn (consF (getV 0) (consF (cst (.int 5)) (consF (cst (.int 5)) nilF)))))) (seqS (forS (.nm 6) (seqF (tupF (consF (cst .non) (consF (mkL (lstF nilF)) (consF (bin addD (bin mulD (tupF (consF (tupF (consF (cst (.int 0)) (consF (cst (.int 0)) (consF (cst (.int 0)) (consF (cst (.int 1)) nilF))))) nilF)) (appL lenD (consF (getB 2) nilF))) (tupF (consF (tupF (consF (cst (.int 0)) (consF (cst (.int 0)) (consF (cst (.int 1)) (consF (cst (.int 1)) nilF))))) nilF))) (consF (bin mulD (tupF (consF (cst (.str "a")) nilF)) (bin addD (appL lenD (consF (getB 2) nilF)) (cst (.int 1)))) nilF)))))) B__law_rejected_0) (seqS (setS 7 (mkL (lstF (consF (callF fD__law_error (consF (cst (.int 0)) (consF (getV 3) (consF (getV 4) nilF)))) (consF (callF fD__law_error (consF (cst (.int 1)) (consF (getV 3) (consF (getV 5) nilF)))) (consF (callF fD__law_error (consF (cst (.int 2)) (consF (getV 3) (consF (getV 5) nilF)))) nilF)))))) (seqS (setS 7 (mkL (bin catD (getB 7) (mkL (lstF (consF (callF fD__law_error (consF (cst (.int 3)) (consF (getV 3) (consF (cst (.int 0)) nilF)))) nilF)))))) (seqS (setS 7 (mkL (bin catD (getB 7) (mkL (lstF (consF (callF fD__law_error (consF (cst (.int 0)) (consF (getV 1) (consF (getV 4) nilF)))) (consF (callF fD__law_error (consF (cst (.int 1)) (consF (getV 1) (consF (getV 5) nilF)))) nilF))))))) (retS (bin (fun x y => toD (eqD x y)) (mkL (bin catD (getB 7) (mkL (lstF (consF (callF fD__law_error (consF (cst (.int 2)) (consF (getV 1) (consF (getV 5) nilF)))) nilF))))) (mkL (bin catD (mkL (bin repD (mkL (lstF (consF (cst (.int 0)) nilF))) (cst (.int 4)))) (mkL (lstF (consF (cst (.int 1)) (consF (cst (.int 2)) (consF (cst (.int 2)) nilF))))))))))))))))
def fD__law_rejected : List D → R D := fnD 8 3 G__law_rejected
def B_law_0 : EnvD → Out := (ifS (bin neD (callF fD__law_places (consF (bin addD (getV 1) (tupF (consF (getV 11) nilF))) (consF (getV 8) nilF))) (mkL (lstF nilF))) (retS (cst (.bl false))) skipS)
def G_law : EnvD → Out := (seqS (setS 1 (callF fD__law_windows (consF (getV 0) (consF (cst (.int 10)) (consF (cst (.int 4)) nilF))))) (seqS (ifS (bin eqD (callF fD__law_drawn (consF (getV 0) (consF (cst (.int 1)) (consF (cst (.int 2)) nilF)))) (cst (.int 0))) (setS 1 (bin addD (sliceF (getB 1) noO (someO (cst (.int 3)))) (tupF (consF (tupF (consF (cst (.int 0)) (consF (cst (.int 0)) (consF (cst (.int 12)) (consF (cst (.int 5)) nilF))))) (consF (tupF (consF (cst (.int 4)) (consF (cst (.int 5)) (consF (cst (.int 12)) (consF (cst (.int 12)) nilF))))) nilF))))) skipS) (seqS (unpS (.tp [7, 8]) (mkL (lcF (.nm 9) [9] yesF (tupF (consF (bin addD (cst (.int 4)) (callF fD__law_drawn (consF (getV 0) (consF (bin addD (cst (.int 50)) (getV 9)) (consF (cst (.int 9)) nilF))))) (consF (bin addD (cst (.int 4)) (callF fD__law_drawn (consF (getV 0) (consF (bin addD (cst (.int 52)) (getV 9)) (consF (cst (.int 9)) nilF))))) nilF))) (seqF (tupF (consF (cst (.int 0)) (consF (cst (.int 1)) nilF))))))) (seqS (setS 2 (callF fD__law_places (consF (getV 1) (consF (getV 7) nilF)))) (seqS (ifS (bin neD (callF fD_places (consF (getV 1) (consF (getV 7) nilF))) (getB 2)) (retS (cst (.bl false))) skipS) (seqS (setS 3 (sliceF (mkL (lstF (consF (getV 7) (consF (getV 8) (consF (getV 7) nilF))))) noO (someO (callF fD__law_drawn (consF (getV 0) (consF (cst (.int 2)) (consF (cst (.int 3)) nilF))))))) (seqS (setS 4 (callF fD_place_all (consF (getV 1) (consF (getV 3) nilF)))) (seqS (ifS (bin notNoneD (getB 4) (cst .non)) (ifS (orF (notF (tst (callF fD__law_good (consF (getV 1) (consF (getV 3) (consF (getV 4) nilF)))))) (bin notBD (callF fD_are_places (consF (getV 1) (consF (getV 3) (consF (getV 4) nilF)))) (cst (.bl true)))) (retS (cst (.bl false))) skipS) (ifS (andF (bin eqD (appL lenD (consF (getB 3) nilF)) (cst (.int 1))) (bin neD (getB 2) (mkL (lstF nilF)))) (retS (cst (.bl false))) (ifS (bin eqD (appL lenD (consF (getB 3) nilF)) (cst (.int 2))) (forS (.nm 11) (seqF (getV 2)) B_law_0) skipS))) (seqS (setS 5 (mkL (lcF (.nm 10) [10] yesF (sliceF (callF fD__law_places (consF (getV 1) (consF (getV 10) nilF))) noO (someO (cst (.int 1)))) (seqF (getV 3))))) (seqS (setS 6 (appL tupleD (consF (mkL (lcF (.nm 12) [12] yesF (ifF (bin neD (getB 12) (mkL (lstF nilF))) (bin ixD (getB 12) (cst (.int 0))) (tupF (consF (cst (.int 0)) (consF (cst (.int 0)) (consF (cst (.int 1)) (consF (cst (.int 1)) nilF)))))) (seqF (getV 5)))) nilF))) (seqS (ifS (bin neD (callF fD_are_places (consF (getV 1) (consF (getV 3) (consF (getV 6) nilF)))) (callF fD__law_good (consF (getV 1) (consF (getV 3) (consF (getV 6) nilF))))) (retS (cst (.bl false))) skipS) (retS (callF fD__law_rejected (consF (getV 0) (consF (getV 1) (consF (getV 3) nilF))))))))))))))))
def fD_law : List D → R D := fnD 13 1 G_law
end PD

namespace PD
open PySem PySem.Spec PyProof.Rows L2
def top (i : Nat) : Stmt := PySem.Challenge.pw_panestacks_k56_placing.main.body.getD i (.Pass ⟨0, 0, 0, 0⟩)
end PD

set_option maxHeartbeats 4000000
namespace PD
open PySem PySem.Spec PyProof.Rows L2
theorem sc_is_int : FnScope ["value", "least", "most"] ["value", "least", "most"] (defScope (top 8)) := ⟨rfl, rfl, rfl, by decide +kernel, rfl, by decide +kernel, by decide +kernel⟩
theorem ok_is_int {P : Program} {w : World} {K : PySem.W.Frag} {mg : Str → Option Value} {base : Heap} {cls : Exc → Addr} {f : Addr} {fd : FuncData} (B : Bi mg) (F : FunD K "is_int" "is_int" (defArgs (top 8)) (defBody (top 8)) (defScope (top 8)) [] [] f fd) (hx : mg "is_int" = some (.ref f)) :
    Fn P w K mg base cls 1 "is_int" 3 fD_is_int := by
  have nd := sc_is_int.nd
  refine fn_okD (N := ["value", "least", "most"]) (ps := ["value", "least", "most"]) (G := G_is_int) F sc_is_int hx (F.bindsN fun _ _ _ _ _ _ us hl => match us, hl with | [_, _, _], _ => rfl) fun cdv A outer s H E hr => ?_
  have tk : Takes (cxOf (L2.CX P w) P w K mg base ["value", "least", "most"] "is_int" (defScope (top 8)) f cdv A outer s H E) (fun c d _ H => E c d H) := takes_of rfl rfl rfl rfl
  exact (pds_one (pds_ret (pd_and (pd_isi isi_int (by rfl) B.isinstance (by rfl) B.int boot_int (pb_var (pv 0))) (pd_and (pd_not (pd_isi isi_bool (by rfl) B.isinstance (by rfl) B.bool boot_bool (pb_var (pv 0)))) (pd_one (pd_chain op_le os_cmpI op_le os_cmpI (pd_var (pv 1)) (pd_var (pv 0)) (pd_var (pv 2)) rfl))))))
theorem sc_find_overlap : FnScope ["one", "other", "found"] ["one", "other"] (defScope (top 12)) := ⟨rfl, rfl, rfl, by decide +kernel, rfl, by decide +kernel, by decide +kernel⟩
theorem ok_find_overlap {P : Program} {w : World} {K : PySem.W.Frag} {mg : Str → Option Value} {base : Heap} {cls : Exc → Addr} {f : Addr} {fd : FuncData} (B : Bi mg) (F : FunD K "find_overlap" "find_overlap" (defArgs (top 12)) (defBody (top 12)) (defScope (top 12)) [] [] f fd) (hx : mg "find_overlap" = some (.ref f)) :
    Fn P w K mg base cls 1 "find_overlap" 2 fD_find_overlap := by
  have nd := sc_find_overlap.nd
  refine fn_okD (N := ["one", "other", "found"]) (ps := ["one", "other"]) (G := G_find_overlap) F sc_find_overlap hx (F.bindsN fun _ _ _ _ _ _ us hl => match us, hl with | [_, _], _ => rfl) fun cdv A outer s H E hr => ?_
  have tk : Takes (cxOf (L2.CX P w) P w K mg base ["one", "other", "found"] "find_overlap" (defScope (top 12)) f cdv A outer s H E) (fun c d _ H => E c d H) := takes_of rfl rfl rfl rfl
  exact (pds_cons (pds_set (ps_set nd rfl (.inl rfl) (pd_tup (pda_cons (pd_callB (call_max2 (by rfl)) cs_max2 (by rfl) B.max boot_max (pdb_cons (coeVB (pd_ix ix_seq os_ix (pb_var (pv 0)) pd_int (fun _ _ => rfl))) (pdb_cons (coeVB (pd_ix ix_seq os_ix (pb_var (pv 1)) pd_int (fun _ _ => rfl))) pdb_nil))) (pda_cons (pd_callB (call_max2 (by rfl)) cs_max2 (by rfl) B.max boot_max (pdb_cons (coeVB (pd_ix ix_seq os_ix (pb_var (pv 0)) pd_int (fun _ _ => rfl))) (pdb_cons (coeVB (pd_ix ix_seq os_ix (pb_var (pv 1)) pd_int (fun _ _ => rfl))) pdb_nil))) (pda_cons (pd_callB (call_min2 (by rfl)) cs_min2 (by rfl) B.min boot_min (pdb_cons (coeVB (pd_ix ix_seq os_ix (pb_var (pv 0)) pd_int (fun _ _ => rfl))) (pdb_cons (coeVB (pd_ix ix_seq os_ix (pb_var (pv 1)) pd_int (fun _ _ => rfl))) pdb_nil))) (pda_cons (pd_callB (call_min2 (by rfl)) cs_min2 (by rfl) B.min boot_min (pdb_cons (coeVB (pd_ix ix_seq os_ix (pb_var (pv 0)) pd_int (fun _ _ => rfl))) (pdb_cons (coeVB (pd_ix ix_seq os_ix (pb_var (pv 1)) pd_int (fun _ _ => rfl))) pdb_nil))) pda_nil))))) rfl (.inr rfl))) (pds_one (pds_ret (pd_if (pdt_w (pdw_and (pdt_cmp op_lt os_cmpI (pd_ix ix_seq os_ix (pb_var (pv 2)) pd_int (fun _ _ => rfl)) (pd_ix ix_seq os_ix (pb_var (pv 2)) pd_int (fun _ _ => rfl)) rfl) (pdw_and1 (pdt_cmp op_lt os_cmpI (pd_ix ix_seq os_ix (pb_var (pv 2)) pd_int (fun _ _ => rfl)) (pd_ix ix_seq os_ix (pb_var (pv 2)) pd_int (fun _ _ => rfl)) rfl)))) (pd_var (pv 2)) pd_non))))
theorem sc_all_places : FnScope ["size", "found", "left", "top"] ["size"] (defScope (top 17)) := ⟨rfl, rfl, rfl, by decide +kernel, rfl, by decide +kernel, by decide +kernel⟩
theorem ok_all_places {P : Program} {w : World} {K : PySem.W.Frag} {mg : Str → Option Value} {base : Heap} {cls : Exc → Addr} {f : Addr} {fd : FuncData} (B : Bi mg) (F : FunD K "all_places" "all_places" (defArgs (top 17)) (defBody (top 17)) (defScope (top 17)) [] [] f fd) (hx : mg "all_places" = some (.ref f)) (c_SCREEN : ∃ t, mg "SCREEN" = some (.int 12 t)) :
    Fn P w K mg base cls 1 "all_places" 1 fD_all_places := by
  have nd := sc_all_places.nd
  refine fn_okD (N := ["size", "found", "left", "top"]) (ps := ["size"]) (G := G_all_places) F sc_all_places hx (F.bindsN fun _ _ _ _ _ _ us hl => match us, hl with | [_], _ => rfl) fun cdv A outer s H E hr => ?_
  have tk : Takes (cxOf (L2.CX P w) P w K mg base ["size", "found", "left", "top"] "all_places" (defScope (top 17)) f cdv A outer s H E) (fun c d _ H => E c d H) := takes_of rfl rfl rfl rfl
  exact (pds_cons (pds_setN (ps_set nd rfl (.inl rfl) (pd_lst pda_nil) rfl (.inr rfl))) (pds_cons (pds_for (passes_of rfl) rfl (pdi_range1 (by rfl) B.range (pdb_cons (coeVB (pd_op op_addA os_add (pd_op op_sub os_sub (pd_gint (by rfl) c_SCREEN) (pd_ix ix_seq os_ix (pb_var (pv 0)) pd_int (fun _ _ => rfl))) pd_int)) pdb_nil)) (pg_nm (pg_name nd rfl (.inl rfl) (.inr rfl))) (pds_one (pds_for (passes_of rfl) rfl (pdi_range1 (by rfl) B.range (pdb_cons (coeVB (pd_op op_addA os_add (pd_op op_sub os_sub (pd_gint (by rfl) c_SCREEN) (pd_ix ix_seq os_ix (pb_var (pv 0)) pd_int (fun _ _ => rfl))) pd_int)) pdb_nil)) (pg_nm (pg_name nd rfl (.inl rfl) (.inr rfl))) (pds_one (pds_append (r := rAppend) (ps_expr (pe_bm PySem.F.plainAttrs_list PySem.F.slot_list_append PySem.F.type_list_append mt_append (pv 1) (pa_cons (pd_tup (pda_cons (pd_var (pv 2)) (pda_cons (pd_var (pv 3)) (pda_cons (pd_op op_addA os_add (pd_var (pv 2)) (pd_ix ix_seq os_ix (pb_var (pv 0)) pd_int (fun _ _ => rfl))) (pda_cons (pd_op op_addA os_add (pd_var (pv 3)) (pd_ix ix_seq os_ix (pb_var (pv 0)) pd_int (fun _ _ => rfl))) pda_nil))))) pa_nil)))))))) (pds_frz 1 (pds_one (pds_ret (pd_var (pv 1)))))))
theorem sc__law_drawn : FnScope ["_law_script", "_law_k", "_law_many", "_law_cell", "_law_turn", "_law_rest"] ["_law_script", "_law_k", "_law_many"] (defScope (top 26)) := ⟨rfl, rfl, rfl, by decide +kernel, rfl, by decide +kernel, by decide +kernel⟩
theorem ok__law_drawn {P : Program} {w : World} {K : PySem.W.Frag} {mg : Str → Option Value} {base : Heap} {cls : Exc → Addr} {f : Addr} {fd : FuncData} (B : Bi mg) (F : FunD K "_law_drawn" "_law_drawn" (defArgs (top 26)) (defBody (top 26)) (defScope (top 26)) [] [] f fd) (hx : mg "_law_drawn" = some (.ref f)) :
    Fn P w K mg base cls 1 "_law_drawn" 3 fD__law_drawn := by
  have nd := sc__law_drawn.nd
  refine fn_okD (N := ["_law_script", "_law_k", "_law_many", "_law_cell", "_law_turn", "_law_rest"]) (ps := ["_law_script", "_law_k", "_law_many"]) (G := G__law_drawn) F sc__law_drawn hx (F.bindsN fun _ _ _ _ _ _ us hl => match us, hl with | [_, _, _], _ => rfl) fun cdv A outer s H E hr => ?_
  have tk : Takes (cxOf (L2.CX P w) P w K mg base ["_law_script", "_law_k", "_law_many", "_law_cell", "_law_turn", "_law_rest"] "_law_drawn" (defScope (top 26)) f cdv A outer s H E) (fun c d _ H => E c d H) := takes_of rfl rfl rfl rfl
  exact (pds_cons (pds_set (ps_set nd rfl (.inl rfl) (pd_op op_mulA os_mulA pd_int (pd_var (pv 1))) rfl (.inr rfl))) (pds_cons (pds_if (pdt_cmp (op_neD (room64 hr)) os_ne (pb_var (pv 0)) (coeVB (coeNV (pd_lst pda_nil))) rfl) (pds_cons (pds_set (ps_set nd rfl (.inl rfl) (pd_ix ix_seq os_ix (pb_var (pv 0)) (pd_op op_mod os_mod (pd_var (pv 1)) (pd_callB call_len_seq cs_len (by rfl) B.len boot_len (pdb_cons (pb_var (pv 0)) pdb_nil))) (fun _ _ => rfl)) rfl (.inr rfl))) (pds_cons (pds_set (ps_set nd rfl (.inl rfl) (pd_op op_fdivW os_fdiv (pd_var (pv 1)) (pd_callB call_len_seq cs_len (by rfl) B.len boot_len (pdb_cons (pb_var (pv 0)) pdb_nil))) rfl (.inr rfl))) (pds_cons (pds_if (pdt_w (pdw_and (pdt_cmp op_ge os_cmpI (pd_var (pv 3)) (pd_op op_pow os_pow pd_int pd_int) rfl) (pdw_and1 (pdt_cmp op_lt os_cmpI (pd_var (pv 4)) pd_int rfl)))) (pds_cons (pds_set (ps_set nd rfl (.inl rfl) (pd_op op_fdivW os_fdiv (pd_var (pv 3)) (pd_op op_pow os_pow pd_int pd_int)) rfl (.inr rfl))) (pds_cons (pds_while 3000 (passes_of rfl) (pdt_w (pdw_and (pdt_cmp op_gt os_cmpI (pd_var (pv 5)) pd_int rfl) (pdw_and1 (pdt_cmp op_gt os_cmpI (pd_var (pv 4)) pd_int rfl)))) (pds_cons (pds_set (ps_set nd rfl (.inl rfl) (pd_op op_fdivW os_fdiv (pd_var (pv 5)) pd_int) rfl (.inr rfl))) (pds_one (pds_set (ps_set nd rfl (.inl rfl) (pd_op op_sub os_sub (pd_var (pv 4)) pd_int) rfl (.inr rfl)))))) (pds_one (pds_if (pdt_cmp op_gt os_cmpI (pd_var (pv 5)) pd_int rfl) (pds_one (pds_ret (pd_op op_mod os_mod (pd_op op_mod os_mod (pd_var (pv 5)) pd_int) (pd_var (pv 2))))) pds_nil)))) pds_nil) (pds_one (pds_set (ps_set nd rfl (.inl rfl) (pd_op op_addA os_add (pd_var (pv 3)) (pd_op op_mulA os_mulA pd_int (pd_op op_fdivW os_fdiv (pd_var (pv 1)) (pd_callB call_len_seq cs_len (by rfl) B.len boot_len (pdb_cons (pb_var (pv 0)) pdb_nil))))) rfl (.inr rfl))))))) pds_nil) (pds_cons (pds_set (ps_set nd rfl (.inl rfl) (pd_op op_mod os_mod (pd_op op_addA os_add (pd_op op_mulA os_mulA (pd_op op_mod os_mod (pd_var (pv 3)) pd_int) pd_int) (pd_op op_mulA os_mulA pd_int (pd_op op_addA os_add (pd_var (pv 1)) pd_int))) pd_int) rfl (.inr rfl))) (pds_cons (pds_set (ps_set nd rfl (.inl rfl) (pd_op op_mod os_mod (pd_op op_addA os_add (pd_op op_mulA os_mulA (pd_var (pv 3)) (pd_var (pv 3))) (pd_op op_fdivW os_fdiv (pd_var (pv 3)) pd_int)) pd_int) rfl (.inr rfl))) (pds_one (pds_ret (pd_op op_mod os_mod (pd_op op_fdivW os_fdiv (pd_op op_mod os_mod (pd_op op_addA os_add (pd_op op_mulA os_mulA (pd_var (pv 3)) (pd_var (pv 3))) (pd_op op_fdivW os_fdiv (pd_var (pv 3)) pd_int)) pd_int) pd_int) (pd_var (pv 2)))))))))
theorem sc__law_meet : FnScope ["_law_one", "_law_other"] ["_law_one", "_law_other"] (defScope (top 29)) := ⟨rfl, rfl, rfl, by decide +kernel, rfl, by decide +kernel, by decide +kernel⟩
theorem ok__law_meet {P : Program} {w : World} {K : PySem.W.Frag} {mg : Str → Option Value} {base : Heap} {cls : Exc → Addr} {f : Addr} {fd : FuncData} (B : Bi mg) (F : FunD K "_law_meet" "_law_meet" (defArgs (top 29)) (defBody (top 29)) (defScope (top 29)) [] [] f fd) (hx : mg "_law_meet" = some (.ref f)) :
    Fn P w K mg base cls 1 "_law_meet" 2 fD__law_meet := by
  have nd := sc__law_meet.nd
  refine fn_okD (N := ["_law_one", "_law_other"]) (ps := ["_law_one", "_law_other"]) (G := G__law_meet) F sc__law_meet hx (F.bindsN fun _ _ _ _ _ _ us hl => match us, hl with | [_, _], _ => rfl) fun cdv A outer s H E hr => ?_
  have tk : Takes (cxOf (L2.CX P w) P w K mg base ["_law_one", "_law_other"] "_law_meet" (defScope (top 29)) f cdv A outer s H E) (fun c d _ H => E c d H) := takes_of rfl rfl rfl rfl
  exact (pds_one (pds_ret (pd_and (pd_cmp op_lt (OpSemB.val os_cmpI) (pd_ix ix_seq os_ix (pb_var (pv 0)) pd_int (fun _ _ => rfl)) (pd_ix ix_seq os_ix (pb_var (pv 1)) pd_int (fun _ _ => rfl)) rfl) (pd_and (pd_cmp op_lt (OpSemB.val os_cmpI) (pd_ix ix_seq os_ix (pb_var (pv 1)) pd_int (fun _ _ => rfl)) (pd_ix ix_seq os_ix (pb_var (pv 0)) pd_int (fun _ _ => rfl)) rfl) (pd_and (pd_cmp op_lt (OpSemB.val os_cmpI) (pd_ix ix_seq os_ix (pb_var (pv 0)) pd_int (fun _ _ => rfl)) (pd_ix ix_seq os_ix (pb_var (pv 1)) pd_int (fun _ _ => rfl)) rfl) (pd_one (pd_cmp op_lt (OpSemB.val os_cmpI) (pd_ix ix_seq os_ix (pb_var (pv 1)) pd_int (fun _ _ => rfl)) (pd_ix ix_seq os_ix (pb_var (pv 0)) pd_int (fun _ _ => rfl)) rfl)))))))
theorem sc_is_window : FnScope ["candidate", "part"] ["candidate"] (defScope (top 9)) := ⟨rfl, rfl, rfl, by decide +kernel, rfl, by decide +kernel, by decide +kernel⟩
theorem ok_is_window {P : Program} {w : World} {K : PySem.W.Frag} {mg : Str → Option Value} {base : Heap} {cls : Exc → Addr} {f : Addr} {fd : FuncData} (B : Bi mg) (F : FunD K "is_window" "is_window" (defArgs (top 9)) (defBody (top 9)) (defScope (top 9)) [] [] f fd) (hx : mg "is_window" = some (.ref f)) (c_SCREEN : ∃ t, mg "SCREEN" = some (.int 12 t)) (g_is_int : Fn P w K mg base cls 1 "is_int" 3 fD_is_int) :
    Fn P w K mg base cls 2 "is_window" 1 fD_is_window := by
  have nd := sc_is_window.nd
  refine fn_okD (N := ["candidate", "part"]) (ps := ["candidate"]) (G := G_is_window) F sc_is_window hx (F.bindsN fun _ _ _ _ _ _ us hl => match us, hl with | [_], _ => rfl) fun cdv A outer s H E hr => ?_
  have tk : Takes (cxOf (L2.CX P w) P w K mg base ["candidate", "part"] "is_window" (defScope (top 9)) f cdv A outer s H E) (fun c d _ H => E c d H) := takes_of rfl rfl rfl rfl
  exact (pds_cons (pds_if (pdt_w (pdw_or (pdt_not (pdt_val (pd_isi isi_tup (by rfl) B.isinstance (by rfl) B.tuple boot_tuple (pb_var (pv 0))))) (pdw_or1 (pdt_cmp (op_neD (room64 hr)) os_ne (coeVB (pd_callB call_len_seq cs_len (by rfl) B.len boot_len (pdb_cons (pb_var (pv 0)) pdb_nil))) (coeVB pd_int) rfl)))) (pds_one (pds_ret pd_bl)) pds_nil) (pds_cons (pds_if (pdt_not (pdt_val (pd_callB (cr_all (by rfl)) cs_all (by rfl) B.all boot_all (pdb_cons (coeVB (coeNV (pd_lc (own := [("part", 1)]) rfl nd  (pdi_seq (pd_var (pv 0))) (blk_of (N' := ["candidate", "part"]) (sc := (defScope (top 9))) rfl rfl rfl (by decide +kernel)) (fun _ _ _ _ _ => (pg_nm (pg_name nd rfl (.inl rfl) (.inr rfl)))) (fun _ _ _ _ _ => pts_yes) (fun _ _ _ _ _ => (pd_call g_is_int (hr.mono (by decide)) (by rfl) takes0 (pda_cons (pd_var (pv 1)) (pda_cons pd_int (pda_cons (pd_gint (by rfl) c_SCREEN) pda_nil))))) rfl))) pdb_nil)))) (pds_one (pds_ret pd_bl)) pds_nil) (pds_one (pds_ret (pd_and (pd_cmp op_lt (OpSemB.val os_cmpI) (pd_ix ix_seq os_ix (pb_var (pv 0)) pd_int (fun _ _ => rfl)) (pd_ix ix_seq os_ix (pb_var (pv 0)) pd_int (fun _ _ => rfl)) rfl) (pd_one (pd_cmp op_lt (OpSemB.val os_cmpI) (pd_ix ix_seq os_ix (pb_var (pv 0)) pd_int (fun _ _ => rfl)) (pd_ix ix_seq os_ix (pb_var (pv 0)) pd_int (fun _ _ => rfl)) rfl)))))))
theorem sc_is_size : FnScope ["value", "part"] ["value"] (defScope (top 15)) := ⟨rfl, rfl, rfl, by decide +kernel, rfl, by decide +kernel, by decide +kernel⟩
theorem ok_is_size {P : Program} {w : World} {K : PySem.W.Frag} {mg : Str → Option Value} {base : Heap} {cls : Exc → Addr} {f : Addr} {fd : FuncData} (B : Bi mg) (F : FunD K "is_size" "is_size" (defArgs (top 15)) (defBody (top 15)) (defScope (top 15)) [] [] f fd) (hx : mg "is_size" = some (.ref f)) (c_SCREEN : ∃ t, mg "SCREEN" = some (.int 12 t)) (g_is_int : Fn P w K mg base cls 1 "is_int" 3 fD_is_int) :
    Fn P w K mg base cls 2 "is_size" 1 fD_is_size := by
  have nd := sc_is_size.nd
  refine fn_okD (N := ["value", "part"]) (ps := ["value"]) (G := G_is_size) F sc_is_size hx (F.bindsN fun _ _ _ _ _ _ us hl => match us, hl with | [_], _ => rfl) fun cdv A outer s H E hr => ?_
  have tk : Takes (cxOf (L2.CX P w) P w K mg base ["value", "part"] "is_size" (defScope (top 15)) f cdv A outer s H E) (fun c d _ H => E c d H) := takes_of rfl rfl rfl rfl
  exact (pds_one (pds_ret (pd_and (pd_isi isi_tup (by rfl) B.isinstance (by rfl) B.tuple boot_tuple (pb_var (pv 0))) (pd_and (pd_cmp (op_eqD (room64 hr)) (OpSemB.val os_eq) (coeVB (pd_callB call_len_seq cs_len (by rfl) B.len boot_len (pdb_cons (pb_var (pv 0)) pdb_nil))) (coeVB pd_int) rfl) (pd_one (pd_callB (cr_all (by rfl)) cs_all (by rfl) B.all boot_all (pdb_cons (coeVB (coeNV (pd_lc (own := [("part", 1)]) rfl nd  (pdi_seq (pd_var (pv 0))) (blk_of (N' := ["value", "part"]) (sc := (defScope (top 15))) rfl rfl rfl (by decide +kernel)) (fun _ _ _ _ _ => (pg_nm (pg_name nd rfl (.inl rfl) (.inr rfl)))) (fun _ _ _ _ _ => pts_yes) (fun _ _ _ _ _ => (pd_call g_is_int (hr.mono (by decide)) (by rfl) takes0 (pda_cons (pd_var (pv 1)) (pda_cons pd_int (pda_cons (pd_gint (by rfl) c_SCREEN) pda_nil))))) rfl))) pdb_nil)))))))
theorem sc_is_free : FnScope ["windows", "place", "window"] ["windows", "place"] (defScope (top 16)) := ⟨rfl, rfl, rfl, by decide +kernel, rfl, by decide +kernel, by decide +kernel⟩
theorem ok_is_free {P : Program} {w : World} {K : PySem.W.Frag} {mg : Str → Option Value} {base : Heap} {cls : Exc → Addr} {f : Addr} {fd : FuncData} (B : Bi mg) (F : FunD K "is_free" "is_free" (defArgs (top 16)) (defBody (top 16)) (defScope (top 16)) [] [] f fd) (hx : mg "is_free" = some (.ref f)) (g_find_overlap : Fn P w K mg base cls 1 "find_overlap" 2 fD_find_overlap) :
    Fn P w K mg base cls 2 "is_free" 2 fD_is_free := by
  have nd := sc_is_free.nd
  refine fn_okD (N := ["windows", "place", "window"]) (ps := ["windows", "place"]) (G := G_is_free) F sc_is_free hx (F.bindsN fun _ _ _ _ _ _ us hl => match us, hl with | [_, _], _ => rfl) fun cdv A outer s H E hr => ?_
  have tk : Takes (cxOf (L2.CX P w) P w K mg base ["windows", "place", "window"] "is_free" (defScope (top 16)) f cdv A outer s H E) (fun c d _ H => E c d H) := takes_of rfl rfl rfl rfl
  exact (pds_one (pds_ret (pd_not (pd_callB (cr_any (by rfl)) cs_any (by rfl) B.any boot_any (pdb_cons (coeVB (coeNV (pd_lc (own := [("window", 2)]) rfl nd  (pdi_seq (pd_var (pv 0))) (blk_of (N' := ["windows", "place", "window"]) (sc := (defScope (top 16))) rfl rfl rfl (by decide +kernel)) (fun _ _ _ _ _ => (pg_nm (pg_name nd rfl (.inl rfl) (.inr rfl)))) (fun _ _ _ _ _ => pts_yes) (fun _ _ _ _ _ => (pd_cmp op_notN (OpSemB.val os_notN) (coeVB (pd_call g_find_overlap (hr.mono (by decide)) (by rfl) takes0 (pda_cons (pd_var (pv 2)) (pda_cons (pd_var (pv 1)) pda_nil)))) pd_non rfl)) rfl))) pdb_nil)))))
theorem sc__law_window : FnScope ["_law_script", "_law_at", "_law_left", "_law_top"] ["_law_script", "_law_at"] (defScope (top 27)) := ⟨rfl, rfl, rfl, by decide +kernel, rfl, by decide +kernel, by decide +kernel⟩
theorem ok__law_window {P : Program} {w : World} {K : PySem.W.Frag} {mg : Str → Option Value} {base : Heap} {cls : Exc → Addr} {f : Addr} {fd : FuncData} (B : Bi mg) (F : FunD K "_law_window" "_law_window" (defArgs (top 27)) (defBody (top 27)) (defScope (top 27)) [] [] f fd) (hx : mg "_law_window" = some (.ref f)) (g__law_drawn : Fn P w K mg base cls 1 "_law_drawn" 3 fD__law_drawn) :
    Fn P w K mg base cls 2 "_law_window" 2 fD__law_window := by
  have nd := sc__law_window.nd
  refine fn_okD (N := ["_law_script", "_law_at", "_law_left", "_law_top"]) (ps := ["_law_script", "_law_at"]) (G := G__law_window) F sc__law_window hx (F.bindsN fun _ _ _ _ _ _ us hl => match us, hl with | [_, _], _ => rfl) fun cdv A outer s H E hr => ?_
  have tk : Takes (cxOf (L2.CX P w) P w K mg base ["_law_script", "_law_at", "_law_left", "_law_top"] "_law_window" (defScope (top 27)) f cdv A outer s H E) (fun c d _ H => E c d H) := takes_of rfl rfl rfl rfl
  exact (pds_cons (pds_par (ps_par rfl nd rfl rfl (by decide) rfl rfl (pa_cons (coeVS (pd_call g__law_drawn (hr.mono (by decide)) (by rfl) tk (pda_cons (pd_var (pv 0)) (pda_cons (pd_var (pv 1)) (pda_cons pd_int pda_nil))))) (pa_cons (coeVS (pd_call g__law_drawn (hr.mono (by decide)) (by rfl) tk (pda_cons (pd_var (pv 0)) (pda_cons (pd_op op_addA os_add (pd_var (pv 1)) pd_int) (pda_cons pd_int pda_nil))))) pa_nil)) rfl)) (pds_one (pds_ret (pd_tup (pda_cons (pd_var (pv 2)) (pda_cons (pd_var (pv 3)) (pda_cons (pd_op op_addA os_add (pd_op op_addA os_add (pd_var (pv 2)) pd_int) (pd_call g__law_drawn (hr.mono (by decide)) (by rfl) tk (pda_cons (pd_var (pv 0)) (pda_cons (pd_op op_addA os_add (pd_var (pv 1)) pd_int) (pda_cons pd_int pda_nil))))) (pda_cons (pd_op op_addA os_add (pd_op op_addA os_add (pd_var (pv 3)) pd_int) (pd_call g__law_drawn (hr.mono (by decide)) (by rfl) tk (pda_cons (pd_var (pv 0)) (pda_cons (pd_op op_addA os_add (pd_var (pv 1)) pd_int) (pda_cons pd_int pda_nil))))) pda_nil))))))))
theorem sc__law_badwindows : FnScope ["_law_script", "_law_at", "_law_bad"] ["_law_script", "_law_at"] (defScope (top 30)) := ⟨rfl, rfl, rfl, by decide +kernel, rfl, by decide +kernel, by decide +kernel⟩
theorem ok__law_badwindows {P : Program} {w : World} {K : PySem.W.Frag} {mg : Str → Option Value} {base : Heap} {cls : Exc → Addr} {f : Addr} {fd : FuncData} (B : Bi mg) (F : FunD K "_law_badwindows" "_law_badwindows" (defArgs (top 30)) (defBody (top 30)) (defScope (top 30)) [] [] f fd) (hx : mg "_law_badwindows" = some (.ref f)) (g__law_drawn : Fn P w K mg base cls 1 "_law_drawn" 3 fD__law_drawn) :
    Fn P w K mg base cls 2 "_law_badwindows" 2 fD__law_badwindows := by
  have nd := sc__law_badwindows.nd
  refine fn_okD (N := ["_law_script", "_law_at", "_law_bad"]) (ps := ["_law_script", "_law_at"]) (G := G__law_badwindows) F sc__law_badwindows hx (F.bindsN fun _ _ _ _ _ _ us hl => match us, hl with | [_, _], _ => rfl) fun cdv A outer s H E hr => ?_
  have tk : Takes (cxOf (L2.CX P w) P w K mg base ["_law_script", "_law_at", "_law_bad"] "_law_badwindows" (defScope (top 30)) f cdv A outer s H E) (fun c d _ H => E c d H) := takes_of rfl rfl rfl rfl
  exact (pds_cons (pds_set (ps_set nd rfl (.inl rfl) (coeNV (pd_lst (pda_cons pd_non (pda_cons (coeNV (pd_lst pda_nil)) (pda_cons (coeNV (pd_lst (pda_cons (pd_tup (pda_cons pd_int (pda_cons pd_int (pda_cons pd_int (pda_cons pd_int pda_nil))))) pda_nil))) (pda_cons (pd_tup (pda_cons (pd_tup (pda_cons pd_int (pda_cons pd_int (pda_cons pd_int (pda_cons pd_int pda_nil))))) pda_nil)) (pda_cons (pd_tup (pda_cons (pd_tup (pda_cons pd_int (pda_cons pd_int (pda_cons pd_int (pda_cons pd_int pda_nil))))) pda_nil)) (pda_cons (pd_tup (pda_cons (pd_tup (pda_cons pd_int (pda_cons pd_int (pda_cons pd_int (pda_cons pd_int pda_nil))))) pda_nil)) pda_nil)))))))) rfl (.inr rfl))) (pds_cons (pds_set (ps_set nd rfl (.inl rfl) (coeNV (pd_op op_cat os_cat (pb_var (pv 2)) (coeVB (coeNV (pd_lst (pda_cons (pd_tup (pda_cons (pd_tup (pda_cons pd_bl (pda_cons pd_int (pda_cons pd_int (pda_cons pd_int pda_nil))))) pda_nil)) (pda_cons (pd_tup (pda_cons (pd_tup (pda_cons pd_int (pda_cons pd_int (pda_cons pd_int pda_nil)))) pda_nil)) pda_nil))))))) rfl (.inr rfl))) (pds_one (pds_ret (pd_ix ix_seq os_ix (coeVB (coeNV (pd_op op_cat os_cat (pb_var (pv 2)) (coeVB (coeNV (pd_lst (pda_cons (pd_op op_mulA os_mulA (pd_tup (pda_cons (pd_tup (pda_cons pd_int (pda_cons pd_int (pda_cons pd_int (pda_cons pd_int pda_nil))))) pda_nil)) pd_int) (pda_cons (pd_tup (pda_cons pd_int (pda_cons pd_int (pda_cons pd_int (pda_cons pd_int pda_nil))))) (pda_cons (pd_tup (pda_cons (pd_tup (pda_cons (pd_neg pd_int) (pda_cons pd_int (pda_cons pd_int (pda_cons pd_int pda_nil))))) pda_nil)) pda_nil))))))))) (pd_call g__law_drawn (hr.mono (by decide)) (by rfl) tk (pda_cons (pd_var (pv 0)) (pda_cons (pd_var (pv 1)) (pda_cons pd_int pda_nil)))) (fun _ _ => rfl))))))
theorem sc__law_places : FnScope ["_law_windows_here", "_law_shape", "_law_found", "_law_left", "_law_top", "_law_place", "_law_window_here"] ["_law_windows_here", "_law_shape"] (defScope (top 32)) := ⟨rfl, rfl, rfl, by decide +kernel, rfl, by decide +kernel, by decide +kernel⟩
theorem ok__law_places {P : Program} {w : World} {K : PySem.W.Frag} {mg : Str → Option Value} {base : Heap} {cls : Exc → Addr} {f : Addr} {fd : FuncData} (B : Bi mg) (F : FunD K "_law_places" "_law_places" (defArgs (top 32)) (defBody (top 32)) (defScope (top 32)) [] [] f fd) (hx : mg "_law_places" = some (.ref f)) (g__law_meet : Fn P w K mg base cls 1 "_law_meet" 2 fD__law_meet) :
    Fn P w K mg base cls 2 "_law_places" 2 fD__law_places := by
  have nd := sc__law_places.nd
  refine fn_okD (N := ["_law_windows_here", "_law_shape", "_law_found", "_law_left", "_law_top", "_law_place", "_law_window_here"]) (ps := ["_law_windows_here", "_law_shape"]) (G := G__law_places) F sc__law_places hx (F.bindsN fun _ _ _ _ _ _ us hl => match us, hl with | [_, _], _ => rfl) fun cdv A outer s H E hr => ?_
  have tk : Takes (cxOf (L2.CX P w) P w K mg base ["_law_windows_here", "_law_shape", "_law_found", "_law_left", "_law_top", "_law_place", "_law_window_here"] "_law_places" (defScope (top 32)) f cdv A outer s H E) (fun c d _ H => E c d H) := takes_of rfl rfl rfl rfl
  exact (pds_cons (pds_setN (ps_set nd rfl (.inl rfl) (pd_lst pda_nil) rfl (.inr rfl))) (pds_cons (pds_for (passes_of rfl) rfl (pdi_range1 (by rfl) B.range (pdb_cons (coeVB (pd_op op_sub os_sub pd_int (pd_ix ix_seq os_ix (pb_var (pv 1)) pd_int (fun _ _ => rfl)))) pdb_nil)) (pg_nm (pg_name nd rfl (.inl rfl) (.inr rfl))) (pds_one (pds_for (passes_of rfl) rfl (pdi_range1 (by rfl) B.range (pdb_cons (coeVB (pd_op op_sub os_sub pd_int (pd_ix ix_seq os_ix (pb_var (pv 1)) pd_int (fun _ _ => rfl)))) pdb_nil)) (pg_nm (pg_name nd rfl (.inl rfl) (.inr rfl))) (pds_cons (pds_set (ps_set nd rfl (.inr rfl) (pd_tup (pda_cons (pd_var (pv 3)) (pda_cons (pd_var (pv 4)) (pda_cons (pd_op op_addA os_add (pd_var (pv 3)) (pd_ix ix_seq os_ix (pb_var (pv 1)) pd_int (fun _ _ => rfl))) (pda_cons (pd_op op_addA os_add (pd_var (pv 4)) (pd_ix ix_seq os_ix (pb_var (pv 1)) pd_int (fun _ _ => rfl))) pda_nil))))) rfl (.inl rfl))) (pds_one (pds_if (pdt_cmp (op_eqD (room64 hr)) os_eq (coeVB (coeNV (pd_lc (own := [("_law_window_here", 6)]) rfl nd  (pdi_seq (pd_var (pv 0))) (blk_of (N' := ["_law_windows_here", "_law_shape", "_law_found", "_law_left", "_law_top", "_law_place", "_law_window_here"]) (sc := (defScope (top 32))) rfl rfl rfl (by decide +kernel)) (fun _ _ _ _ _ => (pg_nm (pg_name nd rfl (.inl rfl) (.inr rfl)))) (fun _ _ _ _ _ => (pts_one (pdt_val (pd_call g__law_meet (hr.mono (by decide)) (by rfl) takes0 (pda_cons (pd_var (pv 6)) (pda_cons (pd_var (pv 5)) pda_nil)))))) (fun _ _ _ _ _ => (pd_var (pv 6))) rfl))) (coeVB (coeNV (pd_lst pda_nil))) rfl) (pds_one (pds_append (r := rAppend) (ps_expr (pe_bm PySem.F.plainAttrs_list PySem.F.slot_list_append PySem.F.type_list_append mt_append (pv 2) (pa_cons (pd_var (pv 5)) pa_nil))))) pds_nil)))))) (pds_frz 2 (pds_one (pds_ret (pd_var (pv 2)))))))
theorem sc__law_good : FnScope ["_law_windows_here", "_law_sizes", "_law_rows", "_law_k", "_law_place", "_law_window_here"] ["_law_windows_here", "_law_sizes", "_law_rows"] (defScope (top 33)) := ⟨rfl, rfl, rfl, by decide +kernel, rfl, by decide +kernel, by decide +kernel⟩
theorem ok__law_good {P : Program} {w : World} {K : PySem.W.Frag} {mg : Str → Option Value} {base : Heap} {cls : Exc → Addr} {f : Addr} {fd : FuncData} (B : Bi mg) (F : FunD K "_law_good" "_law_good" (defArgs (top 33)) (defBody (top 33)) (defScope (top 33)) [] [] f fd) (hx : mg "_law_good" = some (.ref f)) (g__law_meet : Fn P w K mg base cls 1 "_law_meet" 2 fD__law_meet) :
    Fn P w K mg base cls 2 "_law_good" 3 fD__law_good := by
  have nd := sc__law_good.nd
  refine fn_okD (N := ["_law_windows_here", "_law_sizes", "_law_rows", "_law_k", "_law_place", "_law_window_here"]) (ps := ["_law_windows_here", "_law_sizes", "_law_rows"]) (G := G__law_good) F sc__law_good hx (F.bindsN fun _ _ _ _ _ _ us hl => match us, hl with | [_, _, _], _ => rfl) fun cdv A outer s H E hr => ?_
  have tk : Takes (cxOf (L2.CX P w) P w K mg base ["_law_windows_here", "_law_sizes", "_law_rows", "_law_k", "_law_place", "_law_window_here"] "_law_good" (defScope (top 33)) f cdv A outer s H E) (fun c d _ H => E c d H) := takes_of rfl rfl rfl rfl
  exact (pds_cons (pds_if (pdt_cmp (op_neD (room64 hr)) os_ne (coeVB (pd_callB call_len_seq cs_len (by rfl) B.len boot_len (pdb_cons (pb_var (pv 2)) pdb_nil))) (coeVB (pd_callB call_len_seq cs_len (by rfl) B.len boot_len (pdb_cons (pb_var (pv 1)) pdb_nil))) rfl) (pds_one (pds_ret pd_bl)) pds_nil) (pds_cons (pds_for (passes_of rfl) rfl (pdi_enum (by rfl) B.enumerate (pd_var (pv 2))) (pg_tp rfl (pgn_cons (pg_name nd rfl (.inl rfl) (.inr rfl)) (pgn_cons (pg_name nd rfl (.inr rfl) (.inl rfl)) pgn_nil))) (pds_cons (pds_if (pdt_cmp (op_neD (room64 hr)) os_ne (coeVB (pd_tup (pda_cons (pd_op op_sub os_sub (pd_ix ix_seq os_ix (pb_var (pv 4)) pd_int (fun _ _ => rfl)) (pd_ix ix_seq os_ix (pb_var (pv 4)) pd_int (fun _ _ => rfl))) (pda_cons (pd_op op_sub os_sub (pd_ix ix_seq os_ix (pb_var (pv 4)) pd_int (fun _ _ => rfl)) (pd_ix ix_seq os_ix (pb_var (pv 4)) pd_int (fun _ _ => rfl))) pda_nil)))) (coeVB (pd_ix ix_seq os_ix (pb_var (pv 1)) (pd_var (pv 3)) (fun _ _ => rfl))) rfl) (pds_one (pds_ret pd_bl)) pds_nil) (pds_one (pds_if (pdt_cmp (op_neD (room64 hr)) os_ne (coeVB (coeNV (pd_lc (own := [("_law_window_here", 5)]) rfl nd  (pdi_seq (pd_op op_addA os_add (pd_var (pv 0)) (pd_slice (pb_var (pv 2)) pdo_none (pdo_some (pd_var (pv 3)))))) (blk_of (N' := ["_law_windows_here", "_law_sizes", "_law_rows", "_law_k", "_law_place", "_law_window_here"]) (sc := (defScope (top 33))) rfl rfl rfl (by decide +kernel)) (fun _ _ _ _ _ => (pg_nm (pg_name nd rfl (.inl rfl) (.inr rfl)))) (fun _ _ _ _ _ => (pts_one (pdt_val (pd_call g__law_meet (hr.mono (by decide)) (by rfl) takes0 (pda_cons (pd_var (pv 5)) (pda_cons (pd_var (pv 4)) pda_nil)))))) (fun _ _ _ _ _ => (pd_var (pv 5))) rfl))) (coeVB (coeNV (pd_lst pda_nil))) rfl) (pds_one (pds_ret pd_bl)) pds_nil)))) (pds_one (pds_ret pd_bl))))
theorem sc_are_windows : FnScope ["candidate", "window"] ["candidate"] (defScope (top 10)) := ⟨rfl, rfl, rfl, by decide +kernel, rfl, by decide +kernel, by decide +kernel⟩
theorem ok_are_windows {P : Program} {w : World} {K : PySem.W.Frag} {mg : Str → Option Value} {base : Heap} {cls : Exc → Addr} {f : Addr} {fd : FuncData} (B : Bi mg) (F : FunD K "are_windows" "are_windows" (defArgs (top 10)) (defBody (top 10)) (defScope (top 10)) [] [] f fd) (hx : mg "are_windows" = some (.ref f)) (c_MAX_WINDOWS : ∃ t, mg "MAX_WINDOWS" = some (.int 6 t)) (g_is_window : Fn P w K mg base cls 2 "is_window" 1 fD_is_window) :
    Fn P w K mg base cls 3 "are_windows" 1 fD_are_windows := by
  have nd := sc_are_windows.nd
  refine fn_okD (N := ["candidate", "window"]) (ps := ["candidate"]) (G := G_are_windows) F sc_are_windows hx (F.bindsN fun _ _ _ _ _ _ us hl => match us, hl with | [_], _ => rfl) fun cdv A outer s H E hr => ?_
  have tk : Takes (cxOf (L2.CX P w) P w K mg base ["candidate", "window"] "are_windows" (defScope (top 10)) f cdv A outer s H E) (fun c d _ H => E c d H) := takes_of rfl rfl rfl rfl
  exact (pds_cons (pds_if (pdt_w (pdw_or (pdt_not (pdt_val (pd_isi isi_tup (by rfl) B.isinstance (by rfl) B.tuple boot_tuple (pb_var (pv 0))))) (pdw_or1 (pdt_cmp op_gt os_cmpI (pd_callB call_len_seq cs_len (by rfl) B.len boot_len (pdb_cons (pb_var (pv 0)) pdb_nil)) (pd_gint (by rfl) c_MAX_WINDOWS) rfl)))) (pds_one (pds_ret pd_bl)) pds_nil) (pds_one (pds_ret (pd_callB (cr_all (by rfl)) cs_all (by rfl) B.all boot_all (pdb_cons (coeVB (coeNV (pd_lc (own := [("window", 1)]) rfl nd  (pdi_seq (pd_var (pv 0))) (blk_of (N' := ["candidate", "window"]) (sc := (defScope (top 10))) rfl rfl rfl (by decide +kernel)) (fun _ _ _ _ _ => (pg_nm (pg_name nd rfl (.inl rfl) (.inr rfl)))) (fun _ _ _ _ _ => pts_yes) (fun _ _ _ _ _ => (pd_call g_is_window (hr.mono (by decide)) (by rfl) takes0 (pda_cons (pd_var (pv 1)) pda_nil))) rfl))) pdb_nil)))))
theorem sc_find_places : FnScope ["windows", "size", "place"] ["windows", "size"] (defScope (top 18)) := ⟨rfl, rfl, rfl, by decide +kernel, rfl, by decide +kernel, by decide +kernel⟩
theorem ok_find_places {P : Program} {w : World} {K : PySem.W.Frag} {mg : Str → Option Value} {base : Heap} {cls : Exc → Addr} {f : Addr} {fd : FuncData} (B : Bi mg) (F : FunD K "find_places" "find_places" (defArgs (top 18)) (defBody (top 18)) (defScope (top 18)) [] [] f fd) (hx : mg "find_places" = some (.ref f)) (g_is_free : Fn P w K mg base cls 2 "is_free" 2 fD_is_free) (g_all_places : Fn P w K mg base cls 1 "all_places" 1 fD_all_places) :
    Fn P w K mg base cls 3 "find_places" 2 fD_find_places := by
  have nd := sc_find_places.nd
  refine fn_okD (N := ["windows", "size", "place"]) (ps := ["windows", "size"]) (G := G_find_places) F sc_find_places hx (F.bindsN fun _ _ _ _ _ _ us hl => match us, hl with | [_, _], _ => rfl) fun cdv A outer s H E hr => ?_
  have tk : Takes (cxOf (L2.CX P w) P w K mg base ["windows", "size", "place"] "find_places" (defScope (top 18)) f cdv A outer s H E) (fun c d _ H => E c d H) := takes_of rfl rfl rfl rfl
  exact (pds_one (pds_ret (coeNV (pd_lc (own := [("place", 2)]) rfl nd  (pdi_seq (pd_call g_all_places (hr.mono (by decide)) (by rfl) tk (pda_cons (pd_var (pv 1)) pda_nil))) (blk_of (N' := ["windows", "size", "place"]) (sc := (defScope (top 18))) rfl rfl rfl (by decide +kernel)) (fun _ _ _ _ _ => (pg_nm (pg_name nd rfl (.inl rfl) (.inr rfl)))) (fun _ _ _ _ _ => (pts_one (pdt_val (pd_call g_is_free (hr.mono (by decide)) (by rfl) takes0 (pda_cons (pd_var (pv 0)) (pda_cons (pd_var (pv 2)) pda_nil)))))) (fun _ _ _ _ _ => (pd_var (pv 2))) rfl))))
theorem sc__law_windows : FnScope ["_law_script", "_law_at", "_law_most", "_law_found", "_law_k", "_law_near", "_law_left", "_law_top", "_law_right", "_law_bottom", "_law_start", "_law_above"] ["_law_script", "_law_at", "_law_most"] (defScope (top 28)) := ⟨rfl, rfl, rfl, by decide +kernel, rfl, by decide +kernel, by decide +kernel⟩
theorem ok__law_windows {P : Program} {w : World} {K : PySem.W.Frag} {mg : Str → Option Value} {base : Heap} {cls : Exc → Addr} {f : Addr} {fd : FuncData} (B : Bi mg) (F : FunD K "_law_windows" "_law_windows" (defArgs (top 28)) (defBody (top 28)) (defScope (top 28)) [] [] f fd) (hx : mg "_law_windows" = some (.ref f)) (g__law_drawn : Fn P w K mg base cls 1 "_law_drawn" 3 fD__law_drawn) (g__law_window : Fn P w K mg base cls 2 "_law_window" 2 fD__law_window) :
    Fn P w K mg base cls 3 "_law_windows" 3 fD__law_windows := by
  have nd := sc__law_windows.nd
  refine fn_okD (N := ["_law_script", "_law_at", "_law_most", "_law_found", "_law_k", "_law_near", "_law_left", "_law_top", "_law_right", "_law_bottom", "_law_start", "_law_above"]) (ps := ["_law_script", "_law_at", "_law_most"]) (G := G__law_windows) F sc__law_windows hx (F.bindsN fun _ _ _ _ _ _ us hl => match us, hl with | [_, _, _], _ => rfl) fun cdv A outer s H E hr => ?_
  have tk : Takes (cxOf (L2.CX P w) P w K mg base ["_law_script", "_law_at", "_law_most", "_law_found", "_law_k", "_law_near", "_law_left", "_law_top", "_law_right", "_law_bottom", "_law_start", "_law_above"] "_law_windows" (defScope (top 28)) f cdv A outer s H E) (fun c d _ H => E c d H) := takes_of rfl rfl rfl rfl
  exact (pds_cons (pds_setN (ps_set nd rfl (.inl rfl) (pd_lst pda_nil) rfl (.inr rfl))) (pds_cons (pds_for (passes_of rfl) rfl (pdi_range1 (by rfl) B.range (pdb_cons (coeVB (pd_call g__law_drawn (hr.mono (by decide)) (by rfl) tk (pda_cons (pd_var (pv 0)) (pda_cons (pd_var (pv 1)) (pda_cons (pd_op op_addA os_add (pd_var (pv 2)) pd_int) pda_nil))))) pdb_nil)) (pg_nm (pg_name nd rfl (.inl rfl) (.inr rfl))) (pds_cons (pds_unp (ps_asg (pd_call g__law_window (hr.mono (by decide)) (by rfl) tk (pda_cons (pd_var (pv 0)) (pda_cons (pd_op op_addA os_add (pd_op op_addA os_add (pd_var (pv 1)) pd_int) (pd_op op_mulA os_mulA pd_int (pd_var (pv 4)))) pda_nil))) (pg_tp rfl (pgn_cons (pg_name nd rfl (.inl rfl) (.inr rfl)) (pgn_cons (pg_name nd rfl (.inl rfl) (.inr rfl)) (pgn_cons (pg_name nd rfl (.inl rfl) (.inr rfl)) (pgn_cons (pg_name nd rfl (.inl rfl) (.inr rfl)) pgn_nil))))))) (pds_cons (pds_set (ps_set nd rfl (.inl rfl) (pd_op op_addA os_add pd_int (pd_call g__law_drawn (hr.mono (by decide)) (by rfl) tk (pda_cons (pd_var (pv 0)) (pda_cons (pd_op op_addA os_add (pd_var (pv 1)) pd_int) (pda_cons pd_int pda_nil))))) rfl (.inr rfl))) (pds_cons (pds_par (ps_par rfl nd rfl rfl (by decide) rfl rfl (pa_cons (coeVS (pd_op op_fdivW os_fdiv (pd_var (pv 6)) (pd_var (pv 5)))) (pa_cons (coeVS (pd_op op_fdivW os_fdiv (pd_var (pv 7)) (pd_var (pv 5)))) pa_nil)) rfl)) (pds_one (pds_append (r := rAppend) (ps_expr (pe_bm PySem.F.plainAttrs_list PySem.F.slot_list_append PySem.F.type_list_append mt_append (pv 3) (pa_cons (pd_tup (pda_cons (pd_var (pv 10)) (pda_cons (pd_var (pv 11)) (pda_cons (pd_op op_sub os_sub (pd_op op_addA os_add (pd_var (pv 10)) (pd_var (pv 8))) (pd_var (pv 6))) (pda_cons (pd_op op_sub os_sub (pd_op op_addA os_add (pd_var (pv 11)) (pd_var (pv 9))) (pd_var (pv 7))) pda_nil))))) pa_nil))))))))) (pds_one (pds_ret (pd_callTy call_tuple_of cs_tuple (by rfl) B.tuple boot_tuple (pdb_cons (pb_var (pv 3)) pdb_nil))))))
theorem sc_check_windows : FnScope ["value"] ["value"] (defScope (top 11)) := ⟨rfl, rfl, rfl, by decide +kernel, rfl, by decide +kernel, by decide +kernel⟩
theorem ok_check_windows {P : Program} {w : World} {K : PySem.W.Frag} {mg : Str → Option Value} {base : Heap} {cls : Exc → Addr} {f : Addr} {fd : FuncData} (B : Bi mg) (F : FunD K "check_windows" "check_windows" (defArgs (top 11)) (defBody (top 11)) (defScope (top 11)) [] [] f fd) (hx : mg "check_windows" = some (.ref f)) (e_InvalidWindows : ExcAt K mg "InvalidWindows" (cls .windows)) (g_are_windows : Fn P w K mg base cls 3 "are_windows" 1 fD_are_windows) :
    Fn P w K mg base cls 4 "check_windows" 1 fD_check_windows := by
  have nd := sc_check_windows.nd
  refine fn_okD (N := ["value"]) (ps := ["value"]) (G := G_check_windows) F sc_check_windows hx (F.bindsN fun _ _ _ _ _ _ us hl => match us, hl with | [_], _ => rfl) fun cdv A outer s H E hr => ?_
  have tk : Takes (cxOf (L2.CX P w) P w K mg base ["value"] "check_windows" (defScope (top 11)) f cdv A outer s H E) (fun c d _ H => E c d H) := takes_of rfl rfl rfl rfl
  exact (pds_one (pds_if (pdt_not (pdt_val (pd_call g_are_windows (hr.mono (by decide)) (by rfl) tk (pda_cons (pd_var (pv 0)) pda_nil)))) (pds_one (pds_raise rfl tk e_InvalidWindows rfl)) pds_nil))
theorem sc_places : FnScope ["windows", "size"] ["windows", "size"] (defScope (top 19)) := ⟨rfl, rfl, rfl, by decide +kernel, rfl, by decide +kernel, by decide +kernel⟩
theorem ok_places {P : Program} {w : World} {K : PySem.W.Frag} {mg : Str → Option Value} {base : Heap} {cls : Exc → Addr} {f : Addr} {fd : FuncData} (B : Bi mg) (F : FunD K "places" "places" (defArgs (top 19)) (defBody (top 19)) (defScope (top 19)) [] [] f fd) (hx : mg "places" = some (.ref f)) (e_InvalidSize : ExcAt K mg "InvalidSize" (cls .size)) (g_check_windows : Fn P w K mg base cls 4 "check_windows" 1 fD_check_windows) (g_is_size : Fn P w K mg base cls 2 "is_size" 1 fD_is_size) (g_find_places : Fn P w K mg base cls 3 "find_places" 2 fD_find_places) :
    Fn P w K mg base cls 5 "places" 2 fD_places := by
  have nd := sc_places.nd
  refine fn_okD (N := ["windows", "size"]) (ps := ["windows", "size"]) (G := G_places) F sc_places hx (F.bindsN fun _ _ _ _ _ _ us hl => match us, hl with | [_, _], _ => rfl) fun cdv A outer s H E hr => ?_
  have tk : Takes (cxOf (L2.CX P w) P w K mg base ["windows", "size"] "places" (defScope (top 19)) f cdv A outer s H E) (fun c d _ H => E c d H) := takes_of rfl rfl rfl rfl
  exact (pds_cons (pds_expr (ps_expr (pd_call g_check_windows (hr.mono (by decide)) (by rfl) tk (pda_cons (pd_var (pv 0)) pda_nil)))) (pds_cons (pds_if (pdt_not (pdt_val (pd_call g_is_size (hr.mono (by decide)) (by rfl) tk (pda_cons (pd_var (pv 1)) pda_nil)))) (pds_one (pds_raise rfl tk e_InvalidSize rfl)) pds_nil) (pds_one (pds_ret (pd_call g_find_places (hr.mono (by decide)) (by rfl) tk (pda_cons (pd_var (pv 0)) (pda_cons (pd_var (pv 1)) pda_nil)))))))
theorem sc_check_sizes : FnScope ["windows", "sizes", "size"] ["windows", "sizes"] (defScope (top 20)) := ⟨rfl, rfl, rfl, by decide +kernel, rfl, by decide +kernel, by decide +kernel⟩
theorem ok_check_sizes {P : Program} {w : World} {K : PySem.W.Frag} {mg : Str → Option Value} {base : Heap} {cls : Exc → Addr} {f : Addr} {fd : FuncData} (B : Bi mg) (F : FunD K "check_sizes" "check_sizes" (defArgs (top 20)) (defBody (top 20)) (defScope (top 20)) [] [] f fd) (hx : mg "check_sizes" = some (.ref f)) (e_InvalidSizes : ExcAt K mg "InvalidSizes" (cls .sizes)) (c_MAX_SIZES : ∃ t, mg "MAX_SIZES" = some (.int 3 t)) (g_check_windows : Fn P w K mg base cls 4 "check_windows" 1 fD_check_windows) (g_is_size : Fn P w K mg base cls 2 "is_size" 1 fD_is_size) :
    Fn P w K mg base cls 5 "check_sizes" 2 fD_check_sizes := by
  have nd := sc_check_sizes.nd
  refine fn_okD (N := ["windows", "sizes", "size"]) (ps := ["windows", "sizes"]) (G := G_check_sizes) F sc_check_sizes hx (F.bindsN fun _ _ _ _ _ _ us hl => match us, hl with | [_, _], _ => rfl) fun cdv A outer s H E hr => ?_
  have tk : Takes (cxOf (L2.CX P w) P w K mg base ["windows", "sizes", "size"] "check_sizes" (defScope (top 20)) f cdv A outer s H E) (fun c d _ H => E c d H) := takes_of rfl rfl rfl rfl
  exact (pds_cons (pds_expr (ps_expr (pd_call g_check_windows (hr.mono (by decide)) (by rfl) tk (pda_cons (pd_var (pv 0)) pda_nil)))) (pds_one (pds_if (pdt_w (pdw_or (pdt_not (pdt_val (pd_isi isi_lst (by rfl) B.isinstance (by rfl) B.list boot_list (pb_var (pv 1))))) (pdw_or (pdt_cmp op_gt os_cmpI (pd_callB call_len_seq cs_len (by rfl) B.len boot_len (pdb_cons (pb_var (pv 1)) pdb_nil)) (pd_gint (by rfl) c_MAX_SIZES) rfl) (pdw_or1 (pdt_not (pdt_val (pd_callB (cr_all (by rfl)) cs_all (by rfl) B.all boot_all (pdb_cons (coeVB (coeNV (pd_lc (own := [("size", 2)]) rfl nd  (pdi_seq (pd_var (pv 1))) (blk_of (N' := ["windows", "sizes", "size"]) (sc := (defScope (top 20))) rfl rfl rfl (by decide +kernel)) (fun _ _ _ _ _ => (pg_nm (pg_name nd rfl (.inl rfl) (.inr rfl)))) (fun _ _ _ _ _ => pts_yes) (fun _ _ _ _ _ => (pd_call g_is_size (hr.mono (by decide)) (by rfl) takes0 (pda_cons (pd_var (pv 2)) pda_nil))) rfl))) pdb_nil)))))))) (pds_one (pds_raise rfl tk e_InvalidSizes rfl)) pds_nil)))
theorem sc_largest_free : FnScope ["windows", "sizes", "best", "size", "cells", "place", "width", "height"] ["windows"] (defScope (top 24)) := ⟨rfl, rfl, rfl, by decide +kernel, rfl, by decide +kernel, by decide +kernel⟩
theorem ok_largest_free {P : Program} {w : World} {K : PySem.W.Frag} {mg : Str → Option Value} {base : Heap} {cls : Exc → Addr} {f : Addr} {fd : FuncData} (B : Bi mg) (F : FunD K "largest_free" "largest_free" (defArgs (top 24)) (defBody (top 24)) (defScope (top 24)) [] [] f fd) (hx : mg "largest_free" = some (.ref f)) (c_SCREEN : ∃ t, mg "SCREEN" = some (.int 12 t)) (g_check_windows : Fn P w K mg base cls 4 "check_windows" 1 fD_check_windows) (g_find_places : Fn P w K mg base cls 3 "find_places" 2 fD_find_places) :
    Fn P w K mg base cls 5 "largest_free" 1 fD_largest_free := by
  have nd := sc_largest_free.nd
  refine fn_okD (N := ["windows", "sizes", "best", "size", "cells", "place", "width", "height"]) (ps := ["windows"]) (G := G_largest_free) F sc_largest_free hx (F.bindsN fun _ _ _ _ _ _ us hl => match us, hl with | [_], _ => rfl) fun cdv A outer s H E hr => ?_
  have tk : Takes (cxOf (L2.CX P w) P w K mg base ["windows", "sizes", "best", "size", "cells", "place", "width", "height"] "largest_free" (defScope (top 24)) f cdv A outer s H E) (fun c d _ H => E c d H) := takes_of rfl rfl rfl rfl
  exact (pds_cons (pds_expr (ps_expr (pd_call g_check_windows (hr.mono (by decide)) (by rfl) tk (pda_cons (pd_var (pv 0)) pda_nil)))) (pds_cons (pds_set (asgNV (pds_setLc2 (own := [("width", 6), ("height", 7)]) (vs1 := [7]) rfl nd (i := 1) rfl rfl rfl (pdi_range2 (by rfl) B.range (pdb_cons (coeVB pd_int) (pdb_cons (coeVB (pd_op op_addA os_add (pd_gint (by rfl) c_SCREEN) pd_int)) pdb_nil))) (blk_of (N' := ["windows", "sizes", "best", "size", "cells", "place", "width", "height"]) (sc := (defScope (top 24))) rfl rfl rfl (by decide +kernel)) rfl (fun _ _ _ _ _ => (pg_nm (pg_name nd rfl (.inl rfl) (.inr rfl)))) (fun _ _ _ _ _ => pts_yes) (fun _ _ _ _ _ => (pdi_range2 (by rfl) B.range (pdb_cons (coeVB pd_int) (pdb_cons (coeVB (pd_op op_addA os_add (pd_gint (by rfl) c_SCREEN) pd_int)) pdb_nil)))) (fun _ _ _ _ _ => (pg_nm (pg_name nd rfl (.inl rfl) (.inr rfl)))) (fun _ _ _ _ _ => pts_yes) (fun _ _ _ _ _ => (pd_tup (pda_cons (pd_var (pv 6)) (pda_cons (pd_var (pv 7)) pda_nil)))) rfl rfl))) (pds_cons (pds_set (ps_set nd rfl (.inl rfl) pd_non rfl (.inr rfl))) (pds_cons (pds_for (passes_of rfl) rfl (pdi_seq pd_none) (pg_nm (pg_name nd rfl (.inl rfl) (.inr rfl))) (pds_cons (pds_set (ps_set nd rfl (.inl rfl) (pd_op op_mulA os_mulA (pd_ix ix_seq os_ix (pb_var (pv 3)) pd_int (fun _ _ => rfl)) (pd_ix ix_seq os_ix (pb_var (pv 3)) pd_int (fun _ _ => rfl))) rfl (.inr rfl))) (pds_cons (pds_if (pdt_w (pdw_and (pdt_cmp op_notN os_notN (pb_var (pv 2)) pd_non rfl) (pdw_and1 (pdt_cmp op_lt os_cmpI (pd_var (pv 4)) (pd_ix ix_seq os_ix (pb_var (pv 2)) pd_int (fun _ _ => rfl)) rfl)))) (pds_one (pds_ret (pd_ix ix_seq os_ix (pb_var (pv 2)) pd_int (fun _ _ => rfl)))) pds_nil) (pds_one (pds_for (passes_of rfl) rfl (pdi_seq (pd_slice (coeVB (pd_call g_find_places (hr.mono (by decide)) (by rfl) tk (pda_cons (pd_var (pv 0)) (pda_cons (pd_var (pv 3)) pda_nil)))) pdo_none (pdo_some pd_int))) (pg_nm (pg_name nd rfl (.inl rfl) (.inr rfl))) (pds_one (pds_if (pdt_w (pdw_or (pdt_cmp op_isN os_isN (pb_var (pv 2)) pd_non rfl) (pdw_or1 (pdt_cmp (op_ltTD (room0 hr)) os_ltT (pd_var (pv 5)) (pd_ix ix_seq os_ix (pb_var (pv 2)) pd_int (fun _ _ => rfl)) rfl)))) (pds_one (pds_set (ps_set nd rfl (.inl rfl) (pd_tup (pda_cons (pd_var (pv 4)) (pda_cons (pd_var (pv 5)) pda_nil))) rfl (.inr rfl)))) pds_nil))))))) (pds_one (pds_ret (pd_if (pdt_cmp op_isN os_isN (pb_var (pv 2)) pd_non rfl) pd_non (pd_ix ix_seq os_ix (pb_var (pv 2)) pd_int (fun _ _ => rfl)))))))))
theorem sc_are_places : FnScope ["windows", "sizes", "candidate", "index", "place"] ["windows", "sizes", "candidate"] (defScope (top 23)) := ⟨rfl, rfl, rfl, by decide +kernel, rfl, by decide +kernel, by decide +kernel⟩
theorem ok_are_places {P : Program} {w : World} {K : PySem.W.Frag} {mg : Str → Option Value} {base : Heap} {cls : Exc → Addr} {f : Addr} {fd : FuncData} (B : Bi mg) (F : FunD K "are_places" "are_places" (defArgs (top 23)) (defBody (top 23)) (defScope (top 23)) [] [] f fd) (hx : mg "are_places" = some (.ref f)) (g_is_window : Fn P w K mg base cls 2 "is_window" 1 fD_is_window) (g_is_free : Fn P w K mg base cls 2 "is_free" 2 fD_is_free) (g_check_sizes : Fn P w K mg base cls 5 "check_sizes" 2 fD_check_sizes) :
    Fn P w K mg base cls 6 "are_places" 3 fD_are_places := by
  have nd := sc_are_places.nd
  refine fn_okD (N := ["windows", "sizes", "candidate", "index", "place"]) (ps := ["windows", "sizes", "candidate"]) (G := G_are_places) F sc_are_places hx (F.bindsN fun _ _ _ _ _ _ us hl => match us, hl with | [_, _, _], _ => rfl) fun cdv A outer s H E hr => ?_
  have tk : Takes (cxOf (L2.CX P w) P w K mg base ["windows", "sizes", "candidate", "index", "place"] "are_places" (defScope (top 23)) f cdv A outer s H E) (fun c d _ H => E c d H) := takes_of rfl rfl rfl rfl
  exact (pds_cons (pds_expr (ps_expr (pd_call g_check_sizes (hr.mono (by decide)) (by rfl) tk (pda_cons (pd_var (pv 0)) (pda_cons (pd_var (pv 1)) pda_nil))))) (pds_cons (pds_if (pdt_w (pdw_or (pdt_not (pdt_val (pd_isi isi_tup (by rfl) B.isinstance (by rfl) B.tuple boot_tuple (pb_var (pv 2))))) (pdw_or1 (pdt_cmp (op_neD (room64 hr)) os_ne (coeVB (pd_callB call_len_seq cs_len (by rfl) B.len boot_len (pdb_cons (pb_var (pv 2)) pdb_nil))) (coeVB (pd_callB call_len_seq cs_len (by rfl) B.len boot_len (pdb_cons (pb_var (pv 1)) pdb_nil))) rfl)))) (pds_one (pds_ret pd_bl)) pds_nil) (pds_cons (pds_if (pdt_not (pdt_val (pd_callB (cr_all (by rfl)) cs_all (by rfl) B.all boot_all (pdb_cons (coeVB (coeNV (pd_lc (own := [("place", 4)]) rfl nd  (pdi_seq (pd_var (pv 2))) (blk_of (N' := ["windows", "sizes", "candidate", "index", "place"]) (sc := (defScope (top 23))) rfl rfl rfl (by decide +kernel)) (fun _ _ _ _ _ => (pg_nm (pg_name nd rfl (.inl rfl) (.inr rfl)))) (fun _ _ _ _ _ => pts_yes) (fun _ _ _ _ _ => (pd_call g_is_window (hr.mono (by decide)) (by rfl) takes0 (pda_cons (pd_var (pv 4)) pda_nil))) rfl))) pdb_nil)))) (pds_one (pds_ret pd_bl)) pds_nil) (pds_cons (pds_for (passes_of rfl) rfl (pdi_enum (by rfl) B.enumerate (pd_var (pv 2))) (pg_tp rfl (pgn_cons (pg_name nd rfl (.inl rfl) (.inr rfl)) (pgn_cons (pg_name nd rfl (.inl rfl) (.inr rfl)) pgn_nil))) (pds_cons (pds_if (pdt_cmp (op_neD (room64 hr)) os_ne (coeVB (pd_tup (pda_cons (pd_op op_sub os_sub (pd_ix ix_seq os_ix (pb_var (pv 4)) pd_int (fun _ _ => rfl)) (pd_ix ix_seq os_ix (pb_var (pv 4)) pd_int (fun _ _ => rfl))) (pda_cons (pd_op op_sub os_sub (pd_ix ix_seq os_ix (pb_var (pv 4)) pd_int (fun _ _ => rfl)) (pd_ix ix_seq os_ix (pb_var (pv 4)) pd_int (fun _ _ => rfl))) pda_nil)))) (coeVB (pd_ix ix_seq os_ix (pb_var (pv 1)) (pd_var (pv 3)) (fun _ _ => rfl))) rfl) (pds_one (pds_ret pd_bl)) pds_nil) (pds_one (pds_if (pdt_w (pdw_or (pdt_not (pdt_val (pd_call g_is_free (hr.mono (by decide)) (by rfl) tk (pda_cons (pd_var (pv 0)) (pda_cons (pd_var (pv 4)) pda_nil))))) (pdw_or1 (pdt_not (pdt_val (pd_call g_is_free (hr.mono (by decide)) (by rfl) tk (pda_cons (pd_slice (pb_var (pv 2)) pdo_none (pdo_some (pd_var (pv 3)))) (pda_cons (pd_var (pv 4)) pda_nil)))))))) (pds_one (pds_ret pd_bl)) pds_nil)))) (pds_one (pds_ret pd_bl))))))
theorem sc_find_all : FnScope ["windows", "sizes", "place", "rest"] ["windows", "sizes"] (defScope (top 21)) := ⟨rfl, rfl, rfl, by decide +kernel, rfl, by decide +kernel, by decide +kernel⟩
theorem okr_find_all {rc : List D → R D} {lv : Nat} (hlv : 3 ≤ lv) {P : Program} {w : World} {K : PySem.W.Frag} {mg : Str → Option Value} {base : Heap} {cls : Exc → Addr} {f : Addr} {fd : FuncData} (B : Bi mg) (F : FunD K "find_all" "find_all" (defArgs (top 21)) (defBody (top 21)) (defScope (top 21)) [] [] f fd) (hx : mg "find_all" = some (.ref f)) (g_rc : Fn P w K mg base cls lv "find_all" 2 rc) (g_find_places : Fn P w K mg base cls 3 "find_places" 2 fD_find_places) :
    Fn P w K mg base cls (lv + 1) "find_all" 2 (fnD 4 2 (G_find_all rc)) := by
  have nd := sc_find_all.nd
  refine fn_okD (N := ["windows", "sizes", "place", "rest"]) (ps := ["windows", "sizes"]) (G := G_find_all rc) F sc_find_all hx (F.bindsN fun _ _ _ _ _ _ us hl => match us, hl with | [_, _], _ => rfl) fun cdv A outer s H E hr => ?_
  have tk : Takes (cxOf (L2.CX P w) P w K mg base ["windows", "sizes", "place", "rest"] "find_all" (defScope (top 21)) f cdv A outer s H E) (fun c d _ H => E c d H) := takes_of rfl rfl rfl rfl
  exact (pds_cons (pds_if (pdt_cmp (op_eqD (room64 hr)) os_eq (pb_var (pv 1)) (coeVB (coeNV (pd_lst pda_nil))) rfl) (pds_one (pds_ret (pd_tup pda_nil))) pds_nil) (pds_cons (pds_for (passes_of rfl) rfl (pdi_seq (pd_call g_find_places (hr.mono (by omega)) (by rfl) tk (pda_cons (pd_var (pv 0)) (pda_cons (pd_ix ix_seq os_ix (pb_var (pv 1)) pd_int (fun _ _ => rfl)) pda_nil)))) (pg_nm (pg_name nd rfl (.inl rfl) (.inr rfl))) (pds_cons (pds_set (ps_set nd rfl (.inl rfl) (pd_call g_rc (hr.mono (by omega)) (by rfl) tk (pda_cons (pd_op op_addA os_add (pd_var (pv 0)) (pd_tup (pda_cons (pd_var (pv 2)) pda_nil))) (pda_cons (pd_slice (pb_var (pv 1)) (pdo_some pd_int) pdo_none) pda_nil))) rfl (.inr rfl))) (pds_one (pds_if (pdt_cmp op_notN os_notN (pb_var (pv 3)) pd_non rfl) (pds_one (pds_ret (pd_op op_addA os_add (pd_tup (pda_cons (pd_var (pv 2)) pda_nil)) (pd_var (pv 3))))) pds_nil)))) (pds_one (pds_ret pd_non))))
theorem ok_find_all {P : Program} {w : World} {K : PySem.W.Frag} {mg : Str → Option Value} {base : Heap} {cls : Exc → Addr} {f : Addr} {fd : FuncData} (B : Bi mg) (F : FunD K "find_all" "find_all" (defArgs (top 21)) (defBody (top 21)) (defScope (top 21)) [] [] f fd) (hx : mg "find_all" = some (.ref f)) (g_find_places : Fn P w K mg base cls 3 "find_places" 2 fD_find_places) :
    Fn P w K mg base cls 7 "find_all" 2 fD_find_all := by
  have r0 : Fn P w K mg base cls 3 "find_all" 2 fD_find_all_0 := fn_bad (ps := ["windows", "sizes"]) F hx (F.bindsN fun _ _ _ _ _ _ us hl => match us, hl with | [_, _], _ => rfl)
  have r1 : Fn P w K mg base cls 4 "find_all" 2 fD_find_all_1 := okr_find_all (by omega) B F hx r0  g_find_places
  have r2 : Fn P w K mg base cls 5 "find_all" 2 fD_find_all_2 := okr_find_all (by omega) B F hx r1  g_find_places
  have r3 : Fn P w K mg base cls 6 "find_all" 2 fD_find_all_3 := okr_find_all (by omega) B F hx r2  g_find_places
  have r4 : Fn P w K mg base cls 7 "find_all" 2 fD_find_all_4 := okr_find_all (by omega) B F hx r3  g_find_places
  exact r4
theorem sc_place_all : FnScope ["windows", "sizes"] ["windows", "sizes"] (defScope (top 22)) := ⟨rfl, rfl, rfl, by decide +kernel, rfl, by decide +kernel, by decide +kernel⟩
theorem ok_place_all {P : Program} {w : World} {K : PySem.W.Frag} {mg : Str → Option Value} {base : Heap} {cls : Exc → Addr} {f : Addr} {fd : FuncData} (B : Bi mg) (F : FunD K "place_all" "place_all" (defArgs (top 22)) (defBody (top 22)) (defScope (top 22)) [] [] f fd) (hx : mg "place_all" = some (.ref f)) (g_check_sizes : Fn P w K mg base cls 5 "check_sizes" 2 fD_check_sizes) (g_find_all : Fn P w K mg base cls 7 "find_all" 2 fD_find_all) :
    Fn P w K mg base cls 8 "place_all" 2 fD_place_all := by
  have nd := sc_place_all.nd
  refine fn_okD (N := ["windows", "sizes"]) (ps := ["windows", "sizes"]) (G := G_place_all) F sc_place_all hx (F.bindsN fun _ _ _ _ _ _ us hl => match us, hl with | [_, _], _ => rfl) fun cdv A outer s H E hr => ?_
  have tk : Takes (cxOf (L2.CX P w) P w K mg base ["windows", "sizes"] "place_all" (defScope (top 22)) f cdv A outer s H E) (fun c d _ H => E c d H) := takes_of rfl rfl rfl rfl
  exact (pds_cons (pds_expr (ps_expr (pd_call g_check_sizes (hr.mono (by decide)) (by rfl) tk (pda_cons (pd_var (pv 0)) (pda_cons (pd_var (pv 1)) pda_nil))))) (pds_one (pds_ret (pd_call g_find_all (hr.mono (by decide)) (by rfl) tk (pda_cons (pd_var (pv 0)) (pda_cons (pd_var (pv 1)) pda_nil))))))
theorem sc__law_error : FnScope ["_law_way", "_law_one", "_law_two", "e"] ["_law_way", "_law_one", "_law_two"] (defScope (top 31)) := ⟨rfl, rfl, rfl, by decide +kernel, rfl, by decide +kernel, by decide +kernel⟩
theorem ok__law_error {P : Program} {w : World} {K : PySem.W.Frag} {mg : Str → Option Value} {base : Heap} {cls : Exc → Addr} {f : Addr} {fd : FuncData} (B : Bi mg) (F : FunD K "_law_error" "_law_error" (defArgs (top 31)) (defBody (top 31)) (defScope (top 31)) [] [] f fd) (hx : mg "_law_error" = some (.ref f)) (xf : ExcF K cls exsA) (n_InvalidSize : mg "InvalidSize" = some (.ref (cls .size))) (n_InvalidSizes : mg "InvalidSizes" = some (.ref (cls .sizes))) (n_InvalidWindows : mg "InvalidWindows" = some (.ref (cls .windows))) (n_PaneError : mg "PaneError" = some (.ref (cls .paneError))) (g_places : Fn P w K mg base cls 5 "places" 2 fD_places) (g_place_all : Fn P w K mg base cls 8 "place_all" 2 fD_place_all) (g_are_places : Fn P w K mg base cls 6 "are_places" 3 fD_are_places) (g_largest_free : Fn P w K mg base cls 5 "largest_free" 1 fD_largest_free) :
    Fn P w K mg base cls 9 "_law_error" 3 fD__law_error := by
  have nd := sc__law_error.nd
  refine fn_okD (N := ["_law_way", "_law_one", "_law_two", "e"]) (ps := ["_law_way", "_law_one", "_law_two"]) (G := G__law_error) F sc__law_error hx (F.bindsN fun _ _ _ _ _ _ us hl => match us, hl with | [_, _, _], _ => rfl) fun cdv A outer s H E hr => ?_
  have tk : Takes (cxOf (L2.CX P w) P w K mg base ["_law_way", "_law_one", "_law_two", "e"] "_law_error" (defScope (top 31)) f cdv A outer s H E) (fun c d _ H => E c d H) := takes_of rfl rfl rfl rfl
  exact (pds_cons (pds_try (i := 3) (Hd := H__law_error_0) rfl rfl nd rfl rfl xf (by decide) (by rfl) n_PaneError tk (fun W0 pn0 xe0 tk0 hp0 => (pds_one (pds_if (pdt_cmp op_lt os_cmpI (pd_var (pv 0)) pd_int rfl) (pds_one (pds_expr (ps_expr (pd_callX2 g_places g_place_all (hr.mono (by decide)) (hr.mono (by decide)) (by rfl) (by rfl) tk0 (pd_var (pv 0)) (fun _ _ => rfl) (pda_cons (pd_var (pv 1)) (pda_cons (pd_var (pv 2)) pda_nil)))))) (pds_one (pds_if (pdt_cmp (op_eqD (room64 hr)) os_eq (pb_var (pv 0)) (coeVB pd_int) rfl) (pds_one (pds_expr (ps_expr (pd_call g_are_places (hr.mono (by decide)) (by rfl) tk0 (pda_cons (pd_var (pv 1)) (pda_cons (pd_var (pv 2)) (pda_cons pd_non pda_nil))))))) (pds_one (pds_expr (ps_expr (pd_call g_largest_free (hr.mono (by decide)) (by rfl) tk0 (pda_cons (pd_var (pv 1)) pda_nil)))))))))) (by intro a c e d h; by_cases q : 3 < e.length <;> simp [H__law_error_0, metL, bindS_ret, List.set_set, isE_at, isE_no, isE_at2, getB_self, getV_self, getB_out, getV_out, q] at h ⊢ <;> exact h) (fun exk hk0 exa oe0 pn0 hz0 hf0 => (pds_one (pds_ret (pd_metL PySem.F.slot_list_index PySem.F.type_list_index mt_index lm_index (coeVB (coeNV (pd_lst (pda_cons (pd_isE xf hk0 (by decide) hz0 hf0 (pv 3) (by rfl) B.isinstance (by rfl) n_InvalidWindows) (pda_cons (pd_isE xf hk0 (by decide) hz0 hf0 (pv 3) (by rfl) B.isinstance (by rfl) n_InvalidSize) (pda_cons (pd_isE xf hk0 (by decide) hz0 hf0 (pv 3) (by rfl) B.isinstance (by rfl) n_InvalidSizes) pda_nil)))))) (pda_cons pd_bl pda_nil)))))) (pds_one (pds_ret pd_non)))
theorem sc__law_rejected : FnScope ["_law_script", "_law_windows_here", "_law_sizes", "_law_odd", "_law_bad", "_law_wrong", "_law_one", "_law_told"] ["_law_script", "_law_windows_here", "_law_sizes"] (defScope (top 34)) := ⟨rfl, rfl, rfl, by decide +kernel, rfl, by decide +kernel, by decide +kernel⟩
theorem ok__law_rejected {P : Program} {w : World} {K : PySem.W.Frag} {mg : Str → Option Value} {base : Heap} {cls : Exc → Addr} {f : Addr} {fd : FuncData} (B : Bi mg) (F : FunD K "_law_rejected" "_law_rejected" (defArgs (top 34)) (defBody (top 34)) (defScope (top 34)) [] [] f fd) (hx : mg "_law_rejected" = some (.ref f)) (g_are_places : Fn P w K mg base cls 6 "are_places" 3 fD_are_places) (g__law_drawn : Fn P w K mg base cls 1 "_law_drawn" 3 fD__law_drawn) (g__law_badwindows : Fn P w K mg base cls 2 "_law_badwindows" 2 fD__law_badwindows) (g__law_error : Fn P w K mg base cls 9 "_law_error" 3 fD__law_error) :
    Fn P w K mg base cls 10 "_law_rejected" 3 fD__law_rejected := by
  have nd := sc__law_rejected.nd
  refine fn_okD (N := ["_law_script", "_law_windows_here", "_law_sizes", "_law_odd", "_law_bad", "_law_wrong", "_law_one", "_law_told"]) (ps := ["_law_script", "_law_windows_here", "_law_sizes"]) (G := G__law_rejected) F sc__law_rejected hx (F.bindsN fun _ _ _ _ _ _ us hl => match us, hl with | [_, _, _], _ => rfl) fun cdv A outer s H E hr => ?_
  have tk : Takes (cxOf (L2.CX P w) P w K mg base ["_law_script", "_law_windows_here", "_law_sizes", "_law_odd", "_law_bad", "_law_wrong", "_law_one", "_law_told"] "_law_rejected" (defScope (top 34)) f cdv A outer s H E) (fun c d _ H => E c d H) := takes_of rfl rfl rfl rfl
  exact (pds_cons (pds_set (ps_set nd rfl (.inl rfl) (pd_call g__law_badwindows (hr.mono (by decide)) (by rfl) tk (pda_cons (pd_var (pv 0)) (pda_cons pd_int pda_nil))) rfl (.inr rfl))) (pds_cons (pds_set (ps_set nd rfl (.inl rfl) (pd_ix ix_seq os_ix (coeVB (coeNV (pd_lst (pda_cons pd_non (pda_cons (pd_tup pda_nil) (pda_cons (pd_tup (pda_cons pd_int (pda_cons pd_int pda_nil))) (pda_cons (pd_tup (pda_cons pd_int (pda_cons pd_int pda_nil))) (pda_cons (coeNV (pd_lst (pda_cons pd_int (pda_cons pd_int pda_nil)))) (pda_cons (pd_tup (pda_cons pd_int (pda_cons pd_bl pda_nil))) (pda_cons (pd_tup (pda_cons pd_int (pda_cons pd_int (pda_cons pd_int pda_nil)))) (pda_cons pd_str pda_nil))))))))))) (pd_call g__law_drawn (hr.mono (by decide)) (by rfl) tk (pda_cons (pd_var (pv 0)) (pda_cons pd_int (pda_cons pd_int pda_nil)))) (fun _ _ => rfl)) rfl (.inr rfl))) (pds_cons (pds_set (ps_set nd rfl (.inl rfl) (pd_ix ix_seq os_ix (coeVB (coeNV (pd_lst (pda_cons pd_non (pda_cons (pd_tup pda_nil) (pda_cons (pd_tup (pda_cons (pd_tup (pda_cons pd_int (pda_cons pd_int pda_nil))) pda_nil)) (pda_cons (coeNV (pd_lst (pda_cons (pd_var (pv 4)) pda_nil))) (pda_cons (coeNV (pd_op op_rep os_rep (coeVB (coeNV (pd_lst (pda_cons (pd_tup (pda_cons pd_int (pda_cons pd_int pda_nil))) pda_nil)))) pd_int)) pda_nil)))))))) (pd_call g__law_drawn (hr.mono (by decide)) (by rfl) tk (pda_cons (pd_var (pv 0)) (pda_cons pd_int (pda_cons pd_int pda_nil)))) (fun _ _ => rfl)) rfl (.inr rfl))) (pds_cons (pds_for (passes_of rfl) rfl (pdi_seq (pd_tup (pda_cons pd_non (pda_cons (coeNV (pd_lst pda_nil)) (pda_cons (pd_op op_addA os_add (pd_op op_mulA os_mulA (pd_tup (pda_cons (pd_tup (pda_cons pd_int (pda_cons pd_int (pda_cons pd_int (pda_cons pd_int pda_nil))))) pda_nil)) (pd_callB call_len_seq cs_len (by rfl) B.len boot_len (pdb_cons (pb_var (pv 2)) pdb_nil))) (pd_tup (pda_cons (pd_tup (pda_cons pd_int (pda_cons pd_int (pda_cons pd_int (pda_cons pd_int pda_nil))))) pda_nil))) (pda_cons (pd_op op_mulA os_mulA (pd_tup (pda_cons pd_str pda_nil)) (pd_op op_addA os_add (pd_callB call_len_seq cs_len (by rfl) B.len boot_len (pdb_cons (pb_var (pv 2)) pdb_nil)) pd_int)) pda_nil)))))) (pg_nm (pg_name nd rfl (.inl rfl) (.inr rfl))) (pds_one (pds_if (pdt_val (pd_call g_are_places (hr.mono (by decide)) (by rfl) tk (pda_cons (pd_var (pv 1)) (pda_cons (pd_var (pv 2)) (pda_cons (pd_var (pv 6)) pda_nil))))) (pds_one (pds_ret pd_bl)) pds_nil))) (pds_cons (pds_set (ps_set nd rfl (.inl rfl) (coeNV (pd_lst (pda_cons (pd_call g__law_error (hr.mono (by decide)) (by rfl) tk (pda_cons pd_int (pda_cons (pd_var (pv 3)) (pda_cons (pd_var (pv 4)) pda_nil)))) (pda_cons (pd_call g__law_error (hr.mono (by decide)) (by rfl) tk (pda_cons pd_int (pda_cons (pd_var (pv 3)) (pda_cons (pd_var (pv 5)) pda_nil)))) (pda_cons (pd_call g__law_error (hr.mono (by decide)) (by rfl) tk (pda_cons pd_int (pda_cons (pd_var (pv 3)) (pda_cons (pd_var (pv 5)) pda_nil)))) pda_nil))))) rfl (.inr rfl))) (pds_cons (pds_set (ps_set nd rfl (.inl rfl) (coeNV (pd_op op_cat os_cat (pb_var (pv 7)) (coeVB (coeNV (pd_lst (pda_cons (pd_call g__law_error (hr.mono (by decide)) (by rfl) tk (pda_cons pd_int (pda_cons (pd_var (pv 3)) (pda_cons pd_int pda_nil)))) pda_nil)))))) rfl (.inr rfl))) (pds_cons (pds_set (ps_set nd rfl (.inl rfl) (coeNV (pd_op op_cat os_cat (pb_var (pv 7)) (coeVB (coeNV (pd_lst (pda_cons (pd_call g__law_error (hr.mono (by decide)) (by rfl) tk (pda_cons pd_int (pda_cons (pd_var (pv 1)) (pda_cons (pd_var (pv 4)) pda_nil)))) (pda_cons (pd_call g__law_error (hr.mono (by decide)) (by rfl) tk (pda_cons pd_int (pda_cons (pd_var (pv 1)) (pda_cons (pd_var (pv 5)) pda_nil)))) pda_nil))))))) rfl (.inr rfl))) (pds_one (pds_ret (pd_cmp (op_eqD (room64 hr)) (OpSemB.val os_eq) (coeVB (coeNV (pd_op op_cat os_cat (pb_var (pv 7)) (coeVB (coeNV (pd_lst (pda_cons (pd_call g__law_error (hr.mono (by decide)) (by rfl) tk (pda_cons pd_int (pda_cons (pd_var (pv 1)) (pda_cons (pd_var (pv 5)) pda_nil)))) pda_nil))))))) (coeVB (coeNV (pd_op op_cat os_cat (coeVB (coeNV (pd_op op_rep os_rep (coeVB (coeNV (pd_lst (pda_cons pd_int pda_nil)))) pd_int))) (coeVB (coeNV (pd_lst (pda_cons pd_int (pda_cons pd_int (pda_cons pd_int pda_nil))))))))) rfl))))))))))
theorem sc_law : FnScope ["_law_script", "_law_windows_here", "_law_found", "_law_sizes", "_law_told", "_law_rows", "_law_drawn_here", "_law_shape", "_law_other", "_law_k", "_law_one", "_law_place", "_law_row"] ["_law_script"] (defScope (top 35)) := ⟨rfl, rfl, rfl, by decide +kernel, rfl, by decide +kernel, by decide +kernel⟩
theorem ok_law {P : Program} {w : World} {K : PySem.W.Frag} {mg : Str → Option Value} {base : Heap} {cls : Exc → Addr} {f : Addr} {fd : FuncData} (B : Bi mg) (F : FunD K "law" "law" (defArgs (top 35)) (defBody (top 35)) (defScope (top 35)) [] [] f fd)  (g_places : Fn P w K mg base cls 5 "places" 2 fD_places) (g_place_all : Fn P w K mg base cls 8 "place_all" 2 fD_place_all) (g_are_places : Fn P w K mg base cls 6 "are_places" 3 fD_are_places) (g__law_drawn : Fn P w K mg base cls 1 "_law_drawn" 3 fD__law_drawn) (g__law_windows : Fn P w K mg base cls 3 "_law_windows" 3 fD__law_windows) (g__law_places : Fn P w K mg base cls 2 "_law_places" 2 fD__law_places) (g__law_good : Fn P w K mg base cls 2 "_law_good" 3 fD__law_good) (g__law_rejected : Fn P w K mg base cls 10 "_law_rejected" 3 fD__law_rejected) :
    FnOk P w K mg base (L2.CX P w) 11 f fd ["_law_script"] (spD K cls 1 fD_law) := by
  have nd := sc_law.nd
  refine fn_okD0 (N := ["_law_script", "_law_windows_here", "_law_found", "_law_sizes", "_law_told", "_law_rows", "_law_drawn_here", "_law_shape", "_law_other", "_law_k", "_law_one", "_law_place", "_law_row"]) (ps := ["_law_script"]) (G := G_law) F sc_law fun cdv A outer s H E hr => ?_
  have tk : Takes (cxOf (L2.CX P w) P w K mg base ["_law_script", "_law_windows_here", "_law_found", "_law_sizes", "_law_told", "_law_rows", "_law_drawn_here", "_law_shape", "_law_other", "_law_k", "_law_one", "_law_place", "_law_row"] "law" (defScope (top 35)) f cdv A outer s H E) (fun c d _ H => E c d H) := takes_of rfl rfl rfl rfl
  exact (pds_cons (pds_set (ps_set nd rfl (.inr rfl) (pd_call g__law_windows (hr.mono (by decide)) (by rfl) tk (pda_cons (pd_var (pv 0)) (pda_cons pd_int (pda_cons pd_int pda_nil)))) rfl (.inl rfl))) (pds_cons (pds_if (pdt_cmp (op_eqD (room64 hr)) os_eq (coeVB (pd_call g__law_drawn (hr.mono (by decide)) (by rfl) tk (pda_cons (pd_var (pv 0)) (pda_cons pd_int (pda_cons pd_int pda_nil))))) (coeVB pd_int) rfl) (pds_one (pds_set (ps_set nd rfl (.inr rfl) (pd_op op_addA os_add (pd_slice (pb_var (pv 1)) pdo_none (pdo_some pd_int)) (pd_tup (pda_cons (pd_tup (pda_cons pd_int (pda_cons pd_int (pda_cons pd_int (pda_cons pd_int pda_nil))))) (pda_cons (pd_tup (pda_cons pd_int (pda_cons pd_int (pda_cons pd_int (pda_cons pd_int pda_nil))))) pda_nil)))) rfl (.inl rfl)))) pds_nil) (pds_cons (pds_unp (ps_asg (coeNV (pd_lc (own := [("_law_k", 9)]) rfl nd  (pdi_seq (pd_tup (pda_cons pd_int (pda_cons pd_int pda_nil)))) (blk_of (N' := ["_law_script", "_law_windows_here", "_law_found", "_law_sizes", "_law_told", "_law_rows", "_law_drawn_here", "_law_shape", "_law_other", "_law_k", "_law_one", "_law_place", "_law_row"]) (sc := (defScope (top 35))) rfl rfl rfl (by decide +kernel)) (fun _ _ _ _ _ => (pg_nm (pg_name nd rfl (.inl rfl) (.inr rfl)))) (fun _ _ _ _ _ => pts_yes) (fun _ _ _ _ _ => (pd_tup (pda_cons (pd_op op_addA os_add pd_int (pd_call g__law_drawn (hr.mono (by decide)) (by rfl) takes0 (pda_cons (pd_var (pv 0)) (pda_cons (pd_op op_addA os_add pd_int (pd_var (pv 9))) (pda_cons pd_int pda_nil))))) (pda_cons (pd_op op_addA os_add pd_int (pd_call g__law_drawn (hr.mono (by decide)) (by rfl) takes0 (pda_cons (pd_var (pv 0)) (pda_cons (pd_op op_addA os_add pd_int (pd_var (pv 9))) (pda_cons pd_int pda_nil))))) pda_nil)))) rfl)) (pg_tp rfl (pgn_cons (pg_name nd rfl (.inl rfl) (.inr rfl)) (pgn_cons (pg_name nd rfl (.inl rfl) (.inr rfl)) pgn_nil))))) (pds_cons (pds_set (ps_set nd rfl (.inl rfl) (pd_call g__law_places (hr.mono (by decide)) (by rfl) tk (pda_cons (pd_var (pv 1)) (pda_cons (pd_var (pv 7)) pda_nil))) rfl (.inr rfl))) (pds_cons (pds_if (pdt_cmp (op_neD (room64 hr)) os_ne (coeVB (pd_call g_places (hr.mono (by decide)) (by rfl) tk (pda_cons (pd_var (pv 1)) (pda_cons (pd_var (pv 7)) pda_nil)))) (pb_var (pv 2)) rfl) (pds_one (pds_ret pd_bl)) pds_nil) (pds_cons (pds_set (ps_set nd rfl (.inl rfl) (pd_slice (coeVB (coeNV (pd_lst (pda_cons (pd_var (pv 7)) (pda_cons (pd_var (pv 8)) (pda_cons (pd_var (pv 7)) pda_nil)))))) pdo_none (pdo_some (pd_call g__law_drawn (hr.mono (by decide)) (by rfl) tk (pda_cons (pd_var (pv 0)) (pda_cons pd_int (pda_cons pd_int pda_nil)))))) rfl (.inr rfl))) (pds_cons (pds_set (ps_set nd rfl (.inl rfl) (pd_call g_place_all (hr.mono (by decide)) (by rfl) tk (pda_cons (pd_var (pv 1)) (pda_cons (pd_var (pv 3)) pda_nil))) rfl (.inr rfl))) (pds_cons (pds_if (pdt_cmp op_notN os_notN (pb_var (pv 4)) pd_non rfl) (pds_one (pds_if (pdt_w (pdw_or (pdt_not (pdt_val (pd_call g__law_good (hr.mono (by decide)) (by rfl) tk (pda_cons (pd_var (pv 1)) (pda_cons (pd_var (pv 3)) (pda_cons (pd_var (pv 4)) pda_nil)))))) (pdw_or1 (pdt_cmp op_notBl os_notB (pd_call g_are_places (hr.mono (by decide)) (by rfl) tk (pda_cons (pd_var (pv 1)) (pda_cons (pd_var (pv 3)) (pda_cons (pd_var (pv 4)) pda_nil)))) pd_bl rfl)))) (pds_one (pds_ret pd_bl)) pds_nil)) (pds_one (pds_if (pdt_w (pdw_and (pdt_cmp (op_eqD (room64 hr)) os_eq (coeVB (pd_callB call_len_seq cs_len (by rfl) B.len boot_len (pdb_cons (pb_var (pv 3)) pdb_nil))) (coeVB pd_int) rfl) (pdw_and1 (pdt_cmp (op_neD (room64 hr)) os_ne (pb_var (pv 2)) (coeVB (coeNV (pd_lst pda_nil))) rfl)))) (pds_one (pds_ret pd_bl)) (pds_one (pds_if (pdt_cmp (op_eqD (room64 hr)) os_eq (coeVB (pd_callB call_len_seq cs_len (by rfl) B.len boot_len (pdb_cons (pb_var (pv 3)) pdb_nil))) (coeVB pd_int) rfl) (pds_one (pds_for (passes_of rfl) rfl (pdi_seq (pd_var (pv 2))) (pg_nm (pg_name nd rfl (.inl rfl) (.inr rfl))) (pds_one (pds_if (pdt_cmp (op_neD (room64 hr)) os_ne (coeVB (pd_call g__law_places (hr.mono (by decide)) (by rfl) tk (pda_cons (pd_op op_addA os_add (pd_var (pv 1)) (pd_tup (pda_cons (pd_var (pv 11)) pda_nil))) (pda_cons (pd_var (pv 8)) pda_nil)))) (coeVB (coeNV (pd_lst pda_nil))) rfl) (pds_one (pds_ret pd_bl)) pds_nil)))) pds_nil))))) (pds_cons (pds_set (asgNV (pds_setLc (own := [("_law_one", 10)]) rfl nd (i := 5) rfl rfl rfl (pdi_seq (pd_var (pv 3))) (blk_of (N' := ["_law_script", "_law_windows_here", "_law_found", "_law_sizes", "_law_told", "_law_rows", "_law_drawn_here", "_law_shape", "_law_other", "_law_k", "_law_one", "_law_place", "_law_row"]) (sc := (defScope (top 35))) rfl rfl rfl (by decide +kernel)) (fun _ _ _ _ _ => (pg_nm (pg_name nd rfl (.inl rfl) (.inr rfl)))) (fun _ _ _ _ _ => pts_yes) (fun _ _ _ _ _ => (pd_slice (coeVB (pd_call g__law_places (hr.mono (by decide)) (by rfl) takes0 (pda_cons (pd_var (pv 1)) (pda_cons (pd_var (pv 10)) pda_nil)))) pdo_none (pdo_some pd_int))) rfl))) (pds_cons (pds_set (ps_set nd rfl (.inl rfl) (pd_callTy call_tuple_of cs_tuple (by rfl) B.tuple boot_tuple (pdb_cons (coeVB (coeNV (pd_lc (own := [("_law_row", 12)]) rfl nd  (pdi_seq (pd_var (pv 5))) (blk_of (N' := ["_law_script", "_law_windows_here", "_law_found", "_law_sizes", "_law_told", "_law_rows", "_law_drawn_here", "_law_shape", "_law_other", "_law_k", "_law_one", "_law_place", "_law_row"]) (sc := (defScope (top 35))) rfl rfl rfl (by decide +kernel)) (fun _ _ _ _ _ => (pg_nm (pg_name nd rfl (.inl rfl) (.inr rfl)))) (fun _ _ _ _ _ => pts_yes) (fun _ _ _ _ _ => (pd_if (pdt_cmp (op_neD (room64 hr)) os_ne (pb_var (pv 12)) (coeVB (coeNV (pd_lst pda_nil))) rfl) (pd_ix ix_seq os_ix (pb_var (pv 12)) pd_int (fun _ _ => rfl)) (pd_tup (pda_cons pd_int (pda_cons pd_int (pda_cons pd_int (pda_cons pd_int pda_nil))))))) rfl))) pdb_nil)) rfl (.inr rfl))) (pds_cons (pds_if (pdt_cmp (op_neD (room64 hr)) os_ne (coeVB (pd_call g_are_places (hr.mono (by decide)) (by rfl) tk (pda_cons (pd_var (pv 1)) (pda_cons (pd_var (pv 3)) (pda_cons (pd_var (pv 6)) pda_nil))))) (coeVB (pd_call g__law_good (hr.mono (by decide)) (by rfl) tk (pda_cons (pd_var (pv 1)) (pda_cons (pd_var (pv 3)) (pda_cons (pd_var (pv 6)) pda_nil))))) rfl) (pds_one (pds_ret pd_bl)) pds_nil) (pds_one (pds_ret (pd_call g__law_rejected (hr.mono (by decide)) (by rfl) tk (pda_cons (pd_var (pv 0)) (pda_cons (pd_var (pv 1)) (pda_cons (pd_var (pv 3)) pda_nil)))))))))))))))))
end PD

set_option maxHeartbeats 0
namespace Hd
open PySem PySem.Spec PyProof.Rows L2 PD
def mk (x : Str) (s : Stmt) : He.DefD := ⟨(x, none), x, x, defArgs s, defBody s, defScope s, [], []⟩
def fn : List He.DefD := [mk "is_int" (top 8), mk "is_window" (top 9), mk "are_windows" (top 10), mk "check_windows" (top 11), mk "find_overlap" (top 12), mk "is_size" (top 15), mk "is_free" (top 16), mk "all_places" (top 17), mk "find_places" (top 18), mk "places" (top 19), mk "check_sizes" (top 20), mk "find_all" (top 21), mk "place_all" (top 22), mk "are_places" (top 23), mk "largest_free" (top 24), mk "_law_drawn" (top 26), mk "_law_window" (top 27), mk "_law_windows" (top 28), mk "_law_meet" (top 29), mk "_law_badwindows" (top 30), mk "_law_error" (top 31), mk "_law_places" (top 32), mk "_law_good" (top 33), mk "_law_rejected" (top 34), mk "law" (top 35)]
def fa : List He.Fa := [.glo "PaneError", .glo "InvalidWindows", .exc "InvalidWindows", .glo "InvalidSize", .exc "InvalidSize", .glo "InvalidSizes", .exc "InvalidSizes", .int "SCREEN" 12, .int "MAX_WINDOWS" 6, .glo "is_int", .glo "is_window", .glo "are_windows", .glo "check_windows", .glo "find_overlap", .int "MAX_SIZES" 3, .glo "is_size", .glo "is_free", .glo "all_places", .glo "find_places", .glo "places", .glo "check_sizes", .glo "find_all", .glo "place_all", .glo "are_places", .glo "largest_free", .glo "_law_drawn", .glo "_law_window", .glo "_law_windows", .glo "_law_meet", .glo "_law_badwindows", .glo "_law_error", .glo "_law_places", .glo "_law_good", .glo "_law_rejected", .glo "law", .free "len", .free "all", .free "any", .free "isinstance", .free "tuple", .free "list", .free "range", .free "sorted", .free "enumerate", .free "max", .free "min", .free "set", .free "dict", .free "zip", .free "bool", .free "int", .free "abs", .free "sum", .free "str"]
def nm0 : List PySem.Str := ["PaneError", "InvalidWindows", "InvalidSize", "InvalidSizes", "SCREEN", "MAX_WINDOWS", "is_int", "is_window", "are_windows", "check_windows", "find_overlap", "MAX_SIZES", "is_size", "is_free", "all_places", "find_places", "places", "check_sizes", "find_all", "place_all"]
def nm1 : List PySem.Str := ["are_places", "largest_free", "_law_drawn", "_law_window", "_law_windows", "_law_meet", "_law_badwindows", "_law_error", "_law_places", "_law_good", "_law_rejected"]
def nms : List PySem.Str := nm0 ++ nm1
abbrev R : PySem.W.OpenRow := PySem.W.OpenLaw.row PySem.Challenge.rw_panestacks_k56_placing
abbrev hk : PySem.W.Hook := hookE 5 fa fn (excOk exsA)
def ob (s : PySem.W.SharedT) : He.AlD × Bool := obsE 5 fa fn (excOk exsA) (HandSHeadRun.getT s)
theorem ob_eq (s : PySem.W.SharedT) : ob s = hk.obs s.abs := obsE_eq (HandSHeadRun.getT_eq s)
theorem run (w : World) : HandSHeadRun.RunEq R (PySem.W.view R.prog [35]) hk ob 4000 nms w := by
  intro os
  kernel_rfl
end Hd

set_option maxHeartbeats 4000000
namespace PD
open PySem PySem.Spec PyProof.Rows L2
/-! ### windows -/
structure Win where
  l : Int
  t : Int
  r : Int
  b : Int
  deriving DecidableEq
def win (w : Win) : D := .tup [.int w.l, .int w.t, .int w.r, .int w.b]
def wins (ws : List Win) : D := .tup (ws.map win)
def natsT (ns : List Nat) : D := .tup (ns.map nD)
def cellD (c : Int × Int) : D := .tup [.int c.1, .int c.2]
def Win.Ok (w : Win) : Prop := 0 ≤ w.l ∧ w.l < w.r ∧ w.r ≤ 12 ∧ 0 ≤ w.t ∧ w.t < w.b ∧ w.b ≤ 12
def inW (w : Win) (x y : Int) : Bool := decide (w.l ≤ x) && decide (x < w.r) && (decide (w.t ≤ y) && decide (y < w.b))
def w0 : Win := ⟨0, 0, 0, 0⟩
/-- the window of a number -/
def wAt (ws : List Win) (i : Nat) : Win := ws.getD i w0
def region (ws : List Win) (x y : Int) : List Nat := (List.range ws.length).filter fun i => inW (wAt ws i) x y
/-- windows that are windows -/
structure Wins (ws : List Win) : Prop where
  ok : ∀ w ∈ ws, w.Ok
  le : ws.length ≤ 6
theorem win_inj {a b : Win} (h : win a = win b) : a = b := by
  cases a; cases b
  simp [win] at h
  simp [h]
theorem cell_inj {a b : Int × Int} (h : cellD a = cellD b) : a = b := by
  cases a; cases b
  simp [cellD] at h
  simp [h]
@[simp] theorem pl_win (w : Win) : plD 1 (win w) = true := by simp [win, plD, plDs]
@[simp] theorem pl_cell (c : Int × Int) : plD 1 (cellD c) = true := by simp [cellD, plD, plDs]
theorem pl_cells (cs : List (Int × Int)) : plD 2 (.lst (cs.map cellD)) = true := pl_lst fun d hd => by
  obtain ⟨c, _, rfl⟩ := List.mem_map.mp hd; simp
theorem pl_nats (ns : List Nat) : plD 1 (.lst (ns.map nD)) = true := pl_lst fun d hd => by
  obtain ⟨c, _, rfl⟩ := List.mem_map.mp hd; simp
theorem pl_natsT (ns : List Nat) : plD 1 (natsT ns) = true := pl_tup fun d hd => by
  obtain ⟨c, _, rfl⟩ := List.mem_map.mp hd; simp
@[simp] theorem nraw_win (w : Win) : noRaw (win w) = true := nr rfl
@[simp] theorem isNon_win (w : Win) : isNon (win w) = false := nr rfl
theorem s_is_int (v a b : Int) : fD_is_int [.int v, .int a, .int b] = .ok (.bl (decide (a ≤ v) && decide (v ≤ b))) := by
  simp [fD_is_int, G_is_int]
theorem s_is_window {w : Win} (h : w.Ok) : fD_is_window [win w] = .ok (.bl true) := by
  obtain ⟨h1, h2, h3, h4, h5, h6⟩ := h
  have e : lcL (.nm 1) [1] yesF (callF fD_is_int (consF (getV 1) (consF (cst (.int 0)) (consF (cst (.int 12)) nilF)))) [.int w.l, .int w.t, .int w.r, .int w.b] [.val (win w), .no] = .ok ([w.l, w.t, w.r, w.b].map fun v => .bl (decide (0 ≤ v) && decide (v ≤ 12))) :=
    lcL_all (enc := D.int) (xs := [w.l, w.t, w.r, w.b]) (fun v => .bl (decide (0 ≤ v) && decide (v ≤ 12))) fun v _ => ⟨_, rfl, by simp [s_is_int]⟩
  have a : allD [.lst ([w.l, w.t, w.r, w.b].map fun v => .bl (decide (0 ≤ v) && decide (v ≤ 12)))] = some (.bl true) := by
    rw [all_map]; simp; omega
  simp [fD_is_window, G_is_window, win] at *
  simp [e, a, h2, h5]
theorem s_are_windows {ws : List Win} (h : Wins ws) : fD_are_windows [wins ws] = .ok (.bl true) := by
  have e : lcL (.nm 1) [1] yesF (callF fD_is_window (consF (getV 1) nilF)) (ws.map win) [.val (wins ws), .no] = .ok (ws.map fun w => .bl true) :=
    lcL_all (fun _ => .bl true) fun w hw => ⟨_, rfl, by simp [s_is_window (h.ok w hw)]⟩
  have a : allD [.lst (ws.map fun _ => .bl true)] = some (.bl true) := by
    rw [all_map (fun _ => true)]; simp
  have l : ¬ (6 : Int) < ws.length := by have := h.le; omega
  simp [fD_are_windows, G_are_windows, wins] at *
  simp [e, a, l]
theorem s_check_windows {ws : List Win} (h : Wins ws) : fD_check_windows [wins ws] = .ok .non := by
  simp [fD_check_windows, G_check_windows, s_are_windows h]
/-- an order of n windows -/
def IsOrd (n : Nat) (os : List Nat) : Prop := os.Perm (List.range n)
instance (n : Nat) (os : List Nat) : Decidable (IsOrd n os) := inferInstanceAs (Decidable (os.Perm (List.range n)))
theorem IsOrd.lt {n : Nat} {os : List Nat} (h : IsOrd n os) {i : Nat} (hi : i ∈ os) : i < n := List.mem_range.mp (h.mem_iff.mp hi)
/-! ### cells -/
@[irreducible] def grid : List (Int × Int) := (List.range 12).flatMap fun x => (List.range 12).map fun y => (((x : Nat) : Int), ((y : Nat) : Int))
def ltC (a b : Int × Int) : Prop := a.1 < b.1 ∨ (a.1 = b.1 ∧ a.2 < b.2)
/-- cells in rows, strictly ascending -/
theorem box_pair (x0 y0 : Int) (m n : Nat) : ((List.range m).flatMap fun i => (List.range n).map fun j => (x0 + ((i : Nat) : Int), y0 + ((j : Nat) : Int))).Pairwise ltC := by
  rw [List.pairwise_flatMap]
  refine ⟨fun i _ => range_pair fun a b h _ => .inr ⟨rfl, by show y0 + (a : Int) < y0 + (b : Int); omega⟩, ?_⟩
  refine List.pairwise_iff_getElem.mpr fun i j hi hj hij => ?_
  simp only [List.getElem_range]
  intro a ha b hb
  obtain ⟨u, _, rfl⟩ := List.mem_map.mp ha
  obtain ⟨v, _, rfl⟩ := List.mem_map.mp hb
  exact .inl (by show x0 + (i : Int) < x0 + (j : Int); omega)
theorem box_mem {x0 y0 : Int} {m n : Nat} {c : Int × Int} : c ∈ ((List.range m).flatMap fun i => (List.range n).map fun j => (x0 + ((i : Nat) : Int), y0 + ((j : Nat) : Int))) ↔ x0 ≤ c.1 ∧ c.1 < x0 + m ∧ y0 ≤ c.2 ∧ c.2 < y0 + n := by
  simp only [List.mem_flatMap, List.mem_range, List.mem_map]
  constructor
  · rintro ⟨i, hi, j, hj, rfl⟩
    dsimp only
    omega
  · intro h
    refine ⟨(c.1 - x0).toNat, by omega, (c.2 - y0).toNat, by omega, ?_⟩
    cases c
    dsimp only at h ⊢
    congr 1 <;> omega
theorem grid_eq : grid = (List.range 12).flatMap fun x => (List.range 12).map fun y => (((x : Nat) : Int), ((y : Nat) : Int)) := by unfold grid; rfl
theorem grid_box : grid = (List.range 12).flatMap fun i => (List.range 12).map fun j => ((0 : Int) + ((i : Nat) : Int), (0 : Int) + ((j : Nat) : Int)) := by
  unfold grid
  simp
theorem grid_pair : grid.Pairwise ltC := by rw [grid_box]; exact box_pair 0 0 12 12
theorem grid_mem {c : Int × Int} : c ∈ grid ↔ 0 ≤ c.1 ∧ c.1 < 12 ∧ 0 ≤ c.2 ∧ c.2 < 12 := by rw [grid_box, box_mem]; simp
theorem ltC_irrefl (a : Int × Int) : ¬ ltC a a := by unfold ltC; omega
theorem ltC_anti {a b : Int × Int} (h : ltC a b) : ¬ ltC b a := by unfold ltC at *; omega
theorem nodup_of_ltC {l : List (Int × Int)} (h : l.Pairwise ltC) : l.Nodup := List.Pairwise.imp (fun {a b} (h : ltC a b) (e : a = b) => ltC_irrefl a (by rw [← e] at h; exact h)) h
/-- two strictly ascending lists of the same cells -/
theorem cells_eq {l m : List (Int × Int)} (hl : l.Pairwise ltC) (hm : m.Pairwise ltC) (h : ∀ c, c ∈ l ↔ c ∈ m) : l = m :=
  List.Perm.eq_of_pairwise (le := ltC) (fun a b _ _ h1 h2 => absurd h2 (ltC_anti h1)) hl hm ((List.perm_ext_iff_of_nodup (nodup_of_ltC hl) (nodup_of_ltC hm)).mpr h)
theorem grid_len : grid.length = 144 := by rw [grid_box]; rfl
/-- the cells of a window -/
@[irreducible] def cellsW (w : Win) : List (Int × Int) := grid.filter fun c => inW w c.1 c.2
theorem cellsW_eq (w : Win) : cellsW w = grid.filter fun c => inW w c.1 c.2 := by unfold cellsW; rfl
theorem cellsW_pair (w : Win) : (cellsW w).Pairwise ltC := by rw [cellsW_eq]; exact grid_pair.filter _
theorem cellsW_le (w : Win) : (cellsW w).length ≤ 144 := by
  rw [cellsW_eq, ← grid_len]; exact List.length_filter_le _ _
theorem inW_iff {w : Win} {x y : Int} : inW w x y = true ↔ w.l ≤ x ∧ x < w.r ∧ w.t ≤ y ∧ y < w.b := by
  simp [inW, and_assoc]
theorem cellsW_mem {w : Win} {c : Int × Int} (h : w.Ok) : c ∈ cellsW w ↔ w.l ≤ c.1 ∧ c.1 < w.r ∧ w.t ≤ c.2 ∧ c.2 < w.b := by
  obtain ⟨h1, h2, h3, h4, h5, h6⟩ := h
  rw [cellsW_eq, List.mem_filter, grid_mem, inW_iff]
  omega
theorem cellsW_box {w : Win} (h : w.Ok) : ((List.range (w.r - w.l).toNat).flatMap fun i => (List.range (w.b - w.t).toNat).map fun j => (w.l + ((i : Nat) : Int), w.t + ((j : Nat) : Int))) = cellsW w := by
  refine cells_eq (box_pair _ _ _ _) (cellsW_pair w) fun c => ?_
  rw [box_mem, cellsW_mem h]
  obtain ⟨h1, h2, h3, h4, h5, h6⟩ := h
  omega
@[simp] theorem u_lc2 (p : Pat) (vs : List Nat) (t : EnvD → R Bool) (src1 : EnvD → R (List D)) (p1 : Pat) (vs1 : List Nat) (t1 : EnvD → R Bool) (f : EnvD → R D) (src : EnvD → R (List D)) (env : EnvD) : lc2F p vs t src1 p1 vs1 t1 f src env = (src env).bind fun ds => match lc2L p vs t src1 p1 vs1 t1 f ds env with
  | .ok T => if small T.length = true then .ok T else .bad
  | _ => .bad := nr rfl
/-! ### regions, tops -/
@[simp] theorem asSeq_wins (ws : List Win) : asSeq (wins ws) = some (ws.map win) := nr rfl
@[simp] theorem asSeq_natsT (ns : List Nat) : asSeq (natsT ns) = some (ns.map nD) := nr rfl
theorem getD_mem {ws : List Win} {i : Nat} (h : i < ws.length) : wAt ws i ∈ ws := by
  unfold wAt
  rw [List.getD_eq_getElem?_getD, List.getElem?_eq_getElem h]
  exact List.getElem_mem h
/-- the top of a cell -/
def topW (ws : List Win) (os : List Nat) (x y : Int) : Option Nat := (os.filter fun i => inW (wAt ws i) x y).getLast?
theorem top_region {ws : List Win} {os : List Nat} (h : IsOrd ws.length os) (x y : Int) : (os.filter (· ∈ region ws x y)).getLast? = topW ws os x y := by
  unfold topW
  congr 1
  apply List.filter_congr
  intro i hi
  rw [Bool.eq_iff_iff]
  simp [region, h.lt hi]
/-! ### all cells -/
def covd (ws : List Win) (c : Int × Int) : Bool := ws.any fun w => inW w c.1 c.2
@[irreducible] def allC (ws : List Win) : List (Int × Int) := grid.filter (covd ws)
theorem allC_eq (ws : List Win) : allC ws = grid.filter (covd ws) := by unfold allC; rfl
def addC (ks : List (Int × Int)) (c : Int × Int) : List (Int × Int) := if c ∈ ks then ks else ks ++ [c]
theorem dPutV_bl (c : Int × Int) : ∀ ks : List (Int × Int), dPutV (ks.map cellD) (ks.map fun _ => .bl true) (cellD c) (.bl true) = ks.map fun _ => .bl true
  | [] => rfl
  | k :: ks => by simp [dPutV, dPutV_bl c ks]
theorem addC_nodup {ks : List (Int × Int)} {c : Int × Int} (h : ks.Nodup) : (addC ks c).Nodup := by
  unfold addC
  split
  · exact h
  · rename_i q
    rw [List.nodup_append]
    exact ⟨h, by simp, fun a ha b hb e => by simp at hb; subst hb; subst e; exact q ha⟩
theorem addC_mem {ks : List (Int × Int)} {c d : Int × Int} : d ∈ addC ks c ↔ d ∈ ks ∨ d = c := by
  unfold addC
  split
  · rename_i q
    constructor
    · exact .inl
    · rintro (h | h)
      · exact h
      · rw [h]; exact q
  · simp
theorem addC_len (ks : List (Int × Int)) (c : Int × Int) : (addC ks c).length ≤ ks.length + 1 := by
  unfold addC; split <;> simp
def dsC (ks : List (Int × Int)) : Sl := .ownd true (ks.map cellD) (ks.map fun _ => .bl true)
/-! ### overlaps, sizes -/
def ovW (a b : Win) : Win := ⟨max a.l b.l, max a.t b.t, min a.r b.r, min a.b b.b⟩
def hasOv (a b : Win) : Bool := decide ((ovW a b).l < (ovW a b).r) && decide ((ovW a b).t < (ovW a b).b)
theorem s_find_overlap (a b : Win) : fD_find_overlap [win a, win b] = .ok (if hasOv a b = true then win (ovW a b) else .non) := by
  have q : hasOv a b = (decide (max a.l b.l < min a.r b.r) && decide (max a.t b.t < min a.b b.b)) := rfl
  rw [q]
  simp only [win, ovW]
  simp only [fD_find_overlap, G_find_overlap, e_fn, List.length_cons, List.length_nil, Nat.reduceAdd, if_true, List.map_cons, List.map_nil, List.cons_append, List.nil_append, Nat.reduceSub, List.replicate_succ, List.replicate_zero, e_seq, u_set, u_tup, u_cons, u_appL, u_bin, e_getB0, e_getBs, e_bind, u_cst, ix_0, ix_1, ix_2, ix_3, e_some, u_nil, e_map, u_max, u_min, small_4, e_bindS, e_set0, e_setS, e_seqN, u_ret, u_ifF, u_andF, u_cmpI]
  generalize max a.l b.l = l
  generalize max a.t b.t = t
  generalize min a.r b.r = r
  generalize min a.b b.b = b'
  by_cases h1 : l < r <;> by_cases h2 : t < b' <;> simp [h1, h2]
/-! ### what the laws draw -/
theorem neD_scr (ns : List Int) : neD (.scr ns) (.lst []) = some (!decide (ns = [])) := by
  have h : SeqAt.shaped (D.scr ns).toPy = true := by
    unfold SeqAt.shaped
    simp only [D.toPy, PyData.canLay0, PyData.depth, lay_ints, dep_ints]
    rfl
  have h2 : SeqAt.shaped (D.lst []).toPy = true := rfl
  unfold neD eqD
  rw [h, h2]
  cases ns <;> simp [D.toPy, toPys, PyData.eqv, PyData.eqvAll]
theorem ix_scr {ns : List Int} {i : Int} (h0 : 0 ≤ i) (h1 : i < ns.length) : ∃ c, ixD (.scr ns) (.int i) = some (.int c) := by
  obtain ⟨n, rfl⟩ : ∃ n : Nat, i = n := ⟨i.toNat, by omega⟩
  have hl : n < ns.length := by omega
  refine ⟨ns[n], ?_⟩
  show (atI ns (n : Int)).map D.int = _
  unfold atI ixN
  rw [if_pos (by omega), Int.toNat_natCast, if_pos (by omega)]
  simp [hl]
theorem pow_e : powD (.int 10) (.int 18) = some (.int 1000000000000000000) := rfl
/-! ### windows that overlap, counts -/
theorem inW_ov (a b : Win) (x y : Int) : (inW a x y && inW b x y) = inW (ovW a b) x y := by
  rw [Bool.eq_iff_iff, Bool.and_eq_true, inW_iff, inW_iff, inW_iff]
  unfold ovW
  dsimp only
  omega
theorem hasOv_iff {a b : Win} : hasOv a b = true ↔ max a.l b.l < min a.r b.r ∧ max a.t b.t < min a.b b.b := by
  have q : hasOv a b = (decide (max a.l b.l < min a.r b.r) && decide (max a.t b.t < min a.b b.b)) := rfl
  rw [q, Bool.and_eq_true, decide_eq_true_eq, decide_eq_true_eq]
theorem ov_ok {a b : Win} (ha : a.Ok) (hb : b.Ok) (h : hasOv a b = true) : (ovW a b).Ok := by
  rw [hasOv_iff] at h
  unfold Win.Ok ovW at *
  dsimp only
  omega
theorem no_ov {a b : Win} (h : ¬ hasOv a b = true) (x y : Int) : inW (ovW a b) x y = false := by
  rw [hasOv_iff] at h
  cases q : inW (ovW a b) x y
  · rfl
  · rw [inW_iff] at q
    unfold ovW at q
    dsimp only at q
    omega
theorem ov_self {w : Win} (h : w.Ok) : hasOv w w = true ∧ ovW w w = w := by
  refine ⟨?_, ?_⟩
  · rw [hasOv_iff]; unfold Win.Ok at h; omega
  · cases w; simp [ovW]
theorem cellsW_ne {w : Win} (h : w.Ok) : cellsW w ≠ [] := fun e => by
  have m : ((w.l, w.t) : Int × Int) ∈ cellsW w := by
    rw [cellsW_mem h]
    unfold Win.Ok at h
    dsimp only
    omega
  rw [e] at m
  cases m
theorem len_const {α β : Type} (n : Nat) : ∀ (xs : List α) (f : α → List β), (∀ x ∈ xs, (f x).length = n) → (xs.flatMap f).length = xs.length * n
  | [], _, _ => by simp
  | x :: xs, f, h => by
    rw [List.flatMap_cons, List.length_append, h x (by simp), len_const n xs f fun y hy => h y (by simp [hy]), List.length_cons, Nat.add_mul]
    omega
theorem cellsW_len {w : Win} (h : w.Ok) : ((cellsW w).length : Int) = (w.r - w.l) * (w.b - w.t) := by
  rw [← cellsW_box h, len_const (w.b - w.t).toNat _ _ fun i _ => by simp, List.length_range]
  unfold Win.Ok at h
  rw [Int.natCast_mul, Int.toNat_of_nonneg (by omega), Int.toNat_of_nonneg (by omega)]
theorem top_some {ws : List Win} {os : List Nat} (h : IsOrd ws.length os) (c : Int × Int) : (topW ws os c.1 c.2).isSome = covd ws c := by
  rw [Bool.eq_iff_iff]
  unfold topW covd
  rw [List.any_eq_true]
  constructor
  · intro q
    obtain ⟨i, hi⟩ := Option.isSome_iff_exists.mp q
    have m := List.mem_of_getLast? hi
    rw [List.mem_filter] at m
    exact ⟨wAt ws i, getD_mem (h.lt m.1), m.2⟩
  · rintro ⟨w, hw, hc⟩
    obtain ⟨i, hi, rfl⟩ := List.mem_iff_getElem.mp hw
    have e : wAt ws i = ws[i] := by
      unfold wAt
      rw [List.getD_eq_getElem?_getD, List.getElem?_eq_getElem hi]; rfl
    have m : i ∈ os.filter fun i => inW (wAt ws i) c.1 c.2 := by
      rw [List.mem_filter]
      exact ⟨h.mem_iff.mpr (List.mem_range.mpr hi), by rw [e]; exact hc⟩
    cases q : (os.filter fun i => inW (wAt ws i) c.1 c.2).getLast? with
    | some j => rfl
    | none => rw [List.getLast?_eq_none_iff] at q; rw [q] at m; cases m

theorem ix_winsB {ws : List Win} {i : Nat} (h : i < ws.length) : ixD (wins ws) (nD i) = some (win (wAt ws i)) := by
  refine (ix_nat (xs := ws.map win) ?_).1
  unfold wAt
  rw [List.getElem?_map, List.getElem?_eq_getElem h, List.getD_eq_getElem?_getD, List.getElem?_eq_getElem h]
  rfl
theorem eqD_opt (o : Option Nat) (i : Nat) : eqD (optD o) (nD i) = some (decide (o = some i)) := eqD_of (pl_64 (pl_opt 0 o)) (pl_64 (pl_nat 0 i)) (by
  cases o with
  | none => simp [optD, nD]
  | some j => simp only [optD, nD, D.int.injEq, Option.some.injEq]; exact cast_eq j i)
theorem neD_opt (o : Option Nat) (i : Nat) : neD (optD o) (nD i) = some (!decide (o = some i)) := by unfold neD; rw [eqD_opt]; rfl
theorem Wins.at_ {ws : List Win} (h : Wins ws) {i : Nat} (hi : i < ws.length) : (wAt ws i).Ok := h.ok _ (getD_mem hi)
@[irreducible] def seenW (ws : List Win) (os : List Nat) (i : Nat) : List (Int × Int) := (cellsW (wAt ws i)).filter fun c => decide (topW ws os c.1 c.2 = some i)
theorem seenW_eq (ws : List Win) (os : List Nat) (i : Nat) : seenW ws os i = (cellsW (wAt ws i)).filter fun c => decide (topW ws os c.1 c.2 = some i) := by unfold seenW; rfl
theorem eqD_cells (a b : List (Int × Int)) : eqD (.lst (a.map cellD)) (.lst (b.map cellD)) = some (decide (a = b)) := eqD_of (pl_64 (pl_cells a)) (pl_64 (pl_cells b)) (by
  rw [D.lst.injEq]; exact map_inj fun _ _ => cell_inj)
theorem neD_cells (a b : List (Int × Int)) : neD (.lst (a.map cellD)) (.lst (b.map cellD)) = some (!decide (a = b)) := by unfold neD; rw [eqD_cells]; rfl
theorem eqD_nats (a b : List Nat) : eqD (.lst (a.map nD)) (.lst (b.map nD)) = some (decide (a = b)) := eqD_of (pl_64 (pl_nats a)) (pl_64 (pl_nats b)) (by
  rw [D.lst.injEq]; exact map_inj fun _ _ => nD_inj)
theorem neD_nats (a b : List Nat) : neD (.lst (a.map nD)) (.lst (b.map nD)) = some (!decide (a = b)) := by unfold neD; rw [eqD_nats]; rfl
def wholeW (ws : List Win) (os : List Nat) (i : Nat) : Bool := decide (seenW ws os i = cellsW (wAt ws i))
theorem len_wins (ws : List Win) : lenD [wins ws] = some (.int ws.length) := by
  have : lenD [wins ws] = some (.int (ws.map win).length) := rfl
  rw [this, List.length_map]
/-! ### what stands on a window -/
theorem top_lt {ws : List Win} {os : List Nat} (ho : IsOrd ws.length os) {x y : Int} {j : Nat} (h : topW ws os x y = some j) : j < ws.length ∧ inW (wAt ws j) x y = true := by
  unfold topW at h
  have m := List.mem_of_getLast? h
  rw [List.mem_filter] at m
  exact ⟨ho.lt m.1, m.2⟩
theorem top_in {ws : List Win} {os : List Nat} (ho : IsOrd ws.length os) {x y : Int} {i : Nat} (hi : i < ws.length) (h : inW (wAt ws i) x y = true) : ∃ j, topW ws os x y = some j := by
  have m : i ∈ os.filter fun i => inW (wAt ws i) x y := by
    rw [List.mem_filter]
    exact ⟨ho.mem_iff.mpr (List.mem_range.mpr hi), h⟩
  unfold topW
  cases q : (os.filter fun i => inW (wAt ws i) x y).getLast? with
  | some j => exact ⟨j, rfl⟩
  | none => rw [List.getLast?_eq_none_iff] at q; rw [q] at m; cases m
theorem cell_in {w : Win} {c : Int × Int} (h : c ∈ cellsW w) : inW w c.1 c.2 = true := by
  rw [cellsW_eq, List.mem_filter] at h; exact h.2
def topN (ws : List Win) (os : List Nat) (c : Int × Int) : Nat := (topW ws os c.1 c.2).getD 0
theorem topN_eq {ws : List Win} {os : List Nat} (ho : IsOrd ws.length os) {i : Nat} (hi : i < ws.length) {c : Int × Int} (h : c ∈ cellsW (wAt ws i)) : topW ws os c.1 c.2 = some (topN ws os c) := by
  obtain ⟨j, hj⟩ := top_in ho hi (cell_in h)
  unfold topN
  rw [hj]; rfl
@[irreducible] def hidW (ws : List Win) (os : List Nat) (i : Nat) : List Nat := (List.range ws.length).filter fun j => decide (j ≠ i) && (cellsW (wAt ws i)).any fun c => decide (topN ws os c = j)
theorem hidW_eq (ws : List Win) (os : List Nat) (i : Nat) : hidW ws os i = (List.range ws.length).filter fun j => decide (j ≠ i) && (cellsW (wAt ws i)).any fun c => decide (topN ws os c = j) := by unfold hidW; rfl
theorem sort_set {l m : List Nat} (hl : l.Nodup) (hm : m.Pairwise (· < ·)) (h : ∀ z, z ∈ l ↔ z ∈ m) : isort leD (l.map nD) = m.map nD := by
  have nm : m.Nodup := List.Pairwise.imp (fun {a b} (h : a < b) (e : a = b) => by omega) hm
  refine isort_uniq (((List.perm_ext_iff_of_nodup hl nm).mpr h).map nD) ?_ fun a ha b hb h1 h2 => ?_
  · rw [List.pairwise_map]
    exact hm.imp fun {a b} h => by rw [leD_nat]; exact decide_eq_true (by omega)
  · obtain ⟨i, _, rfl⟩ := List.mem_map.mp ha
    obtain ⟨j, _, rfl⟩ := List.mem_map.mp hb
    rw [leD_nat] at h1 h2
    rw [Nat.le_antisymm (of_decide_eq_true h1) (of_decide_eq_true h2)]
theorem range_lt (n : Nat) : (List.range n).Pairwise (· < ·) := by
  have := range_pair (R := fun a b : Nat => a < b) (f := id) (n := n) fun i j hij _ => hij
  simpa using this
theorem keyEq_nD (a b : Nat) : keyEq (nD a) (nD b) = decide (a = b) := by
  rw [Bool.eq_iff_iff]
  simp only [keyEq, nD, keyEq1, decide_eq_true_eq]
  exact cast_eq a b
/-! ### what the later laws draw -/
theorem s_drawn {ns : List Int} (h63 : ns.length ≤ 63) {k m : Int} (hk : 0 ≤ k ∧ k ≤ 2000) (hm : 0 < m ∧ m ≤ 1000) : ∃ v : Int, fD__law_drawn [.scr ns, .int k, .int m] = .ok (.int v) ∧ 0 ≤ v ∧ v < m := by
  have tail : ∀ (x : Int) (s4 s5 : Sl), ∃ v : Int, runO (seqS (setS 3 (bin modD (bin addD (bin mulD (bin modD (getV 3) (cst (.int 2147483563))) (cst (.int 69069))) (bin mulD (cst (.int 104723)) (bin addD (getV 1) (cst (.int 1))))) (cst (.int 2147483563)))) (seqS (setS 3 (bin modD (bin addD (bin mulD (getV 3) (getV 3)) (bin fdivD (getV 3) (cst (.int 3)))) (cst (.int 2147483399)))) (retS (bin modD (bin fdivD (bin modD (bin addD (bin mulD (getV 3) (getV 3)) (bin fdivD (getV 3) (cst (.int 7)))) (cst (.int 2147483647))) (cst (.int 11))) (getV 2)))) [.val (.scr ns), .val (.int k), .val (.int m), .val (.int x), s4, s5]) = .ok (.int v) ∧ 0 ≤ v ∧ v < m := by
    intro x s4 s5
    have a0 : 0 ≤ x % 2147483563 := Int.emod_nonneg _ (by omega)
    have a1 : x % 2147483563 < 2147483563 := Int.emod_lt_of_pos _ (by omega)
    have m1 : mulD (.int (x % 2147483563)) (.int 69069) = some (.int (x % 2147483563 * 69069)) := u_mulR _ _ (by omega) (by omega)
    have m2 : mulD (.int 104723) (.int (k + 1)) = some (.int (104723 * (k + 1))) := u_mulL _ _ (by omega) (by omega)
    have b0 : 0 ≤ (x % 2147483563 * 69069 + 104723 * (k + 1)) % 2147483563 := Int.emod_nonneg _ (by omega)
    have b1 : (x % 2147483563 * 69069 + 104723 * (k + 1)) % 2147483563 < 2147483563 := Int.emod_lt_of_pos _ (by omega)
    simp [u_mod _ 2147483563, m1, m2]
    generalize (x % 2147483563 * 69069 + 104723 * (k + 1)) % 2147483563 = d at *
    have m3 : mulD (.int d) (.int d) = some (.int (d * d)) := u_mulR _ _ (by omega) (by omega)
    have c0 : 0 ≤ (d * d + d / 3) % 2147483399 := Int.emod_nonneg _ (by omega)
    have c1 : (d * d + d / 3) % 2147483399 < 2147483399 := Int.emod_lt_of_pos _ (by omega)
    simp [m3, u_fdiv d 3, u_mod _ 2147483399]
    generalize (d * d + d / 3) % 2147483399 = f at *
    have m4 : mulD (.int f) (.int f) = some (.int (f * f)) := u_mulR _ _ (by omega) (by omega)
    refine ⟨(f * f + f / 7) % 2147483647 / 11 % m, ?_, Int.emod_nonneg _ (by omega), Int.emod_lt_of_pos _ hm.1⟩
    simp [m4, u_fdiv f 7, u_mod _ 2147483647, u_fdiv _ 11, u_mod _ m hm.1]
  have k7 : mulD (.int 7) (.int k) = some (.int (7 * k)) := u_mulL _ _ (by omega) (by omega)
  by_cases h : ns = []
  · subst h
    obtain ⟨v, h1, h2⟩ := tail (7 * k) .no .no
    refine ⟨v, ?_, h2⟩
    simp only [e_seq] at h1
    simp only [fD__law_drawn, G__law_drawn, e_fn, List.length_cons, List.length_nil, Nat.reduceAdd, if_true, List.map_cons, List.map_nil, List.cons_append, List.nil_append, Nat.reduceSub, List.replicate_succ, List.replicate_zero, e_seq, u_set, u_bin, u_cst, e_bind, e_getVs, e_getV0, k7, e_some, e_bindS, e_set0, e_setS, e_seqN, u_if, e_getB0, u_mkL, u_lst, u_nil, small_0, e_map, neD_scr, decide_true, Bool.not_true, Bool.false_eq_true, if_false, u_skip]
    simpa using h1
  · have hl := List.length_pos_iff.mpr h
    obtain ⟨c, hc⟩ := ix_scr (ns := ns) (i := k % ns.length) (Int.emod_nonneg _ (by omega)) (Int.emod_lt_of_pos _ (by omega))
    have hq0 : 0 ≤ k / (ns.length : Int) := Int.ediv_nonneg hk.1 (by omega)
    have hq1 : k / (ns.length : Int) ≤ 2000 := by
      have := Int.ediv_le_self (a := k) (ns.length : Int) hk.1
      omega
    have f1 : fdivD (.int k) (.int ns.length) = some (.int (k / ns.length)) := u_fdiv _ _ (by omega) (by omega)
    have f2 : modD (.int k) (.int ns.length) = some (.int (k % ns.length)) := u_mod _ _ (by omega)
    have m5 : mulD (.int 6553) (.int (k / ns.length)) = some (.int (6553 * (k / ns.length))) := u_mulL _ _ (by omega) (by omega)
    obtain ⟨e', hw, r, a, rfl⟩ := whileL_ok (t := andF (bin gtI (getV 5) (cst (.int 0))) (bin gtI (getV 4) (cst (.int 0)))) (G := B__law_drawn_0)
      (fun n e => ∃ r a : Int, e = [.val (.scr ns), .val (.int k), .val (.int m), .val (.int c), .val (.int a), .val (.int r)] ∧ a.toNat = n)
      (fun e => ∃ r a : Int, e = [.val (.scr ns), .val (.int k), .val (.int m), .val (.int c), .val (.int a), .val (.int r)])
      (by
        rintro n e ⟨r, a, rfl, rfl⟩
        by_cases h : 0 < r ∧ 0 < a
        · exact .inr ⟨by simp [h], _, (a - 1).toNat, by omega, .inl (by simp [B__law_drawn_0, u_fdiv r 1000000]), r / 1000000, a - 1, rfl, rfl⟩
        · exact .inl ⟨by simp; omega, r, a, rfl⟩)
      3000 (k / (ns.length : Int)).toNat [.val (.scr ns), .val (.int k), .val (.int m), .val (.int c), .val (.int (k / ns.length)), .val (.int (c / 1000000000000000000))] (by omega) ⟨_, _, rfl, rfl⟩
    by_cases c1 : 1000000000000000000 ≤ c ∧ k / ns.length < 60
    · by_cases hr : 0 < r
      · refine ⟨r % 1000000 % m, ?_, Int.emod_nonneg _ (by omega), Int.emod_lt_of_pos _ hm.1⟩
        simp [fD__law_drawn, G__law_drawn, k7, neD_scr, h, f2, hc, f1, pow_e, c1.1, c1.2, u_fdiv c 1000000000000000000, hw, hr, u_mod r 1000000, u_mod _ m hm.1]
      · obtain ⟨v, h1, h2⟩ := tail (c + 6553 * (k / ns.length)) (.val (.int a)) (.val (.int r))
        refine ⟨v, ?_, h2⟩
        simp only [e_seq] at h1
        rw [← h1]
        simp [fD__law_drawn, G__law_drawn, k7, neD_scr, h, f2, hc, f1, pow_e, c1.1, c1.2, u_fdiv c 1000000000000000000, hw, hr, m5]
    · obtain ⟨v, h1, h2⟩ := tail (c + 6553 * (k / ns.length)) (.val (.int (k / ns.length))) .no
      refine ⟨v, ?_, h2⟩
      simp only [e_seq] at h1
      rw [← h1]
      by_cases c2 : 1000000000000000000 ≤ c
      · have c3 : ¬ k / (ns.length : Int) < 60 := fun z => c1 ⟨c2, z⟩
        simp [fD__law_drawn, G__law_drawn, k7, neD_scr, h, f2, hc, f1, pow_e, c2, c3, m5]
      · simp [fD__law_drawn, G__law_drawn, k7, neD_scr, h, f2, hc, f1, pow_e, c2, m5]
theorem s_window2 {ns : List Int} (h63 : ns.length ≤ 63) {k : Int} (hk : 0 ≤ k ∧ k ≤ 1900) : ∃ w : Win, fD__law_window [.scr ns, .int k] = .ok (win w) ∧ 0 ≤ w.l ∧ w.l < 9 ∧ w.l < w.r ∧ w.r ≤ w.l + 4 ∧ 0 ≤ w.t ∧ w.t < 9 ∧ w.t < w.b ∧ w.b ≤ w.t + 4 := by
  obtain ⟨v0, p0, a0, b0⟩ := s_drawn h63 (k := k) (m := 9) (by omega) (by omega)
  obtain ⟨v1, p1, a1, b1⟩ := s_drawn h63 (k := k + 1) (m := 9) (by omega) (by omega)
  obtain ⟨v2, p2, a2, b2⟩ := s_drawn h63 (k := k + 2) (m := 4) (by omega) (by omega)
  obtain ⟨v3, p3, a3, b3⟩ := s_drawn h63 (k := k + 3) (m := 4) (by omega) (by omega)
  refine ⟨⟨v0, v1, v0 + 1 + v2, v1 + 1 + v3⟩, ?_, ?_⟩
  · simp [fD__law_window, G__law_window, p0, p1, p2, p3, win]
  · dsimp only; omega
theorem s_windows2 {ns : List Int} (h63 : ns.length ≤ 63) {k : Int} (hk : 0 ≤ k ∧ k ≤ 1500) {most : Int} (hm : 0 ≤ most ∧ most ≤ 6) : ∃ ws : List Win, Wins ws ∧ (ws.length : Int) ≤ most ∧ fD__law_windows [.scr ns, .int k, .int most] = .ok (wins ws) ∧ ∀ w ∈ ws, w.r - w.l ≤ 4 ∧ w.b - w.t ≤ 4 := by
  obtain ⟨v, p, a, b⟩ := s_drawn h63 (k := k) (m := most + 1) (by omega) (by omega)
  obtain ⟨n, rfl⟩ : ∃ n : Nat, v = n := ⟨v.toNat, by omega⟩
  obtain ⟨g, pg, g0, g1⟩ := s_drawn h63 (k := k + 30) (m := 3) (by omega) (by omega)
  have rn : asRng1 [.int (n : Int)] = some ((List.range n).map nD) := asRng1_nat (by omega)
  obtain ⟨e', h1, ws, t4, t5, t6, t7, t8, t9, t10, t11, rfl, ok, len⟩ := forL_ind (p := .nm 4) (G := B__law_windows_0) (enc := nD) (xs := List.range n) (e := [.val (.scr ns), .val (.int k), .val (.int most), .own [], .no, .no, .no, .no, .no, .no, .no, .no])
    (fun pre e => ∃ (ws : List Win) (t4 t5 t6 t7 t8 t9 t10 t11 : Sl), e = [.val (.scr ns), .val (.int k), .val (.int most), .own (ws.map win), t4, t5, t6, t7, t8, t9, t10, t11] ∧ (∀ w ∈ ws, w.Ok ∧ w.r - w.l ≤ 4 ∧ w.b - w.t ≤ 4) ∧ ws.length = pre.length) ⟨[], _, _, _, _, _, _, _, _, rfl, by simp, rfl⟩ (by
      rintro pre i suf hq e ⟨ws, t4, t5, t6, t7, t8, t9, t10, t11, rfl, ok, len⟩
      have hi : i < n := List.mem_range.mp (by rw [hq]; simp)
      have hpl : pre.length < n := by
        have := congrArg List.length hq
        simp at this; omega
      obtain ⟨w, pw, w1, w2, w3, w4, w5, w6, w7, w8⟩ := s_window2 h63 (k := k + 1 + 4 * i) (by omega)
      have m4 : mulD (.int 4) (nD i) = some (.int (4 * i)) := u_mulL 4 i (by omega) (by omega)
      have u : ∀ (a5 a6 a7 a8 a9 a10 a11 : Sl), unpS (.tp [6, 7, 8, 9]) (callF fD__law_window (consF (getV 0) (consF (bin addD (bin addD (getV 1) (cst (.int 1))) (bin mulD (cst (.int 4)) (getV 4))) nilF))) [.val (.scr ns), .val (.int k), .val (.int most), .own (ws.map win), .val (nD i), a5, a6, a7, a8, a9, a10, a11] = .next [.val (.scr ns), .val (.int k), .val (.int most), .own (ws.map win), .val (nD i), a5, .val (.int w.l), .val (.int w.t), .val (.int w.r), .val (.int w.b), a10, a11] := fun a5 a6 a7 a8 a9 a10 a11 => unp_ok (d := win w) (by simp [m4, pw]) rfl
      have hg : g = 0 ∨ g = 1 ∨ g = 2 := by omega
      have f1 : ∀ x : Int, fdivD (.int x) (.int (1 + g)) = some (.int (x / (1 + g))) := fun x => u_fdiv x _ (by omega) (by omega)
      have d1 : 0 ≤ w.l / (1 + g) ∧ w.l / (1 + g) ≤ w.l := ⟨Int.ediv_nonneg w1 (by omega), Int.ediv_le_self _ w1⟩
      have d2 : 0 ≤ w.t / (1 + g) ∧ w.t / (1 + g) ≤ w.t := ⟨Int.ediv_nonneg w5 (by omega), Int.ediv_le_self _ w5⟩
      have sm : small (ws.length + 1) = true := small_le (by omega)
      refine ⟨_, rfl, [.val (.scr ns), .val (.int k), .val (.int most), .own ((ws ++ [(⟨w.l / (1 + g), w.t / (1 + g), w.l / (1 + g) + w.r - w.l, w.t / (1 + g) + w.b - w.t⟩ : Win)]).map win), .val (nD i), .val (.int (1 + g)), .val (.int w.l), .val (.int w.t), .val (.int w.r), .val (.int w.b), .val (.int (w.l / (1 + g))), .val (.int (w.t / (1 + g)))], .inl ?_, _, _, _, _, _, _, _, _, _, rfl, fun x hx => ?_, by simp [len]⟩
      · simp [B__law_windows_0, u, pg, f1, appS, sm, win]
      · rcases List.mem_append.mp hx with h | h
        · exact ok x h
        · rw [List.mem_singleton.mp h]
          unfold Win.Ok
          dsimp only
          omega)
  rw [List.length_range] at len
  refine ⟨ws, ⟨fun w hw => (ok w hw).1, by omega⟩, by omega, ?_, fun w hw => (ok w hw).2⟩
  simp [fD__law_windows, G__law_windows, p, rn, h1, wins]
theorem cut_lo (xs : List D) (k : Nat) : cutD xs none (some (k : Int)) = xs.take k := by
  unfold cutD
  rw [HT.sIx_none, HT.sIx_nat]
  simp
theorem cut_hi (xs : List D) (k : Nat) : cutD xs (some (k : Int)) none = xs.drop k := by
  unfold cutD
  rw [HT.sIx_none, HT.sIx_nat]
  rcases Nat.lt_or_ge k xs.length with q | q
  · rw [Nat.min_eq_left (by omega)]
    rw [List.take_of_length_le (by simp)]
  · rw [Nat.min_eq_right q, List.drop_of_length_le (Nat.le_refl _), List.drop_of_length_le q]
    simp
/-! ### values that are refused -/
theorem ix_pick {xs : List D} {v : Int} (h0 : 0 ≤ v) (h1 : v < xs.length) : ∃ d ∈ xs, ixD (.lst xs) (.int v) = some d := by
  obtain ⟨k, rfl⟩ : ∃ k : Nat, v = k := ⟨v.toNat, by omega⟩
  have hk : k < xs.length := by omega
  exact ⟨xs[k], List.getElem_mem hk, (ix_nat (List.getElem?_eq_getElem hk)).2⟩
def badWins : List D := [.non, .lst [], .lst [.tup [.int 0, .int 0, .int 1, .int 1]], .tup [.tup [.int 0, .int 0, .int 0, .int 1]], .tup [.tup [.int 0, .int 0, .int 13, .int 1]], .tup [.tup [.int 0, .int 1, .int 1, .int 1]],
  .tup [.tup [.bl true, .int 0, .int 2, .int 2]], .tup [.tup [.int 0, .int 0, .int 1]], .tup (List.replicate 7 (.tup [.int 0, .int 0, .int 1, .int 1])), .tup [.int 0, .int 0, .int 1, .int 1], .tup [.tup [.int (-1), .int 0, .int 1, .int 1]]]
theorem badWins_all : ∀ d ∈ badWins, fD_are_windows [d] = .ok (.bl false) := by
  intro d hd
  unfold badWins at hd
  simp only [List.mem_cons, List.not_mem_nil, or_false] at hd
  rcases hd with rfl | rfl | rfl | rfl | rfl | rfl | rfl | rfl | rfl | rfl | rfl <;> rfl
theorem s_badwindows {ns : List Int} (h63 : ns.length ≤ 63) {k : Int} (hk : 0 ≤ k ∧ k ≤ 1900) : ∃ d, fD__law_badwindows [.scr ns, .int k] = .ok d ∧ fD_are_windows [d] = .ok (.bl false) := by
  obtain ⟨v, p, a, b⟩ := s_drawn h63 (k := k) (m := 11) (by omega) (by omega)
  obtain ⟨d, hd, ix⟩ := ix_pick (xs := badWins) a (by show v < 11; omega)
  refine ⟨d, ?_, badWins_all d hd⟩
  have m7 : mulD (.tup [.tup [.int 0, .int 0, .int 1, .int 1]]) (.int 7) = some (.tup (List.replicate 7 (.tup [.int 0, .int 0, .int 1, .int 1]))) := rfl
  have c1 : catD (.lst [.non, .lst [], .lst [.tup [.int 0, .int 0, .int 1, .int 1]], .tup [.tup [.int 0, .int 0, .int 0, .int 1]], .tup [.tup [.int 0, .int 0, .int 13, .int 1]], .tup [.tup [.int 0, .int 1, .int 1, .int 1]]]) (.lst [.tup [.tup [.bl true, .int 0, .int 2, .int 2]], .tup [.tup [.int 0, .int 0, .int 1]]]) =
    some [.non, .lst [], .lst [.tup [.int 0, .int 0, .int 1, .int 1]], .tup [.tup [.int 0, .int 0, .int 0, .int 1]], .tup [.tup [.int 0, .int 0, .int 13, .int 1]], .tup [.tup [.int 0, .int 1, .int 1, .int 1]], .tup [.tup [.bl true, .int 0, .int 2, .int 2]], .tup [.tup [.int 0, .int 0, .int 1]]] := rfl
  have c2 : catD (.lst [.non, .lst [], .lst [.tup [.int 0, .int 0, .int 1, .int 1]], .tup [.tup [.int 0, .int 0, .int 0, .int 1]], .tup [.tup [.int 0, .int 0, .int 13, .int 1]], .tup [.tup [.int 0, .int 1, .int 1, .int 1]], .tup [.tup [.bl true, .int 0, .int 2, .int 2]], .tup [.tup [.int 0, .int 0, .int 1]]])
    (.lst [.tup (List.replicate 7 (.tup [.int 0, .int 0, .int 1, .int 1])), .tup [.int 0, .int 0, .int 1, .int 1], .tup [.tup [.int (-1), .int 0, .int 1, .int 1]]]) = some badWins := rfl
  have s6 : small 6 = true := small_le (by omega)
  simp only [fD__law_badwindows, G__law_badwindows, e_fn, List.length_cons, List.length_nil, Nat.reduceAdd, if_true, List.map_cons, List.map_nil, List.cons_append, List.nil_append, Nat.reduceSub, List.replicate_one, e_seq, u_set, u_mkL, u_lst, u_cons, u_cst, u_tup, u_nil, e_bind, e_map, small_0, small_1, small_2, small_3, small_4, s6, e_bindS, e_set0, e_setS, e_seqN, u_bin, e_getBs, e_getB0, e_getVs, e_getV0, c1, e_some, u_una, u_neg, m7, c2, u_call, p, ix, u_ret, e_runR]
/-- the argument is no windows -/
theorem e_windows {d : D} (h : fD_are_windows [d] = .ok (.bl false)) : fD_check_windows [d] = .err .windows := by
  simp [fD_check_windows, G_check_windows, h]
def badOrds (os : List Nat) (n : Nat) : List D := [.non, .lst (os.map nD), natsT (os ++ [n]), natsT (os ++ os.take 1 ++ [0]), natsT (os.map (· + 1) ++ [0, 0])]
theorem u_isTupNon : isTupD .non = some false := rfl
def badNums (n : Nat) : List D := [.non, .int (-1), nD n, .bl true, .str "0"]
theorem lenF_le {α β : Type} (n : Nat) : ∀ (xs : List α) (f : α → List β), (∀ x ∈ xs, (f x).length ≤ n) → (xs.flatMap f).length ≤ xs.length * n
  | [], _, _ => by simp
  | x :: xs, f, h => by
    have h1 := h x (by simp)
    have h2 := lenF_le n xs f fun y hy => h y (by simp [hy])
    have e : (xs.length + 1) * n = xs.length * n + n := Nat.succ_mul _ _
    rw [List.flatMap_cons, List.length_append, List.length_cons, e]
    omega
/-! ### loops that push onto a list -/
theorem forL_acc {α δ : Type} {p : Pat} {G : EnvD → Out} {enc : α → D} (st : List D → δ → EnvD) (out : α → List D) (m B : Nat) : ∀ {xs : List α} (acc : List D) (d : δ), acc.length + xs.length * m ≤ B → (∀ x ∈ xs, (out x).length ≤ m) →
    (∀ acc d x, x ∈ xs → acc.length + m ≤ B → ∃ e1 d', bindP p (enc x) (st acc d) = some e1 ∧ G e1 = .next (st (acc ++ out x) d')) → ∃ d', forL p G (xs.map enc) (st acc d) = .next (st (acc ++ xs.flatMap out) d')
  | [], acc, d, _, _, _ => ⟨d, by simp [forL]⟩
  | x :: xs, acc, d, hb, ho, h => by
    have e0 : (x :: xs).length * m = xs.length * m + m := by rw [List.length_cons, Nat.succ_mul]
    obtain ⟨e1, d', h1, h2⟩ := h acc d x (by simp) (by omega)
    have lx := ho x (by simp)
    obtain ⟨d2, h3⟩ := forL_acc st out m B (xs := xs) (acc ++ out x) d' (by rw [List.length_append]; omega) (fun y hy => ho y (by simp [hy])) fun acc d y hy => h acc d y (by simp [hy])
    refine ⟨d2, ?_⟩
    rw [List.map_cons]
    unfold forL
    rw [h1]
    simp only [h2, h3, List.flatMap_cons, List.append_assoc]
/-- a loop that refuses -/
theorem forL_chk {α : Type} {p : Pat} {G : EnvD → Out} {enc : α → D} (E : EnvD → Prop) (P : α → Bool) (res : D) : ∀ {xs : List α} {e : EnvD}, E e → (∀ e x, E e → x ∈ xs → ∃ e1, bindP p (enc x) e = some e1 ∧ (P x = true → ∃ e2, G e1 = .next e2 ∧ E e2) ∧ (P x = false → G e1 = .ret res)) →
    (xs.all P = true → ∃ e2, forL p G (xs.map enc) e = .next e2 ∧ E e2) ∧ (xs.all P = false → forL p G (xs.map enc) e = .ret res)
  | [], e, he, _ => ⟨fun _ => ⟨e, rfl, he⟩, fun h => by simp at h⟩
  | x :: xs, e, he, h => by
    obtain ⟨e1, h1, h2, h3⟩ := h e x he (by simp)
    rw [List.all_cons, List.map_cons]
    unfold forL
    rw [h1]
    cases q : P x with
    | false =>
      refine ⟨fun z => by simp at z, fun _ => ?_⟩
      simp only [h3 q]
    | true =>
      obtain ⟨e2, h4, h5⟩ := h2 q
      simp only [h4, Bool.true_and]
      exact forL_chk E P res h5 fun e y he hy => h e y he (by simp [hy])
/-! ### places -/
def SzOk (s : Int × Int) : Prop := 1 ≤ s.1 ∧ s.1 ≤ 12 ∧ 1 ≤ s.2 ∧ s.2 ≤ 12
instance (s : Int × Int) : Decidable (SzOk s) := inferInstanceAs (Decidable (_ ∧ _))
def pwin (s c : Int × Int) : Win := ⟨c.1, c.2, c.1 + s.1, c.2 + s.2⟩
def corners (s : Int × Int) : List (Int × Int) := (List.range (13 - s.1).toNat).flatMap fun a => (List.range (13 - s.2).toNat).map fun b => ((0 : Int) + ((a : Nat) : Int), (0 : Int) + ((b : Nat) : Int))
theorem corners_mem {s c : Int × Int} (hs : SzOk s) : c ∈ corners s ↔ (pwin s c).Ok := by
  unfold corners
  rw [box_mem]
  unfold SzOk at hs
  unfold Win.Ok pwin
  dsimp only
  omega
def allP (s : Int × Int) : List Win := (corners s).map (pwin s)
theorem allP_eq (s : Int × Int) : allP s = (List.range (13 - s.1).toNat).flatMap fun a => (List.range (13 - s.2).toNat).map fun b => pwin s (((a : Nat) : Int), ((b : Nat) : Int)) := by
  unfold allP corners
  rw [List.map_flatMap]
  congr 1
  funext a
  rw [List.map_map]
  congr 1
  funext b
  simp
theorem allP_ok {s : Int × Int} (hs : SzOk s) {w : Win} (h : w ∈ allP s) : w.Ok ∧ w.r - w.l = s.1 ∧ w.b - w.t = s.2 := by
  obtain ⟨c, hc, rfl⟩ := List.mem_map.mp h
  refine ⟨(corners_mem hs).mp hc, ?_, ?_⟩ <;> (unfold pwin; dsimp only; omega)
theorem allP_in {s : Int × Int} (hs : SzOk s) {w : Win} (h : w.Ok) (h1 : w.r - w.l = s.1) (h2 : w.b - w.t = s.2) : w ∈ allP s := by
  have e : pwin s (w.l, w.t) = w := by
    cases w
    unfold pwin
    simp at *
    omega
  exact List.mem_map.mpr ⟨(w.l, w.t), (corners_mem hs).mpr (by rw [e]; exact h), e⟩
theorem allP_le {s : Int × Int} (hs : SzOk s) : (allP s).length ≤ 144 := by
  unfold SzOk at hs
  unfold allP corners
  rw [List.length_map, len_const (13 - s.2).toNat _ _ (fun x _ => by simp), List.length_range]
  have h1 : (13 - s.1).toNat ≤ 12 := by omega
  have h2 : (13 - s.2).toNat ≤ 12 := by omega
  exact Nat.le_trans (Nat.mul_le_mul h1 h2) (by decide)
theorem s_all_places {s : Int × Int} (hs : SzOk s) : fD_all_places [cellD s] = .ok (.lst ((allP s).map win)) := by
  obtain ⟨a, b⟩ := s
  obtain ⟨h1, h2, h3, h4⟩ := hs
  dsimp only at h1 h2 h3 h4
  obtain ⟨m, hm⟩ : ∃ m : Nat, (13 - a).toNat = m := ⟨_, rfl⟩
  obtain ⟨n, hn⟩ : ∃ n : Nat, (13 - b).toNat = n := ⟨_, rfl⟩
  have x0 : ixD (cellD (a, b)) (.int 0) = some (.int a) := rfl
  have x1 : ixD (cellD (a, b)) (.int 1) = some (.int b) := rfl
  have r1 : asRng1 [.int (12 - a + 1)] = some ((List.range m).map nD) := by
    rw [show (12 - a + 1 : Int) = (m : Nat) by omega]; exact asRng1_nat (by omega)
  have r2 : asRng1 [.int (12 - b + 1)] = some ((List.range n).map nD) := by
    rw [show (12 - b + 1 : Int) = (n : Nat) by omega]; exact asRng1_nat (by omega)
  have ae := allP_eq (a, b)
  rw [hm, hn] at ae
  generalize hC : cellD (a, b) = C at *
  obtain ⟨⟨s2, s3⟩, hl⟩ := forL_acc (p := .nm 2) (G := B_all_places_1) (enc := nD) (δ := Sl × Sl) (fun acc d => [.val C, .own acc, d.1, d.2]) (fun l => (List.range n).map fun t => win (pwin (a, b) (((l : Nat) : Int), ((t : Nat) : Int)))) 12 1000 (xs := List.range m) [] (.no, .no) (by simp; omega) (fun x _ => by simp; omega) (by
    rintro acc ⟨t2, t3⟩ l hlm hb
    obtain ⟨t3', hl2⟩ := forL_acc (p := .nm 3) (G := B_all_places_0) (enc := nD) (δ := Sl) (fun acc d => [.val C, .own acc, .val (nD l), d]) (fun t => [win (pwin (a, b) (((l : Nat) : Int), ((t : Nat) : Int)))]) 1 1000 (xs := List.range n) acc t3 (by simp; omega) (fun _ _ => by simp) (by
      intro acc t4 t htn hb
      refine ⟨_, .val (nD t), rfl, ?_⟩
      refine app_ok (ds := acc) (d := win (pwin (a, b) (((l : Nat) : Int), ((t : Nat) : Int)))) rfl ?_ (small_le (by omega))
      simp [x0, x1, win, pwin, nD])
    refine ⟨_, (.val (nD l), t3'), rfl, ?_⟩
    have fm : (List.range n).flatMap (fun t => [win (pwin (a, b) (((l : Nat) : Int), ((t : Nat) : Int)))]) = (List.range n).map fun t => win (pwin (a, b) (((l : Nat) : Int), ((t : Nat) : Int))) := List.map_eq_flatMap.symm
    rw [fm] at hl2
    simp [B_all_places_1, x1, r2, hl2])
  have fr : frzE 1 [.val C, .own ((allP (a, b)).map win), s2, s3] = [.val C, .val (.lst ((allP (a, b)).map win)), s2, s3] := rfl
  have em : (List.range m).flatMap (fun l => (List.range n).map fun t => win (pwin (a, b) (((l : Nat) : Int), ((t : Nat) : Int)))) = (allP (a, b)).map win := by
    rw [ae, List.map_flatMap]
    congr 1
    funext l
    rw [List.map_map]; rfl
  rw [em, List.nil_append] at hl
  generalize (allP (a, b)).map win = AP at *
  simp [fD_all_places, G_all_places, x0, r1, hl, frzS, fr]
def freeP (vs : List Win) (w : Win) : Bool := !(vs.any fun v => hasOv v w)
theorem s_is_free (vs : List Win) (w : Win) : fD_is_free [wins vs, win w] = .ok (.bl (freeP vs w)) := by
  have e : ∀ b0 b2 : Sl, lcL (.nm 2) [2] yesF (bin (fun x y => toD (notNoneD x y)) (callF fD_find_overlap (consF (getV 2) (consF (getV 1) nilF))) (cst .non)) (vs.map win) [b0, .val (win w), b2] = .ok (vs.map fun v => .bl (hasOv v w)) := fun _ _ =>
    lcL_all (fun v => .bl (hasOv v w)) fun v _ => ⟨_, rfl, by
      have fo := s_find_overlap v w
      cases q : hasOv v w with
      | true => rw [q, if_pos rfl] at fo; simp [fo]
      | false => rw [q, if_neg (by simp)] at fo; simp [fo]⟩
  have an := any_map (fun v => hasOv v w) vs
  have sq : asSeq (wins vs) = some (vs.map win) := rfl
  unfold freeP
  generalize (vs.any fun v => hasOv v w) = b at *
  generalize (vs.map fun v => D.bl (hasOv v w)) = BL at *
  generalize win w = WW at *
  simp [fD_is_free, G_is_free, sq, e, an]
def plc (vs : List Win) (s : Int × Int) : List Win := (allP s).filter (freeP vs)
theorem s_find_places (vs : List Win) {s : Int × Int} (hs : SzOk s) : fD_find_places [wins vs, cellD s] = .ok (.lst ((plc vs s).map win)) := by
  have ap := s_all_places hs
  have e : ∀ b1 b2 : Sl, lcL (.nm 2) [2] (tst (callF fD_is_free (consF (getV 0) (consF (getV 2) nilF)))) (getV 2) ((allP s).map win) [.val (wins vs), b1, b2] = .ok ((plc vs s).map win) := fun _ _ =>
    lcL_ok (freeP vs) win fun w _ => ⟨_, rfl, by simp [s_is_free], fun _ => by simp⟩
  have sq : asSeq (.lst ((allP s).map win)) = some ((allP s).map win) := rfl
  generalize (allP s).map win = AP at *
  generalize (plc vs s).map win = PL at *
  simp [fD_find_places, G_find_places, ap, sq, e]
theorem s_is_size (s : Int × Int) : fD_is_size [cellD s] = .ok (.bl (decide (SzOk s))) := by
  obtain ⟨a, b⟩ := s
  have al : allD [.lst [.bl (decide (1 ≤ a) && decide (a ≤ 12)), .bl (decide (1 ≤ b) && decide (b ≤ 12))]] = some (.bl ((decide (1 ≤ a) && decide (a ≤ 12)) && ((decide (1 ≤ b) && decide (b ≤ 12)) && true))) := rfl
  have e : ((decide (1 ≤ a) && decide (a ≤ 12)) && ((decide (1 ≤ b) && decide (b ≤ 12)) && true)) = decide (SzOk (a, b)) := by
    rw [Bool.eq_iff_iff, decide_eq_true_iff]
    simp [SzOk, and_assoc]
  rw [e] at al
  simp [fD_is_size, G_is_size, cellD, lcL, yesF, s_is_int, al]
/-! ### places for several sizes -/
def szl (ss : List (Int × Int)) : D := .lst (ss.map cellD)
def optT : Option (List Win) → D
  | none => .non
  | some ws => wins ws
def faW : List Win → List (Int × Int) → Option (List Win)
  | _, [] => some []
  | vs, s :: ss => (plc vs s).findSome? fun p => (faW (vs ++ [p]) ss).map (p :: ·)
theorem faW_len : ∀ {ss : List (Int × Int)} {vs rs : List Win}, faW vs ss = some rs → rs.length = ss.length
  | [], vs, rs, h => by cases h; rfl
  | s :: ss, vs, rs, h => by
    unfold faW at h
    obtain ⟨p, _, hp⟩ := List.exists_of_findSome?_eq_some h
    cases q : faW (vs ++ [p]) ss with
    | none => rw [q] at hp; cases hp
    | some r => rw [q] at hp; cases hp; simp [faW_len q]
theorem add_wins (vs rs : List Win) (h : vs.length + rs.length ≤ 1000) : addD (wins vs) (wins rs) = some (wins (vs ++ rs)) := by
  show (if small ((vs.map win).length + (rs.map win).length) = true then some (D.tup (vs.map win ++ rs.map win)) else none) = _
  rw [if_pos (small_le (by simp; omega)), ← List.map_append]; rfl
theorem fa_step {rc : List D → R D} {vs : List Win} {s : Int × Int} {ss : List (Int × Int)} (hl : vs.length ≤ 100) (hss : ss.length ≤ 100)
    (hrc : ∀ p : Win, rc [wins (vs ++ [p]), szl ss] = .ok (optT (faW (vs ++ [p]) ss))) : ∀ (ps : List Win) (s2 s3 : Sl), ∃ t2 t3, forL (.nm 2) (B_find_all_0 rc) (ps.map win) [.val (wins vs), .val (szl (s :: ss)), s2, s3] =
      match ps.findSome? fun p => (faW (vs ++ [p]) ss).map (p :: ·) with
      | some rs => .ret (wins rs)
      | none => .next [.val (wins vs), .val (szl (s :: ss)), t2, t3]
  | [], s2, s3 => ⟨s2, s3, rfl⟩
  | p :: ps, s2, s3 => by
    have hr := hrc p
    have a1 := add_wins vs [p] (by simp; omega)
    have c1 : cutF (szl (s :: ss)) (some 1) none = some (szl ss) := by
      show some (D.lst (cutD ((s :: ss).map cellD) (some ((1 : Nat) : Int)) none)) = _
      rw [cut_hi, ← List.map_drop]; rfl
    have w1 : wins [p] = .tup [win p] := rfl
    rw [w1] at a1
    rw [List.map_cons, List.findSome?_cons]
    unfold forL
    cases q : faW (vs ++ [p]) ss with
    | none =>
      obtain ⟨t2, t3, ih⟩ := fa_step (s := s) (ss := ss) hl hss hrc ps (.val (win p)) (.val .non)
      refine ⟨t2, t3, ?_⟩
      rw [q] at hr
      have b : B_find_all_0 rc [.val (wins vs), .val (szl (s :: ss)), .val (win p), s3] = .next [.val (wins vs), .val (szl (s :: ss)), .val (win p), .val .non] := by
        have o : optT none = .non := rfl
        rw [o] at hr
        generalize wins (vs ++ [p]) = VP at *
        generalize win p = P at *
        generalize szl (s :: ss) = SS at *
        generalize szl ss = S2 at *
        generalize wins vs = VS at *
        simp [B_find_all_0, a1, c1, hr]
      simp only [e_bindN, e_set0, e_setS, b, Option.map_none]
      exact ih
    | some rs =>
      refine ⟨.no, .no, ?_⟩
      rw [q] at hr
      have lr := faW_len q
      have a2 := add_wins [p] rs (by simp; omega)
      rw [w1] at a2
      have b : B_find_all_0 rc [.val (wins vs), .val (szl (s :: ss)), .val (win p), s3] = .ret (wins (p :: rs)) := by
        have o : optT (some rs) = wins rs := rfl
        have n1 : noRaw (wins rs) = true := rfl
        have n2 : isNon (wins rs) = false := rfl
        have e : [p] ++ rs = p :: rs := rfl
        rw [e] at a2
        rw [o] at hr
        generalize wins (vs ++ [p]) = VP at *
        generalize wins (p :: rs) = PR at *
        generalize wins rs = RS at *
        generalize win p = P at *
        generalize szl (s :: ss) = SS at *
        generalize szl ss = S2 at *
        generalize wins vs = VS at *
        simp [B_find_all_0, a1, c1, hr, n1, n2, a2]
      simp only [e_bindN, e_set0, e_setS, b, Option.map_some]
theorem szl_pl (ss : List (Int × Int)) : plD 2 (szl ss) = true := pl_cells ss
theorem s_fa0 (rc : List D → R D) (vs : List Win) : fnD 4 2 (G_find_all rc) [wins vs, szl []] = .ok (wins []) := by
  have e : eqD (szl []) (.lst []) = some true := rfl
  have w : wins [] = .tup [] := rfl
  rw [w]
  generalize szl [] = SS at *
  simp [G_find_all, e]
theorem s_faS {rc : List D → R D} {vs : List Win} {s : Int × Int} {ss : List (Int × Int)} (hl : vs.length ≤ 100) (hss : ss.length ≤ 100) (hs : SzOk s)
    (hrc : ∀ p : Win, rc [wins (vs ++ [p]), szl ss] = .ok (optT (faW (vs ++ [p]) ss))) : fnD 4 2 (G_find_all rc) [wins vs, szl (s :: ss)] = .ok (optT (faW vs (s :: ss))) := by
  have e : eqD (szl (s :: ss)) (.lst []) = some false := by
    rw [eqD_of (p := False) (pl_64 (szl_pl _)) rfl (by simp [szl])]; rfl
  have x0 : ixD (szl (s :: ss)) (.int 0) = some (cellD s) := (ix_nat (i := 0) rfl).2
  have fp := s_find_places vs hs
  have sq : asSeq (.lst ((plc vs s).map win)) = some ((plc vs s).map win) := rfl
  obtain ⟨t2, t3, hl⟩ := fa_step (s := s) (ss := ss) hl hss hrc (plc vs s) .no .no
  have fe : faW vs (s :: ss) = (plc vs s).findSome? fun p => (faW (vs ++ [p]) ss).map (p :: ·) := rfl
  rw [← fe] at hl
  generalize (plc vs s).map win = PL at *
  generalize szl (s :: ss) = SS at *
  generalize wins vs = VS at *
  cases q : faW vs (s :: ss) with
  | none =>
    rw [q] at hl
    simp [G_find_all, e, x0, fp, sq, hl, optT]
  | some rs =>
    rw [q] at hl
    simp [G_find_all, e, x0, fp, sq, hl, optT]
def SzsOk (ss : List (Int × Int)) : Prop := ∀ s ∈ ss, SzOk s
theorem s_find_all {vs : List Win} {ss : List (Int × Int)} (hl : vs.length ≤ 50) (h3 : ss.length ≤ 3) (hs : SzsOk ss) : fD_find_all [wins vs, szl ss] = .ok (optT (faW vs ss)) := by
  cases ss with
  | nil => exact s_fa0 fD_find_all_3 vs
  | cons a ss =>
    refine s_faS (by omega) (by simp only [List.length_cons] at h3; omega) (hs a (by simp)) fun p => ?_
    have hs1 : SzsOk ss := fun z hz => hs z (by simp [hz])
    cases ss with
    | nil => exact s_fa0 fD_find_all_2 _
    | cons b ss =>
      refine s_faS (by simp; omega) (by simp only [List.length_cons] at h3; omega) (hs1 b (by simp)) fun p => ?_
      have hs2 : SzsOk ss := fun z hz => hs1 z (by simp [hz])
      cases ss with
      | nil => exact s_fa0 fD_find_all_1 _
      | cons c ss =>
        refine s_faS (by simp; omega) (by simp only [List.length_cons] at h3; omega) (hs2 c (by simp)) fun p => ?_
        cases ss with
        | nil => exact s_fa0 fD_find_all_0 _
        | cons d ss => simp at h3
theorem s_check_sizes {ws : List Win} {ss : List (Int × Int)} (hw : Wins ws) (h3 : ss.length ≤ 3) (hs : SzsOk ss) : fD_check_sizes [wins ws, szl ss] = .ok .non := by
  have e : ∀ b0 b2 : Sl, lcL (.nm 2) [2] yesF (callF fD_is_size (consF (getV 2) nilF)) (ss.map cellD) [b0, .val (szl ss), b2] = .ok (ss.map fun _ => .bl true) := fun _ _ =>
    lcL_all (fun _ => .bl true) fun s h => ⟨_, rfl, by simp [s_is_size, hs s h]⟩
  have al : allD [.lst (ss.map fun _ => .bl true)] = some (.bl true) := by
    rw [all_map (fun _ => true)]; simp
  have il : isLstD (szl ss) = some true := rfl
  have ln : lenD [szl ss] = some (.int ss.length) := by
    show some (D.int ((ss.map cellD).length : Nat)) = _
    rw [List.length_map]
  have sq : asSeq (szl ss) = some (ss.map cellD) := rfl
  have n3 : ¬ (3 : Int) < ss.length := by omega
  generalize (ss.map fun _ => D.bl true) = BL at *
  generalize szl ss = SS at *
  simp [fD_check_sizes, G_check_sizes, s_check_windows hw, il, ln, n3, sq, e, al]
theorem s_place_all {ws : List Win} {ss : List (Int × Int)} (hw : Wins ws) (h3 : ss.length ≤ 3) (hs : SzsOk ss) : fD_place_all [wins ws, szl ss] = .ok (optT (faW ws ss)) := by
  have := hw.le
  simp [fD_place_all, G_place_all, s_check_sizes hw h3 hs, s_find_all (vs := ws) (by omega) h3 hs]
theorem s_places {ws : List Win} {s : Int × Int} (hw : Wins ws) (hs : SzOk s) : fD_places [wins ws, cellD s] = .ok (.lst ((plc ws s).map win)) := by
  simp [fD_places, G_places, s_check_windows hw, s_is_size, hs, s_find_places ws hs]

/-! ### places that fit -/
def sz (w : Win) : Int × Int := (w.r - w.l, w.b - w.t)
def chkR (vs : List Win) (ss : List (Int × Int)) (rs : List Win) (k : Nat) : Bool := decide (sz (wAt rs k) = ss.getD k (0, 0)) && freeP (vs ++ rs.take k) (wAt rs k)
def goodR (vs : List Win) (ss : List (Int × Int)) (rs : List Win) : Bool := decide (rs.length = ss.length) && (List.range rs.length).all (chkR vs ss rs)
theorem freeP_app (vs us : List Win) (w : Win) : freeP (vs ++ us) w = (freeP vs w && freeP us w) := by
  unfold freeP
  rw [List.any_append, Bool.not_or]
theorem szl_ix {ss : List (Int × Int)} {k : Nat} (h : k < ss.length) : ixD (szl ss) (nD k) = some (cellD (ss.getD k (0, 0))) := by
  refine (ix_nat (xs := ss.map cellD) (i := k) ?_).2
  rw [List.getElem?_map, List.getD_eq_getElem?_getD, List.getElem?_eq_getElem h]; rfl
theorem cut_wins (rs : List Win) (k : Nat) : cutF (wins rs) none (some (k : Int)) = some (wins (rs.take k)) := by
  show some (D.tup (cutD (rs.map win) none (some (k : Int)))) = _
  rw [cut_lo, ← List.map_take]; rfl
theorem neD_cell (a b : Int × Int) : neD (cellD a) (cellD b) = some (!decide (a = b)) := neD_of (pl_64 (pl_cell a)) (pl_64 (pl_cell b)) ⟨cell_inj, fun e => by rw [e]⟩
theorem sz_win (w : Win) : ∃ r l b t : D, ixD (win w) (.int 2) = some r ∧ ixD (win w) (.int 0) = some l ∧ ixD (win w) (.int 3) = some b ∧ ixD (win w) (.int 1) = some t ∧ ∃ x y : D, subD r l = some x ∧ subD b t = some y ∧ D.tup [x, y] = cellD (sz w) :=
  ⟨.int w.r, .int w.l, .int w.b, .int w.t, rfl, rfl, rfl, rfl, _, _, rfl, rfl, rfl⟩
theorem s_are_places {ws rs : List Win} {ss : List (Int × Int)} (hw : Wins ws) (h3 : ss.length ≤ 3) (hs : SzsOk ss) (hr : ∀ w ∈ rs, w.Ok) (hl : rs.length ≤ 100) : fD_are_places [wins ws, szl ss, wins rs] = .ok (.bl (goodR ws ss rs)) := by
  have ck := s_check_sizes hw h3 hs
  have it : isTupD (wins rs) = some true := rfl
  have l1 : lenD [wins rs] = some (nD rs.length) := len_wins rs
  have l2 : lenD [szl ss] = some (nD ss.length) := by
    show some (D.int ((ss.map cellD).length : Nat)) = _
    rw [List.length_map]; rfl
  have e : ∀ b0 b1 b2 b3 b4 : Sl, lcL (.nm 4) [4] yesF (callF fD_is_window (consF (getV 4) nilF)) (rs.map win) [b0, b1, b2, b3, b4] = .ok (rs.map fun _ => .bl true) := fun _ _ _ _ _ =>
    lcL_all (fun _ => .bl true) fun w h => ⟨_, rfl, by simp [s_is_window (hr w h)]⟩
  have al : allD [.lst (rs.map fun _ => .bl true)] = some (.bl true) := by
    rw [all_map (fun _ => true)]; simp
  have sq : asSeq (wins rs) = some (rs.map win) := rfl
  have en : enumL 0 (rs.map win) = (List.range rs.length).map fun i => .itm [.int ((0 + i : Nat) : Int), win (wAt rs i)] := enumL_map win w0 0 rs
  unfold goodR
  by_cases hlen : rs.length = ss.length
  · obtain ⟨c1, c2⟩ := forL_chk (p := .tp [3, 4]) (G := B_are_places_0) (enc := fun i : Nat => .itm [.int ((0 + i : Nat) : Int), win (wAt rs i)]) (fun e => ∃ a b, e = [.val (wins ws), .val (szl ss), .val (wins rs), a, b]) (chkR ws ss rs) (.bl false) (xs := List.range rs.length) (e := [.val (wins ws), .val (szl ss), .val (wins rs), .no, .no]) ⟨_, _, rfl⟩ (by
      rintro e k ⟨a, b, rfl⟩ hk
      have hk' : k < ss.length := by rw [← hlen]; exact List.mem_range.mp hk
      obtain ⟨r, l, bb, t, x1, x2, x3, x4, sx, sy, s1, s2, s3⟩ := sz_win (wAt rs k)
      have ix := szl_ix hk'
      have ne := neD_cell (sz (wAt rs k)) (ss.getD k (0, 0))
      have f1 := s_is_free ws (wAt rs k)
      have f2 := s_is_free (rs.take k) (wAt rs k)
      have ct := cut_wins rs k
      have z : (.int ((0 + k : Nat) : Int) : D) = nD k := by rw [Nat.zero_add]; rfl
      have aO : asO (nD k) = some (some (k : Int)) := rfl
      rw [z]
      refine ⟨[.val (wins ws), .val (szl ss), .val (wins rs), .val (nD k), .val (win (wAt rs k))], rfl, ?_⟩
      unfold chkR
      rw [freeP_app]
      generalize decide (sz (wAt rs k) = ss.getD k (0, 0)) = q1 at *
      generalize freeP ws (wAt rs k) = q2 at *
      generalize freeP (rs.take k) (wAt rs k) = q3 at *
      generalize cellD (sz (wAt rs k)) = S at *
      generalize cellD (ss.getD k (0, 0)) = T at *
      generalize win (wAt rs k) = WK at *
      generalize wins (rs.take k) = TK at *
      generalize wins ws = W at *
      generalize wins rs = R at *
      generalize szl ss = SS at *
      cases q1 <;> cases q2 <;> cases q3 <;> simp [B_are_places_0, x1, x2, x3, x4, s1, s2, s3, ix, ne, f1, f2, aO, ct])
    rw [decide_eq_true hlen, Bool.true_and]
    have ne : neD (nD rs.length) (nD ss.length) = some false := by simp [hlen]
    have en2 : enumF (getV 2) [.val (wins ws), .val (szl ss), .val (wins rs), .no, .no] = .ok ((List.range rs.length).map fun i => .itm [.int ((0 + i : Nat) : Int), win (wAt rs i)]) := by
      rw [← en]; rfl
    generalize ((List.range rs.length).map fun i => D.itm [.int ((0 + i : Nat) : Int), win (wAt rs i)]) = EN at *
    generalize hq : (List.range rs.length).all (chkR ws ss rs) = q at *
    generalize (rs.map fun _ => D.bl true) = BL at *
    generalize rs.map win = RM at *
    generalize wins ws = W at *
    generalize wins rs = R at *
    generalize szl ss = SS at *
    cases q with
    | true =>
      obtain ⟨e2, h1, a, b, rfl⟩ := c1 rfl
      simp [fD_are_places, G_are_places, ck, it, l1, l2, ne, sq, e, al, en2, h1]
    | false =>
      have h1 := c2 rfl
      simp [fD_are_places, G_are_places, ck, it, l1, l2, ne, sq, e, al, en2, h1]
  · rw [decide_eq_false hlen, Bool.false_and]
    have ne : neD (nD rs.length) (nD ss.length) = some true := by simp [hlen]
    generalize wins ws = W at *
    generalize wins rs = R at *
    generalize szl ss = SS at *
    simp [fD_are_places, G_are_places, ck, it, l1, l2, ne]
/-- what is found fits -/
theorem chkR_cons (vs : List Win) (s : Int × Int) (ss : List (Int × Int)) (p : Win) (rs : List Win) (k : Nat) : chkR vs (s :: ss) (p :: rs) (k + 1) = chkR (vs ++ [p]) ss rs k := by
  unfold chkR wAt
  simp only [List.getD_cons_succ, List.take_succ_cons]
  rw [List.append_assoc]; rfl
theorem goodR_cons (vs : List Win) (s : Int × Int) (ss : List (Int × Int)) (p : Win) (rs : List Win) : goodR vs (s :: ss) (p :: rs) = (decide (sz p = s) && freeP vs p && goodR (vs ++ [p]) ss rs) := by
  unfold goodR
  rw [List.length_cons, List.length_cons, List.range_succ_eq_map, List.all_cons, List.all_map]
  have e : (chkR vs (s :: ss) (p :: rs) ∘ Nat.succ) = chkR (vs ++ [p]) ss rs := by
    funext k
    exact chkR_cons vs s ss p rs k
  have e0 : chkR vs (s :: ss) (p :: rs) 0 = (decide (sz p = s) && freeP vs p) := by
    unfold chkR wAt
    simp
  rw [e, e0]
  have e1 : decide (rs.length + 1 = ss.length + 1) = decide (rs.length = ss.length) := by
    rw [Bool.eq_iff_iff]; simp
  rw [e1, Bool.and_left_comm]
theorem faW_good : ∀ {ss : List (Int × Int)} {vs rs : List Win}, SzsOk ss → faW vs ss = some rs → goodR vs ss rs = true ∧ ∀ w ∈ rs, w.Ok
  | [], vs, rs, _, h => by cases h; exact ⟨rfl, by simp⟩
  | s :: ss, vs, rs, hs, h => by
    unfold faW at h
    obtain ⟨p, hp, h⟩ := List.exists_of_findSome?_eq_some h
    cases q : faW (vs ++ [p]) ss with
    | none => rw [q] at h; cases h
    | some r =>
      rw [q] at h
      cases h
      obtain ⟨g1, g2⟩ := faW_good (fun z hz => hs z (by simp [hz])) q
      obtain ⟨p1, p2⟩ := List.mem_filter.mp hp
      obtain ⟨o1, o2, o3⟩ := allP_ok (hs s (by simp)) p1
      refine ⟨?_, fun w hw => ?_⟩
      · rw [goodR_cons, g1, p2]
        have : sz p = s := by unfold sz; rw [o2, o3]
        simp [this]
      · rcases List.mem_cons.mp hw with e | hw
        · rw [e]; exact o1
        · exact g2 w hw
theorem plc_ok {vs : List Win} {s : Int × Int} (hs : SzOk s) {w : Win} (h : w ∈ plc vs s) : w.Ok := (allP_ok hs (List.mem_filter.mp h).1).1
theorem pl_winsL (ws : List Win) : plD 2 (.lst (ws.map win)) = true := pl_lst fun d hd => by
  obtain ⟨c, _, rfl⟩ := List.mem_map.mp hd; simp

/-! ### k56: the law's own functions -/
theorem s_law_meet (a b : Win) : fD__law_meet [win a, win b] = .ok (.bl (decide (a.l < b.r) && (decide (b.l < a.r) && (decide (a.t < b.b) && decide (b.t < a.b))))) := by
  simp [fD__law_meet, G__law_meet, win]
theorem meet_ov {a b : Win} (ha : a.Ok) (hb : b.Ok) : (decide (a.l < b.r) && (decide (b.l < a.r) && (decide (a.t < b.b) && decide (b.t < a.b)))) = hasOv a b := by
  rw [Bool.eq_iff_iff, hasOv_iff]
  unfold Win.Ok at ha hb
  simp only [Bool.and_eq_true, decide_eq_true_eq]
  omega
theorem s_meet {a b : Win} (ha : a.Ok) (hb : b.Ok) : fD__law_meet [win a, win b] = .ok (.bl (hasOv a b)) := by
  rw [s_law_meet, meet_ov ha hb]
theorem free_nil (vs : List Win) (w : Win) : decide (vs.filter (fun v => hasOv v w) = []) = freeP vs w := by
  rw [Bool.eq_iff_iff]
  unfold freeP
  simp [List.filter_eq_nil_iff]
theorem lp_step {ws : List Win} {s : Int × Int} (hw : ∀ v ∈ ws, v.Ok) (acc : List D) (ha : acc.length ≤ 1000) (x y : Int) (s5 s6 : Sl) (hp : (pwin s (x, y)).Ok) :
    B__law_places_0 [.val (wins ws), .val (cellD s), .own acc, .val (.int x), .val (.int y), s5, s6] =
      .next [.val (wins ws), .val (cellD s), .own (acc ++ if freeP ws (pwin s (x, y)) = true then [win (pwin s (x, y))] else []), .val (.int x), .val (.int y), .val (win (pwin s (x, y))), s6] := by
  have x0 : ixD (cellD s) (.int 0) = some (.int s.1) := rfl
  have x1 : ixD (cellD s) (.int 1) = some (.int s.2) := rfl
  have e : ∀ b1 b2 b3 b4 b6 : Sl, lcL (.nm 6) [6] (tst (callF fD__law_meet (consF (getV 6) (consF (getV 5) nilF)))) (getV 6) (ws.map win) [.val (wins ws), b1, b2, b3, b4, .val (win (pwin s (x, y))), b6] = .ok ((ws.filter fun v => hasOv v (pwin s (x, y))).map win) := fun _ _ _ _ _ =>
    lcL_ok (fun v => hasOv v (pwin s (x, y))) win fun v hv => ⟨_, rfl, by simp [s_meet (hw v hv) hp], fun _ => by simp⟩
  have pe : D.tup [.int x, .int y, .int (x + s.1), .int (y + s.2)] = win (pwin s (x, y)) := rfl
  have sq : asSeq (wins ws) = some (ws.map win) := rfl
  have ne := eqD_nil (pl_64 (pl_winsL (ws.filter fun v => hasOv v (pwin s (x, y)))))
  have d0 : decide ((ws.filter fun v => hasOv v (pwin s (x, y))).map win = []) = freeP ws (pwin s (x, y)) := by
    rw [← free_nil, Bool.eq_iff_iff]
    simp only [decide_eq_true_eq, List.map_eq_nil_iff]
  rw [d0] at ne
  have sm : small (acc.length + 1) = true := small_le (by omega)
  generalize freeP ws (pwin s (x, y)) = q at *
  generalize (ws.filter fun v => hasOv v (pwin s (x, y))).map win = FL at *
  generalize win (pwin s (x, y)) = PW at *
  generalize cellD s = C at *
  generalize wins ws = W at *
  cases q with
  | true => simp [B__law_places_0, x0, x1, pe, sq, e, ne, appS, sm]
  | false => simp [B__law_places_0, x0, x1, pe, sq, e, ne]
theorem s_law_places {ws : List Win} (hw : ∀ v ∈ ws, v.Ok) {s : Int × Int} (hs : SzOk s) : fD__law_places [wins ws, cellD s] = .ok (.lst ((plc ws s).map win)) := by
  obtain ⟨a, b⟩ := s
  have hs' := hs
  obtain ⟨h1, h2, h3, h4⟩ := hs
  dsimp only at h1 h2 h3 h4
  obtain ⟨m, hm⟩ : ∃ m : Nat, (13 - a).toNat = m := ⟨_, rfl⟩
  obtain ⟨n, hn⟩ : ∃ n : Nat, (13 - b).toNat = n := ⟨_, rfl⟩
  have x0 : ixD (cellD (a, b)) (.int 0) = some (.int a) := rfl
  have x1 : ixD (cellD (a, b)) (.int 1) = some (.int b) := rfl
  have r1 : asRng1 [.int (13 - a)] = some ((List.range m).map nD) := by
    rw [show (13 - a : Int) = (m : Nat) by omega]; exact asRng1_nat (by omega)
  have r2 : asRng1 [.int (13 - b)] = some ((List.range n).map nD) := by
    rw [show (13 - b : Int) = (n : Nat) by omega]; exact asRng1_nat (by omega)
  have ae := allP_eq (a, b)
  rw [hm, hn] at ae
  have inn : ∀ l t : Nat, l < m → t < n → (pwin (a, b) ((l : Int), (t : Int))).Ok := fun l t hl ht => by
    unfold Win.Ok pwin
    dsimp only
    omega
  let out := fun (l t : Nat) => if freeP ws (pwin (a, b) ((l : Int), (t : Int))) = true then [win (pwin (a, b) ((l : Int), (t : Int)))] else []
  have lo : ∀ l t, (out l t).length ≤ 1 := fun l t => by
    show (if _ then _ else _ : List D).length ≤ 1
    split <;> simp
  have lm : ∀ l, ((List.range n).flatMap (out l)).length ≤ 12 := fun l => by
    have := lenF_le 1 (List.range n) (out l) fun t _ => lo l t
    simp at this
    simp
    omega
  obtain ⟨⟨s3, s4, s5⟩, hl⟩ := forL_acc (p := .nm 3) (G := B__law_places_1) (enc := nD) (δ := Sl × Sl × Sl) (fun acc d => [.val (wins ws), .val (cellD (a, b)), .own acc, d.1, d.2.1, d.2.2, .no]) (fun l => (List.range n).flatMap (out l)) 12 500 (xs := List.range m) [] (.no, .no, .no) (by simp; omega) (fun x _ => lm x) (by
    rintro acc ⟨t3, t4, t5⟩ l hlm hb
    have hlm' := List.mem_range.mp hlm
    obtain ⟨⟨t4', t5'⟩, hl2⟩ := forL_acc (p := .nm 4) (G := B__law_places_0) (enc := nD) (δ := Sl × Sl) (fun acc d => [.val (wins ws), .val (cellD (a, b)), .own acc, .val (nD l), d.1, d.2, .no]) (out l) 1 600 (xs := List.range n) acc (t4, t5) (by simp; omega) (fun t _ => lo l t) (by
      rintro acc ⟨u4, u5⟩ t htn hb
      exact ⟨_, (.val (nD t), .val (win (pwin (a, b) ((l : Int), (t : Int))))), rfl, lp_step hw acc (by omega) l t u5 .no (inn l t hlm' (List.mem_range.mp htn))⟩)
    refine ⟨_, (.val (nD l), t4', t5'), rfl, ?_⟩
    generalize cellD (a, b) = C at *
    generalize wins ws = W at *
    simp [B__law_places_1, x1, r2, hl2])
  have em : (List.range m).flatMap (fun l => (List.range n).flatMap (out l)) = (plc ws (a, b)).map win := by
    unfold plc
    rw [ae, List.filter_flatMap, List.map_flatMap]
    congr 1
    funext l
    rw [List.filter_map, List.map_map]
    have : ∀ k : List Nat, k.flatMap (out l) = (k.filter (freeP ws ∘ fun t : Nat => pwin (a, b) ((l : Int), (t : Int)))).map (win ∘ fun t : Nat => pwin (a, b) ((l : Int), (t : Int))) := fun k => by
      induction k with
      | nil => rfl
      | cons t k ih =>
        rw [List.flatMap_cons, ih, List.filter_cons]
        show (if freeP ws (pwin (a, b) ((l : Int), (t : Int))) = true then _ else _) ++ _ = _
        cases q : freeP ws (pwin (a, b) ((l : Int), (t : Int))) <;> simp [q]
    exact this _
  rw [em, List.nil_append] at hl
  have fr : frzE 2 [.val (wins ws), .val (cellD (a, b)), .own ((plc ws (a, b)).map win), s3, s4, s5, .no] = [.val (wins ws), .val (cellD (a, b)), .val (.lst ((plc ws (a, b)).map win)), s3, s4, s5, .no] := rfl
  clear em lm lo
  generalize (plc ws (a, b)).map win = PL at *
  generalize cellD (a, b) = C at *
  generalize wins ws = W at *
  simp [fD__law_places, G__law_places, x0, r1, hl, frzS, fr]
theorem s_law_good {ws rs : List Win} {ss : List (Int × Int)} (hw : ∀ v ∈ ws, v.Ok) (hr : ∀ w ∈ rs, w.Ok) (hl : ws.length + rs.length ≤ 100) : fD__law_good [wins ws, szl ss, wins rs] = .ok (.bl (goodR ws ss rs)) := by
  have l1 : lenD [wins rs] = some (nD rs.length) := len_wins rs
  have l2 : lenD [szl ss] = some (nD ss.length) := by
    show some (D.int ((ss.map cellD).length : Nat)) = _
    rw [List.length_map]; rfl
  have sq : asSeq (wins rs) = some (rs.map win) := rfl
  have en : enumL 0 (rs.map win) = (List.range rs.length).map fun i => .itm [.int ((0 + i : Nat) : Int), win (wAt rs i)] := enumL_map win w0 0 rs
  unfold goodR
  by_cases hlen : rs.length = ss.length
  · obtain ⟨c1, c2⟩ := forL_chk (p := .tp [3, 4]) (G := B__law_good_0) (enc := fun i : Nat => .itm [.int ((0 + i : Nat) : Int), win (wAt rs i)]) (fun e => ∃ a b, e = [.val (wins ws), .val (szl ss), .val (wins rs), a, b, .no]) (chkR ws ss rs) (.bl false) (xs := List.range rs.length) (e := [.val (wins ws), .val (szl ss), .val (wins rs), .no, .no, .no]) ⟨_, _, rfl⟩ (by
      rintro e k ⟨a, b, rfl⟩ hk
      have hk2 := List.mem_range.mp hk
      have hk' : k < ss.length := by rw [← hlen]; exact hk2
      have ok : (wAt rs k).Ok := hr _ (getD_mem hk2)
      obtain ⟨r, l, bb, t, x1, x2, x3, x4, sx, sy, s1, s2, s3⟩ := sz_win (wAt rs k)
      have ix := szl_ix hk'
      have ne := neD_cell (sz (wAt rs k)) (ss.getD k (0, 0))
      have ct := cut_wins rs k
      have z : (.int ((0 + k : Nat) : Int) : D) = nD k := by rw [Nat.zero_add]; rfl
      have aO : asO (nD k) = some (some (k : Int)) := rfl
      rw [z]
      have ad := add_wins ws (rs.take k) (by simp; omega)
      have vok : ∀ v ∈ ws ++ rs.take k, v.Ok := fun v hv => by
        rcases List.mem_append.mp hv with h | h
        · exact hw v h
        · exact hr v (List.mem_of_mem_take h)
      have ef : ∀ b0 b1 b2 b3 b5 : Sl, lcL (.nm 5) [5] (tst (callF fD__law_meet (consF (getV 5) (consF (getV 4) nilF)))) (getV 5) ((ws ++ rs.take k).map win) [b0, b1, b2, b3, .val (win (wAt rs k)), b5] = .ok (((ws ++ rs.take k).filter fun v => hasOv v (wAt rs k)).map win) := fun _ _ _ _ _ =>
        lcL_ok (fun v => hasOv v (wAt rs k)) win fun v hv => ⟨_, rfl, by simp [s_meet (vok v hv) ok], fun _ => by simp⟩
      have sqa : asSeq (wins (ws ++ rs.take k)) = some ((ws ++ rs.take k).map win) := rfl
      have nn := neD_nil (pl_64 (pl_winsL ((ws ++ rs.take k).filter fun v => hasOv v (wAt rs k))))
      have d0 : decide (((ws ++ rs.take k).filter fun v => hasOv v (wAt rs k)).map win = []) = freeP (ws ++ rs.take k) (wAt rs k) := by
        rw [← free_nil, Bool.eq_iff_iff]
        simp only [decide_eq_true_eq, List.map_eq_nil_iff]
      rw [d0] at nn
      refine ⟨[.val (wins ws), .val (szl ss), .val (wins rs), .val (nD k), .val (win (wAt rs k)), .no], rfl, ?_⟩
      unfold chkR
      generalize decide (sz (wAt rs k) = ss.getD k (0, 0)) = q1 at *
      generalize freeP (ws ++ rs.take k) (wAt rs k) = q2 at *
      generalize ((ws ++ rs.take k).filter fun v => hasOv v (wAt rs k)).map win = FL at *
      generalize (ws ++ rs.take k).map win = AL at *
      generalize wins (ws ++ rs.take k) = WA at *
      generalize cellD (sz (wAt rs k)) = S at *
      generalize cellD (ss.getD k (0, 0)) = T at *
      generalize win (wAt rs k) = WK at *
      generalize wins (rs.take k) = TK at *
      generalize wins ws = W at *
      generalize wins rs = R at *
      generalize szl ss = SS at *
      cases q1 <;> cases q2 <;> simp [B__law_good_0, x1, x2, x3, x4, s1, s2, s3, ix, ne, aO, ct, ad, sqa, ef, nn])
    rw [decide_eq_true hlen, Bool.true_and]
    have ne : neD (nD rs.length) (nD ss.length) = some false := by simp [hlen]
    have en2 : enumF (getV 2) [.val (wins ws), .val (szl ss), .val (wins rs), .no, .no, .no] = .ok ((List.range rs.length).map fun i => .itm [.int ((0 + i : Nat) : Int), win (wAt rs i)]) := by
      rw [← en]; rfl
    generalize ((List.range rs.length).map fun i => D.itm [.int ((0 + i : Nat) : Int), win (wAt rs i)]) = EN at *
    generalize hq : (List.range rs.length).all (chkR ws ss rs) = q at *
    generalize rs.map win = RM at *
    generalize wins ws = W at *
    generalize wins rs = R at *
    generalize szl ss = SS at *
    cases q with
    | true =>
      obtain ⟨e2, h1, a, b, rfl⟩ := c1 rfl
      simp [fD__law_good, G__law_good, l1, l2, ne, en2, h1]
    | false =>
      have h1 := c2 rfl
      simp [fD__law_good, G__law_good, l1, l2, ne, en2, h1]
  · rw [decide_eq_false hlen, Bool.false_and]
    have ne : neD (nD rs.length) (nD ss.length) = some true := by simp [hlen]
    generalize wins ws = W at *
    generalize wins rs = R at *
    generalize szl ss = SS at *
    simp [fD__law_good, G__law_good, l1, l2, ne]

/-! ### k56: what is refused -/
def idxP (c : Exc) : Nat := match c with
  | .windows => 0
  | .size => 1
  | _ => 2
theorem s_handP (c : Exc) (hc : c = .windows ∨ c = .size ∨ c = .sizes) (a b d : D) (s3 : Sl) : tryR 3 H__law_error_0 c [.val a, .val b, .val d, s3] = .ret (nD (idxP c)) := by
  rcases hc with rfl | rfl | rfl <;> rfl
theorem s_errT {a b d : D} {c : Exc} (h : B__law_error_0 [.val a, .val b, .val d, .no] = .err c [.val a, .val b, .val d, .no]) (hc : c = .windows ∨ c = .size ∨ c = .sizes) : fD__law_error [a, b, d] = .ok (nD (idxP c)) := by
  have t : tryS exsA 3 B__law_error_0 H__law_error_0 [.val a, .val b, .val d, .no] = .ret (nD (idxP c)) := by
    unfold tryS
    rw [h]
    show (if c ∈ exsA then tryR 3 H__law_error_0 c _ else .bad) = _
    rw [if_pos (by rcases hc with rfl | rfl | rfl <;> decide), s_handP c hc]
  simp [fD__law_error, G__law_error, t]
theorem e_places0 {b d : D} {c : Exc} (h : fD_places [b, d] = .err c) (hc : c = .windows ∨ c = .size ∨ c = .sizes) : fD__law_error [.int 0, b, d] = .ok (nD (idxP c)) := by
  have x : callXF [fD_places, fD_place_all] (getV 0) (consF (getV 1) (consF (getV 2) nilF)) [.val (.int 0), .val b, .val d, .no] = .err c := by
    show (R.bind (.ok [b, d]) fD_places) = _
    exact h
  refine s_errT ?_ hc
  simp [B__law_error_0, x]
theorem e_places1 {b d : D} {c : Exc} (h : fD_place_all [b, d] = .err c) (hc : c = .windows ∨ c = .size ∨ c = .sizes) : fD__law_error [.int 1, b, d] = .ok (nD (idxP c)) := by
  have x : callXF [fD_places, fD_place_all] (getV 0) (consF (getV 1) (consF (getV 2) nilF)) [.val (.int 1), .val b, .val d, .no] = .err c := by
    show (R.bind (.ok [b, d]) fD_place_all) = _
    exact h
  refine s_errT ?_ hc
  simp [B__law_error_0, x]
theorem e_places2 {b d : D} {c : Exc} (h : fD_are_places [b, d, .non] = .err c) (hc : c = .windows ∨ c = .size ∨ c = .sizes) : fD__law_error [.int 2, b, d] = .ok (nD (idxP c)) := by
  refine s_errT ?_ hc
  simp [B__law_error_0, h]
theorem e_places3 {b d : D} {c : Exc} (h : fD_largest_free [b] = .err c) (hc : c = .windows ∨ c = .size ∨ c = .sizes) : fD__law_error [.int 3, b, d] = .ok (nD (idxP c)) := by
  refine s_errT ?_ hc
  simp [B__law_error_0, h]
def badSz : List D := [.non, .tup [], .tup [.int 0, .int 1], .tup [.int 13, .int 1], .lst [.int 1, .int 1], .tup [.int 1, .bl true], .tup [.int 1, .int 1, .int 1], .str "11"]
theorem badSz_all : ∀ d ∈ badSz, fD_is_size [d] = .ok (.bl false) := by
  intro d hd
  unfold badSz at hd
  simp only [List.mem_cons, List.not_mem_nil, or_false] at hd
  rcases hd with rfl | rfl | rfl | rfl | rfl | rfl | rfl | rfl <;> rfl
def badSzs (b : D) : List D := [.non, .tup [], .tup [.tup [.int 1, .int 1]], .lst [b], .lst (List.replicate 4 (.tup [.int 1, .int 1]))]
theorem badSzs_all {ws : List Win} (hw : Wins ws) {b : D} (hb : fD_is_size [b] = .ok (.bl false)) : ∀ d ∈ badSzs b, fD_check_sizes [wins ws, d] = .err .sizes := by
  intro d hd
  unfold badSzs at hd
  simp only [List.mem_cons, List.not_mem_nil, or_false] at hd
  have ck := s_check_windows hw
  have n0 : isLstD .non = some false := rfl
  have n1 : ∀ l, isLstD (.tup l) = some false := fun _ => rfl
  have n2 : ∀ l, isLstD (.lst l) = some true := fun _ => rfl
  have a1 : allD [.lst [.bl false]] = some (.bl false) := rfl
  generalize wins ws = W at *
  rcases hd with rfl | rfl | rfl | rfl | rfl
  · simp [fD_check_sizes, G_check_sizes, ck, n0]
  · simp [fD_check_sizes, G_check_sizes, ck, n1]
  · simp [fD_check_sizes, G_check_sizes, ck, n1]
  · simp [fD_check_sizes, G_check_sizes, ck, n2, lcL, yesF, hb, a1]
  · simp [fD_check_sizes, G_check_sizes, ck, n2]
theorem s_law_rejected {ns : List Int} (h63 : ns.length ≤ 63) {ws : List Win} {ss : List (Int × Int)} (hw : Wins ws) (h3 : ss.length ≤ 2) (hs : SzsOk ss) : fD__law_rejected [.scr ns, wins ws, szl ss] = .ok (.bl true) := by
  obtain ⟨odd, hod, hob⟩ := s_badwindows h63 (k := 3) (by omega)
  obtain ⟨u, hu, u0, u1⟩ := s_drawn h63 (k := 4) (m := 8) (by omega) (by omega)
  obtain ⟨bad, hbm, ixb⟩ := ix_pick (xs := badSz) u0 (by show u < 8; omega)
  have hb := badSz_all bad hbm
  obtain ⟨v, hv, v0, v1⟩ := s_drawn h63 (k := 5) (m := 5) (by omega) (by omega)
  obtain ⟨wrong, hwm, ixw⟩ := ix_pick (xs := badSzs bad) v0 (by show v < 5; omega)
  have hwr := badSzs_all hw hb wrong hwm
  have ckw := e_windows hob
  have cks := s_check_sizes hw (by omega) hs
  have l2 : lenD [szl ss] = some (nD ss.length) := by
    show some (D.int ((ss.map cellD).length : Nat)) = _
    rw [List.length_map]; rfl
  have p0 : fD_places [odd, bad] = .err .windows := by simp [fD_places, G_places, ckw]
  have c0 : ∀ d, fD_check_sizes [odd, d] = .err .windows := fun d => by simp [fD_check_sizes, G_check_sizes, ckw]
  have p1 : fD_place_all [odd, wrong] = .err .windows := by simp [fD_place_all, G_place_all, c0]
  have p2 : fD_are_places [odd, wrong, .non] = .err .windows := by simp [fD_are_places, G_are_places, c0]
  have p3 : fD_largest_free [odd] = .err .windows := by simp [fD_largest_free, G_largest_free, ckw]
  have q0 : fD_places [wins ws, bad] = .err .size := by simp [fD_places, G_places, s_check_windows hw, hb]
  have q1 : fD_place_all [wins ws, wrong] = .err .sizes := by simp [fD_place_all, G_place_all, hwr]
  have q2 : fD_are_places [wins ws, wrong, .non] = .err .sizes := by simp [fD_are_places, G_are_places, hwr]
  have E0 := e_places0 p0 (by simp)
  have E1 := e_places1 p1 (by simp)
  have E2 := e_places2 p2 (by simp)
  have E3 : fD__law_error [.int 3, odd, .int 0] = _ := e_places3 p3 (by simp)
  have E4 := e_places0 q0 (by simp)
  have E5 := e_places1 q1 (by simp)
  have E6 := e_places2 q2 (by simp)
  obtain ⟨n, hn⟩ : ∃ n, ss.length = n := ⟨_, rfl⟩
  have m1 : mulD (.tup [.tup [.int 0, .int 0, .int 0, .int 1]]) (nD n) = some (.tup (List.replicate n (.tup [.int 0, .int 0, .int 0, .int 1]))) := by
    have : n = 0 ∨ n = 1 ∨ n = 2 := by omega
    rcases this with rfl | rfl | rfl <;> rfl
  have m2 : mulD (.tup [.str "a"]) (.int ((n : Int) + 1)) = some (.tup (List.replicate (n + 1) (.str "a"))) := by
    have : n = 0 ∨ n = 1 ∨ n = 2 := by omega
    rcases this with rfl | rfl | rfl <;> rfl
  have m3 : addD (.tup (List.replicate n (.tup [.int 0, .int 0, .int 0, .int 1]))) (.tup [.tup [.int 0, .int 0, .int 1, .int 1]]) = some (.tup (List.replicate n (.tup [.int 0, .int 0, .int 0, .int 1]) ++ [.tup [.int 0, .int 0, .int 1, .int 1]])) := by
    have : n = 0 ∨ n = 1 ∨ n = 2 := by omega
    rcases this with rfl | rfl | rfl <;> rfl
  have ap : ∀ d, (d = .non ∨ d = .lst [] ∨ d = .tup (List.replicate n (.tup [.int 0, .int 0, .int 0, .int 1]) ++ [.tup [.int 0, .int 0, .int 1, .int 1]]) ∨ d = .tup (List.replicate (n + 1) (.str "a"))) → fD_are_places [wins ws, szl ss, d] = .ok (.bl false) := fun d hd => by
    have t0 : isTupD .non = some false := rfl
    have ne : neD (.int ((n + 1 : Nat) : Int)) (nD n) = some true := by
      show neD (nD (n + 1)) (nD n) = _
      simp
    rw [hn] at l2
    rcases hd with rfl | rfl | rfl | rfl
    · simp [fD_are_places, G_are_places, cks, t0]
    · simp [fD_are_places, G_are_places, cks]
    · have l1 : lenD [.tup (List.replicate n (.tup [.int 0, .int 0, .int 0, .int 1]) ++ [.tup [.int 0, .int 0, .int 1, .int 1]])] = some (.int ((n + 1 : Nat) : Int)) := by
        show some (D.int ((List.replicate n _ ++ [_] : List D).length : Nat)) = _
        simp
      generalize List.replicate n (D.tup [.int 0, .int 0, .int 0, .int 1]) ++ [.tup [.int 0, .int 0, .int 1, .int 1]] = L at *
      have it : isTupD (.tup L) = some true := rfl
      generalize D.tup L = T at *
      generalize ((n + 1 : Nat) : Int) = n1 at *
      simp [fD_are_places, G_are_places, cks, it, l1, l2, ne]
    · have l1 : lenD [.tup (List.replicate (n + 1) (.str "a"))] = some (.int ((n + 1 : Nat) : Int)) := by
        show some (D.int ((List.replicate (n + 1) _ : List D).length : Nat)) = _
        simp
      generalize List.replicate (n + 1) (D.str "a") = L at *
      have it : isTupD (.tup L) = some true := rfl
      generalize D.tup L = T at *
      generalize ((n + 1 : Nat) : Int) = n1 at *
      simp [fD_are_places, G_are_places, cks, it, l1, l2, ne]
  have a0 := ap .non (by simp)
  have a1 := ap (.lst []) (by simp)
  have a2 := ap _ (.inr (.inr (.inl rfl)))
  have a3 := ap _ (.inr (.inr (.inr rfl)))
  clear ap hwm hbm
  rw [hn] at l2
  generalize (.tup (List.replicate n (.tup [.int 0, .int 0, .int 0, .int 1]) ++ [.tup [.int 0, .int 0, .int 1, .int 1]]) : D) = T2 at *
  generalize (.tup (List.replicate n (.tup [.int 0, .int 0, .int 0, .int 1])) : D) = T1 at *
  generalize (.tup (List.replicate (n + 1) (.str "a")) : D) = T3 at *
  have lp : forL (.nm 6) B__law_rejected_0 [.non, .lst [], T2, T3] [.val (.scr ns), .val (wins ws), .val (szl ss), .val odd, .val bad, .val wrong, .no, .no] = .next [.val (.scr ns), .val (wins ws), .val (szl ss), .val odd, .val bad, .val wrong, .val T3, .no] := by
    generalize wins ws = W at *
    generalize szl ss = SS at *
    simp [forL, B__law_rejected_0, a0, a1, a2, a3]
  have bs : [D.non, .tup [], .tup [.int 0, .int 1], .tup [.int 13, .int 1], .lst [.int 1, .int 1], .tup [.int 1, .bl true], .tup [.int 1, .int 1, .int 1], .str "11"] = badSz := rfl
  have r4 : repD (.lst [.tup [.int 1, .int 1]]) (.int 4) = some [.tup [.int 1, .int 1], .tup [.int 1, .int 1], .tup [.int 1, .int 1], .tup [.int 1, .int 1]] := rfl
  have bss : [D.non, .tup [], .tup [.tup [.int 1, .int 1]], .lst [bad], .lst [.tup [.int 1, .int 1], .tup [.int 1, .int 1], .tup [.int 1, .int 1], .tup [.int 1, .int 1]]] = badSzs bad := rfl
  have s8 : small badSz.length = true := rfl
  have s5 : small (badSzs bad).length = true := rfl
  have r0 : repD (.lst [.int 0]) (.int 4) = some [.int 0, .int 0, .int 0, .int 0] := rfl
  have k1 : catD (.lst [nD 0, nD 0, nD 0]) (.lst [nD 0]) = some [nD 0, nD 0, nD 0, nD 0] := rfl
  have k2 : catD (.lst [nD 0, nD 0, nD 0, nD 0]) (.lst [nD 1, nD 2]) = some [nD 0, nD 0, nD 0, nD 0, nD 1, nD 2] := rfl
  have k3 : catD (.lst [nD 0, nD 0, nD 0, nD 0, nD 1, nD 2]) (.lst [nD 2]) = some [nD 0, nD 0, nD 0, nD 0, nD 1, nD 2, nD 2] := rfl
  have k4 : catD (.lst [.int 0, .int 0, .int 0, .int 0]) (.lst [.int 1, .int 2, .int 2]) = some [nD 0, nD 0, nD 0, nD 0, nD 1, nD 2, nD 2] := rfl
  have ee : eqD (.lst [nD 0, nD 0, nD 0, nD 0, nD 1, nD 2, nD 2]) (.lst [nD 0, nD 0, nD 0, nD 0, nD 1, nD 2, nD 2]) = some true := rfl
  have i0 : idxP .windows = 0 := rfl
  have i1 : idxP .size = 1 := rfl
  have i2 : idxP .sizes = 2 := rfl
  have adn : addD (nD n) (.int 1) = some (.int ((n : Int) + 1)) := rfl
  rw [i0] at E0 E1 E2 E3
  rw [i1] at E4
  rw [i2] at E5 E6
  generalize wins ws = W at *
  generalize szl ss = SS at *
  generalize nD n = N at *
  simp [fD__law_rejected, G__law_rejected, hod, hu, hv, bs, bss, s8, s5, ixb, ixw, r4, l2, m1, m2, m3, adn, lp, E0, E1, E2, E3, E4, E5, E6, k1, k2, k3, r0, k4, ee]

/-! ### k56: the law -/
def fstP (ws : List Win) (s : Int × Int) : Win := ((plc ws s).head?).getD ⟨0, 0, 1, 1⟩
theorem head_cut (xs : List D) : cutF (.lst xs) none (some 1) = some (.lst (xs.take 1)) := by
  show some (D.lst (cutD xs none (some ((1 : Nat) : Int)))) = _
  rw [cut_lo]
theorem faW_one {ws : List Win} {s : Int × Int} (h : faW ws [s] = none) : plc ws s = [] := by
  cases q : plc ws s with
  | nil => rfl
  | cons p ps => unfold faW at h; rw [q] at h; simp [faW] at h
theorem faW_two {ws : List Win} {s o : Int × Int} (h : faW ws [s, o] = none) : ∀ p ∈ plc ws s, plc (ws ++ [p]) o = [] := fun p hp => by
  unfold faW at h
  have := List.findSome?_eq_none_iff.mp h p hp
  rw [Option.map_eq_none_iff] at this
  exact faW_one this
theorem fst_row (ws : List Win) (z : Int × Int) (b0 b1 b2 b3 b4 b5 b6 b7 b8 b9 b10 b11 : Sl) : ifF (bin neD (getB 12) (mkL (lstF nilF))) (bin ixD (getB 12) (cst (.int 0))) (tupF (consF (cst (.int 0)) (consF (cst (.int 0)) (consF (cst (.int 1)) (consF (cst (.int 1)) nilF))))) [b0, b1, b2, b3, b4, b5, b6, b7, b8, b9, b10, b11, .val (.lst (((plc ws z).map win).take 1))] = .ok (win (fstP ws z)) := by
  unfold fstP
  cases q : plc ws z with
  | nil =>
    have e : (((([] : List Win).map win).take 1)) = ([] : List D) := rfl
    have f : win ((([] : List Win).head?).getD ⟨0, 0, 1, 1⟩) = .tup [.int 0, .int 0, .int 1, .int 1] := rfl
    rw [e, f]
    simp
  | cons p r =>
    have ne : neD (.lst [win p]) (.lst []) = some true := by
      rw [show ([win p] : List D) = [p].map win from rfl, neD_nil (pl_64 (pl_winsL [p]))]; rfl
    have ix : ixD (.lst [win p]) (.int 0) = some (win p) := rfl
    have t1 : ((p :: r).map win).take 1 = [win p] := rfl
    have f : win (((p :: r).head?).getD ⟨0, 0, 1, 1⟩) = win p := rfl
    rw [t1, f]
    generalize win p = P at *
    simp [ne, ix]
theorem law_0 {ws : List Win} {o : Int × Int} (hw : ∀ v ∈ ws, v.Ok) (hl : ws.length ≤ 100) (ho : SzOk o) : ∀ (ps : List Win) (b0 b2 b3 b4 b5 b6 b7 b9 b10 b11 b12 : Sl), (∀ p ∈ ps, p.Ok ∧ plc (ws ++ [p]) o = []) → ∃ t, forL (.nm 11) B_law_0 (ps.map win) [b0, .val (wins ws), b2, b3, b4, b5, b6, b7, .val (cellD o), b9, b10, b11, b12] = .next [b0, .val (wins ws), b2, b3, b4, b5, b6, b7, .val (cellD o), b9, b10, t, b12]
  | [], _, _, _, _, _, _, _, _, _, b11, _, _ => ⟨b11, rfl⟩
  | p :: ps, b0, b2, b3, b4, b5, b6, b7, b9, b10, b11, b12, h => by
    obtain ⟨hp, h0⟩ := h p (by simp)
    obtain ⟨t, ih⟩ := law_0 hw hl ho ps b0 b2 b3 b4 b5 b6 b7 b9 b10 (.val (win p)) b12 fun q hq => h q (by simp [hq])
    have lp := s_law_places (ws := ws ++ [p]) (fun v hv => by
      rcases List.mem_append.mp hv with z | z
      · exact hw v z
      · rw [List.mem_singleton.mp z]; exact hp) ho
    have a1 := add_wins ws [p] (by simp; omega)
    have w1 : wins [p] = .tup [win p] := rfl
    rw [w1] at a1
    rw [h0] at lp
    refine ⟨t, ?_⟩
    rw [List.map_cons]
    unfold forL
    have b : B_law_0 [b0, .val (wins ws), b2, b3, b4, b5, b6, b7, .val (cellD o), b9, b10, .val (win p), b12] = .next [b0, .val (wins ws), b2, b3, b4, b5, b6, b7, .val (cellD o), b9, b10, .val (win p), b12] := by
      generalize win p = P at *
      generalize cellD o = O at *
      generalize wins (ws ++ [p]) = WP at *
      generalize wins ws = W at *
      simp [B_law_0, a1, lp]
    simp only [e_bindN, e_set0, e_setS, b]
    exact ih
theorem law_true (ns : List Int) (h63 : ns.length ≤ 63) : fD_law [.scr ns] = .ok (.bl true) := by
  obtain ⟨us, hu, um, up, _⟩ := s_windows2 h63 (k := 10) (most := 4) (by omega) (by omega)
  obtain ⟨v1, hv1, a1, b1⟩ := s_drawn h63 (k := 1) (m := 2) (by omega) (by omega)
  obtain ⟨ws, hws, hw, wl⟩ : ∃ ws : List Win, (ws = if v1 = 0 then us.take 3 ++ [⟨0, 0, 12, 5⟩, ⟨4, 5, 12, 12⟩] else us) ∧ Wins ws ∧ ws.length ≤ 5 := by
    refine ⟨_, rfl, ?_, ?_⟩
    · by_cases q : v1 = 0
      · rw [if_pos q]
        refine ⟨fun w h => ?_, by simp; omega⟩
        rcases List.mem_append.mp h with h | h
        · exact hu.ok w (List.mem_of_mem_take h)
        · simp only [List.mem_cons, List.not_mem_nil, or_false] at h
          rcases h with rfl | rfl <;> simp [Win.Ok]
      · rw [if_neg q]; exact hu
    · by_cases q : v1 = 0
      · rw [if_pos q]; simp; omega
      · rw [if_neg q]; omega
  obtain ⟨x0, hx0, xa0, xb0⟩ := s_drawn h63 (k := 50) (m := 9) (by omega) (by omega)
  obtain ⟨x1, hx1, xa1, xb1⟩ := s_drawn h63 (k := 51) (m := 9) (by omega) (by omega)
  obtain ⟨y0, hy0, ya0, yb0⟩ := s_drawn h63 (k := 52) (m := 9) (by omega) (by omega)
  obtain ⟨y1, hy1, ya1, yb1⟩ := s_drawn h63 (k := 53) (m := 9) (by omega) (by omega)
  have hs : SzOk (4 + x0, 4 + y0) := by unfold SzOk; dsimp only; omega
  have ho : SzOk (4 + x1, 4 + y1) := by unfold SzOk; dsimp only; omega
  have cs : D.tup [.int (4 + x0), .int (4 + y0)] = cellD (4 + x0, 4 + y0) := rfl
  have co : D.tup [.int (4 + x1), .int (4 + y1)] = cellD (4 + x1, 4 + y1) := rfl
  have un : unpS (.tp [7, 8]) (mkL (lcF (.nm 9) [9] yesF (tupF (consF (bin addD (cst (.int 4)) (callF fD__law_drawn (consF (getV 0) (consF (bin addD (cst (.int 50)) (getV 9)) (consF (cst (.int 9)) nilF))))) (consF (bin addD (cst (.int 4)) (callF fD__law_drawn (consF (getV 0) (consF (bin addD (cst (.int 52)) (getV 9)) (consF (cst (.int 9)) nilF))))) nilF))) (seqF (tupF (consF (cst (.int 0)) (consF (cst (.int 1)) nilF)))))) [.val (.scr ns), .val (wins ws), .no, .no, .no, .no, .no, .no, .no, .no, .no, .no, .no] =
      .next [.val (.scr ns), .val (wins ws), .no, .no, .no, .no, .no, .val (cellD (4 + x0, 4 + y0)), .val (cellD (4 + x1, 4 + y1)), .no, .no, .no, .no] := by
    refine unp_ok (d := .lst [cellD (4 + x0, 4 + y0), cellD (4 + x1, 4 + y1)]) ?_ rfl
    simp [lcL, yesF, hx0, hx1, hy0, hy1, cs, co]
  generalize hS : (4 + x0, 4 + y0) = s at *
  generalize hO : (4 + x1, 4 + y1) = o at *
  obtain ⟨v2, hv2, a2, b2⟩ := s_drawn h63 (k := 2) (m := 3) (by omega) (by omega)
  have lp := s_law_places hw.ok hs
  have ps := s_places hw hs
  have nn := neD_self (pl_64 (pl_winsL (plc ws s)))
  have w1 : ifS (bin eqD (callF fD__law_drawn (consF (getV 0) (consF (cst (.int 1)) (consF (cst (.int 2)) nilF)))) (cst (.int 0))) (setS 1 (bin addD (sliceF (getB 1) noO (someO (cst (.int 3)))) (tupF (consF (tupF (consF (cst (.int 0)) (consF (cst (.int 0)) (consF (cst (.int 12)) (consF (cst (.int 5)) nilF))))) (consF (tupF (consF (cst (.int 4)) (consF (cst (.int 5)) (consF (cst (.int 12)) (consF (cst (.int 12)) nilF))))) nilF))))) skipS [.val (.scr ns), .val (wins us), .no, .no, .no, .no, .no, .no, .no, .no, .no, .no, .no] =
      .next [.val (.scr ns), .val (wins ws), .no, .no, .no, .no, .no, .no, .no, .no, .no, .no, .no] := by
    have ct : cutF (wins us) none (some 3) = some (wins (us.take 3)) := cut_wins us 3
    have ad := add_wins (us.take 3) [⟨0, 0, 12, 5⟩, ⟨4, 5, 12, 12⟩] (by simp; omega)
    have w2 : wins [⟨0, 0, 12, 5⟩, ⟨4, 5, 12, 12⟩] = .tup [.tup [.int 0, .int 0, .int 12, .int 5], .tup [.int 4, .int 5, .int 12, .int 12]] := rfl
    rw [w2] at ad
    rw [hws]
    by_cases q : v1 = 0
    · rw [if_pos q]
      have e0 : eqD (.int v1) (.int 0) = some true := by rw [eqD_int, decide_eq_true q]
      generalize wins (us.take 3 ++ [⟨0, 0, 12, 5⟩, ⟨4, 5, 12, 12⟩]) = R1 at *
      generalize wins (us.take 3) = R2 at *
      simp [hv1, e0, ct, ad]
    · rw [if_neg q]
      have e0 : eqD (.int v1) (.int 0) = some false := by rw [eqD_int, decide_eq_false q]
      simp [hv1, e0]
  -- the sizes
  obtain ⟨ss, hc, hso, hl3, hcase⟩ : ∃ ss : List (Int × Int), cutF (.lst [cellD s, cellD o, cellD s]) none (some v2) = some (szl ss) ∧ SzsOk ss ∧ ss.length ≤ 2 ∧ (ss = [] ∨ ss = [s] ∨ ss = [s, o]) := by
    have : v2 = 0 ∨ v2 = 1 ∨ v2 = 2 := by omega
    rcases this with rfl | rfl | rfl
    · exact ⟨[], rfl, fun z hz => by simp at hz, by simp, by simp⟩
    · exact ⟨[s], rfl, fun z hz => by simp at hz; rw [hz]; exact hs, by simp, by simp⟩
    · exact ⟨[s, o], rfl, fun z hz => by simp at hz; rcases hz with rfl | rfl <;> assumption, by simp, by simp⟩
  have pa := s_place_all hw (by omega) hso
  have l2 : lenD [szl ss] = some (nD ss.length) := by
    show some (D.int ((ss.map cellD).length : Nat)) = _
    rw [List.length_map]; rfl
  have rj := s_law_rejected h63 hw hl3 hso
  -- the rows
  have fok : ∀ z, SzOk z → (fstP ws z).Ok := fun z hz => by
    unfold fstP
    cases q : plc ws z with
    | nil => simp [Win.Ok]
    | cons p r => exact plc_ok hz (vs := ws) (by rw [q]; simp)
  have rok : ∀ w ∈ ss.map (fstP ws), w.Ok := fun w hwm => by
    obtain ⟨z, hz, rfl⟩ := List.mem_map.mp hwm
    exact fok z (hso z hz)
  have g1 := s_are_places (ss := ss) hw (by omega) hso rok (by simp; omega)
  have g2 := s_law_good (ss := ss) hw.ok rok (by simp; omega)
  have e5 : ∀ b0 b2 b3 b4 b5 b6 b7 b8 b9 b10 b11 b12 : Sl, lcL (.nm 10) [10] yesF (sliceF (callF fD__law_places (consF (getV 1) (consF (getV 10) nilF))) noO (someO (cst (.int 1)))) (ss.map cellD) [b0, .val (wins ws), b2, b3, b4, b5, b6, b7, b8, b9, b10, b11, b12] = .ok (ss.map fun z => .lst (((plc ws z).map win).take 1)) := fun _ _ _ _ _ _ _ _ _ _ _ _ =>
    lcL_all (fun z => .lst (((plc ws z).map win).take 1)) fun z hz => ⟨_, rfl, by
      have := s_law_places hw.ok (hso z hz)
      have hc := head_cut ((plc ws z).map win)
      generalize ((plc ws z).map win).take 1 = T at *
      generalize (plc ws z).map win = PL at *
      simp [this, hc]⟩
  have e6 : ∀ b0 b1 b2 b3 b4 b5 b6 b7 b8 b9 b10 b11 b12 : Sl, lcL (.nm 12) [12] yesF (ifF (bin neD (getB 12) (mkL (lstF nilF))) (bin ixD (getB 12) (cst (.int 0))) (tupF (consF (cst (.int 0)) (consF (cst (.int 0)) (consF (cst (.int 1)) (consF (cst (.int 1)) nilF)))))) (ss.map fun z => .lst (((plc ws z).map win).take 1)) [b0, b1, b2, b3, b4, b5, b6, b7, b8, b9, b10, b11, b12] = .ok ((ss.map (fstP ws)).map win) := fun _ _ _ _ _ _ _ _ _ _ _ _ _ => by
    rw [List.map_map]
    exact lcL_all (enc := fun z => .lst (((plc ws z).map win).take 1)) (win ∘ fstP ws) fun z hz => ⟨_, rfl, fst_row ws z _ _ _ _ _ _ _ _ _ _ _ _⟩
  have sqs : asSeq (szl ss) = some (ss.map cellD) := rfl
  have tp : tupleD [.lst ((ss.map (fstP ws)).map win)] = some (wins (ss.map (fstP ws))) := rfl
  have sq5 : asSeq (.lst (ss.map fun z => .lst (((plc ws z).map win).take 1))) = some (ss.map fun z => .lst (((plc ws z).map win).take 1)) := rfl
  have ng : neD (.bl (goodR ws ss (ss.map (fstP ws)))) (.bl (goodR ws ss (ss.map (fstP ws)))) = some false := by rw [neD_bl]; simp
  -- what place_all tells
  have mid : ∃ t11, (ifS (bin notNoneD (getB 4) (cst .non)) (ifS (orF (notF (tst (callF fD__law_good (consF (getV 1) (consF (getV 3) (consF (getV 4) nilF)))))) (bin notBD (callF fD_are_places (consF (getV 1) (consF (getV 3) (consF (getV 4) nilF)))) (cst (.bl true)))) (retS (cst (.bl false))) skipS) (ifS (andF (bin eqD (appL lenD (consF (getB 3) nilF)) (cst (.int 1))) (bin neD (getB 2) (mkL (lstF nilF)))) (retS (cst (.bl false))) (ifS (bin eqD (appL lenD (consF (getB 3) nilF)) (cst (.int 2))) (forS (.nm 11) (seqF (getV 2)) B_law_0) skipS)))
      [.val (.scr ns), .val (wins ws), .val (.lst ((plc ws s).map win)), .val (szl ss), .val (optT (faW ws ss)), .no, .no, .val (cellD s), .val (cellD o), .no, .no, .no, .no] =
      .next [.val (.scr ns), .val (wins ws), .val (.lst ((plc ws s).map win)), .val (szl ss), .val (optT (faW ws ss)), .no, .no, .val (cellD s), .val (cellD o), .no, .no, t11, .no] := by
    cases q : faW ws ss with
    | some rs =>
      obtain ⟨gr, ro⟩ := faW_good hso q
      have lr := faW_len q
      have p1 := s_are_places (ss := ss) hw (by omega) hso ro (by omega)
      have p2 := s_law_good (ss := ss) hw.ok ro (by omega)
      rw [gr] at p1 p2
      refine ⟨.no, ?_⟩
      have ot : optT (some rs) = wins rs := rfl
      have n1 : noRaw (wins rs) = true := rfl
      have n2 : isNon (wins rs) = false := rfl
      rw [ot]
      generalize wins rs = R at *
      generalize wins ws = W at *
      generalize szl ss = SS at *
      simp [n1, n2, p1, p2]
    | none =>
      have ot : optT none = .non := rfl
      rw [ot]
      rcases hcase with rfl | rfl | rfl
      · simp [faW] at q
      · have e0 := faW_one q
        refine ⟨.no, ?_⟩
        rw [e0]
        have l1 : lenD [szl [s]] = some (.int 1) := rfl
        have q1 : eqD (.int 1) (.int 2) = some false := rfl
        generalize szl [s] = SS at *
        generalize wins ws = W at *
        simp [l1, q1]
      · have e0 := faW_two q
        obtain ⟨t, hl⟩ := law_0 hw.ok (by omega) ho (plc ws s) (.val (.scr ns)) (.val (.lst ((plc ws s).map win))) (.val (szl [s, o])) (.val .non) .no .no (.val (cellD s)) .no .no .no .no fun p hp => ⟨plc_ok hs hp, e0 p hp⟩
        refine ⟨t, ?_⟩
        have l1 : lenD [szl [s, o]] = some (.int 2) := rfl
        have q1 : eqD (.int 2) (.int 1) = some false := rfl
        generalize (plc ws s).map win = PL at *
        generalize szl [s, o] = SS at *
        generalize cellD s = CS at *
        generalize cellD o = CO at *
        generalize wins ws = W at *
        simp [l1, q1, hl]
  obtain ⟨t11, mid⟩ := mid
  clear hws hO hS hcase fok rok
  generalize goodR ws ss (ss.map (fstP ws)) = GB at *
  generalize (ss.map (fstP ws)).map win = FW at *
  generalize wins (ss.map (fstP ws)) = FT at *
  generalize (ss.map fun z => D.lst (((plc ws z).map win).take 1)) = RW at *
  generalize ss.map cellD = SC at *
  generalize optT (faW ws ss) = OT at *
  generalize (plc ws s).map win = PL at *
  generalize szl ss = SS at *
  generalize cellD s = CS at *
  generalize cellD o = CO at *
  generalize wins ws = W at *
  generalize wins us = U at *
  unfold fD_law G_law
  generalize (ifS (bin notNoneD (getB 4) (cst .non)) (ifS (orF (notF (tst (callF fD__law_good (consF (getV 1) (consF (getV 3) (consF (getV 4) nilF)))))) (bin notBD (callF fD_are_places (consF (getV 1) (consF (getV 3) (consF (getV 4) nilF)))) (cst (.bl true)))) (retS (cst (.bl false))) skipS) (ifS (andF (bin eqD (appL lenD (consF (getB 3) nilF)) (cst (.int 1))) (bin neD (getB 2) (mkL (lstF nilF)))) (retS (cst (.bl false))) (ifS (bin eqD (appL lenD (consF (getB 3) nilF)) (cst (.int 2))) (forS (.nm 11) (seqF (getV 2)) B_law_0) skipS))) = MID at *
  simp only [e_fn, List.length_cons, List.length_nil, Nat.reduceAdd, if_true, List.map_cons, List.map_nil, List.cons_append, List.nil_append, Nat.reduceSub, List.replicate_succ, List.replicate_zero, e_seq, u_set, u_mkL, u_lst, u_cons, u_cst, u_nil, e_bind, e_map, e_bindS, e_set0, e_setS, e_seqN, u_bin, e_getBs, e_getB0, e_getVs, e_getV0, u_appL, e_some, u_call, up, w1, un, lp, u_if, ps, nn, small_3, u_slice, u_noO, u_someO, hv2, u_asO, hc, pa, mid, u_lc, u_seqF, sqs, e5, sq5, e6, tp, g1, g2, ng, u_ret, rj, e_runR, u_skip, Bool.false_eq_true, if_false]

end PD

set_option maxHeartbeats 0
namespace Hd
open PySem PySem.Spec PyProof.Rows L2 PD
abbrev cls (K : PySem.W.Frag) : Exc → Addr := clsK K
theorem facts {P : Program} {w : World} {K : PySem.W.Frag} {h : Heap} {mg : Str → Option Value} {f : Addr} (X : K.In h) (G : h.Ns mainGlobals mg) (hfa : mg ("law" : Str) = some (.ref f)) (c : He.SaysD fa fn K) (ce : excOk exsA K = true) :
    ∃ fd : FuncData, (∀ (s : Shared) (v : Value), BindsTo s fd ⟨[v], []⟩ [("_law_script", v)]) ∧ ∀ base : Heap, K.In base → base.Ns mainGlobals mg → FnOk P w K mg base (L2.CX P w) 11 f fd ["_law_script"] (spD K (cls K) 1 fD_law) := by
  obtain ⟨fd_is_int, F_is_int⟩ := c.def_ 0 (d := mk "is_int" (top 8)) rfl
  obtain ⟨fd_find_overlap, F_find_overlap⟩ := c.def_ 4 (d := mk "find_overlap" (top 12)) rfl
  obtain ⟨fd_all_places, F_all_places⟩ := c.def_ 7 (d := mk "all_places" (top 17)) rfl
  obtain ⟨fd__law_drawn, F__law_drawn⟩ := c.def_ 15 (d := mk "_law_drawn" (top 26)) rfl
  obtain ⟨fd__law_meet, F__law_meet⟩ := c.def_ 18 (d := mk "_law_meet" (top 29)) rfl
  obtain ⟨fd_is_window, F_is_window⟩ := c.def_ 1 (d := mk "is_window" (top 9)) rfl
  obtain ⟨fd_is_size, F_is_size⟩ := c.def_ 5 (d := mk "is_size" (top 15)) rfl
  obtain ⟨fd_is_free, F_is_free⟩ := c.def_ 6 (d := mk "is_free" (top 16)) rfl
  obtain ⟨fd__law_window, F__law_window⟩ := c.def_ 16 (d := mk "_law_window" (top 27)) rfl
  obtain ⟨fd__law_badwindows, F__law_badwindows⟩ := c.def_ 19 (d := mk "_law_badwindows" (top 30)) rfl
  obtain ⟨fd__law_places, F__law_places⟩ := c.def_ 21 (d := mk "_law_places" (top 32)) rfl
  obtain ⟨fd__law_good, F__law_good⟩ := c.def_ 22 (d := mk "_law_good" (top 33)) rfl
  obtain ⟨fd_are_windows, F_are_windows⟩ := c.def_ 2 (d := mk "are_windows" (top 10)) rfl
  obtain ⟨fd_find_places, F_find_places⟩ := c.def_ 8 (d := mk "find_places" (top 18)) rfl
  obtain ⟨fd__law_windows, F__law_windows⟩ := c.def_ 17 (d := mk "_law_windows" (top 28)) rfl
  obtain ⟨fd_check_windows, F_check_windows⟩ := c.def_ 3 (d := mk "check_windows" (top 11)) rfl
  obtain ⟨fd_places, F_places⟩ := c.def_ 9 (d := mk "places" (top 19)) rfl
  obtain ⟨fd_check_sizes, F_check_sizes⟩ := c.def_ 10 (d := mk "check_sizes" (top 20)) rfl
  obtain ⟨fd_largest_free, F_largest_free⟩ := c.def_ 14 (d := mk "largest_free" (top 24)) rfl
  obtain ⟨fd_are_places, F_are_places⟩ := c.def_ 13 (d := mk "are_places" (top 23)) rfl
  obtain ⟨fd_find_all, F_find_all⟩ := c.def_ 11 (d := mk "find_all" (top 21)) rfl
  obtain ⟨fd_place_all, F_place_all⟩ := c.def_ 12 (d := mk "place_all" (top 22)) rfl
  obtain ⟨fd__law_error, F__law_error⟩ := c.def_ 20 (d := mk "_law_error" (top 31)) rfl
  obtain ⟨fd__law_rejected, F__law_rejected⟩ := c.def_ 23 (d := mk "_law_rejected" (top 34)) rfl
  obtain ⟨fd_law, F_law⟩ := c.def_ 24 (d := mk "law" (top 35)) rfl
  have e := hfa.symm.trans (He.glo_ok X G (c.fact 34 (f := .glo "law") rfl))
  cases e
  have b := FunD.bindsA (ps := ["_law_script"]) F_law fun _ _ _ _ _ _ us hl => match us, hl with | [_], _ => rfl
  refine ⟨fd_law, fun s v => b s [v] rfl, fun base _ _ => ?_⟩
  have B : Bi mg := ⟨He.free_ok X G (c.fact 35 (f := .free "len") rfl), He.free_ok X G (c.fact 36 (f := .free "all") rfl), He.free_ok X G (c.fact 37 (f := .free "any") rfl), He.free_ok X G (c.fact 38 (f := .free "isinstance") rfl), He.free_ok X G (c.fact 39 (f := .free "tuple") rfl), He.free_ok X G (c.fact 40 (f := .free "list") rfl), He.free_ok X G (c.fact 41 (f := .free "range") rfl), He.free_ok X G (c.fact 42 (f := .free "sorted") rfl), He.free_ok X G (c.fact 43 (f := .free "enumerate") rfl), He.free_ok X G (c.fact 44 (f := .free "max") rfl), He.free_ok X G (c.fact 45 (f := .free "min") rfl), He.free_ok X G (c.fact 46 (f := .free "set") rfl), He.free_ok X G (c.fact 47 (f := .free "dict") rfl), He.free_ok X G (c.fact 48 (f := .free "zip") rfl), He.free_ok X G (c.fact 49 (f := .free "bool") rfl), He.free_ok X G (c.fact 50 (f := .free "int") rfl), He.free_ok X G (c.fact 51 (f := .free "abs") rfl), He.free_ok X G (c.fact 52 (f := .free "sum") rfl), He.free_ok X G (c.fact 53 (f := .free "str") rfl)⟩
  have c_MAX_SIZES : ∃ t, mg "MAX_SIZES" = some (.int 3 t) := He.int_ok X G (c.fact 14 (f := .int "MAX_SIZES" 3) rfl)
  have c_MAX_WINDOWS : ∃ t, mg "MAX_WINDOWS" = some (.int 6 t) := He.int_ok X G (c.fact 8 (f := .int "MAX_WINDOWS" 6) rfl)
  have c_SCREEN : ∃ t, mg "SCREEN" = some (.int 12 t) := He.int_ok X G (c.fact 7 (f := .int "SCREEN" 12) rfl)
  have e_InvalidSize : ExcAt K mg "InvalidSize" (cls K .size) := have z := He.exc_ok (c.fact 4 (f := .exc "InvalidSize") rfl); ⟨He.glo_ok X G (c.fact 3 (f := .glo "InvalidSize") rfl), z.1, z.2.1, z.2.2.1, z.2.2.2⟩
  have e_InvalidSizes : ExcAt K mg "InvalidSizes" (cls K .sizes) := have z := He.exc_ok (c.fact 6 (f := .exc "InvalidSizes") rfl); ⟨He.glo_ok X G (c.fact 5 (f := .glo "InvalidSizes") rfl), z.1, z.2.1, z.2.2.1, z.2.2.2⟩
  have e_InvalidWindows : ExcAt K mg "InvalidWindows" (cls K .windows) := have z := He.exc_ok (c.fact 2 (f := .exc "InvalidWindows") rfl); ⟨He.glo_ok X G (c.fact 1 (f := .glo "InvalidWindows") rfl), z.1, z.2.1, z.2.2.1, z.2.2.2⟩
  have g_is_int : Fn P w K mg base (cls K) 1 "is_int" 3 fD_is_int := ok_is_int B F_is_int (He.glo_ok X G (c.fact 9 (f := .glo "is_int") rfl))  
  have g_find_overlap : Fn P w K mg base (cls K) 1 "find_overlap" 2 fD_find_overlap := ok_find_overlap B F_find_overlap (He.glo_ok X G (c.fact 13 (f := .glo "find_overlap") rfl))  
  have g_all_places : Fn P w K mg base (cls K) 1 "all_places" 1 fD_all_places := ok_all_places B F_all_places (He.glo_ok X G (c.fact 17 (f := .glo "all_places") rfl)) c_SCREEN 
  have g__law_drawn : Fn P w K mg base (cls K) 1 "_law_drawn" 3 fD__law_drawn := ok__law_drawn B F__law_drawn (He.glo_ok X G (c.fact 25 (f := .glo "_law_drawn") rfl))  
  have g__law_meet : Fn P w K mg base (cls K) 1 "_law_meet" 2 fD__law_meet := ok__law_meet B F__law_meet (He.glo_ok X G (c.fact 28 (f := .glo "_law_meet") rfl))  
  have g_is_window : Fn P w K mg base (cls K) 2 "is_window" 1 fD_is_window := ok_is_window B F_is_window (He.glo_ok X G (c.fact 10 (f := .glo "is_window") rfl)) c_SCREEN g_is_int
  have g_is_size : Fn P w K mg base (cls K) 2 "is_size" 1 fD_is_size := ok_is_size B F_is_size (He.glo_ok X G (c.fact 15 (f := .glo "is_size") rfl)) c_SCREEN g_is_int
  have g_is_free : Fn P w K mg base (cls K) 2 "is_free" 2 fD_is_free := ok_is_free B F_is_free (He.glo_ok X G (c.fact 16 (f := .glo "is_free") rfl))  g_find_overlap
  have g__law_window : Fn P w K mg base (cls K) 2 "_law_window" 2 fD__law_window := ok__law_window B F__law_window (He.glo_ok X G (c.fact 26 (f := .glo "_law_window") rfl))  g__law_drawn
  have g__law_badwindows : Fn P w K mg base (cls K) 2 "_law_badwindows" 2 fD__law_badwindows := ok__law_badwindows B F__law_badwindows (He.glo_ok X G (c.fact 29 (f := .glo "_law_badwindows") rfl))  g__law_drawn
  have g__law_places : Fn P w K mg base (cls K) 2 "_law_places" 2 fD__law_places := ok__law_places B F__law_places (He.glo_ok X G (c.fact 31 (f := .glo "_law_places") rfl))  g__law_meet
  have g__law_good : Fn P w K mg base (cls K) 2 "_law_good" 3 fD__law_good := ok__law_good B F__law_good (He.glo_ok X G (c.fact 32 (f := .glo "_law_good") rfl))  g__law_meet
  have g_are_windows : Fn P w K mg base (cls K) 3 "are_windows" 1 fD_are_windows := ok_are_windows B F_are_windows (He.glo_ok X G (c.fact 11 (f := .glo "are_windows") rfl)) c_MAX_WINDOWS g_is_window
  have g_find_places : Fn P w K mg base (cls K) 3 "find_places" 2 fD_find_places := ok_find_places B F_find_places (He.glo_ok X G (c.fact 18 (f := .glo "find_places") rfl))  g_is_free g_all_places
  have g__law_windows : Fn P w K mg base (cls K) 3 "_law_windows" 3 fD__law_windows := ok__law_windows B F__law_windows (He.glo_ok X G (c.fact 27 (f := .glo "_law_windows") rfl))  g__law_drawn g__law_window
  have g_check_windows : Fn P w K mg base (cls K) 4 "check_windows" 1 fD_check_windows := ok_check_windows B F_check_windows (He.glo_ok X G (c.fact 12 (f := .glo "check_windows") rfl)) e_InvalidWindows g_are_windows
  have g_places : Fn P w K mg base (cls K) 5 "places" 2 fD_places := ok_places B F_places (He.glo_ok X G (c.fact 19 (f := .glo "places") rfl)) e_InvalidSize g_check_windows g_is_size g_find_places
  have g_check_sizes : Fn P w K mg base (cls K) 5 "check_sizes" 2 fD_check_sizes := ok_check_sizes B F_check_sizes (He.glo_ok X G (c.fact 20 (f := .glo "check_sizes") rfl)) e_InvalidSizes c_MAX_SIZES g_check_windows g_is_size
  have g_largest_free : Fn P w K mg base (cls K) 5 "largest_free" 1 fD_largest_free := ok_largest_free B F_largest_free (He.glo_ok X G (c.fact 24 (f := .glo "largest_free") rfl)) c_SCREEN g_check_windows g_find_places
  have g_are_places : Fn P w K mg base (cls K) 6 "are_places" 3 fD_are_places := ok_are_places B F_are_places (He.glo_ok X G (c.fact 23 (f := .glo "are_places") rfl))  g_is_window g_is_free g_check_sizes
  have g_find_all : Fn P w K mg base (cls K) 7 "find_all" 2 fD_find_all := ok_find_all B F_find_all (He.glo_ok X G (c.fact 21 (f := .glo "find_all") rfl))  g_find_places
  have g_place_all : Fn P w K mg base (cls K) 8 "place_all" 2 fD_place_all := ok_place_all B F_place_all (He.glo_ok X G (c.fact 22 (f := .glo "place_all") rfl))  g_check_sizes g_find_all
  have g__law_error : Fn P w K mg base (cls K) 9 "_law_error" 3 fD__law_error := ok__law_error B F__law_error (He.glo_ok X G (c.fact 30 (f := .glo "_law_error") rfl))  (excF_of ce) (He.glo_ok X G (c.fact 3 (f := .glo "InvalidSize") rfl)) (He.glo_ok X G (c.fact 5 (f := .glo "InvalidSizes") rfl)) (He.glo_ok X G (c.fact 1 (f := .glo "InvalidWindows") rfl)) (He.glo_ok X G (c.fact 0 (f := .glo "PaneError") rfl)) g_places g_place_all g_are_places g_largest_free
  have g__law_rejected : Fn P w K mg base (cls K) 10 "_law_rejected" 3 fD__law_rejected := ok__law_rejected B F__law_rejected (He.glo_ok X G (c.fact 33 (f := .glo "_law_rejected") rfl))  g_are_places g__law_drawn g__law_badwindows g__law_error
  exact ok_law (cls := cls K) B F_law  g_places g_place_all g_are_places g__law_drawn g__law_windows g__law_places g__law_good g__law_rejected
end Hd
open PySem PySem.W PySem.Calls PyProof.Rows
theorem PySem.Challenge.cw_panestacks_k56_placing_holds : PySem.Challenge.rw_panestacks_k56_placing.Holds := by
  w_on; o_law
  refine HandSHeadRun.head_any (r := OpenLaw.row PySem.Challenge.rw_panestacks_k56_placing) (q := view (OpenLaw.row PySem.Challenge.rw_panestacks_k56_placing).prog [35]) (H := Hd.hk) (ob := Hd.ob) (M := 4000) (loose := Hd.nms) (d := HandSHeadRun.topDef (OpenLaw.row PySem.Challenge.rw_panestacks_k56_placing).prog 35) (kwd := []) Hd.ob_eq
    (by kernel_rfl) (fun s => by kernel_rfl) Hd.run (by kernel_rfl) (by kernel_rfl) (by kernel_rfl) (by rfl) (by first | assumption | decide +kernel) (by decide +kernel) ⟨rfl, rfl, rfl, rfl, rfl, by decide +kernel⟩ ?hw ?hc
  case hw => w_witness2
  case hc =>
    refine PD.walk_ofX (l := PySem.Challenge.rw_panestacks_k56_placing) (n := 63) (k := 11) (x := "_law_script") (CX := fun w => L2.CX (PySem.Challenge.rw_panestacks_k56_placing).prog w) rfl (by decide) (by kernel_rfl) ⟨rfl, by decide, by decide⟩ ?F (fun w H s e s' h => by obtain ⟨_, _, _, _, _, _, _, _, _, _, _, _, z⟩ := h; exact z)
    intro w mg fa h Y G hmg0
    obtain ⟨K, KX, c, ce⟩ := Y
    have hmg : mg ("law" : PySem.Str) = some (.ref fa) := by
      have e : (HandSHeadRun.topDef (OpenLaw.row PySem.Challenge.rw_panestacks_k56_placing).prog 35).name = ("law" : PySem.Str) := by kernel_rfl
      rw [← e]
      exact hmg0
    obtain ⟨fd, hb, hF⟩ := Hd.facts (P := (PySem.Challenge.rw_panestacks_k56_placing).prog) (w := w) KX G hmg c ce
    exact ⟨K, fd, PD.spD K (Hd.cls K) 1 PD.fD_law, KX, hb, fun H a ns hl _ hS => PD.law_sp PD.law_true hl hS, hF⟩
