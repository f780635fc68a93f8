import PyProof.Rows.All
import Wide.All
import OpenK.AllK
import Wide.FinOn
import KE.KStateDown
import Lean
import HandS.ForMost
import HandS.ForExc
import HandS.Defaults
import HandS.Head0
import HandS.Head1
import HandS.Head2
import HandS.HeadEnd
import HandS.HeadHook1
import HandS.HeadHook2
import HandS.Walk
import HandS.TupAny
import HandS.TupMul
import HandS.TupLe
import HandS.Deep
import HandS.IsInst
import HandS.ExcIs
import HandS.Wide
import HandS.Style
import HandS.Conv
import HandS.Zip
import HandS.Strs
import HandS.SortOrd
import HandS.SortInts
import HandS.DictComp
import HandS.Star
import KE.SortData
import KE.KDictSum
import KE.GoesMore
import KE.GoesEnum
import HandS.SetFor
import HandS.SetKeys
import HandS.Rev
import HandS.TupSets
import HandS.Text
import HandS.Codes
import PySem.Challenge.RW_panestacks_k68_formats
set_option Elab.async false
set_option linter.all false
set_option maxRecDepth 100000
set_option maxHeartbeats 4000000
namespace PD
open PySem PySem.Spec PyProof.Rows L2
/-! ### pure data -/
inductive D where
  | non | bl (b : Bool) | int (i : Int) | str (x : Str) | tup (xs : List D) | lst (xs : List D) | scr (ns : List Int) | dic (ks vs : List D) | raw (v : V)
inductive Exc where
  | paneError | window | windows | order | cell | number | group | reports | move | size | sizes | tooLarge | nothing | parse
  deriving DecidableEq
inductive R (α : Type) where
  | ok (a : α) | err (c : Exc) | bad
def R.bind {α β : Type} (r : R α) (f : α → R β) : R β := match r with
  | .ok a => f a
  | .err c => .err c
  | .bad => .bad
def R.map {α β : Type} (f : α → β) (r : R α) : R β := match r with
  | .ok a => .ok (f a)
  | .err c => .err c
  | .bad => .bad
inductive Sl where
  | no | val (d : D) | own (xs : List D) | ownd (t : Bool) (ks vs : List D)
def Sl.isOwn : Sl → Bool
  | .own _ => true
  | .ownd _ _ _ => true
  | _ => false
abbrev EnvD := List Sl
inductive Out where
  | next (e : EnvD) | ret (d : D) | err (c : Exc) (e : EnvD) | brk (e : EnvD) | cont (e : EnvD) | bad
/-! ### how data stands in a heap -/
def kD : Key → D
  | .inl i => .int i
  | .inr x => .str x
mutual
inductive Rep (K : PySem.W.Frag) (H : Hp) : V → D → Prop
  | non : Rep K H .non .non
  | bl (b : Bool) : Rep K H (.bl b) (.bl b)
  | int (i : Int) : Rep K H (.int i) (.int i)
  | str (x : Str) : Rep K H (.str x) (.str x)
  | tup {a : Addr} {xs : List V} {ds : List D} : H a = some (.tup xs) → xs.length ≤ sizeLine → Reps K H xs ds → Rep K H (.ref a) (.tup ds)
  | lst {a : Addr} {xs : List V} {ds : List D} : H a = some (.lst xs) → xs.length ≤ sizeLine → Reps K H xs ds → Rep K H (.ref a) (.lst ds)
  | scr {a : Addr} {ns : List Int} : SqL K H a (ns.map V.int) → ns.length ≤ 63 → Rep K H (.ref a) (.scr ns)
  | dicK {a : Addr} {kvs : List (Key × V)} {vs : List D} : Rd H a (.dK kvs) → kvs.length ≤ sizeLine → Reps K H (kvs.map (·.2)) vs → Rep K H (.ref a) (.dic (kvs.map fun p => kD p.1) vs)
  | dicT {a : Addr} {kvs : List (List Key × V)} {vs : List D} : Rd H a (.dT kvs) → (∀ q ∈ kvs, q.1.length ≤ sizeLine) → kvs.length ≤ sizeLine → Reps K H (kvs.map (·.2)) vs → Rep K H (.ref a) (.dic (kvs.map fun p => D.tup (p.1.map kD)) vs)
  | raw (v : V) : Rep K H v (.raw v)
inductive Reps (K : PySem.W.Frag) (H : Hp) : List V → List D → Prop
  | nil : Reps K H [] []
  | cons {v : V} {vs : List V} {d : D} {ds : List D} : Rep K H v d → Reps K H vs ds → Reps K H (v :: vs) (d :: ds)
end
section
variable {K : PySem.W.Frag} {F F' F'' H H' H'' : Hp}
theorem _root_.L2.Same.tupS {a : Addr} {xs : List V} (e : Same H H') (h : SqT K H a xs) : SqT K H' a xs := by
  rcases h with (h | ⟨o, h⟩) | h
  · exact .inl (.inl (e _ _ h))
  · exact .inl (.inr ⟨o, e _ _ h⟩)
  · exact .inr h
theorem _root_.L2.Rd.mono {a : Addr} {u : HO} (h : Rd H a u) (e : Same H H') : Rd H' a u := h.elim (fun h => .inl (e _ _ h)) fun ⟨ob, h⟩ => .inr ⟨ob, e _ _ h⟩
theorem Rep.mono {v : V} {d : D} (h : Rep K H v d) (e : Same H H') : Rep K H' v d :=
  Rep.rec (motive_1 := fun v d _ => Rep K H' v d) (motive_2 := fun vs ds _ => Reps K H' vs ds)
    .non .bl .int .str (fun a l _ r => .tup (e _ _ a) l r) (fun a l _ r => .lst (e _ _ a) l r) (fun a l => .scr (e.seq a) l) (fun a l _ r => .dicK (a.mono e) l r) (fun a k l _ r => .dicT (a.mono e) k l r) .raw .nil (fun _ _ a b => .cons a b) h
theorem Reps.mono {vs : List V} {ds : List D} (h : Reps K H vs ds) (e : Same H H') : Reps K H' vs ds := by
  induction ds generalizing vs with
  | nil => cases h; exact .nil
  | cons d ds ih => cases h with | cons a b => exact .cons (a.mono e) (ih b)
theorem Rep.swap (ht : ∀ a xs, H a = some (.tup xs) → H' a = some (.tup xs)) (hl : ∀ a xs, H a = some (.lst xs) → H' a = some (.lst xs)) (hs : ∀ a xs, SqL K H a xs → SqL K H' a xs) (hk : ∀ a kvs, Rd H a (.dK kvs) → Rd H' a (.dK kvs)) (hd : ∀ a kvs, Rd H a (.dT kvs) → Rd H' a (.dT kvs))
    {v : V} {d : D} (h : Rep K H v d) : Rep K H' v d :=
  Rep.rec (motive_1 := fun v d _ => Rep K H' v d) (motive_2 := fun vs ds _ => Reps K H' vs ds)
    .non .bl .int .str (fun a l _ r => .tup (ht _ _ a) l r) (fun a l _ r => .lst (hl _ _ a) l r) (fun a l => .scr (hs _ _ a) l) (fun a l _ r => .dicK (hk _ _ a) l r) (fun a k l _ r => .dicT (hd _ _ a) k l r) .raw .nil (fun _ _ a b => .cons a b) h
theorem Reps.swap (ht : ∀ a xs, H a = some (.tup xs) → H' a = some (.tup xs)) (hl : ∀ a xs, H a = some (.lst xs) → H' a = some (.lst xs)) (hs : ∀ a xs, SqL K H a xs → SqL K H' a xs) (hk : ∀ a kvs, Rd H a (.dK kvs) → Rd H' a (.dK kvs)) (hd : ∀ a kvs, Rd H a (.dT kvs) → Rd H' a (.dT kvs))
    {vs : List V} {ds : List D} (h : Reps K H vs ds) : Reps K H' vs ds := by
  induction ds generalizing vs with
  | nil => cases h; exact .nil
  | cons d ds ih => cases h with | cons a b => exact .cons (a.swap ht hl hs hk hd) (ih b)
theorem Reps.length {vs : List V} {ds : List D} (h : Reps K H vs ds) : vs.length = ds.length := by
  induction ds generalizing vs with
  | nil => cases h; rfl
  | cons d ds ih => cases h with | cons a b => simp [ih b]
theorem Reps.get {vs : List V} {ds : List D} (h : Reps K H vs ds) : ∀ {i : Nat} {d : D}, ds[i]? = some d → ∃ v, vs[i]? = some v ∧ Rep K H v d := by
  induction ds generalizing vs with
  | nil => intro i d e; simp at e
  | cons x ds ih =>
    cases h with
    | cons a b =>
      intro i d e
      cases i with
      | zero => simp at e; subst e; exact ⟨_, rfl, a⟩
      | succ i => simp at e; obtain ⟨v, h1, h2⟩ := ih b e; exact ⟨v, by simpa using h1, h2⟩
theorem Reps.getV {vs : List V} {ds : List D} (h : Reps K H vs ds) {i : Nat} {v : V} (e : vs[i]? = some v) : ∃ d, ds[i]? = some d ∧ Rep K H v d := by
  have hl := h.length
  obtain ⟨hi, _⟩ := List.getElem?_eq_some_iff.mp e
  obtain ⟨v', h1, h2⟩ := h.get (i := i) (d := ds[i]'(by omega)) (by simp [show i < ds.length by omega])
  rw [e] at h1; cases h1
  exact ⟨_, by simp [show i < ds.length by omega], h2⟩
theorem Reps.append {vs ws : List V} {ds es : List D} (h : Reps K H vs ds) (h' : Reps K H ws es) : Reps K H (vs ++ ws) (ds ++ es) := by
  induction ds generalizing vs with
  | nil => cases h; exact h'
  | cons d ds ih => cases h with | cons a b => exact .cons a (ih b)
theorem Reps.snoc {vs : List V} {ds : List D} {v : V} {d : D} (h : Reps K H vs ds) (h' : Rep K H v d) : Reps K H (vs ++ [v]) (ds ++ [d]) := h.append (.cons h' .nil)
theorem Reps.take {vs : List V} {ds : List D} (h : Reps K H vs ds) : ∀ n : Nat, Reps K H (vs.take n) (ds.take n) := by
  induction ds generalizing vs with
  | nil => intro n; cases h; simp; exact .nil
  | cons d ds ih =>
    intro n
    cases h with
    | cons a b =>
      cases n with
      | zero => exact .nil
      | succ n => exact .cons a (ih b n)
theorem Reps.drop {vs : List V} {ds : List D} (h : Reps K H vs ds) : ∀ n : Nat, Reps K H (vs.drop n) (ds.drop n) := by
  induction ds generalizing vs with
  | nil => intro n; cases h; simp; exact .nil
  | cons d ds ih =>
    intro n
    cases h with
    | cons a b =>
      cases n with
      | zero => exact .cons a b
      | succ n => exact ih b n
theorem Reps.ints {ns : List Int} : Reps K H (ns.map V.int) (ns.map D.int) := by
  induction ns with
  | nil => exact .nil
  | cons n ns ih => exact .cons (.int n) ih
theorem Reps.reverse {vs : List V} {ds : List D} (h : Reps K H vs ds) : Reps K H vs.reverse ds.reverse := by
  induction ds generalizing vs with
  | nil => cases h; exact .nil
  | cons d ds ih => cases h with | cons a b => simp only [List.reverse_cons]; exact (ih b).snoc a
theorem Reps.of_ints : ∀ {ns : List Int} {vs : List V}, Reps K H vs (ns.map D.int) → vs = ns.map V.int
  | [], _, h => by cases h; rfl
  | n :: ns, _, h => by
    cases h with
    | cons a b => cases a; rw [Reps.of_ints b]; rfl
theorem Reps.of_bls : ∀ {ns : List Bool} {vs : List V}, Reps K H vs (ns.map D.bl) → vs = ns.map V.bl
  | [], _, h => by cases h; rfl
  | n :: ns, _, h => by
    cases h with
    | cons a b => cases a; rw [Reps.of_bls b]; rfl

/-! ### frozen part F of the heap H; how both may grow -/
def isMut : HO → Bool
  | .lst _ => true
  | .dK _ => true
  | .dT _ => true
  | .ins _ _ _ => true
  | .set _ _ => true
  | .frz _ _ => true
  | _ => false
structure Ext (F H F' H' : Hp) : Prop where
  f : Same F F'
  h : Same H H'
  i : Same F' H'
  n : ∀ a o, H a = some o → isMut o = true → F' a ≠ none → F a ≠ none
theorem Ext.refl (i : Same F H) : Ext F H F H := ⟨Same.refl F, Same.refl H, i, fun _ _ _ _ h => h⟩
theorem some_ne {α : Type} {o : Option α} {x : α} (h : o = some x) : o ≠ none := by rw [h]; exact fun q => nomatch q
theorem _root_.L2.Same.ne (e : Same H H') {a : Addr} (h : H a ≠ none) : H' a ≠ none := by
  cases q : H a with
  | none => exact absurd q h
  | some o => exact some_ne (e _ _ q)
theorem Ext.trans (a : Ext F H F' H') (b : Ext F' H' F'' H'') : Ext F H F'' H'' :=
  ⟨a.f.trans b.f, a.h.trans b.h, b.i, fun x o h1 m h2 => a.n x o h1 m (b.n x o (a.h _ _ h1) m h2)⟩
theorem _root_.L2.Same.updN {p : Addr} {o : HO} (h : H p = none) : Same H (upd H p o) := fun b u e => by
  rw [upd_ne (ne_of_none e h)]; exact e
theorem _root_.L2.Same.upd2 {p : Addr} {o : HO} (i : Same F H) : Same (L2.upd F p o) (L2.upd H p o) := fun b u e => by
  by_cases hb : b = p
  · subst hb; rw [upd_same] at e ⊢; exact e
  · rw [upd_ne hb] at e ⊢; exact i b u e
theorem _root_.L2.Same.into {p : Addr} {o : HO} (i : Same F H) (h : F p = none) : Same F (L2.upd H p o) := fun b u e => by
  rw [upd_ne (ne_of_none e h)]; exact i b u e
theorem _root_.L2.Same.put {p : Addr} {o : HO} (i : Same F H) (h : H p = some o) : Same (L2.upd F p o) H := fun b u e => by
  by_cases hb : b = p
  · subst hb; rw [upd_same] at e; rw [h]; exact e
  · rw [upd_ne hb] at e; exact i b u e
theorem upd_ne_none {p a : Addr} {o : HO} (h : L2.upd F p o a ≠ none) (hp : a ≠ p) : F a ≠ none := by rw [upd_ne hp] at h; exact h
/-- a new frozen object -/
theorem Ext.new {p : Addr} {o : HO} (i : Same F H) (h : H p = none) : Ext F H (upd F p o) (upd H p o) :=
  ⟨Same.updN (i.free h), Same.updN h, i.upd2, fun a o' h1 m h2 => upd_ne_none h2 fun q => by rw [q, h] at h1; cases h1⟩
/-- a new object, not frozen -/
theorem Ext.newH {p : Addr} {o : HO} (i : Same F H) (h : H p = none) : Ext F H F (upd H p o) :=
  ⟨Same.refl F, Same.updN h, i.into (i.free h), fun _ _ _ _ h => h⟩
/-- an object that is new since F H is frozen -/
theorem Ext.frz {p : Addr} {o : HO} (e : Ext F H F' H') (h : H p = none) (h' : H' p = some o) (hf : F' p = none) : Ext F H (upd F' p o) H' :=
  ⟨e.f.trans (Same.updN hf), e.h, e.i.put h', fun a o' h1 m h2 => e.n a o' h1 m (upd_ne_none h2 fun q => by rw [q, h] at h1; cases h1)⟩
/-- what is not frozen stays so -/
theorem Ext.keep {p : Addr} {o : HO} (e : Ext F H F' H') (h : H p = some o) (m : isMut o = true) (hf : F p = none) : F' p = none := by
  cases q : F' p with
  | none => rfl
  | some u => exact absurd hf (e.n p o h m (some_ne q))
end
/-! ### slots -/
inductive DicAt (K : PySem.W.Frag) (F : Hp) : HO → Bool → List D → List D → Prop
  | k {kvs : List (Key × V)} {vs : List D} : kvs.length ≤ sizeLine → Reps K F (kvs.map (·.2)) vs → DicAt K F (.dK kvs) false (kvs.map fun p => kD p.1) vs
  | t {kvs : List (List Key × V)} {vs : List D} : (∀ q ∈ kvs, q.1.length ≤ sizeLine) → kvs.length ≤ sizeLine → Reps K F (kvs.map (·.2)) vs → DicAt K F (.dT kvs) true (kvs.map fun p => D.tup (p.1.map kD)) vs
def SlotAt (K : PySem.W.Frag) (H0 F H : Hp) : Sl → Option V → Prop
  | .no, _ => True
  | .val d, o => ∃ v, o = some v ∧ Rep K F v d
  | .own ds, o => ∃ p xs, o = some (V.ref p) ∧ H0 p = none ∧ F p = none ∧ H p = some (.lst xs) ∧ xs.length ≤ sizeLine ∧ Reps K F xs ds
  | .ownd t ks vs, o => ∃ p u, o = some (V.ref p) ∧ H0 p = none ∧ F p = none ∧ H p = some u ∧ DicAt K F u t ks vs
structure EnvAt (K : PySem.W.Frag) (H0 : Hp) (env : EnvD) (σ : L2.St) (F H : Hp) : Prop where
  fh : Same F H
  len : env.length = σ.length
  at_ : ∀ i s, env[i]? = some s → SlotAt K H0 F H s (σ.getD i none)
  ap : ∀ i j s t p, i ≠ j → env[i]? = some s → env[j]? = some t → s.isOwn = true → t.isOwn = true → σ.getD i none = some (.ref p) → σ.getD j none = some (.ref p) → False
section
variable {K : PySem.W.Frag} {H0 F F' H H' : Hp} {env : EnvD} {σ : L2.St}
theorem DicAt.isMut {u : HO} {t : Bool} {ks vs : List D} (h : DicAt K F u t ks vs) : PD.isMut u = true := by cases h <;> rfl
theorem DicAt.mono {u : HO} {t : Bool} {ks vs : List D} (h : DicAt K F u t ks vs) (e : Same F F') : DicAt K F' u t ks vs := by
  cases h with
  | k a b => exact .k a (b.mono e)
  | t c a b => exact .t c a (b.mono e)
theorem SlotAt.mono {s : Sl} {o : Option V} (h : SlotAt K H0 F H s o) (e : Ext F H F' H') : SlotAt K H0 F' H' s o := by
  cases s with
  | no => trivial
  | val d => obtain ⟨v, h1, h2⟩ := h; exact ⟨v, h1, h2.mono e.f⟩
  | own ds => obtain ⟨p, xs, h1, h2, h3, h4, h5, h6⟩ := h; exact ⟨p, xs, h1, h2, e.keep h4 rfl h3, e.h _ _ h4, h5, h6.mono e.f⟩
  | ownd _ ks vs => obtain ⟨p, u, h1, h2, h3, h4, h5⟩ := h; exact ⟨p, u, h1, h2, e.keep h4 h5.isMut h3, e.h _ _ h4, h5.mono e.f⟩
theorem EnvAt.mono (h : EnvAt K H0 env σ F H) (e : Ext F H F' H') : EnvAt K H0 env σ F' H' :=
  ⟨e.i, h.len, fun i s q => (h.at_ i s q).mono e, h.ap⟩
theorem getD_set_self {α : Type} {l : List α} {i : Nat} {x d : α} (h : i < l.length) : (l.set i x).getD i d = x := by
  rw [List.getD_eq_getElem?_getD, List.getElem?_set_self h]; rfl
theorem getD_set_ne {α : Type} {l : List α} {i j : Nat} {x d : α} (h : i ≠ j) : (l.set i x).getD j d = l.getD j d := by
  rw [List.getD_eq_getElem?_getD, List.getD_eq_getElem?_getD, List.getElem?_set_ne h]
theorem getD_some {l : L2.St} {i : Nat} {v : V} (h : l.getD i none = some v) : l[i]? = some (some v) := by
  rw [List.getD_eq_getElem?_getD] at h
  cases q : l[i]? with
  | none => rw [q] at h; cases h
  | some o => rw [q] at h; exact congrArg some h
/-- a slot gets a value -/
theorem EnvAt.setV (h : EnvAt K H0 env σ F H) (i : Nat) {v : V} {d : D} (r : Rep K F v d) : EnvAt K H0 (env.set i (.val d)) (σ.set i (some v)) F H := by
  refine ⟨h.fh, by simp [h.len], fun j s q => ?_, fun j k s t p hjk hs ht os ot pj pk => ?_⟩
  · by_cases e : i = j
    · subst e
      have hi : i < env.length := by
        have := (List.getElem?_eq_some_iff.mp q).1
        simpa using this
      rw [List.getElem?_set_self hi] at q
      cases q
      exact ⟨v, getD_set_self (by rw [← h.len]; exact hi), r⟩
    · rw [List.getElem?_set_ne e] at q
      rw [getD_set_ne e]
      exact h.at_ j s q
  · have nj : i ≠ j := fun e => by
      subst e
      have hi : i < env.length := by have := (List.getElem?_eq_some_iff.mp hs).1; simpa using this
      rw [List.getElem?_set_self hi] at hs; cases hs; cases os
    have nk : i ≠ k := fun e => by
      subst e
      have hi : i < env.length := by have := (List.getElem?_eq_some_iff.mp ht).1; simpa using this
      rw [List.getElem?_set_self hi] at ht; cases ht; cases ot
    rw [List.getElem?_set_ne nj] at hs
    rw [List.getElem?_set_ne nk] at ht
    rw [getD_set_ne nj] at pj
    rw [getD_set_ne nk] at pk
    exact h.ap j k s t p hjk hs ht os ot pj pk
/-- a slot is forgotten -/
theorem EnvAt.setNo (h : EnvAt K H0 env σ F H) (i : Nat) (o : Option V) : EnvAt K H0 (env.set i .no) (σ.set i o) F H := by
  refine ⟨h.fh, by simp [h.len], fun j s q => ?_, fun j k s t p hjk hs ht os ot pj pk => ?_⟩
  · by_cases e : i = j
    · subst e
      have hi : i < env.length := by
        have := (List.getElem?_eq_some_iff.mp q).1
        simpa using this
      rw [List.getElem?_set_self hi] at q
      cases q
      trivial
    · rw [List.getElem?_set_ne e] at q
      rw [getD_set_ne e]
      exact h.at_ j s q
  · have nj : i ≠ j := fun e => by
      subst e
      have hi : i < env.length := by have := (List.getElem?_eq_some_iff.mp hs).1; simpa using this
      rw [List.getElem?_set_self hi] at hs; cases hs; cases os
    have nk : i ≠ k := fun e => by
      subst e
      have hi : i < env.length := by have := (List.getElem?_eq_some_iff.mp ht).1; simpa using this
      rw [List.getElem?_set_self hi] at ht; cases ht; cases ot
    rw [List.getElem?_set_ne nj] at hs
    rw [List.getElem?_set_ne nk] at ht
    rw [getD_set_ne nj] at pj
    rw [getD_set_ne nk] at pk
    exact h.ap j k s t p hjk hs ht os ot pj pk
/-- a slot gets an object of its own, at p, that no other slot owns -/
theorem EnvAt.setO (h : EnvAt K H0 env σ F H) (i : Nat) {s : Sl} {p : Addr} (r : SlotAt K H0 F H s (some (.ref p)))
    (n : ∀ j t, j ≠ i → env[j]? = some t → t.isOwn = true → σ.getD j none ≠ some (.ref p)) : EnvAt K H0 (env.set i s) (σ.set i (some (.ref p))) F H := by
  refine ⟨h.fh, by simp [h.len], fun j t q => ?_, fun j k u t p' hjk hs ht os ot pj pk => ?_⟩
  · by_cases e : i = j
    · subst e
      have hi : i < env.length := by
        have := (List.getElem?_eq_some_iff.mp q).1
        simpa using this
      rw [List.getElem?_set_self hi] at q
      cases q
      rw [getD_set_self (by rw [← h.len]; exact hi)]
      exact r
    · rw [List.getElem?_set_ne e] at q
      rw [getD_set_ne e]
      exact h.at_ j t q
  · by_cases ej : i = j
    · subst ej
      have hi : i < env.length := by have := (List.getElem?_eq_some_iff.mp hs).1; simpa using this
      rw [getD_set_self (by rw [← h.len]; exact hi)] at pj
      rw [List.getElem?_set_ne hjk] at ht
      rw [getD_set_ne hjk] at pk
      cases pj
      exact n k t (Ne.symm hjk) ht ot pk
    · by_cases ek : i = k
      · subst ek
        have hi : i < env.length := by have := (List.getElem?_eq_some_iff.mp ht).1; simpa using this
        rw [getD_set_self (by rw [← h.len]; exact hi)] at pk
        rw [List.getElem?_set_ne ej] at hs
        rw [getD_set_ne ej] at pj
        cases pk
        exact n j u hjk hs os pj
      · rw [List.getElem?_set_ne ej] at hs
        rw [List.getElem?_set_ne ek] at ht
        rw [getD_set_ne ej] at pj
        rw [getD_set_ne ek] at pk
        exact h.ap j k u t p' hjk hs ht os ot pj pk
/-- an owned object's address is that of the heap -/
theorem EnvAt.ownAt (h : EnvAt K H0 env σ F H) {j : Nat} {t : Sl} {p : Addr} (q : env[j]? = some t) (o : t.isOwn = true) (e : σ.getD j none = some (.ref p)) : H p ≠ none ∧ F p = none ∧ H0 p = none := by
  have z := h.at_ j t q
  cases t with
  | no => cases o
  | val d => cases o
  | own ds => obtain ⟨p', xs, h1, h2, h3, h4, _⟩ := z; rw [e] at h1; cases h1; exact ⟨some_ne h4, h3, h2⟩
  | ownd _ ks vs => obtain ⟨p', u, h1, h2, h3, h4, _⟩ := z; rw [e] at h1; cases h1; exact ⟨some_ne h4, h3, h2⟩
/-- an owned object changes -/
theorem EnvAt.mut (h : EnvAt K H0 env σ F H) {i : Nat} {s s' : Sl} {p : Addr} {u : HO} (q : env[i]? = some s) (o : s.isOwn = true) (e : σ.getD i none = some (.ref p))
    (r : SlotAt K H0 F (upd H p u) s' (some (.ref p))) : EnvAt K H0 (env.set i s') σ F (upd H p u) := by
  have hp := h.ownAt q o e
  have hi : i < env.length := (List.getElem?_eq_some_iff.mp q).1
  refine ⟨h.fh.into hp.2.1, by simp [h.len], fun j t z => ?_, fun j k a b p' hjk ha hb oa ob pj pk => ?_⟩
  · by_cases ej : i = j
    · subst ej
      rw [List.getElem?_set_self hi] at z
      cases z
      rw [e]
      exact r
    · rw [List.getElem?_set_ne ej] at z
      have y := h.at_ j t z
      cases t with
      | no => trivial
      | val d => exact y
      | own ds =>
        obtain ⟨p', xs, h1, h2, h3, h4, h5, h6⟩ := y
        have npp : p' ≠ p := fun w => by subst w; exact h.ap j i _ _ p' (Ne.symm ej) z q rfl o h1 e
        exact ⟨p', xs, h1, h2, h3, by rw [upd_ne npp]; exact h4, h5, h6⟩
      | ownd _ ks vs =>
        obtain ⟨p', v, h1, h2, h3, h4, h5⟩ := y
        have npp : p' ≠ p := fun w => by subst w; exact h.ap j i _ _ p' (Ne.symm ej) z q rfl o h1 e
        exact ⟨p', v, h1, h2, h3, by rw [upd_ne npp]; exact h4, h5⟩
  · have own_of : ∀ (m : Nat) (c : Sl), (env.set i s')[m]? = some c → c.isOwn = true → ∃ c' : Sl, env[m]? = some c' ∧ c'.isOwn = true := fun m c hc oc => by
      by_cases em : i = m
      · subst em; exact ⟨s, q, o⟩
      · rw [List.getElem?_set_ne em] at hc; exact ⟨c, hc, oc⟩
    obtain ⟨a', ha', oa'⟩ := own_of j a ha oa
    obtain ⟨b', hb', ob'⟩ := own_of k b hb ob
    exact h.ap j k a' b' p' hjk ha' hb' oa' ob' pj pk
/-- an owned list is frozen -/
theorem EnvAt.freeze (h : EnvAt K H0 env σ F H) {i : Nat} {ds : List D} (q : env[i]? = some (.own ds)) : ∃ F', Same F F' ∧ (∀ a o, H0 a = some o → isMut o = true → F' a ≠ none → F a ≠ none) ∧ EnvAt K H0 (env.set i (.val (.lst ds))) σ F' H := by
  obtain ⟨p, xs, h1, h2, h3, h4, h5, h6⟩ := h.at_ i _ q
  have hi : i < env.length := (List.getElem?_eq_some_iff.mp q).1
  have sf : Same F (upd F p (.lst xs)) := Same.updN h3
  refine ⟨upd F p (.lst xs), sf, fun a o z1 m z2 => upd_ne_none z2 (fun w => by rw [w, h2] at z1; cases z1), h.fh.put h4, by simp [h.len], fun j t z => ?_, fun j k a b p' hjk ha hb oa ob pj pk => ?_⟩
  · by_cases ej : i = j
    · subst ej
      rw [List.getElem?_set_self hi] at z
      cases z
      rw [h1]
      exact ⟨_, rfl, .lst upd_same h5 (h6.mono sf)⟩
    · rw [List.getElem?_set_ne ej] at z
      have y := h.at_ j t z
      cases t with
      | no => trivial
      | val d => obtain ⟨v, y1, y2⟩ := y; exact ⟨v, y1, y2.mono sf⟩
      | own es =>
        obtain ⟨p', ys, y1, y2, y3, y4, y5, y6⟩ := y
        have npp : p' ≠ p := fun w => by subst w; exact h.ap j i _ _ p' (Ne.symm ej) z q rfl rfl y1 h1
        exact ⟨p', ys, y1, y2, by rw [upd_ne npp]; exact y3, y4, y5, y6.mono sf⟩
      | ownd _ ks vs =>
        obtain ⟨p', v, y1, y2, y3, y4, y5⟩ := y
        have npp : p' ≠ p := fun w => by subst w; exact h.ap j i _ _ p' (Ne.symm ej) z q rfl rfl y1 h1
        exact ⟨p', v, y1, y2, by rw [upd_ne npp]; exact y3, y4, y5.mono sf⟩
  · have nj : i ≠ j := fun w => by subst w; rw [List.getElem?_set_self hi] at ha; cases ha; cases oa
    have nk : i ≠ k := fun w => by subst w; rw [List.getElem?_set_self hi] at hb; cases hb; cases ob
    rw [List.getElem?_set_ne nj] at ha
    rw [List.getElem?_set_ne nk] at hb
    exact h.ap j k a b p' hjk ha hb oa ob pj pk
theorem EnvAt.freezeD (h : EnvAt K H0 env σ F H) {i : Nat} {tt : Bool} {dk dv : List D} (q : env[i]? = some (.ownd tt dk dv)) : ∃ F', Same F F' ∧ (∀ a o, H0 a = some o → isMut o = true → F' a ≠ none → F a ≠ none) ∧ EnvAt K H0 (env.set i (.val (.dic dk dv))) σ F' H := by
  obtain ⟨p, u, h1, h2, h3, h4, h5⟩ := h.at_ i _ q
  have hi : i < env.length := (List.getElem?_eq_some_iff.mp q).1
  have sf : Same F (upd F p u) := Same.updN h3
  refine ⟨upd F p u, sf, fun a o z1 m z2 => upd_ne_none z2 (fun w => by rw [w, h2] at z1; cases z1), h.fh.put h4, by simp [h.len], fun j t z => ?_, fun j k a b p' hjk ha hb oa ob pj pk => ?_⟩
  · by_cases ej : i = j
    · subst ej
      rw [List.getElem?_set_self hi] at z
      cases z
      rw [h1]
      refine ⟨_, rfl, ?_⟩
      cases h5 with
      | k l r => exact .dicK (.inl upd_same) l (r.mono sf)
      | t kl l r => exact .dicT (.inl upd_same) kl l (r.mono sf)
    · rw [List.getElem?_set_ne ej] at z
      have y := h.at_ j t z
      cases t with
      | no => trivial
      | val d => obtain ⟨v, y1, y2⟩ := y; exact ⟨v, y1, y2.mono sf⟩
      | own es =>
        obtain ⟨p', ys, y1, y2, y3, y4, y5, y6⟩ := y
        have npp : p' ≠ p := fun w => by subst w; exact h.ap j i _ _ p' (Ne.symm ej) z q rfl rfl y1 h1
        exact ⟨p', ys, y1, y2, by rw [upd_ne npp]; exact y3, y4, y5, y6.mono sf⟩
      | ownd _ ks vs =>
        obtain ⟨p', v, y1, y2, y3, y4, y5⟩ := y
        have npp : p' ≠ p := fun w => by subst w; exact h.ap j i _ _ p' (Ne.symm ej) z q rfl rfl y1 h1
        exact ⟨p', v, y1, y2, by rw [upd_ne npp]; exact y3, y4, y5.mono sf⟩
  · have nj : i ≠ j := fun w => by subst w; rw [List.getElem?_set_self hi] at ha; cases ha; cases oa
    have nk : i ≠ k := fun w => by subst w; rw [List.getElem?_set_self hi] at hb; cases hb; cases ob
    rw [List.getElem?_set_ne nj] at ha
    rw [List.getElem?_set_ne nk] at hb
    exact h.ap j k a b p' hjk ha hb oa ob pj pk
end
end PD

set_option maxHeartbeats 4000000
namespace PD
open PySem PySem.Spec PyProof.Rows L2
/-! ### what a reading evaluates to -/
/-- how a result (a value, a truth, a list of values) stands for data: from the heap at the start, in the frozen part and the heap behind -/
structure PP (ρ α : Type) where
  rel : Hp → Hp → Hp → ρ → α → Prop
  anti : ∀ {H H1 F' H' : Hp} {v : ρ} {d : α}, Same H H1 → rel H1 F' H' v d → rel H F' H' v d
  mono : ∀ {H F' H' F'' H'' : Hp} {v : ρ} {d : α}, Ext F' H' F'' H'' → rel H F' H' v d → rel H F'' H'' v d
/-- frozen data -/
def pV (K : PySem.W.Frag) : PP V D := ⟨fun _ F' _ v d => Rep K F' v d, fun _ h => h, fun e h => h.mono e.f⟩
/-- data, or an owned object that holds frozen data -/
def RepB (K : PySem.W.Frag) (F H : Hp) (v : V) (d : D) : Prop :=
  Rep K F v d ∨ (∃ p xs ds, v = .ref p ∧ d = .lst ds ∧ H p = some (.lst xs) ∧ xs.length ≤ sizeLine ∧ Reps K F xs ds) ∨ ∃ p u t ks vs, v = .ref p ∧ d = .dic ks vs ∧ H p = some u ∧ DicAt K F u t ks vs
theorem RepB.mono {K : PySem.W.Frag} {F H F' H' : Hp} {v : V} {d : D} (h : RepB K F H v d) (f : Same F F') (e : Same H H') : RepB K F' H' v d := by
  rcases h with h | ⟨p, xs, ds, h1, h2, h3, h4, h5⟩ | ⟨p, u, t, ks, vs, h1, h2, h3, h4⟩
  · exact .inl (h.mono f)
  · exact .inr (.inl ⟨p, xs, ds, h1, h2, e _ _ h3, h4, h5.mono f⟩)
  · exact .inr (.inr ⟨p, u, t, ks, vs, h1, h2, e _ _ h3, h4.mono f⟩)
def pB (K : PySem.W.Frag) : PP V D := ⟨fun _ F' H' v d => RepB K F' H' v d, fun _ h => h, fun e h => h.mono e.f e.h⟩
/-- a new list, owned -/
def pN (K : PySem.W.Frag) : PP V (List D) := ⟨fun H F' H' v ds => ∃ p xs, v = .ref p ∧ H p = none ∧ F' p = none ∧ H' p = some (.lst xs) ∧ xs.length ≤ sizeLine ∧ Reps K F' xs ds,
  fun e ⟨p, xs, h1, h2, h3⟩ => ⟨p, xs, h1, e.free h2, h3⟩, fun e ⟨p, xs, h1, h2, h3, h4, h5, h6⟩ => ⟨p, xs, h1, h2, e.keep h4 rfl h3, e.h _ _ h4, h5, h6.mono e.f⟩⟩
/-- a new dict, owned -/
def pM (K : PySem.W.Frag) : PP V (Bool × List D × List D) := ⟨fun H F' H' v ds => ∃ p u, v = .ref p ∧ H p = none ∧ F' p = none ∧ H' p = some u ∧ DicAt K F' u ds.1 ds.2.1 ds.2.2,
  fun e ⟨p, xs, h1, h2, h3⟩ => ⟨p, xs, h1, e.free h2, h3⟩, fun e ⟨p, xs, h1, h2, h3, h4, h5⟩ => ⟨p, xs, h1, h2, e.keep h4 h5.isMut h3, e.h _ _ h4, h5.mono e.f⟩⟩
def pT : PP Bool Bool := ⟨fun _ _ _ b c => b = c, fun _ h => h, fun _ h => h⟩
inductive RepBs (K : PySem.W.Frag) (F H : Hp) : List V → List D → Prop
  | nil : RepBs K F H [] []
  | cons {v : V} {vs : List V} {d : D} {ds : List D} : RepB K F H v d → RepBs K F H vs ds → RepBs K F H (v :: vs) (d :: ds)
theorem RepBs.mono {K : PySem.W.Frag} {F H F' H' : Hp} {vs : List V} {ds : List D} (h : RepBs K F H vs ds) (f : Same F F') (e : Same H H') : RepBs K F' H' vs ds := by
  induction h with
  | nil => exact .nil
  | cons a _ ih => exact .cons (a.mono f e) ih
/-- arguments -/
def pB' (K : PySem.W.Frag) : PP (List V) (List D) := ⟨fun _ F' H' v d => RepBs K F' H' v d, fun _ h => h, fun e h => h.mono e.f e.h⟩
def pA (K : PySem.W.Frag) : PP (List V) (List D) := ⟨fun _ F' _ v d => Reps K F' v d, fun _ h => h, fun e h => h.mono e.f⟩
section
variable {ρ ρ1 ρ2 α β γ : Type} {cls : Exc → Addr} {W : WX} {σ : L2.St} {F H F1 H1 : Hp}
def Go (cls : Exc → Addr) (P : PP ρ α) (W : WX) (σ : L2.St) (F H : Hp) (r : R α) (Q : ρ → Hp → Prop) : Prop := match r with
  | .ok d => ∀ v F' H', Ext F H F' H' → P.rel H F' H' v d → Q v H'
  | .err c => ∀ F' H', Ext F H F' H' → W (.ref (cls c)) none σ H'
  | .bad => False
theorem Go.from {P : PP ρ α} {r : R α} {Q : ρ → Hp → Prop} (g : Go cls P W σ F H r Q) (e : Ext F H F1 H1) : Go cls P W σ F1 H1 r Q := by
  cases r with
  | ok d => exact fun v F' H' e' p => g v F' H' (e.trans e') (P.anti e.h p)
  | err c => exact fun F' H' e' => g F' H' (e.trans e')
  | bad => exact g
theorem Go.bind {P : PP ρ α} {P1 : PP ρ1 β} {r : R β} {k : β → R α} {Q : ρ → Hp → Prop} (g : Go cls P W σ F H (r.bind k) Q) :
    Go cls P1 W σ F H r (fun x H1 => ∃ F1 b, r = .ok b ∧ Ext F H F1 H1 ∧ P1.rel H F1 H1 x b ∧ Go cls P W σ F1 H1 (k b) Q) := by
  cases r with
  | ok b => exact fun v F' H' e p => ⟨F', b, rfl, e, p, Go.from g e⟩
  | err c => exact g
  | bad => exact g
theorem Go.imp {P : PP ρ α} {r : R α} {Q Q' : ρ → Hp → Prop} (g : Go cls P W σ F H r Q) (h : ∀ v H', Q v H' → Q' v H') : Go cls P W σ F H r Q' := by
  cases r with
  | ok b => exact fun v F' H' e p => h v H' (g v F' H' e p)
  | err c => exact g
  | bad => exact g
def R.ofO (o : Option α) : R α := match o with
  | some a => .ok a
  | none => .bad
theorem Go.ofO {P : PP ρ α} {o : Option α} {Q : ρ → Hp → Prop} (g : Go cls P W σ F H (R.ofO o) Q) : ∃ a, o = some a ∧ ∀ v F' H', Ext F H F' H' → P.rel H F' H' v a → Q v H' := by
  cases o with
  | some a => exact ⟨a, rfl, g⟩
  | none => exact g.elim
/-- the reading of a thing that evaluates to f env -/
def tG (K : PySem.W.Frag) (cls : Exc → Addr) (W : WX) (P : PP ρ α) (f : EnvD → R α) : L2.St → Hp → (ρ → Hp → Prop) → Prop :=
  fun σ H Q => ∃ H0 F env, EnvAt K H0 env σ F H ∧ Go cls P W σ F H (f env) Q
end
/-! ### readings made weaker -/
section
variable {X : Cx}
theorem pe_imp {e : Expr} {t t' : TE} (h : PE X e t) (m : ∀ σ H Q, t' σ H Q → t σ H Q) : PE X e t' := ⟨fun pins s σ H Q I q => h.run pins s σ H Q I (m σ H Q q)⟩
theorem pt_imp {e : Expr} {t t' : TT} (h : PT X e t) (m : ∀ σ H Q, t' σ H Q → t σ H Q) : PT X e t' := ⟨fun pins s σ H Q I q => h.run pins s σ H Q I (m σ H Q q)⟩
theorem pw_imp {e : Expr} {t t' : TT} (h : PW X e t) (m : ∀ σ H Q, t' σ H Q → t σ H Q) : PW X e t' := ⟨fun w pins s σ H Q I q => h.run w pins s σ H Q I (m σ H Q q)⟩
theorem pa_imp {es : List Expr} {t t' : TA} (h : PA X es t) (m : ∀ σ H Q, t' σ H Q → t σ H Q) : PA X es t' := ⟨fun pos pins s σ H Q I q => h.run pos pins s σ H Q I (m σ H Q q)⟩
theorem ps_imp {st : Stmt} {t t' : TS} (h : PS X st t) (m : ∀ D σ H, t' D σ H → t D σ H) : PS X st t' := ⟨fun pins s σ H D I q => h.run pins s σ H D I (m D σ H q)⟩
theorem pss_imp {st : List Stmt} {t t' : TS} (h : PSs X st t) (m : ∀ D σ H, t' D σ H → t D σ H) : PSs X st t' := ⟨fun pins s σ H D I q => h.run pins s σ H D I (m D σ H q)⟩
theorem pi_imp {tg iter : Expr} {t t' : TI} (h : PI X tg iter t) (m : ∀ σ H Q, t' σ H Q → t σ H Q) : PI X tg iter t' := ⟨fun pins s σ H Q I q => h.run pins s σ H Q I (m σ H Q q)⟩
theorem pg_imp {tg : Expr} {t t' : TG} (h : PG X tg t) (m : ∀ v σ H Q, t' v σ H Q → t v σ H Q) : PG X tg t' := ⟨fun pins s σ H v u Q I r q => h.run pins s σ H v u Q I r (m v σ H Q q)⟩
end
abbrev PDE {α : Type} (X : Cx) (cls : Exc → Addr) (W : WX) (P : PP V α) (e : Expr) (f : EnvD → R α) : Prop := PE X e (tG X.K cls W P f)
abbrev PDT (X : Cx) (cls : Exc → Addr) (W : WX) (e : Expr) (f : EnvD → R Bool) : Prop := PT X e (tG X.K cls W pT f)
abbrev PDA (X : Cx) (cls : Exc → Addr) (W : WX) (P : PP (List V) (List D)) (es : List Expr) (f : EnvD → R (List D)) : Prop := PA X es (tG X.K cls W P f)
section
variable {X : Cx} {cls : Exc → Addr} {W : WX} {e a b c : Expr} {pos : Pos}
/-! ### coercions -/
theorem coeVB {f : EnvD → R D} (h : PDE X cls W (pV X.K) e f) : PDE X cls W (pB X.K) e f := pe_imp h fun σ H Q ⟨H0, F, env, ea, g⟩ => ⟨H0, F, env, ea, by
  cases q : f env with
  | ok d => rw [q] at g; exact fun v F' H' x r => g v F' H' x (.inl r)
  | err c => rw [q] at g; exact g
  | bad => rw [q] at g; exact g⟩
def mkL (f : EnvD → R (List D)) : EnvD → R D := fun env => (f env).map D.lst
theorem coeNV {f : EnvD → R (List D)} (h : PDE X cls W (pN X.K) e f) : PDE X cls W (pV X.K) e (mkL f) := pe_imp h fun σ H Q ⟨H0, F, env, ea, g⟩ => ⟨H0, F, env, ea, by
  unfold mkL at g
  cases q : f env with
  | ok d =>
    rw [q] at g
    rintro v F' H' x ⟨p, xs, rfl, h1, h2, h3, h4, h5⟩
    exact g _ (upd F' p (.lst xs)) H' (x.frz h1 h3 h2) (.lst upd_same h4 (h5.mono (Same.updN h2)))
  | err c => rw [q] at g; exact g
  | bad => rw [q] at g; exact g⟩
theorem coeNB {f : EnvD → R (List D)} (h : PDE X cls W (pN X.K) e f) : PDE X cls W (pB X.K) e (mkL f) := coeVB (coeNV h)
/-! ### names, constants -/
def getV (i : Nat) (env : EnvD) : R D := match env[i]? with
  | some (.val d) => .ok d
  | _ => .bad
def getB (i : Nat) (env : EnvD) : R D := match env[i]? with
  | some (.val d) => .ok d
  | some (.own ds) => .ok (.lst ds)
  | some (.ownd _ ks vs) => .ok (.dic ks vs)
  | _ => .bad
theorem pd_var {i : Nat} (h : PE X e (tVar i)) : PDE X cls W (pV X.K) e (getV i) := pe_imp h fun σ H Q ⟨H0, F, env, ea, g⟩ => by
  unfold getV at g
  cases q : env[i]? with
  | none => rw [q] at g; exact g.elim
  | some s =>
    rw [q] at g
    cases s with
    | val d =>
      obtain ⟨v, h1, h2⟩ := ea.at_ i _ q
      exact ⟨v, getD_some h1, g v F H (Ext.refl ea.fh) h2⟩
    | no => exact g.elim
    | own _ => exact g.elim
    | ownd _ _ _ => exact g.elim
theorem pb_var {i : Nat} (h : PE X e (tVar i)) : PDE X cls W (pB X.K) e (getB i) := pe_imp h fun σ H Q ⟨H0, F, env, ea, g⟩ => by
  unfold getB at g
  cases q : env[i]? with
  | none => rw [q] at g; exact g.elim
  | some s =>
    rw [q] at g
    cases s with
    | val d =>
      obtain ⟨v, h1, h2⟩ := ea.at_ i _ q
      exact ⟨v, getD_some h1, g v F H (Ext.refl ea.fh) (.inl h2)⟩
    | no => exact g.elim
    | own ds =>
      obtain ⟨p, xs, h1, h2, h3, h4, h5, h6⟩ := ea.at_ i _ q
      exact ⟨_, getD_some h1, g _ F H (Ext.refl ea.fh) (.inr (.inl ⟨p, xs, ds, rfl, rfl, h4, h5, h6⟩))⟩
    | ownd t ks vs =>
      obtain ⟨p, u, h1, h2, h3, h4, h5⟩ := ea.at_ i _ q
      exact ⟨_, getD_some h1, g _ F H (Ext.refl ea.fh) (.inr (.inr ⟨p, u, t, ks, vs, rfl, rfl, h4, h5⟩))⟩
def cst (d : D) : EnvD → R D := fun _ => .ok d
theorem pd_c {v : V} {d : D} (h : PE X e (tC v)) (r : ∀ F, Rep X.K F v d) : PDE X cls W (pV X.K) e (cst d) := pe_imp h fun σ H Q ⟨H0, F, env, ea, g⟩ => g v F H (Ext.refl ea.fh) (r F)
theorem pd_int {i : Int} {j : Nat} : PDE X cls W (pV X.K) (.Constant (.int i) j pos) (cst (.int i)) := pd_c pe_int fun _ => .int i
theorem pd_bl {b : Bool} {j : Nat} : PDE X cls W (pV X.K) (.Constant (.bool b) j pos) (cst (.bl b)) := pd_c pe_bl fun _ => .bl b
theorem pd_non {j : Nat} : PDE X cls W (pV X.K) (.Constant .none j pos) (cst .non) := pd_c pe_non fun _ => .non
theorem pd_str {x : Str} {j : Nat} : PDE X cls W (pV X.K) (.Constant (.str x) j pos) (cst (.str x)) := pd_c pe_str fun _ => .str x
theorem pd_gint {x : Str} {i : Int} {p : Pos} (hg : Gl X x) (hm : ∃ t, X.mg x = some (.int i t)) (hd : (x == ("__debug__" : Str)) = false := by decide) : PDE X cls W (pV X.K) (.Name x p) (cst (.int i)) := by
  obtain ⟨t, hm⟩ := hm
  exact pd_c (pe_glob (v := .int i) hg hm ⟨t, rfl⟩ hd) fun _ => .int i
theorem pd_gstr {x z : Str} {p : Pos} (hg : Gl X x) (hm : ∃ t, X.mg x = some (.str z t)) (hd : (x == ("__debug__" : Str)) = false := by decide) : PDE X cls W (pV X.K) (.Name x p) (cst (.str z)) := by
  obtain ⟨t, hm⟩ := hm
  exact pd_c (pe_glob (v := .str z) hg hm ⟨t, rfl⟩ hd) fun _ => .str z
/-! ### operators by values -/
def bin {α β γ : Type} (f : α → β → Option γ) (fa : EnvD → R α) (fb : EnvD → R β) : EnvD → R γ := fun env => (fa env).bind fun x => (fb env).bind fun y => R.ofO (f x y)
def una {α γ : Type} (f : α → Option γ) (fa : EnvD → R α) : EnvD → R γ := fun env => (fa env).bind fun x => R.ofO (f x)
/-- what an operator's reading asks is had from data -/
def OpSem {α β γ : Type} (P1 : PP V α) (P2 : PP V β) (P3 : PP V γ) (r : R2) (f : α → β → Option γ) : Prop :=
  ∀ S1 S2 F H x y d e z Q, Same F H → P1.rel S1 F H x d → P2.rel S2 F H y e → f d e = some z → (∀ v F' H', Ext F H F' H' → P3.rel H F' H' v z → Q v H') → r x y H Q
section
variable {α β γ : Type} {P1 : PP V α} {P2 : PP V β} {P3 : PP V γ} {fa : EnvD → R α} {fb : EnvD → R β}
theorem tG_bin {r : R2} {f : α → β → Option γ} (hr : OpSem P1 P2 P3 r f) {K : PySem.W.Frag} {σ : L2.St} {H : Hp} {Q : VK} (h : tG K cls W P3 (bin f fa fb) σ H Q) : tOp r (tG K cls W P1 fa) (tG K cls W P2 fb) σ H Q := by
  obtain ⟨H0, F, env, ea, g⟩ := h
  refine ⟨H0, F, env, ea, (Go.bind g).imp fun x H1 ⟨F1, d, _, e1, p1, g1⟩ => ⟨H0, F1, env, ea.mono e1, (Go.bind g1).imp fun y H2 ⟨F2, e, _, e2, p2, g2⟩ => ?_⟩⟩
  obtain ⟨z, hz, g3⟩ := Go.ofO g2
  exact hr _ _ F2 H2 x y d e z Q e2.i (P1.mono e2 p1) p2 hz g3
theorem pd_op {op : Operator} {r : R2} {f : α → β → Option γ} (ho : OpR X (binaryOp op) r) (hr : OpSem P1 P2 P3 r f) (ha : PDE X cls W P1 a fa) (hb : PDE X cls W P2 b fb) : PDE X cls W P3 (.BinOp a op b pos) (bin f fa fb) :=
  pe_imp (pe_op ho ha hb) fun σ H Q h => tG_bin hr h
theorem pd_cmp {op : CmpOp} {r : R2} {f : α → β → Option γ} (ho : OpR X (compareOp op) r) (hr : OpSem P1 P2 P3 r f) (ha : PDE X cls W P1 a fa) (hb : PDE X cls W P2 b fb) (hm : behindInMarks op b = false) :
    PDE X cls W P3 (.Compare a [op] [b] pos) (bin f fa fb) := pe_imp (pe_cmpR ho ha hb hm) fun σ H Q h => tG_bin hr h
theorem pd_un {op : UnaryOp} {r : V → Hp → VK → Prop} {f : α → Option γ} (ho : UnR X (unaryOp op) r) (hr : ∀ S F H x d z Q, Same F H → P1.rel S F H x d → f d = some z → (∀ v F' H', Ext F H F' H' → P3.rel H F' H' v z → Q v H') → r x H Q)
    (ha : PDE X cls W P1 a fa) : PDE X cls W P3 (.UnaryOp op a pos) (una f fa) := pe_imp (pe_un ho ha) fun σ H Q ⟨H0, F, env, ea, g⟩ => by
  refine ⟨H0, F, env, ea, (Go.bind g).imp fun x H1 ⟨F1, d, _, e1, p1, g1⟩ => ?_⟩
  obtain ⟨z, hz, g3⟩ := Go.ofO g1
  exact hr _ F1 H1 x d z Q e1.i p1 hz g3
/-- a subscript -/
theorem pd_ix {r : R2} {f : α → β → Option γ} (ho : IxR X r) (hr : OpSem P1 P2 P3 r f) (ha : PDE X cls W P1 a fa) (hb : PDE X cls W P2 b fb) (hs : PlainIx b) : PDE X cls W P3 (.Subscript a b pos) (bin f fa fb) :=
  pe_imp (pe_ix ho ha hb hs) fun σ H Q h => tG_bin hr h
end
/-- an operator's truth -/
def OpSemB {α β : Type} (P1 : PP V α) (P2 : PP V β) (r : R2) (f : α → β → Option Bool) : Prop :=
  ∀ S1 S2 F H x y d e z (Q : VK), Same F H → P1.rel S1 F H x d → P2.rel S2 F H y e → f d e = some z → Q (.bl z) H → r x y H Q
def toD (o : Option Bool) : Option D := o.map D.bl
theorem OpSemB.val {α β : Type} {P1 : PP V α} {P2 : PP V β} {r : R2} {f : α → β → Option Bool} {K : PySem.W.Frag} (h : OpSemB P1 P2 r f) : OpSem P1 P2 (pV K) r (fun x y => toD (f x y)) := fun S1 S2 F H x y d e z Q i p q hz k => by
  cases w : f d e with
  | none => simp [toD, w] at hz
  | some b =>
    simp [toD, w] at hz
    subst hz
    exact h S1 S2 F H x y d e b Q i p q w (k _ F H (Ext.refl i) (.bl b))
section
variable {α β γ : Type} {P1 : PP V α} {P2 : PP V β} {P3 : PP V γ} {fa : EnvD → R α} {fb : EnvD → R β} {fc : EnvD → R γ}
theorem pdt_cmp {op : CmpOp} {r : R2} {f : α → β → Option Bool} (ho : OpR X (compareOp op) r) (hr : OpSemB P1 P2 r f) (ha : PDE X cls W P1 a fa) (hb : PDE X cls W P2 b fb) (hm : behindInMarks op b = false) :
    PDT X cls W (.Compare a [op] [b] pos) (bin f fa fb) := pt_imp (pt_cmpR ho ha hb hm) fun σ H Q ⟨H0, F, env, ea, g⟩ => by
  refine ⟨H0, F, env, ea, (Go.bind g).imp fun x H1 ⟨F1, d, _, e1, p1, g1⟩ => ⟨H0, F1, env, ea.mono e1, (Go.bind g1).imp fun y H2 ⟨F2, e, _, e2, p2, g2⟩ => ?_⟩⟩
  obtain ⟨z, hz, g3⟩ := Go.ofO g2
  exact hr _ _ F2 H2 x y d e z _ e2.i (P1.mono e2 p1) p2 hz ⟨z, rfl, g3 z F2 H2 (Ext.refl e2.i) rfl⟩
/-- a < b < c -/
def chain {α β γ : Type} (f : α → β → Option Bool) (f' : β → γ → Option Bool) (fa : EnvD → R α) (fb : EnvD → R β) (fc : EnvD → R γ) : EnvD → R Bool :=
  fun env => (fa env).bind fun x => (fb env).bind fun y => (R.ofO (f x y)).bind fun k => if k = true then (fc env).bind fun z => R.ofO (f' y z) else .ok false
theorem tG_chain {r r' : R2} {f : α → β → Option Bool} {f' : β → γ → Option Bool} (hr : OpSemB P1 P2 r f) (hr' : OpSemB P2 P3 r' f') {K : PySem.W.Frag} {σ : L2.St} {H : Hp} {Q : VK} {H0 F : Hp} {env : EnvD} {Q' : Bool → Hp → Prop}
    (ea : EnvAt K H0 env σ F H) (g : Go cls pT W σ F H (chain f f' fa fb fc env) Q') (hq : ∀ k H1, Q' k H1 → Q (.bl k) H1) : tChain r r' (tG K cls W P1 fa) (tG K cls W P2 fb) (tG K cls W P3 fc) σ H Q := by
  refine ⟨H0, F, env, ea, (Go.bind g).imp fun x H1 ⟨F1, d, _, e1, p1, g1⟩ => ⟨H0, F1, env, ea.mono e1, (Go.bind g1).imp fun y H2 ⟨F2, e, _, e2, p2, g2⟩ => ?_⟩⟩
  have ea2 := (ea.mono e1).mono e2
  cases q : f d e with
  | none => rw [q] at g2; exact g2.elim
  | some k =>
    rw [q] at g2
    refine hr _ _ F2 H2 x y d e k _ e2.i (P1.mono e2 p1) p2 q ⟨k, rfl, ?_⟩
    cases k with
    | false => exact hq _ _ (g2 false F2 H2 (Ext.refl e2.i) rfl)
    | true =>
      have g2' : Go cls pT W σ F2 H2 ((fc env).bind fun z => R.ofO (f' e z)) Q' := g2
      refine ⟨H0, F2, env, ea2, (Go.bind g2').imp fun w H3 ⟨F3, u, _, e3, p3, g3⟩ => ?_⟩
      obtain ⟨z, hz, g4⟩ := Go.ofO g3
      exact hr' _ _ F3 H3 y w e u z Q e3.i (P2.mono e3 p2) p3 hz (hq _ _ (g4 z F3 H3 (Ext.refl e3.i) rfl))
def asV (f : EnvD → R Bool) : EnvD → R D := fun env => (f env).map D.bl
theorem Go.asV {K : PySem.W.Frag} {σ : L2.St} {F H : Hp} {f : EnvD → R Bool} {env : EnvD} {Q : VK} (g : Go cls (pV K) W σ F H (asV f env) Q) : Go cls pT W σ F H (f env) (fun k H1 => Q (.bl k) H1) := by
  unfold PD.asV at g
  cases q : f env with
  | ok k => rw [q] at g; exact fun v F' H' e p => by cases p; exact g _ F' H' e (.bl _)
  | err c => rw [q] at g; exact g
  | bad => rw [q] at g; exact g
theorem pd_chain {op op' : CmpOp} {r r' : R2} {f : α → β → Option Bool} {f' : β → γ → Option Bool} (ho : OpR X (compareOp op) r) (hr : OpSemB P1 P2 r f) (ho' : OpR X (compareOp op') r') (hr' : OpSemB P2 P3 r' f')
    (ha : PDE X cls W P1 a fa) (hb : PDE X cls W P2 b fb) (hc : PDE X cls W P3 c fc) (hm : lastMarks [op, op'] [b, c] = false) : PDE X cls W (pV X.K) (.Compare a [op, op'] [b, c] pos) (asV (chain f f' fa fb fc)) :=
  pe_imp (pe_chain ho ho' ha hb hc hm) fun σ H Q ⟨H0, F, env, ea, g⟩ => tG_chain hr hr' ea g.asV fun _ _ h => h
theorem pdt_chain {op op' : CmpOp} {r r' : R2} {f : α → β → Option Bool} {f' : β → γ → Option Bool} (ho : OpR X (compareOp op) r) (hr : OpSemB P1 P2 r f) (ho' : OpR X (compareOp op') r') (hr' : OpSemB P2 P3 r' f')
    (ha : PDE X cls W P1 a fa) (hb : PDE X cls W P2 b fb) (hc : PDE X cls W P3 c fc) (hm : lastMarks [op, op'] [b, c] = false) : PDT X cls W (.Compare a [op, op'] [b, c] pos) (chain f f' fa fb fc) :=
  pt_imp (pt_chain ho ho' ha hb hc hm) fun σ H Q ⟨H0, F, env, ea, g⟩ => tG_chain hr hr' ea g fun k H1 h => ⟨k, rfl, h⟩
end
/-! ### truth -/
def asB : D → Option Bool
  | .bl b => some b
  | _ => none
theorem rep_bl {K : PySem.W.Frag} {F : Hp} {v : V} {d : D} {b : Bool} (h : Rep K F v d) (q : asB d = some b) : v = .bl b ∧ d = .bl b := by
  cases h with
  | bl c => simp [asB] at q; subst q; exact ⟨rfl, rfl⟩
  | _ => simp [asB] at q
def tst (f : EnvD → R D) : EnvD → R Bool := una asB f
theorem Go.tst {K : PySem.W.Frag} {σ : L2.St} {F H : Hp} {f : EnvD → R D} {env : EnvD} {Q : Bool → Hp → Prop} (g : Go cls pT W σ F H (tst f env) Q) : Go cls (pV K) W σ F H (f env) (fun x H1 => ∃ k, x = .bl k ∧ Q k H1) := by
  unfold PD.tst una at g
  refine (Go.bind g).imp fun x H1 ⟨F1, d, _, e1, p1, g1⟩ => ?_
  obtain ⟨b, hb, g2⟩ := Go.ofO g1
  obtain ⟨h1, h2⟩ := rep_bl p1 hb
  exact ⟨b, h1, g2 b F1 H1 (Ext.refl e1.i) rfl⟩
variable {fa fb fc : EnvD → R D} {ta tb tc : EnvD → R Bool}
theorem pdt_val (ha : PDE X cls W (pV X.K) a fa) (he : ∀ whole, isTrue a X.env whole = (do let v ← whole; standAt a.pos; holding [v] (truthy v)) := by intro _; rfl) : PDT X cls W a (tst fa) :=
  pt_imp (pt_val ha he) fun σ H Q ⟨H0, F, env, ea, g⟩ => ⟨H0, F, env, ea, g.tst⟩
def andF (ta tb : EnvD → R Bool) : EnvD → R Bool := fun env => (ta env).bind fun k => if k = true then tb env else .ok false
def orF (ta tb : EnvD → R Bool) : EnvD → R Bool := fun env => (ta env).bind fun k => if k = true then .ok true else tb env
def notF (ta : EnvD → R Bool) : EnvD → R Bool := fun env => (ta env).map (!·)
abbrev PDW (X : Cx) (cls : Exc → Addr) (W : WX) (e : Expr) (f : EnvD → R Bool) : Prop := PW X e (tG X.K cls W pT f)
theorem pdw_and1 (ha : PDT X cls W a ta) : PDW X cls W (.BoolOp .And [a] pos) ta := pw_and1 ha
theorem pdw_or1 (ha : PDT X cls W a ta) : PDW X cls W (.BoolOp .Or [a] pos) ta := pw_or1 ha
theorem pdw_and {rest : List Expr} (ha : PDT X cls W a ta) (hb : PDW X cls W (.BoolOp .And (b :: rest) pos) tb) : PDW X cls W (.BoolOp .And (a :: b :: rest) pos) (andF ta tb) :=
  pw_imp (pw_and ha hb) fun σ H Q ⟨H0, F, env, ea, g⟩ => by
    refine ⟨H0, F, env, ea, (Go.bind g).imp fun k H1 ⟨F1, d, _, e1, p1, g1⟩ => ?_⟩
    cases p1
    cases k with
    | true => exact ⟨H0, F1, env, ea.mono e1, g1⟩
    | false => exact g1 false F1 H1 (Ext.refl e1.i) rfl
theorem pdw_or {rest : List Expr} (ha : PDT X cls W a ta) (hb : PDW X cls W (.BoolOp .Or (b :: rest) pos) tb) : PDW X cls W (.BoolOp .Or (a :: b :: rest) pos) (orF ta tb) :=
  pw_imp (pw_or ha hb) fun σ H Q ⟨H0, F, env, ea, g⟩ => by
    refine ⟨H0, F, env, ea, (Go.bind g).imp fun k H1 ⟨F1, d, _, e1, p1, g1⟩ => ?_⟩
    cases p1
    cases k with
    | false => exact ⟨H0, F1, env, ea.mono e1, g1⟩
    | true => exact g1 true F1 H1 (Ext.refl e1.i) rfl
theorem pdt_w (h : PDW X cls W e ta) : PDT X cls W e ta := h.pt
theorem Go.map {ρ α β : Type} {P : PP ρ β} {P1 : PP ρ α} {σ : L2.St} {F H : Hp} {r : R α} {f : α → β} {Q : ρ → Hp → Prop} (g : Go cls P W σ F H (r.map f) Q) {Q1 : ρ → Hp → Prop}
    (h : ∀ d, r = .ok d → (∀ v F' H', Ext F H F' H' → P.rel H F' H' v (f d) → Q v H') → ∀ v F' H', Ext F H F' H' → P1.rel H F' H' v d → Q1 v H') : Go cls P1 W σ F H r Q1 := by
  cases r with
  | ok d => exact h d rfl g
  | err c => exact g
  | bad => exact g
theorem pdt_not (ha : PDT X cls W a ta) : PDT X cls W (.UnaryOp .Not a pos) (notF ta) :=
  pt_imp (pt_not ha) fun σ H Q ⟨H0, F, env, ea, g⟩ => ⟨H0, F, env, ea, Go.map g fun d _ k v F' H' e p => by cases p; exact k _ F' H' e rfl⟩
/-- and, or, not as values -/
def andV (fa fb : EnvD → R D) : EnvD → R D := fun env => (tst fa env).bind fun k => if k = true then fb env else .ok (.bl false)
def orV (fa fb : EnvD → R D) : EnvD → R D := fun env => (tst fa env).bind fun k => if k = true then .ok (.bl true) else fb env
def notV (fa : EnvD → R D) : EnvD → R D := fun env => (tst fa env).map fun k => .bl (!k)
theorem pd_one {op : BoolOp} (h : PDE X cls W (pV X.K) a fa) : PDE X cls W (pV X.K) (.BoolOp op [a] pos) fa := pe_one h
theorem pd_and {rest : List Expr} (ha : PDE X cls W (pV X.K) a fa) (hb : PDE X cls W (pV X.K) (.BoolOp .And (b :: rest) pos) fb) : PDE X cls W (pV X.K) (.BoolOp .And (a :: b :: rest) pos) (andV fa fb) :=
  pe_imp (pe_and ha hb) fun σ H Q ⟨H0, F, env, ea, g⟩ => by
    refine ⟨H0, F, env, ea, (Go.tst (Go.bind (P1 := pT) g)).imp fun x H1 ⟨k, ex, F1, d, _, e1, p1, g1⟩ => ⟨k, ex, ?_⟩⟩
    cases p1
    cases k with
    | true => exact ⟨H0, F1, env, ea.mono e1, g1⟩
    | false => exact g1 _ F1 H1 (Ext.refl e1.i) (.bl false)
theorem pd_or {rest : List Expr} (ha : PDE X cls W (pV X.K) a fa) (hb : PDE X cls W (pV X.K) (.BoolOp .Or (b :: rest) pos) fb) : PDE X cls W (pV X.K) (.BoolOp .Or (a :: b :: rest) pos) (orV fa fb) :=
  pe_imp (pe_or ha hb) fun σ H Q ⟨H0, F, env, ea, g⟩ => by
    refine ⟨H0, F, env, ea, (Go.tst (Go.bind (P1 := pT) g)).imp fun x H1 ⟨k, ex, F1, d, _, e1, p1, g1⟩ => ⟨k, ex, ?_⟩⟩
    cases p1
    cases k with
    | false => exact ⟨H0, F1, env, ea.mono e1, g1⟩
    | true => exact g1 _ F1 H1 (Ext.refl e1.i) (.bl true)
theorem pd_not (ha : PDE X cls W (pV X.K) a fa) : PDE X cls W (pV X.K) (.UnaryOp .Not a pos) (notV fa) :=
  pe_imp (pe_not ha) fun σ H Q ⟨H0, F, env, ea, g⟩ => by
    have g' : Go cls pT W σ F H (tst fa env) (fun k H1 => Q (.bl (!k)) H1) := by
      unfold notV at g
      cases q : tst fa env with
      | ok k => rw [q] at g; exact fun v F' H' e p => by cases p; exact g _ F' H' e (.bl _)
      | err c => rw [q] at g; exact g
      | bad => rw [q] at g; exact g
    exact ⟨H0, F, env, ea, g'.tst⟩
def ifF {α : Type} (t : EnvD → R Bool) (fa fb : EnvD → R α) : EnvD → R α := fun env => (t env).bind fun k => if k = true then fa env else fb env
theorem pd_if {α : Type} {P : PP V α} {fa fb : EnvD → R α} (hc : PDT X cls W c tc) (ha : PDE X cls W P a fa) (hb : PDE X cls W P b fb) : PDE X cls W P (.IfExp c a b pos) (ifF tc fa fb) :=
  pe_imp (pe_ifExp hc ha hb) fun σ H Q ⟨H0, F, env, ea, g⟩ => by
    refine ⟨H0, F, env, ea, (Go.bind g).imp fun k H1 ⟨F1, d, _, e1, p1, g1⟩ => ?_⟩
    cases p1
    cases k with
    | true => exact ⟨H0, F1, env, ea.mono e1, g1⟩
    | false => exact ⟨H0, F1, env, ea.mono e1, g1⟩
/-! ### arguments, displays -/
def consF (fa : EnvD → R D) (fs : EnvD → R (List D)) : EnvD → R (List D) := fun env => (fa env).bind fun d => (fs env).map (d :: ·)
def nilF : EnvD → R (List D) := fun _ => .ok []
theorem pda_nil : PDA X cls W (pA X.K) [] nilF := pa_imp pa_nil fun σ H Q ⟨H0, F, env, ea, g⟩ => g [] F H (Ext.refl ea.fh) .nil
theorem pda_cons {es : List Expr} {fs : EnvD → R (List D)} (ha : PDE X cls W (pV X.K) a fa) (hs : PDA X cls W (pA X.K) es fs) (he : starEach (a :: es) X.env = (false, eval a X.env) :: starEach es X.env := by rfl) :
    PDA X cls W (pA X.K) (a :: es) (consF fa fs) := pa_imp (pa_cons ha hs he) fun σ H Q ⟨H0, F, env, ea, g⟩ =>
  ⟨H0, F, env, ea, (Go.bind g).imp fun x H1 ⟨F1, d, _, e1, p1, g1⟩ => ⟨H0, F1, env, ea.mono e1, Go.map g1 fun ds _ k vs F' H' e p => k _ F' H' e (.cons (p1.mono e.f) p)⟩⟩
theorem pdb_nil : PDA X cls W (pB' X.K) [] nilF := pa_imp pa_nil fun σ H Q ⟨H0, F, env, ea, g⟩ => g [] F H (Ext.refl ea.fh) .nil
theorem pdb_cons {es : List Expr} {fs : EnvD → R (List D)} (ha : PDE X cls W (pB X.K) a fa) (hs : PDA X cls W (pB' X.K) es fs) (he : starEach (a :: es) X.env = (false, eval a X.env) :: starEach es X.env := by rfl) :
    PDA X cls W (pB' X.K) (a :: es) (consF fa fs) := pa_imp (pa_cons ha hs he) fun σ H Q ⟨H0, F, env, ea, g⟩ =>
  ⟨H0, F, env, ea, (Go.bind g).imp fun x H1 ⟨F1, d, _, e1, p1, g1⟩ => ⟨H0, F1, env, ea.mono e1, Go.map g1 fun ds _ k vs F' H' e p => k _ F' H' e (.cons (RepB.mono p1 e.f e.h) p)⟩⟩
def small (n : Nat) : Bool := decide (n ≤ 16777216)
theorem small_ok {n : Nat} (h : small n = true) : n ≤ sizeLine := by rw [sizeLine_eq]; exact of_decide_eq_true h
def tupF (fs : EnvD → R (List D)) : EnvD → R D := fun env => (fs env).bind fun ds => if small ds.length = true then .ok (.tup ds) else .bad
theorem pd_tup {es : List Expr} {x1} {fs : EnvD → R (List D)} (hs : PDA X cls W (pA X.K) es fs) : PDE X cls W (pV X.K) (.Tuple es x1 pos) (tupF fs) := pe_imp (pe_tup hs) fun σ H Q ⟨H0, F, env, ea, g⟩ =>
  ⟨H0, F, env, ea, (Go.bind g).imp fun xs H1 ⟨F1, ds, _, e1, p1, g1⟩ => by
    by_cases hz : small ds.length = true
    · rw [if_pos hz] at g1
      have hl : xs.length ≤ sizeLine := by rw [Reps.length p1]; exact small_ok hz
      exact ⟨hl, fun p hp => g1 _ (upd F1 p (.tup xs)) _ (Ext.new e1.i hp) (.tup upd_same hl (Reps.mono p1 (Same.updN (e1.i.free hp))))⟩
    · rw [if_neg hz] at g1; exact g1.elim⟩
def lstF (fs : EnvD → R (List D)) : EnvD → R (List D) := fun env => (fs env).bind fun ds => if small ds.length = true then .ok ds else .bad
theorem pd_lst {es : List Expr} {fs : EnvD → R (List D)} (hs : PDA X cls W (pA X.K) es fs) : PDE X cls W (pN X.K) (.List es pos) (lstF fs) := pe_imp (pe_lst hs) fun σ H Q ⟨H0, F, env, ea, g⟩ =>
  ⟨H0, F, env, ea, (Go.bind g).imp fun xs H1 ⟨F1, ds, _, e1, p1, g1⟩ => by
    by_cases hz : small ds.length = true
    · rw [if_pos hz] at g1
      have hl : xs.length ≤ sizeLine := by rw [Reps.length p1]; exact small_ok hz
      exact ⟨hl, fun p hp => g1 _ F1 _ (Ext.newH e1.i hp) ⟨p, xs, rfl, hp, e1.i.free hp, upd_same, hl, p1⟩⟩
    · rw [if_neg hz] at g1; exact g1.elim⟩
/-! ### calls of built-ins -/
def appL {α : Type} (f : List D → Option α) (fs : EnvD → R (List D)) : EnvD → R α := fun env => (fs env).bind fun ds => R.ofO (f ds)
def CallSem {α : Type} (P : PP V α) (K : PySem.W.Frag) (r : List V → Hp → VK → Prop) (f : List D → Option α) : Prop :=
  ∀ F H xs ds z Q, Same F H → RepBs K F H xs ds → f ds = some z → (∀ v F' H', Ext F H F' H' → P.rel H F' H' v z → Q v H') → r xs H Q
variable {x : Str} {p : Pos} {es : List Expr} {fs : EnvD → R (List D)} {α : Type} {P : PP V α} {f : List D → Option α} {r : List V → Hp → VK → Prop} {id T : String}
theorem tG_call (hr : CallSem P X.K r f) {σ : L2.St} {H : Hp} {Q : VK} (h : tG X.K cls W P (appL f fs) σ H Q) : tCB r (tG X.K cls W (pB' X.K) fs) σ H Q := by
  obtain ⟨H0, F, env, ea, g⟩ := h
  refine ⟨H0, F, env, ea, (Go.bind g).imp fun xs H1 ⟨F1, ds, _, e1, p1, g1⟩ => ?_⟩
  obtain ⟨z, hz, g2⟩ := Go.ofO g1
  exact hr F1 H1 xs ds z Q e1.i p1 hz g2
theorem pd_callB (hc : CallR X (.builtin id) r) (hr : CallSem P X.K r f) (hg : Gl X x) (hm : X.mg x = none) (hv : bootBuiltins x = some (.builtin id)) (ha : PDA X cls W (pB' X.K) (e :: es) fs) (hn : x ≠ "__name__" := by decide) (hdb : (x == ("__debug__" : Str)) = false := by decide)
    (he : starEach (e :: es) X.env = (false, eval e X.env) :: starEach es X.env := by rfl) (hpl : (backTo pos (starEach es X.env)).any (·.1) = false := by rfl) : PDE X cls W P (.Call (.Name x p) (e :: es) [] pos) (appL f fs) :=
  pe_imp (pe_callB hc hg hm hv ha hn hdb he hpl) fun σ H Q h => tG_call hr h
theorem pd_callTy (hc : CallR X (.type T) r) (hr : CallSem P X.K r f) (hg : Gl X x) (hm : X.mg x = none) (hv : bootBuiltins x = some (.type T)) (ha : PDA X cls W (pB' X.K) (e :: es) fs) (hn : x ≠ "__name__" := by decide) (hdb : (x == ("__debug__" : Str)) = false := by decide)
    (he : starEach (e :: es) X.env = (false, eval e X.env) :: starEach es X.env := by rfl) (hpl : (backTo pos (starEach es X.env)).any (·.1) = false := by rfl) : PDE X cls W P (.Call (.Name x p) (e :: es) [] pos) (appL f fs) :=
  pe_imp (pe_callTy hc hg hm hv ha hn hdb he hpl) fun σ H Q h => tG_call hr h
end
end PD

set_option maxHeartbeats 4000000
namespace PD
open PySem PySem.Spec PyProof.Rows L2
/-! ### calls of defs -/
def GoF (K : PySem.W.Frag) (cls : Exc → Addr) (F H : Hp) (r : R D) (Q : VK) (E : XK) : Prop := match r with
  | .ok d => ∀ v F' H', Ext F H F' H' → Rep K F' v d → Q v H'
  | .err c => ∀ F' H', Ext F H F' H' → E (.ref (cls c)) none H'
  | .bad => False
def spD (K : PySem.W.Frag) (cls : Exc → Addr) (n : Nat) (fn : List D → R D) : Sp := fun vs H Q E => vs.length = n ∧ ∃ F ds, Same F H ∧ Reps K F vs ds ∧ GoF K cls F H (fn ds) Q E
structure Fn (P : Program) (w : World) (K : PySem.W.Frag) (mg : Str → Option Value) (base : Heap) (cls : Exc → Addr) (k : Nat) (x : Str) (n : Nat) (fn : List D → R D) : Prop where
  ex : ∃ (f : Addr) (fd : FuncData) (ps : List Str), FnOk P w K mg base (L2.CX P w) k f fd ps (spD K cls n fn) ∧ mg x = some (.ref f) ∧ PySem.W.keepIn K (.ref f) = true ∧ Binds K fd ps []
  len : ∀ ds, ds.length ≠ n → fn ds = .bad
def callF (fn : List D → R D) (fs : EnvD → R (List D)) : EnvD → R D := fun env => (fs env).bind fn
section
variable {X : Cx} {cls : Exc → Addr} {W : WX} {e a b c : Expr} {pos p : Pos}
theorem pd_call {k n : Nat} {x : Str} {fn : List D → R D} {es : List Expr} {fs : EnvD → R (List D)} (G : Fn X.prog X.w X.K X.mg X.base cls k x n fn) (hr : Room k X.A) (hg : Gl X x) (tk : Takes X W) (ha : PDA X cls W (pA X.K) (e :: es) fs)
    (hdb : (x == ("__debug__" : Str)) = false := by decide) (he : starEach (e :: es) X.env = (false, eval e X.env) :: starEach es X.env := by rfl) (hpl : (backTo pos (starEach es X.env)).any (·.1) = false := by rfl) :
    PDE X cls W (pV X.K) (.Call (.Name x p) (e :: es) [] pos) (callF fn fs) := by
  obtain ⟨f, fd, ps, G1, G2, G3, G4⟩ := G.ex
  refine pe_imp (pe_callS G1 hr hg G2 G3 G4 (fun σ => passAt tk σ) ha hdb he hpl) fun σ H Q ⟨H0, F, env, ea, g⟩ => ⟨H0, F, env, ea, (Go.bind g).imp fun vs H1 ⟨F1, ds, _, e1, p1, g1⟩ => ?_⟩
  have hl : ds.length = n := by
    by_cases q : ds.length = n
    · exact q
    · rw [G.len ds q] at g1; exact g1.elim
  refine ⟨by rw [Reps.length p1]; exact hl, F1, ds, e1.i, p1, ?_⟩
  cases q : fn ds with
  | ok d => rw [q] at g1; exact g1
  | err c => rw [q] at g1; exact g1
  | bad => rw [q] at g1; exact g1
/-! ### statements -/
def GoS (K : PySem.W.Frag) (cls : Exc → Addr) (W : WX) (F0 H0 F : Hp) (o : Out) (D : Ends) : Prop := match o with
  | .next e => ∀ σ' F' H', Ext F0 H0 F' H' → Same F F' → EnvAt K H0 e σ' F' H' → D.nx σ' H'
  | .brk e => ∀ σ' F' H', Ext F0 H0 F' H' → Same F F' → EnvAt K H0 e σ' F' H' → D.bk σ' H'
  | .cont e => ∀ σ' F' H', Ext F0 H0 F' H' → Same F F' → EnvAt K H0 e σ' F' H' → D.ct σ' H'
  | .ret d => ∀ v F' H', Ext F0 H0 F' H' → Same F F' → Rep K F' v d → D.rt v H'
  | .err c e => ∀ σ' F' H', Ext F0 H0 F' H' → Same F F' → EnvAt K H0 e σ' F' H' → W (.ref (cls c)) none σ' H'
  | .bad => False
theorem GoS.from {K : PySem.W.Frag} {F0 H0 F F1 : Hp} {o : Out} {D : Ends} (g : GoS K cls W F0 H0 F o D) (s : Same F F1) : GoS K cls W F0 H0 F1 o D := by
  cases o with
  | next e => exact fun σ' F' H' x y z => g σ' F' H' x (s.trans y) z
  | brk e => exact fun σ' F' H' x y z => g σ' F' H' x (s.trans y) z
  | cont e => exact fun σ' F' H' x y z => g σ' F' H' x (s.trans y) z
  | ret e => exact fun σ' F' H' x y z => g σ' F' H' x (s.trans y) z
  | err c e => exact fun σ' F' H' x y z => g σ' F' H' x (s.trans y) z
  | bad => exact g
def tS (K : PySem.W.Frag) (cls : Exc → Addr) (W : WX) (G : EnvD → Out) : TS := fun D σ H => ∃ H0 F0 env F, Ext F0 H0 F H ∧ EnvAt K H0 env σ F H ∧ GoS K cls W F0 H0 F (G env) D
abbrev PDS (X : Cx) (cls : Exc → Addr) (W : WX) (st : Stmt) (G : EnvD → Out) : Prop := PS X st (tS X.K cls W G)
abbrev PDSs (X : Cx) (cls : Exc → Addr) (W : WX) (st : List Stmt) (G : EnvD → Out) : Prop := PSs X st (tS X.K cls W G)
def seqS (G1 G2 : EnvD → Out) : EnvD → Out := fun env => match G1 env with
  | .next e => G2 e
  | .ret d => .ret d
  | .err c e => .err c e
  | .brk e => .brk e
  | .cont e => .cont e
  | .bad => .bad
theorem pds_cons {st : Stmt} {rest : List Stmt} {G1 G2 : EnvD → Out} (h1 : PDS X cls W st G1) (h2 : PDSs X cls W rest G2) : PDSs X cls W (st :: rest) (seqS G1 G2) := pss_imp (pss_cons h1 h2) fun D σ H ⟨H0, F0, env, F, x, ea, g⟩ => by
  refine ⟨H0, F0, env, F, x, ea, ?_⟩
  unfold seqS at g
  cases q : G1 env with
  | next e => rw [q] at g; exact fun σ' F' H' x' s' ea' => ⟨H0, F0, e, F', x', ea', g.from s'⟩
  | brk e => rw [q] at g; exact g
  | cont e => rw [q] at g; exact g
  | ret e => rw [q] at g; exact g
  | err c e => rw [q] at g; exact g
  | bad => rw [q] at g; exact g
def skipS : EnvD → Out := fun env => .next env
theorem pds_nil : PDSs X cls W [] skipS := pss_imp pss_nil fun D σ H ⟨H0, F0, env, F, x, ea, g⟩ => g σ F H x (Same.refl F) ea
theorem pds_one {st : Stmt} {G : EnvD → Out} (h : PDS X cls W st G) : PDSs X cls W [st] G := pss_one h
theorem pds_pass : PDS X cls W (.Pass pos) skipS := ps_imp ps_pass fun D σ H ⟨H0, F0, env, F, x, ea, g⟩ => g σ F H x (Same.refl F) ea
/-- a ghost step: slot i is frozen -/
def frzE (i : Nat) (env : EnvD) : EnvD := match env[i]? with
  | some (.own ds) => env.set i (.val (.lst ds))
  | some (.ownd _ ks vs) => env.set i (.val (.dic ks vs))
  | _ => env
theorem pds_frz {sts : List Stmt} {G : EnvD → Out} (i : Nat) (h : PDSs X cls W sts G) : PDSs X cls W sts (fun env => G (frzE i env)) := pss_imp h fun D σ H ⟨H0, F0, env, F, x, ea, g⟩ => by
  have g : GoS X.K cls W F0 H0 F (G (frzE i env)) D := g
  cases q : env[i]? with
  | none =>
    have e : frzE i env = env := by unfold frzE; rw [q]
    rw [e] at g; exact ⟨H0, F0, env, F, x, ea, g⟩
  | some s =>
    cases s with
    | own ds =>
      have e : frzE i env = env.set i (.val (.lst ds)) := by unfold frzE; rw [q]
      rw [e] at g
      obtain ⟨F', s1, s2, ea'⟩ := ea.freeze q
      exact ⟨H0, F0, _, F', ⟨x.f.trans s1, x.h, ea'.fh, fun a o z1 m z2 => x.n a o z1 m (s2 a o z1 m z2)⟩, ea', g.from s1⟩
    | no => (have e : frzE i env = env := by unfold frzE; rw [q]); rw [e] at g; exact ⟨H0, F0, env, F, x, ea, g⟩
    | val d => (have e : frzE i env = env := by unfold frzE; rw [q]); rw [e] at g; exact ⟨H0, F0, env, F, x, ea, g⟩
    | ownd tt ks vs =>
      have e : frzE i env = env.set i (.val (.dic ks vs)) := by unfold frzE; rw [q]
      rw [e] at g
      obtain ⟨F', s1, s2, ea'⟩ := ea.freezeD q
      exact ⟨H0, F0, _, F', ⟨x.f.trans s1, x.h, ea'.fh, fun a o z1 m z2 => x.n a o z1 m (s2 a o z1 m z2)⟩, ea', g.from s1⟩
def bindS {α : Type} (r : R α) (env : EnvD) (k : α → Out) : Out := match r with
  | .ok a => k a
  | .err c => .err c env
  | .bad => .bad
theorem GoS.expr {ρ α : Type} {P : PP ρ α} {K : PySem.W.Frag} {F0 H0 F H : Hp} {env : EnvD} {σ : L2.St} {r : R α} {k : α → Out} {D : Ends} (g : GoS K cls W F0 H0 F (bindS r env k) D) (x : Ext F0 H0 F H) (ea : EnvAt K H0 env σ F H) :
    Go cls P W σ F H r (fun v H1 => ∃ F1 d, r = .ok d ∧ Ext F H F1 H1 ∧ P.rel H F1 H1 v d ∧ GoS K cls W F0 H0 F1 (k d) D) := by
  cases r with
  | ok d => exact fun v F' H' e p => ⟨F', d, rfl, e, p, GoS.from g e.f⟩
  | err c => exact fun F' H' e => g σ F' H' (x.trans e) e.f (ea.mono e)
  | bad => exact g
variable {st : Stmt} {G G1 G2 : EnvD → Out}
def setS (i : Nat) (f : EnvD → R D) : EnvD → Out := fun env => bindS (f env) env fun d => .next (env.set i (.val d))
theorem pds_set {i : Nat} {f : EnvD → R D} (h : PS X st (tAsg (tG X.K cls W (pV X.K) f) (gName i))) : PDS X cls W st (setS i f) := ps_imp h fun D σ H ⟨H0, F0, env, F, x, ea, g⟩ =>
  ⟨H0, F, env, ea, (g.expr x ea).imp fun v H1 ⟨F1, d, _, e1, p1, g1⟩ => g1 _ F1 H1 (x.trans e1) (Same.refl F1) ((ea.mono e1).setV i p1)⟩
def setO (i : Nat) (f : EnvD → R (List D)) : EnvD → Out := fun env => bindS (f env) env fun d => .next (env.set i (.own d))
theorem pds_setN {i : Nat} {f : EnvD → R (List D)} (h : PS X st (tAsg (tG X.K cls W (pN X.K) f) (gName i))) : PDS X cls W st (setO i f) := ps_imp h fun D σ H ⟨H0, F0, env, F, x, ea, g⟩ =>
  ⟨H0, F, env, ea, (g.expr x ea).imp fun v H1 ⟨F1, d, _, e1, ⟨p, xs, ev, n1, n2, n3, n4, n5⟩, g1⟩ => by
    subst ev
    exact g1 _ F1 H1 (x.trans e1) (Same.refl F1) ((ea.mono e1).setO i ⟨p, xs, rfl, x.h.free n1, n2, n3, n4, n5⟩ fun j t _ hj ot hp => (ea.ownAt hj ot hp).1 n1)⟩
def setM (i : Nat) (f : EnvD → R (Bool × List D × List D)) : EnvD → Out := fun env => bindS (f env) env fun d => .next (env.set i (.ownd d.1 d.2.1 d.2.2))
theorem pds_setM {i : Nat} {f : EnvD → R (Bool × List D × List D)} (h : PS X st (tAsg (tG X.K cls W (pM X.K) f) (gName i))) : PDS X cls W st (setM i f) := ps_imp h fun D σ H ⟨H0, F0, env, F, x, ea, g⟩ =>
  ⟨H0, F, env, ea, (g.expr x ea).imp fun v H1 ⟨F1, d, _, e1, ⟨p, u, ev, n1, n2, n3, n4⟩, g1⟩ => by
    subst ev
    exact g1 _ F1 H1 (x.trans e1) (Same.refl F1) ((ea.mono e1).setO i ⟨p, u, rfl, x.h.free n1, n2, n3, n4⟩ fun j t _ hj ot hp => (ea.ownAt hj ot hp).1 n1)⟩
def dropS {α : Type} (f : EnvD → R α) : EnvD → Out := fun env => bindS (f env) env fun _ => .next env
theorem pds_expr {f : EnvD → R D} (h : PS X st (tDrop (tG X.K cls W (pV X.K) f))) : PDS X cls W st (dropS f) := ps_imp h fun D σ H ⟨H0, F0, env, F, x, ea, g⟩ =>
  ⟨H0, F, env, ea, (g.expr x ea).imp fun v H1 ⟨F1, d, _, e1, p1, g1⟩ => g1 _ F1 H1 (x.trans e1) (Same.refl F1) (ea.mono e1)⟩
def retS (f : EnvD → R D) : EnvD → Out := fun env => bindS (f env) env fun d => .ret d
theorem pds_ret {f : EnvD → R D} (h : PDE X cls W (pV X.K) e f) : PDS X cls W (.Return (some e) pos) (retS f) := ps_imp (ps_ret h) fun D σ H ⟨H0, F0, env, F, x, ea, g⟩ =>
  ⟨H0, F, env, ea, (g.expr x ea).imp fun v H1 ⟨F1, d, _, e1, p1, g1⟩ => g1 v F1 H1 (x.trans e1) (Same.refl F1) p1⟩
def ifS (t : EnvD → R Bool) (G1 G2 : EnvD → Out) : EnvD → Out := fun env => bindS (t env) env fun k => if k = true then G1 env else G2 env
theorem pds_if {t : EnvD → R Bool} {s1 s2 : List Stmt} (hc : PDT X cls W c t) (ha : PDSs X cls W s1 G1) (hb : PDSs X cls W s2 G2) : PDS X cls W (.If c s1 s2 pos) (ifS t G1 G2) := ps_imp (ps_if hc ha hb) fun D σ H ⟨H0, F0, env, F, x, ea, g⟩ =>
  ⟨H0, F, env, ea, (g.expr x ea).imp fun k H1 ⟨F1, d, _, e1, p1, g1⟩ => by
    cases p1
    cases k with
    | true => exact ⟨H0, F0, env, F1, x.trans e1, ea.mono e1, g1⟩
    | false => exact ⟨H0, F0, env, F1, x.trans e1, ea.mono e1, g1⟩⟩
def raiseS (c : Exc) : EnvD → Out := fun env => .err c env
/-- what is known of an exception class of the text -/
structure ExcAt (K : PySem.W.Frag) (mg : Str → Option Value) (x : Str) (C : Addr) : Prop where
  g : mg x = some (.ref C)
  x : PySem.W.excIn K C He.veBase "ValueError.__new__" = true
  k : PySem.W.keepIn K (.ref C) = true
  b : PySem.W.subIn K (.ref C) (.type "BaseException") = some true
  t : PySem.W.typeIn K (.ref C) = some (.type "type")
theorem pds_raise {x m : Str} {j : Nat} {q : Exc} {p2 pos2 pos3 : Pos} (hc : X.calm = true) (tk : Takes X W) (h : ExcAt X.K X.mg x (cls q)) (hg : Gl X x) (hdb : (x == ("__debug__" : Str)) = false := by decide) :
    PDS X cls W (.Raise (some (.Call (.Name x p) [.Constant (.str m) j p2] [] pos2)) none pos3) (raiseS q) :=
  ps_imp (ps_raise hc tk (pmk_own PySem.F.excBase_ValueError h.x h.g h.k (raises_own h.b h.t) hg hdb)) fun D σ H ⟨H0, F0, env, F, x, ea, g⟩ => g σ F H x (Same.refl F) ea
end
/-! ### walks -/
def WalkD (K : PySem.W.Frag) (b : Bool) (J : It) (F' H' : Hp) (ds : List D) : Prop :=
  ds.length ≤ sizeLine ∧ ∀ F1 H1, Same F' F1 → Same F1 H1 → (b = true → Same H' H1) →
    (∀ i d, ds[i]? = some d → J.go i H1 ∧ ∀ x H2, J.yld i H1 x H2 → ∃ F2, Ext F1 H1 F2 H2 ∧ Rep K F2 x d) ∧ J.stop ds.length H1
def pI (K : PySem.W.Frag) (b : Bool) : PP It (List D) := ⟨fun _ F' H' J ds => WalkD K b J F' H' ds, fun _ h => h, fun e h => ⟨h.1, fun F1 H1 a c d => h.2 F1 H1 (e.f.trans a) c fun q => e.h.trans (d q)⟩⟩
abbrev PDI (X : Cx) (cls : Exc → Addr) (W : WX) (b : Bool) (tg iter : Expr) (f : EnvD → R (List D)) : Prop := PI X tg iter (tG X.K cls W (pI X.K b) f)
section
variable {X : Cx} {cls : Exc → Addr} {W : WX} {e a b c tg : Expr} {pos p : Pos}
theorem pi_seq {tl : TE} {l : Expr} (hl : PE X l tl) : PI X tg l (fun σ H R => tl σ H fun x H1 => ∃ a, x = .ref a ∧ ((∃ xs, SqL X.K H1 a xs) ∧ R (Itl X.K a) H1 ∨ (∃ xs, SqT X.K H1 a xs) ∧ R (Itt X.K a) H1)) := by
  refine ⟨fun pins s σ H R I h => ?_⟩
  refine thn (hl.run pins s σ H _ I h) fun v s1 ⟨x, H1, I1, r1, q1⟩ => ?_
  obtain ⟨a, e, q1⟩ := q1
  subst e
  cases r1
  rcases q1 with ⟨⟨xs, hq⟩, q⟩ | ⟨⟨xs, hq⟩, q⟩
  · obtain ⟨its, rv, p, hz⟩ := I1.list hq
    refine wpAny_pyIter_list p.isList ?_
    refine ⟨s1.heap.objs.size, [s1.heap.objs.size], _, _, H1, rfl, I1.kept (t' := s1.toks) fun b o e => Heap.get?_push_of_some _ e, turn_list a _, ⟨_, Heap.get?_push_size _ rfl, rfl, rfl⟩, fun b hb => ?_, q⟩
    have e : b = s1.heap.objs.size := by simpa using hb
    subst e
    exact I1.fpOk (Nat.le_refl _) (I1.hok.fresh (Nat.le_refl _))
  · obtain ⟨its, rv, p, hz⟩ := I1.tuple hq
    refine wpAny_pyIter_tuple (show s1.heap.IsTuple a its.toArray from p) ?_
    refine ⟨s1.heap.objs.size, [s1.heap.objs.size], _, _, H1, rfl, I1.kept (t' := s1.toks) fun b o e => Heap.get?_push_of_some _ e, turn_tuple a _, ⟨_, Heap.get?_push_size _ rfl, rfl, rfl⟩, fun b hb => ?_, q⟩
    have e : b = s1.heap.objs.size := by simpa using hb
    subst e
    exact I1.fpOk (Nat.le_refl _) (I1.hok.fresh (Nat.le_refl _))
def asSeq : D → Option (List D)
  | .lst xs => some xs
  | .tup xs => some xs
  | _ => none
def seqF (f : EnvD → R D) : EnvD → R (List D) := una asSeq f
theorem walkL {K : PySem.W.Frag} {bb : Bool} {F H : Hp} {q : Addr} {xs : List V} {ds : List D} (h : ∀ F1 H1, Same F F1 → Same F1 H1 → (bb = true → Same H H1) → H1 q = some (.lst xs)) (hl : xs.length ≤ sizeLine) (r : Reps K F xs ds) : WalkD K bb (Itl K q) F H ds := by
  refine ⟨by rw [← r.length]; exact hl, fun F1 H1 a1 a2 a3 => ⟨fun i d hd => ?_, ⟨xs, SqL.of (h F1 H1 a1 a2 a3), by rw [r.length]; exact Nat.le_refl _⟩⟩⟩
  obtain ⟨v, hv, rv⟩ := r.get hd
  refine ⟨⟨xs, v, SqL.of (h F1 H1 a1 a2 a3), hv⟩, fun x H2 ⟨e1, e2⟩ => ?_⟩
  subst e1
  have := e2 xs (SqL.of (h F1 H2 a1 a2 a3))
  rw [hv] at this; cases this
  exact ⟨F1, Ext.refl a2, rv.mono a1⟩
theorem walkT {K : PySem.W.Frag} {bb : Bool} {F H : Hp} {q : Addr} {xs : List V} {ds : List D} (h : F q = some (.tup xs)) (hl : xs.length ≤ sizeLine) (r : Reps K F xs ds) : WalkD K bb (Itt K q) F H ds := by
  refine ⟨by rw [← r.length]; exact hl, fun F1 H1 a1 a2 a3 => ⟨fun i d hd => ?_, ⟨xs, SqT.of (a2 _ _ (a1 _ _ h)), by rw [r.length]; exact Nat.le_refl _⟩⟩⟩
  obtain ⟨v, hv, rv⟩ := r.get hd
  refine ⟨⟨xs, v, SqT.of (a2 _ _ (a1 _ _ h)), hv⟩, fun x H2 ⟨e1, e2⟩ => ?_⟩
  subst e1
  have := e2 xs (SqT.of (a2 _ _ (a1 _ _ h)))
  rw [hv] at this; cases this
  exact ⟨F1, Ext.refl a2, rv.mono a1⟩
theorem pdi_seq {f : EnvD → R D} (h : PDE X cls W (pV X.K) e f) : PDI X cls W false tg e (seqF f) := pi_imp (pi_seq h) fun σ H Q ⟨H0, F, env, ea, g⟩ =>
  ⟨H0, F, env, ea, (Go.bind g).imp fun x H1 ⟨F1, d, _, e1, p1, g1⟩ => by
    obtain ⟨ds, hd, g2⟩ := Go.ofO g1
    cases p1 with
    | lst h1 h2 h3 =>
      cases hd
      exact ⟨_, rfl, .inl ⟨⟨_, SqL.of (e1.i _ _ h1)⟩, g2 _ F1 H1 (Ext.refl e1.i) (walkL (fun F2 H2 a1 a2 _ => a2 _ _ (a1 _ _ h1)) h2 h3)⟩⟩
    | tup h1 h2 h3 =>
      cases hd
      exact ⟨_, rfl, .inr ⟨⟨_, SqT.of (e1.i _ _ h1)⟩, g2 _ F1 H1 (Ext.refl e1.i) (walkT h1 h2 h3)⟩⟩
    | _ => cases hd⟩
theorem pdi_seqB {f : EnvD → R D} (h : PDE X cls W (pB X.K) e f) : PDI X cls W true tg e (seqF f) := pi_imp (pi_seq h) fun σ H Q ⟨H0, F, env, ea, g⟩ =>
  ⟨H0, F, env, ea, (Go.bind g).imp fun x H1 ⟨F1, d, _, e1, p1, g1⟩ => by
    obtain ⟨ds, hd, g2⟩ := Go.ofO g1
    rcases p1 with p1 | ⟨q, xs, es, rfl, rfl, h1, h2, h3⟩ | ⟨q, u, t, ks, vs, rfl, rfl, h1, h2⟩
    · cases p1 with
      | lst h1 h2 h3 =>
        cases hd
        exact ⟨_, rfl, .inl ⟨⟨_, SqL.of (e1.i _ _ h1)⟩, g2 _ F1 H1 (Ext.refl e1.i) (walkL (fun F2 H2 a1 a2 _ => a2 _ _ (a1 _ _ h1)) h2 h3)⟩⟩
      | tup h1 h2 h3 =>
        cases hd
        exact ⟨_, rfl, .inr ⟨⟨_, SqT.of (e1.i _ _ h1)⟩, g2 _ F1 H1 (Ext.refl e1.i) (walkT h1 h2 h3)⟩⟩
      | _ => cases hd
    · cases hd
      exact ⟨_, rfl, .inl ⟨⟨_, SqL.of h1⟩, g2 _ F1 H1 (Ext.refl e1.i) (walkL (fun F2 H2 _ _ a3 => a3 rfl _ _ h1) h2 h3)⟩⟩
    · cases hd⟩
/-! ### ranges -/
def rng (lo hi : Int) : List D := (List.range (hi - lo).toNat).map fun i => .int (lo + (i : Nat))
def rngOk (lo hi : Int) : Bool := decide (-4611686018427387904 ≤ lo ∧ lo < 4611686018427387904 ∧ -4611686018427387904 ≤ hi ∧ hi < 4611686018427387904 ∧ hi - lo ≤ 16777216)
def asRng1 : List D → Option (List D)
  | [.int j] => if rngOk 0 j = true then some (rng 0 j) else none
  | _ => none
def asRng2 : List D → Option (List D)
  | [.int i, .int j] => if rngOk i j = true then some (rng i j) else none
  | _ => none
theorem walkR {K : PySem.W.Frag} {bb : Bool} {F H : Hp} {lo : Int} {n : Nat} (h : n ≤ sizeLine) : WalkD K bb (Itr lo n) F H ((List.range n).map fun i => .int (lo + (i : Nat))) := by
  refine ⟨by simpa using h, fun F1 H1 a1 a2 a3 => ⟨fun i d hd => ?_, by simp [Itr]⟩⟩
  rw [List.getElem?_map] at hd
  cases q : (List.range n)[i]? with
  | none => rw [q] at hd; cases hd
  | some j =>
    rw [q] at hd
    obtain ⟨hi, ej⟩ := List.getElem?_eq_some_iff.mp q
    have hi' : i < n := by simpa using hi
    have ej' : i = j := by simpa using ej
    subst ej'
    cases hd
    exact ⟨hi', fun x H2 ⟨e1, e2⟩ => by subst e1 e2; exact ⟨F1, Ext.refl a2, .int _⟩⟩
theorem rng_le {lo hi : Int} (h : rngOk lo hi = true) : (hi - lo).toNat ≤ sizeLine := by
  have := of_decide_eq_true h
  rw [sizeLine_eq]; omega
theorem reps_bs1 {K : PySem.W.Frag} {F H : Hp} {vs : List V} {i : Int} (h : RepBs K F H vs [.int i]) : vs = [.int i] := by
  cases h with | cons a b => cases b; rcases a with a | ⟨_, _, _, _, a, _⟩ | ⟨_, _, _, _, _, _, a, _⟩ <;> cases a; rfl
theorem reps_bs2 {K : PySem.W.Frag} {F H : Hp} {vs : List V} {i j : Int} (h : RepBs K F H vs [.int i, .int j]) : vs = [.int i, .int j] := by
  cases h with | cons a b => rw [reps_bs1 b]; rcases a with a | ⟨_, _, _, _, a, _⟩ | ⟨_, _, _, _, _, _, a, _⟩ <;> cases a; rfl
theorem pdi_range1 {fs : EnvD → R (List D)} (hg : Gl X "range") (hm : X.mg "range" = none) (ha : PDA X cls W (pB' X.K) [a] fs) (hs : starEach [a] X.env = [(false, eval a X.env)] := by rfl) : PDI X cls W false tg (.Call (.Name "range" p) [a] [] pos) (appL asRng1 fs) :=
  pi_imp (pi_range1 hg hm ha hs) fun σ H Q ⟨H0, F, env, ea, g⟩ => ⟨H0, F, env, ea, (Go.bind g).imp fun xs H1 ⟨F1, ds, _, e1, p1, g1⟩ => by
    obtain ⟨z, hz, g2⟩ := Go.ofO g1
    unfold asRng1 at hz
    split at hz
    · rename_i j hq
      by_cases hk : rngOk 0 j = true
      · rw [if_pos hk] at hz; cases hz
        have hb := of_decide_eq_true hk
        have hw := walkR (K := X.K) (bb := false) (F := F1) (H := H1) (lo := 0) (rng_le hk)
        rw [Int.sub_zero] at hw
        refine ⟨j, reps_bs1 p1, by omega, by omega, g2 _ F1 H1 (Ext.refl e1.i) ?_⟩
        unfold rng
        rw [Int.sub_zero]
        exact hw
      · rw [if_neg hk] at hz; cases hz
    · cases hz⟩
theorem pdi_range2 {fs : EnvD → R (List D)} (hg : Gl X "range") (hm : X.mg "range" = none) (ha : PDA X cls W (pB' X.K) [a, b] fs) (hs : starEach [a, b] X.env = [(false, eval a X.env), (false, eval b X.env)] := by rfl) (hs2 : starEach [b] X.env = [(false, eval b X.env)] := by rfl) : PDI X cls W false tg (.Call (.Name "range" p) [a, b] [] pos) (appL asRng2 fs) :=
  pi_imp (pi_range2 hg hm ha hs hs2) fun σ H Q ⟨H0, F, env, ea, g⟩ => ⟨H0, F, env, ea, (Go.bind g).imp fun xs H1 ⟨F1, ds, _, e1, p1, g1⟩ => by
    obtain ⟨z, hz, g2⟩ := Go.ofO g1
    unfold asRng2 at hz
    split at hz
    · rename_i i j hq
      by_cases hk : rngOk i j = true
      · rw [if_pos hk] at hz; cases hz
        have hb := of_decide_eq_true hk
        exact ⟨i, j, reps_bs2 p1, ⟨by omega, by omega, by omega, by omega⟩, g2 _ F1 H1 (Ext.refl e1.i) (walkR (rng_le hk))⟩
      · rw [if_neg hk] at hz; cases hz
    · cases hz⟩
end
end PD

set_option maxHeartbeats 4000000
/-! [f, g, ..][i](e, ..): a function picked from a list -/
namespace PD
open PySem PySem.Spec PyProof.Rows L2
section
variable {X : Cx} {W : WX} {cls : Exc → Addr} {fe e i : Expr} {es : List Expr} {pos : Pos} {tf : TE} {t : TA}
def tCallX (X : Cx) (W : WX) (tf : TE) (t : TA) : TE := fun σ H Q => tf σ H fun y H1 => ∃ (f : Addr) (k : Nat) (fd : FuncData) (ps : List Str) (sp : Sp), y = .ref f ∧ FnOk X.prog X.w X.K X.mg X.base (L2.CX X.prog X.w) k f fd ps sp ∧ Room k X.A ∧
  PySem.W.keepIn X.K (.ref f) = true ∧ Binds X.K fd ps [] ∧ t σ H1 fun vs H2 => sp vs H2 Q (WE W σ)
theorem pe_callX (tk : Takes X W) (hf : PE X fe tf) (ha : PA X (e :: es) t)
    (ht : eval (.Call fe (e :: es) [] pos) X.env = (do callWith pos (← eval fe X.env) [] (backTo pos (starEach (e :: es) X.env)) (backToKw pos (keywordEach [] X.env))) := by rfl)
    (he : starEach (e :: es) X.env = (false, eval e X.env) :: starEach es X.env := by rfl) (hpl : (backTo pos (starEach es X.env)).any (·.1) = false := by rfl) : PE X (.Call fe (e :: es) [] pos) (tCallX X W tf t) := by
  refine ⟨fun pins s σ H Q I h => ?_⟩
  refine Call_ (thn (hf.run pins s σ H _ I h) fun u s1 ⟨y, H1, I1, ry, f, k, fd, ps, sp, ey, F, hr, hk, hb, q⟩ => ?_) ht
  subst ey
  obtain rfl : u = Value.ref f := ry
  exact PySem.W.callWith_K (h₀ := X.base) I1.ok.mod.kin hk (thn (ha.run pos pins s1 σ H1 _ I1 q) fun us s2 ⟨vs, H2, I2, r, q2⟩ => ⟨I2.kIn, run_fnS F hr hb (passAt tk σ) I2 r q2⟩) he hpl
def callXF (fns : List (List D → R D)) (fi : EnvD → R D) (fs : EnvD → R (List D)) : EnvD → R D := fun env => (fi env).bind fun d => match d with
  | .int j => match atI fns j with
    | some fn => (fs env).bind fn
    | none => .bad
  | _ => .bad
/-- a function of the module -/
def FnA (X : Cx) (cls : Exc → Addr) (v : V) (fn : List D → R D) : Prop := ∃ (f : Addr) (k n : Nat) (fd : FuncData) (ps : List Str), v = .ref f ∧ FnOk X.prog X.w X.K X.mg X.base (L2.CX X.prog X.w) k f fd ps (spD X.K cls n fn) ∧ Room k X.A ∧
  PySem.W.keepIn X.K (.ref f) = true ∧ Binds X.K fd ps [] ∧ ∀ ds, ds.length ≠ n → fn ds = .bad
theorem fn_get {fn : List D → R D} : ∀ {vs : List V} {fns : List (List D → R D)} {k : Nat}, Paired (FnA X cls) vs fns → fns[k]? = some fn → ∃ v, vs[k]? = some v ∧ FnA X cls v fn
  | _, _, _, .nil, e => by simp at e
  | _, _, 0, .cons a _, e => by simp at e; subst e; exact ⟨_, rfl, a⟩
  | _, _, k + 1, .cons _ b, e => by
    obtain ⟨v, h1, h2⟩ := fn_get (k := k) b (by simpa using e)
    exact ⟨v, by simpa using h1, h2⟩
theorem fn_at {vs : List V} {fns : List (List D → R D)} (h : Paired (FnA X cls) vs fns) {j : Int} {fn : List D → R D} (e : atI fns j = some fn) : ∃ v, atI vs j = some v ∧ FnA X cls v fn := by
  have hl : vs.length = fns.length := Paired.length h
  unfold atI at e ⊢
  rw [hl]
  cases q : ixN fns.length j with
  | none => rw [q] at e; cases e
  | some k =>
    rw [q] at e
    exact fn_get h e
theorem tG_callX {vs : List V} {fns : List (List D → R D)} {fi : EnvD → R D} {fs : EnvD → R (List D)} {tl : TA} (hp : Paired (FnA X cls) vs fns) (hz : vs.length ≤ sizeLine) (htl : ∀ σ H (Q : List V → Hp → Prop), Q vs H → tl σ H Q) {σ : L2.St} {H : Hp} {Q : VK}
    (h : tG X.K cls W (pV X.K) (callXF fns fi fs) σ H Q) : tCallX X W (tOp (rIx X.K) (tLst tl) (tG X.K cls W (pV X.K) fi)) (tG X.K cls W (pA X.K) fs) σ H Q := by
  obtain ⟨H0, F, env, ea, g⟩ := h
  refine htl σ H _ ⟨hz, fun p hpn => ?_⟩
  have e0 : Ext F H F (upd H p (.lst vs)) := Ext.newH ea.fh hpn
  have ea0 := ea.mono e0
  have g0 : Go cls (pV X.K) W σ F (upd H p (.lst vs)) (callXF fns fi fs env) Q := by
    cases q : callXF fns fi fs env with
    | ok d => rw [q] at g; exact fun v F' H' x r => g v F' H' (e0.trans x) r
    | err c => rw [q] at g; exact fun F' H' x => g F' H' (e0.trans x)
    | bad => rw [q] at g; exact g
  refine ⟨H0, F, env, ea0, (Go.bind g0).imp fun y H1 ⟨F1, d, _, e1, p1, g1⟩ => ?_⟩
  cases d with
  | int j =>
    cases p1
    cases w : atI fns j with
    | none => simp only [w] at g1; exact g1.elim
    | some fn =>
      simp only [w] at g1
      obtain ⟨v, hv, f, k, n, fd, ps, rfl, f1, f2, f3, f4, f5⟩ := fn_at hp w
      refine .inl ⟨p, vs, j, .ref f, rfl, rfl, SqL.of (e1.h _ _ upd_same), hv, f, k, fd, ps, _, rfl, f1, f2, f3, f4, H0, F1, env, ea0.mono e1, (Go.bind g1).imp fun us H2 ⟨F2, ds, _, e2, p2, g2⟩ => ?_⟩
      have hl : ds.length = n := by
        by_cases q : ds.length = n
        · exact q
        · rw [f5 ds q] at g2; exact g2.elim
      refine ⟨by rw [Reps.length p2]; exact hl, F2, ds, e2.i, p2, ?_⟩
      cases q : fn ds with
      | ok d => rw [q] at g2; exact g2
      | err c => rw [q] at g2; exact g2
      | bad => rw [q] at g2; exact g2
  | _ => exact g1.elim
theorem Fn.at' {k n : Nat} {x : Str} {fn : List D → R D} (G : Fn X.prog X.w X.K X.mg X.base cls k x n fn) (hr : Room k X.A) : ∃ f : Addr, X.mg x = some (.ref f) ∧ FnA X cls (.ref f) fn := by
  obtain ⟨f, fd, ps, G1, G2, G3, G4⟩ := G.ex
  exact ⟨f, G2, f, k, n, fd, ps, rfl, G1, hr, G3, G4, G.len⟩
theorem pd_callX2 {k1 n1 k2 n2 : Nat} {x1 x2 : Str} {fn1 fn2 : List D → R D} {fi : EnvD → R D} {fs : EnvD → R (List D)} {p1 p2 lp sp : Pos} (G1 : Fn X.prog X.w X.K X.mg X.base cls k1 x1 n1 fn1) (G2 : Fn X.prog X.w X.K X.mg X.base cls k2 x2 n2 fn2)
    (r1 : Room k1 X.A) (r2 : Room k2 X.A) (g1 : Gl X x1) (g2 : Gl X x2) (tk : Takes X W) (hi : PDE X cls W (pV X.K) i fi) (hs : PlainIx i) (ha : PDA X cls W (pA X.K) (e :: es) fs)
    (d1 : (x1 == ("__debug__" : Str)) = false := by decide) (d2 : (x2 == ("__debug__" : Str)) = false := by decide)
    (s1 : starEach [.Name x1 p1, .Name x2 p2] X.env = (false, eval (.Name x1 p1) X.env) :: starEach [.Name x2 p2] X.env := by rfl) (s2 : starEach [.Name x2 p2] X.env = (false, eval (.Name x2 p2) X.env) :: starEach [] X.env := by rfl)
    (ht : eval (.Call (.Subscript (.List [.Name x1 p1, .Name x2 p2] lp) i sp) (e :: es) [] pos) X.env = (do callWith pos (← eval (.Subscript (.List [.Name x1 p1, .Name x2 p2] lp) i sp) X.env) [] (backTo pos (starEach (e :: es) X.env)) (backToKw pos (keywordEach [] X.env))) := by rfl)
    (he : starEach (e :: es) X.env = (false, eval e X.env) :: starEach es X.env := by rfl) (hpl : (backTo pos (starEach es X.env)).any (·.1) = false := by rfl) :
    PDE X cls W (pV X.K) (.Call (.Subscript (.List [.Name x1 p1, .Name x2 p2] lp) i sp) (e :: es) [] pos) (callXF [fn1, fn2] fi fs) := by
  obtain ⟨f1, m1, a1⟩ := Fn.at' G1 r1
  obtain ⟨f2, m2, a2⟩ := Fn.at' G2 r2
  refine pe_imp (pe_callX tk (pe_ix ix_seq (pe_lst (pa_cons (pe_glob (v := .ref f1) g1 m1 rfl d1) (pa_cons (pe_glob (v := .ref f2) g2 m2 rfl d2) pa_nil s2) s1)) hi hs) ha ht he hpl) fun σ H Q h => ?_
  exact tG_callX (vs := [.ref f1, .ref f2]) (.cons a1 (.cons a2 .nil)) (by show 2 ≤ sizeLine; decide) (fun σ H Q h => h) h
theorem pd_callX3 {k1 n1 k2 n2 k3 n3 : Nat} {x1 x2 x3 : Str} {fn1 fn2 fn3 : List D → R D} {fi : EnvD → R D} {fs : EnvD → R (List D)} {p1 p2 p3 lp sp : Pos} (G1 : Fn X.prog X.w X.K X.mg X.base cls k1 x1 n1 fn1) (G2 : Fn X.prog X.w X.K X.mg X.base cls k2 x2 n2 fn2) (G3 : Fn X.prog X.w X.K X.mg X.base cls k3 x3 n3 fn3)
    (r1 : Room k1 X.A) (r2 : Room k2 X.A) (r3 : Room k3 X.A) (g1 : Gl X x1) (g2 : Gl X x2) (g3 : Gl X x3) (tk : Takes X W) (hi : PDE X cls W (pV X.K) i fi) (hs : PlainIx i) (ha : PDA X cls W (pA X.K) (e :: es) fs)
    (d1 : (x1 == ("__debug__" : Str)) = false := by decide) (d2 : (x2 == ("__debug__" : Str)) = false := by decide) (d3 : (x3 == ("__debug__" : Str)) = false := by decide)
    (s1 : starEach [.Name x1 p1, .Name x2 p2, .Name x3 p3] X.env = (false, eval (.Name x1 p1) X.env) :: starEach [.Name x2 p2, .Name x3 p3] X.env := by rfl) (s2 : starEach [.Name x2 p2, .Name x3 p3] X.env = (false, eval (.Name x2 p2) X.env) :: starEach [.Name x3 p3] X.env := by rfl)
    (s3 : starEach [.Name x3 p3] X.env = (false, eval (.Name x3 p3) X.env) :: starEach [] X.env := by rfl)
    (ht : eval (.Call (.Subscript (.List [.Name x1 p1, .Name x2 p2, .Name x3 p3] lp) i sp) (e :: es) [] pos) X.env = (do callWith pos (← eval (.Subscript (.List [.Name x1 p1, .Name x2 p2, .Name x3 p3] lp) i sp) X.env) [] (backTo pos (starEach (e :: es) X.env)) (backToKw pos (keywordEach [] X.env))) := by rfl)
    (he : starEach (e :: es) X.env = (false, eval e X.env) :: starEach es X.env := by rfl) (hpl : (backTo pos (starEach es X.env)).any (·.1) = false := by rfl) :
    PDE X cls W (pV X.K) (.Call (.Subscript (.List [.Name x1 p1, .Name x2 p2, .Name x3 p3] lp) i sp) (e :: es) [] pos) (callXF [fn1, fn2, fn3] fi fs) := by
  obtain ⟨f1, m1, a1⟩ := Fn.at' G1 r1
  obtain ⟨f2, m2, a2⟩ := Fn.at' G2 r2
  obtain ⟨f3, m3, a3⟩ := Fn.at' G3 r3
  refine pe_imp (pe_callX tk (pe_ix ix_seq (pe_lst (pa_cons (pe_glob (v := .ref f1) g1 m1 rfl d1) (pa_cons (pe_glob (v := .ref f2) g2 m2 rfl d2) (pa_cons (pe_glob (v := .ref f3) g3 m3 rfl d3) pa_nil s3) s2) s1)) hi hs) ha ht he hpl) fun σ H Q h => ?_
  exact tG_callX (vs := [.ref f1, .ref f2, .ref f3]) (.cons a1 (.cons a2 (.cons a3 .nil))) (by show 3 ≤ sizeLine; decide) (fun σ H Q h => h) h
end
end PD

set_option maxHeartbeats 4000000
namespace PD
open PySem PySem.Spec PyProof.Rows L2
/-! ### targets -/
inductive Pat where
  | nm (i : Nat) | tp (is : List Nat)
def Pat.ix : Pat → List Nat
  | .nm i => [i]
  | .tp is => is
def sets : List Nat → List D → EnvD → EnvD
  | i :: is, d :: ds, e => sets is ds (e.set i (.val d))
  | _, _, e => e
def bindP : Pat → D → EnvD → Option EnvD
  | .nm i, d, e => some (e.set i (.val d))
  | .tp is, .tup ds, e => if ds.length = is.length then some (sets is ds e) else none
  | .tp _, _, _ => none
def gNames : List Nat → TGs
  | [] => gNil
  | i :: is => gCons (gName i) (gNames is)
def gPat (K : PySem.W.Frag) : Pat → TG
  | .nm i => gName i
  | .tp is => gTup K is.length (gNames is)
def wipeE (env : EnvD) : List Nat → EnvD
  | [] => env
  | v :: vs => (wipeE env vs).set v .no
theorem set_swap {α : Type} {l : List α} {i j : Nat} {x y : α} (h : i ≠ j) : (l.set i x).set j y = (l.set j y).set i x := by
  apply List.ext_getElem?
  intro k
  by_cases hi : i = k
  · subst hi
    rw [List.getElem?_set_ne (Ne.symm h)]
    simp [List.getElem?_set]
  · by_cases hj : j = k
    · subst hj
      rw [List.getElem?_set_ne (l := l.set j y) hi]
      simp [List.getElem?_set, hi]
    · rw [List.getElem?_set_ne hj, List.getElem?_set_ne hi, List.getElem?_set_ne hi, List.getElem?_set_ne hj]
theorem set_set' {α : Type} {l : List α} {i : Nat} {x y : α} : (l.set i x).set i y = l.set i y := by
  apply List.ext_getElem?
  intro k
  simp only [List.getElem?_set, List.length_set]
  split <;> rfl
theorem wipe_set {σ : L2.St} {i : Nat} {x : Option V} : ∀ {vs : List Nat}, i ∈ vs → wipe (σ.set i x) vs = wipe σ vs
  | v :: vs, h => by
    show (wipe (σ.set i x) vs).set v none = (wipe σ vs).set v none
    have comm : ∀ ws : List Nat, i ∉ ws → wipe (σ.set i x) ws = (wipe σ ws).set i x := by
      intro ws
      induction ws with
      | nil => intro _; rfl
      | cons u us ih =>
        intro hn
        have h1 : i ≠ u := fun e => hn (by simp [e])
        have h2 : i ∉ us := fun e => hn (by simp [e])
        show (wipe (σ.set i x) us).set u none = ((wipe σ us).set u none).set i x
        rw [ih h2, set_swap h1]
    by_cases hm : i ∈ vs
    · rw [wipe_set hm]
    · have e : i = v := by
        rcases List.mem_cons.mp h with e | e
        · exact e
        · exact absurd e hm
      subst e
      rw [comm vs hm, set_set']
section
variable {K : PySem.W.Frag} {H0 F H : Hp} {env : EnvD} {σ : L2.St}
theorem EnvAt.wipe (h : EnvAt K H0 env σ F H) : ∀ vs : List Nat, EnvAt K H0 (wipeE env vs) (wipe σ vs) F H
  | [] => h
  | v :: vs => (EnvAt.wipe h vs).setNo v none
theorem gNames_ok : ∀ {is : List Nat} {ds : List D} {vs : List V} {env : EnvD} {σ : L2.St} {Q : L2.St → Hp → Prop}, is.length = ds.length → Reps K F vs ds → EnvAt K H0 env σ F H →
    (∀ σ', EnvAt K H0 (sets is ds env) σ' F H → (∀ ws : List Nat, (∀ i ∈ is, i ∈ ws) → L2.wipe σ' ws = L2.wipe σ ws) → Q σ' H) → gNames is vs σ H Q
  | [], [], _, env, σ, Q, _, r, ea, k => by cases r; exact ⟨rfl, k σ ea fun _ _ => rfl⟩
  | i :: is, d :: ds, _, env, σ, Q, hl, r, ea, k => by
    cases r with
    | cons a b =>
      refine ⟨_, _, rfl, gNames_ok (is := is) (ds := ds) (by simpa using hl) b (ea.setV i a) fun σ' ea' hw => k σ' ea' fun ws hws => ?_⟩
      rw [hw ws fun j hj => hws j (List.mem_cons_of_mem _ hj), wipe_set (hws i (by simp))]
theorem gPat_ok {p : Pat} {d : D} {v : V} {env' : EnvD} {Q : L2.St → Hp → Prop} (ea : EnvAt K H0 env σ F H) (r : Rep K F v d) (hb : bindP p d env = some env')
    (k : ∀ σ', EnvAt K H0 env' σ' F H → (∀ ws : List Nat, (∀ i ∈ p.ix, i ∈ ws) → L2.wipe σ' ws = L2.wipe σ ws) → Q σ' H) : gPat K p v σ H Q := by
  cases p with
  | nm i =>
    cases hb
    exact k _ (ea.setV i r) fun ws hws => wipe_set (hws i (by simp [Pat.ix]))
  | tp is =>
    cases r with
    | tup h1 h2 h3 =>
      rename_i ds
      have hb : (if ds.length = is.length then some (sets is ds env) else none) = some env' := hb
      by_cases hl : ds.length = is.length
      · rw [if_pos hl] at hb
        cases hb
        exact ⟨_, _, rfl, SqT.of (ea.fh _ _ h1), by rw [h3.length]; exact hl, gNames_ok hl.symm h3 ea k⟩
      · rw [if_neg hl] at hb; cases hb
    | _ => cases hb
end
theorem pg_nm {X : Cx} {i : Nat} {e : Expr} (h : PG X e (gName i)) : PG X e (gPat X.K (.nm i)) := h
theorem pg_tp {X : Cx} {es : List Expr} {k : Nat} {is : List Nat} {pos : Pos} (hc : X.calm = true) (h : PGs X es (gNames is)) (hn : (assignEach es X.env).length = is.length := by rfl) (hst : (assignEach es X.env).findIdx? (fun x => x.1) = none := by rfl) : PG X (.Tuple es k pos) (gPat X.K (.tp is)) := pg_tup hc h hn hst
theorem pgn_nil {X : Cx} : PGs X [] (gNames []) := pgs_nil
theorem pgn_cons {X : Cx} {e : Expr} {es : List Expr} {i : Nat} {is : List Nat} (h1 : PG X e (gName i)) (h2 : PGs X es (gNames is)) (hs : (assignEach (e :: es) X.env).map (·.2) = assign e X.env :: (assignEach es X.env).map (·.2) := by rfl) : PGs X (e :: es) (gNames (i :: is)) := pgs_cons h1 h2 hs
/-! ### for -/
def forL (p : Pat) (G : EnvD → Out) : List D → EnvD → Out
  | [], e => .next e
  | d :: r, e => match bindP p d e with
    | none => .bad
    | some e1 => match G e1 with
      | .next e2 => forL p G r e2
      | .cont e2 => forL p G r e2
      | .brk e2 => .next e2
      | .ret d => .ret d
      | .err c e2 => .err c e2
      | .bad => .bad
def forS (p : Pat) (f : EnvD → R (List D)) (G : EnvD → Out) : EnvD → Out := fun env => bindS (f env) env fun ds => forL p G ds env
section
variable {X : Cx} {cls : Exc → Addr} {W : WX} {e a b c tg iter : Expr} {pos : Pos} {G : EnvD → Out}
theorem pds_for {p : Pat} {f : EnvD → R (List D)} {body : List Stmt} (hp : PassesOwn (model X.prog X.w) X.A X.env X.xe) (hc : X.calm = true) (hi : PDI X cls W false tg iter f) (hg : PG X tg (gPat X.K p)) (hb : PDSs X cls W body G)
    (hs : ∀ x, foldedSetIterable iter X.env x = pure x := by intro _; rfl) : PDS X cls W (.For tg iter body [] pos) (forS p f G) := ps_imp (ps_for hp hc hi hg hb hs) fun D σ H ⟨H0, F0, env, F, x, ea, g⟩ => by
  refine ⟨H0, F, env, ea, (g.expr x ea).imp fun J H1 ⟨F1, ds, _, e1, ⟨hz, wk⟩, g1⟩ => ?_⟩
  have ea1 := ea.mono e1
  have x1 := x.trans e1
  refine ⟨fun i m σ' H' => m = ds.length - i ∧ i ≤ ds.length ∧ ∃ F' env', Ext F0 H0 F' H' ∧ Same F1 F' ∧ EnvAt X.K H0 env' σ' F' H' ∧ GoS X.K cls W F0 H0 F' (forL p G (ds.drop i) env') D, ⟨ds.length, by simp, Nat.zero_le _, F1, env, x1, Same.refl _, ea1, g1⟩, ?_⟩
  rintro i m σ' H' ⟨rfl, hi, F', env', x', s', ea', g'⟩
  have w := wk F' H' s' ea'.fh (fun q => nomatch q)
  by_cases hlt : i < ds.length
  · obtain ⟨d, hd⟩ : ∃ d, ds[i]? = some d := ⟨ds[i], by simp [hlt]⟩
    have hdr : ds.drop i = d :: ds.drop (i + 1) := by
      rw [List.drop_eq_getElem_cons hlt]
      have : ds[i] = d := by rw [List.getElem?_eq_getElem hlt] at hd; exact Option.some.inj hd
      rw [this]
    rw [hdr] at g'
    have g2 : GoS X.K cls W F0 H0 F' (match bindP p d env' with
      | none => .bad
      | some e1 => match G e1 with
        | .next e2 => forL p G (ds.drop (i + 1)) e2
        | .cont e2 => forL p G (ds.drop (i + 1)) e2
        | .brk e2 => .next e2
        | .ret d => .ret d
        | .err c e2 => .err c e2
        | .bad => .bad) D := g'
    obtain ⟨go, yl⟩ := w.1 i d hd
    refine .inr ⟨go, fun σ2 H2 => ∃ F2 env2, Ext F0 H0 F2 H2 ∧ Same F1 F2 ∧ EnvAt X.K H0 env2 σ2 F2 H2 ∧ GoS X.K cls W F0 H0 F2 (forL p G (ds.drop (i + 1)) env2) D, ?_, fun v H2 y => ?_⟩
    · rintro σ2 H2 ⟨F2, env2, h1, h2, h3, h4⟩
      exact ⟨ds.length - (i + 1), by omega, rfl, hlt, F2, env2, h1, h2, h3, h4⟩
    · obtain ⟨F2, e2, r2⟩ := yl v H2 y
      cases qb : bindP p d env' with
      | none => rw [qb] at g2; exact g2.elim
      | some env1 =>
        rw [qb] at g2
        refine gPat_ok (ea'.mono e2) r2 qb fun σ2 ea2 _ => ⟨H0, F0, env1, F2, x'.trans e2, ea2, ?_⟩
        have g3 := g2.from e2.f
        dsimp only at g3
        have s2 : Same F1 F2 := s'.trans e2.f
        cases q : G env1 with
        | next e => rw [q] at g3; exact fun σ3 F3 H3 x3 s3 ea3 => ⟨F3, e, x3, s2.trans s3, ea3, g3.from s3⟩
        | cont e => rw [q] at g3; exact fun σ3 F3 H3 x3 s3 ea3 => ⟨F3, e, x3, s2.trans s3, ea3, g3.from s3⟩
        | brk e => rw [q] at g3; exact g3
        | ret e => rw [q] at g3; exact g3
        | err c e => rw [q] at g3; exact g3
        | bad => rw [q] at g3; exact g3
  · have e : i = ds.length := by omega
    subst e
    rw [List.drop_length] at g'
    exact .inl ⟨w.2, g' σ' F' H' x' (Same.refl _) ea'⟩
/-! ### while -/
def whileL (t : EnvD → R Bool) (G : EnvD → Out) : Nat → EnvD → Out
  | 0, _ => .bad
  | n + 1, e => bindS (t e) e fun k => if k = true then (match G e with
      | .next e2 => whileL t G n e2
      | .cont e2 => whileL t G n e2
      | .brk e2 => .next e2
      | .ret d => .ret d
      | .err c e2 => .err c e2
      | .bad => .bad) else .next e
theorem pds_while {t : EnvD → R Bool} {body : List Stmt} (n : Nat) (hp : PassesOwn (model X.prog X.w) X.A X.env X.xe) (hc : PDT X cls W c t) (hb : PDSs X cls W body G) : PDS X cls W (.While c body [] pos) (whileL t G n) :=
  ps_imp (ps_while hp hc hb) fun D σ H ⟨H0, F0, env, F, x, ea, g⟩ => by
  refine ⟨fun m σ' H' => ∃ F' env', Ext F0 H0 F' H' ∧ EnvAt X.K H0 env' σ' F' H' ∧ Same F F' ∧ GoS X.K cls W F0 H0 F' (whileL t G m env') D, ⟨n, F, env, x, ea, Same.refl _, g⟩, ?_⟩
  rintro m σ' H' ⟨F', env', x', ea', s', g'⟩
  cases m with
  | zero => exact g'.elim
  | succ m =>
    have g2 : GoS X.K cls W F0 H0 F' (bindS (t env') env' fun k => if k = true then (match G env' with
      | .next e2 => whileL t G m e2
      | .cont e2 => whileL t G m e2
      | .brk e2 => .next e2
      | .ret d => .ret d
      | .err c e2 => .err c e2
      | .bad => .bad) else .next env') D := g'
    refine ⟨H0, F', env', ea', (g2.expr x' ea').imp fun k H1 ⟨F1, d, _, e1, p1, g3⟩ => ?_⟩
    cases p1
    have x1 := x'.trans e1
    have ea1 := ea'.mono e1
    cases k with
    | false => exact g3 σ' F1 H1 x1 (Same.refl _) ea1
    | true =>
      refine ⟨fun σ2 H2 => ∃ F2 env2, Ext F0 H0 F2 H2 ∧ EnvAt X.K H0 env2 σ2 F2 H2 ∧ Same F F2 ∧ GoS X.K cls W F0 H0 F2 (whileL t G m env2) D, fun σ2 H2 h => ⟨m, Nat.lt_succ_self m, h⟩, H0, F0, env', F1, x1, ea1, ?_⟩
      have s1 := s'.trans e1.f
      have g4 : GoS X.K cls W F0 H0 F1 (match G env' with
        | .next e2 => whileL t G m e2
        | .cont e2 => whileL t G m e2
        | .brk e2 => .next e2
        | .ret d => .ret d
        | .err c e2 => .err c e2
        | .bad => .bad) D := g3
      cases q : G env' with
      | next e => rw [q] at g4; exact fun σ3 F3 H3 x3 s3 ea3 => ⟨F3, e, x3, ea3, s1.trans s3, g4.from s3⟩
      | cont e => rw [q] at g4; exact fun σ3 F3 H3 x3 s3 ea3 => ⟨F3, e, x3, ea3, s1.trans s3, g4.from s3⟩
      | brk e => rw [q] at g4; exact g4
      | ret e => rw [q] at g4; exact g4
      | err c e => rw [q] at g4; exact g4
      | bad => rw [q] at g4; exact g4
/-! ### comprehensions -/
abbrev W0 : WX := fun _ _ _ _ => False
def lcL (p : Pat) (vs : List Nat) (t : EnvD → R Bool) (f : EnvD → R D) : List D → EnvD → R (List D)
  | [], _ => .ok []
  | d :: r, env => match bindP p d (wipeE env vs) with
    | none => .bad
    | some e => match t e with
      | .ok true => (match f e with
        | .ok y => (lcL p vs t f r env).map (y :: ·)
        | _ => .bad)
      | .ok false => lcL p vs t f r env
      | _ => .bad
def lcF (p : Pat) (vs : List Nat) (t : EnvD → R Bool) (f : EnvD → R D) (src : EnvD → R (List D)) : EnvD → R (List D) := fun env => (src env).bind fun ds => lcL p vs t f ds env
def yesF : EnvD → R Bool := fun _ => .ok true
theorem pts_yes {X : Cx} {K : PySem.W.Frag} : PTs X [] (tG K cls W0 pT yesF) := ⟨fun pins s σ H Q I h => pts_nil.run pins s σ H Q I (by
  obtain ⟨H0, F, env, ea, g⟩ := h
  exact g true F H (Ext.refl ea.fh) rfl)⟩
theorem R.map_map {α β γ : Type} (f : α → β) (g : β → γ) (r : R α) : (r.map f).map g = r.map (fun x => g (f x)) := by cases r <;> rfl
theorem lcTurn {K : PySem.W.Frag} {F1 H1 F' H : Hp} {Da : Addr} {acc : List V} {es : List D} (nD : H1 Da = none) (x : Ext F1 H1 F' H) (fD : F' Da = none) (v : V) : Ext F1 H1 F' (upd H Da (.lst (acc ++ [v]))) :=
  ⟨x.f, fun a o h => by rw [upd_ne (ne_of_none h nD)]; exact x.h a o h, x.i.into fD, x.n⟩
theorem lc_read {bb : Bool} {p : Pat} {vs : List Nat} {t : EnvD → R Bool} {f : EnvD → R D} {src : EnvD → R (List D)} {K : PySem.W.Frag} {σ : L2.St} {H : Hp} {Q : VK} (hp : ∀ i ∈ p.ix, i ∈ vs)
    (h : tG K cls W (pN K) (lcF p vs t f src) σ H Q) : tLc (tG K cls W (pI K bb) src) (gPat K p) (tG K cls W0 pT t) (tG K cls W0 (pV K) f) vs σ H Q := by
  obtain ⟨H0, F, env, ea, g⟩ := h
  refine ⟨H0, F, env, ea, (Go.bind g).imp fun J H1 ⟨F1, ds, _, e1, ⟨hz, wk⟩, g1⟩ => fun Da nD => ?_⟩
  have ea1 := ea.mono e1
  refine ⟨fun i m H2 => m = ds.length - i ∧ i ≤ ds.length ∧ ∃ F2 acc es, Ext F1 H1 F2 H2 ∧ F2 Da = none ∧ H2 Da = some (.lst acc) ∧ acc.length ≤ i ∧ Reps K F2 acc es ∧ lcL p vs t f ds env = (lcL p vs t f (ds.drop i) env).map (es ++ ·),
    ⟨ds.length, by simp, Nat.zero_le _, F1, [], [], Ext.newH e1.i nD, e1.i.free nD, upd_same, Nat.le_refl _, .nil, ?_⟩, ?_⟩
  · cases q : lcL p vs t f ds env with
    | ok r => simp [R.map, q]
    | err c => simp [R.map, q]
    | bad => simp [R.map, q]
  rintro i m H2 ⟨rfl, hi, F2, acc, es, x2, fD, hD, hl, ra, tot⟩
  have w := wk F2 H2 x2.f x2.i fun _ => x2.h
  by_cases hlt : i < ds.length
  · obtain ⟨d, hd⟩ : ∃ d, ds[i]? = some d := ⟨ds[i], by simp [hlt]⟩
    have hdr : ds.drop i = d :: ds.drop (i + 1) := by
      rw [List.drop_eq_getElem_cons hlt]
      have : ds[i] = d := by rw [List.getElem?_eq_getElem hlt] at hd; exact Option.some.inj hd
      rw [this]
    rw [hdr] at tot
    obtain ⟨go, yl⟩ := w.1 i d hd
    refine .inr ⟨go, fun H3 => ∃ F3 acc es, Ext F1 H1 F3 H3 ∧ F3 Da = none ∧ H3 Da = some (.lst acc) ∧ acc.length ≤ i + 1 ∧ Reps K F3 acc es ∧ lcL p vs t f ds env = (lcL p vs t f (ds.drop (i + 1)) env).map (es ++ ·), ?_, fun v H3 y => ?_⟩
    · rintro H3 ⟨F3, acc3, es3, h1, h2, h3, h4, h5, h6⟩
      exact ⟨ds.length - (i + 1), by omega, rfl, hlt, F3, acc3, es3, h1, h2, h3, h4, h5, h6⟩
    · obtain ⟨F3, e3, r3⟩ := yl v H3 y
      have x3 := x2.trans e3
      have bad_of : lcL p vs t f (d :: ds.drop (i + 1)) env = .bad → False := fun q => by
        rw [tot, q] at g1; exact g1
      cases qb : bindP p d (wipeE env vs) with
      | none => exact (bad_of (by simp [lcL, qb])).elim
      | some env1 =>
        refine gPat_ok ((ea1.mono x3).wipe vs) r3 qb fun σ4 ea4 hw => ⟨?_, ?_⟩
        · rw [hw vs hp]
          have idem : ∀ (ws : List Nat) (τ : L2.St), (∀ i ∈ ws, i ∈ vs) → L2.wipe (L2.wipe τ ws) vs = L2.wipe τ vs := by
            intro ws
            induction ws with
            | nil => intro τ _; rfl
            | cons u us ih =>
              intro τ hu
              show L2.wipe ((L2.wipe τ us).set u none) vs = L2.wipe τ vs
              rw [wipe_set (hu u (by simp)), ih τ fun j hj => hu j (List.mem_cons_of_mem _ hj)]
          exact idem vs σ fun _ h => h
        · refine ⟨H0, F3, env1, ea4, ?_⟩
          cases qt : t env1 with
          | err c => exact (bad_of (by simp [lcL, qb, qt])).elim
          | bad => exact (bad_of (by simp [lcL, qb, qt])).elim
          | ok k =>
            intro kk F5 H5 e5 pk
            cases pk
            have x5 := x3.trans e5
            have d5 : F5 Da = none := by
              have := e3.keep hD rfl fD
              exact e5.keep (e3.h _ _ hD) rfl this
            have hD5 : H5 Da = some (.lst acc) := e5.h _ _ (e3.h _ _ hD)
            cases k with
            | false =>
              refine ⟨F5, acc, es, x5, d5, hD5, by omega, ra.mono (e3.f.trans e5.f), ?_⟩
              rw [tot]; simp [lcL, qb, qt]
            | true =>
              refine ⟨H0, F5, env1, ea4.mono e5, ?_⟩
              cases qf : f env1 with
              | err c => exact (bad_of (by simp [lcL, qb, qt, qf])).elim
              | bad => exact (bad_of (by simp [lcL, qb, qt, qf])).elim
              | ok yd =>
                intro yv F6 H6 e6 ry
                have d6 := e6.keep hD5 rfl d5
                have hD6 := e6.h _ _ hD5
                have hs : acc.length < sizeLine := by omega
                refine ⟨acc, hD6, hs, F6, acc ++ [yv], es ++ [yd], lcTurn (K := K) (es := es) nD (x5.trans e6) d6 yv, d6, upd_same, by simp; omega, (ra.mono ((e3.f.trans e5.f).trans e6.f)).snoc ry, ?_⟩
                rw [tot]
                simp only [lcL, qb, qt, qf]
                rw [R.map_map]
                congr 1
                funext z
                simp
  · have e : i = ds.length := by omega
    subst e
    rw [List.drop_length] at tot
    have g2 : Go cls (pN K) W σ F1 H1 (.ok es) Q := by
      have : lcL p vs t f ds env = .ok es := by rw [tot]; simp [lcL, R.map]
      rw [this] at g1; exact g1
    exact .inl ⟨w.2, g2 _ F2 H2 x2 ⟨Da, acc, rfl, nD, fD, hD, by omega, ra⟩⟩
theorem pd_lc {bb : Bool} {elt : Expr} {ifs : List Expr} {scope : Scope} {own : List (Str × Nat)} {p : Pat} {t : EnvD → R Bool} {f : EnvD → R D} {src : EnvD → R (List D)} (hc : X.calm = true) (hN : X.N.Nodup) (hi : PDI X cls W bb tg iter src) (ok : BlkOk X.N X.env.scope scope own)
    (hg : ∀ (s : Shared) (H : Hp) (C : Addr) (cl : List (Str × Addr)) (fp : List Addr), PG (X.blk s H scope (compEnvC scope cl C X.env) fp) tg (gPat X.K p))
    (ht : ∀ (s : Shared) (H : Hp) (C : Addr) (cl : List (Str × Addr)) (fp : List Addr), PTs (X.blk s H scope (compEnvC scope cl C X.env) fp) ifs (tG X.K cls W0 pT t))
    (he : ∀ (s : Shared) (H : Hp) (C : Addr) (cl : List (Str × Addr)) (fp : List Addr), PE (X.blk s H scope (compEnvC scope cl C X.env) fp) elt (tG X.K cls W0 (pV X.K) f))
    (hp : (p.ix.all fun i => (own.map (·.2)).contains i) = true) (hs : ∀ x, foldedSetIterable iter X.env x = pure x := by intro _; rfl) :
    PDE X cls W (pN X.K) (.ListComp elt [⟨tg, iter, ifs, 0⟩] scope pos) (lcF p (own.map (·.2)) t f src) :=
  pe_imp (pe_lc hc hN hi ok hg ht he hs) fun σ H Q h => lc_read (fun i hi => by simpa using List.all_eq_true.mp hp i hi) h
theorem pds_setLc {bb : Bool} {i : Nat} {y : Str} {py : Pos} {elt : Expr} {ifs : List Expr} {scope : Scope} {own : List (Str × Nat)} {p : Pat} {t : EnvD → R Bool} {f : EnvD → R D} {src : EnvD → R (List D)} {spos : Pos} (hc : X.calm = true) (hN : X.N.Nodup)
    (hy : X.N[i]? = some y) (hyl : X.env.scope.names.lookup y = some .local)
    (hsw : swapsWith (.ListComp elt [⟨tg, iter, ifs, 0⟩] scope pos) (some (.Name y py)) spos.line X.env = pure true) (hi : PDI X cls W bb tg iter src) (ok : BlkOk X.N X.env.scope scope own)
    (hg : ∀ (s : Shared) (H : Hp) (C : Addr) (cl : List (Str × Addr)) (fp : List Addr), PG (X.blk s H scope (compEnvC scope cl C X.env) fp) tg (gPat X.K p))
    (ht : ∀ (s : Shared) (H : Hp) (C : Addr) (cl : List (Str × Addr)) (fp : List Addr), PTs (X.blk s H scope (compEnvC scope cl C X.env) fp) ifs (tG X.K cls W0 pT t))
    (he : ∀ (s : Shared) (H : Hp) (C : Addr) (cl : List (Str × Addr)) (fp : List Addr), PE (X.blk s H scope (compEnvC scope cl C X.env) fp) elt (tG X.K cls W0 (pV X.K) f))
    (hp : (p.ix.all fun i => (own.map (·.2)).contains i) = true) (hs : ∀ x, foldedSetIterable iter X.env x = pure x := by intro _; rfl) :
    PS X (.Assign [.Name y py] (.ListComp elt [⟨tg, iter, ifs, 0⟩] scope pos) spos) (tAsg (tG X.K cls W (pN X.K) (lcF p (own.map (·.2)) t f src)) (gName i)) :=
  ps_imp (ps_setLc hc hN hy hyl hsw hi ok hg ht he hs) fun D σ H h => lc_read (fun i hi => by simpa using List.all_eq_true.mp hp i hi) h
end
/-! ### a def -/
def runO : Out → R D
  | .ret d => .ok d
  | .next _ => .ok .non
  | .err c _ => .err c
  | _ => .bad
def fnD (N n : Nat) (G : EnvD → Out) (ds : List D) : R D := if ds.length = n then runO (G (ds.map Sl.val ++ List.replicate (N - n) Sl.no)) else .bad
theorem envAt_start {K : PySem.W.Frag} {F H : Hp} (i : Same F H) : ∀ {vs : List V} {ds : List D} (m : Nat), Reps K F vs ds → EnvAt K H (ds.map Sl.val ++ List.replicate m Sl.no) (vs.map some ++ List.replicate m none) F H := by
  intro vs ds m r
  refine ⟨i, by simp [r.length], fun j s hj => ?_, fun j k s t p _ hs _ os _ _ _ => ?_⟩
  · by_cases hlt : j < ds.length
    · rw [List.getElem?_append_left (by simpa using hlt)] at hj
      rw [List.getElem?_map] at hj
      obtain ⟨d, hd⟩ : ∃ d, ds[j]? = some d := ⟨ds[j], by simp [hlt]⟩
      rw [hd] at hj
      cases hj
      obtain ⟨v, hv, rv⟩ := r.get hd
      refine ⟨v, ?_, rv⟩
      rw [List.getD_eq_getElem?_getD, List.getElem?_append_left (by simpa [r.length] using hlt), List.getElem?_map, hv]; rfl
    · rw [List.getElem?_append_right (by simp; omega)] at hj
      have := List.mem_of_getElem? hj
      rw [List.mem_replicate] at this
      rw [this.2]; trivial
  · have := List.mem_of_getElem? hs
    rcases List.mem_append.mp this with h | h
    · obtain ⟨d, _, e⟩ := List.mem_map.mp h; subst e; cases os
    · rw [List.mem_replicate] at h; rw [h.2] at os; cases os
theorem fn_okD0 {P : Program} {w : World} {K : PySem.W.Frag} {mg : Str → Option Value} {base : Heap} {cls : Exc → Addr} {x qual : Str} {params : Arguments} {body : List Stmt} {scope : Scope} {f : Addr} {fd : FuncData} {N ps : List Str} {k : Nat} {G : EnvD → Out}
    (F : FunD K x qual params body scope [] [] f fd) (S : FnScope N ps scope) 
    (h : ∀ (cdv : Value) (A : Around) (outer : List Env) (s : Shared) (H : Hp) (E : XK), Room k (A.deeper (envOfC qual scope s.heap.objs.size f cdv)) →
      PDSs (cxOf (L2.CX P w) P w K mg base N qual scope f cdv A outer s H E) cls (fun c d _ H => E c d H) body G) : FnOk P w K mg base (L2.CX P w) (k + 1) f fd ps (spD K cls ps.length (fnD N.length ps.length G)) := by
  refine F.ok S (fun vs H Q E q => q.1) fun cdv A outer s H vs Q E hr q => ?_
  obtain ⟨hl, F0, ds, i, r, g⟩ := q
  refine ⟨_, h cdv A outer s H E hr, H, F0, ds.map Sl.val ++ List.replicate (N.length - ps.length) Sl.no, F0, Ext.refl i, ?_, ?_⟩
  · show EnvAt K H _ (vs.map some ++ List.replicate (N.length - vs.length) none) F0 H
    rw [hl]
    exact envAt_start i _ r
  · have hd : ds.length = ps.length := by rw [← r.length]; exact hl
    unfold fnD at g
    rw [if_pos hd] at g
    cases q : G (ds.map Sl.val ++ List.replicate (N.length - ps.length) Sl.no) with
    | ret d => rw [q] at g; exact fun v F' H' e _ r' => g v F' H' e r'
    | next e => rw [q] at g; exact fun σ' F' H' e _ _ => g .non F' H' e .non
    | err c e => rw [q] at g; exact fun σ' F' H' e _ _ => g F' H' e
    | brk e => rw [q] at g; exact g.elim
    | cont e => rw [q] at g; exact g.elim
    | bad => rw [q] at g; exact g.elim
theorem fn_okD {P : Program} {w : World} {K : PySem.W.Frag} {mg : Str → Option Value} {base : Heap} {cls : Exc → Addr} {x qual : Str} {params : Arguments} {body : List Stmt} {scope : Scope} {f : Addr} {fd : FuncData} {N ps : List Str} {k : Nat} {G : EnvD → Out}
    (F : FunD K x qual params body scope [] [] f fd) (S : FnScope N ps scope) (hx : mg x = some (.ref f)) (hb : Binds K fd ps [])
    (h : ∀ (cdv : Value) (A : Around) (outer : List Env) (s : Shared) (H : Hp) (E : XK), Room k (A.deeper (envOfC qual scope s.heap.objs.size f cdv)) →
      PDSs (cxOf (L2.CX P w) P w K mg base N qual scope f cdv A outer s H E) cls (fun c d _ H => E c d H) body G) : Fn P w K mg base cls (k + 1) x ps.length (fnD N.length ps.length G) :=
  ⟨⟨f, fd, ps, fn_okD0 F S h, hx, F.kp, hb⟩, fun ds hd => by unfold fnD; rw [if_neg hd]⟩
end PD

set_option maxHeartbeats 4000000
namespace PD
open PySem PySem.Spec PyProof.Rows L2
/-! ### equality of data -/
mutual
def D.toPy : D → PyData
  | .non => .none
  | .bl b => .bool b
  | .int i => .int i
  | .str x => .str x
  | .tup xs => .tuple (toPys xs)
  | .lst xs => .list (toPys xs)
  | .scr ns => .list (ns.map PyData.int)
  | .dic _ _ => .dict []
  | .raw _ => .dict []
def toPys : List D → List PyData
  | [] => []
  | x :: xs => x.toPy :: toPys xs
end
theorem dp_ints {K : PySem.W.Frag} {H : Hp} : ∀ ns : List Int, DpAll K H (ns.map V.int) (ns.map PyData.int)
  | [] => .nil
  | n :: ns => .cons (.int n) (dp_ints ns)
theorem no_dic {a : List (PyData × PyData)} : SeqAt.shaped (.dict a) = true → False := fun h => by simp [SeqAt.shaped, PyData.canLay0] at h
theorem canLay_all {xs : List PyData} {x : PyData} (h : PyData.canLayAll0 xs = true) (m : x ∈ xs) : x.canLay0 = true := by
  induction xs with
  | nil => cases m
  | cons y ys ih =>
    have h' : (y.canLay0 && PyData.canLayAll0 ys) = true := by simpa [PyData.canLayAll0] using h
    obtain ⟨h1, h2⟩ := Bool.and_eq_true_iff.mp h'
    rcases List.mem_cons.mp m with e | m
    · rw [e]; exact h1
    · exact ih h2 m
theorem rep_dp {K : PySem.W.Frag} {H : Hp} {v : V} {d : D} (h : Rep K H v d) : d.toPy.canLay0 = true → Dp K H v d.toPy :=
  Rep.rec (motive_1 := fun v d _ => d.toPy.canLay0 = true → Dp K H v d.toPy) (motive_2 := fun vs ds _ => PyData.canLayAll0 (toPys ds) = true → DpAll K H vs (toPys ds))
    (fun _ => by simpa [D.toPy] using Dp.non) (fun b _ => by simpa [D.toPy] using Dp.bl b) (fun i _ => by simpa [D.toPy] using Dp.int i) (fun x _ => by simpa [D.toPy] using Dp.str x)
    (fun h1 _ _ ih q => by simp only [D.toPy] at q ⊢; exact .tup (SqT.of h1) (ih (by simpa [PyData.canLay0] using q)))
    (fun h1 _ _ ih q => by simp only [D.toPy] at q ⊢; exact .lst (SqL.of h1) (ih (by simpa [PyData.canLay0] using q)))
    (fun h1 _ _ => by simp only [D.toPy]; exact .lst h1 (dp_ints _))
    (fun _ _ _ _ q => by simp [D.toPy, PyData.canLay0] at q) (fun _ _ _ _ _ q => by simp [D.toPy, PyData.canLay0] at q) (fun v q => by simp [D.toPy, PyData.canLay0] at q)
    (fun _ => by simp only [toPys]; exact .nil)
    (fun _ _ i1 i2 q => by
      simp only [toPys] at q ⊢
      have q' := Bool.and_eq_true_iff.mp (by simpa [PyData.canLayAll0] using q)
      exact .cons (i1 q'.1) (i2 q'.2)) h
theorem reps_dp {K : PySem.W.Frag} {H : Hp} : ∀ {vs : List V} {ds : List D}, Reps K H vs ds → PyData.canLayAll0 (toPys ds) = true → DpAll K H vs (toPys ds)
  | _, [], h, _ => by cases h; simp only [toPys]; exact .nil
  | _, d :: ds, h, q => by
    cases h with
    | cons a b =>
      simp only [toPys] at q ⊢
      have q' := Bool.and_eq_true_iff.mp (by simpa [PyData.canLayAll0] using q)
      exact .cons (rep_dp a q'.1) (reps_dp b q'.2)
theorem repB_dp {K : PySem.W.Frag} {F H : Hp} {v : V} {d : D} (i : Same F H) (h : RepB K F H v d) (q : d.toPy.canLay0 = true) : Dp K H v d.toPy := by
  rcases h with h | ⟨p, xs, ds, rfl, rfl, h1, _, h2⟩ | ⟨p, u, t, ks, vs, rfl, rfl, _⟩
  · exact rep_dp (h.mono i) q
  · simp only [D.toPy] at q ⊢
    exact .lst (SqL.of h1) (reps_dp (h2.mono i) (by simpa [PyData.canLay0] using q))
  · simp [D.toPy, PyData.canLay0] at q
def eqD (d e : D) : Option Bool := if SeqAt.shaped d.toPy && SeqAt.shaped e.toPy then some (PyData.eqv d.toPy e.toPy) else none
def neD (d e : D) : Option Bool := (eqD d e).map (!·)
section
variable {X : Cx} {K : PySem.W.Frag}
theorem os_eq : OpSemB (pB K) (pB K) (rEqD K) eqD := fun S1 S2 F H x y d e z Q i p q hz k => by
  unfold eqD at hz
  split at hz
  · rename_i h
    obtain ⟨h1, h2⟩ := Bool.and_eq_true_iff.mp h
    cases hz
    exact ⟨_, _, repB_dp i p (SeqAt.canLay_of_shaped h1), repB_dp i q (SeqAt.canLay_of_shaped h2), h1, h2, k⟩
  · cases hz
theorem os_ne : OpSemB (pB K) (pB K) (rNeD K) neD := fun S1 S2 F H x y d e z Q i p q hz k => by
  unfold neD eqD at hz
  split at hz
  · rename_i h
    obtain ⟨h1, h2⟩ := Bool.and_eq_true_iff.mp h
    cases hz
    exact ⟨_, _, repB_dp i p (SeqAt.canLay_of_shaped h1), repB_dp i q (SeqAt.canLay_of_shaped h2), h1, h2, k⟩
  · cases hz
/-! ### ints -/
def int2 (f : Int → Int → Option D) : D → D → Option D
  | .int i, .int j => f i j
  | _, _ => none
theorem rep_int {F : Hp} {v : V} {i : Int} (h : Rep K F v (.int i)) : v = .int i := by cases h; rfl
theorem repB_int {F H : Hp} {v : V} {i : Int} (h : RepB K F H v (.int i)) : v = .int i := by
  rcases h with h | ⟨_, _, _, _, h, _⟩ | ⟨_, _, _, _, _, _, h, _⟩
  · exact rep_int h
  · cases h
  · cases h
theorem os_I {C : Int → Int → Prop} {g : Int → Int → Int} {f : Int → Int → Option D} (h : ∀ i j d, f i j = some d → C i j ∧ d = .int (g i j)) : OpSem (pV K) (pV K) (pV K) (rI C fun i j => .int (g i j)) (int2 f) :=
  fun S1 S2 F H x y d e z Q i p q hz k => by
    unfold int2 at hz
    split at hz
    · obtain ⟨h1, h2⟩ := h _ _ _ hz
      subst h2
      exact ⟨_, _, rep_int p, rep_int q, h1, k _ F H (Ext.refl i) (.int _)⟩
    · cases hz
theorem os_I0 {g : Int → Int → Int} : OpSem (pV K) (pV K) (pV K) (rI0 fun i j => .int (g i j)) (int2 fun i j => some (.int (g i j))) :=
  fun S1 S2 F H x y d e z Q i p q hz k => by
    unfold int2 at hz
    split at hz
    · cases hz
      exact ⟨_, _, rep_int p, rep_int q, k _ F H (Ext.refl i) (.int _)⟩
    · cases hz
def subD := int2 fun i j => some (.int (i - j))
theorem os_sub : OpSem (pV K) (pV K) (pV K) (rI0 fun i j => .int (i - j)) subD := os_I0
def modD := int2 fun i j => if 0 < j then some (.int (i % j)) else none
theorem os_mod : OpSem (pV K) (pV K) (pV K) (rI (fun _ j => 0 < j) fun i j => .int (i % j)) modD := os_I fun i j d h => by
  by_cases hj : 0 < j
  · rw [if_pos hj] at h; cases h; exact ⟨hj, rfl⟩
  · rw [if_neg hj] at h; cases h
def fdivD := int2 fun i j => if 0 < j ∧ j < 1000000000000000000000 then some (.int (i / j)) else none
theorem os_fdiv : OpSem (pV K) (pV K) (pV K) (rI CDivW fun i j => .int (i / j)) fdivD := os_I fun i j d h => by
  by_cases hj : 0 < j ∧ j < 1000000000000000000000
  · rw [if_pos hj] at h; cases h
    exact ⟨wide_div (b := 70) hj.1 (by have := hj.2; have : j.natAbs < 1000000000000000000000 := by omega
                                       exact Nat.lt_trans this (by decide)) (by decide) (by decide), rfl⟩
  · rw [if_neg hj] at h; cases h
def powD := int2 fun i j => if 0 ≤ j ∧ j ≤ 1000 ∧ i.natAbs < 1000 then some (.int (i ^ j.toNat)) else none
theorem os_pow : OpSem (pV K) (pV K) (pV K) (rI CPow fun i j => .int (i ^ j.toNat)) powD := os_I fun i j d h => by
  by_cases hj : 0 ≤ j ∧ j ≤ 1000 ∧ i.natAbs < 1000
  · rw [if_pos hj] at h; cases h
    exact ⟨⟨hj.1, by omega, Nat.lt_trans hj.2.2 (by decide)⟩, rfl⟩
  · rw [if_neg hj] at h; cases h
def mulI := int2 fun i j => if (-18446744073709551616 < i ∧ i < 18446744073709551616) ∨ (-18446744073709551616 < j ∧ j < 18446744073709551616) then some (.int (i * j)) else none
theorem os_mul : OpSem (pV K) (pV K) (pV K) (rI CMul fun i j => .int (i * j)) mulI := os_I fun i j d h => by
  by_cases hj : (-18446744073709551616 < i ∧ i < 18446744073709551616) ∨ (-18446744073709551616 < j ∧ j < 18446744073709551616)
  · rw [if_pos hj] at h; cases h
    exact ⟨hj, rfl⟩
  · rw [if_neg hj] at h; cases h
def negD : D → Option D
  | .int i => some (.int (-i))
  | _ => none
theorem pd_neg {cls : Exc → Addr} {W : WX} {a : Expr} {pos : Pos} {fa : EnvD → R D} (ha : PDE X cls W (pV X.K) a fa) : PDE X cls W (pV X.K) (.UnaryOp .USub a pos) (una negD fa) :=
  pd_un un_neg (fun S F H x d z Q i p hz k => by
    cases p with
    | int j => cases hz; exact ⟨j, rfl, k _ F H (Ext.refl i) (.int _)⟩
    | _ => cases hz) ha
/-- +: ints, texts, tuples -/
def addD : D → D → Option D
  | .int i, .int j => some (.int (i + j))
  | .str x, .str y => if small (x.length + y.length) = true then some (.str (x ++ y)) else none
  | .tup xs, .tup ys => if small (xs.length + ys.length) = true then some (.tup (xs ++ ys)) else none
  | _, _ => none
def rAddA (K : PySem.W.Frag) : R2 := fun x y H Q => rI0 (fun i j => .int (i + j)) x y H Q ∨ (∃ i j, x = .str i ∧ y = .str j ∧ i.length + j.length ≤ sizeLine ∧ Q (.str (i ++ j)) H) ∨ rCatA K x y H Q
theorem op_addA : OpR X (binaryOp .Add) (rAddA X.K) := OpR.or op_add (OpR.or op_add_str op_catA)
theorem os_add : OpSem (pV K) (pV K) (pV K) (rAddA K) addD := fun S1 S2 F H x y d e z Q i p q hz k => by
  unfold addD at hz
  split at hz
  · cases hz
    exact .inl ⟨_, _, rep_int p, rep_int q, k _ F H (Ext.refl i) (.int _)⟩
  · rename_i a b
    by_cases hl : small (a.length + b.length) = true
    · rw [if_pos hl] at hz; cases hz
      cases p; cases q
      exact .inr (.inl ⟨_, _, rfl, rfl, small_ok hl, k _ F H (Ext.refl i) (.str _)⟩)
    · rw [if_neg hl] at hz; cases hz
  · rename_i a b
    by_cases hl : small (a.length + b.length) = true
    · rw [if_pos hl] at hz; cases hz
      cases p with
      | tup h1 h2 h3 =>
        cases q with
        | tup g1 g2 g3 =>
          have hl' := small_ok hl
          rw [← h3.length, ← g3.length] at hl'
          refine .inr (.inr ⟨_, _, _, _, rfl, rfl, SqT.of (i _ _ h1), SqT.of (i _ _ g1), hl', fun e => ?_, fun _ e => ?_, fun _ _ p hp => ?_⟩)
          · subst e; cases h3
            exact k _ F H (Ext.refl i) (.tup g1 g2 g3)
          · subst e; cases g3
            rw [List.append_nil] at k
            exact k _ F H (Ext.refl i) (.tup h1 h2 h3)
          · exact k _ (upd F p _) _ (Ext.new i hp) (.tup upd_same (by rw [List.length_append]; exact hl') ((h3.mono (Same.updN (i.free hp))).append (g3.mono (Same.updN (i.free hp)))))
    · rw [if_neg hl] at hz; cases hz
  · cases hz
/-- * of two ints, of a tuple and an int -/
def mulD : D → D → Option D
  | .tup xs, .int j => if xs ≠ [] ∧ 2 ≤ j ∧ j ≤ 1000 ∧ xs.length ≤ 1000 then some (.tup (List.replicate j.toNat xs).flatten) else none
  | x, y => mulI x y
theorem Reps.rep {F : Hp} {xs : List V} {ds : List D} (h : Reps K F xs ds) : ∀ n : Nat, Reps K F (List.replicate n xs).flatten (List.replicate n ds).flatten
  | 0 => .nil
  | n + 1 => by simp only [List.replicate_succ, List.flatten_cons]; exact h.append (Reps.rep h n)
theorem os_mulA : OpSem (pV K) (pV K) (pV K) (fun x y H Q => rRepT K x y H Q ∨ rI CMul (fun i j => .int (i * j)) x y H Q) mulD := fun S1 S2 F H x y d e z Q i p q hz k => by
  unfold mulD at hz
  split at hz
  · rename_i xs j
    by_cases hj : xs ≠ [] ∧ 2 ≤ j ∧ j ≤ 1000 ∧ xs.length ≤ 1000
    · rw [if_pos hj] at hz; cases hz
      cases p with
      | tup h1 h2 h3 =>
        rename_i a0 vs0
        refine .inl ⟨_, j, _, rfl, rep_int q, SqT.of (i _ _ h1), fun e => hj.1 (by subst e; cases h3; rfl), hj.2.1, hj.2.2.1, by rw [h3.length]; exact hj.2.2.2, fun p hp => ?_⟩
        refine k _ (upd F p _) _ (Ext.new i hp) (.tup upd_same ?_ ((h3.mono (Same.updN (i.free hp))).rep _))
        have : (List.replicate j.toNat vs0).flatten.length ≤ 1000 * 1000 := by
          rw [List.length_flatten, List.map_replicate, List.sum_replicate_nat]
          exact Nat.mul_le_mul (by omega) (by rw [h3.length]; exact hj.2.2.2)
        exact Nat.le_trans this (by rw [sizeLine_eq]; decide)
    · rw [if_neg hj] at hz; cases hz
  · exact .inr (os_mul S1 S2 F H x y d e z Q i p q hz k)
theorem op_mulA : OpR X (binaryOp .Mult) (fun x y H Q => rRepT X.K x y H Q ∨ rI CMul (fun i j => .int (i * j)) x y H Q) := OpR.or op_repT op_mul
/-- comparisons of ints -/
def cmpI (f : Int → Int → Bool) : D → D → Option Bool
  | .int i, .int j => some (f i j)
  | _, _ => none
theorem os_cmpI {g : Int → Int → Bool} : OpSemB (pV K) (pV K) (rI0 fun i j => .bl (g i j)) (cmpI g) := fun S1 S2 F H x y d e z Q i p q hz k => by
  unfold cmpI at hz
  split at hz
  · cases hz; exact ⟨_, _, rep_int p, rep_int q, k⟩
  · cases hz
abbrev ltI := cmpI fun i j => decide (i < j)
abbrev leI := cmpI fun i j => decide (i ≤ j)
abbrev gtI := cmpI fun i j => decide (j < i)
abbrev geI := cmpI fun i j => decide (j ≤ i)
/-- < of ints, of tuples of ints -/
def asInts : List D → Option (List Int)
  | [] => some []
  | .int i :: r => (asInts r).map (i :: ·)
  | _ => none
theorem asInts_eq : ∀ {ds : List D} {ns : List Int}, asInts ds = some ns → ds = ns.map D.int
  | [], ns, h => by cases h; rfl
  | .int i :: r, ns, h => by
    simp only [asInts] at h
    cases q : asInts r with
    | none => rw [q] at h; cases h
    | some ms => rw [q] at h; cases h; rw [asInts_eq q]; rfl
  | .non :: _, _, h => by cases h
  | .bl _ :: _, _, h => by cases h
  | .str _ :: _, _, h => by cases h
  | .tup _ :: _, _, h => by cases h
  | .lst _ :: _, _, h => by cases h
  | .scr _ :: _, _, h => by cases h
  | .dic _ _ :: _, _, h => by cases h
  | .raw _ :: _, _, h => by cases h
def ltTD : D → D → Option Bool
  | .tup xs, .tup ys => match asInts xs, asInts ys with
    | some ns, some ms => some (HT.lexLt ns ms)
    | _, _ => none
  | x, y => ltI x y
theorem os_ltT : OpSemB (pV K) (pV K) (fun x y H Q => rLtT K x y H Q ∨ rI0 (fun i j => .bl (decide (i < j))) x y H Q) ltTD := fun S1 S2 F H x y d e z Q i p q hz k => by
  unfold ltTD at hz
  split at hz
  · rename_i xs ys
    split at hz
    · rename_i ns ms e1 e2
      cases hz
      rw [asInts_eq e1] at p
      rw [asInts_eq e2] at q
      cases p with
      | tup h1 h2 h3 =>
        cases q with
        | tup g1 g2 g3 =>
          rw [h3.of_ints] at h1
          rw [g3.of_ints] at g1
          exact .inl ⟨_, _, ns, ms, rfl, rfl, SqT.of (i _ _ h1), SqT.of (i _ _ g1), k⟩
    · cases hz
  · exact .inr (os_cmpI S1 S2 F H x y d e z Q i p q hz k)
theorem op_ltTD (hu : X.A.units < cLine) : OpR X (compareOp .Lt) (fun x y H Q => rLtT X.K x y H Q ∨ rI0 (fun i j => .bl (decide (i < j))) x y H Q) := OpR.or (op_ltT hu) op_lt
/-- is None -/
def isNon : D → Bool
  | .non => true
  | _ => false
def noRaw : D → Bool
  | .raw _ => false
  | _ => true
theorem repB_non {F H : Hp} {v : V} {d : D} (h : RepB K F H v d) (n : noRaw d = true) : decide (v = V.non) = isNon d := by
  rcases h with h | ⟨_, _, _, rfl, rfl, _⟩ | ⟨_, _, _, _, _, rfl, rfl, _⟩
  · cases h <;> first | rfl | cases n
  · rfl
  · rfl
def isNoneD : D → D → Option Bool
  | d, .non => if noRaw d = true then some (isNon d) else none
  | _, _ => none
def notNoneD : D → D → Option Bool := fun d e => (isNoneD d e).map (!·)
theorem os_isN : OpSemB (pB K) (pV K) (fun x y H Q => y = .non ∧ Q (.bl (decide (x = .non))) H) isNoneD := fun S1 S2 F H x y d e z Q i p q hz k => by
  unfold isNoneD at hz
  split at hz
  · by_cases n : noRaw d = true
    · rw [if_pos n] at hz; cases hz; cases q; exact ⟨rfl, by rw [repB_non p n]; exact k⟩
    · rw [if_neg n] at hz; cases hz
  · cases hz
theorem os_notN : OpSemB (pB K) (pV K) (fun x y H Q => y = .non ∧ Q (.bl (!decide (x = .non))) H) notNoneD := fun S1 S2 F H x y d e z Q i p q hz k => by
  unfold notNoneD at hz
  cases w : isNoneD d e with
  | none => rw [w] at hz; cases hz
  | some b =>
    rw [w] at hz
    cases hz
    unfold isNoneD at w
    split at w
    · by_cases n : noRaw d = true
      · rw [if_pos n] at w; cases w; cases q; exact ⟨rfl, by rw [repB_non p n]; exact k⟩
      · rw [if_neg n] at w; cases w
    · cases w
/-- is True, is False -/
def isBD : D → D → Option Bool
  | .bl a, .bl b => some (decide (a = b))
  | _, _ => none
def notBD : D → D → Option Bool := fun d e => (isBD d e).map (!·)
theorem os_isB : OpSemB (pV K) (pV K) rIsB isBD := fun S1 S2 F H x y d e z Q i p q hz k => by
  unfold isBD at hz
  split at hz
  · cases hz; cases p; cases q; exact ⟨_, _, rfl, rfl, k⟩
  · cases hz
theorem os_notB : OpSemB (pV K) (pV K) rNotB notBD := fun S1 S2 F H x y d e z Q i p q hz k => by
  unfold notBD isBD at hz
  split at hz
  · cases hz; cases p; cases q; exact ⟨_, _, rfl, rfl, k⟩
  · cases hz
/-! ### in -/
def flatD : D → Bool
  | .non => true
  | .bl _ => true
  | .int _ => true
  | .str _ => true
  | _ => false
theorem rep_flat {F : Hp} {v : V} {d : D} (h : Rep K F v d) (f : flatD d = true) : flatV v = true ∧ ∀ v' d', Rep K F v' d' → flatD d' = true → eqV v v' = PyData.eqv d.toPy d'.toPy := by
  refine ⟨(by cases h <;> first | rfl | (cases f)), fun v' d' h' f' => ?_⟩
  cases h <;> first | cases f | skip
  all_goals (cases h' <;> first | cases f' | skip)
  all_goals simp [eqV, D.toPy, PyData.eqv]
theorem repB_flat {F H : Hp} {v : V} {d : D} (h : RepB K F H v d) (f : flatD d = true) : Rep K F v d := by
  rcases h with h | ⟨_, _, _, rfl, rfl, _⟩ | ⟨_, _, _, _, _, rfl, rfl, _⟩
  · exact h
  · cases f
  · cases f
theorem reps_flat {F : Hp} : ∀ {vs : List V} {ds : List D}, Reps K F vs ds → ds.all flatD = true → vs.all flatV = true
  | _, [], h, _ => by cases h; rfl
  | _, d :: ds, h, q => by
    cases h with
    | cons a b =>
      simp only [List.all_cons, Bool.and_eq_true] at q ⊢
      exact ⟨(rep_flat a q.1).1, reps_flat b q.2⟩
theorem in_flat {F : Hp} {v : V} {d : D} (hv : Rep K F v d) (f : flatD d = true) : ∀ {vs : List V} {ds : List D}, Reps K F vs ds → ds.all flatD = true → inV v vs = ds.any fun y => PyData.eqv y.toPy d.toPy
  | _, [], h, _ => by cases h; rfl
  | _, e :: ds, h, q => by
    cases h with
    | cons a b =>
      simp only [List.all_cons, Bool.and_eq_true] at q
      have i1 := in_flat hv f b q.2
      unfold inV at i1 ⊢
      rw [List.any_cons, List.any_cons, i1, (rep_flat a q.1).2 v d hv f]
def inD : D → D → Option Bool
  | x, .tup ys => if flatD x && ys.all flatD then some (ys.any fun y => PyData.eqv y.toPy x.toPy) else none
  | x, .lst ys => if SeqAt.shaped x.toPy && SeqAt.shaped (D.lst ys).toPy then some ((toPys ys).any fun y => PyData.eqv y x.toPy) else none
  | _, _ => none
def notInD : D → D → Option Bool := fun d e => (inD d e).map (!·)
def rInA (K : PySem.W.Frag) : R2 := fun x y H Q => rIn K false x y H Q ∨ rInD K x y H Q
def rNotInA (K : PySem.W.Frag) : R2 := fun x y H Q => rIn K true x y H Q ∨ rNotInD K x y H Q
theorem op_inA (hu : X.A.units + 65 < cLine) : OpR X (compareOp .In) (rInA X.K) := OpR.or op_in_seq (op_inD hu)
theorem op_notInA (hu : X.A.units + 65 < cLine) : OpR X (compareOp .NotIn) (rNotInA X.K) := OpR.or op_notIn_seq (op_notInD hu)
theorem in_core {F H : Hp} {x y : V} {d e : D} {z : Bool} {Q Q' : VK} (i : Same F H) (p : RepB K F H x d) (q : RepB K F H y e) (hz : inD d e = some z) (k : Q (.bl z) H) (k' : Q' (.bl (!z)) H) : rInA K x y H Q ∧ rNotInA K x y H Q' := by
  unfold inD at hz
  split at hz
  · rename_i ys
    split at hz
    · rename_i h
      obtain ⟨h1, h2⟩ := Bool.and_eq_true_iff.mp h
      cases hz
      have p' := repB_flat p h1
      have q' : Rep K F y (.tup ys) := by
        rcases q with q | ⟨_, _, _, _, q, _⟩ | ⟨_, _, _, _, _, _, q, _⟩
        · exact q
        · cases q
        · cases q
      cases q' with
      | tup g1 g2 g3 =>
        have e1 := in_flat p' h1 g3 h2
        refine ⟨.inl ⟨_, _, rfl, .inr (SqT.of (i _ _ g1)), (rep_flat p' h1).1, reps_flat g3 h2, ?_⟩, .inl ⟨_, _, rfl, .inr (SqT.of (i _ _ g1)), (rep_flat p' h1).1, reps_flat g3 h2, ?_⟩⟩
        · simp only [Bool.false_eq_true, if_false]; rw [e1]; exact k
        · simp only [if_true]; rw [e1]; exact k'
    · cases hz
  · rename_i ys
    split at hz
    · rename_i h
      obtain ⟨h1, h2⟩ := Bool.and_eq_true_iff.mp h
      cases hz
      have a1 := repB_dp i p (SeqAt.canLay_of_shaped h1)
      have a2 := repB_dp i q (SeqAt.canLay_of_shaped h2)
      simp only [D.toPy] at a2 h2
      exact ⟨.inr ⟨_, _, a1, a2, h1, h2, k⟩, .inr ⟨_, _, a1, a2, h1, h2, k'⟩⟩
    · cases hz
  · cases hz
theorem os_in : OpSemB (pB K) (pB K) (rInA K) inD := fun S1 S2 F H x y d e z Q i p q hz k => (in_core (Q' := fun _ _ => True) i p q hz k trivial).1
theorem os_notIn : OpSemB (pB K) (pB K) (rNotInA K) notInD := fun S1 S2 F H x y d e z Q i p q hz k => by
  unfold notInD at hz
  cases w : inD d e with
  | none => rw [w] at hz; cases hz
  | some b =>
    rw [w] at hz; cases hz
    exact (in_core (Q := fun _ _ => True) i p q w trivial k).2
/-! ### subscripts, slices -/
def ixD : D → D → Option D
  | .lst xs, .int i => atI xs i
  | .tup xs, .int i => atI xs i
  | .scr ns, .int i => (atI ns i).map D.int
  | _, _ => none
theorem atI_reps {F : Hp} {vs : List V} {ds : List D} (h : Reps K F vs ds) {i : Int} {d : D} (e : atI ds i = some d) : ∃ v, atI vs i = some v ∧ Rep K F v d := by
  unfold atI at e ⊢
  rw [h.length]
  cases q : ixN ds.length i with
  | none => rw [q] at e; cases e
  | some j =>
    rw [q] at e
    obtain ⟨v, h1, h2⟩ := h.get (i := j) (d := d) e
    exact ⟨v, h1, h2⟩
theorem os_ix : OpSem (pB K) (pV K) (pV K) (rIx K) ixD := fun S1 S2 F H x y d e z Q i p q hz k => by
  unfold ixD at hz
  split at hz
  · rename_i xs j
    cases rep_int q
    rcases p with p | ⟨a, vs, ds, rfl, h, h1, h2, h3⟩ | ⟨_, _, _, _, _, _, h, _⟩
    · cases p with
      | lst h1 h2 h3 =>
        obtain ⟨v, e1, e2⟩ := atI_reps h3 hz
        exact .inl ⟨_, _, j, v, rfl, rfl, SqL.of (i _ _ h1), e1, k v F H (Ext.refl i) e2⟩
    · cases h
      obtain ⟨v, e1, e2⟩ := atI_reps h3 hz
      exact .inl ⟨_, _, j, v, rfl, rfl, SqL.of h1, e1, k v F H (Ext.refl i) e2⟩
    · cases h
  · rename_i xs j
    cases rep_int q
    rcases p with p | ⟨_, _, _, _, h, _⟩ | ⟨_, _, _, _, _, _, h, _⟩
    · cases p with
      | tup h1 h2 h3 =>
        obtain ⟨v, e1, e2⟩ := atI_reps h3 hz
        exact .inr (.inl ⟨_, _, j, v, rfl, rfl, SqT.of (i _ _ h1), e1, k v F H (Ext.refl i) e2⟩)
    · cases h
    · cases h
  · rename_i ns j
    cases rep_int q
    rcases p with p | ⟨_, _, _, _, h, _⟩ | ⟨_, _, _, _, _, _, h, _⟩
    · cases p with
      | scr h1 h2 =>
        cases w : atI ns j with
        | none => rw [w] at hz; cases hz
        | some n =>
          rw [w] at hz; cases hz
          have e1 : atI (ns.map V.int) j = some (.int n) := by
            unfold atI at w ⊢
            rw [List.length_map]
            cases u : ixN ns.length j with
            | none => rw [u] at w; cases w
            | some m =>
              rw [u] at w
              have w' : ns[m]? = some n := w
              show (ns.map V.int)[m]? = some (.int n)
              rw [List.getElem?_map, w']; rfl
          exact .inl ⟨_, _, j, _, rfl, rfl, i.seq h1, e1, k _ F H (Ext.refl i) (.int n)⟩
    · cases h
    · cases h
  · cases hz
end
end PD

set_option maxHeartbeats 4000000
namespace PD
open PySem PySem.Spec PyProof.Rows L2
/-! ### assignments: slots -/
def relS (K : PySem.W.Frag) (H F' H' : Hp) (v : V) : Sl → Prop
  | .no => False
  | .val d => Rep K F' v d
  | .own ds => (pN K).rel H F' H' v ds
  | .ownd t ks vs => (pM K).rel H F' H' v (t, ks, vs)
def pS (K : PySem.W.Frag) : PP V Sl := ⟨relS K, fun {H H1 F' H' v d} e h => by
  cases d with
  | no => exact h
  | val d => exact h
  | own ds => exact (pN K).anti e h
  | ownd _ ks vs => exact (pM K).anti e h, fun {H F' H' F'' H'' v d} e h => by
  cases d with
  | no => exact h
  | val d => exact Rep.mono h e.f
  | own ds => exact (pN K).mono e h
  | ownd _ ks vs => exact (pM K).mono e h⟩
section
variable {X : Cx} {cls : Exc → Addr} {W : WX} {e a b c tg : Expr} {pos p : Pos} {st : Stmt} {fa fb fc : EnvD → R Sl}
def slV (f : EnvD → R D) : EnvD → R Sl := fun env => (f env).map Sl.val
def slN (f : EnvD → R (List D)) : EnvD → R Sl := fun env => (f env).map Sl.own
def slM (f : EnvD → R (Bool × List D × List D)) : EnvD → R Sl := fun env => (f env).map fun d => Sl.ownd d.1 d.2.1 d.2.2
theorem tG_map {ρ α β : Type} {P : PP ρ α} {P' : PP ρ β} {g : α → β} {K : PySem.W.Frag} {f : EnvD → R α} (h : ∀ H F' H' v d, P.rel H F' H' v d → P'.rel H F' H' v (g d)) {σ : L2.St} {H : Hp} {Q : ρ → Hp → Prop} (t : tG K cls W P' (fun env => (f env).map g) σ H Q) : tG K cls W P f σ H Q := by
  obtain ⟨H0, F, env, ea, q⟩ := t
  exact ⟨H0, F, env, ea, Go.map q fun d _ k v F' H' e p => k v F' H' e (h _ _ _ _ _ p)⟩
theorem coeVS {f : EnvD → R D} (h : PDE X cls W (pV X.K) e f) : PDE X cls W (pS X.K) e (slV f) := pe_imp h fun σ H Q t => tG_map (P := pV X.K) (P' := pS X.K) (g := Sl.val) (fun _ _ _ _ _ h => h) t
theorem coeNS {f : EnvD → R (List D)} (h : PDE X cls W (pN X.K) e f) : PDE X cls W (pS X.K) e (slN f) := pe_imp h fun σ H Q t => tG_map (P := pN X.K) (P' := pS X.K) (g := Sl.own) (fun _ _ _ _ _ h => h) t
theorem coeMS {f : EnvD → R (Bool × List D × List D)} (h : PDE X cls W (pM X.K) e f) : PDE X cls W (pS X.K) e (slM f) := pe_imp h fun σ H Q t => tG_map (P := pM X.K) (P' := pS X.K) (g := fun d => Sl.ownd d.1 d.2.1 d.2.2) (fun _ _ _ _ _ h => h) t
/-- where a slot's value lies -/
theorem EnvAt.setSl {K : PySem.W.Frag} {H0 F F1 H H1 : Hp} {env : EnvD} {σ : L2.St} (h0 : Same H0 H) (ea : EnvAt K H0 env σ F H) (e1 : Ext F H F1 H1) (i : Nat) {v : V} {s : Sl} (r : relS K H F1 H1 v s) : EnvAt K H0 (env.set i s) (σ.set i (some v)) F1 H1 := by
  cases s with
  | no => exact r.elim
  | val d => exact (ea.mono e1).setV i r
  | own ds =>
    obtain ⟨p, xs, ev, n1, n2, n3, n4, n5⟩ := r
    subst ev
    exact (ea.mono e1).setO i ⟨p, xs, rfl, h0.free n1, n2, n3, n4, n5⟩ fun j t _ hj ot hp => (ea.ownAt hj ot hp).1 n1
  | ownd _ ks vs =>
    obtain ⟨p, u, ev, n1, n2, n3, n4⟩ := r
    subst ev
    exact (ea.mono e1).setO i ⟨p, u, rfl, h0.free n1, n2, n3, n4⟩ fun j t _ hj ot hp => (ea.ownAt hj ot hp).1 n1
def setSl (i : Nat) (f : EnvD → R Sl) : EnvD → Out := fun env => bindS (f env) env fun d => .next (env.set i d)
theorem pds_asg {i : Nat} (h : PS X st (tAsg (tG X.K cls W (pS X.K) fa) (gName i))) : PDS X cls W st (setSl i fa) := ps_imp h fun D σ H ⟨H0, F0, env, F, x, ea, g⟩ =>
  ⟨H0, F, env, ea, (g.expr x ea).imp fun v H1 ⟨F1, d, _, e1, p1, g1⟩ => g1 _ F1 H1 (x.trans e1) (Same.refl F1) (ea.setSl x.h e1 i p1)⟩
/-- a, b = x, y -/
def setPar (i j : Nat) (fa fb : EnvD → R Sl) : EnvD → Out := fun env => bindS (fa env) env fun s => bindS (fb env) env fun t => .next ((env.set i s).set j t)
theorem relS.fresh {K : PySem.W.Frag} {H F' H' : Hp} {v : V} {s : Sl} {q : Addr} (r : relS K H F' H' v s) (o : s.isOwn = true) (hq : v = .ref q) : H q = none ∧ H' q ≠ none := by
  cases s with
  | no => cases o
  | val d => cases o
  | own ds => obtain ⟨p, xs, ev, n1, n2, n3, _⟩ := r; rw [ev] at hq; cases hq; exact ⟨n1, some_ne n3⟩
  | ownd _ ks vs => obtain ⟨p, xs, ev, n1, n2, n3, _⟩ := r; rw [ev] at hq; cases hq; exact ⟨n1, some_ne n3⟩
theorem par_env {K : PySem.W.Frag} {H0 F F1 F2 H H1 H2 : Hp} {env : EnvD} {σ : L2.St} (h0 : Same H0 H) (ea : EnvAt K H0 env σ F H) (e1 : Ext F H F1 H1) (e2 : Ext F1 H1 F2 H2) (i j : Nat) {v w : V} {s t : Sl} (r1 : relS K H F1 H1 v s) (r2 : relS K H1 F2 H2 w t) :
    EnvAt K H0 ((env.set i s).set j t) ((σ.set i (some v)).set j (some w)) F2 H2 := (ea.setSl h0 e1 i r1).setSl (h0.trans e1.h) e2 j r2
theorem pds_par {i j : Nat} (h : PS X st (tPar i j (tCons (tG X.K cls W (pS X.K) fa) (tCons (tG X.K cls W (pS X.K) fb) tNil)))) : PDS X cls W st (setPar i j fa fb) := ps_imp h fun D σ H ⟨H0, F0, env, F, x, ea, g⟩ =>
  ⟨H0, F, env, ea, (g.expr x ea).imp fun v H1 ⟨F1, s, _, e1, p1, g1⟩ => ⟨H0, F1, env, ea.mono e1, (g1.expr (x.trans e1) (ea.mono e1)).imp fun w H2 ⟨F2, t, _, e2, p2, g2⟩ =>
    ⟨v, w, rfl, g2 _ F2 H2 ((x.trans e1).trans e2) (Same.refl F2) (par_env x.h ea e1 e2 i j p1 p2)⟩⟩⟩
theorem pds_parT {i j : Nat} (h : PS X st (tAsg (tTup (tCons (tG X.K cls W (pS X.K) fa) (tCons (tG X.K cls W (pS X.K) fb) tNil))) (gTup X.K 2 (gNames [i, j])))) : PDS X cls W st (setPar i j fa fb) := ps_imp h fun D σ H ⟨H0, F0, env, F, x, ea, g⟩ =>
  ⟨H0, F, env, ea, (g.expr x ea).imp fun v H1 ⟨F1, s, _, e1, p1, g1⟩ => ⟨H0, F1, env, ea.mono e1, (g1.expr (x.trans e1) (ea.mono e1)).imp fun w H2 ⟨F2, t, _, e2, p2, g2⟩ =>
    ⟨by show 2 ≤ sizeLine; decide, fun q hq => by
      have e3 : Ext F2 H2 F2 (upd H2 q (.tup [v, w])) := Ext.newH e2.i hq
      exact ⟨q, _, rfl, SqT.of upd_same, rfl, v, _, rfl, w, _, rfl, rfl, g2 _ F2 _ (((x.trans e1).trans e2).trans e3) (Same.refl F2) ((par_env x.h ea e1 e2 i j p1 p2).mono e3)⟩⟩⟩⟩
/-- a, b, c = x, y, z -/
def setPar3 (i j l : Nat) (fa fb fc : EnvD → R Sl) : EnvD → Out := fun env => bindS (fa env) env fun s => bindS (fb env) env fun t => bindS (fc env) env fun u => .next (((env.set i s).set j t).set l u)
theorem pds_par3 {i j l : Nat} (h : PS X st (tPar3 i j l (tCons (tG X.K cls W (pS X.K) fa) (tCons (tG X.K cls W (pS X.K) fb) (tCons (tG X.K cls W (pS X.K) fc) tNil))))) : PDS X cls W st (setPar3 i j l fa fb fc) := ps_imp h fun D σ H ⟨H0, F0, env, F, x, ea, g⟩ =>
  ⟨H0, F, env, ea, (g.expr x ea).imp fun v H1 ⟨F1, s, _, e1, p1, g1⟩ => ⟨H0, F1, env, ea.mono e1, (g1.expr (x.trans e1) (ea.mono e1)).imp fun w H2 ⟨F2, t, _, e2, p2, g2⟩ =>
    ⟨H0, F2, env, (ea.mono e1).mono e2, (g2.expr ((x.trans e1).trans e2) ((ea.mono e1).mono e2)).imp fun w3 H3 ⟨F3, u, _, e3, p3, g3⟩ =>
    ⟨v, w, w3, rfl, g3 _ F3 H3 (((x.trans e1).trans e2).trans e3) (Same.refl F3) ((par_env x.h ea e1 e2 i j p1 p2).setSl ((x.h.trans e1.h).trans e2.h) e3 l p3)⟩⟩⟩⟩
theorem pds_parT3 {i j l : Nat} (h : PS X st (tAsg (tTup (tCons (tG X.K cls W (pS X.K) fa) (tCons (tG X.K cls W (pS X.K) fb) (tCons (tG X.K cls W (pS X.K) fc) tNil)))) (gTup X.K 3 (gNames [i, j, l])))) : PDS X cls W st (setPar3 i j l fa fb fc) := ps_imp h fun D σ H ⟨H0, F0, env, F, x, ea, g⟩ =>
  ⟨H0, F, env, ea, (g.expr x ea).imp fun v H1 ⟨F1, s, _, e1, p1, g1⟩ => ⟨H0, F1, env, ea.mono e1, (g1.expr (x.trans e1) (ea.mono e1)).imp fun w H2 ⟨F2, t, _, e2, p2, g2⟩ =>
    ⟨H0, F2, env, (ea.mono e1).mono e2, (g2.expr ((x.trans e1).trans e2) ((ea.mono e1).mono e2)).imp fun w3 H3 ⟨F3, u, _, e3, p3, g3⟩ =>
    ⟨by show 3 ≤ sizeLine; decide, fun q hq => by
      have e4 : Ext F3 H3 F3 (upd H3 q (.tup [v, w, w3])) := Ext.newH e3.i hq
      exact ⟨q, _, rfl, SqT.of upd_same, rfl, v, _, rfl, w, _, rfl, w3, _, rfl, rfl, g3 _ F3 _ ((((x.trans e1).trans e2).trans e3).trans e4) (Same.refl F3) (((par_env x.h ea e1 e2 i j p1 p2).setSl ((x.h.trans e1.h).trans e2.h) e3 l p3).mono e4)⟩⟩⟩⟩⟩
/-- a, b, .. = e, e a tuple -/
def unpS (q : Pat) (f : EnvD → R D) : EnvD → Out := fun env => bindS (f env) env fun d => match bindP q d env with
  | some e => .next e
  | none => .bad
theorem pds_unp {q : Pat} {f : EnvD → R D} (h : PS X st (tAsg (tG X.K cls W (pV X.K) f) (gPat X.K q))) : PDS X cls W st (unpS q f) := ps_imp h fun D σ H ⟨H0, F0, env, F, x, ea, g⟩ =>
  ⟨H0, F, env, ea, (g.expr x ea).imp fun v H1 ⟨F1, d, _, e1, p1, g1⟩ => by
    cases w : bindP q d env with
    | none => rw [w] at g1; exact g1.elim
    | some e =>
      rw [w] at g1
      exact gPat_ok (ea.mono e1) p1 w fun σ' ea' _ => g1 _ F1 H1 (x.trans e1) (Same.refl F1) ea'⟩
/-! ### lists that change -/
def appS (i : Nat) (f : EnvD → R D) : EnvD → Out := fun env => match env[i]? with
  | some (.own ds) => bindS (f env) env fun d => if small (ds.length + 1) = true then .next (env.set i (.own (ds ++ [d]))) else .bad
  | _ => .bad
theorem tv_own {K : PySem.W.Frag} {H0 F H : Hp} {env : EnvD} {σ : L2.St} {i : Nat} {ds : List D} (ea : EnvAt K H0 env σ F H) (q : env[i]? = some (.own ds)) : ∃ p xs, σ.getD i none = some (V.ref p) ∧ H p = some (.lst xs) ∧ xs.length ≤ sizeLine ∧ Reps K F xs ds ∧ F p = none ∧ H0 p = none := by
  obtain ⟨p, xs, h1, h2, h3, h4, h5, h6⟩ := ea.at_ i _ q
  exact ⟨p, xs, h1, h4, h5, h6, h3, h2⟩
theorem mut_ext {F0 H0 F H : Hp} {p : Addr} {o u : HO} (x : Ext F0 H0 F H) (h0 : H0 p = none) (hf : F p = none) : Ext F0 H0 F (upd H p u) :=
  ⟨x.f, fun a o h => by rw [upd_ne (ne_of_none h h0)]; exact x.h a o h, x.i.into hf, x.n⟩
theorem pds_append {i : Nat} {f : EnvD → R D} {r : V → List V → Hp → VK → Prop} (h : PS X st (tDrop (tBM X.K "list" rAppend (tVar i) (tCons (tG X.K cls W (pV X.K) f) tNil)))) : PDS X cls W st (appS i f) := ps_imp h fun D σ H ⟨H0, F0, env, F, x, ea, g⟩ => by
  unfold appS at g
  cases q : env[i]? with
  | none => rw [q] at g; exact g.elim
  | some s =>
    rw [q] at g
    cases s with
    | own ds =>
      obtain ⟨p, xs, h1, h2, h3, h4, h5, h6⟩ := tv_own ea q
      refine ⟨.ref p, getD_some h1, .inl ⟨rfl, xs, SqL.of h2⟩, H0, F, env, ea, (g.expr x ea).imp fun v H1 ⟨F1, d, _, e1, p1, g1⟩ => ?_⟩
      by_cases hz : small (ds.length + 1) = true
      · rw [if_pos hz] at g1
        have hz' := small_ok hz
        have ea1 := ea.mono e1
        have hp1 := e1.h _ _ h2
        have fp1 := e1.keep h2 rfl h5
        refine ⟨p, xs, v, rfl, rfl, hp1, by have := h4.length; omega, g1 σ F1 _ (mut_ext (o := .lst xs) (x.trans e1) h6 fp1) (Same.refl F1) (ea1.mut q rfl h1 ⟨p, _, rfl, h6, fp1, upd_same, by simp; have := h4.length; omega, (h4.mono e1.f).snoc p1⟩)⟩
      · rw [if_neg hz] at g1; exact g1.elim
    | no => exact g.elim
    | val d => exact g.elim
    | ownd _ ks vs => exact g.elim
def extS (i : Nat) (f : EnvD → R (List D)) : EnvD → Out := fun env => match env[i]? with
  | some (.own ds) => bindS (f env) env fun es => if small (ds.length + es.length) = true then .next (env.set i (.own (ds ++ es))) else .bad
  | _ => .bad
theorem pds_extend {i : Nat} {f : EnvD → R (List D)} (h : PS X st (tDrop (tBM X.K "list" rExtend (tVar i) (tCons (tG X.K cls W (pN X.K) f) tNil)))) : PDS X cls W st (extS i f) := ps_imp h fun D σ H ⟨H0, F0, env, F, x, ea, g⟩ => by
  unfold extS at g
  cases q : env[i]? with
  | none => rw [q] at g; exact g.elim
  | some s =>
    rw [q] at g
    cases s with
    | own ds =>
      obtain ⟨p, xs, h1, h2, h3, h4, h5, h6⟩ := tv_own ea q
      refine ⟨.ref p, getD_some h1, .inl ⟨rfl, xs, SqL.of h2⟩, H0, F, env, ea, (g.expr x ea).imp fun v H1 ⟨F1, es, _, e1, ⟨p2, ys, ev, n1, n2, n3, n4, n5⟩, g1⟩ => ?_⟩
      subst ev
      by_cases hz : small (ds.length + es.length) = true
      · rw [if_pos hz] at g1
        have hz' := small_ok hz
        have ea1 := ea.mono e1
        have hp1 := e1.h _ _ h2
        have fp1 := e1.keep h2 rfl h5
        have l1 := h4.length
        have l2 := n5.length
        refine ⟨p, p2, xs, ys, rfl, rfl, hp1, n3, by omega, g1 σ F1 _ (mut_ext (o := .lst xs) (x.trans e1) h6 fp1) (Same.refl F1) (ea1.mut q rfl h1 ⟨p, _, rfl, h6, fp1, upd_same, by simp; omega, (h4.mono e1.f).append n5⟩)⟩
      · rw [if_neg hz] at g1; exact g1.elim
    | no => exact g.elim
    | val d => exact g.elim
    | ownd _ ks vs => exact g.elim
/-- xs.append(ys.pop(k)) -/
def appPopS (i j : Nat) (f : EnvD → R D) : EnvD → Out := fun env => match env[i]?, env[j]? with
  | some (.own ds), some (.own es) => bindS (f env) env fun d => match d with
    | .int k => if i ≠ j ∧ 0 ≤ k ∧ k < es.length ∧ small (ds.length + 1) = true then (match es[k.toNat]? with
      | some y => .next ((env.set j (.own (es.eraseIdx k.toNat))).set i (.own (ds ++ [y])))
      | none => .bad) else .bad
    | _ => .bad
  | _, _ => .bad
theorem Reps.erase {K : PySem.W.Frag} {F : Hp} {vs : List V} {ds : List D} (h : Reps K F vs ds) : ∀ i : Nat, Reps K F (vs.eraseIdx i) (ds.eraseIdx i) := by
  induction ds generalizing vs with
  | nil => intro i; cases h; exact .nil
  | cons d ds ih =>
    intro i
    cases h with
    | cons a b =>
      cases i with
      | zero => exact b
      | succ i => exact .cons a (ih b i)
theorem pds_appPop {i j : Nat} {f : EnvD → R D} (h : PS X st (tDrop (tBM X.K "list" rAppend (tVar i) (tCons (tBM X.K "list" rPopAt (tVar j) (tCons (tG X.K cls W (pV X.K) f) tNil)) tNil)))) : PDS X cls W st (appPopS i j f) := ps_imp h fun D σ H ⟨H0, F0, env, F, x, ea, g⟩ => by
  unfold appPopS at g
  cases q : env[i]? with
  | none => rw [q] at g; exact g.elim
  | some s =>
    cases s with
    | own ds =>
      cases q2 : env[j]? with
      | none => rw [q, q2] at g; exact g.elim
      | some t =>
        rw [q, q2] at g
        cases t with
        | own es =>
          obtain ⟨p, xs, h1, h2, h3, h4, h5, h6⟩ := tv_own ea q
          obtain ⟨p2, ys, g1, g2, g3, g4, g5, g6⟩ := tv_own ea q2
          refine ⟨.ref p, getD_some h1, .inl ⟨rfl, xs, SqL.of h2⟩, .ref p2, getD_some g1, .inl ⟨rfl, ys, SqL.of g2⟩, H0, F, env, ea, (g.expr x ea).imp fun v H1 ⟨F1, d, _, e1, p1, k1⟩ => ?_⟩
          cases d with
          | int k =>
            cases rep_int p1
            have k1 : GoS X.K cls W F0 H0 F1 (if i ≠ j ∧ 0 ≤ k ∧ k < es.length ∧ small (ds.length + 1) = true then (match es[k.toNat]? with
              | some y => .next ((env.set j (.own (es.eraseIdx k.toNat))).set i (.own (ds ++ [y])))
              | none => .bad) else .bad) D := k1
            by_cases hz : i ≠ j ∧ 0 ≤ k ∧ k < es.length ∧ small (ds.length + 1) = true
            · rw [if_pos hz] at k1
              obtain ⟨z1, z2, z3, z4⟩ := hz
              have l1 := h4.length
              have l2 := g4.length
              have hk : k.toNat < es.length := by omega
              obtain ⟨y, hy⟩ : ∃ y, es[k.toNat]? = some y := ⟨es[k.toNat], by simp [hk]⟩
              rw [hy] at k1
              obtain ⟨w, hw, rw1⟩ := g4.get hy
              have b63 := line63
              have hsi : seqIndex? k ys.length = some k.toNat := (ixN_seq (n := ys.length) (i := k) (j := k.toNat) (by unfold ixN; rw [if_pos z2, if_pos (by omega)])).1
              refine ⟨p2, ys, k, k.toNat, w, rfl, rfl, e1.h _ _ g2, by omega, by omega, hsi, hw, ?_⟩
              have ea1 := ea.mono e1
              have fp2 := e1.keep g2 rfl g5
              have fp1 := e1.keep h2 rfl h5
              have npp : p ≠ p2 := fun e => by subst e; exact ea.ap i j _ _ p z1 q q2 rfl rfl h1 g1
              have x1 := mut_ext (o := .lst ys) (u := .lst (ys.eraseIdx k.toNat)) (x.trans e1) g6 fp2
              have ea2 := ea1.mut (u := .lst (ys.eraseIdx k.toNat)) (s' := .own (es.eraseIdx k.toNat)) q2 rfl g1 ⟨p2, _, rfl, g6, fp2, upd_same, by have := len_erase ys k.toNat; omega, (g4.mono e1.f).erase _⟩
              have q3 : (env.set j (.own (es.eraseIdx k.toNat)))[i]? = some (.own ds) := by rw [List.getElem?_set_ne (Ne.symm z1)]; exact q
              have hz' := small_ok z4
              refine ⟨p, xs, w, rfl, rfl, by rw [upd_ne npp]; exact e1.h _ _ h2, by omega, k1 σ F1 _ (mut_ext (o := .lst xs) x1 h6 fp1) (Same.refl F1) (ea2.mut q3 rfl h1 ⟨p, _, rfl, h6, fp1, upd_same, by simp; omega, (h4.mono e1.f).snoc (rw1.mono e1.f)⟩)⟩
            · rw [if_neg hz] at k1; exact k1.elim
          | _ => exact k1.elim
        | no => exact g.elim
        | val d => exact g.elim
        | ownd _ ks vs => exact g.elim
    | no => rw [q] at g; exact g.elim
    | val d => rw [q] at g; exact g.elim
    | ownd _ ks vs => rw [q] at g; exact g.elim
end
section
variable {X : Cx} {cls : Exc → Addr} {W : WX} {e a b c tg : Expr} {pos p p2 : Pos} {fa fb : EnvD → R D}
/-! ### list + list -/
def catD : D → D → Option (List D)
  | .lst xs, .lst ys => if small (xs.length + ys.length) = true then some (xs ++ ys) else none
  | _, _ => none
theorem repB_lst {K : PySem.W.Frag} {F H : Hp} {v : V} {ds : List D} (i : Same F H) (h : RepB K F H v (.lst ds)) : ∃ p xs, v = .ref p ∧ H p = some (.lst xs) ∧ xs.length ≤ sizeLine ∧ Reps K F xs ds := by
  rcases h with h | ⟨p, xs, es, h1, h2, h3, h4, h5⟩ | ⟨_, _, _, _, _, _, h, _⟩
  · cases h with | lst h1 h2 h3 => exact ⟨_, _, rfl, i _ _ h1, h2, h3⟩
  · cases h2; exact ⟨p, xs, h1, h3, h4, h5⟩
  · cases h
theorem repB_tup {K : PySem.W.Frag} {F H : Hp} {v : V} {ds : List D} (h : RepB K F H v (.tup ds)) : ∃ p xs, v = .ref p ∧ F p = some (.tup xs) ∧ xs.length ≤ sizeLine ∧ Reps K F xs ds := by
  rcases h with h | ⟨_, _, _, _, h, _⟩ | ⟨_, _, _, _, _, _, h, _⟩
  · cases h with | tup h1 h2 h3 => exact ⟨_, _, rfl, h1, h2, h3⟩
  · cases h
  · cases h
theorem os_cat {K : PySem.W.Frag} : OpSem (pB K) (pB K) (pN K) rCat catD := fun S1 S2 F H x y d e z Q i p q hz k => by
  unfold catD at hz
  split at hz
  · rename_i xs ys
    by_cases hl : small (xs.length + ys.length) = true
    · rw [if_pos hl] at hz; cases hz
      obtain ⟨a, us, rfl, h1, h2, h3⟩ := repB_lst i p
      obtain ⟨b, ws, rfl, g1, g2, g3⟩ := repB_lst i q
      have hl' := small_ok hl
      rw [← h3.length, ← g3.length] at hl'
      exact ⟨a, b, us, ws, rfl, rfl, h1, g1, hl', fun p hp => k _ F _ (Ext.newH i hp) ⟨p, _, rfl, hp, i.free hp, upd_same, by simpa using hl', h3.append g3⟩⟩
    · rw [if_neg hl] at hz; cases hz
  · cases hz
def repD : D → D → Option (List D)
  | .lst xs, .int j => if 0 ≤ j ∧ j ≤ 1000 ∧ xs.length ≤ 1000 then some (List.replicate j.toNat xs).flatten else none
  | _, _ => none
theorem os_rep {K : PySem.W.Frag} : OpSem (pB K) (pV K) (pN K) rRep repD := fun S1 S2 F H x y d e z Q i p q hz k => by
  unfold repD at hz
  split at hz
  · rename_i xs j
    by_cases hj : 0 ≤ j ∧ j ≤ 1000 ∧ xs.length ≤ 1000
    · rw [if_pos hj] at hz; cases hz
      obtain ⟨a, us, rfl, h1, h2, h3⟩ := repB_lst i p
      cases rep_int q
      have l : us.length * j.toNat ≤ 1000 * 1000 := Nat.mul_le_mul (by rw [h3.length]; exact hj.2.2) (by omega)
      have l2 : us.length * j.toNat ≤ sizeLine := Nat.le_trans l (by rw [sizeLine_eq]; decide)
      refine ⟨a, j, us, rfl, rfl, h1, by omega, by omega, l2, fun p hp => k _ F _ (Ext.newH i hp) ⟨p, _, rfl, hp, i.free hp, upd_same, ?_, h3.rep _⟩⟩
      rw [List.length_flatten, List.map_replicate, List.sum_replicate_nat, Nat.mul_comm]; exact l2
    · rw [if_neg hj] at hz; cases hz
  · cases hz
/-! ### slices -/
def pO : PP (Option Int) (Option Int) := ⟨fun _ _ _ b c => b = c, fun _ h => h, fun _ h => h⟩
abbrev PDO (X : Cx) (cls : Exc → Addr) (W : WX) (e : Option Expr) (f : EnvD → R (Option Int)) : Prop := PO X e (tG X.K cls W pO f)
theorem po_imp {e : Option Expr} {t t' : TO} (h : PO X e t) (m : ∀ σ H Q, t' σ H Q → t σ H Q) : PO X e t' := ⟨fun pins s σ H Q I q => h.run pins s σ H Q I (m σ H Q q)⟩
def noO : EnvD → R (Option Int) := fun _ => .ok none
def asO : D → Option (Option Int)
  | .int i => some (some i)
  | _ => none
def someO (f : EnvD → R D) : EnvD → R (Option Int) := una asO f
theorem pdo_none : PDO X cls W none noO := po_imp po_none fun σ H Q ⟨H0, F, env, ea, g⟩ => g none F H (Ext.refl ea.fh) rfl
theorem pdo_some (h : PDE X cls W (pV X.K) e fa) : PDO X cls W (some e) (someO fa) := po_imp (po_some h) fun σ H Q ⟨H0, F, env, ea, g⟩ => ⟨H0, F, env, ea, (Go.bind g).imp fun x H1 ⟨F1, d, _, e1, p1, g1⟩ => by
  obtain ⟨z, hz, g2⟩ := Go.ofO g1
  cases d with
  | int i => cases hz; exact ⟨i, rep_int p1, g2 _ F1 H1 (Ext.refl e1.i) rfl⟩
  | _ => cases hz⟩
def cutD (xs : List D) (lo hi : Option Int) : List D := (xs.drop (HT.sIx xs.length 0 lo)).take (HT.sIx xs.length xs.length hi - HT.sIx xs.length 0 lo)
theorem cutD_whole {ds : List D} {lo hi : Option Int} (w : HT.sIx ds.length 0 lo = 0 ∧ HT.sIx ds.length ds.length hi = ds.length) : cutD ds lo hi = ds := by
  unfold cutD
  rw [w.1, w.2]
  simp
theorem reps_cut {K : PySem.W.Frag} {F : Hp} {vs : List V} {ds : List D} (h : Reps K F vs ds) (lo hi : Option Int) : Reps K F (cutV vs lo hi) (cutD ds lo hi) := by
  unfold cutV cutD
  rw [h.length]
  exact (h.drop _).take _
def cutF : D → Option Int → Option Int → Option D
  | .tup xs, lo, hi => some (.tup (cutD xs lo hi))
  | .lst xs, lo, hi => some (.lst (cutD xs lo hi))
  | _, _, _ => none
def sliceF (fa : EnvD → R D) (fl fh : EnvD → R (Option Int)) : EnvD → R D := fun env => (fa env).bind fun x => (fl env).bind fun lo => (fh env).bind fun hi => R.ofO (cutF x lo hi)
theorem sl_any : SlR X (fun x lo hi H Q => rSlA X.K x lo hi H Q ∨ rSlL X.K x lo hi H Q) := SlR.or sl_tupA sl_list
theorem pd_slice {lo hi : Option Expr} {fl fh : EnvD → R (Option Int)} (ha : PDE X cls W (pB X.K) a fa) (hl : PDO X cls W lo fl) (hh : PDO X cls W hi fh) : PDE X cls W (pV X.K) (.Subscript a (.Slice lo hi none p2) pos) (sliceF fa fl fh) :=
  pe_imp (pe_slice sl_any ha hl hh) fun σ H Q ⟨H0, F, env, ea, g⟩ => ⟨H0, F, env, ea, (Go.bind g).imp fun x H1 ⟨F1, d, _, e1, p1, g1⟩ => ⟨H0, F1, env, ea.mono e1, (Go.bind (P1 := pO) g1).imp fun l H2 ⟨F2, lo', _, e2, q2, g2⟩ => ⟨H0, F2, env, (ea.mono e1).mono e2, (Go.bind (P1 := pO) g2).imp fun u H3 ⟨F3, hi', _, e3, q3, g3⟩ => by
    cases q2; cases q3
    obtain ⟨z, hz, g4⟩ := Go.ofO g3
    have p3 := RepB.mono p1 (e2.f.trans e3.f) (e2.h.trans e3.h)
    unfold cutF at hz
    split at hz
    · cases hz
      obtain ⟨q, xs, rfl, h1, h2, h3⟩ := repB_tup p3
      refine .inl ⟨q, xs, rfl, SqT.of (e3.i _ _ h1), fun w => ?_, fun _ t ht => ?_⟩
      · rw [cutD_whole (by rw [← h3.length]; exact w)] at g4
        exact g4 _ F3 H3 (Ext.refl e3.i) (.tup h1 h2 h3)
      · exact g4 _ (upd F3 t _) _ (Ext.new e3.i ht) (.tup upd_same (Nat.le_trans (cutV_length xs l u) h2) ((reps_cut h3 l u).mono (Same.updN (e3.i.free ht))))
    · cases hz
      obtain ⟨q, xs, rfl, h1, h2, h3⟩ := repB_lst e3.i p3
      exact .inr ⟨q, xs, rfl, SqL.of h1, fun t ht => g4 _ (upd F3 t _) _ (Ext.new e3.i ht) (.lst upd_same (Nat.le_trans (cutV_length xs l u) h2) ((reps_cut h3 l u).mono (Same.updN (e3.i.free ht))))⟩
    · cases hz⟩⟩⟩
/-! ### built-ins -/
theorem repBs1 {K : PySem.W.Frag} {F H : Hp} {vs : List V} {d : D} (h : RepBs K F H vs [d]) : ∃ v, vs = [v] ∧ RepB K F H v d := by
  cases h with | cons a b => cases b; exact ⟨_, rfl, a⟩
theorem repBs2 {K : PySem.W.Frag} {F H : Hp} {vs : List V} {d e : D} (h : RepBs K F H vs [d, e]) : ∃ v w, vs = [v, w] ∧ RepB K F H v d ∧ RepB K F H w e := by
  cases h with | cons a b => cases b with | cons c d => cases d; exact ⟨_, _, rfl, a, c⟩
def lenD : List D → Option D
  | [.lst xs] => some (.int xs.length)
  | [.tup xs] => some (.int xs.length)
  | [.scr xs] => some (.int xs.length)
  | _ => none
theorem cs_len {K : PySem.W.Frag} : CallSem (pV K) K (fun xs H Q => ∃ p ys, xs = [.ref p] ∧ (SqL K H p ys ∨ SqT K H p ys) ∧ Q (.int ys.length) H) lenD := fun F H xs ds z Q i h hz k => by
  unfold lenD at hz
  split at hz
  · cases hz
    obtain ⟨v, rfl, hv⟩ := repBs1 h
    obtain ⟨p, us, rfl, h1, h2, h3⟩ := repB_lst i hv
    exact ⟨p, us, rfl, .inl (SqL.of h1), by rw [h3.length]; exact k _ F H (Ext.refl i) (.int _)⟩
  · cases hz
    obtain ⟨v, rfl, hv⟩ := repBs1 h
    obtain ⟨p, us, rfl, h1, h2, h3⟩ := repB_tup hv
    exact ⟨p, us, rfl, .inr (SqT.of (i _ _ h1)), by rw [h3.length]; exact k _ F H (Ext.refl i) (.int _)⟩
  · cases hz
    obtain ⟨v, rfl, hv⟩ := repBs1 h
    rcases hv with hv | ⟨_, _, _, _, q, _⟩ | ⟨_, _, _, _, _, _, q, _⟩
    · cases hv with
      | scr h1 h2 => exact ⟨_, _, rfl, .inl (i.seq h1), by rw [List.length_map]; exact k _ F H (Ext.refl i) (.int _)⟩
    · cases q
    · cases q
  · cases hz
def asBls : List D → Option (List Bool)
  | [] => some []
  | .bl b :: r => (asBls r).map (b :: ·)
  | _ => none
theorem asBls_eq : ∀ {ds : List D} {bs : List Bool}, asBls ds = some bs → ds = bs.map D.bl
  | [], _, h => by cases h; rfl
  | .bl b :: r, _, h => by
    simp only [asBls] at h
    cases q : asBls r with
    | none => rw [q] at h; cases h
    | some ms => rw [q] at h; cases h; rw [asBls_eq q]; rfl
  | .non :: _, _, h => by cases h
  | .int _ :: _, _, h => by cases h
  | .str _ :: _, _, h => by cases h
  | .tup _ :: _, _, h => by cases h
  | .lst _ :: _, _, h => by cases h
  | .scr _ :: _, _, h => by cases h
  | .dic _ _ :: _, _, h => by cases h
  | .raw _ :: _, _, h => by cases h
def allD : List D → Option D
  | [.lst ds] => (asBls ds).map fun bs => .bl (bs.all id)
  | _ => none
def anyD : List D → Option D
  | [.lst ds] => (asBls ds).map fun bs => .bl (bs.any id)
  | _ => none
theorem cs_all {K : PySem.W.Frag} : CallSem (pV K) K (rAll K) allD := fun F H xs ds z Q i h hz k => by
  unfold allD at hz
  split at hz
  · rename_i es
    cases w : asBls es with
    | none => rw [w] at hz; cases hz
    | some bs =>
      rw [w] at hz; cases hz
      obtain ⟨v, rfl, hv⟩ := repBs1 h
      obtain ⟨p, us, rfl, h1, h2, h3⟩ := repB_lst i hv
      rw [asBls_eq w] at h3
      rw [h3.of_bls] at h1
      exact ⟨p, bs, rfl, SqL.of h1, k _ F H (Ext.refl i) (.bl _)⟩
  · cases hz
theorem cs_any {K : PySem.W.Frag} : CallSem (pV K) K (rAny K) anyD := fun F H xs ds z Q i h hz k => by
  unfold anyD at hz
  split at hz
  · rename_i es
    cases w : asBls es with
    | none => rw [w] at hz; cases hz
    | some bs =>
      rw [w] at hz; cases hz
      obtain ⟨v, rfl, hv⟩ := repBs1 h
      obtain ⟨p, us, rfl, h1, h2, h3⟩ := repB_lst i hv
      rw [asBls_eq w] at h3
      rw [h3.of_bls] at h1
      exact ⟨p, bs, rfl, SqL.of h1, k _ F H (Ext.refl i) (.bl _)⟩
  · cases hz
def max2D : List D → Option D
  | [.int i, .int j] => some (.int (if j > i then j else i))
  | _ => none
def min2D : List D → Option D
  | [.int i, .int j] => some (.int (if j < i then j else i))
  | _ => none
theorem cs_max2 {K : PySem.W.Frag} : CallSem (pV K) K (fun xs H Q => ∃ i j, xs = [.int i, .int j] ∧ Q (.int (if j > i then j else i)) H) max2D := fun F H xs ds z Q i h hz k => by
  unfold max2D at hz
  split at hz
  · cases hz; rw [reps_bs2 h]; exact ⟨_, _, rfl, k _ F H (Ext.refl i) (.int _)⟩
  · cases hz
theorem cs_min2 {K : PySem.W.Frag} : CallSem (pV K) K (fun xs H Q => ∃ i j, xs = [.int i, .int j] ∧ Q (.int (if j < i then j else i)) H) min2D := fun F H xs ds z Q i h hz k => by
  unfold min2D at hz
  split at hz
  · cases hz; rw [reps_bs2 h]; exact ⟨_, _, rfl, k _ F H (Ext.refl i) (.int _)⟩
  · cases hz
def absD : List D → Option D
  | [.int i] => some (.int (if i < 0 then -i else i))
  | _ => none
theorem cs_abs {K : PySem.W.Frag} : CallSem (pV K) K (fun xs H Q => ∃ i, xs = [.int i] ∧ Q (.int (if i < 0 then -i else i)) H) absD := fun F H xs ds z Q i h hz k => by
  unfold absD at hz
  split at hz
  · cases hz; rw [reps_bs1 h]; exact ⟨_, rfl, k _ F H (Ext.refl i) (.int _)⟩
  · cases hz
def tupleD : List D → Option D
  | [.lst xs] => some (.tup xs)
  | [.tup xs] => some (.tup xs)
  | _ => none
theorem cs_tuple {K : PySem.W.Frag} : CallSem (pV K) K (fun xs H Q => ∃ p ys, xs = [.ref p] ∧ ((SqL K H p ys ∧ ∀ l, H l = none → Q (.ref l) (upd H l (.tup ys))) ∨ (SqT K H p ys ∧ Q (.ref p) H))) tupleD := fun F H xs ds z Q i h hz k => by
  unfold tupleD at hz
  split at hz
  · cases hz
    obtain ⟨v, rfl, hv⟩ := repBs1 h
    obtain ⟨p, us, rfl, h1, h2, h3⟩ := repB_lst i hv
    exact ⟨p, us, rfl, .inl ⟨SqL.of h1, fun t ht => k _ (upd F t _) _ (Ext.new i ht) (.tup upd_same h2 (h3.mono (Same.updN (i.free ht))))⟩⟩
  · cases hz
    obtain ⟨v, rfl, hv⟩ := repBs1 h
    obtain ⟨p, us, rfl, h1, h2, h3⟩ := repB_tup hv
    exact ⟨p, us, rfl, .inr ⟨SqT.of (i _ _ h1), k _ F H (Ext.refl i) (.tup h1 h2 h3)⟩⟩
  · cases hz
def listD : List D → Option (List D)
  | [.lst xs] => some xs
  | [.tup xs] => some xs
  | _ => none
theorem cs_list {K : PySem.W.Frag} : CallSem (pN K) K (fun xs H Q => ∃ p ys, xs = [.ref p] ∧ (SqL K H p ys ∨ SqT K H p ys) ∧ ∀ l, H l = none → Q (.ref l) (upd H l (.lst ys))) listD := fun F H xs ds z Q i h hz k => by
  unfold listD at hz
  split at hz
  · cases hz
    obtain ⟨v, rfl, hv⟩ := repBs1 h
    obtain ⟨p, us, rfl, h1, h2, h3⟩ := repB_lst i hv
    exact ⟨p, us, rfl, .inl (SqL.of h1), fun t ht => k _ F _ (Ext.newH i ht) ⟨t, _, rfl, ht, i.free ht, upd_same, h2, h3⟩⟩
  · cases hz
    obtain ⟨v, rfl, hv⟩ := repBs1 h
    obtain ⟨p, us, rfl, h1, h2, h3⟩ := repB_tup hv
    exact ⟨p, us, rfl, .inr (SqT.of (i _ _ h1)), fun t ht => k _ F _ (Ext.newH i ht) ⟨t, _, rfl, ht, i.free ht, upd_same, h2, h3⟩⟩
  · cases hz
/-- list(range(..)), tuple(range(..)) -/
def rngV (n : Int) : EnvD → R (List D) := fun _ => .bad
theorem rgV_eq (lo hi : Int) : rgV lo hi = (List.range (hi - lo).toNat).map fun i => V.int (lo + (i : Nat)) := rfl
theorem reps_rng {K : PySem.W.Frag} {F : Hp} (lo hi : Int) : Reps K F (rgV lo hi) (rng lo hi) := by
  have e1 : rgV lo hi = ((List.range (hi - lo).toNat).map fun i => lo + ((i : Nat) : Int)).map V.int := by unfold rgV; rw [List.map_map]; rfl
  have e2 : rng lo hi = ((List.range (hi - lo).toNat).map fun i => lo + ((i : Nat) : Int)).map D.int := by unfold rng; rw [List.map_map]; rfl
  rw [e1, e2]; exact .ints
def rngL1 (f : EnvD → R D) : EnvD → R (List D) := una (fun d => asRng1 [d]) f
theorem rng_ok2 {lo hi : Int} (h : rngOk lo hi = true) : RgOk lo hi := by
  have := of_decide_eq_true h
  refine ⟨by omega, by omega, by omega, by omega, by omega⟩
theorem pd_listRg1 (hc : X.calm = true) (hg : Gl X "list") (hm : X.mg "list" = none) (hg2 : Gl X "range") (hm2 : X.mg "range" = none) (ha : PDE X cls W (pV X.K) a fa)
    (na : starEach [a] X.env = (false, eval a X.env) :: starEach [] X.env := by rfl) (na2 : starEach [.Call (.Name "range" p2) [a] [] pos] X.env = (false, eval (.Call (.Name "range" p2) [a] [] pos) X.env) :: starEach [] X.env := by rfl) {p3 pos3 : Pos} :
    PDE X cls W (pN X.K) (.Call (.Name "list" p3) [.Call (.Name "range" p2) [a] [] pos] [] pos3) (rngL1 fa) :=
  pe_imp (pe_listRg hc hg hm (prg_1 hg2 hm2 ha na) na2) fun σ H Q ⟨H0, F, env, ea, g⟩ => ⟨H0, F, env, ea, (Go.bind g).imp fun x H1 ⟨F1, d, _, e1, p1, g1⟩ => by
    obtain ⟨z, hz, g2⟩ := Go.ofO g1
    cases d with
    | int n =>
      have hz : (if rngOk 0 n = true then some (rng 0 n) else none) = some z := hz
      by_cases hk : rngOk 0 n = true
      · rw [if_pos hk] at hz; cases hz
        exact ⟨n, rep_int p1, rng_ok2 hk, fun q hq => g2 _ F1 _ (Ext.newH e1.i hq) ⟨q, _, rfl, hq, e1.i.free hq, upd_same, by rw [rgV_length]; exact rng_le hk, reps_rng 0 n⟩⟩
      · rw [if_neg hk] at hz; cases hz
    | _ => cases hz⟩
theorem pd_tupRg1 (hc : X.calm = true) (hg : Gl X "tuple") (hm : X.mg "tuple" = none) (hg2 : Gl X "range") (hm2 : X.mg "range" = none) (ha : PDE X cls W (pV X.K) a fa)
    (na : starEach [a] X.env = (false, eval a X.env) :: starEach [] X.env := by rfl) (na2 : starEach [.Call (.Name "range" p2) [a] [] pos] X.env = (false, eval (.Call (.Name "range" p2) [a] [] pos) X.env) :: starEach [] X.env := by rfl) {p3 pos3 : Pos} :
    PDE X cls W (pV X.K) (.Call (.Name "tuple" p3) [.Call (.Name "range" p2) [a] [] pos] [] pos3) (fun env => (rngL1 fa env).map D.tup) :=
  pe_imp (pe_tupRg hc hg hm (prg_1 hg2 hm2 ha na) na2) fun σ H Q ⟨H0, F, env, ea, g⟩ => ⟨H0, F, env, ea, by
    have g : Go cls (pV X.K) W σ F H (((fa env).bind fun d => R.ofO (asRng1 [d])).map D.tup) Q := g
    have g' : Go cls (pV X.K) W σ F H ((fa env).bind fun d => (R.ofO (asRng1 [d])).map D.tup) Q := by
      cases q : fa env with
      | ok d => rw [q] at g; exact g
      | err c => rw [q] at g; exact g
      | bad => rw [q] at g; exact g
    refine (Go.bind g').imp fun x H1 ⟨F1, d, _, e1, p1, g1⟩ => ?_
    cases d with
    | int n =>
      have g1 : Go cls (pV X.K) W σ F1 H1 ((R.ofO (if rngOk 0 n = true then some (rng 0 n) else none)).map D.tup) Q := g1
      by_cases hk : rngOk 0 n = true
      · rw [if_pos hk] at g1
        exact ⟨n, rep_int p1, rng_ok2 hk, fun q hq => g1 _ (upd F1 q _) _ (Ext.new e1.i hq) (.tup upd_same (by rw [rgV_length]; exact rng_le hk) (reps_rng 0 n))⟩
      · rw [if_neg hk] at g1; exact g1.elim
    | _ => exact g1.elim⟩
/-! ### isinstance -/
def tyN : D → Option String
  | .non => some "NoneType"
  | .bl _ => some "bool"
  | .int _ => some "int"
  | .str _ => some "str"
  | .tup _ => some "tuple"
  | .lst _ => some "list"
  | _ => none
theorem repB_ty {K : PySem.W.Frag} {F H : Hp} {v : V} {d : D} {t : String} (i : Same F H) (h : RepB K F H v d) (q : tyN d = some t) : TyX K H v (.type t) := by
  rcases h with h | ⟨p, xs, ds, rfl, rfl, h1, _⟩ | ⟨p, u, t, ks, vs, rfl, rfl, _⟩
  · cases h with
    | non => cases q; exact .base .non
    | bl b => cases q; exact .base (.bl b)
    | int j => cases q; exact .base (.int j)
    | str x => cases q; exact .base (.str x)
    | tup h1 _ _ => cases q; exact .base (.tup (i _ _ h1))
    | lst h1 _ _ => cases q; exact .base (.lst (i _ _ h1))
    | _ => cases q
  · cases q; exact .base (.lst h1)
  · cases q
/-- g says what isinstance(.., n) is -/
def IsiOk (n : String) (g : D → Option Bool) : Prop := ∀ d b, g d = some b → ∃ t, tyN d = some t ∧ kitB t n = some b
theorem pd_isi {n : String} {x : Str} {g : D → Option Bool} (hk : IsiOk n g) (hg : Gl X "isinstance") (hm : X.mg "isinstance" = none) (hx : Gl X x) (hxm : X.mg x = none) (hxv : bootBuiltins x = some (.type n)) (ha : PDE X cls W (pB X.K) a fa) {p3 : Pos}
    (hs : starEach (a :: [.Name x p3]) X.env = (false, eval a X.env) :: starEach [.Name x p3] X.env := by rfl) (hs2 : starEach [.Name x p3] X.env = (false, eval (.Name x p3) X.env) :: starEach [] X.env := by rfl) (hpl : (backTo pos (starEach [.Name x p3] X.env)).any (·.1) = false := by rfl)
    (hn : x ≠ "__name__" := by decide) (hd : (x == ("__debug__" : Str)) = false := by decide) :
    PDE X cls W (pV X.K) (.Call (.Name "isinstance" p) [a, .Name x p3] [] pos) (una (fun d => toD (g d)) fa) :=
  pe_imp (pe_callB call_isi hg hm (by decide +kernel) (pa_cons ha (pa_cons (pe_bltn (v := .ty n) hx hxm hxv rfl hn hd) pa_nil hs2) hs) (by decide) (by decide) hs hpl) fun σ H Q ⟨H0, F, env, ea, g1⟩ => ⟨H0, F, env, ea, (Go.bind g1).imp fun v H1 ⟨F1, d, _, e1, p1, g2⟩ => by
    obtain ⟨z, hz, g3⟩ := Go.ofO g2
    cases w : g d with
    | none => simp [toD, w] at hz
    | some b =>
      simp [toD, w] at hz
      subst hz
      obtain ⟨t, h1, h2⟩ := hk d b w
      exact ⟨v, .ty n, .type t, .type n, b, rfl, .ty n, repB_ty e1.i p1 h1, kit_ty h2, g3 _ F1 H1 (Ext.refl e1.i) (.bl b)⟩⟩
def isIntD : D → Option Bool
  | .int _ => some true
  | .bl _ => some true
  | .non => some false
  | .str _ => some false
  | .tup _ => some false
  | .lst _ => some false
  | _ => none
def isBoolD : D → Option Bool
  | .bl _ => some true
  | .int _ => some false
  | .non => some false
  | .str _ => some false
  | .tup _ => some false
  | .lst _ => some false
  | _ => none
def isTupD : D → Option Bool
  | .tup _ => some true
  | .bl _ => some false
  | .int _ => some false
  | .non => some false
  | .str _ => some false
  | .lst _ => some false
  | _ => none
def isLstD : D → Option Bool
  | .lst _ => some true
  | .tup _ => some false
  | .bl _ => some false
  | .int _ => some false
  | .non => some false
  | .str _ => some false
  | _ => none
def isStrD : D → Option Bool
  | .str _ => some true
  | .lst _ => some false
  | .tup _ => some false
  | .bl _ => some false
  | .int _ => some false
  | .non => some false
  | _ => none
theorem isi_int : IsiOk "int" isIntD := fun d b h => by cases d <;> first | (cases h; exact ⟨_, rfl, by decide +kernel⟩) | cases h
theorem isi_bool : IsiOk "bool" isBoolD := fun d b h => by cases d <;> first | (cases h; exact ⟨_, rfl, by decide +kernel⟩) | cases h
theorem isi_tup : IsiOk "tuple" isTupD := fun d b h => by cases d <;> first | (cases h; exact ⟨_, rfl, by decide +kernel⟩) | cases h
theorem isi_lst : IsiOk "list" isLstD := fun d b h => by cases d <;> first | (cases h; exact ⟨_, rfl, by decide +kernel⟩) | cases h
theorem isi_str : IsiOk "str" isStrD := fun d b h => by cases d <;> first | (cases h; exact ⟨_, rfl, by decide +kernel⟩) | cases h
end
end PD

set_option maxHeartbeats 4000000
namespace PD
open PySem PySem.Spec PyProof.Rows L2
open PySem.W (EachIs AllAlike Sortable dataKind sortingHeap dataLe alike TotalLe sameRank sort_unique)
/-! ### insertion sort: what the machine's sort gives -/
def insL {α : Type} (le : α → α → Bool) (x : α) : List α → List α
  | [] => [x]
  | y :: ys => if le x y = true then x :: y :: ys else y :: insL le x ys
def isort {α : Type} (le : α → α → Bool) : List α → List α
  | [] => []
  | x :: xs => insL le x (isort le xs)
section
variable {α : Type} {le : α → α → Bool}
theorem mem_insL {x z : α} : ∀ {l : List α}, z ∈ insL le x l ↔ z = x ∨ z ∈ l
  | [] => by simp [insL]
  | y :: ys => by
    unfold insL
    split
    · simp
    · simp only [List.mem_cons, mem_insL (l := ys)]
      constructor
      · rintro (h | h | h) <;> simp [h]
      · rintro (h | h | h) <;> simp [h]
theorem insL_sorted (T : TotalLe le) {x : α} : ∀ {l : List α}, l.Pairwise (fun a b => le a b = true) → (insL le x l).Pairwise (fun a b => le a b = true)
  | [], _ => by simp [insL]
  | y :: ys, h => by
    obtain ⟨h1, h2⟩ := List.pairwise_cons.mp h
    unfold insL
    split
    · rename_i q
      exact List.pairwise_cons.mpr ⟨fun z hz => by
        rcases List.mem_cons.mp hz with e | hz
        · rw [e]; exact q
        · exact T.trans _ _ _ q (h1 z hz), h⟩
    · rename_i q
      refine List.pairwise_cons.mpr ⟨fun z hz => ?_, insL_sorted T h2⟩
      rcases mem_insL.mp hz with e | hz
      · rw [e]; exact (T.total y x).resolve_right q
      · exact h1 z hz
theorem isort_sorted (T : TotalLe le) : ∀ l : List α, (isort le l).Pairwise (fun a b => le a b = true)
  | [] => List.Pairwise.nil
  | x :: xs => insL_sorted T (isort_sorted T xs)
theorem insL_filter (T : TotalLe le) {x c : α} : ∀ {l : List α}, (insL le x l).filter (sameRank le c) = (x :: l).filter (sameRank le c)
  | [] => rfl
  | y :: ys => by
    unfold insL
    split
    · rfl
    · rename_i q
      rw [List.filter_cons, insL_filter T (l := ys)]
      by_cases hx : sameRank le c x = true
      · by_cases hy : sameRank le c y = true
        · exfalso
          unfold sameRank at hx hy
          exact q (T.trans _ _ _ (Bool.and_eq_true_iff.mp hx).2 (Bool.and_eq_true_iff.mp hy).1)
        · simp [List.filter_cons, hx, hy]
      · simp [List.filter_cons, hx]
theorem isort_filter (T : TotalLe le) (c : α) : ∀ l : List α, (isort le l).filter (sameRank le c) = l.filter (sameRank le c)
  | [] => rfl
  | x :: xs => by
    show (insL le x (isort le xs)).filter _ = _
    rw [insL_filter T, List.filter_cons, List.filter_cons, isort_filter T c xs]
theorem isort_eq (T : TotalLe le) (l : List α) : isort le l = l.mergeSort le := sort_unique T (isort_sorted T l) fun c => isort_filter T c l
theorem isort_perm (l : List α) : (isort le l).Perm l := by
  induction l with
  | nil => exact .refl _
  | cons x xs ih =>
    have h : ∀ l : List α, (insL le x l).Perm (x :: l) := by
      intro l
      induction l with
      | nil => exact .refl _
      | cons y ys ih2 =>
        unfold insL
        split
        · exact .refl _
        · exact (List.Perm.cons y ih2).trans (List.Perm.swap x y ys)
    exact (h _).trans (List.Perm.cons x ih)
end
def leD : D → D → Bool := dataLe false D.toPy
theorem leD_total : TotalLe leD := by unfold leD; rw [PySem.W.dataLe]; exact PySem.W.sortLe_total _ _ _
/-! ### which lists are sorted here -/
def isI : D → Bool
  | .int _ => true
  | _ => false
def isTI : D → Bool
  | .tup r => r.all isI
  | _ => false
def isT1 : D → Bool
  | .tup (.int _ :: r) => r.all isI
  | _ => false
def isT2 : D → Bool
  | .tup [.int _, b] => isTI b
  | _ => false
def srtOk (ds : List D) : Bool := ds.all isI || ds.all isT1 || ds.all isT2
theorem toPys_map : ∀ ds : List D, toPys ds = ds.map D.toPy
  | [] => by simp [toPys]
  | d :: ds => by simp [toPys, toPys_map ds]
theorem isI_eq {d : D} (h : isI d = true) : ∃ i, d = .int i := by cases d <;> first | exact ⟨_, rfl⟩ | cases h
theorem allI_eq : ∀ {ds : List D}, ds.all isI = true → ∃ ns : List Int, ds = ns.map D.int
  | [], _ => ⟨[], rfl⟩
  | d :: ds, h => by
    simp only [List.all_cons, Bool.and_eq_true] at h
    obtain ⟨i, rfl⟩ := isI_eq h.1
    obtain ⟨ns, rfl⟩ := allI_eq h.2
    exact ⟨i :: ns, rfl⟩
theorem toPys_ints (ns : List Int) : toPys (ns.map D.int) = ns.map PyData.int := by rw [toPys_map, List.map_map]; congr 1
theorem isTI_eq {d : D} (h : isTI d = true) : ∃ ns : List Int, d = .tup (ns.map D.int) := by
  cases d with
  | tup r => obtain ⟨ns, rfl⟩ := allI_eq h; exact ⟨ns, rfl⟩
  | _ => cases h
theorem isT1_eq {d : D} (h : isT1 d = true) : ∃ (n : Int) (ns : List Int), d = .tup ((n :: ns).map D.int) := by
  unfold isT1 at h
  split at h
  · rename_i i r
    obtain ⟨ns, rfl⟩ := allI_eq h
    exact ⟨i, ns, rfl⟩
  · cases h
theorem isT2_eq {d : D} (h : isT2 d = true) : ∃ (n : Int) (ns : List Int), d = .tup [.int n, .tup (ns.map D.int)] := by
  unfold isT2 at h
  split at h
  · rename_i i b
    obtain ⟨ns, rfl⟩ := isTI_eq h
    exact ⟨i, ns, rfl⟩
  · cases h
theorem lay_ints : ∀ ns : List Int, PyData.canLayAll0 (ns.map PyData.int) = true
  | [] => by simp [PyData.canLayAll0]
  | n :: ns => by simp [PyData.canLayAll0, PyData.canLay0, lay_ints ns]
theorem dep_ints (ns : List Int) : PyData.depthAll (ns.map PyData.int) = 0 := PySem.W.depth_ints ns
structure SrtP (ds : List D) : Prop where
  al : AllAlike (ds.map D.toPy)
  so : Sortable (ds.map D.toPy)
  dp : ∀ d ∈ ds, d.toPy.depth ≤ 2
  ly : ∀ d ∈ ds, d.toPy.canLay0 = true
theorem srt_ok {ds : List D} (h : srtOk ds = true) : SrtP ds := by
  unfold srtOk at h
  simp only [Bool.or_eq_true] at h
  rcases h with (h | h) | h
  · have q : ∀ d ∈ ds, ∃ i, d = .int i := fun d hd => isI_eq (List.all_eq_true.mp h d hd)
    refine ⟨fun d hd d' hd' => ?_, .inr fun d hd => ?_, fun d hd => ?_, fun d hd => ?_⟩
    · obtain ⟨b, hb, rfl⟩ := List.mem_map.mp hd
      obtain ⟨c, hc, rfl⟩ := List.mem_map.mp hd'
      obtain ⟨i, rfl⟩ := q b hb
      obtain ⟨j, rfl⟩ := q c hc
      simp [D.toPy, alike]
    · obtain ⟨b, hb, rfl⟩ := List.mem_map.mp hd
      obtain ⟨i, rfl⟩ := q b hb
      simp [D.toPy]
    · obtain ⟨i, rfl⟩ := q d hd
      simp [D.toPy, PyData.depth]
    · obtain ⟨i, rfl⟩ := q d hd
      simp [D.toPy, PyData.canLay0]
  · have q : ∀ d ∈ ds, ∃ (n : Int) (ns : List Int), d = .tup ((n :: ns).map D.int) := fun d hd => isT1_eq (List.all_eq_true.mp h d hd)
    refine ⟨fun d hd d' hd' => ?_, .inl fun d hd => ?_, fun d hd => ?_, fun d hd => ?_⟩
    · obtain ⟨b, hb, rfl⟩ := List.mem_map.mp hd
      obtain ⟨c, hc, rfl⟩ := List.mem_map.mp hd'
      obtain ⟨i, ns, rfl⟩ := q b hb
      obtain ⟨j, ms, rfl⟩ := q c hc
      simp only [D.toPy, toPys_ints, alike]
      exact PySem.W.alike_ints _ _
    · obtain ⟨b, hb, rfl⟩ := List.mem_map.mp hd
      obtain ⟨i, ns, rfl⟩ := q b hb
      simp only [D.toPy, toPys_ints, List.map_cons]
      exact ⟨_, _, rfl⟩
    · obtain ⟨i, ns, rfl⟩ := q d hd
      simp only [D.toPy, toPys_ints, PyData.depth, dep_ints]
      omega
    · obtain ⟨i, ns, rfl⟩ := q d hd
      simp only [D.toPy, toPys_ints, PyData.canLay0, lay_ints]
  · have q : ∀ d ∈ ds, ∃ (n : Int) (ns : List Int), d = .tup [.int n, .tup (ns.map D.int)] := fun d hd => isT2_eq (List.all_eq_true.mp h d hd)
    refine ⟨fun d hd d' hd' => ?_, .inl fun d hd => ?_, fun d hd => ?_, fun d hd => ?_⟩
    · obtain ⟨b, hb, rfl⟩ := List.mem_map.mp hd
      obtain ⟨c, hc, rfl⟩ := List.mem_map.mp hd'
      obtain ⟨i, ns, rfl⟩ := q b hb
      obtain ⟨j, ms, rfl⟩ := q c hc
      simp [D.toPy, toPys, toPys_ints, alike, PySem.W.alikeAll, PySem.W.alike_ints]
    · obtain ⟨b, hb, rfl⟩ := List.mem_map.mp hd
      obtain ⟨i, ns, rfl⟩ := q b hb
      simp only [D.toPy, toPys]
      exact ⟨_, _, rfl⟩
    · obtain ⟨i, ns, rfl⟩ := q d hd
      simp [D.toPy, toPys, toPys_ints, PyData.depth, PyData.depthAll, dep_ints]
    · obtain ⟨i, ns, rfl⟩ := q d hd
      simp [D.toPy, toPys, toPys_ints, PyData.canLay0, PyData.canLayAll0, lay_ints]
/-! ### sorted over what collects -/
theorem collect_tup {prog : Program} {w : World} {A : Around} {E : Value → Shared → Prop} {s : Shared} {l : Addr} {vs : List Value} {Q : List Value → Shared → Prop} (hl : s.heap.IsTuple l vs.toArray)
    (h : Q vs { s with heap := (s.heap.push (seqObj "list" #[] 0)).update s.heap.objs.size (Obj.mapSeq (· ++ vs.toArray)) }) (hsz : vs.length ≤ sizeLine) :
    wpAny (model prog w) A (collect (.ref l)) Q E s := by
  obtain ⟨o, ho, hc, n, hd⟩ := id hl
  unfold collect
  refine wpAny_bind (wpAny_runValue (codeAny_builtin entry_proto_collect' ?_))
  show wpAny _ _ (do again (.builtin "list.__iadd__" ⟨[← newList [], .ref l], []⟩)) _ _ s
  refine wpAny_bind (wpAny_newList (wpAny_pure ⟨Code.quiet_builtin _ (by decide +kernel), codeAny_builtin entry_list_iadd' ?_⟩))
  show wpAny _ _ (Builtin.List.listExtendWith (.ref s.heap.objs.size) (.ref l) (.ref s.heap.objs.size)) _ _ { s with heap := s.heap.push (seqObj "list" #[] 0) }
  unfold Builtin.List.listExtendWith
  have ho' : (s.heap.push (seqObj "list" #[] 0)).get? l = some o := Heap.get?_push_of_some _ ho
  refine wpAny_bind (wpAny_typeOf (T := "tuple") ⟨o, ho', hc⟩ ?_)
  have ht : (Value.type "tuple" == Value.type "tuple") = true := by rfl
  rw [if_pos (by rw [ht]; simp)]
  refine wpAny_bind (listItems_at ho' hd ?_)
  refine wpAny_bind (listItems_at (xs := #[]) (n := 0) (Heap.get?_push_size _ rfl) rfl ?_)
  rw [if_neg (by simp)]
  refine wpAny_bind (listUpdate_at (xs := #[]) (n := 0) (Heap.get?_push_size _ rfl) rfl ?_ (Nat.zero_le _) (by show (#[] ++ vs.toArray).size ≤ sizeLine + 1; simp only [Array.size_append, List.size_toArray, List.length_nil]; omega))
  refine wpAny_pure ?_
  show wpAny (model prog w) A (do
      let o ← load s.heap.objs.size
      match o.data with
      | .seq xs _ => pure xs.toList
      | _ => unsupported "internal:collect") Q E { s with heap := (s.heap.push (seqObj "list" #[] 0)).update s.heap.objs.size (Obj.mapSeq (· ++ vs.toArray)) }
  refine wpAny_bind (wpAny_load (get?_update_seq (Heap.get?_push_size _ rfl) _) ?_)
  show wpAny _ _ (pure ((#[] : Array Value) ++ vs.toArray).toList) Q E _
  rw [show ((#[] : Array Value) ++ vs.toArray).toList = vs by simp]
  exact wpAny_pure h
theorem keepL {h : Heap} {f : Array Value → Array Value} : ∀ b o, h.get? b = some o → ((h.push (seqObj "list" #[] 0)).update h.objs.size (Obj.mapSeq f)).get? b = some o := fun b o e => by
  rw [Heap.get?_update_ne _ _ _ _ (Nat.ne_of_lt (Heap.lt_size e))]
  exact Heap.get?_push_of_some _ e
theorem sorted_gen {prog : Program} {w : World} {A : Around} {E : Value → Shared → Prop} {s : Shared} {l : Addr} {Q : Value → Shared → Prop} {bs : List D} {R : Value → D → Prop} (P : SrtP bs) (hL : bs.length ≤ sizeLine) (hu : A.units + 8 < cLine)
    (hcol : ∀ (Q' : List Value → Shared → Prop) (E' : Value → Shared → Prop), (∀ vs h' tk, (∀ b o, s.heap.get? b = some o → h'.get? b = some o) → EachIs R vs bs → EachIs (fun v b => ∃ as, Reads h' v b.toPy as) vs bs → Q' vs { s with heap := h', toks := tk }) →
      wpAny (model prog w) A.in1 (collect (.ref l)) Q' E' s)
    (h : ∀ (out : List Value) (h1 h' : Heap) (tk : Nat) (d : Addr) (n : Nat), out.length = bs.length → EachIs R out (isort leD bs) → (∀ b o, s.heap.get? b = some o → h1.get? b = some o) → (∀ b o, h1.get? b = some o → h'.get? b = some o) → h1.objs.size ≤ d → h'.get? d = some (seqObj "list" (List.toArray out) n) → Q (.ref d) { s with heap := h', toks := tk }) :
    wpAny (model prog w) A (call (.builtin "sorted") [.ref l]) Q E s := by
  refine Calls.call_function_entry kind_sorted plain_sorted entry_sorted (args_sorted1 _) ?_
  unfold Builtin.«sorted»
  refine wpAny_bind (m := checkCount "sorted" 1 1 _) (wpAny_pure ?_)
  refine wpAny_bind (hcol _ _ fun vs h1 tk k1 e er => ?_)
  have hvl : vs.length ≤ sizeLine := by rw [e.length]; exact hL
  refine wpAny_bind (wpAny_newList ?_ hvl)
  have hoL : (h1.push (seqObj "list" vs.toArray 0)).get? h1.objs.size = some (seqObj "list" vs.toArray 0) := Heap.get?_push_size _ rfl
  show wpAny _ _ _ _ _ { s with heap := h1.push (seqObj "list" vs.toArray 0), toks := tk }
  have er' : EachIs (fun v b => ∃ as, Reads (sortingHeap (h1.push (seqObj "list" vs.toArray 0)) h1.objs.size vs) v b.toPy as) vs bs := er.mono fun v d ⟨as, r⟩ => ⟨as, PyProof.Rows.Reads.keeps (fun b o q => PySem.W.sortingHeap_old (Nat.ne_of_lt (Heap.lt_size q)) (Heap.get?_push_of_some _ q)) r⟩
  refine wpAny_bind (wpAny_holding (wpAny_call_entry slot_list_sort ⟨_, hoL, rfl⟩ entry_list_sort
    (PySem.W.list_sort_vals (κ := dataKind (sortingHeap (h1.push (seqObj "list" vs.toArray 0)) h1.objs.size vs) (bs.map D.toPy)) hoL
      (PySem.W.SortsAt.data (s := { s with heap := sortingHeap (h1.push (seqObj "list" vs.toArray 0)) h1.objs.size vs, toks := tk }) (PySem.W.each_map (R := fun v d => ∃ as, Reads (sortingHeap (h1.push (seqObj "list" vs.toArray 0)) h1.objs.size vs) v d as) D.toPy er') P.al P.so (fun d hd => by
        obtain ⟨b, hb, rfl⟩ := List.mem_map.mp hd
        have := P.dp b hb
        show A.units + 1 + 1 + b.toPy.depth < cLine
        omega)) hvl ⟨_, rfl, ?_⟩) (args_list_sort _)))
  obtain ⟨n, hn⟩ := PyProof.Rows.sortedHeap_at (vs := vs) (out := List.toArray (PySem.W.sortVals (dataKind (sortingHeap (h1.push (seqObj "list" vs.toArray 0)) h1.objs.size vs) (bs.map D.toPy)) false vs vs)) hoL
  refine wpAny_pure ⟨_, rfl, h _ h1 _ tk h1.objs.size n (by rw [PySem.W.sortVals_length false rfl]; exact e.length) ?_ k1 (fun b o q1 => ?_) (Nat.le_refl _) hn⟩
  · rw [isort_eq leD_total]
    exact PySem.W.sortVals_data false e er' P.al
  · have hb : b < h1.objs.size := Heap.lt_size q1
    rw [PyProof.Rows.sortedHeap_old (Nat.ne_of_lt hb) (by rw [size_push']; exact Nat.lt_succ_of_lt hb)]
    exact Heap.get?_push_of_some _ q1
/-! ### as a rule -/
/-- the values' relation -/
def RvD (K : PySem.W.Frag) (F : Hp) (u : Value) (d : D) : Prop := ∃ v, RelV v u ∧ Rep K F v d
theorem each_rv {K : PySem.W.Frag} {F : Hp} : ∀ {vs : List V} {us : List Value} {ds : List D}, Vals vs us → Reps K F vs ds → EachIs (RvD K F) us ds
  | _, _, [], r, h => by cases h; cases r; exact .nil
  | _, _, d :: ds, r, h => by
    cases h with
    | cons a b => cases r with | cons x y => exact .cons ⟨_, x, a⟩ (each_rv y b)
theorem rv_each {K : PySem.W.Frag} {F : Hp} : ∀ {us : List Value} {ds : List D}, EachIs (RvD K F) us ds → ∃ vs, Vals vs us ∧ Reps K F vs ds
  | _, _, .nil => ⟨[], .nil, .nil⟩
  | _, _, .cons ⟨v, x, a⟩ t => by
    obtain ⟨vs, y, b⟩ := rv_each t
    exact ⟨v :: vs, .cons x y, .cons a b⟩
theorem each_reads {X : Cx} {pins : List (Addr × Obj)} {σ : L2.St} {F H : Hp} {s : Shared} (I : Inv X pins σ H s) (i : Same F H) : ∀ {us : List Value} {ds : List D}, EachIs (RvD X.K F) us ds → (∀ d ∈ ds, d.toPy.canLay0 = true) → EachIs (fun v b => ∃ as, Reads s.heap v b.toPy as) us ds
  | _, _, .nil, _ => .nil
  | _, _, .cons ⟨v, x, a⟩ t, h => .cons (Dp.reads I _ _ _ (rep_dp (a.mono i) (h _ (by simp))) x) (each_reads I i t fun d hd => h d (by simp [hd]))
/-- what sorted walks -/
inductive SrtSrc (K : PySem.W.Frag) (F H : Hp) : V → List D → Prop
  | lst {p : Addr} {xs : List V} {ds : List D} : H p = some (.lst xs) → xs.length ≤ sizeLine → Reps K F xs ds → SrtSrc K F H (.ref p) ds
  | tup {p : Addr} {xs : List V} {ds : List D} : H p = some (.tup xs) → xs.length ≤ sizeLine → Reps K F xs ds → SrtSrc K F H (.ref p) ds
  | dT {p : Addr} {kvs : List (List Key × V)} : Rd H p (.dT kvs) → kvs.length ≤ sizeLine → SrtSrc K F H (.ref p) (kvs.map fun q => D.tup (q.1.map kD))
  | dK {p : Addr} {kvs : List (Key × V)} : Rd H p (.dK kvs) → kvs.length ≤ sizeLine → SrtSrc K F H (.ref p) (kvs.map fun q => kD q.1)
def rSrt (K : PySem.W.Frag) : List V → Hp → VK → Prop := fun vs H Q => ∃ F v ds, Same F H ∧ vs = [v] ∧ SrtSrc K F H v ds ∧ srtOk ds = true ∧
  ∀ F' ys p, Ext F H F' H → Reps K F' ys (isort leD ds) → ys.length ≤ sizeLine → H p = none → Q (.ref p) (upd H p (.lst ys))
theorem kD_rep {K : PySem.W.Frag} {F : Hp} (k : Key) : Rep K F (kV k) (kD k) := by cases k <;> constructor
theorem kDs_rep {K : PySem.W.Frag} {F : Hp} : ∀ ks : List Key, Reps K F (ks.map kV) (ks.map kD)
  | [] => .nil
  | k :: ks => .cons (kD_rep k) (kDs_rep ks)
/-- all tuples are frozen -/
def tupsF (F H : Hp) : Hp := fun a => match H a with
  | some (.tup xs) => some (.tup xs)
  | _ => F a
theorem tupsF_at {F H : Hp} {a : Addr} {xs : List V} (h : H a = some (.tup xs)) : tupsF F H a = some (.tup xs) := by unfold tupsF; rw [h]
theorem tupsF_ext {F H : Hp} (i : Same F H) : Ext F H (tupsF F H) H := by
  refine ⟨fun a o e => ?_, Same.refl H, fun a o e => ?_, fun a o h m n => ?_⟩
  · unfold tupsF
    split
    · rename_i xs q; rw [← q]; exact i _ _ e
    · exact e
  · unfold tupsF at e
    split at e
    · rename_i xs q; rw [q]; exact e
    · exact i _ _ e
  · unfold tupsF at n
    split at n
    · rename_i xs q; rw [q] at h; cases h; cases m
    · exact n
theorem cr_srt {X : Cx} (hc : X.calm = true) (hu : X.A.units + 8 < cLine) : CallR X (.builtin "sorted") (rSrt X.K) := by
  intro pins s σ H vs us Q I r h
  obtain ⟨F, v, ds, i, rfl, src, ok, q⟩ := h
  obtain ⟨u, rfl, rv⟩ := vals1 r
  have P := srt_ok ok
  have fin : ∀ (F' : Hp), Ext F H F' H → ∀ (out : List Value) (h1 h' : Heap) (tk : Nat) (d : Addr) (n : Nat), out.length = ds.length → ds.length ≤ sizeLine → EachIs (RvD X.K F') out (isort leD ds) → (∀ b o, s.heap.get? b = some o → h1.get? b = some o) → (∀ b o, h1.get? b = some o → h'.get? b = some o) → h1.objs.size ≤ d → h'.get? d = some (seqObj "list" (List.toArray out) n) → EP X pins σ Q (.ref d) { s with heap := h', toks := tk } := by
    intro F' f1 out h1 h' tk d n hl hz e k1 k2 hd hn
    obtain ⟨ys, y1, y2⟩ := rv_each e
    have I1 : Inv X pins σ H { s with heap := h1, toks := tk } := I.kept k1
    have hyl : ys.length ≤ sizeLine := by rw [y1.length, hl]; exact hz
    exact ⟨.ref d, upd H d (.lst ys), I1.laid (t' := tk) k2 hd ⟨hyl, out, n, y1, hn⟩, rfl, q F' ys d f1 y2 hyl (I1.hok.fresh hd)⟩
  cases src with
  | lst h1 h2 h3 =>
    cases rv
    obtain ⟨its, r1, pl, hz⟩ := I.list (SqL.of h1)
    have e := each_rv r1 h3
    have hdl : ds.length ≤ sizeLine := by rw [← h3.length]; exact h2
    refine sorted_gen (R := RvD X.K F) P hdl hu (fun Q' E' k => collect_list pl.isList (k its _ s.toks keepL e ?_) (by rw [← r1.length]; exact h2)) fun out h1 h' tk d n a b c d' e' f' => fin F (Ext.refl i) out h1 h' tk d n a hdl b c d' e' f'
    exact (each_reads I i e P.ly).mono fun v d ⟨as, r⟩ => ⟨as, PyProof.Rows.Reads.keeps keepL r⟩
  | tup h1 h2 h3 =>
    cases rv
    obtain ⟨its, r1, pl, hz⟩ := I.tuple (SqT.of h1)
    have e := each_rv r1 h3
    have hdl : ds.length ≤ sizeLine := by rw [← h3.length]; exact h2
    refine sorted_gen (R := RvD X.K F) P hdl hu (fun Q' E' k => collect_tup pl (k its _ s.toks keepL e ?_) (by rw [← r1.length]; exact h2)) fun out h1 h' tk d n a b c d' e' f' => fin F (Ext.refl i) out h1 h' tk d n a hdl b c d' e' f'
    exact (each_reads I i e P.ly).mono fun v d ⟨as, r⟩ => ⟨as, PyProof.Rows.Reads.keeps keepL r⟩
  | @dT p kvs h1 h2 =>
    cases rv
    obtain ⟨z, hs, ks, pr, o, es, ep, ho, hx, hdt, he, hn⟩ := (show ObjOk X.prog X.w H s.heap p (.dT kvs) from h1.ok I.hok)
    have l1 : es.size = ks.length := size_of_entries he
    have l2 : kvs.length = ks.length := Paired.length pr
    have e : EachIs (RvD X.K (tupsF F H)) (ks.map fun x => Value.ref x.2.1) (kvs.map fun q => D.tup (q.1.map kD)) := by
      clear l1 l2 he hn hdt hx ho ok P fin h2 h1 z hs q
      induction pr with
      | nil => exact .nil
      | cons hd tl ih =>
        have hl := (show ObjOk X.prog X.w H s.heap _ (.tup _) from I.hok _ _ hd.2.1).1
        exact .cons ⟨.ref _, rfl, .tup (tupsF_at hd.2.1) hl (kDs_rep _)⟩ ih
    have hdl : (kvs.map fun q => D.tup (q.1.map kD)).length ≤ sizeLine := by rw [List.length_map]; exact h2
    refine sorted_gen (R := RvD X.K (tupsF F H)) P hdl hu (fun Q' E' k => PySem.W.kdu_collect (A := X.A.in1) (kdl_raw hs hx hdt) (I.ok.hd hc) ho (by omega) fun h' tk acc kp it => ?_) fun out h1 h' tk d n a b c d' e' f' => fin (tupsF F H) (tupsF_ext i) out h1 h' tk d n a hdl b c d' e' f'
    have ea : acc.toList = ks.map fun x => Value.ref x.2.1 := by
      have hl : acc.toList.length = ks.length := by rw [Array.length_toList, it.1]; exact l1
      apply List.ext_getElem?
      intro j
      rw [List.getElem?_map]
      cases hj : acc.toList[j]? with
      | none =>
        have h1 := List.getElem?_eq_none_iff.mp hj
        rw [List.getElem?_eq_none (by omega)]
        all_goals rfl
      | some v =>
        obtain ⟨en, hen, hv⟩ := it.2 j v (by rw [← Array.getElem?_toList]; exact hj)
        have qe := entry_at he j
        rw [hen] at qe
        cases hb : ks[j]? with
        | none => rw [hb] at qe; exact nomatch (show some en = none from qe)
        | some b =>
          rw [hb] at qe
          have e2 : en = entryOfKey (tupleKind (mixKind X.prog X.w)) b := Option.some.inj qe
          rw [hv, e2]
          all_goals rfl
    rw [ea]
    exact k _ _ tk kp e ((each_reads I (tupsF_ext i).i e P.ly).mono fun v d ⟨as, r⟩ => ⟨as, PyProof.Rows.Reads.keeps kp r⟩)
  | @dK p kvs h1 h2 =>
    cases rv
    obtain ⟨z, lo, vs, rk, hd⟩ := (show ObjOk X.prog X.w H s.heap p (.dK kvs) from h1.ok I.hok)
    obtain ⟨ep, hat⟩ := hd.dictAt
    have hl : kvs.length = vs.length := Paired.length rk
    have hdl : (kvs.map fun q => kD q.1).length ≤ sizeLine := by rw [List.length_map]; exact h2
    refine sorted_gen (R := RvD X.K F) P hdl hu (fun Q' E' k => PySem.W.kdu_collect (A := X.A.in1) (PySem.W.kdl_dict (knd := mixKind X.prog X.w) (kvs := vs) (ep := ep) lo) (I.ok.hd hc) hat (by rw [← hl]; exact z) fun h' tk acc kp it => ?_) fun out h1 h' tk d n a b c d' e' f' => fin F (Ext.refl i) out h1 h' tk d n a hdl b c d' e' f'
    have rvs : Vals (kvs.map fun kv => kV kv.1) acc.toList := by
      have el : acc.toList.length = acc.size := by simp
      refine vals_of_at (by rw [List.length_map, el, it.1, hl]) fun j x w h1 h2 => ?_
      obtain ⟨k, y, hky, hi⟩ := it.2 j w (by rw [← Array.getElem?_toList]; exact h2)
      have e1 : (kvs.map (·.1))[j]? = some k := by
        rw [KV.keys rk, List.getElem?_map, hky] <;> rfl
      have e2 : (kvs.map fun kv => kV kv.1)[j]? = some (kV k) := by
        have e3 : (kvs.map fun kv => kV kv.1) = (kvs.map (·.1)).map kV := by rw [List.map_map] <;> rfl
        rw [e3, List.getElem?_map, e1] <;> rfl
      rw [e2] at h1
      cases h1
      exact keyIs_rel hi
    have er : Reps X.K F (kvs.map fun kv => kV kv.1) (kvs.map fun q => kD q.1) := by
      have := kDs_rep (K := X.K) (F := F) (kvs.map (·.1))
      rw [List.map_map, List.map_map] at this
      exact this
    have e := each_rv rvs er
    exact k _ _ tk kp e ((each_reads I i e P.ly).mono fun v d ⟨as, r⟩ => ⟨as, PyProof.Rows.Reads.keeps kp r⟩)
/-! ### sorted(x) -/
def keyT : D → Bool
  | .dic _ _ => true
  | _ => false
def sortD : List D → Option (List D)
  | [.lst ds] => if srtOk ds = true then some (isort leD ds) else none
  | [.tup ds] => if srtOk ds = true then some (isort leD ds) else none
  | [.dic ks _] => if srtOk ks = true then some (isort leD ks) else none
  | _ => none
theorem isort_len {ds : List D} : (isort leD ds).length = ds.length := (isort_perm (le := leD) ds).length_eq
theorem cs_sort {K : PySem.W.Frag} : CallSem (pN K) K (rSrt K) sortD := fun F H xs ds z Q i h hz k => by
  have fin : ∀ {v : V} {es : List D}, SrtSrc K F H v es → srtOk es = true → es.length ≤ sizeLine → z = isort leD es → xs = [v] → rSrt K xs H Q := fun {v es} s o l e ex => by
    refine ⟨F, v, es, i, ex, s, o, fun F' ys p x r hl hp => ?_⟩
    subst e
    exact k _ F' _ ⟨x.f, Same.updN hp, x.i.into (x.i.free hp), x.n⟩ ⟨p, ys, rfl, hp, x.i.free hp, upd_same, hl, r⟩
  unfold sortD at hz
  split at hz
  · obtain ⟨v, rfl, r⟩ := repBs1 h
    split at hz
    · rename_i o
      cases hz
      obtain ⟨p, ys, rfl, h1, h2, h3⟩ := repB_lst i r
      exact fin (.lst h1 h2 h3) o (by rw [← h3.length]; exact h2) rfl rfl
    · cases hz
  · obtain ⟨v, rfl, r⟩ := repBs1 h
    split at hz
    · rename_i o
      cases hz
      obtain ⟨p, ys, rfl, h1, h2, h3⟩ := repB_tup r
      exact fin (.tup (i _ _ h1) h2 h3) o (by rw [← h3.length]; exact h2) rfl rfl
    · cases hz
  · obtain ⟨v, rfl, r⟩ := repBs1 h
    split at hz
    · rename_i o
      cases hz
      rcases r with r | ⟨p, ys, ws, _, q, _⟩ | ⟨p, u, t, ks', vs', rfl, q, h1, h2⟩
      · cases r with
        | dicK h1 h2 h3 => exact fin (.dK (h1.mono i) h2) o (by rw [List.length_map]; exact h2) rfl rfl
        | dicT h1 hk h2 h3 => exact fin (.dT (h1.mono i) h2) o (by rw [List.length_map]; exact h2) rfl rfl
      · cases q
      · cases q
        cases h2 with
        | k l r => exact fin (.dK (.inl h1) l) o (by rw [List.length_map]; exact l) rfl rfl
        | t _ l r => exact fin (.dT (.inl h1) l) o (by rw [List.length_map]; exact l) rfl rfl
    · cases hz
  · cases hz
end PD

set_option maxHeartbeats 4000000
namespace PD
open PySem PySem.Spec PyProof.Rows L2
/-! ### enumerate of a tuple -/
set_option maxHeartbeats 1000000 in
theorem meets_enumerate_new1 {v : Value} {o : Obj} {H : Heap → Prop} (B : PySem.Begins v o H) :
    Meets (Builtin.«enumerate.__new__» ⟨[.type "enumerate", v], []⟩) (fun _ R s => H s.heap ∧
      R (.ok (.ret (.ref (s.heap.push o).objs.size))) { s with heap := (s.heap.push o).push { cls := .type "enumerate", data := .fields #[.none, .bool false, .ref s.heap.objs.size, rawInt 0, .none, .none] } }) :=
  .of_wp fun prog w A R s h => by
    obtain ⟨hp, g, d, tk, os⟩ := s; obtain ⟨h1, h⟩ := h
    have hsub := sub_enumerate
    have q1 : ∀ {A' : Around} {E : Value → Shared → Prop} {Q : Value → Shared → Prop}, Q (.ref hp.objs.size) ⟨hp.push o, g, d, tk, os⟩ → wpAny (model prog w) A' (pyIter v) Q E ⟨hp, g, d, tk, os⟩ :=
      fun q => B.iter prog w _ _ ⟨hp, g, d, tk, os⟩ _ h1 q
    wp_walk using q1
    refine wpAny_stack_any fun st => wpAny_pure ?_
    split
    · rename_i c _ _ _ _ _
      cases (c == Value.type "enumerate")
      · wp_walk using q1
        exact ⟨_, rfl, h⟩
      · wp_walk using q1
        exact ⟨_, rfl, h⟩
    · wp_walk using q1
      exact ⟨_, rfl, h⟩
theorem call_enumerate1 {prog : Program} {w : World} {A : Around} {E : Value → Shared → Prop} {s : Shared} {v : Value} {o : Obj} {H : Heap → Prop} {Q : Value → Shared → Prop} (B : PySem.Begins v o H) (h1 : H s.heap)
    (h : ∀ h', IsEnum h' (s.heap.objs.size + 1) s.heap.objs.size 0 .none → h'.get? s.heap.objs.size = some o → h'.objs.size = s.heap.objs.size + 2 →
      (∀ b o, s.heap.get? b = some o → h'.get? b = some o) → Q (.ref (s.heap.objs.size + 1)) { s with heap := h' }) :
    wpAny (model prog w) A (call (.type "enumerate") [v]) Q E s := by
  refine callType_new F.called_enumerate (by decide) (F.typeCall_enumerate_1 _) (F.newCall_enumerate_1 _) (fun obj => F.args_object_init_2 obj _) F.entry_enumerate_new
    (meets_enumerate_new1 B) ⟨h1, ?_⟩
  have hz : (s.heap.push o).objs.size = s.heap.objs.size + 1 := Heap.size_push ..
  show _ ∧ _
  rw [hz]
  have he : IsEnum ((s.heap.push o).push { cls := .type "enumerate", data := .fields #[.none, .bool false, .ref s.heap.objs.size, rawInt 0, .none, .none] }) (s.heap.objs.size + 1) s.heap.objs.size 0 .none := by
    have := Heap.get?_push_size (s.heap.push o) (o := { cls := .type "enumerate", data := .fields #[.none, .bool false, .ref s.heap.objs.size, rawInt 0, .none, .none] }) rfl
    rw [hz] at this; exact this
  refine ⟨⟨_, he, rfl⟩, h _ he (Heap.get?_push_of_some _ (Heap.get?_push_size _ B.free)) (by rw [Heap.size_push, hz]) fun b o x => Heap.get?_push_of_some _ (Heap.get?_push_of_some _ x)⟩
/-- the tuple at a as it stands at each turn, each item in a new pair -/
def IteT (K : PySem.W.Frag) (a : Addr) : It :=
  ⟨fun i H => ∃ (xs : List V) (x : V), SqT K H a xs ∧ xs[i]? = some x, fun i H v H' => ∃ T x, v = .ref T ∧ H T = none ∧ H' = upd H T (.tup [.int (i : Nat), x]) ∧ ∀ xs, SqT K H a xs → xs[i]? = some x, fun i H => ∃ xs : List V, SqT K H a xs ∧ xs.length ≤ i⟩
theorem turn_enumT {P : Program} {w : World} {K : PySem.W.Frag} {elts : List Expr} {kk : Nat} {tpos : Pos} (a e it : Addr) (hae : a ≠ e) (hai : a ≠ it) :
    Turn P w K (.Tuple elts kk tpos) (IteT K a) [e, it] e (fun i h => (∃ old, IsEnum h e it ((i : Nat) : Int) old) ∧ h.IsTupleIter it a i ∧ e ≠ it) where
  mem := by simp
  obj := fun i h st b hb => by
    obtain ⟨⟨old, he⟩, ⟨o, ho, hc, hd⟩, _⟩ := st
    have e' : b = e ∨ b = it := by simpa using hb
    rcases e' with z | z
    · rw [z]; exact ⟨_, he, fun v q => nomatch q⟩
    · rw [z]; exact ⟨o, ho, fun v q => by rw [hd] at q; cases q⟩
  keep := fun i h h' st k => let ⟨⟨old, he⟩, hi, hne⟩ := st; ⟨⟨old, k e (by simp) _ he⟩, hi.at fun o q => k it (by simp) o q, hne⟩
  item := by
    intro X hP hw hK hc i pins s σ H E I hf st hg
    subst hP hw hK
    obtain ⟨⟨old, he⟩, hit, hne⟩ := st
    obtain ⟨xs, x, hq, hx⟩ := hg
    obtain ⟨its, rv, p, hz⟩ := I.tuple hq
    obtain ⟨u, hu, ru⟩ := rv.get hx
    have hel : e < s.heap.objs.size := Heap.lt_size he
    have hil : it < s.heap.objs.size := by obtain ⟨_, q, _⟩ := hit; exact Heap.lt_size q
    have hlt : i < its.toArray.size := by
      have := (List.getElem?_eq_some_iff.mp hu).1
      simpa using this
    have p' : s.heap.IsTuple a its.toArray := p
    refine wpAny_pyNext_enum_itemD (PySem.Draws.tuple (A := X.A.in1) (I.ok.hd hc) it a hai its.toArray) he ⟨hit, p'⟩ hlt hne (by simp [hne, Ne.symm hae]) fun x' h' tk hx' ho hst' hT hsz hk => ?_
    have ex : x' = u := by
      have : its.toArray[i]? = some u := by simpa using hu
      rw [this] at hx'; exact (Option.some.inj hx').symm
    subst ex
    have hit' := hst'.1
    refine ⟨_, rfl, wpAny_letOwnedTupleGo_enum (s := { s with heap := h', toks := tk + 1 }) ho fun h'' he' sb => ?_⟩
    have hT2 : h''.get? s.heap.objs.size = some { cls := .type "tuple", data := .seq #[.int i tk, x'] } := (sb.2 _ (Nat.ne_of_gt hel)).trans hT
    have new : ObjOk X.prog X.w (upd H s.heap.objs.size (.tup [.int (i : Nat), x])) h'' s.heap.objs.size (.tup [.int (i : Nat), x]) :=
      ⟨by show 2 ≤ sizeLine; decide, [.int i tk, x'], .cons ⟨_, rfl⟩ (.cons ru .nil), ⟨_, hT2, rfl, _, rfl⟩⟩
    have I1 : Inv X pins σ (upd H s.heap.objs.size (.tup [.int (i : Nat), x])) { s with heap := h'', toks := tk + 1 } :=
      I.turnedNew (ch := [e, it]) (fun b ob hb q => (sb.2 b (fun z => hb (by simp [z]))).trans (hk b ob (fun z => hb (by simp [z])) (fun z => hb (by simp [z])) q)) hf (Nat.le_refl _) new
    refine ⟨.ref s.heap.objs.size, _, I1, rfl, ⟨_, x, rfl, I.hok.fresh (Nat.le_refl _), rfl, fun ys hy => by rw [I.tuple_inj hy hq]; exact hx⟩, ⟨⟨x', ?_⟩, hit'.at fun o q => (sb.2 it (Ne.symm hne)).trans q, hne⟩, fun b hb => ?_⟩
    · have e1 : ((i + 1 : Nat) : Int) = (i : Int) + 1 := by omega
      rw [e1]; exact he'
    · have hb' : b < s.heap.objs.size := by
        have e' : b = e ∨ b = it := by simpa using hb
        rcases e' with z | z
        · rw [z]; exact hel
        · rw [z]; exact hil
      rw [upd_ne (Nat.ne_of_lt hb')]
      exact (hf b hb).1
  done := by
    intro X hP hw hK hc i pins s σ H E I hf st hg
    subst hP hw hK
    obtain ⟨⟨old, he⟩, hit, hne⟩ := st
    obtain ⟨xs, hq, hx⟩ := hg
    obtain ⟨its, rv, p, hz⟩ := I.tuple hq
    have p' : s.heap.IsTuple a its.toArray := p
    obtain ⟨f0, f1, f2, f3, f4, f5⟩ := hf it (by simp)
    have hl := rv.length
    have D := (PySem.Draws.tuple (prog := X.prog) (w := X.w) (A := X.A.in1) (I.ok.hd hc) it a hai its.toArray)
    have hiz : its.toArray[i]? = none := by simp; omega
    unfold pyNext
    refine wpAny_bind (wpAny_attempt (wpAny_callSpecial?_slot (name := Str.ofString "__next__") (⟨_, he, rfl⟩ : s.TypeIs (.ref e) "enumerate") F.slot_enumerate_next
      (wpAny_call_entry F.slot_enumerate_next (⟨_, he, rfl⟩ : s.TypeIs (.ref e) "enumerate") F.entry_enumerate_next ?_ (F.args_enumerate_next_1 _))))
    show wpAny _ _ (field (.ref e) 2 >>= _) _ _ _
    refine wpAny_bind (wpAny_field he rfl (x := .ref it) rfl ?_)
    refine wpAny_bind (RZ.nextOf_tuple_end (I.ok.hd hc) hit p' hiz fun h' x he' hx' => ?_)
    obtain ⟨o, ho, hcc⟩ := hx'
    refine wpAny_bind (wpAny_isInstance (T := "StopIteration") (b := true) ⟨o, ho, hcc⟩ isSubtype_stop ?_)
    exact wpAny_pure ⟨rfl, I.turned (t' := s.toks) (fun b o hb q => he' b o hb q) f0 f1 f3 f4 f5⟩
  self := fun A i s Q E st h => let ⟨⟨_, he⟩, _⟩ := st; wpAny_pyIter_enum he h
theorem pi_enumA {X : Cx} {e : Expr} {te : TE} {p pos tpos : Pos} {elts : List Expr} {kk : Nat} (hg : Gl X "enumerate") (hm : X.mg "enumerate" = none) (he : PE X e te) (na : starEach [e] X.env = (false, eval e X.env) :: starEach [] X.env := by rfl) :
    PI X (.Tuple elts kk tpos) (.Call (.Name "enumerate" p) [e] [] pos) (fun σ H R => te σ H fun v H1 => ∃ a xs, v = .ref a ∧ (SqL X.K H1 a xs ∧ R (Ite X.K a) H1 ∨ SqT X.K H1 a xs ∧ R (IteT X.K a) H1)) := by
  refine ⟨fun pins s σ H R I h => ?_⟩
  refine Call_ (ld_blt I hg hm boot_enumerate (PyProof.Rows.callWith_type1 (one_arg he I h (fun v s1 x H1 I1 r q1 => ?_) na) na))
  obtain ⟨a, xs, ex, q⟩ := q1
  subst ex
  cases r
  have fin : ∀ (b : Addr), b ∈ [s1.heap.objs.size + 1, s1.heap.objs.size] → FpOk X pins H1 b := fun b hb => by
    have e' : b = s1.heap.objs.size + 1 ∨ b = s1.heap.objs.size := by simpa using hb
    have hle : s1.heap.objs.size ≤ b := by
      rcases e' with z | z
      · rw [z]; exact Nat.le_add_right _ _
      · rw [z]; exact Nat.le_refl _
    exact I1.fpOk hle (I1.hok.fresh hle)
  rcases q with ⟨hq, q⟩ | ⟨hq, q⟩
  · obtain ⟨its, rv, p', hz⟩ := I1.list hq
    refine call_enumerate_list p'.isList fun h' he hit hsz hk => wpAny_pyIter_enum he ?_
    have I2 : Inv X pins σ H1 { s1 with heap := h' } := I1.kept (t' := s1.toks) hk
    exact ⟨s1.heap.objs.size + 1, [s1.heap.objs.size + 1, s1.heap.objs.size], _, _, H1, rfl, I2, turn_enum a (s1.heap.objs.size + 1) s1.heap.objs.size, ⟨⟨.none, he⟩, hit, Nat.succ_ne_self _⟩, fin, q⟩
  · obtain ⟨its, rv, p', hz⟩ := I1.tuple hq
    have p'' : s1.heap.IsTuple a its.toArray := p'
    obtain ⟨ob, hob, _⟩ := id p''
    have hal : a < s1.heap.objs.size := Heap.lt_size hob
    refine call_enumerate1 (PySem.begins_tuple a its.toArray) p'' fun h' he hit hsz hk => wpAny_pyIter_enum he ?_
    have I2 : Inv X pins σ H1 { s1 with heap := h' } := I1.kept (t' := s1.toks) hk
    exact ⟨s1.heap.objs.size + 1, [s1.heap.objs.size + 1, s1.heap.objs.size], _, _, H1, rfl, I2, turn_enumT a (s1.heap.objs.size + 1) s1.heap.objs.size (Nat.ne_of_lt (Nat.lt_succ_of_lt hal)) (Nat.ne_of_lt hal), ⟨⟨.none, he⟩, ⟨_, hit, rfl, rfl⟩, Nat.succ_ne_self _⟩, fin, q⟩

/-! ### enumerate as pure data -/
def enumL : Nat → List D → List D
  | _, [] => []
  | k, d :: ds => .tup [.int k, d] :: enumL (k + 1) ds
theorem enumL_len : ∀ (k : Nat) (ds : List D), (enumL k ds).length = ds.length
  | _, [] => rfl
  | k, d :: ds => by simp [enumL, enumL_len]
theorem enumL_get : ∀ (k : Nat) (ds : List D) (i : Nat) (x : D), (enumL k ds)[i]? = some x → ∃ d, ds[i]? = some d ∧ x = .tup [.int ((k + i : Nat) : Int), d]
  | _, [], i, x, h => by simp [enumL] at h
  | k, d :: ds, 0, x, h => by simp [enumL] at h; exact ⟨d, rfl, by rw [← h]; simp⟩
  | k, d :: ds, i + 1, x, h => by
    simp only [enumL, List.getElem?_cons_succ] at h
    obtain ⟨d', h1, h2⟩ := enumL_get (k + 1) ds i x h
    exact ⟨d', by simpa using h1, by rw [h2]; congr 3; congr 1; omega⟩
def enumF (f : EnvD → R D) : EnvD → R (List D) := fun env => (f env).bind fun d => R.ofO ((asSeq d).map (enumL 0))
section
variable {X : Cx} {cls : Exc → Addr} {W : WX} {e a b c tg : Expr} {pos p : Pos}
theorem pdi_enum {f : EnvD → R D} {p pos tpos : Pos} {elts : List Expr} {kk : Nat} (hg : Gl X "enumerate") (hm : X.mg "enumerate" = none) (h : PDE X cls W (pV X.K) e f) (na : starEach [e] X.env = (false, eval e X.env) :: starEach [] X.env := by rfl) :
    PDI X cls W false (.Tuple elts kk tpos) (.Call (.Name "enumerate" p) [e] [] pos) (enumF f) := pi_imp (pi_enumA hg hm h na) fun σ H Q ⟨H0, F, env, ea, g⟩ =>
  ⟨H0, F, env, ea, (Go.bind g).imp fun x H1 ⟨F1, d, _, e1, p1, g1⟩ => by
    obtain ⟨ds, hd, g2⟩ := Go.ofO g1
    have fin : ∀ {J : It} {q : Addr} {xs : List V} {es : List D} {SQ : Hp → List V → Prop}, (∀ F2 H2, Same F1 F2 → Same F2 H2 → SQ H2 xs) → (∀ H2 ys zs, SQ H2 ys → SQ H2 zs → ys = zs → True) → xs.length ≤ sizeLine → Reps X.K F1 xs es → ds = enumL 0 es →
        (∀ i H2, J.go i H2 ↔ ∃ (xs : List V) (x : V), SQ H2 xs ∧ xs[i]? = some x) → (∀ i H2 x H3, J.yld i H2 x H3 → ∃ T v, x = .ref T ∧ H2 T = none ∧ H3 = upd H2 T (.tup [.int (i : Nat), v]) ∧ ∀ xs, SQ H2 xs → xs[i]? = some v) → (∀ i H2, J.stop i H2 ↔ ∃ xs : List V, SQ H2 xs ∧ xs.length ≤ i) → WalkD X.K false J F1 H1 ds := by
      intro J q xs es SQ hsq _ hl r ed y1 y2 y3
      subst ed
      have le : (enumL 0 es).length = xs.length := by rw [enumL_len, r.length]
      refine ⟨by rw [le]; exact hl, fun F2 H2 a1 a2 _ => ⟨fun i d hd => ?_, (y3 _ _).mpr ⟨xs, hsq F2 H2 a1 a2, by rw [le]; exact Nat.le_refl _⟩⟩⟩
      obtain ⟨d', h1, h2⟩ := enumL_get 0 es i d hd
      obtain ⟨v, hv, rv⟩ := r.get h1
      refine ⟨(y1 _ _).mpr ⟨xs, v, hsq F2 H2 a1 a2, hv⟩, fun x H3 y => ?_⟩
      obtain ⟨T, v', ex, nT, eH, hxs⟩ := y2 _ _ _ _ y
      have := hxs xs (hsq F2 H2 a1 a2)
      rw [hv] at this; cases this
      subst ex eH h2
      refine ⟨upd F2 T (.tup [.int (i : Nat), v]), Ext.new a2 nT, .tup upd_same (by show 2 ≤ sizeLine; decide) ?_⟩
      rw [Nat.zero_add]
      exact .cons (.int _) (.cons ((rv.mono a1).mono (Same.updN (a2.free nT))) .nil)
    cases p1 with
    | @lst q xs es h1 h2 h3 =>
      cases hd
      refine ⟨q, xs, rfl, .inl ⟨SqL.of (e1.i _ _ h1), g2 _ F1 H1 (Ext.refl e1.i) (fin (q := q) (SQ := fun H xs => SqL X.K H q xs) (fun F2 H2 a1 a2 => SqL.of (a2 _ _ (a1 _ _ h1))) (fun _ _ _ _ _ _ => trivial) h2 h3 rfl (fun i H2 => Iff.rfl) (fun i H2 x H3 y => y) (fun i H2 => Iff.rfl))⟩⟩
    | @tup q xs es h1 h2 h3 =>
      cases hd
      refine ⟨q, xs, rfl, .inr ⟨SqT.of (e1.i _ _ h1), g2 _ F1 H1 (Ext.refl e1.i) (fin (q := q) (SQ := fun H xs => SqT X.K H q xs) (fun F2 H2 a1 a2 => SqT.of (a2 _ _ (a1 _ _ h1))) (fun _ _ _ _ _ _ => trivial) h2 h3 rfl (fun i H2 => Iff.rfl) (fun i H2 x H3 y => y) (fun i H2 => Iff.rfl))⟩⟩
    | _ => cases hd⟩
end
/-! ### two fors -/
def noErr {α : Type} : R α → R α
  | .ok a => .ok a
  | _ => .bad
theorem noErr_ok {α : Type} {r : R α} {a : α} (h : noErr r = .ok a) : r = .ok a := by cases r <;> first | exact h | cases h
theorem bind_ok {α β : Type} {r : R α} {f : α → R β} {b : β} (h : r.bind f = .ok b) : ∃ a, r = .ok a ∧ f a = .ok b := by cases r <;> first | exact ⟨_, rfl, h⟩ | cases h
theorem map_ok {α β : Type} {r : R α} {f : α → β} {b : β} (h : r.map f = .ok b) : ∃ a, r = .ok a ∧ f a = b := by cases r <;> first | (cases h; exact ⟨_, rfl, rfl⟩) | cases h
theorem lcL_inv {p : Pat} {vs : List Nat} {t : EnvD → R Bool} {f : EnvD → R D} {d : D} {r : List D} {env : EnvD} {ys : List D} (h : lcL p vs t f (d :: r) env = .ok ys) :
    ∃ e k, bindP p d (wipeE env vs) = some e ∧ t e = .ok k ∧ (k = false ∧ lcL p vs t f r env = .ok ys ∨ k = true ∧ ∃ y ys', f e = .ok y ∧ ys = y :: ys' ∧ lcL p vs t f r env = .ok ys') := by
  unfold lcL at h
  split at h
  · cases h
  · rename_i e q
    split at h
    · rename_i q2
      split at h
      · rename_i y q3
        obtain ⟨a, h1, h2⟩ := map_ok h
        exact ⟨e, true, q, q2, .inr ⟨rfl, y, a, q3, h2.symm, h1⟩⟩
      · cases h
    · rename_i q2
      exact ⟨e, false, q, q2, .inl ⟨rfl, h⟩⟩
    · cases h
def lc2L (p : Pat) (vs : List Nat) (t : EnvD → R Bool) (src1 : EnvD → R (List D)) (p1 : Pat) (vs1 : List Nat) (t1 : EnvD → R Bool) (f : EnvD → R D) : List D → EnvD → R (List D)
  | [], _ => .ok []
  | d :: r, env => match bindP p d (wipeE env vs) with
    | none => .bad
    | some e => (noErr (t e)).bind fun k => if k = true then (noErr (src1 e)).bind fun ds1 => (lcL p1 vs1 t1 f ds1 e).bind fun ys => (lc2L p vs t src1 p1 vs1 t1 f r env).map (ys ++ ·) else lc2L p vs t src1 p1 vs1 t1 f r env
def lc2F (p : Pat) (vs : List Nat) (t : EnvD → R Bool) (src1 : EnvD → R (List D)) (p1 : Pat) (vs1 : List Nat) (t1 : EnvD → R Bool) (f : EnvD → R D) (src : EnvD → R (List D)) : EnvD → R (List D) := fun env => (src env).bind fun ds => match lc2L p vs t src1 p1 vs1 t1 f ds env with
  | .ok T => if small T.length = true then .ok T else .bad
  | _ => .bad
theorem lc2L_inv {p : Pat} {vs : List Nat} {t : EnvD → R Bool} {src1 : EnvD → R (List D)} {p1 : Pat} {vs1 : List Nat} {t1 : EnvD → R Bool} {f : EnvD → R D} {d : D} {r : List D} {env : EnvD} {T : List D} (h : lc2L p vs t src1 p1 vs1 t1 f (d :: r) env = .ok T) :
    ∃ e k, bindP p d (wipeE env vs) = some e ∧ t e = .ok k ∧ (k = false ∧ lc2L p vs t src1 p1 vs1 t1 f r env = .ok T ∨ k = true ∧ ∃ ds1 ys T2, src1 e = .ok ds1 ∧ lcL p1 vs1 t1 f ds1 e = .ok ys ∧ lc2L p vs t src1 p1 vs1 t1 f r env = .ok T2 ∧ T = ys ++ T2) := by
  unfold lc2L at h
  split at h
  · cases h
  · rename_i e q
    obtain ⟨k, hk, h⟩ := bind_ok h
    have hk := noErr_ok hk
    cases k with
    | false => exact ⟨e, false, q, hk, .inl ⟨rfl, h⟩⟩
    | true =>
      obtain ⟨ds1, h1, h⟩ := bind_ok (show (noErr (src1 e)).bind _ = .ok T from h)
      obtain ⟨ys, h2, h⟩ := bind_ok h
      obtain ⟨T2, h3, h4⟩ := map_ok h
      exact ⟨e, true, q, hk, .inr ⟨rfl, ds1, ys, T2, noErr_ok h1, h2, h3, h4.symm⟩⟩
theorem wipe_idem (vs : List Nat) (σ : L2.St) : L2.wipe (L2.wipe σ vs) vs = L2.wipe σ vs := by
  have idem : ∀ (ws : List Nat) (τ : L2.St), (∀ i ∈ ws, i ∈ vs) → L2.wipe (L2.wipe τ ws) vs = L2.wipe τ vs := by
    intro ws
    induction ws with
    | nil => intro τ _; rfl
    | cons u us ih =>
      intro τ hu
      show L2.wipe ((L2.wipe τ us).set u none) vs = L2.wipe τ vs
      rw [wipe_set (hu u (by simp)), ih τ fun j hj => hu j (List.mem_cons_of_mem _ hj)]
  exact idem vs σ fun _ h => h
theorem drop_of {ds : List D} {i : Nat} (h : i < ds.length) : ∃ d, ds[i]? = some d ∧ ds.drop i = d :: ds.drop (i + 1) :=
  ⟨ds[i], by simp [h], List.drop_eq_getElem_cons h⟩
theorem gNames_ok2 {K : PySem.W.Frag} {H0 F H : Hp} : ∀ {is : List Nat} {ds : List D} {vs : List V} {env : EnvD} {σ : L2.St} {Q : L2.St → Hp → Prop}, is.length = ds.length → Reps K F vs ds →
    (∀ σ', (∀ F2 H2, EnvAt K H0 env σ F2 H2 → Same F F2 → EnvAt K H0 (sets is ds env) σ' F2 H2) → (∀ ws : List Nat, (∀ i ∈ is, i ∈ ws) → L2.wipe σ' ws = L2.wipe σ ws) → Q σ' H) → gNames is vs σ H Q
  | [], [], _, env, σ, Q, _, r, k => by cases r; exact ⟨rfl, k σ (fun _ _ e _ => e) fun _ _ => rfl⟩
  | i :: is, d :: ds, _, env, σ, Q, hl, r, k => by
    cases r with
    | cons a b =>
      refine ⟨_, _, rfl, gNames_ok2 (is := is) (ds := ds) (env := env.set i (.val d)) (by simpa using hl) b fun σ' ea' hw => k σ' (fun F2 H2 e s => ea' F2 H2 (e.setV i (a.mono s)) s) fun ws hws => ?_⟩
      rw [hw ws fun j hj => hws j (List.mem_cons_of_mem _ hj), wipe_set (hws i (by simp))]
theorem gPat_ok2 {K : PySem.W.Frag} {H0 F H : Hp} {env : EnvD} {σ : L2.St} {p : Pat} {d : D} {v : V} {env' : EnvD} {Q : L2.St → Hp → Prop} (fh : Same F H) (r : Rep K F v d) (hb : bindP p d env = some env')
    (k : ∀ σ', (∀ F2 H2, EnvAt K H0 env σ F2 H2 → Same F F2 → EnvAt K H0 env' σ' F2 H2) → (∀ ws : List Nat, (∀ i ∈ p.ix, i ∈ ws) → L2.wipe σ' ws = L2.wipe σ ws) → Q σ' H) : gPat K p v σ H Q := by
  cases p with
  | nm i =>
    cases hb
    exact k _ (fun F2 H2 e s => e.setV i (r.mono s)) fun ws hws => wipe_set (hws i (by simp [Pat.ix]))
  | tp is =>
    cases r with
    | tup h1 h2 h3 =>
      rename_i ds
      have hb : (if ds.length = is.length then some (sets is ds env) else none) = some env' := hb
      by_cases hl : ds.length = is.length
      · rw [if_pos hl] at hb
        cases hb
        exact ⟨_, _, rfl, SqT.of (fh _ _ h1), by rw [h3.length]; exact hl, gNames_ok2 hl.symm h3 k⟩
      · rw [if_neg hl] at hb; cases hb
    | _ => cases hb
section
variable {X : Cx} {cls : Exc → Addr} {W : WX} {e a b c tg : Expr} {pos : Pos}
theorem lc2_read {bb : Bool} {p p1 : Pat} {vs vs1 : List Nat} {t t1 : EnvD → R Bool} {f : EnvD → R D} {src src1 : EnvD → R (List D)} {K : PySem.W.Frag} {σ : L2.St} {H : Hp} {Q : VK} (hp : ∀ i ∈ p.ix, i ∈ vs) (hp1 : ∀ i ∈ p1.ix, i ∈ vs1)
    (h : tG K cls W (pN K) (lc2F p vs t src1 p1 vs1 t1 f src) σ H Q) : tLc2 (tG K cls W (pI K bb) src) (gPat K p) (tG K cls W0 pT t) (tG K cls W0 (pI K false) src1) (gPat K p1) (tG K cls W0 pT t1) (tG K cls W0 (pV K) f) vs vs1 σ H Q := by
  obtain ⟨H0, F, env, ea, g⟩ := h
  refine ⟨H0, F, env, ea, (Go.bind g).imp fun J H1 ⟨F1, ds, _, e1, ⟨hz, wk⟩, g1⟩ => fun Da nD => ?_⟩
  have ea1 := ea.mono e1
  obtain ⟨T, hT, hsm, gT⟩ : ∃ T, lc2L p vs t src1 p1 vs1 t1 f ds env = .ok T ∧ small T.length = true ∧ Go cls (pN K) W σ F1 H1 (.ok T) Q := by
    cases q : lc2L p vs t src1 p1 vs1 t1 f ds env with
    | ok T =>
      rw [q] at g1
      by_cases z : small T.length = true
      · exact ⟨T, rfl, z, by simpa [z] using g1⟩
      · simp only [z] at g1; exact g1.elim
    | err c => rw [q] at g1; exact g1.elim
    | bad => rw [q] at g1; exact g1.elim
  have hTs := small_ok hsm
  refine ⟨fun i m H2 => m = ds.length - i ∧ i ≤ ds.length ∧ ∃ F2 acc es T2, Ext F1 H1 F2 H2 ∧ F2 Da = none ∧ H2 Da = some (.lst acc) ∧ Reps K F2 acc es ∧ lc2L p vs t src1 p1 vs1 t1 f (ds.drop i) env = .ok T2 ∧ T = es ++ T2,
    ⟨ds.length, by simp, Nat.zero_le _, F1, [], [], T, Ext.newH e1.i nD, e1.i.free nD, upd_same, .nil, hT, rfl⟩, ?_⟩
  rintro i m H2 ⟨rfl, hi, F2, acc, es, T2, x2, fD, hD, ra, tot, eT⟩
  have w := wk F2 H2 x2.f x2.i fun _ => x2.h
  by_cases hlt : i < ds.length
  · obtain ⟨d, hd, hdr⟩ := drop_of hlt
    rw [hdr] at tot
    obtain ⟨env1, k, qb, qt, alt⟩ := lc2L_inv tot
    obtain ⟨go, yl⟩ := w.1 i d hd
    refine .inr ⟨go, fun H3 => ∃ F3 acc es T2, Ext F1 H1 F3 H3 ∧ F3 Da = none ∧ H3 Da = some (.lst acc) ∧ Reps K F3 acc es ∧ lc2L p vs t src1 p1 vs1 t1 f (ds.drop (i + 1)) env = .ok T2 ∧ T = es ++ T2, ?_, fun v H3 y => ?_⟩
    · rintro H3 ⟨F3, acc3, es3, T3, h⟩
      exact ⟨ds.length - (i + 1), by omega, rfl, hlt, F3, acc3, es3, T3, h⟩
    · obtain ⟨F3, e3, r3⟩ := yl v H3 y
      have x3 := x2.trans e3
      refine gPat_ok2 (H0 := H0) x3.i r3 qb fun σ4 ea0 hw => ?_
      have ea4 := ea0 F3 H3 ((ea1.mono x3).wipe vs) (Same.refl F3)
      refine ⟨by rw [hw vs hp, wipe_idem], H0, F3, env1, ea4, ?_⟩
      rw [qt]
      intro kk F5 H5 e5 pk
      cases pk
      have x5 := x3.trans e5
      have d5 : F5 Da = none := e5.keep (e3.h _ _ hD) rfl (e3.keep hD rfl fD)
      have hD5 : H5 Da = some (.lst acc) := e5.h _ _ (e3.h _ _ hD)
      have ra5 := ra.mono (e3.f.trans e5.f)
      rcases alt with ⟨rfl, tot2⟩ | ⟨rfl, ds1, ys, T3, qs, ql, tot2, eT2⟩
      · exact ⟨F5, acc, es, T2, x5, d5, hD5, ra5, tot2, eT⟩
      · refine ⟨H0, F5, env1, ea4.mono e5, ?_⟩
        rw [qs]
        rintro J1 F6 H6 e6 ⟨hz1, wk1⟩
        have ea6 := (ea4.mono e5).mono e6
        have x6 := x5.trans e6
        have d6 : F6 Da = none := e6.keep hD5 rfl d5
        have hD6 : H6 Da = some (.lst acc) := e6.h _ _ hD5
        have ra6 := ra5.mono e6.f
        refine ⟨fun j m1 H7 => m1 = ds1.length - j ∧ j ≤ ds1.length ∧ ∃ F7 acc7 es7 ys7, Ext F1 H1 F7 H7 ∧ Same F6 F7 ∧ F7 Da = none ∧ H7 Da = some (.lst acc7) ∧ Reps K F7 acc7 es7 ∧ lcL p1 vs1 t1 f (ds1.drop j) env1 = .ok ys7 ∧ T = es7 ++ ys7 ++ T3,
          ⟨ds1.length, by simp, Nat.zero_le _, F6, acc, es, ys, x6, Same.refl F6, d6, hD6, ra6, ql, by rw [eT, eT2, List.append_assoc]⟩, ?_⟩
        rintro j m1 H7 ⟨rfl, hj, F7, acc7, es7, ys7, x7, s7, d7, hD7, ra7, tot7, eT7⟩
        have w1 := wk1 F7 H7 s7 x7.i fun z => nomatch z
        by_cases hlt1 : j < ds1.length
        · obtain ⟨d1, hd1, hdr1⟩ := drop_of hlt1
          rw [hdr1] at tot7
          obtain ⟨env2, k2, qb1, qt1, alt1⟩ := lcL_inv tot7
          obtain ⟨go1, yl1⟩ := w1.1 j d1 hd1
          refine .inr ⟨go1, fun H8 => ∃ F8 acc8 es8 ys8, Ext F1 H1 F8 H8 ∧ Same F6 F8 ∧ F8 Da = none ∧ H8 Da = some (.lst acc8) ∧ Reps K F8 acc8 es8 ∧ lcL p1 vs1 t1 f (ds1.drop (j + 1)) env1 = .ok ys8 ∧ T = es8 ++ ys8 ++ T3, ?_, fun v1 H8 y1 => ?_⟩
          · rintro H8 ⟨F8, acc8, es8, ys8, h⟩
            exact ⟨ds1.length - (j + 1), by omega, rfl, hlt1, F8, acc8, es8, ys8, h⟩
          · obtain ⟨F8, e8, r8⟩ := yl1 v1 H8 y1
            have x8 := x7.trans e8
            have s8 : Same F6 F8 := s7.trans e8.f
            have ea8 := ea0 F8 H8 ((ea1.mono x8).wipe vs) ((e5.f.trans e6.f).trans s8)
            refine gPat_ok (ea8.wipe vs1) r8 qb1 fun σ5 ea9 hw1 => ⟨by rw [hw1 vs1 hp1, wipe_idem], H0, F8, env2, ea9, ?_⟩
            rw [qt1]
            intro kk F9 H9 e9 pk
            cases pk
            have x9 := x8.trans e9
            have s9 : Same F6 F9 := s8.trans e9.f
            have d9 : F9 Da = none := e9.keep (e8.h _ _ hD7) rfl (e8.keep hD7 rfl d7)
            have hD9 : H9 Da = some (.lst acc7) := e9.h _ _ (e8.h _ _ hD7)
            have ra9 := ra7.mono (e8.f.trans e9.f)
            rcases alt1 with ⟨rfl, tot8⟩ | ⟨rfl, yd, ys8, qf, eys, tot8⟩
            · exact ⟨F9, acc7, es7, ys7, x9, s9, d9, hD9, ra9, tot8, eT7⟩
            · refine ⟨H0, F9, env2, ea9.mono e9, ?_⟩
              rw [qf]
              intro yv F10 H10 e10 ry
              have hD10 := e10.h _ _ hD9
              have d10 := e10.keep hD9 rfl d9
              subst eys
              have hlen : es7.length < T.length := by rw [eT7]; simp
              refine ⟨acc7, hD10, by rw [ra7.length]; omega, F10, acc7 ++ [yv], es7 ++ [yd], ys8, lcTurn (K := K) (es := es7) nD (x9.trans e10) d10 yv, s9.trans e10.f, d10, upd_same, (ra9.mono e10.f).snoc ry, tot8, by rw [eT7]; simp⟩
        · have e : j = ds1.length := by omega
          subst e
          rw [List.drop_length] at tot7
          cases tot7
          refine .inl ⟨w1.2, F7, acc7, es7, T3, x7, d7, hD7, ra7, tot2, by rw [eT7]; simp⟩
  · have e : i = ds.length := by omega
    subst e
    rw [List.drop_length] at tot
    cases tot
    rw [List.append_nil] at eT
    subst eT
    exact .inl ⟨w.2, gT _ F2 H2 x2 ⟨Da, acc, rfl, nD, fD, hD, by rw [ra.length]; exact hTs, ra⟩⟩

theorem pd_lc2 {bb : Bool} {elt iter tg1 iter1 : Expr} {ifs ifs1 : List Expr} {scope : Scope} {own : List (Str × Nat)} {vs1 : List Nat} {p p1 : Pat} {t t1 : EnvD → R Bool} {f : EnvD → R D} {src src1 : EnvD → R (List D)} (hc : X.calm = true) (hN : X.N.Nodup) (hi : PDI X cls W bb tg iter src) (ok : BlkOk X.N X.env.scope scope own)
    (hv : (vs1.all fun i => (own.map (·.2)).contains i) = true)
    (hg : ∀ (s : Shared) (H : Hp) (C : Addr) (cl : List (Str × Addr)) (fp : List Addr), PG (X.blk s H scope (compEnvC scope cl C X.env) fp) tg (gPat X.K p))
    (ht : ∀ (s : Shared) (H : Hp) (C : Addr) (cl : List (Str × Addr)) (fp : List Addr), PTs (X.blk s H scope (compEnvC scope cl C X.env) fp) ifs (tG X.K cls W0 pT t))
    (hi1 : ∀ (s : Shared) (H : Hp) (C : Addr) (cl : List (Str × Addr)) (fp : List Addr), PI (X.blk s H scope (compEnvC scope cl C X.env) fp) tg1 iter1 (tG X.K cls W0 (pI X.K false) src1))
    (hg1 : ∀ (s : Shared) (H : Hp) (C : Addr) (cl : List (Str × Addr)) (fp : List Addr), PG (X.blk s H scope (compEnvC scope cl C X.env) fp) tg1 (gPat X.K p1))
    (ht1 : ∀ (s : Shared) (H : Hp) (C : Addr) (cl : List (Str × Addr)) (fp : List Addr), PTs (X.blk s H scope (compEnvC scope cl C X.env) fp) ifs1 (tG X.K cls W0 pT t1))
    (he : ∀ (s : Shared) (H : Hp) (C : Addr) (cl : List (Str × Addr)) (fp : List Addr), PE (X.blk s H scope (compEnvC scope cl C X.env) fp) elt (tG X.K cls W0 (pV X.K) f))
    (hp : (p.ix.all fun i => (own.map (·.2)).contains i) = true) (hp1 : (p1.ix.all fun i => vs1.contains i) = true) (hs : ∀ x, foldedSetIterable iter X.env x = pure x := by intro _; rfl) (hs1 : ∀ env x, foldedSetIterable iter1 env x = pure x := by intro _ _; rfl) :
    PDE X cls W (pN X.K) (.ListComp elt [⟨tg, iter, ifs, 0⟩, ⟨tg1, iter1, ifs1, 0⟩] scope pos) (lc2F p (own.map (·.2)) t src1 p1 vs1 t1 f src) :=
  pe_imp (pe_lc2 hc hN hi ok (fun i hi => by simpa using List.all_eq_true.mp hv i hi) hg ht hi1 hg1 ht1 he hs hs1) fun σ H Q h => lc2_read (fun i hi => by simpa using List.all_eq_true.mp hp i hi) (fun i hi => by simpa using List.all_eq_true.mp hp1 i hi) h
theorem pds_setLc2 {bb : Bool} {i : Nat} {y : Str} {py : Pos} {elt iter tg1 iter1 : Expr} {ifs ifs1 : List Expr} {scope : Scope} {own : List (Str × Nat)} {vs1 : List Nat} {p p1 : Pat} {t t1 : EnvD → R Bool} {f : EnvD → R D} {src src1 : EnvD → R (List D)} {spos : Pos} (hc : X.calm = true) (hN : X.N.Nodup)
    (hy : X.N[i]? = some y) (hyl : X.env.scope.names.lookup y = some .local)
    (hsw : swapsWith (.ListComp elt [⟨tg, iter, ifs, 0⟩, ⟨tg1, iter1, ifs1, 0⟩] scope pos) (some (.Name y py)) spos.line X.env = pure true) (hi : PDI X cls W bb tg iter src) (ok : BlkOk X.N X.env.scope scope own)
    (hv : (vs1.all fun i => (own.map (·.2)).contains i) = true)
    (hg : ∀ (s : Shared) (H : Hp) (C : Addr) (cl : List (Str × Addr)) (fp : List Addr), PG (X.blk s H scope (compEnvC scope cl C X.env) fp) tg (gPat X.K p))
    (ht : ∀ (s : Shared) (H : Hp) (C : Addr) (cl : List (Str × Addr)) (fp : List Addr), PTs (X.blk s H scope (compEnvC scope cl C X.env) fp) ifs (tG X.K cls W0 pT t))
    (hi1 : ∀ (s : Shared) (H : Hp) (C : Addr) (cl : List (Str × Addr)) (fp : List Addr), PI (X.blk s H scope (compEnvC scope cl C X.env) fp) tg1 iter1 (tG X.K cls W0 (pI X.K false) src1))
    (hg1 : ∀ (s : Shared) (H : Hp) (C : Addr) (cl : List (Str × Addr)) (fp : List Addr), PG (X.blk s H scope (compEnvC scope cl C X.env) fp) tg1 (gPat X.K p1))
    (ht1 : ∀ (s : Shared) (H : Hp) (C : Addr) (cl : List (Str × Addr)) (fp : List Addr), PTs (X.blk s H scope (compEnvC scope cl C X.env) fp) ifs1 (tG X.K cls W0 pT t1))
    (he : ∀ (s : Shared) (H : Hp) (C : Addr) (cl : List (Str × Addr)) (fp : List Addr), PE (X.blk s H scope (compEnvC scope cl C X.env) fp) elt (tG X.K cls W0 (pV X.K) f))
    (hp : (p.ix.all fun i => (own.map (·.2)).contains i) = true) (hp1 : (p1.ix.all fun i => vs1.contains i) = true) (hs : ∀ x, foldedSetIterable iter X.env x = pure x := by intro _; rfl) (hs1 : ∀ env x, foldedSetIterable iter1 env x = pure x := by intro _ _; rfl) :
    PS X (.Assign [.Name y py] (.ListComp elt [⟨tg, iter, ifs, 0⟩, ⟨tg1, iter1, ifs1, 0⟩] scope pos) spos) (tAsg (tG X.K cls W (pN X.K) (lc2F p (own.map (·.2)) t src1 p1 vs1 t1 f src)) (gName i)) :=
  ps_imp (ps_setLc2 hc hN hy hyl hsw hi ok (fun i hi => by simpa using List.all_eq_true.mp hv i hi) hg ht hi1 hg1 ht1 he hs hs1) fun D σ H h => lc2_read (fun i hi => by simpa using List.all_eq_true.mp hp i hi) (fun i hi => by simpa using List.all_eq_true.mp hp1 i hi) h
end
/-! ### dicts -/
def keyEq1 : D → D → Bool
  | .int i, .int j => decide (i = j)
  | .str x, .str y => decide (x = y)
  | _, _ => false
def keysEq : List D → List D → Bool
  | [], [] => true
  | a :: as, b :: bs => keyEq1 a b && keysEq as bs
  | _, _ => false
def keyEq : D → D → Bool
  | .tup xs, .tup ys => keysEq xs ys
  | a, b => keyEq1 a b
def toKey : D → Option Key
  | .int i => some (.inl i)
  | .str x => some (.inr x)
  | _ => none
def toKeys : List D → Option (List Key)
  | [] => some []
  | d :: ds => match toKey d, toKeys ds with
    | some k, some ks => some (k :: ks)
    | _, _ => none
def isKey (t : Bool) : D → Bool
  | .tup xs => t && (toKeys xs).isSome
  | d => !t && (toKey d).isSome
theorem toKey_eq {d : D} {k : Key} (h : toKey d = some k) : d = kD k := by cases d <;> first | (cases h; rfl) | cases h
theorem toKeys_eq : ∀ {ds : List D} {ks : List Key}, toKeys ds = some ks → ds = ks.map kD
  | [], _, h => by cases h; rfl
  | d :: ds, ks, h => by
    unfold toKeys at h
    split at h
    · rename_i k ks' h1 h2
      cases h
      rw [toKey_eq h1, toKeys_eq h2]; rfl
    · cases h
theorem keyEq1_k (a b : Key) : keyEq1 (kD a) (kD b) = decide (a = b) := by
  cases a <;> cases b <;> simp [keyEq1, kD]
theorem keysEq_k : ∀ (a b : List Key), keysEq (a.map kD) (b.map kD) = decide (a = b)
  | [], [] => by simp [keysEq]
  | [], b :: bs => by simp [keysEq]
  | a :: as, [] => by simp [keysEq]
  | a :: as, b :: bs => by
    simp only [List.map_cons, keysEq, keyEq1_k, keysEq_k as bs]
    by_cases h1 : a = b <;> by_cases h2 : as = bs <;> simp [h1, h2]
theorem keyEq_k (a b : Key) : keyEq (kD a) (kD b) = decide (a = b) := by
  rw [← keyEq1_k]; cases a <;> cases b <;> rfl
theorem keyEq_t (a b : List Key) : keyEq (.tup (a.map kD)) (.tup (b.map kD)) = decide (a = b) := keysEq_k a b
def dPutV : List D → List D → D → D → List D
  | k :: ks, v :: vs, x, y => (if keyEq k x = true then y else v) :: dPutV ks vs x y
  | _, _, _, _ => []
def dPut (ks vs : List D) (x y : D) : List D × List D := if ks.any (fun k => keyEq k x) = true then (ks, dPutV ks vs x y) else (ks ++ [x], vs ++ [y])
def dFind : List D → List D → D → Option D
  | k :: ks, v :: vs, x => if keyEq k x = true then some v else dFind ks vs x
  | _, _, _ => none
section
variable {K : PySem.W.Frag} {F : Hp} {κ : Type} [DecidableEq κ] {φ : κ → D}
theorem putK_reps (hφ : ∀ a b, keyEq (φ a) (φ b) = decide (a = b)) {kvs : List (κ × V)} {vs : List D} {k : κ} {v : V} {d : D} (h : Reps K F (kvs.map (·.2)) vs) (r : Rep K F v d) :
    (putK kvs k v).map (fun p => φ p.1) = (dPut (kvs.map fun p => φ p.1) vs (φ k) d).1 ∧ Reps K F ((putK kvs k v).map (·.2)) (dPut (kvs.map fun p => φ p.1) vs (φ k) d).2 := by
  have any : (kvs.map fun p => φ p.1).any (fun k' => keyEq k' (φ k)) = kvs.any fun kv => decide (kv.1 = k) := by
    rw [List.any_map]
    congr 1
    funext p
    exact hφ _ _
  unfold putK dPut
  rw [any]
  by_cases q : (kvs.any fun kv => decide (kv.1 = k)) = true
  · simp only [q, if_true]
    refine ⟨?_, ?_⟩
    · rw [List.map_map]
      apply List.map_congr_left
      intro p _
      show φ (if p.1 = k then (p.1, v) else p).1 = φ p.1
      split <;> rfl
    · clear q any
      induction kvs generalizing vs with
      | nil => exact .nil
      | cons p ps ih =>
        cases h with
        | cons a b =>
          simp only [List.map_cons, dPutV, hφ]
          refine .cons ?_ (ih b)
          by_cases e : p.1 = k
          · simp [e]; exact r
          · simp [e]; exact a
  · simp only [q]
    refine ⟨by simp, ?_⟩
    simpa using h.snoc r
theorem reps_keys : ∀ {ks : List Key} {xs : List V}, Reps K F xs (ks.map kD) → xs = ks.map kV
  | [], _, h => by cases h; rfl
  | c :: cs, _, h => by
    cases h with
    | cons a b => rw [reps_keys b]; cases c <;> (cases a; rfl)
theorem find_reps (hφ : ∀ a b, keyEq (φ a) (φ b) = decide (a = b)) : ∀ {kvs : List (κ × V)} {vs : List D} {k : κ} {d : D}, Reps K F (kvs.map (·.2)) vs → dFind (kvs.map fun p => φ p.1) vs (φ k) = some d → ∃ v, valV kvs k = some v ∧ Rep K F v d
  | [], vs, k, d, h, e => by simp [dFind] at e
  | p :: ps, _, k, d, h, e => by
    cases h with
    | cons a b =>
      simp only [List.map_cons, dFind, hφ] at e
      by_cases q : p.1 = k
      · simp [q] at e; subst e; exact ⟨_, valV_pos q, a⟩
      · simp [q] at e
        obtain ⟨v, h1, h2⟩ := find_reps hφ b e
        exact ⟨v, by rw [valV_neg q]; exact h1, h2⟩
end
def newK : EnvD → R (Bool × List D × List D) := fun _ => .ok (false, [], [])
def newT : EnvD → R (Bool × List D × List D) := fun _ => .ok (true, [], [])
section
variable {X : Cx} {cls : Exc → Addr} {W : WX} {e a b c tg : Expr} {pos : Pos} {st : Stmt}
theorem pd_newK : PDE X cls W (pM X.K) (.Dict [] [] pos) newK := pe_imp pe_dnewK fun σ H Q ⟨H0, F, env, ea, g⟩ => fun p hp =>
  g _ F _ (Ext.newH ea.fh hp) ⟨p, _, rfl, hp, ea.fh.free hp, upd_same, .k (kvs := []) (vs := []) (Nat.zero_le _) .nil⟩
theorem pd_newT : PDE X cls W (pM X.K) (.Dict [] [] pos) newT := pe_imp pe_dnewT fun σ H Q ⟨H0, F, env, ea, g⟩ => fun p hp =>
  g _ F _ (Ext.newH ea.fh hp) ⟨p, _, rfl, hp, ea.fh.free hp, upd_same, .t (kvs := []) (vs := []) (fun q hq => by cases hq) (Nat.zero_le _) .nil⟩
def dputS (i : Nat) (fk fv : EnvD → R D) : EnvD → Out := fun env => bindS (fv env) env fun v => match env[i]? with
  | some (.ownd t ks vs) => bindS (fk env) env fun k => if isKey t k = true ∧ small (ks.length + 1) = true then .next (env.set i (.ownd t (dPut ks vs k v).1 (dPut ks vs k v).2)) else .bad
  | _ => .bad
theorem pds_dput {i : Nat} {fk fv : EnvD → R D} (h : PS X st (sDPut (tVar i) (tG X.K cls W (pV X.K) fk) (tG X.K cls W (pV X.K) fv))) : PDS X cls W st (dputS i fk fv) := ps_imp h fun D σ H ⟨H0, F0, env, F, x, ea, g⟩ =>
  ⟨H0, F, env, ea, (g.expr x ea).imp fun v H1 ⟨F1, dv, _, e1, rv, g1⟩ => by
    have ea1 := ea.mono e1
    have x1 := x.trans e1
    cases q : env[i]? with
    | none => rw [q] at g1; exact g1.elim
    | some s =>
      rw [q] at g1
      cases s with
      | ownd t ks vs =>
        obtain ⟨p, u, h1, h2, h3, h4, h5⟩ := ea1.at_ i _ q
        refine ⟨.ref p, getD_some h1, H0, F1, env, ea1, (g1.expr x1 ea1).imp fun kv H2 ⟨F2, dk, _, e2, rk, g2⟩ => ?_⟩
        have ea2 := ea1.mono e2
        have x2 := x1.trans e2
        by_cases hz : isKey t dk = true ∧ small (ks.length + 1) = true
        · rw [if_pos hz] at g2
          have hz2 := small_ok hz.2
          have hp2 := e2.h _ _ h4
          have fp2 := e2.keep h4 h5.isMut h3
          have rv2 := Rep.mono rv e2.f
          have h52 := h5.mono e2.f
          clear h5
          have h6 := h52
          cases h52 with
          | @k kvs vs' l r =>
            obtain ⟨k, hk⟩ : ∃ k, dk = kD k ∧ kv = kV k := by
              have z := hz.1
              unfold isKey at z
              cases rk with
              | int i => exact ⟨.inl i, rfl, rfl⟩
              | str x => exact ⟨.inr x, rfl, rfl⟩
              | _ => simp [toKey] at z
            obtain ⟨rfl, rfl⟩ := hk
            have P := putK_reps (φ := kD) keyEq_k (k := k) r rv2
            have hlen : (putK kvs k v).length ≤ sizeLine := by
              have : (putK kvs k v).length ≤ kvs.length + 1 := by unfold putK; split <;> simp
              simp at hz2; omega
            have D2 := DicAt.k (K := X.K) (F := F2) hlen P.2
            rw [P.1] at D2
            refine ⟨p, _, rfl, DPut.k (k := k) hp2 (by simp at hz2; omega), g2 σ F2 _ (mut_ext (o := .dK kvs) x2 h2 fp2) (Same.refl F2) (ea2.mut q rfl h1 ⟨p, _, rfl, h2, fp2, upd_same, D2⟩)⟩
          | @t kvs vs' kl l r =>
            obtain ⟨k, bA, hk, hkv, hb, hkl⟩ : ∃ (k : List Key) (bA : Addr), dk = .tup (k.map kD) ∧ kv = .ref bA ∧ F2 bA = some (.tup (k.map kV)) ∧ k.length ≤ sizeLine := by
              have z := hz.1
              cases rk with
              | @tup bA xs ds y1 y2 y3 =>
                simp [isKey] at z
                obtain ⟨k, hk⟩ := Option.isSome_iff_exists.mp z
                have := toKeys_eq hk
                subst this
                have : xs = k.map kV := reps_keys y3
                subst this
                exact ⟨k, bA, rfl, rfl, y1, by simpa using y2⟩
              | _ => simp [isKey] at z
            subst hk hkv
            have P := putK_reps (φ := fun k : List Key => PD.D.tup (k.map kD)) keyEq_t (k := k) r rv2
            have hlen : (putK kvs k v).length ≤ sizeLine := by
              have : (putK kvs k v).length ≤ kvs.length + 1 := by unfold putK; split <;> simp
              simp at hz2; omega
            have kl2 : ∀ q ∈ putK kvs k v, q.1.length ≤ sizeLine := fun q hq => by
              unfold putK at hq
              split at hq
              · obtain ⟨q', hq', e⟩ := List.mem_map.mp hq
                rw [← e]
                split
                · exact kl q' hq'
                · exact kl q' hq'
              · rcases List.mem_append.mp hq with hq | hq
                · exact kl q hq
                · rw [List.mem_singleton.mp hq]; exact hkl
            have D2 := DicAt.t (K := X.K) (F := F2) kl2 hlen P.2
            rw [P.1] at D2
            refine ⟨p, _, rfl, DPut.t (k := k) hp2 (e2.i _ _ hb) (by simp at hz2; omega), g2 σ F2 _ (mut_ext (o := .dT kvs) x2 h2 fp2) (Same.refl F2) (ea2.mut q rfl h1 ⟨p, _, rfl, h2, fp2, upd_same, D2⟩)⟩
        · rw [if_neg hz] at g2; exact g2.elim
      | no => exact g1.elim
      | val d => exact g1.elim
      | own ds => exact g1.elim⟩
end
end PD

set_option maxHeartbeats 4000000
namespace PD
open PySem PySem.Spec PyProof.Rows L2
/-- the built-ins' names are not set -/
structure Bi (mg : Str → Option Value) : Prop where
  len : mg "len" = none
  all : mg "all" = none
  any : mg "any" = none
  isinstance : mg "isinstance" = none
  tuple : mg "tuple" = none
  list : mg "list" = none
  range : mg "range" = none
  sorted : mg "sorted" = none
  enumerate : mg "enumerate" = none
  max : mg "max" = none
  min : mg "min" = none
  set : mg "set" = none
  dict : mg "dict" = none
  zip : mg "zip" = none
  bool : mg "bool" = none
  int : mg "int" = none
  abs : mg "abs" = none
  sum : mg "sum" = none
  str : mg "str" = none
section
variable {k : Nat} {A : Around}
theorem room0 (h : Room k A) : A.units < cLine := by have := h.un; omega
theorem room1 (h : Room k A) : A.units + 1 < cLine := by have := h.un; omega
theorem room8 (h : Room k A) : A.units + 8 < cLine := by have := h.un; omega
theorem room64 (h : Room k A) : A.units + 64 < cLine := by have := h.un; omega
theorem room65 (h : Room k A) : A.units + 65 < cLine := by have := h.un; omega
end
section
variable {X : Cx} {cls : Exc → Addr} {W : WX} {st : Stmt}
theorem asgNV {i : Nat} {f : EnvD → R (List D)} (h : PS X st (tAsg (tG X.K cls W (pN X.K) f) (gName i))) : PS X st (tAsg (tG X.K cls W (pV X.K) (mkL f)) (gName i)) := ps_imp h fun D σ H ⟨H0, F, env, ea, g⟩ => ⟨H0, F, env, ea, by
  unfold mkL at g
  cases q : f env with
  | ok d =>
    rw [q] at g
    rintro v F' H' x ⟨p, xs, rfl, h1, h2, h3, h4, h5⟩
    exact g _ (upd F' p (.lst xs)) H' (x.frz h1 h3 h2) (.lst upd_same h4 (h5.mono (Same.updN h2)))
  | err c => rw [q] at g; exact g
  | bad => rw [q] at g; exact g⟩
theorem blk_of {X : Cx} {N' : List Str} {sc scope : Scope} {own : List (Str × Nat)} (hN : X.N = N') (hS : X.env.scope = sc) (hk : scope.kind = .function)
    (h : (∀ y ∈ scope.names, scope.names.lookup y.1 = some y.2) ∧ (∀ p ∈ own, N'[p.2]? = some p.1) ∧ (∀ y ∈ scope.names, y.2 = .free → sc.names.lookup y.1 = some .cell ∨ sc.names.lookup y.1 = some .free) ∧ (∀ y ∈ scope.names, y.2 = .local ∨ y.2 = .cell → y.1 ∈ own.map (·.1) ∨ y.1 ∉ N')) : BlkOk X.N X.env.scope scope own := by
  rw [hN, hS]; exact ⟨hk, h.1, h.2.1, h.2.2.1, h.2.2.2⟩
def frzS (i : Nat) (G : EnvD → Out) : EnvD → Out := fun env => G (frzE i env)
end
/-- the end: as L2.walk_ofE, what is let out told by the World -/
theorem walk_ofX {l : PySem.W.OpenLaw} {n k : Nat} {q : Program} {loose : List Str} {XP : (Str → Option Value) → Heap → Prop} {YP : World → Heap → Prop} {d : DefRec} {CX : World → CXT} {x : Str}
    (hn : l.most = some n) (hn2 : n ≤ sizeLine) (hdf : d.params.defaults = []) (hr : Room k callerA)
    (F : ∀ (w : World) (mg : Str → Option Value) (fa : Addr) (h : Heap), YP w h → h.Ns mainGlobals mg → mg d.name = some (.ref fa) →
      ∃ (K : PySem.W.Frag) (fd : FuncData) (sp : Sp), K.In h ∧ (∀ (s : Shared) (u : Value), BindsTo s fd ⟨[u], []⟩ [(x, u)]) ∧
        (∀ (H : Hp) (a : Addr) (ns : List Int), ns.length ≤ n → Only H → SqL K H a (ns.map V.int) → sp [.ref a] H (fun v _ => v = .bl true) fun _ _ _ => False) ∧
        ∀ base : Heap, K.In base → base.Ns mainGlobals mg → FnOk l.prog w K mg base (CX w) k fa fd [x] sp)
    (hCX : ∀ (w : World) (H : Hp) (s : Shared) (e : Value) (s' : Shared), CX w [] H s (fun _ _ _ => False) e s' → False) :
    PySem.W.WalkO q loose XP YP l.row.toRowW d [] (fun f vs => PySem.call f vs) := by
  refine Att.attach_call hn hdf fun w s₀ s₁ mg mb fa o pm cd doc a vs ns G Y ho hd hcd hmg hobj hints hlen hg => ?_
  obtain ⟨K, fd, sp, KX, hb, hsp, hF⟩ := F w mg fa _ Y G.T.g hmg
  exact law_call KX G.T.g G.T.b G.T.builtins G.T.nolimit hg hobj hints (Nat.le_trans hlen hn2) hr hF hb (fun H hO hS => hsp H a ns hlen hO hS) fun H e s' => hCX w H s₁ e s'
/-- the law's promise from its pure function -/
theorem law_sp {K : PySem.W.Frag} {cls : Exc → Addr} {fn : List D → R D} (h : ∀ ns : List Int, ns.length ≤ 63 → fn [.scr ns] = .ok (.bl true)) {H : Hp} {a : Addr} {ns : List Int} (hl : ns.length ≤ 63) (hS : SqL K H a (ns.map V.int)) :
    spD K cls 1 fn [.ref a] H (fun v _ => v = .bl true) fun _ _ _ => False := by
  refine ⟨rfl, H, [.scr ns], Same.refl H, .cons (.scr hS hl) .nil, ?_⟩
  rw [h ns hl]
  intro v F' H' _ r
  cases r; rfl
end PD

set_option maxHeartbeats 4000000
namespace PD
open PySem PySem.Spec PyProof.Rows L2
/-! ### set(xs) of a list of ints -/
section
variable {P : Program} {w : World} {A : Around} {E : Value → Shared → Prop} {s : Shared}
set_option maxHeartbeats 6400000 in
theorem call_set_listI {l : Addr} {items : Array Value} (ns : List Int) {Q : Value → Shared → Prop} (hh : A.handled = none) (hl : s.heap.IsList l items) (hit : IntsAre items.toList ns) (hb : ns.length + 1 < scanBound)
    (h : ∀ (h' : Heap) (tk c : Nat), SetR w h' s.heap.objs.size (fun j => decide (j ∈ ns)) c → c ≤ ns.length → (∀ b o, s.heap.get? b = some o → h'.get? b = some o) → Q (.ref s.heap.objs.size) { s with heap := h', toks := tk }) :
    wpAny (model P w) A (call (.type "set") [.ref l]) Q E s := by
  have hisz : items.size = ns.length := by
    have q := IntsAre.length hit
    rw [Array.length_toList] at q
    exact q
  obtain ⟨c, tl, hmro⟩ := F.called_set.mro
  have hmade := F.called_set.made
  have hsub := F.called_set.sub
  refine wpAny_call (codeAny_of_tree ?_)
  show wpAny _ _ (callAny (.type "set") _) _ _ _
  refine wpAny_pure ⟨Code.quiet_builtin _ (by decide +kernel), codeAny_builtin F.entry_type_call ?_⟩
  rw [Around.under_plain (weight_type_call_type "set" [.ref l] []) rfl]
  have h1 := F.called_set.notType
  have h2 := F.called_set.canCreate
  have hct := F.typeCall_set_1 (.ref l)
  repeat (any_goals (first | assumption | wp_step))

  refine codeAny_mono (code_set_led1 (.ref l) (E := E) (Q₁ := fun obj s₁ => obj = .ref s.heap.objs.size ∧ s₁ = { s with heap := s.heap.push { cls := .type "set", dict := none, data := .set #[] 0 (.fresh 0 0 (!w.params.followText "set-order")) } }) ⟨rfl, rfl⟩) fun r s₁ hr => ?_
  cases r with
  | error e => exact hr
  | ok fl =>
    cases fl with
    | ret obj =>
      obtain ⟨rfl, rfl⟩ := hr
      have hS : (s.heap.push { cls := .type "set", dict := none, data := .set #[] 0 (.fresh 0 0 (!w.params.followText "set-order")) }).get? s.heap.objs.size = some { cls := .type "set", dict := none, data := .set #[] 0 (.fresh 0 0 (!w.params.followText "set-order")) } := Heap.get?_push_size _ rfl
      have hT : Shared.TypeIs { s with heap := s.heap.push { cls := .type "set", dict := none, data := .set #[] 0 (.fresh 0 0 (!w.params.followText "set-order")) } } (.ref s.heap.objs.size) "set" := ⟨_, hS, rfl⟩
      have hli := F.called_set.init.lookup
      have hbi := F.called_set.init.bind (.ref s.heap.objs.size)
      repeat (any_goals (first | assumption | wp_step))

      refine codeAny_mono (codeAny_call_builtin (R := wants (fun r s₂ => r = .none ∧ ∃ h' tk c, s₂ = { s with heap := h', toks := tk } ∧ SetR w h' s.heap.objs.size (fun j => decide (j ∈ ns)) c ∧ c ≤ ns.length ∧
          (∀ b o, s.heap.get? b = some o → h'.get? b = some o)) E) F.called_set.init.plain F.entry_set_init (check_set_init_1 hT ?_)) fun r₂ s₂ hr₂ => ?_
      · obtain ⟨ol, hol, hcl, nl, hdl⟩ := hl
        obtain ⟨ocls, odict, odata, oslots⟩ := ol
        simp only at hcl hdl
        subst hcl; subst hdl
        have hol' : (s.heap.push { cls := .type "set", dict := none, data := .set #[] 0 (.fresh 0 0 (!w.params.followText "set-order")) }).get? l = some { cls := .type "list", dict := odict, data := .seq items nl, slots := oslots } := Heap.get?_push_of_some _ hol
        have hsls := F.sub_list_set
        have hslf := F.sub_list_frozenset
        have hne : (Value.type "list" == Value.type "dict") = false := by decide
        have hl1 : (s.heap.push { cls := .type "set", dict := none, data := .set #[] 0 (.fresh 0 0 (!w.params.followText "set-order")) }).IsList l items := ⟨_, hol', rfl, nl, rfl⟩
        unfold Builtin.«set.__init__» noKeywords Builtin.Frozenset.updateFrom
        generalize hPI : pyIter = PI
        wp_walk
        subst hPI

        refine wpAny_pyIter_list hl1 ?_
        refine wpAny_bind (wpAny_runValue ?_)
        have hlS : l < s.heap.objs.size := Heap.lt_size hol
        have hh3 : A.in1.in1.in1.handled = none := by simp [hh]
        have hz1 : (s.heap.push { cls := .type "set", dict := none, data := .set #[] 0 (.fresh 0 0 (!w.params.followText "set-order")) }).objs.size = s.heap.objs.size + 1 := Heap.size_push ..
        have hneI : l ≠ (s.heap.push { cls := .type "set", dict := none, data := .set #[] 0 (.fresh 0 0 (!w.params.followText "set-order")) }).objs.size := by
          rw [Heap.size_push]; exact Nat.ne_of_lt (Nat.lt_succ_of_lt hlS)
        have hSf : s.heap.objs.size ∉ [(s.heap.push { cls := .type "set", dict := none, data := .set #[] 0 (.fresh 0 0 (!w.params.followText "set-order")) }).objs.size, l] := by
          rw [Heap.size_push]; simp only [List.mem_cons, List.mem_singleton, List.not_mem_nil, or_false, not_or]
          exact ⟨Nat.ne_of_lt (Nat.lt_succ_self _), Nat.ne_of_gt hlS⟩
        have hval : ∀ (i : Nat) (v : Value), items[i]? = some v → ∃ k t, ns[i]? = some k ∧ v = .int k t := fun i v hv => by
          have hi : i < ns.length := by rw [← hisz]; exact (Array.getElem?_eq_some_iff.mp hv).1
          obtain ⟨t, e⟩ := PyProof.Rows.IntsAre.int_at hit i v (by rw [Array.getElem?_toList]; exact hv)
          refine ⟨ns[i], t, List.getElem?_eq_getElem hi, ?_⟩
          rw [e, List.getD_eq_getElem?_getD, List.getElem?_eq_getElem hi] <;> rfl
        refine set_update_ints ((Walks.list hh3 _ l hneI items).toS) s.heap.objs.size
          hSf ns hisz hb hval (items.size - 0) 0 _ (by omega) (Nat.zero_le _)
          ⟨⟨_, Heap.get?_push_size _ rfl, rfl, rfl⟩, (hl1.push _)⟩ ?hS0 ?hR
        case hS0 =>
          have hget : ((s.heap.push { cls := .type "set", dict := none, data := .set #[] 0 (.fresh 0 0 (!w.params.followText "set-order")) }).push { cls := .type "list_iterator", data := .fields #[.ref l, .int 0 0] }).get? s.heap.objs.size
              = some { cls := .type "set", dict := none, data := .set #[] 0 (.fresh 0 0 (!w.params.followText "set-order")) } := Heap.get?_push_of_some _ hS
          exact ⟨0, Nat.le_refl 0, setR_new_at hget⟩
        case hR =>
          intro s' c' hm hc' hS'
          obtain ⟨h', g2, d', tk', os'⟩ := s'
          have eg : g2 = s.gens := hm.gens
          have ed : d' = s.drawn := hm.drawn
          have eo : os' = s.os := hm.os
          subst eg; subst ed; subst eo
          show wpAny _ _ _ _ _ _
          refine wpAny_pure ?_
          show wpAny _ _ (ret Value.none) _ _ _
          rw [hisz] at hc'
          refine wpAny_pure ⟨rfl, h', tk', c', rfl, hS', hc', fun b o e => ?_⟩
          have hb0 : b < s.heap.objs.size := Heap.lt_size e
          have hb1 : b ≠ s.heap.objs.size := Nat.ne_of_lt hb0
          have hb2 : b ≠ (s.heap.push { cls := .type "set", dict := none, data := .set #[] 0 (.fresh 0 0 (!w.params.followText "set-order")) }).objs.size := by
            rw [Heap.size_push]; exact Nat.ne_of_lt (Nat.lt_succ_of_lt hb0)
          exact hm.heap b o (by simp only [List.mem_cons, List.mem_singleton, List.not_mem_nil, or_false, not_or]; exact ⟨hb1, hb2⟩) (Heap.get?_push_of_some _ (Heap.get?_push_of_some _ e))

      · cases r₂ with
        | error e => exact hr₂
        | ok fl₂ =>
          cases fl₂ with
          | ret r =>
            obtain ⟨rfl, h', tk, c', rfl, hS', hc', hk'⟩ := hr₂
            repeat (any_goals (first | assumption | wp_step))
            exact h _ _ _ hS' hc' hk'
          | _ => exact hr₂.elim
    | _ => exact hr.elim

end
theorem ints_vals : ∀ {ns : List Int} {us : List Value}, Vals (ns.map V.int) us → IntsAre us ns
  | [], _, .nil => .nil
  | n :: ns, _, .cons r t => by
    obtain ⟨k, rfl⟩ := r
    exact .cons n k (ints_vals t)
section
variable {X : Cx}
def rSetL (K : PySem.W.Frag) (w : World) : List V → Hp → VK → Prop := fun xs H Q => ∃ (l : Addr) (ns : List Int), xs = [V.ref l] ∧ SqL K H l (ns.map V.int) ∧ ns.length + 1 < scanBound ∧
  ∀ p c, H p = none → c ≤ ns.length → Q (.ref p) (upd H p (SetO w p (fun j => decide (j ∈ ns)) c))
theorem cr_setL (hc : X.calm = true) : CallR X (.type "set") (rSetL X.K X.w) := by
  intro pins s σ H xs us Q I r h
  obtain ⟨l, ns, rfl, hl, hb, q⟩ := h
  rw [Vals.ref1 r]
  obtain ⟨its, rv, pl, hz⟩ := I.list hl
  refine call_set_listI (w := X.w) ns (I.ok.hd hc) pl.isList (by simpa using ints_vals rv) hb fun h' tk c R hc' k => ?_
  exact ⟨.ref s.heap.objs.size, upd H s.heap.objs.size (SetO X.w s.heap.objs.size (fun j => decide (j ∈ ns)) c), I.laid (t' := tk) k (Nat.le_refl _) (setO_new R), rfl, q _ c (I.hok.fresh (Nat.le_refl _)) hc'⟩
end

/-! ### sorted(set(xs)) of ints -/
def insU (x : Int) : List Int → List Int
  | [] => [x]
  | y :: ys => if x < y then x :: y :: ys else if x = y then y :: ys else y :: insU x ys
def sdI : List Int → List Int
  | [] => []
  | x :: xs => insU x (sdI xs)
theorem insU_mem {x z : Int} : ∀ {l : List Int}, z ∈ insU x l ↔ z = x ∨ z ∈ l
  | [] => by simp [insU]
  | y :: ys => by
    unfold insU
    split
    · simp
    · split
      · rename_i h; subst h; simp
      · simp only [List.mem_cons, insU_mem (l := ys)]
        constructor <;> (intro h; rcases h with h | h | h <;> simp [h])
theorem insU_pair {x : Int} : ∀ {l : List Int}, l.Pairwise (· < ·) → (insU x l).Pairwise (· < ·)
  | [], _ => by simp [insU]
  | y :: ys, h => by
    obtain ⟨h1, h2⟩ := List.pairwise_cons.mp h
    unfold insU
    split
    · rename_i q
      exact List.pairwise_cons.mpr ⟨fun z hz => by
        rcases List.mem_cons.mp hz with e | hz
        · omega
        · have := h1 z hz; omega, h⟩
    · split
      · exact h
      · refine List.pairwise_cons.mpr ⟨fun z hz => ?_, insU_pair h2⟩
        rcases insU_mem.mp hz with e | hz
        · omega
        · exact h1 z hz
theorem sdI_mem {z : Int} : ∀ {l : List Int}, z ∈ sdI l ↔ z ∈ l
  | [] => by simp [sdI]
  | x :: xs => by simp only [sdI, insU_mem, sdI_mem (l := xs), List.mem_cons]
theorem sdI_pair : ∀ l : List Int, (sdI l).Pairwise (· < ·)
  | [] => List.Pairwise.nil
  | x :: xs => insU_pair (sdI_pair xs)
theorem sorted_uniq {l m : List Int} (hl : l.Pairwise (· < ·)) (hm : m.Pairwise (· < ·)) (h : ∀ z, z ∈ l ↔ z ∈ m) : l = m := by
  have nl : l.Nodup := List.Pairwise.imp (fun {a b} (h : a < b) (e : a = b) => by omega) hl
  have nm : m.Nodup := List.Pairwise.imp (fun {a b} (h : a < b) (e : a = b) => by omega) hm
  exact List.Perm.eq_of_pairwise (le := (· < ·)) (fun a b _ _ h1 h2 => by omega) hl hm ((List.perm_ext_iff_of_nodup nl nm).mpr h)
theorem insU_len (x : Int) (l : List Int) : (insU x l).length ≤ l.length + 1 := by
  induction l with
  | nil => simp [insU]
  | cons y ys ih => unfold insU; split <;> (try split) <;> simp <;> omega
theorem sdI_len : ∀ l : List Int, (sdI l).length ≤ l.length
  | [] => by simp [sdI]
  | x :: xs => by
    have := insU_len x (sdI xs)
    have := sdI_len xs
    simp only [sdI, List.length_cons]; omega
def sdD : List D → Option (List D)
  | [.lst ds] => match asInts ds with
    | some ns => if ns.length < 64 then some ((sdI ns).map D.int) else none
    | none => none
  | _ => none
section
variable {X : Cx} {cls : Exc → Addr} {W : WX} {a : Expr} {fs : EnvD → R (List D)} {p p2 pos pos2 : Pos}
theorem pd_sortSet (hc : X.calm = true) (hg : Gl X "sorted") (hm : X.mg "sorted" = none) (hg2 : Gl X "set") (hm2 : X.mg "set" = none) (ha : PDA X cls W (pB' X.K) [a] fs)
    (na : starEach [a] X.env = (false, eval a X.env) :: starEach [] X.env := by rfl) (na2 : starEach [.Call (.Name "set" p2) [a] [] pos2] X.env = (false, eval (.Call (.Name "set" p2) [a] [] pos2) X.env) :: starEach [] X.env := by rfl)
    (hpl : (backTo pos2 (starEach [] X.env)).any (·.1) = false := by rfl) (hpl2 : (backTo pos (starEach [] X.env)).any (·.1) = false := by rfl) :
    PDE X cls W (pN X.K) (.Call (.Name "sorted" p) [.Call (.Name "set" p2) [a] [] pos2] [] pos) (appL sdD fs) :=
  pe_imp (pe_callB (cr_sortedSet hc) hg hm boot_sorted (pa_cons (pe_callTy (cr_setL hc) hg2 hm2 boot_set ha (by decide) (by decide) na hpl) pa_nil na2) (by decide) (by decide) na2 hpl2) fun σ H Q ⟨H0, F, env, ea, g⟩ =>
    ⟨H0, F, env, ea, (Go.bind g).imp fun xs H1 ⟨F1, ds, _, e1, p1, g1⟩ => by
      obtain ⟨z, hz, g2⟩ := Go.ofO g1
      unfold sdD at hz
      split at hz
      · rename_i es
        split at hz
        · rename_i ns hns
          split at hz
          · rename_i h64
            cases hz
            rw [asInts_eq hns] at p1
            obtain ⟨v, rfl, r⟩ := repBs1 p1
            obtain ⟨l, ys, rfl, h1, h2, h3⟩ := repB_lst e1.i r
            rw [h3.of_ints] at h1
            refine ⟨l, ns, rfl, SqL.of h1, by unfold scanBound; omega, fun q c hq hc => ⟨q, _, c, rfl, upd_same, by omega, fun ms q2 hp hmem hlen hq2 => ?_⟩⟩
            have em : ms = sdI ns := sorted_uniq hp (sdI_pair ns) fun k => by rw [hmem, sdI_mem]; simp
            subst em
            have x1 : Ext F1 H1 F1 (upd H1 q (SetO X.w q (fun j => decide (j ∈ ns)) c)) := Ext.newH e1.i hq
            have x2 := x1.trans (Ext.newH (o := .lst ((sdI ns).map V.int)) x1.i hq2)
            have n2 : H1 q2 = none := by
              by_cases e : q2 = q
              · subst e; exact hq
              · rw [upd_ne e] at hq2; exact hq2
            exact g2 _ F1 _ x2 ⟨q2, _, rfl, n2, e1.i.free n2, upd_same, by have := sdI_len ns; simp [sizeLine_eq]; omega, .ints⟩
          · cases hz
        · cases hz
      · cases hz⟩
end
end PD

set_option maxHeartbeats 4000000
namespace PD
open PySem PySem.Spec PyProof.Rows L2
/-! ### methods of lists -/
def metL {α : Type} (f : List D → List D → Option α) (fo : EnvD → R D) (fs : EnvD → R (List D)) : EnvD → R α := fun env => (fo env).bind fun x => match x with
  | .lst xs => (fs env).bind fun ds => R.ofO (f xs ds)
  | _ => .bad
def LMet {α : Type} (P : PP V α) (K : PySem.W.Frag) (r : V → List V → Hp → VK → Prop) (f : List D → List D → Option α) : Prop :=
  ∀ F H p xs ds vs es z Q, Same F H → H p = some (.lst xs) → Reps K F xs ds → Reps K F vs es → f ds es = some z → (∀ v F' H', Ext F H F' H' → P.rel H F' H' v z → Q v H') → r (.ref p) vs H Q
section
variable {X : Cx} {cls : Exc → Addr} {W : WX} {o e : Expr} {es : List Expr} {fo : EnvD → R D} {fs : EnvD → R (List D)} {α : Type} {P : PP V α} {f : List D → List D → Option α} {r : V → List V → Hp → VK → Prop} {name : Str} {id : String} {apos cpos : Pos}
theorem pd_metL (slot : Slot "list" name id) (hty : typeOf (.builtin id) = pure (.type "method_descriptor")) (hm : MtR X id r) (hr : LMet P X.K r f) (ho : PDE X cls W (pB X.K) o fo) (ha : PDA X cls W (pA X.K) (e :: es) fs)
    (hbase : attributeBase o name X.env (eval o X.env) = eval o X.env := by rfl)
    (hfew : ((backTo cpos (starEach (e :: es) X.env)).all (fun x => !x.1) && (backToKw cpos (keywordEach [] X.env)).all (fun x => x.1.isSome)
      && decide ((e :: es).length + ([] : List Keyword).length + (if ([] : List Keyword).isEmpty then 0 else 1) < 30)) = true := by rfl)
    (hline : (apos.endLine == cpos.line) = true := by rfl) (hs : starEach (e :: es) X.env = (false, eval e X.env) :: starEach es X.env := by rfl) (hplain : (backTo cpos (starEach es X.env)).any (·.1) = false := by rfl) :
    PDE X cls W P (.Call (.Attribute o name apos) (e :: es) [] cpos) (metL f fo fs) :=
  pe_imp (pe_bm PySem.F.plainAttrs_list slot hty hm ho ha hbase hfew hline hs hplain) fun σ H Q ⟨H0, F, env, ea, g⟩ => ⟨H0, F, env, ea, (Go.bind g).imp fun x H1 ⟨F1, d, _, e1, p1, g1⟩ => by
    cases d with
    | lst ds =>
      obtain ⟨p, xs, rfl, h1, h2, h3⟩ := repB_lst e1.i p1
      have g1 : Go cls P W σ F1 H1 ((fs env).bind fun ds' => R.ofO (f ds ds')) Q := g1
      refine ⟨.inl ⟨rfl, xs, SqL.of h1⟩, H0, F1, env, ea.mono e1, (Go.bind g1).imp fun vs H2 ⟨F2, es', _, e2, p2, g2⟩ => ?_⟩
      obtain ⟨z, hz, g3⟩ := Go.ofO g2
      exact hr F2 H2 p xs ds vs es' z Q e2.i (e2.h _ _ h1) (h3.mono e2.f) p2 hz g3
    | _ => exact g1.elim⟩
end
def cntD : List D → List D → Option D
  | ds, [.int k] => (asInts ds).map fun ns => .int (ns.count k : Nat)
  | _, _ => none
theorem lm_count {K : PySem.W.Frag} : LMet (pV K) K (rCntI K) cntD := fun F H p xs ds vs es z Q i h r r2 hz k => by
  unfold cntD at hz
  split at hz
  · rename_i n
    cases q : asInts ds with
    | none => rw [q] at hz; cases hz
    | some ns =>
      rw [q] at hz; cases hz
      rw [asInts_eq q] at r
      rw [r.of_ints] at h
      cases r2 with
      | cons a b => cases b; cases a; exact ⟨p, ns, n, rfl, rfl, SqL.of h, k _ F H (Ext.refl i) (.int _)⟩
  · cases hz
/-- list.count of flat data -/
def rCntF (K : PySem.W.Frag) : V → List V → Hp → VK → Prop := fun x xs H Q => ∃ (p : Addr) (ys : List V) (y : V), x = .ref p ∧ xs = [y] ∧ SqL K H p ys ∧ flatV y = true ∧ ys.all flatV = true ∧ Q (.int (ys.countP fun z => eqV z y : Nat)) H
theorem count_eqU {x : V} : ∀ {xs : List V} {us : List Value}, Vals xs us → xs.all flatV = true → us.countP (eqU x) = xs.countP fun y => eqV y x
  | _, _, .nil, _ => rfl
  | _, _, .cons r t, f => by
    simp only [List.all_cons, Bool.and_eq_true] at f
    rw [List.countP_cons, List.countP_cons, count_eqU t f.2, eqU_of r f.1]
theorem mt_lcountF {X : Cx} : MtR X "list.count" (rCntF X.K) := by
  intro pins s σ H x xs v us Q I rx rxs h
  obtain ⟨p, ys, y, rfl, rfl, hs, fy, fys, q⟩ := h
  cases rx
  obtain ⟨u, rfl, ru⟩ := rxs.one
  obtain ⟨its, rv, ⟨⟨cls, dd, data, sl⟩, n, ho, hc, hdn, hd⟩, hlen⟩ := I.list hs
  simp only at hc hd
  subst hc hd
  refine call_meets PySem.F.slot_list_count ⟨_, ho, rfl⟩ PySem.F.entry_list_count (PySem.F.args_list_count_2 _ _)
    (SeqAt.list_countAt p its.toArray n dd sl u (eqU y)) ⟨ho, fun w hw => mem_eqAt ru fy rv fys w (by simpa using hw), ?_⟩
  have ec : its.toArray.toList.countP (eqU y) = ys.countP fun z => eqV z y := by simpa using count_eqU rv fys
  refine ⟨.int (ys.countP fun z => eqV z y : Nat), H, I.tok _, ⟨s.toks, ?_⟩, q⟩
  show Value.int ((its.toArray.toList.countP (eqU y) : Nat) : Int) s.toks = Value.int ((ys.countP fun z => eqV z y : Nat) : Int) s.toks
  rw [ec]
def cntF : List D → List D → Option D
  | ds, [d] => if flatD d && ds.all flatD then some (.int (ds.countP fun z => PyData.eqv z.toPy d.toPy : Nat)) else none
  | _, _ => none
theorem count_flat {K : PySem.W.Frag} {F : Hp} {v : V} {d : D} (hv : Rep K F v d) (f : flatD d = true) : ∀ {vs : List V} {ds : List D}, Reps K F vs ds → ds.all flatD = true → (vs.countP fun z => eqV z v) = ds.countP fun y => PyData.eqv y.toPy d.toPy
  | _, [], h, _ => by cases h; rfl
  | _, e :: ds, h, q => by
    cases h with
    | cons a b =>
      simp only [List.all_cons, Bool.and_eq_true] at q
      rw [List.countP_cons, List.countP_cons, count_flat hv f b q.2, (rep_flat a q.1).2 v d hv f]
theorem lm_countF {K : PySem.W.Frag} : LMet (pV K) K (rCntF K) cntF := fun F H p xs ds vs es z Q i h r r2 hz k => by
  unfold cntF at hz
  split at hz
  · rename_i d
    split at hz
    · rename_i fl
      obtain ⟨fd, fds⟩ := Bool.and_eq_true_iff.mp fl
      cases hz
      cases r2 with
      | cons a b =>
        cases b
        refine ⟨p, xs, _, rfl, rfl, SqL.of h, (rep_flat a fd).1, reps_flat r fds, ?_⟩
        rw [count_flat a fd r fds]
        exact k _ F H (Ext.refl i) (.int _)
    · cases hz
  · cases hz
def idxD : List D → List D → Option D
  | ds, [d] => if flatD d && ds.all flatD then (ds.findIdx? fun z => PyData.eqv z.toPy d.toPy).map fun j => .int (j : Nat) else none
  | _, _ => none
theorem lm_index {K : PySem.W.Frag} : LMet (pV K) K (rIndex K) idxD := fun F H p xs ds vs es z Q i h r r2 hz k => by
  unfold idxD at hz
  split at hz
  · rename_i d
    split at hz
    · rename_i fl
      obtain ⟨fd, fds⟩ := Bool.and_eq_true_iff.mp fl
      cases q : ds.findIdx? (fun z => PyData.eqv z.toPy d.toPy) with
      | none => rw [q] at hz; cases hz
      | some j =>
        rw [q] at hz; cases hz
        cases r2 with
        | cons a b =>
          cases b
          rename_i v
          obtain ⟨hj, h1, h2⟩ := List.findIdx?_eq_some_iff_getElem.mp q
          obtain ⟨u, hu, ru⟩ := r.get (i := j) (d := ds[j]) (by simp [hj])
          have fj : flatD ds[j] = true := List.all_eq_true.mp fds _ (List.getElem_mem hj)
          refine ⟨p, xs, v, j, u, rfl, rfl, SqL.of h, (rep_flat a fd).1, reps_flat r fds, hu, ?_, fun m u' hm hu' => ?_, k _ F H (Ext.refl i) (.int _)⟩
          · rw [(rep_flat ru fj).2 v d a fd]; exact h1
          · obtain ⟨d', hd', rd'⟩ := r.getV hu'
            have hml : m < ds.length := (List.getElem?_eq_some_iff.mp hd').1
            have ed : ds[m] = d' := (List.getElem?_eq_some_iff.mp hd').2
            have fm : flatD d' = true := List.all_eq_true.mp fds _ (List.mem_of_getElem? hd')
            rw [(rep_flat rd' fm).2 v d a fd, ← ed]
            have := h2 m hm
            simpa using this
    · cases hz
  · cases hz
/-! ### sum, max, min of a list of ints -/
def maxI : List Int → Int
  | [] => 0
  | [x] => x
  | x :: y :: r => max x (maxI (y :: r))
def minI : List Int → Int
  | [] => 0
  | [x] => x
  | x :: y :: r => min x (minI (y :: r))
theorem maxI_ok : ∀ {l : List Int}, l ≠ [] → maxI l ∈ l ∧ ∀ y ∈ l, y ≤ maxI l
  | [x], _ => by simp [maxI]
  | x :: y :: r, _ => by
    obtain ⟨h1, h2⟩ := maxI_ok (l := y :: r) (by simp)
    refine ⟨?_, fun z hz => ?_⟩
    · show max x (maxI (y :: r)) ∈ _
      by_cases q : x ≤ maxI (y :: r)
      · rw [Int.max_eq_right q]; exact List.mem_cons_of_mem _ h1
      · rw [Int.max_eq_left (by omega)]; exact List.mem_cons_self
    · show z ≤ max x (maxI (y :: r))
      rcases List.mem_cons.mp hz with e | hz
      · omega
      · have := h2 z hz; omega
theorem minI_ok : ∀ {l : List Int}, l ≠ [] → minI l ∈ l ∧ ∀ y ∈ l, minI l ≤ y
  | [x], _ => by simp [minI]
  | x :: y :: r, _ => by
    obtain ⟨h1, h2⟩ := minI_ok (l := y :: r) (by simp)
    refine ⟨?_, fun z hz => ?_⟩
    · show min x (minI (y :: r)) ∈ _
      by_cases q : x ≤ minI (y :: r)
      · rw [Int.min_eq_left q]; exact List.mem_cons_self
      · rw [Int.min_eq_right (by omega)]; exact List.mem_cons_of_mem _ h1
    · show min x (minI (y :: r)) ≤ z
      rcases List.mem_cons.mp hz with e | hz
      · omega
      · have := h2 z hz; omega
def sumD : List D → Option D
  | [.lst ds] => (asInts ds).map fun ns => .int ns.sum
  | _ => none
def maxD : List D → Option D
  | [.lst ds] => match asInts ds with
    | some (n :: ns) => some (.int (maxI (n :: ns)))
    | _ => none
  | _ => none
def minD : List D → Option D
  | [.lst ds] => match asInts ds with
    | some (n :: ns) => some (.int (minI (n :: ns)))
    | _ => none
  | _ => none
section
variable {K : PySem.W.Frag}
theorem cs_sum : CallSem (pV K) K (rSum K) sumD := fun F H xs ds z Q i h hz k => by
  unfold sumD at hz
  split at hz
  · rename_i es
    cases q : asInts es with
    | none => rw [q] at hz; cases hz
    | some ns =>
      rw [q] at hz; cases hz
      rw [asInts_eq q] at h
      obtain ⟨v, rfl, r⟩ := repBs1 h
      obtain ⟨p, ys, rfl, h1, h2, h3⟩ := repB_lst i r
      rw [h3.of_ints] at h1
      exact ⟨p, ns, rfl, SqL.of h1, k _ F H (Ext.refl i) (.int _)⟩
  · cases hz
theorem cs_max : CallSem (pV K) K (rMax K) maxD := fun F H xs ds z Q i h hz k => by
  unfold maxD at hz
  split at hz
  · rename_i es
    split at hz
    · rename_i n ns q
      cases hz
      rw [asInts_eq q] at h
      obtain ⟨v, rfl, r⟩ := repBs1 h
      obtain ⟨p, ys, rfl, h1, h2, h3⟩ := repB_lst i r
      rw [h3.of_ints] at h1
      refine ⟨p, n :: ns, rfl, SqL.of h1, by simp, fun m hm hy => ?_⟩
      obtain ⟨m1, m2⟩ := maxI_ok (l := n :: ns) (by simp)
      have : m = maxI (n :: ns) := by have := hy _ m1; have := m2 m hm; omega
      rw [this]
      exact k _ F H (Ext.refl i) (.int _)
    · cases hz
  · cases hz
theorem cs_min : CallSem (pV K) K (rMin K) minD := fun F H xs ds z Q i h hz k => by
  unfold minD at hz
  split at hz
  · rename_i es
    split at hz
    · rename_i n ns q
      cases hz
      rw [asInts_eq q] at h
      obtain ⟨v, rfl, r⟩ := repBs1 h
      obtain ⟨p, ys, rfl, h1, h2, h3⟩ := repB_lst i r
      rw [h3.of_ints] at h1
      refine ⟨p, n :: ns, rfl, SqL.of h1, by simp, fun m hm hy => ?_⟩
      obtain ⟨m1, m2⟩ := minI_ok (l := n :: ns) (by simp)
      have : m = minI (n :: ns) := by have := hy _ m1; have := m2 m hm; omega
      rw [this]
      exact k _ F H (Ext.refl i) (.int _)
    · cases hz
  · cases hz
end
/-! ### xs[::-1] -/
def revD : D → Option (List D)
  | .lst xs => some xs.reverse
  | _ => none
def revF (fa : EnvD → R D) : EnvD → R (List D) := una revD fa
section
variable {X : Cx} {cls : Exc → Addr} {W : WX} {e : Expr} {fa : EnvD → R D} {pos p1 p2 p3 : Pos} {k : Nat}
theorem pd_revL (ha : PDE X cls W (pB X.K) e fa) : PDE X cls W (pN X.K) (.Subscript e (.Slice none none (some (.UnaryOp .USub (.Constant (.int 1) k p1) p2)) p3) pos) (revF fa) :=
  pe_imp (pe_revL ha) fun σ H Q ⟨H0, F, env, ea, g⟩ => ⟨H0, F, env, ea, (Go.bind g).imp fun x H1 ⟨F1, d, _, e1, r, g1⟩ => by
    obtain ⟨z, hz, g2⟩ := Go.ofO g1
    cases d with
    | lst ds =>
      cases hz
      obtain ⟨p, xs, rfl, h1, h2, h3⟩ := repB_lst e1.i r
      exact ⟨p, xs, rfl, SqL.of h1, fun q hq => g2 _ F1 _ (Ext.newH e1.i hq) ⟨q, _, rfl, hq, e1.i.free hq, upd_same, by simpa using h2, h3.reverse⟩⟩
    | _ => cases hz⟩
end
/-! ### zip -/
def zipL : List D → List D → List D
  | d :: ds, e :: es => .tup [d, e] :: zipL ds es
  | _, _ => []
theorem zipL_len : ∀ ds es : List D, (zipL ds es).length = min ds.length es.length
  | [], es => by simp [zipL]
  | d :: ds, [] => by simp [zipL]
  | d :: ds, e :: es => by simp [zipL, zipL_len ds es, Nat.add_min_add_right]
theorem zipL_get : ∀ (ds es : List D) (i : Nat) (x : D), (zipL ds es)[i]? = some x → ∃ d e, ds[i]? = some d ∧ es[i]? = some e ∧ x = .tup [d, e]
  | [], es, i, x, h => by simp [zipL] at h
  | d :: ds, [], i, x, h => by simp [zipL] at h
  | d :: ds, e :: es, 0, x, h => by simp [zipL] at h; exact ⟨d, e, rfl, rfl, h.symm⟩
  | d :: ds, e :: es, i + 1, x, h => by
    simp only [zipL, List.getElem?_cons_succ] at h
    obtain ⟨d', e', h1, h2, h3⟩ := zipL_get ds es i x h
    exact ⟨d', e', by simpa using h1, by simpa using h2, h3⟩
def zipD : List D → Option (List D)
  | [.lst ds, .lst es] => some (zipL ds es)
  | [.tup ds, .tup es] => some (zipL ds es)
  | _ => none
section
variable {X : Cx} {cls : Exc → Addr} {W : WX} {e e2 : Expr} {fs : EnvD → R (List D)}
theorem pdi_zip {p pos tpos : Pos} {elts : List Expr} {kk : Nat} (hg : Gl X "zip") (hm : X.mg "zip" = none) (ha : PDA X cls W (pA X.K) [e, e2] fs)
    (hs : starEach [e, e2] X.env = (false, eval e X.env) :: starEach [e2] X.env := by rfl) (hpl : (backTo pos (starEach [e2] X.env)).any (·.1) = false := by rfl) :
    PDI X cls W false (.Tuple elts kk tpos) (.Call (.Name "zip" p) [e, e2] [] pos) (appL zipD fs) := pi_imp (RZ.pi_zipA hg hm ha hs hpl) fun σ H Q ⟨H0, F, env, ea, g⟩ =>
  ⟨H0, F, env, ea, (Go.bind g).imp fun vs H1 ⟨F1, ds, _, e1, p1, g1⟩ => by
    obtain ⟨z, hz, g2⟩ := Go.ofO g1
    have fin : ∀ {J : It} {a b : Addr} {xs ys : List V} {ds es : List D} {SQ : Addr → Hp → List V → Prop}, (∀ F2 H2, Same F1 F2 → Same F2 H2 → SQ a H2 xs ∧ SQ b H2 ys) → xs.length ≤ sizeLine → Reps X.K F1 xs ds → Reps X.K F1 ys es → z = zipL ds es →
        (∀ i H2, J.go i H2 ↔ ∃ (xs ys : List V) (x y : V), SQ a H2 xs ∧ SQ b H2 ys ∧ xs[i]? = some x ∧ ys[i]? = some y) →
        (∀ i H2 v H3, J.yld i H2 v H3 → ∃ T x y, v = .ref T ∧ H2 T = none ∧ H3 = upd H2 T (.tup [x, y]) ∧ (∀ xs, SQ a H2 xs → xs[i]? = some x) ∧ ∀ ys, SQ b H2 ys → ys[i]? = some y) →
        (∀ i H2, J.stop i H2 ↔ ∃ xs ys : List V, SQ a H2 xs ∧ SQ b H2 ys ∧ (xs.length ≤ i ∨ ys.length ≤ i)) → WalkD X.K false J F1 H1 z := by
      intro J a b xs ys ds es SQ hsq hl r1 r2 ez y1 y2 y3
      subst ez
      have le : (zipL ds es).length = min xs.length ys.length := by rw [zipL_len, r1.length, r2.length]
      refine ⟨by rw [le]; omega, fun F2 H2 a1 a2 _ => ⟨fun i d hd => ?_, (y3 _ _).mpr ⟨xs, ys, (hsq F2 H2 a1 a2).1, (hsq F2 H2 a1 a2).2, by rw [le]; omega⟩⟩⟩
      obtain ⟨d1, d2, h1, h2, h3⟩ := zipL_get ds es i d hd
      obtain ⟨v1, hv1, rv1⟩ := r1.get h1
      obtain ⟨v2, hv2, rv2⟩ := r2.get h2
      refine ⟨(y1 _ _).mpr ⟨xs, ys, v1, v2, (hsq F2 H2 a1 a2).1, (hsq F2 H2 a1 a2).2, hv1, hv2⟩, fun x H3 y => ?_⟩
      obtain ⟨T, u1, u2, ex, nT, eH, hxs, hys⟩ := y2 _ _ _ _ y
      have q1 := hxs xs (hsq F2 H2 a1 a2).1
      have q2 := hys ys (hsq F2 H2 a1 a2).2
      rw [hv1] at q1; cases q1
      rw [hv2] at q2; cases q2
      subst ex eH h3
      have sm := Same.updN (o := .tup [v1, v2]) (a2.free nT)
      exact ⟨upd F2 T (.tup [v1, v2]), Ext.new a2 nT, .tup upd_same (by show 2 ≤ sizeLine; decide) (.cons ((rv1.mono a1).mono sm) (.cons ((rv2.mono a1).mono sm) .nil))⟩
    unfold zipD at hz
    split at hz
    · cases hz
      cases p1 with
      | cons r1 rr =>
        cases rr with
        | cons r2 rr =>
          cases rr
          cases r1 with
          | @lst a xs _ h1 h2 h3 =>
            cases r2 with
            | @lst b ys _ k1 k2 k3 =>
              exact ⟨a, b, xs, ys, rfl, .inl ⟨SqL.of (e1.i _ _ h1), SqL.of (e1.i _ _ k1), g2 _ F1 H1 (Ext.refl e1.i) (fin (a := a) (b := b) (SQ := fun q H xs => SqL X.K H q xs) (fun F2 H2 a1 a2 => ⟨SqL.of (a2 _ _ (a1 _ _ h1)), SqL.of (a2 _ _ (a1 _ _ k1))⟩) h2 h3 k3 rfl (fun _ _ => Iff.rfl) (fun _ _ _ _ y => y) (fun _ _ => Iff.rfl))⟩⟩
    · cases hz
      cases p1 with
      | cons r1 rr =>
        cases rr with
        | cons r2 rr =>
          cases rr
          cases r1 with
          | @tup a xs _ h1 h2 h3 =>
            cases r2 with
            | @tup b ys _ k1 k2 k3 =>
              exact ⟨a, b, xs, ys, rfl, .inr ⟨SqT.of (e1.i _ _ h1), SqT.of (e1.i _ _ k1), g2 _ F1 H1 (Ext.refl e1.i) (fin (a := a) (b := b) (SQ := fun q H xs => SqT X.K H q xs) (fun F2 H2 a1 a2 => ⟨SqT.of (a2 _ _ (a1 _ _ h1)), SqT.of (a2 _ _ (a1 _ _ k1))⟩) h2 h3 k3 rfl (fun _ _ => Iff.rfl) (fun _ _ _ _ y => y) (fun _ _ => Iff.rfl))⟩⟩
    · cases hz⟩
end
end PD

set_option maxHeartbeats 4000000
namespace PD
open PySem PySem.Spec PyProof.Rows L2
/-! ### dict comprehensions -/
def dcL (p : Pat) (vs : List Nat) (t : EnvD → R Bool) (fk fv : EnvD → R D) : List D → List D × List D → EnvD → R (List D × List D)
  | [], acc, _ => .ok acc
  | d :: r, acc, env => match bindP p d (wipeE env vs) with
    | none => .bad
    | some e => (noErr (t e)).bind fun k => if k = true then (noErr (fk e)).bind fun kd => (noErr (fv e)).bind fun vd => if isKey false kd = true ∧ small (acc.1.length + 1) = true then dcL p vs t fk fv r (dPut acc.1 acc.2 kd vd) env else .bad else dcL p vs t fk fv r acc env
def dcF (p : Pat) (vs : List Nat) (t : EnvD → R Bool) (fk fv : EnvD → R D) (src : EnvD → R (List D)) : EnvD → R (Bool × List D × List D) := fun env => (src env).bind fun ds => match dcL p vs t fk fv ds ([], []) env with
  | .ok a => .ok (false, a.1, a.2)
  | _ => .bad
theorem dcL_inv {p : Pat} {vs : List Nat} {t : EnvD → R Bool} {fk fv : EnvD → R D} {d : D} {r : List D} {acc T : List D × List D} {env : EnvD} (h : dcL p vs t fk fv (d :: r) acc env = .ok T) :
    ∃ e k, bindP p d (wipeE env vs) = some e ∧ t e = .ok k ∧ (k = false ∧ dcL p vs t fk fv r acc env = .ok T ∨ k = true ∧ ∃ kd vd, fk e = .ok kd ∧ fv e = .ok vd ∧ isKey false kd = true ∧ small (acc.1.length + 1) = true ∧ dcL p vs t fk fv r (dPut acc.1 acc.2 kd vd) env = .ok T) := by
  unfold dcL at h
  split at h
  · cases h
  · rename_i e q
    obtain ⟨k, hk, h⟩ := bind_ok h
    have hk := noErr_ok hk
    cases k with
    | false => exact ⟨e, false, q, hk, .inl ⟨rfl, h⟩⟩
    | true =>
      obtain ⟨kd, h1, h⟩ := bind_ok (show (noErr (fk e)).bind _ = .ok T from h)
      obtain ⟨vd, h2, h⟩ := bind_ok h
      split at h
      · rename_i z
        exact ⟨e, true, q, hk, .inr ⟨rfl, kd, vd, noErr_ok h1, noErr_ok h2, z.1, z.2, h⟩⟩
      · cases h
theorem dcTurn {F1 H1 F' H : Hp} {Da : Addr} (nD : H1 Da = none) (x : Ext F1 H1 F' H) (fD : F' Da = none) (o : HO) : Ext F1 H1 F' (upd H Da o) :=
  ⟨x.f, fun a u h => by rw [upd_ne (ne_of_none h nD)]; exact x.h a u h, x.i.into fD, x.n⟩
theorem key_of {K : PySem.W.Frag} {F : Hp} {v : V} {d : D} (r : Rep K F v d) (h : isKey false d = true) : ∃ k, d = kD k ∧ v = kV k := by
  cases r with
  | int i => exact ⟨.inl i, rfl, rfl⟩
  | str x => exact ⟨.inr x, rfl, rfl⟩
  | _ => simp [isKey, toKey] at h
section
variable {cls : Exc → Addr} {W : WX}
theorem dc_read {bb : Bool} {p : Pat} {vs : List Nat} {t : EnvD → R Bool} {fk fv : EnvD → R D} {src : EnvD → R (List D)} {K : PySem.W.Frag} {σ : L2.St} {H : Hp} {Q : VK} (hp : ∀ i ∈ p.ix, i ∈ vs)
    (h : tG K cls W (pM K) (dcF p vs t fk fv src) σ H Q) : tDc (tG K cls W (pI K bb) src) (gPat K p) (tG K cls W0 pT t) (tG K cls W0 (pV K) fk) (tG K cls W0 (pV K) fv) vs σ H Q := by
  obtain ⟨H0, F, env, ea, g⟩ := h
  refine ⟨H0, F, env, ea, (Go.bind g).imp fun J H1 ⟨F1, ds, _, e1, ⟨hz, wk⟩, g1⟩ => fun Da nD => ?_⟩
  have ea1 := ea.mono e1
  obtain ⟨T, hT, gT⟩ : ∃ T, dcL p vs t fk fv ds ([], []) env = .ok T ∧ Go cls (pM K) W σ F1 H1 (.ok (false, T.1, T.2)) Q := by
    cases q : dcL p vs t fk fv ds ([], []) env with
    | ok T => rw [q] at g1; exact ⟨T, rfl, g1⟩
    | err c => rw [q] at g1; exact g1.elim
    | bad => rw [q] at g1; exact g1.elim
  refine ⟨fun i m H2 => m = ds.length - i ∧ i ≤ ds.length ∧ ∃ F2 kvs ws, Ext F1 H1 F2 H2 ∧ F2 Da = none ∧ H2 Da = some (.dK kvs) ∧ kvs.length ≤ sizeLine ∧ Reps K F2 (kvs.map (·.2)) ws ∧ dcL p vs t fk fv (ds.drop i) (kvs.map (fun q => kD q.1), ws) env = .ok T,
    ⟨ds.length, by simp, Nat.zero_le _, F1, [], [], Ext.newH e1.i nD, e1.i.free nD, upd_same, Nat.zero_le _, .nil, hT⟩, ?_⟩
  rintro i m H2 ⟨rfl, hi, F2, kvs, ws, x2, fD, hD, hl, ra, tot⟩
  have w := wk F2 H2 x2.f x2.i fun _ => x2.h
  by_cases hlt : i < ds.length
  · obtain ⟨d, hd, hdr⟩ := drop_of hlt
    rw [hdr] at tot
    obtain ⟨env1, k, qb, qt, alt⟩ := dcL_inv tot
    obtain ⟨go, yl⟩ := w.1 i d hd
    refine .inr ⟨go, fun H3 => ∃ F3 kvs ws, Ext F1 H1 F3 H3 ∧ F3 Da = none ∧ H3 Da = some (.dK kvs) ∧ kvs.length ≤ sizeLine ∧ Reps K F3 (kvs.map (·.2)) ws ∧ dcL p vs t fk fv (ds.drop (i + 1)) (kvs.map (fun q => kD q.1), ws) env = .ok T, ?_, fun v H3 y => ?_⟩
    · rintro H3 ⟨F3, kvs3, ws3, h⟩
      exact ⟨ds.length - (i + 1), by omega, rfl, hlt, F3, kvs3, ws3, h⟩
    · obtain ⟨F3, e3, r3⟩ := yl v H3 y
      have x3 := x2.trans e3
      refine gPat_ok ((ea1.mono x3).wipe vs) r3 qb fun σ4 ea4 hw => ⟨by rw [hw vs hp, wipe_idem], H0, F3, env1, ea4, ?_⟩
      rw [qt]
      intro kk F5 H5 e5 pk
      cases pk
      have x5 := x3.trans e5
      have d5 : F5 Da = none := e5.keep (e3.h _ _ hD) rfl (e3.keep hD rfl fD)
      have hD5 : H5 Da = some (.dK kvs) := e5.h _ _ (e3.h _ _ hD)
      have ra5 := ra.mono (e3.f.trans e5.f)
      rcases alt with ⟨rfl, tot2⟩ | ⟨rfl, kd, vd, qk, qv, ky, sm, tot2⟩
      · exact ⟨F5, kvs, ws, x5, d5, hD5, hl, ra5, tot2⟩
      · refine ⟨H0, F5, env1, ea4.mono e5, ?_⟩
        rw [qk]
        intro kv F6 H6 e6 rk
        refine ⟨H0, F6, env1, (ea4.mono e5).mono e6, ?_⟩
        rw [qv]
        intro vv F7 H7 e7 rv
        obtain ⟨k, rfl, rfl⟩ := key_of rk ky
        have x7 := (x5.trans e6).trans e7
        have d6 := e6.keep hD5 rfl d5
        have hD6 := e6.h _ _ hD5
        have d7 := e7.keep hD6 rfl d6
        have hD7 := e7.h _ _ hD6
        have P := putK_reps (φ := kD) keyEq_k (k := k) (ra5.mono (e6.f.trans e7.f)) rv
        have sm2 := small_ok sm
        simp only [List.length_map] at sm2
        have hlen : (putK kvs k vv).length ≤ sizeLine := by
          have : (putK kvs k vv).length ≤ kvs.length + 1 := by unfold putK; split <;> simp
          omega
        refine ⟨kvs, k, rfl, hD7, by omega, F7, putK kvs k vv, _, dcTurn nD x7 d7 _, d7, upd_same, hlen, P.2, ?_⟩
        rw [P.1]
        exact tot2
  · have e : i = ds.length := by omega
    subst e
    rw [List.drop_length] at tot
    cases tot
    exact .inl ⟨w.2, gT _ F2 H2 x2 ⟨Da, _, rfl, nD, fD, hD, .k hl ra⟩⟩
end
section
variable {X : Cx} {cls : Exc → Addr} {W : WX}
/-- y = {k: v for ..} -/
theorem ps_setDc {i : Nat} {y : Str} {py : Pos} {kx vx tg iter : Expr} {ifs : List Expr} {scope : Scope} {own : List (Str × Nat)} {pos spos : Pos} {wi : TI} {g : TG} {tt : TT} {tk tv : TE} (hc : X.calm = true) (hN : X.N.Nodup) (hy : X.N[i]? = some y) (hyl : X.env.scope.names.lookup y = some .local)
    (hsw : swapsWith (.DictComp kx vx [⟨tg, iter, ifs, 0⟩] scope pos) (some (.Name y py)) spos.line X.env = pure true) (hi : PI X tg iter wi) (ok : BlkOk X.N X.env.scope scope own)
    (hg : ∀ (s : Shared) (H : Hp) (C : Addr) (cl : List (Str × Addr)) (fp : List Addr), PG (X.blk s H scope (compEnvC scope cl C X.env) fp) tg g) (ht : ∀ (s : Shared) (H : Hp) (C : Addr) (cl : List (Str × Addr)) (fp : List Addr), PTs (X.blk s H scope (compEnvC scope cl C X.env) fp) ifs tt)
    (hk : ∀ (s : Shared) (H : Hp) (C : Addr) (cl : List (Str × Addr)) (fp : List Addr), PE (X.blk s H scope (compEnvC scope cl C X.env) fp) kx tk)
    (he : ∀ (s : Shared) (H : Hp) (C : Addr) (cl : List (Str × Addr)) (fp : List Addr), PE (X.blk s H scope (compEnvC scope cl C X.env) fp) vx tv) (hs : ∀ x, foldedSetIterable iter X.env x = pure x := by intro _; rfl) :
    PS X (.Assign [.Name y py] (.DictComp kx vx [⟨tg, iter, ifs, 0⟩] scope pos) spos) (tAsg (tDc wi g tt tk tv (own.map (·.2))) (gName i)) := by
  refine ⟨fun pins s σ H D I h => ?_⟩
  rw [exec_Assign_Name_used _ _ _ _ hsw]
  refine wpAny_bind (wpAny_standAt (wpAny_bind ?_))
  show wpAny _ X.A (do let _ ← comprehension (.DictComp kx vx [⟨tg, iter, ifs, 0⟩] scope pos) scope X.env (firstIterPos [⟨tg, iter, ifs, 0⟩] pos) newDict false (eval iter X.env) (some (assign (.Name y py) X.env))) _ _ s
  have h : tDc wi g tt tk tv (own.map (·.2)) σ H (fun x H1 => gName i x σ H1 D.nx) := h
  refine wpAny_bind (thn (dc_core (Qf := fun _ s' => SP X pins D .next s') hc hN I hi ok hg ht hk he hs h fun L C s' m H' I' q hn f => ?_) fun _ s' hq => wpAny_pure (wpAny_pure hq))
  show wpAny _ _ (assign (.Name y py) X.env (.ref L)) _ _ _
  refine wpAny_assign_Name (store_ok2 (v := V.ref L) I' hN hy (.inl hyl) rfl (fun s2 I2 ⟨a, sb, ha⟩ => ?_) (.inr hyl))
  obtain ⟨f0, f1, f2, f3, f4, f5⟩ := f
  have haC : C ≠ a := by
    rcases ha with z | z
    · rw [z]; exact f1
    · exact fun e => f4 y a z e.symm
  refine ⟨m, hn.sameBut sb haC, fun h3 sb3 => ?_⟩
  exact ⟨_, H', I2.turned (t' := s2.toks) (fun b o hb e => (sb3.2 b hb).trans e) f0 f1 f3 f4 f5, q⟩
theorem pds_setDc {bb : Bool} {i : Nat} {y : Str} {py : Pos} {kx vx tg iter : Expr} {ifs : List Expr} {scope : Scope} {own : List (Str × Nat)} {p : Pat} {t : EnvD → R Bool} {fk fv : EnvD → R D} {src : EnvD → R (List D)} {pos spos : Pos} (hc : X.calm = true) (hN : X.N.Nodup)
    (hy : X.N[i]? = some y) (hyl : X.env.scope.names.lookup y = some .local)
    (hsw : swapsWith (.DictComp kx vx [⟨tg, iter, ifs, 0⟩] scope pos) (some (.Name y py)) spos.line X.env = pure true) (hi : PDI X cls W bb tg iter src) (ok : BlkOk X.N X.env.scope scope own)
    (hg : ∀ (s : Shared) (H : Hp) (C : Addr) (cl : List (Str × Addr)) (fp : List Addr), PG (X.blk s H scope (compEnvC scope cl C X.env) fp) tg (gPat X.K p))
    (ht : ∀ (s : Shared) (H : Hp) (C : Addr) (cl : List (Str × Addr)) (fp : List Addr), PTs (X.blk s H scope (compEnvC scope cl C X.env) fp) ifs (tG X.K cls W0 pT t))
    (hk : ∀ (s : Shared) (H : Hp) (C : Addr) (cl : List (Str × Addr)) (fp : List Addr), PE (X.blk s H scope (compEnvC scope cl C X.env) fp) kx (tG X.K cls W0 (pV X.K) fk))
    (he : ∀ (s : Shared) (H : Hp) (C : Addr) (cl : List (Str × Addr)) (fp : List Addr), PE (X.blk s H scope (compEnvC scope cl C X.env) fp) vx (tG X.K cls W0 (pV X.K) fv))
    (hp : (p.ix.all fun i => (own.map (·.2)).contains i) = true) (hs : ∀ x, foldedSetIterable iter X.env x = pure x := by intro _; rfl) :
    PS X (.Assign [.Name y py] (.DictComp kx vx [⟨tg, iter, ifs, 0⟩] scope pos) spos) (tAsg (tG X.K cls W (pM X.K) (dcF p (own.map (·.2)) t fk fv src)) (gName i)) :=
  ps_imp (ps_setDc hc hN hy hyl hsw hi ok hg ht hk he hs) fun D σ H h => dc_read (fun i hi => by simpa using List.all_eq_true.mp hp i hi) h
end
/-! ### a comprehension over the keys of an owned dict -/
theorem EnvAt.lockD {K : PySem.W.Frag} {H0 F H : Hp} {env : EnvD} {σ : L2.St} (h : EnvAt K H0 env σ F H) {i : Nat} {t : Bool} {ks vs : List D} {p : Addr} (q : env[i]? = some (.ownd t ks vs)) (e : σ.getD i none = some (.ref p)) (o : HO) :
    EnvAt K H0 (env.set i .no) σ F (upd H p o) := by
  have hp := h.ownAt q rfl e
  have hi : i < env.length := (List.getElem?_eq_some_iff.mp q).1
  refine ⟨h.fh.into hp.2.1, by simp [h.len], fun j s z => ?_, fun j k a b p' hjk ha hb oa ob pj pk => ?_⟩
  · by_cases ej : i = j
    · subst ej
      rw [List.getElem?_set_self hi] at z
      cases z
      trivial
    · rw [List.getElem?_set_ne ej] at z
      have y := h.at_ j s z
      cases s with
      | no => trivial
      | val d => exact y
      | own ds =>
        obtain ⟨p', xs, h1, h2, h3, h4, h5, h6⟩ := y
        have npp : p' ≠ p := fun w => by subst w; exact h.ap j i _ _ p' (Ne.symm ej) z q rfl rfl h1 e
        exact ⟨p', xs, h1, h2, h3, by rw [upd_ne npp]; exact h4, h5, h6⟩
      | ownd _ ks vs =>
        obtain ⟨p', v, h1, h2, h3, h4, h5⟩ := y
        have npp : p' ≠ p := fun w => by subst w; exact h.ap j i _ _ p' (Ne.symm ej) z q rfl rfl h1 e
        exact ⟨p', v, h1, h2, h3, by rw [upd_ne npp]; exact h4, h5⟩
  · have nj : i ≠ j := fun w => by subst w; rw [List.getElem?_set_self hi] at ha; cases ha; cases oa
    have nk : i ≠ k := fun w => by subst w; rw [List.getElem?_set_self hi] at hb; cases hb; cases ob
    rw [List.getElem?_set_ne nj] at ha
    rw [List.getElem?_set_ne nk] at hb
    exact h.ap j k a b p' hjk ha hb oa ob pj pk
def lcKF (i : Nat) (p : Pat) (vs : List Nat) (t : EnvD → R Bool) (f : EnvD → R D) : EnvD → R (List D) := fun env => match env[i]? with
  | some (.ownd _ ks _) => noErr (lcL p vs t f ks (env.set i .no))
  | _ => .bad
section
variable {X : Cx} {cls : Exc → Addr} {W : WX}
theorem pd_lcK {i : Nat} {x : Str} {px : Pos} {elt tg : Expr} {ifs : List Expr} {scope : Scope} {own : List (Str × Nat)} {p : Pat} {t : EnvD → R Bool} {f : EnvD → R D} {pos : Pos} (hc : X.calm = true) (hN : X.N.Nodup) (hv : PE X (.Name x px) (tVar i)) (ok : BlkOk X.N X.env.scope scope own)
    (hg : ∀ (s : Shared) (H : Hp) (C : Addr) (cl : List (Str × Addr)) (fp : List Addr), PG (X.blk s H scope (compEnvC scope cl C X.env) fp) tg (gPat X.K p))
    (ht : ∀ (s : Shared) (H : Hp) (C : Addr) (cl : List (Str × Addr)) (fp : List Addr), PTs (X.blk s H scope (compEnvC scope cl C X.env) fp) ifs (tG X.K cls W0 pT t))
    (he : ∀ (s : Shared) (H : Hp) (C : Addr) (cl : List (Str × Addr)) (fp : List Addr), PE (X.blk s H scope (compEnvC scope cl C X.env) fp) elt (tG X.K cls W0 (pV X.K) f))
    (hp : (p.ix.all fun i => (own.map (·.2)).contains i) = true) (hs : ∀ z, foldedSetIterable (.Name x px) X.env z = pure z := by intro _; rfl) :
    PDE X cls W (pN X.K) (.ListComp elt [⟨tg, .Name x px, ifs, 0⟩] scope pos) (lcKF i p (own.map (·.2)) t f) :=
  pe_imp (pe_lock (pe_lc hc hN (pi_keys hv) ok hg ht he hs)) fun σ H Q ⟨H0, F, env, ea, g⟩ => by
    unfold lcKF at g
    cases q : env[i]? with
    | none => rw [q] at g; exact g.elim
    | some s =>
      rw [q] at g
      cases s with
      | no => exact g.elim
      | val d => exact g.elim
      | own ds => exact g.elim
      | ownd tt ks vs =>
        obtain ⟨d, u, h1, h2, h3, h4, h5⟩ := ea.at_ i _ q
        refine ⟨d, u, h4, by cases h5 <;> trivial, fun od => ?_⟩
        have eaL := ea.lockD q h1 (.frz od u)
        have dL : upd H d (.frz od u) d = some (.frz od u) := upd_same
        have g0 : Go cls (pN X.K) W σ F H (noErr (lcL p (own.map (·.2)) t f ks (env.set i .no))) Q := g
        have gL : Go cls (pN X.K) W σ F (upd H d (.frz od u)) (lcF p (own.map (·.2)) t f (fun _ => .ok ks) (env.set i .no)) (fun v H' => H' d = some (.frz od u) ∧ Q v (upd H' d u)) := by
          show Go cls (pN X.K) W σ F (upd H d (.frz od u)) (lcL p (own.map (·.2)) t f ks (env.set i .no)) _
          cases r : lcL p (own.map (·.2)) t f ks (env.set i .no) with
          | ok T =>
            rw [r] at g0
            rintro v F' H' x ⟨a, xs, ev, n1, n2, n3, n4, n5⟩
            have hd := x.h _ _ dL
            have fd : F' d = none := x.keep dL rfl h3
            have nad : a ≠ d := fun e => by rw [e, dL] at n1; cases n1
            refine ⟨hd, g0 v F' _ ⟨x.f, fun b o hb => ?_, x.i.into fd, fun b o hb m hn => ?_⟩ ⟨a, xs, ev, by rw [upd_ne nad] at n1; exact n1, n2, by rw [upd_ne nad]; exact n3, n4, n5⟩⟩
            · by_cases e : b = d
              · subst e; rw [upd_same]; rw [h4] at hb; exact hb
              · rw [upd_ne e]; exact x.h b o (by rw [upd_ne e]; exact hb)
            · by_cases e : b = d
              · subst e; exact absurd fd hn
              · exact x.n b o (by rw [upd_ne e]; exact hb) m hn
          | err c => rw [r] at g0; exact g0.elim
          | bad => rw [r] at g0; exact g0.elim
        have red := lc_read (bb := true) (K := X.K) (fun i hi => by simpa using List.all_eq_true.mp hp i hi) (⟨H0, F, env.set i .no, eaL, gL⟩ : tG X.K cls W (pN X.K) (lcF p (own.map (·.2)) t f (fun _ => .ok ks)) σ (upd H d (.frz od u)) _)
        obtain ⟨H0', F', env', ea', gg⟩ := red
        refine ⟨.ref d, getD_some h1, d, od, rfl, ?_⟩
        cases h5 with
        | @k kvs ws l r =>
          refine .inl ⟨kvs, dL, gg (Itk d od kvs) F' _ (Ext.refl ea'.fh) ⟨by simpa using l, fun F1 H1 a1 a2 a3 => ⟨fun j x hx => ?_, a3 rfl _ _ dL, by simp⟩⟩⟩
          have hj : j < kvs.length := by have := (List.getElem?_eq_some_iff.mp hx).1; simpa using this
          refine ⟨⟨a3 rfl _ _ dL, hj⟩, fun y H2 ⟨e1, k, v, e2, e3⟩ => ⟨F1, by rw [e1]; exact Ext.refl a2, ?_⟩⟩
          rw [List.getElem?_map, e2] at hx
          cases hx
          rw [e3]
          exact kD_rep k
        | @t kvs ws kl l r =>
          refine .inr ⟨kvs, dL, gg (Itkt d od kvs) F' _ (Ext.refl ea'.fh) ⟨by simpa using l, fun F1 H1 a1 a2 a3 => ⟨fun j x hx => ?_, a3 rfl _ _ dL, by simp⟩⟩⟩
          have hj : j < kvs.length := by have := (List.getElem?_eq_some_iff.mp hx).1; simpa using this
          refine ⟨⟨a3 rfl _ _ dL, hj⟩, fun y H2 ⟨e1, k, v, qa, e2, e3, e4⟩ => ?_⟩
          rw [List.getElem?_map, e2] at hx
          cases hx
          subst e3 e1
          exact ⟨tupsF F1 H2, tupsF_ext a2, .tup (tupsF_at e4) (by rw [List.length_map]; exact kl _ (List.mem_of_getElem? e2)) (kDs_rep k)⟩
end
end PD

set_option maxHeartbeats 4000000
namespace PD
open PySem PySem.Spec PyProof.Rows L2
/-! ### evaluation of pure functions -/
theorem nr {α : Sort _} {a b : α} (h : a = b) : a = b := h
section
variable {α β γ : Type}
@[simp] theorem e_bind (a : α) (f : α → R β) : (R.ok a).bind f = f a := nr rfl
@[simp] theorem e_bindE (c : Exc) (f : α → R β) : (R.err c : R α).bind f = .err c := nr rfl
@[simp] theorem e_map (a : α) (f : α → β) : (R.ok a).map f = .ok (f a) := nr rfl
@[simp] theorem e_mapE (c : Exc) (f : α → β) : (R.err c : R α).map f = .err c := nr rfl
@[simp] theorem e_some (a : α) : R.ofO (some a) = .ok a := nr rfl
@[simp] theorem e_bindS (a : α) (env : EnvD) (k : α → Out) : bindS (.ok a) env k = k a := nr rfl
@[simp] theorem e_bindSE (c : Exc) (env : EnvD) (k : α → Out) : bindS (R.err c : R α) env k = .err c env := nr rfl
@[simp] theorem e_bind_ite {p : Prop} [Decidable p] (a b : R α) (f : α → R β) : (if p then a else b).bind f = if p then a.bind f else b.bind f := by split <;> rfl
@[simp] theorem e_map_ite {p : Prop} [Decidable p] (a b : R α) (f : α → β) : (if p then a else b).map f = if p then a.map f else b.map f := by split <;> rfl
@[simp] theorem e_bindS_ite {p : Prop} [Decidable p] (a b : R α) (env : EnvD) (k : α → Out) : bindS (if p then a else b) env k = if p then bindS a env k else bindS b env k := by split <;> rfl
@[simp] theorem e_ofO_ite {p : Prop} [Decidable p] (a b : Option α) : R.ofO (if p then a else b) = if p then R.ofO a else R.ofO b := by split <;> rfl
@[simp] theorem e_and (b c : Bool) : (if b = true then R.ok c else R.ok false) = R.ok (b && c) := by cases b <;> rfl
@[simp] theorem e_or (b c : Bool) : (if b = true then R.ok true else R.ok c) = R.ok (b || c) := by cases b <;> rfl
@[simp] theorem e_andD (b c : Bool) : (if b = true then R.ok (D.bl c) else R.ok (D.bl false)) = R.ok (.bl (b && c)) := by cases b <;> rfl
@[simp] theorem e_orD (b c : Bool) : (if b = true then R.ok (D.bl true) else R.ok (D.bl c)) = R.ok (.bl (b || c)) := by cases b <;> rfl
end
@[simp] theorem e_getV0 (d : D) (r : EnvD) : getV 0 (.val d :: r) = .ok d := nr rfl
@[simp] theorem e_getVs (i : Nat) (s : Sl) (r : EnvD) : getV (i + 1) (s :: r) = getV i r := nr rfl
@[simp] theorem e_getB0 (d : D) (r : EnvD) : getB 0 (.val d :: r) = .ok d := nr rfl
@[simp] theorem e_getB0o (d : List D) (r : EnvD) : getB 0 (.own d :: r) = .ok (.lst d) := nr rfl
@[simp] theorem e_getB0d (t : Bool) (k v : List D) (r : EnvD) : getB 0 (.ownd t k v :: r) = .ok (.dic k v) := nr rfl
@[simp] theorem e_getBs (i : Nat) (s : Sl) (r : EnvD) : getB (i + 1) (s :: r) = getB i r := nr rfl
/-- statements -/
def outSeq (o : Out) (k : EnvD → Out) : Out := match o with
  | .next e => k e
  | .ret d => .ret d
  | .err c e => .err c e
  | .brk e => .brk e
  | .cont e => .cont e
  | .bad => .bad
@[simp] theorem e_seq (G1 G2 : EnvD → Out) (env : EnvD) : seqS G1 G2 env = outSeq (G1 env) G2 := nr rfl
@[simp] theorem e_seqN (e : EnvD) (k : EnvD → Out) : outSeq (.next e) k = k e := nr rfl
@[simp] theorem e_seqR (d : D) (k : EnvD → Out) : outSeq (.ret d) k = .ret d := nr rfl
@[simp] theorem e_seqE (c : Exc) (e : EnvD) (k : EnvD → Out) : outSeq (.err c e) k = .err c e := nr rfl
@[simp] theorem e_seq_ite {p : Prop} [Decidable p] (a b : Out) (k : EnvD → Out) : outSeq (if p then a else b) k = if p then outSeq a k else outSeq b k := by split <;> rfl
@[simp] theorem e_run_ite {p : Prop} [Decidable p] (a b : Out) : runO (if p then a else b) = if p then runO a else runO b := by split <;> rfl
@[simp] theorem e_runR (d : D) : runO (.ret d) = .ok d := nr rfl
@[simp] theorem e_runN (e : EnvD) : runO (.next e) = .ok .non := nr rfl
@[simp] theorem e_runE (c : Exc) (e : EnvD) : runO (.err c e) = .err c := nr rfl
@[simp] theorem e_set0 (s : Sl) (a : Sl) (r : EnvD) : (a :: r).set 0 s = s :: r := nr rfl
@[simp] theorem e_setS (i : Nat) (s : Sl) (a : Sl) (r : EnvD) : (a :: r).set (i + 1) s = a :: r.set i s := nr rfl
@[simp] theorem e_fn (N n : Nat) (G : EnvD → Out) (ds : List D) : fnD N n G ds = if ds.length = n then runO (G (ds.map Sl.val ++ List.replicate (N - n) Sl.no)) else .bad := nr rfl
@[simp] theorem e_bindN (i : Nat) (d : D) (e : EnvD) : bindP (.nm i) d e = some (e.set i (.val d)) := nr rfl
@[simp] theorem e_bindT (is : List Nat) (ds : List D) (e : EnvD) : bindP (.tp is) (.tup ds) e = if ds.length = is.length then some (sets is ds e) else none := nr rfl
@[simp] theorem e_sets0 (e : EnvD) (ds : List D) : sets [] ds e = e := by cases ds <;> rfl
@[simp] theorem e_setsS (i : Nat) (is : List Nat) (d : D) (ds : List D) (e : EnvD) : sets (i :: is) (d :: ds) e = sets is ds (e.set i (.val d)) := nr rfl
@[simp] theorem e_wipe0 (e : EnvD) : wipeE e [] = e := nr rfl
@[simp] theorem e_wipeS (e : EnvD) (v : Nat) (vs : List Nat) : wipeE e (v :: vs) = (wipeE e vs).set v .no := nr rfl
theorem e_frz (i : Nat) (env : EnvD) {ds : List D} (h : env[i]? = some (.own ds)) : frzE i env = env.set i (.val (.lst ds)) := by unfold frzE; rw [h]
/-! unfolding -/
section
variable {α β γ : Type} {fa : EnvD → R D} {fb fc : EnvD → R D} {ta tb : EnvD → R Bool} {env : EnvD}
@[simp] theorem u_cst (d : D) : cst d env = .ok d := nr rfl
@[simp] theorem u_bin (f : α → β → Option γ) (fa : EnvD → R α) (fb : EnvD → R β) : bin f fa fb env = (fa env).bind fun x => (fb env).bind fun y => R.ofO (f x y) := nr rfl
@[simp] theorem u_una (f : α → Option γ) (fa : EnvD → R α) : una f fa env = (fa env).bind fun x => R.ofO (f x) := nr rfl
@[simp] theorem u_cons (fs : EnvD → R (List D)) : consF fa fs env = (fa env).bind fun d => (fs env).map (d :: ·) := nr rfl
@[simp] theorem u_nil : nilF env = .ok [] := nr rfl
@[simp] theorem u_call (fn : List D → R D) (fs : EnvD → R (List D)) : callF fn fs env = (fs env).bind fn := nr rfl
@[simp] theorem u_appL (f : List D → Option α) (fs : EnvD → R (List D)) : appL f fs env = (fs env).bind fun ds => R.ofO (f ds) := nr rfl
@[simp] theorem u_tup (fs : EnvD → R (List D)) : tupF fs env = (fs env).bind fun ds => if small ds.length = true then .ok (.tup ds) else .bad := nr rfl
@[simp] theorem u_lst (fs : EnvD → R (List D)) : lstF fs env = (fs env).bind fun ds => if small ds.length = true then .ok ds else .bad := nr rfl
@[simp] theorem u_mkL (f : EnvD → R (List D)) : mkL f env = (f env).map D.lst := nr rfl
@[simp] theorem u_asV : asV ta env = (ta env).map D.bl := nr rfl
@[simp] theorem u_tst : tst fa env = (fa env).bind fun x => R.ofO (asB x) := nr rfl
@[simp] theorem u_andF : andF ta tb env = (ta env).bind fun k => if k = true then tb env else .ok false := nr rfl
@[simp] theorem u_orF : orF ta tb env = (ta env).bind fun k => if k = true then .ok true else tb env := nr rfl
@[simp] theorem u_notF : notF ta env = (ta env).map (!·) := nr rfl
@[simp] theorem u_andV : andV fa fb env = (tst fa env).bind fun k => if k = true then fb env else .ok (.bl false) := nr rfl
@[simp] theorem u_orV : orV fa fb env = (tst fa env).bind fun k => if k = true then .ok (.bl true) else fb env := nr rfl
@[simp] theorem u_notV : notV fa env = (tst fa env).map fun k => .bl (!k) := nr rfl
@[simp] theorem u_ifF (t : EnvD → R Bool) (fa fb : EnvD → R α) : ifF t fa fb env = (t env).bind fun k => if k = true then fa env else fb env := nr rfl
@[simp] theorem u_chain (f : α → β → Option Bool) (f' : β → γ → Option Bool) (fa : EnvD → R α) (fb : EnvD → R β) (fc : EnvD → R γ) :
    chain f f' fa fb fc env = (fa env).bind fun x => (fb env).bind fun y => (R.ofO (f x y)).bind fun k => if k = true then (fc env).bind fun z => R.ofO (f' y z) else .ok false := nr rfl
@[simp] theorem u_ret : retS fa env = bindS (fa env) env fun d => .ret d := nr rfl
@[simp] theorem u_set (i : Nat) : setS i fa env = bindS (fa env) env fun d => .next (env.set i (.val d)) := nr rfl
@[simp] theorem u_setO (i : Nat) (f : EnvD → R (List D)) : setO i f env = bindS (f env) env fun d => .next (env.set i (.own d)) := nr rfl
@[simp] theorem u_setM (i : Nat) (f : EnvD → R (Bool × List D × List D)) : setM i f env = bindS (f env) env fun d => .next (env.set i (.ownd d.1 d.2.1 d.2.2)) := nr rfl
@[simp] theorem u_drop (f : EnvD → R α) : dropS f env = bindS (f env) env fun _ => .next env := nr rfl
@[simp] theorem u_if (t : EnvD → R Bool) (G1 G2 : EnvD → Out) : ifS t G1 G2 env = bindS (t env) env fun k => if k = true then G1 env else G2 env := nr rfl
@[simp] theorem u_skip : skipS env = .next env := nr rfl
@[simp] theorem u_raise (c : Exc) : raiseS c env = .err c env := nr rfl
@[simp] theorem u_par (i j : Nat) (fa fb : EnvD → R Sl) : setPar i j fa fb env = bindS (fa env) env fun s => bindS (fb env) env fun t => .next ((env.set i s).set j t) := nr rfl
@[simp] theorem u_slV : slV fa env = (fa env).map Sl.val := nr rfl
@[simp] theorem u_slN (f : EnvD → R (List D)) : slN f env = (f env).map Sl.own := nr rfl
@[simp] theorem u_seqF : seqF fa env = (fa env).bind fun x => R.ofO (asSeq x) := nr rfl
@[simp] theorem u_lst' (xs : List D) : asSeq (.lst xs) = some xs := nr rfl
@[simp] theorem u_tup' (xs : List D) : asSeq (.tup xs) = some xs := nr rfl
@[simp] theorem u_asB (b : Bool) : asB (.bl b) = some b := nr rfl
@[simp] theorem u_toD (b : Bool) : toD (some b) = some (.bl b) := nr rfl
@[simp] theorem u_int2 (f : Int → Int → Option D) (i j : Int) : int2 f (.int i) (.int j) = f i j := nr rfl
@[simp] theorem u_cmpI (f : Int → Int → Bool) (i j : Int) : cmpI f (.int i) (.int j) = some (f i j) := nr rfl
@[simp] theorem u_neg (i : Int) : negD (.int i) = some (.int (-i)) := nr rfl
@[simp] theorem u_addI (i j : Int) : addD (.int i) (.int j) = some (.int (i + j)) := nr rfl
@[simp] theorem u_sub (i j : Int) : subD (.int i) (.int j) = some (.int (i - j)) := nr rfl
theorem u_mod (i j : Int) (h : 0 < j) : modD (.int i) (.int j) = some (.int (i % j)) := by unfold modD; simp [h]
theorem u_fdiv (i j : Int) (h : 0 < j) (h2 : j < 1000000000000000000000) : fdivD (.int i) (.int j) = some (.int (i / j)) := by unfold fdivD; simp [h, h2]
theorem u_mulR (i j : Int) (h : -18446744073709551616 < j) (h2 : j < 18446744073709551616) : mulD (.int i) (.int j) = some (.int (i * j)) := by
  show mulI (.int i) (.int j) = _
  unfold mulI; simp [h, h2]
theorem u_mulL (i j : Int) (h : -18446744073709551616 < i) (h2 : i < 18446744073709551616) : mulD (.int i) (.int j) = some (.int (i * j)) := by
  show mulI (.int i) (.int j) = _
  unfold mulI; simp [h, h2]
@[simp] theorem u_max (i j : Int) : max2D [.int i, .int j] = some (.int (max i j)) := by
  show some (D.int (if j > i then j else i)) = _
  congr 2; omega
@[simp] theorem u_min (i j : Int) : min2D [.int i, .int j] = some (.int (min i j)) := by
  show some (D.int (if j < i then j else i)) = _
  congr 2; omega
@[simp] theorem u_len1 (xs : List D) : lenD [.lst xs] = some (.int xs.length) := nr rfl
@[simp] theorem u_len2 (xs : List D) : lenD [.tup xs] = some (.int xs.length) := nr rfl
@[simp] theorem u_len3 (xs : List Int) : lenD [.scr xs] = some (.int xs.length) := nr rfl
@[simp] theorem u_tuple1 (xs : List D) : tupleD [.lst xs] = some (.tup xs) := nr rfl
@[simp] theorem u_tuple2 (xs : List D) : tupleD [.tup xs] = some (.tup xs) := nr rfl
@[simp] theorem u_list1 (xs : List D) : listD [.lst xs] = some xs := nr rfl
@[simp] theorem u_list2 (xs : List D) : listD [.tup xs] = some xs := nr rfl
@[simp] theorem u_isN (d : D) : isNoneD d .non = if noRaw d = true then some (isNon d) else none := by cases d <;> rfl
@[simp] theorem u_notN (d : D) : notNoneD d .non = if noRaw d = true then some (!isNon d) else none := by cases d <;> rfl
@[simp] theorem u_isB (a b : Bool) : isBD (.bl a) (.bl b) = some (decide (a = b)) := nr rfl
@[simp] theorem u_notB (a b : Bool) : notBD (.bl a) (.bl b) = some (!decide (a = b)) := nr rfl
@[simp] theorem u_isInt (i : Int) : isIntD (.int i) = some true := nr rfl
@[simp] theorem u_isBool (i : Int) : isBoolD (.int i) = some false := nr rfl
@[simp] theorem u_isTup (xs : List D) : isTupD (.tup xs) = some true := nr rfl
@[simp] theorem u_isTupL (xs : List D) : isTupD (.lst xs) = some false := nr rfl
@[simp] theorem u_nr0 : noRaw .non = true := nr rfl
@[simp] theorem u_nr1 (i : Int) : noRaw (.int i) = true := nr rfl
@[simp] theorem u_nr2 (xs : List D) : noRaw (.tup xs) = true := nr rfl
@[simp] theorem u_nr3 (xs : List D) : noRaw (.lst xs) = true := nr rfl
@[simp] theorem u_in0 : isNon .non = true := nr rfl
@[simp] theorem u_in1 (i : Int) : isNon (.int i) = false := nr rfl
@[simp] theorem u_in2 (xs : List D) : isNon (.tup xs) = false := nr rfl
@[simp] theorem u_in3 (xs : List D) : isNon (.lst xs) = false := nr rfl
@[simp] theorem u_slice (fl fh : EnvD → R (Option Int)) : sliceF fa fl fh env = (fa env).bind fun x => (fl env).bind fun lo => (fh env).bind fun hi => R.ofO (cutF x lo hi) := nr rfl
@[simp] theorem u_noO : noO env = .ok none := nr rfl
@[simp] theorem u_someO : someO fa env = (fa env).bind fun d => R.ofO (asO d) := nr rfl
@[simp] theorem u_asO (i : Int) : asO (.int i) = some (some i) := nr rfl
@[simp] theorem u_rngL1 (fa : EnvD → R D) (env : EnvD) : rngL1 fa env = (fa env).bind fun d => R.ofO (asRng1 [d]) := nr rfl
@[simp] theorem small_le {n : Nat} (h : n ≤ 16777216) : small n = true := by unfold small; exact decide_eq_true h
@[simp] theorem small_0 : small 0 = true := nr rfl
@[simp] theorem small_1 : small 1 = true := nr rfl
@[simp] theorem small_2 : small 2 = true := nr rfl
@[simp] theorem small_3 : small 3 = true := nr rfl
@[simp] theorem small_4 : small 4 = true := nr rfl
end
/-! subscripts -/
theorem ix_nat {xs : List D} {i : Nat} {d : D} (h : xs[i]? = some d) : ixD (.tup xs) (.int (i : Nat)) = some d ∧ ixD (.lst xs) (.int (i : Nat)) = some d := by
  have : atI xs (i : Int) = some d := by
    have hl := (List.getElem?_eq_some_iff.mp h).1
    unfold atI ixN
    rw [if_pos (by omega)]
    rw [Int.toNat_natCast, if_pos (by omega)]
    exact h
  exact ⟨this, this⟩
@[simp] theorem ix_0 (d : D) (r : List D) : ixD (.tup (d :: r)) (.int 0) = some d := (ix_nat (i := 0) rfl).1
@[simp] theorem ix_1 (a d : D) (r : List D) : ixD (.tup (a :: d :: r)) (.int 1) = some d := (ix_nat (i := 1) rfl).1
@[simp] theorem ix_2 (a b d : D) (r : List D) : ixD (.tup (a :: b :: d :: r)) (.int 2) = some d := (ix_nat (i := 2) rfl).1
@[simp] theorem ix_3 (a b c d : D) (r : List D) : ixD (.tup (a :: b :: c :: d :: r)) (.int 3) = some d := (ix_nat (i := 3) rfl).1
end PD

set_option maxHeartbeats 4000000
namespace PD
open PySem PySem.Spec PyProof.Rows L2
/-! ### equality of plain data -/
mutual
def plD : Nat → D → Bool
  | _, .non => true
  | _, .int _ => true
  | _, .str x => PyData.strOk x
  | n + 1, .tup xs => plDs n xs
  | n + 1, .lst xs => plDs n xs
  | _, _ => false
def plDs : Nat → List D → Bool
  | _, [] => true
  | n, x :: xs => plD n x && plDs n xs
end
mutual
theorem pl_lay : ∀ (n : Nat) (d : D), plD n d = true → d.toPy.canLay0 = true ∧ d.toPy.depth ≤ n
  | n, .non, _ => by simp [D.toPy, PyData.canLay0, PyData.depth]
  | n, .int _, _ => by simp [D.toPy, PyData.canLay0, PyData.depth]
  | n, .str x, h => by
    have h : PyData.strOk x = true := by cases n <;> exact h
    simp [D.toPy, PyData.canLay0, PyData.depth, h]
  | 0, .tup xs, h => by simp [plD] at h
  | n + 1, .tup xs, h => by
    have := pl_lays n xs (by simpa [plD] using h)
    simp [D.toPy, PyData.canLay0, PyData.depth, this]
  | 0, .lst xs, h => by simp [plD] at h
  | n + 1, .lst xs, h => by
    have := pl_lays n xs (by simpa [plD] using h)
    simp [D.toPy, PyData.canLay0, PyData.depth, this]
  | n, .bl _, h => by cases n <;> simp [plD] at h
  | n, .scr _, h => by cases n <;> simp [plD] at h
  | n, .dic _ _, h => by cases n <;> simp [plD] at h
  | n, .raw _, h => by cases n <;> simp [plD] at h
theorem pl_lays : ∀ (n : Nat) (ds : List D), plDs n ds = true → PyData.canLayAll0 (toPys ds) = true ∧ PyData.depthAll (toPys ds) ≤ n
  | n, [], _ => by simp [toPys, PyData.canLayAll0, PyData.depthAll]
  | n, d :: ds, h => by
    simp only [plDs, Bool.and_eq_true] at h
    have h1 := pl_lay n d h.1
    have h2 := pl_lays n ds h.2
    simp only [toPys, PyData.canLayAll0, PyData.depthAll, h1.1, h2.1, Bool.and_self, true_and]
    omega
end
mutual
theorem pl_eqv : ∀ (n m : Nat) (d e : D), plD n d = true → plD m e = true → (PyData.eqv d.toPy e.toPy = true ↔ d = e)
  | n, m, .non, e, _, h => by
    cases e <;> first | (cases m <;> simp [plD] at h; done) | simp [D.toPy, PyData.eqv]
  | n, m, .int i, e, _, h => by
    cases e <;> first | (cases m <;> simp [plD] at h; done) | simp [D.toPy, PyData.eqv]
  | n, m, .str x, e, _, h => by
    cases e <;> first | (cases m <;> simp [plD] at h; done) | simp [D.toPy, PyData.eqv]
  | 0, m, .tup xs, e, h, _ => by simp [plD] at h
  | n + 1, m, .tup xs, e, h', h => by
    cases e with
    | tup ys =>
      cases m with
      | zero => simp [plD] at h
      | succ m =>
        simp only [plD] at h h'
        simp only [D.toPy, PyData.eqv, D.tup.injEq]
        exact pl_eqvs n m xs ys h' h
    | _ => first | (cases m <;> simp [plD] at h; done) | simp [D.toPy, PyData.eqv]
  | 0, m, .lst xs, e, h, _ => by simp [plD] at h
  | n + 1, m, .lst xs, e, h', h => by
    cases e with
    | lst ys =>
      cases m with
      | zero => simp [plD] at h
      | succ m =>
        simp only [plD] at h h'
        simp only [D.toPy, PyData.eqv, D.lst.injEq]
        exact pl_eqvs n m xs ys h' h
    | _ => first | (cases m <;> simp [plD] at h; done) | simp [D.toPy, PyData.eqv]
  | n, m, .bl _, e, h, _ => by cases n <;> simp [plD] at h
  | n, m, .scr _, e, h, _ => by cases n <;> simp [plD] at h
  | n, m, .dic _ _, e, h, _ => by cases n <;> simp [plD] at h
  | n, m, .raw _, e, h, _ => by cases n <;> simp [plD] at h
theorem pl_eqvs : ∀ (n m : Nat) (ds es : List D), plDs n ds = true → plDs m es = true → (PyData.eqvAll (toPys ds) (toPys es) = true ↔ ds = es)
  | n, m, [], [], _, _ => by simp [toPys, PyData.eqvAll]
  | n, m, [], e :: es, _, _ => by simp [toPys, PyData.eqvAll]
  | n, m, d :: ds, [], _, _ => by simp [toPys, PyData.eqvAll]
  | n, m, d :: ds, e :: es, h, h' => by
    simp only [plDs, Bool.and_eq_true] at h h'
    simp only [toPys, PyData.eqvAll, Bool.and_eq_true, pl_eqv n m d e h.1 h'.1, pl_eqvs n m ds es h.2 h'.2, List.cons.injEq]
end
theorem shaped_pl {d : D} (h : plD 64 d = true) : SeqAt.shaped d.toPy = true := by
  have := pl_lay 64 d h
  unfold SeqAt.shaped
  simp [this]
theorem eqD_of {d e : D} {p : Prop} [Decidable p] (hd : plD 64 d = true) (he : plD 64 e = true) (h : d = e ↔ p) : eqD d e = some (decide p) := by
  unfold eqD
  rw [shaped_pl hd, shaped_pl he]
  simp only [Bool.and_self, if_true]
  congr 1
  rw [Bool.eq_iff_iff, decide_eq_true_eq, pl_eqv 64 64 d e hd he]
  exact h
theorem neD_of {d e : D} {p : Prop} [Decidable p] (hd : plD 64 d = true) (he : plD 64 e = true) (h : d = e ↔ p) : neD d e = some (!decide p) := by
  unfold neD; rw [eqD_of hd he h]; rfl
mutual
theorem pl_mono : ∀ (n : Nat) (d : D), plD n d = true → plD (n + 1) d = true
  | n, .non, _ => by simp [plD]
  | n, .int _, _ => by simp [plD]
  | n, .str x, h => by
    have h : PyData.strOk x = true := by cases n <;> exact h
    simp [plD, h]
  | 0, .tup xs, h => by simp [plD] at h
  | n + 1, .tup xs, h => by simp only [plD] at h ⊢; exact pl_monos n xs h
  | 0, .lst xs, h => by simp [plD] at h
  | n + 1, .lst xs, h => by simp only [plD] at h ⊢; exact pl_monos n xs h
  | n, .bl _, h => by cases n <;> simp [plD] at h
  | n, .scr _, h => by cases n <;> simp [plD] at h
  | n, .dic _ _, h => by cases n <;> simp [plD] at h
  | n, .raw _, h => by cases n <;> simp [plD] at h
theorem pl_monos : ∀ (n : Nat) (ds : List D), plDs n ds = true → plDs (n + 1) ds = true
  | n, [], _ => by simp [plDs]
  | n, d :: ds, h => by
    simp only [plDs, Bool.and_eq_true] at h ⊢
    exact ⟨pl_mono n d h.1, pl_monos n ds h.2⟩
end
theorem pl_up {n m : Nat} {d : D} (h : plD n d = true) (hm : n ≤ m) : plD m d = true := by
  induction m with
  | zero => rw [Nat.le_zero.mp hm] at h; exact h
  | succ m ih =>
    rcases Nat.lt_or_ge n (m + 1) with q | q
    · exact pl_mono m d (ih (by omega))
    · rw [show n = m + 1 by omega] at h; exact h
theorem pl_64 {n : Nat} {d : D} (h : plD n d = true) (hn : n ≤ 64 := by decide) : plD 64 d = true := pl_up h hn
theorem plDs_all {n : Nat} : ∀ {ds : List D}, (∀ d ∈ ds, plD n d = true) → plDs n ds = true
  | [], _ => by simp [plDs]
  | d :: ds, h => by
    simp only [plDs, Bool.and_eq_true]
    exact ⟨h d (by simp), plDs_all fun x hx => h x (by simp [hx])⟩
theorem pl_tup {n : Nat} {ds : List D} (h : ∀ d ∈ ds, plD n d = true) : plD (n + 1) (.tup ds) = true := by simp only [plD]; exact plDs_all h
theorem pl_lst {n : Nat} {ds : List D} (h : ∀ d ∈ ds, plD n d = true) : plD (n + 1) (.lst ds) = true := by simp only [plD]; exact plDs_all h
@[simp] theorem pl_int (n : Nat) (i : Int) : plD n (.int i) = true := by cases n <;> rfl
@[simp] theorem pl_non (n : Nat) : plD n .non = true := by cases n <;> rfl
@[simp] theorem eqD_int (i j : Int) : eqD (.int i) (.int j) = some (decide (i = j)) := eqD_of rfl rfl (by simp)
@[simp] theorem neD_int (i j : Int) : neD (.int i) (.int j) = some (!decide (i = j)) := neD_of rfl rfl (by simp)
@[simp] theorem eqD_nn : eqD .non .non = some true := nr rfl
@[simp] theorem eqD_in (i : Int) : eqD (.int i) .non = some false := nr rfl
@[simp] theorem eqD_ni (i : Int) : eqD .non (.int i) = some false := nr rfl
@[simp] theorem neD_nn : neD .non .non = some false := nr rfl
@[simp] theorem neD_in (i : Int) : neD (.int i) .non = some true := nr rfl
@[simp] theorem neD_ni (i : Int) : neD .non (.int i) = some true := nr rfl
@[simp] theorem neD_ll : neD (.lst []) (.lst []) = some false := nr rfl
@[simp] theorem eqD_ll : eqD (.lst []) (.lst []) = some true := nr rfl
theorem neD_self {d : D} (h : plD 64 d = true) : neD d d = some false := by rw [neD_of (p := True) h h (by simp)]; rfl
theorem eqD_self {d : D} (h : plD 64 d = true) : eqD d d = some true := by rw [eqD_of (p := True) h h (by simp)]; rfl
theorem neD_nil {xs : List D} (h : plD 64 (.lst xs) = true) : neD (.lst xs) (.lst []) = some (!decide (xs = [])) := neD_of h rfl (by simp)
theorem eqD_nil {xs : List D} (h : plD 64 (.lst xs) = true) : eqD (.lst xs) (.lst []) = some (decide (xs = [])) := eqD_of h rfl (by simp)
theorem eqD_bl (a b : Bool) : eqD (.bl a) (.bl b) = some (decide (a = b)) := by cases a <;> cases b <;> rfl
theorem neD_bl (a b : Bool) : neD (.bl a) (.bl b) = some (!decide (a = b)) := by cases a <;> cases b <;> rfl
/-! ### in -/
def nD (n : Nat) : D := .int n
theorem nD_inj {a b : Nat} (h : nD a = nD b) : a = b := by unfold nD at h; injection h with h; omega
theorem cast_eq (a b : Nat) : ((a : Int) = (b : Int)) ↔ a = b := by omega
@[simp] theorem eqD_nD (a b : Nat) : eqD (nD a) (nD b) = some (decide (a = b)) := by
  unfold nD; rw [eqD_int]; congr 1; rw [Bool.eq_iff_iff]; simp only [decide_eq_true_eq]; exact cast_eq a b
@[simp] theorem neD_nD (a b : Nat) : neD (nD a) (nD b) = some (!decide (a = b)) := by unfold neD; rw [eqD_nD]; rfl
@[simp] theorem addD_nD (a b : Nat) : addD (nD a) (nD b) = some (nD (a + b)) := by
  show some (D.int ((a : Int) + b)) = _
  unfold nD; congr 2
theorem map_inj {α : Type} {f : α → D} (hf : ∀ a b, f a = f b → a = b) : ∀ {xs ys : List α}, xs.map f = ys.map f ↔ xs = ys
  | [], [] => by simp
  | [], y :: ys => by simp
  | x :: xs, [] => by simp
  | x :: xs, y :: ys => by
    simp only [List.map_cons, List.cons.injEq, map_inj hf (xs := xs) (ys := ys)]
    constructor
    · rintro ⟨a, b⟩; exact ⟨hf _ _ a, b⟩
    · rintro ⟨a, b⟩; exact ⟨by rw [a], b⟩
theorem in_nat (n : Nat) (ns : List Nat) : inD (nD n) (.tup (ns.map nD)) = some (decide (n ∈ ns)) := by
  have h : (ns.map nD).all flatD = true := by simp [nD, flatD, Function.comp_def]
  show (if flatD (nD n) && (ns.map nD).all flatD then _ else _) = _
  rw [h, if_pos (by rfl)]
  congr 1
  rw [Bool.eq_iff_iff]
  simp [nD, D.toPy, PyData.eqv]
  constructor
  · rintro ⟨x, hx, e⟩
    have : x = n := by omega
    rwa [← this]
  · exact fun h => ⟨n, h, rfl⟩
theorem any_eqv {n m : Nat} {x : D} (hx : plD n x = true) : ∀ {ys : List D}, plDs m ys = true → ((toPys ys).any (fun y => PyData.eqv y x.toPy) = true ↔ x ∈ ys)
  | [], _ => by simp [toPys]
  | y :: ys, h => by
    simp only [plDs, Bool.and_eq_true] at h
    simp only [toPys, List.any_cons, Bool.or_eq_true, any_eqv hx h.2, pl_eqv m n y x h.1 hx, List.mem_cons]
    constructor <;> rintro (a | a) <;> simp [a]
/-- membership in a list -/
theorem in_lst {x : D} {ys : List D} {p : Prop} [Decidable p] (hx : plD 64 x = true) (hy : plD 64 (.lst ys) = true) (h : x ∈ ys ↔ p) : inD x (.lst ys) = some (decide p) := by
  have e : inD x (.lst ys) = if SeqAt.shaped x.toPy && SeqAt.shaped (D.lst ys).toPy then some ((toPys ys).any fun y => PyData.eqv y x.toPy) else none := by cases x <;> rfl
  rw [e, shaped_pl hx, shaped_pl hy]
  simp only [Bool.and_self, if_true]
  congr 1
  rw [Bool.eq_iff_iff, decide_eq_true_eq, any_eqv hx (m := 63) (by simpa [plD] using hy)]
  exact h
theorem in_tup {x : D} {ys : List D} {p : Prop} [Decidable p] (fx : flatD x = true) (fy : ys.all flatD = true) (hx : plD 64 x = true) (hy : plD 64 (.tup ys) = true) (h : x ∈ ys ↔ p) : inD x (.tup ys) = some (decide p) := by
  have e : inD x (.tup ys) = if flatD x && ys.all flatD then some (ys.any fun y => PyData.eqv y.toPy x.toPy) else none := by cases x <;> rfl
  rw [e, fx, fy]
  simp only [Bool.and_self, if_true]
  congr 1
  rw [Bool.eq_iff_iff, decide_eq_true_eq, ← h, ← any_eqv hx (m := 63) (by simpa [plD] using hy), toPys_map, List.any_map]
  rfl
/-! ### all, any -/
@[simp] theorem asBls_map : ∀ bs : List Bool, asBls (bs.map D.bl) = some bs
  | [] => rfl
  | b :: bs => by simp [asBls, asBls_map bs]
theorem all_map {α : Type} (f : α → Bool) (xs : List α) : allD [.lst (xs.map fun x => .bl (f x))] = some (.bl (xs.all f)) := by
  have e : (xs.map fun x => D.bl (f x)) = (xs.map f).map D.bl := by rw [List.map_map]; rfl
  show (asBls _).map _ = _
  rw [e, asBls_map]
  simp [List.all_map, Function.comp_def]
theorem any_map {α : Type} (f : α → Bool) (xs : List α) : anyD [.lst (xs.map fun x => .bl (f x))] = some (.bl (xs.any f)) := by
  have e : (xs.map fun x => D.bl (f x)) = (xs.map f).map D.bl := by rw [List.map_map]; rfl
  show (asBls _).map _ = _
  rw [e, asBls_map]
  simp [List.any_map, Function.comp_def]
/-! ### comprehensions -/
theorem lcL_ok {α : Type} {p : Pat} {vs : List Nat} {t : EnvD → R Bool} {f : EnvD → R D} {env : EnvD} {enc : α → D} (T : α → Bool) (Fv : α → D) : ∀ {xs : List α},
    (∀ x ∈ xs, ∃ e, bindP p (enc x) (wipeE env vs) = some e ∧ t e = .ok (T x) ∧ (T x = true → f e = .ok (Fv x))) → lcL p vs t f (xs.map enc) env = .ok ((xs.filter T).map Fv)
  | [], _ => rfl
  | x :: xs, h => by
    obtain ⟨e, h1, h2, h3⟩ := h x (by simp)
    have ih := lcL_ok (xs := xs) T Fv fun y hy => h y (by simp [hy])
    simp only [List.map_cons, lcL, h1, h2]
    cases q : T x with
    | false => simp [q, ih]
    | true => simp [q, ih, h3 q]
theorem lcL_all {α : Type} {p : Pat} {vs : List Nat} {f : EnvD → R D} {env : EnvD} {enc : α → D} (Fv : α → D) {xs : List α}
    (h : ∀ x ∈ xs, ∃ e, bindP p (enc x) (wipeE env vs) = some e ∧ f e = .ok (Fv x)) : lcL p vs yesF f (xs.map enc) env = .ok (xs.map Fv) := by
  rw [lcL_ok (fun _ => true) Fv fun x hx => by
    obtain ⟨e, h1, h2⟩ := h x hx
    exact ⟨e, h1, rfl, fun _ => h2⟩]
  rw [List.filter_eq_self.mpr fun _ _ => rfl]
theorem lc2L_ok {α : Type} {p p1 : Pat} {vs vs1 : List Nat} {t t1 : EnvD → R Bool} {f : EnvD → R D} {src1 : EnvD → R (List D)} {env : EnvD} {enc : α → D} (T : α → Bool) (Ys : α → List D) : ∀ {xs : List α},
    (∀ x ∈ xs, ∃ e, bindP p (enc x) (wipeE env vs) = some e ∧ t e = .ok (T x) ∧ (T x = true → ∃ ds, src1 e = .ok ds ∧ lcL p1 vs1 t1 f ds e = .ok (Ys x))) → lc2L p vs t src1 p1 vs1 t1 f (xs.map enc) env = .ok ((xs.filter T).flatMap Ys)
  | [], _ => rfl
  | x :: xs, h => by
    obtain ⟨e, h1, h2, h3⟩ := h x (by simp)
    have ih := lc2L_ok (xs := xs) T Ys fun y hy => h y (by simp [hy])
    simp only [List.map_cons, lc2L, h1, h2, noErr, e_bind]
    cases q : T x with
    | false => simp [q, ih]
    | true =>
      obtain ⟨ds, h4, h5⟩ := h3 q
      simp [q, ih, h4, h5, noErr]
/-! ### loops -/
theorem forL_pred {p : Pat} {G : EnvD → Out} (I : EnvD → Prop) : ∀ {ds : List D} {e : EnvD}, I e → (∀ e d, I e → d ∈ ds → ∃ e1, bindP p d e = some e1 ∧ ∃ e2, (G e1 = .next e2 ∨ G e1 = .cont e2) ∧ I e2) → ∃ e', forL p G ds e = .next e' ∧ I e'
  | [], e, h, _ => ⟨e, rfl, h⟩
  | d :: ds, e, h, k => by
    obtain ⟨e1, h1, e2, h2, h3⟩ := k e d h (by simp)
    obtain ⟨e', h4, h5⟩ := forL_pred I (ds := ds) h3 fun e d' i m => k e d' i (by simp [m])
    refine ⟨e', ?_, h5⟩
    simp only [forL, h1]
    rcases h2 with h2 | h2 <;> simp only [h2, h4]
/-- a loop that goes through, its state told -/
theorem forL_fold {α S : Type} {p : Pat} {G : EnvD → Out} {enc : α → D} (E : S → EnvD) (step : S → α → S) : ∀ {xs : List α} {s : S}, (∀ s x, x ∈ xs → ∃ e1, bindP p (enc x) (E s) = some e1 ∧ (G e1 = .next (E (step s x)) ∨ G e1 = .cont (E (step s x)))) →
    forL p G (xs.map enc) (E s) = .next (E (xs.foldl step s))
  | [], s, _ => rfl
  | x :: xs, s, k => by
    obtain ⟨e1, h1, h2⟩ := k s x (by simp)
    have ih := forL_fold E step (xs := xs) (s := step s x) fun s y m => k s y (by simp [m])
    simp only [List.map_cons, forL, h1, List.foldl_cons]
    rcases h2 with h2 | h2 <;> simp only [h2, ih]
@[simp] theorem u_lc (p : Pat) (vs : List Nat) (t : EnvD → R Bool) (f : EnvD → R D) (src : EnvD → R (List D)) (env : EnvD) : lcF p vs t f src env = (src env).bind fun ds => lcL p vs t f ds env := nr rfl
@[simp] theorem u_for (p : Pat) (f : EnvD → R (List D)) (G : EnvD → Out) (env : EnvD) : forS p f G env = bindS (f env) env fun ds => forL p G ds env := nr rfl
/-! ### ranges, enumerate -/
theorem rng_map (lo hi : Int) : rng lo hi = (List.range (hi - lo).toNat).map fun i => .int (lo + (i : Nat)) := rfl
theorem rng0 (n : Nat) : rng 0 (n : Int) = (List.range n).map nD := by
  unfold rng nD
  simp
theorem asRng1_nat {n : Nat} (h : n ≤ 16777216) : asRng1 [.int (n : Int)] = some ((List.range n).map nD) := by
  show (if rngOk 0 (n : Int) = true then some (rng 0 n) else none) = _
  rw [rng0, if_pos (by unfold rngOk; simp; omega)]
theorem asRng2_int {lo hi : Int} (h1 : -1000000 ≤ lo) (h2 : lo ≤ 1000000) (h3 : -1000000 ≤ hi) (h4 : hi ≤ 1000000) : asRng2 [.int lo, .int hi] = some (rng lo hi) := by
  show (if rngOk lo hi = true then some (rng lo hi) else none) = _
  rw [if_pos (by unfold rngOk; simp; omega)]
theorem enumL_map {α : Type} (enc : α → D) (dflt : α) : ∀ (k : Nat) (xs : List α), enumL k (xs.map enc) = (List.range xs.length).map fun i => .tup [.int ((k + i : Nat) : Int), enc (xs.getD i dflt)]
  | _, [] => rfl
  | k, x :: xs => by
    rw [List.map_cons, enumL, enumL_map enc dflt (k + 1) xs, List.length_cons, List.range_succ_eq_map, List.map_cons, List.map_map]
    rw [List.cons.injEq]
    refine ⟨by simp, List.map_congr_left fun i _ => ?_⟩
    simp only [Function.comp_def, List.getD_cons_succ, Nat.succ_eq_add_one]
    rw [show k + 1 + i = k + (i + 1) by omega]
/-! ### the last item -/
theorem ix_last {xs : List D} {d : D} (h : xs.getLast? = some d) : ixD (.lst xs) (.int (-1)) = some d := by
  have hl : xs ≠ [] := fun e => by rw [e] at h; cases h
  have hl2 := List.length_pos_iff.mpr hl
  show atI xs (-1) = some d
  unfold atI ixN
  rw [if_neg (by omega), if_pos (by omega)]
  rw [List.getLast?_eq_getElem?] at h
  simp only [Option.bind_some]
  rw [← h]
  congr 1
  omega
theorem ix_lastT {xs : List D} {d : D} (h : xs.getLast? = some d) : ixD (.tup xs) (.int (-1)) = some d := ix_last h
/-- none or a number -/
def optD : Option Nat → D
  | none => .non
  | some n => nD n
theorem optD_inj {a b : Option Nat} (h : optD a = optD b) : a = b := by
  cases a <;> cases b <;> simp [optD, nD] at h ⊢
  omega
@[simp] theorem pl_opt (n : Nat) (o : Option Nat) : plD n (optD o) = true := by cases o <;> simp [optD, nD]
@[simp] theorem pl_nat (n m : Nat) : plD n (nD m) = true := by simp [nD]

/-- a loop that goes through, told by what is done -/
theorem forL_ind {α : Type} {p : Pat} {G : EnvD → Out} {enc : α → D} (I : List α → EnvD → Prop) {xs : List α} {e : EnvD} (h0 : I [] e)
    (h : ∀ pre x suf, xs = pre ++ x :: suf → ∀ e, I pre e → ∃ e1, bindP p (enc x) e = some e1 ∧ ∃ e2, (G e1 = .next e2 ∨ G e1 = .cont e2) ∧ I (pre ++ [x]) e2) : ∃ e', forL p G (xs.map enc) e = .next e' ∧ I xs e' := by
  have key : ∀ (suf pre : List α) (e : EnvD), xs = pre ++ suf → I pre e → ∃ e', forL p G (suf.map enc) e = .next e' ∧ I xs e' := by
    intro suf
    induction suf with
    | nil => intro pre e q i; rw [List.append_nil] at q; subst q; exact ⟨e, rfl, i⟩
    | cons x suf ih =>
      intro pre e q i
      obtain ⟨e1, h1, e2, h2, h3⟩ := h pre x suf q e i
      obtain ⟨e', h4, h5⟩ := ih (pre ++ [x]) e2 (by rw [q]; simp) h3
      refine ⟨e', ?_, h5⟩
      simp only [List.map_cons, forL, h1]
      rcases h2 with h2 | h2 <;> simp only [h2, h4]
  exact key xs [] e rfl h0
/-- a loop that may return: at each item it goes on or returns -/
theorem whileL_ok {t : EnvD → R Bool} {G : EnvD → Out} (I : Nat → EnvD → Prop) (J : EnvD → Prop) (h : ∀ m e, I m e → (t e = .ok false ∧ J e) ∨ (t e = .ok true ∧ ∃ e2 m', m' < m ∧ (G e = .next e2 ∨ G e = .cont e2) ∧ I m' e2)) :
    ∀ (n m : Nat) (e : EnvD), m < n → I m e → ∃ e', whileL t G n e = .next e' ∧ J e'
  | 0, m, e, hm, _ => absurd hm (Nat.not_lt_zero _)
  | n + 1, m, e, hm, i => by
    rcases h m e i with ⟨h1, h2⟩ | ⟨h1, e2, m', h2, h3, h4⟩
    · exact ⟨e, by simp [whileL, h1], h2⟩
    · obtain ⟨e', h5, h6⟩ := whileL_ok I J h n m' e2 (by omega) h4
      refine ⟨e', ?_, h6⟩
      rcases h3 with h3 | h3 <;> simp [whileL, h1, h3, h5]
/-! ### sorting -/
theorem leD_eq (a b : D) : leD a b = !PySem.W.dataLt b.toPy a.toPy := by unfold leD; rw [PySem.W.dataLe_eq]; rfl
theorem leD_nat (a b : Nat) : leD (nD a) (nD b) = decide (a ≤ b) := by
  rw [leD_eq]
  show (!PySem.W.dataLt (.int b) (.int a)) = _
  rw [PySem.W.dataLt_int, Bool.eq_iff_iff]
  simp
theorem leD_ii (a b c d : Int) : leD (.tup [.int a, .int b]) (.tup [.int c, .int d]) = decide (a < c ∨ (a = c ∧ b ≤ d)) := by
  rw [leD_eq]
  show (!PySem.W.dataLt (.tuple [.int c, .int d]) (.tuple [.int a, .int b])) = _
  rw [PySem.W.dataLt_ii, Bool.eq_iff_iff]
  simp
  omega
theorem isort_uniq {ds es : List D} (hp : ds.Perm es) (hs : es.Pairwise fun a b => leD a b = true) (anti : ∀ a ∈ es, ∀ b ∈ es, leD a b = true → leD b a = true → a = b) : isort leD ds = es :=
  List.Perm.eq_of_pairwise (le := fun a b => leD a b = true) (fun a b ha hb h1 h2 => anti a (((isort_perm (le := leD) ds).trans hp).mem_iff.mp ha) b hb h1 h2) (isort_sorted leD_total ds) hs ((isort_perm ds).trans hp)
theorem srtOk_int {ds : List D} (h : ∀ d ∈ ds, isI d = true) : srtOk ds = true := by
  unfold srtOk
  rw [List.all_eq_true.mpr h]; simp
theorem srtOk_t1 {ds : List D} (h : ∀ d ∈ ds, isT1 d = true) : srtOk ds = true := by
  unfold srtOk
  rw [List.all_eq_true.mpr h]; simp
theorem srtOk_t2 {ds : List D} (h : ∀ d ∈ ds, isT2 d = true) : srtOk ds = true := by
  unfold srtOk
  rw [List.all_eq_true.mpr h]; simp
theorem range_pair {α : Type} {R : α → α → Prop} {f : Nat → α} : ∀ {n : Nat}, (∀ i j, i < j → j < n → R (f i) (f j)) → ((List.range n).map f).Pairwise R := fun {n} h =>
  List.pairwise_iff_getElem.mpr fun i j hi hj hij => by
    simp only [List.length_map, List.length_range] at hi hj
    simp only [List.getElem_map, List.getElem_range]
    exact h i j hij hj
theorem sort_nats {os : List Nat} {n : Nat} (h : os.Perm (List.range n)) : isort leD (os.map nD) = (List.range n).map nD := by
  refine isort_uniq (h.map nD) (range_pair fun i j hij _ => by rw [leD_nat]; exact decide_eq_true (by omega)) fun a ha b hb h1 h2 => ?_
  obtain ⟨i, _, rfl⟩ := List.mem_map.mp ha
  obtain ⟨j, _, rfl⟩ := List.mem_map.mp hb
  rw [leD_nat] at h1 h2
  rw [Nat.le_antisymm (of_decide_eq_true h1) (of_decide_eq_true h2)]

theorem dput_ok {i : Nat} {fk fv : EnvD → R D} {env : EnvD} {t : Bool} {ks vs : List D} {k v : D} (h1 : fv env = .ok v) (h2 : env[i]? = some (.ownd t ks vs)) (h3 : fk env = .ok k) (h4 : isKey t k = true) (h5 : small (ks.length + 1) = true) :
    dputS i fk fv env = .next (env.set i (.ownd t (dPut ks vs k v).1 (dPut ks vs k v).2)) := by
  unfold dputS
  simp [h1, h2, h3, h4, h5]

theorem lcL_ex {α β : Type} {p : Pat} {vs : List Nat} {f : EnvD → R D} {env : EnvD} {enc : α → D} (g : β → D) (P : α → β → Prop) : ∀ {xs : List α}, (∀ x ∈ xs, ∃ e y, bindP p (enc x) (wipeE env vs) = some e ∧ f e = .ok (g y) ∧ P x y) →
    ∃ ys : List β, ys.length = xs.length ∧ (∀ (i : Nat) x y, xs[i]? = some x → ys[i]? = some y → P x y) ∧ lcL p vs yesF f (xs.map enc) env = .ok (ys.map g)
  | [], _ => ⟨[], rfl, by simp, rfl⟩
  | x :: xs, h => by
    obtain ⟨e, y, h1, h2, h3⟩ := h x (by simp)
    obtain ⟨ys, h4, h5, h6⟩ := lcL_ex g P (xs := xs) fun z hz => h z (by simp [hz])
    refine ⟨y :: ys, by simp [h4], fun i u v hu hv => ?_, by simp [lcL, h1, yesF, h2, h6]⟩
    cases i with
    | zero => simp at hu hv; subst hu hv; exact h3
    | succ i => exact h5 i u v (by simpa using hu) (by simpa using hv)
theorem appPop_ok {i j : Nat} {f : EnvD → R D} {env : EnvD} {ds es : List D} {k : Nat} {y : D} (hij : i ≠ j) (h1 : env[i]? = some (.own ds)) (h2 : env[j]? = some (.own es)) (h3 : f env = .ok (nD k)) (h4 : es[k]? = some y) (h5 : small (ds.length + 1) = true) :
    appPopS i j f env = .next ((env.set j (.own (es.eraseIdx k))).set i (.own (ds ++ [y]))) := by
  have hl := (List.getElem?_eq_some_iff.mp h4).1
  unfold appPopS
  simp [h1, h2, h3, nD, hij, h4, h5, hl]
  rw [List.getElem?_eq_getElem hl] at h4
  rw [Option.some.inj h4]
theorem app_ok {i : Nat} {f : EnvD → R D} {env : EnvD} {ds : List D} {d : D} (h1 : env[i]? = some (.own ds)) (h2 : f env = .ok d) (h3 : small (ds.length + 1) = true) : appS i f env = .next (env.set i (.own (ds ++ [d]))) := by
  unfold appS
  simp [h1, h2, h3]
theorem ext_ok {i : Nat} {f : EnvD → R (List D)} {env : EnvD} {ds es : List D} (h1 : env[i]? = some (.own ds)) (h2 : f env = .ok es) (h3 : small (ds.length + es.length) = true) : extS i f env = .next (env.set i (.own (ds ++ es))) := by
  unfold extS
  simp [h1, h2, h3]
theorem unp_ok {q : Pat} {f : EnvD → R D} {env e : EnvD} {d : D} (h1 : f env = .ok d) (h2 : bindP q d env = some e) : unpS q f env = .next e := by
  unfold unpS
  simp [h1, h2]
theorem map_erase' {α : Type} (f : α → D) : ∀ (l : List α) (i : Nat), (l.map f).eraseIdx i = (l.eraseIdx i).map f
  | [], _ => by simp
  | a :: l, 0 => by simp
  | a :: l, i + 1 => by simp [map_erase' f l i]

/-! ### keys -/
def addK {α : Type} [DecidableEq α] (ks : List α) (c : α) : List α := if c ∈ ks then ks else ks ++ [c]
section
variable {α β : Type} [DecidableEq α] {enc : α → D}
theorem dPutV_k (enc : α → D) (c : D) : ∀ ks : List α, dPutV (ks.map enc) (ks.map fun _ => .bl true) c (.bl true) = ks.map fun _ => .bl true
  | [] => rfl
  | k :: ks => by simp [dPutV, dPutV_k enc c ks]
theorem dPut_k (h : ∀ a b, keyEq (enc a) (enc b) = decide (a = b)) (ks : List α) (c : α) : dPut (ks.map enc) (ks.map fun _ => .bl true) (enc c) (.bl true) = ((addK ks c).map enc, (addK ks c).map fun _ => .bl true) := by
  unfold dPut addK
  have e : ((ks.map enc).any fun k => keyEq k (enc c)) = decide (c ∈ ks) := by
    rw [List.any_map, Bool.eq_iff_iff]
    simp [h]
  rw [e]
  by_cases q : c ∈ ks
  · simp [q, dPutV_k]
  · simp [q]
theorem addK_nodup {ks : List α} {c : α} (h : ks.Nodup) : (addK ks c).Nodup := by
  unfold addK
  split
  · exact h
  · rename_i q
    rw [List.nodup_append]
    exact ⟨h, by simp, fun a ha b hb e => by simp at hb; subst hb; subst e; exact q ha⟩
theorem addK_mem {ks : List α} {c d : α} : d ∈ addK ks c ↔ d ∈ ks ∨ d = c := by
  unfold addK
  split
  · rename_i q
    constructor
    · exact .inl
    · rintro (h | h)
      · exact h
      · rw [h]; exact q
  · simp
theorem addK_len (ks : List α) (c : α) : (addK ks c).length ≤ ks.length + 1 := by
  unfold addK; split <;> simp
theorem foldK_nodup {f : β → α} : ∀ (xs : List β) {ks : List α}, ks.Nodup → (xs.foldl (fun ks x => addK ks (f x)) ks).Nodup
  | [], _, h => h
  | x :: xs, _, h => foldK_nodup xs (addK_nodup h)
theorem foldK_mem {f : β → α} {j : α} : ∀ (xs : List β) {ks : List α}, j ∈ xs.foldl (fun ks x => addK ks (f x)) ks ↔ j ∈ ks ∨ ∃ x ∈ xs, f x = j
  | [], ks => by simp
  | x :: xs, ks => by
    rw [List.foldl_cons, foldK_mem xs, addK_mem]
    constructor
    · rintro ((h | h) | ⟨y, hy, e⟩)
      · exact .inl h
      · exact .inr ⟨x, by simp, h.symm⟩
      · exact .inr ⟨y, by simp [hy], e⟩
    · rintro (h | ⟨y, hy, e⟩)
      · exact .inl (.inl h)
      · rcases List.mem_cons.mp hy with q | q
        · exact .inl (.inr (by rw [← e, q]))
        · exact .inr ⟨y, q, e⟩
theorem dcL_keys {p : Pat} {vs : List Nat} {t : EnvD → R Bool} {fk fv : EnvD → R D} {env : EnvD} {en : β → D} (enc : α → D) (h : ∀ a b, keyEq (enc a) (enc b) = decide (a = b)) (κ : β → α) (hk : ∀ a, isKey false (enc a) = true) : ∀ {xs : List β} {ks : List α}, ks.length + xs.length ≤ 1000000 →
    (∀ x ∈ xs, ∃ e, bindP p (en x) (wipeE env vs) = some e ∧ t e = .ok true ∧ fk e = .ok (enc (κ x)) ∧ fv e = .ok (.bl true)) →
    dcL p vs t fk fv (xs.map en) (ks.map enc, ks.map fun _ => .bl true) env = .ok ((xs.foldl (fun ks x => addK ks (κ x)) ks).map enc, (xs.foldl (fun ks x => addK ks (κ x)) ks).map fun _ => .bl true)
  | [], ks, _, _ => rfl
  | x :: xs, ks, hl, hx => by
    obtain ⟨e, h1, h2, h3, h4⟩ := hx x (by simp)
    have hl' : ks.length + xs.length + 1 ≤ 1000000 := by simp at hl; omega
    have := addK_len ks (κ x)
    have ih := dcL_keys enc h κ hk (xs := xs) (ks := addK ks (κ x)) (by omega) fun y hy => hx y (by simp [hy])
    have sm : small (ks.length + 1) = true := small_le (by omega)
    simp only [List.map_cons, dcL, h1, h2, h3, h4, noErr, e_bind, if_true, List.length_map, sm, hk, and_self, dPut_k h, List.foldl_cons]
    exact ih
end

/-! ### more about loops and sorting -/
/-- a loop that returns at the first item that P tells -/
theorem forL_find {α : Type} {p : Pat} {G : EnvD → Out} {enc : α → D} (E : EnvD → Prop) (P : α → Bool) (res : α → D) : ∀ {xs : List α} {e : EnvD}, E e → (∀ e x, E e → x ∈ xs → ∃ e1, bindP p (enc x) e = some e1 ∧ (P x = true → G e1 = .ret (res x)) ∧ (P x = false → ∃ e2, (G e1 = .next e2 ∨ G e1 = .cont e2) ∧ E e2)) →
    (∃ x, xs.find? P = some x ∧ forL p G (xs.map enc) e = .ret (res x)) ∨ (xs.find? P = none ∧ ∃ e', forL p G (xs.map enc) e = .next e' ∧ E e')
  | [], e, h, _ => .inr ⟨rfl, e, rfl, h⟩
  | x :: xs, e, h, k => by
    obtain ⟨e1, h1, h2, h3⟩ := k e x h (by simp)
    cases q : P x with
    | true => exact .inl ⟨x, by simp [q], by simp only [List.map_cons, forL, h1, h2 q]⟩
    | false =>
      obtain ⟨e2, h4, h5⟩ := h3 q
      rcases forL_find E P res (xs := xs) h5 fun e y he hy => k e y he (by simp [hy]) with ⟨y, a, b⟩ | ⟨a, e', b, c⟩
      · refine .inl ⟨y, by simp [q, a], ?_⟩
        simp only [List.map_cons, forL, h1]
        rcases h4 with h4 | h4 <;> simp only [h4, b]
      · refine .inr ⟨by simp [q, a], e', ?_, c⟩
        simp only [List.map_cons, forL, h1]
        rcases h4 with h4 | h4 <;> simp only [h4, b]
theorem insL_map {α β : Type} {le : β → β → Bool} (f : α → β) (x : α) : ∀ l : List α, insL le (f x) (l.map f) = (insL (fun a b => le (f a) (f b)) x l).map f
  | [] => rfl
  | y :: ys => by
    simp only [List.map_cons, insL]
    split
    · simp
    · simp [insL_map f x ys]
theorem isort_map {α β : Type} {le : β → β → Bool} (f : α → β) : ∀ l : List α, isort le (l.map f) = (isort (fun a b => le (f a) (f b)) l).map f
  | [] => rfl
  | x :: xs => by
    simp only [List.map_cons, isort, isort_map f xs, insL_map]
end PD

set_option maxHeartbeats 4000000
namespace PD
open PySem PySem.Spec PyProof.Rows L2
/-! ### sorted(set(xs)) of fewer than 64 pairs of small numbers -/
def pairD (c : Int × Int) : D := .tup [.int c.1, .int c.2]
def pCode (c : Int × Int) : Int := c.1 * 64 + c.2
def pUn (n : Int) : Int × Int := (n / 64, n % 64)
def asPairs : List D → Option (List (Int × Int))
  | [] => some []
  | .tup [.int a, .int b] :: r => if 0 ≤ a ∧ a < 64 ∧ 0 ≤ b ∧ b < 64 then (asPairs r).map ((a, b) :: ·) else none
  | _ => none
theorem asPairs_eq : ∀ {ds : List D} {ps : List (Int × Int)}, asPairs ds = some ps → ds = ps.map pairD ∧ ∀ p ∈ ps, 0 ≤ p.1 ∧ p.1 < 64 ∧ 0 ≤ p.2 ∧ p.2 < 64
  | [], ps, h => by cases h; simp
  | d :: ds, ps, h => by
    unfold asPairs at h
    split at h
    · rename_i q; cases q
    · rename_i a b r q
      cases q
      split at h
      · rename_i hb
        cases e : asPairs ds with
        | none => rw [e] at h; cases h
        | some qs =>
          rw [e] at h
          cases h
          obtain ⟨h1, h2⟩ := asPairs_eq e
          refine ⟨by rw [h1]; rfl, fun p hp => ?_⟩
          rcases List.mem_cons.mp hp with e2 | hp
          · rw [e2]; exact hb
          · exact h2 p hp
      · cases h
    · cases h
def sdP : List D → Option (List D)
  | [.lst ds] => match asPairs ds with
    | some ps => if ps.length < 64 then some ((sdI (ps.map pCode)).map fun n => pairD (pUn n)) else none
    | none => none
  | _ => none
theorem pUn_code {c : Int × Int} (h : 0 ≤ c.1 ∧ c.1 < 64 ∧ 0 ≤ c.2 ∧ c.2 < 64) : pUn (pCode c) = c := by
  obtain ⟨a, b⟩ := c
  unfold pUn pCode
  dsimp only at *
  congr 1 <;> omega
/-- the addresses of the pairs -/
theorem pairs_at {K : PySem.W.Frag} {F : Hp} : ∀ {vs : List V} {ps : List (Int × Int)}, Reps K F vs (ps.map pairD) → ∃ ks : List (Addr × List Int), vs = ks.map (fun p => V.ref p.1) ∧ ks.map (·.2) = ps.map (fun p => [p.1, p.2]) ∧ ∀ p ∈ ks, F p.1 = some (.tup (p.2.map V.int))
  | _, [], h => by cases h; exact ⟨[], rfl, rfl, by simp⟩
  | _, p :: ps, h => by
    cases h with
    | cons a b =>
      obtain ⟨ks, h1, h2, h3⟩ := pairs_at b
      cases a with
      | @tup q xs ds c1 c2 c3 =>
        have e : xs = [p.1, p.2].map V.int := Reps.of_ints (ns := [p.1, p.2]) c3
        refine ⟨(q, [p.1, p.2]) :: ks, by rw [h1]; rfl, by rw [List.map_cons, h2]; rfl, fun z hz => ?_⟩
        rcases List.mem_cons.mp hz with e2 | hz
        · subst e2; rw [← e]; exact c1
        · exact h3 z hz
section
variable {X : Cx} {cls : Exc → Addr} {W : WX} {a : Expr} {fs : EnvD → R (List D)} {p p2 pos pos2 : Pos}
theorem pd_sortSetP (hc : X.calm = true) (hu : X.A.units + 64 < cLine) (hg : Gl X "sorted") (hm : X.mg "sorted" = none) (hg2 : Gl X "set") (hm2 : X.mg "set" = none) (ha : PDA X cls W (pB' X.K) [a] fs)
    (na : starEach [a] X.env = (false, eval a X.env) :: starEach [] X.env := by rfl) (na2 : starEach [.Call (.Name "set" p2) [a] [] pos2] X.env = (false, eval (.Call (.Name "set" p2) [a] [] pos2) X.env) :: starEach [] X.env := by rfl)
    (hpl : (backTo pos2 (starEach [] X.env)).any (·.1) = false := by rfl) (hpl2 : (backTo pos (starEach [] X.env)).any (·.1) = false := by rfl) :
    PDE X cls W (pN X.K) (.Call (.Name "sorted" p) [.Call (.Name "set" p2) [a] [] pos2] [] pos) (appL sdP fs) :=
  pe_imp (pe_callB (cr_sortedT hc) hg hm boot_sorted (pa_cons (pe_callTy (cr_setOfT hc hu) hg2 hm2 boot_set ha (by decide) (by decide) na hpl) pa_nil na2) (by decide) (by decide) na2 hpl2) fun σ H Q ⟨H0, F, env, ea, g⟩ =>
    ⟨H0, F, env, ea, (Go.bind g).imp fun xs H1 ⟨F1, ds, _, e1, p1, g1⟩ => by
      obtain ⟨z, hz, g2⟩ := Go.ofO g1
      unfold sdP at hz
      split at hz
      · rename_i es
        split at hz
        · rename_i ps hps
          split at hz
          · rename_i h64
            cases hz
            obtain ⟨he, hb⟩ := asPairs_eq hps
            rw [he] at p1
            obtain ⟨v, rfl, r⟩ := repBs1 p1
            obtain ⟨l, ys, rfl, h1, h2, h3⟩ := repB_lst e1.i r
            obtain ⟨ks, k1, k2, k3⟩ := pairs_at h3
            have kl : ks.length = ps.length := by
              have := congrArg List.length k2
              simpa using this
            have kb : ∀ q ∈ ks, ∃ c ∈ ps, q.2 = [c.1, c.2] := fun q hq => by
              have : q.2 ∈ ks.map (·.2) := List.mem_map.mpr ⟨q, hq, rfl⟩
              rw [k2] at this
              obtain ⟨c, hc, e⟩ := List.mem_map.mp this
              exact ⟨c, hc, e.symm⟩
            refine ⟨l, ks, rfl, by rw [← k1]; exact SqL.of h1, fun q hq => SqT.of (e1.i _ _ (k3 q hq)), by omega, fun sa L hsa hsub hall => ?_⟩
            have x1 : Ext F1 H1 F1 (upd H1 sa (SetTO X.prog X.w sa L)) := Ext.newH e1.i hsa
            refine ⟨sa, L, 2, 64, rfl, upd_same, fun q hq => SqT.of (x1.h _ _ (e1.i _ _ (k3 q (hsub q hq)))), by decide, fun q hq => ?_, fun L' q2 pm nd few pw hq2 => ?_⟩
            · obtain ⟨c, hc, e⟩ := kb q (hsub q hq)
              have := hb c hc
              rw [e]
              refine ⟨rfl, fun m hm => ?_⟩
              rcases List.mem_cons.mp hm with e2 | hm
              · subst e2; omega
              · rw [List.mem_singleton.mp hm]; omega
            have n2 : H1 q2 = none := by
              by_cases e : q2 = sa
              · subst e; exact hsa
              · rw [upd_ne e] at hq2; exact hq2
            have x2 := x1.trans (Ext.newH (o := .lst (L'.map fun q => V.ref q.1)) x1.i hq2)
            have inks : ∀ q ∈ L', q ∈ ks := fun q hq => hsub q (pm.mem_iff.mp hq)
            have rp : ∀ L2 : List (Addr × List Int), (∀ q ∈ L2, q ∈ ks) → ∃ cs : List (Int × Int), L2.map (·.2) = cs.map (fun c => [c.1, c.2]) ∧ (∀ c ∈ cs, c ∈ ps) ∧ Reps X.K F1 (L2.map fun q => V.ref q.1) (cs.map pairD) := by
              intro L2
              induction L2 with
              | nil => intro _; exact ⟨[], rfl, by simp, .nil⟩
              | cons q L2 ih =>
                intro h
                obtain ⟨cs, c1, c2, c3⟩ := ih fun q hq => h q (by simp [hq])
                obtain ⟨c, hc, e⟩ := kb q (h q (by simp))
                refine ⟨c :: cs, by rw [List.map_cons, List.map_cons, c1, e], fun d hd => ?_, .cons (.tup (k3 q (h q (by simp))) (by rw [e]; simp [sizeLine_eq]) ?_) c3⟩
                · rcases List.mem_cons.mp hd with e2 | hd
                  · rw [e2]; exact hc
                  · exact c2 d hd
                · rw [e]
                  exact Reps.ints (ns := [c.1, c.2])
            obtain ⟨cs, c1, c2, c3⟩ := rp L' inks
            have hcs : (sdI (ps.map pCode)).map (fun n => pairD (pUn n)) = cs.map pairD := by
              have e3 : sdI (ps.map pCode) = cs.map pCode := by
                refine sorted_uniq (sdI_pair _) ?_ fun z => ?_
                · have nd' : (cs.map fun c : Int × Int => [c.1, c.2]).Nodup := by rw [← c1]; exact nd
                  have pw' : (cs.map fun c : Int × Int => [c.1, c.2]).Pairwise fun x y => TS.code 64 x ≤ TS.code 64 y := by
                    rw [← c1, List.pairwise_map]; exact pw
                  have both := List.pairwise_and_iff.mpr ⟨nd', pw'⟩
                  rw [List.pairwise_map] at both ⊢
                  refine List.Pairwise.imp_of_mem (fun {x y} hx hy h => ?_) both
                  have b1 := hb x (c2 x hx)
                  have b2 := hb y (c2 y hy)
                  obtain ⟨ne, le⟩ := h
                  rw [code_pair, code_pair] at le
                  unfold pCode
                  rcases Int.lt_or_eq_of_le le with h | h
                  · exact h
                  · exfalso
                    apply ne
                    have e1 : x.1 = y.1 := by omega
                    have e2 : x.2 = y.2 := by omega
                    rw [e1, e2]
                · rw [sdI_mem, List.mem_map, List.mem_map]
                  constructor
                  · rintro ⟨c, hc, rfl⟩
                    have hk : [c.1, c.2] ∈ ks.map (·.2) := by rw [k2]; exact List.mem_map.mpr ⟨c, hc, rfl⟩
                    obtain ⟨q, hq, eq⟩ := List.mem_map.mp hk
                    have hl := hall q hq
                    rw [← (pm.map (·.2)).mem_iff, c1, eq] at hl
                    obtain ⟨c', hc', e'⟩ := List.mem_map.mp hl
                    refine ⟨c', hc', ?_⟩
                    simp only [List.cons.injEq, and_true] at e'
                    unfold pCode
                    rw [e'.1, e'.2]
                  · rintro ⟨c, hc, rfl⟩
                    exact ⟨c, c2 c hc, rfl⟩
              rw [e3, List.map_map]
              apply List.map_congr_left
              intro c hc
              show pairD (pUn (pCode c)) = pairD c
              rw [pUn_code (hb c (c2 c hc))]
            rw [hcs] at g2
            exact g2 _ F1 _ x2 ⟨q2, _, rfl, n2, e1.i.free n2, upd_same, by rw [List.length_map]; simp [sizeLine_eq]; omega, c3⟩
          · cases hz
        · cases hz
      · cases hz⟩
end
/-! ### what is not reached -/
def noneF {α : Type} : EnvD → R α := fun _ => .bad
theorem pd_none {α : Type} {X : Cx} {cls : Exc → Addr} {W : WX} {P : PP V α} {e : Expr} : PDE X cls W P e (noneF : EnvD → R α) := ⟨fun _ _ _ _ _ _ ⟨_, _, _, _, g⟩ => g.elim⟩
end PD

set_option maxHeartbeats 4000000
namespace PD
open PySem PySem.Spec PyProof.Rows L2
/-! ### the exception classes -/
def excName : Exc → Str
  | .paneError => "PaneError"
  | .window => "InvalidWindow"
  | .windows => "InvalidWindows"
  | .order => "InvalidOrder"
  | .cell => "InvalidCell"
  | .number => "InvalidNumber"
  | .group => "InvalidGroup"
  | .reports => "InvalidReports"
  | .move => "InvalidMove"
  | .size => "InvalidSize"
  | .sizes => "InvalidSizes"
  | .tooLarge => "TooLarge"
  | .nothing => "NothingToUndo"
  | .parse => "ParseError"
def clsK (K : PySem.W.Frag) (c : Exc) : Addr := He.ga K (excName c)
def excLe (c d : Exc) : Bool := decide (c = d) || decide (d = .paneError)
def excOk1 (K : PySem.W.Frag) (C : Addr) : Bool := He.eqO (PySem.W.findIn K (.ref C) "__getattribute__") (some (some (.builtin "BaseException.__getattribute__"))) && (He.eqO (PySem.W.findIn K (.ref C) "__getattr__") (some none) &&
  (decide (PySem.W.subIn K (.ref C) (.type "BaseException") = some true) && (PySem.W.hasDictIn K C && (He.eqO (PySem.W.findIn K (.ref C) "__class__") (some (some (.builtin "object.__class__"))) &&
  (He.eqO (PySem.W.specialIn K (.builtin "object.__class__") "__get__") (some (some (.builtin "getset_descriptor.__get__"))) && (decide (PySem.W.takesIn K (.builtin "object.__class__") = some true) && decide (PySem.W.mroIn K C (.type "object") = some true)))))))
def excOk (exs : List Exc) (K : PySem.W.Frag) : Bool := exs.all fun c => excOk1 K (clsK K c) && exs.all fun d => decide (PySem.W.exmOne K (.ref (clsK K c)) (.ref (clsK K d)) = some (excLe c d))
structure ExcF (K : PySem.W.Frag) (cls : Exc → Addr) (exs : List Exc) : Prop where
  c : ∀ c ∈ exs, ExcC K (cls c)
  m : ∀ c ∈ exs, ∀ d ∈ exs, PySem.W.exmOne K (.ref (cls c)) (.ref (cls d)) = some (excLe c d)
theorem excF_of {exs : List Exc} {K : PySem.W.Frag} (h : excOk exs K = true) : ExcF K (clsK K) exs := by
  have h1 := fun c hc => List.all_eq_true.mp h c hc
  simp only [Bool.and_eq_true] at h1
  refine ⟨fun c hc => ?_, fun c hc d hd => ?_⟩
  · have e := (h1 c hc).1
    unfold excOk1 at e
    simp only [Bool.and_eq_true] at e
    obtain ⟨a1, a2, a3, a4, a5, a6, a7, a8⟩ := e
    exact ⟨He.eqO_ok a1, He.eqO_ok a2, of_decide_eq_true a3, a4, He.eqO_ok a5, He.eqO_ok a6, of_decide_eq_true a7, of_decide_eq_true a8⟩
  · exact of_decide_eq_true (List.all_eq_true.mp (h1 c hc).2 d hd)
theorem ExcF.kit {exs : List Exc} {K : PySem.W.Frag} {cls : Exc → Addr} (x : ExcF K cls exs) {c d : Exc} (hc : c ∈ exs) (hd : d ∈ exs) : PySem.W.kitOne K (.ref (cls c)) (.ref (cls d)) = some (excLe c d) := by
  have m := x.m c hc d hd
  unfold PySem.W.exmOne at m
  split at m
  · unfold PySem.W.kitOne
    split
    · rename_i e
      have e2 : cls c = cls d := by
        have := beq_iff_eq.mp e
        injection this
      have m2 := x.m d hd d hd
      rw [← x.m c hc d hd, e2, m2]
      unfold excLe
      simp
    · exact m
  · cases m
/-! ### isinstance(e, X), e the exception that a handler holds -/
def isE (i : Nat) (a : Addr) (b : Bool) : EnvD → R D := fun env => match env[i]? with
  | some (.val (.raw (.ref x))) => if x = a then .ok (.bl b) else .bad
  | _ => .bad
theorem pd_isE {X : Cx} {cls : Exc → Addr} {W : WX} {a : Addr} {oe : Obj} {pn : List (Addr × Obj)} {c d : Exc} {i : Nat} {n x : Str} {p p2 p3 pos : Pos} {exs : List Exc} (xf : ExcF X.K cls exs) (hc : c ∈ exs) (hdx : d ∈ exs) (hz : Zc (.ref (cls c)) none oe) (hf : ∃ vs, oe.data = .fields vs)
    (hv : PE (X.suite a ((a, oe) :: pn)) (.Name n p2) (tVar i)) (hg : Gl X "isinstance") (hm : X.mg "isinstance" = none) (hx : Gl X x) (hxm : X.mg x = some (.ref (cls d))) (hd : (x == ("__debug__" : Str)) = false := by decide)
    (hs : starEach [.Name n p2, .Name x p3] X.env = (false, eval (.Name n p2) X.env) :: starEach [.Name x p3] X.env := by rfl) (hs2 : starEach [.Name x p3] X.env = (false, eval (.Name x p3) X.env) :: starEach [] X.env := by rfl) (hpl : (backTo pos (starEach [.Name x p3] X.env)).any (·.1) = false := by rfl) :
    PDE (X.suite a ((a, oe) :: pn)) cls W (pV X.K) (.Call (.Name "isinstance" p) [.Name n p2, .Name x p3] [] pos) (isE i a (excLe c d)) :=
  pe_imp (pe_callB (call_isE (xf.c c hc) hz hf) hg hm (by decide +kernel) (pa_cons hv (pa_cons (pe_glob (X := X.suite a ((a, oe) :: pn)) (v := .ref (cls d)) hx hxm rfl hd) pa_nil hs2) hs) (by decide) (by decide) hs hpl) fun σ H Q ⟨H0, F, env, ea, g⟩ => by
    unfold isE at g
    split at g
    · rename_i z q
      split at g
      · rename_i e
        subst e
        obtain ⟨v, h1, h2⟩ := ea.at_ i _ q
        cases h2
        refine ⟨.ref z, getD_some h1, .ref (cls d), .ref (cls d), excLe c d, rfl, fun u r => ?_, xf.kit hc hdx, g _ F H (Ext.refl ea.fh) (.bl _)⟩
        cases r; rfl
      · exact g.elim
    · exact g.elim
theorem isE_at {i : Nat} {a : Addr} {b : Bool} {e : EnvD} (h : i < e.length) : isE i a b (e.set i (.val (.raw (.ref a)))) = .ok (.bl b) := by
  unfold isE
  rw [List.getElem?_set_self h]
  simp
theorem isE_no {i : Nat} {a : Addr} {b : Bool} {e : EnvD} (h : ¬ i < e.length) : isE i a b (e.set i (.val (.raw (.ref a)))) = .bad := by
  unfold isE
  rw [List.getElem?_eq_none (by simpa using h)]
theorem isE_at2 {i j : Nat} {a : Addr} {b : Bool} {e : EnvD} {s : Sl} (hij : j ≠ i) (h : i < e.length) : isE i a b ((e.set i (.val (.raw (.ref a)))).set j s) = .ok (.bl b) := by
  unfold isE
  rw [List.getElem?_set_ne hij, List.getElem?_set_self h]
  simp
/-! ### try .. except PaneError as e: what returns -/
def tryR (i : Nat) (Hd : Addr → Exc → EnvD → Out) (c : Exc) (e : EnvD) : Out := match Hd 0 c (e.set i (.val (.raw (.ref 0)))) with
  | .ret d => .ret d
  | _ => .bad
def tryS (exs : List Exc) (i : Nat) (G : EnvD → Out) (Hd : Addr → Exc → EnvD → Out) : EnvD → Out := fun env => match G env with
  | .err c e => if c ∈ exs then tryR i Hd c e else .bad
  | .next e => .next e
  | .brk e => .brk e
  | .cont e => .cont e
  | .ret d => .ret d
  | .bad => .bad
theorem pds_try {exs : List Exc} {X : Cx} {cls : Exc → Addr} {W : WX} {x n : Str} {i : Nat} {body suite : List Stmt} {b₀ : Stmt} {np pos pos' : Pos} {G : EnvD → Out} {Hd : Addr → Exc → EnvD → Out}
    (hs : X.stack = X.env :: X.outer) (hf : X.env.frame = some X.env.locals) (hN : X.N.Nodup) (hi : X.N[i]? = some n) (hln : X.env.kindOf n = some .local) (xf : ExcF X.K cls exs) (hpe : .paneError ∈ exs) (hx : Gl X x) (hxm : X.mg x = some (.ref (cls .paneError))) (tk : Takes X W)
    (hb : ∀ (W' : WX) (pn : List (Addr × Obj)) (xe : Value → Shared → Prop), Takes (X.tr pn xe) W' → PassesOwn (model X.prog X.w) X.A X.env xe → PDSs (X.tr pn xe) cls W' body G)
    (hu : ∀ (a : Addr) (c : Exc) (e : EnvD) (d : D), Hd 0 c (e.set i (.val (.raw (.ref 0)))) = .ret d → Hd a c (e.set i (.val (.raw (.ref a)))) = .ret d)
    (hsu : ∀ (c : Exc), c ∈ exs → ∀ (a : Addr) (oe : Obj) (pn : List (Addr × Obj)), Zc (.ref (cls c)) none oe → (∃ vs, oe.data = .fields vs) → PDSs (X.suite a ((a, oe) :: pn)) cls W0 (b₀ :: suite) (Hd a c)) (hd : (x == ("__debug__" : Str)) = false := by decide) :
    PDS X cls W (.Try body [.ExceptHandler (some (.Name x np)) (some n) (b₀ :: suite) pos'] [] [] pos) (tryS exs i G Hd) :=
  ps_imp (ps_try_as (tb := fun W' => tS X.K cls W' G) (ts := fun a cv d D σ H => ∃ c, c ∈ exs ∧ cv = .ref (cls c) ∧ d = none ∧ tS X.K cls W0 (Hd a c) D σ H) (Wout := W) hs hf hN hi hln ⟨hx, hd, .inl hxm⟩ tk
    (fun W' pn xe tk' hp => hb W' pn xe tk' hp)
    (fun a oe cv d pn hz hfd => ⟨fun pins s σ H D I ⟨c, hc, e1, e2, h⟩ => by
      subst e1 e2
      exact (hsu c hc a oe pn hz hfd).run pins s σ H D I h⟩)) fun D σ H ⟨H0, F0, env, F, z, ea, g⟩ => by
    refine ⟨H0, F0, env, F, z, ea, ?_⟩
    unfold tryS at g
    cases q : G env with
    | err c e =>
      rw [q] at g
      have g : GoS X.K cls W F0 H0 F (if c ∈ exs then tryR i Hd c e else .bad) D := g
      split at g
      rotate_left
      · exact g.elim
      rename_i hc
      intro σ' F' H' x' s' ea'
      refine ⟨true, by rw [xf.m c hc .paneError hpe]; simp [excLe], fun _ a ha => ⟨c, hc, rfl, rfl, H0, F0, e.set i (.val (.raw (.ref a))), F', x', ea'.setV i (.raw _), ?_⟩, fun h => by cases h⟩
      have g : GoS X.K cls W F0 H0 F (tryR i Hd c e) D := g
      unfold tryR at g
      split at g
      · rename_i d w
        rw [hu a c e d w]
        exact fun v F1 H1 y1 y2 r => g v F1 H1 y1 (s'.trans y2) r
      · exact g.elim
    | next e => rw [q] at g; exact g
    | brk e => rw [q] at g; exact g
    | cont e => rw [q] at g; exact g
    | ret e => rw [q] at g; exact g
    | bad => rw [q] at g; exact g
theorem getB_self {e : EnvD} {j : Nat} {v : D} (h : j < e.length) : getB j (e.set j (.val v)) = .ok v := by
  unfold getB
  rw [List.getElem?_set_self h]
theorem getV_self {e : EnvD} {j : Nat} {v : D} (h : j < e.length) : getV j (e.set j (.val v)) = .ok v := by
  unfold getV
  rw [List.getElem?_set_self h]
theorem getB_out {e : EnvD} {j : Nat} (h : ¬ j < e.length) : getB j e = .bad := by
  unfold getB
  rw [List.getElem?_eq_none (by omega)]
theorem getV_out {e : EnvD} {j : Nat} (h : ¬ j < e.length) : getV j e = .bad := by
  unfold getV
  rw [List.getElem?_eq_none (by omega)]
@[simp] theorem u_catL (xs ys : List D) : catD (.lst xs) (.lst ys) = if small (xs.length + ys.length) = true then some (xs ++ ys) else none := nr rfl
theorem bindS_ret {r : R D} {env : EnvD} {x : D} : (bindS r env fun d => .ret d) = .ret x ↔ r = .ok x := by cases r <;> simp [bindS]
/-! ### the head, with what is asked of the exception classes -/
def obsE (n : Nat) (fa : List He.Fa) (fn : List He.DefD) (ex : PySem.W.Frag → Bool) (g : Addr → Option Obj) : He.AlD × Bool := (He.obsDG n fa fn g, ex (He.frG g (He.asD g n)))
def hookE (n : Nat) (fa : List He.Fa) (fn : List He.DefD) (ex : PySem.W.Frag → Bool) : PySem.W.Hook where
  α := He.AlD × Bool
  obs := fun s => obsE n fa fn ex s.heap.get?
  val := fun _ => (He.valD fn, true)
  says := fun _ h => ∃ K : PySem.W.Frag, K.In h ∧ He.SaysD fa fn K ∧ ex K = true
  of := fun _ _ e => ⟨_, He.frG_in, congrArg (fun z : He.AlD × Bool => z.1) e, congrArg (fun z : He.AlD × Bool => z.2) e⟩
  keeps := fun _ _ _ ⟨K, hK, c, d⟩ k => ⟨K, PySem.W.Frag.In.keeps hK k, c, d⟩
theorem obsE_eq {n : Nat} {fa : List He.Fa} {fn : List He.DefD} {ex : PySem.W.Frag → Bool} {g : Addr → Option Obj} {s : Shared} (h : ∀ a, g a = s.heap.get? a) : obsE n fa fn ex g = (hookE n fa fn ex).obs s := by
  have e : g = s.heap.get? := funext h
  rw [e] <;> rfl
end PD

set_option maxHeartbeats 4000000
namespace PD
open PySem PySem.Spec PyProof.Rows L2
/-! ### d[k] of a dict -/
def dixD : D → D → Option D
  | .dic ks vs, .tup r => (match toKeys r with
    | some _ => dFind ks vs (.tup r)
    | none => none)
  | .dic ks vs, .int i => dFind ks vs (.int i)
  | _, _ => none
theorem dFind_kt {r : List D} : ∀ {kvs : List (Key × V)} {vs : List D}, dFind (kvs.map fun p => kD p.1) vs (.tup r) = none
  | [], vs => by simp [dFind]
  | p :: ps, [] => by simp [dFind]
  | p :: ps, v :: vs => by
    have : keyEq (kD p.1) (.tup r) = false := by rcases p with ⟨k, _⟩; cases k <;> rfl
    simp [dFind, this, dFind_kt (kvs := ps)]
theorem dFind_ti {j : Int} : ∀ {kvs : List (List Key × V)} {vs : List D}, dFind (kvs.map fun p => D.tup (p.1.map kD)) vs (.int j) = none
  | [], vs => by simp [dFind]
  | p :: ps, [] => by simp [dFind]
  | p :: ps, v :: vs => by
    have : keyEq (D.tup (p.1.map kD)) (.int j) = false := rfl
    simp [dFind, this, dFind_ti (kvs := ps)]
theorem dget_k {K : PySem.W.Frag} {F H : Hp} {a : Addr} {kvs : List (Key × V)} {ws : List D} {y : V} {e z : D} (i : Same F H) (rd : Rd H a (.dK kvs)) (r : Reps K F (kvs.map (·.2)) ws) (ry : Rep K F y e) (hz : dixD (.dic (kvs.map fun p => kD p.1) ws) e = some z) : ∃ v, DGet H a y (some v) ∧ Rep K F v z := by
  cases ry with
  | int j =>
    obtain ⟨v, h1, h2⟩ := find_reps (φ := kD) keyEq_k (k := .inl j) r hz
    exact ⟨v, .inl ⟨kvs, .inl j, rd, rfl, h1.symm⟩, h2⟩
  | tup h1 h2 h3 =>
    unfold dixD at hz
    simp only at hz
    split at hz
    · rw [dFind_kt] at hz; cases hz
    · cases hz
  | _ => cases hz
theorem dget_t {K : PySem.W.Frag} {F H : Hp} {a : Addr} {kvs : List (List Key × V)} {ws : List D} {y : V} {e z : D} (i : Same F H) (rd : Rd H a (.dT kvs)) (r : Reps K F (kvs.map (·.2)) ws) (ry : Rep K F y e) (hz : dixD (.dic (kvs.map fun p => D.tup (p.1.map kD)) ws) e = some z) : ∃ v, DGet H a y (some v) ∧ Rep K F v z := by
  cases ry with
  | int j =>
    have hz : dFind (kvs.map fun p => D.tup (p.1.map kD)) ws (.int j) = some z := hz
    rw [dFind_ti] at hz; cases hz
  | @tup b xs ds h1 h2 h3 =>
    unfold dixD at hz
    simp only at hz
    split at hz
    · rename_i k hk
      have := toKeys_eq hk
      subst this
      have e2 : xs = k.map kV := reps_keys h3
      subst e2
      obtain ⟨v, w1, w2⟩ := find_reps (φ := fun k : List Key => D.tup (k.map kD)) keyEq_t (k := k) r hz
      exact ⟨v, .inr ⟨kvs, k, b, rd, rfl, i _ _ h1, w1.symm⟩, w2⟩
    · cases hz
  | _ => cases hz
section
variable {X : Cx} {cls : Exc → Addr} {W : WX} {a b : Expr} {fa fb : EnvD → R D} {pos : Pos}
theorem pd_dget (hu : X.A.units + 1 < cLine) (ha : PDE X cls W (pB X.K) a fa) (hb : PDE X cls W (pV X.K) b fb) (hs : NoSl b) : PDE X cls W (pV X.K) (.Subscript a b pos) (bin dixD fa fb) :=
  pe_imp (pe_dget hu ha hb hs) fun σ H Q ⟨H0, F, env, ea, g⟩ => ⟨H0, F, env, ea, (Go.bind g).imp fun x H1 ⟨F1, d, _, e1, p1, g1⟩ => ⟨H0, F1, env, ea.mono e1, (Go.bind g1).imp fun y H2 ⟨F2, e, _, e2, p2, g2⟩ => by
    obtain ⟨z, hz, g3⟩ := Go.ofO g2
    have p1' : RepB X.K F2 H2 x d := RepB.mono p1 e2.f e2.h
    have key : ∀ (q : Addr) (v : V), x = .ref q → DGet H2 q y (some v) → Rep X.K F2 v z → ∃ a v, x = .ref a ∧ DGet H2 a y (some v) ∧ Q v H2 := fun q v ex dg rv => ⟨q, v, ex, dg, g3 v F2 H2 (Ext.refl e2.i) rv⟩
    rcases p1' with r | ⟨_, _, _, _, rfl, _⟩ | ⟨p, u, t, ks, vs, rfl, rfl, h1, h2⟩
    · cases r with
      | dicK rd l r =>
        obtain ⟨v, w1, w2⟩ := dget_k e2.i (rd.mono e2.i) r p2 hz
        exact key _ v rfl w1 w2
      | dicT rd kl l r =>
        obtain ⟨v, w1, w2⟩ := dget_t e2.i (rd.mono e2.i) r p2 hz
        exact key _ v rfl w1 w2
      | _ => cases hz
    · cases hz
    · cases h2 with
      | k l r =>
        obtain ⟨v, w1, w2⟩ := dget_k e2.i (.inl h1) r p2 hz
        exact key _ v rfl w1 w2
      | t kl l r =>
        obtain ⟨v, w1, w2⟩ := dget_t e2.i (.inl h1) r p2 hz
        exact key _ v rfl w1 w2⟩⟩
end
/-! ### a comprehension over the keys of a frozen dict -/
def isDic : HO → Bool
  | .dK _ => true
  | .dT _ => true
  | _ => false
/-- a dict's entry is taken for another that reads alike -/
theorem swap_of {K : PySem.W.Frag} {F : Hp} {d : Addr} {u u1 u2 : HO} {od : Obj} (hu : isDic u = true) (h1 : F d = some u1) (c : (u1 = u ∧ u2 = .frz od u) ∨ (u1 = .frz od u ∧ u2 = u)) :
    (∀ {v : V} {x : D}, Rep K F v x → Rep K (upd F d u2) v x) ∧ ∀ {vs : List V} {xs : List D}, Reps K F vs xs → Reps K (upd F d u2) vs xs := by
  have n1 : ∀ a w, F a = some w → w ≠ u1 → upd F d u2 a = some w := fun a w e ne => by
    by_cases q : a = d
    · subst q; rw [h1] at e; cases e; exact absurd rfl ne
    · rw [upd_ne q]; exact e
  have nt : ∀ xs, (HO.tup xs) ≠ u1 := fun xs e => by rcases c with ⟨e1, _⟩ | ⟨e1, _⟩ <;> rw [e1] at e <;> cases e <;> cases hu
  have nl : ∀ xs, (HO.lst xs) ≠ u1 := fun xs e => by rcases c with ⟨e1, _⟩ | ⟨e1, _⟩ <;> rw [e1] at e <;> cases e <;> cases hu
  have nfl : ∀ o xs, (HO.frz o (.lst xs)) ≠ u1 := fun o xs e => by
    rcases c with ⟨e1, _⟩ | ⟨e1, _⟩
    · rw [e1] at e; cases e; cases hu
    · rw [e1] at e; cases e; cases hu
  have ht : ∀ a xs, F a = some (.tup xs) → upd F d u2 a = some (.tup xs) := fun a xs e => n1 a _ e (nt xs)
  have hl : ∀ a xs, F a = some (.lst xs) → upd F d u2 a = some (.lst xs) := fun a xs e => n1 a _ e (nl xs)
  have hs : ∀ a xs, SqL K F a xs → SqL K (upd F d u2) a xs := fun a xs e => by
    rcases e with (e | ⟨o, e⟩) | e
    · exact .inl (.inl (hl _ _ e))
    · exact .inl (.inr ⟨o, n1 a _ e (nfl o xs)⟩)
    · exact .inr e
  have hR : ∀ a w, isDic w = true → Rd F a w → Rd (upd F d u2) a w := fun a w hw e => by
    by_cases q : a = d
    · subst q
      have ew : w = u := by
        rcases e with e | ⟨o, e⟩
        · rw [h1] at e
          cases e
          rcases c with ⟨e1, _⟩ | ⟨e1, _⟩
          · exact e1
          · rw [e1] at hw; cases hw
        · rw [h1] at e
          cases e
          rcases c with ⟨e1, _⟩ | ⟨e1, _⟩
          · rw [← e1] at hu; cases hu
          · cases e1; rfl
      subst ew
      rcases c with ⟨_, e2⟩ | ⟨_, e2⟩
      · exact .inr ⟨od, by rw [upd_same, e2]⟩
      · exact .inl (by rw [upd_same, e2])
    · rcases e with e | ⟨o, e⟩
      · exact .inl (by rw [upd_ne q]; exact e)
      · exact .inr ⟨o, by rw [upd_ne q]; exact e⟩
  exact ⟨fun h => h.swap ht hl hs (fun a kvs => hR a _ rfl) (fun a kvs => hR a _ rfl), fun h => h.swap ht hl hs (fun a kvs => hR a _ rfl) (fun a kvs => hR a _ rfl)⟩
theorem EnvAt.lockV {K : PySem.W.Frag} {H0 F H : Hp} {env : EnvD} {σ : L2.St} (h : EnvAt K H0 env σ F H) {d : Addr} {u : HO} (hu : isDic u = true) (hd : F d = some u) (od : Obj) : EnvAt K H0 env σ (upd F d (.frz od u)) (upd H d (.frz od u)) := by
  obtain ⟨w1, w2⟩ := swap_of (K := K) hu hd (.inl ⟨rfl, rfl⟩ : (u = u ∧ HO.frz od u = .frz od u) ∨ _)
  have w3 : ∀ {v : HO} {t : Bool} {ks vs : List D}, DicAt K F v t ks vs → DicAt K (upd F d (.frz od u)) v t ks vs := fun z => by
    cases z with
    | k l r => exact .k l (w2 r)
    | t c l r => exact .t c l (w2 r)
  have nd : ∀ p, F p = none → p ≠ d := fun p q e => by rw [e, hd] at q; cases q
  refine ⟨h.fh.upd2, h.len, fun j s q => ?_, h.ap⟩
  have y := h.at_ j s q
  cases s with
  | no => trivial
  | val x => obtain ⟨v, y1, y2⟩ := y; exact ⟨v, y1, w1 y2⟩
  | own ds =>
    obtain ⟨p, xs, y1, y2, y3, y4, y5, y6⟩ := y
    exact ⟨p, xs, y1, y2, by rw [upd_ne (nd p y3)]; exact y3, by rw [upd_ne (nd p y3)]; exact y4, y5, w2 y6⟩
  | ownd _ ks vs =>
    obtain ⟨p, v, y1, y2, y3, y4, y5⟩ := y
    exact ⟨p, v, y1, y2, by rw [upd_ne (nd p y3)]; exact y3, by rw [upd_ne (nd p y3)]; exact y4, w3 y5⟩
def lcVF (i : Nat) (p : Pat) (vs : List Nat) (t : EnvD → R Bool) (f : EnvD → R D) : EnvD → R (List D) := fun env => match env[i]? with
  | some (.val (.dic ks _)) => noErr (lcL p vs t f ks env)
  | _ => .bad
theorem walk_dk {K : PySem.W.Frag} {F H : Hp} {d : Addr} {od : Obj} {kvs : List (Key × V)} (l : kvs.length ≤ sizeLine) (dL : H d = some (.frz od (.dK kvs))) : WalkD K true (Itk d od kvs) F H (kvs.map fun p => kD p.1) :=
  ⟨by simpa using l, fun F1 H1 a1 a2 a3 => ⟨fun j x hx => by
    have hj : j < kvs.length := by have := (List.getElem?_eq_some_iff.mp hx).1; simpa using this
    refine ⟨⟨a3 rfl _ _ dL, hj⟩, fun y H2 ⟨e1, k, v, e2, e3⟩ => ⟨F1, by rw [e1]; exact Ext.refl a2, ?_⟩⟩
    rw [List.getElem?_map, e2] at hx
    cases hx
    rw [e3]
    exact kD_rep k, a3 rfl _ _ dL, by simp⟩⟩
theorem walk_dt {K : PySem.W.Frag} {F H : Hp} {d : Addr} {od : Obj} {kvs : List (List Key × V)} (kl : ∀ q ∈ kvs, q.1.length ≤ sizeLine) (l : kvs.length ≤ sizeLine) (dL : H d = some (.frz od (.dT kvs))) : WalkD K true (Itkt d od kvs) F H (kvs.map fun p => D.tup (p.1.map kD)) :=
  ⟨by simpa using l, fun F1 H1 a1 a2 a3 => ⟨fun j x hx => by
    have hj : j < kvs.length := by have := (List.getElem?_eq_some_iff.mp hx).1; simpa using this
    refine ⟨⟨a3 rfl _ _ dL, hj⟩, fun y H2 ⟨e1, k, v, qa, e2, e3, e4⟩ => ?_⟩
    rw [List.getElem?_map, e2] at hx
    cases hx
    subst e3 e1
    exact ⟨tupsF F1 H2, tupsF_ext a2, .tup (tupsF_at e4) (by rw [List.length_map]; exact kl _ (List.mem_of_getElem? e2)) (kDs_rep k)⟩, a3 rfl _ _ dL, by simp⟩⟩
section
variable {X : Cx} {cls : Exc → Addr} {W : WX}
theorem pe_or {e : Expr} {t u : TE} (h : PE X e t) (g : PE X e u) : PE X e (fun σ H Q => t σ H Q ∨ u σ H Q) := ⟨fun pins s σ H Q I q => q.elim (h.run pins s σ H Q I) (g.run pins s σ H Q I)⟩
theorem pd_lcV {i : Nat} {x : Str} {px : Pos} {elt tg : Expr} {ifs : List Expr} {scope : Scope} {own : List (Str × Nat)} {p : Pat} {t : EnvD → R Bool} {f : EnvD → R D} {pos : Pos} (hc : X.calm = true) (hN : X.N.Nodup) (hv : PE X (.Name x px) (tVar i)) (ok : BlkOk X.N X.env.scope scope own)
    (hg : ∀ (s : Shared) (H : Hp) (C : Addr) (cl : List (Str × Addr)) (fp : List Addr), PG (X.blk s H scope (compEnvC scope cl C X.env) fp) tg (gPat X.K p))
    (ht : ∀ (s : Shared) (H : Hp) (C : Addr) (cl : List (Str × Addr)) (fp : List Addr), PTs (X.blk s H scope (compEnvC scope cl C X.env) fp) ifs (tG X.K cls W0 pT t))
    (he : ∀ (s : Shared) (H : Hp) (C : Addr) (cl : List (Str × Addr)) (fp : List Addr), PE (X.blk s H scope (compEnvC scope cl C X.env) fp) elt (tG X.K cls W0 (pV X.K) f))
    (hp : (p.ix.all fun i => (own.map (·.2)).contains i) = true) (hs : ∀ z, foldedSetIterable (.Name x px) X.env z = pure z := by intro _; rfl) :
    PDE X cls W (pN X.K) (.ListComp elt [⟨tg, .Name x px, ifs, 0⟩] scope pos) (lcVF i p (own.map (·.2)) t f) := by
  have base := pe_lc hc hN (pi_keys hv) ok hg ht he hs (pos := pos)
  refine pe_imp (pe_or base (pe_lock base)) fun σ H Q ⟨H0, F, env, ea, g⟩ => ?_
  unfold lcVF at g
  cases q : env[i]? with
  | none => rw [q] at g; exact g.elim
  | some s =>
    rw [q] at g
    cases s with
    | no => exact g.elim
    | own ds => exact g.elim
    | ownd _ _ _ => exact g.elim
    | val dd =>
      cases dd with
      | dic ks ws =>
        have g0 : Go cls (pN X.K) W σ F H (noErr (lcL p (own.map (·.2)) t f ks env)) Q := g
        obtain ⟨v, h1, h2⟩ := ea.at_ i _ q
        -- with the dict locked
        have lock : ∀ (d : Addr) (u : HO), isDic u = true → F d = some u → v = .ref d → (∀ od F' H', H' d = some (.frz od u) → Same F' H' → ((∃ kvs, H' d = some (.frz od (.dK kvs)) ∧ WalkD X.K true (Itk d od kvs) F' H' ks) ∨ ∃ kvs, H' d = some (.frz od (.dT kvs)) ∧ WalkD X.K true (Itkt d od kvs) F' H' ks)) →
            tLockE (tLc (iKeys (tVar i)) (gPat X.K p) (tG X.K cls W0 pT t) (tG X.K cls W0 (pV X.K) f) (own.map (·.2))) σ H Q := fun d u hu hd ev wk => by
          subst ev
          have hH := ea.fh _ _ hd
          refine ⟨d, u, hH, (by cases u <;> first | trivial | (cases hu)), fun od => ?_⟩
          have eaL := ea.lockV hu hd od
          have dF : upd F d (.frz od u) d = some (.frz od u) := upd_same
          have dL : upd H d (.frz od u) d = some (.frz od u) := upd_same
          have gL : Go cls (pN X.K) W σ (upd F d (.frz od u)) (upd H d (.frz od u)) (lcF p (own.map (·.2)) t f (fun _ => .ok ks) env) (fun v H' => H' d = some (.frz od u) ∧ Q v (upd H' d u)) := by
            show Go cls (pN X.K) W σ (upd F d (.frz od u)) (upd H d (.frz od u)) (lcL p (own.map (·.2)) t f ks env) _
            cases r : lcL p (own.map (·.2)) t f ks env with
            | ok T =>
              rw [r] at g0
              rintro v F' H' x ⟨a, xs, ev, n1, n2, n3, n4, n5⟩
              have hd' := x.h _ _ dL
              have fd' := x.f _ _ dF
              have nad : a ≠ d := fun e => by rw [e, dL] at n1; cases n1
              obtain ⟨_, sw⟩ := swap_of (K := X.K) (F := F') (u2 := u) hu fd' (.inr ⟨rfl, rfl⟩)
              refine ⟨hd', g0 v (upd F' d u) _ ⟨fun b o hb => ?_, fun b o hb => ?_, x.i.upd2, fun b o hb m hn => ?_⟩ ⟨a, xs, ev, by rw [upd_ne nad] at n1; exact n1, by rw [upd_ne nad]; exact n2, by rw [upd_ne nad]; exact n3, n4, sw n5⟩⟩
              · by_cases e : b = d
                · subst e; rw [upd_same]; rw [hd] at hb; exact hb
                · rw [upd_ne e]; exact x.f b o (by rw [upd_ne e]; exact hb)
              · by_cases e : b = d
                · subst e; rw [upd_same]; rw [hH] at hb; exact hb
                · rw [upd_ne e]; exact x.h b o (by rw [upd_ne e]; exact hb)
              · by_cases e : b = d
                · subst e; rw [hd]; exact fun z => by cases z
                · rw [upd_ne e] at hn
                  have := x.n b o (by rw [upd_ne e]; exact hb) m hn
                  rw [upd_ne e] at this
                  exact this
            | err c => rw [r] at g0; exact g0.elim
            | bad => rw [r] at g0; exact g0.elim
          obtain ⟨H0', F', env', ea', gg⟩ := lc_read (bb := true) (K := X.K) (fun i hi => by simpa using List.all_eq_true.mp hp i hi) (⟨H0, upd F d (.frz od u), env, eaL, gL⟩ : tG X.K cls W (pN X.K) (lcF p (own.map (·.2)) t f (fun _ => .ok ks)) σ (upd H d (.frz od u)) _)
          refine ⟨.ref d, getD_some h1, d, od, rfl, ?_⟩
          rcases wk od F' _ dL ea'.fh with ⟨kvs, y1, y2⟩ | ⟨kvs, y1, y2⟩
          · exact .inl ⟨kvs, y1, gg (Itk d od kvs) F' _ (Ext.refl ea'.fh) y2⟩
          · exact .inr ⟨kvs, y1, gg (Itkt d od kvs) F' _ (Ext.refl ea'.fh) y2⟩
        -- as it is
        have free : ∀ (d : Addr) (od : Obj), v = .ref d → (∀ F' , Same F' H → ((∃ kvs, H d = some (.frz od (.dK kvs)) ∧ WalkD X.K true (Itk d od kvs) F' H ks) ∨ ∃ kvs, H d = some (.frz od (.dT kvs)) ∧ WalkD X.K true (Itkt d od kvs) F' H ks)) →
            tLc (iKeys (tVar i)) (gPat X.K p) (tG X.K cls W0 pT t) (tG X.K cls W0 (pV X.K) f) (own.map (·.2)) σ H Q := fun d od ev wk => by
          subst ev
          have gL : Go cls (pN X.K) W σ F H (lcF p (own.map (·.2)) t f (fun _ => .ok ks) env) Q := by
            show Go cls (pN X.K) W σ F H (lcL p (own.map (·.2)) t f ks env) _
            cases r : lcL p (own.map (·.2)) t f ks env with
            | ok T => rw [r] at g0; exact g0
            | err c => rw [r] at g0; exact g0.elim
            | bad => rw [r] at g0; exact g0.elim
          obtain ⟨H0', F', env', ea', gg⟩ := lc_read (bb := true) (K := X.K) (fun i hi => by simpa using List.all_eq_true.mp hp i hi) (⟨H0, F, env, ea, gL⟩ : tG X.K cls W (pN X.K) (lcF p (own.map (·.2)) t f (fun _ => .ok ks)) σ H _)
          refine ⟨.ref d, getD_some h1, d, od, rfl, ?_⟩
          rcases wk F' ea'.fh with ⟨kvs, y1, y2⟩ | ⟨kvs, y1, y2⟩
          · exact .inl ⟨kvs, y1, gg (Itk d od kvs) F' _ (Ext.refl ea'.fh) y2⟩
          · exact .inr ⟨kvs, y1, gg (Itkt d od kvs) F' _ (Ext.refl ea'.fh) y2⟩
        cases h2 with
        | @dicK d kvs vs rd l r =>
          rcases rd with rd | ⟨od, rd⟩
          · exact .inr (lock d _ rfl rd rfl fun od F' H' y1 _ => .inl ⟨kvs, y1, walk_dk l y1⟩)
          · exact .inl (free d od rfl fun F' _ => .inl ⟨kvs, ea.fh _ _ rd, walk_dk l (ea.fh _ _ rd)⟩)
        | @dicT d kvs vs rd kl l r =>
          rcases rd with rd | ⟨od, rd⟩
          · exact .inr (lock d _ rfl rd rfl fun od F' H' y1 _ => .inr ⟨kvs, y1, walk_dt kl l y1⟩)
          · exact .inl (free d od rfl fun F' _ => .inr ⟨kvs, ea.fh _ _ rd, walk_dt kl l (ea.fh _ _ rd)⟩)
      | non => exact g.elim
      | bl _ => exact g.elim
      | int _ => exact g.elim
      | str _ => exact g.elim
      | tup _ => exact g.elim
      | lst _ => exact g.elim
      | scr _ => exact g.elim
      | raw _ => exact g.elim
end
end PD

set_option maxHeartbeats 4000000
namespace PD
open PySem PySem.Spec PyProof.Rows L2
/-! ### texts: join, split, int -/
def strsOf : List D → Option (List Str)
  | [] => some []
  | .str x :: ds => (strsOf ds).map (x :: ·)
  | _ => none
theorem strsOf_eq : ∀ {ds : List D} {ys : List Str}, strsOf ds = some ys → ds = ys.map D.str
  | [], ys, h => by cases h; rfl
  | d :: ds, ys, h => by
    cases d with
    | str x =>
      obtain ⟨r, h1, h2⟩ := Option.map_eq_some_iff.mp (show (strsOf ds).map (x :: ·) = some ys from h)
      rw [← h2, List.map_cons, ← strsOf_eq h1]
    | _ => cases h
theorem reps_strs {K : PySem.W.Frag} {F : Hp} : ∀ {ys : List Str} {vs : List V}, Reps K F vs (ys.map D.str) → vs = ys.map V.str
  | [], _, h => by cases h; rfl
  | y :: ys, _, h => by
    cases h with
    | cons a b => cases a; rw [reps_strs b]; rfl
theorem strs_reps {K : PySem.W.Frag} {F : Hp} : ∀ ys : List Str, Reps K F (ys.map V.str) (ys.map D.str)
  | [] => .nil
  | y :: ys => .cons (.str y) (strs_reps ys)
def joinD (a : Str) : D → Option D
  | .lst ds => match strsOf ds with
    | some ys => if (ys.map (·.length)).sum + ys.length * a.length ≤ 16777216 then some (.str (Txt.join a ys)) else none
    | none => none
  | _ => none
def splitD (a : Str) : D → Option (List D)
  | .str b => if (b.length == 0) = false ∧ a.length + 2 ≤ sizeLine ∧ (Txt.split a b).length ≤ sizeLine then some ((Txt.split a b).map D.str) else none
  | _ => none
/-- a method of a text -/
def metS {α : Type} (f : Str → D → Option α) (fo fe : EnvD → R D) : EnvD → R α := fun env => (fo env).bind fun d => match d with
  | .str a => (fe env).bind fun y => R.ofO (f a y)
  | _ => .bad
def intSD : List D → Option D
  | [.str a] => match PySem.intText? a with
    | some n => if a.length ≤ 640 then some (.int n) else none
    | none => none
  | _ => none
theorem rep_str {K : PySem.W.Frag} {F : Hp} {v : V} {a : Str} (h : Rep K F v (.str a)) : v = .str a := by cases h; rfl
section
variable {X : Cx} {cls : Exc → Addr} {W : WX} {o e : Expr} {fo fe : EnvD → R D} {apos pos : Pos}
theorem pd_join (ho : PDE X cls W (pV X.K) o fo) (he : PDE X cls W (pB X.K) e fe) (hs : starEach [e] X.env = [(false, eval e X.env)] := by rfl) (hbase : attributeBase o "join" X.env (eval o X.env) = eval o X.env := by rfl) (hline : (apos.endLine == pos.line) = true := by rfl) :
    PDE X cls W (pV X.K) (.Call (.Attribute o "join" apos) [e] [] pos) (metS joinD fo fe) :=
  pe_imp (pe_join ho he hs hbase hline) fun σ H Q ⟨H0, F, env, ea, g⟩ => ⟨H0, F, env, ea, (Go.bind g).imp fun x H1 ⟨F1, d, _, e1, p1, g1⟩ => by
    cases d with
    | str a =>
      refine ⟨⟨a, rep_str p1⟩, H0, F1, env, ea.mono e1, (Go.bind g1).imp fun y H2 ⟨F2, dy, _, e2, p2, g2⟩ => ?_⟩
      obtain ⟨z, hz, g3⟩ := Go.ofO g2
      unfold joinD at hz
      split at hz
      · rename_i ds
        split at hz
        · rename_i ys hy
          split at hz
          · rename_i hl
            cases hz
            have := strsOf_eq hy
            subst this
            obtain ⟨l, us, ey, h1, h2, h3⟩ := repB_lst e2.i p2
            rw [reps_strs h3] at h1
            exact ⟨a, l, ys, rep_str (Rep.mono p1 e2.f), by rw [ey], .inl (SqL.of h1), hl, g3 _ F2 H2 (Ext.refl e2.i) (.str _)⟩
          · cases hz
        · cases hz
      · cases hz
    | _ => exact g1.elim⟩
theorem pdn_split (ho : PDE X cls W (pV X.K) o fo) (he : PDE X cls W (pV X.K) e fe) (hs : starEach [e] X.env = [(false, eval e X.env)] := by rfl) (hbase : attributeBase o "split" X.env (eval o X.env) = eval o X.env := by rfl) (hline : (apos.endLine == pos.line) = true := by rfl) :
    PDE X cls W (pN X.K) (.Call (.Attribute o "split" apos) [e] [] pos) (metS splitD fo fe) :=
  pe_imp (pe_split ho he hs hbase hline) fun σ H Q ⟨H0, F, env, ea, g⟩ => ⟨H0, F, env, ea, (Go.bind g).imp fun x H1 ⟨F1, d, _, e1, p1, g1⟩ => by
    cases d with
    | str a =>
      refine ⟨⟨a, rep_str p1⟩, H0, F1, env, ea.mono e1, (Go.bind g1).imp fun y H2 ⟨F2, dy, _, e2, p2, g2⟩ => ?_⟩
      obtain ⟨z, hz, g3⟩ := Go.ofO g2
      cases dy with
      | str b =>
        have hz : (if (b.length == 0) = false ∧ a.length + 2 ≤ sizeLine ∧ (Txt.split a b).length ≤ sizeLine then some ((Txt.split a b).map D.str) else none) = some z := hz
        by_cases hl : (b.length == 0) = false ∧ a.length + 2 ≤ sizeLine ∧ (Txt.split a b).length ≤ sizeLine
        · rw [if_pos hl] at hz
          cases hz
          have ey : y = .str b := rep_str p2
          refine ⟨a, b, rep_str (Rep.mono p1 e2.f), by rw [ey], hl.1, hl.2.1, fun p hp => ?_⟩
          exact g3 _ F2 _ (Ext.newH e2.i hp) ⟨p, _, rfl, hp, e2.i.free hp, upd_same, by rw [List.length_map]; exact hl.2.2, strs_reps _⟩
        · rw [if_neg hl] at hz; cases hz
      | _ => cases hz
    | _ => exact g1.elim⟩
end
theorem cs_intS {K : PySem.W.Frag} : CallSem (pV K) K (fun xs H Q => ∃ a n, xs = [.str a] ∧ PySem.intText? a = some n ∧ a.length ≤ 640 ∧ Q (.int n) H) intSD := fun F H xs ds z Q i h hz k => by
  unfold intSD at hz
  split at hz
  · rename_i a
    split at hz
    · rename_i n hn
      split at hz
      · rename_i hl
        cases hz
        obtain ⟨v, rfl, r⟩ := repBs1 h
        have ev : v = .str a := by
          rcases r with r | ⟨_, _, _, _, q, _⟩ | ⟨_, _, _, _, _, _, q, _⟩
          · exact rep_str r
          · cases q
          · cases q
        exact ⟨a, n, by rw [ev], hn, hl, k _ F H (Ext.refl i) (.int _)⟩
      · cases hz
    · cases hz
  · cases hz

def strID : List D → Option D
  | [.int i] => if i.natAbs.log2 < 1920 then some (.str (toString i)) else none
  | _ => none
theorem repB_str {K : PySem.W.Frag} {F H : Hp} {v : V} {a : Str} (r : RepB K F H v (.str a)) : v = .str a := by
  rcases r with r | ⟨_, _, _, _, q, _⟩ | ⟨_, _, _, _, _, _, q, _⟩
  · exact rep_str r
  · cases q
  · cases q
theorem cs_strI {K : PySem.W.Frag} : CallSem (pV K) K (fun xs H Q => ∃ i, xs = [.int i] ∧ i.natAbs.log2 < 1920 ∧ Q (.str (toString i)) H) strID := fun F H xs ds z Q i h hz k => by
  unfold strID at hz
  split at hz
  · rename_i n
    split at hz
    · rename_i hl
      cases hz
      obtain ⟨v, rfl, r⟩ := repBs1 h
      exact ⟨n, by rw [repB_int r], hl, k _ F H (Ext.refl i) (.str _)⟩
    · cases hz
  · cases hz
def lenSD : List D → Option D
  | [.str a] => if a.length ≤ sizeLine then some (.int a.length) else none
  | _ => none
theorem cs_lenS {K : PySem.W.Frag} : CallSem (pV K) K (fun xs H Q => ∃ x n, xs = [x] ∧ LenV K x H n ∧ Q (.int n) H) lenSD := fun F H xs ds z Q i h hz k => by
  unfold lenSD at hz
  split at hz
  · rename_i a
    split at hz
    · rename_i hl
      cases hz
      obtain ⟨v, rfl, r⟩ := repBs1 h
      refine ⟨v, a.length, rfl, ?_, k _ F H (Ext.refl i) (.int _)⟩
      rw [repB_str r]
      exact ⟨hl, rfl⟩
    · cases hz
  · cases hz
def inSD : D → D → Option Bool
  | .str a, .str z => match a.cps.toList with
    | [c] => some (decide (c ∈ z.cps.toList))
    | _ => none
  | _, _ => none
theorem os_inS {K : PySem.W.Frag} : OpSemB (pV K) (pV K) (fun x y H Q => ∃ (c : Nat) (z : Str), x = .str ⟨#[c]⟩ ∧ y = .str z ∧ Q (.bl (decide (c ∈ z.cps.toList))) H) inSD := fun S1 S2 F H x y d e z Q i p q hz k => by
  unfold inSD at hz
  split at hz
  · rename_i a b
    split at hz
    · rename_i c hc
      cases hz
      have ea : a = ⟨#[c]⟩ := by
        obtain ⟨cp⟩ := a
        have : cp = #[c] := by
          apply Array.ext'
          exact hc
        rw [this]
      exact ⟨c, b, by rw [rep_str p, ea], rep_str q, k⟩
    · cases hz
  · cases hz
def chrD : D → Option (List D)
  | .str x => if x.cps.size ≤ sizeLine then some (x.cps.toList.map fun c => .str ⟨#[c]⟩) else none
  | _ => none
def chrF (f : EnvD → R D) : EnvD → R (List D) := una chrD f
section
variable {X : Cx} {cls : Exc → Addr} {W : WX} {e a tg : Expr} {f fa : EnvD → R D} {pos p2 : Pos}
theorem pdi_chr (h : PDE X cls W (pV X.K) e f) : PDI X cls W false tg e (chrF f) := pi_imp (pi_str h) fun σ H Q ⟨H0, F, env, ea, g⟩ =>
  ⟨H0, F, env, ea, (Go.bind g).imp fun x H1 ⟨F1, d, _, e1, p1, g1⟩ => by
    obtain ⟨ds, hd, g2⟩ := Go.ofO g1
    cases d with
    | str z =>
      have hd : (if z.cps.size ≤ sizeLine then some (z.cps.toList.map fun c => D.str ⟨#[c]⟩) else none) = some ds := hd
      by_cases hl : z.cps.size ≤ sizeLine
      · rw [if_pos hl] at hd
        cases hd
        refine ⟨z, rep_str p1, g2 _ F1 H1 (Ext.refl e1.i) ⟨by simpa using hl, fun F2 H2 a1 a2 _ => ⟨fun i d hd => ?_, by simp [Its]⟩⟩⟩
        rw [List.getElem?_map] at hd
        obtain ⟨c, hc, e2⟩ := Option.map_eq_some_iff.mp hd
        subst e2
        have hi : z.cps[i]? = some c := by rw [← Array.getElem?_toList]; exact hc
        refine ⟨(Array.getElem?_eq_some_iff.mp hi).1, fun y H3 ⟨e3, c', h1, h2⟩ => ⟨F2, by rw [e3]; exact Ext.refl a2, ?_⟩⟩
        rw [hi] at h1
        cases h1
        rw [h2]; exact .str _
      · rw [if_neg hl] at hd; cases hd
    | _ => cases hd⟩
def cutSD : D → Option Int → Option Int → Option D
  | .str z, lo, hi => if z.length ≤ sizeLine then some (.str (Txt.slice z lo hi)) else none
  | _, _, _ => none
def sliceSF (fa : EnvD → R D) (fl fh : EnvD → R (Option Int)) : EnvD → R D := fun env => (fa env).bind fun x => (fl env).bind fun lo => (fh env).bind fun hi => R.ofO (cutSD x lo hi)
theorem pd_sliceS {lo hi : Option Expr} {fl fh : EnvD → R (Option Int)} (ha : PDE X cls W (pV X.K) a fa) (hl : PDO X cls W lo fl) (hh : PDO X cls W hi fh) : PDE X cls W (pV X.K) (.Subscript a (.Slice lo hi none p2) pos) (sliceSF fa fl fh) :=
  pe_imp (pe_slice C8.sl_txt ha hl hh) fun σ H Q ⟨H0, F, env, ea, g⟩ => ⟨H0, F, env, ea, (Go.bind g).imp fun x H1 ⟨F1, d, _, e1, p1, g1⟩ => ⟨H0, F1, env, ea.mono e1, (Go.bind (P1 := pO) g1).imp fun l H2 ⟨F2, lo', _, e2, q2, g2⟩ => ⟨H0, F2, env, (ea.mono e1).mono e2, (Go.bind (P1 := pO) g2).imp fun u H3 ⟨F3, hi', _, e3, q3, g3⟩ => by
    cases q2; cases q3
    obtain ⟨z, hz, g4⟩ := Go.ofO g3
    cases d with
    | str w =>
      have hz : (if w.length ≤ sizeLine then some (D.str (Txt.slice w l u)) else none) = some z := hz
      by_cases hl : w.length ≤ sizeLine
      · rw [if_pos hl] at hz
        cases hz
        exact ⟨w, rep_str (Rep.mono (Rep.mono p1 e2.f) e3.f), hl, g4 _ F3 H3 (Ext.refl e3.i) (.str _)⟩
      · rw [if_neg hl] at hz; cases hz
    | _ => cases hz⟩⟩⟩
def ixSD : D → D → Option D
  | .str z, .int i => if z.length ≤ sizeLine then (atI z.cps.toList i).map fun c => .str ⟨#[c]⟩ else none
  | _, _ => none
theorem os_ixS {K : PySem.W.Frag} : OpSem (pV K) (pV K) (pV K) rIxS ixSD := fun S1 S2 F H x y d e z Q i p q hz k => by
  unfold ixSD at hz
  split at hz
  · rename_i w j
    split at hz
    · rename_i hl
      obtain ⟨c, hc, e2⟩ := Option.map_eq_some_iff.mp hz
      subst e2
      have ey : y = .int j := by cases q; rfl
      exact ⟨w, j, c, rep_str p, ey, hl, hc, k _ F H (Ext.refl i) (.str _)⟩
    · cases hz
  · cases hz
theorem pe_callS0 {k : Nat} {CX : CXT} {x : Str} {f : Addr} {fd : FuncData} {ps : List Str} {sp : Sp} {E : L2.St → XK} {p : Pos} (F : FnOk X.prog X.w X.K X.mg X.base CX k f fd ps sp) (hr : Room k X.A) (hg : Gl X x) (hm : X.mg x = some (.ref f)) (hk : PySem.W.keepIn X.K (.ref f) = true) (hb : Binds X.K fd ps []) (hx : ∀ σ, PassesAt CX X σ (E σ))
    (hdb : (x == ("__debug__" : Str)) = false := by decide) : PE X (.Call (.Name x p) [] [] pos) (tCallS sp E tNil) := by
  refine ⟨fun pins s σ H Q I h => ?_⟩
  refine wpAny_Call_Name_kw (ld_glob I hg hm ?_ hdb)
  exact PySem.W.callWith_K0 I.kIn hk (run_fnS (us := []) F hr hb (hx σ) I .nil h)
theorem pd_call0 {k : Nat} {x : Str} {fn : List D → R D} {p : Pos} (G : Fn X.prog X.w X.K X.mg X.base cls k x 0 fn) (hr : Room k X.A) (hg : Gl X x) (tk : Takes X W) (hdb : (x == ("__debug__" : Str)) = false := by decide) :
    PDE X cls W (pV X.K) (.Call (.Name x p) [] [] pos) (callF fn nilF) := by
  obtain ⟨f, fd, ps, G1, G2, G3, G4⟩ := G.ex
  refine pe_imp (pe_callS0 G1 hr hg G2 G3 G4 (fun σ => passAt tk σ) hdb) fun σ H Q ⟨H0, F, env, ea, g⟩ => ?_
  have g : Go cls (pV X.K) W σ F H (fn []) Q := g
  refine ⟨rfl, F, [], ea.fh, .nil, ?_⟩
  cases q : fn [] with
  | ok d => rw [q] at g; exact g
  | err c => rw [q] at g; exact g
  | bad => rw [q] at g; exact g
end
end PD

set_option maxHeartbeats 4000000
namespace PD
open PySem PySem.Spec PyProof.Rows L2
def exsA : List Exc := [.paneError, .windows, .order, .parse]
def G_is_int : EnvD → Out := (retS (andV (una (fun d => toD (isIntD d)) (getB 0)) (andV (notV (una (fun d => toD (isBoolD d)) (getB 0))) (asV (chain leI leI (getV 1) (getV 0) (getV 2))))))
def fD_is_int : List D → R D := fnD 3 3 G_is_int
def B_join_windows_0 : EnvD → Out := (appS 1 (bin addD (bin addD (bin addD (bin addD (bin addD (bin addD (appL strID (consF (getB 2) nilF)) (cst (.str ","))) (appL strID (consF (getB 3) nilF))) (cst (.str "-"))) (appL strID (consF (getB 4) nilF))) (cst (.str ","))) (appL strID (consF (getB 5) nilF))))
def G_join_windows : EnvD → Out := (seqS (setO 1 (lstF nilF)) (seqS (forS (.tp [2, 3, 4, 5]) (seqF (getV 0)) B_join_windows_0) (retS (metS joinD (cst (.str "; ")) (getB 1)))))
def fD_join_windows : List D → R D := fnD 6 1 G_join_windows
def G_read_number : EnvD → Out := (seqS (ifS (orF (notF (chain leI leI (cst (.int 1)) (appL lenSD (consF (getB 0) nilF)) (cst (.int 2)))) (notF (tst (appL allD (consF (mkL (lcF (.nm 1) [1] yesF (bin (fun x y => toD (inSD x y)) (getV 1) (cst (.str "0123456789"))) (chrF (getV 0)))) nilF))))) (retS (cst .non)) skipS) (retS (appL intSD (consF (getB 0) nilF))))
def fD_read_number : List D → R D := fnD 2 1 G_read_number
def G_join_order : EnvD → Out := (retS (metS joinD (cst (.str "<")) (mkL (lcF (.nm 1) [1] yesF (appL strID (consF (getB 1) nilF)) (seqF (getV 0))))))
def fD_join_order : List D → R D := fnD 2 1 G_join_order
def B__law_drawn_0 : EnvD → Out := (seqS (setS 5 (bin fdivD (getV 5) (cst (.int 1000000)))) (setS 4 (bin subD (getV 4) (cst (.int 1)))))
def G__law_drawn : EnvD → Out := (seqS (setS 3 (bin mulD (cst (.int 7)) (getV 1))) (seqS (ifS (bin neD (getB 0) (mkL (lstF nilF))) (seqS (setS 3 (bin ixD (getB 0) (bin modD (getV 1) (appL lenD (consF (getB 0) nilF))))) (seqS (setS 4 (bin fdivD (getV 1) (appL lenD (consF (getB 0) nilF)))) (seqS (ifS (andF (bin geI (getV 3) (bin powD (cst (.int 10)) (cst (.int 18)))) (bin ltI (getV 4) (cst (.int 60)))) (seqS (setS 5 (bin fdivD (getV 3) (bin powD (cst (.int 10)) (cst (.int 18))))) (seqS (whileL (andF (bin gtI (getV 5) (cst (.int 0))) (bin gtI (getV 4) (cst (.int 0)))) B__law_drawn_0 3000) (ifS (bin gtI (getV 5) (cst (.int 0))) (retS (bin modD (bin modD (getV 5) (cst (.int 1000000))) (getV 2))) skipS))) skipS) (setS 3 (bin addD (getV 3) (bin mulD (cst (.int 6553)) (bin fdivD (getV 1) (appL lenD (consF (getB 0) nilF))))))))) skipS) (seqS (setS 3 (bin modD (bin addD (bin mulD (bin modD (getV 3) (cst (.int 2147483563))) (cst (.int 69069))) (bin mulD (cst (.int 104723)) (bin addD (getV 1) (cst (.int 1))))) (cst (.int 2147483563)))) (seqS (setS 3 (bin modD (bin addD (bin mulD (getV 3) (getV 3)) (bin fdivD (getV 3) (cst (.int 3)))) (cst (.int 2147483399)))) (retS (bin modD (bin fdivD (bin modD (bin addD (bin mulD (getV 3) (getV 3)) (bin fdivD (getV 3) (cst (.int 7)))) (cst (.int 2147483647))) (cst (.int 11))) (getV 2)))))))
def fD__law_drawn : List D → R D := fnD 6 3 G__law_drawn
def B__law_text_0 : EnvD → Out := (appS 1 (bin addD (bin addD (bin addD (bin addD (bin addD (bin addD (appL strID (consF (getB 2) nilF)) (cst (.str ","))) (appL strID (consF (getB 3) nilF))) (cst (.str "-"))) (appL strID (consF (getB 4) nilF))) (cst (.str ","))) (appL strID (consF (getB 5) nilF))))
def G__law_text : EnvD → Out := (seqS (setO 1 (lstF nilF)) (seqS (forS (.tp [2, 3, 4, 5]) (seqF (getV 0)) B__law_text_0) (retS (metS joinD (cst (.str "; ")) (getB 1)))))
def fD__law_text : List D → R D := fnD 6 1 G__law_text
def G_is_window : EnvD → Out := (seqS (ifS (orF (notF (tst (una (fun d => toD (isTupD d)) (getB 0)))) (bin neD (appL lenD (consF (getB 0) nilF)) (cst (.int 4)))) (retS (cst (.bl false))) skipS) (seqS (ifS (notF (tst (appL allD (consF (mkL (lcF (.nm 1) [1] yesF (callF fD_is_int (consF (getV 1) (consF (cst (.int 0)) (consF (cst (.int 12)) nilF)))) (seqF (getV 0)))) nilF)))) (retS (cst (.bl false))) skipS) (retS (andV (bin (fun x y => toD (ltI x y)) (bin ixD (getB 0) (cst (.int 0))) (bin ixD (getB 0) (cst (.int 2)))) (bin (fun x y => toD (ltI x y)) (bin ixD (getB 0) (cst (.int 1))) (bin ixD (getB 0) (cst (.int 3))))))))
def fD_is_window : List D → R D := fnD 2 1 G_is_window
def G_has_order : EnvD → Out := (seqS (ifS (orF (notF (tst (una (fun d => toD (isTupD d)) (getB 1)))) (notF (tst (appL allD (consF (mkL (lcF (.nm 2) [2] yesF (callF fD_is_int (consF (getV 2) (consF (cst (.int 0)) (consF (bin subD (appL lenD (consF (getB 0) nilF)) (cst (.int 1))) nilF)))) (seqF (getV 1)))) nilF))))) (retS (cst (.bl false))) skipS) (retS (bin (fun x y => toD (eqD x y)) (mkL (appL sortD (consF (getB 1) nilF))) (mkL (rngL1 (appL lenD (consF (getB 0) nilF)))))))
def fD_has_order : List D → R D := fnD 3 2 G_has_order
def G_read_window : EnvD → Out := (seqS (setS 1 (mkL (lc2F (.nm 2) [2, 3] yesF (seqF (mkL (metS splitD (getV 2) (cst (.str ","))))) (.nm 3) [3] yesF (getV 3) (seqF (mkL (metS splitD (getV 0) (cst (.str "-")))))))) (retS (appL tupleD (consF (mkL (lcF (.nm 3) [3] yesF (callF fD_read_number (consF (getV 3) nilF)) (seqF (getV 1)))) nilF))))
def fD_read_window : List D → R D := fnD 4 1 G_read_window
def G__law_window : EnvD → Out := (seqS (setPar 2 3 (slV (callF fD__law_drawn (consF (getV 0) (consF (getV 1) (consF (cst (.int 9)) nilF))))) (slV (callF fD__law_drawn (consF (getV 0) (consF (bin addD (getV 1) (cst (.int 1))) (consF (cst (.int 9)) nilF)))))) (retS (tupF (consF (getV 2) (consF (getV 3) (consF (bin addD (bin addD (getV 2) (cst (.int 1))) (callF fD__law_drawn (consF (getV 0) (consF (bin addD (getV 1) (cst (.int 2))) (consF (cst (.int 4)) nilF))))) (consF (bin addD (bin addD (getV 3) (cst (.int 1))) (callF fD__law_drawn (consF (getV 0) (consF (bin addD (getV 1) (cst (.int 3))) (consF (cst (.int 4)) nilF))))) nilF)))))))
def fD__law_window : List D → R D := fnD 4 2 G__law_window
def B__law_order_0 : EnvD → Out := (seqS (setS 5 (callF fD__law_drawn (consF (getV 0) (consF (bin addD (getV 1) (getV 4)) (consF (bin addD (appL lenD (consF (getB 3) nilF)) (cst (.int 1))) nilF))))) (setS 3 (mkL (bin catD (mkL (bin catD (sliceF (getB 3) noO (someO (getV 5))) (mkL (lstF (consF (getV 4) nilF))))) (sliceF (getB 3) (someO (getV 5)) noO)))))
def G__law_order : EnvD → Out := (seqS (setS 3 (mkL (lstF nilF))) (seqS (forS (.nm 4) (appL asRng1 (consF (getB 2) nilF)) B__law_order_0) (retS (appL tupleD (consF (getB 3) nilF)))))
def fD__law_order : List D → R D := fnD 6 3 G__law_order
def G__law_badwindows : EnvD → Out := (seqS (setS 2 (mkL (lstF (consF (cst .non) (consF (mkL (lstF nilF)) (consF (mkL (lstF (consF (tupF (consF (cst (.int 0)) (consF (cst (.int 0)) (consF (cst (.int 1)) (consF (cst (.int 1)) nilF))))) nilF))) (consF (tupF (consF (tupF (consF (cst (.int 0)) (consF (cst (.int 0)) (consF (cst (.int 0)) (consF (cst (.int 1)) nilF))))) nilF)) (consF (tupF (consF (tupF (consF (cst (.int 0)) (consF (cst (.int 0)) (consF (cst (.int 13)) (consF (cst (.int 1)) nilF))))) nilF)) (consF (tupF (consF (tupF (consF (cst (.int 0)) (consF (cst (.int 1)) (consF (cst (.int 1)) (consF (cst (.int 1)) nilF))))) nilF)) nilF))))))))) (seqS (setS 2 (mkL (bin catD (getB 2) (mkL (lstF (consF (tupF (consF (tupF (consF (cst (.bl true)) (consF (cst (.int 0)) (consF (cst (.int 2)) (consF (cst (.int 2)) nilF))))) nilF)) (consF (tupF (consF (tupF (consF (cst (.int 0)) (consF (cst (.int 0)) (consF (cst (.int 1)) nilF)))) nilF)) nilF))))))) (retS (bin ixD (mkL (bin catD (getB 2) (mkL (lstF (consF (bin mulD (tupF (consF (tupF (consF (cst (.int 0)) (consF (cst (.int 0)) (consF (cst (.int 1)) (consF (cst (.int 1)) nilF))))) nilF)) (cst (.int 7))) (consF (tupF (consF (cst (.int 0)) (consF (cst (.int 0)) (consF (cst (.int 1)) (consF (cst (.int 1)) nilF))))) (consF (tupF (consF (tupF (consF (una negD (cst (.int 1))) (consF (cst (.int 0)) (consF (cst (.int 1)) (consF (cst (.int 1)) nilF))))) nilF)) nilF))))))) (callF fD__law_drawn (consF (getV 0) (consF (getV 1) (consF (cst (.int 11)) nilF))))))))
def fD__law_badwindows : List D → R D := fnD 3 2 G__law_badwindows
def G__law_badorder : EnvD → Out := (seqS (setS 3 (mkL (lstF (consF (cst .non) (consF (mkL (appL listD (consF (getB 2) nilF))) (consF (bin addD (getV 2) (tupF (consF (appL lenD (consF (getB 2) nilF)) nilF))) (consF (bin addD (bin addD (getV 2) (sliceF (getB 2) noO (someO (cst (.int 1))))) (tupF (consF (cst (.int 0)) nilF))) nilF))))))) (seqS (setS 3 (mkL (bin catD (getB 3) (mkL (lstF (consF (bin addD (appL tupleD (consF (mkL (lcF (.nm 4) [4] yesF (bin addD (cst (.int 1)) (getV 4)) (seqF (getV 2)))) nilF)) (tupF (consF (cst (.int 0)) (consF (cst (.int 0)) nilF)))) nilF)))))) (retS (bin ixD (getB 3) (callF fD__law_drawn (consF (getV 0) (consF (getV 1) (consF (cst (.int 5)) nilF))))))))
def fD__law_badorder : List D → R D := fnD 5 3 G__law_badorder
def G_are_windows : EnvD → Out := (seqS (ifS (orF (notF (tst (una (fun d => toD (isTupD d)) (getB 0)))) (bin gtI (appL lenD (consF (getB 0) nilF)) (cst (.int 6)))) (retS (cst (.bl false))) skipS) (retS (appL allD (consF (mkL (lcF (.nm 1) [1] yesF (callF fD_is_window (consF (getV 1) nilF)) (seqF (getV 0)))) nilF))))
def fD_are_windows : List D → R D := fnD 2 1 G_are_windows
def G_check_order : EnvD → Out := (ifS (notF (tst (callF fD_has_order (consF (getV 0) (consF (getV 1) nilF))))) (raiseS .order) skipS)
def fD_check_order : List D → R D := fnD 2 2 G_check_order
def B__law_windows_0 : EnvD → Out := (seqS (unpS (.tp [6, 7, 8, 9]) (callF fD__law_window (consF (getV 0) (consF (bin addD (bin addD (getV 1) (cst (.int 1))) (bin mulD (cst (.int 4)) (getV 4))) nilF)))) (seqS (setS 5 (bin addD (cst (.int 1)) (callF fD__law_drawn (consF (getV 0) (consF (bin addD (getV 1) (cst (.int 30))) (consF (cst (.int 3)) nilF)))))) (seqS (setPar 10 11 (slV (bin fdivD (getV 6) (getV 5))) (slV (bin fdivD (getV 7) (getV 5)))) (appS 3 (tupF (consF (getV 10) (consF (getV 11) (consF (bin subD (bin addD (getV 10) (getV 8)) (getV 6)) (consF (bin subD (bin addD (getV 11) (getV 9)) (getV 7)) nilF)))))))))
def G__law_windows : EnvD → Out := (seqS (setO 3 (lstF nilF)) (seqS (forS (.nm 4) (appL asRng1 (consF (callF fD__law_drawn (consF (getV 0) (consF (getV 1) (consF (bin addD (getV 2) (cst (.int 1))) nilF)))) nilF)) B__law_windows_0) (retS (appL tupleD (consF (getB 3) nilF)))))
def fD__law_windows : List D → R D := fnD 12 3 G__law_windows
def G_check_windows : EnvD → Out := (ifS (notF (tst (callF fD_are_windows (consF (getV 0) nilF)))) (raiseS .windows) skipS)
def fD_check_windows : List D → R D := fnD 1 1 G_check_windows
def G_parse_windows : EnvD → Out := (seqS (ifS (notF (tst (una (fun d => toD (isStrD d)) (getB 0)))) (raiseS .parse) skipS) (seqS (setS 1 (ifF (bin neD (getB 0) (cst (.str ""))) (appL tupleD (consF (mkL (lcF (.nm 2) [2] yesF (callF fD_read_window (consF (getV 2) nilF)) (seqF (mkL (metS splitD (getV 0) (cst (.str "; "))))))) nilF)) (tupF nilF))) (seqS (ifS (orF (notF (tst (callF fD_are_windows (consF (getV 1) nilF)))) (bin neD (callF fD_join_windows (consF (getV 1) nilF)) (getB 0))) (raiseS .parse) skipS) (retS (getV 1)))))
def fD_parse_windows : List D → R D := fnD 3 1 G_parse_windows
def G_check_both : EnvD → Out := (seqS (dropS (callF fD_check_windows (consF (getV 0) nilF))) (dropS (callF fD_check_order (consF (getV 0) (consF (getV 1) nilF)))))
def fD_check_both : List D → R D := fnD 2 2 G_check_both
def G_format_windows : EnvD → Out := (seqS (dropS (callF fD_check_windows (consF (getV 0) nilF))) (retS (callF fD_join_windows (consF (getV 0) nilF))))
def fD_format_windows : List D → R D := fnD 1 1 G_format_windows
def G_parse_order : EnvD → Out := (seqS (dropS (callF fD_check_windows (consF (getV 0) nilF))) (seqS (ifS (notF (tst (una (fun d => toD (isStrD d)) (getB 1)))) (raiseS .parse) skipS) (seqS (setS 2 (ifF (bin neD (getB 1) (cst (.str ""))) (appL tupleD (consF (mkL (lcF (.nm 3) [3] yesF (callF fD_read_number (consF (getV 3) nilF)) (seqF (mkL (metS splitD (getV 1) (cst (.str "<"))))))) nilF)) (tupF nilF))) (seqS (ifS (orF (notF (tst (callF fD_has_order (consF (getV 0) (consF (getV 2) nilF))))) (bin neD (callF fD_join_order (consF (getV 2) nilF)) (getB 1))) (raiseS .parse) skipS) (retS (getV 2))))))
def fD_parse_order : List D → R D := fnD 4 2 G_parse_order
def G_format_order : EnvD → Out := (seqS (dropS (callF fD_check_both (consF (getV 0) (consF (getV 1) nilF)))) (retS (callF fD_join_order (consF (getV 1) nilF))))
def fD_format_order : List D → R D := fnD 2 2 G_format_order
def H__law_again_0 (exa : Addr) (exk : Exc) : EnvD → Out := (retS (ifF (tst (isE 2 exa (excLe exk .parse))) (cst .non) (cst (.str "another exception"))))
def B__law_again_0 : EnvD → Out := (seqS (ifS (bin isNoneD (getB 0) (cst .non)) (retS (callF fD__law_text (consF (callF fD_parse_windows (consF (getV 1) nilF)) nilF))) skipS) (retS (metS joinD (cst (.str "<")) (mkL (lcF (.nm 3) [3] yesF (appL strID (consF (getB 3) nilF)) (seqF (callF fD_parse_order (consF (getV 0) (consF (getV 1) nilF)))))))))
def G__law_again : EnvD → Out := (tryS exsA 2 B__law_again_0 H__law_again_0)
def fD__law_again : List D → R D := fnD 4 2 G__law_again
def G__law_rejected : EnvD → Out := (seqS (setS 0 (mkL (lstF (consF (cst .non) (consF (cst (.int 7)) (consF (cst (.str " ")) (consF (cst (.str "0,0-0,4")) (consF (cst (.str "0,0-13,4")) (consF (cst (.str "0,0-4")) (consF (cst (.str "0,0,4,4")) (consF (cst (.str "0-0-4-4")) (consF (cst (.str "00,0-4,4")) nilF)))))))))))) (seqS (setS 0 (mkL (bin catD (getB 0) (mkL (lstF (consF (cst (.str "0,0-4,4;0,0-1,1")) (consF (cst (.str "0,0-4,4; ")) (consF (cst (.str "; 0,0-4,4")) nilF)))))))) (seqS (setS 0 (mkL (bin catD (getB 0) (mkL (lstF (consF (cst (.str "0,0-4,4 ")) (consF (cst (.str " 0,0-4,4")) (consF (cst (.str "0, 0-4,4")) (consF (cst (.str "0,0 - 4,4")) (consF (cst (.str "a,0-4,4")) (consF (cst (.str "0,0-4,4
")) nilF))))))))))) (seqS (setS 0 (mkL (bin catD (getB 0) (mkL (lstF (consF (metS joinD (cst (.str "; ")) (mkL (bin repD (mkL (lstF (consF (cst (.str "0,0-1,1")) nilF))) (cst (.int 7))))) (consF (cst (.str "-1,0-4,4")) (consF (cst (.str "0,0-4,4,")) nilF)))))))) (seqS (ifS (bin neD (mkL (lcF (.nm 2) [2] (bin notNoneD (callF fD__law_again (consF (cst .non) (consF (getV 2) nilF))) (cst .non)) (getV 2) (seqF (getV 0)))) (mkL (lstF nilF))) (retS (cst (.bl false))) skipS) (seqS (setS 1 (tupF (consF (tupF (consF (cst (.int 0)) (consF (cst (.int 0)) (consF (cst (.int 1)) (consF (cst (.int 1)) nilF))))) (consF (tupF (consF (cst (.int 1)) (consF (cst (.int 1)) (consF (cst (.int 2)) (consF (cst (.int 2)) nilF))))) nilF)))) (seqS (setS 0 (mkL (lstF (consF (cst .non) (consF (cst (.int 7)) (consF (cst (.str "")) (consF (cst (.str "0")) (consF (cst (.str "0<0")) (consF (cst (.str "0<1<2")) (consF (cst (.str "0 < 1")) (consF (cst (.str "01")) (consF (cst (.str "0,1")) (consF (cst (.str "0<1 ")) (consF (cst (.str "00<1")) (consF (cst (.str "1<")) (consF (cst (.str "<1")) nilF)))))))))))))))) (seqS (setS 0 (mkL (bin catD (getB 0) (mkL (lstF (consF (cst (.str "0<1<")) (consF (cst (.str "0>1")) (consF (cst (.str "1<2")) (consF (tupF (consF (cst (.str "0<1")) nilF)) nilF))))))))) (seqS (ifS (notF (bin eqD (mkL (lcF (.nm 2) [2] (bin notNoneD (callF fD__law_again (consF (getV 1) (consF (getV 2) nilF))) (cst .non)) (getV 2) (seqF (getV 0)))) (mkL (lstF nilF)))) (retS (cst (.bl false))) skipS) (retS (bin (fun x y => toD (eqD x y)) (callF fD_parse_order (consF (getV 1) (consF (cst (.str "1<0")) nilF))) (tupF (consF (cst (.int 1)) (consF (cst (.int 0)) nilF))))))))))))))
def fD__law_rejected : List D → R D := fnD 3 0 G__law_rejected
def H__law_refused_0 (exa : Addr) (exk : Exc) : EnvD → Out := (retS (metL idxD (mkL (lstF (consF (isE 3 exa (excLe exk .windows)) (consF (isE 3 exa (excLe exk .order)) (consF (isE 3 exa (excLe exk .parse)) nilF))))) (consF (cst (.bl true)) nilF)))
def B__law_refused_0 : EnvD → Out := (ifS (bin eqD (getB 0) (cst (.int 0))) (dropS (callF fD_format_windows (consF (getV 1) nilF))) (dropS (callXF [fD_format_order, fD_parse_order] (bin subD (getV 0) (cst (.int 1))) (consF (getV 1) (consF (getV 2) nilF)))))
def G__law_refused : EnvD → Out := (seqS (tryS exsA 3 B__law_refused_0 H__law_refused_0) (retS (cst .non)))
def fD__law_refused : List D → R D := fnD 4 3 G__law_refused
def B_law_0 : EnvD → Out := (seqS (setS 7 (bin addD (cst (.int 60)) (bin mulD (cst (.int 4)) (getV 3)))) (seqS (setPar 12 13 (slV (callF fD__law_drawn (consF (getV 0) (consF (getV 7) (consF (bin addD (appL lenSD (consF (getB 6) nilF)) (cst (.int 1))) nilF))))) (slV (bin ixSD (cst (.str ",-; 0123")) (callF fD__law_drawn (consF (getV 0) (consF (bin addD (getV 7) (cst (.int 1))) (consF (cst (.int 8)) nilF))))))) (seqS (setS 8 (ifF (bin eqD (callF fD__law_drawn (consF (getV 0) (consF (bin addD (getV 7) (cst (.int 2))) (consF (cst (.int 3)) nilF)))) (cst (.int 0))) (cst (.str "")) (getV 13))) (seqS (setS 9 (bin addD (bin addD (sliceSF (getV 6) noO (someO (getV 12))) (getV 8)) (sliceSF (getV 6) (someO (bin addD (getV 12) (callF fD__law_drawn (consF (getV 0) (consF (bin addD (getV 7) (cst (.int 3))) (consF (cst (.int 2)) nilF)))))) noO))) (ifS (bin notInD (callF fD__law_again (consF (cst .non) (consF (getV 9) nilF))) (tupF (consF (cst .non) (consF (getV 9) nilF)))) (retS (cst (.bl false))) skipS)))))
def G_law : EnvD → Out := (seqS (setS 1 (callF fD__law_windows (consF (getV 0) (consF (cst (.int 10)) (consF (cst (.int 6)) nilF))))) (seqS (setPar 5 6 (slV (callF fD__law_order (consF (getV 0) (consF (cst (.int 50)) (consF (appL lenD (consF (getB 1) nilF)) nilF))))) (slV (callF fD__law_text (consF (getV 1) nilF)))) (seqS (ifS (orF (bin neD (callF fD_format_windows (consF (getV 1) nilF)) (getB 6)) (orF (bin neD (callF fD_parse_windows (consF (getV 6) nilF)) (getB 1)) (notF (tst (callF fD__law_rejected nilF))))) (retS (cst (.bl false))) skipS) (seqS (setS 2 (metS joinD (cst (.str "<")) (mkL (lcF (.nm 14) [14] yesF (appL strID (consF (getB 14) nilF)) (seqF (getV 5)))))) (seqS (ifS (orF (bin neD (callF fD_format_order (consF (getV 1) (consF (getV 5) nilF))) (getB 2)) (bin neD (callF fD_parse_order (consF (getV 1) (consF (getV 2) nilF))) (getB 5))) (retS (cst (.bl false))) skipS) (seqS (forS (.nm 3) (appL asRng1 (consF (cst (.int 12)) nilF)) B_law_0) (seqS (setPar 10 11 (slV (callF fD__law_badwindows (consF (getV 0) (consF (cst (.int 1)) nilF)))) (slV (callF fD__law_badorder (consF (getV 0) (consF (cst (.int 2)) (consF (getV 5) nilF)))))) (seqS (setS 4 (mkL (lstF (consF (callF fD__law_refused (consF (cst (.int 0)) (consF (getV 10) (consF (cst (.int 0)) nilF)))) (consF (callF fD__law_refused (consF (cst (.int 1)) (consF (getV 10) (consF (getV 11) nilF)))) nilF))))) (seqS (setS 4 (mkL (bin catD (getB 4) (mkL (lstF (consF (callF fD__law_refused (consF (cst (.int 2)) (consF (getV 10) (consF (cst (.str "x")) nilF)))) (consF (callF fD__law_refused (consF (cst (.int 1)) (consF (getV 1) (consF (getV 11) nilF)))) nilF))))))) (retS (bin (fun x y => toD (eqD x y)) (getB 4) (mkL (lstF (consF (cst (.int 0)) (consF (cst (.int 0)) (consF (cst (.int 0)) (consF (cst (.int 1)) nilF)))))))))))))))))
def fD_law : List D → R D := fnD 15 1 G_law
end PD

namespace PD
open PySem PySem.Spec PyProof.Rows L2
def top (i : Nat) : Stmt := PySem.Challenge.pw_panestacks_k68_formats.main.body.getD i (.Pass ⟨0, 0, 0, 0⟩)
end PD

set_option maxHeartbeats 4000000
namespace PD
open PySem PySem.Spec PyProof.Rows L2
theorem sc_is_int : FnScope ["value", "least", "most"] ["value", "least", "most"] (defScope (top 8)) := ⟨rfl, rfl, rfl, by decide +kernel, rfl, by decide +kernel, by decide +kernel⟩
theorem ok_is_int {P : Program} {w : World} {K : PySem.W.Frag} {mg : Str → Option Value} {base : Heap} {cls : Exc → Addr} {f : Addr} {fd : FuncData} (B : Bi mg) (F : FunD K "is_int" "is_int" (defArgs (top 8)) (defBody (top 8)) (defScope (top 8)) [] [] f fd) (hx : mg "is_int" = some (.ref f)) :
    Fn P w K mg base cls 1 "is_int" 3 fD_is_int := by
  have nd := sc_is_int.nd
  refine fn_okD (N := ["value", "least", "most"]) (ps := ["value", "least", "most"]) (G := G_is_int) F sc_is_int hx (F.bindsN fun _ _ _ _ _ _ us hl => match us, hl with | [_, _, _], _ => rfl) fun cdv A outer s H E hr => ?_
  have tk : Takes (cxOf (L2.CX P w) P w K mg base ["value", "least", "most"] "is_int" (defScope (top 8)) f cdv A outer s H E) (fun c d _ H => E c d H) := takes_of rfl rfl rfl rfl
  exact (pds_one (pds_ret (pd_and (pd_isi isi_int (by rfl) B.isinstance (by rfl) B.int boot_int (pb_var (pv 0))) (pd_and (pd_not (pd_isi isi_bool (by rfl) B.isinstance (by rfl) B.bool boot_bool (pb_var (pv 0)))) (pd_one (pd_chain op_le os_cmpI op_le os_cmpI (pd_var (pv 1)) (pd_var (pv 0)) (pd_var (pv 2)) rfl))))))
theorem sc_join_windows : FnScope ["windows", "rows", "left", "top", "right", "bottom"] ["windows"] (defScope (top 22)) := ⟨rfl, rfl, rfl, by decide +kernel, rfl, by decide +kernel, by decide +kernel⟩
theorem ok_join_windows {P : Program} {w : World} {K : PySem.W.Frag} {mg : Str → Option Value} {base : Heap} {cls : Exc → Addr} {f : Addr} {fd : FuncData} (B : Bi mg) (F : FunD K "join_windows" "join_windows" (defArgs (top 22)) (defBody (top 22)) (defScope (top 22)) [] [] f fd) (hx : mg "join_windows" = some (.ref f)) (c_BETWEEN : ∃ t, mg "BETWEEN" = some (.str "; " t)) (c_COMMA : ∃ t, mg "COMMA" = some (.str "," t)) (c_DASH : ∃ t, mg "DASH" = some (.str "-" t)) :
    Fn P w K mg base cls 1 "join_windows" 1 fD_join_windows := by
  have nd := sc_join_windows.nd
  refine fn_okD (N := ["windows", "rows", "left", "top", "right", "bottom"]) (ps := ["windows"]) (G := G_join_windows) F sc_join_windows hx (F.bindsN fun _ _ _ _ _ _ us hl => match us, hl with | [_], _ => rfl) fun cdv A outer s H E hr => ?_
  have tk : Takes (cxOf (L2.CX P w) P w K mg base ["windows", "rows", "left", "top", "right", "bottom"] "join_windows" (defScope (top 22)) f cdv A outer s H E) (fun c d _ H => E c d H) := takes_of rfl rfl rfl rfl
  exact (pds_cons (pds_setN (ps_set nd rfl (.inl rfl) (pd_lst pda_nil) rfl (.inr rfl))) (pds_cons (pds_for (passes_of rfl) rfl (pdi_seq (pd_var (pv 0))) (pg_tp rfl (pgn_cons (pg_name nd rfl (.inl rfl) (.inr rfl)) (pgn_cons (pg_name nd rfl (.inl rfl) (.inr rfl)) (pgn_cons (pg_name nd rfl (.inl rfl) (.inr rfl)) (pgn_cons (pg_name nd rfl (.inl rfl) (.inr rfl)) pgn_nil))))) (pds_one (pds_append (r := rAppend) (ps_expr (pe_bm PySem.F.plainAttrs_list PySem.F.slot_list_append PySem.F.type_list_append mt_append (pv 1) (pa_cons (pd_op op_addA os_add (pd_op op_addA os_add (pd_op op_addA os_add (pd_op op_addA os_add (pd_op op_addA os_add (pd_op op_addA os_add (pd_callTy call_str_int cs_strI (by rfl) B.str boot_str (pdb_cons (pb_var (pv 2)) pdb_nil)) (pd_gstr (by rfl) c_COMMA)) (pd_callTy call_str_int cs_strI (by rfl) B.str boot_str (pdb_cons (pb_var (pv 3)) pdb_nil))) (pd_gstr (by rfl) c_DASH)) (pd_callTy call_str_int cs_strI (by rfl) B.str boot_str (pdb_cons (pb_var (pv 4)) pdb_nil))) (pd_gstr (by rfl) c_COMMA)) (pd_callTy call_str_int cs_strI (by rfl) B.str boot_str (pdb_cons (pb_var (pv 5)) pdb_nil))) pa_nil)))))) (pds_one (pds_ret (pd_join (pd_gstr (by rfl) c_BETWEEN) (pb_var (pv 1)))))))
theorem sc_read_number : FnScope ["word", "sign"] ["word"] (defScope (top 24)) := ⟨rfl, rfl, rfl, by decide +kernel, rfl, by decide +kernel, by decide +kernel⟩
theorem ok_read_number {P : Program} {w : World} {K : PySem.W.Frag} {mg : Str → Option Value} {base : Heap} {cls : Exc → Addr} {f : Addr} {fd : FuncData} (B : Bi mg) (F : FunD K "read_number" "read_number" (defArgs (top 24)) (defBody (top 24)) (defScope (top 24)) [] [] f fd) (hx : mg "read_number" = some (.ref f)) (c_DIGITS : ∃ t, mg "DIGITS" = some (.str "0123456789" t)) (c_MAX_DIGITS : ∃ t, mg "MAX_DIGITS" = some (.int 2 t)) :
    Fn P w K mg base cls 1 "read_number" 1 fD_read_number := by
  have nd := sc_read_number.nd
  refine fn_okD (N := ["word", "sign"]) (ps := ["word"]) (G := G_read_number) F sc_read_number hx (F.bindsN fun _ _ _ _ _ _ us hl => match us, hl with | [_], _ => rfl) fun cdv A outer s H E hr => ?_
  have tk : Takes (cxOf (L2.CX P w) P w K mg base ["word", "sign"] "read_number" (defScope (top 24)) f cdv A outer s H E) (fun c d _ H => E c d H) := takes_of rfl rfl rfl rfl
  exact (pds_cons (pds_if (pdt_w (pdw_or (pdt_not (pdt_chain op_le os_cmpI op_le os_cmpI pd_int (pd_callB call_len cs_lenS (by rfl) B.len boot_len (pdb_cons (pb_var (pv 0)) pdb_nil)) (pd_gint (by rfl) c_MAX_DIGITS) rfl)) (pdw_or1 (pdt_not (pdt_val (pd_callB (cr_all (by rfl)) cs_all (by rfl) B.all boot_all (pdb_cons (coeVB (coeNV (pd_lc (own := [("sign", 1)]) rfl nd  (pdi_chr (pd_var (pv 0))) (blk_of (N' := ["word", "sign"]) (sc := (defScope (top 24))) rfl rfl rfl (by decide +kernel)) (fun _ _ _ _ _ => (pg_nm (pg_name nd rfl (.inl rfl) (.inr rfl)))) (fun _ _ _ _ _ => pts_yes) (fun _ _ _ _ _ => (pd_cmp op_in_sign (OpSemB.val os_inS) (pd_var (pv 1)) (pd_gstr (by rfl) c_DIGITS) rfl)) rfl))) pdb_nil))))))) (pds_one (pds_ret pd_non)) pds_nil) (pds_one (pds_ret (pd_callTy call_int_str cs_intS (by rfl) B.int boot_int (pdb_cons (pb_var (pv 0)) pdb_nil)))))
theorem sc_join_order : FnScope ["order", "number"] ["order"] (defScope (top 27)) := ⟨rfl, rfl, rfl, by decide +kernel, rfl, by decide +kernel, by decide +kernel⟩
theorem ok_join_order {P : Program} {w : World} {K : PySem.W.Frag} {mg : Str → Option Value} {base : Heap} {cls : Exc → Addr} {f : Addr} {fd : FuncData} (B : Bi mg) (F : FunD K "join_order" "join_order" (defArgs (top 27)) (defBody (top 27)) (defScope (top 27)) [] [] f fd) (hx : mg "join_order" = some (.ref f)) (c_LESS : ∃ t, mg "LESS" = some (.str "<" t)) :
    Fn P w K mg base cls 1 "join_order" 1 fD_join_order := by
  have nd := sc_join_order.nd
  refine fn_okD (N := ["order", "number"]) (ps := ["order"]) (G := G_join_order) F sc_join_order hx (F.bindsN fun _ _ _ _ _ _ us hl => match us, hl with | [_], _ => rfl) fun cdv A outer s H E hr => ?_
  have tk : Takes (cxOf (L2.CX P w) P w K mg base ["order", "number"] "join_order" (defScope (top 27)) f cdv A outer s H E) (fun c d _ H => E c d H) := takes_of rfl rfl rfl rfl
  exact (pds_one (pds_ret (pd_join (pd_gstr (by rfl) c_LESS) (coeVB (coeNV (pd_lc (own := [("number", 1)]) rfl nd  (pdi_seq (pd_var (pv 0))) (blk_of (N' := ["order", "number"]) (sc := (defScope (top 27))) rfl rfl rfl (by decide +kernel)) (fun _ _ _ _ _ => (pg_nm (pg_name nd rfl (.inl rfl) (.inr rfl)))) (fun _ _ _ _ _ => pts_yes) (fun _ _ _ _ _ => (pd_callTy call_str_int cs_strI (by rfl) B.str boot_str (pdb_cons (pb_var (pv 1)) pdb_nil))) rfl))))))
theorem sc__law_drawn : FnScope ["_law_script", "_law_k", "_law_many", "_law_cell", "_law_turn", "_law_rest"] ["_law_script", "_law_k", "_law_many"] (defScope (top 31)) := ⟨rfl, rfl, rfl, by decide +kernel, rfl, by decide +kernel, by decide +kernel⟩
theorem ok__law_drawn {P : Program} {w : World} {K : PySem.W.Frag} {mg : Str → Option Value} {base : Heap} {cls : Exc → Addr} {f : Addr} {fd : FuncData} (B : Bi mg) (F : FunD K "_law_drawn" "_law_drawn" (defArgs (top 31)) (defBody (top 31)) (defScope (top 31)) [] [] f fd) (hx : mg "_law_drawn" = some (.ref f)) :
    Fn P w K mg base cls 1 "_law_drawn" 3 fD__law_drawn := by
  have nd := sc__law_drawn.nd
  refine fn_okD (N := ["_law_script", "_law_k", "_law_many", "_law_cell", "_law_turn", "_law_rest"]) (ps := ["_law_script", "_law_k", "_law_many"]) (G := G__law_drawn) F sc__law_drawn hx (F.bindsN fun _ _ _ _ _ _ us hl => match us, hl with | [_, _, _], _ => rfl) fun cdv A outer s H E hr => ?_
  have tk : Takes (cxOf (L2.CX P w) P w K mg base ["_law_script", "_law_k", "_law_many", "_law_cell", "_law_turn", "_law_rest"] "_law_drawn" (defScope (top 31)) f cdv A outer s H E) (fun c d _ H => E c d H) := takes_of rfl rfl rfl rfl
  exact (pds_cons (pds_set (ps_set nd rfl (.inl rfl) (pd_op op_mulA os_mulA pd_int (pd_var (pv 1))) rfl (.inr rfl))) (pds_cons (pds_if (pdt_cmp (op_neD (room64 hr)) os_ne (pb_var (pv 0)) (coeVB (coeNV (pd_lst pda_nil))) rfl) (pds_cons (pds_set (ps_set nd rfl (.inl rfl) (pd_ix ix_seq os_ix (pb_var (pv 0)) (pd_op op_mod os_mod (pd_var (pv 1)) (pd_callB call_len_seq cs_len (by rfl) B.len boot_len (pdb_cons (pb_var (pv 0)) pdb_nil))) (fun _ _ => rfl)) rfl (.inr rfl))) (pds_cons (pds_set (ps_set nd rfl (.inl rfl) (pd_op op_fdivW os_fdiv (pd_var (pv 1)) (pd_callB call_len_seq cs_len (by rfl) B.len boot_len (pdb_cons (pb_var (pv 0)) pdb_nil))) rfl (.inr rfl))) (pds_cons (pds_if (pdt_w (pdw_and (pdt_cmp op_ge os_cmpI (pd_var (pv 3)) (pd_op op_pow os_pow pd_int pd_int) rfl) (pdw_and1 (pdt_cmp op_lt os_cmpI (pd_var (pv 4)) pd_int rfl)))) (pds_cons (pds_set (ps_set nd rfl (.inl rfl) (pd_op op_fdivW os_fdiv (pd_var (pv 3)) (pd_op op_pow os_pow pd_int pd_int)) rfl (.inr rfl))) (pds_cons (pds_while 3000 (passes_of rfl) (pdt_w (pdw_and (pdt_cmp op_gt os_cmpI (pd_var (pv 5)) pd_int rfl) (pdw_and1 (pdt_cmp op_gt os_cmpI (pd_var (pv 4)) pd_int rfl)))) (pds_cons (pds_set (ps_set nd rfl (.inl rfl) (pd_op op_fdivW os_fdiv (pd_var (pv 5)) pd_int) rfl (.inr rfl))) (pds_one (pds_set (ps_set nd rfl (.inl rfl) (pd_op op_sub os_sub (pd_var (pv 4)) pd_int) rfl (.inr rfl)))))) (pds_one (pds_if (pdt_cmp op_gt os_cmpI (pd_var (pv 5)) pd_int rfl) (pds_one (pds_ret (pd_op op_mod os_mod (pd_op op_mod os_mod (pd_var (pv 5)) pd_int) (pd_var (pv 2))))) pds_nil)))) pds_nil) (pds_one (pds_set (ps_set nd rfl (.inl rfl) (pd_op op_addA os_add (pd_var (pv 3)) (pd_op op_mulA os_mulA pd_int (pd_op op_fdivW os_fdiv (pd_var (pv 1)) (pd_callB call_len_seq cs_len (by rfl) B.len boot_len (pdb_cons (pb_var (pv 0)) pdb_nil))))) rfl (.inr rfl))))))) pds_nil) (pds_cons (pds_set (ps_set nd rfl (.inl rfl) (pd_op op_mod os_mod (pd_op op_addA os_add (pd_op op_mulA os_mulA (pd_op op_mod os_mod (pd_var (pv 3)) pd_int) pd_int) (pd_op op_mulA os_mulA pd_int (pd_op op_addA os_add (pd_var (pv 1)) pd_int))) pd_int) rfl (.inr rfl))) (pds_cons (pds_set (ps_set nd rfl (.inl rfl) (pd_op op_mod os_mod (pd_op op_addA os_add (pd_op op_mulA os_mulA (pd_var (pv 3)) (pd_var (pv 3))) (pd_op op_fdivW os_fdiv (pd_var (pv 3)) pd_int)) pd_int) rfl (.inr rfl))) (pds_one (pds_ret (pd_op op_mod os_mod (pd_op op_fdivW os_fdiv (pd_op op_mod os_mod (pd_op op_addA os_add (pd_op op_mulA os_mulA (pd_var (pv 3)) (pd_var (pv 3))) (pd_op op_fdivW os_fdiv (pd_var (pv 3)) pd_int)) pd_int) pd_int) (pd_var (pv 2)))))))))
theorem sc__law_text : FnScope ["_law_windows_here", "_law_rows", "_law_left", "_law_top", "_law_right", "_law_bottom"] ["_law_windows_here"] (defScope (top 37)) := ⟨rfl, rfl, rfl, by decide +kernel, rfl, by decide +kernel, by decide +kernel⟩
theorem ok__law_text {P : Program} {w : World} {K : PySem.W.Frag} {mg : Str → Option Value} {base : Heap} {cls : Exc → Addr} {f : Addr} {fd : FuncData} (B : Bi mg) (F : FunD K "_law_text" "_law_text" (defArgs (top 37)) (defBody (top 37)) (defScope (top 37)) [] [] f fd) (hx : mg "_law_text" = some (.ref f)) :
    Fn P w K mg base cls 1 "_law_text" 1 fD__law_text := by
  have nd := sc__law_text.nd
  refine fn_okD (N := ["_law_windows_here", "_law_rows", "_law_left", "_law_top", "_law_right", "_law_bottom"]) (ps := ["_law_windows_here"]) (G := G__law_text) F sc__law_text hx (F.bindsN fun _ _ _ _ _ _ us hl => match us, hl with | [_], _ => rfl) fun cdv A outer s H E hr => ?_
  have tk : Takes (cxOf (L2.CX P w) P w K mg base ["_law_windows_here", "_law_rows", "_law_left", "_law_top", "_law_right", "_law_bottom"] "_law_text" (defScope (top 37)) f cdv A outer s H E) (fun c d _ H => E c d H) := takes_of rfl rfl rfl rfl
  exact (pds_cons (pds_setN (ps_set nd rfl (.inl rfl) (pd_lst pda_nil) rfl (.inr rfl))) (pds_cons (pds_for (passes_of rfl) rfl (pdi_seq (pd_var (pv 0))) (pg_tp rfl (pgn_cons (pg_name nd rfl (.inl rfl) (.inr rfl)) (pgn_cons (pg_name nd rfl (.inl rfl) (.inr rfl)) (pgn_cons (pg_name nd rfl (.inl rfl) (.inr rfl)) (pgn_cons (pg_name nd rfl (.inl rfl) (.inr rfl)) pgn_nil))))) (pds_one (pds_append (r := rAppend) (ps_expr (pe_bm PySem.F.plainAttrs_list PySem.F.slot_list_append PySem.F.type_list_append mt_append (pv 1) (pa_cons (pd_op op_addA os_add (pd_op op_addA os_add (pd_op op_addA os_add (pd_op op_addA os_add (pd_op op_addA os_add (pd_op op_addA os_add (pd_callTy call_str_int cs_strI (by rfl) B.str boot_str (pdb_cons (pb_var (pv 2)) pdb_nil)) pd_str) (pd_callTy call_str_int cs_strI (by rfl) B.str boot_str (pdb_cons (pb_var (pv 3)) pdb_nil))) pd_str) (pd_callTy call_str_int cs_strI (by rfl) B.str boot_str (pdb_cons (pb_var (pv 4)) pdb_nil))) pd_str) (pd_callTy call_str_int cs_strI (by rfl) B.str boot_str (pdb_cons (pb_var (pv 5)) pdb_nil))) pa_nil)))))) (pds_one (pds_ret (pd_join pd_str (pb_var (pv 1)))))))
theorem sc_is_window : FnScope ["candidate", "part"] ["candidate"] (defScope (top 9)) := ⟨rfl, rfl, rfl, by decide +kernel, rfl, by decide +kernel, by decide +kernel⟩
theorem ok_is_window {P : Program} {w : World} {K : PySem.W.Frag} {mg : Str → Option Value} {base : Heap} {cls : Exc → Addr} {f : Addr} {fd : FuncData} (B : Bi mg) (F : FunD K "is_window" "is_window" (defArgs (top 9)) (defBody (top 9)) (defScope (top 9)) [] [] f fd) (hx : mg "is_window" = some (.ref f)) (c_SCREEN : ∃ t, mg "SCREEN" = some (.int 12 t)) (g_is_int : Fn P w K mg base cls 1 "is_int" 3 fD_is_int) :
    Fn P w K mg base cls 2 "is_window" 1 fD_is_window := by
  have nd := sc_is_window.nd
  refine fn_okD (N := ["candidate", "part"]) (ps := ["candidate"]) (G := G_is_window) F sc_is_window hx (F.bindsN fun _ _ _ _ _ _ us hl => match us, hl with | [_], _ => rfl) fun cdv A outer s H E hr => ?_
  have tk : Takes (cxOf (L2.CX P w) P w K mg base ["candidate", "part"] "is_window" (defScope (top 9)) f cdv A outer s H E) (fun c d _ H => E c d H) := takes_of rfl rfl rfl rfl
  exact (pds_cons (pds_if (pdt_w (pdw_or (pdt_not (pdt_val (pd_isi isi_tup (by rfl) B.isinstance (by rfl) B.tuple boot_tuple (pb_var (pv 0))))) (pdw_or1 (pdt_cmp (op_neD (room64 hr)) os_ne (coeVB (pd_callB call_len_seq cs_len (by rfl) B.len boot_len (pdb_cons (pb_var (pv 0)) pdb_nil))) (coeVB pd_int) rfl)))) (pds_one (pds_ret pd_bl)) pds_nil) (pds_cons (pds_if (pdt_not (pdt_val (pd_callB (cr_all (by rfl)) cs_all (by rfl) B.all boot_all (pdb_cons (coeVB (coeNV (pd_lc (own := [("part", 1)]) rfl nd  (pdi_seq (pd_var (pv 0))) (blk_of (N' := ["candidate", "part"]) (sc := (defScope (top 9))) rfl rfl rfl (by decide +kernel)) (fun _ _ _ _ _ => (pg_nm (pg_name nd rfl (.inl rfl) (.inr rfl)))) (fun _ _ _ _ _ => pts_yes) (fun _ _ _ _ _ => (pd_call g_is_int (hr.mono (by decide)) (by rfl) takes0 (pda_cons (pd_var (pv 1)) (pda_cons pd_int (pda_cons (pd_gint (by rfl) c_SCREEN) pda_nil))))) rfl))) pdb_nil)))) (pds_one (pds_ret pd_bl)) pds_nil) (pds_one (pds_ret (pd_and (pd_cmp op_lt (OpSemB.val os_cmpI) (pd_ix ix_seq os_ix (pb_var (pv 0)) pd_int (fun _ _ => rfl)) (pd_ix ix_seq os_ix (pb_var (pv 0)) pd_int (fun _ _ => rfl)) rfl) (pd_one (pd_cmp op_lt (OpSemB.val os_cmpI) (pd_ix ix_seq os_ix (pb_var (pv 0)) pd_int (fun _ _ => rfl)) (pd_ix ix_seq os_ix (pb_var (pv 0)) pd_int (fun _ _ => rfl)) rfl)))))))
theorem sc_has_order : FnScope ["windows", "candidate", "number"] ["windows", "candidate"] (defScope (top 11)) := ⟨rfl, rfl, rfl, by decide +kernel, rfl, by decide +kernel, by decide +kernel⟩
theorem ok_has_order {P : Program} {w : World} {K : PySem.W.Frag} {mg : Str → Option Value} {base : Heap} {cls : Exc → Addr} {f : Addr} {fd : FuncData} (B : Bi mg) (F : FunD K "has_order" "has_order" (defArgs (top 11)) (defBody (top 11)) (defScope (top 11)) [] [] f fd) (hx : mg "has_order" = some (.ref f)) (g_is_int : Fn P w K mg base cls 1 "is_int" 3 fD_is_int) :
    Fn P w K mg base cls 2 "has_order" 2 fD_has_order := by
  have nd := sc_has_order.nd
  refine fn_okD (N := ["windows", "candidate", "number"]) (ps := ["windows", "candidate"]) (G := G_has_order) F sc_has_order hx (F.bindsN fun _ _ _ _ _ _ us hl => match us, hl with | [_, _], _ => rfl) fun cdv A outer s H E hr => ?_
  have tk : Takes (cxOf (L2.CX P w) P w K mg base ["windows", "candidate", "number"] "has_order" (defScope (top 11)) f cdv A outer s H E) (fun c d _ H => E c d H) := takes_of rfl rfl rfl rfl
  exact (pds_cons (pds_if (pdt_w (pdw_or (pdt_not (pdt_val (pd_isi isi_tup (by rfl) B.isinstance (by rfl) B.tuple boot_tuple (pb_var (pv 1))))) (pdw_or1 (pdt_not (pdt_val (pd_callB (cr_all (by rfl)) cs_all (by rfl) B.all boot_all (pdb_cons (coeVB (coeNV (pd_lc (own := [("number", 2)]) rfl nd  (pdi_seq (pd_var (pv 1))) (blk_of (N' := ["windows", "candidate", "number"]) (sc := (defScope (top 11))) rfl rfl rfl (by decide +kernel)) (fun _ _ _ _ _ => (pg_nm (pg_name nd rfl (.inl rfl) (.inr rfl)))) (fun _ _ _ _ _ => pts_yes) (fun _ _ _ _ _ => (pd_call g_is_int (hr.mono (by decide)) (by rfl) takes0 (pda_cons (pd_var (pv 2)) (pda_cons pd_int (pda_cons (pd_op op_sub os_sub (pd_callB call_len_seq cs_len (by rfl) B.len boot_len (pdb_cons (pb_var (pv 0)) pdb_nil)) pd_int) pda_nil))))) rfl))) pdb_nil))))))) (pds_one (pds_ret pd_bl)) pds_nil) (pds_one (pds_ret (pd_cmp (op_eqD (room64 hr)) (OpSemB.val os_eq) (coeVB (coeNV (pd_callB (cr_srt (by rfl) (room8 hr)) cs_sort (by rfl) B.sorted boot_sorted (pdb_cons (pb_var (pv 1)) pdb_nil)))) (coeVB (coeNV (pd_listRg1 (by rfl) (by rfl) B.list (by rfl) B.range (pd_callB call_len_seq cs_len (by rfl) B.len boot_len (pdb_cons (pb_var (pv 0)) pdb_nil))))) rfl))))
theorem sc_read_window : FnScope ["part", "words", "corner", "word"] ["part"] (defScope (top 25)) := ⟨rfl, rfl, rfl, by decide +kernel, rfl, by decide +kernel, by decide +kernel⟩
theorem ok_read_window {P : Program} {w : World} {K : PySem.W.Frag} {mg : Str → Option Value} {base : Heap} {cls : Exc → Addr} {f : Addr} {fd : FuncData} (B : Bi mg) (F : FunD K "read_window" "read_window" (defArgs (top 25)) (defBody (top 25)) (defScope (top 25)) [] [] f fd) (hx : mg "read_window" = some (.ref f)) (c_COMMA : ∃ t, mg "COMMA" = some (.str "," t)) (c_DASH : ∃ t, mg "DASH" = some (.str "-" t)) (g_read_number : Fn P w K mg base cls 1 "read_number" 1 fD_read_number) :
    Fn P w K mg base cls 2 "read_window" 1 fD_read_window := by
  have nd := sc_read_window.nd
  refine fn_okD (N := ["part", "words", "corner", "word"]) (ps := ["part"]) (G := G_read_window) F sc_read_window hx (F.bindsN fun _ _ _ _ _ _ us hl => match us, hl with | [_], _ => rfl) fun cdv A outer s H E hr => ?_
  have tk : Takes (cxOf (L2.CX P w) P w K mg base ["part", "words", "corner", "word"] "read_window" (defScope (top 25)) f cdv A outer s H E) (fun c d _ H => E c d H) := takes_of rfl rfl rfl rfl
  exact (pds_cons (pds_set (asgNV (pds_setLc2 (own := [("corner", 2), ("word", 3)]) (vs1 := [3]) rfl nd (i := 1) rfl rfl rfl (pdi_seq (coeNV (pdn_split (pd_var (pv 0)) (pd_gstr (by rfl) c_DASH)))) (blk_of (N' := ["part", "words", "corner", "word"]) (sc := (defScope (top 25))) rfl rfl rfl (by decide +kernel)) rfl (fun _ _ _ _ _ => (pg_nm (pg_name nd rfl (.inl rfl) (.inr rfl)))) (fun _ _ _ _ _ => pts_yes) (fun _ _ _ _ _ => (pdi_seq (coeNV (pdn_split (pd_var (pv 2)) (pd_gstr (by rfl) c_COMMA))))) (fun _ _ _ _ _ => (pg_nm (pg_name nd rfl (.inl rfl) (.inr rfl)))) (fun _ _ _ _ _ => pts_yes) (fun _ _ _ _ _ => (pd_var (pv 3))) rfl rfl))) (pds_one (pds_ret (pd_callTy call_tuple_of cs_tuple (by rfl) B.tuple boot_tuple (pdb_cons (coeVB (coeNV (pd_lc (own := [("word", 3)]) rfl nd  (pdi_seq (pd_var (pv 1))) (blk_of (N' := ["part", "words", "corner", "word"]) (sc := (defScope (top 25))) rfl rfl rfl (by decide +kernel)) (fun _ _ _ _ _ => (pg_nm (pg_name nd rfl (.inl rfl) (.inr rfl)))) (fun _ _ _ _ _ => pts_yes) (fun _ _ _ _ _ => (pd_call g_read_number (hr.mono (by decide)) (by rfl) takes0 (pda_cons (pd_var (pv 3)) pda_nil))) rfl))) pdb_nil)))))
theorem sc__law_window : FnScope ["_law_script", "_law_at", "_law_left", "_law_top"] ["_law_script", "_law_at"] (defScope (top 32)) := ⟨rfl, rfl, rfl, by decide +kernel, rfl, by decide +kernel, by decide +kernel⟩
theorem ok__law_window {P : Program} {w : World} {K : PySem.W.Frag} {mg : Str → Option Value} {base : Heap} {cls : Exc → Addr} {f : Addr} {fd : FuncData} (B : Bi mg) (F : FunD K "_law_window" "_law_window" (defArgs (top 32)) (defBody (top 32)) (defScope (top 32)) [] [] f fd) (hx : mg "_law_window" = some (.ref f)) (g__law_drawn : Fn P w K mg base cls 1 "_law_drawn" 3 fD__law_drawn) :
    Fn P w K mg base cls 2 "_law_window" 2 fD__law_window := by
  have nd := sc__law_window.nd
  refine fn_okD (N := ["_law_script", "_law_at", "_law_left", "_law_top"]) (ps := ["_law_script", "_law_at"]) (G := G__law_window) F sc__law_window hx (F.bindsN fun _ _ _ _ _ _ us hl => match us, hl with | [_, _], _ => rfl) fun cdv A outer s H E hr => ?_
  have tk : Takes (cxOf (L2.CX P w) P w K mg base ["_law_script", "_law_at", "_law_left", "_law_top"] "_law_window" (defScope (top 32)) f cdv A outer s H E) (fun c d _ H => E c d H) := takes_of rfl rfl rfl rfl
  exact (pds_cons (pds_par (ps_par rfl nd rfl rfl (by decide) rfl rfl (pa_cons (coeVS (pd_call g__law_drawn (hr.mono (by decide)) (by rfl) tk (pda_cons (pd_var (pv 0)) (pda_cons (pd_var (pv 1)) (pda_cons pd_int pda_nil))))) (pa_cons (coeVS (pd_call g__law_drawn (hr.mono (by decide)) (by rfl) tk (pda_cons (pd_var (pv 0)) (pda_cons (pd_op op_addA os_add (pd_var (pv 1)) pd_int) (pda_cons pd_int pda_nil))))) pa_nil)) rfl)) (pds_one (pds_ret (pd_tup (pda_cons (pd_var (pv 2)) (pda_cons (pd_var (pv 3)) (pda_cons (pd_op op_addA os_add (pd_op op_addA os_add (pd_var (pv 2)) pd_int) (pd_call g__law_drawn (hr.mono (by decide)) (by rfl) tk (pda_cons (pd_var (pv 0)) (pda_cons (pd_op op_addA os_add (pd_var (pv 1)) pd_int) (pda_cons pd_int pda_nil))))) (pda_cons (pd_op op_addA os_add (pd_op op_addA os_add (pd_var (pv 3)) pd_int) (pd_call g__law_drawn (hr.mono (by decide)) (by rfl) tk (pda_cons (pd_var (pv 0)) (pda_cons (pd_op op_addA os_add (pd_var (pv 1)) pd_int) (pda_cons pd_int pda_nil))))) pda_nil))))))))
theorem sc__law_order : FnScope ["_law_script", "_law_at", "_law_many", "_law_found", "_law_number", "_law_place"] ["_law_script", "_law_at", "_law_many"] (defScope (top 34)) := ⟨rfl, rfl, rfl, by decide +kernel, rfl, by decide +kernel, by decide +kernel⟩
theorem ok__law_order {P : Program} {w : World} {K : PySem.W.Frag} {mg : Str → Option Value} {base : Heap} {cls : Exc → Addr} {f : Addr} {fd : FuncData} (B : Bi mg) (F : FunD K "_law_order" "_law_order" (defArgs (top 34)) (defBody (top 34)) (defScope (top 34)) [] [] f fd) (hx : mg "_law_order" = some (.ref f)) (g__law_drawn : Fn P w K mg base cls 1 "_law_drawn" 3 fD__law_drawn) :
    Fn P w K mg base cls 2 "_law_order" 3 fD__law_order := by
  have nd := sc__law_order.nd
  refine fn_okD (N := ["_law_script", "_law_at", "_law_many", "_law_found", "_law_number", "_law_place"]) (ps := ["_law_script", "_law_at", "_law_many"]) (G := G__law_order) F sc__law_order hx (F.bindsN fun _ _ _ _ _ _ us hl => match us, hl with | [_, _, _], _ => rfl) fun cdv A outer s H E hr => ?_
  have tk : Takes (cxOf (L2.CX P w) P w K mg base ["_law_script", "_law_at", "_law_many", "_law_found", "_law_number", "_law_place"] "_law_order" (defScope (top 34)) f cdv A outer s H E) (fun c d _ H => E c d H) := takes_of rfl rfl rfl rfl
  exact (pds_cons (pds_set (ps_set nd rfl (.inl rfl) (coeNV (pd_lst pda_nil)) rfl (.inr rfl))) (pds_cons (pds_for (passes_of rfl) rfl (pdi_range1 (by rfl) B.range (pdb_cons (pb_var (pv 2)) pdb_nil)) (pg_nm (pg_name nd rfl (.inl rfl) (.inr rfl))) (pds_cons (pds_set (ps_set nd rfl (.inl rfl) (pd_call g__law_drawn (hr.mono (by decide)) (by rfl) tk (pda_cons (pd_var (pv 0)) (pda_cons (pd_op op_addA os_add (pd_var (pv 1)) (pd_var (pv 4))) (pda_cons (pd_op op_addA os_add (pd_callB call_len_seq cs_len (by rfl) B.len boot_len (pdb_cons (pb_var (pv 3)) pdb_nil)) pd_int) pda_nil)))) rfl (.inr rfl))) (pds_one (pds_set (ps_set nd rfl (.inl rfl) (coeNV (pd_op op_cat os_cat (coeVB (coeNV (pd_op op_cat os_cat (coeVB (pd_slice (pb_var (pv 3)) pdo_none (pdo_some (pd_var (pv 5))))) (coeVB (coeNV (pd_lst (pda_cons (pd_var (pv 4)) pda_nil))))))) (coeVB (pd_slice (pb_var (pv 3)) (pdo_some (pd_var (pv 5))) pdo_none)))) rfl (.inr rfl)))))) (pds_one (pds_ret (pd_callTy call_tuple_of cs_tuple (by rfl) B.tuple boot_tuple (pdb_cons (pb_var (pv 3)) pdb_nil))))))
theorem sc__law_badwindows : FnScope ["_law_script", "_law_at", "_law_bad"] ["_law_script", "_law_at"] (defScope (top 35)) := ⟨rfl, rfl, rfl, by decide +kernel, rfl, by decide +kernel, by decide +kernel⟩
theorem ok__law_badwindows {P : Program} {w : World} {K : PySem.W.Frag} {mg : Str → Option Value} {base : Heap} {cls : Exc → Addr} {f : Addr} {fd : FuncData} (B : Bi mg) (F : FunD K "_law_badwindows" "_law_badwindows" (defArgs (top 35)) (defBody (top 35)) (defScope (top 35)) [] [] f fd) (hx : mg "_law_badwindows" = some (.ref f)) (g__law_drawn : Fn P w K mg base cls 1 "_law_drawn" 3 fD__law_drawn) :
    Fn P w K mg base cls 2 "_law_badwindows" 2 fD__law_badwindows := by
  have nd := sc__law_badwindows.nd
  refine fn_okD (N := ["_law_script", "_law_at", "_law_bad"]) (ps := ["_law_script", "_law_at"]) (G := G__law_badwindows) F sc__law_badwindows hx (F.bindsN fun _ _ _ _ _ _ us hl => match us, hl with | [_, _], _ => rfl) fun cdv A outer s H E hr => ?_
  have tk : Takes (cxOf (L2.CX P w) P w K mg base ["_law_script", "_law_at", "_law_bad"] "_law_badwindows" (defScope (top 35)) f cdv A outer s H E) (fun c d _ H => E c d H) := takes_of rfl rfl rfl rfl
  exact (pds_cons (pds_set (ps_set nd rfl (.inl rfl) (coeNV (pd_lst (pda_cons pd_non (pda_cons (coeNV (pd_lst pda_nil)) (pda_cons (coeNV (pd_lst (pda_cons (pd_tup (pda_cons pd_int (pda_cons pd_int (pda_cons pd_int (pda_cons pd_int pda_nil))))) pda_nil))) (pda_cons (pd_tup (pda_cons (pd_tup (pda_cons pd_int (pda_cons pd_int (pda_cons pd_int (pda_cons pd_int pda_nil))))) pda_nil)) (pda_cons (pd_tup (pda_cons (pd_tup (pda_cons pd_int (pda_cons pd_int (pda_cons pd_int (pda_cons pd_int pda_nil))))) pda_nil)) (pda_cons (pd_tup (pda_cons (pd_tup (pda_cons pd_int (pda_cons pd_int (pda_cons pd_int (pda_cons pd_int pda_nil))))) pda_nil)) pda_nil)))))))) rfl (.inr rfl))) (pds_cons (pds_set (ps_set nd rfl (.inl rfl) (coeNV (pd_op op_cat os_cat (pb_var (pv 2)) (coeVB (coeNV (pd_lst (pda_cons (pd_tup (pda_cons (pd_tup (pda_cons pd_bl (pda_cons pd_int (pda_cons pd_int (pda_cons pd_int pda_nil))))) pda_nil)) (pda_cons (pd_tup (pda_cons (pd_tup (pda_cons pd_int (pda_cons pd_int (pda_cons pd_int pda_nil)))) pda_nil)) pda_nil))))))) rfl (.inr rfl))) (pds_one (pds_ret (pd_ix ix_seq os_ix (coeVB (coeNV (pd_op op_cat os_cat (pb_var (pv 2)) (coeVB (coeNV (pd_lst (pda_cons (pd_op op_mulA os_mulA (pd_tup (pda_cons (pd_tup (pda_cons pd_int (pda_cons pd_int (pda_cons pd_int (pda_cons pd_int pda_nil))))) pda_nil)) pd_int) (pda_cons (pd_tup (pda_cons pd_int (pda_cons pd_int (pda_cons pd_int (pda_cons pd_int pda_nil))))) (pda_cons (pd_tup (pda_cons (pd_tup (pda_cons (pd_neg pd_int) (pda_cons pd_int (pda_cons pd_int (pda_cons pd_int pda_nil))))) pda_nil)) pda_nil))))))))) (pd_call g__law_drawn (hr.mono (by decide)) (by rfl) tk (pda_cons (pd_var (pv 0)) (pda_cons (pd_var (pv 1)) (pda_cons pd_int pda_nil)))) (fun _ _ => rfl))))))
theorem sc__law_badorder : FnScope ["_law_script", "_law_at", "_law_order_here", "_law_bad", "_law_number"] ["_law_script", "_law_at", "_law_order_here"] (defScope (top 36)) := ⟨rfl, rfl, rfl, by decide +kernel, rfl, by decide +kernel, by decide +kernel⟩
theorem ok__law_badorder {P : Program} {w : World} {K : PySem.W.Frag} {mg : Str → Option Value} {base : Heap} {cls : Exc → Addr} {f : Addr} {fd : FuncData} (B : Bi mg) (F : FunD K "_law_badorder" "_law_badorder" (defArgs (top 36)) (defBody (top 36)) (defScope (top 36)) [] [] f fd) (hx : mg "_law_badorder" = some (.ref f)) (g__law_drawn : Fn P w K mg base cls 1 "_law_drawn" 3 fD__law_drawn) :
    Fn P w K mg base cls 2 "_law_badorder" 3 fD__law_badorder := by
  have nd := sc__law_badorder.nd
  refine fn_okD (N := ["_law_script", "_law_at", "_law_order_here", "_law_bad", "_law_number"]) (ps := ["_law_script", "_law_at", "_law_order_here"]) (G := G__law_badorder) F sc__law_badorder hx (F.bindsN fun _ _ _ _ _ _ us hl => match us, hl with | [_, _, _], _ => rfl) fun cdv A outer s H E hr => ?_
  have tk : Takes (cxOf (L2.CX P w) P w K mg base ["_law_script", "_law_at", "_law_order_here", "_law_bad", "_law_number"] "_law_badorder" (defScope (top 36)) f cdv A outer s H E) (fun c d _ H => E c d H) := takes_of rfl rfl rfl rfl
  exact (pds_cons (pds_set (ps_set nd rfl (.inl rfl) (coeNV (pd_lst (pda_cons pd_non (pda_cons (coeNV (pd_callTy call_list_of cs_list (by rfl) B.list boot_list (pdb_cons (pb_var (pv 2)) pdb_nil))) (pda_cons (pd_op op_addA os_add (pd_var (pv 2)) (pd_tup (pda_cons (pd_callB call_len_seq cs_len (by rfl) B.len boot_len (pdb_cons (pb_var (pv 2)) pdb_nil)) pda_nil))) (pda_cons (pd_op op_addA os_add (pd_op op_addA os_add (pd_var (pv 2)) (pd_slice (pb_var (pv 2)) pdo_none (pdo_some pd_int))) (pd_tup (pda_cons pd_int pda_nil))) pda_nil)))))) rfl (.inr rfl))) (pds_cons (pds_set (ps_set nd rfl (.inl rfl) (coeNV (pd_op op_cat os_cat (pb_var (pv 3)) (coeVB (coeNV (pd_lst (pda_cons (pd_op op_addA os_add (pd_callTy call_tuple_of cs_tuple (by rfl) B.tuple boot_tuple (pdb_cons (coeVB (coeNV (pd_lc (own := [("_law_number", 4)]) rfl nd  (pdi_seq (pd_var (pv 2))) (blk_of (N' := ["_law_script", "_law_at", "_law_order_here", "_law_bad", "_law_number"]) (sc := (defScope (top 36))) rfl rfl rfl (by decide +kernel)) (fun _ _ _ _ _ => (pg_nm (pg_name nd rfl (.inl rfl) (.inr rfl)))) (fun _ _ _ _ _ => pts_yes) (fun _ _ _ _ _ => (pd_op op_addA os_add pd_int (pd_var (pv 4)))) rfl))) pdb_nil)) (pd_tup (pda_cons pd_int (pda_cons pd_int pda_nil)))) pda_nil)))))) rfl (.inr rfl))) (pds_one (pds_ret (pd_ix ix_seq os_ix (pb_var (pv 3)) (pd_call g__law_drawn (hr.mono (by decide)) (by rfl) tk (pda_cons (pd_var (pv 0)) (pda_cons (pd_var (pv 1)) (pda_cons pd_int pda_nil)))) (fun _ _ => rfl))))))
theorem sc_are_windows : FnScope ["candidate", "window"] ["candidate"] (defScope (top 10)) := ⟨rfl, rfl, rfl, by decide +kernel, rfl, by decide +kernel, by decide +kernel⟩
theorem ok_are_windows {P : Program} {w : World} {K : PySem.W.Frag} {mg : Str → Option Value} {base : Heap} {cls : Exc → Addr} {f : Addr} {fd : FuncData} (B : Bi mg) (F : FunD K "are_windows" "are_windows" (defArgs (top 10)) (defBody (top 10)) (defScope (top 10)) [] [] f fd) (hx : mg "are_windows" = some (.ref f)) (c_MAX_WINDOWS : ∃ t, mg "MAX_WINDOWS" = some (.int 6 t)) (g_is_window : Fn P w K mg base cls 2 "is_window" 1 fD_is_window) :
    Fn P w K mg base cls 3 "are_windows" 1 fD_are_windows := by
  have nd := sc_are_windows.nd
  refine fn_okD (N := ["candidate", "window"]) (ps := ["candidate"]) (G := G_are_windows) F sc_are_windows hx (F.bindsN fun _ _ _ _ _ _ us hl => match us, hl with | [_], _ => rfl) fun cdv A outer s H E hr => ?_
  have tk : Takes (cxOf (L2.CX P w) P w K mg base ["candidate", "window"] "are_windows" (defScope (top 10)) f cdv A outer s H E) (fun c d _ H => E c d H) := takes_of rfl rfl rfl rfl
  exact (pds_cons (pds_if (pdt_w (pdw_or (pdt_not (pdt_val (pd_isi isi_tup (by rfl) B.isinstance (by rfl) B.tuple boot_tuple (pb_var (pv 0))))) (pdw_or1 (pdt_cmp op_gt os_cmpI (pd_callB call_len_seq cs_len (by rfl) B.len boot_len (pdb_cons (pb_var (pv 0)) pdb_nil)) (pd_gint (by rfl) c_MAX_WINDOWS) rfl)))) (pds_one (pds_ret pd_bl)) pds_nil) (pds_one (pds_ret (pd_callB (cr_all (by rfl)) cs_all (by rfl) B.all boot_all (pdb_cons (coeVB (coeNV (pd_lc (own := [("window", 1)]) rfl nd  (pdi_seq (pd_var (pv 0))) (blk_of (N' := ["candidate", "window"]) (sc := (defScope (top 10))) rfl rfl rfl (by decide +kernel)) (fun _ _ _ _ _ => (pg_nm (pg_name nd rfl (.inl rfl) (.inr rfl)))) (fun _ _ _ _ _ => pts_yes) (fun _ _ _ _ _ => (pd_call g_is_window (hr.mono (by decide)) (by rfl) takes0 (pda_cons (pd_var (pv 1)) pda_nil))) rfl))) pdb_nil)))))
theorem sc_check_order : FnScope ["windows", "value"] ["windows", "value"] (defScope (top 13)) := ⟨rfl, rfl, rfl, by decide +kernel, rfl, by decide +kernel, by decide +kernel⟩
theorem ok_check_order {P : Program} {w : World} {K : PySem.W.Frag} {mg : Str → Option Value} {base : Heap} {cls : Exc → Addr} {f : Addr} {fd : FuncData} (B : Bi mg) (F : FunD K "check_order" "check_order" (defArgs (top 13)) (defBody (top 13)) (defScope (top 13)) [] [] f fd) (hx : mg "check_order" = some (.ref f)) (e_InvalidOrder : ExcAt K mg "InvalidOrder" (cls .order)) (g_has_order : Fn P w K mg base cls 2 "has_order" 2 fD_has_order) :
    Fn P w K mg base cls 3 "check_order" 2 fD_check_order := by
  have nd := sc_check_order.nd
  refine fn_okD (N := ["windows", "value"]) (ps := ["windows", "value"]) (G := G_check_order) F sc_check_order hx (F.bindsN fun _ _ _ _ _ _ us hl => match us, hl with | [_, _], _ => rfl) fun cdv A outer s H E hr => ?_
  have tk : Takes (cxOf (L2.CX P w) P w K mg base ["windows", "value"] "check_order" (defScope (top 13)) f cdv A outer s H E) (fun c d _ H => E c d H) := takes_of rfl rfl rfl rfl
  exact (pds_one (pds_if (pdt_not (pdt_val (pd_call g_has_order (hr.mono (by decide)) (by rfl) tk (pda_cons (pd_var (pv 0)) (pda_cons (pd_var (pv 1)) pda_nil))))) (pds_one (pds_raise rfl tk e_InvalidOrder rfl)) pds_nil))
theorem sc__law_windows : FnScope ["_law_script", "_law_at", "_law_most", "_law_found", "_law_k", "_law_near", "_law_left", "_law_top", "_law_right", "_law_bottom", "_law_start", "_law_above"] ["_law_script", "_law_at", "_law_most"] (defScope (top 33)) := ⟨rfl, rfl, rfl, by decide +kernel, rfl, by decide +kernel, by decide +kernel⟩
theorem ok__law_windows {P : Program} {w : World} {K : PySem.W.Frag} {mg : Str → Option Value} {base : Heap} {cls : Exc → Addr} {f : Addr} {fd : FuncData} (B : Bi mg) (F : FunD K "_law_windows" "_law_windows" (defArgs (top 33)) (defBody (top 33)) (defScope (top 33)) [] [] f fd) (hx : mg "_law_windows" = some (.ref f)) (g__law_drawn : Fn P w K mg base cls 1 "_law_drawn" 3 fD__law_drawn) (g__law_window : Fn P w K mg base cls 2 "_law_window" 2 fD__law_window) :
    Fn P w K mg base cls 3 "_law_windows" 3 fD__law_windows := by
  have nd := sc__law_windows.nd
  refine fn_okD (N := ["_law_script", "_law_at", "_law_most", "_law_found", "_law_k", "_law_near", "_law_left", "_law_top", "_law_right", "_law_bottom", "_law_start", "_law_above"]) (ps := ["_law_script", "_law_at", "_law_most"]) (G := G__law_windows) F sc__law_windows hx (F.bindsN fun _ _ _ _ _ _ us hl => match us, hl with | [_, _, _], _ => rfl) fun cdv A outer s H E hr => ?_
  have tk : Takes (cxOf (L2.CX P w) P w K mg base ["_law_script", "_law_at", "_law_most", "_law_found", "_law_k", "_law_near", "_law_left", "_law_top", "_law_right", "_law_bottom", "_law_start", "_law_above"] "_law_windows" (defScope (top 33)) f cdv A outer s H E) (fun c d _ H => E c d H) := takes_of rfl rfl rfl rfl
  exact (pds_cons (pds_setN (ps_set nd rfl (.inl rfl) (pd_lst pda_nil) rfl (.inr rfl))) (pds_cons (pds_for (passes_of rfl) rfl (pdi_range1 (by rfl) B.range (pdb_cons (coeVB (pd_call g__law_drawn (hr.mono (by decide)) (by rfl) tk (pda_cons (pd_var (pv 0)) (pda_cons (pd_var (pv 1)) (pda_cons (pd_op op_addA os_add (pd_var (pv 2)) pd_int) pda_nil))))) pdb_nil)) (pg_nm (pg_name nd rfl (.inl rfl) (.inr rfl))) (pds_cons (pds_unp (ps_asg (pd_call g__law_window (hr.mono (by decide)) (by rfl) tk (pda_cons (pd_var (pv 0)) (pda_cons (pd_op op_addA os_add (pd_op op_addA os_add (pd_var (pv 1)) pd_int) (pd_op op_mulA os_mulA pd_int (pd_var (pv 4)))) pda_nil))) (pg_tp rfl (pgn_cons (pg_name nd rfl (.inl rfl) (.inr rfl)) (pgn_cons (pg_name nd rfl (.inl rfl) (.inr rfl)) (pgn_cons (pg_name nd rfl (.inl rfl) (.inr rfl)) (pgn_cons (pg_name nd rfl (.inl rfl) (.inr rfl)) pgn_nil))))))) (pds_cons (pds_set (ps_set nd rfl (.inl rfl) (pd_op op_addA os_add pd_int (pd_call g__law_drawn (hr.mono (by decide)) (by rfl) tk (pda_cons (pd_var (pv 0)) (pda_cons (pd_op op_addA os_add (pd_var (pv 1)) pd_int) (pda_cons pd_int pda_nil))))) rfl (.inr rfl))) (pds_cons (pds_par (ps_par rfl nd rfl rfl (by decide) rfl rfl (pa_cons (coeVS (pd_op op_fdivW os_fdiv (pd_var (pv 6)) (pd_var (pv 5)))) (pa_cons (coeVS (pd_op op_fdivW os_fdiv (pd_var (pv 7)) (pd_var (pv 5)))) pa_nil)) rfl)) (pds_one (pds_append (r := rAppend) (ps_expr (pe_bm PySem.F.plainAttrs_list PySem.F.slot_list_append PySem.F.type_list_append mt_append (pv 3) (pa_cons (pd_tup (pda_cons (pd_var (pv 10)) (pda_cons (pd_var (pv 11)) (pda_cons (pd_op op_sub os_sub (pd_op op_addA os_add (pd_var (pv 10)) (pd_var (pv 8))) (pd_var (pv 6))) (pda_cons (pd_op op_sub os_sub (pd_op op_addA os_add (pd_var (pv 11)) (pd_var (pv 9))) (pd_var (pv 7))) pda_nil))))) pa_nil))))))))) (pds_one (pds_ret (pd_callTy call_tuple_of cs_tuple (by rfl) B.tuple boot_tuple (pdb_cons (pb_var (pv 3)) pdb_nil))))))
theorem sc_check_windows : FnScope ["value"] ["value"] (defScope (top 12)) := ⟨rfl, rfl, rfl, by decide +kernel, rfl, by decide +kernel, by decide +kernel⟩
theorem ok_check_windows {P : Program} {w : World} {K : PySem.W.Frag} {mg : Str → Option Value} {base : Heap} {cls : Exc → Addr} {f : Addr} {fd : FuncData} (B : Bi mg) (F : FunD K "check_windows" "check_windows" (defArgs (top 12)) (defBody (top 12)) (defScope (top 12)) [] [] f fd) (hx : mg "check_windows" = some (.ref f)) (e_InvalidWindows : ExcAt K mg "InvalidWindows" (cls .windows)) (g_are_windows : Fn P w K mg base cls 3 "are_windows" 1 fD_are_windows) :
    Fn P w K mg base cls 4 "check_windows" 1 fD_check_windows := by
  have nd := sc_check_windows.nd
  refine fn_okD (N := ["value"]) (ps := ["value"]) (G := G_check_windows) F sc_check_windows hx (F.bindsN fun _ _ _ _ _ _ us hl => match us, hl with | [_], _ => rfl) fun cdv A outer s H E hr => ?_
  have tk : Takes (cxOf (L2.CX P w) P w K mg base ["value"] "check_windows" (defScope (top 12)) f cdv A outer s H E) (fun c d _ H => E c d H) := takes_of rfl rfl rfl rfl
  exact (pds_one (pds_if (pdt_not (pdt_val (pd_call g_are_windows (hr.mono (by decide)) (by rfl) tk (pda_cons (pd_var (pv 0)) pda_nil)))) (pds_one (pds_raise rfl tk e_InvalidWindows rfl)) pds_nil))
theorem sc_parse_windows : FnScope ["text", "windows", "part"] ["text"] (defScope (top 26)) := ⟨rfl, rfl, rfl, by decide +kernel, rfl, by decide +kernel, by decide +kernel⟩
theorem ok_parse_windows {P : Program} {w : World} {K : PySem.W.Frag} {mg : Str → Option Value} {base : Heap} {cls : Exc → Addr} {f : Addr} {fd : FuncData} (B : Bi mg) (F : FunD K "parse_windows" "parse_windows" (defArgs (top 26)) (defBody (top 26)) (defScope (top 26)) [] [] f fd) (hx : mg "parse_windows" = some (.ref f)) (c_BETWEEN : ∃ t, mg "BETWEEN" = some (.str "; " t)) (e_ParseError : ExcAt K mg "ParseError" (cls .parse)) (g_are_windows : Fn P w K mg base cls 3 "are_windows" 1 fD_are_windows) (g_join_windows : Fn P w K mg base cls 1 "join_windows" 1 fD_join_windows) (g_read_window : Fn P w K mg base cls 2 "read_window" 1 fD_read_window) :
    Fn P w K mg base cls 4 "parse_windows" 1 fD_parse_windows := by
  have nd := sc_parse_windows.nd
  refine fn_okD (N := ["text", "windows", "part"]) (ps := ["text"]) (G := G_parse_windows) F sc_parse_windows hx (F.bindsN fun _ _ _ _ _ _ us hl => match us, hl with | [_], _ => rfl) fun cdv A outer s H E hr => ?_
  have tk : Takes (cxOf (L2.CX P w) P w K mg base ["text", "windows", "part"] "parse_windows" (defScope (top 26)) f cdv A outer s H E) (fun c d _ H => E c d H) := takes_of rfl rfl rfl rfl
  exact (pds_cons (pds_if (pdt_not (pdt_val (pd_isi isi_str (by rfl) B.isinstance (by rfl) B.str boot_str (pb_var (pv 0))))) (pds_one (pds_raise rfl tk e_ParseError rfl)) pds_nil) (pds_cons (pds_set (ps_set nd rfl (.inl rfl) (pd_if (pdt_cmp (op_neD (room64 hr)) os_ne (pb_var (pv 0)) (coeVB pd_str) rfl) (pd_callTy call_tuple_of cs_tuple (by rfl) B.tuple boot_tuple (pdb_cons (coeVB (coeNV (pd_lc (own := [("part", 2)]) rfl nd  (pdi_seq (coeNV (pdn_split (pd_var (pv 0)) (pd_gstr (by rfl) c_BETWEEN)))) (blk_of (N' := ["text", "windows", "part"]) (sc := (defScope (top 26))) rfl rfl rfl (by decide +kernel)) (fun _ _ _ _ _ => (pg_nm (pg_name nd rfl (.inl rfl) (.inr rfl)))) (fun _ _ _ _ _ => pts_yes) (fun _ _ _ _ _ => (pd_call g_read_window (hr.mono (by decide)) (by rfl) takes0 (pda_cons (pd_var (pv 2)) pda_nil))) rfl))) pdb_nil)) (pd_tup pda_nil)) rfl (.inr rfl))) (pds_cons (pds_if (pdt_w (pdw_or (pdt_not (pdt_val (pd_call g_are_windows (hr.mono (by decide)) (by rfl) tk (pda_cons (pd_var (pv 1)) pda_nil)))) (pdw_or1 (pdt_cmp (op_neD (room64 hr)) os_ne (coeVB (pd_call g_join_windows (hr.mono (by decide)) (by rfl) tk (pda_cons (pd_var (pv 1)) pda_nil))) (pb_var (pv 0)) rfl)))) (pds_one (pds_raise rfl tk e_ParseError rfl)) pds_nil) (pds_one (pds_ret (pd_var (pv 1)))))))
theorem sc_check_both : FnScope ["windows", "order"] ["windows", "order"] (defScope (top 14)) := ⟨rfl, rfl, rfl, by decide +kernel, rfl, by decide +kernel, by decide +kernel⟩
theorem ok_check_both {P : Program} {w : World} {K : PySem.W.Frag} {mg : Str → Option Value} {base : Heap} {cls : Exc → Addr} {f : Addr} {fd : FuncData} (B : Bi mg) (F : FunD K "check_both" "check_both" (defArgs (top 14)) (defBody (top 14)) (defScope (top 14)) [] [] f fd) (hx : mg "check_both" = some (.ref f)) (g_check_windows : Fn P w K mg base cls 4 "check_windows" 1 fD_check_windows) (g_check_order : Fn P w K mg base cls 3 "check_order" 2 fD_check_order) :
    Fn P w K mg base cls 5 "check_both" 2 fD_check_both := by
  have nd := sc_check_both.nd
  refine fn_okD (N := ["windows", "order"]) (ps := ["windows", "order"]) (G := G_check_both) F sc_check_both hx (F.bindsN fun _ _ _ _ _ _ us hl => match us, hl with | [_, _], _ => rfl) fun cdv A outer s H E hr => ?_
  have tk : Takes (cxOf (L2.CX P w) P w K mg base ["windows", "order"] "check_both" (defScope (top 14)) f cdv A outer s H E) (fun c d _ H => E c d H) := takes_of rfl rfl rfl rfl
  exact (pds_cons (pds_expr (ps_expr (pd_call g_check_windows (hr.mono (by decide)) (by rfl) tk (pda_cons (pd_var (pv 0)) pda_nil)))) (pds_one (pds_expr (ps_expr (pd_call g_check_order (hr.mono (by decide)) (by rfl) tk (pda_cons (pd_var (pv 0)) (pda_cons (pd_var (pv 1)) pda_nil)))))))
theorem sc_format_windows : FnScope ["windows"] ["windows"] (defScope (top 23)) := ⟨rfl, rfl, rfl, by decide +kernel, rfl, by decide +kernel, by decide +kernel⟩
theorem ok_format_windows {P : Program} {w : World} {K : PySem.W.Frag} {mg : Str → Option Value} {base : Heap} {cls : Exc → Addr} {f : Addr} {fd : FuncData} (B : Bi mg) (F : FunD K "format_windows" "format_windows" (defArgs (top 23)) (defBody (top 23)) (defScope (top 23)) [] [] f fd) (hx : mg "format_windows" = some (.ref f)) (g_check_windows : Fn P w K mg base cls 4 "check_windows" 1 fD_check_windows) (g_join_windows : Fn P w K mg base cls 1 "join_windows" 1 fD_join_windows) :
    Fn P w K mg base cls 5 "format_windows" 1 fD_format_windows := by
  have nd := sc_format_windows.nd
  refine fn_okD (N := ["windows"]) (ps := ["windows"]) (G := G_format_windows) F sc_format_windows hx (F.bindsN fun _ _ _ _ _ _ us hl => match us, hl with | [_], _ => rfl) fun cdv A outer s H E hr => ?_
  have tk : Takes (cxOf (L2.CX P w) P w K mg base ["windows"] "format_windows" (defScope (top 23)) f cdv A outer s H E) (fun c d _ H => E c d H) := takes_of rfl rfl rfl rfl
  exact (pds_cons (pds_expr (ps_expr (pd_call g_check_windows (hr.mono (by decide)) (by rfl) tk (pda_cons (pd_var (pv 0)) pda_nil)))) (pds_one (pds_ret (pd_call g_join_windows (hr.mono (by decide)) (by rfl) tk (pda_cons (pd_var (pv 0)) pda_nil)))))
theorem sc_parse_order : FnScope ["windows", "text", "order", "word"] ["windows", "text"] (defScope (top 29)) := ⟨rfl, rfl, rfl, by decide +kernel, rfl, by decide +kernel, by decide +kernel⟩
theorem ok_parse_order {P : Program} {w : World} {K : PySem.W.Frag} {mg : Str → Option Value} {base : Heap} {cls : Exc → Addr} {f : Addr} {fd : FuncData} (B : Bi mg) (F : FunD K "parse_order" "parse_order" (defArgs (top 29)) (defBody (top 29)) (defScope (top 29)) [] [] f fd) (hx : mg "parse_order" = some (.ref f)) (c_LESS : ∃ t, mg "LESS" = some (.str "<" t)) (e_ParseError : ExcAt K mg "ParseError" (cls .parse)) (g_has_order : Fn P w K mg base cls 2 "has_order" 2 fD_has_order) (g_check_windows : Fn P w K mg base cls 4 "check_windows" 1 fD_check_windows) (g_read_number : Fn P w K mg base cls 1 "read_number" 1 fD_read_number) (g_join_order : Fn P w K mg base cls 1 "join_order" 1 fD_join_order) :
    Fn P w K mg base cls 5 "parse_order" 2 fD_parse_order := by
  have nd := sc_parse_order.nd
  refine fn_okD (N := ["windows", "text", "order", "word"]) (ps := ["windows", "text"]) (G := G_parse_order) F sc_parse_order hx (F.bindsN fun _ _ _ _ _ _ us hl => match us, hl with | [_, _], _ => rfl) fun cdv A outer s H E hr => ?_
  have tk : Takes (cxOf (L2.CX P w) P w K mg base ["windows", "text", "order", "word"] "parse_order" (defScope (top 29)) f cdv A outer s H E) (fun c d _ H => E c d H) := takes_of rfl rfl rfl rfl
  exact (pds_cons (pds_expr (ps_expr (pd_call g_check_windows (hr.mono (by decide)) (by rfl) tk (pda_cons (pd_var (pv 0)) pda_nil)))) (pds_cons (pds_if (pdt_not (pdt_val (pd_isi isi_str (by rfl) B.isinstance (by rfl) B.str boot_str (pb_var (pv 1))))) (pds_one (pds_raise rfl tk e_ParseError rfl)) pds_nil) (pds_cons (pds_set (ps_set nd rfl (.inl rfl) (pd_if (pdt_cmp (op_neD (room64 hr)) os_ne (pb_var (pv 1)) (coeVB pd_str) rfl) (pd_callTy call_tuple_of cs_tuple (by rfl) B.tuple boot_tuple (pdb_cons (coeVB (coeNV (pd_lc (own := [("word", 3)]) rfl nd  (pdi_seq (coeNV (pdn_split (pd_var (pv 1)) (pd_gstr (by rfl) c_LESS)))) (blk_of (N' := ["windows", "text", "order", "word"]) (sc := (defScope (top 29))) rfl rfl rfl (by decide +kernel)) (fun _ _ _ _ _ => (pg_nm (pg_name nd rfl (.inl rfl) (.inr rfl)))) (fun _ _ _ _ _ => pts_yes) (fun _ _ _ _ _ => (pd_call g_read_number (hr.mono (by decide)) (by rfl) takes0 (pda_cons (pd_var (pv 3)) pda_nil))) rfl))) pdb_nil)) (pd_tup pda_nil)) rfl (.inr rfl))) (pds_cons (pds_if (pdt_w (pdw_or (pdt_not (pdt_val (pd_call g_has_order (hr.mono (by decide)) (by rfl) tk (pda_cons (pd_var (pv 0)) (pda_cons (pd_var (pv 2)) pda_nil))))) (pdw_or1 (pdt_cmp (op_neD (room64 hr)) os_ne (coeVB (pd_call g_join_order (hr.mono (by decide)) (by rfl) tk (pda_cons (pd_var (pv 2)) pda_nil))) (pb_var (pv 1)) rfl)))) (pds_one (pds_raise rfl tk e_ParseError rfl)) pds_nil) (pds_one (pds_ret (pd_var (pv 2))))))))
theorem sc_format_order : FnScope ["windows", "order"] ["windows", "order"] (defScope (top 28)) := ⟨rfl, rfl, rfl, by decide +kernel, rfl, by decide +kernel, by decide +kernel⟩
theorem ok_format_order {P : Program} {w : World} {K : PySem.W.Frag} {mg : Str → Option Value} {base : Heap} {cls : Exc → Addr} {f : Addr} {fd : FuncData} (B : Bi mg) (F : FunD K "format_order" "format_order" (defArgs (top 28)) (defBody (top 28)) (defScope (top 28)) [] [] f fd) (hx : mg "format_order" = some (.ref f)) (g_check_both : Fn P w K mg base cls 5 "check_both" 2 fD_check_both) (g_join_order : Fn P w K mg base cls 1 "join_order" 1 fD_join_order) :
    Fn P w K mg base cls 6 "format_order" 2 fD_format_order := by
  have nd := sc_format_order.nd
  refine fn_okD (N := ["windows", "order"]) (ps := ["windows", "order"]) (G := G_format_order) F sc_format_order hx (F.bindsN fun _ _ _ _ _ _ us hl => match us, hl with | [_, _], _ => rfl) fun cdv A outer s H E hr => ?_
  have tk : Takes (cxOf (L2.CX P w) P w K mg base ["windows", "order"] "format_order" (defScope (top 28)) f cdv A outer s H E) (fun c d _ H => E c d H) := takes_of rfl rfl rfl rfl
  exact (pds_cons (pds_expr (ps_expr (pd_call g_check_both (hr.mono (by decide)) (by rfl) tk (pda_cons (pd_var (pv 0)) (pda_cons (pd_var (pv 1)) pda_nil))))) (pds_one (pds_ret (pd_call g_join_order (hr.mono (by decide)) (by rfl) tk (pda_cons (pd_var (pv 1)) pda_nil)))))
theorem sc__law_again : FnScope ["_law_windows_here", "_law_text_here", "e", "_law_number"] ["_law_windows_here", "_law_text_here"] (defScope (top 38)) := ⟨rfl, rfl, rfl, by decide +kernel, rfl, by decide +kernel, by decide +kernel⟩
theorem ok__law_again {P : Program} {w : World} {K : PySem.W.Frag} {mg : Str → Option Value} {base : Heap} {cls : Exc → Addr} {f : Addr} {fd : FuncData} (B : Bi mg) (F : FunD K "_law_again" "_law_again" (defArgs (top 38)) (defBody (top 38)) (defScope (top 38)) [] [] f fd) (hx : mg "_law_again" = some (.ref f)) (xf : ExcF K cls exsA) (n_PaneError : mg "PaneError" = some (.ref (cls .paneError))) (n_ParseError : mg "ParseError" = some (.ref (cls .parse))) (g_parse_windows : Fn P w K mg base cls 4 "parse_windows" 1 fD_parse_windows) (g_parse_order : Fn P w K mg base cls 5 "parse_order" 2 fD_parse_order) (g__law_text : Fn P w K mg base cls 1 "_law_text" 1 fD__law_text) :
    Fn P w K mg base cls 6 "_law_again" 2 fD__law_again := by
  have nd := sc__law_again.nd
  refine fn_okD (N := ["_law_windows_here", "_law_text_here", "e", "_law_number"]) (ps := ["_law_windows_here", "_law_text_here"]) (G := G__law_again) F sc__law_again hx (F.bindsN fun _ _ _ _ _ _ us hl => match us, hl with | [_, _], _ => rfl) fun cdv A outer s H E hr => ?_
  have tk : Takes (cxOf (L2.CX P w) P w K mg base ["_law_windows_here", "_law_text_here", "e", "_law_number"] "_law_again" (defScope (top 38)) f cdv A outer s H E) (fun c d _ H => E c d H) := takes_of rfl rfl rfl rfl
  exact (pds_one (pds_try (i := 2) (Hd := H__law_again_0) rfl rfl nd rfl rfl xf (by decide) (by rfl) n_PaneError tk (fun W0 pn0 xe0 tk0 hp0 => (pds_cons (pds_if (pdt_cmp op_isN os_isN (pb_var (pv 0)) pd_non rfl) (pds_one (pds_ret (pd_call g__law_text (hr.mono (by decide)) (by rfl) tk0 (pda_cons (pd_call g_parse_windows (hr.mono (by decide)) (by rfl) tk0 (pda_cons (pd_var (pv 1)) pda_nil)) pda_nil)))) pds_nil) (pds_one (pds_ret (pd_join pd_str (coeVB (coeNV (pd_lc (own := [("_law_number", 3)]) rfl nd  (pdi_seq (pd_call g_parse_order (hr.mono (by decide)) (by rfl) tk0 (pda_cons (pd_var (pv 0)) (pda_cons (pd_var (pv 1)) pda_nil)))) (blk_of (N' := ["_law_windows_here", "_law_text_here", "e", "_law_number"]) (sc := (defScope (top 38))) rfl rfl rfl (by decide +kernel)) (fun _ _ _ _ _ => (pg_nm (pg_name nd rfl (.inl rfl) (.inr rfl)))) (fun _ _ _ _ _ => pts_yes) (fun _ _ _ _ _ => (pd_callTy call_str_int cs_strI (by rfl) B.str boot_str (pdb_cons (pb_var (pv 3)) pdb_nil))) rfl)))))))) (by intro a c e d h; by_cases q : 2 < e.length <;> simp [H__law_again_0, metL, bindS_ret, List.set_set, isE_at, isE_no, isE_at2, getB_self, getV_self, getB_out, getV_out, q] at h ⊢ <;> exact h) (fun exk hk0 exa oe0 pn0 hz0 hf0 => (pds_one (pds_ret (pd_if (pdt_val (pd_isE xf hk0 (by decide) hz0 hf0 (pv 2) (by rfl) B.isinstance (by rfl) n_ParseError)) pd_non pd_str))))))
theorem sc__law_rejected : FnScope ["_law_bad", "_law_pair", "_law_one"] [] (defScope (top 39)) := ⟨rfl, rfl, rfl, by decide +kernel, rfl, by decide +kernel, by decide +kernel⟩
theorem ok__law_rejected {P : Program} {w : World} {K : PySem.W.Frag} {mg : Str → Option Value} {base : Heap} {cls : Exc → Addr} {f : Addr} {fd : FuncData} (B : Bi mg) (F : FunD K "_law_rejected" "_law_rejected" (defArgs (top 39)) (defBody (top 39)) (defScope (top 39)) [] [] f fd) (hx : mg "_law_rejected" = some (.ref f)) (g_parse_order : Fn P w K mg base cls 5 "parse_order" 2 fD_parse_order) (g__law_again : Fn P w K mg base cls 6 "_law_again" 2 fD__law_again) :
    Fn P w K mg base cls 7 "_law_rejected" 0 fD__law_rejected := by
  have nd := sc__law_rejected.nd
  refine fn_okD (N := ["_law_bad", "_law_pair", "_law_one"]) (ps := []) (G := G__law_rejected) F sc__law_rejected hx (F.bindsN fun _ _ _ _ _ _ us hl => match us, hl with | [], _ => rfl) fun cdv A outer s H E hr => ?_
  have tk : Takes (cxOf (L2.CX P w) P w K mg base ["_law_bad", "_law_pair", "_law_one"] "_law_rejected" (defScope (top 39)) f cdv A outer s H E) (fun c d _ H => E c d H) := takes_of rfl rfl rfl rfl
  exact (pds_cons (pds_set (ps_set nd rfl (.inl rfl) (coeNV (pd_lst (pda_cons pd_non (pda_cons pd_int (pda_cons pd_str (pda_cons pd_str (pda_cons pd_str (pda_cons pd_str (pda_cons pd_str (pda_cons pd_str (pda_cons pd_str pda_nil))))))))))) rfl (.inr rfl))) (pds_cons (pds_set (ps_set nd rfl (.inl rfl) (coeNV (pd_op op_cat os_cat (pb_var (pv 0)) (coeVB (coeNV (pd_lst (pda_cons pd_str (pda_cons pd_str (pda_cons pd_str pda_nil)))))))) rfl (.inr rfl))) (pds_cons (pds_set (ps_set nd rfl (.inl rfl) (coeNV (pd_op op_cat os_cat (pb_var (pv 0)) (coeVB (coeNV (pd_lst (pda_cons pd_str (pda_cons pd_str (pda_cons pd_str (pda_cons pd_str (pda_cons pd_str (pda_cons pd_str pda_nil))))))))))) rfl (.inr rfl))) (pds_cons (pds_set (ps_set nd rfl (.inl rfl) (coeNV (pd_op op_cat os_cat (pb_var (pv 0)) (coeVB (coeNV (pd_lst (pda_cons (pd_join pd_str (coeVB (coeNV (pd_op op_rep os_rep (coeVB (coeNV (pd_lst (pda_cons pd_str pda_nil)))) pd_int)))) (pda_cons pd_str (pda_cons pd_str pda_nil)))))))) rfl (.inr rfl))) (pds_cons (pds_if (pdt_cmp (op_neD (room64 hr)) os_ne (coeVB (coeNV (pd_lc (own := [("_law_one", 2)]) rfl nd  (pdi_seq (pd_var (pv 0))) (blk_of (N' := ["_law_bad", "_law_pair", "_law_one"]) (sc := (defScope (top 39))) rfl rfl rfl (by decide +kernel)) (fun _ _ _ _ _ => (pg_nm (pg_name nd rfl (.inl rfl) (.inr rfl)))) (fun _ _ _ _ _ => (pts_one (pdt_cmp op_notN os_notN (coeVB (pd_call g__law_again (hr.mono (by decide)) (by rfl) takes0 (pda_cons pd_non (pda_cons (pd_var (pv 2)) pda_nil)))) pd_non rfl))) (fun _ _ _ _ _ => (pd_var (pv 2))) rfl))) (coeVB (coeNV (pd_lst pda_nil))) rfl) (pds_one (pds_ret pd_bl)) pds_nil) (pds_cons (pds_set (ps_set nd rfl (.inr rfl) (pd_tup (pda_cons (pd_tup (pda_cons pd_int (pda_cons pd_int (pda_cons pd_int (pda_cons pd_int pda_nil))))) (pda_cons (pd_tup (pda_cons pd_int (pda_cons pd_int (pda_cons pd_int (pda_cons pd_int pda_nil))))) pda_nil))) rfl (.inl rfl))) (pds_cons (pds_set (ps_set nd rfl (.inl rfl) (coeNV (pd_lst (pda_cons pd_non (pda_cons pd_int (pda_cons pd_str (pda_cons pd_str (pda_cons pd_str (pda_cons pd_str (pda_cons pd_str (pda_cons pd_str (pda_cons pd_str (pda_cons pd_str (pda_cons pd_str (pda_cons pd_str (pda_cons pd_str pda_nil))))))))))))))) rfl (.inr rfl))) (pds_cons (pds_set (ps_set nd rfl (.inl rfl) (coeNV (pd_op op_cat os_cat (pb_var (pv 0)) (coeVB (coeNV (pd_lst (pda_cons pd_str (pda_cons pd_str (pda_cons pd_str (pda_cons (pd_tup (pda_cons pd_str pda_nil)) pda_nil))))))))) rfl (.inr rfl))) (pds_cons (pds_if (pdt_not (pdt_cmp (op_eqD (room64 hr)) os_eq (coeVB (coeNV (pd_lc (own := [("_law_one", 2)]) rfl nd  (pdi_seq (pd_var (pv 0))) (blk_of (N' := ["_law_bad", "_law_pair", "_law_one"]) (sc := (defScope (top 39))) rfl rfl rfl (by decide +kernel)) (fun _ _ _ _ _ => (pg_nm (pg_name nd rfl (.inl rfl) (.inr rfl)))) (fun _ _ _ _ _ => (pts_one (pdt_cmp op_notN os_notN (coeVB (pd_call g__law_again (hr.mono (by decide)) (by rfl) takes0 (pda_cons (pd_var (pv 1)) (pda_cons (pd_var (pv 2)) pda_nil)))) pd_non rfl))) (fun _ _ _ _ _ => (pd_var (pv 2))) rfl))) (coeVB (coeNV (pd_lst pda_nil))) rfl)) (pds_one (pds_ret pd_bl)) pds_nil) (pds_one (pds_ret (pd_cmp (op_eqD (room64 hr)) (OpSemB.val os_eq) (coeVB (pd_call g_parse_order (hr.mono (by decide)) (by rfl) tk (pda_cons (pd_var (pv 1)) (pda_cons pd_str pda_nil)))) (coeVB (pd_tup (pda_cons pd_int (pda_cons pd_int pda_nil)))) rfl))))))))))))
theorem sc__law_refused : FnScope ["_law_way", "_law_one", "_law_two", "e"] ["_law_way", "_law_one", "_law_two"] (defScope (top 40)) := ⟨rfl, rfl, rfl, by decide +kernel, rfl, by decide +kernel, by decide +kernel⟩
theorem ok__law_refused {P : Program} {w : World} {K : PySem.W.Frag} {mg : Str → Option Value} {base : Heap} {cls : Exc → Addr} {f : Addr} {fd : FuncData} (B : Bi mg) (F : FunD K "_law_refused" "_law_refused" (defArgs (top 40)) (defBody (top 40)) (defScope (top 40)) [] [] f fd) (hx : mg "_law_refused" = some (.ref f)) (xf : ExcF K cls exsA) (n_InvalidOrder : mg "InvalidOrder" = some (.ref (cls .order))) (n_InvalidWindows : mg "InvalidWindows" = some (.ref (cls .windows))) (n_PaneError : mg "PaneError" = some (.ref (cls .paneError))) (n_ParseError : mg "ParseError" = some (.ref (cls .parse))) (g_format_windows : Fn P w K mg base cls 5 "format_windows" 1 fD_format_windows) (g_format_order : Fn P w K mg base cls 6 "format_order" 2 fD_format_order) (g_parse_order : Fn P w K mg base cls 5 "parse_order" 2 fD_parse_order) :
    Fn P w K mg base cls 7 "_law_refused" 3 fD__law_refused := by
  have nd := sc__law_refused.nd
  refine fn_okD (N := ["_law_way", "_law_one", "_law_two", "e"]) (ps := ["_law_way", "_law_one", "_law_two"]) (G := G__law_refused) F sc__law_refused hx (F.bindsN fun _ _ _ _ _ _ us hl => match us, hl with | [_, _, _], _ => rfl) fun cdv A outer s H E hr => ?_
  have tk : Takes (cxOf (L2.CX P w) P w K mg base ["_law_way", "_law_one", "_law_two", "e"] "_law_refused" (defScope (top 40)) f cdv A outer s H E) (fun c d _ H => E c d H) := takes_of rfl rfl rfl rfl
  exact (pds_cons (pds_try (i := 3) (Hd := H__law_refused_0) rfl rfl nd rfl rfl xf (by decide) (by rfl) n_PaneError tk (fun W0 pn0 xe0 tk0 hp0 => (pds_one (pds_if (pdt_cmp (op_eqD (room64 hr)) os_eq (pb_var (pv 0)) (coeVB pd_int) rfl) (pds_one (pds_expr (ps_expr (pd_call g_format_windows (hr.mono (by decide)) (by rfl) tk0 (pda_cons (pd_var (pv 1)) pda_nil))))) (pds_one (pds_expr (ps_expr (pd_callX2 g_format_order g_parse_order (hr.mono (by decide)) (hr.mono (by decide)) (by rfl) (by rfl) tk0 (pd_op op_sub os_sub (pd_var (pv 0)) pd_int) (fun _ _ => rfl) (pda_cons (pd_var (pv 1)) (pda_cons (pd_var (pv 2)) pda_nil))))))))) (by intro a c e d h; by_cases q : 3 < e.length <;> simp [H__law_refused_0, metL, bindS_ret, List.set_set, isE_at, isE_no, isE_at2, getB_self, getV_self, getB_out, getV_out, q] at h ⊢ <;> exact h) (fun exk hk0 exa oe0 pn0 hz0 hf0 => (pds_one (pds_ret (pd_metL PySem.F.slot_list_index PySem.F.type_list_index mt_index lm_index (coeVB (coeNV (pd_lst (pda_cons (pd_isE xf hk0 (by decide) hz0 hf0 (pv 3) (by rfl) B.isinstance (by rfl) n_InvalidWindows) (pda_cons (pd_isE xf hk0 (by decide) hz0 hf0 (pv 3) (by rfl) B.isinstance (by rfl) n_InvalidOrder) (pda_cons (pd_isE xf hk0 (by decide) hz0 hf0 (pv 3) (by rfl) B.isinstance (by rfl) n_ParseError) pda_nil)))))) (pda_cons pd_bl pda_nil)))))) (pds_one (pds_ret pd_non)))
theorem sc_law : FnScope ["_law_script", "_law_windows_here", "_law_known", "_law_k", "_law_told", "_law_order_here", "_law_text_here", "_law_at", "_law_new", "_law_bent", "_law_odd", "_law_bad", "_law_place", "_law_sign", "_law_number"] ["_law_script"] (defScope (top 41)) := ⟨rfl, rfl, rfl, by decide +kernel, rfl, by decide +kernel, by decide +kernel⟩
theorem ok_law {P : Program} {w : World} {K : PySem.W.Frag} {mg : Str → Option Value} {base : Heap} {cls : Exc → Addr} {f : Addr} {fd : FuncData} (B : Bi mg) (F : FunD K "law" "law" (defArgs (top 41)) (defBody (top 41)) (defScope (top 41)) [] [] f fd)  (g_format_windows : Fn P w K mg base cls 5 "format_windows" 1 fD_format_windows) (g_parse_windows : Fn P w K mg base cls 4 "parse_windows" 1 fD_parse_windows) (g_format_order : Fn P w K mg base cls 6 "format_order" 2 fD_format_order) (g_parse_order : Fn P w K mg base cls 5 "parse_order" 2 fD_parse_order) (g__law_drawn : Fn P w K mg base cls 1 "_law_drawn" 3 fD__law_drawn) (g__law_windows : Fn P w K mg base cls 3 "_law_windows" 3 fD__law_windows) (g__law_order : Fn P w K mg base cls 2 "_law_order" 3 fD__law_order) (g__law_badwindows : Fn P w K mg base cls 2 "_law_badwindows" 2 fD__law_badwindows) (g__law_badorder : Fn P w K mg base cls 2 "_law_badorder" 3 fD__law_badorder) (g__law_text : Fn P w K mg base cls 1 "_law_text" 1 fD__law_text) (g__law_again : Fn P w K mg base cls 6 "_law_again" 2 fD__law_again) (g__law_rejected : Fn P w K mg base cls 7 "_law_rejected" 0 fD__law_rejected) (g__law_refused : Fn P w K mg base cls 7 "_law_refused" 3 fD__law_refused) :
    FnOk P w K mg base (L2.CX P w) 8 f fd ["_law_script"] (spD K cls 1 fD_law) := by
  have nd := sc_law.nd
  refine fn_okD0 (N := ["_law_script", "_law_windows_here", "_law_known", "_law_k", "_law_told", "_law_order_here", "_law_text_here", "_law_at", "_law_new", "_law_bent", "_law_odd", "_law_bad", "_law_place", "_law_sign", "_law_number"]) (ps := ["_law_script"]) (G := G_law) F sc_law fun cdv A outer s H E hr => ?_
  have tk : Takes (cxOf (L2.CX P w) P w K mg base ["_law_script", "_law_windows_here", "_law_known", "_law_k", "_law_told", "_law_order_here", "_law_text_here", "_law_at", "_law_new", "_law_bent", "_law_odd", "_law_bad", "_law_place", "_law_sign", "_law_number"] "law" (defScope (top 41)) f cdv A outer s H E) (fun c d _ H => E c d H) := takes_of rfl rfl rfl rfl
  exact (pds_cons (pds_set (ps_set nd rfl (.inl rfl) (pd_call g__law_windows (hr.mono (by decide)) (by rfl) tk (pda_cons (pd_var (pv 0)) (pda_cons pd_int (pda_cons pd_int pda_nil)))) rfl (.inr rfl))) (pds_cons (pds_par (ps_par rfl nd rfl rfl (by decide) rfl rfl (pa_cons (coeVS (pd_call g__law_order (hr.mono (by decide)) (by rfl) tk (pda_cons (pd_var (pv 0)) (pda_cons pd_int (pda_cons (pd_callB call_len_seq cs_len (by rfl) B.len boot_len (pdb_cons (pb_var (pv 1)) pdb_nil)) pda_nil))))) (pa_cons (coeVS (pd_call g__law_text (hr.mono (by decide)) (by rfl) tk (pda_cons (pd_var (pv 1)) pda_nil))) pa_nil)) rfl)) (pds_cons (pds_if (pdt_w (pdw_or (pdt_cmp (op_neD (room64 hr)) os_ne (coeVB (pd_call g_format_windows (hr.mono (by decide)) (by rfl) tk (pda_cons (pd_var (pv 1)) pda_nil))) (pb_var (pv 6)) rfl) (pdw_or (pdt_cmp (op_neD (room64 hr)) os_ne (coeVB (pd_call g_parse_windows (hr.mono (by decide)) (by rfl) tk (pda_cons (pd_var (pv 6)) pda_nil))) (pb_var (pv 1)) rfl) (pdw_or1 (pdt_not (pdt_val (pd_call0 g__law_rejected (hr.mono (by decide)) (by rfl) tk))))))) (pds_one (pds_ret pd_bl)) pds_nil) (pds_cons (pds_set (ps_set nd rfl (.inl rfl) (pd_join pd_str (coeVB (coeNV (pd_lc (own := [("_law_number", 14)]) rfl nd  (pdi_seq (pd_var (pv 5))) (blk_of (N' := ["_law_script", "_law_windows_here", "_law_known", "_law_k", "_law_told", "_law_order_here", "_law_text_here", "_law_at", "_law_new", "_law_bent", "_law_odd", "_law_bad", "_law_place", "_law_sign", "_law_number"]) (sc := (defScope (top 41))) rfl rfl rfl (by decide +kernel)) (fun _ _ _ _ _ => (pg_nm (pg_name nd rfl (.inl rfl) (.inr rfl)))) (fun _ _ _ _ _ => pts_yes) (fun _ _ _ _ _ => (pd_callTy call_str_int cs_strI (by rfl) B.str boot_str (pdb_cons (pb_var (pv 14)) pdb_nil))) rfl)))) rfl (.inr rfl))) (pds_cons (pds_if (pdt_w (pdw_or (pdt_cmp (op_neD (room64 hr)) os_ne (coeVB (pd_call g_format_order (hr.mono (by decide)) (by rfl) tk (pda_cons (pd_var (pv 1)) (pda_cons (pd_var (pv 5)) pda_nil)))) (pb_var (pv 2)) rfl) (pdw_or1 (pdt_cmp (op_neD (room64 hr)) os_ne (coeVB (pd_call g_parse_order (hr.mono (by decide)) (by rfl) tk (pda_cons (pd_var (pv 1)) (pda_cons (pd_var (pv 2)) pda_nil)))) (pb_var (pv 5)) rfl)))) (pds_one (pds_ret pd_bl)) pds_nil) (pds_cons (pds_for (passes_of rfl) rfl (pdi_range1 (by rfl) B.range (pdb_cons (coeVB pd_int) pdb_nil)) (pg_nm (pg_name nd rfl (.inl rfl) (.inr rfl))) (pds_cons (pds_set (ps_set nd rfl (.inl rfl) (pd_op op_addA os_add pd_int (pd_op op_mulA os_mulA pd_int (pd_var (pv 3)))) rfl (.inr rfl))) (pds_cons (pds_par (ps_par rfl nd rfl rfl (by decide) rfl rfl (pa_cons (coeVS (pd_call g__law_drawn (hr.mono (by decide)) (by rfl) tk (pda_cons (pd_var (pv 0)) (pda_cons (pd_var (pv 7)) (pda_cons (pd_op op_addA os_add (pd_callB call_len cs_lenS (by rfl) B.len boot_len (pdb_cons (pb_var (pv 6)) pdb_nil)) pd_int) pda_nil))))) (pa_cons (coeVS (pd_ix ix_str os_ixS pd_str (pd_call g__law_drawn (hr.mono (by decide)) (by rfl) tk (pda_cons (pd_var (pv 0)) (pda_cons (pd_op op_addA os_add (pd_var (pv 7)) pd_int) (pda_cons pd_int pda_nil)))) (fun _ _ => rfl))) pa_nil)) rfl)) (pds_cons (pds_set (ps_set nd rfl (.inl rfl) (pd_if (pdt_cmp (op_eqD (room64 hr)) os_eq (coeVB (pd_call g__law_drawn (hr.mono (by decide)) (by rfl) tk (pda_cons (pd_var (pv 0)) (pda_cons (pd_op op_addA os_add (pd_var (pv 7)) pd_int) (pda_cons pd_int pda_nil))))) (coeVB pd_int) rfl) pd_str (pd_var (pv 13))) rfl (.inr rfl))) (pds_cons (pds_set (ps_set nd rfl (.inl rfl) (pd_op op_addA os_add (pd_op op_addA os_add (pd_sliceS (pd_var (pv 6)) pdo_none (pdo_some (pd_var (pv 12)))) (pd_var (pv 8))) (pd_sliceS (pd_var (pv 6)) (pdo_some (pd_op op_addA os_add (pd_var (pv 12)) (pd_call g__law_drawn (hr.mono (by decide)) (by rfl) tk (pda_cons (pd_var (pv 0)) (pda_cons (pd_op op_addA os_add (pd_var (pv 7)) pd_int) (pda_cons pd_int pda_nil)))))) pdo_none)) rfl (.inr rfl))) (pds_one (pds_if (pdt_cmp (op_notInA (room65 hr)) os_notIn (coeVB (pd_call g__law_again (hr.mono (by decide)) (by rfl) tk (pda_cons pd_non (pda_cons (pd_var (pv 9)) pda_nil)))) (coeVB (pd_tup (pda_cons pd_non (pda_cons (pd_var (pv 9)) pda_nil)))) rfl) (pds_one (pds_ret pd_bl)) pds_nil))))))) (pds_cons (pds_par (ps_par rfl nd rfl rfl (by decide) rfl rfl (pa_cons (coeVS (pd_call g__law_badwindows (hr.mono (by decide)) (by rfl) tk (pda_cons (pd_var (pv 0)) (pda_cons pd_int pda_nil)))) (pa_cons (coeVS (pd_call g__law_badorder (hr.mono (by decide)) (by rfl) tk (pda_cons (pd_var (pv 0)) (pda_cons pd_int (pda_cons (pd_var (pv 5)) pda_nil))))) pa_nil)) rfl)) (pds_cons (pds_set (ps_set nd rfl (.inl rfl) (coeNV (pd_lst (pda_cons (pd_call g__law_refused (hr.mono (by decide)) (by rfl) tk (pda_cons pd_int (pda_cons (pd_var (pv 10)) (pda_cons pd_int pda_nil)))) (pda_cons (pd_call g__law_refused (hr.mono (by decide)) (by rfl) tk (pda_cons pd_int (pda_cons (pd_var (pv 10)) (pda_cons (pd_var (pv 11)) pda_nil)))) pda_nil)))) rfl (.inr rfl))) (pds_cons (pds_set (ps_set nd rfl (.inl rfl) (coeNV (pd_op op_cat os_cat (pb_var (pv 4)) (coeVB (coeNV (pd_lst (pda_cons (pd_call g__law_refused (hr.mono (by decide)) (by rfl) tk (pda_cons pd_int (pda_cons (pd_var (pv 10)) (pda_cons pd_str pda_nil)))) (pda_cons (pd_call g__law_refused (hr.mono (by decide)) (by rfl) tk (pda_cons pd_int (pda_cons (pd_var (pv 1)) (pda_cons (pd_var (pv 11)) pda_nil)))) pda_nil))))))) rfl (.inr rfl))) (pds_one (pds_ret (pd_cmp (op_eqD (room64 hr)) (OpSemB.val os_eq) (pb_var (pv 4)) (coeVB (coeNV (pd_lst (pda_cons pd_int (pda_cons pd_int (pda_cons pd_int (pda_cons pd_int pda_nil))))))) rfl))))))))))))
end PD

set_option maxHeartbeats 0
namespace Hd
open PySem PySem.Spec PyProof.Rows L2 PD
def mk (x : Str) (s : Stmt) : He.DefD := ⟨(x, none), x, x, defArgs s, defBody s, defScope s, [], []⟩
def fn : List He.DefD := [mk "is_int" (top 8), mk "is_window" (top 9), mk "are_windows" (top 10), mk "has_order" (top 11), mk "check_windows" (top 12), mk "check_order" (top 13), mk "check_both" (top 14), mk "join_windows" (top 22), mk "format_windows" (top 23), mk "read_number" (top 24), mk "read_window" (top 25), mk "parse_windows" (top 26), mk "join_order" (top 27), mk "format_order" (top 28), mk "parse_order" (top 29), mk "_law_drawn" (top 31), mk "_law_window" (top 32), mk "_law_windows" (top 33), mk "_law_order" (top 34), mk "_law_badwindows" (top 35), mk "_law_badorder" (top 36), mk "_law_text" (top 37), mk "_law_again" (top 38), mk "_law_rejected" (top 39), mk "_law_refused" (top 40), mk "law" (top 41)]
def fa : List He.Fa := [.glo "PaneError", .glo "InvalidWindows", .exc "InvalidWindows", .glo "InvalidOrder", .exc "InvalidOrder", .glo "ParseError", .exc "ParseError", .int "SCREEN" 12, .int "MAX_WINDOWS" 6, .glo "is_int", .glo "is_window", .glo "are_windows", .glo "has_order", .glo "check_windows", .glo "check_order", .glo "check_both", .str "DIGITS" "0123456789", .int "MAX_DIGITS" 2, .str "COMMA" ",", .str "DASH" "-", .str "BETWEEN" "; ", .str "LESS" "<", .glo "join_windows", .glo "format_windows", .glo "read_number", .glo "read_window", .glo "parse_windows", .glo "join_order", .glo "format_order", .glo "parse_order", .glo "_law_drawn", .glo "_law_window", .glo "_law_windows", .glo "_law_order", .glo "_law_badwindows", .glo "_law_badorder", .glo "_law_text", .glo "_law_again", .glo "_law_rejected", .glo "_law_refused", .glo "law", .free "len", .free "all", .free "any", .free "isinstance", .free "tuple", .free "list", .free "range", .free "sorted", .free "enumerate", .free "max", .free "min", .free "set", .free "dict", .free "zip", .free "bool", .free "int", .free "abs", .free "sum", .free "str"]
def nm0 : List PySem.Str := ["PaneError", "InvalidWindows", "InvalidOrder", "ParseError", "SCREEN", "MAX_WINDOWS", "is_int", "is_window", "are_windows", "has_order", "check_windows", "check_order", "check_both", "DIGITS", "MAX_DIGITS", "COMMA", "DASH", "BETWEEN", "LESS", "join_windows"]
def nm1 : List PySem.Str := ["format_windows", "read_number", "read_window", "parse_windows", "join_order", "format_order", "parse_order", "_law_drawn", "_law_window", "_law_windows", "_law_order", "_law_badwindows", "_law_badorder", "_law_text", "_law_again", "_law_rejected", "_law_refused"]
def nms : List PySem.Str := nm0 ++ nm1
abbrev R : PySem.W.OpenRow := PySem.W.OpenLaw.row PySem.Challenge.rw_panestacks_k68_formats
abbrev hk : PySem.W.Hook := hookE 5 fa fn (excOk exsA)
def ob (s : PySem.W.SharedT) : He.AlD × Bool := obsE 5 fa fn (excOk exsA) (HandSHeadRun.getT s)
theorem ob_eq (s : PySem.W.SharedT) : ob s = hk.obs s.abs := obsE_eq (HandSHeadRun.getT_eq s)
theorem run (w : World) : HandSHeadRun.RunEq R (PySem.W.view R.prog [41]) hk ob 4000 nms w := by
  intro os
  kernel_rfl
end Hd

set_option maxHeartbeats 4000000
namespace PD
open PySem PySem.Spec PyProof.Rows L2
/-! ### windows -/
structure Win where
  l : Int
  t : Int
  r : Int
  b : Int
  deriving DecidableEq
def win (w : Win) : D := .tup [.int w.l, .int w.t, .int w.r, .int w.b]
def wins (ws : List Win) : D := .tup (ws.map win)
def natsT (ns : List Nat) : D := .tup (ns.map nD)
def cellD (c : Int × Int) : D := .tup [.int c.1, .int c.2]
def Win.Ok (w : Win) : Prop := 0 ≤ w.l ∧ w.l < w.r ∧ w.r ≤ 12 ∧ 0 ≤ w.t ∧ w.t < w.b ∧ w.b ≤ 12
def inW (w : Win) (x y : Int) : Bool := decide (w.l ≤ x) && decide (x < w.r) && (decide (w.t ≤ y) && decide (y < w.b))
def w0 : Win := ⟨0, 0, 0, 0⟩
/-- the window of a number -/
def wAt (ws : List Win) (i : Nat) : Win := ws.getD i w0
def region (ws : List Win) (x y : Int) : List Nat := (List.range ws.length).filter fun i => inW (wAt ws i) x y
/-- windows that are windows -/
structure Wins (ws : List Win) : Prop where
  ok : ∀ w ∈ ws, w.Ok
  le : ws.length ≤ 6
theorem win_inj {a b : Win} (h : win a = win b) : a = b := by
  cases a; cases b
  simp [win] at h
  simp [h]
theorem cell_inj {a b : Int × Int} (h : cellD a = cellD b) : a = b := by
  cases a; cases b
  simp [cellD] at h
  simp [h]
@[simp] theorem pl_win (w : Win) : plD 1 (win w) = true := by simp [win, plD, plDs]
@[simp] theorem pl_cell (c : Int × Int) : plD 1 (cellD c) = true := by simp [cellD, plD, plDs]
theorem pl_cells (cs : List (Int × Int)) : plD 2 (.lst (cs.map cellD)) = true := pl_lst fun d hd => by
  obtain ⟨c, _, rfl⟩ := List.mem_map.mp hd; simp
theorem pl_nats (ns : List Nat) : plD 1 (.lst (ns.map nD)) = true := pl_lst fun d hd => by
  obtain ⟨c, _, rfl⟩ := List.mem_map.mp hd; simp
theorem pl_natsT (ns : List Nat) : plD 1 (natsT ns) = true := pl_tup fun d hd => by
  obtain ⟨c, _, rfl⟩ := List.mem_map.mp hd; simp
@[simp] theorem nraw_win (w : Win) : noRaw (win w) = true := nr rfl
@[simp] theorem isNon_win (w : Win) : isNon (win w) = false := nr rfl
theorem s_is_int (v a b : Int) : fD_is_int [.int v, .int a, .int b] = .ok (.bl (decide (a ≤ v) && decide (v ≤ b))) := by
  simp [fD_is_int, G_is_int]
theorem s_is_window {w : Win} (h : w.Ok) : fD_is_window [win w] = .ok (.bl true) := by
  obtain ⟨h1, h2, h3, h4, h5, h6⟩ := h
  have e : lcL (.nm 1) [1] yesF (callF fD_is_int (consF (getV 1) (consF (cst (.int 0)) (consF (cst (.int 12)) nilF)))) [.int w.l, .int w.t, .int w.r, .int w.b] [.val (win w), .no] = .ok ([w.l, w.t, w.r, w.b].map fun v => .bl (decide (0 ≤ v) && decide (v ≤ 12))) :=
    lcL_all (enc := D.int) (xs := [w.l, w.t, w.r, w.b]) (fun v => .bl (decide (0 ≤ v) && decide (v ≤ 12))) fun v _ => ⟨_, rfl, by simp [s_is_int]⟩
  have a : allD [.lst ([w.l, w.t, w.r, w.b].map fun v => .bl (decide (0 ≤ v) && decide (v ≤ 12)))] = some (.bl true) := by
    rw [all_map]; simp; omega
  simp [fD_is_window, G_is_window, win] at *
  simp [e, a, h2, h5]
theorem s_are_windows {ws : List Win} (h : Wins ws) : fD_are_windows [wins ws] = .ok (.bl true) := by
  have e : lcL (.nm 1) [1] yesF (callF fD_is_window (consF (getV 1) nilF)) (ws.map win) [.val (wins ws), .no] = .ok (ws.map fun w => .bl true) :=
    lcL_all (fun _ => .bl true) fun w hw => ⟨_, rfl, by simp [s_is_window (h.ok w hw)]⟩
  have a : allD [.lst (ws.map fun _ => .bl true)] = some (.bl true) := by
    rw [all_map (fun _ => true)]; simp
  have l : ¬ (6 : Int) < ws.length := by have := h.le; omega
  simp [fD_are_windows, G_are_windows, wins] at *
  simp [e, a, l]
theorem s_check_windows {ws : List Win} (h : Wins ws) : fD_check_windows [wins ws] = .ok .non := by
  simp [fD_check_windows, G_check_windows, s_are_windows h]
/-- an order of n windows -/
def IsOrd (n : Nat) (os : List Nat) : Prop := os.Perm (List.range n)
instance (n : Nat) (os : List Nat) : Decidable (IsOrd n os) := inferInstanceAs (Decidable (os.Perm (List.range n)))
theorem IsOrd.lt {n : Nat} {os : List Nat} (h : IsOrd n os) {i : Nat} (hi : i ∈ os) : i < n := List.mem_range.mp (h.mem_iff.mp hi)
theorem s_has_order' {ws : List Win} (os : List Nat) (hl : ws.length ≤ 6) : fD_has_order [wins ws, natsT os] = .ok (.bl (decide (IsOrd ws.length os))) := by
  have e : lcL (.nm 2) [2] yesF (callF fD_is_int (consF (getV 2) (consF (cst (.int 0)) (consF (bin subD (appL lenD (consF (getB 0) nilF)) (cst (.int 1))) nilF)))) (os.map nD) [.val (.tup (ws.map win)), .val (.tup (os.map nD)), .no] = .ok (os.map fun i => .bl (decide (i < ws.length))) :=
    lcL_all (fun i => .bl (decide (i < ws.length))) fun i hi => ⟨_, rfl, by
      simp [nD, s_is_int]
      omega⟩
  have a : allD [.lst (os.map fun i => .bl (decide (i < ws.length)))] = some (.bl (os.all fun i => decide (i < ws.length))) := all_map _ _
  have so : sortD [.tup (os.map nD)] = some (isort leD (os.map nD)) := by
    show (if srtOk (os.map nD) = true then some (isort leD (os.map nD)) else none) = _
    rw [srtOk_int fun d hd => by obtain ⟨i, _, rfl⟩ := List.mem_map.mp hd; rfl]; simp
  have r : asRng1 [.int (ws.length : Int)] = some ((List.range ws.length).map nD) := asRng1_nat (by omega)
  have pl : plD 1 (.lst (isort leD (os.map nD))) = true := pl_lst fun d hd => by
    obtain ⟨i, _, rfl⟩ := List.mem_map.mp ((isort_perm (le := leD) _).mem_iff.mp hd); simp
  have q : eqD (.lst (isort leD (os.map nD))) (.lst ((List.range ws.length).map nD)) = some (decide (IsOrd ws.length os)) := eqD_of (pl_64 pl) (pl_64 (pl_nats _)) (by
    constructor
    · intro h
      injection h with h
      have h1 : (os.map nD).Perm ((List.range ws.length).map nD) := (isort_perm (le := leD) _).symm.trans (by rw [h])
      have h2 := h1.map fun d => match d with | .int i => i.toNat | _ => 0
      rw [List.map_map, List.map_map] at h2
      have f : ((fun d => match d with | .int i => i.toNat | _ => 0) ∘ nD) = id := by funext n; simp [nD]
      rw [f, List.map_id, List.map_id] at h2
      exact h2
    · intro h
      rw [sort_nats h])
  simp [fD_has_order, G_has_order, wins, natsT] at *
  by_cases h : ∀ i ∈ os, i < ws.length
  · have h2 : (os.all fun i => decide (i < ws.length)) = true := by simpa using h
    simp [e, a, h2, so, r, q]
  · have h2 : (os.all fun i => decide (i < ws.length)) = false := by
      cases z : (os.all fun i => decide (i < ws.length))
      · rfl
      · exact absurd (by simpa using z) h
    have h3 : ¬ IsOrd ws.length os := fun p => h fun i hi => p.lt hi
    simp [e, a, h2, h3]
theorem s_has_order {ws : List Win} {os : List Nat} (h : IsOrd ws.length os) (hl : ws.length ≤ 6) : fD_has_order [wins ws, natsT os] = .ok (.bl true) := by
  rw [s_has_order' os hl]; simp [h]
theorem s_check_order {ws : List Win} {os : List Nat} (h : IsOrd ws.length os) (hl : ws.length ≤ 6) : fD_check_order [wins ws, natsT os] = .ok .non := by
  simp [fD_check_order, G_check_order, s_has_order h hl]
theorem s_check_both {ws : List Win} {os : List Nat} (hw : Wins ws) (h : IsOrd ws.length os) : fD_check_both [wins ws, natsT os] = .ok .non := by
  simp [fD_check_both, G_check_both, s_check_windows hw, s_check_order h hw.le]

/-! ### cells -/
@[irreducible] def grid : List (Int × Int) := (List.range 12).flatMap fun x => (List.range 12).map fun y => (((x : Nat) : Int), ((y : Nat) : Int))
def ltC (a b : Int × Int) : Prop := a.1 < b.1 ∨ (a.1 = b.1 ∧ a.2 < b.2)
/-- cells in rows, strictly ascending -/
theorem box_pair (x0 y0 : Int) (m n : Nat) : ((List.range m).flatMap fun i => (List.range n).map fun j => (x0 + ((i : Nat) : Int), y0 + ((j : Nat) : Int))).Pairwise ltC := by
  rw [List.pairwise_flatMap]
  refine ⟨fun i _ => range_pair fun a b h _ => .inr ⟨rfl, by show y0 + (a : Int) < y0 + (b : Int); omega⟩, ?_⟩
  refine List.pairwise_iff_getElem.mpr fun i j hi hj hij => ?_
  simp only [List.getElem_range]
  intro a ha b hb
  obtain ⟨u, _, rfl⟩ := List.mem_map.mp ha
  obtain ⟨v, _, rfl⟩ := List.mem_map.mp hb
  exact .inl (by show x0 + (i : Int) < x0 + (j : Int); omega)
theorem box_mem {x0 y0 : Int} {m n : Nat} {c : Int × Int} : c ∈ ((List.range m).flatMap fun i => (List.range n).map fun j => (x0 + ((i : Nat) : Int), y0 + ((j : Nat) : Int))) ↔ x0 ≤ c.1 ∧ c.1 < x0 + m ∧ y0 ≤ c.2 ∧ c.2 < y0 + n := by
  simp only [List.mem_flatMap, List.mem_range, List.mem_map]
  constructor
  · rintro ⟨i, hi, j, hj, rfl⟩
    dsimp only
    omega
  · intro h
    refine ⟨(c.1 - x0).toNat, by omega, (c.2 - y0).toNat, by omega, ?_⟩
    cases c
    dsimp only at h ⊢
    congr 1 <;> omega
theorem grid_eq : grid = (List.range 12).flatMap fun x => (List.range 12).map fun y => (((x : Nat) : Int), ((y : Nat) : Int)) := by unfold grid; rfl
theorem grid_box : grid = (List.range 12).flatMap fun i => (List.range 12).map fun j => ((0 : Int) + ((i : Nat) : Int), (0 : Int) + ((j : Nat) : Int)) := by
  unfold grid
  simp
theorem grid_pair : grid.Pairwise ltC := by rw [grid_box]; exact box_pair 0 0 12 12
theorem grid_mem {c : Int × Int} : c ∈ grid ↔ 0 ≤ c.1 ∧ c.1 < 12 ∧ 0 ≤ c.2 ∧ c.2 < 12 := by rw [grid_box, box_mem]; simp
theorem ltC_irrefl (a : Int × Int) : ¬ ltC a a := by unfold ltC; omega
theorem ltC_anti {a b : Int × Int} (h : ltC a b) : ¬ ltC b a := by unfold ltC at *; omega
theorem nodup_of_ltC {l : List (Int × Int)} (h : l.Pairwise ltC) : l.Nodup := List.Pairwise.imp (fun {a b} (h : ltC a b) (e : a = b) => ltC_irrefl a (by rw [← e] at h; exact h)) h
/-- two strictly ascending lists of the same cells -/
theorem cells_eq {l m : List (Int × Int)} (hl : l.Pairwise ltC) (hm : m.Pairwise ltC) (h : ∀ c, c ∈ l ↔ c ∈ m) : l = m :=
  List.Perm.eq_of_pairwise (le := ltC) (fun a b _ _ h1 h2 => absurd h2 (ltC_anti h1)) hl hm ((List.perm_ext_iff_of_nodup (nodup_of_ltC hl) (nodup_of_ltC hm)).mpr h)
theorem grid_len : grid.length = 144 := by rw [grid_box]; rfl
/-- the cells of a window -/
@[irreducible] def cellsW (w : Win) : List (Int × Int) := grid.filter fun c => inW w c.1 c.2
theorem cellsW_eq (w : Win) : cellsW w = grid.filter fun c => inW w c.1 c.2 := by unfold cellsW; rfl
theorem cellsW_pair (w : Win) : (cellsW w).Pairwise ltC := by rw [cellsW_eq]; exact grid_pair.filter _
theorem cellsW_le (w : Win) : (cellsW w).length ≤ 144 := by
  rw [cellsW_eq, ← grid_len]; exact List.length_filter_le _ _
theorem inW_iff {w : Win} {x y : Int} : inW w x y = true ↔ w.l ≤ x ∧ x < w.r ∧ w.t ≤ y ∧ y < w.b := by
  simp [inW, and_assoc]
theorem cellsW_mem {w : Win} {c : Int × Int} (h : w.Ok) : c ∈ cellsW w ↔ w.l ≤ c.1 ∧ c.1 < w.r ∧ w.t ≤ c.2 ∧ c.2 < w.b := by
  obtain ⟨h1, h2, h3, h4, h5, h6⟩ := h
  rw [cellsW_eq, List.mem_filter, grid_mem, inW_iff]
  omega
theorem cellsW_box {w : Win} (h : w.Ok) : ((List.range (w.r - w.l).toNat).flatMap fun i => (List.range (w.b - w.t).toNat).map fun j => (w.l + ((i : Nat) : Int), w.t + ((j : Nat) : Int))) = cellsW w := by
  refine cells_eq (box_pair _ _ _ _) (cellsW_pair w) fun c => ?_
  rw [box_mem, cellsW_mem h]
  obtain ⟨h1, h2, h3, h4, h5, h6⟩ := h
  omega
@[simp] theorem u_lc2 (p : Pat) (vs : List Nat) (t : EnvD → R Bool) (src1 : EnvD → R (List D)) (p1 : Pat) (vs1 : List Nat) (t1 : EnvD → R Bool) (f : EnvD → R D) (src : EnvD → R (List D)) (env : EnvD) : lc2F p vs t src1 p1 vs1 t1 f src env = (src env).bind fun ds => match lc2L p vs t src1 p1 vs1 t1 f ds env with
  | .ok T => if small T.length = true then .ok T else .bad
  | _ => .bad := nr rfl
/-! ### regions, tops -/
@[simp] theorem asSeq_wins (ws : List Win) : asSeq (wins ws) = some (ws.map win) := nr rfl
@[simp] theorem asSeq_natsT (ns : List Nat) : asSeq (natsT ns) = some (ns.map nD) := nr rfl
theorem getD_mem {ws : List Win} {i : Nat} (h : i < ws.length) : wAt ws i ∈ ws := by
  unfold wAt
  rw [List.getD_eq_getElem?_getD, List.getElem?_eq_getElem h]
  exact List.getElem_mem h
/-- the top of a cell -/
def topW (ws : List Win) (os : List Nat) (x y : Int) : Option Nat := (os.filter fun i => inW (wAt ws i) x y).getLast?
theorem top_region {ws : List Win} {os : List Nat} (h : IsOrd ws.length os) (x y : Int) : (os.filter (· ∈ region ws x y)).getLast? = topW ws os x y := by
  unfold topW
  congr 1
  apply List.filter_congr
  intro i hi
  rw [Bool.eq_iff_iff]
  simp [region, h.lt hi]
/-! ### all cells -/
def covd (ws : List Win) (c : Int × Int) : Bool := ws.any fun w => inW w c.1 c.2
@[irreducible] def allC (ws : List Win) : List (Int × Int) := grid.filter (covd ws)
theorem keyEq_cell (a b : Int × Int) : keyEq (cellD a) (cellD b) = decide (a = b) := by
  cases a; cases b
  simp [keyEq, cellD, keysEq, keyEq1]
theorem allC_eq (ws : List Win) : allC ws = grid.filter (covd ws) := by unfold allC; rfl
def addC (ks : List (Int × Int)) (c : Int × Int) : List (Int × Int) := if c ∈ ks then ks else ks ++ [c]
theorem dPutV_bl (c : Int × Int) : ∀ ks : List (Int × Int), dPutV (ks.map cellD) (ks.map fun _ => .bl true) (cellD c) (.bl true) = ks.map fun _ => .bl true
  | [] => rfl
  | k :: ks => by simp [dPutV, dPutV_bl c ks]
theorem dPut_cell (ks : List (Int × Int)) (c : Int × Int) : dPut (ks.map cellD) (ks.map fun _ => .bl true) (cellD c) (.bl true) = ((addC ks c).map cellD, (addC ks c).map fun _ => .bl true) := by
  unfold dPut addC
  have e : ((ks.map cellD).any fun k => keyEq k (cellD c)) = decide (c ∈ ks) := by
    rw [List.any_map, Bool.eq_iff_iff]
    simp [keyEq_cell]
  rw [e]
  by_cases h : c ∈ ks
  · simp [h, dPutV_bl]
  · simp [h]
theorem addC_nodup {ks : List (Int × Int)} {c : Int × Int} (h : ks.Nodup) : (addC ks c).Nodup := by
  unfold addC
  split
  · exact h
  · rename_i q
    rw [List.nodup_append]
    exact ⟨h, by simp, fun a ha b hb e => by simp at hb; subst hb; subst e; exact q ha⟩
theorem addC_mem {ks : List (Int × Int)} {c d : Int × Int} : d ∈ addC ks c ↔ d ∈ ks ∨ d = c := by
  unfold addC
  split
  · rename_i q
    constructor
    · exact .inl
    · rintro (h | h)
      · exact h
      · rw [h]; exact q
  · simp
theorem addC_len (ks : List (Int × Int)) (c : Int × Int) : (addC ks c).length ≤ ks.length + 1 := by
  unfold addC; split <;> simp
theorem isKey_cell (c : Int × Int) : isKey true (cellD c) = true := by cases c; rfl
def dsC (ks : List (Int × Int)) : Sl := .ownd true (ks.map cellD) (ks.map fun _ => .bl true)
/-! ### overlaps, sizes -/
def ovW (a b : Win) : Win := ⟨max a.l b.l, max a.t b.t, min a.r b.r, min a.b b.b⟩
def hasOv (a b : Win) : Bool := decide ((ovW a b).l < (ovW a b).r) && decide ((ovW a b).t < (ovW a b).b)
/-! ### what the laws draw -/
theorem neD_scr (ns : List Int) : neD (.scr ns) (.lst []) = some (!decide (ns = [])) := by
  have h : SeqAt.shaped (D.scr ns).toPy = true := by
    unfold SeqAt.shaped
    simp only [D.toPy, PyData.canLay0, PyData.depth, lay_ints, dep_ints]
    rfl
  have h2 : SeqAt.shaped (D.lst []).toPy = true := rfl
  unfold neD eqD
  rw [h, h2]
  cases ns <;> simp [D.toPy, toPys, PyData.eqv, PyData.eqvAll]
theorem ix_scr {ns : List Int} {i : Int} (h0 : 0 ≤ i) (h1 : i < ns.length) : ∃ c, ixD (.scr ns) (.int i) = some (.int c) := by
  obtain ⟨n, rfl⟩ : ∃ n : Nat, i = n := ⟨i.toNat, by omega⟩
  have hl : n < ns.length := by omega
  refine ⟨ns[n], ?_⟩
  show (atI ns (n : Int)).map D.int = _
  unfold atI ixN
  rw [if_pos (by omega), Int.toNat_natCast, if_pos (by omega)]
  simp [hl]
theorem pow_e : powD (.int 10) (.int 18) = some (.int 1000000000000000000) := rfl
theorem ix_winsB {ws : List Win} {i : Nat} (h : i < ws.length) : ixD (wins ws) (nD i) = some (win (wAt ws i)) := by
  refine (ix_nat (xs := ws.map win) ?_).1
  unfold wAt
  rw [List.getElem?_map, List.getElem?_eq_getElem h, List.getD_eq_getElem?_getD, List.getElem?_eq_getElem h]
  rfl
theorem eqD_opt (o : Option Nat) (i : Nat) : eqD (optD o) (nD i) = some (decide (o = some i)) := eqD_of (pl_64 (pl_opt 0 o)) (pl_64 (pl_nat 0 i)) (by
  cases o with
  | none => simp [optD, nD]
  | some j => simp only [optD, nD, D.int.injEq, Option.some.injEq]; exact cast_eq j i)
theorem neD_opt (o : Option Nat) (i : Nat) : neD (optD o) (nD i) = some (!decide (o = some i)) := by unfold neD; rw [eqD_opt]; rfl
theorem Wins.at_ {ws : List Win} (h : Wins ws) {i : Nat} (hi : i < ws.length) : (wAt ws i).Ok := h.ok _ (getD_mem hi)
@[irreducible] def seenW (ws : List Win) (os : List Nat) (i : Nat) : List (Int × Int) := (cellsW (wAt ws i)).filter fun c => decide (topW ws os c.1 c.2 = some i)
theorem seenW_eq (ws : List Win) (os : List Nat) (i : Nat) : seenW ws os i = (cellsW (wAt ws i)).filter fun c => decide (topW ws os c.1 c.2 = some i) := by unfold seenW; rfl
theorem eqD_cells (a b : List (Int × Int)) : eqD (.lst (a.map cellD)) (.lst (b.map cellD)) = some (decide (a = b)) := eqD_of (pl_64 (pl_cells a)) (pl_64 (pl_cells b)) (by
  rw [D.lst.injEq]; exact map_inj fun _ _ => cell_inj)
theorem neD_cells (a b : List (Int × Int)) : neD (.lst (a.map cellD)) (.lst (b.map cellD)) = some (!decide (a = b)) := by unfold neD; rw [eqD_cells]; rfl
theorem eqD_nats (a b : List Nat) : eqD (.lst (a.map nD)) (.lst (b.map nD)) = some (decide (a = b)) := eqD_of (pl_64 (pl_nats a)) (pl_64 (pl_nats b)) (by
  rw [D.lst.injEq]; exact map_inj fun _ _ => nD_inj)
theorem neD_nats (a b : List Nat) : neD (.lst (a.map nD)) (.lst (b.map nD)) = some (!decide (a = b)) := by unfold neD; rw [eqD_nats]; rfl
def wholeW (ws : List Win) (os : List Nat) (i : Nat) : Bool := decide (seenW ws os i = cellsW (wAt ws i))
theorem len_wins (ws : List Win) : lenD [wins ws] = some (.int ws.length) := by
  have : lenD [wins ws] = some (.int (ws.map win).length) := rfl
  rw [this, List.length_map]
/-! ### what stands on a window -/
theorem top_lt {ws : List Win} {os : List Nat} (ho : IsOrd ws.length os) {x y : Int} {j : Nat} (h : topW ws os x y = some j) : j < ws.length ∧ inW (wAt ws j) x y = true := by
  unfold topW at h
  have m := List.mem_of_getLast? h
  rw [List.mem_filter] at m
  exact ⟨ho.lt m.1, m.2⟩
theorem top_in {ws : List Win} {os : List Nat} (ho : IsOrd ws.length os) {x y : Int} {i : Nat} (hi : i < ws.length) (h : inW (wAt ws i) x y = true) : ∃ j, topW ws os x y = some j := by
  have m : i ∈ os.filter fun i => inW (wAt ws i) x y := by
    rw [List.mem_filter]
    exact ⟨ho.mem_iff.mpr (List.mem_range.mpr hi), h⟩
  unfold topW
  cases q : (os.filter fun i => inW (wAt ws i) x y).getLast? with
  | some j => exact ⟨j, rfl⟩
  | none => rw [List.getLast?_eq_none_iff] at q; rw [q] at m; cases m
theorem cell_in {w : Win} {c : Int × Int} (h : c ∈ cellsW w) : inW w c.1 c.2 = true := by
  rw [cellsW_eq, List.mem_filter] at h; exact h.2
def topN (ws : List Win) (os : List Nat) (c : Int × Int) : Nat := (topW ws os c.1 c.2).getD 0
theorem topN_eq {ws : List Win} {os : List Nat} (ho : IsOrd ws.length os) {i : Nat} (hi : i < ws.length) {c : Int × Int} (h : c ∈ cellsW (wAt ws i)) : topW ws os c.1 c.2 = some (topN ws os c) := by
  obtain ⟨j, hj⟩ := top_in ho hi (cell_in h)
  unfold topN
  rw [hj]; rfl
@[irreducible] def hidW (ws : List Win) (os : List Nat) (i : Nat) : List Nat := (List.range ws.length).filter fun j => decide (j ≠ i) && (cellsW (wAt ws i)).any fun c => decide (topN ws os c = j)
theorem hidW_eq (ws : List Win) (os : List Nat) (i : Nat) : hidW ws os i = (List.range ws.length).filter fun j => decide (j ≠ i) && (cellsW (wAt ws i)).any fun c => decide (topN ws os c = j) := by unfold hidW; rfl
theorem sort_set {l m : List Nat} (hl : l.Nodup) (hm : m.Pairwise (· < ·)) (h : ∀ z, z ∈ l ↔ z ∈ m) : isort leD (l.map nD) = m.map nD := by
  have nm : m.Nodup := List.Pairwise.imp (fun {a b} (h : a < b) (e : a = b) => by omega) hm
  refine isort_uniq (((List.perm_ext_iff_of_nodup hl nm).mpr h).map nD) ?_ fun a ha b hb h1 h2 => ?_
  · rw [List.pairwise_map]
    exact hm.imp fun {a b} h => by rw [leD_nat]; exact decide_eq_true (by omega)
  · obtain ⟨i, _, rfl⟩ := List.mem_map.mp ha
    obtain ⟨j, _, rfl⟩ := List.mem_map.mp hb
    rw [leD_nat] at h1 h2
    rw [Nat.le_antisymm (of_decide_eq_true h1) (of_decide_eq_true h2)]
theorem range_lt (n : Nat) : (List.range n).Pairwise (· < ·) := by
  have := range_pair (R := fun a b : Nat => a < b) (f := id) (n := n) fun i j hij _ => hij
  simpa using this
theorem keyEq_nD (a b : Nat) : keyEq (nD a) (nD b) = decide (a = b) := by
  rw [Bool.eq_iff_iff]
  simp only [keyEq, nD, keyEq1, decide_eq_true_eq]
  exact cast_eq a b
/-! ### what the later laws draw -/
theorem s_drawn {ns : List Int} (h63 : ns.length ≤ 63) {k m : Int} (hk : 0 ≤ k ∧ k ≤ 2000) (hm : 0 < m ∧ m ≤ 1000) : ∃ v : Int, fD__law_drawn [.scr ns, .int k, .int m] = .ok (.int v) ∧ 0 ≤ v ∧ v < m := by
  have tail : ∀ (x : Int) (s4 s5 : Sl), ∃ v : Int, runO (seqS (setS 3 (bin modD (bin addD (bin mulD (bin modD (getV 3) (cst (.int 2147483563))) (cst (.int 69069))) (bin mulD (cst (.int 104723)) (bin addD (getV 1) (cst (.int 1))))) (cst (.int 2147483563)))) (seqS (setS 3 (bin modD (bin addD (bin mulD (getV 3) (getV 3)) (bin fdivD (getV 3) (cst (.int 3)))) (cst (.int 2147483399)))) (retS (bin modD (bin fdivD (bin modD (bin addD (bin mulD (getV 3) (getV 3)) (bin fdivD (getV 3) (cst (.int 7)))) (cst (.int 2147483647))) (cst (.int 11))) (getV 2)))) [.val (.scr ns), .val (.int k), .val (.int m), .val (.int x), s4, s5]) = .ok (.int v) ∧ 0 ≤ v ∧ v < m := by
    intro x s4 s5
    have a0 : 0 ≤ x % 2147483563 := Int.emod_nonneg _ (by omega)
    have a1 : x % 2147483563 < 2147483563 := Int.emod_lt_of_pos _ (by omega)
    have m1 : mulD (.int (x % 2147483563)) (.int 69069) = some (.int (x % 2147483563 * 69069)) := u_mulR _ _ (by omega) (by omega)
    have m2 : mulD (.int 104723) (.int (k + 1)) = some (.int (104723 * (k + 1))) := u_mulL _ _ (by omega) (by omega)
    have b0 : 0 ≤ (x % 2147483563 * 69069 + 104723 * (k + 1)) % 2147483563 := Int.emod_nonneg _ (by omega)
    have b1 : (x % 2147483563 * 69069 + 104723 * (k + 1)) % 2147483563 < 2147483563 := Int.emod_lt_of_pos _ (by omega)
    simp [u_mod _ 2147483563, m1, m2]
    generalize (x % 2147483563 * 69069 + 104723 * (k + 1)) % 2147483563 = d at *
    have m3 : mulD (.int d) (.int d) = some (.int (d * d)) := u_mulR _ _ (by omega) (by omega)
    have c0 : 0 ≤ (d * d + d / 3) % 2147483399 := Int.emod_nonneg _ (by omega)
    have c1 : (d * d + d / 3) % 2147483399 < 2147483399 := Int.emod_lt_of_pos _ (by omega)
    simp [m3, u_fdiv d 3, u_mod _ 2147483399]
    generalize (d * d + d / 3) % 2147483399 = f at *
    have m4 : mulD (.int f) (.int f) = some (.int (f * f)) := u_mulR _ _ (by omega) (by omega)
    refine ⟨(f * f + f / 7) % 2147483647 / 11 % m, ?_, Int.emod_nonneg _ (by omega), Int.emod_lt_of_pos _ hm.1⟩
    simp [m4, u_fdiv f 7, u_mod _ 2147483647, u_fdiv _ 11, u_mod _ m hm.1]
  have k7 : mulD (.int 7) (.int k) = some (.int (7 * k)) := u_mulL _ _ (by omega) (by omega)
  by_cases h : ns = []
  · subst h
    obtain ⟨v, h1, h2⟩ := tail (7 * k) .no .no
    refine ⟨v, ?_, h2⟩
    simp only [e_seq] at h1
    simp only [fD__law_drawn, G__law_drawn, e_fn, List.length_cons, List.length_nil, Nat.reduceAdd, if_true, List.map_cons, List.map_nil, List.cons_append, List.nil_append, Nat.reduceSub, List.replicate_succ, List.replicate_zero, e_seq, u_set, u_bin, u_cst, e_bind, e_getVs, e_getV0, k7, e_some, e_bindS, e_set0, e_setS, e_seqN, u_if, e_getB0, u_mkL, u_lst, u_nil, small_0, e_map, neD_scr, decide_true, Bool.not_true, Bool.false_eq_true, if_false, u_skip]
    simpa using h1
  · have hl := List.length_pos_iff.mpr h
    obtain ⟨c, hc⟩ := ix_scr (ns := ns) (i := k % ns.length) (Int.emod_nonneg _ (by omega)) (Int.emod_lt_of_pos _ (by omega))
    have hq0 : 0 ≤ k / (ns.length : Int) := Int.ediv_nonneg hk.1 (by omega)
    have hq1 : k / (ns.length : Int) ≤ 2000 := by
      have := Int.ediv_le_self (a := k) (ns.length : Int) hk.1
      omega
    have f1 : fdivD (.int k) (.int ns.length) = some (.int (k / ns.length)) := u_fdiv _ _ (by omega) (by omega)
    have f2 : modD (.int k) (.int ns.length) = some (.int (k % ns.length)) := u_mod _ _ (by omega)
    have m5 : mulD (.int 6553) (.int (k / ns.length)) = some (.int (6553 * (k / ns.length))) := u_mulL _ _ (by omega) (by omega)
    obtain ⟨e', hw, r, a, rfl⟩ := whileL_ok (t := andF (bin gtI (getV 5) (cst (.int 0))) (bin gtI (getV 4) (cst (.int 0)))) (G := B__law_drawn_0)
      (fun n e => ∃ r a : Int, e = [.val (.scr ns), .val (.int k), .val (.int m), .val (.int c), .val (.int a), .val (.int r)] ∧ a.toNat = n)
      (fun e => ∃ r a : Int, e = [.val (.scr ns), .val (.int k), .val (.int m), .val (.int c), .val (.int a), .val (.int r)])
      (by
        rintro n e ⟨r, a, rfl, rfl⟩
        by_cases h : 0 < r ∧ 0 < a
        · exact .inr ⟨by simp [h], _, (a - 1).toNat, by omega, .inl (by simp [B__law_drawn_0, u_fdiv r 1000000]), r / 1000000, a - 1, rfl, rfl⟩
        · exact .inl ⟨by simp; omega, r, a, rfl⟩)
      3000 (k / (ns.length : Int)).toNat [.val (.scr ns), .val (.int k), .val (.int m), .val (.int c), .val (.int (k / ns.length)), .val (.int (c / 1000000000000000000))] (by omega) ⟨_, _, rfl, rfl⟩
    by_cases c1 : 1000000000000000000 ≤ c ∧ k / ns.length < 60
    · by_cases hr : 0 < r
      · refine ⟨r % 1000000 % m, ?_, Int.emod_nonneg _ (by omega), Int.emod_lt_of_pos _ hm.1⟩
        simp [fD__law_drawn, G__law_drawn, k7, neD_scr, h, f2, hc, f1, pow_e, c1.1, c1.2, u_fdiv c 1000000000000000000, hw, hr, u_mod r 1000000, u_mod _ m hm.1]
      · obtain ⟨v, h1, h2⟩ := tail (c + 6553 * (k / ns.length)) (.val (.int a)) (.val (.int r))
        refine ⟨v, ?_, h2⟩
        simp only [e_seq] at h1
        rw [← h1]
        simp [fD__law_drawn, G__law_drawn, k7, neD_scr, h, f2, hc, f1, pow_e, c1.1, c1.2, u_fdiv c 1000000000000000000, hw, hr, m5]
    · obtain ⟨v, h1, h2⟩ := tail (c + 6553 * (k / ns.length)) (.val (.int (k / ns.length))) .no
      refine ⟨v, ?_, h2⟩
      simp only [e_seq] at h1
      rw [← h1]
      by_cases c2 : 1000000000000000000 ≤ c
      · have c3 : ¬ k / (ns.length : Int) < 60 := fun z => c1 ⟨c2, z⟩
        simp [fD__law_drawn, G__law_drawn, k7, neD_scr, h, f2, hc, f1, pow_e, c2, c3, m5]
      · simp [fD__law_drawn, G__law_drawn, k7, neD_scr, h, f2, hc, f1, pow_e, c2, m5]
theorem s_window2 {ns : List Int} (h63 : ns.length ≤ 63) {k : Int} (hk : 0 ≤ k ∧ k ≤ 1900) : ∃ w : Win, fD__law_window [.scr ns, .int k] = .ok (win w) ∧ 0 ≤ w.l ∧ w.l < 9 ∧ w.l < w.r ∧ w.r ≤ w.l + 4 ∧ 0 ≤ w.t ∧ w.t < 9 ∧ w.t < w.b ∧ w.b ≤ w.t + 4 := by
  obtain ⟨v0, p0, a0, b0⟩ := s_drawn h63 (k := k) (m := 9) (by omega) (by omega)
  obtain ⟨v1, p1, a1, b1⟩ := s_drawn h63 (k := k + 1) (m := 9) (by omega) (by omega)
  obtain ⟨v2, p2, a2, b2⟩ := s_drawn h63 (k := k + 2) (m := 4) (by omega) (by omega)
  obtain ⟨v3, p3, a3, b3⟩ := s_drawn h63 (k := k + 3) (m := 4) (by omega) (by omega)
  refine ⟨⟨v0, v1, v0 + 1 + v2, v1 + 1 + v3⟩, ?_, ?_⟩
  · simp [fD__law_window, G__law_window, p0, p1, p2, p3, win]
  · dsimp only; omega
theorem s_windows2 {ns : List Int} (h63 : ns.length ≤ 63) {k : Int} (hk : 0 ≤ k ∧ k ≤ 1500) {most : Int} (hm : 0 ≤ most ∧ most ≤ 6) : ∃ ws : List Win, Wins ws ∧ (ws.length : Int) ≤ most ∧ fD__law_windows [.scr ns, .int k, .int most] = .ok (wins ws) ∧ ∀ w ∈ ws, w.r - w.l ≤ 4 ∧ w.b - w.t ≤ 4 := by
  obtain ⟨v, p, a, b⟩ := s_drawn h63 (k := k) (m := most + 1) (by omega) (by omega)
  obtain ⟨n, rfl⟩ : ∃ n : Nat, v = n := ⟨v.toNat, by omega⟩
  obtain ⟨g, pg, g0, g1⟩ := s_drawn h63 (k := k + 30) (m := 3) (by omega) (by omega)
  have rn : asRng1 [.int (n : Int)] = some ((List.range n).map nD) := asRng1_nat (by omega)
  obtain ⟨e', h1, ws, t4, t5, t6, t7, t8, t9, t10, t11, rfl, ok, len⟩ := forL_ind (p := .nm 4) (G := B__law_windows_0) (enc := nD) (xs := List.range n) (e := [.val (.scr ns), .val (.int k), .val (.int most), .own [], .no, .no, .no, .no, .no, .no, .no, .no])
    (fun pre e => ∃ (ws : List Win) (t4 t5 t6 t7 t8 t9 t10 t11 : Sl), e = [.val (.scr ns), .val (.int k), .val (.int most), .own (ws.map win), t4, t5, t6, t7, t8, t9, t10, t11] ∧ (∀ w ∈ ws, w.Ok ∧ w.r - w.l ≤ 4 ∧ w.b - w.t ≤ 4) ∧ ws.length = pre.length) ⟨[], _, _, _, _, _, _, _, _, rfl, by simp, rfl⟩ (by
      rintro pre i suf hq e ⟨ws, t4, t5, t6, t7, t8, t9, t10, t11, rfl, ok, len⟩
      have hi : i < n := List.mem_range.mp (by rw [hq]; simp)
      have hpl : pre.length < n := by
        have := congrArg List.length hq
        simp at this; omega
      obtain ⟨w, pw, w1, w2, w3, w4, w5, w6, w7, w8⟩ := s_window2 h63 (k := k + 1 + 4 * i) (by omega)
      have m4 : mulD (.int 4) (nD i) = some (.int (4 * i)) := u_mulL 4 i (by omega) (by omega)
      have u : ∀ (a5 a6 a7 a8 a9 a10 a11 : Sl), unpS (.tp [6, 7, 8, 9]) (callF fD__law_window (consF (getV 0) (consF (bin addD (bin addD (getV 1) (cst (.int 1))) (bin mulD (cst (.int 4)) (getV 4))) nilF))) [.val (.scr ns), .val (.int k), .val (.int most), .own (ws.map win), .val (nD i), a5, a6, a7, a8, a9, a10, a11] = .next [.val (.scr ns), .val (.int k), .val (.int most), .own (ws.map win), .val (nD i), a5, .val (.int w.l), .val (.int w.t), .val (.int w.r), .val (.int w.b), a10, a11] := fun a5 a6 a7 a8 a9 a10 a11 => unp_ok (d := win w) (by simp [m4, pw]) rfl
      have hg : g = 0 ∨ g = 1 ∨ g = 2 := by omega
      have f1 : ∀ x : Int, fdivD (.int x) (.int (1 + g)) = some (.int (x / (1 + g))) := fun x => u_fdiv x _ (by omega) (by omega)
      have d1 : 0 ≤ w.l / (1 + g) ∧ w.l / (1 + g) ≤ w.l := ⟨Int.ediv_nonneg w1 (by omega), Int.ediv_le_self _ w1⟩
      have d2 : 0 ≤ w.t / (1 + g) ∧ w.t / (1 + g) ≤ w.t := ⟨Int.ediv_nonneg w5 (by omega), Int.ediv_le_self _ w5⟩
      have sm : small (ws.length + 1) = true := small_le (by omega)
      refine ⟨_, rfl, [.val (.scr ns), .val (.int k), .val (.int most), .own ((ws ++ [(⟨w.l / (1 + g), w.t / (1 + g), w.l / (1 + g) + w.r - w.l, w.t / (1 + g) + w.b - w.t⟩ : Win)]).map win), .val (nD i), .val (.int (1 + g)), .val (.int w.l), .val (.int w.t), .val (.int w.r), .val (.int w.b), .val (.int (w.l / (1 + g))), .val (.int (w.t / (1 + g)))], .inl ?_, _, _, _, _, _, _, _, _, _, rfl, fun x hx => ?_, by simp [len]⟩
      · simp [B__law_windows_0, u, pg, f1, appS, sm, win]
      · rcases List.mem_append.mp hx with h | h
        · exact ok x h
        · rw [List.mem_singleton.mp h]
          unfold Win.Ok
          dsimp only
          omega)
  rw [List.length_range] at len
  refine ⟨ws, ⟨fun w hw => (ok w hw).1, by omega⟩, by omega, ?_, fun w hw => (ok w hw).2⟩
  simp [fD__law_windows, G__law_windows, p, rn, h1, wins]
theorem cut_lo (xs : List D) (k : Nat) : cutD xs none (some (k : Int)) = xs.take k := by
  unfold cutD
  rw [HT.sIx_none, HT.sIx_nat]
  simp
theorem cut_hi (xs : List D) (k : Nat) : cutD xs (some (k : Int)) none = xs.drop k := by
  unfold cutD
  rw [HT.sIx_none, HT.sIx_nat]
  rcases Nat.lt_or_ge k xs.length with q | q
  · rw [Nat.min_eq_left (by omega)]
    rw [List.take_of_length_le (by simp)]
  · rw [Nat.min_eq_right q, List.drop_of_length_le (Nat.le_refl _), List.drop_of_length_le q]
    simp
theorem s_order2 {ns : List Int} (h63 : ns.length ≤ 63) {k : Int} (hk : 0 ≤ k ∧ k ≤ 1500) {n : Nat} (hn : n ≤ 12) : ∃ os : List Nat, IsOrd n os ∧ fD__law_order [.scr ns, .int k, nD n] = .ok (natsT os) := by
  have rn : asRng1 [nD n] = some ((List.range n).map nD) := asRng1_nat (by omega)
  obtain ⟨e', h1, os, t4, t5, rfl, hp⟩ := forL_ind (p := .nm 4) (G := B__law_order_0) (enc := nD) (xs := List.range n) (e := [.val (.scr ns), .val (.int k), .val (nD n), .val (.lst (([] : List Nat).map nD)), .no, .no])
    (fun pre e => ∃ (os : List Nat) (t4 t5 : Sl), e = [.val (.scr ns), .val (.int k), .val (nD n), .val (.lst (os.map nD)), t4, t5] ∧ os.Perm pre) ⟨[], _, _, rfl, List.Perm.refl _⟩ (by
      rintro pre i suf hq e ⟨os, t4, t5, rfl, hp⟩
      have hi : i < n := List.mem_range.mp (by rw [hq]; simp)
      have hpl : pre.length < n := by
        have := congrArg List.length hq
        simp at this; omega
      have hol := hp.length_eq
      obtain ⟨v, pv, v0, v1⟩ := s_drawn h63 (k := k + i) (m := (os.length : Int) + 1) (by omega) (by omega)
      obtain ⟨j, rfl⟩ : ∃ j : Nat, v = j := ⟨v.toNat, by omega⟩
      have ll : lenD [.lst (os.map nD)] = some (.int os.length) := by
        have : lenD [.lst (os.map nD)] = some (.int (os.map nD).length) := rfl
        rw [this, List.length_map]
      have c1 : cutF (.lst (os.map nD)) none (some (j : Int)) = some (.lst ((os.take j).map nD)) := by
        show some (D.lst (cutD (os.map nD) none (some (j : Int)))) = _
        rw [cut_lo, List.map_take]
      have c2 : cutF (.lst (os.map nD)) (some (j : Int)) none = some (.lst ((os.drop j).map nD)) := by
        show some (D.lst (cutD (os.map nD) (some (j : Int)) none)) = _
        rw [cut_hi, List.map_drop]
      have s1 : small ((os.take j).length + 1) = true := small_le (by simp; omega)
      have s2 : small ((os.take j).length + 1 + (os.drop j).length) = true := small_le (by simp; omega)
      have k1 : catD (.lst ((os.take j).map nD)) (.lst [nD i]) = some ((os.take j ++ [i]).map nD) := by
        show (if small (((os.take j).map nD).length + 1) = true then some ((os.take j).map nD ++ [nD i]) else none) = _
        rw [List.length_map, if_pos s1]
        simp
      have k2 : catD (.lst ((os.take j ++ [i]).map nD)) (.lst ((os.drop j).map nD)) = some ((os.take j ++ [i] ++ os.drop j).map nD) := by
        show (if small (((os.take j ++ [i]).map nD).length + ((os.drop j).map nD).length) = true then some ((os.take j ++ [i]).map nD ++ (os.drop j).map nD) else none) = _
        rw [List.length_map, List.length_map, List.length_append, List.length_singleton, if_pos s2]
        simp
      have ad : addD (.int k) (nD i) = some (.int (k + i)) := u_addI k i
      refine ⟨_, rfl, [.val (.scr ns), .val (.int k), .val (nD n), .val (.lst ((os.take j ++ [i] ++ os.drop j).map nD)), .val (nD i), .val (.int j)], .inl ?_, _, _, _, rfl, ?_⟩
      · generalize (os.take j ++ [i] ++ os.drop j).map nD = R3 at *
        generalize (os.take j ++ [i]).map nD = R2 at *
        generalize (os.take j).map nD = R1 at *
        generalize (os.drop j).map nD = R0 at *
        generalize os.map nD = RO at *
        simp only [B__law_order_0, e_seq, u_set, u_call, u_cons, u_nil, u_bin, u_cst, e_getV0, e_getVs, e_getB0, e_getBs, e_bind, e_map, ad, e_some, u_appL, ll, u_addI, pv, e_bindS, e_set0, e_setS, e_seqN, u_mkL, u_slice, u_noO, u_someO, u_asO, c1, c2, u_lst, List.length_cons, List.length_nil, Nat.zero_add, small_1, if_true, k1, k2]
      · have : (os.take j ++ [i] ++ os.drop j).Perm (i :: os) := by
          rw [List.append_assoc, List.singleton_append]
          refine List.perm_middle.trans ?_
          rw [List.take_append_drop]
        exact this.trans ((hp.cons i).trans (List.perm_append_singleton i pre).symm))
  refine ⟨os, hp, ?_⟩
  simp at h1
  simp [fD__law_order, G__law_order, rn, h1, natsT]
/-! ### values that are refused -/
theorem ix_pick {xs : List D} {v : Int} (h0 : 0 ≤ v) (h1 : v < xs.length) : ∃ d ∈ xs, ixD (.lst xs) (.int v) = some d := by
  obtain ⟨k, rfl⟩ : ∃ k : Nat, v = k := ⟨v.toNat, by omega⟩
  have hk : k < xs.length := by omega
  exact ⟨xs[k], List.getElem_mem hk, (ix_nat (List.getElem?_eq_getElem hk)).2⟩
def badWins : List D := [.non, .lst [], .lst [.tup [.int 0, .int 0, .int 1, .int 1]], .tup [.tup [.int 0, .int 0, .int 0, .int 1]], .tup [.tup [.int 0, .int 0, .int 13, .int 1]], .tup [.tup [.int 0, .int 1, .int 1, .int 1]],
  .tup [.tup [.bl true, .int 0, .int 2, .int 2]], .tup [.tup [.int 0, .int 0, .int 1]], .tup (List.replicate 7 (.tup [.int 0, .int 0, .int 1, .int 1])), .tup [.int 0, .int 0, .int 1, .int 1], .tup [.tup [.int (-1), .int 0, .int 1, .int 1]]]
theorem badWins_all : ∀ d ∈ badWins, fD_are_windows [d] = .ok (.bl false) := by
  intro d hd
  unfold badWins at hd
  simp only [List.mem_cons, List.not_mem_nil, or_false] at hd
  rcases hd with rfl | rfl | rfl | rfl | rfl | rfl | rfl | rfl | rfl | rfl | rfl <;> rfl
theorem s_badwindows {ns : List Int} (h63 : ns.length ≤ 63) {k : Int} (hk : 0 ≤ k ∧ k ≤ 1900) : ∃ d, fD__law_badwindows [.scr ns, .int k] = .ok d ∧ fD_are_windows [d] = .ok (.bl false) := by
  obtain ⟨v, p, a, b⟩ := s_drawn h63 (k := k) (m := 11) (by omega) (by omega)
  obtain ⟨d, hd, ix⟩ := ix_pick (xs := badWins) a (by show v < 11; omega)
  refine ⟨d, ?_, badWins_all d hd⟩
  have m7 : mulD (.tup [.tup [.int 0, .int 0, .int 1, .int 1]]) (.int 7) = some (.tup (List.replicate 7 (.tup [.int 0, .int 0, .int 1, .int 1]))) := rfl
  have c1 : catD (.lst [.non, .lst [], .lst [.tup [.int 0, .int 0, .int 1, .int 1]], .tup [.tup [.int 0, .int 0, .int 0, .int 1]], .tup [.tup [.int 0, .int 0, .int 13, .int 1]], .tup [.tup [.int 0, .int 1, .int 1, .int 1]]]) (.lst [.tup [.tup [.bl true, .int 0, .int 2, .int 2]], .tup [.tup [.int 0, .int 0, .int 1]]]) =
    some [.non, .lst [], .lst [.tup [.int 0, .int 0, .int 1, .int 1]], .tup [.tup [.int 0, .int 0, .int 0, .int 1]], .tup [.tup [.int 0, .int 0, .int 13, .int 1]], .tup [.tup [.int 0, .int 1, .int 1, .int 1]], .tup [.tup [.bl true, .int 0, .int 2, .int 2]], .tup [.tup [.int 0, .int 0, .int 1]]] := rfl
  have c2 : catD (.lst [.non, .lst [], .lst [.tup [.int 0, .int 0, .int 1, .int 1]], .tup [.tup [.int 0, .int 0, .int 0, .int 1]], .tup [.tup [.int 0, .int 0, .int 13, .int 1]], .tup [.tup [.int 0, .int 1, .int 1, .int 1]], .tup [.tup [.bl true, .int 0, .int 2, .int 2]], .tup [.tup [.int 0, .int 0, .int 1]]])
    (.lst [.tup (List.replicate 7 (.tup [.int 0, .int 0, .int 1, .int 1])), .tup [.int 0, .int 0, .int 1, .int 1], .tup [.tup [.int (-1), .int 0, .int 1, .int 1]]]) = some badWins := rfl
  have s6 : small 6 = true := small_le (by omega)
  simp only [fD__law_badwindows, G__law_badwindows, e_fn, List.length_cons, List.length_nil, Nat.reduceAdd, if_true, List.map_cons, List.map_nil, List.cons_append, List.nil_append, Nat.reduceSub, List.replicate_one, e_seq, u_set, u_mkL, u_lst, u_cons, u_cst, u_tup, u_nil, e_bind, e_map, small_0, small_1, small_2, small_3, small_4, s6, e_bindS, e_set0, e_setS, e_seqN, u_bin, e_getBs, e_getB0, e_getVs, e_getV0, c1, e_some, u_una, u_neg, m7, c2, u_call, p, ix, u_ret, e_runR]
/-- the argument is no windows -/
theorem e_windows {d : D} (h : fD_are_windows [d] = .ok (.bl false)) : fD_check_windows [d] = .err .windows := by
  simp [fD_check_windows, G_check_windows, h]
theorem e_both1 {d o : D} (h : fD_are_windows [d] = .ok (.bl false)) : fD_check_both [d, o] = .err .windows := by
  simp [fD_check_both, G_check_both, e_windows h]
/-- the second is no order -/
theorem e_order {d o : D} (h : fD_has_order [d, o] = .ok (.bl false)) : fD_check_order [d, o] = .err .order := by
  simp [fD_check_order, G_check_order, h]
theorem e_both2 {ws : List Win} (hw : Wins ws) {o : D} (h : fD_has_order [wins ws, o] = .ok (.bl false)) : fD_check_both [wins ws, o] = .err .order := by
  simp [fD_check_both, G_check_both, s_check_windows hw, e_order h]
def badOrds (os : List Nat) (n : Nat) : List D := [.non, .lst (os.map nD), natsT (os ++ [n]), natsT (os ++ os.take 1 ++ [0]), natsT (os.map (· + 1) ++ [0, 0])]
theorem u_isTupNon : isTupD .non = some false := rfl
theorem badOrds_all {ws : List Win} {os : List Nat} (ho : IsOrd ws.length os) (hl : ws.length ≤ 6) : ∀ d ∈ badOrds os ws.length, fD_has_order [wins ws, d] = .ok (.bl false) := by
  intro d hd
  have hol := ho.length_eq
  rw [List.length_range] at hol
  have no : ∀ l : List Nat, l.length ≠ ws.length → fD_has_order [wins ws, natsT l] = .ok (.bl false) := fun l h => by
    rw [s_has_order' l hl, decide_eq_false]
    intro z
    have := z.length_eq
    rw [List.length_range] at this
    exact h this
  unfold badOrds at hd
  simp only [List.mem_cons, List.not_mem_nil, or_false] at hd
  rcases hd with rfl | rfl | rfl | rfl | rfl
  · simp [fD_has_order, G_has_order, u_isTupNon]
  · simp [fD_has_order, G_has_order]
  · exact no _ (by simp; omega)
  · exact no _ (by simp; omega)
  · exact no _ (by simp; omega)
theorem s_badorder {ns : List Int} (h63 : ns.length ≤ 63) {k : Int} (hk : 0 ≤ k ∧ k ≤ 1900) {ws : List Win} {os : List Nat} (ho : IsOrd ws.length os) (hl : ws.length ≤ 6) : ∃ d, fD__law_badorder [.scr ns, .int k, natsT os] = .ok d ∧ fD_has_order [wins ws, d] = .ok (.bl false) := by
  obtain ⟨v, p, a, b⟩ := s_drawn h63 (k := k) (m := 5) (by omega) (by omega)
  obtain ⟨d, hd, ix⟩ := ix_pick (xs := badOrds os ws.length) a (by show v < 5; omega)
  refine ⟨d, ?_, badOrds_all ho hl d hd⟩
  have hol := ho.length_eq
  rw [List.length_range] at hol
  have ln : lenD [natsT os] = some (nD ws.length) := by
    rw [← hol]
    have : lenD [natsT os] = some (.int (os.map nD).length) := rfl
    rw [this, List.length_map]; rfl
  have li : listD [natsT os] = some (os.map nD) := rfl
  have ap : ∀ l m : List Nat, l.length + m.length ≤ 100 → addD (natsT l) (natsT m) = some (natsT (l ++ m)) := fun l m h => by
    show (if small ((l.map nD).length + (m.map nD).length) = true then some (D.tup (l.map nD ++ m.map nD)) else none) = _
    rw [if_pos (small_le (by simp; omega))]
    simp [natsT]
  have a1 := ap os [ws.length] (by simp; omega)
  have ct : cutF (natsT os) none (some 1) = some (natsT (os.take 1)) := by
    show some (D.tup (cutD (os.map nD) none (some ((1 : Nat) : Int)))) = _
    rw [cut_lo, ← List.map_take]; rfl
  have a2 := ap os (os.take 1) (by simp; omega)
  have a3 := ap (os ++ os.take 1) [0] (by simp; omega)
  have e1 : ∀ a3 : Sl, lcL (.nm 4) [4] yesF (bin addD (cst (.int 1)) (getV 4)) (os.map nD) [.val (.scr ns), .val (.int k), .val (natsT os), a3, .no] = .ok ((os.map (· + 1)).map nD) := fun a3 => by
    rw [List.map_map]
    exact lcL_all (enc := nD) (nD ∘ (· + 1)) fun j _ => ⟨_, rfl, by
      have : addD (.int 1) (nD j) = some (.int (1 + j)) := u_addI 1 j
      simp [this, nD]
      omega⟩
  have a4 := ap (os.map (· + 1)) [0, 0] (by simp; omega)
  have c1 : catD (.lst [.non, .lst (os.map nD), natsT (os ++ [ws.length]), natsT (os ++ os.take 1 ++ [0])]) (.lst [natsT (os.map (· + 1) ++ [0, 0])]) = some (badOrds os ws.length) := rfl
  have n1 : natsT [ws.length] = .tup [nD ws.length] := rfl
  have n2 : natsT [0] = .tup [.int 0] := rfl
  have n3 : natsT [0, 0] = .tup [.int 0, .int 0] := rfl
  rw [n1] at a1
  rw [n2] at a3
  rw [n3] at a4
  have tp : tupleD [.lst ((os.map (· + 1)).map nD)] = some (natsT (os.map (· + 1))) := rfl
  simp only [fD__law_badorder, G__law_badorder, e_fn, List.length_cons, List.length_nil, Nat.reduceAdd, if_true, List.map_cons, List.map_nil, List.cons_append, List.nil_append, Nat.reduceSub, List.replicate_succ, List.replicate_zero, e_seq, u_set, u_mkL, u_lst, u_cons, u_cst, u_tup, u_nil, e_bind, e_map, small_0, small_1, small_2, small_3, small_4, e_bindS, e_set0, e_setS, e_seqN, u_bin, e_getBs, e_getB0, e_getVs, e_getV0, u_appL, ln, li, e_some, a1, u_slice, u_noO, u_someO, u_asO, ct, a2, a3, u_lc, u_seqF, asSeq_natsT, e1, tp, a4, c1, u_call, p, ix, u_ret, e_runR]
def badNums (n : Nat) : List D := [.non, .int (-1), nD n, .bl true, .str "0"]
/-! ### texts -/
def sN (i : Int) : Str := toString i
def rowS (w : Win) : Str := sN w.l ++ "," ++ sN w.t ++ "-" ++ sN w.r ++ "," ++ sN w.b
def txt (ws : List Win) : Str := Txt.join "; " (ws.map rowS)
theorem sN_len {i : Int} (h0 : 0 ≤ i) (h1 : i ≤ 12) : (sN i).length ≤ 2 := by
  obtain ⟨n, rfl⟩ := Int.eq_ofNat_of_zero_le h0
  have : n < 13 := by omega
  have key : ∀ n, n < 13 → (sN ((n : Nat) : Int)).length ≤ 2 := by decide +kernel
  exact key n this
theorem str_small {a b : Str} (h : a.length + b.length ≤ 1000) : addD (.str a) (.str b) = some (.str (a ++ b)) := by
  show (if small (a.length + b.length) = true then some (D.str (a ++ b)) else none) = _
  rw [if_pos (small_le (by omega))]
theorem app_len (a b : Str) : (a ++ b).length = a.length + b.length := by
  show (a.cps ++ b.cps).size = _
  rw [Array.size_append]; rfl
theorem strI {i : Int} (h0 : 0 ≤ i) (h1 : i ≤ 12) : strID [.int i] = some (.str (sN i)) := by
  show (if i.natAbs.log2 < 1920 then some (D.str (toString i)) else none) = _
  have : i.natAbs.log2 < 1920 := by
    have h : i.natAbs ≤ 12 := by omega
    exact Nat.lt_of_le_of_lt (Nat.log2_le_self _) (by omega)
  rw [if_pos this]; rfl
theorem strs_of (ys : List Str) : strsOf (ys.map D.str) = some ys := by
  induction ys with
  | nil => rfl
  | cons y ys ih =>
    show (strsOf (ys.map D.str)).map (y :: ·) = _
    rw [ih]; rfl
theorem comma_len : Str.length "," = 1 := by decide +kernel
theorem dash_len : Str.length "-" = 1 := by decide +kernel
theorem row_add {w : Win} (h : w.Ok) : ∀ env : EnvD, env[2]? = some (.val (.int w.l)) → env[3]? = some (.val (.int w.t)) → env[4]? = some (.val (.int w.r)) → env[5]? = some (.val (.int w.b)) →
    (bin addD (bin addD (bin addD (bin addD (bin addD (bin addD (appL strID (consF (getB 2) nilF)) (cst (.str ","))) (appL strID (consF (getB 3) nilF))) (cst (.str "-"))) (appL strID (consF (getB 4) nilF))) (cst (.str ","))) (appL strID (consF (getB 5) nilF))) env = .ok (.str (rowS w)) := by
  intro env h2 h3 h4 h5
  obtain ⟨o1, o2, o3, o4, o5, o6⟩ := h
  have g : ∀ (k : Nat) (i : Int), env[k]? = some (.val (.int i)) → getB k env = .ok (.int i) := fun k i e => by unfold getB; rw [e]
  have s1 := strI (i := w.l) (by omega) (by omega)
  have s2 := strI (i := w.t) (by omega) (by omega)
  have s3 := strI (i := w.r) (by omega) (by omega)
  have s4 := strI (i := w.b) (by omega) (by omega)
  have l1 := sN_len (i := w.l) (by omega) (by omega)
  have l2 := sN_len (i := w.t) (by omega) (by omega)
  have l3 := sN_len (i := w.r) (by omega) (by omega)
  have l4 := sN_len (i := w.b) (by omega) (by omega)
  have c1 := comma_len
  have c2 := dash_len
  have a1 := str_small (a := sN w.l) (b := ",") (by omega)
  have a2 := str_small (a := sN w.l ++ ",") (b := sN w.t) (by rw [app_len]; omega)
  have a3 := str_small (a := sN w.l ++ "," ++ sN w.t) (b := "-") (by rw [app_len, app_len]; omega)
  have a4 := str_small (a := sN w.l ++ "," ++ sN w.t ++ "-") (b := sN w.r) (by rw [app_len, app_len, app_len]; omega)
  have a5 := str_small (a := sN w.l ++ "," ++ sN w.t ++ "-" ++ sN w.r) (b := ",") (by rw [app_len, app_len, app_len, app_len]; omega)
  have a6 := str_small (a := sN w.l ++ "," ++ sN w.t ++ "-" ++ sN w.r ++ ",") (b := sN w.b) (by rw [app_len, app_len, app_len, app_len, app_len]; omega)
  simp only [u_bin, u_appL, u_cons, u_nil, u_cst, g 2 _ h2, g 3 _ h3, g 4 _ h4, g 5 _ h5, e_bind, e_map, s1, s2, s3, s4, e_some, a1, a2, a3, a4, a5, a6]
  rfl
theorem row_len {w : Win} (h : w.Ok) : (rowS w).length ≤ 11 := by
  obtain ⟨o1, o2, o3, o4, o5, o6⟩ := h
  have l1 := sN_len (i := w.l) (by omega) (by omega)
  have l2 := sN_len (i := w.t) (by omega) (by omega)
  have l3 := sN_len (i := w.r) (by omega) (by omega)
  have l4 := sN_len (i := w.b) (by omega) (by omega)
  have c1 := comma_len
  have c2 := dash_len
  unfold rowS
  rw [app_len, app_len, app_len, app_len, app_len, app_len]
  omega
theorem join_txt {ws : List Win} (hw : Wins ws) : joinD "; " (.lst (ws.map fun w => .str (rowS w))) = some (.str (txt ws)) := by
  have e : (ws.map fun w => D.str (rowS w)) = (ws.map rowS).map D.str := by rw [List.map_map]; rfl
  rw [e]
  show (match strsOf ((ws.map rowS).map D.str) with
    | some ys => if (ys.map fun x : Str => x.length).sum + ys.length * Str.length "; " ≤ 16777216 then some (D.str (Txt.join "; " ys)) else none
    | none => none) = _
  rw [strs_of]
  have sm : ∀ l : List Win, (∀ w ∈ l, w.Ok) → ((l.map rowS).map fun x : Str => x.length).sum ≤ l.length * 11 := by
    intro l
    induction l with
    | nil => intro _; simp
    | cons w l ih =>
      intro h
      have h1 := row_len (h w (by simp))
      have h2 := ih fun v hv => h v (by simp [hv])
      simp only [List.map_cons, List.sum_cons, List.length_cons]
      omega
  have h1 := sm ws hw.ok
  have h2 := hw.le
  have c : Str.length "; " = 2 := by decide +kernel
  show (if ((ws.map rowS).map fun x : Str => x.length).sum + (ws.map rowS).length * Str.length "; " ≤ 16777216 then some (D.str (Txt.join "; " (ws.map rowS))) else none) = _
  rw [if_pos (by rw [c, List.length_map]; omega)]
  rfl
theorem s_join_windows {ws : List Win} (hw : Wins ws) : fD_join_windows [wins ws] = .ok (.str (txt ws)) := by
  have hle := hw.le
  obtain ⟨e', hl, t2, t3, t4, t5, rfl⟩ := forL_ind (p := .tp [2, 3, 4, 5]) (G := B_join_windows_0) (enc := win) (xs := ws) (e := [.val (wins ws), .own [], .no, .no, .no, .no])
    (fun pre e => ∃ t2 t3 t4 t5 : Sl, e = [.val (wins ws), .own (pre.map fun w => .str (rowS w)), t2, t3, t4, t5]) ⟨_, _, _, _, rfl⟩ (by
      rintro pre w suf hq e ⟨t2, t3, t4, t5, rfl⟩
      have hwk : w.Ok := hw.ok w (by rw [hq]; simp)
      have pl : pre.length ≤ 6 := by
        have := congrArg List.length hq
        simp at this; omega
      have ra := row_add hwk [.val (wins ws), .own (pre.map fun w => .str (rowS w)), .val (.int w.l), .val (.int w.t), .val (.int w.r), .val (.int w.b)] rfl rfl rfl rfl
      refine ⟨_, rfl, [.val (wins ws), .own ((pre ++ [w]).map fun w => .str (rowS w)), .val (.int w.l), .val (.int w.t), .val (.int w.r), .val (.int w.b)], .inl ?_, _, _, _, _, rfl⟩
      have sm : small ((pre.map fun w => D.str (rowS w)).length + 1) = true := small_le (by rw [List.length_map]; omega)
      rw [List.map_append]
      exact app_ok (ds := pre.map fun w => D.str (rowS w)) rfl ra sm)
  have j := join_txt hw
  have fr : getB 1 [.val (wins ws), .own (ws.map fun w => .str (rowS w)), t2, t3, t4, t5] = .ok (.lst (ws.map fun w => .str (rowS w))) := rfl
  generalize (ws.map fun w => D.str (rowS w)) = RL at *
  have sq : asSeq (wins ws) = some (ws.map win) := rfl
  have ms : metS joinD (cst (.str "; ")) (getB 1) [.val (wins ws), .own RL, t2, t3, t4, t5] = .ok (.str (txt ws)) := by
    unfold metS
    simp [fr, j]
  generalize ws.map win = WM at *
  generalize txt ws = T at *
  generalize wins ws = W at *
  simp [fD_join_windows, G_join_windows, sq, hl, ms]
theorem s_law_text {ws : List Win} (hw : Wins ws) : fD__law_text [wins ws] = .ok (.str (txt ws)) := s_join_windows hw
theorem s_format_windows {ws : List Win} (hw : Wins ws) : fD_format_windows [wins ws] = .ok (.str (txt ws)) := by
  have h1 := s_check_windows hw
  have h2 := s_join_windows hw
  generalize txt ws = T at *
  generalize wins ws = W at *
  simp [fD_format_windows, G_format_windows, h1, h2]
/-! ### numbers -/
def digs : List Nat := [48, 49, 50, 51, 52, 53, 54, 55, 56, 57]
theorem digs_eq : (("0123456789" : Str)).cps.toList = digs := by decide +kernel
theorem one_dig : ∀ c, c < 10 → PySem.intText? ⟨#[48 + c]⟩ = some ((c : Nat) : Int) := by decide +kernel
theorem two_dig : ∀ c, c < 10 → ∀ d, d < 10 → PySem.intText? ⟨#[48 + c, 48 + d]⟩ = some ((10 * c + d : Nat) : Int) := by decide +kernel
def rdN (w : Str) : D := match w.cps.toList with
  | [a] => if a ∈ digs then nD (a - 48) else .non
  | [a, b] => if a ∈ digs ∧ b ∈ digs then nD (10 * (a - 48) + (b - 48)) else .non
  | _ => .non
theorem dig_lt {a : Nat} (h : a ∈ digs) : ∃ c, c < 10 ∧ a = 48 + c := by
  unfold digs at h
  simp only [List.mem_cons, List.not_mem_nil, or_false] at h
  exact ⟨a - 48, by omega, by omega⟩
theorem s_read_number {w : Str} (hw : w.length ≤ 1000) : fD_read_number [.str w] = .ok (rdN w) := by
  have ln : lenSD [.str w] = some (nD w.length) := by
    show (if w.length ≤ sizeLine then some (D.int w.length) else none) = _
    rw [if_pos (by rw [sizeLine_eq]; omega)]; rfl
  have e : ∀ b0 b1 : Sl, lcL (.nm 1) [1] yesF (bin (fun x y => toD (inSD x y)) (getV 1) (cst (.str "0123456789"))) (w.cps.toList.map fun c => .str ⟨#[c]⟩) [b0, b1] = .ok (w.cps.toList.map fun c => .bl (decide (c ∈ digs))) := fun _ _ =>
    lcL_all (fun c => .bl (decide (c ∈ digs))) fun c _ => ⟨_, rfl, by
      have : inSD (.str ⟨#[c]⟩) (.str "0123456789") = some (decide (c ∈ digs)) := by
        show some (decide (c ∈ (("0123456789" : Str)).cps.toList)) = _
        rw [digs_eq]
      generalize decide (c ∈ digs) = b at *
      generalize D.str ⟨#[c]⟩ = C at *
      simp [this]⟩
  have ch : chrF (getV 0) [.val (.str w), .no] = .ok (w.cps.toList.map fun c => .str ⟨#[c]⟩) := by
    have : chrD (.str w) = some (w.cps.toList.map fun c => .str ⟨#[c]⟩) := by
      show (if w.cps.size ≤ sizeLine then some (w.cps.toList.map fun c => D.str ⟨#[c]⟩) else none) = _
      rw [if_pos (by rw [sizeLine_eq]; have : w.cps.size = w.length := rfl; omega)]
    show R.ofO (chrD (.str w)) = _
    rw [this]; rfl
  have al := all_map (fun c => decide (c ∈ digs)) w.cps.toList
  have ch1 : chain leI leI (cst (.int 1)) (appL lenSD (consF (getB 0) nilF)) (cst (.int 2)) [.val (.str w), .no] = .ok (decide (1 ≤ w.length) && decide (w.length ≤ 2)) := by
    have c1 : leI (.int 1) (nD w.length) = some (decide (1 ≤ w.length)) := by
      show some (decide ((1 : Int) ≤ ((w.length : Nat) : Int))) = _
      congr 1
      rw [decide_eq_decide]; omega
    have c2 : leI (nD w.length) (.int 2) = some (decide (w.length ≤ 2)) := by
      show some (decide (((w.length : Nat) : Int) ≤ (2 : Int))) = _
      congr 1
      rw [decide_eq_decide]; omega
    generalize decide (1 ≤ w.length) = b1 at *
    generalize decide (w.length ≤ 2) = b2 at *
    generalize nD w.length = L at *
    cases b1 <;> simp [ln, c1, c2]
  have wl : w.length = w.cps.toList.length := by rw [Array.length_toList]; rfl
  have main : ∀ I : Option Int, PySem.intText? w = I → (decide (1 ≤ w.length) && decide (w.length ≤ 2)) = true → (w.cps.toList.all fun c => decide (c ∈ digs)) = true → ∀ n, I = some n → fD_read_number [.str w] = .ok (.int n) := fun I hI h1 h2 n hn => by
    rw [h1] at ch1
    rw [h2] at al
    have is : intSD [.str w] = some (.int n) := by
      show (match PySem.intText? w with
        | some n => if w.length ≤ 640 then some (D.int n) else none
        | none => none) = _
      rw [hI, hn]
      show (if w.length ≤ 640 then some (D.int n) else none) = _
      rw [Bool.and_eq_true, decide_eq_true_eq, decide_eq_true_eq] at h1
      rw [if_pos (by omega)]
    generalize (w.cps.toList.map fun c => D.bl (decide (c ∈ digs))) = BL at *
    generalize (w.cps.toList.map fun c => D.str ⟨#[c]⟩) = CL at *
    unfold fD_read_number G_read_number
    generalize chain leI leI (cst (.int 1)) (appL lenSD (consF (getB 0) nilF)) (cst (.int 2)) = CH at *
    simp [ch1, ch, e, al, is]
  have bad1 : (decide (1 ≤ w.length) && decide (w.length ≤ 2)) = false → fD_read_number [.str w] = .ok .non := fun h1 => by
    rw [h1] at ch1
    unfold fD_read_number G_read_number
    generalize chain leI leI (cst (.int 1)) (appL lenSD (consF (getB 0) nilF)) (cst (.int 2)) = CH at *
    simp [ch1]
  have bad2 : (decide (1 ≤ w.length) && decide (w.length ≤ 2)) = true → (w.cps.toList.all fun c => decide (c ∈ digs)) = false → fD_read_number [.str w] = .ok .non := fun h1 h2 => by
    rw [h1] at ch1
    rw [h2] at al
    generalize (w.cps.toList.map fun c => D.bl (decide (c ∈ digs))) = BL at *
    generalize (w.cps.toList.map fun c => D.str ⟨#[c]⟩) = CL at *
    unfold fD_read_number G_read_number
    generalize chain leI leI (cst (.int 1)) (appL lenSD (consF (getB 0) nilF)) (cst (.int 2)) = CH at *
    simp [ch1, ch, e, al]
  have we : w = ⟨w.cps.toList.toArray⟩ := by simp
  unfold rdN
  rw [wl] at main bad1 bad2
  generalize hl : w.cps.toList = l at *
  match l with
  | [] => exact bad1 (by simp)
  | [a] =>
    by_cases ha : a ∈ digs
    · obtain ⟨c, hc, rfl⟩ := dig_lt ha
      have := main _ rfl (by simp) (by simp [ha]) ((c : Nat) : Int) (by rw [we]; exact one_dig c hc)
      rw [this]
      show _ = R.ok (if 48 + c ∈ digs then nD (48 + c - 48) else .non)
      rw [if_pos ha, show 48 + c - 48 = c by omega]; rfl
    · rw [bad2 (by simp) (by simp [ha])]
      show _ = R.ok (if a ∈ digs then nD (a - 48) else .non)
      rw [if_neg ha]
  | [a, b] =>
    by_cases ha : a ∈ digs ∧ b ∈ digs
    · obtain ⟨c, hc, rfl⟩ := dig_lt ha.1
      obtain ⟨d, hd, rfl⟩ := dig_lt ha.2
      have := main _ rfl (by simp) (by simp [ha.1, ha.2]) ((10 * c + d : Nat) : Int) (by rw [we]; exact two_dig c hc d hd)
      rw [this]
      show _ = R.ok (if 48 + c ∈ digs ∧ 48 + d ∈ digs then nD (10 * (48 + c - 48) + (48 + d - 48)) else .non)
      rw [if_pos ha, show 10 * (48 + c - 48) + (48 + d - 48) = 10 * c + d by omega]; rfl
    · have : (([a, b] : List Nat).all fun c => decide (c ∈ digs)) = false := by
        rw [← Bool.not_eq_true, List.all_eq_true]
        intro h
        exact ha ⟨by simpa using h a (by simp), by simpa using h b (by simp)⟩
      rw [bad2 (by simp) this]
      show _ = R.ok (if a ∈ digs ∧ b ∈ digs then nD (10 * (a - 48) + (b - 48)) else .non)
      rw [if_neg ha]
  | a :: b :: c :: r => exact bad1 (by simp)

/-! ### splitting -/
theorem join_mem {y : Str} : ∀ {parts : List Str} {p : Str}, p ∈ parts → p.length ≤ (Str.join y parts).length
  | [p], q, h => by rw [List.mem_singleton.mp h]; exact Nat.le_refl _
  | p :: z :: r, q, h => by
    show q.length ≤ (p ++ y ++ Str.join y (z :: r)).length
    rw [app_len, app_len]
    rcases List.mem_cons.mp h with e | h
    · rw [e]; omega
    · have := join_mem (y := y) h
      omega
theorem split_mem {x y p : Str} (h : p ∈ Txt.split x y) : p.length ≤ x.length := by
  have := join_mem (y := y) h
  rw [StrLaws.join_split] at this
  exact this
theorem splitD_ok {x y : Str} (hy : (y.length == 0) = false) (hx : x.length ≤ 1000) : splitD x (.str y) = some ((Txt.split x y).map D.str) := by
  have := PyProof.Rows.split_le x y
  show (if (y.length == 0) = false ∧ x.length + 2 ≤ sizeLine ∧ (Txt.split x y).length ≤ sizeLine then some ((Txt.split x y).map D.str) else none) = _
  rw [if_pos ⟨hy, by rw [sizeLine_eq]; omega, by rw [sizeLine_eq]; omega⟩]
def cutW (p : Str) : List Str := (Txt.split p "-").flatMap fun c => Txt.split c ","
def rdW (p : Str) : D := .tup ((cutW p).map rdN)
theorem cut_mem {p c : Str} (h : c ∈ cutW p) : c.length ≤ p.length := by
  unfold cutW at h
  obtain ⟨q, hq, hc⟩ := List.mem_flatMap.mp h
  exact Nat.le_trans (split_mem hc) (split_mem hq)
theorem cut_len {p : Str} (h : p.length ≤ 500) : (cutW p).length ≤ 600000 := by
  unfold cutW
  have h1 := PyProof.Rows.split_le p "-"
  have key : ∀ l : List Str, (∀ q ∈ l, q.length ≤ 500) → (l.flatMap fun c => Txt.split c ",").length ≤ l.length * 502 := by
    intro l
    induction l with
    | nil => intro _; simp
    | cons q l ih =>
      intro h
      have a := PyProof.Rows.split_le q ","
      have b := h q (by simp)
      have c := ih fun z hz => h z (by simp [hz])
      rw [List.flatMap_cons, List.length_append, List.length_cons]
      omega
  have := key (Txt.split p "-") fun q hq => Nat.le_trans (split_mem hq) h
  omega
theorem met_split {fo fe : EnvD → R D} {env : EnvD} {x y : Str} (h1 : fo env = .ok (.str x)) (h2 : fe env = .ok (.str y)) (hy : (y.length == 0) = false) (hx : x.length ≤ 1000) : metS splitD fo fe env = .ok ((Txt.split x y).map D.str) := by
  unfold metS
  rw [h1]
  show (fe env).bind _ = _
  rw [h2]
  show R.ofO (splitD x (.str y)) = _
  rw [splitD_ok hy hx]; rfl
theorem dash_ne : (Str.length "-" == 0) = false := by decide +kernel
theorem comma_ne : (Str.length "," == 0) = false := by decide +kernel
theorem semi_ne : (Str.length "; " == 0) = false := by decide +kernel
theorem less_ne : (Str.length "<" == 0) = false := by decide +kernel
theorem s_read_window {p : Str} (hp : p.length ≤ 500) : fD_read_window [.str p] = .ok (rdW p) := by
  have m1 : ∀ b1 b2 b3 : Sl, metS splitD (getV 0) (cst (.str "-")) [.val (.str p), b1, b2, b3] = .ok ((Txt.split p "-").map D.str) := fun _ _ _ => met_split rfl rfl dash_ne (by omega)
  have e2 : ∀ b0 b1 b2 b3 : Sl, lc2L (.nm 2) [2, 3] yesF (seqF (mkL (metS splitD (getV 2) (cst (.str ","))))) (.nm 3) [3] yesF (getV 3) ((Txt.split p "-").map D.str) [b0, b1, b2, b3] = .ok ((cutW p).map D.str) := fun b0 b1 b2 b3 => by
    have h := lc2L_ok (p := .nm 2) (p1 := .nm 3) (vs := [2, 3]) (vs1 := [3]) (t := yesF) (t1 := yesF) (f := getV 3) (src1 := seqF (mkL (metS splitD (getV 2) (cst (.str ","))))) (env := [b0, b1, b2, b3]) (enc := D.str) (fun _ => true) (fun c => (Txt.split c ",").map D.str) (xs := Txt.split p "-") fun c hc => ⟨_, rfl, rfl, fun _ => ⟨(Txt.split c ",").map D.str, by
      have m := met_split (fo := getV 2) (fe := cst (.str ",")) (env := [b0, b1, .val (.str c), .no]) (x := c) (y := ",") rfl rfl comma_ne (by have := split_mem hc; omega)
      show ((metS splitD (getV 2) (cst (.str ",")) [b0, b1, .val (.str c), .no]).map D.lst).bind _ = _
      rw [m]; rfl, lcL_all (fun q => D.str q) fun q _ => ⟨_, rfl, rfl⟩⟩⟩
    rw [h]
    unfold cutW
    rw [List.filter_eq_self.mpr (fun _ _ => rfl), List.map_flatMap]
  have sm : small ((cutW p).map D.str).length = true := small_le (by rw [List.length_map]; have := cut_len hp; omega)
  have e3 : ∀ b0 b1 b2 b3 : Sl, lcL (.nm 3) [3] yesF (callF fD_read_number (consF (getV 3) nilF)) ((cutW p).map D.str) [b0, b1, b2, b3] = .ok ((cutW p).map rdN) := fun _ _ _ _ =>
    lcL_all rdN fun q hq => ⟨_, rfl, by
      have := s_read_number (w := q) (by have := cut_mem hq; omega)
      generalize D.str q = Q at *
      generalize rdN q = RQ at *
      simp [this]⟩
  have tp : tupleD [.lst ((cutW p).map rdN)] = some (rdW p) := rfl
  have e1 : ∀ b1 b2 b3 : Sl, lc2F (.nm 2) [2, 3] yesF (seqF (mkL (metS splitD (getV 2) (cst (.str ","))))) (.nm 3) [3] yesF (getV 3) (seqF (mkL (metS splitD (getV 0) (cst (.str "-"))))) [.val (.str p), b1, b2, b3] = .ok ((cutW p).map D.str) := fun b1 b2 b3 => by
    rw [u_lc2]
    have : seqF (mkL (metS splitD (getV 0) (cst (.str "-")))) [.val (.str p), b1, b2, b3] = .ok ((Txt.split p "-").map D.str) := by
      show ((metS splitD (getV 0) (cst (.str "-")) [.val (.str p), b1, b2, b3]).map D.lst).bind _ = _
      rw [m1]; rfl
    rw [this]
    simp only [e_bind]
    rw [e2]
    show (if small ((cutW p).map D.str).length = true then R.ok ((cutW p).map D.str) else .bad) = _
    rw [if_pos sm]
  have sq : asSeq (.lst ((cutW p).map D.str)) = some ((cutW p).map D.str) := rfl
  generalize (cutW p).map D.str = CL at *
  generalize (cutW p).map rdN = RL at *
  generalize rdW p = RW at *
  unfold fD_read_window G_read_window
  generalize lc2F _ _ _ _ _ _ _ _ _ = L2 at *
  simp [e1, sq, e3, tp]
/-! ### windows of any such tuples -/
def okN (d : D) : Bool := match d with
  | .int i => decide (0 ≤ i) && decide (i ≤ 12)
  | _ => false
def numD (d : D) : Prop := d = .non ∨ ∃ i, d = .int i
instance okDec (w : Win) : Decidable w.Ok := by unfold Win.Ok; infer_instance
def isWd (ds : List D) : Bool := match ds with
  | [.int l, .int t, .int r, .int b] => decide (Win.Ok ⟨l, t, r, b⟩)
  | _ => false
theorem rdN_num (w : Str) : numD (rdN w) := by
  unfold rdN
  split
  · split
    · exact .inr ⟨_, rfl⟩
    · exact .inl rfl
  · split
    · exact .inr ⟨_, rfl⟩
    · exact .inl rfl
  · exact .inl rfl
theorem isInt_num {d : D} (h : numD d) : fD_is_int [d, .int 0, .int 12] = .ok (.bl (okN d)) := by
  rcases h with rfl | ⟨i, rfl⟩
  · simp [fD_is_int, G_is_int, okN, isIntD]
  · rw [s_is_int]; rfl
theorem s_is_windowD {ds : List D} (h : ∀ d ∈ ds, numD d) : fD_is_window [.tup ds] = .ok (.bl (isWd ds)) := by
  have ln : lenD [.tup ds] = some (nD ds.length) := rfl
  have n4 := neD_nD ds.length 4
  have n4' : (.int 4 : D) = nD 4 := rfl
  have e : ∀ b0 b1 : Sl, lcL (.nm 1) [1] yesF (callF fD_is_int (consF (getV 1) (consF (cst (.int 0)) (consF (cst (.int 12)) nilF)))) ds [b0, b1] = .ok (ds.map fun d => .bl (okN d)) := fun b0 b1 => by
    have := lcL_all (p := .nm 1) (vs := [1]) (f := callF fD_is_int (consF (getV 1) (consF (cst (.int 0)) (consF (cst (.int 12)) nilF)))) (env := [b0, b1]) (enc := id) (fun d => D.bl (okN d)) (xs := ds) fun d hd => ⟨_, rfl, by
      have := isInt_num (h d hd)
      simp [this]⟩
    rw [List.map_id] at this
    exact this
  have al := all_map okN ds
  have sq : asSeq (.tup ds) = some ds := rfl
  have it : isTupD (.tup ds) = some true := rfl
  by_cases hl : ds.length = 4
  · obtain ⟨a, b, c, d, rfl⟩ : ∃ a b c d, ds = [a, b, c, d] := by
      match ds, hl with
      | [a, b, c, d], _ => exact ⟨a, b, c, d, rfl⟩
    rw [decide_eq_true hl] at n4
    by_cases ha : ([a, b, c, d].all okN) = true
    · rw [ha] at al
      have ia : ∀ x ∈ [a, b, c, d], ∃ i : Int, x = .int i ∧ 0 ≤ i ∧ i ≤ 12 := fun x hx => by
        have := List.all_eq_true.mp ha x hx
        rcases h x hx with rfl | ⟨i, rfl⟩
        · cases this
        · unfold okN at this
          simp at this
          exact ⟨i, rfl, this.1, this.2⟩
      obtain ⟨l, rfl, l0, l1⟩ := ia a (by simp)
      obtain ⟨t, rfl, t0, t1⟩ := ia b (by simp)
      obtain ⟨r, rfl, r0, r1⟩ := ia c (by simp)
      obtain ⟨bb, rfl, b0, b1⟩ := ia d (by simp)
      have res : isWd [.int l, .int t, .int r, .int bb] = (decide (l < r) && decide (t < bb)) := by
        unfold isWd
        dsimp only
        rw [Bool.eq_iff_iff, decide_eq_true_eq, Bool.and_eq_true, decide_eq_true_eq, decide_eq_true_eq]
        unfold Win.Ok
        dsimp only
        omega
      rw [res]
      have x0 : ixD (.tup [.int l, .int t, .int r, .int bb]) (.int 0) = some (.int l) := rfl
      have x1 : ixD (.tup [.int l, .int t, .int r, .int bb]) (.int 1) = some (.int t) := rfl
      have x2 : ixD (.tup [.int l, .int t, .int r, .int bb]) (.int 2) = some (.int r) := rfl
      have x3 : ixD (.tup [.int l, .int t, .int r, .int bb]) (.int 3) = some (.int bb) := rfl
      generalize D.tup [.int l, .int t, .int r, .int bb] = T at *
      generalize [D.int l, D.int t, D.int r, D.int bb] = TL at *
      generalize (TL.map fun d => D.bl (okN d)) = BL at *
      generalize nD TL.length = N at *
      rw [← n4'] at n4
      by_cases q1 : l < r
      · simp [fD_is_window, G_is_window, it, ln, n4, sq, e, al, x0, x1, x2, x3, q1]
      · simp [fD_is_window, G_is_window, it, ln, n4, sq, e, al, x0, x1, x2, x3, q1]
    · have ha : ([a, b, c, d].all okN) = false := by simpa using ha
      rw [ha] at al
      have res : isWd [a, b, c, d] = false := by
        rw [← Bool.not_eq_true]
        intro hw
        unfold isWd at hw
        split at hw
        · rename_i l t r b' q
          simp only [List.cons.injEq, and_true] at q
          obtain ⟨rfl, rfl, rfl, rfl⟩ := q
          have hw := of_decide_eq_true hw
          unfold Win.Ok at hw
          dsimp only at hw
          rw [← Bool.not_eq_true] at ha
          apply ha
          simp only [List.all_cons, List.all_nil, Bool.and_true, Bool.and_eq_true]
          unfold okN
          simp
          omega
        · cases hw
      rw [res]
      generalize D.tup [a, b, c, d] = T at *
      generalize [a, b, c, d] = TL at *
      generalize (TL.map fun d => D.bl (okN d)) = BL at *
      generalize nD TL.length = N at *
      rw [← n4'] at n4
      simp [fD_is_window, G_is_window, it, ln, n4, sq, e, al]
  · rw [decide_eq_false hl] at n4
    have res : isWd ds = false := by
      unfold isWd
      split
      · exact absurd rfl hl
      · rfl
    rw [res]
    generalize D.tup ds = T at *
    generalize nD ds.length = N at *
    rw [← n4'] at n4
    simp [fD_is_window, G_is_window, it, ln, n4]

/-! ### parsing windows -/
abbrev SOk (x : Str) : Prop := PyData.strOk x = true
theorem neD_str {x y : Str} (hx : SOk x) (hy : SOk y) : neD (.str x) (.str y) = some (!decide (x = y)) := neD_of (by simpa [plD] using hx) (by simpa [plD] using hy) (by simp)
theorem eqD_str {x y : Str} (hx : SOk x) (hy : SOk y) : eqD (.str x) (.str y) = some (decide (x = y)) := eqD_of (by simpa [plD] using hx) (by simpa [plD] using hy) (by simp)
theorem sok_app {a b : Str} (ha : SOk a) (hb : SOk b) : SOk (a ++ b) := by
  unfold SOk PyData.strOk at *
  show ((a.cps ++ b.cps).all fun c => decide (c < 0x110000)) = true
  rw [Array.all_append, ha, hb]; rfl
theorem sok_join {y : Str} (hy : SOk y) : ∀ {parts : List Str}, (∀ p ∈ parts, SOk p) → SOk (Str.join y parts)
  | [], _ => by first | decide +kernel | simp [SOk, Str.join, PyData.strOk, Str.empty]
  | [p], h => h p (by simp)
  | p :: z :: r, h => by
    show SOk (p ++ y ++ Str.join y (z :: r))
    exact sok_app (sok_app (h p (by simp)) hy) (sok_join hy fun q hq => h q (by simp [hq]))
theorem sok_num {i : Int} (h0 : 0 ≤ i) (h1 : i ≤ 12) : SOk (sN i) := by
  obtain ⟨n, rfl⟩ := Int.eq_ofNat_of_zero_le h0
  have key : ∀ n, n < 13 → PyData.strOk (sN ((n : Nat) : Int)) = true := by decide +kernel
  exact key n (by omega)
theorem sok_row {w : Win} (h : w.Ok) : SOk (rowS w) := by
  obtain ⟨o1, o2, o3, o4, o5, o6⟩ := h
  have c : SOk "," := by decide +kernel
  have d : SOk "-" := by decide +kernel
  unfold rowS
  exact sok_app (sok_app (sok_app (sok_app (sok_app (sok_app (sok_num (by omega) (by omega)) c) (sok_num (by omega) (by omega))) d) (sok_num (by omega) (by omega))) c) (sok_num (by omega) (by omega))
theorem sok_txt {ws : List Win} (hw : Wins ws) : SOk (txt ws) := by
  unfold txt
  rw [TL.join_eq]
  refine sok_join (by decide +kernel) fun p hp => ?_
  obtain ⟨w, hw', rfl⟩ := List.mem_map.mp hp
  exact sok_row (hw.ok w hw')
def pW (x : Str) : List (List D) := if x = "" then [] else (Txt.split x "; ").map fun p => (cutW p).map rdN
def okAll (ps : List (List D)) : Bool := decide (ps.length ≤ 6) && ps.all isWd
def winOf (ds : List D) : Win := match ds with
  | [.int l, .int t, .int r, .int b] => ⟨l, t, r, b⟩
  | _ => w0
theorem pW_num {x : Str} : ∀ ds ∈ pW x, ∀ d ∈ ds, numD d := by
  intro ds hds d hd
  unfold pW at hds
  split at hds
  · cases hds
  · obtain ⟨p, _, rfl⟩ := List.mem_map.mp hds
    obtain ⟨q, _, rfl⟩ := List.mem_map.mp hd
    exact rdN_num q
theorem winOf_ok {ds : List D} (h : isWd ds = true) : D.tup ds = win (winOf ds) ∧ (winOf ds).Ok := by
  unfold isWd at h
  split at h
  · exact ⟨rfl, of_decide_eq_true h⟩
  · cases h
theorem okAll_wins {ps : List (List D)} (h : okAll ps = true) : D.tup (ps.map D.tup) = wins (ps.map winOf) ∧ Wins (ps.map winOf) := by
  unfold okAll at h
  rw [Bool.and_eq_true, decide_eq_true_eq, List.all_eq_true] at h
  refine ⟨?_, ⟨fun w hw => ?_, by rw [List.length_map]; exact h.1⟩⟩
  · show _ = D.tup ((ps.map winOf).map win)
    rw [List.map_map]
    congr 1
    apply List.map_congr_left
    intro ds hds
    exact (winOf_ok (h.2 ds hds)).1
  · obtain ⟨ds, hds, rfl⟩ := List.mem_map.mp hw
    exact (winOf_ok (h.2 ds hds)).2
theorem s_are_windowsD {ps : List (List D)} (h : ∀ ds ∈ ps, ∀ d ∈ ds, numD d) : fD_are_windows [.tup (ps.map D.tup)] = .ok (.bl (okAll ps)) := by
  have ln : lenD [.tup (ps.map D.tup)] = some (nD ps.length) := by
    show some (D.int ((ps.map D.tup).length : Nat)) = _
    rw [List.length_map]; rfl
  have g6 : gtI (nD ps.length) (.int 6) = some (!decide (ps.length ≤ 6)) := by
    show some (decide (((ps.length : Nat) : Int) > 6)) = _
    rw [← decide_not]
    refine congrArg some ?_
    rw [decide_eq_decide]; omega
  have it : isTupD (.tup (ps.map D.tup)) = some true := rfl
  have sq : asSeq (.tup (ps.map D.tup)) = some (ps.map D.tup) := rfl
  have e : ∀ b0 b1 : Sl, lcL (.nm 1) [1] yesF (callF fD_is_window (consF (getV 1) nilF)) (ps.map D.tup) [b0, b1] = .ok (ps.map fun ds => .bl (isWd ds)) := fun _ _ =>
    lcL_all (fun ds => .bl (isWd ds)) fun ds hds => ⟨_, rfl, by
      have := s_is_windowD (h ds hds)
      generalize isWd ds = b at *
      generalize D.tup ds = T at *
      simp [this]⟩
  have al := all_map isWd ps
  unfold okAll
  generalize (ps.map fun ds => D.bl (isWd ds)) = BL at *
  generalize ps.all isWd = a at *
  generalize decide (ps.length ≤ 6) = q at *
  generalize nD ps.length = N at *
  generalize D.tup (ps.map D.tup) = T at *
  generalize ps.map D.tup = PL at *
  cases q with
  | true => simp [fD_are_windows, G_are_windows, it, ln, g6, sq, e, al]
  | false => simp [fD_are_windows, G_are_windows, it, ln, g6]
def okx (x : Str) : Bool := okAll (pW x) && decide (txt ((pW x).map winOf) = x)
theorem s_parse_windows {x : Str} (hx : x.length ≤ 500) (hs : SOk x) : fD_parse_windows [.str x] = if okx x = true then .ok (wins ((pW x).map winOf)) else .err .parse := by
  have ne := neD_str hs (show SOk "" by decide +kernel)
  have is : isStrD (.str x) = some true := rfl
  have pd : ∀ b1 b2 : Sl, ifF (bin neD (getB 0) (cst (.str ""))) (appL tupleD (consF (mkL (lcF (.nm 2) [2] yesF (callF fD_read_window (consF (getV 2) nilF)) (seqF (mkL (metS splitD (getV 0) (cst (.str "; "))))))) nilF)) (tupF nilF) [.val (.str x), b1, b2] = .ok (.tup ((pW x).map D.tup)) := fun b1 b2 => by
    have m := met_split (fo := getV 0) (fe := cst (.str "; ")) (env := [.val (.str x), b1, b2]) (x := x) (y := "; ") rfl rfl semi_ne (by omega)
    have e : lcL (.nm 2) [2] yesF (callF fD_read_window (consF (getV 2) nilF)) ((Txt.split x "; ").map D.str) [.val (.str x), b1, b2] = .ok ((Txt.split x "; ").map rdW) :=
      lcL_all rdW fun p hp => ⟨_, rfl, by
        have := s_read_window (p := p) (by have := split_mem hp; omega)
        generalize D.str p = P at *
        generalize rdW p = R at *
        simp [this]⟩
    have sq : asSeq (.lst ((Txt.split x "; ").map D.str)) = some ((Txt.split x "; ").map D.str) := rfl
    have tp : tupleD [.lst ((Txt.split x "; ").map rdW)] = some (.tup ((Txt.split x "; ").map rdW)) := rfl
    unfold pW
    by_cases q : x = ""
    · rw [decide_eq_true q] at ne
      rw [if_pos q]
      simp [ne]
    · rw [decide_eq_false q] at ne
      rw [if_neg q, List.map_map]
      show _ = R.ok (D.tup ((Txt.split x "; ").map rdW))
      generalize (Txt.split x "; ").map rdW = RW at *
      generalize (Txt.split x "; ").map D.str = SL at *
      generalize metS splitD (getV 0) (cst (.str "; ")) = MS at *
      simp [ne, m, sq, e, tp]
  have aw := s_are_windowsD (pW_num (x := x))
  unfold okx
  by_cases q : okAll (pW x) = true
  · obtain ⟨e1, e2⟩ := okAll_wins q
    rw [e1] at pd aw
    rw [q] at aw ⊢
    have jw := s_join_windows e2
    have nt := neD_str (sok_txt e2) hs
    generalize wins ((pW x).map winOf) = WW at *
    generalize txt ((pW x).map winOf) = TT at *
    unfold fD_parse_windows G_parse_windows
    generalize ifF (bin neD (getB 0) (cst (.str ""))) _ _ = IF at *
    by_cases q2 : TT = x
    · rw [decide_eq_true q2] at nt ⊢
      simp [is, pd, aw, jw, nt]
    · rw [decide_eq_false q2] at nt ⊢
      simp [is, pd, aw, jw, nt]
  · have q : okAll (pW x) = false := by simpa using q
    rw [q] at aw ⊢
    generalize D.tup ((pW x).map D.tup) = PW at *
    unfold fD_parse_windows G_parse_windows
    generalize ifF (bin neD (getB 0) (cst (.str ""))) _ _ = IF at *
    simp [is, pd, aw]

/-! ### a format, parsed -/
theorem num_signs : ∀ n, n < 13 → ∀ c ∈ (sN ((n : Nat) : Int)).cps.toList, c ∈ digs := by decide +kernel
theorem num_read : ∀ n, n < 13 → rdN (sN ((n : Nat) : Int)) = .int ((n : Nat) : Int) := by
  intro n hn
  have key : ∀ n, n < 13 → (sN ((n : Nat) : Int)).cps.toList = (if n < 10 then [48 + n] else [49, 48 + (n - 10)]) := by decide +kernel
  unfold rdN
  rw [key n hn]
  by_cases h : n < 10
  · rw [if_pos h]
    show (if 48 + n ∈ digs then nD (48 + n - 48) else .non) = _
    have : 48 + n ∈ digs := by
      unfold digs
      simp only [List.mem_cons, List.not_mem_nil, or_false]
      omega
    rw [if_pos this, show 48 + n - 48 = n by omega]; rfl
  · rw [if_neg h]
    show (if 49 ∈ digs ∧ 48 + (n - 10) ∈ digs then nD (10 * (49 - 48) + (48 + (n - 10) - 48)) else .non) = _
    have : 49 ∈ digs ∧ 48 + (n - 10) ∈ digs := by
      refine ⟨by decide, ?_⟩
      have : n = 10 ∨ n = 11 ∨ n = 12 := by omega
      rcases this with rfl | rfl | rfl <;> decide
    rw [if_pos this, show 10 * (49 - 48) + (48 + (n - 10) - 48) = n by omega]; rfl
theorem num_no {i : Int} (h0 : 0 ≤ i) (h1 : i ≤ 12) {s : Nat} (hs : s ∉ digs) : s ∉ (sN i).cps.toList := by
  obtain ⟨n, rfl⟩ := Int.eq_ofNat_of_zero_le h0
  exact fun h => hs (num_signs n (by omega) s h)
theorem num_rd {i : Int} (h0 : 0 ≤ i) (h1 : i ≤ 12) : rdN (sN i) = .int i := by
  obtain ⟨n, rfl⟩ := Int.eq_ofNat_of_zero_le h0
  exact num_read n (by omega)
theorem app_cps (a b : Str) : (a ++ b).cps.toList = a.cps.toList ++ b.cps.toList := by
  show (a.cps ++ b.cps).toList = _
  rw [Array.toList_append]
theorem comma_cps : (("," : Str)).cps.toList = [44] := by decide +kernel
theorem dash_cps : (("-" : Str)).cps.toList = [45] := by decide +kernel
theorem semi_cps : (("; " : Str)).cps.toList = [59, 32] := by decide +kernel
theorem less_cps : (("<" : Str)).cps.toList = [60] := by decide +kernel
theorem two_join (a y b : Str) : a ++ y ++ b = Txt.join y [a, b] := by rw [TL.join_eq]; rfl
theorem app_as (a b c : Str) : a ++ b ++ c = a ++ (b ++ c) := by
  show (⟨(a.cps ++ b.cps) ++ c.cps⟩ : Str) = ⟨a.cps ++ (b.cps ++ c.cps)⟩
  rw [Array.append_assoc]
theorem row_cut {w : Win} (h : w.Ok) : cutW (rowS w) = [sN w.l, sN w.t, sN w.r, sN w.b] := by
  obtain ⟨o1, o2, o3, o4, o5, o6⟩ := h
  have n1 : ∀ s ∉ digs, s ∉ (sN w.l).cps.toList := fun s => num_no (by omega) (by omega)
  have n2 : ∀ s ∉ digs, s ∉ (sN w.t).cps.toList := fun s => num_no (by omega) (by omega)
  have n3 : ∀ s ∉ digs, s ∉ (sN w.r).cps.toList := fun s => num_no (by omega) (by omega)
  have n4 : ∀ s ∉ digs, s ∉ (sN w.b).cps.toList := fun s => num_no (by omega) (by omega)
  have d44 : 44 ∉ digs := by decide
  have d45 : 45 ∉ digs := by decide
  have e1 : rowS w = Txt.join "-" [sN w.l ++ "," ++ sN w.t, sN w.r ++ "," ++ sN w.b] := by
    rw [← two_join]
    unfold rowS
    simp only [app_as]
  have s1 : Txt.split (rowS w) "-" = [sN w.l ++ "," ++ sN w.t, sN w.r ++ "," ++ sN w.b] := by
    rw [e1]
    refine TL.split_join (s := 45) (S := []) dash_cps (by decide +kernel) (by simp) fun p hp => ?_
    simp only [List.mem_cons, List.not_mem_nil, or_false] at hp
    rcases hp with rfl | rfl
    · show 45 ∉ (sN w.l ++ "," ++ sN w.t).cps.toList
      rw [app_cps, app_cps, comma_cps]
      simp only [List.mem_append, List.mem_singleton, not_or]
      exact ⟨⟨n1 _ d45, by decide⟩, n2 _ d45⟩
    · show 45 ∉ (sN w.r ++ "," ++ sN w.b).cps.toList
      rw [app_cps, app_cps, comma_cps]
      simp only [List.mem_append, List.mem_singleton, not_or]
      exact ⟨⟨n3 _ d45, by decide⟩, n4 _ d45⟩
  have c2 : ∀ a b : Str, 44 ∉ a.cps.toList → 44 ∉ b.cps.toList → Txt.split (a ++ "," ++ b) "," = [a, b] := fun a b ha hb => by
    rw [two_join]
    refine TL.split_join (s := 44) (S := []) comma_cps (by decide +kernel) (by simp) fun p hp => ?_
    simp only [List.mem_cons, List.not_mem_nil, or_false] at hp
    rcases hp with rfl | rfl
    · exact ha
    · exact hb
  unfold cutW
  rw [s1]
  simp only [List.flatMap_cons, List.flatMap_nil, List.append_nil]
  rw [c2 _ _ (n1 _ d44) (n2 _ d44), c2 _ _ (n3 _ d44) (n4 _ d44)]
  rfl
theorem row_pd {w : Win} (h : w.Ok) : (cutW (rowS w)).map rdN = [.int w.l, .int w.t, .int w.r, .int w.b] := by
  rw [row_cut h]
  obtain ⟨o1, o2, o3, o4, o5, o6⟩ := h
  simp only [List.map_cons, List.map_nil]
  rw [num_rd (by omega) (by omega), num_rd (by omega) (by omega), num_rd (by omega) (by omega), num_rd (by omega) (by omega)]
theorem row_no {w : Win} (h : w.Ok) : 59 ∉ (rowS w).cps.toList := by
  obtain ⟨o1, o2, o3, o4, o5, o6⟩ := h
  have d59 : 59 ∉ digs := by decide
  unfold rowS
  rw [app_cps, app_cps, app_cps, app_cps, app_cps, app_cps, comma_cps, dash_cps]
  simp only [List.mem_append, List.mem_singleton, not_or]
  exact ⟨⟨⟨⟨⟨⟨num_no (by omega) (by omega) d59, by decide⟩, num_no (by omega) (by omega) d59⟩, by decide⟩, num_no (by omega) (by omega) d59⟩, by decide⟩, num_no (by omega) (by omega) d59⟩
theorem row_pos (w : Win) : 1 ≤ (rowS w).length := by
  have := comma_len
  unfold rowS
  rw [app_len, app_len, app_len, app_len, app_len, app_len]
  omega
theorem txt_ne {ws : List Win} (h : ws ≠ []) : txt ws ≠ "" := by
  cases ws with
  | nil => exact absurd rfl h
  | cons w ws =>
    intro e
    have h1 := join_mem (y := "; ") (parts := (w :: ws).map rowS) (p := rowS w) (by simp)
    rw [← TL.join_eq] at h1
    have h2 := row_pos w
    unfold txt at e
    rw [e] at h1
    have z : Str.length "" = 0 := by decide +kernel
    omega
theorem pW_txt {ws : List Win} (hw : Wins ws) : pW (txt ws) = ws.map fun w => [.int w.l, .int w.t, .int w.r, .int w.b] := by
  unfold pW
  by_cases h : ws = []
  · subst h
    have : txt [] = "" := by decide +kernel
    rw [if_pos this]; rfl
  · rw [if_neg (txt_ne h)]
    have s : Txt.split (txt ws) "; " = ws.map rowS := by
      unfold txt
      refine TL.split_join (s := 59) (S := [32]) semi_cps (by decide +kernel) (by simpa using h) fun p hp => ?_
      obtain ⟨w, hw', rfl⟩ := List.mem_map.mp hp
      exact row_no (hw.ok w hw')
    rw [s, List.map_map]
    apply List.map_congr_left
    intro w hw'
    exact row_pd (hw.ok w hw')
theorem winOf_row (ws : List Win) : (ws.map fun w => ([.int w.l, .int w.t, .int w.r, .int w.b] : List D)).map winOf = ws := by
  rw [List.map_map]
  conv => rhs; rw [← List.map_id ws]
  apply List.map_congr_left
  intro w _; rfl
theorem txt_len {ws : List Win} (hw : Wins ws) : (txt ws).length ≤ 200 := by
  have key : ∀ l : List Win, (∀ w ∈ l, w.Ok) → (Str.join "; " (l.map rowS)).length ≤ l.length * 13 := by
    intro l
    induction l with
    | nil => intro _; decide +kernel
    | cons w l ih =>
      intro h
      have h1 := row_len (h w (by simp))
      have h2 := ih fun v hv => h v (by simp [hv])
      cases l with
      | nil =>
        show (rowS w).length ≤ _
        simp; omega
      | cons v l =>
        show (rowS w ++ "; " ++ Str.join "; " ((v :: l).map rowS)).length ≤ _
        rw [app_len, app_len]
        have c : Str.length "; " = 2 := by decide +kernel
        rw [List.length_cons]
        omega
  have := key ws hw.ok
  have := hw.le
  unfold txt
  rw [TL.join_eq]
  omega
theorem s_parse_txt {ws : List Win} (hw : Wins ws) : fD_parse_windows [.str (txt ws)] = .ok (wins ws) := by
  have h := s_parse_windows (x := txt ws) (by have := txt_len hw; omega) (sok_txt hw)
  have p := pW_txt hw
  have ok : okx (txt ws) = true := by
    unfold okx okAll
    rw [p, winOf_row, List.length_map, Bool.and_eq_true, Bool.and_eq_true, decide_eq_true_eq, decide_eq_true_eq]
    refine ⟨⟨hw.le, ?_⟩, rfl⟩
    rw [List.all_eq_true]
    intro ds hds
    obtain ⟨w, hw', rfl⟩ := List.mem_map.mp hds
    show decide (Win.Ok ⟨w.l, w.t, w.r, w.b⟩) = true
    exact decide_eq_true (hw.ok w hw')
  rw [h, if_pos ok, p, winOf_row]

/-! ### orders as texts -/
def otx (os : List Nat) : Str := Txt.join "<" (os.map fun i : Nat => sN ((i : Nat) : Int))
theorem join_otx {os : List Nat} (h : ∀ i ∈ os, i ≤ 12) (hl : os.length ≤ 12) : joinD "<" (.lst (os.map fun i : Nat => D.str (sN ((i : Nat) : Int)))) = some (.str (otx os)) := by
  have e : (os.map fun i : Nat => D.str (sN ((i : Nat) : Int))) = (os.map fun i : Nat => sN ((i : Nat) : Int)).map D.str := by rw [List.map_map]; rfl
  rw [e]
  show (match strsOf ((os.map fun i : Nat => sN ((i : Nat) : Int)).map D.str) with
    | some ys => if (ys.map fun x : Str => x.length).sum + ys.length * Str.length "<" ≤ 16777216 then some (D.str (Txt.join "<" ys)) else none
    | none => none) = _
  rw [strs_of]
  have sm : ∀ l : List Nat, (∀ w ∈ l, w ≤ 12) → ((l.map fun i : Nat => sN ((i : Nat) : Int)).map fun x : Str => x.length).sum ≤ l.length * 2 := by
    intro l
    induction l with
    | nil => intro _; simp
    | cons w l ih =>
      intro h
      have h1 := sN_len (i := ((w : Nat) : Int)) (by omega) (by have := h w (by simp); omega)
      have h2 := ih fun v hv => h v (by simp [hv])
      simp only [List.map_cons, List.sum_cons, List.length_cons]
      omega
  have h1 := sm os h
  have c : Str.length "<" = 1 := by decide +kernel
  show (if ((os.map fun i : Nat => sN ((i : Nat) : Int)).map fun x : Str => x.length).sum + (os.map fun i : Nat => sN ((i : Nat) : Int)).length * Str.length "<" ≤ 16777216 then some (D.str (Txt.join "<" (os.map fun i : Nat => sN ((i : Nat) : Int)))) else none) = _
  rw [if_pos (by rw [c, List.length_map]; omega)]
  rfl
theorem lc_otx {os : List Nat} (h : ∀ i ∈ os, i ≤ 12) (b0 b1 : Sl) : lcL (.nm 1) [1] yesF (appL strID (consF (getB 1) nilF)) (os.map nD) [b0, b1] = .ok (os.map fun i : Nat => D.str (sN ((i : Nat) : Int))) :=
  lcL_all (fun i : Nat => D.str (sN ((i : Nat) : Int))) fun i hi => ⟨_, rfl, by
    have := strI (i := ((i : Nat) : Int)) (by omega) (by have := h i hi; omega)
    have this : strID [nD i] = some (.str (sN ((i : Nat) : Int))) := this
    generalize D.str (sN ((i : Nat) : Int)) = S at *
    generalize nD i = II at *
    simp [this]⟩
theorem s_join_order {os : List Nat} (h : ∀ i ∈ os, i ≤ 12) (hl : os.length ≤ 12) : fD_join_order [natsT os] = .ok (.str (otx os)) := by
  have j := join_otx h hl
  have e := lc_otx h
  have sq : asSeq (natsT os) = some (os.map nD) := rfl
  have ms : ∀ b1 : Sl, metS joinD (cst (.str "<")) (mkL (lcF (.nm 1) [1] yesF (appL strID (consF (getB 1) nilF)) (seqF (getV 0)))) [.val (natsT os), b1] = .ok (.str (otx os)) := fun b1 => by
    generalize (os.map fun i : Nat => D.str (sN ((i : Nat) : Int))) = SL at *
    generalize os.map nD = OL at *
    generalize natsT os = O at *
    generalize otx os = OT at *
    unfold metS
    simp [sq, e, j]
  generalize natsT os = O at *
  unfold fD_join_order G_join_order
  generalize metS joinD _ _ = MS at *
  simp [ms]
theorem s_format_order {ws : List Win} {os : List Nat} (hw : Wins ws) (ho : IsOrd ws.length os) : fD_format_order [wins ws, natsT os] = .ok (.str (otx os)) := by
  have cb := s_check_both hw ho
  have hle := hw.le
  have ol := ho.length_eq
  rw [List.length_range] at ol
  have jo := s_join_order (os := os) (fun i hi => by have := ho.lt hi; omega) (by omega)
  generalize natsT os = O at *
  generalize otx os = OT at *
  generalize wins ws = W at *
  simp [fD_format_order, G_format_order, cb, jo]
/-- numbers read from a text -/
def pOr (x : Str) : List D := if x = "" then [] else (Txt.split x "<").map rdN
def natOf (d : D) : Nat := match d with
  | .int i => i.toNat
  | _ => 0
def okNn (n : Nat) (d : D) : Bool := match d with
  | .int i => decide (0 ≤ i) && decide (i ≤ (n : Int) - 1)
  | _ => false
def okO (n : Nat) (ds : List D) : Bool := ds.all (okNn n) && decide (IsOrd n (ds.map natOf))
theorem s_has_orderD {ws : List Win} (hw : Wins ws) {ds : List D} (h : ∀ d ∈ ds, numD d) : fD_has_order [wins ws, .tup ds] = .ok (.bl (okO ws.length ds)) := by
  have hle := hw.le
  by_cases q : ds.all (okNn ws.length) = true
  · have e : ds = (ds.map natOf).map nD := by
      rw [List.map_map]
      conv => lhs; rw [← List.map_id ds]
      apply List.map_congr_left
      intro d hd
      have := List.all_eq_true.mp q d hd
      rcases h d hd with rfl | ⟨i, rfl⟩
      · cases this
      · unfold okNn at this
        simp at this
        show D.int i = D.int ((i.toNat : Nat) : Int)
        rw [Int.toNat_of_nonneg this.1]
    have := s_has_order' (ds.map natOf) hle
    unfold okO
    rw [q, Bool.true_and]
    rw [← this]
    show fD_has_order [wins ws, .tup ds] = fD_has_order [wins ws, .tup ((ds.map natOf).map nD)]
    rw [← e]
  · have q : ds.all (okNn ws.length) = false := by simpa using q
    have lw : lenD [wins ws] = some (nD ws.length) := by
      show some (D.int ((ws.map win).length : Nat)) = _
      rw [List.length_map]; rfl
    have sb : subD (nD ws.length) (.int 1) = some (.int ((ws.length : Int) - 1)) := rfl
    have e : ∀ b2 : Sl, lcL (.nm 2) [2] yesF (callF fD_is_int (consF (getV 2) (consF (cst (.int 0)) (consF (bin subD (appL lenD (consF (getB 0) nilF)) (cst (.int 1))) nilF)))) ds [.val (wins ws), .val (.tup ds), b2] = .ok (ds.map fun d => .bl (okNn ws.length d)) := fun b2 => by
      have := lcL_all (p := .nm 2) (vs := [2]) (f := callF fD_is_int (consF (getV 2) (consF (cst (.int 0)) (consF (bin subD (appL lenD (consF (getB 0) nilF)) (cst (.int 1))) nilF)))) (env := [.val (wins ws), .val (.tup ds), b2]) (enc := id) (fun d => D.bl (okNn ws.length d)) (xs := ds) fun d hd => ⟨_, rfl, by
        have ii : fD_is_int [d, .int 0, .int ((ws.length : Int) - 1)] = .ok (.bl (okNn ws.length d)) := by
          rcases h d hd with rfl | ⟨i, rfl⟩
          · simp [fD_is_int, G_is_int, okNn, isIntD]
          · rw [s_is_int]; rfl
        generalize nD ws.length = N at *
        generalize wins ws = W at *
        generalize D.tup ds = T at *
        generalize okNn ws.length d = b at *
        simp [lw, sb, ii]⟩
      rw [List.map_id] at this
      exact this
    have al := all_map (okNn ws.length) ds
    have sq : asSeq (.tup ds) = some ds := rfl
    have it : isTupD (.tup ds) = some true := rfl
    unfold okO
    rw [q] at al ⊢
    generalize (ds.map fun d => D.bl (okNn ws.length d)) = BL at *
    generalize wins ws = W at *
    generalize D.tup ds = T at *
    simp [fD_has_order, G_has_order, it, sq, e, al]
theorem okO_nats {n : Nat} {ds : List D} (h : ∀ d ∈ ds, numD d) (q : okO n ds = true) : D.tup ds = natsT (ds.map natOf) ∧ IsOrd n (ds.map natOf) := by
  unfold okO at q
  rw [Bool.and_eq_true, decide_eq_true_eq] at q
  refine ⟨?_, q.2⟩
  show D.tup ds = D.tup ((ds.map natOf).map nD)
  congr 1
  rw [List.map_map]
  conv => lhs; rw [← List.map_id ds]
  apply List.map_congr_left
  intro d hd
  have := List.all_eq_true.mp q.1 d hd
  rcases h d hd with rfl | ⟨i, rfl⟩
  · cases this
  · unfold okNn at this
    simp at this
    show D.int i = D.int ((i.toNat : Nat) : Int)
    rw [Int.toNat_of_nonneg this.1]
theorem pOr_num {x : Str} : ∀ d ∈ pOr x, numD d := by
  intro d hd
  unfold pOr at hd
  split at hd
  · cases hd
  · obtain ⟨q, _, rfl⟩ := List.mem_map.mp hd
    exact rdN_num q
theorem sok_otx {os : List Nat} (h : ∀ i ∈ os, i ≤ 12) : SOk (otx os) := by
  unfold otx
  rw [TL.join_eq]
  refine sok_join (by decide +kernel) fun p hp => ?_
  obtain ⟨i, hi, rfl⟩ := List.mem_map.mp hp
  exact sok_num (by omega) (by have := h i hi; omega)
def okq (n : Nat) (x : Str) : Bool := okO n (pOr x) && decide (otx ((pOr x).map natOf) = x)
theorem s_parse_order {ws : List Win} (hw : Wins ws) {x : Str} (hx : x.length ≤ 500) (hs : SOk x) : fD_parse_order [wins ws, .str x] = if okq ws.length x = true then .ok (natsT ((pOr x).map natOf)) else .err .parse := by
  have cw := s_check_windows hw
  have hle := hw.le
  have ne := neD_str hs (show SOk "" by decide +kernel)
  have is : isStrD (.str x) = some true := rfl
  have pd : ∀ b2 b3 : Sl, ifF (bin neD (getB 1) (cst (.str ""))) (appL tupleD (consF (mkL (lcF (.nm 3) [3] yesF (callF fD_read_number (consF (getV 3) nilF)) (seqF (mkL (metS splitD (getV 1) (cst (.str "<"))))))) nilF)) (tupF nilF) [.val (wins ws), .val (.str x), b2, b3] = .ok (.tup (pOr x)) := fun b2 b3 => by
    have m := met_split (fo := getV 1) (fe := cst (.str "<")) (env := [.val (wins ws), .val (.str x), b2, b3]) (x := x) (y := "<") rfl rfl less_ne (by omega)
    have e : lcL (.nm 3) [3] yesF (callF fD_read_number (consF (getV 3) nilF)) ((Txt.split x "<").map D.str) [.val (wins ws), .val (.str x), b2, b3] = .ok ((Txt.split x "<").map rdN) :=
      lcL_all rdN fun p hp => ⟨_, rfl, by
        have := s_read_number (w := p) (by have := split_mem hp; omega)
        generalize D.str p = P at *
        generalize rdN p = R at *
        simp [this]⟩
    have sq : asSeq (.lst ((Txt.split x "<").map D.str)) = some ((Txt.split x "<").map D.str) := rfl
    have tp : tupleD [.lst ((Txt.split x "<").map rdN)] = some (.tup ((Txt.split x "<").map rdN)) := rfl
    unfold pOr
    generalize wins ws = W at *
    by_cases q : x = ""
    · rw [decide_eq_true q] at ne
      rw [if_pos q]
      simp [ne]
    · rw [decide_eq_false q] at ne
      rw [if_neg q]
      generalize (Txt.split x "<").map rdN = RW at *
      generalize (Txt.split x "<").map D.str = SL at *
      generalize metS splitD (getV 1) (cst (.str "<")) = MS at *
      simp [ne, m, sq, e, tp]
  have aw := s_has_orderD hw (pOr_num (x := x))
  unfold okq
  by_cases q : okO ws.length (pOr x) = true
  · obtain ⟨e1, e2⟩ := okO_nats pOr_num q
    rw [e1] at pd aw
    rw [q] at aw ⊢
    have lt : ∀ i ∈ (pOr x).map natOf, i ≤ 12 := fun i hi => by have := e2.lt hi; omega
    have ol := e2.length_eq
    rw [List.length_range] at ol
    have jw := s_join_order lt (by omega)
    have nt := neD_str (sok_otx lt) hs
    generalize natsT ((pOr x).map natOf) = WW at *
    generalize otx ((pOr x).map natOf) = TT at *
    generalize wins ws = W at *
    unfold fD_parse_order G_parse_order
    generalize ifF (bin neD (getB 1) (cst (.str ""))) _ _ = IF at *
    by_cases q2 : TT = x
    · rw [decide_eq_true q2] at nt ⊢
      simp [cw, is, pd, aw, jw, nt]
    · rw [decide_eq_false q2] at nt ⊢
      simp [cw, is, pd, aw, jw, nt]
  · have q : okO ws.length (pOr x) = false := by simpa using q
    rw [q] at aw ⊢
    generalize D.tup (pOr x) = PW at *
    generalize wins ws = W at *
    unfold fD_parse_order G_parse_order
    generalize ifF (bin neD (getB 1) (cst (.str ""))) _ _ = IF at *
    simp [cw, is, pd, aw]
theorem num_pos : ∀ n, n < 13 → 1 ≤ (sN ((n : Nat) : Int)).length := by decide +kernel
theorem otx_ne {os : List Nat} (hb : ∀ i ∈ os, i ≤ 12) (h : os ≠ []) : otx os ≠ "" := by
  cases os with
  | nil => exact absurd rfl h
  | cons i os =>
    intro e
    have h1 := join_mem (y := "<") (parts := (i :: os).map fun i : Nat => sN ((i : Nat) : Int)) (p := sN ((i : Nat) : Int)) (by simp)
    rw [← TL.join_eq] at h1
    have h2 := num_pos i (by have := hb i (by simp); omega)
    unfold otx at e
    rw [e] at h1
    have z : Str.length "" = 0 := by decide +kernel
    omega
theorem pOr_otx {os : List Nat} (hb : ∀ i ∈ os, i ≤ 12) : pOr (otx os) = os.map nD := by
  unfold pOr
  by_cases h : os = []
  · subst h
    have : otx [] = "" := by decide +kernel
    rw [if_pos this]; rfl
  · rw [if_neg (otx_ne hb h)]
    have s : Txt.split (otx os) "<" = os.map fun i : Nat => sN ((i : Nat) : Int) := by
      unfold otx
      refine TL.split_join (s := 60) (S := []) less_cps (by decide +kernel) (by simpa using h) fun p hp => ?_
      obtain ⟨i, hi, rfl⟩ := List.mem_map.mp hp
      exact num_no (by omega) (by have := hb i hi; omega) (by decide)
    rw [s, List.map_map]
    apply List.map_congr_left
    intro i hi
    exact num_rd (by omega) (by have := hb i hi; omega)
theorem otx_len {os : List Nat} (hb : ∀ i ∈ os, i ≤ 12) (hl : os.length ≤ 12) : (otx os).length ≤ 100 := by
  have key : ∀ l : List Nat, (∀ w ∈ l, w ≤ 12) → (Str.join "<" (l.map fun i : Nat => sN ((i : Nat) : Int))).length ≤ l.length * 3 := by
    intro l
    induction l with
    | nil => intro _; decide +kernel
    | cons w l ih =>
      intro h
      have h1 := sN_len (i := ((w : Nat) : Int)) (by omega) (by have := h w (by simp); omega)
      have h2 := ih fun v hv => h v (by simp [hv])
      cases l with
      | nil =>
        show (sN ((w : Nat) : Int)).length ≤ _
        simp; omega
      | cons v l =>
        show (sN ((w : Nat) : Int) ++ "<" ++ Str.join "<" ((v :: l).map fun i : Nat => sN ((i : Nat) : Int))).length ≤ _
        rw [app_len, app_len]
        have c : Str.length "<" = 1 := by decide +kernel
        rw [List.length_cons]
        omega
  have := key os hb
  unfold otx
  rw [TL.join_eq]
  omega
theorem natOf_nD (os : List Nat) : (os.map nD).map natOf = os := by
  rw [List.map_map]
  conv => rhs; rw [← List.map_id os]
  apply List.map_congr_left
  intro i _
  show (((i : Nat) : Int)).toNat = i
  simp
theorem s_parse_otx {ws : List Win} {os : List Nat} (hw : Wins ws) (ho : IsOrd ws.length os) : fD_parse_order [wins ws, .str (otx os)] = .ok (natsT os) := by
  have hle := hw.le
  have hb : ∀ i ∈ os, i ≤ 12 := fun i hi => by have := ho.lt hi; omega
  have ol := ho.length_eq
  rw [List.length_range] at ol
  have h := s_parse_order hw (x := otx os) (by have := otx_len hb (by omega); omega) (sok_otx hb)
  have p := pOr_otx hb
  have ok : okq ws.length (otx os) = true := by
    unfold okq okO
    rw [p, natOf_nD, Bool.and_eq_true, Bool.and_eq_true, decide_eq_true_eq, decide_eq_true_eq]
    refine ⟨⟨?_, ho⟩, rfl⟩
    rw [List.all_eq_true]
    intro d hd
    obtain ⟨i, hi, rfl⟩ := List.mem_map.mp hd
    have := ho.lt hi
    show (decide (0 ≤ ((i : Nat) : Int)) && decide (((i : Nat) : Int) ≤ (ws.length : Int) - 1)) = true
    rw [Bool.and_eq_true, decide_eq_true_eq, decide_eq_true_eq]
    omega
  rw [h, if_pos ok, p, natOf_nD]
/-! ### again -/
theorem s_handA (a x : D) (s2 s3 : Sl) : tryR 2 H__law_again_0 .parse [.val a, .val x, s2, s3] = .ret .non := by
  simp [tryR, H__law_again_0, isE, excLe]
theorem s_againW {x : Str} (hx : x.length ≤ 500) (hs : SOk x) : fD__law_again [.non, .str x] = .ok (if okx x = true then .str x else .non) := by
  have p := s_parse_windows hx hs
  by_cases q : okx x = true
  · rw [if_pos q] at p ⊢
    have q' := q
    unfold okx at q'
    rw [Bool.and_eq_true, decide_eq_true_eq] at q'
    have t := s_law_text (okAll_wins q'.1).2
    rw [q'.2] at t
    generalize wins ((pW x).map winOf) = W at *
    generalize D.str x = X at *
    simp [fD__law_again, G__law_again, B__law_again_0, tryS, p, t]
  · rw [if_neg q] at p ⊢
    have hd := s_handA .non (.str x) .no .no
    generalize D.str x = X at *
    simp [fD__law_again, G__law_again, B__law_again_0, tryS, p, hd, exsA]

/-! ### rejected texts -/
def RJ0 : EnvD → Out := (setS 0 (mkL (lstF (consF (cst .non) (consF (cst (.int 7)) (consF (cst (.str " ")) (consF (cst (.str "0,0-0,4")) (consF (cst (.str "0,0-13,4")) (consF (cst (.str "0,0-4")) (consF (cst (.str "0,0,4,4")) (consF (cst (.str "0-0-4-4")) (consF (cst (.str "00,0-4,4")) nilF))))))))))))
def RJ1 : EnvD → Out := (setS 0 (mkL (bin catD (getB 0) (mkL (lstF (consF (cst (.str "0,0-4,4;0,0-1,1")) (consF (cst (.str "0,0-4,4; ")) (consF (cst (.str "; 0,0-4,4")) nilF))))))))
def RJ2 : EnvD → Out := (setS 0 (mkL (bin catD (getB 0) (mkL (lstF (consF (cst (.str "0,0-4,4 ")) (consF (cst (.str " 0,0-4,4")) (consF (cst (.str "0, 0-4,4")) (consF (cst (.str "0,0 - 4,4")) (consF (cst (.str "a,0-4,4")) (consF (cst (.str "0,0-4,4\n")) nilF)))))))))))
def RJ3 : EnvD → Out := (setS 0 (mkL (bin catD (getB 0) (mkL (lstF (consF (metS joinD (cst (.str "; ")) (mkL (bin repD (mkL (lstF (consF (cst (.str "0,0-1,1")) nilF))) (cst (.int 7))))) (consF (cst (.str "-1,0-4,4")) (consF (cst (.str "0,0-4,4,")) nilF))))))))
def RJ4 : EnvD → Out := (ifS (bin neD (mkL (lcF (.nm 2) [2] (bin notNoneD (callF fD__law_again (consF (cst .non) (consF (getV 2) nilF))) (cst .non)) (getV 2) (seqF (getV 0)))) (mkL (lstF nilF))) (retS (cst (.bl false))) skipS)
def RJ5 : EnvD → Out := (setS 1 (tupF (consF (tupF (consF (cst (.int 0)) (consF (cst (.int 0)) (consF (cst (.int 1)) (consF (cst (.int 1)) nilF))))) (consF (tupF (consF (cst (.int 1)) (consF (cst (.int 1)) (consF (cst (.int 2)) (consF (cst (.int 2)) nilF))))) nilF))))
def RJ6 : EnvD → Out := (setS 0 (mkL (lstF (consF (cst .non) (consF (cst (.int 7)) (consF (cst (.str "")) (consF (cst (.str "0")) (consF (cst (.str "0<0")) (consF (cst (.str "0<1<2")) (consF (cst (.str "0 < 1")) (consF (cst (.str "01")) (consF (cst (.str "0,1")) (consF (cst (.str "0<1 ")) (consF (cst (.str "00<1")) (consF (cst (.str "1<")) (consF (cst (.str "<1")) nilF))))))))))))))))
def RJ7 : EnvD → Out := (setS 0 (mkL (bin catD (getB 0) (mkL (lstF (consF (cst (.str "0<1<")) (consF (cst (.str "0>1")) (consF (cst (.str "1<2")) (consF (tupF (consF (cst (.str "0<1")) nilF)) nilF)))))))))
def RJ8 : EnvD → Out := (ifS (notF (bin eqD (mkL (lcF (.nm 2) [2] (bin notNoneD (callF fD__law_again (consF (getV 1) (consF (getV 2) nilF))) (cst .non)) (getV 2) (seqF (getV 0)))) (mkL (lstF nilF)))) (retS (cst (.bl false))) skipS)
def RJ9 : EnvD → Out := (retS (bin (fun x y => toD (eqD x y)) (callF fD_parse_order (consF (getV 1) (consF (cst (.str "1<0")) nilF))) (tupF (consF (cst (.int 1)) (consF (cst (.int 0)) nilF)))))
theorem rj_eq : G__law_rejected = seqS RJ0 (seqS RJ1 (seqS RJ2 (seqS RJ3 (seqS RJ4 (seqS RJ5 (seqS RJ6 (seqS RJ7 (seqS RJ8 RJ9)))))))) := rfl
def bs0 : List Str := [" ", "0,0-0,4", "0,0-13,4", "0,0-4", "0,0,4,4", "0-0-4-4", "00,0-4,4"]
def bs1 : List Str := ["0,0-4,4;0,0-1,1", "0,0-4,4; ", "; 0,0-4,4"]
def bs2 : List Str := ["0,0-4,4 ", " 0,0-4,4", "0, 0-4,4", "0,0 - 4,4", "a,0-4,4", "0,0-4,4\n"]
def bs3 : List Str := [Txt.join "; " (List.replicate 7 "0,0-1,1"), "-1,0-4,4", "0,0-4,4,"]
def badW : List D := [.non, .int 7] ++ (bs0 ++ bs1 ++ bs2 ++ bs3).map D.str
def os0 : List Str := ["", "0", "0<0", "0<1<2", "0 < 1", "01", "0,1", "0<1 ", "00<1", "1<", "<1", "0<1<", "0>1", "1<2"]
def badO : List D := [.non, .int 7] ++ os0.map D.str ++ [.tup [.str "0<1"]]
theorem bs_all : ((bs0 ++ bs1 ++ bs2 ++ bs3).all fun x => decide (x.length ≤ 500) && PyData.strOk x && !okx x) = true := by decide +kernel
theorem os_all : (os0.all fun x => decide (x.length ≤ 500) && PyData.strOk x && !okq 2 x) = true := by decide +kernel
theorem rj0 : RJ0 [.no, .no, .no] = .next [.val (.lst ([.non, .int 7] ++ bs0.map D.str)), .no, .no] := rfl
theorem rj1 : RJ1 [.val (.lst ([.non, .int 7] ++ bs0.map D.str)), .no, .no] = .next [.val (.lst ([.non, .int 7] ++ (bs0 ++ bs1).map D.str)), .no, .no] := rfl
theorem rj2 : RJ2 [.val (.lst ([.non, .int 7] ++ (bs0 ++ bs1).map D.str)), .no, .no] = .next [.val (.lst ([.non, .int 7] ++ (bs0 ++ bs1 ++ bs2).map D.str)), .no, .no] := rfl
theorem rj3 : RJ3 [.val (.lst ([.non, .int 7] ++ (bs0 ++ bs1 ++ bs2).map D.str)), .no, .no] = .next [.val (.lst badW), .no, .no] := rfl
def prW : List Win := [⟨0, 0, 1, 1⟩, ⟨1, 1, 2, 2⟩]
theorem prW_ok : Wins prW := ⟨fun w h => by
  unfold prW at h
  simp only [List.mem_cons, List.not_mem_nil, or_false] at h
  rcases h with rfl | rfl <;> simp [Win.Ok], by simp [prW]⟩
theorem rj5 (a c : Sl) : RJ5 [a, .no, c] = .next [a, .val (wins prW), c] := rfl
theorem rj6 (a c : Sl) : RJ6 [a, .val (wins prW), c] = .next [.val (.lst ([.non, .int 7] ++ (os0.take 11).map D.str)), .val (wins prW), c] := rfl
theorem rj7 (c : Sl) : RJ7 [.val (.lst ([.non, .int 7] ++ (os0.take 11).map D.str)), .val (wins prW), c] = .next [.val (.lst badO), .val (wins prW), c] := rfl
theorem again_none {d : D} (h : d = .non ∨ d = .int 7) : fD__law_again [.non, d] = .ok .non := by rcases h with rfl | rfl <;> rfl
theorem again_badW : ∀ d ∈ badW, fD__law_again [.non, d] = .ok .non := by
  intro d hd
  unfold badW at hd
  rcases List.mem_append.mp hd with h | h
  · simp only [List.mem_cons, List.not_mem_nil, or_false] at h
    exact again_none h
  · obtain ⟨x, hx, rfl⟩ := List.mem_map.mp h
    have := List.all_eq_true.mp bs_all x hx
    simp only [Bool.and_eq_true, decide_eq_true_eq, Bool.not_eq_true'] at this
    rw [s_againW this.1.1 this.1.2, if_neg (by rw [this.2]; simp)]
theorem lc_again (a : D) {L : List D} (h : ∀ d ∈ L, fD__law_again [a, d] = .ok .non) (fa : EnvD → R D) (env : EnvD) (ha : ∀ d, fa (env.set 2 (.val d)) = .ok a) (l3 : ∃ x y z, env = [x, y, z]) :
    lcL (.nm 2) [2] (bin notNoneD (callF fD__law_again (consF fa (consF (getV 2) nilF))) (cst .non)) (getV 2) L env = .ok [] := by
  have e := lcL_ok (p := .nm 2) (vs := [2]) (t := bin notNoneD (callF fD__law_again (consF fa (consF (getV 2) nilF))) (cst .non)) (f := getV 2) (env := env) (enc := id) (fun _ => false) id (xs := L) fun d hd => by
    obtain ⟨x, y, z, rfl⟩ := l3
    refine ⟨[x, y, .val d], rfl, ?_, fun z => by cases z⟩
    have h1 := ha d
    have h1 : fa [x, y, .val d] = .ok a := h1
    have h2 := h d hd
    simp [h1, h2]
  rw [List.map_id] at e
  rw [e]
  simp

theorem s_againO {ws : List Win} (hw : Wins ws) {x : Str} (hx : x.length ≤ 500) (hs : SOk x) : fD__law_again [wins ws, .str x] = .ok (if okq ws.length x = true then .str x else .non) := by
  have p := s_parse_order hw hx hs
  have hle := hw.le
  have nr : noRaw (wins ws) = true := rfl
  have nn : isNon (wins ws) = false := rfl
  by_cases q : okq ws.length x = true
  · rw [if_pos q] at p ⊢
    have q' := q
    unfold okq at q'
    rw [Bool.and_eq_true, decide_eq_true_eq] at q'
    obtain ⟨e1, e2⟩ := okO_nats pOr_num q'.1
    have lt : ∀ i ∈ (pOr x).map natOf, i ≤ 12 := fun i hi => by have := e2.lt hi; omega
    have ol := e2.length_eq
    rw [List.length_range] at ol
    have j := join_otx lt (by omega)
    have sq : asSeq (natsT ((pOr x).map natOf)) = some (((pOr x).map natOf).map nD) := rfl
    have e : ∀ b0 b1 b2 b3 : Sl, lcL (.nm 3) [3] yesF (appL strID (consF (getB 3) nilF)) (((pOr x).map natOf).map nD) [b0, b1, b2, b3] = .ok (((pOr x).map natOf).map fun i : Nat => D.str (sN ((i : Nat) : Int))) := fun _ _ _ _ =>
      lcL_all (fun i : Nat => D.str (sN ((i : Nat) : Int))) fun i hi => ⟨_, rfl, by
        have := strI (i := ((i : Nat) : Int)) (by omega) (by have := lt i hi; omega)
        have this : strID [nD i] = some (.str (sN ((i : Nat) : Int))) := this
        generalize D.str (sN ((i : Nat) : Int)) = S at *
        generalize nD i = II at *
        simp [this]⟩
    rw [q'.2] at j
    generalize (((pOr x).map natOf).map fun i : Nat => D.str (sN ((i : Nat) : Int))) = SL at *
    generalize ((pOr x).map natOf).map nD = OL at *
    generalize natsT ((pOr x).map natOf) = O at *
    have ms : ∀ b2 b3 : Sl, metS joinD (cst (.str "<")) (mkL (lcF (.nm 3) [3] yesF (appL strID (consF (getB 3) nilF)) (seqF (callF fD_parse_order (consF (getV 0) (consF (getV 1) nilF)))))) [.val (wins ws), .val (.str x), b2, b3] = .ok (.str x) := fun b2 b3 => by
      generalize wins ws = W at *
      unfold metS
      simp [p, sq, e, j]
    generalize D.str x = X at *
    generalize wins ws = W at *
    unfold fD__law_again G__law_again B__law_again_0
    generalize metS joinD _ _ = MS at *
    simp [tryS, nr, nn, ms]
  · rw [if_neg q] at p ⊢
    have hd := s_handA (wins ws) (.str x) .no .no
    have ms : metS joinD (cst (.str "<")) (mkL (lcF (.nm 3) [3] yesF (appL strID (consF (getB 3) nilF)) (seqF (callF fD_parse_order (consF (getV 0) (consF (getV 1) nilF)))))) [.val (wins ws), .val (.str x), .no, .no] = .err .parse := by
      generalize wins ws = W at *
      unfold metS
      simp [p]
    generalize D.str x = X at *
    generalize wins ws = W at *
    unfold fD__law_again G__law_again B__law_again_0
    generalize metS joinD _ _ = MS at *
    simp [tryS, nr, nn, ms, hd, exsA]
theorem again_badO : ∀ d ∈ badO, fD__law_again [wins prW, d] = .ok .non := by
  intro d hd
  unfold badO at hd
  rcases List.mem_append.mp hd with h | h
  · rcases List.mem_append.mp h with h | h
    · simp only [List.mem_cons, List.not_mem_nil, or_false] at h
      rcases h with rfl | rfl <;> rfl
    · obtain ⟨x, hx, rfl⟩ := List.mem_map.mp h
      have := List.all_eq_true.mp os_all x hx
      simp only [Bool.and_eq_true, decide_eq_true_eq, Bool.not_eq_true'] at this
      rw [s_againO prW_ok this.1.1 this.1.2, if_neg (by show ¬ okq 2 x = true; rw [this.2]; simp)]
  · rw [List.mem_singleton.mp h]
    rfl
theorem s_rejected : fD__law_rejected [] = .ok (.bl true) := by
  have r4 : RJ4 [.val (.lst badW), .no, .no] = .next [.val (.lst badW), .no, .no] := by
    have e := lc_again .non again_badW (cst .non) [.val (.lst badW), .no, .no] (fun _ => rfl) ⟨_, _, _, rfl⟩
    have sq : asSeq (.lst badW) = some badW := rfl
    have n0 : neD (.lst []) (.lst []) = some false := rfl
    generalize badW = BW at *
    simp [RJ4, sq, e, n0]
  have r8 : RJ8 [.val (.lst badO), .val (wins prW), .no] = .next [.val (.lst badO), .val (wins prW), .no] := by
    have e := lc_again (wins prW) again_badO (getV 1) [.val (.lst badO), .val (wins prW), .no] (fun _ => rfl) ⟨_, _, _, rfl⟩
    have sq : asSeq (.lst badO) = some badO := rfl
    have n0 : eqD (.lst []) (.lst []) = some true := rfl
    generalize badO = BW at *
    generalize wins prW = W at *
    simp [RJ8, sq, e, n0]
  have r9 : RJ9 [.val (.lst badO), .val (wins prW), .no] = .ret (.bl true) := by
    have o10 : otx [1, 0] = "1<0" := by decide +kernel
    have p := s_parse_otx prW_ok (os := [1, 0]) (by unfold IsOrd prW; decide)
    rw [o10] at p
    have q : eqD (natsT [1, 0]) (.tup [.int 1, .int 0]) = some true := rfl
    generalize natsT [1, 0] = N10 at *
    generalize badO = BW at *
    generalize wins prW = W at *
    simp [RJ9, p, q]
  show fnD 3 0 G__law_rejected [] = _
  rw [rj_eq]
  show runO (seqS RJ0 _ [.no, .no, .no]) = _
  have sq : ∀ (A B : EnvD → Out) (e e' : EnvD), A e = .next e' → seqS A B e = B e' := fun A B e e' h => by
    show outSeq (A e) B = _
    rw [h]; rfl
  rw [sq _ _ _ _ rj0, sq _ _ _ _ rj1, sq _ _ _ _ rj2, sq _ _ _ _ rj3, sq _ _ _ _ r4, sq _ _ _ _ (rj5 _ _), sq _ _ _ _ (rj6 _ _), sq _ _ _ _ (rj7 _), sq _ _ _ _ r8, r9]
  rfl

/-! ### bent texts -/
theorem slice_ok {z : Str} (lo hi : Option Int) : (Txt.slice z lo hi).length ≤ z.length ∧ (SOk z → SOk (Txt.slice z lo hi)) := by
  rw [← C8.cutS_slice]
  unfold L2.cutS
  refine ⟨?_, fun h => ?_⟩
  · show (List.toArray _).size ≤ z.cps.size
    rw [List.size_toArray, List.length_take, List.length_drop, Array.length_toList]
    omega
  · unfold SOk PyData.strOk at *
    rw [← Array.all_toList] at *
    rw [List.all_eq_true] at *
    intro c hc
    exact h c (List.mem_of_mem_drop (List.mem_of_mem_take hc))

/-! ### refused -/
theorem callX2 (f0 f1 : List D → R D) (fs : EnvD → R (List D)) (fi : EnvD → R D) (env : EnvD) (ds : List D) (h1 : fs env = .ok ds) : (fi env = .ok (.int 0) → callXF [f0, f1] fi fs env = f0 ds) ∧ (fi env = .ok (.int 1) → callXF [f0, f1] fi fs env = f1 ds) := ⟨fun h2 => by
      unfold callXF
      rw [h2]
      show (fs env).bind f0 = _
      rw [h1]; rfl, fun h2 => by
      unfold callXF
      rw [h2]
      show (fs env).bind f1 = _
      rw [h1]; rfl⟩
def g3 : Nat → D → D → R D
  | 0, W, _ => fD_format_windows [W]
  | 1, W, O => fD_format_order [W, O]
  | _, W, O => fD_parse_order [W, O]
theorem s_handR (c : Exc) (hc : c = .windows ∨ c = .order) (s0 s1 s2 s3 : Sl) : tryR 3 H__law_refused_0 c [s0, s1, s2, s3] = .ret (nD (if c = .windows then 0 else 1)) := by
  rcases hc with rfl | rfl <;> rfl
theorem s_refused {j : Nat} (hj : j < 3) {A O : D} {c : Exc} (h : g3 j A O = .err c) (hc : c = .windows ∨ c = .order) : fD__law_refused [nD j, A, O] = .ok (nD (if c = .windows then 0 else 1)) := by
  have hm : c ∈ exsA := by rcases hc with rfl | rfl <;> decide
  have hb : B__law_refused_0 [.val (nD j), .val A, .val O, .no] = .err c [.val (nD j), .val A, .val O, .no] := by
    rcases (by omega : j = 0 ∨ j = 1 ∨ j = 2) with rfl | rfl | rfl
    · have h : fD_format_windows [A] = .err c := h
      have l : eqD (nD 0) (.int 0) = some true := rfl
      simp [B__law_refused_0, l, h]
    · have cx := (callX2 fD_format_order fD_parse_order (consF (getV 1) (consF (getV 2) nilF)) (bin subD (getV 0) (cst (.int 1))) [.val (nD 1), .val A, .val O, .no] [A, O] rfl).1 rfl
      have h : fD_format_order [A, O] = .err c := h
      have l : eqD (nD 1) (.int 0) = some false := rfl
      simp [B__law_refused_0, l, cx, h]
    · have cx := (callX2 fD_format_order fD_parse_order (consF (getV 1) (consF (getV 2) nilF)) (bin subD (getV 0) (cst (.int 1))) [.val (nD 2), .val A, .val O, .no] [A, O] rfl).2 rfl
      have h : fD_parse_order [A, O] = .err c := h
      have l : eqD (nD 2) (.int 0) = some false := rfl
      simp [B__law_refused_0, l, cx, h]
  have t : tryS exsA 3 B__law_refused_0 H__law_refused_0 [.val (nD j), .val A, .val O, .no] = .ret (nD (if c = .windows then 0 else 1)) := by
    unfold tryS
    rw [hb]
    show (if c ∈ exsA then tryR 3 H__law_refused_0 c _ else .bad) = _
    rw [if_pos hm, s_handR c hc]
  simp [fD__law_refused, G__law_refused, t]
theorem f_win {A : D} (h : fD_are_windows [A] = .ok (.bl false)) (O : D) (j : Nat) (hj : j < 3) : g3 j A O = .err .windows := by
  rcases (by omega : j = 0 ∨ j = 1 ∨ j = 2) with rfl | rfl | rfl
  · show fD_format_windows _ = _; simp [fD_format_windows, G_format_windows, e_windows h]
  · show fD_format_order _ = _; simp [fD_format_order, G_format_order, e_both1 h]
  · show fD_parse_order _ = _; simp [fD_parse_order, G_parse_order, e_windows h]
theorem f_ord {ws : List Win} (hw : Wins ws) {O : D} (h : fD_has_order [wins ws, O] = .ok (.bl false)) : g3 1 (wins ws) O = .err .order := by
  show fD_format_order _ = _; simp [fD_format_order, G_format_order, e_both2 hw h]

/-! ### bent texts again -/
theorem sign_ok : ∀ n, n < 8 → (match ixSD (.str ",-; 0123") (.int ((n : Nat) : Int)) with
  | some (.str s) => decide (s.length ≤ 1) && PyData.strOk s
  | _ => false) = true := by decide +kernel
theorem sign_at {v : Int} (h0 : 0 ≤ v) (h1 : v < 8) : ∃ s : Str, ixSD (.str ",-; 0123") (.int v) = some (.str s) ∧ s.length ≤ 1 ∧ SOk s := by
  obtain ⟨n, rfl⟩ : ∃ n : Nat, v = n := ⟨v.toNat, by omega⟩
  have := sign_ok n (by omega)
  cases h : ixSD (.str ",-; 0123") (.int ((n : Nat) : Int)) with
  | none => rw [h] at this; cases this
  | some d =>
    rw [h] at this
    cases d with
    | str s =>
      simp only [Bool.and_eq_true, decide_eq_true_eq] at this
      exact ⟨s, rfl, this.1, this.2⟩
    | _ => cases this
theorem not_in_res {x : Str} (hs : SOk x) (b : Bool) : notInD (if b = true then .str x else .non) (.tup [.non, .str x]) = some false := by
  cases b with
  | true =>
    have e := eqD_str hs hs
    rw [decide_eq_true rfl] at e
    unfold eqD at e
    have e2 : PyData.eqv (D.str x).toPy (D.str x).toPy = true := by
      split at e
      · exact Option.some.inj e
      · cases e
    have h : inD (.str x) (.tup [.non, .str x]) = some (PyData.eqv D.non.toPy (D.str x).toPy || (PyData.eqv (D.str x).toPy (D.str x).toPy || false)) := rfl
    rw [if_pos rfl]
    unfold notInD
    rw [h, e2]
    simp
  | false => rfl
theorem bent_loop {ns : List Int} (h63 : ns.length ≤ 63) {x : Str} (hx : x.length ≤ 200) (hs : SOk x) (s1 s2 s4 s5 s7 s8 s9 s10 s11 s12 s13 s14 : Sl) :
    ∃ t3 t7 t8 t9 t12 t13 : Sl, forL (.nm 3) B_law_0 ((List.range 12).map nD) [.val (.scr ns), s1, s2, .no, s4, s5, .val (.str x), s7, s8, s9, s10, s11, s12, s13, s14] = .next [.val (.scr ns), s1, s2, t3, s4, s5, .val (.str x), t7, t8, t9, s10, s11, t12, t13, s14] := by
  obtain ⟨e', h1, t3, t7, t8, t9, t12, t13, rfl⟩ := forL_ind (p := .nm 3) (G := B_law_0) (enc := nD) (xs := List.range 12) (e := [.val (.scr ns), s1, s2, .no, s4, s5, .val (.str x), s7, s8, s9, s10, s11, s12, s13, s14])
    (fun _ e => ∃ t3 t7 t8 t9 t12 t13 : Sl, e = [.val (.scr ns), s1, s2, t3, s4, s5, .val (.str x), t7, t8, t9, s10, s11, t12, t13, s14]) ⟨_, _, _, _, _, _, rfl⟩ (by
      rintro pre k suf hq e ⟨t3, t7, t8, t9, t12, t13, rfl⟩
      have hk : k < 12 := List.mem_range.mp (by rw [hq]; simp)
      have m4 : mulD (.int 4) (nD k) = some (.int (4 * k)) := u_mulL 4 k (by omega) (by omega)
      obtain ⟨p, p0, p1, p2⟩ := s_drawn h63 (k := 60 + 4 * (k : Int)) (m := (x.length : Int) + 1) (by omega) (by omega)
      obtain ⟨v, v0, v1, v2⟩ := s_drawn h63 (k := 60 + 4 * (k : Int) + 1) (m := 8) (by omega) (by omega)
      obtain ⟨c, c0, c1, c2⟩ := s_drawn h63 (k := 60 + 4 * (k : Int) + 2) (m := 3) (by omega) (by omega)
      obtain ⟨d, d0, d1, d2⟩ := s_drawn h63 (k := 60 + 4 * (k : Int) + 3) (m := 2) (by omega) (by omega)
      obtain ⟨sg, g0, g1, g2⟩ := sign_at v1 v2
      have hsz : x.length ≤ sizeLine := Nat.le_trans hx (by decide)
      have ls : lenSD [.str x] = some (.int x.length) := if_pos hsz
      have q1 : cutSD (.str x) none (some p) = some (.str (Txt.slice x none (some p))) := if_pos hsz
      have q2 : cutSD (.str x) (some (p + d)) none = some (.str (Txt.slice x (some (p + d)) none)) := if_pos hsz
      have l1 := (slice_ok (z := x) none (some p)).1
      have l2 := (slice_ok (z := x) (some (p + d)) none).1
      have o1 := (slice_ok (z := x) none (some p)).2 hs
      have o2 := (slice_ok (z := x) (some (p + d)) none).2 hs
      generalize Txt.slice x none (some p) = A at *
      generalize Txt.slice x (some (p + d)) none = B at *
      have fin : ∀ nw : Str, nw.length ≤ 1 → SOk nw → ∃ bt : Str, bt = A ++ nw ++ B ∧ addD (.str A) (.str nw) = some (.str (A ++ nw)) ∧ addD (.str (A ++ nw)) (.str B) = some (.str bt) ∧ ∃ b : Bool, fD__law_again [.non, .str bt] = .ok (if b = true then .str bt else .non) ∧ notInD (if b = true then .str bt else .non) (.tup [.non, .str bt]) = some false := fun nw hn ho => by
        have la := app_len A nw
        have lb := app_len (A ++ nw) B
        have hb : SOk (A ++ nw ++ B) := sok_app (sok_app o1 ho) o2
        exact ⟨_, rfl, str_small (by omega), str_small (by omega), _, s_againW (by omega) hb, not_in_res hb _⟩
      by_cases hc : c = 0
      · obtain ⟨bt, _, a1, a2, b, r1, r2⟩ := fin "" (by decide +kernel) (by decide +kernel)
        refine ⟨_, rfl, [.val (.scr ns), s1, s2, .val (nD k), s4, s5, .val (.str x), .val (.int (60 + 4 * k)), .val (.str ""), .val (.str bt), s10, s11, .val (.int p), .val (.str sg), s14], .inl ?_, _, _, _, _, _, _, rfl⟩
        clear fin
        unfold B_law_0
        generalize D.str x = X at *
        generalize D.str A = DA at *
        generalize D.str B = DB at *
        generalize D.str (A ++ "") = DAN at *
        generalize D.str bt = DT at *
        generalize D.str sg = DS at *
        generalize D.str "" = DE at *
        generalize D.str ",-; 0123" = DC at *
        simp [setPar, sliceSF, m4, ls, p0, v0, c0, d0, g0, hc, q1, q2, a1, a2, r1, r2]
      · obtain ⟨bt, _, a1, a2, b, r1, r2⟩ := fin sg g1 g2
        refine ⟨_, rfl, [.val (.scr ns), s1, s2, .val (nD k), s4, s5, .val (.str x), .val (.int (60 + 4 * k)), .val (.str sg), .val (.str bt), s10, s11, .val (.int p), .val (.str sg), s14], .inl ?_, _, _, _, _, _, _, rfl⟩
        clear fin
        unfold B_law_0
        generalize D.str x = X at *
        generalize D.str A = DA at *
        generalize D.str B = DB at *
        generalize D.str (A ++ sg) = DAN at *
        generalize D.str bt = DT at *
        generalize D.str sg = DS at *
        generalize D.str "" = DE at *
        generalize D.str ",-; 0123" = DC at *
        simp [setPar, sliceSF, m4, ls, p0, v0, c0, d0, g0, hc, q1, q2, a1, a2, r1, r2])
  exact ⟨_, _, _, _, _, _, h1⟩

theorem pl_wins (ws : List Win) : plD 2 (wins ws) = true := pl_tup fun d hd => by
  obtain ⟨c, _, rfl⟩ := List.mem_map.mp hd; simp
theorem lc_known {os : List Nat} (h : ∀ i ∈ os, i ≤ 12) (b0 b1 b2 b3 b4 b5 b6 b7 b8 b9 b10 b11 b12 b13 b14 : Sl) : lcL (.nm 14) [14] yesF (appL strID (consF (getB 14) nilF)) (os.map nD) [b0, b1, b2, b3, b4, b5, b6, b7, b8, b9, b10, b11, b12, b13, b14] = .ok (os.map fun i : Nat => D.str (sN ((i : Nat) : Int))) :=
  lcL_all (fun i : Nat => D.str (sN ((i : Nat) : Int))) fun i hi => ⟨_, rfl, by
    have := strI (i := ((i : Nat) : Int)) (by omega) (by have := h i hi; omega)
    have this : strID [nD i] = some (.str (sN ((i : Nat) : Int))) := this
    generalize D.str (sN ((i : Nat) : Int)) = S at *
    generalize nD i = II at *
    simp [this]⟩
theorem law_true (ns : List Int) (h63 : ns.length ≤ 63) : fD_law [.scr ns] = .ok (.bl true) := by
  obtain ⟨ws, hw, hm, hp, _⟩ := s_windows2 h63 (k := 10) (most := 6) (by omega) (by omega)
  have hl : ws.length ≤ 6 := by omega
  have lw : lenD [wins ws] = some (nD ws.length) := len_wins ws
  obtain ⟨os, ho, hos⟩ := s_order2 h63 (k := 50) (by omega) (n := ws.length) (by omega)
  have ol := ho.length_eq
  rw [List.length_range] at ol
  have hb : ∀ i ∈ os, i ≤ 12 := fun i hi => by have := ho.lt hi; omega
  have tx := s_law_text hw
  have fw := s_format_windows hw
  have pw := s_parse_txt hw
  have fo := s_format_order hw ho
  have po := s_parse_otx hw ho
  have rj := s_rejected
  have n1 := neD_str (sok_txt hw) (sok_txt hw)
  rw [decide_eq_true rfl] at n1
  have n2 := neD_str (sok_otx hb) (sok_otx hb)
  rw [decide_eq_true rfl] at n2
  have n3 := neD_self (pl_64 (pl_wins ws))
  have n4 := neD_self (pl_64 (pl_natsT os))
  have sq : asSeq (natsT os) = some (os.map nD) := rfl
  have jo := join_otx hb (by omega)
  have lk := lc_known hb
  have ms : ∀ b0 b1 b2 b3 b4 b6 b7 b8 b9 b10 b11 b12 b13 b14 : Sl, metS joinD (cst (.str "<")) (mkL (lcF (.nm 14) [14] yesF (appL strID (consF (getB 14) nilF)) (seqF (getV 5)))) [b0, b1, b2, b3, b4, .val (natsT os), b6, b7, b8, b9, b10, b11, b12, b13, b14] = .ok (.str (otx os)) := fun b0 b1 b2 b3 b4 b6 b7 b8 b9 b10 b11 b12 b13 b14 => by
    generalize (os.map fun i : Nat => D.str (sN ((i : Nat) : Int))) = SL at *
    generalize os.map nD = OL at *
    generalize natsT os = O at *
    generalize otx os = OT at *
    unfold metS
    simp [sq, lk, jo]
  have rn : asRng1 [.int 12] = some ((List.range 12).map nD) := asRng1_nat (n := 12) (by omega)
  obtain ⟨bw, w0, w1⟩ := s_badwindows h63 (k := 1) (by omega)
  obtain ⟨bo, o0, o1⟩ := s_badorder h63 (k := 2) (by omega) ho hl
  have r0 : fD__law_refused [.int 0, bw, .int 0] = .ok (.int 0) := s_refused (j := 0) (by omega) (f_win w1 (.int 0) 0 (by omega)) (.inl rfl)
  have r1 : fD__law_refused [.int 1, bw, bo] = .ok (.int 0) := s_refused (j := 1) (by omega) (f_win w1 bo 1 (by omega)) (.inl rfl)
  have r2 : fD__law_refused [.int 2, bw, .str "x"] = .ok (.int 0) := s_refused (j := 2) (by omega) (f_win w1 (.str "x") 2 (by omega)) (.inl rfl)
  have r3 : fD__law_refused [.int 1, wins ws, bo] = .ok (.int 1) := s_refused (j := 1) (by omega) (f_ord hw o1) (.inr rfl)
  obtain ⟨t3, t7, t8, t9, t12, t13, gl⟩ := bent_loop h63 (txt_len hw) (sok_txt hw) (.val (wins ws)) (.val (.str (otx os))) .no (.val (natsT os)) .no .no .no .no .no .no .no .no
  have c1 : catD (.lst [.int 0, .int 0]) (.lst [.int 0, .int 1]) = some [.int 0, .int 0, .int 0, .int 1] := rfl
  have e1 : eqD (.lst [.int 0, .int 0, .int 0, .int 1]) (.lst [.int 0, .int 0, .int 0, .int 1]) = some true := rfl
  unfold fD_law G_law
  generalize metS joinD _ _ = MS at *
  generalize B_law_0 = BL at *
  generalize (List.range 12).map nD = R12 at *
  generalize D.str (otx os) = OT at *
  generalize D.str (txt ws) = TX at *
  generalize D.str "x" = SX at *
  generalize natsT os = O at *
  generalize wins ws = W at *
  simp [setPar, lw, hp, hos, tx, fw, pw, fo, po, rj, n1, n2, n3, n4, ms, rn, gl, w0, o0, r0, r1, r2, r3, c1, e1]

end PD

set_option maxHeartbeats 0
namespace Hd
open PySem PySem.Spec PyProof.Rows L2 PD
abbrev cls (K : PySem.W.Frag) : Exc → Addr := clsK K
theorem facts {P : Program} {w : World} {K : PySem.W.Frag} {h : Heap} {mg : Str → Option Value} {f : Addr} (X : K.In h) (G : h.Ns mainGlobals mg) (hfa : mg ("law" : Str) = some (.ref f)) (c : He.SaysD fa fn K) (ce : excOk exsA K = true) :
    ∃ fd : FuncData, (∀ (s : Shared) (v : Value), BindsTo s fd ⟨[v], []⟩ [("_law_script", v)]) ∧ ∀ base : Heap, K.In base → base.Ns mainGlobals mg → FnOk P w K mg base (L2.CX P w) 8 f fd ["_law_script"] (spD K (cls K) 1 fD_law) := by
  obtain ⟨fd_is_int, F_is_int⟩ := c.def_ 0 (d := mk "is_int" (top 8)) rfl
  obtain ⟨fd_join_windows, F_join_windows⟩ := c.def_ 7 (d := mk "join_windows" (top 22)) rfl
  obtain ⟨fd_read_number, F_read_number⟩ := c.def_ 9 (d := mk "read_number" (top 24)) rfl
  obtain ⟨fd_join_order, F_join_order⟩ := c.def_ 12 (d := mk "join_order" (top 27)) rfl
  obtain ⟨fd__law_drawn, F__law_drawn⟩ := c.def_ 15 (d := mk "_law_drawn" (top 31)) rfl
  obtain ⟨fd__law_text, F__law_text⟩ := c.def_ 21 (d := mk "_law_text" (top 37)) rfl
  obtain ⟨fd_is_window, F_is_window⟩ := c.def_ 1 (d := mk "is_window" (top 9)) rfl
  obtain ⟨fd_has_order, F_has_order⟩ := c.def_ 3 (d := mk "has_order" (top 11)) rfl
  obtain ⟨fd_read_window, F_read_window⟩ := c.def_ 10 (d := mk "read_window" (top 25)) rfl
  obtain ⟨fd__law_window, F__law_window⟩ := c.def_ 16 (d := mk "_law_window" (top 32)) rfl
  obtain ⟨fd__law_order, F__law_order⟩ := c.def_ 18 (d := mk "_law_order" (top 34)) rfl
  obtain ⟨fd__law_badwindows, F__law_badwindows⟩ := c.def_ 19 (d := mk "_law_badwindows" (top 35)) rfl
  obtain ⟨fd__law_badorder, F__law_badorder⟩ := c.def_ 20 (d := mk "_law_badorder" (top 36)) rfl
  obtain ⟨fd_are_windows, F_are_windows⟩ := c.def_ 2 (d := mk "are_windows" (top 10)) rfl
  obtain ⟨fd_check_order, F_check_order⟩ := c.def_ 5 (d := mk "check_order" (top 13)) rfl
  obtain ⟨fd__law_windows, F__law_windows⟩ := c.def_ 17 (d := mk "_law_windows" (top 33)) rfl
  obtain ⟨fd_check_windows, F_check_windows⟩ := c.def_ 4 (d := mk "check_windows" (top 12)) rfl
  obtain ⟨fd_parse_windows, F_parse_windows⟩ := c.def_ 11 (d := mk "parse_windows" (top 26)) rfl
  obtain ⟨fd_check_both, F_check_both⟩ := c.def_ 6 (d := mk "check_both" (top 14)) rfl
  obtain ⟨fd_format_windows, F_format_windows⟩ := c.def_ 8 (d := mk "format_windows" (top 23)) rfl
  obtain ⟨fd_parse_order, F_parse_order⟩ := c.def_ 14 (d := mk "parse_order" (top 29)) rfl
  obtain ⟨fd_format_order, F_format_order⟩ := c.def_ 13 (d := mk "format_order" (top 28)) rfl
  obtain ⟨fd__law_again, F__law_again⟩ := c.def_ 22 (d := mk "_law_again" (top 38)) rfl
  obtain ⟨fd__law_rejected, F__law_rejected⟩ := c.def_ 23 (d := mk "_law_rejected" (top 39)) rfl
  obtain ⟨fd__law_refused, F__law_refused⟩ := c.def_ 24 (d := mk "_law_refused" (top 40)) rfl
  obtain ⟨fd_law, F_law⟩ := c.def_ 25 (d := mk "law" (top 41)) rfl
  have e := hfa.symm.trans (He.glo_ok X G (c.fact 40 (f := .glo "law") rfl))
  cases e
  have b := FunD.bindsA (ps := ["_law_script"]) F_law fun _ _ _ _ _ _ us hl => match us, hl with | [_], _ => rfl
  refine ⟨fd_law, fun s v => b s [v] rfl, fun base _ _ => ?_⟩
  have B : Bi mg := ⟨He.free_ok X G (c.fact 41 (f := .free "len") rfl), He.free_ok X G (c.fact 42 (f := .free "all") rfl), He.free_ok X G (c.fact 43 (f := .free "any") rfl), He.free_ok X G (c.fact 44 (f := .free "isinstance") rfl), He.free_ok X G (c.fact 45 (f := .free "tuple") rfl), He.free_ok X G (c.fact 46 (f := .free "list") rfl), He.free_ok X G (c.fact 47 (f := .free "range") rfl), He.free_ok X G (c.fact 48 (f := .free "sorted") rfl), He.free_ok X G (c.fact 49 (f := .free "enumerate") rfl), He.free_ok X G (c.fact 50 (f := .free "max") rfl), He.free_ok X G (c.fact 51 (f := .free "min") rfl), He.free_ok X G (c.fact 52 (f := .free "set") rfl), He.free_ok X G (c.fact 53 (f := .free "dict") rfl), He.free_ok X G (c.fact 54 (f := .free "zip") rfl), He.free_ok X G (c.fact 55 (f := .free "bool") rfl), He.free_ok X G (c.fact 56 (f := .free "int") rfl), He.free_ok X G (c.fact 57 (f := .free "abs") rfl), He.free_ok X G (c.fact 58 (f := .free "sum") rfl), He.free_ok X G (c.fact 59 (f := .free "str") rfl)⟩
  have c_BETWEEN : ∃ t, mg "BETWEEN" = some (.str "; " t) := He.str_ok X G (c.fact 20 (f := .str "BETWEEN" "; ") rfl)
  have c_COMMA : ∃ t, mg "COMMA" = some (.str "," t) := He.str_ok X G (c.fact 18 (f := .str "COMMA" ",") rfl)
  have c_DASH : ∃ t, mg "DASH" = some (.str "-" t) := He.str_ok X G (c.fact 19 (f := .str "DASH" "-") rfl)
  have c_DIGITS : ∃ t, mg "DIGITS" = some (.str "0123456789" t) := He.str_ok X G (c.fact 16 (f := .str "DIGITS" "0123456789") rfl)
  have c_LESS : ∃ t, mg "LESS" = some (.str "<" t) := He.str_ok X G (c.fact 21 (f := .str "LESS" "<") rfl)
  have c_MAX_DIGITS : ∃ t, mg "MAX_DIGITS" = some (.int 2 t) := He.int_ok X G (c.fact 17 (f := .int "MAX_DIGITS" 2) rfl)
  have c_MAX_WINDOWS : ∃ t, mg "MAX_WINDOWS" = some (.int 6 t) := He.int_ok X G (c.fact 8 (f := .int "MAX_WINDOWS" 6) rfl)
  have c_SCREEN : ∃ t, mg "SCREEN" = some (.int 12 t) := He.int_ok X G (c.fact 7 (f := .int "SCREEN" 12) rfl)
  have e_InvalidOrder : ExcAt K mg "InvalidOrder" (cls K .order) := have z := He.exc_ok (c.fact 4 (f := .exc "InvalidOrder") rfl); ⟨He.glo_ok X G (c.fact 3 (f := .glo "InvalidOrder") rfl), z.1, z.2.1, z.2.2.1, z.2.2.2⟩
  have e_InvalidWindows : ExcAt K mg "InvalidWindows" (cls K .windows) := have z := He.exc_ok (c.fact 2 (f := .exc "InvalidWindows") rfl); ⟨He.glo_ok X G (c.fact 1 (f := .glo "InvalidWindows") rfl), z.1, z.2.1, z.2.2.1, z.2.2.2⟩
  have e_ParseError : ExcAt K mg "ParseError" (cls K .parse) := have z := He.exc_ok (c.fact 6 (f := .exc "ParseError") rfl); ⟨He.glo_ok X G (c.fact 5 (f := .glo "ParseError") rfl), z.1, z.2.1, z.2.2.1, z.2.2.2⟩
  have g_is_int : Fn P w K mg base (cls K) 1 "is_int" 3 fD_is_int := ok_is_int B F_is_int (He.glo_ok X G (c.fact 9 (f := .glo "is_int") rfl))  
  have g_join_windows : Fn P w K mg base (cls K) 1 "join_windows" 1 fD_join_windows := ok_join_windows B F_join_windows (He.glo_ok X G (c.fact 22 (f := .glo "join_windows") rfl)) c_BETWEEN c_COMMA c_DASH 
  have g_read_number : Fn P w K mg base (cls K) 1 "read_number" 1 fD_read_number := ok_read_number B F_read_number (He.glo_ok X G (c.fact 24 (f := .glo "read_number") rfl)) c_DIGITS c_MAX_DIGITS 
  have g_join_order : Fn P w K mg base (cls K) 1 "join_order" 1 fD_join_order := ok_join_order B F_join_order (He.glo_ok X G (c.fact 27 (f := .glo "join_order") rfl)) c_LESS 
  have g__law_drawn : Fn P w K mg base (cls K) 1 "_law_drawn" 3 fD__law_drawn := ok__law_drawn B F__law_drawn (He.glo_ok X G (c.fact 30 (f := .glo "_law_drawn") rfl))  
  have g__law_text : Fn P w K mg base (cls K) 1 "_law_text" 1 fD__law_text := ok__law_text B F__law_text (He.glo_ok X G (c.fact 36 (f := .glo "_law_text") rfl))  
  have g_is_window : Fn P w K mg base (cls K) 2 "is_window" 1 fD_is_window := ok_is_window B F_is_window (He.glo_ok X G (c.fact 10 (f := .glo "is_window") rfl)) c_SCREEN g_is_int
  have g_has_order : Fn P w K mg base (cls K) 2 "has_order" 2 fD_has_order := ok_has_order B F_has_order (He.glo_ok X G (c.fact 12 (f := .glo "has_order") rfl))  g_is_int
  have g_read_window : Fn P w K mg base (cls K) 2 "read_window" 1 fD_read_window := ok_read_window B F_read_window (He.glo_ok X G (c.fact 25 (f := .glo "read_window") rfl)) c_COMMA c_DASH g_read_number
  have g__law_window : Fn P w K mg base (cls K) 2 "_law_window" 2 fD__law_window := ok__law_window B F__law_window (He.glo_ok X G (c.fact 31 (f := .glo "_law_window") rfl))  g__law_drawn
  have g__law_order : Fn P w K mg base (cls K) 2 "_law_order" 3 fD__law_order := ok__law_order B F__law_order (He.glo_ok X G (c.fact 33 (f := .glo "_law_order") rfl))  g__law_drawn
  have g__law_badwindows : Fn P w K mg base (cls K) 2 "_law_badwindows" 2 fD__law_badwindows := ok__law_badwindows B F__law_badwindows (He.glo_ok X G (c.fact 34 (f := .glo "_law_badwindows") rfl))  g__law_drawn
  have g__law_badorder : Fn P w K mg base (cls K) 2 "_law_badorder" 3 fD__law_badorder := ok__law_badorder B F__law_badorder (He.glo_ok X G (c.fact 35 (f := .glo "_law_badorder") rfl))  g__law_drawn
  have g_are_windows : Fn P w K mg base (cls K) 3 "are_windows" 1 fD_are_windows := ok_are_windows B F_are_windows (He.glo_ok X G (c.fact 11 (f := .glo "are_windows") rfl)) c_MAX_WINDOWS g_is_window
  have g_check_order : Fn P w K mg base (cls K) 3 "check_order" 2 fD_check_order := ok_check_order B F_check_order (He.glo_ok X G (c.fact 14 (f := .glo "check_order") rfl)) e_InvalidOrder g_has_order
  have g__law_windows : Fn P w K mg base (cls K) 3 "_law_windows" 3 fD__law_windows := ok__law_windows B F__law_windows (He.glo_ok X G (c.fact 32 (f := .glo "_law_windows") rfl))  g__law_drawn g__law_window
  have g_check_windows : Fn P w K mg base (cls K) 4 "check_windows" 1 fD_check_windows := ok_check_windows B F_check_windows (He.glo_ok X G (c.fact 13 (f := .glo "check_windows") rfl)) e_InvalidWindows g_are_windows
  have g_parse_windows : Fn P w K mg base (cls K) 4 "parse_windows" 1 fD_parse_windows := ok_parse_windows B F_parse_windows (He.glo_ok X G (c.fact 26 (f := .glo "parse_windows") rfl)) c_BETWEEN e_ParseError g_are_windows g_join_windows g_read_window
  have g_check_both : Fn P w K mg base (cls K) 5 "check_both" 2 fD_check_both := ok_check_both B F_check_both (He.glo_ok X G (c.fact 15 (f := .glo "check_both") rfl))  g_check_windows g_check_order
  have g_format_windows : Fn P w K mg base (cls K) 5 "format_windows" 1 fD_format_windows := ok_format_windows B F_format_windows (He.glo_ok X G (c.fact 23 (f := .glo "format_windows") rfl))  g_check_windows g_join_windows
  have g_parse_order : Fn P w K mg base (cls K) 5 "parse_order" 2 fD_parse_order := ok_parse_order B F_parse_order (He.glo_ok X G (c.fact 29 (f := .glo "parse_order") rfl)) c_LESS e_ParseError g_has_order g_check_windows g_read_number g_join_order
  have g_format_order : Fn P w K mg base (cls K) 6 "format_order" 2 fD_format_order := ok_format_order B F_format_order (He.glo_ok X G (c.fact 28 (f := .glo "format_order") rfl))  g_check_both g_join_order
  have g__law_again : Fn P w K mg base (cls K) 6 "_law_again" 2 fD__law_again := ok__law_again B F__law_again (He.glo_ok X G (c.fact 37 (f := .glo "_law_again") rfl))  (excF_of ce) (He.glo_ok X G (c.fact 0 (f := .glo "PaneError") rfl)) (He.glo_ok X G (c.fact 5 (f := .glo "ParseError") rfl)) g_parse_windows g_parse_order g__law_text
  have g__law_rejected : Fn P w K mg base (cls K) 7 "_law_rejected" 0 fD__law_rejected := ok__law_rejected B F__law_rejected (He.glo_ok X G (c.fact 38 (f := .glo "_law_rejected") rfl))  g_parse_order g__law_again
  have g__law_refused : Fn P w K mg base (cls K) 7 "_law_refused" 3 fD__law_refused := ok__law_refused B F__law_refused (He.glo_ok X G (c.fact 39 (f := .glo "_law_refused") rfl))  (excF_of ce) (He.glo_ok X G (c.fact 3 (f := .glo "InvalidOrder") rfl)) (He.glo_ok X G (c.fact 1 (f := .glo "InvalidWindows") rfl)) (He.glo_ok X G (c.fact 0 (f := .glo "PaneError") rfl)) (He.glo_ok X G (c.fact 5 (f := .glo "ParseError") rfl)) g_format_windows g_format_order g_parse_order
  exact ok_law (cls := cls K) B F_law  g_format_windows g_parse_windows g_format_order g_parse_order g__law_drawn g__law_windows g__law_order g__law_badwindows g__law_badorder g__law_text g__law_again g__law_rejected g__law_refused
end Hd
open PySem PySem.W PySem.Calls PyProof.Rows
theorem PySem.Challenge.cw_panestacks_k68_formats_holds : PySem.Challenge.rw_panestacks_k68_formats.Holds := by
  w_on; o_law
  refine HandSHeadRun.head_any (r := OpenLaw.row PySem.Challenge.rw_panestacks_k68_formats) (q := view (OpenLaw.row PySem.Challenge.rw_panestacks_k68_formats).prog [41]) (H := Hd.hk) (ob := Hd.ob) (M := 4000) (loose := Hd.nms) (d := HandSHeadRun.topDef (OpenLaw.row PySem.Challenge.rw_panestacks_k68_formats).prog 41) (kwd := []) Hd.ob_eq
    (by kernel_rfl) (fun s => by kernel_rfl) Hd.run (by kernel_rfl) (by kernel_rfl) (by kernel_rfl) (by rfl) (by first | assumption | decide +kernel) (by decide +kernel) ⟨rfl, rfl, rfl, rfl, rfl, by decide +kernel⟩ ?hw ?hc
  case hw => w_witness2
  case hc =>
    refine PD.walk_ofX (l := PySem.Challenge.rw_panestacks_k68_formats) (n := 63) (k := 8) (x := "_law_script") (CX := fun w => L2.CX (PySem.Challenge.rw_panestacks_k68_formats).prog w) rfl (by decide) (by kernel_rfl) ⟨rfl, by decide, by decide⟩ ?F (fun w H s e s' h => by obtain ⟨_, _, _, _, _, _, _, _, _, _, _, _, z⟩ := h; exact z)
    intro w mg fa h Y G hmg0
    obtain ⟨K, KX, c, ce⟩ := Y
    have hmg : mg ("law" : PySem.Str) = some (.ref fa) := by
      have e : (HandSHeadRun.topDef (OpenLaw.row PySem.Challenge.rw_panestacks_k68_formats).prog 41).name = ("law" : PySem.Str) := by kernel_rfl
      rw [← e]
      exact hmg0
    obtain ⟨fd, hb, hF⟩ := Hd.facts (P := (PySem.Challenge.rw_panestacks_k68_formats).prog) (w := w) KX G hmg c ce
    exact ⟨K, fd, PD.spD K (Hd.cls K) 1 PD.fD_law, KX, hb, fun H a ns hl _ hS => PD.law_sp PD.law_true hl hS, hF⟩
