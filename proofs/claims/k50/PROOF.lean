import PyProof.Rows.All
import Wide.All
import OpenK.AllK
import Wide.FinOn
import HandS.ForMost
import HandS.Walk
import HandS.AnyAll
import HandS.Lambda
import HandS.TupAny
import HandS.Style
import HandS.TupMul
import HandS.IsInst
import HandS.Wide
import KE.DataEq
import KE.DataCmp
import HandS.Codes
import HandS.Defaults
import HandS.CallLocal
import HandS.HeadHook4
import HandS.HeadWalk
import HandS.GenOver
import HandS.Conv
import KE.DataMinMax
import KE.SortKeyHeap
import KE.KSortKey
import KE.KLam
import HandS.Head0
import HandS.Head1
import HandS.Head2
import HandS.HeadEnd
import HandS.HeadHook1
import HandS.HeadHook2
import HandS.HeadHook3
import HandS.EndTab
import HandS.Deep
import HandS.Strs
import HandS.SetFor
import HandS.TupSets
import KE.GoesMore
import HandS.Iter
import HandS.Zip0
import HandS.SortInts
import HandS.ListItems
import HandS.DictTup
import HandS.SortRule
import HandS.NoneIn
import PySem.Challenge.RW_backtohand_k50_whole_worths_and_rents
set_option Elab.async false
set_option linter.all false
set_option maxRecDepth 100000
set_option maxHeartbeats 4000000
set_option autoImplicit false
/-! PD: pure denotations over the layer. -/
namespace PD
open PySem PySem.Spec PyProof.Rows L2

/-- a Python value: tuples as such, what can change by its place in the store -/
inductive PV where
  | non | bl (b : Bool) | int (i : Int) | str (s : Str) | tup (l : List PV) | loc (n : Nat) | fn (j : Nat) | kl (ns : List Int)
/-- what can change -/
inductive Ob where
  | lst (lk : Bool) (l : List PV)
  | dct (lk : Bool) (kvs : List (PV × PV))
  | sti (l : List Int)
abbrev Sto := List Ob
inductive Res (α : Type) where
  | ok (a : α) (st : Sto) | exc (c : Nat) (st : Sto) | stuck
abbrev Mo (α : Type) := Sto → Res α
def ret {α : Type} (a : α) : Mo α := fun st => .ok a st
def bnd {α β : Type} (m : Mo α) (f : α → Mo β) : Mo β := fun st => match m st with
  | .ok a st' => f a st'
  | .exc c st' => .exc c st'
  | .stuck => .stuck
def fail {α : Type} : Mo α := fun _ => .stuck
abbrev Env := List (Option PV)

/-- what is fixed through a law -/
structure Wd where
  K : PySem.W.Frag
  mg : Str → Option Value
  cx : CXT
  fa : Nat → Option Addr
  xc : Nat → Value
  tb : List Addr
  tl : List (Addr × Str)

mutual
inductive RV (W : Wd) (ι : List Addr) (H : Hp) : V → PV → Prop
  | non : RV W ι H .non .non
  | bl (b : Bool) : RV W ι H (.bl b) (.bl b)
  | int (i : Int) : RV W ι H (.int i) (.int i)
  | str (s : Str) : RV W ι H (.str s) (.str s)
  | tup {a : Addr} {vs : List V} {ps : List PV} : SqT W.K H a vs → RVs W ι H vs ps → ps.length ≤ 16777216 → RV W ι H (.ref a) (.tup ps)
  | loc {n : Nat} {a : Addr} : ι[n]? = some a → RV W ι H (.ref a) (.loc n)
  | fn {j : Nat} {a : Addr} : W.fa j = some a → RV W ι H (.ref a) (.fn j)
  | kl {a : Addr} {ns : List Int} : (∃ (o : Obj) (its : Array Value) (n : Nat), W.K.lookup a = some o ∧ o.cls = .type "list" ∧ o.dict = none ∧ o.data = .seq its n ∧ its.size ≤ sizeLine ∧ Vals (ns.map V.int) its.toList) → ns.length ≤ 16777216 → RV W ι H (.ref a) (.kl ns)
inductive RVs (W : Wd) (ι : List Addr) (H : Hp) : List V → List PV → Prop
  | nil : RVs W ι H [] []
  | cons {v : V} {p : PV} {vs : List V} {ps : List PV} : RV W ι H v p → RVs W ι H vs ps → RVs W ι H (v :: vs) (p :: ps)
end
def kP : Key → PV
  | .inl i => .int i
  | .inr s => .str s
inductive RKs (W : Wd) (ι : List Addr) (H : Hp) : List (Key × V) → List (PV × PV) → Prop
  | nil : RKs W ι H [] []
  | cons {k : Key} {v : V} {p : PV} {vs : List (Key × V)} {ps : List (PV × PV)} : RV W ι H v p → RKs W ι H vs ps → RKs W ι H ((k, v) :: vs) ((kP k, p) :: ps)
def RO (W : Wd) (ι : List Addr) (H : Hp) (a : Addr) : Ob → Prop
  | .lst false l => ∃ vs, H a = some (.lst vs) ∧ RVs W ι H vs l ∧ l.length ≤ 16777216
  | .lst true l => ∃ o vs, H a = some (.frz o (.lst vs)) ∧ RVs W ι H vs l ∧ l.length ≤ 16777216
  | .dct false l => ∃ ks, H a = some (.dK ks) ∧ RKs W ι H ks l
  | .dct true l => ∃ o ks, H a = some (.frz o (.dK ks)) ∧ RKs W ι H ks l
  | .sti l => ∃ S, H a = some (.set S l.length) ∧ l.Nodup ∧ ∀ i, S i = true ↔ i ∈ l
/-- an object that the store does not tell stays, but for the tables of code -/
def Kp (o o' : HO) : Prop := o' = o ∨ ∃ ps more, o = .tbl ps ∧ o' = .tbl (ps ++ more) ∧ (TriplesOk ps.toList → TriplesOk (ps ++ more).toList)
theorem Kp.refl (o : HO) : Kp o o := .inl rfl
theorem Kp.trans {o o1 o2 : HO} (a : Kp o o1) (b : Kp o1 o2) : Kp o o2 := by
  rcases a with rfl | ⟨ps, m, rfl, rfl, t⟩
  · exact b
  · rcases b with rfl | ⟨ps', m', e, rfl, t'⟩
    · exact .inr ⟨ps, m, rfl, rfl, t⟩
    · cases e
      exact .inr ⟨ps, m ++ m', rfl, by rw [Array.append_assoc], fun z => by rw [← Array.append_assoc]; exact t' (t z)⟩
structure Mono (ι : List Addr) (H : Hp) (ι' : List Addr) (H' : Hp) : Prop where
  pre : ∀ (n : Nat) (a : Addr), ι[n]? = some a → ι'[n]? = some a
  fresh : ∀ a : Addr, a ∈ ι' → a ∉ ι → H a = none
  keep : ∀ (a : Addr) (o : HO), H a = some o → a ∉ ι → ∃ o', H' a = some o' ∧ Kp o o'
structure RS (W : Wd) (ι : List Addr) (st : Sto) (H : Hp) : Prop where
  len : ι.length = st.length
  nd : ι.Nodup
  ob : ∀ (n : Nat) (o : Ob) (a : Addr), st[n]? = some o → ι[n]? = some a → RO W ι H a o
  tb : ∀ P ∈ W.tb, GxR.TabG H P
  tl : LamX.Tabs W.tl H

section
variable {W : Wd} {ι ι' ι1 ι2 : List Addr} {H H' H1 H2 : Hp} {st st' st1 : Sto}
theorem Mono.refl : Mono ι H ι H := ⟨fun _ _ h => h, fun _ h n => absurd h n, fun _ o h _ => ⟨o, h, Kp.refl o⟩⟩
theorem Mono.trans (a : Mono ι H ι1 H1) (b : Mono ι1 H1 ι2 H2) : Mono ι H ι2 H2 := by
  have key : ∀ x ∈ ι2, x ∉ ι → H x = none := fun x hx hn => by
    by_cases h1 : x ∈ ι1
    · exact a.fresh x h1 hn
    · have e := b.fresh x hx h1
      cases q : H x with
      | none => rfl
      | some o =>
        obtain ⟨o', e', _⟩ := a.keep x o q hn
        rw [e] at e'
        cases e'
  refine ⟨fun n x h => b.pre n x (a.pre n x h), key, fun x o h hn => ?_⟩
  obtain ⟨o1, e1, k1⟩ := a.keep x o h hn
  have h1 : x ∉ ι1 := fun z => by
    rw [a.fresh x z hn] at h
    cases h
  obtain ⟨o2, e2, k2⟩ := b.keep x o1 e1 h1
  exact ⟨o2, e2, k1.trans k2⟩
theorem Mono.new {p : Addr} {o : HO} (hp : H p = none) : Mono ι H ι (upd H p o) :=
  ⟨fun _ _ h => h, fun _ h n => absurd h n, fun a u h _ => ⟨u, (upd_ne (ne_of_none h hp)).trans h, Kp.refl u⟩⟩
theorem Mono.mut {p : Addr} {o : HO} (hp : p ∈ ι) : Mono ι H ι (upd H p o) :=
  ⟨fun _ _ h => h, fun _ h n => absurd h n, fun a u h hn => ⟨u, (upd_ne (fun z => hn (by rw [z]; exact hp))).trans h, Kp.refl u⟩⟩

theorem RS.at_ (R : RS W ι st H) {a : Addr} (ha : a ∈ ι) : ∃ (n : Nat) (o : Ob), st[n]? = some o ∧ ι[n]? = some a ∧ RO W ι H a o := by
  obtain ⟨n, hn, e⟩ := List.getElem_of_mem ha
  have h1 : ι[n]? = some a := by rw [List.getElem?_eq_getElem hn, e]
  have h2 : n < st.length := by rw [← R.len]; exact hn
  exact ⟨n, st[n], List.getElem?_eq_getElem h2, h1, R.ob n _ a (List.getElem?_eq_getElem h2) h1⟩
theorem RS.addr (R : RS W ι st H) {n : Nat} {o : Ob} (h : st[n]? = some o) : ∃ a, ι[n]? = some a ∧ RO W ι H a o := by
  have hn : n < ι.length := by rw [R.len]; exact (List.getElem?_eq_some_iff.mp h).1
  exact ⟨ι[n], List.getElem?_eq_getElem hn, R.ob n o _ h (List.getElem?_eq_getElem hn)⟩
def Plain0 (u : HO) : Prop := (∀ xs, u ≠ .tup xs) ∧ (∀ b xs, u ≠ .frz b (.tup xs)) ∧ (∀ ps, u ≠ .tbl ps) ∧ ∀ φ, u ≠ .ext φ
theorem RO.there {a : Addr} {o : Ob} (h : RO W ι H a o) : ∃ u, H a = some u ∧ Plain0 u := by
  cases o with
  | lst lk l =>
    cases lk with
    | false => obtain ⟨vs, e, _⟩ := h; exact ⟨_, e, fun _ z => (by cases z), fun _ _ z => (by cases z), fun _ z => (by cases z), fun _ z => (by cases z)⟩
    | true =>
      obtain ⟨b, vs, e, _⟩ := h
      exact ⟨_, e, fun _ z => (by cases z), fun b xs z => (by injection z with _ z2; cases z2), fun _ z => (by cases z), fun _ z => (by cases z)⟩
  | dct lk l =>
    cases lk with
    | false => obtain ⟨vs, e, _⟩ := h; exact ⟨_, e, fun _ z => (by cases z), fun _ _ z => (by cases z), fun _ z => (by cases z), fun _ z => (by cases z)⟩
    | true =>
      obtain ⟨b, vs, e, _⟩ := h
      exact ⟨_, e, fun _ z => (by cases z), fun b xs z => (by injection z with _ z2; cases z2), fun _ z => (by cases z), fun _ z => (by cases z)⟩
  | sti l => obtain ⟨S, e, _⟩ := h; exact ⟨_, e, fun _ z => (by cases z), fun _ _ z => (by cases z), fun _ z => (by cases z), fun _ z => (by cases z)⟩
/-- the tables of lambdas stay when nothing of them is touched -/
theorem tl_keep {T : List (Addr × Str)} (t : LamX.Tabs T H) (k : ∀ b o, H b = some o → ((∃ ps, o = .tbl ps) ∨ ∃ φ, o = .ext φ) → H' b = some o) : LamX.Tabs T H' := fun p hp => by
  obtain ⟨ps, h1, h2, h3⟩ := t p hp
  refine ⟨ps, k _ _ h1 (.inl ⟨ps, rfl⟩), h2, fun pos cv hc => ?_⟩
  obtain ⟨c, e1, e2⟩ := h3 pos cv hc
  exact ⟨c, e1, k _ _ e2 (.inr ⟨_, rfl⟩)⟩
theorem tl_upd {T : List (Addr × Str)} {a : Addr} {u : HO} (t : LamX.Tabs T H) (h : ∀ o, H a = some o → Plain0 o) : LamX.Tabs T (L2.upd H a u) := tl_keep t fun b o e k => (upd_ne fun z => by
  rw [z] at e
  obtain ⟨_, _, h3, h4⟩ := h o e
  rcases k with ⟨ps, rfl⟩ | ⟨φ, rfl⟩
  · exact h3 _ rfl
  · exact h4 _ rfl).trans e
theorem RS.notTup (R : RS W ι st H) {a : Addr} {xs : List V} (h : Rd H a (.tup xs)) : a ∉ ι := fun ha => by
  obtain ⟨n, o, _, _, r⟩ := R.at_ ha
  obtain ⟨u, e, h1, h2, _⟩ := r.there
  rcases h with h | ⟨b, h⟩
  · rw [h] at e; cases e; exact h1 _ rfl
  · rw [h] at e; cases e; exact h2 _ _ rfl
theorem RS.notTab (R : RS W ι st H) {P : Addr} (hP : P ∈ W.tb) : P ∉ ι := fun ha => by
  obtain ⟨ps, e, _⟩ := R.tb P hP
  obtain ⟨n, o, _, _, r⟩ := R.at_ ha
  obtain ⟨u, e2, _, _, h3, _⟩ := r.there
  rw [e] at e2; cases e2; exact h3 _ rfl
theorem tab_mono (R : RS W ι st H) (m : Mono ι H ι' H') : ∀ P ∈ W.tb, GxR.TabG H' P := fun P hP => by
  obtain ⟨ps, e, t⟩ := R.tb P hP
  obtain ⟨o', e', k⟩ := m.keep P _ e (R.notTab hP)
  rcases k with rfl | ⟨ps', more, z, rfl, t'⟩
  · exact ⟨ps, e', t⟩
  · cases z
    exact ⟨_, e', t' t⟩
theorem sqt_mono (R : RS W ι st H) (m : Mono ι H ι' H') {a : Addr} {xs : List V} (h : SqT W.K H a xs) : SqT W.K H' a xs := by
  rcases h with h | h
  · have hn := R.notTup h
    rcases h with h | ⟨b, h⟩
    · obtain ⟨o', e, k⟩ := m.keep a _ h hn
      rcases k with rfl | ⟨_, _, z, _, _⟩
      · exact .inl (.inl e)
      · cases z
    · obtain ⟨o', e, k⟩ := m.keep a _ h hn
      rcases k with rfl | ⟨_, _, z, _, _⟩
      · exact .inl (.inr ⟨b, e⟩)
      · cases z
  · exact .inr h
mutual
theorem rv_mono (R : RS W ι st H) (m : Mono ι H ι' H') : ∀ (p : PV) (v : V), RV W ι H v p → RV W ι' H' v p
  | .non, _, .non => .non
  | .bl _, _, .bl _ => .bl _
  | .int _, _, .int _ => .int _
  | .str _, _, .str _ => .str _
  | .tup ps, _, .tup h r z => .tup (sqt_mono R m h) (rvs_mono R m ps _ r) z
  | .loc _, _, .loc h => .loc (m.pre _ _ h)
  | .fn _, _, .fn h => .fn h
  | .kl _, _, .kl h z => .kl h z
theorem rvs_mono (R : RS W ι st H) (m : Mono ι H ι' H') : ∀ (ps : List PV) (vs : List V), RVs W ι H vs ps → RVs W ι' H' vs ps
  | [], _, .nil => .nil
  | p :: ps, _, .cons h r => .cons (rv_mono R m p _ h) (rvs_mono R m ps _ r)
end
theorem rks_mono (R : RS W ι st H) (m : Mono ι H ι' H') : ∀ {ps : List (PV × PV)} {vs : List (Key × V)}, RKs W ι H vs ps → RKs W ι' H' vs ps
  | _, _, .nil => .nil
  | _, _, .cons h r => .cons (rv_mono R m _ _ h) (rks_mono R m r)
mutual
theorem rv_pre (m : ∀ (n : Nat) (a : Addr), ι[n]? = some a → ι'[n]? = some a) : ∀ (p : PV) (v : V), RV W ι H v p → RV W ι' H v p
  | .non, _, .non => .non
  | .bl _, _, .bl _ => .bl _
  | .int _, _, .int _ => .int _
  | .str _, _, .str _ => .str _
  | .tup ps, _, .tup h r z => .tup h (rvs_pre m ps _ r) z
  | .loc _, _, .loc h => .loc (m _ _ h)
  | .fn _, _, .fn h => .fn h
  | .kl _, _, .kl h z => .kl h z
theorem rvs_pre (m : ∀ (n : Nat) (a : Addr), ι[n]? = some a → ι'[n]? = some a) : ∀ (ps : List PV) (vs : List V), RVs W ι H vs ps → RVs W ι' H vs ps
  | [], _, .nil => .nil
  | p :: ps, _, .cons h r => .cons (rv_pre m p _ h) (rvs_pre m ps _ r)
end
theorem rks_pre (m : ∀ (n : Nat) (a : Addr), ι[n]? = some a → ι'[n]? = some a) : ∀ {ps : List (PV × PV)} {vs : List (Key × V)}, RKs W ι H vs ps → RKs W ι' H vs ps
  | _, _, .nil => .nil
  | _, _, .cons h r => .cons (rv_pre m _ _ h) (rks_pre m r)
theorem RVs.length : ∀ {vs : List V} {ps : List PV}, RVs W ι H vs ps → vs.length = ps.length
  | _, _, .nil => rfl
  | _, _, .cons _ r => by rw [List.length_cons, List.length_cons, r.length]
theorem RVs.get : ∀ {vs : List V} {ps : List PV} {i : Nat} {p : PV}, RVs W ι H vs ps → ps[i]? = some p → ∃ v, vs[i]? = some v ∧ RV W ι H v p
  | _, _, _, _, .nil, e => by simp at e
  | _, _, 0, _, .cons r _, e => by simp at e; subst e; exact ⟨_, rfl, r⟩
  | _, _, i + 1, p, .cons _ t, e => by
    obtain ⟨v, h1, h2⟩ := RVs.get (i := i) (p := p) t (by simpa using e)
    exact ⟨v, by simpa using h1, h2⟩
theorem RVs.append : ∀ {vs ws : List V} {ps qs : List PV}, RVs W ι H vs ps → RVs W ι H ws qs → RVs W ι H (vs ++ ws) (ps ++ qs)
  | _, _, _, _, .nil, s => s
  | _, _, _, _, .cons r t, s => .cons r (RVs.append t s)
theorem RVs.take : ∀ {vs : List V} {ps : List PV} (n : Nat), RVs W ι H vs ps → RVs W ι H (vs.take n) (ps.take n)
  | _, _, 0, _ => .nil
  | _, _, _ + 1, .nil => .nil
  | _, _, n + 1, .cons r t => .cons r (RVs.take n t)
theorem RVs.drop : ∀ {vs : List V} {ps : List PV} (n : Nat), RVs W ι H vs ps → RVs W ι H (vs.drop n) (ps.drop n)
  | _, _, 0, r => r
  | _, _, _ + 1, .nil => .nil
  | _, _, n + 1, .cons _ t => RVs.drop n t
theorem RVs.set {v : V} {p : PV} (r : RV W ι H v p) : ∀ {vs : List V} {ps : List PV} (i : Nat), RVs W ι H vs ps → RVs W ι H (vs.set i v) (ps.set i p)
  | _, _, _, .nil => .nil
  | _, _, 0, .cons _ t => .cons r t
  | _, _, i + 1, .cons q t => .cons q (RVs.set r i t)
theorem RVs.eraseIdx : ∀ {vs : List V} {ps : List PV} (i : Nat), RVs W ι H vs ps → RVs W ι H (vs.eraseIdx i) (ps.eraseIdx i)
  | _, _, _, .nil => .nil
  | _, _, 0, .cons _ t => t
  | _, _, i + 1, .cons q t => .cons q (RVs.eraseIdx i t)
theorem RVs.reverse {vs : List V} {ps : List PV} (r : RVs W ι H vs ps) : RVs W ι H vs.reverse ps.reverse := by
  induction ps generalizing vs with
  | nil => cases r; exact .nil
  | cons p ps ih =>
    cases r with
    | cons h t =>
      rw [List.reverse_cons, List.reverse_cons]
      exact (ih t).append (.cons h .nil)
theorem RVs.ints (ns : List Int) : RVs W ι H (ns.map V.int) (ns.map PV.int) := by
  induction ns with
  | nil => exact .nil
  | cons n ns ih => exact .cons (.int n) ih
theorem RVs.of_ints : ∀ {ns : List Int} {vs : List V}, RVs W ι H vs (ns.map PV.int) → vs = ns.map V.int
  | [], _, .nil => rfl
  | n :: ns, _, .cons (.int _) t => by rw [List.map_cons, RVs.of_ints t]

/-- the store told of the heap behind an object of it that has changed -/
theorem RS.upd {n : Nat} {a : Addr} {ho : HO} {o : Ob} (R : RS W ι st H) (hn : ι[n]? = some a) (hr : RO W ι (L2.upd H a ho) a o) : RS W ι (st.set n o) (L2.upd H a ho) := by
  have ha : a ∈ ι := List.mem_of_getElem? hn
  have m : Mono ι H ι (L2.upd H a ho) := Mono.mut ha
  refine ⟨by rw [List.length_set]; exact R.len, R.nd, fun k u b h1 h2 => ?_, tab_mono R m, tl_upd R.tl fun o e => by
    obtain ⟨n, ob, _, _, r⟩ := R.at_ ha
    obtain ⟨u, e2, z⟩ := r.there
    rw [e] at e2
    cases e2
    exact z⟩
  by_cases hk : k = n
  · subst hk
    rw [hn] at h2
    cases h2
    have hlt : k < st.length := by rw [← R.len]; exact (List.getElem?_eq_some_iff.mp hn).1
    rw [List.getElem?_set_self hlt] at h1
    cases h1
    exact hr
  · rw [List.getElem?_set_ne (Ne.symm hk)] at h1
    have hb : b ≠ a := fun z => by
      subst z
      obtain ⟨h3, e3⟩ := List.getElem?_eq_some_iff.mp hn
      obtain ⟨h4, e4⟩ := List.getElem?_eq_some_iff.mp h2
      exact hk ((List.getElem_inj R.nd).mp (e4.trans e3.symm))
    have r := R.ob k u b h1 h2
    have e : L2.upd H a ho b = H b := upd_ne hb
    cases u with
    | lst lk l =>
      cases lk with
      | false => obtain ⟨vs, q, z, y⟩ := r; exact ⟨vs, e.trans q, rvs_mono R m _ _ z, y⟩
      | true => obtain ⟨c, vs, q, z, y⟩ := r; exact ⟨c, vs, e.trans q, rvs_mono R m _ _ z, y⟩
    | dct lk l =>
      cases lk with
      | false => obtain ⟨vs, q, z⟩ := r; exact ⟨vs, e.trans q, rks_mono R m z⟩
      | true => obtain ⟨c, vs, q, z⟩ := r; exact ⟨c, vs, e.trans q, rks_mono R m z⟩
    | sti l => obtain ⟨S, q, z⟩ := r; exact ⟨S, e.trans q, z⟩
theorem RO.mono {a : Addr} {o : Ob} (R : RS W ι st H) (m : Mono ι H ι' H') (e : H' a = H a) (h : RO W ι H a o) : RO W ι' H' a o := by
  cases o with
  | lst lk l =>
    cases lk with
    | false => obtain ⟨vs, q, z, y⟩ := h; exact ⟨vs, e.trans q, rvs_mono R m _ _ z, y⟩
    | true => obtain ⟨c, vs, q, z, y⟩ := h; exact ⟨c, vs, e.trans q, rvs_mono R m _ _ z, y⟩
  | dct lk l =>
    cases lk with
    | false => obtain ⟨vs, q, z⟩ := h; exact ⟨vs, e.trans q, rks_mono R m z⟩
    | true => obtain ⟨c, vs, q, z⟩ := h; exact ⟨c, vs, e.trans q, rks_mono R m z⟩
  | sti l => obtain ⟨S, q, z⟩ := h; exact ⟨S, e.trans q, z⟩
/-- an object that the store does not tell is laid, or changed -/
theorem RS.other {p : Addr} {o : HO} (R : RS W ι st H) (hp : H p = none) : RS W ι st (L2.upd H p o) :=
  ⟨R.len, R.nd, fun n u a h1 h2 => by
    have r := R.ob n u a h1 h2
    obtain ⟨x, e, _⟩ := r.there
    exact RO.mono R (Mono.new hp) (upd_ne (ne_of_none e hp)) r, tab_mono R (Mono.new hp), tl_upd R.tl fun o e => by rw [hp] at e; cases e⟩
/-- .. and told from now on -/
theorem RS.take {p : Addr} {o : Ob} (R : RS W ι st H) (m : Mono ι H (ι ++ [p]) H) (hp : p ∉ ι) (hr : RO W ι H p o) : RS W (ι ++ [p]) (st ++ [o]) H := by
  refine ⟨by rw [List.length_append, List.length_append, R.len]; rfl, ?_, fun n u a h1 h2 => ?_, R.tb, R.tl⟩
  · rw [List.nodup_append]
    refine ⟨R.nd, by simp, fun a ha b hb => ?_⟩
    rw [List.mem_singleton] at hb
    subst hb
    exact fun z => hp (z ▸ ha)
  · by_cases hn : n < ι.length
    · rw [List.getElem?_append_left hn] at h2
      rw [List.getElem?_append_left (by rw [← R.len]; exact hn)] at h1
      exact RO.mono R m rfl (R.ob n u a h1 h2)
    · have hlt : n < (ι ++ [p]).length := (List.getElem?_eq_some_iff.mp h2).1
      have e : n = ι.length := by
        rw [List.length_append] at hlt
        simp at hlt
        omega
      subst e
      rw [List.getElem?_append_right (Nat.le_refl _), Nat.sub_self] at h2
      rw [R.len, List.getElem?_append_right (Nat.le_refl _), Nat.sub_self] at h1
      cases h1
      cases h2
      exact RO.mono R m rfl hr
end
end PD
/-! PD: judgements, names, operators. -/
namespace PD
open PySem PySem.Spec PyProof.Rows L2

structure RE (W : Wd) (ι : List Addr) (H : Hp) (ρ : Env) (σ : L2.St) : Prop where
  len : ρ.length = σ.length
  at_ : ∀ (i : Nat) (p : PV), ρ[i]? = some (some p) → ∃ v, σ[i]? = some (some v) ∧ RV W ι H v p
def Good (W : Wd) (E : XK) {α : Type} (ι : List Addr) (H : Hp) (r : Res α) (k : α → Sto → List Addr → Hp → Prop) : Prop :=
  match r with
  | .ok a st' => ∀ ι' H', Mono ι H ι' H' → RS W ι' st' H' → k a st' ι' H'
  | .exc c st' => ∀ ι' H', Mono ι H ι' H' → RS W ι' st' H' → E (W.xc c) none H'
  | .stuck => False
section
variable {W : Wd} {E : XK} {ι ι' ι1 : List Addr} {H H' H1 : Hp} {st : Sto} {ρ : Env} {σ : L2.St}
theorem RE.mono (e : RE W ι H ρ σ) (R : RS W ι st H) (m : Mono ι H ι' H') : RE W ι' H' ρ σ :=
  ⟨e.len, fun i p h => let ⟨v, h1, h2⟩ := e.at_ i p h; ⟨v, h1, rv_mono R m p v h2⟩⟩
theorem RE.set (e : RE W ι H ρ σ) {v : V} {p : PV} (r : RV W ι H v p) (i : Nat) : RE W ι H (ρ.set i (some p)) (σ.set i (some v)) := by
  refine ⟨by rw [List.length_set, List.length_set]; exact e.len, fun j q h => ?_⟩
  by_cases hj : i = j
  · subst hj
    by_cases hi : i < ρ.length
    · rw [List.getElem?_set_self hi] at h
      cases h
      exact ⟨v, by rw [List.getElem?_set_self (by rw [← e.len]; exact hi)], r⟩
    · rw [List.getElem?_eq_none (by rw [List.length_set]; omega)] at h
      cases h
  · rw [List.getElem?_set_ne hj] at h
    obtain ⟨u, h1, h2⟩ := e.at_ j q h
    exact ⟨u, by rw [List.getElem?_set_ne hj]; exact h1, h2⟩
theorem RE.unset (e : RE W ι H ρ σ) (i : Nat) : RE W ι H (ρ.set i none) (σ.set i none) := by
  refine ⟨by rw [List.length_set, List.length_set]; exact e.len, fun j q h => ?_⟩
  by_cases hj : i = j
  · subst hj
    by_cases hi : i < ρ.length
    · rw [List.getElem?_set_self hi] at h
      cases h
    · rw [List.getElem?_eq_none (by rw [List.length_set]; omega)] at h
      cases h
  · rw [List.getElem?_set_ne hj] at h
    obtain ⟨u, h1, h2⟩ := e.at_ j q h
    exact ⟨u, by rw [List.getElem?_set_ne hj]; exact h1, h2⟩
theorem Good.imp {α : Type} {r : Res α} {k k' : α → Sto → List Addr → Hp → Prop} (g : Good W E ι H r k) (h : ∀ a st' ι' H', Mono ι H ι' H' → RS W ι' st' H' → k a st' ι' H' → k' a st' ι' H') : Good W E ι H r k' := by
  cases r with
  | ok a st' => exact fun ι' H' m R => h a st' ι' H' m R (g ι' H' m R)
  | exc c st' => exact g
  | stuck => exact g
theorem Good.shift {α : Type} {r : Res α} {k : α → Sto → List Addr → Hp → Prop} (g : Good W E ι H r k) (m : Mono ι H ι1 H1) : Good W E ι1 H1 r k := by
  cases r with
  | ok a st' => exact fun ι' H' m' R => g ι' H' (m.trans m') R
  | exc c st' => exact fun ι' H' m' R => g ι' H' (m.trans m') R
  | stuck => exact g
theorem Good.bind {α β : Type} {m : Mo α} {f : α → Mo β} {k : β → Sto → List Addr → Hp → Prop} (g : Good W E ι H (bnd m f st) k) : Good W E ι H (m st) (fun a st1 ι1 H1 => Good W E ι1 H1 (f a st1) k) := by
  unfold bnd at g
  cases h : m st with
  | ok a st' =>
    rw [h] at g
    exact fun ι' H' m' R => g.shift m'
  | exc c st' =>
    rw [h] at g
    exact g
  | stuck =>
    rw [h] at g
    exact g
theorem Good.ok {α : Type} {a : α} {k : α → Sto → List Addr → Hp → Prop} (g : Good W E ι H (.ok a st) k) (R : RS W ι st H) : k a st ι H := g ι H Mono.refl R
end

/-- the readings of denotations -/
def kQ (W : Wd) (Q : VK) : PV → Sto → List Addr → Hp → Prop := fun z _ ι' H' => ∀ v, RV W ι' H' v z → Q v H'
def tD (W : Wd) (E : XK) (d : Env → Mo PV) : TE := fun σ H Q => ∃ ι ρ st, RE W ι H ρ σ ∧ RS W ι st H ∧ Good W E ι H (d ρ st) (kQ W Q)
def tDT (W : Wd) (E : XK) (d : Env → Mo Bool) : TT := fun σ H Q => ∃ ι ρ st, RE W ι H ρ σ ∧ RS W ι st H ∧ Good W E ι H (d ρ st) (fun b _ _ H' => Q b H')
def tDA (W : Wd) (E : XK) (d : Env → Mo (List PV)) : TA := fun σ H Q => ∃ ι ρ st, RE W ι H ρ σ ∧ RS W ι st H ∧ Good W E ι H (d ρ st) (fun ps _ ι' H' => ∀ vs, RVs W ι' H' vs ps → Q vs H')
/-- a new list that the store does not tell -/
def kL (W : Wd) (H : Hp) (Q : VK) : List PV → Sto → List Addr → Hp → Prop := fun l _ ι' H' => ∀ p vs, H p = none → p ∉ ι' → H' p = some (.lst vs) → RVs W ι' H' vs l → l.length ≤ 16777216 → Q (.ref p) H'
def tDL (W : Wd) (E : XK) (d : Env → Mo (List PV)) : TE := fun σ H Q => ∃ ι ρ st, RE W ι H ρ σ ∧ RS W ι st H ∧ Good W E ι H (d ρ st) (kL W H Q)
/-- a list or a tuple, wherever it stands -/
def IsSq (K : PySem.W.Frag) (H : Hp) (v : V) (vs : List V) : Prop := ∃ p, v = .ref p ∧ (SqL K H p vs ∨ SqT K H p vs)
def kS (W : Wd) (Q : VK) : List PV → Sto → List Addr → Hp → Prop := fun l _ ι' H' => ∀ v vs, IsSq W.K H' v vs → RVs W ι' H' vs l → l.length ≤ 16777216 → Q v H'
def tDQ (W : Wd) (E : XK) (d : Env → Mo (List PV)) : TE := fun σ H Q => ∃ ι ρ st, RE W ι H ρ σ ∧ RS W ι st H ∧ Good W E ι H (d ρ st) (kS W Q)

structure On (X : Cx) (W : Wd) (k : Nat) (E : XK) : Prop where
  hK : X.K = W.K
  hM : X.mg = W.mg
  hc : X.calm = true
  nd : X.N.Nodup
  room : Room k X.A
  ps : Passes W.cx X E
  own : PassesOwn (model X.prog X.w) X.A X.env X.xe
  c0 : ∀ outer H s e s', W.cx outer H s E0 e s' → False
structure DE (X : Cx) (W : Wd) (k : Nat) (E : XK) (e : Expr) (d : Env → Mo PV) : Prop where
  run : On X W k E → PE X e (tD W E d)
structure DT (X : Cx) (W : Wd) (k : Nat) (E : XK) (e : Expr) (d : Env → Mo Bool) : Prop where
  run : On X W k E → PT X e (tDT W E d)
/-- a test within and, or -/
structure DW (X : Cx) (W : Wd) (k : Nat) (E : XK) (e : Expr) (d : Env → Mo Bool) : Prop where
  run : On X W k E → PW X e (tDT W E d)
structure DA (X : Cx) (W : Wd) (k : Nat) (E : XK) (es : List Expr) (d : Env → Mo (List PV)) : Prop where
  run : On X W k E → PA X es (tDA W E d)
structure DL (X : Cx) (W : Wd) (k : Nat) (E : XK) (e : Expr) (d : Env → Mo (List PV)) : Prop where
  run : On X W k E → PE X e (tDL W E d)
structure DQ (X : Cx) (W : Wd) (k : Nat) (E : XK) (e : Expr) (d : Env → Mo (List PV)) : Prop where
  run : On X W k E → PE X e (tDQ W E d)

theorem pe_imp {X : Cx} {e : Expr} {t t' : TE} (h : PE X e t) (hi : ∀ σ H Q, t' σ H Q → t σ H Q) : PE X e t' := ⟨fun pins s σ H Q I w => h.run pins s σ H Q I (hi σ H Q w)⟩
theorem pt_imp {X : Cx} {e : Expr} {t t' : TT} (h : PT X e t) (hi : ∀ σ H Q, t' σ H Q → t σ H Q) : PT X e t' := ⟨fun pins s σ H Q I w => h.run pins s σ H Q I (hi σ H Q w)⟩
theorem pw_imp {X : Cx} {e : Expr} {t t' : TT} (h : PW X e t) (hi : ∀ σ H Q, t' σ H Q → t σ H Q) : PW X e t' := ⟨fun wh pins s σ H Q I w => h.run wh pins s σ H Q I (hi σ H Q w)⟩
theorem pa_imp {X : Cx} {es : List Expr} {t t' : TA} (h : PA X es t) (hi : ∀ σ H Q, t' σ H Q → t σ H Q) : PA X es t' := ⟨fun pos pins s σ H Q I w => h.run pos pins s σ H Q I (hi σ H Q w)⟩

section
variable {X : Cx} {W : Wd} {k : Nat} {E : XK} {a b c e : Expr} {es : List Expr} {pos : Pos} {da db dc : Env → Mo PV}
/-! ### names and constants -/
def dVar (i : Nat) : Env → Mo PV := fun ρ st => match ρ[i]? with
  | some (some p) => .ok p st
  | _ => .stuck
def dC (p : PV) : Env → Mo PV := fun _ st => .ok p st
theorem de_var {i : Nat} {x : Str} (hN : X.N[i]? = some x := by rfl) (hv : Vis X.env.scope x := by first | exact Or.inl rfl | exact Or.inr (Or.inl rfl) | exact Or.inr (Or.inr rfl)) (hd : (x == ("__debug__" : Str)) = false := by decide)
    (hcd : (x == ("__classdict__" : Str)) = false := by decide) : DE X W k E (.Name x pos) (dVar i) := ⟨fun _ => pe_imp (pe_var hN hv hd hcd) fun σ H Q h => by
  obtain ⟨ι, ρ, st, re, rs, g⟩ := h
  unfold dVar at g
  cases q : ρ[i]? with
  | none => rw [q] at g; exact g.elim
  | some o =>
    cases o with
    | none => rw [q] at g; exact g.elim
    | some p =>
      rw [q] at g
      obtain ⟨v, h1, h2⟩ := re.at_ i p q
      exact ⟨v, h1, g.ok rs v h2⟩⟩
theorem de_k {v : V} {p : PV} (h : PE X e (tC v)) (hr : ∀ ι H, RV W ι H v p) : DE X W k E e (dC p) := ⟨fun _ => pe_imp h fun σ H Q h => by
  obtain ⟨ι, ρ, st, re, rs, g⟩ := h
  exact g.ok rs v (hr ι H)⟩
theorem de_int {i : Int} {j : Nat} : DE X W k E (.Constant (.int i) j pos) (dC (.int i)) := de_k pe_int fun _ _ => .int i
theorem de_bl {b : Bool} {j : Nat} : DE X W k E (.Constant (.bool b) j pos) (dC (.bl b)) := de_k pe_bl fun _ _ => .bl b
theorem de_non {j : Nat} : DE X W k E (.Constant .none j pos) (dC .non) := de_k pe_non fun _ _ => .non
theorem de_str {x : Str} {j : Nat} : DE X W k E (.Constant (.str x) j pos) (dC (.str x)) := de_k pe_str fun _ _ => .str x
/-- a module's name that holds an int, a def as a value -/
theorem de_gint {x : Str} {i : Int} (hg : Gl X x) (hm : ∃ t, W.mg x = some (.int i t)) (hd : (x == ("__debug__" : Str)) = false := by decide) : DE X W k E (.Name x pos) (dC (.int i)) := ⟨fun o => by
  obtain ⟨t, hm⟩ := hm
  exact (de_k (W := W) (k := k) (E := E) (v := .int i) (pe_glob hg (by rw [o.hM]; exact hm) ⟨t, rfl⟩ hd) fun _ _ => .int i).run o⟩
theorem de_fn {x : Str} {j : Nat} {f : Addr} (hg : Gl X x) (hm : W.mg x = some (.ref f)) (hf : W.fa j = some f) (hd : (x == ("__debug__" : Str)) = false := by decide) : DE X W k E (.Name x pos) (dC (.fn j)) := ⟨fun o =>
  (de_k (W := W) (k := k) (E := E) (v := .ref f) (pe_glob hg (by rw [o.hM]; exact hm) rfl hd) fun _ _ => .fn hf).run o⟩

/-! ### operators -/
def FOk (W : Wd) (E : XK) (r : R2) (f : PV → PV → Mo PV) : Prop := ∀ (ι : List Addr) (st : Sto) (H : Hp) (x y : V) (p q : PV) (Q : VK), RS W ι st H → RV W ι H x p → RV W ι H y q → Good W E ι H (f p q st) (kQ W Q) → r x y H Q
def dBin (f : PV → PV → Mo PV) (da db : Env → Mo PV) : Env → Mo PV := fun ρ => bnd (da ρ) fun p => bnd (db ρ) fun q => f p q
theorem op_of {r : R2} {f : PV → PV → Mo PV} (hf : FOk W E r f) {σ : L2.St} {H : Hp} {Q : VK} (h : tD W E (dBin f da db) σ H Q) : tOp r (tD W E da) (tD W E db) σ H Q := by
  obtain ⟨ι, ρ, st, re, rs, g⟩ := h
  refine ⟨ι, ρ, st, re, rs, Good.imp (Good.bind g) fun p st1 ι1 H1 m1 r1 g1 v1 hv1 => ?_⟩
  refine ⟨ι1, ρ, st1, re.mono rs m1, r1, Good.imp (Good.bind g1) fun q st2 ι2 H2 m2 r2 g2 v2 hv2 => ?_⟩
  exact hf ι2 st2 H2 v1 v2 p q Q r2 (rv_mono r1 m2 p v1 hv1) hv2 g2
theorem de_bin {op : Operator} {r : R2} {f : PV → PV → Mo PV} (ho : On X W k E → OpR X (binaryOp op) r) (hf : FOk W E r f) (ha : DE X W k E a da) (hb : DE X W k E b db) : DE X W k E (.BinOp a op b pos) (dBin f da db) :=
  ⟨fun o => pe_imp (pe_op (ho o) (ha.run o) (hb.run o)) fun _ _ _ h => op_of hf h⟩
theorem de_cmp {op : CmpOp} {r : R2} {f : PV → PV → Mo PV} (ho : On X W k E → OpR X (compareOp op) r) (hf : FOk W E r f) (ha : DE X W k E a da) (hb : DE X W k E b db) (hm : behindInMarks op b = false) : DE X W k E (.Compare a [op] [b] pos) (dBin f da db) :=
  ⟨fun o => pe_imp (pe_cmpR (ho o) (ha.run o) (hb.run o) hm) fun _ _ _ h => op_of hf h⟩
def oI (g : Int → Int → PV) : PV → PV → Mo PV
  | .int i, .int j => fun st => .ok (g i j) st
  | _, _ => fail
def oIC (C : Int → Int → Prop) [∀ i j, Decidable (C i j)] (g : Int → Int → PV) : PV → PV → Mo PV
  | .int i, .int j => fun st => if C i j then .ok (g i j) st else .stuck
  | _, _ => fail
theorem fok_I {g : Int → Int → PV} {g' : Int → Int → V} (hr : ∀ i j ι H, RV W ι H (g' i j) (g i j)) : FOk W E (rI0 g') (oI g) := by
  intro ι st H x y p q Q rs hx hy g0
  cases hx <;> cases hy <;> first
    | exact ⟨_, _, rfl, rfl, g0.ok rs _ (hr _ _ _ _)⟩
    | exact g0.elim
theorem fok_IC {C C' : Int → Int → Prop} [∀ i j, Decidable (C i j)] {g : Int → Int → PV} {g' : Int → Int → V} (hC : ∀ i j, C i j → C' i j) (hr : ∀ i j ι H, RV W ι H (g' i j) (g i j)) : FOk W E (rI C' g') (oIC C g) := by
  intro ι st H x y p q Q rs hx hy g0
  cases hx <;> cases hy <;> first
    | (rename_i i j
       by_cases hc : C i j
       · have e : oIC C g (.int i) (.int j) st = .ok (g i j) st := if_pos hc
         rw [e] at g0
         exact ⟨_, _, rfl, rfl, hC _ _ hc, g0.ok rs _ (hr _ _ _ _)⟩
       · have e : oIC C g (.int i) (.int j) st = .stuck := if_neg hc
         rw [e] at g0
         exact g0.elim)
    | exact g0.elim
abbrev oSub := oI fun i j => .int (i - j)
abbrev oLt := oI fun i j => .bl (decide (i < j))
abbrev oLe := oI fun i j => .bl (decide (i ≤ j))
abbrev oGt := oI fun i j => .bl (decide (j < i))
abbrev oGe := oI fun i j => .bl (decide (j ≤ i))
abbrev CM (i j : Int) : Prop := i.natAbs < 18446744073709551616 ∨ j.natAbs < 18446744073709551616
abbrev oMul := oIC CM fun i j => .int (i * j)
abbrev CDv (i j : Int) : Prop := 0 < j ∧ j < 1073741824
abbrev oDiv := oIC CDv fun i j => .int (i / j)
abbrev oMod := oIC (fun _ j => 0 < j) fun i j => .int (i % j)
abbrev CPw (i j : Int) : Prop := 0 ≤ j ∧ j ≤ 1000000 ∧ i.natAbs < 18446744073709551616
abbrev oPow := oIC CPw fun i j => .int (i ^ j.toNat)
abbrev oShl := oIC CPw fun i j => .int (i * 2 ^ j.toNat)
abbrev oShr := oIC (fun _ j => 0 ≤ j) fun i j => .int (i / 2 ^ j.toNat)
abbrev oAnd := oI fun i j => .int (Builtin.bitAnd i j)
theorem cm_ok {i j : Int} (h : CM i j) : CMul i j := by
  rcases h with h | h
  · exact .inl (by constructor <;> (first | (have := h; omega)))
  · exact .inr (by constructor <;> (first | (have := h; omega)))
theorem cp_ok {i j : Int} (h : CPw i j) : CPow i j := ⟨h.1, h.2.1, by have := h.2.2; omega⟩
theorem de_sub (ha : DE X W k E a da) (hb : DE X W k E b db) : DE X W k E (.BinOp a .Sub b pos) (dBin oSub da db) := de_bin (fun _ => op_sub) (fok_I fun _ _ _ _ => .int _) ha hb
theorem de_mul (ha : DE X W k E a da) (hb : DE X W k E b db) : DE X W k E (.BinOp a .Mult b pos) (dBin oMul da db) := de_bin (fun _ => op_mul) (fok_IC (fun _ _ => cm_ok) fun _ _ _ _ => .int _) ha hb
theorem de_div (ha : DE X W k E a da) (hb : DE X W k E b db) : DE X W k E (.BinOp a .FloorDiv b pos) (dBin oDiv da db) := de_bin (fun _ => op_fdiv) (fok_IC (fun _ _ h => h) fun _ _ _ _ => .int _) ha hb
theorem de_mod (ha : DE X W k E a da) (hb : DE X W k E b db) : DE X W k E (.BinOp a .Mod b pos) (dBin oMod da db) := de_bin (fun _ => op_mod) (fok_IC (fun _ _ h => h) fun _ _ _ _ => .int _) ha hb
theorem de_pow (ha : DE X W k E a da) (hb : DE X W k E b db) : DE X W k E (.BinOp a .Pow b pos) (dBin oPow da db) := de_bin (fun _ => op_pow) (fok_IC (fun _ _ => cp_ok) fun _ _ _ _ => .int _) ha hb
theorem de_shl (ha : DE X W k E a da) (hb : DE X W k E b db) : DE X W k E (.BinOp a .LShift b pos) (dBin oShl da db) := de_bin (fun _ => op_shl) (fok_IC (fun _ _ => cp_ok) fun _ _ _ _ => .int _) ha hb
theorem de_shr (ha : DE X W k E a da) (hb : DE X W k E b db) : DE X W k E (.BinOp a .RShift b pos) (dBin oShr da db) := de_bin (fun _ => op_shr) (fok_IC (fun _ _ h => h) fun _ _ _ _ => .int _) ha hb
theorem de_band (ha : DE X W k E a da) (hb : DE X W k E b db) : DE X W k E (.BinOp a .BitAnd b pos) (dBin oAnd da db) := de_bin (fun _ => op_and) (fok_I fun _ _ _ _ => .int _) ha hb
theorem de_lt (ha : DE X W k E a da) (hb : DE X W k E b db) : DE X W k E (.Compare a [.Lt] [b] pos) (dBin oLt da db) := de_cmp (fun _ => op_lt) (fok_I fun _ _ _ _ => .bl _) ha hb (nomark _)
theorem de_le (ha : DE X W k E a da) (hb : DE X W k E b db) : DE X W k E (.Compare a [.LtE] [b] pos) (dBin oLe da db) := de_cmp (fun _ => op_le) (fok_I fun _ _ _ _ => .bl _) ha hb (nomark _)
theorem de_gt (ha : DE X W k E a da) (hb : DE X W k E b db) : DE X W k E (.Compare a [.Gt] [b] pos) (dBin oGt da db) := de_cmp (fun _ => op_gt) (fok_I fun _ _ _ _ => .bl _) ha hb (nomark _)
theorem de_ge (ha : DE X W k E a da) (hb : DE X W k E b db) : DE X W k E (.Compare a [.GtE] [b] pos) (dBin oGe da db) := de_cmp (fun _ => op_ge) (fok_I fun _ _ _ _ => .bl _) ha hb (nomark _)
/-- +: ints, texts, tuples -/
def oAdd : PV → PV → Mo PV
  | .int i, .int j => fun st => .ok (.int (i + j)) st
  | .str x, .str y => fun st => if x.length + y.length ≤ 16777216 then .ok (.str (x ++ y)) st else .stuck
  | .tup l, .tup m => fun st => if l.length + m.length ≤ 16777216 then .ok (.tup (l ++ m)) st else .stuck
  | _, _ => fail
def rAddA (K : PySem.W.Frag) : R2 := fun x y H Q => (∃ i j, x = .int i ∧ y = .int j ∧ Q (.int (i + j)) H) ∨ (∃ i j, x = .str i ∧ y = .str j ∧ i.length + j.length ≤ sizeLine ∧ Q (.str (i ++ j)) H) ∨ rCatA K x y H Q
theorem line_le {n : Nat} (h : n ≤ 16777216) : n ≤ sizeLine := by
  rw [sizeLine_eq]
  exact h
theorem line_of {n : Nat} (h : n ≤ sizeLine) : n ≤ 16777216 := by
  rw [sizeLine_eq] at h
  exact h
theorem good_if {α : Type} {ι : List Addr} {H : Hp} {C : Prop} [Decidable C] {r : Res α} {kk : α → Sto → List Addr → Hp → Prop} (g : Good W E ι H (if C then r else .stuck) kk) : C ∧ Good W E ι H r kk := by
  by_cases h : C
  · rw [if_pos h] at g
    exact ⟨h, g⟩
  · rw [if_neg h] at g
    exact g.elim
/-- a new tuple -/
theorem good_newtup {ι : List Addr} {st : Sto} {H : Hp} {Q : VK} {l : List PV} {vs : List V} {p : Addr} (g : Good W E ι H (.ok (.tup l) st) (kQ W Q)) (rs : RS W ι st H) (r : RVs W ι H vs l) (hz : l.length ≤ 16777216) (hp : H p = none) : Q (.ref p) (upd H p (.tup vs)) := by
  have m : Mono ι H ι (upd H p (.tup vs)) := Mono.new hp
  exact g ι _ m (rs.other hp) _ (.tup (.inl (.inl upd_same)) (rvs_mono rs m _ _ r) hz)
theorem fok_add : FOk W E (rAddA W.K) oAdd := by
  intro ι st H x y p q Q rs hx hy g0
  cases hx <;> cases hy <;> first
    | exact .inl ⟨_, _, rfl, rfl, g0.ok rs _ (.int _)⟩
    | (obtain ⟨hc, g1⟩ := good_if g0
       first
        | exact .inr (.inl ⟨_, _, rfl, rfl, line_le hc, g1.ok rs _ (.str _)⟩)
        | (rename_i a1 vs1 l1 sq1 z1 n1 a2 vs2 l2 sq2 z2 n2
           refine .inr (.inr ⟨a1, a2, vs1, vs2, rfl, rfl, sq1, sq2, line_le (by rw [z1.length, z2.length]; exact hc), fun e => ?_, fun _ e => ?_, fun _ _ p hp => ?_⟩)
           · subst e
             cases z1
             exact g1.ok rs _ (.tup sq2 z2 n2)
           · subst e
             cases z2
             rw [List.append_nil] at g1
             exact g1.ok rs _ (.tup sq1 z1 n1)
           · exact good_newtup g1 rs (z1.append z2) (by rw [List.length_append]; exact hc) hp))
    | exact g0.elim
theorem op_addA {X : Cx} : OpR X (binaryOp .Add) (rAddA X.K) := OpR.or (opI0 fun _ _ _ _ _ _ _ q => add_int q) (OpR.or op_add_str op_catA)
theorem de_add (ha : DE X W k E a da) (hb : DE X W k E b db) : DE X W k E (.BinOp a .Add b pos) (dBin oAdd da db) := de_bin (fun o => by rw [← o.hK]; exact op_addA) fok_add ha hb

/-! ### equality of plain data -/
mutual
def toD : PV → PyData
  | .non => .none
  | .bl b => .bool b
  | .int i => .int i
  | .str s => .str s
  | .tup l => .tuple (toDs l)
  | .loc _ => .none
  | .fn _ => .none
  | .kl _ => .none
def toDs : List PV → List PyData
  | [] => []
  | p :: ps => toD p :: toDs ps
end
mutual
/-- plain data, so deep at most -/
def okd : Nat → PV → Bool
  | _, .non => true
  | _, .bl _ => true
  | _, .int _ => true
  | _, .str _ => true
  | 0, .tup _ => false
  | n + 1, .tup l => okds n l
  | _, .loc _ => false
  | _, .fn _ => false
  | _, .kl _ => false
def okds : Nat → List PV → Bool
  | _, [] => true
  | n, p :: ps => okd n p && okds n ps
end
theorem okd_non (n : Nat) : okd n .non = true := by cases n <;> rfl
theorem okd_bl (n : Nat) (b : Bool) : okd n (.bl b) = true := by cases n <;> rfl
theorem okd_int (n : Nat) (i : Int) : okd n (.int i) = true := by cases n <;> rfl
theorem okd_str (n : Nat) (s : Str) : okd n (.str s) = true := by cases n <;> rfl
theorem okd_loc (n i : Nat) : okd n (.loc i) = false := by cases n <;> rfl
theorem okd_fn (n i : Nat) : okd n (.fn i) = false := by cases n <;> rfl
theorem okd_kl (n : Nat) (l : List Int) : okd n (.kl l) = false := by cases n <;> rfl
theorem okd_tup0 (l : List PV) : okd 0 (.tup l) = false := rfl
theorem okd_tup (n : Nat) (l : List PV) : okd (n + 1) (.tup l) = okds n l := rfl
mutual
def eqb : PV → PV → Bool
  | .non, .non => true
  | .bl a, .bl b => a == b
  | .bl a, .int j => (if a then 1 else 0) == j
  | .int i, .bl b => i == (if b then 1 else 0)
  | .int i, .int j => i == j
  | .str x, .str y => x == y
  | .tup l, .tup m => eqbs l m
  | _, _ => false
def eqbs : List PV → List PV → Bool
  | [], [] => true
  | p :: ps, q :: qs => eqb p q && eqbs ps qs
  | _, _ => false
end
mutual
theorem okd_plain : ∀ (n : Nat) (p : PV), okd n p = true → (toD p).plain = true ∧ (toD p).depth ≤ n
  | _, .non, _ => by simp [toD, PyData.plain, PyData.depth]
  | _, .bl _, _ => by simp [toD, PyData.plain, PyData.depth]
  | _, .int _, _ => by simp [toD, PyData.plain, PyData.depth]
  | _, .str _, _ => by simp [toD, PyData.plain, PyData.depth]
  | 0, .tup _, h => by simp [okd] at h
  | n + 1, .tup l, h => by
    have z := okds_plain n l (by simpa [okd] using h)
    exact ⟨by simpa [toD, PyData.plain] using z.1, by have := z.2; simp only [toD, PyData.depth]; omega⟩
  | _, .loc _, h => by simp [okd] at h
  | _, .fn _, h => by simp [okd] at h
  | _, .kl _, h => by simp [okd] at h
theorem okds_plain : ∀ (n : Nat) (ps : List PV), okds n ps = true → PyData.plainAll (toDs ps) = true ∧ PyData.depthAll (toDs ps) ≤ n
  | _, [], _ => by simp [toDs, PyData.plainAll, PyData.depthAll]
  | n, p :: ps, h => by
    simp only [okds, Bool.and_eq_true] at h
    have a := okd_plain n p h.1
    have b := okds_plain n ps h.2
    refine ⟨by simp only [toDs, PyData.plainAll, a.1, b.1, Bool.and_self], ?_⟩
    simp only [toDs, PyData.depthAll]
    omega
end
mutual
theorem eqv_toD : ∀ (n : Nat) (p q : PV), okd n p = true → okd n q = true → PyData.eqv (toD p) (toD q) = eqb p q
  | n, p, q, hp, hq => by
    cases p <;> cases q <;> first
      | (rw [okd_loc] at hp; cases hp)
      | (rw [okd_fn] at hp; cases hp)
      | (rw [okd_loc] at hq; cases hq)
      | (rw [okd_fn] at hq; cases hq)
      | (rw [okd_kl] at hp; cases hp)
      | (rw [okd_kl] at hq; cases hq)
      | (simp [toD, PyData.eqv, eqb]; done)
      | (rename_i l m
         cases n with
         | zero => simp [okd] at hp
         | succ n =>
           simp only [toD, PyData.eqv, eqb]
           exact eqvs_toD n l m (by simpa [okd] using hp) (by simpa [okd] using hq))
theorem eqvs_toD : ∀ (n : Nat) (ps qs : List PV), okds n ps = true → okds n qs = true → PyData.eqvAll (toDs ps) (toDs qs) = eqbs ps qs
  | _, [], [], _, _ => by simp [toDs, PyData.eqvAll, eqbs]
  | _, [], _ :: _, _, _ => by simp [toDs, PyData.eqvAll, eqbs]
  | _, _ :: _, [], _, _ => by simp [toDs, PyData.eqvAll, eqbs]
  | n, p :: ps, q :: qs, hp, hq => by
    simp only [okds, Bool.and_eq_true] at hp hq
    simp only [toDs, PyData.eqvAll, eqbs]
    rw [eqv_toD n p q hp.1 hq.1, eqvs_toD n ps qs hp.2 hq.2]
end
mutual
theorem dp_of {ι : List Addr} {H : Hp} : ∀ (n : Nat) (p : PV) (v : V), okd n p = true → RV W ι H v p → Dp W.K H v (toD p)
  | _, .non, _, _, .non => by rw [toD]; exact .non
  | _, .bl _, _, _, .bl b => by rw [toD]; exact .bl b
  | _, .int _, _, _, .int i => by rw [toD]; exact .int i
  | _, .str _, _, _, .str s => by rw [toD]; exact .str s
  | 0, .tup _, _, h, _ => by simp [okd] at h
  | n + 1, .tup l, _, h, .tup sq r _ => by rw [toD]; exact .tup sq (dps_of n l _ (by simpa [okd] using h) r)
  | _, .loc _, _, h, _ => by simp [okd] at h
  | _, .fn _, _, h, _ => by simp [okd] at h
  | _, .kl _, _, h, _ => by simp [okd] at h
theorem dps_of {ι : List Addr} {H : Hp} : ∀ (n : Nat) (ps : List PV) (vs : List V), okds n ps = true → RVs W ι H vs ps → DpAll W.K H vs (toDs ps)
  | _, [], _, _, .nil => by rw [toDs]; exact .nil
  | n, p :: ps, _, h, .cons a t => by
    simp only [okds, Bool.and_eq_true] at h
    rw [toDs]
    exact .cons (dp_of n p _ h.1 a) (dps_of n ps _ h.2 t)
end
def rEqP (K : PySem.W.Frag) (ne : Bool) : R2 := fun x y H Q => ∃ d e, Dp K H x d ∧ Dp K H y e ∧ d.plain = true ∧ e.plain = true ∧ d.depth ≤ 64 ∧ Q (.bl (if ne then !PyData.eqv d e else PyData.eqv d e)) H
theorem op_eqP (hu : X.A.units + 64 < cLine) : OpR X (compareOp .Eq) (rEqP X.K false) := by
  rintro pins s σ H x y v u Q I rx ry ⟨d, e, hd, he, sd, se, dd, q⟩
  obtain ⟨as, r1⟩ := Dp.reads I d x v hd rx
  obtain ⟨bs, r2⟩ := Dp.reads I e y u he ry
  exact SeqAt.eq_plain r1 r2 sd se (by omega) ⟨.bl _, H, I, rfl, q⟩
theorem op_neP (hu : X.A.units + 64 < cLine) : OpR X (compareOp .NotEq) (rEqP X.K true) := by
  rintro pins s σ H x y v u Q I rx ry ⟨d, e, hd, he, sd, se, dd, q⟩
  obtain ⟨as, r1⟩ := Dp.reads I d x v hd rx
  obtain ⟨bs, r2⟩ := Dp.reads I e y u he ry
  exact SeqAt.ne_plain r1 r2 sd se (by omega) ⟨.bl _, H, I, rfl, q⟩
def oEq (ne : Bool) (p q : PV) : Mo PV := fun st => if okd 60 p = true ∧ okd 60 q = true then .ok (.bl (if ne then !eqb p q else eqb p q)) st else .stuck
theorem fok_eq {ne : Bool} : FOk W E (rEqP W.K ne) (oEq ne) := by
  intro ι st H x y p q Q rs hx hy g0
  obtain ⟨⟨h1, h2⟩, g1⟩ := good_if g0
  have a := okd_plain 60 p h1
  have b := okd_plain 60 q h2
  refine ⟨toD p, toD q, dp_of 60 p x h1 hx, dp_of 60 q y h2 hy, a.1, b.1, by have := a.2; omega, ?_⟩
  rw [eqv_toD 60 p q h1 h2]
  exact g1.ok rs _ (.bl _)
theorem de_eq (ha : DE X W k E a da) (hb : DE X W k E b db) : DE X W k E (.Compare a [.Eq] [b] pos) (dBin (oEq false) da db) :=
  de_cmp (fun o => by rw [← o.hK]; exact op_eqP (by have := o.room.un; omega)) fok_eq ha hb (nomark _)
theorem de_ne (ha : DE X W k E a da) (hb : DE X W k E b db) : DE X W k E (.Compare a [.NotEq] [b] pos) (dBin (oEq true) da db) :=
  de_cmp (fun o => by rw [← o.hK]; exact op_neP (by have := o.room.un; omega)) fok_eq ha hb (nomark _)
/-! ### is None, is True -/
def oIsN (ng : Bool) (p _q : PV) : Mo PV := fun st => .ok (.bl (match p with | .non => !ng | _ => ng)) st
theorem fok_isN {ng : Bool} {a : V → Bool} : FOk W E (fun x y H Q => y = .non ∧ Q (.bl (if ng then !decide (x = .non) else decide (x = .non))) H) (fun p q => match q with | .non => oIsN ng p q | _ => fail) := by
  intro ι st H x y p q Q rs hx hy g0
  cases hy <;> first
    | exact g0.elim
    | (refine ⟨rfl, ?_⟩
       have z := g0.ok rs
       cases hx <;> first
        | (have y := z _ (.bl _); cases ng <;> simpa using y))
theorem de_isN {j : Nat} {p2 : Pos} (ha : DE X W k E a da) : DE X W k E (.Compare a [.Is] [.Constant .none j p2] pos) (dBin (fun p q => match q with | .non => oIsN false p q | _ => fail) da (dC .non)) :=
  de_cmp (r := fun x y H Q => y = .non ∧ Q (.bl (if false = true then !decide (x = .non) else decide (x = .non))) H) (fun _ => by simpa using op_isN) (fok_isN (a := fun _ => true)) ha de_non (nomark _)
theorem de_notN {j : Nat} {p2 : Pos} (ha : DE X W k E a da) : DE X W k E (.Compare a [.IsNot] [.Constant .none j p2] pos) (dBin (fun p q => match q with | .non => oIsN true p q | _ => fail) da (dC .non)) :=
  de_cmp (r := fun x y H Q => y = .non ∧ Q (.bl (if true = true then !decide (x = .non) else decide (x = .non))) H) (fun _ => by simpa using op_notN) (fok_isN (a := fun _ => true)) ha de_non (nomark _)
def oIsB (ng : Bool) : PV → PV → Mo PV
  | .bl x, .bl y => fun st => .ok (.bl (if ng then !decide (x = y) else decide (x = y))) st
  | _, _ => fail
theorem fok_isB {ng : Bool} : FOk W E (fun x y H Q => ∃ a b : Bool, x = .bl a ∧ y = .bl b ∧ Q (.bl (if ng then !decide (a = b) else decide (a = b))) H) (oIsB ng) := by
  intro ι st H x y p q Q rs hx hy g0
  cases hx <;> cases hy <;> first
    | exact ⟨_, _, rfl, rfl, g0.ok rs _ (.bl _)⟩
    | exact g0.elim
theorem de_isB (ha : DE X W k E a da) (hb : DE X W k E b db) : DE X W k E (.Compare a [.Is] [b] pos) (dBin (oIsB false) da db) :=
  de_cmp (r := fun x y H Q => ∃ a b : Bool, x = .bl a ∧ y = .bl b ∧ Q (.bl (if false = true then !decide (a = b) else decide (a = b))) H) (fun _ => op_isBl) fok_isB ha hb (nomark _)
theorem de_notB (ha : DE X W k E a da) (hb : DE X W k E b db) : DE X W k E (.Compare a [.IsNot] [b] pos) (dBin (oIsB true) da db) :=
  de_cmp (r := fun x y H Q => ∃ a b : Bool, x = .bl a ∧ y = .bl b ∧ Q (.bl (if true = true then !decide (a = b) else decide (a = b))) H) (fun _ => op_notBl) fok_isB ha hb (nomark _)
/-! ### unary -/
def dUn (f : PV → Mo PV) (da : Env → Mo PV) : Env → Mo PV := fun ρ => bnd (da ρ) f
def oNeg : PV → Mo PV
  | .int i => fun st => .ok (.int (-i)) st
  | _ => fail
theorem de_neg (ha : DE X W k E a da) : DE X W k E (.UnaryOp .USub a pos) (dUn oNeg da) := ⟨fun o => pe_imp (pe_un un_neg (ha.run o)) fun σ H Q h => by
  obtain ⟨ι, ρ, st, re, rs, g⟩ := h
  refine ⟨ι, ρ, st, re, rs, Good.imp (Good.bind g) fun p st1 ι1 H1 m1 r1 g1 v1 hv1 => ?_⟩
  cases hv1 <;> first
    | exact ⟨_, rfl, g1.ok r1 _ (.int _)⟩
    | exact g1.elim⟩
end
end PD
/-! PD: tests, arguments, calls, sequences. -/
namespace PD
open PySem PySem.Spec PyProof.Rows L2
section
variable {X : Cx} {W : Wd} {k : Nat} {E : XK} {a b c e : Expr} {es rest : List Expr} {pos p p2 : Pos} {da db dc d : Env → Mo PV} {dt du : Env → Mo Bool} {dl dm : Env → Mo (List PV)}

/-! ### sequences -/
def seqOf (st : Sto) : PV → Option (List PV)
  | .tup l => some l
  | .loc n => match st[n]? with
    | some (.lst _ l) => some l
    | _ => none
  | .kl ns => some (ns.map PV.int)
  | _ => none
def oOf {α : Type} (o : Option α) : Mo α := fun st => match o with
  | some x => .ok x st
  | none => .stuck
def sqM (q : PV) : Mo (List PV) := fun st => match seqOf st q with
  | some l => .ok l st
  | none => .stuck
theorem ro_sql {ι : List Addr} {H : Hp} {a : Addr} {lk : Bool} {l : List PV} (h : RO W ι H a (.lst lk l)) : ∃ vs, SqL W.K H a vs ∧ RVs W ι H vs l ∧ l.length ≤ 16777216 := by
  cases lk with
  | false => obtain ⟨vs, e, r, z⟩ := h; exact ⟨vs, SqL.of e, r, z⟩
  | true => obtain ⟨o, vs, e, r, z⟩ := h; exact ⟨vs, .inl (.inr ⟨o, e⟩), r, z⟩
theorem seq_sq {ι : List Addr} {st : Sto} {H : Hp} {v : V} {q : PV} {l : List PV} (rs : RS W ι st H) (r : RV W ι H v q) (h : seqOf st q = some l) : ∃ vs, IsSq W.K H v vs ∧ RVs W ι H vs l ∧ l.length ≤ 16777216 := by
  cases r with
  | tup sq rr z =>
    have e : _ = l := Option.some.inj h
    subst e
    exact ⟨_, ⟨_, rfl, .inr sq⟩, rr, z⟩
  | loc hn =>
    rename_i n a
    unfold seqOf at h
    dsimp only at h
    cases q : st[n]? with
    | none => rw [q] at h; cases h
    | some o =>
      rw [q] at h
      cases o with
      | lst lk m =>
        have e : m = l := Option.some.inj h
        subst e
        obtain ⟨vs, h1, h2, h3⟩ := ro_sql (rs.ob n _ a q hn)
        exact ⟨vs, ⟨a, rfl, .inl h1⟩, h2, h3⟩
      | dct _ _ => cases h
      | sti _ => cases h
  | non => cases h
  | bl => cases h
  | int => cases h
  | str => cases h
  | fn => cases h
  | kl hk z =>
    have e : _ = l := Option.some.inj h
    subst e
    exact ⟨_, ⟨_, rfl, .inl (.inr hk)⟩, RVs.ints _, by rw [List.length_map]; exact z⟩
theorem dq_e (h : DE X W k E e d) : DQ X W k E e (fun ρ => bnd (d ρ) sqM) := ⟨fun o => pe_imp (h.run o) fun σ H Q t => by
  obtain ⟨ι, ρ, st, re, rs, g⟩ := t
  refine ⟨ι, ρ, st, re, rs, Good.imp (Good.bind g) fun q st1 ι1 H1 m1 r1 g1 v hv => ?_⟩
  unfold sqM at g1
  cases hs : seqOf st1 q with
  | none => rw [hs] at g1; exact g1.elim
  | some l =>
    rw [hs] at g1
    obtain ⟨vs, h1, h2, h3⟩ := seq_sq r1 hv hs
    exact g1.ok r1 v vs h1 h2 h3⟩
theorem dq_l (h : DL X W k E e dl) : DQ X W k E e dl := ⟨fun o => pe_imp (h.run o) fun σ H Q t => by
  obtain ⟨ι, ρ, st, re, rs, g⟩ := t
  exact ⟨ι, ρ, st, re, rs, Good.imp g fun l st1 ι1 H1 m1 r1 g1 p vs hp _ e1 r z => g1 (.ref p) vs ⟨p, rfl, .inl (SqL.of e1)⟩ r z⟩⟩
/-- a new list is put into the store -/
def layL (l : List PV) : Mo PV := fun st => .ok (.loc st.length) (st ++ [.lst false l])
theorem lay_of {σ : L2.St} {H : Hp} {Q : VK} (t : tD W E (fun ρ => bnd (dl ρ) layL) σ H Q) : tDL W E dl σ H Q := by
  obtain ⟨ι, ρ, st, re, rs, g⟩ := t
  refine ⟨ι, ρ, st, re, rs, ?_⟩
  unfold bnd at g
  dsimp only at g
  cases q : dl ρ st with
  | stuck => rw [q] at g; exact g.elim
  | exc c st' => rw [q] at g; exact g
  | ok l st1 =>
    rw [q] at g
    intro ι1 H1 m1 r1 p vs hp hn e1 r z
    have m2 : Mono ι H (ι1 ++ [p]) H1 := by
      refine ⟨fun n x hx => ?_, fun x hx hx0 => ?_, m1.keep⟩
      · have h2 := m1.pre n x hx
        rw [List.getElem?_append_left (List.getElem?_eq_some_iff.mp h2).1]
        exact h2
      · rcases List.mem_append.mp hx with h3 | h3
        · exact m1.fresh x h3 hx0
        · rw [List.mem_singleton] at h3
          rw [h3]
          exact hp
    have m3 : Mono (ι1 : List Addr) (fun x => if x = p then none else H1 x) (ι1 ++ [p]) H1 := by
      refine ⟨fun n x hx => ?_, fun x hx hx0 => ?_, fun x o hx hx0 => ?_⟩
      · rw [List.getElem?_append_left (List.getElem?_eq_some_iff.mp hx).1]
        exact hx
      · rcases List.mem_append.mp hx with h3 | h3
        · exact absurd h3 hx0
        · rw [List.mem_singleton] at h3
          simp [h3]
      · by_cases hxp : x = p
        · simp [hxp] at hx
        · simp [hxp] at hx
          exact ⟨o, hx, Kp.refl o⟩
    have keepO : ∀ (n : Nat) (o : Ob) (x : Addr), st1[n]? = some o → ι1[n]? = some x → RO W (ι1 ++ [p]) H1 x o := fun n o x h3 h4 => by
      have ro := r1.ob n o x h3 h4
      have mm : ∀ (ps : List PV) (ws : List V), RVs W ι1 H1 ws ps → RVs W (ι1 ++ [p]) H1 ws ps := fun ps ws rr => rvs_pre m3.pre ps ws rr
      cases o with
      | lst lk l =>
        cases lk with
        | false => obtain ⟨ws, q1, q2, q3⟩ := ro; exact ⟨ws, q1, mm _ _ q2, q3⟩
        | true => obtain ⟨o, ws, q1, q2, q3⟩ := ro; exact ⟨o, ws, q1, mm _ _ q2, q3⟩
      | dct lk l =>
        cases lk with
        | false => obtain ⟨ws, q1, q2⟩ := ro; exact ⟨ws, q1, rks_pre m3.pre q2⟩
        | true => obtain ⟨o, ws, q1, q2⟩ := ro; exact ⟨o, ws, q1, rks_pre m3.pre q2⟩
      | sti l => exact ro
    have r2 : RS W (ι1 ++ [p]) (st1 ++ [.lst false l]) H1 := by
      refine ⟨by rw [List.length_append, List.length_append, r1.len]; rfl, ?_, fun n o x h3 h4 => ?_, r1.tb, r1.tl⟩
      · rw [List.nodup_append]
        refine ⟨r1.nd, by simp, fun x hx y hy => ?_⟩
        rw [List.mem_singleton] at hy
        subst hy
        exact fun zz => hn (zz ▸ hx)
      · by_cases hlt : n < ι1.length
        · rw [List.getElem?_append_left hlt] at h4
          rw [List.getElem?_append_left (by rw [← r1.len]; exact hlt)] at h3
          exact keepO n o x h3 h4
        · have h5 : n < (ι1 ++ [p]).length := (List.getElem?_eq_some_iff.mp h4).1
          have e2 : n = ι1.length := by
            rw [List.length_append] at h5
            simp at h5
            omega
          subst e2
          rw [List.getElem?_append_right (Nat.le_refl _), Nat.sub_self] at h4
          rw [r1.len, List.getElem?_append_right (Nat.le_refl _), Nat.sub_self] at h3
          cases h3
          cases h4
          exact ⟨vs, e1, rvs_pre m3.pre _ _ r, z⟩
    refine g (ι1 ++ [p]) H1 m2 r2 (.ref p) (.loc ?_)
    rw [← r1.len, List.getElem?_append_right (Nat.le_refl _), Nat.sub_self]
    rfl
theorem de_l (h : DL X W k E e dl) : DE X W k E e (fun ρ => bnd (dl ρ) layL) := ⟨fun o => pe_imp (h.run o) fun _ _ _ t => lay_of t⟩

/-! ### truth -/
def truM (q : PV) : Mo Bool := fun st => match q with
  | .non => .ok false st
  | .bl b => .ok b st
  | .int i => .ok (i != 0) st
  | .str s => if s.length ≤ 16777216 then .ok ((s.length : Int) != 0) st else .stuck
  | .tup l => .ok (!l.isEmpty) st
  | .loc n => match st[n]? with
    | some (.lst _ l) => .ok (!l.isEmpty) st
    | some (.dct false l) => .ok (!l.isEmpty) st
    | _ => .stuck
  | .fn _ => .stuck
  | .kl _ => .stuck
theorem isEmpty_rvs {ι : List Addr} {H : Hp} {vs : List V} {ps : List PV} (r : RVs W ι H vs ps) : vs.isEmpty = ps.isEmpty := by cases r <;> rfl
theorem isEmpty_rks {ι : List Addr} {H : Hp} {vs : List (Key × V)} {ps : List (PV × PV)} (r : RKs W ι H vs ps) : vs.isEmpty = ps.isEmpty := by cases r <;> rfl
theorem tru_of {ι : List Addr} {st : Sto} {H : Hp} {v : V} {q : PV} {kk : Bool → Sto → List Addr → Hp → Prop} (rs : RS W ι st H) (r : RV W ι H v q) (g : Good W E ι H (truM q st) kk) : ∃ b, TruV W.K v H b ∧ kk b st ι H := by
  cases r with
  | non => exact ⟨false, rfl, g.ok rs⟩
  | bl b => exact ⟨b, rfl, g.ok rs⟩
  | int i => exact ⟨_, rfl, g.ok rs⟩
  | str s =>
    obtain ⟨hc, g1⟩ := good_if g
    exact ⟨_, ⟨line_le hc, rfl⟩, g1.ok rs⟩
  | tup sq rr z => exact ⟨_, .inr (.inl ⟨_, sq, rfl⟩), by rw [isEmpty_rvs rr]; exact g.ok rs⟩
  | fn => exact g.elim
  | kl => exact g.elim
  | loc hn =>
    rename_i n a
    unfold truM at g
    dsimp only at g
    cases q : st[n]? with
    | none => rw [q] at g; exact g.elim
    | some o =>
      rw [q] at g
      have ro := rs.ob n o a q hn
      cases o with
      | lst lk m =>
        obtain ⟨vs, h1, h2, h3⟩ := ro_sql ro
        exact ⟨_, .inl ⟨vs, h1, rfl⟩, by rw [isEmpty_rvs h2]; exact g.ok rs⟩
      | dct lk m =>
        cases lk with
        | true => exact g.elim
        | false =>
          obtain ⟨ks, h1, h2⟩ := ro
          exact ⟨_, .inr (.inr ⟨ks, h1, rfl⟩), by rw [isEmpty_rks h2]; exact g.ok rs⟩
      | sti m => exact g.elim
theorem dt_e (h : DE X W k E e d) (he : ∀ whole, isTrue e X.env whole = (do let v ← whole; standAt e.pos; holding [v] (truthy v)) := by intro _; rfl) : DT X W k E e (fun ρ => bnd (d ρ) truM) := ⟨fun o => pt_imp (pt_truth (h.run o) he) fun σ H Q t => by
  obtain ⟨ι, ρ, st, re, rs, g⟩ := t
  refine ⟨ι, ρ, st, re, rs, Good.imp (Good.bind g) fun q st1 ι1 H1 m1 r1 g1 v hv => ?_⟩
  rw [o.hK]
  exact tru_of r1 hv g1⟩
def blM (q : PV) : Mo Bool := fun st => match q with
  | .bl b => .ok b st
  | _ => .stuck
theorem bl_of {ι : List Addr} {st : Sto} {H : Hp} {v : V} {q : PV} {kk : Bool → Sto → List Addr → Hp → Prop} (rs : RS W ι st H) (r : RV W ι H v q) (g : Good W E ι H (blM q st) kk) : ∃ b, v = .bl b ∧ q = .bl b ∧ kk b st ι H := by
  cases r with
  | bl b => exact ⟨b, rfl, rfl, g.ok rs⟩
  | _ => exact g.elim
theorem dt_cmp {op : CmpOp} {r : R2} {f : PV → PV → Mo PV} (ho : On X W k E → OpR X (compareOp op) r) (hf : FOk W E r f) (ha : DE X W k E a da) (hb : DE X W k E b db) (hm : behindInMarks op b = false) : DT X W k E (.Compare a [op] [b] pos) (fun ρ => bnd (dBin f da db ρ) blM) :=
  ⟨fun o => pt_imp (pt_cmpR (ho o) (ha.run o) (hb.run o) hm) fun σ H Q t => by
    obtain ⟨ι, ρ, st, re, rs, g⟩ := t
    refine op_of hf ⟨ι, ρ, st, re, rs, Good.imp (Good.bind g) fun q st1 ι1 H1 m1 r1 g1 v hv => ?_⟩
    obtain ⟨b, rfl, _, q1⟩ := bl_of r1 hv g1
    exact ⟨b, rfl, q1⟩⟩
abbrev dB (de : Env → Mo PV) : Env → Mo Bool := fun ρ => bnd (de ρ) blM
theorem dt_lt (ha : DE X W k E a da) (hb : DE X W k E b db) : DT X W k E (.Compare a [.Lt] [b] pos) (dB (dBin oLt da db)) := dt_cmp (fun _ => op_lt) (fok_I fun _ _ _ _ => .bl _) ha hb (nomark _)
theorem dt_le (ha : DE X W k E a da) (hb : DE X W k E b db) : DT X W k E (.Compare a [.LtE] [b] pos) (dB (dBin oLe da db)) := dt_cmp (fun _ => op_le) (fok_I fun _ _ _ _ => .bl _) ha hb (nomark _)
theorem dt_gt (ha : DE X W k E a da) (hb : DE X W k E b db) : DT X W k E (.Compare a [.Gt] [b] pos) (dB (dBin oGt da db)) := dt_cmp (fun _ => op_gt) (fok_I fun _ _ _ _ => .bl _) ha hb (nomark _)
theorem dt_ge (ha : DE X W k E a da) (hb : DE X W k E b db) : DT X W k E (.Compare a [.GtE] [b] pos) (dB (dBin oGe da db)) := dt_cmp (fun _ => op_ge) (fok_I fun _ _ _ _ => .bl _) ha hb (nomark _)
theorem dt_eq (ha : DE X W k E a da) (hb : DE X W k E b db) : DT X W k E (.Compare a [.Eq] [b] pos) (dB (dBin (oEq false) da db)) :=
  dt_cmp (fun o => by rw [← o.hK]; exact op_eqP (by have := o.room.un; omega)) fok_eq ha hb (nomark _)
theorem dt_ne (ha : DE X W k E a da) (hb : DE X W k E b db) : DT X W k E (.Compare a [.NotEq] [b] pos) (dB (dBin (oEq true) da db)) :=
  dt_cmp (fun o => by rw [← o.hK]; exact op_neP (by have := o.room.un; omega)) fok_eq ha hb (nomark _)
theorem dt_isN {j : Nat} (ha : DE X W k E a da) : DT X W k E (.Compare a [.Is] [.Constant .none j p2] pos) (dB (dBin (fun p q => match q with | .non => oIsN false p q | _ => fail) da (dC .non))) :=
  dt_cmp (r := fun x y H Q => y = .non ∧ Q (.bl (if false = true then !decide (x = .non) else decide (x = .non))) H) (fun _ => by simpa using op_isN) (fok_isN (a := fun _ => true)) ha de_non (nomark _)
theorem dt_notN {j : Nat} (ha : DE X W k E a da) : DT X W k E (.Compare a [.IsNot] [.Constant .none j p2] pos) (dB (dBin (fun p q => match q with | .non => oIsN true p q | _ => fail) da (dC .non))) :=
  dt_cmp (r := fun x y H Q => y = .non ∧ Q (.bl (if true = true then !decide (x = .non) else decide (x = .non))) H) (fun _ => by simpa using op_notN) (fok_isN (a := fun _ => true)) ha de_non (nomark _)
theorem dt_isB (ha : DE X W k E a da) (hb : DE X W k E b db) : DT X W k E (.Compare a [.Is] [b] pos) (dB (dBin (oIsB false) da db)) :=
  dt_cmp (r := fun x y H Q => ∃ a b : Bool, x = .bl a ∧ y = .bl b ∧ Q (.bl (if false = true then !decide (a = b) else decide (a = b))) H) (fun _ => op_isBl) fok_isB ha hb (nomark _)
theorem dt_notB (ha : DE X W k E a da) (hb : DE X W k E b db) : DT X W k E (.Compare a [.IsNot] [b] pos) (dB (dBin (oIsB true) da db)) :=
  dt_cmp (r := fun x y H Q => ∃ a b : Bool, x = .bl a ∧ y = .bl b ∧ Q (.bl (if true = true then !decide (a = b) else decide (a = b))) H) (fun _ => op_notBl) fok_isB ha hb (nomark _)
/-! and, or, not -/
def dAndT (dt du : Env → Mo Bool) : Env → Mo Bool := fun ρ => bnd (dt ρ) fun b => if b = true then du ρ else fun st => .ok false st
def dOrT (dt du : Env → Mo Bool) : Env → Mo Bool := fun ρ => bnd (dt ρ) fun b => if b = true then fun st => .ok true st else du ρ
def dNotT (dt : Env → Mo Bool) : Env → Mo Bool := fun ρ => bnd (dt ρ) fun b => fun st => .ok (!b) st
theorem dt_w (h : DW X W k E e dt) : DT X W k E e dt := ⟨fun o => (h.run o).pt⟩
theorem dw_and1 (h : DT X W k E a dt) : DW X W k E (.BoolOp .And [a] pos) dt := ⟨fun o => pw_and1 (h.run o)⟩
theorem dw_or1 (h : DT X W k E a dt) : DW X W k E (.BoolOp .Or [a] pos) dt := ⟨fun o => pw_or1 (h.run o)⟩
theorem dw_and (h : DT X W k E a dt) (h2 : DW X W k E (.BoolOp .And (b :: rest) pos) du) : DW X W k E (.BoolOp .And (a :: b :: rest) pos) (dAndT dt du) := ⟨fun o => pw_imp (pw_and (h.run o) (h2.run o)) fun σ H Q t => by
  obtain ⟨ι, ρ, st, re, rs, g⟩ := t
  refine ⟨ι, ρ, st, re, rs, Good.imp (Good.bind g) fun b st1 ι1 H1 m1 r1 g1 => ?_⟩
  cases b with
  | true => exact ⟨ι1, ρ, st1, re.mono rs m1, r1, g1⟩
  | false => exact g1.ok r1⟩
theorem dw_or (h : DT X W k E a dt) (h2 : DW X W k E (.BoolOp .Or (b :: rest) pos) du) : DW X W k E (.BoolOp .Or (a :: b :: rest) pos) (dOrT dt du) := ⟨fun o => pw_imp (pw_or (h.run o) (h2.run o)) fun σ H Q t => by
  obtain ⟨ι, ρ, st, re, rs, g⟩ := t
  refine ⟨ι, ρ, st, re, rs, Good.imp (Good.bind g) fun b st1 ι1 H1 m1 r1 g1 => ?_⟩
  cases b with
  | false => exact ⟨ι1, ρ, st1, re.mono rs m1, r1, g1⟩
  | true => exact g1.ok r1⟩
theorem dt_not (h : DT X W k E a dt) : DT X W k E (.UnaryOp .Not a pos) (dNotT dt) := ⟨fun o => pt_imp (pt_not (h.run o)) fun σ H Q t => by
  obtain ⟨ι, ρ, st, re, rs, g⟩ := t
  exact ⟨ι, ρ, st, re, rs, Good.imp (Good.bind g) fun b st1 ι1 H1 m1 r1 g1 => g1.ok r1⟩⟩
def dAndV (da db : Env → Mo PV) : Env → Mo PV := fun ρ => bnd (da ρ) fun q => bnd (blM q) fun b => if b = true then db ρ else fun st => .ok (.bl false) st
def dOrV (da db : Env → Mo PV) : Env → Mo PV := fun ρ => bnd (da ρ) fun q => bnd (blM q) fun b => if b = true then fun st => .ok (.bl true) st else db ρ
def dNotV (da : Env → Mo PV) : Env → Mo PV := fun ρ => bnd (da ρ) fun q => bnd (blM q) fun b => fun st => .ok (.bl (!b)) st
theorem de_one {op : BoolOp} (h : DE X W k E a d) : DE X W k E (.BoolOp op [a] pos) d := ⟨fun o => pe_one (h.run o)⟩
theorem de_and (h : DE X W k E a da) (h2 : DE X W k E (.BoolOp .And (b :: rest) pos) db) : DE X W k E (.BoolOp .And (a :: b :: rest) pos) (dAndV da db) := ⟨fun o => pe_imp (pe_and (h.run o) (h2.run o)) fun σ H Q t => by
  obtain ⟨ι, ρ, st, re, rs, g⟩ := t
  refine ⟨ι, ρ, st, re, rs, Good.imp (Good.bind g) fun q st1 ι1 H1 m1 r1 g1 v hv => ?_⟩
  obtain ⟨b, rfl, rfl, g2⟩ := bl_of r1 hv (Good.bind g1)
  refine ⟨b, rfl, ?_⟩
  cases b with
  | true => exact ⟨ι1, ρ, st1, re.mono rs m1, r1, g2⟩
  | false => exact g2.ok r1 _ (.bl false)⟩
theorem de_or (h : DE X W k E a da) (h2 : DE X W k E (.BoolOp .Or (b :: rest) pos) db) : DE X W k E (.BoolOp .Or (a :: b :: rest) pos) (dOrV da db) := ⟨fun o => pe_imp (pe_or (h.run o) (h2.run o)) fun σ H Q t => by
  obtain ⟨ι, ρ, st, re, rs, g⟩ := t
  refine ⟨ι, ρ, st, re, rs, Good.imp (Good.bind g) fun q st1 ι1 H1 m1 r1 g1 v hv => ?_⟩
  obtain ⟨b, rfl, rfl, g2⟩ := bl_of r1 hv (Good.bind g1)
  refine ⟨b, rfl, ?_⟩
  cases b with
  | false => exact ⟨ι1, ρ, st1, re.mono rs m1, r1, g2⟩
  | true => exact g2.ok r1 _ (.bl true)⟩
theorem de_not (h : DE X W k E a da) : DE X W k E (.UnaryOp .Not a pos) (dNotV da) := ⟨fun o => pe_imp (pe_not (h.run o)) fun σ H Q t => by
  obtain ⟨ι, ρ, st, re, rs, g⟩ := t
  refine ⟨ι, ρ, st, re, rs, Good.imp (Good.bind g) fun q st1 ι1 H1 m1 r1 g1 v hv => ?_⟩
  obtain ⟨b, rfl, rfl, g2⟩ := bl_of r1 hv (Good.bind g1)
  exact ⟨b, rfl, g2.ok r1 _ (.bl _)⟩⟩
def dIf (dt : Env → Mo Bool) (da db : Env → Mo PV) : Env → Mo PV := fun ρ => bnd (dt ρ) fun b => if b = true then da ρ else db ρ
theorem de_if (h : DT X W k E c dt) (ha : DE X W k E a da) (hb : DE X W k E b db) : DE X W k E (.IfExp c a b pos) (dIf dt da db) := ⟨fun o => pe_imp (pe_ifExp (h.run o) (ha.run o) (hb.run o)) fun σ H Q t => by
  obtain ⟨ι, ρ, st, re, rs, g⟩ := t
  refine ⟨ι, ρ, st, re, rs, Good.imp (Good.bind g) fun b st1 ι1 H1 m1 r1 g1 => ?_⟩
  cases b with
  | true => exact ⟨ι1, ρ, st1, re.mono rs m1, r1, g1⟩
  | false => exact ⟨ι1, ρ, st1, re.mono rs m1, r1, g1⟩⟩
/-- a op b op' c -/
def dChain (f f' : PV → PV → Mo PV) (da db dc : Env → Mo PV) : Env → Mo PV := fun ρ => bnd (da ρ) fun p => bnd (db ρ) fun q => bnd (f p q) fun z => bnd (blM z) fun b => if b = true then bnd (dc ρ) fun w => f' q w else fun st => .ok (.bl false) st
theorem de_chain {op op' : CmpOp} {r r' : R2} {f f' : PV → PV → Mo PV} (ho : On X W k E → OpR X (compareOp op) r) (hf : FOk W E r f) (ho' : On X W k E → OpR X (compareOp op') r') (hf' : FOk W E r' f') (ha : DE X W k E a da) (hb : DE X W k E b db) (hc : DE X W k E c dc)
    (hm : lastMarks [op, op'] [b, c] = false := by with_unfolding_all rfl) : DE X W k E (.Compare a [op, op'] [b, c] pos) (dChain f f' da db dc) := ⟨fun o => pe_imp (pe_chain (ho o) (ho' o) (ha.run o) (hb.run o) (hc.run o) hm) fun σ H Q t => by
  obtain ⟨ι, ρ, st, re, rs, g⟩ := t
  refine ⟨ι, ρ, st, re, rs, Good.imp (Good.bind g) fun p st1 ι1 H1 m1 r1 g1 v1 hv1 => ?_⟩
  refine ⟨ι1, ρ, st1, re.mono rs m1, r1, Good.imp (Good.bind g1) fun q st2 ι2 H2 m2 r2 g2 v2 hv2 => ?_⟩
  refine hf ι2 st2 H2 v1 v2 p q _ r2 (rv_mono r1 m2 p v1 hv1) hv2 (Good.imp (Good.bind g2) fun z st3 ι3 H3 m3 r3 g3 v3 hv3 => ?_)
  obtain ⟨b, rfl, rfl, g4⟩ := bl_of r3 hv3 (Good.bind g3)
  refine ⟨b, rfl, ?_⟩
  cases b with
  | false => exact g4.ok r3 _ (.bl false)
  | true =>
    refine ⟨ι3, ρ, st3, ((re.mono rs m1).mono r1 m2).mono r2 m3, r3, Good.imp (Good.bind g4) fun w st4 ι4 H4 m4 r4 g5 v4 hv4 => ?_⟩
    exact hf' ι4 st4 H4 v2 v4 q w Q r4 (rv_mono r3 m4 q v2 (rv_mono r2 m3 q v2 hv2)) hv4 g5⟩
theorem de_leLe (ha : DE X W k E a da) (hb : DE X W k E b db) (hc : DE X W k E c dc) (hm : lastMarks [.LtE, .LtE] [b, c] = false := by with_unfolding_all rfl) : DE X W k E (.Compare a [.LtE, .LtE] [b, c] pos) (dChain oLe oLe da db dc) :=
  de_chain (fun _ => op_le) (fok_I fun _ _ _ _ => .bl _) (fun _ => op_le) (fok_I fun _ _ _ _ => .bl _) ha hb hc hm
theorem de_leLt (ha : DE X W k E a da) (hb : DE X W k E b db) (hc : DE X W k E c dc) (hm : lastMarks [.LtE, .Lt] [b, c] = false := by with_unfolding_all rfl) : DE X W k E (.Compare a [.LtE, .Lt] [b, c] pos) (dChain oLe oLt da db dc) :=
  de_chain (fun _ => op_le) (fok_I fun _ _ _ _ => .bl _) (fun _ => op_lt) (fok_I fun _ _ _ _ => .bl _) ha hb hc hm

/-! ### arguments -/
theorem da_nil : DA X W k E [] (fun _ st => .ok [] st) := ⟨fun o => pa_imp pa_nil fun σ H Q t => by
  obtain ⟨ι, ρ, st, re, rs, g⟩ := t
  exact g.ok rs [] .nil⟩
def dCons (da : Env → Mo PV) (dl : Env → Mo (List PV)) : Env → Mo (List PV) := fun ρ => bnd (da ρ) fun p => bnd (dl ρ) fun ps => fun st => .ok (p :: ps) st
theorem da_cons (h : DE X W k E e d) (hr : DA X W k E es dl) (hs : starEach (e :: es) X.env = (false, eval e X.env) :: starEach es X.env := by rfl) : DA X W k E (e :: es) (dCons d dl) := ⟨fun o => pa_imp (pa_cons (h.run o) (hr.run o) hs) fun σ H Q t => by
  obtain ⟨ι, ρ, st, re, rs, g⟩ := t
  refine ⟨ι, ρ, st, re, rs, Good.imp (Good.bind g) fun p st1 ι1 H1 m1 r1 g1 v1 hv1 => ?_⟩
  refine ⟨ι1, ρ, st1, re.mono rs m1, r1, Good.imp (Good.bind g1) fun ps st2 ι2 H2 m2 r2 g2 vs hvs => ?_⟩
  exact g2.ok r2 _ (.cons (rv_mono r1 m2 p v1 hv1) hvs)⟩
/-- (a, b, ..) -/
def tupM (l : List PV) : Mo PV := fun st => if l.length ≤ 16777216 then .ok (.tup l) st else .stuck
theorem de_tup {x1 : Nat} (h : DA X W k E es dl) : DE X W k E (.Tuple es x1 pos) (fun ρ => bnd (dl ρ) tupM) := ⟨fun o => pe_imp (pe_tup (h.run o)) fun σ H Q t => by
  obtain ⟨ι, ρ, st, re, rs, g⟩ := t
  refine ⟨ι, ρ, st, re, rs, Good.imp (Good.bind g) fun l st1 ι1 H1 m1 r1 g1 vs hvs => ?_⟩
  obtain ⟨hc, g2⟩ := good_if g1
  exact ⟨line_le (by rw [hvs.length]; exact hc), fun p hp => good_newtup g2 r1 hvs hc hp⟩⟩
def capM (l : List PV) : Mo (List PV) := fun st => if l.length ≤ 16777216 then .ok l st else .stuck
/-- a new list that the store does not tell: it stands at p, which was free -/
theorem good_newlst {ι : List Addr} {st : Sto} {H H0 : Hp} {Q : VK} {l : List PV} {vs : List V} {p : Addr} (g : Good W E ι H (.ok l st) (kL W H0 Q)) (rs : RS W ι st H) (r : RVs W ι H vs l) (hz : l.length ≤ 16777216) (hp : H p = none) (hp0 : H0 p = none) : Q (.ref p) (upd H p (.lst vs)) := by
  have m : Mono ι H ι (upd H p (.lst vs)) := Mono.new hp
  refine g ι _ m (rs.other hp) p vs hp0 (fun z => ?_) upd_same (rvs_mono rs m _ _ r) hz
  obtain ⟨n, o, _, _, ro⟩ := rs.at_ z
  obtain ⟨u, e, _⟩ := ro.there
  rw [hp] at e
  cases e
theorem none_back {ι ι1 : List Addr} {H H1 : Hp} {p : Addr} {st : Sto} (rs : RS W ι st H) (m : Mono ι H ι1 H1) (r1 : ∀ a ∈ ι1, H1 a ≠ none) (h : H1 p = none) : H p = none := by
  cases q : H p with
  | none => rfl
  | some o =>
    by_cases hp : p ∈ ι
    · obtain ⟨n, hn⟩ := List.getElem?_of_mem hp
      exact absurd h (r1 p (List.mem_of_getElem? (m.pre n p hn)))
    · obtain ⟨o', e, _⟩ := m.keep p o q hp
      rw [h] at e
      cases e
theorem RS.some_ {ι : List Addr} {st : Sto} {H : Hp} (rs : RS W ι st H) : ∀ a ∈ ι, H a ≠ none := fun a ha z => by
  obtain ⟨n, o, _, _, ro⟩ := rs.at_ ha
  obtain ⟨u, e, _⟩ := ro.there
  rw [z] at e
  cases e
theorem dl_lst (h : DA X W k E es dl) : DL X W k E (.List es pos) (fun ρ => bnd (dl ρ) capM) := ⟨fun o => pe_imp (pe_lst (h.run o)) fun σ H Q t => by
  obtain ⟨ι, ρ, st, re, rs, g⟩ := t
  refine ⟨ι, ρ, st, re, rs, Good.imp (Good.bind g) fun l st1 ι1 H1 m1 r1 g1 vs hvs => ?_⟩
  obtain ⟨hc, g2⟩ := good_if g1
  exact ⟨line_le (by rw [hvs.length]; exact hc), fun p hp => good_newlst g2 r1 hvs hc hp (none_back rs m1 r1.some_ hp)⟩⟩
end
end PD
/-! PD: len, items, slices, isinstance, calls of built-ins and of defs. -/
namespace PD
open PySem PySem.Spec PyProof.Rows L2
section
variable {X : Cx} {W : Wd} {k : Nat} {E : XK} {a b c e : Expr} {es rest : List Expr} {pos p p2 : Pos} {da db dc d : Env → Mo PV} {dt du : Env → Mo Bool} {dl dm : Env → Mo (List PV)}

/-! ### built-ins of one sequence -/
def tQ1 (tq : TE) : TA := tCons tq tNil
def COk1 (W : Wd) (E : XK) (r : List V → Hp → VK → Prop) (f : List PV → Mo PV) : Prop := ∀ (ι : List Addr) (st : Sto) (H : Hp) (v : V) (vs : List V) (l : List PV) (Q : VK), RS W ι st H → IsSq W.K H v vs → RVs W ι H vs l → l.length ≤ 16777216 → Good W E ι H (f l st) (kQ W Q) → r [v] H Q
theorem cb_of {r : List V → Hp → VK → Prop} {f : List PV → Mo PV} (hf : COk1 W E r f) {σ : L2.St} {H : Hp} {Q : VK} (t : tD W E (fun ρ => bnd (dl ρ) f) σ H Q) : tCB r (tCons (tDQ W E dl) tNil) σ H Q := by
  obtain ⟨ι, ρ, st, re, rs, g⟩ := t
  exact ⟨ι, ρ, st, re, rs, Good.imp (Good.bind g) fun l st1 ι1 H1 m1 r1 g1 v vs hv r z => hf ι1 st1 H1 v vs l Q r1 hv r z g1⟩
theorem de_b1 {id : String} {x : Str} {r : List V → Hp → VK → Prop} {f : List PV → Mo PV} (hc : On X W k E → CallR X (.builtin id) r) (hf : COk1 W E r f) (hv : bootBuiltins x = some (.builtin id)) (hn : x ≠ "__name__") (hdb : (x == ("__debug__" : Str)) = false)
    (hg : Gl X x) (hm : W.mg x = none) (hq : DQ X W k E e dl) (hs : starEach [e] X.env = (false, eval e X.env) :: starEach [] X.env := by rfl) : DE X W k E (.Call (.Name x p) [e] [] pos) (fun ρ => bnd (dl ρ) f) :=
  ⟨fun o => pe_imp (pe_callB (hc o) hg (by rw [o.hM]; exact hm) hv (pa_cons (hq.run o) pa_nil hs) hn hdb hs (by rfl)) fun _ _ _ t => cb_of hf t⟩
theorem de_t1 {T : String} {x : Str} {r : List V → Hp → VK → Prop} {f : List PV → Mo PV} (hc : On X W k E → CallR X (.type T) r) (hf : COk1 W E r f) (hv : bootBuiltins x = some (.type T)) (hn : x ≠ "__name__") (hdb : (x == ("__debug__" : Str)) = false)
    (hg : Gl X x) (hm : W.mg x = none) (hq : DQ X W k E e dl) (hs : starEach [e] X.env = (false, eval e X.env) :: starEach [] X.env := by rfl) : DE X W k E (.Call (.Name x p) [e] [] pos) (fun ρ => bnd (dl ρ) f) :=
  ⟨fun o => pe_imp (pe_callTy (hc o) hg (by rw [o.hM]; exact hm) hv (pa_cons (hq.run o) pa_nil hs) hn hdb hs (by rfl)) fun _ _ _ t => cb_of hf t⟩
/-- .. whose answer is a new list -/
def COkL (W : Wd) (E : XK) (r : List V → Hp → VK → Prop) (f : List PV → Mo (List PV)) : Prop := ∀ (ι : List Addr) (st : Sto) (H H0 : Hp) (v : V) (vs : List V) (l : List PV) (Q : VK), RS W ι st H → (∀ q, H q = none → H0 q = none) → IsSq W.K H v vs → RVs W ι H vs l → l.length ≤ 16777216 → Good W E ι H (f l st) (kL W H0 Q) → r [v] H Q
theorem cbL_of {r : List V → Hp → VK → Prop} {f : List PV → Mo (List PV)} (hf : COkL W E r f) {σ : L2.St} {H : Hp} {Q : VK} (t : tDL W E (fun ρ => bnd (dl ρ) f) σ H Q) : tCB r (tCons (tDQ W E dl) tNil) σ H Q := by
  obtain ⟨ι, ρ, st, re, rs, g⟩ := t
  exact ⟨ι, ρ, st, re, rs, Good.imp (Good.bind g) fun l st1 ι1 H1 m1 r1 g1 v vs hv r z => hf ι1 st1 H1 H v vs l Q r1 (fun q hq => none_back rs m1 r1.some_ hq) hv r z g1⟩
theorem dl_b1 {id : String} {x : Str} {r : List V → Hp → VK → Prop} {f : List PV → Mo (List PV)} (hc : On X W k E → CallR X (.builtin id) r) (hf : COkL W E r f) (hv : bootBuiltins x = some (.builtin id)) (hn : x ≠ "__name__") (hdb : (x == ("__debug__" : Str)) = false)
    (hg : Gl X x) (hm : W.mg x = none) (hq : DQ X W k E e dl) (hs : starEach [e] X.env = (false, eval e X.env) :: starEach [] X.env := by rfl) : DL X W k E (.Call (.Name x p) [e] [] pos) (fun ρ => bnd (dl ρ) f) :=
  ⟨fun o => pe_imp (pe_callB (hc o) hg (by rw [o.hM]; exact hm) hv (pa_cons (hq.run o) pa_nil hs) hn hdb hs (by rfl)) fun _ _ _ t => cbL_of hf t⟩
theorem dl_t1 {T : String} {x : Str} {r : List V → Hp → VK → Prop} {f : List PV → Mo (List PV)} (hc : On X W k E → CallR X (.type T) r) (hf : COkL W E r f) (hv : bootBuiltins x = some (.type T)) (hn : x ≠ "__name__") (hdb : (x == ("__debug__" : Str)) = false)
    (hg : Gl X x) (hm : W.mg x = none) (hq : DQ X W k E e dl) (hs : starEach [e] X.env = (false, eval e X.env) :: starEach [] X.env := by rfl) : DL X W k E (.Call (.Name x p) [e] [] pos) (fun ρ => bnd (dl ρ) f) :=
  ⟨fun o => pe_imp (pe_callTy (hc o) hg (by rw [o.hM]; exact hm) hv (pa_cons (hq.run o) pa_nil hs) hn hdb hs (by rfl)) fun _ _ _ t => cbL_of hf t⟩

/-! len -/
def rLenQ (K : PySem.W.Frag) : List V → Hp → VK → Prop := fun xs H Q => ∃ p ys, xs = [.ref p] ∧ (SqL K H p ys ∨ SqT K H p ys) ∧ Q (.int ys.length) H
def rListQ (K : PySem.W.Frag) : List V → Hp → VK → Prop := fun xs H Q => ∃ p ys, xs = [.ref p] ∧ (SqL K H p ys ∨ SqT K H p ys) ∧ ∀ l, H l = none → Q (.ref l) (upd H l (.lst ys))
def rTupQ (K : PySem.W.Frag) : List V → Hp → VK → Prop := fun xs H Q => ∃ p ys, xs = [.ref p] ∧ ((SqL K H p ys ∧ ∀ l, H l = none → Q (.ref l) (upd H l (.tup ys))) ∨ (SqT K H p ys ∧ Q (.ref p) H))
def lenQ (l : List PV) : Mo PV := fun st => .ok (.int l.length) st
theorem de_lenQ (hq : DQ X W k E e dl) (hg : Gl X "len") (hm : W.mg "len" = none) (hs : starEach [e] X.env = (false, eval e X.env) :: starEach [] X.env := by rfl) : DE X W k E (.Call (.Name "len" p) [e] [] pos) (fun ρ => bnd (dl ρ) lenQ) :=
  de_b1 (r := rLenQ W.K) (fun o => by rw [← o.hK]; exact call_len_seq) (fun ι st H v vs l Q rs hv r z g => by
    obtain ⟨q, rfl, hq⟩ := hv
    refine ⟨q, vs, rfl, hq, ?_⟩
    rw [r.length]
    exact g.ok rs _ (.int _)) PySem.boot_len (by decide) (by decide) hg hm hq hs
/-- of a text, too -/
def lenM (q : PV) : Mo PV := fun st => match q with
  | .str s => if s.length ≤ 16777216 then .ok (.int s.length) st else .stuck
  | q => match seqOf st q with
    | some l => .ok (.int l.length) st
    | none => .stuck
theorem de_lenV (h : DE X W k E e d) (hg : Gl X "len") (hm : W.mg "len" = none) (hs : starEach [e] X.env = (false, eval e X.env) :: starEach [] X.env := by rfl) : DE X W k E (.Call (.Name "len" p) [e] [] pos) (fun ρ => bnd (d ρ) lenM) :=
  ⟨fun o => pe_imp (pe_callB (call_len (X := X)) hg (by rw [o.hM]; exact hm) PySem.boot_len (pa_cons (h.run o) pa_nil hs) (by decide) (by decide) hs (by rfl)) fun σ H Q t => by
    obtain ⟨ι, ρ, st, re, rs, g⟩ := t
    refine ⟨ι, ρ, st, re, rs, Good.imp (Good.bind g) fun q st1 ι1 H1 m1 r1 g1 v hv => ?_⟩
    have gen : ∀ l, seqOf st1 q = some l → Good W E ι1 H1 (.ok (.int l.length) st1) (kQ W Q) → ∃ x n, [v] = [x] ∧ LenV X.K x H1 n ∧ Q (.int n) H1 := fun l hl g2 => by
      obtain ⟨vs, ⟨w, rfl, hw⟩, h2, _⟩ := seq_sq r1 hv hl
      refine ⟨_, l.length, rfl, ?_, g2.ok r1 _ (.int _)⟩
      rw [o.hK]
      rcases hw with hw | hw
      · exact .inl ⟨vs, hw, h2.length.symm⟩
      · exact .inr ⟨vs, hw, h2.length.symm⟩
    cases hv with
    | str s =>
      obtain ⟨hc, g2⟩ := good_if g1
      exact ⟨_, _, rfl, ⟨line_le hc, rfl⟩, g2.ok r1 _ (.int _)⟩
    | tup sq rr z => exact gen _ rfl g1
    | loc hn =>
      rename_i n a
      have g2 : Good W E ι1 H1 (match seqOf st1 (.loc n) with | some l => .ok (.int l.length) st1 | none => .stuck) (kQ W Q) := g1
      cases hl : seqOf st1 (.loc n) with
      | none => rw [hl] at g2; exact g2.elim
      | some l => rw [hl] at g2; exact gen l hl g2
    | non => exact g1.elim
    | bl => exact g1.elim
    | int => exact g1.elim
    | fn => exact g1.elim
    | kl hk z => exact gen _ rfl g1⟩

/-! ### items -/
theorem atI_rv {ι : List Addr} {H : Hp} {vs : List V} {l : List PV} {i : Int} {q : PV} (r : RVs W ι H vs l) (h : atI l i = some q) : ∃ v, atI vs i = some v ∧ RV W ι H v q := by
  unfold atI at h ⊢
  rw [r.length]
  cases hj : ixN l.length i with
  | none => rw [hj] at h; cases h
  | some j =>
    rw [hj] at h
    exact r.get h
def oIx (q i : PV) : Mo PV := fun st => match i with
  | .int i => match seqOf st q with
    | some l => match atI l i with
      | some z => .ok z st
      | none => .stuck
    | none => .stuck
  | _ => .stuck
theorem fok_ix : FOk W E (rIx W.K) oIx := by
  intro ι st H x y q i Q rs hx hy g
  cases hy <;> first
    | exact g.elim
    | (rename_i i
       have g2 : Good W E ι H (match seqOf st q with | some l => (match atI l i with | some z => .ok z st | none => .stuck) | none => .stuck) (kQ W Q) := g
       cases hl : seqOf st q with
       | none => rw [hl] at g2; exact g2.elim
       | some l =>
         rw [hl] at g2
         dsimp only at g2
         cases hz : atI l i with
         | none => rw [hz] at g2; exact g2.elim
         | some z =>
           rw [hz] at g2
           obtain ⟨vs, ⟨w, rfl, hw⟩, h2, _⟩ := seq_sq rs hx hl
           obtain ⟨v, hv, rv⟩ := atI_rv h2 hz
           rcases hw with hw | hw
           · exact .inl ⟨w, vs, i, v, rfl, rfl, hw, hv, g2.ok rs v rv⟩
           · exact .inr (.inl ⟨w, vs, i, v, rfl, rfl, hw, hv, g2.ok rs v rv⟩))
theorem de_ix (ha : DE X W k E a da) (hb : DE X W k E b db) (hs : PlainIx b := by intro _ _; rfl) : DE X W k E (.Subscript a b pos) (dBin oIx da db) :=
  ⟨fun o => pe_imp (pe_ix (by rw [← o.hK]; exact ix_seq) (ha.run o) (hb.run o) hs) fun _ _ _ h => op_of fok_ix h⟩
/-- .. of a list that is made on the way -/
def ixQ (l : List PV) (i : PV) : Mo PV := fun st => match i with
  | .int i => match atI l i with
    | some z => .ok z st
    | none => .stuck
  | _ => .stuck
theorem lst_mono {ι ι' : List Addr} {H H' : Hp} {q : Addr} {vs : List V} (m : Mono ι H ι' H') (hn : q ∉ ι) (e : H q = some (.lst vs)) : H' q = some (.lst vs) := by
  obtain ⟨o', e', kp⟩ := m.keep q _ e hn
  rcases kp with rfl | ⟨_, _, z, _⟩
  · exact e'
  · cases z
theorem de_ixL (ha : DL X W k E a dl) (hb : DE X W k E b db) (hs : PlainIx b := by intro _ _; rfl) : DE X W k E (.Subscript a b pos) (fun ρ => bnd (dl ρ) fun l => bnd (db ρ) fun i => ixQ l i) :=
  ⟨fun o => pe_imp (pe_ix (r := rIxL W.K) (by rw [← o.hK]; exact ix_list) (ha.run o) (hb.run o) hs) fun σ H Q t => by
    obtain ⟨ι, ρ, st, re, rs, g⟩ := t
    refine ⟨ι, ρ, st, re, rs, Good.imp (Good.bind g) fun l st1 ι1 H1 m1 r1 g1 q vs hq0 hn e1 r z => ?_⟩
    refine ⟨ι1, ρ, st1, re.mono rs m1, r1, Good.imp (Good.bind g1) fun i st2 ι2 H2 m2 r2 g2 w hw => ?_⟩
    cases hw <;> first
      | exact g2.elim
      | (rename_i i
         have g3 : Good W E ι2 H2 (match atI l i with | some z => .ok z st2 | none => .stuck) (kQ W Q) := g2
         cases hz : atI l i with
         | none => rw [hz] at g3; exact g3.elim
         | some y =>
           rw [hz] at g3
           obtain ⟨v, hv, rv⟩ := atI_rv (rvs_mono r1 m2 _ _ r) hz
           exact ⟨q, vs, i, v, rfl, rfl, SqL.of (lst_mono m2 hn e1), hv, g3.ok r2 v rv⟩)⟩

/-! ### slices -/
def tDO (W : Wd) (E : XK) (d : Env → Mo (Option Int)) : TO := fun σ H Q => ∃ ι ρ st, RE W ι H ρ σ ∧ RS W ι st H ∧ Good W E ι H (d ρ st) (fun o _ _ H' => Q o H')
structure DO (X : Cx) (W : Wd) (k : Nat) (E : XK) (e : Option Expr) (d : Env → Mo (Option Int)) : Prop where
  run : On X W k E → PO X e (tDO W E d)
theorem po_imp {eo : Option Expr} {t t' : TO} (h : PO X eo t) (hi : ∀ σ H Q, t' σ H Q → t σ H Q) : PO X eo t' := ⟨fun pins s σ H Q I w => h.run pins s σ H Q I (hi σ H Q w)⟩
theorem do_none : DO X W k E none (fun _ st => .ok none st) := ⟨fun o => po_imp po_none fun σ H Q t => by
  obtain ⟨ι, ρ, st, re, rs, g⟩ := t
  exact g.ok rs⟩
def intM (q : PV) : Mo (Option Int) := fun st => match q with
  | .int i => .ok (some i) st
  | _ => .stuck
theorem do_some (h : DE X W k E e d) : DO X W k E (some e) (fun ρ => bnd (d ρ) intM) := ⟨fun o => po_imp (po_some (h.run o)) fun σ H Q t => by
  obtain ⟨ι, ρ, st, re, rs, g⟩ := t
  refine ⟨ι, ρ, st, re, rs, Good.imp (Good.bind g) fun q st1 ι1 H1 m1 r1 g1 v hv => ?_⟩
  cases hv <;> first
    | exact ⟨_, rfl, g1.ok r1⟩
    | exact g1.elim⟩
def cutP (l : List PV) (lo hi : Option Int) : List PV := (l.drop (HT.sIx l.length 0 lo)).take (HT.sIx l.length l.length hi - HT.sIx l.length 0 lo)
theorem cutP_len (l : List PV) (lo hi : Option Int) : (cutP l lo hi).length ≤ l.length := by
  unfold cutP
  rw [List.length_take, List.length_drop]
  omega
theorem cut_rv {ι : List Addr} {H : Hp} {vs : List V} {l : List PV} (lo hi : Option Int) (r : RVs W ι H vs l) : RVs W ι H (cutV vs lo hi) (cutP l lo hi) := by
  unfold cutV cutP
  rw [r.length]
  exact (r.drop _).take _
def dSl (d : Env → Mo PV) (d1 d2 : Env → Mo (Option Int)) (f : PV → Option Int → Option Int → Mo PV) : Env → Mo PV := fun ρ => bnd (d ρ) fun q => bnd (d1 ρ) fun lo => bnd (d2 ρ) fun hi => f q lo hi
def slT (q : PV) (lo hi : Option Int) : Mo PV := fun st => match q with
  | .tup l => .ok (.tup (cutP l lo hi)) st
  | _ => .stuck
theorem de_slT {lo hi : Option Expr} {d1 d2 : Env → Mo (Option Int)} (h : DE X W k E e d) (h1 : DO X W k E lo d1) (h2 : DO X W k E hi d2) : DE X W k E (.Subscript e (.Slice lo hi none p2) pos) (dSl d d1 d2 slT) :=
  ⟨fun o => pe_imp (pe_slice (r := rSlA W.K) (by rw [← o.hK]; exact sl_tupA) (h.run o) (h1.run o) (h2.run o)) fun σ H Q t => by
    obtain ⟨ι, ρ, st, re, rs, g⟩ := t
    refine ⟨ι, ρ, st, re, rs, Good.imp (Good.bind g) fun q st1 ι1 H1 m1 r1 g1 v hv => ?_⟩
    refine ⟨ι1, ρ, st1, re.mono rs m1, r1, Good.imp (Good.bind g1) fun lo st2 ι2 H2 m2 r2 g2 => ?_⟩
    refine ⟨ι2, ρ, st2, (re.mono rs m1).mono r1 m2, r2, Good.imp (Good.bind g2) fun hi st3 ι3 H3 m3 r3 g3 => ?_⟩
    have hv3 := rv_mono r2 m3 q v (rv_mono r1 m2 q v hv)
    cases hv3 <;> first
      | exact g3.elim
      | (rename_i a vs l sq rr z
         refine ⟨a, vs, rfl, sq, fun hw => ?_, fun _ w hw => ?_⟩
         · have e1 : cutP l lo hi = l := by
             unfold cutP
             rw [← rr.length, hw.1, hw.2]
             simp [rr.length]
           have g4 : Good W E ι3 H3 (.ok (.tup (cutP l lo hi)) st3) (kQ W Q) := g3
           rw [e1] at g4
           exact g4.ok r3 _ (.tup sq rr z)
         · exact good_newtup g3 r3 (cut_rv lo hi rr) (Nat.le_trans (cutP_len l lo hi) z) hw)⟩
/-- a slice of a list: a new one -/
def lstM (q : PV) : Mo (List PV) := fun st => match q with
  | .loc n => match st[n]? with
    | some (.lst _ l) => .ok l st
    | _ => .stuck
  | .kl ns => .ok (ns.map PV.int) st
  | _ => .stuck
theorem lst_of {α : Type} {ι : List Addr} {st : Sto} {H : Hp} {v : V} {q : PV} {kk : List PV → Sto → List Addr → Hp → Prop} (rs : RS W ι st H) (r : RV W ι H v q) (g : Good W E ι H (lstM q st) kk) : ∃ a vs l, v = .ref a ∧ SqL W.K H a vs ∧ RVs W ι H vs l ∧ l.length ≤ 16777216 ∧ kk l st ι H := by
  cases r with
  | loc hn =>
    rename_i n a
    unfold lstM at g
    dsimp only at g
    cases q : st[n]? with
    | none => rw [q] at g; exact g.elim
    | some o =>
      rw [q] at g
      cases o with
      | lst lk m =>
        obtain ⟨vs, h1, h2, h3⟩ := ro_sql (rs.ob n _ a q hn)
        exact ⟨a, vs, m, rfl, h1, h2, h3, g.ok rs⟩
      | dct _ _ => exact g.elim
      | sti _ => exact g.elim
  | kl hk z => exact ⟨_, _, _, rfl, .inr hk, RVs.ints _, by rw [List.length_map]; exact z, g.ok rs⟩
  | _ => exact g.elim
def dSlL (d : Env → Mo PV) (d1 d2 : Env → Mo (Option Int)) : Env → Mo (List PV) := fun ρ => bnd (d ρ) fun q => bnd (d1 ρ) fun lo => bnd (d2 ρ) fun hi => bnd (lstM q) fun l => fun st => .ok (cutP l lo hi) st
theorem dl_sl {lo hi : Option Expr} {d1 d2 : Env → Mo (Option Int)} (h : DE X W k E e d) (h1 : DO X W k E lo d1) (h2 : DO X W k E hi d2) : DL X W k E (.Subscript e (.Slice lo hi none p2) pos) (dSlL d d1 d2) :=
  ⟨fun o => pe_imp (pe_slice (r := rSlL W.K) (by rw [← o.hK]; exact sl_list) (h.run o) (h1.run o) (h2.run o)) fun σ H Q t => by
    obtain ⟨ι, ρ, st, re, rs, g⟩ := t
    refine ⟨ι, ρ, st, re, rs, Good.imp (Good.bind g) fun q st1 ι1 H1 m1 r1 g1 v hv => ?_⟩
    refine ⟨ι1, ρ, st1, re.mono rs m1, r1, Good.imp (Good.bind g1) fun lo st2 ι2 H2 m2 r2 g2 => ?_⟩
    refine ⟨ι2, ρ, st2, (re.mono rs m1).mono r1 m2, r2, Good.imp (Good.bind g2) fun hi st3 ι3 H3 m3 r3 g3 => ?_⟩
    have hv3 := rv_mono r2 m3 q v (rv_mono r1 m2 q v hv)
    obtain ⟨a, vs, l, rfl, sq, rr, z, g4⟩ := lst_of (α := Nat) r3 hv3 (Good.bind g3)
    exact ⟨a, vs, rfl, sq, fun w hw => good_newlst g4 r3 (cut_rv lo hi rr) (Nat.le_trans (cutP_len l lo hi) z) hw (none_back rs ((m1.trans m2).trans m3) r3.some_ hw)⟩⟩

/-! ### isinstance -/
inductive Kd where
  | non | bl | int | str | tup | lst | dct
  deriving DecidableEq
def Kd.ty : Kd → String
  | .non => "NoneType"
  | .bl => "bool"
  | .int => "int"
  | .str => "str"
  | .tup => "tuple"
  | .lst => "list"
  | .dct => "dict"
def kdM (q : PV) : Mo Kd := fun st => match q with
  | .non => .ok .non st
  | .bl _ => .ok .bl st
  | .int _ => .ok .int st
  | .str _ => .ok .str st
  | .tup _ => .ok .tup st
  | .loc n => match st[n]? with
    | some (.lst _ _) => .ok .lst st
    | some (.dct false _) => .ok .dct st
    | _ => .stuck
  | .fn _ => .stuck
  | .kl _ => .stuck
def isK : Kd → Kd → Bool
  | .bl, .int => true
  | a, b => decide (a = b)
theorem kd_of {ι : List Addr} {st : Sto} {H : Hp} {v : V} {q : PV} {kk : Kd → Sto → List Addr → Hp → Prop} (rs : RS W ι st H) (r : RV W ι H v q) (g : Good W E ι H (kdM q st) kk) : ∃ d, TyX W.K H v (.type (Kd.ty d)) ∧ kk d st ι H := by
  cases r with
  | non => exact ⟨.non, .base .non, g.ok rs⟩
  | bl b => exact ⟨.bl, .base (.bl b), g.ok rs⟩
  | int i => exact ⟨.int, .base (.int i), g.ok rs⟩
  | str s => exact ⟨.str, .base (.str s), g.ok rs⟩
  | fn => exact g.elim
  | kl => exact g.elim
  | tup sq rr z =>
    refine ⟨.tup, ?_, g.ok rs⟩
    rcases sq with (sq | ⟨o, sq⟩) | ⟨o, its, n, h1, h2, _⟩
    · exact .base (.tup sq)
    · exact .fTuple sq
    · exact .kTuple h1 h2
  | loc hn =>
    rename_i n a
    unfold kdM at g
    dsimp only at g
    cases q : st[n]? with
    | none => rw [q] at g; exact g.elim
    | some o =>
      rw [q] at g
      have ro := rs.ob n o a q hn
      cases o with
      | lst lk m =>
        refine ⟨.lst, ?_, g.ok rs⟩
        cases lk with
        | false => obtain ⟨vs, e, _⟩ := ro; exact .base (.lst e)
        | true => obtain ⟨o, vs, e, _⟩ := ro; exact .base (.frz e)
      | dct lk m =>
        cases lk with
        | true => exact g.elim
        | false => obtain ⟨vs, e, _⟩ := ro; exact ⟨.dct, .base (.dK e), g.ok rs⟩
      | sti _ => exact g.elim
def dIsi (t : Kd) (d : Env → Mo PV) : Env → Mo PV := fun ρ => bnd (d ρ) fun q => bnd (kdM q) fun kd => fun st => .ok (.bl (isK kd t)) st
theorem kit_kd : ∀ a b : Kd, kitB (Kd.ty a) (Kd.ty b) = some (isK a b) := by
  intro a b
  cases a <;> cases b <;> decide +kernel
theorem de_isi {T : Str} (t : Kd) (h : DE X W k E e d) (hg : Gl X "isinstance") (hm : W.mg "isinstance" = none) (hgT : Gl X T) (hmT : W.mg T = none) (hT : bootBuiltins T = some (.type (Kd.ty t)))
    (hn : T ≠ "__name__" := by decide) (hd : (T == ("__debug__" : Str)) = false := by decide)
    (hs : starEach [e, .Name T p2] X.env = (false, eval e X.env) :: starEach [.Name T p2] X.env := by rfl) : DE X W k E (.Call (.Name "isinstance" p) [e, .Name T p2] [] pos) (dIsi t d) :=
  ⟨fun o => pe_imp (pe_callB (r := rIsi W.K) (by rw [← o.hK]; exact call_isi) hg (by rw [o.hM]; exact hm) (by decide +kernel) (pa_cons (h.run o) (pa_cons (pe_bltn (v := .ty (Kd.ty t)) hgT (by rw [o.hM]; exact hmT) hT rfl hn hd) pa_nil (by rfl)) hs) (by decide) (by decide) hs (by rfl)) fun σ H Q t0 => by
    obtain ⟨ι, ρ, st, re, rs, g⟩ := t0
    refine ⟨ι, ρ, st, re, rs, Good.imp (Good.bind g) fun q st1 ι1 H1 m1 r1 g1 v hv => ?_⟩
    obtain ⟨kd, ty, g2⟩ := kd_of r1 hv (Good.bind g1)
    exact ⟨v, .ty (Kd.ty t), _, _, _, rfl, .ty _, ty, kit_ty (kit_kd kd t), g2.ok r1 _ (.bl _)⟩⟩
theorem boot_int_ : bootBuiltins "int" = some (.type "int") := by decide +kernel
theorem boot_bool_ : bootBuiltins "bool" = some (.type "bool") := by decide +kernel
theorem boot_str_ : bootBuiltins "str" = some (.type "str") := by decide +kernel
theorem boot_tuple_ : bootBuiltins "tuple" = some (.type "tuple") := by decide +kernel
theorem boot_list_ : bootBuiltins "list" = some (.type "list") := by decide +kernel

/-! ### tuple(..), list(..), int(..) -/
def tupQ (l : List PV) : Mo PV := fun st => .ok (.tup l) st
theorem de_tuple (hq : DQ X W k E e dl) (hg : Gl X "tuple") (hm : W.mg "tuple" = none) (hs : starEach [e] X.env = (false, eval e X.env) :: starEach [] X.env := by rfl) : DE X W k E (.Call (.Name "tuple" p) [e] [] pos) (fun ρ => bnd (dl ρ) tupQ) :=
  de_t1 (r := rTupQ W.K) (fun o => by rw [← o.hK]; exact call_tuple_of) (fun ι st H v vs l Q rs hv r z g => by
    obtain ⟨q, rfl, hq⟩ := hv
    rcases hq with hq | hq
    · exact ⟨q, vs, rfl, .inl ⟨hq, fun w hw => good_newtup g rs r z hw⟩⟩
    · exact ⟨q, vs, rfl, .inr ⟨hq, g.ok rs _ (.tup hq r z)⟩⟩) boot_tuple_ (by decide) (by decide) hg hm hq hs
theorem dl_list (hq : DQ X W k E e dl) (hg : Gl X "list") (hm : W.mg "list" = none) (hs : starEach [e] X.env = (false, eval e X.env) :: starEach [] X.env := by rfl) : DL X W k E (.Call (.Name "list" p) [e] [] pos) (fun ρ => bnd (dl ρ) fun l => fun st => .ok l st) :=
  dl_t1 (r := rListQ W.K) (fun o => by rw [← o.hK]; exact call_list_of) (fun ι st H H0 v vs l Q rs hb hv r z g => by
    obtain ⟨q, rfl, hq⟩ := hv
    exact ⟨q, vs, rfl, hq, fun w hw => good_newlst g rs r z hw (hb w hw)⟩) boot_list_ (by decide) (by decide) hg hm hq hs
def intV (q : PV) : Mo PV := fun st => match q with
  | .int i => .ok (.int i) st
  | .bl b => .ok (.int (if b = true then 1 else 0)) st
  | _ => .stuck
theorem de_intc (h : DE X W k E e d) (hg : Gl X "int") (hm : W.mg "int" = none) (hs : starEach [e] X.env = (false, eval e X.env) :: starEach [] X.env := by rfl) : DE X W k E (.Call (.Name "int" p) [e] [] pos) (fun ρ => bnd (d ρ) intV) :=
  ⟨fun o => pe_imp (pe_callTy (call_int1 (X := X)) hg (by rw [o.hM]; exact hm) boot_int_ (pa_cons (h.run o) pa_nil hs) (by decide) (by decide) hs (by rfl)) fun σ H Q t => by
    obtain ⟨ι, ρ, st, re, rs, g⟩ := t
    refine ⟨ι, ρ, st, re, rs, Good.imp (Good.bind g) fun q st1 ι1 H1 m1 r1 g1 v hv => ?_⟩
    cases hv <;> first
      | exact .inl ⟨_, rfl, g1.ok r1 _ (.int _)⟩
      | exact .inr ⟨_, rfl, g1.ok r1 _ (.int _)⟩
      | exact g1.elim⟩
def strV (q : PV) : Mo PV := fun st => match q with
  | .int i => if i.natAbs.log2 < 1920 then .ok (.str (toString i)) st else .stuck
  | _ => .stuck
theorem de_strc (h : DE X W k E e d) (hg : Gl X "str") (hm : W.mg "str" = none) (hs : starEach [e] X.env = (false, eval e X.env) :: starEach [] X.env := by rfl) : DE X W k E (.Call (.Name "str" p) [e] [] pos) (fun ρ => bnd (d ρ) strV) :=
  ⟨fun o => pe_imp (pe_callTy (call_str_int (X := X)) hg (by rw [o.hM]; exact hm) boot_str_ (pa_cons (h.run o) pa_nil hs) (by decide) (by decide) hs (by rfl)) fun σ H Q t => by
    obtain ⟨ι, ρ, st, re, rs, g⟩ := t
    refine ⟨ι, ρ, st, re, rs, Good.imp (Good.bind g) fun q st1 ι1 H1 m1 r1 g1 v hv => ?_⟩
    cases hv <;> first
      | (obtain ⟨hc, g2⟩ := good_if g1
         exact ⟨_, rfl, hc, g2.ok r1 _ (.str _)⟩)
      | exact g1.elim⟩
/-! max, min of two ints -/
def oMax : PV → PV → Mo PV
  | .int i, .int j => fun st => .ok (.int (if j > i then j else i)) st
  | _, _ => fail
def oMin : PV → PV → Mo PV
  | .int i, .int j => fun st => .ok (.int (if j < i then j else i)) st
  | _, _ => fail
theorem boot_max_ : bootBuiltins "max" = some (.builtin "max") := by decide +kernel
theorem boot_min_ : bootBuiltins "min" = some (.builtin "min") := by decide +kernel
theorem de_max2 (ha : DE X W k E a da) (hb : DE X W k E b db) (hg : Gl X "max") (hm : W.mg "max" = none) (hs : starEach [a, b] X.env = (false, eval a X.env) :: starEach [b] X.env := by rfl) (hs2 : starEach [b] X.env = (false, eval b X.env) :: starEach [] X.env := by rfl)
    (hpl : (backTo pos (starEach [b] X.env)).any (·.1) = false := by rfl) : DE X W k E (.Call (.Name "max" p) [a, b] [] pos) (dBin oMax da db) :=
  ⟨fun o => pe_imp (pe_callB (call_max2 (X := X) o.hc) hg (by rw [o.hM]; exact hm) boot_max_ (pa_cons (ha.run o) (pa_cons (hb.run o) pa_nil hs2) hs) (by decide) (by decide) hs hpl) fun σ H Q t => by
    obtain ⟨ι, ρ, st, re, rs, g⟩ := t
    refine ⟨ι, ρ, st, re, rs, Good.imp (Good.bind g) fun q st1 ι1 H1 m1 r1 g1 v hv => ?_⟩
    refine ⟨ι1, ρ, st1, re.mono rs m1, r1, Good.imp (Good.bind g1) fun q2 st2 ι2 H2 m2 r2 g2 w hw => ?_⟩
    cases hv <;> cases hw <;> first
      | exact ⟨_, _, rfl, g2.ok r2 _ (.int _)⟩
      | exact g2.elim⟩
theorem de_min2 (ha : DE X W k E a da) (hb : DE X W k E b db) (hg : Gl X "min") (hm : W.mg "min" = none) (hs : starEach [a, b] X.env = (false, eval a X.env) :: starEach [b] X.env := by rfl) (hs2 : starEach [b] X.env = (false, eval b X.env) :: starEach [] X.env := by rfl)
    (hpl : (backTo pos (starEach [b] X.env)).any (·.1) = false := by rfl) : DE X W k E (.Call (.Name "min" p) [a, b] [] pos) (dBin oMin da db) :=
  ⟨fun o => pe_imp (pe_callB (call_min2 (X := X) o.hc) hg (by rw [o.hM]; exact hm) boot_min_ (pa_cons (ha.run o) (pa_cons (hb.run o) pa_nil hs2) hs) (by decide) (by decide) hs hpl) fun σ H Q t => by
    obtain ⟨ι, ρ, st, re, rs, g⟩ := t
    refine ⟨ι, ρ, st, re, rs, Good.imp (Good.bind g) fun q st1 ι1 H1 m1 r1 g1 v hv => ?_⟩
    refine ⟨ι1, ρ, st1, re.mono rs m1, r1, Good.imp (Good.bind g1) fun q2 st2 ι2 H2 m2 r2 g2 w hw => ?_⟩
    cases hv <;> cases hw <;> first
      | exact ⟨_, _, rfl, g2.ok r2 _ (.int _)⟩
      | exact g2.elim⟩
/-! ### all, any of a list of bools; sum of a list of ints -/
def blsM : List PV → Mo (List Bool)
  | [] => fun st => .ok [] st
  | .bl b :: l => bnd (blsM l) fun bs => fun st => .ok (b :: bs) st
  | _ :: _ => fail
theorem bls_of {ι : List Addr} {H : Hp} : ∀ {l : List PV} {vs : List V} {st : Sto} {kk : List Bool → Sto → List Addr → Hp → Prop}, RS W ι st H → RVs W ι H vs l → Good W E ι H (blsM l st) kk → ∃ bs, vs = bs.map V.bl ∧ kk bs st ι H
  | [], _, st, kk, rs, .nil, g => ⟨[], rfl, g.ok rs⟩
  | p :: l, _, st, kk, rs, .cons hv r, g => by
    cases hv with
    | bl b =>
      obtain ⟨bs, e, g2⟩ := bls_of rs r (Good.bind g)
      exact ⟨b :: bs, by rw [e]; rfl, g2.ok rs⟩
    | _ => exact g.elim
def allQ (l : List PV) : Mo PV := bnd (blsM l) fun bs => fun st => .ok (.bl (bs.all id)) st
def anyQ (l : List PV) : Mo PV := bnd (blsM l) fun bs => fun st => .ok (.bl (bs.any id)) st
theorem boot_all_ : bootBuiltins "all" = some (.builtin "all") := by decide +kernel
theorem boot_any_ : bootBuiltins "any" = some (.builtin "any") := by decide +kernel
theorem boot_sum_ : bootBuiltins "sum" = some (.builtin "sum") := by decide +kernel
theorem sq_list {ι : List Addr} {H : Hp} {v : V} {vs : List V} {K : PySem.W.Frag} (h : IsSq K H v vs) : ∃ p, v = .ref p := by
  obtain ⟨p, rfl, _⟩ := h
  exact ⟨p, rfl⟩
theorem cbl_of {r : List V → Hp → VK → Prop} {f : List PV → Mo PV} (hf : ∀ (ι : List Addr) (st : Sto) (H : Hp) (q : Addr) (vs : List V) (l : List PV) (Q : VK), RS W ι st H → H q = some (.lst vs) → RVs W ι H vs l → l.length ≤ 16777216 → Good W E ι H (f l st) (kQ W Q) → r [.ref q] H Q) {σ : L2.St} {H : Hp} {Q : VK} (t : tD W E (fun ρ => bnd (dl ρ) f) σ H Q) : tCB r (tCons (tDL W E dl) tNil) σ H Q := by
  obtain ⟨ι, ρ, st, re, rs, g⟩ := t
  exact ⟨ι, ρ, st, re, rs, Good.imp (Good.bind g) fun l st1 ι1 H1 m1 r1 g1 q vs _ _ e1 r z => hf ι1 st1 H1 q vs l Q r1 e1 r z g1⟩
theorem de_all (hq : DL X W k E e dl) (hg : Gl X "all") (hm : W.mg "all" = none) (hs : starEach [e] X.env = (false, eval e X.env) :: starEach [] X.env := by rfl) : DE X W k E (.Call (.Name "all" p) [e] [] pos) (fun ρ => bnd (dl ρ) allQ) :=
  ⟨fun o => pe_imp (pe_callB (r := rAll W.K) (by rw [← o.hK]; exact cr_all o.hc) hg (by rw [o.hM]; exact hm) boot_all_ (pa_cons (hq.run o) pa_nil hs) (by decide) (by decide) hs (by rfl)) fun σ H Q t => cbl_of (fun ι st H q vs l Q rs e1 r z g => by
    obtain ⟨bs, rfl, g2⟩ := bls_of rs r (Good.bind g)
    exact ⟨q, bs, rfl, SqL.of e1, g2.ok rs _ (.bl _)⟩) t⟩
theorem de_any (hq : DL X W k E e dl) (hg : Gl X "any") (hm : W.mg "any" = none) (hs : starEach [e] X.env = (false, eval e X.env) :: starEach [] X.env := by rfl) : DE X W k E (.Call (.Name "any" p) [e] [] pos) (fun ρ => bnd (dl ρ) anyQ) :=
  ⟨fun o => pe_imp (pe_callB (r := rAny W.K) (by rw [← o.hK]; exact cr_any o.hc) hg (by rw [o.hM]; exact hm) boot_any_ (pa_cons (hq.run o) pa_nil hs) (by decide) (by decide) hs (by rfl)) fun σ H Q t => cbl_of (fun ι st H q vs l Q rs e1 r z g => by
    obtain ⟨bs, rfl, g2⟩ := bls_of rs r (Good.bind g)
    exact ⟨q, bs, rfl, SqL.of e1, g2.ok rs _ (.bl _)⟩) t⟩
def intsM : List PV → Mo (List Int)
  | [] => fun st => .ok [] st
  | .int i :: l => bnd (intsM l) fun bs => fun st => .ok (i :: bs) st
  | _ :: _ => fail
theorem ints_of {ι : List Addr} {H : Hp} : ∀ {l : List PV} {vs : List V} {st : Sto} {kk : List Int → Sto → List Addr → Hp → Prop}, RS W ι st H → RVs W ι H vs l → Good W E ι H (intsM l st) kk → ∃ bs, vs = bs.map V.int ∧ kk bs st ι H
  | [], _, st, kk, rs, .nil, g => ⟨[], rfl, g.ok rs⟩
  | p :: l, _, st, kk, rs, .cons hv r, g => by
    cases hv with
    | int b =>
      obtain ⟨bs, e, g2⟩ := ints_of rs r (Good.bind g)
      exact ⟨b :: bs, by rw [e]; rfl, g2.ok rs⟩
    | _ => exact g.elim
def sumQ (l : List PV) : Mo PV := bnd (intsM l) fun bs => fun st => .ok (.int bs.sum) st
theorem de_sum (hq : DL X W k E e dl) (hg : Gl X "sum") (hm : W.mg "sum" = none) (hs : starEach [e] X.env = (false, eval e X.env) :: starEach [] X.env := by rfl) : DE X W k E (.Call (.Name "sum" p) [e] [] pos) (fun ρ => bnd (dl ρ) sumQ) :=
  ⟨fun o => pe_imp (pe_callB (r := rSum W.K) (by rw [← o.hK]; exact cr_sum o.hc) hg (by rw [o.hM]; exact hm) boot_sum_ (pa_cons (hq.run o) pa_nil hs) (by decide) (by decide) hs (by rfl)) fun σ H Q t => cbl_of (fun ι st H q vs l Q rs e1 r z g => by
    obtain ⟨bs, rfl, g2⟩ := ints_of rs r (Good.bind g)
    exact ⟨q, bs, rfl, SqL.of e1, g2.ok rs _ (.int _)⟩) t⟩
/-- the greatest, the least of a list of ints that is not empty -/
def maxI : List Int → Int
  | [] => 0
  | [x] => x
  | x :: l => if maxI l > x then maxI l else x
def minI : List Int → Int
  | [] => 0
  | [x] => x
  | x :: l => if minI l < x then minI l else x
theorem maxI_spec : ∀ {l : List Int} {m : Int}, m ∈ l → (∀ y, y ∈ l → y ≤ m) → m = maxI l
  | [], _, h, _ => by cases h
  | [x], m, h, _ => by simpa [maxI] using h
  | x :: y :: l, m, h, hm => by
    rw [maxI]
    · have hx := hm x (by simp)
      rcases List.mem_cons.mp h with rfl | h2
      · have : maxI (y :: l) ≤ m := by
          have key : ∀ (l : List Int), l ≠ [] → maxI l ∈ l := by
            intro l
            induction l with
            | nil => intro z; exact absurd rfl z
            | cons a r ih =>
              intro _
              cases r with
              | nil => simp [maxI]
              | cons b r =>
                rw [maxI]
                · split
                  · exact List.mem_cons_of_mem _ (ih (by simp))
                  · simp
                · simp
          exact hm _ (List.mem_cons_of_mem _ (key _ (by simp)))
        rw [if_neg (by omega)]
      · have e := maxI_spec h2 fun z hz => hm z (List.mem_cons_of_mem _ hz)
        rw [← e]
        split <;> omega
    · simp
theorem minI_spec : ∀ {l : List Int} {m : Int}, m ∈ l → (∀ y, y ∈ l → m ≤ y) → m = minI l
  | [], _, h, _ => by cases h
  | [x], m, h, _ => by simpa [minI] using h
  | x :: y :: l, m, h, hm => by
    rw [minI]
    · have hx := hm x (by simp)
      rcases List.mem_cons.mp h with rfl | h2
      · have : m ≤ minI (y :: l) := by
          have key : ∀ (l : List Int), l ≠ [] → minI l ∈ l := by
            intro l
            induction l with
            | nil => intro z; exact absurd rfl z
            | cons a r ih =>
              intro _
              cases r with
              | nil => simp [minI]
              | cons b r =>
                rw [minI]
                · split
                  · exact List.mem_cons_of_mem _ (ih (by simp))
                  · simp
                · simp
          exact hm _ (List.mem_cons_of_mem _ (key _ (by simp)))
        rw [if_neg (by omega)]
      · have e := minI_spec h2 fun z hz => hm z (List.mem_cons_of_mem _ hz)
        rw [← e]
        split <;> omega
    · simp
def maxQ (l : List PV) : Mo PV := bnd (intsM l) fun bs => fun st => if 0 < bs.length then .ok (.int (maxI bs)) st else .stuck
def minQ (l : List PV) : Mo PV := bnd (intsM l) fun bs => fun st => if 0 < bs.length then .ok (.int (minI bs)) st else .stuck
theorem de_maxL (hq : DL X W k E e dl) (hg : Gl X "max") (hm : W.mg "max" = none) (hs : starEach [e] X.env = (false, eval e X.env) :: starEach [] X.env := by rfl) : DE X W k E (.Call (.Name "max" p) [e] [] pos) (fun ρ => bnd (dl ρ) maxQ) :=
  ⟨fun o => pe_imp (pe_callB (r := rMax W.K) (by rw [← o.hK]; exact cr_max o.hc) hg (by rw [o.hM]; exact hm) boot_max_ (pa_cons (hq.run o) pa_nil hs) (by decide) (by decide) hs (by rfl)) fun σ H Q t => cbl_of (fun ι st H q vs l Q rs e1 r z g => by
    obtain ⟨bs, rfl, g2⟩ := ints_of rs r (Good.bind g)
    obtain ⟨hc, g3⟩ := good_if g2
    exact ⟨q, bs, rfl, SqL.of e1, hc, fun m h1 h2 => by rw [maxI_spec h1 h2]; exact g3.ok rs _ (.int _)⟩) t⟩
theorem de_minL (hq : DL X W k E e dl) (hg : Gl X "min") (hm : W.mg "min" = none) (hs : starEach [e] X.env = (false, eval e X.env) :: starEach [] X.env := by rfl) : DE X W k E (.Call (.Name "min" p) [e] [] pos) (fun ρ => bnd (dl ρ) minQ) :=
  ⟨fun o => pe_imp (pe_callB (r := rMin W.K) (by rw [← o.hK]; exact cr_min o.hc) hg (by rw [o.hM]; exact hm) boot_min_ (pa_cons (hq.run o) pa_nil hs) (by decide) (by decide) hs (by rfl)) fun σ H Q t => cbl_of (fun ι st H q vs l Q rs e1 r z g => by
    obtain ⟨bs, rfl, g2⟩ := ints_of rs r (Good.bind g)
    obtain ⟨hc, g3⟩ := good_if g2
    exact ⟨q, bs, rfl, SqL.of e1, hc, fun m h1 h2 => by rw [minI_spec h1 h2]; exact g3.ok rs _ (.int _)⟩) t⟩
end
end PD
/-! PD: statements, targets, loops. -/
namespace PD
open PySem PySem.Spec PyProof.Rows L2
/-- how a statement ends -/
inductive Fl where
  | nx (ρ : Env) | rt (p : PV) | bk (ρ : Env) | ct (ρ : Env)
def kF (W : Wd) (D : Ends) : Fl → Sto → List Addr → Hp → Prop := fun fl _ ι' H' => match fl with
  | .nx ρ' => ∀ σ', RE W ι' H' ρ' σ' → D.nx σ' H'
  | .rt p => ∀ v, RV W ι' H' v p → D.rt v H'
  | .bk ρ' => ∀ σ', RE W ι' H' ρ' σ' → D.bk σ' H'
  | .ct ρ' => ∀ σ', RE W ι' H' ρ' σ' → D.ct σ' H'
def tDS (W : Wd) (E : XK) (d : Env → Mo Fl) : TS := fun D σ H => ∃ ι ρ st, RE W ι H ρ σ ∧ RS W ι st H ∧ Good W E ι H (d ρ st) (kF W D)
structure DS (X : Cx) (W : Wd) (k : Nat) (E : XK) (s : Stmt) (d : Env → Mo Fl) : Prop where
  run : On X W k E → PS X s (tDS W E d)
structure DSs (X : Cx) (W : Wd) (k : Nat) (E : XK) (s : List Stmt) (d : Env → Mo Fl) : Prop where
  run : On X W k E → PSs X s (tDS W E d)
def tDG (W : Wd) (E : XK) (g : PV → Env → Mo Env) : TG := fun v σ H Q => ∃ ι ρ st p, RE W ι H ρ σ ∧ RS W ι st H ∧ RV W ι H v p ∧ Good W E ι H (g p ρ st) (fun ρ' _ ι' H' => ∀ σ', RE W ι' H' ρ' σ' → Q σ' H')
def tDGs (W : Wd) (E : XK) (g : List PV → Env → Mo Env) : TGs := fun vs σ H Q => ∃ ι ρ st ps, RE W ι H ρ σ ∧ RS W ι st H ∧ RVs W ι H vs ps ∧ Good W E ι H (g ps ρ st) (fun ρ' _ ι' H' => ∀ σ', RE W ι' H' ρ' σ' → Q σ' H')
structure DG (X : Cx) (W : Wd) (k : Nat) (E : XK) (e : Expr) (g : PV → Env → Mo Env) : Prop where
  run : On X W k E → PG X e (tDG W E g)
structure DGs (X : Cx) (W : Wd) (k : Nat) (E : XK) (es : List Expr) (g : List PV → Env → Mo Env) : Prop where
  run : On X W k E → PGs X es (tDGs W E g)
theorem ps_imp {X : Cx} {s : Stmt} {t t' : TS} (h : PS X s t) (hi : ∀ D σ H, t' D σ H → t D σ H) : PS X s t' := ⟨fun pins s σ H D I w => h.run pins s σ H D I (hi D σ H w)⟩
theorem pss_imp {X : Cx} {s : List Stmt} {t t' : TS} (h : PSs X s t) (hi : ∀ D σ H, t' D σ H → t D σ H) : PSs X s t' := ⟨fun pins s σ H D I w => h.run pins s σ H D I (hi D σ H w)⟩
theorem pg_imp {X : Cx} {e : Expr} {t t' : TG} (h : PG X e t) (hi : ∀ v σ H Q, t' v σ H Q → t v σ H Q) : PG X e t' := ⟨fun pins s σ H v u Q I r w => h.run pins s σ H v u Q I r (hi v σ H Q w)⟩
theorem pgs_imp {X : Cx} {e : List Expr} {t t' : TGs} (h : PGs X e t) (hi : ∀ v σ H Q, t' v σ H Q → t v σ H Q) : PGs X e t' := ⟨fun pins s σ H v u Q I r w => h.run pins s σ H v u Q I r (hi v σ H Q w)⟩
section
variable {X : Cx} {W : Wd} {k : Nat} {E : XK} {a b c e o : Expr} {es : List Expr} {st : Stmt} {ss ss2 : List Stmt} {pos p p2 : Pos} {da db dc d : Env → Mo PV} {dt du : Env → Mo Bool} {dl dm : Env → Mo (List PV)} {f f1 f2 : Env → Mo Fl} {g : PV → Env → Mo Env} {gs : List PV → Env → Mo Env}

/-! ### in a row -/
def dNil : Env → Mo Fl := fun ρ st => .ok (.nx ρ) st
def dSeq (f1 f2 : Env → Mo Fl) : Env → Mo Fl := fun ρ => bnd (f1 ρ) fun fl => match fl with
  | .nx ρ' => f2 ρ'
  | r => fun st => .ok r st
theorem dss_nil : DSs X W k E [] dNil := ⟨fun o => pss_imp pss_nil fun D σ H t => by
  obtain ⟨ι, ρ, st, re, rs, g⟩ := t
  exact g.ok rs σ re⟩
theorem dss_cons (h1 : DS X W k E st f1) (h2 : DSs X W k E ss f2) : DSs X W k E (st :: ss) (dSeq f1 f2) := ⟨fun o => pss_imp (pss_cons (h1.run o) (h2.run o)) fun D σ H t => by
  obtain ⟨ι, ρ, st, re, rs, g⟩ := t
  refine ⟨ι, ρ, st, re, rs, Good.imp (Good.bind g) fun fl st1 ι1 H1 m1 r1 g1 => ?_⟩
  cases fl with
  | nx ρ' => exact fun σ' re' => ⟨ι1, ρ', st1, re', r1, g1⟩
  | rt p => exact g1.ok r1
  | bk ρ' => exact g1.ok r1
  | ct ρ' => exact g1.ok r1⟩
theorem dss_one (h1 : DS X W k E st f1) : DSs X W k E [st] f1 := ⟨fun o => pss_one (h1.run o)⟩
theorem ds_pass : DS X W k E (.Pass pos) dNil := ⟨fun o => ps_imp ps_pass fun D σ H t => by
  obtain ⟨ι, ρ, st, re, rs, g⟩ := t
  exact g.ok rs σ re⟩
def dBrk : Env → Mo Fl := fun ρ st => .ok (.bk ρ) st
def dCnt : Env → Mo Fl := fun ρ st => .ok (.ct ρ) st
theorem ds_break : DS X W k E (.Break pos) dBrk := ⟨fun o => ps_imp ps_break fun D σ H t => by
  obtain ⟨ι, ρ, st, re, rs, g⟩ := t
  exact g.ok rs σ re⟩
theorem ds_continue : DS X W k E (.Continue pos) dCnt := ⟨fun o => ps_imp ps_continue fun D σ H t => by
  obtain ⟨ι, ρ, st, re, rs, g⟩ := t
  exact g.ok rs σ re⟩
def dRet (d : Env → Mo PV) : Env → Mo Fl := fun ρ => bnd (d ρ) fun q => fun st => .ok (.rt q) st
theorem ds_ret (h : DE X W k E e d) : DS X W k E (.Return (some e) pos) (dRet d) := ⟨fun o => ps_imp (ps_ret (h.run o)) fun D σ H t => by
  obtain ⟨ι, ρ, st, re, rs, g⟩ := t
  exact ⟨ι, ρ, st, re, rs, Good.imp (Good.bind g) fun q st1 ι1 H1 m1 r1 g1 => g1.ok r1⟩⟩
theorem ds_retN : DS X W k E (.Return none pos) (dRet (dC .non)) := ⟨fun o => ps_imp ps_retN fun D σ H t => by
  obtain ⟨ι, ρ, st, re, rs, g⟩ := t
  exact g.ok rs _ .non⟩
def dDrop (d : Env → Mo PV) : Env → Mo Fl := fun ρ => bnd (d ρ) fun _ => fun st => .ok (.nx ρ) st
theorem ds_expr (h : DE X W k E e d) (hs : swapsWith e none pos.line X.env = pure false := by rfl) : DS X W k E (.Expr e pos) (dDrop d) := ⟨fun o => ps_imp (ps_expr (h.run o) hs) fun D σ H t => by
  obtain ⟨ι, ρ, st, re, rs, g⟩ := t
  exact ⟨ι, ρ, st, re, rs, Good.imp (Good.bind g) fun q st1 ι1 H1 m1 r1 g1 v hv => g1.ok r1 σ (re.mono rs m1)⟩⟩
def dIfS (dt : Env → Mo Bool) (f1 f2 : Env → Mo Fl) : Env → Mo Fl := fun ρ => bnd (dt ρ) fun b => if b = true then f1 ρ else f2 ρ
theorem ds_if (h : DT X W k E c dt) (h1 : DSs X W k E ss f1) (h2 : DSs X W k E ss2 f2) : DS X W k E (.If c ss ss2 pos) (dIfS dt f1 f2) := ⟨fun o => ps_imp (ps_if (h.run o) (h1.run o) (h2.run o)) fun D σ H t => by
  obtain ⟨ι, ρ, st, re, rs, g⟩ := t
  refine ⟨ι, ρ, st, re, rs, Good.imp (Good.bind g) fun b st1 ι1 H1 m1 r1 g1 => ?_⟩
  cases b with
  | true => exact ⟨ι1, ρ, st1, re.mono rs m1, r1, g1⟩
  | false => exact ⟨ι1, ρ, st1, re.mono rs m1, r1, g1⟩⟩

/-! ### targets and assignments -/
def gNm (i : Nat) : PV → Env → Mo Env := fun q ρ st => .ok (ρ.set i (some q)) st
theorem dg_name {i : Nat} {x : Str} (hi : X.N[i]? = some x := by rfl) (hx : Loc X.env.scope x := by first | exact .inl rfl | exact .inr rfl) (hf : X.fn x = true ∨ X.env.scope.names.lookup x = some .local := by first | exact .inl rfl | exact .inr rfl) : DG X W k E (.Name x pos) (gNm i) := ⟨fun o => pg_imp (pg_name o.nd hi hx hf) fun v σ H Q t => by
  obtain ⟨ι, ρ, st, q, re, rs, r, g⟩ := t
  exact g.ok rs _ (re.set r i)⟩
def gNl : List PV → Env → Mo Env
  | [], ρ => fun st => .ok ρ st
  | _ :: _, _ => fail
def gCs (g : PV → Env → Mo Env) (gs : List PV → Env → Mo Env) : List PV → Env → Mo Env
  | [], _ => fail
  | q :: qs, ρ => bnd (g q ρ) fun ρ' => gs qs ρ'
theorem dgs_nil : DGs X W k E [] gNl := ⟨fun o => pgs_imp pgs_nil fun v σ H Q t => by
  obtain ⟨ι, ρ, st, q, re, rs, r, g⟩ := t
  cases r with
  | nil => exact ⟨rfl, g.ok rs _ re⟩
  | cons _ _ => exact g.elim⟩
theorem dgs_cons (h1 : DG X W k E e g) (h2 : DGs X W k E es gs) (hs : (assignEach (e :: es) X.env).map (·.2) = assign e X.env :: (assignEach es X.env).map (·.2) := by rfl) : DGs X W k E (e :: es) (gCs g gs) := ⟨fun o => pgs_imp (pgs_cons (h1.run o) (h2.run o) hs) fun v σ H Q t => by
  obtain ⟨ι, ρ, st, q, re, rs, r, g⟩ := t
  cases r with
  | nil => exact g.elim
  | cons hv rr =>
    refine ⟨_, _, rfl, ι, ρ, st, _, re, rs, hv, Good.imp (Good.bind g) fun ρ' st1 ι1 H1 m1 r1 g1 σ' re' => ?_⟩
    exact ⟨ι1, ρ', st1, _, re', r1, rvs_mono rs m1 _ _ rr, g1⟩⟩
def gTp (n : Nat) (gs : List PV → Env → Mo Env) : PV → Env → Mo Env := fun q ρ st => match q with
  | .tup l => if l.length = n then gs l ρ st else .stuck
  | _ => .stuck
theorem dg_tup {x1 n : Nat} (h : DGs X W k E es gs) (hn : (assignEach es X.env).length = n := by rfl) (hst : (assignEach es X.env).findIdx? (·.1) = none := by rfl) : DG X W k E (.Tuple es x1 pos) (gTp n gs) := ⟨fun o => pg_imp (pg_tup o.hc (h.run o) hn hst) fun v σ H Q t => by
  obtain ⟨ι, ρ, st, q, re, rs, r, g⟩ := t
  cases r <;> first
    | exact g.elim
    | (rename_i a vs l sq rr z
       obtain ⟨hc, g1⟩ := good_if g
       refine ⟨a, vs, rfl, by rw [o.hK]; exact sq, by rw [rr.length]; exact hc, ι, ρ, st, l, re, rs, rr, g1⟩)⟩
/-- a[b] = .. of a list -/
def setM (q i z : PV) : Mo Unit := fun st => match q, i with
  | .loc n, .int i => match st[n]? with
    | some (.lst false l) => match ixN l.length i with
      | some j => .ok () (st.set n (.lst false (l.set j z)))
      | none => .stuck
    | _ => .stuck
  | _, _ => .stuck
theorem good_upd {α : Type} {ι : List Addr} {st : Sto} {H : Hp} {n : Nat} {a : Addr} {l : List PV} {vs : List V} {z : α} {kk : α → Sto → List Addr → Hp → Prop} (g : Good W E ι H (.ok z (st.set n (.lst false l))) kk) (rs : RS W ι st H) (hn : ι[n]? = some a) (r : RVs W ι H vs l) (hz : l.length ≤ 16777216) : kk z (st.set n (.lst false l)) ι (upd H a (.lst vs)) := by
  have m : Mono ι H ι (upd H a (.lst vs)) := Mono.mut (List.mem_of_getElem? hn)
  exact g ι _ m (rs.upd hn ⟨vs, upd_same, rvs_mono rs m _ _ r, hz⟩)
theorem set_of {ι : List Addr} {st : Sto} {H : Hp} {x y v : V} {q i z : PV} {kk : Unit → Sto → List Addr → Hp → Prop} (rs : RS W ι st H) (hx : RV W ι H x q) (hy : RV W ι H y i) (hv : RV W ι H v z) (g : Good W E ι H (setM q i z st) kk) : rSetL x y v H fun H' => ∃ st', RS W ι st' H' ∧ Mono ι H ι H' ∧ kk () st' ι H' := by
  cases hx <;> try exact g.elim
  cases hy <;> try exact g.elim
  rename_i n a hn i
  unfold setM at g
  dsimp only at g
  cases q : st[n]? with
  | none => rw [q] at g; exact g.elim
  | some ob =>
    rw [q] at g
    have ro := rs.ob n ob a q hn
    cases ob with
    | dct _ _ => exact g.elim
    | sti _ => exact g.elim
    | lst lk l =>
      cases lk with
      | true => exact g.elim
      | false =>
        obtain ⟨vs, e, r, hz⟩ := ro
        dsimp only at g
        cases hj : ixN l.length i with
        | none => rw [hj] at g; exact g.elim
        | some j =>
          rw [hj] at g
          have hz2 : (l.set j z).length ≤ 16777216 := by rw [List.length_set]; exact hz
          refine ⟨a, vs, i, j, rfl, rfl, e, by rw [r.length]; exact hj, _, rs.upd (o := .lst false (l.set j z)) hn ⟨_, upd_same, ?_, hz2⟩, Mono.mut (List.mem_of_getElem? hn), good_upd g rs hn (r.set hv j) hz2⟩
          exact rvs_mono rs (Mono.mut (List.mem_of_getElem? hn)) _ _ (r.set hv j)
def gSb (da db : Env → Mo PV) : PV → Env → Mo Env := fun z ρ => bnd (da ρ) fun q => bnd (db ρ) fun i => bnd (setM q i z) fun _ => fun st => .ok ρ st
theorem dg_sub (ha : DE X W k E a da) (hb : DE X W k E b db) (hs : ∀ v, assign (.Subscript a b pos) X.env v = (do
      let ov ← holding [v] (eval a X.env)
      let iv ← holding [v, ov] (eval b X.env)
      standAt pos
      holding [v, ov, iv] (setItem ov iv v)
      release [v, ov, iv] []) := by intro _; rfl) : DG X W k E (.Subscript a b pos) (gSb da db) := ⟨fun o => pg_imp (pg_sub (ha.run o) (hb.run o) set_list hs) fun v σ H Q t => by
  obtain ⟨ι, ρ, st, z, re, rs, r, g⟩ := t
  refine ⟨ι, ρ, st, re, rs, Good.imp (Good.bind g) fun q st1 ι1 H1 m1 r1 g1 x hx => ?_⟩
  refine ⟨ι1, ρ, st1, re.mono rs m1, r1, Good.imp (Good.bind g1) fun i st2 ι2 H2 m2 r2 g2 y hy => ?_⟩
  have re2 := (re.mono rs m1).mono r1 m2
  obtain ⟨w, xs, i', j, h1, h2, h3, h4, st3, r3, m3, g3⟩ := set_of r2 (rv_mono r1 m2 q x hx) hy (rv_mono r1 m2 z v (rv_mono rs m1 z v r)) (Good.bind g2)
  exact ⟨w, xs, i', j, h1, h2, h3, h4, g3.ok r3 σ (re2.mono r2 m3)⟩⟩
def dAsg (d : Env → Mo PV) (g : PV → Env → Mo Env) : Env → Mo Fl := fun ρ => bnd (d ρ) fun q => bnd (g q ρ) fun ρ' => fun st => .ok (.nx ρ') st
theorem ds_asg {tg : Expr} (he : DE X W k E e d) (hg : DG X W k E tg g) (hs : swapsWithSole [tg] e pos.line X.env = pure false := by rfl) (hw : swappedStores [tg] e X.env = pure none := by rfl)
    (h1 : (assignEach [tg] X.env).map (·.2) = [assign tg X.env] := by rfl) : DS X W k E (.Assign [tg] e pos) (dAsg d g) := ⟨fun o => ps_imp (ps_asg (he.run o) (hg.run o) hs hw h1) fun D σ H t => by
  obtain ⟨ι, ρ, st, re, rs, g⟩ := t
  refine ⟨ι, ρ, st, re, rs, Good.imp (Good.bind g) fun q st1 ι1 H1 m1 r1 g1 v hv => ?_⟩
  exact ⟨ι1, ρ, st1, q, re.mono rs m1, r1, hv, Good.imp (Good.bind g1) fun ρ' st2 ι2 H2 m2 r2 g2 σ' re' => g2.ok r2 σ' re'⟩⟩
/-- x = e -/
def dSet (i : Nat) (d : Env → Mo PV) : Env → Mo Fl := fun ρ => bnd (d ρ) fun q => fun st => .ok (.nx (ρ.set i (some q))) st
theorem ds_set {i : Nat} {x : Str} (he : DE X W k E e d) (hi : X.N[i]? = some x := by rfl) (hx : Loc X.env.scope x := by first | exact .inl rfl | exact .inr rfl) (hs : swapsWith e (some (.Name x p)) pos.line X.env = pure false := by rfl)
    (hf : X.fn x = true ∨ X.env.scope.names.lookup x = some .local := by first | exact .inl rfl | exact .inr rfl) : DS X W k E (.Assign [.Name x p] e pos) (dSet i d) := ⟨fun o => ps_imp (ps_set o.nd hi hx (he.run o) hs hf) fun D σ H t => by
  obtain ⟨ι, ρ, st, re, rs, g⟩ := t
  exact ⟨ι, ρ, st, re, rs, Good.imp (Good.bind g) fun q st1 ι1 H1 m1 r1 g1 v hv => g1.ok r1 _ ((re.mono rs m1).set hv i)⟩⟩
/-- a, b = x, y: two plain locals -/
def dPar (i j : Nat) (dl : Env → Mo (List PV)) : Env → Mo Fl := fun ρ => bnd (dl ρ) fun l => match l with
  | [q, z] => fun st => .ok (.nx ((ρ.set i (some q)).set j (some z))) st
  | _ => fail
theorem ds_par {i j : Nat} {x y : Str} {px py pt pt2 : Pos} {kt k2 : Nat} (hij : i ≠ j) (ha : DA X W k E [a, b] dl) (hi : X.N[i]? = some x := by rfl) (hj : X.N[j]? = some y := by rfl) (hx : X.env.scope.names.lookup x = some .local := by rfl) (hy : X.env.scope.names.lookup y = some .local := by rfl)
    (hps : On X W k E → PS X (.Assign [.Tuple [.Name x px, .Name y py] kt pt] (.Tuple [a, b] k2 pt2) pos) (tPar i j (tDA W E dl))) : DS X W k E (.Assign [.Tuple [.Name x px, .Name y py] kt pt] (.Tuple [a, b] k2 pt2) pos) (dPar i j dl) := ⟨fun o => ps_imp (hps o) fun D σ H t => by
  obtain ⟨ι, ρ, st, re, rs, g⟩ := t
  refine ⟨ι, ρ, st, re, rs, Good.imp (Good.bind g) fun l st1 ι1 H1 m1 r1 g1 vs hvs => ?_⟩
  cases hvs with
  | nil => exact g1.elim
  | cons h1 t1 =>
    cases t1 with
    | nil => exact g1.elim
    | cons h2 t2 =>
      cases t2 with
      | cons _ _ => exact g1.elim
      | nil => exact ⟨_, _, rfl, g1.ok r1 _ (((re.mono rs m1).set h1 i).set h2 j)⟩⟩
/-- x += e, ints -/
def dAug (f : Int → Int → Int) (i : Nat) (d : Env → Mo PV) : Env → Mo Fl := fun ρ => bnd (dVar i ρ) fun q => bnd (d ρ) fun z => bnd (oI (fun x y => .int (f x y)) q z) fun w => fun st => .ok (.nx (ρ.set i (some w))) st
theorem ds_augI {op : Operator} {fi : Int → Int → Int} {i : Nat} {x : Str} (ho : PIp X op (ipI fi)) (he : DE X W k E e d) (hi : X.N[i]? = some x) (hx : Loc X.env.scope x) (hf : X.fn x = true ∨ X.env.scope.names.lookup x = some .local) : DS X W k E (.AugAssign (.Name x p) op e pos) (dAug fi i d) := ⟨fun o => ps_imp (ps_aug o.nd hi hx (he.run o) ho hf) fun D σ H t => by
  obtain ⟨ι, ρ, st, re, rs, g⟩ := t
  unfold dAug at g
  have g0 := Good.bind g
  unfold dVar at g0
  cases q : ρ[i]? with
  | none => rw [q] at g0; exact g0.elim
  | some w =>
    cases w with
    | none => rw [q] at g0; exact g0.elim
    | some w =>
      rw [q] at g0
      obtain ⟨v, h1, h2⟩ := re.at_ i w q
      have g1 := g0.ok rs
      refine ⟨v, h1, ι, ρ, st, re, rs, Good.imp (Good.bind g1) fun z st1 ι1 H1 m1 r1 g2 y hy => ?_⟩
      have h3 := rv_mono rs m1 w v h2
      have re1 := re.mono rs m1
      cases h3 <;> cases hy <;> first
        | exact g2.elim
        | exact ⟨_, _, rfl, rfl, (Good.bind g2).ok r1 |>.ok r1 _ (re1.set (.int _) i)⟩⟩
theorem ds_augAdd {i : Nat} {x : Str} (he : DE X W k E e d) (hi : X.N[i]? = some x := by rfl) (hx : Loc X.env.scope x := by first | exact .inl rfl | exact .inr rfl) (hf : X.fn x = true ∨ X.env.scope.names.lookup x = some .local := by first | exact .inl rfl | exact .inr rfl) : DS X W k E (.AugAssign (.Name x p) .Add e pos) (dAug (fun i j => i + j) i d) := ds_augI ip_add he hi hx hf
theorem ds_augSub {i : Nat} {x : Str} (he : DE X W k E e d) (hi : X.N[i]? = some x := by rfl) (hx : Loc X.env.scope x := by first | exact .inl rfl | exact .inr rfl) (hf : X.fn x = true ∨ X.env.scope.names.lookup x = some .local := by first | exact .inl rfl | exact .inr rfl) : DS X W k E (.AugAssign (.Name x p) .Sub e pos) (dAug (fun i j => i - j) i d) := ds_augI ip_sub he hi hx hf
/-- a[b] += e of a list of ints -/
theorem get_list : PGet X (rIxL X.K) := by
  intro pins s σ H x y v u Q I rx ry h
  obtain ⟨w, xs, i, z, rfl, rfl, hq, he, q⟩ := h
  cases rx
  obtain ⟨t, rfl⟩ := ry
  obtain ⟨its, r, pl, hz⟩ := I.list hq
  obtain ⟨j, h1, h2, h3, h4, h5⟩ := atI_get he
  obtain ⟨w2, ew, rw'⟩ := r.get h2
  have hl := r.length
  have hn := line63
  have fin : EP X pins σ Q w2 s := ⟨z, H, I, rw', q⟩
  by_cases h0 : 0 ≤ i
  · have hj : i.toNat = j := by
      have e3 := seqIndex_of h0 h5
      rw [h1] at e3
      exact (Option.some.inj e3).symm
    exact wpAny_getItem_list pl.isList h0 (by omega) (by rw [hj]; simpa using ew) fin
  · have hj : (i + (its.toArray.size : Int)).toNat = j := by
      have e3 := seqIndex_neg (show i < 0 by omega) h4
      rw [h1] at e3
      rw [List.size_toArray, ← hl]
      exact (Option.some.inj e3).symm
    exact wpAny_getItem_list_neg pl.isList (by omega) (by rw [List.size_toArray] <;> omega) (by omega) (by rw [hj]; simpa using ew) fin
def dAugS (f : Int → Int → Int) (da db d : Env → Mo PV) : Env → Mo Fl := fun ρ => bnd (da ρ) fun q => bnd (db ρ) fun i => bnd (bnd (lstM q) fun l => ixQ l i) fun x => bnd (d ρ) fun y => bnd (oI (fun x y => .int (f x y)) x y) fun z => bnd (setM q i z) fun _ => fun st => .ok (.nx ρ) st
theorem ds_augS {op : Operator} {fi : Int → Int → Int} (ho : PIp X op (ipI fi)) (ha : DE X W k E a da) (hb : DE X W k E b db) (he : DE X W k E e d) (hs : ∀ ov iv new, augStore b ov iv new = (do holding [new, ov, iv] (setItem ov iv new); release [new, ov, iv] []; pure .next)) : DS X W k E (.AugAssign (.Subscript a b p) op e pos) (dAugS fi da db d) := ⟨fun o => ps_imp (ps_augS (ha.run o) (hb.run o) (tget := rIxL W.K) (by rw [← o.hK]; exact get_list) (he.run o) ho set_list hs) fun D σ H t => by
  obtain ⟨ι, ρ, st, re, rs, g⟩ := t
  refine ⟨ι, ρ, st, re, rs, Good.imp (Good.bind g) fun q st1 ι1 H1 m1 r1 g1 v1 hv1 => ?_⟩
  have re1 := re.mono rs m1
  refine ⟨ι1, ρ, st1, re1, r1, Good.imp (Good.bind g1) fun i st2 ι2 H2 m2 r2 g2 v2 hv2 => ?_⟩
  have re2 := re1.mono r1 m2
  have hq2 := rv_mono r1 m2 q v1 hv1
  obtain ⟨w, vs, l, rfl, sq, rr, hz, g3⟩ := lst_of (α := Nat) r2 hq2 (Good.bind (Good.bind g2))
  cases hv2 <;> try exact g3.elim
  rename_i i
  have g4 : Good W E ι2 H2 (match atI l i with | some z => .ok z st2 | none => .stuck) _ := g3
  cases hx : atI l i with
  | none => rw [hx] at g4; exact g4.elim
  | some x =>
    rw [hx] at g4
    obtain ⟨xv, hxv, rxv⟩ := atI_rv rr hx
    refine ⟨w, vs, i, xv, rfl, rfl, sq, hxv, ι2, ρ, st2, re2, r2, Good.imp (Good.bind (g4.ok r2)) fun y st3 ι3 H3 m3 r3 g5 yv hy => ?_⟩
    have hx3 := rv_mono r2 m3 x xv rxv
    cases hx3 <;> try exact g5.elim
    cases hy <;> try exact g5.elim
    refine ⟨_, _, rfl, rfl, ?_⟩
    obtain ⟨w', xs, i', j, h1, h2, h3, h4, st4, r4, m4, g6⟩ := set_of r3 (rv_mono r2 m3 _ _ hq2) (.int i) (.int _) (Good.bind ((Good.bind g5).ok r3))
    exact ⟨w', xs, i', j, h1, h2, h3, h4, g6.ok r4 σ ((re2.mono r2 m3).mono r3 m4)⟩⟩
theorem ds_augSAdd (ha : DE X W k E a da) (hb : DE X W k E b db) (he : DE X W k E e d) (hs : ∀ ov iv new, augStore b ov iv new = (do holding [new, ov, iv] (setItem ov iv new); release [new, ov, iv] []; pure .next) := by intros; rfl) : DS X W k E (.AugAssign (.Subscript a b p) .Add e pos) (dAugS (fun i j => i + j) da db d) := ds_augS ip_add ha hb he hs
theorem ds_augSSub (ha : DE X W k E a da) (hb : DE X W k E b db) (he : DE X W k E e d) (hs : ∀ ov iv new, augStore b ov iv new = (do holding [new, ov, iv] (setItem ov iv new); release [new, ov, iv] []; pure .next) := by intros; rfl) : DS X W k E (.AugAssign (.Subscript a b p) .Sub e pos) (dAugS (fun i j => i - j) da db d) := ds_augS ip_sub ha hb he hs
end
end PD
/-! PD: while, for, comprehensions. -/
namespace PD
open PySem PySem.Spec PyProof.Rows L2
section
variable {X : Cx} {W : Wd} {k : Nat} {E : XK} {a b c e o : Expr} {es : List Expr} {st : Stmt} {ss ss2 : List Stmt} {pos p p2 : Pos} {da db dc d : Env → Mo PV} {dt du : Env → Mo Bool} {dl dm : Env → Mo (List PV)} {f f1 f2 : Env → Mo Fl} {g : PV → Env → Mo Env} {gs : List PV → Env → Mo Env}
/-! ### while -/
/-- behind a turn -/
def turnF (h : Env → Mo Fl) : Fl → Mo Fl
  | .nx ρ => h ρ
  | .ct ρ => h ρ
  | .bk ρ => fun st => .ok (.nx ρ) st
  | .rt p => fun st => .ok (.rt p) st
def whF (dt : Env → Mo Bool) (f : Env → Mo Fl) : Nat → Env → Mo Fl
  | 0 => fun _ => fail
  | n + 1 => fun ρ => bnd (dt ρ) fun b => if b = true then bnd (f ρ) (turnF (whF dt f n)) else fun st => .ok (.nx ρ) st
open Classical in
noncomputable def dWh (dt : Env → Mo Bool) (f : Env → Mo Fl) : Env → Mo Fl := fun ρ st => if h : ∃ n, whF dt f n ρ st ≠ .stuck then whF dt f (Classical.choose h) ρ st else .stuck
theorem bnd_ne {α β : Type} {m : Mo α} {f : α → Mo β} {st : Sto} (h : bnd m f st ≠ .stuck) : (∃ c st', m st = .exc c st' ∧ ∀ f' : α → Mo β, bnd m f' st = .exc c st') ∨ ∃ a st', m st = .ok a st' ∧ f a st' ≠ .stuck ∧ ∀ f' : α → Mo β, bnd m f' st = f' a st' := by
  cases q : m st with
  | ok a st' =>
    refine .inr ⟨a, st', rfl, ?_, fun f' => by unfold bnd; rw [q]⟩
    have e : bnd m f st = f a st' := by unfold bnd; rw [q]
    rw [e] at h
    exact h
  | exc c st' => exact .inl ⟨c, st', rfl, fun f' => by unfold bnd; rw [q]⟩
  | stuck =>
    have e : bnd m f st = .stuck := by unfold bnd; rw [q]
    exact (h e).elim
theorem whF_more : ∀ {n : Nat} {ρ : Env} {st : Sto} (j : Nat), whF dt f n ρ st ≠ .stuck → whF dt f (n + j) ρ st = whF dt f n ρ st
  | 0, _, _, _, h => (h rfl).elim
  | n + 1, ρ, st, j, h => by
    rw [Nat.add_right_comm]
    unfold whF at h ⊢
    rcases bnd_ne h with ⟨c, st', _, q⟩ | ⟨b, st', _, hb, q⟩
    · rw [q, q]
    · rw [q, q]
      cases b with
      | false => rfl
      | true =>
        rw [if_pos rfl] at hb
        rw [if_pos rfl, if_pos rfl]
        rcases bnd_ne hb with ⟨c, st2, _, q2⟩ | ⟨fl, st2, _, hf, q2⟩
        · rw [q2, q2]
        · rw [q2, q2]
          cases fl with
          | nx ρ' => exact whF_more j hf
          | ct ρ' => exact whF_more j hf
          | bk _ => rfl
          | rt _ => rfl
theorem dWh_of {n : Nat} {ρ : Env} {st : Sto} (h : whF dt f n ρ st ≠ .stuck) : dWh dt f ρ st = whF dt f n ρ st := by
  have hx : ∃ n, whF dt f n ρ st ≠ .stuck := ⟨n, h⟩
  unfold dWh
  rw [dif_pos hx]
  have h2 := Classical.choose_spec hx
  generalize Classical.choose hx = m at h2 ⊢
  rcases Nat.le_total m n with hl | hl
  · obtain ⟨j, rfl⟩ := Nat.exists_eq_add_of_le hl
    exact (whF_more j h2).symm
  · obtain ⟨j, rfl⟩ := Nat.exists_eq_add_of_le hl
    exact whF_more j h
theorem dWh_eq (ρ : Env) (st : Sto) : dWh dt f ρ st = bnd (dt ρ) (fun b => if b = true then bnd (f ρ) (turnF (dWh dt f)) else fun st => .ok (.nx ρ) st) st := by
  by_cases h : ∃ n, whF dt f n ρ st ≠ .stuck
  · obtain ⟨n, h⟩ := h
    rw [dWh_of h]
    cases n with
    | zero => exact (h rfl).elim
    | succ n =>
      unfold whF at h ⊢
      rcases bnd_ne h with ⟨c, st', _, q⟩ | ⟨b, st', _, hb, q⟩
      · rw [q, q]
      · rw [q, q]
        cases b with
        | false => rfl
        | true =>
          rw [if_pos rfl] at hb
          rw [if_pos rfl, if_pos rfl]
          rcases bnd_ne hb with ⟨c, st2, _, q2⟩ | ⟨fl, st2, _, hf, q2⟩
          · rw [q2, q2]
          · rw [q2, q2]
            cases fl with
            | nx ρ' => exact (dWh_of hf).symm
            | ct ρ' => exact (dWh_of hf).symm
            | bk _ => rfl
            | rt _ => rfl
  · have e : dWh dt f ρ st = .stuck := by unfold dWh; rw [dif_neg h]
    rw [e]
    refine Classical.byContradiction fun hn => h ?_
    have hn2 := fun z => hn (Eq.symm z)
    have key : ∀ (ρ' : Env) (st' : Sto), dWh dt f ρ' st' ≠ .stuck → ∃ n, whF dt f n ρ' st' ≠ .stuck := fun ρ' st' z => by
      refine Classical.byContradiction fun y => z ?_
      unfold dWh
      rw [dif_neg y]
    rcases bnd_ne hn2 with ⟨c, st', _, q⟩ | ⟨b, st', _, hb, q⟩
    · exact ⟨1, by unfold whF; rw [q]; exact fun z => nomatch z⟩
    · cases b with
      | false => exact ⟨1, by unfold whF; rw [q]; exact fun z => nomatch z⟩
      | true =>
        rw [if_pos rfl] at hb
        rcases bnd_ne hb with ⟨c, st2, _, q2⟩ | ⟨fl, st2, _, hf, q2⟩
        · exact ⟨1, by unfold whF; rw [q, if_pos rfl, q2]; exact fun z => nomatch z⟩
        · cases fl with
          | nx ρ' => obtain ⟨n, hn⟩ := key _ _ hf; exact ⟨n + 1, by unfold whF; rw [q, if_pos rfl, q2]; exact hn⟩
          | ct ρ' => obtain ⟨n, hn⟩ := key _ _ hf; exact ⟨n + 1, by unfold whF; rw [q, if_pos rfl, q2]; exact hn⟩
          | bk _ => exact ⟨1, by unfold whF; rw [q, if_pos rfl, q2]; exact fun z => nomatch z⟩
          | rt _ => exact ⟨1, by unfold whF; rw [q, if_pos rfl, q2]; exact fun z => nomatch z⟩
theorem ds_while (hc : DT X W k E c dt) (hb : DSs X W k E ss f) : DS X W k E (.While c ss [] pos) (dWh dt f) := ⟨fun o => ps_imp (ps_while o.own (hc.run o) (hb.run o)) fun D σ H t => by
  obtain ⟨ι, ρ, st, re, rs, g⟩ := t
  have hx : ∃ n, whF dt f n ρ st ≠ .stuck := by
    refine Classical.byContradiction fun z => ?_
    unfold dWh at g
    rw [dif_neg z] at g
    exact g.elim
  obtain ⟨n, hn⟩ := hx
  rw [dWh_of hn] at g
  refine ⟨fun m σ' H' => ∃ ι' ρ' st', RE W ι' H' ρ' σ' ∧ RS W ι' st' H' ∧ Good W E ι' H' (whF dt f m ρ' st') (kF W D), ⟨n, ι, ρ, st, re, rs, g⟩, ?_⟩
  intro m σ1 H1 ⟨ι1, ρ1, st1, re1, rs1, g1⟩
  cases m with
  | zero => exact g1.elim
  | succ m =>
    refine ⟨ι1, ρ1, st1, re1, rs1, Good.imp (Good.bind g1) fun b st2 ι2 H2 m2 r2 g2 => ?_⟩
    have re2 := re1.mono rs1 m2
    cases b with
    | false => exact g2.ok r2 σ1 re2
    | true =>
      rw [if_pos rfl] at g2
      show ite (true = true) _ _
      rw [if_pos rfl]
      refine ⟨fun σ' H' => ∃ ι' ρ' st', RE W ι' H' ρ' σ' ∧ RS W ι' st' H' ∧ Good W E ι' H' (whF dt f m ρ' st') (kF W D), fun σ' H' z => ⟨m, Nat.lt_succ_self m, z⟩, ι2, ρ1, st2, re2, r2, Good.imp (Good.bind g2) fun fl st3 ι3 H3 m3 r3 g3 => ?_⟩
      cases fl with
      | nx ρ' => exact fun σ' re' => ⟨ι3, ρ', st3, re', r3, g3⟩
      | ct ρ' => exact fun σ' re' => ⟨ι3, ρ', st3, re', r3, g3⟩
      | bk ρ' => exact fun σ' re' => g3.ok r3 σ' re'
      | rt q => exact fun v hv => g3.ok r3 v hv⟩

/-! ### what is walked -/
structure Src where
  l : List PV
  chk : Sto → Prop
def JOk (W : Wd) (S : Src) (J : It) (ι0 : List Addr) (H0 : Hp) : Prop := ∀ (ι : List Addr) (H : Hp) (st : Sto), Mono ι0 H0 ι H → RS W ι st H → S.chk st → ∀ i,
  (∀ q, S.l[i]? = some q → J.go i H ∧ ∀ x H', J.yld i H x H' → Mono ι H ι H' ∧ RS W ι st H' ∧ RV W ι H' x q) ∧ (S.l.length ≤ i → J.stop i H)
def kI (W : Wd) (R : It → Hp → Prop) : Src → Sto → List Addr → Hp → Prop := fun S _ ι' H' => ∀ J, JOk W S J ι' H' → R J H'
/-- .. for one iterator, at a list that has just been laid -/
def tDI (W : Wd) (E : XK) (ds : Env → Mo Src) : TI := fun σ H R => ∃ ι ρ st, RE W ι H ρ σ ∧ RS W ι st H ∧ Good W E ι H (ds ρ st) (fun S st' ι' H' => ∀ J H'', Mono ι' H' ι' H'' → RS W ι' st' H'' → JOk W S J ι' H'' → R J H'')
structure DI (X : Cx) (W : Wd) (k : Nat) (E : XK) (tg e : Expr) (ds : Env → Mo Src) : Prop where
  run : On X W k E → PI X tg e (tDI W E ds)
theorem pi_imp {tg e : Expr} {t t' : TI} (h : PI X tg e t) (hi : ∀ σ H R, t' σ H R → t σ H R) : PI X tg e t' := ⟨fun pins s σ H R I w => h.run pins s σ H R I (hi σ H R w)⟩
def sV (l : List PV) : Src := ⟨l, fun _ => True⟩
def sL (n : Nat) (l : List PV) : Src := ⟨l, fun st => st[n]? = some (.lst false l) ∨ st[n]? = some (.lst true l)⟩
/-! ### for -/
open Classical in
noncomputable def foF (g : PV → Env → Mo Env) (f : Env → Mo Fl) (chk : Sto → Prop) : List PV → Env → Mo Fl
  | [], ρ => fun st => if chk st then .ok (.nx ρ) st else .stuck
  | q :: qs, ρ => fun st => if chk st then bnd (g q ρ) (fun ρ' => bnd (f ρ') (turnF (foF g f chk qs))) st else .stuck
noncomputable def dFor (ds : Env → Mo Src) (g : PV → Env → Mo Env) (f : Env → Mo Fl) : Env → Mo Fl := fun ρ => bnd (ds ρ) fun S => foF g f S.chk S.l ρ
open Classical in
theorem ds_for {tg : Expr} {ds : Env → Mo Src} (hi : DI X W k E tg e ds) (hg : DG X W k E tg g) (hb : DSs X W k E ss f) (hs : ∀ x, foldedSetIterable e X.env x = pure x := by intro _; rfl) : DS X W k E (.For tg e ss [] pos) (dFor ds g f) := ⟨fun o => ps_imp (ps_for o.own o.hc (hi.run o) (hg.run o) (hb.run o) hs) fun D σ H t => by
  obtain ⟨ι, ρ, st, re, rs, g0⟩ := t
  refine ⟨ι, ρ, st, re, rs, Good.imp (Good.bind g0) fun S st1 ι1 H1 m1 r1 g1 J H1' mn r1' jo => ?_⟩
  have re1 := (re.mono rs m1).mono r1 mn
  have P0 : ∀ i σ' H', (∃ ι' ρ' st', RE W ι' H' ρ' σ' ∧ RS W ι' st' H' ∧ Mono ι1 H1' ι' H' ∧ Good W E ι' H' (foF g f S.chk (S.l.drop i) ρ' st') (kF W D)) → (S.l.length ≤ i ∧ J.stop i H' ∧ D.nx σ' H') ∨ (∃ q, S.l[i]? = some q ∧ J.go i H' ∧ ∀ x H'', J.yld i H' x H'' →
      tDG W E g x σ' H'' fun σ2 H2 => tDS W E f { D with nx := fun σ3 H3 => ∃ ι' ρ' st', RE W ι' H3 ρ' σ3 ∧ RS W ι' st' H3 ∧ Mono ι1 H1' ι' H3 ∧ Good W E ι' H3 (foF g f S.chk (S.l.drop (i + 1)) ρ' st') (kF W D), ct := fun σ3 H3 => ∃ ι' ρ' st', RE W ι' H3 ρ' σ3 ∧ RS W ι' st' H3 ∧ Mono ι1 H1' ι' H3 ∧ Good W E ι' H3 (foF g f S.chk (S.l.drop (i + 1)) ρ' st') (kF W D), bk := D.nx } σ2 H2) := by
    intro i σ' H' ⟨ι2, ρ2, st2, re2, r2, m2, g2⟩
    by_cases hi : i < S.l.length
    · have hq : S.l[i]? = some S.l[i] := List.getElem?_eq_getElem hi
      rw [List.drop_eq_getElem_cons hi] at g2
      unfold foF at g2
      obtain ⟨hc, g3⟩ := good_if g2
      obtain ⟨hgo, hy⟩ := (jo ι2 H' st2 m2 r2 hc i).1 _ hq
      refine .inr ⟨_, hq, hgo, fun x H'' y => ?_⟩
      obtain ⟨m3, r3, rv⟩ := hy x H'' y
      refine ⟨ι2, ρ2, st2, _, re2.mono r2 m3, r3, rv, Good.imp (Good.bind (g3.shift m3)) fun ρ' st4 ι4 H4 m4 r4 g4 σ4 re4 => ?_⟩
      refine ⟨ι4, ρ', st4, re4, r4, Good.imp (Good.bind g4) fun fl st5 ι5 H5 m5 r5 g5 => ?_⟩
      have mm := ((m2.trans m3).trans m4).trans m5
      cases fl with
      | nx ρ' => exact fun σ' re' => ⟨ι5, ρ', st5, re', r5, mm, g5⟩
      | ct ρ' => exact fun σ' re' => ⟨ι5, ρ', st5, re', r5, mm, g5⟩
      | bk ρ' => exact fun σ' re' => g5.ok r5 σ' re'
      | rt q => exact fun v hv => g5.ok r5 v hv
    · have hl : S.l.length ≤ i := by omega
      rw [List.drop_of_length_le hl] at g2
      unfold foF at g2
      obtain ⟨hc, g3⟩ := good_if g2
      exact .inl ⟨hl, (jo ι2 H' st2 m2 r2 hc i).2 hl, g3.ok r2 σ' re2⟩
  refine ⟨fun i m σ' H' => m = S.l.length - i ∧ ∃ ι' ρ' st', RE W ι' H' ρ' σ' ∧ RS W ι' st' H' ∧ Mono ι1 H1' ι' H' ∧ Good W E ι' H' (foF g f S.chk (S.l.drop i) ρ' st') (kF W D), ⟨_, rfl, ι1, ρ, st1, re1, r1', Mono.refl, g1.shift mn⟩, ?_⟩
  rintro i m σ' H' ⟨rfl, z⟩
  rcases P0 i σ' H' z with ⟨_, h1, h2⟩ | ⟨q, hq, h1, h2⟩
  · exact .inl ⟨h1, h2⟩
  · have hlt := (List.getElem?_eq_some_iff.mp hq).1
    exact .inr ⟨h1, _, fun σ3 H3 z3 => ⟨S.l.length - (i + 1), by omega, rfl, z3⟩, h2⟩⟩

/-! ### sources -/
theorem jok_itr {ι : List Addr} {H : Hp} {lo : Int} {n : Nat} : JOk W (sV ((List.range n).map fun i : Nat => PV.int (lo + i))) (Itr lo n) ι H := by
  intro ι' H' st m rs _ i
  refine ⟨fun q hq => ?_, fun hl => show n ≤ i by simpa [sV] using hl⟩
  have hq : ((List.range n).map fun i : Nat => PV.int (lo + i))[i]? = some q := hq
  rw [List.getElem?_map] at hq
  have hi : i < n := by
    cases z : (List.range n)[i]? with
    | none => rw [z] at hq; cases hq
    | some y =>
      have := (List.getElem?_eq_some_iff.mp z).1
      simpa using this
  rw [List.getElem?_range hi] at hq
  cases hq
  refine ⟨hi, fun x H'' y => ?_⟩
  obtain ⟨rfl, rfl⟩ := y
  exact ⟨Mono.refl, rs, .int _⟩
theorem jok_list {ι : List Addr} {H : Hp} {n : Nat} {a : Addr} {l : List PV} (hn : ι[n]? = some a) : JOk W (sL n l) (Itl W.K a) ι H := by
  intro ι' H' st m rs hc i
  have hr : ∃ vs, SqL W.K H' a vs ∧ RVs W ι' H' vs l := by
    rcases hc with h | h
    · obtain ⟨vs, q, r, _⟩ := ro_sql (rs.ob n _ a h (m.pre n a hn))
      exact ⟨vs, q, r⟩
    · obtain ⟨vs, q, r, _⟩ := ro_sql (rs.ob n _ a h (m.pre n a hn))
      exact ⟨vs, q, r⟩
  obtain ⟨vs, sq, r⟩ := hr
  refine ⟨fun q hq => ?_, fun hl => ⟨vs, sq, by rw [r.length]; exact hl⟩⟩
  obtain ⟨v, hv, rv⟩ := r.get hq
  refine ⟨⟨vs, v, sq, hv⟩, fun x H'' y => ?_⟩
  obtain ⟨rfl, y⟩ := y
  have e := y vs sq
  rw [hv] at e
  cases e
  exact ⟨Mono.refl, rs, rv⟩
theorem jok_tmp {ι : List Addr} {st0 : Sto} {H : Hp} {a : Addr} {vs : List V} {l : List PV} (r0 : RS W ι st0 H) (hn : a ∉ ι) (he : H a = some (.lst vs)) (r : RVs W ι H vs l) : JOk W (sV l) (Itl W.K a) ι H := by
  intro ι' H' st m rs hc i
  have r := rvs_mono r0 m _ _ r
  have sq : SqL W.K H' a vs := .inl (.inl (lst_mono m hn he))
  refine ⟨fun q hq => ?_, fun hl => ⟨vs, sq, by rw [r.length]; exact hl⟩⟩
  obtain ⟨v, hv, rv⟩ := r.get hq
  refine ⟨⟨vs, v, sq, hv⟩, fun x H'' y => ?_⟩
  obtain ⟨rfl, y⟩ := y
  have e := y vs sq
  rw [hv] at e
  cases e
  exact ⟨Mono.refl, rs, rv⟩
theorem jok_tup {ι : List Addr} {st0 : Sto} {H : Hp} {a : Addr} {vs : List V} {l : List PV} (r0 : RS W ι st0 H) (he : SqT W.K H a vs) (r : RVs W ι H vs l) : JOk W (sV l) (Itt W.K a) ι H := by
  intro ι' H' st m rs hc i
  have r := rvs_mono r0 m _ _ r
  have sq : SqT W.K H' a vs := sqt_mono r0 m he
  refine ⟨fun q hq => ?_, fun hl => ⟨vs, sq, by rw [r.length]; exact hl⟩⟩
  obtain ⟨v, hv, rv⟩ := r.get hq
  refine ⟨⟨vs, v, sq, hv⟩, fun x H'' y => ?_⟩
  obtain ⟨rfl, y⟩ := y
  have e := y vs sq
  rw [hv] at e
  cases e
  exact ⟨Mono.refl, rs, rv⟩
/-- a list or a tuple, told when it is there -/
def iSeq (K : PySem.W.Frag) (tl : TE) : TI := fun σ H R => tl σ H fun x H1 => ∃ a, x = .ref a ∧ (((∃ xs, SqL K H1 a xs) ∧ R (Itl K a) H1) ∨ ((∃ xs, SqT K H1 a xs) ∧ R (Itt K a) H1))
theorem pi_seq {tg l : Expr} {tl : TE} (hl : PE X l tl) : PI X tg l (iSeq X.K tl) := by
  refine ⟨fun pins s σ H R I hw => ?_⟩
  refine thn (hl.run pins s σ H _ I hw) fun _ sa ⟨_, Ha, Ia, ra, a, e, qa⟩ => ?_
  subst e
  cases ra
  have fresh : ∀ b ∈ [sa.heap.objs.size], FpOk X pins Ha b := fun b hb => by
    have e : b = sa.heap.objs.size := List.mem_singleton.mp hb
    subst e
    exact Ia.fpOk (Nat.le_refl _) (Ia.hok.fresh (Nat.le_refl _))
  rcases qa with ⟨⟨xs, hq⟩, qa⟩ | ⟨⟨xs, hq⟩, qa⟩
  · obtain ⟨its, _, pl, _⟩ := Ia.list hq
    exact wpAny_pyIter_list pl.isList ⟨sa.heap.objs.size, [sa.heap.objs.size], _, _, Ha, rfl, Ia.kept (t' := sa.toks) fun b o z => Heap.get?_push_of_some _ z, turn_list a _, ⟨_, Heap.get?_push_size _ rfl, rfl, rfl⟩, fresh, qa⟩
  · obtain ⟨its, _, pl, _⟩ := Ia.tuple hq
    exact wpAny_pyIter_tuple (show sa.heap.IsTuple a its.toArray from pl) ⟨sa.heap.objs.size, [sa.heap.objs.size], _, _, Ha, rfl, Ia.kept (t' := sa.toks) fun b o z => Heap.get?_push_of_some _ z, turn_tuple a _, ⟨_, Heap.get?_push_size _ rfl, rfl, rfl⟩, fresh, qa⟩
def srcM (q : PV) : Mo Src := fun st => match q with
  | .tup l => .ok (sV l) st
  | .loc n => match st[n]? with
    | some (.lst _ l) => .ok (sL n l) st
    | _ => .stuck
  | _ => .stuck
theorem di_e {tg : Expr} (h : DE X W k E e d) : DI X W k E tg e (fun ρ => bnd (d ρ) srcM) := ⟨fun o => pi_imp (pi_seq (h.run o)) fun σ H R t => by
  obtain ⟨ι, ρ, st, re, rs, g⟩ := t
  refine ⟨ι, ρ, st, re, rs, Good.imp (Good.bind g) fun q st1 ι1 H1 m1 r1 g1 v hv => ?_⟩
  rw [o.hK]
  cases hv <;> try exact g1.elim
  · rename_i a vs l sq rr z
    exact ⟨a, rfl, .inr ⟨⟨vs, sq⟩, g1.ok r1 _ H1 Mono.refl r1 (jok_tup r1 sq rr)⟩⟩
  · rename_i n a hn
    unfold srcM at g1
    dsimp only at g1
    cases q : st1[n]? with
    | none => rw [q] at g1; exact g1.elim
    | some ob =>
      rw [q] at g1
      cases ob with
      | dct _ _ => exact g1.elim
      | sti _ => exact g1.elim
      | lst lk l =>
        obtain ⟨vs, sq, _, _⟩ := ro_sql (r1.ob n _ a q hn)
        exact ⟨a, rfl, .inl ⟨⟨vs, sq⟩, g1.ok r1 _ H1 Mono.refl r1 (jok_list hn)⟩⟩⟩
def svM (l : List PV) : Mo Src := fun st => .ok (sV l) st
theorem di_l {tg : Expr} (h : DL X W k E e dl) : DI X W k E tg e (fun ρ => bnd (dl ρ) svM) := ⟨fun o => pi_imp (pi_seq (h.run o)) fun σ H R t => by
  obtain ⟨ι, ρ, st, re, rs, g⟩ := t
  refine ⟨ι, ρ, st, re, rs, Good.imp (Good.bind g) fun l st1 ι1 H1 m1 r1 g1 p vs h0 hn he rr hz => ?_⟩
  rw [o.hK]
  exact ⟨p, rfl, .inl ⟨⟨vs, .inl (.inl he)⟩, g1.ok r1 _ H1 Mono.refl r1 (jok_tmp r1 hn he rr)⟩⟩⟩
def rgP (lo : Int) (n : Nat) : List PV := (List.range n).map fun i : Nat => PV.int (lo + i)
abbrev RgOk (i : Int) : Prop := -4611686018427387904 ≤ i ∧ i < 4611686018427387904
def rg1M : List PV → Mo Src
  | [.int j] => fun st => if RgOk j then .ok (sV (rgP 0 j.toNat)) st else .stuck
  | _ => fail
def rg2M : List PV → Mo Src
  | [.int i, .int j] => fun st => if RgOk i ∧ RgOk j then .ok (sV (rgP i (j - i).toNat)) st else .stuck
  | _ => fail
theorem di_range1 {tg : Expr} (h : DA X W k E [a] dl) (hg : Gl X "range") (hm : W.mg "range" = none) (hs : starEach [a] X.env = [(false, eval a X.env)] := by rfl) : DI X W k E tg (.Call (.Name "range" p) [a] [] pos) (fun ρ => bnd (dl ρ) rg1M) := ⟨fun o => pi_imp (pi_range1 hg (by rw [o.hM]; exact hm) (h.run o) hs) fun σ H R t => by
  obtain ⟨ι, ρ, st, re, rs, g⟩ := t
  refine ⟨ι, ρ, st, re, rs, Good.imp (Good.bind g) fun l st1 ι1 H1 m1 r1 g1 vs hv => ?_⟩
  cases hv with
  | nil => exact g1.elim
  | cons h1 t1 =>
    cases t1 with
    | cons _ _ => cases h1 <;> exact g1.elim
    | nil =>
      cases h1 <;> try exact g1.elim
      obtain ⟨hc, g2⟩ := good_if g1
      exact ⟨_, rfl, by have := hc.1; omega, by have := hc.2; omega, g2.ok r1 _ H1 Mono.refl r1 jok_itr⟩⟩
theorem di_range2 {tg : Expr} (h : DA X W k E [a, b] dl) (hg : Gl X "range") (hm : W.mg "range" = none) (hs : starEach [a, b] X.env = [(false, eval a X.env), (false, eval b X.env)] := by rfl) (hs2 : starEach [b] X.env = [(false, eval b X.env)] := by rfl) : DI X W k E tg (.Call (.Name "range" p) [a, b] [] pos) (fun ρ => bnd (dl ρ) rg2M) := ⟨fun o => pi_imp (pi_range2 hg (by rw [o.hM]; exact hm) (h.run o) hs hs2) fun σ H R t => by
  obtain ⟨ι, ρ, st, re, rs, g⟩ := t
  refine ⟨ι, ρ, st, re, rs, Good.imp (Good.bind g) fun l st1 ι1 H1 m1 r1 g1 vs hv => ?_⟩
  cases hv with
  | nil => exact g1.elim
  | cons h1 t1 =>
    cases t1 with
    | nil => cases h1 <;> exact g1.elim
    | cons h2 t2 =>
      cases t2 with
      | cons _ _ => cases h1 <;> cases h2 <;> exact g1.elim
      | nil =>
        cases h1 <;> cases h2 <;> try exact g1.elim
        obtain ⟨hc, g2⟩ := good_if g1
        exact ⟨_, _, rfl, ⟨by have := hc.1.1; omega, by have := hc.1.2; omega, by have := hc.2.1; omega, by have := hc.2.2; omega⟩, g2.ok r1 _ H1 Mono.refl r1 jok_itr⟩⟩
/-! ### patterns, without effect -/
inductive Pt where
  | nm (i : Nat) | tp (l : List Pt)
mutual
def Pt.vs : Pt → List Nat
  | .nm i => [i]
  | .tp l => Pt.vss l
def Pt.vss : List Pt → List Nat
  | [] => []
  | p :: l => Pt.vs p ++ Pt.vss l
end
mutual
/-- what is set, in order -/
def Pt.go : Pt → PV → Env → Option Env
  | .nm i, q, ρ => some (ρ.set i (some q))
  | .tp l, .tup qs, ρ => Pt.gos l qs ρ
  | .tp _, _, _ => none
def Pt.gos : List Pt → List PV → Env → Option Env
  | [], [], ρ => some ρ
  | p :: l, q :: qs, ρ => (Pt.go p q ρ).bind (Pt.gos l qs)
  | _, _, _ => none
end
def wipeE (ρ : Env) : List Nat → Env
  | [] => ρ
  | v :: vs => (wipeE ρ vs).set v none
theorem RE.wipe {ι : List Addr} {H : Hp} {ρ : Env} {σ : L2.St} (re : RE W ι H ρ σ) : ∀ vs : List Nat, RE W ι H (wipeE ρ vs) (wipe σ vs)
  | [] => re
  | v :: vs => (RE.wipe re vs).unset v
theorem wipe_set {σ : L2.St} {i : Nat} {v : Option V} : ∀ {vs : List Nat}, i ∈ vs → wipe (σ.set i v) vs = wipe σ vs
  | [], h => (by cases h)
  | w :: vs, h => by
    unfold wipe
    by_cases hi : i ∈ vs
    · rw [wipe_set hi]
    · have e : i = w := by
        rcases List.mem_cons.mp h with z | z
        · exact z
        · exact (hi z).elim
      subst e
      have key : ∀ us : List Nat, i ∉ us → wipe (σ.set i v) us = (wipe σ us).set i v := by
        intro us
        induction us with
        | nil => intro _; rfl
        | cons u us ih =>
          intro hn
          rw [List.mem_cons, not_or] at hn
          unfold wipe
          rw [ih hn.2, List.set_comm _ _ hn.1]
      rw [key vs hi, List.set_set]
def tDP (W : Wd) (pt : Pt) (vs : List Nat) : TG := fun v σ H Q => ∃ ι ρ st q, RE W ι H ρ σ ∧ RS W ι st H ∧ RV W ι H v q ∧ ∃ ρ', Pt.go pt q ρ = some ρ' ∧ ∀ σ', RE W ι H ρ' σ' → wipe σ' vs = wipe σ vs → Q σ' H
def tDPs (W : Wd) (pt : List Pt) (vs : List Nat) : TGs := fun us σ H Q => ∃ ι ρ st q, RE W ι H ρ σ ∧ RS W ι st H ∧ RVs W ι H us q ∧ ∃ ρ', Pt.gos pt q ρ = some ρ' ∧ ∀ σ', RE W ι H ρ' σ' → wipe σ' vs = wipe σ vs → Q σ' H
structure DP (X : Cx) (W : Wd) (vs : List Nat) (e : Expr) (pt : Pt) : Prop where
  run : X.K = W.K → X.N.Nodup → X.calm = true → PG X e (tDP W pt vs)
structure DPs (X : Cx) (W : Wd) (vs : List Nat) (e : List Expr) (pt : List Pt) : Prop where
  run : X.K = W.K → X.N.Nodup → X.calm = true → PGs X e (tDPs W pt vs)
theorem dp_name {vs : List Nat} {i : Nat} {x : Str} (hv : i ∈ vs := by decide) (hi : X.N[i]? = some x := by rfl) (hx : Loc X.env.scope x := by first | exact .inl rfl | exact .inr rfl) (hf : X.fn x = true ∨ X.env.scope.names.lookup x = some .local := by first | exact .inl rfl | exact .inr rfl) : DP X W vs (.Name x pos) (.nm i) := ⟨fun _ nd _ => pg_imp (pg_name nd hi hx hf) fun v σ H Q t => by
  obtain ⟨ι, ρ, st, q, re, rs, r, ρ', e, hq⟩ := t
  cases e
  exact hq _ (re.set r i) (wipe_set hv)⟩
theorem dps_nil {vs : List Nat} : DPs X W vs [] [] := ⟨fun _ _ _ => pgs_imp pgs_nil fun v σ H Q t => by
  obtain ⟨ι, ρ, st, q, re, rs, r, ρ', e, hq⟩ := t
  cases r with
  | nil => cases e; exact ⟨rfl, hq _ re rfl⟩
  | cons _ _ => cases e⟩
theorem dps_cons {vs : List Nat} {pt : Pt} {pts : List Pt} (h1 : DP X W vs e pt) (h2 : DPs X W vs es pts) (hs : (assignEach (e :: es) X.env).map (·.2) = assign e X.env :: (assignEach es X.env).map (·.2) := by rfl) : DPs X W vs (e :: es) (pt :: pts) := ⟨fun hK nd hc => pgs_imp (pgs_cons (h1.run hK nd hc) (h2.run hK nd hc) hs) fun v σ H Q t => by
  obtain ⟨ι, ρ, st, q, re, rs, r, ρ', e, hq⟩ := t
  cases r with
  | nil => cases e
  | cons hv rr =>
    rename_i q0 _ qs
    unfold Pt.gos at e
    cases z : Pt.go pt q0 ρ with
    | none => rw [z] at e; cases e
    | some ρ1 =>
      rw [z] at e
      exact ⟨_, _, rfl, ι, ρ, st, q0, re, rs, hv, ρ1, z, fun σ' re' w' => ⟨ι, ρ1, st, qs, re', rs, rr, ρ', e, fun σ2 re2 w2 => hq σ2 re2 (w2.trans w')⟩⟩⟩
theorem dp_tup {vs : List Nat} {pts : List Pt} {x1 n : Nat} (h : DPs X W vs es pts) (hn : (assignEach es X.env).length = n := by rfl) (hp : pts.length = n := by rfl) (hst : (assignEach es X.env).findIdx? (·.1) = none := by rfl) : DP X W vs (.Tuple es x1 pos) (.tp pts) := ⟨fun hK nd hc => pg_imp (pg_tup hc (h.run hK nd hc) hn hst) fun v σ H Q t => by
  obtain ⟨ι, ρ, st, q, re, rs, r, ρ', e, hq⟩ := t
  cases r <;> try (unfold Pt.go at e; cases e; done)
  rename_i a us l sq rr z
  unfold Pt.go at e
  have hl : ∀ (pts : List Pt) (l : List PV) (ρ ρ' : Env), Pt.gos pts l ρ = some ρ' → l.length = pts.length := by
    intro pts
    induction pts with
    | nil => intro l ρ ρ' e; cases l with
      | nil => rfl
      | cons _ _ => cases e
    | cons p pts ih => intro l ρ ρ' e; cases l with
      | nil => cases e
      | cons q l =>
        unfold Pt.gos at e
        cases z : Pt.go p q ρ with
        | none => rw [z] at e; cases e
        | some ρ1 => rw [z] at e; rw [List.length_cons, List.length_cons, ih l ρ1 ρ' e]
  exact ⟨a, us, rfl, by rw [hK]; exact sq, by rw [rr.length, hl _ _ _ _ e]; exact hp, ι, ρ, st, l, re, rs, rr, ρ', e, hq⟩⟩
end
end PD
/-! PD: list comprehensions. -/
namespace PD
open PySem PySem.Spec PyProof.Rows L2
def nox {α : Type} (m : Mo α) : Mo α := fun st => match m st with
  | .exc _ _ => .stuck
  | r => r
theorem Good.nox {W : Wd} {E : XK} {α β : Type} {ι : List Addr} {H : Hp} {st : Sto} {m : Mo α} {f : α → Mo β} {k : β → Sto → List Addr → Hp → Prop} (g : Good W E ι H (bnd (PD.nox m) f st) k) : Good W E0 ι H (m st) (fun a st1 ι1 H1 => Good W E ι1 H1 (f a st1) k) := by
  have g1 := Good.bind g
  unfold PD.nox at g1
  cases q : m st with
  | ok a st' => rw [q] at g1; exact g1
  | exc c st' => rw [q] at g1; exact g1.elim
  | stuck => rw [q] at g1; exact g1.elim
theorem Good.bindB {W : Wd} {E : XK} {α β : Type} {ι0 ι : List Addr} {H0 H : Hp} {st : Sto} {m : Mo α} {f : α → Mo β} {k : β → Sto → List Addr → Hp → Prop} (g : Good W E ι0 H0 (bnd m f st) k) (mm : Mono ι0 H0 ι H) : Good W E ι H (m st) (fun a st1 _ _ => Good W E ι0 H0 (f a st1) k) := by
  unfold bnd at g
  cases q : m st with
  | ok a st' => rw [q] at g; exact fun _ _ _ _ => g
  | exc c st' => rw [q] at g; exact g.shift mm
  | stuck => rw [q] at g; exact g.elim
theorem Good.noxB {W : Wd} {E : XK} {α β : Type} {ι0 ι : List Addr} {H0 H : Hp} {st : Sto} {m : Mo α} {f : α → Mo β} {k : β → Sto → List Addr → Hp → Prop} (g : Good W E ι0 H0 (bnd (PD.nox m) f st) k) (mm : Mono ι0 H0 ι H) : Good W E0 ι H (m st) (fun a st1 _ _ => Good W E ι0 H0 (f a st1) k) := by
  have g1 := Good.bindB g mm
  unfold PD.nox at g1
  cases q : m st with
  | ok a st' => rw [q] at g1; exact g1
  | exc c st' => rw [q] at g1; exact g1.elim
  | stuck => rw [q] at g1; exact g1.elim
theorem wipe_idem {σ : L2.St} : ∀ (vs us : List Nat), (∀ i ∈ us, i ∈ vs) → wipe (wipe σ us) vs = wipe σ vs
  | vs, [], _ => rfl
  | vs, u :: us, h => by
    show wipe ((wipe σ us).set u none) vs = _
    rw [wipe_set (h u (List.mem_cons_self ..)), wipe_idem vs us fun i hi => h i (List.mem_cons_of_mem _ hi)]
section
variable {W : Wd} {ι : List Addr} {H : Hp} {st : Sto} {D : Addr} {xs ys : List V}
theorem sqt_off {K : PySem.W.Frag} (hD : H D = some (.lst xs)) {a : Addr} {vs : List V} (h : SqT K H a vs) : SqT K (upd H D (.lst ys)) a vs := by
  rcases h with (h | ⟨b, h⟩) | h
  · exact .inl (.inl ((upd_ne (fun z => by rw [z, hD] at h; cases h)).trans h))
  · exact .inl (.inr ⟨b, (upd_ne (fun z => by rw [z, hD] at h; cases h)).trans h⟩)
  · exact .inr h
mutual
theorem rv_off (hD : H D = some (.lst xs)) : ∀ (p : PV) (v : V), RV W ι H v p → RV W ι (upd H D (.lst ys)) v p
  | .non, _, .non => .non
  | .bl _, _, .bl _ => .bl _
  | .int _, _, .int _ => .int _
  | .str _, _, .str _ => .str _
  | .tup ps, _, .tup h r z => .tup (sqt_off hD h) (rvs_off hD ps _ r) z
  | .loc _, _, .loc h => .loc h
  | .fn _, _, .fn h => .fn h
  | .kl _, _, .kl h z => .kl h z
theorem rvs_off (hD : H D = some (.lst xs)) : ∀ (ps : List PV) (vs : List V), RVs W ι H vs ps → RVs W ι (upd H D (.lst ys)) vs ps
  | [], _, .nil => .nil
  | p :: ps, _, .cons h r => .cons (rv_off hD p _ h) (rvs_off hD ps _ r)
end
theorem rks_off (hD : H D = some (.lst xs)) : ∀ {ps : List (PV × PV)} {vs : List (Key × V)}, RKs W ι H vs ps → RKs W ι (upd H D (.lst ys)) vs ps
  | _, _, .nil => .nil
  | _, _, .cons h r => .cons (rv_off hD _ _ h) (rks_off hD r)
theorem RS.off (rs : RS W ι st H) (hn : D ∉ ι) (hD : H D = some (.lst xs)) : RS W ι st (L2.upd H D (.lst ys)) := by
  refine ⟨rs.len, rs.nd, fun n u a h1 h2 => ?_, fun P hP => ?_, tl_upd rs.tl fun o e => by rw [hD] at e; cases e; exact ⟨fun _ z => (by cases z), fun _ _ z => (by cases z), fun _ z => (by cases z), fun _ z => (by cases z)⟩⟩
  rotate_left
  · obtain ⟨ps, e, t⟩ := rs.tb P hP
    exact ⟨ps, (upd_ne (fun z => by rw [z, hD] at e; cases e)).trans e, t⟩
  have r := rs.ob n u a h1 h2
  have e : L2.upd H D (.lst ys) a = H a := upd_ne fun z => hn (by rw [← z]; exact List.mem_of_getElem? h2)
  cases u with
  | lst lk l =>
    cases lk with
    | false => obtain ⟨vs, q, z, y⟩ := r; exact ⟨vs, e.trans q, rvs_off hD _ _ z, y⟩
    | true => obtain ⟨c, vs, q, z, y⟩ := r; exact ⟨c, vs, e.trans q, rvs_off hD _ _ z, y⟩
  | dct lk l =>
    cases lk with
    | false => obtain ⟨vs, q, z⟩ := r; exact ⟨vs, e.trans q, rks_off hD z⟩
    | true => obtain ⟨c, vs, q, z⟩ := r; exact ⟨c, vs, e.trans q, rks_off hD z⟩
  | sti l => obtain ⟨S, q, z⟩ := r; exact ⟨S, e.trans q, z⟩
theorem Mono.off {ι0 : List Addr} {H0 : Hp} (m : Mono ι0 H0 ι H) (h0 : H0 D = none) {o : HO} : Mono ι0 H0 ι (L2.upd H D o) := ⟨m.pre, m.fresh, fun a u h hn => by
  obtain ⟨u', e, kp⟩ := m.keep a u h hn
  exact ⟨u', (upd_ne (ne_of_none h h0)).trans e, kp⟩⟩
theorem Mono.notin {ι' : List Addr} {H' : Hp} {o : HO} (m : Mono ι H ι' H') (hn : D ∉ ι) (hD : H D = some o) : D ∉ ι' := fun z => by
  rw [m.fresh D z hn] at hD
  cases hD
end
section
variable {X : Cx} {W : Wd} {k : Nat} {E : XK} {a b c e o : Expr} {es ifs : List Expr} {pos p p2 : Pos} {da db dc d : Env → Mo PV} {dt du : Env → Mo Bool} {dl dm : Env → Mo (List PV)}
theorem On.blk (h : On X W k E) (s : Shared) (H : Hp) (scope : Scope) (env : PySem.Env) (fp : List Addr) : On (X.blk s H scope env fp) W k E0 :=
  ⟨h.hK, h.hM, h.hc, h.nd, h.room, fun _ _ _ _ _ _ _ z => (h.c0 _ _ _ _ _ z).elim, fun _ _ z => z.elim, h.c0⟩
structure DTs (X : Cx) (W : Wd) (k : Nat) (E : XK) (ifs : List Expr) (d : Env → Mo Bool) : Prop where
  run : On X W k E → PTs X ifs (tDT W E d)
theorem pts_imp {t t' : TT} (h : PTs X ifs t) (hi : ∀ σ H Q, t' σ H Q → t σ H Q) : PTs X ifs t' := ⟨fun pins s σ H Q I w => h.run pins s σ H Q I (hi σ H Q w)⟩
def dYes : Env → Mo Bool := fun _ st => .ok true st
theorem dts_nil : DTs X W k E [] dYes := ⟨fun o => pts_imp pts_nil fun σ H Q t => by
  obtain ⟨ι, ρ, st, re, rs, g⟩ := t
  exact g.ok rs⟩
theorem dts_one (h : DT X W k E c dt) : DTs X W k E [c] dt := ⟨fun o => pts_one (h.run o)⟩
open Classical in
noncomputable def lcF (pt : Pt) (dt : Env → Mo Bool) (d : Env → Mo PV) (chk : Sto → Prop) (ρ : Env) : List PV → List PV → Mo (List PV)
  | [], acc => fun st => if chk st then .ok acc st else .stuck
  | q :: qs, acc => fun st => if chk st then (match Pt.go pt q ρ with
    | none => .stuck
    | some ρ1 => bnd (nox (dt ρ1)) (fun b => if b = true then bnd (nox (d ρ1)) (fun y st2 => if acc.length < 16777216 then lcF pt dt d chk ρ qs (acc ++ [y]) st2 else .stuck) else lcF pt dt d chk ρ qs acc) st) else .stuck
noncomputable def dLc (ds : Env → Mo Src) (pt : Pt) (dt : Env → Mo Bool) (d : Env → Mo PV) (vs : List Nat) : Env → Mo (List PV) := fun ρ => bnd (ds ρ) fun S => lcF pt dt d S.chk (wipeE ρ vs) S.l []
open Classical in
theorem lc_of {pt : Pt} {ds : Env → Mo Src} {vs : List Nat} {σ : L2.St} {H : Hp} {Q : VK} (t : tDL W E (dLc ds pt dt d vs) σ H Q) : tLc (tDI W E ds) (tDP W pt vs) (tDT W E0 dt) (tD W E0 d) vs σ H Q := by
  obtain ⟨ι, ρ, st, re, rs, g⟩ := t
  refine ⟨ι, ρ, st, re, rs, Good.imp (Good.bind g) fun S st1 ι1 H1 m1 r1 g1 J H1' mn r1' jo D hD => ?_⟩
  have re1 := (re.mono rs m1).mono r1 mn
  have hD0 : H D = none := none_back rs (m1.trans mn) r1'.some_ hD
  have hD1 : D ∉ ι1 := fun z => r1'.some_ D z hD
  have Dsz : ∀ (acc : List PV), acc.length < 16777216 → (acc.length : Nat) < sizeLine := fun acc h => by
    rw [sizeLine_eq]
    exact h
  let S0 := fun (i : Nat) (H' : Hp) => ∃ ι' st' acc av, RE W ι' H' ρ σ ∧ RS W ι' st' H' ∧ Mono ι1 H1' ι' H' ∧ D ∉ ι' ∧ H' D = some (.lst av) ∧ RVs W ι' H' av acc ∧ acc.length ≤ 16777216 ∧ Good W E ι1 H1' (lcF pt dt d S.chk (wipeE ρ vs) (S.l.drop i) acc st') (kL W H Q)
  refine ⟨fun i m H' => m = S.l.length - i ∧ S0 i H', ⟨_, rfl, ι1, st1, [], [], ?_, ?_, ?_, hD1, upd_same, .nil, Nat.zero_le _, ?_⟩, ?_⟩
  · exact re1.mono r1' (Mono.new hD)
  · exact r1'.other hD
  · exact Mono.new hD
  · exact g1.shift mn
  · rintro i m H' ⟨rfl, ι2, st2, acc, av, re2, r2, m2, hn2, he2, ra2, hz2, g2⟩
    by_cases hi : i < S.l.length
    · have hq : S.l[i]? = some S.l[i] := List.getElem?_eq_getElem hi
      rw [List.drop_eq_getElem_cons hi] at g2
      unfold lcF at g2
      obtain ⟨hc, g3⟩ := good_if g2
      obtain ⟨hgo, hy⟩ := (jo ι2 H' st2 m2 r2 hc i).1 _ hq
      refine .inr ⟨hgo, S0 (i + 1), fun H'' z => ⟨S.l.length - (i + 1), by omega, rfl, z⟩, fun x H'' y => ?_⟩
      obtain ⟨m3, r3, rv⟩ := hy x H'' y
      cases hp : Pt.go pt S.l[i] (wipeE ρ vs) with
      | none => rw [hp] at g3; exact g3.elim
      | some ρ1 =>
        rw [hp] at g3
        have re3 := re2.mono r2 m3
        refine ⟨ι2, wipeE ρ vs, st2, _, re3.wipe vs, r3, rv, ρ1, hp, fun σ' re' hw => ⟨hw.trans (wipe_idem vs vs fun _ z => z), ?_⟩⟩
        refine ⟨ι2, ρ1, st2, re', r3, Good.imp (Good.noxB g3 (m2.trans m3)) fun b st4 ι4 H4 m4 r4 g4 => ?_⟩
        have hn4 := (m3.trans m4).notin hn2 he2
        have he4 := lst_mono (m3.trans m4) hn2 he2
        have ra4 := rvs_mono r2 (m3.trans m4) _ _ ra2
        have re4 := re2.mono r2 (m3.trans m4)
        cases b with
        | false => exact ⟨ι4, st4, acc, av, re4, r4, m2.trans (m3.trans m4), hn4, he4, ra4, hz2, g4⟩
        | true =>
          show ite (true = true) _ _
          rw [if_pos rfl] at g4 ⊢
          refine ⟨ι4, ρ1, st4, re'.mono r3 m4, r4, Good.imp (Good.noxB g4 (m2.trans (m3.trans m4))) fun y st5 ι5 H5 m5 r5 g5 yv hyv => ?_⟩
          obtain ⟨hl, g6⟩ := good_if g5
          have hn5 := m5.notin hn4 he4
          have he5 := lst_mono m5 hn4 he4
          have ra5 := rvs_mono r4 m5 _ _ ra4
          refine ⟨av, he5, by rw [ra2.length]; exact Dsz acc hl, ?_⟩
          have mm : Mono ι1 H1' ι5 H5 := m2.trans ((m3.trans m4).trans m5)
          refine ⟨ι5, st5, acc ++ [y], av ++ [yv], ?_, r5.off hn5 he5, mm.off hD, hn5, upd_same, rvs_off he5 _ _ (ra5.append (.cons hyv .nil)), by rw [List.length_append, List.length_singleton]; exact hl, ?_⟩
          · have re5 := re4.mono r4 m5
            exact ⟨re5.len, fun i p h => let ⟨v, h1, h2⟩ := re5.at_ i p h; ⟨v, h1, rv_off he5 p v h2⟩⟩
          · exact g6
    · have hl : S.l.length ≤ i := by omega
      rw [List.drop_of_length_le hl] at g2
      unfold lcF at g2
      obtain ⟨hc, g3⟩ := good_if g2
      exact .inl ⟨(jo ι2 H' st2 m2 r2 hc i).2 hl, (g3.shift m2).ok r2 D av hD0 hn2 he2 ra2 hz2⟩

abbrev Bk (X : Cx) (scope : Scope) (P : Cx → Prop) : Prop := ∀ (s : Shared) (H : Hp) (C : Addr) (cl : List (Str × Addr)) (fp : List Addr), P (X.blk s H scope (compEnvC scope cl C X.env) fp)
theorem dl_lc {elt tg iter : Expr} {scope : Scope} {own : List (Str × Nat)} {ds : Env → Mo Src} {pt : Pt} (hi : DI X W k E tg iter ds) (ok : BlkOk X.N X.env.scope scope own) (hg : Bk X scope fun Y => DP Y W (own.map (·.2)) tg pt) (ht : Bk X scope fun Y => DTs Y W k E0 ifs dt)
    (he : Bk X scope fun Y => DE Y W k E0 elt d) (hs : ∀ x, foldedSetIterable iter X.env x = pure x := by intro _; rfl) : DL X W k E (.ListComp elt [⟨tg, iter, ifs, 0⟩] scope pos) (dLc ds pt dt d (own.map (·.2))) := ⟨fun o =>
  pe_imp (pe_lc o.hc o.nd (hi.run o) ok (fun s H C cl fp => (hg s H C cl fp).run o.hK o.nd o.hc) (fun s H C cl fp => (ht s H C cl fp).run (o.blk s H scope _ fp)) (fun s H C cl fp => (he s H C cl fp).run (o.blk s H scope _ fp)) hs) fun _ _ _ t => lc_of t⟩
/-- y = [..] on one line, y a local -/
theorem ds_setLc {i : Nat} {y : Str} {py spos : Pos} {elt tg iter : Expr} {scope : Scope} {own : List (Str × Nat)} {ds : Env → Mo Src} {pt : Pt} (hi : DI X W k E tg iter ds) (ok : BlkOk X.N X.env.scope scope own) (hg : Bk X scope fun Y => DP Y W (own.map (·.2)) tg pt) (ht : Bk X scope fun Y => DTs Y W k E0 ifs dt)
    (he : Bk X scope fun Y => DE Y W k E0 elt d) (hy : X.N[i]? = some y := by rfl) (hyl : X.env.scope.names.lookup y = some .local := by rfl) (hsw : swapsWith (.ListComp elt [⟨tg, iter, ifs, 0⟩] scope pos) (some (.Name y py)) spos.line X.env = pure true := by rfl)
    (hs : ∀ x, foldedSetIterable iter X.env x = pure x := by intro _; rfl) : DS X W k E (.Assign [.Name y py] (.ListComp elt [⟨tg, iter, ifs, 0⟩] scope pos) spos) (dSet i (fun ρ => bnd (dLc ds pt dt d (own.map (·.2)) ρ) layL)) := ⟨fun o =>
  ps_imp (ps_setLc o.hc o.nd hy hyl hsw (hi.run o) ok (fun s H C cl fp => (hg s H C cl fp).run o.hK o.nd o.hc) (fun s H C cl fp => (ht s H C cl fp).run (o.blk s H scope _ fp)) (fun s H C cl fp => (he s H C cl fp).run (o.blk s H scope _ fp)) hs) fun D σ H t => by
    obtain ⟨ι, ρ, st, re, rs, g⟩ := t
    exact lc_of (lay_of ⟨ι, ρ, st, re, rs, Good.imp (Good.bind g) fun q st1 ι1 H1 m1 r1 g1 v hv => g1.ok r1 _ ((re.mono rs m1).set hv i)⟩)⟩

/-! ### methods of lists -/
def MOk (W : Wd) (E : XK) (r : V → List V → Hp → VK → Prop) (f : PV → List PV → Mo PV) : Prop := ∀ (ι : List Addr) (st : Sto) (H : Hp) (x : V) (xs : List V) (q : PV) (l : List PV) (Q : VK), RS W ι st H → RV W ι H x q → RVs W ι H xs l → Good W E ι H (f q l st) (kQ W Q) → r x xs H Q
variable {name : Str} {apos cpos : Pos} {id : String} {r : V → List V → Hp → VK → Prop} {f : PV → List PV → Mo PV}
theorem de_lm (slot : Slot "list" name id) (hty : typeOf (.builtin id) = pure (.type "method_descriptor")) (hm : On X W k E → MtR X id r) (hf : MOk W E r f) (ho : DE X W k E a d) (ha : DA X W k E (e :: es) dl)
    (hbase : attributeBase a name X.env (eval a X.env) = eval a X.env := by rfl)
    (hfew : ((backTo cpos (starEach (e :: es) X.env)).all (fun x => !x.1) && (backToKw cpos (keywordEach [] X.env)).all (fun x => x.1.isSome) && decide ((e :: es).length + ([] : List Keyword).length + (if ([] : List Keyword).isEmpty then 0 else 1) < 30)) = true := by rfl)
    (hline : (apos.endLine == cpos.line) = true := by rfl) (hs : starEach (e :: es) X.env = (false, eval e X.env) :: starEach es X.env := by rfl) (hplain : (backTo cpos (starEach es X.env)).any (·.1) = false := by rfl) :
    DE X W k E (.Call (.Attribute a name apos) (e :: es) [] cpos) (fun ρ => bnd (d ρ) fun q => bnd (lstM q) fun _ => bnd (dl ρ) fun l => f q l) := ⟨fun o => pe_imp (pe_bm PySem.F.plainAttrs_list slot hty (hm o) (ho.run o) (ha.run o) hbase hfew hline hs hplain) fun σ H Q t => by
  obtain ⟨ι, ρ, st, re, rs, g⟩ := t
  refine ⟨ι, ρ, st, re, rs, Good.imp (Good.bind g) fun q st1 ι1 H1 m1 r1 g1 x hx => ?_⟩
  obtain ⟨p, vs, l, rfl, sq, rr, hz, g2⟩ := lst_of (α := Nat) r1 hx (Good.bind g1)
  refine ⟨.inl ⟨rfl, _, by rw [o.hK]; exact sq⟩, ι1, ρ, st1, re.mono rs m1, r1, Good.imp (Good.bind g2) fun ys st2 ι2 H2 m2 r2 g3 xs hxs => ?_⟩
  exact hf ι2 st2 H2 _ xs q ys Q r2 (rv_mono r1 m2 q _ hx) hxs g3⟩
theorem de_lm0 (slot : Slot "list" name id) (hty : typeOf (.builtin id) = pure (.type "method_descriptor")) (hm : On X W k E → MtR X id r) (hf : MOk W E r f) (ho : DE X W k E a d)
    (hbase : attributeBase a name X.env (eval a X.env) = eval a X.env := by rfl) (hline : (apos.endLine == cpos.line) = true := by rfl) :
    DE X W k E (.Call (.Attribute a name apos) [] [] cpos) (fun ρ => bnd (d ρ) fun q => bnd (lstM q) fun _ => f q []) := ⟨fun o => pe_imp (pe_bm0 PySem.F.plainAttrs_list slot hty (hm o) (ho.run o) hbase hline) fun σ H Q t => by
  obtain ⟨ι, ρ, st, re, rs, g⟩ := t
  refine ⟨ι, ρ, st, re, rs, Good.imp (Good.bind g) fun q st1 ι1 H1 m1 r1 g1 x hx => ?_⟩
  obtain ⟨p, vs, l, rfl, sq, rr, hz, g2⟩ := lst_of (α := Nat) r1 hx (Good.bind g1)
  exact ⟨.inl ⟨rfl, _, by rw [o.hK]; exact sq⟩, hf ι1 st1 H1 _ [] q [] Q r1 hx .nil g2⟩⟩
/-- a list that may be written -/
def lstW (q : PV) : Mo (Nat × List PV) := fun st => match q with
  | .loc n => match st[n]? with
    | some (.lst false l) => .ok (n, l) st
    | _ => .stuck
  | _ => .stuck
def setL (n : Nat) (l : List PV) (z : PV) : Mo PV := fun st => if l.length ≤ 16777216 then .ok z (st.set n (.lst false l)) else .stuck
theorem lw_of {ι : List Addr} {st : Sto} {H : Hp} {x : V} {q : PV} {kk : PV → Sto → List Addr → Hp → Prop} {ff : Nat × List PV → Mo PV} (rs : RS W ι st H) (hx : RV W ι H x q) (g : Good W E ι H (bnd (lstW q) ff st) kk) :
    ∃ a n vs l, x = .ref a ∧ ι[n]? = some a ∧ H a = some (.lst vs) ∧ RVs W ι H vs l ∧ l.length ≤ 16777216 ∧ Good W E ι H (ff (n, l) st) kk := by
  replace g := Good.bind g
  cases hx <;> try exact g.elim
  rename_i n a hn
  unfold lstW at g
  dsimp only at g
  cases q : st[n]? with
  | none => rw [q] at g; exact g.elim
  | some ob =>
    rw [q] at g
    have ro := rs.ob n ob a q hn
    cases ob with
    | dct _ _ => exact g.elim
    | sti _ => exact g.elim
    | lst lk l =>
      cases lk with
      | true => exact g.elim
      | false =>
        obtain ⟨vs, e, r, hz⟩ := ro
        exact ⟨a, n, vs, l, rfl, hn, e, r, hz, g.ok rs⟩
theorem set_fin {ι : List Addr} {st : Sto} {H : Hp} {n : Nat} {a : Addr} {l : List PV} {vs : List V} {z : PV} {v : V} {Q : VK} (g : Good W E ι H (setL n l z st) (kQ W Q)) (rs : RS W ι st H) (hn : ι[n]? = some a) (r : RVs W ι H vs l) (hv : RV W ι H v z) : Q v (upd H a (.lst vs)) := by
  obtain ⟨hz, g⟩ := good_if g
  exact good_upd g rs hn r hz v (rv_mono rs (Mono.mut (List.mem_of_getElem? hn)) _ _ hv)
def appM : PV → List PV → Mo PV
  | q, [y] => bnd (lstW q) fun nl => setL nl.1 (nl.2 ++ [y]) .non
  | _, _ => fail
theorem mok_app : MOk W E rAppend appM := by
  intro ι st H x xs q l Q rs hx hxs g
  cases hxs with
  | nil => exact g.elim
  | cons h1 t1 =>
    cases t1 with
    | cons _ _ => exact g.elim
    | nil =>
      obtain ⟨a, n, vs, l, rfl, hn, e, r, hz, g1⟩ := lw_of rs hx g
      have hl := (good_if g1).1
      rw [List.length_append, List.length_singleton] at hl
      exact ⟨a, vs, _, rfl, rfl, e, by rw [sizeLine_eq, r.length]; exact hl, set_fin g1 rs hn (r.append (.cons h1 .nil)) .non⟩
theorem de_append (ho : DE X W k E a d) (ha : DE X W k E e db) (hbase : attributeBase a "append" X.env (eval a X.env) = eval a X.env := by rfl)
    (hfew : ((backTo cpos (starEach [e] X.env)).all (fun x => !x.1) && (backToKw cpos (keywordEach [] X.env)).all (fun x => x.1.isSome) && decide ([e].length + ([] : List Keyword).length + (if ([] : List Keyword).isEmpty then 0 else 1) < 30)) = true := by rfl)
    (hline : (apos.endLine == cpos.line) = true := by rfl) (hs : starEach [e] X.env = (false, eval e X.env) :: starEach [] X.env := by rfl) :
    DE X W k E (.Call (.Attribute a "append" apos) [e] [] cpos) (fun ρ => bnd (d ρ) fun q => bnd (lstM q) fun _ => bnd (dCons db (fun _ st => .ok [] st) ρ) fun l => appM q l) :=
  de_lm PySem.F.slot_list_append PySem.F.type_list_append (fun o => mt_append) mok_app ho (da_cons ha da_nil hs) hbase hfew hline hs rfl
def popM : PV → List PV → Mo PV
  | q, [] => bnd (lstW q) fun nl => match nl.2[nl.2.length - 1]? with
    | some y => setL nl.1 nl.2.dropLast y
    | none => fail
  | _, _ => fail
theorem RVs.dropLast {ι : List Addr} {H : Hp} {vs : List V} {ps : List PV} (r : RVs W ι H vs ps) : RVs W ι H vs.dropLast ps.dropLast := by
  rw [List.dropLast_eq_take, List.dropLast_eq_take, r.length]
  exact r.take _
theorem mok_pop : MOk W E rPop popM := by
  intro ι st H x xs q l Q rs hx hxs g
  cases hxs with
  | cons _ _ => exact g.elim
  | nil =>
    obtain ⟨a, n, vs, l, rfl, hn, e, r, hz, g1⟩ := lw_of rs hx g
    dsimp only at g1
    cases hy : l[l.length - 1]? with
    | none => rw [hy] at g1; exact g1.elim
    | some y =>
      rw [hy] at g1
      obtain ⟨v, hv, rv⟩ := r.get hy
      exact ⟨a, vs, v, rfl, rfl, e, by rw [r.length]; exact hv, set_fin g1 rs hn r.dropLast rv⟩
theorem de_pop (ho : DE X W k E a d) (hbase : attributeBase a "pop" X.env (eval a X.env) = eval a X.env := by rfl) (hline : (apos.endLine == cpos.line) = true := by rfl) :
    DE X W k E (.Call (.Attribute a "pop" apos) [] [] cpos) (fun ρ => bnd (d ρ) fun q => bnd (lstM q) fun _ => popM q []) := de_lm0 PySem.F.slot_list_pop PySem.F.type_list_pop (fun o => mt_pop) mok_pop ho hbase hline
def popAtM : PV → List PV → Mo PV
  | q, [.int i] => bnd (lstW q) fun nl => if -9223372036854775808 ≤ i ∧ i < 9223372036854775808 then (match seqIndex? i nl.2.length with
    | some j => match nl.2[j]? with
      | some y => setL nl.1 (nl.2.eraseIdx j) y
      | none => fail
    | none => fail) else fail
  | _, _ => fail
theorem mok_popAt : MOk W E rPopAt popAtM := by
  intro ι st H x xs q l Q rs hx hxs g
  cases hxs with
  | nil => exact g.elim
  | cons h1 t1 =>
    cases t1 with
    | cons _ _ => cases h1 <;> exact g.elim
    | nil =>
      cases h1 <;> try exact g.elim
      obtain ⟨a, n, vs, l, rfl, hn, e, r, hz, g1⟩ := lw_of rs hx g
      rename_i i
      dsimp only at g1
      by_cases hc : -9223372036854775808 ≤ i ∧ i < 9223372036854775808
      · rw [if_pos hc] at g1
        cases hj : seqIndex? i l.length with
        | none => rw [hj] at g1; exact g1.elim
        | some j =>
          rw [hj] at g1
          dsimp only at g1
          cases hy : l[j]? with
          | none => rw [hy] at g1; exact g1.elim
          | some y =>
            rw [hy] at g1
            obtain ⟨v, hv, rv⟩ := r.get hy
            exact ⟨a, vs, i, j, v, rfl, rfl, e, by have := hc.1; omega, by have := hc.2; omega, by rw [r.length]; exact hj, hv, set_fin g1 rs hn (r.eraseIdx j) rv⟩
      · rw [if_neg hc] at g1
        exact g1.elim
theorem de_popAt (ho : DE X W k E a d) (ha : DE X W k E e db) (hbase : attributeBase a "pop" X.env (eval a X.env) = eval a X.env := by rfl)
    (hfew : ((backTo cpos (starEach [e] X.env)).all (fun x => !x.1) && (backToKw cpos (keywordEach [] X.env)).all (fun x => x.1.isSome) && decide ([e].length + ([] : List Keyword).length + (if ([] : List Keyword).isEmpty then 0 else 1) < 30)) = true := by rfl)
    (hline : (apos.endLine == cpos.line) = true := by rfl) (hs : starEach [e] X.env = (false, eval e X.env) :: starEach [] X.env := by rfl) :
    DE X W k E (.Call (.Attribute a "pop" apos) [e] [] cpos) (fun ρ => bnd (d ρ) fun q => bnd (lstM q) fun _ => bnd (dCons db (fun _ st => .ok [] st) ρ) fun l => popAtM q l) :=
  de_lm PySem.F.slot_list_pop PySem.F.type_list_pop (fun o => mt_popAt) mok_popAt ho (da_cons ha da_nil hs) hbase hfew hline hs rfl
end
end PD
/-! PD: functions, what they leave behind. -/
namespace PD
open PySem PySem.Spec PyProof.Rows L2
/-! ### places -/
mutual
/-- all places are below n -/
def cl (n : Nat) : PV → Bool
  | .loc m => decide (m < n)
  | .tup l => cls n l
  | _ => true
def cls (n : Nat) : List PV → Bool
  | [] => true
  | p :: l => cl n p && cls n l
end
def clks (n : Nat) : List (PV × PV) → Bool
  | [] => true
  | p :: l => cl n p.2 && clks n l
def clO (n : Nat) : Ob → Bool
  | .lst _ l => cls n l
  | .dct _ l => clks n l
  | .sti _ => true
mutual
def ren (f : Nat → Nat) : PV → PV
  | .loc m => .loc (f m)
  | .tup l => .tup (rens f l)
  | .non => .non
  | .bl b => .bl b
  | .int i => .int i
  | .str s => .str s
  | .fn j => .fn j
  | .kl l => .kl l
def rens (f : Nat → Nat) : List PV → List PV
  | [] => []
  | p :: l => ren f p :: rens f l
end
def renks (f : Nat → Nat) : List (PV × PV) → List (PV × PV)
  | [] => []
  | p :: l => (p.1, ren f p.2) :: renks f l
def renO (f : Nat → Nat) : Ob → Ob
  | .lst k l => .lst k (rens f l)
  | .dct k l => .dct k (renks f l)
  | .sti l => .sti l
mutual
theorem ren_id {f : Nat → Nat} {n : Nat} (h : ∀ i, i < n → f i = i) : ∀ p : PV, cl n p = true → ren f p = p
  | .loc m, z => by unfold cl at z; unfold ren; rw [h m (of_decide_eq_true z)]
  | .tup l, z => by unfold cl at z; unfold ren; rw [rens_id h l z]
  | .non, _ => rfl
  | .bl _, _ => rfl
  | .int _, _ => rfl
  | .str _, _ => rfl
  | .fn _, _ => rfl
  | .kl _, _ => rfl
theorem rens_id {f : Nat → Nat} {n : Nat} (h : ∀ i, i < n → f i = i) : ∀ l : List PV, cls n l = true → rens f l = l
  | [], _ => rfl
  | p :: l, z => by
    unfold cls at z
    rw [Bool.and_eq_true] at z
    unfold rens
    rw [ren_id h p z.1, rens_id h l z.2]
end
theorem renks_id {f : Nat → Nat} {n : Nat} (h : ∀ i, i < n → f i = i) : ∀ l : List (PV × PV), clks n l = true → renks f l = l
  | [], _ => rfl
  | p :: l, z => by
    unfold clks at z
    rw [Bool.and_eq_true] at z
    unfold renks
    rw [ren_id h p.2 z.1, renks_id h l z.2]
theorem renO_id {f : Nat → Nat} {n : Nat} (h : ∀ i, i < n → f i = i) : ∀ o : Ob, clO n o = true → renO f o = o
  | .lst k l, z => by show Ob.lst k (rens f l) = _; rw [rens_id h l z]
  | .dct k l, z => by show Ob.dct k (renks f l) = _; rw [renks_id h l z]
  | .sti _, _ => rfl
theorem rens_length {f : Nat → Nat} : ∀ l : List PV, (rens f l).length = l.length
  | [] => rfl
  | p :: l => by unfold rens; rw [List.length_cons, List.length_cons, rens_length l]
mutual
theorem cl_mono {n m : Nat} (h : n ≤ m) : ∀ p : PV, cl n p = true → cl m p = true
  | .loc i, z => by unfold cl at z ⊢; exact decide_eq_true (Nat.lt_of_lt_of_le (of_decide_eq_true z) h)
  | .tup l, z => by unfold cl at z ⊢; exact cls_mono h l z
  | .non, _ => rfl
  | .bl _, _ => rfl
  | .int _, _ => rfl
  | .str _, _ => rfl
  | .fn _, _ => rfl
  | .kl _, _ => rfl
theorem cls_mono {n m : Nat} (h : n ≤ m) : ∀ l : List PV, cls n l = true → cls m l = true
  | [], _ => rfl
  | p :: l, z => by
    unfold cls at z ⊢
    rw [Bool.and_eq_true] at z ⊢
    exact ⟨cl_mono h p z.1, cls_mono h l z.2⟩
end
theorem clks_mono {n m : Nat} (h : n ≤ m) : ∀ l : List (PV × PV), clks n l = true → clks m l = true
  | [], _ => rfl
  | p :: l, z => by
    unfold clks at z ⊢
    rw [Bool.and_eq_true] at z ⊢
    exact ⟨cl_mono h p.2 z.1, clks_mono h l z.2⟩
theorem clO_mono {n m : Nat} (h : n ≤ m) : ∀ o : Ob, clO n o = true → clO m o = true
  | .lst _ l, z => cls_mono h l z
  | .dct _ l, z => clks_mono h l z
  | .sti _, _ => rfl
section
variable {W : Wd} {ι ι' ι1 ι2 : List Addr} {H H' : Hp} {st : Sto}
mutual
theorem rv_cl : ∀ (p : PV) (v : V), RV W ι H v p → cl ι.length p = true
  | .non, _, .non => rfl
  | .bl _, _, .bl _ => rfl
  | .int _, _, .int _ => rfl
  | .str _, _, .str _ => rfl
  | .tup ps, _, .tup h r z => by unfold cl; exact rvs_cl ps _ r
  | .loc _, _, .loc h => by unfold cl; exact decide_eq_true (List.getElem?_eq_some_iff.mp h).1
  | .fn _, _, .fn h => rfl
  | .kl _, _, .kl _ _ => rfl
theorem rvs_cl : ∀ (ps : List PV) (vs : List V), RVs W ι H vs ps → cls ι.length ps = true
  | [], _, .nil => rfl
  | p :: ps, _, .cons h r => by unfold cls; rw [Bool.and_eq_true]; exact ⟨rv_cl p _ h, rvs_cl ps _ r⟩
end
theorem rks_cl : ∀ {ps : List (PV × PV)} {vs : List (Key × V)}, RKs W ι H vs ps → clks ι.length ps = true
  | _, _, .nil => rfl
  | _, _, .cons h r => by unfold clks; rw [Bool.and_eq_true]; exact ⟨rv_cl _ _ h, rks_cl r⟩
theorem RS.closed (rs : RS W ι st H) : ∀ o ∈ st, clO st.length o = true := fun o ho => by
  obtain ⟨n, hn, e⟩ := List.getElem_of_mem ho
  obtain ⟨a, ha, r⟩ := rs.addr (n := n) (o := o) (by rw [List.getElem?_eq_getElem hn, e])
  rw [← rs.len]
  cases o with
  | lst k l =>
    cases k with
    | false => obtain ⟨vs, _, r, _⟩ := r; exact rvs_cl _ _ r
    | true => obtain ⟨_, vs, _, r, _⟩ := r; exact rvs_cl _ _ r
  | dct k l =>
    cases k with
    | false => obtain ⟨vs, _, r⟩ := r; exact rks_cl r
    | true => obtain ⟨_, vs, _, r⟩ := r; exact rks_cl r
  | sti l => rfl
mutual
theorem rv_ren {f : Nat → Nat} {m : Nat} (hf : ∀ n, n < m → ι2[n]? = ι1[f n]?) : ∀ (p : PV) (v : V), cl m p = true → RV W ι1 H v (ren f p) → RV W ι2 H v p
  | .non, _, _, .non => .non
  | .bl _, _, _, .bl _ => .bl _
  | .int _, _, _, .int _ => .int _
  | .str _, _, _, .str _ => .str _
  | .tup ps, v, c, r => by
    unfold ren at r
    unfold cl at c
    cases r with
    | tup h r z => exact .tup h (rvs_ren hf ps _ c r) (by rw [rens_length] at z; exact z)
  | .loc n, v, c, r => by
    unfold ren at r
    unfold cl at c
    cases r with
    | loc h => exact .loc ((hf n (of_decide_eq_true c)).trans h)
  | .fn _, _, _, .fn h => .fn h
  | .kl _, _, _, .kl h z => .kl h z
theorem rvs_ren {f : Nat → Nat} {m : Nat} (hf : ∀ n, n < m → ι2[n]? = ι1[f n]?) : ∀ (ps : List PV) (vs : List V), cls m ps = true → RVs W ι1 H vs (rens f ps) → RVs W ι2 H vs ps
  | [], _, _, r => by
    unfold rens at r
    cases r
    exact .nil
  | p :: ps, _, c, r => by
    unfold rens at r
    unfold cls at c
    rw [Bool.and_eq_true] at c
    cases r with
    | cons h r => exact .cons (rv_ren hf p _ c.1 h) (rvs_ren hf ps _ c.2 r)
end
theorem rks_ren {f : Nat → Nat} {m : Nat} (hf : ∀ n, n < m → ι2[n]? = ι1[f n]?) : ∀ (ps : List (PV × PV)) (vs : List (Key × V)), clks m ps = true → RKs W ι1 H vs (renks f ps) → RKs W ι2 H vs ps
  | [], _, _, r => by
    unfold renks at r
    cases r
    exact .nil
  | (k, p) :: ps, _, c, r => by
    unfold renks at r
    unfold clks at c
    rw [Bool.and_eq_true] at c
    dsimp only at r c
    generalize e : ren f p = z at r
    cases r with
    | cons h r => subst e; exact .cons (rv_ren hf p _ c.1 h) (rks_ren hf ps _ c.2 r)
theorem ro_ren {f : Nat → Nat} {m : Nat} (hf : ∀ n, n < m → ι2[n]? = ι1[f n]?) {a : Addr} : ∀ o : Ob, clO m o = true → RO W ι1 H a (renO f o) → RO W ι2 H a o
  | .lst k l, c, r => by
    cases k with
    | false => obtain ⟨vs, e, r, z⟩ := r; exact ⟨vs, e, rvs_ren hf _ _ c r, by rw [rens_length] at z; exact z⟩
    | true => obtain ⟨o, vs, e, r, z⟩ := r; exact ⟨o, vs, e, rvs_ren hf _ _ c r, by rw [rens_length] at z; exact z⟩
  | .dct k l, c, r => by
    cases k with
    | false => obtain ⟨vs, e, r⟩ := r; exact ⟨vs, e, rks_ren hf _ _ c r⟩
    | true => obtain ⟨o, vs, e, r⟩ := r; exact ⟨o, vs, e, rks_ren hf _ _ c r⟩
  | .sti l, c, r => r
end
/-- what is left of the store when nobody looks at the rest any more -/
structure Gc (n0 : Nat) (p1 : PV) (st1 : Sto) (p2 : PV) (st2 : Sto) (f : Nat → Nat) : Prop where
  old : ∀ i, i < n0 → f i = i
  lt : ∀ i, i < st2.length → f i < st1.length
  inj : ∀ i j, i < st2.length → j < st2.length → f i = f j → i = j
  le : n0 ≤ st2.length
  cp : cl st2.length p2 = true
  ep : p1 = ren f p2
  ob : ∀ i o, st2[i]? = some o → clO st2.length o = true ∧ st1[f i]? = some (renO f o)
theorem Gc.run {W : Wd} {ι ι1 : List Addr} {H H1 : Hp} {p1 p2 : PV} {st1 st2 : Sto} {f : Nat → Nat} {n0 : Nat} (g : Gc n0 p1 st1 p2 st2 f) (hn : ι.length = n0) (m : Mono ι H ι1 H1) (rs : RS W ι1 st1 H1) :
    ∃ ι2, Mono ι H ι2 H1 ∧ RS W ι2 st2 H1 ∧ ∀ v, RV W ι1 H1 v p1 → RV W ι2 H1 v p2 := by
  let ι2 := (List.range st2.length).map fun i => (ι1[f i]?).getD 0
  have hl2 : ι2.length = st2.length := by simp [ι2]
  have hget : ∀ n, n < st2.length → ι2[n]? = ι1[f n]? := fun n hn => by
    have h1 : f n < ι1.length := by rw [rs.len]; exact g.lt n hn
    show ((List.range st2.length).map fun i => (ι1[f i]?).getD 0)[n]? = _
    rw [List.getElem?_map, List.getElem?_range hn]
    show some ((ι1[f n]?).getD 0) = _
    rw [List.getElem?_eq_getElem h1]
    rfl
  have hback : ∀ a ∈ ι2, ∃ i, i < st2.length ∧ ι1[f i]? = some a := fun a ha => by
    obtain ⟨i, hi, e⟩ := List.getElem_of_mem ha
    refine ⟨i, by rw [← hl2]; exact hi, ?_⟩
    rw [← hget i (by rw [← hl2]; exact hi), List.getElem?_eq_getElem hi, e]
  refine ⟨ι2, ⟨fun n a h => ?_, fun a h h0 => ?_, m.keep⟩, ⟨hl2, ?_, fun n o a h1 h2 => ?_, rs.tb, rs.tl⟩, fun v h => ?_⟩
  · have hlt : n < n0 := by rw [← hn]; exact (List.getElem?_eq_some_iff.mp h).1
    rw [hget n (Nat.lt_of_lt_of_le hlt g.le), g.old n hlt]
    exact m.pre n a h
  · obtain ⟨i, _, e⟩ := hback a h
    exact m.fresh a (List.mem_of_getElem? e) h0
  · refine List.pairwise_iff_getElem.mpr fun i j hi hj hij e0 => ?_
    have e : ι2[i]? = ι2[j]? := by rw [List.getElem?_eq_getElem hi, List.getElem?_eq_getElem hj, e0]
    have hj' : j < st2.length := by rw [← hl2]; exact hj
    have hi' : i < st2.length := by omega
    rw [hget i hi', hget j hj'] at e
    have h1 : f i < ι1.length := by rw [rs.len]; exact g.lt i hi'
    have h2 : f j < ι1.length := by rw [rs.len]; exact g.lt j hj'
    rw [List.getElem?_eq_getElem h1, List.getElem?_eq_getElem h2] at e
    have e2 := (List.getElem_inj rs.nd).mp (Option.some.inj e)
    have := g.inj i j hi' hj' e2
    omega
  · have hlt : n < st2.length := (List.getElem?_eq_some_iff.mp h1).1
    obtain ⟨c, e⟩ := g.ob n o h1
    rw [hget n hlt] at h2
    exact ro_ren hget o c (rs.ob (f n) _ a e h2)
  · rw [g.ep] at h
    exact rv_ren hget p2 v g.cp h
def GcR (n0 : Nat) (p1 : PV) (st1 : Sto) (p2 : PV) (st2 : Sto) : Prop := (p1 = p2 ∧ st1 = st2) ∨ ∃ f, Gc n0 p1 st1 p2 st2 f
theorem gc_take {n0 : Nat} {p : PV} {st ex : Sto} (hn : n0 ≤ st.length) (hp : cl st.length p = true) (hs : ∀ o ∈ st, clO st.length o = true) : GcR n0 p (st ++ ex) p st := by
  refine .inr ⟨id, ⟨fun _ _ => rfl, fun i hi => ?_, fun _ _ _ _ h => h, hn, hp, (ren_id (fun _ _ => rfl) p hp).symm, fun i o h => ⟨hs o (List.mem_of_getElem? h), ?_⟩⟩⟩
  · rw [List.length_append]
    exact Nat.lt_of_lt_of_le hi (Nat.le_add_right _ _)
  · have e := renO_id (f := id) (fun _ _ => rfl) o (hs o (List.mem_of_getElem? h))
    rw [e]
    show (st ++ ex)[i]? = some o
    rw [List.getElem?_append_left (List.getElem?_eq_some_iff.mp h).1]
    exact h
/-- a new list comes back -/
theorem gc_new {n0 m : Nat} {st ex : Sto} {k : Bool} {l : List PV} (hn : n0 ≤ st.length) (hm : (st ++ ex)[m]? = some (.lst k l)) (hle : st.length ≤ m) (hp : cls st.length l = true) (hs : ∀ o ∈ st, clO st.length o = true) : GcR n0 (.loc m) (st ++ ex) (.loc st.length) (st ++ [.lst k l]) := by
  have hlen : (st ++ [Ob.lst k l]).length = st.length + 1 := by rw [List.length_append, List.length_singleton]
  have hid : ∀ i, i < st.length → (fun i => if i = st.length then m else i) i = i := fun i hi => if_neg (by omega)
  refine .inr ⟨fun i => if i = st.length then m else i, ⟨fun i hi => hid i (by omega), fun i hi => ?_, fun i j hi hj e => ?_, by omega, ?_, ?_, fun i o h => ?_⟩⟩
  · show (if i = st.length then m else i) < _
    have h2 := (List.getElem?_eq_some_iff.mp hm).1
    split
    · exact h2
    · rw [List.length_append]; omega
  · have e : (if i = st.length then m else i) = (if j = st.length then m else j) := e
    split at e <;> split at e <;> omega
  · unfold cl
    exact decide_eq_true (by omega)
  · unfold ren
    show _ = PV.loc (if st.length = st.length then m else st.length)
    rw [if_pos rfl]
  · by_cases hi : i < st.length
    · rw [List.getElem?_append_left hi] at h
      have c := hs o (List.mem_of_getElem? h)
      refine ⟨clO_mono (by omega) o c, ?_⟩
      rw [renO_id hid o c]
      show (st ++ ex)[if i = st.length then m else i]? = _
      rw [if_neg (by omega), List.getElem?_append_left hi]
      exact h
    · have e : i = st.length := by
        have := (List.getElem?_eq_some_iff.mp h).1
        omega
      subst e
      rw [List.getElem?_append_right (Nat.le_refl _), Nat.sub_self] at h
      have e : Ob.lst k l = o := Option.some.inj h
      subst e
      refine ⟨cls_mono (by omega) l hp, ?_⟩
      show (st ++ ex)[if st.length = st.length then m else st.length]? = _
      rw [if_pos rfl, hm]
      show _ = some (Ob.lst k (rens _ l))
      rw [rens_id hid l hp]
/-! ### functions -/
def spF (W : Wd) (n : Nat) (F : List PV → Mo PV) : Sp := fun vs H Q _ => ∃ ι ps st, RS W ι st H ∧ RVs W ι H vs ps ∧ ps.length = n ∧ Good W E0 ι H (F ps st) (kQ W Q)
structure DFn (P : Program) (w : World) (W : Wd) (base : Heap) (k : Nat) (f : Addr) (n : Nat) (F : List PV → Mo PV) : Prop where
  ex : ∃ (fd : FuncData) (ps : List Str), ps.length = n ∧ FnOk P w W.K W.mg base W.cx k f fd ps (spF W n F) ∧ Binds W.K fd ps []
  kp : PySem.W.keepIn W.K (.ref f) = true
/-- F2 tells what F1 tells -/
def Ref (n : Nat) (F1 F2 : List PV → Mo PV) : Prop := ∀ ps st p2 st2, ps.length = n → cls st.length ps = true → (∀ o ∈ st, clO st.length o = true) → F2 ps st = .ok p2 st2 → ∃ p1 st1, F1 ps st = .ok p1 st1 ∧ GcR st.length p1 st1 p2 st2
/-- never an exception -/
def NoX (F : List PV → Mo PV) : Prop := ∀ ps st c st2, F ps st ≠ .exc c st2
section
variable {P : Program} {w : World} {W : Wd} {base : Heap} {j k n : Nat} {f : Addr} {F F1 F2 : List PV → Mo PV}
theorem DFn.mono (h : DFn P w W base j f n F) (hk : j ≤ k) : DFn P w W base k f n F := by
  obtain ⟨fd, ps, h1, h2, h3⟩ := h.ex
  exact ⟨⟨fd, ps, h1, h2.mono hk, h3⟩, h.kp⟩
theorem DFn.ref (h : DFn P w W base k f n F1) (r : Ref n F1 F2) (hx : NoX F2) : DFn P w W base k f n F2 := by
  obtain ⟨fd, ps, h1, h2, h3⟩ := h.ex
  refine ⟨⟨fd, ps, h1, h2.imp fun vs H Q E z => ?_, h3⟩, h.kp⟩
  obtain ⟨ι, qs, st, rs, rr, hl, g⟩ := z
  refine ⟨ι, qs, st, rs, rr, hl, ?_⟩
  cases q : F2 qs st with
  | stuck => rw [q] at g; exact g.elim
  | exc c st2 => exact (hx _ _ _ _ q).elim
  | ok p2 st2 =>
    rw [q] at g
    obtain ⟨p1, st1, e, gc⟩ := r qs st p2 st2 hl (by rw [← rs.len]; exact rvs_cl _ _ rr) rs.closed q
    rw [e]
    rcases gc with ⟨rfl, rfl⟩ | ⟨ff, gc⟩
    · exact g
    · intro ι1 H1 m1 r1 v hv
      obtain ⟨ι2, m2, r2, hr⟩ := gc.run rs.len m1 r1
      exact g ι2 H1 m2 r2 v (hr v hv)
def retF : Fl → Mo PV
  | .rt p => fun st => .ok p st
  | .nx _ => fun st => .ok .non st
  | _ => fail
def start0 (m : Nat) (ps : List PV) : Env := ps.map some ++ List.replicate (m - ps.length) none
def bodyF (m : Nat) (d : Env → Mo Fl) : List PV → Mo PV := fun ps => bnd (d (start0 m ps)) retF
theorem RE.start {ι : List Addr} {H : Hp} {N : List Str} {vs : List V} {ps : List PV} (r : RVs W ι H vs ps) : RE W ι H (start0 N.length ps) (start N vs) := by
  unfold start0 L2.start
  refine ⟨?_, fun i p h => ?_⟩
  · rw [List.length_append, List.length_append, List.length_map, List.length_map, List.length_replicate, List.length_replicate, r.length]
  · have hl := r.length
    by_cases hi : i < ps.length
    · rw [List.getElem?_append_left (by rw [List.length_map]; exact hi), List.getElem?_map] at h
      rw [List.getElem?_append_left (by rw [List.length_map]; omega), List.getElem?_map]
      cases q : ps[i]? with
      | none => rw [q] at h; cases h
      | some z =>
        rw [q] at h
        cases h
        obtain ⟨v, h1, h2⟩ := r.get q
        exact ⟨v, by rw [h1]; rfl, h2⟩
    · rw [List.getElem?_append_right (by rw [List.length_map]; omega), List.getElem?_replicate] at h
      split at h <;> cases h
abbrev Body (P : Program) (w : World) (W : Wd) (base : Heap) (N : List Str) (qual : Str) (scope : Scope) (f : Addr) (k : Nat) (body : List Stmt) (d : Env → Mo Fl) : Prop :=
  ∀ (cdv : Value) (A : Around) (outer : List PySem.Env) (s : Shared) (H : Hp) (E : XK), DSs (cxOf W.cx P w W.K W.mg base N qual scope f cdv A outer s H E).nox W k E0 body d
/-- what the body promises -/
theorem body_ok {qual : Str} {body : List Stmt} {scope : Scope} {N ps : List Str} {d : Env → Mo Fl} {cdv : Value} {A : Around} {outer : List PySem.Env} {s : Shared} {H : Hp} {vs : List V} {Q : VK} {E : XK} (hcx : W.cx = CX0) (S : FnScope N ps scope)
    (hd : DSs (cxOf W.cx P w W.K W.mg base N qual scope f cdv A outer s H E).nox W k E0 body d) (hr : Room k (A.deeper (envOfC qual scope s.heap.objs.size f cdv))) (z : spF W ps.length (bodyF N.length d) vs H Q E) :
    ∃ t, PSs (cxOf W.cx P w W.K W.mg base N qual scope f cdv A outer s H E) body t ∧ t { nx := fun _ H' => Q .non H', rt := Q } (start N vs) H := by
  obtain ⟨ι, qs, st, rs, rr, hl, g⟩ := z
  refine ⟨_, PSs.nox (hd.run ⟨rfl, rfl, rfl, S.nd, hr, ?_, fun _ _ z => z.elim, ?_⟩), ι, start0 N.length qs, st, RE.start rr, rs, Good.imp (Good.bind g) fun fl st1 ι1 H1 m1 r1 g1 => ?_⟩
  · rw [hcx]; exact pass0
  · rw [hcx]; exact fun _ _ _ _ _ z => z
  · cases fl with
    | nx ρ' => exact fun σ' re => g1.ok r1 _ .non
    | rt p => exact g1.ok r1
    | bk ρ' => exact g1.elim
    | ct ρ' => exact g1.elim
theorem spF_len {ps : List Str} {F : List PV → Mo PV} : ∀ vs H Q E, spF W ps.length F vs H Q E → vs.length = ps.length := fun vs H Q E z => by
  obtain ⟨ι, qs, st, rs, rr, hl, g⟩ := z
  rw [rr.length, hl]
theorem fnOk_of {x qual : Str} {params : Arguments} {body : List Stmt} {scope : Scope} {fd : FuncData} {N ps : List Str} {d : Env → Mo Fl} (hcx : W.cx = CX0) (Fd : FunD W.K x qual params body scope [] [] f fd) (S : FnScope N ps scope)
    (hd : Body P w W base N qual scope f k body d) : FnOk P w W.K W.mg base W.cx (k + 1) f fd ps (spF W ps.length (bodyF N.length d)) :=
  Fd.ok S spF_len fun cdv A outer s H vs Q E hr z => body_ok hcx S (hd cdv A outer s H E) hr z
/-- .. the code object known -/
abbrev BodyT (P : Program) (w : World) (W : Wd) (base : Heap) (N : List Str) (qual : Str) (scope : Scope) (f c : Addr) (k : Nat) (body : List Stmt) (d : Env → Mo Fl) : Prop :=
  ∀ (A : Around) (outer : List PySem.Env) (s : Shared) (H : Hp) (E : XK), DSs (cxOf W.cx P w W.K W.mg base N qual scope f (.ref c) A outer s H E).nox W k E0 body d
theorem fnOk_ofT {x qual : Str} {params : Arguments} {body : List Stmt} {scope : Scope} {fd : FuncData} {N ps : List Str} {d : Env → Mo Fl} {at_ : He.Defn} (hcx : W.cx = CX0) (Fd : FunD W.K x qual params body scope [] [] (He.fAd W.K at_) fd) (S : FnScope N ps scope)
    (hd : BodyT P w W base N qual scope (He.fAd W.K at_) (He.cT W.K at_).1 k body d) : FnOk P w W.K W.mg base W.cx (k + 1) (He.fAd W.K at_) fd ps (spF W ps.length (bodyF N.length d)) := by
  obtain ⟨oc, od, dV, kV, doc, pm, an, cdv, ct, osl, rfl, lk, hcd, _, _⟩ := Fd.ex
  obtain ⟨c, rfl⟩ := He.codeIn_ref hcd
  have e : He.codeOf W.K at_ = c := He.codeOf_eq lk rfl
  refine fn_of lk hcd S spF_len fun A outer s H vs Q E hr z => body_ok hcx S ?_ hr z
  rw [← e]
  exact hd A outer s H E
theorem DFn.of {x qual : Str} {params : Arguments} {body : List Stmt} {scope : Scope} {fd : FuncData} {N ps : List Str} {d : Env → Mo Fl} (hcx : W.cx = CX0) (Fd : FunD W.K x qual params body scope [] [] f fd) (S : FnScope N ps scope) (hb : Binds W.K fd ps [])
    (hd : Body P w W base N qual scope f k body d) : DFn P w W base (k + 1) f ps.length (bodyF N.length d) := ⟨⟨fd, ps, rfl, fnOk_of hcx Fd S hd, hb⟩, Fd.kp⟩
theorem DFn.ofT {x qual : Str} {params : Arguments} {body : List Stmt} {scope : Scope} {fd : FuncData} {N ps : List Str} {d : Env → Mo Fl} {at_ : He.Defn} (hcx : W.cx = CX0) (Fd : FunD W.K x qual params body scope [] [] (He.fAd W.K at_) fd) (S : FnScope N ps scope) (hb : Binds W.K fd ps [])
    (hd : BodyT P w W base N qual scope (He.fAd W.K at_) (He.cT W.K at_).1 k body d) : DFn P w W base (k + 1) (He.fAd W.K at_) ps.length (bodyF N.length d) := ⟨⟨fd, ps, rfl, fnOk_ofT hcx Fd S hd, hb⟩, Fd.kp⟩
end
section
variable {X : Cx} {W : Wd} {k : Nat} {a b c e o : Expr} {es : List Expr} {pos p : Pos} {d : Env → Mo PV} {dl : Env → Mo (List PV)} {f : Addr} {n : Nat} {F : List PV → Mo PV} {x : Str}
def callM (n : Nat) (F : List PV → Mo PV) (ps : List PV) : Mo PV := fun st => if ps.length = n then F ps st else .stuck
theorem call_of {ι : List Addr} {st : Sto} {H : Hp} {vs : List V} {ps : List PV} {Q : VK} (rs : RS W ι st H) (rr : RVs W ι H vs ps) (g : Good W E0 ι H (callM n F ps st) (kQ W Q)) : spF W n F (vs ++ []) H Q E0 := by
  obtain ⟨hl, g⟩ := good_if g
  rw [List.append_nil]
  exact ⟨ι, ps, st, rs, rr, hl, g⟩
theorem de_call (Fd : DFn X.prog X.w W X.base k f n F) (hm : W.mg x = some (.ref f)) (ha : DA X W k E0 (e :: es) dl) (hg : Gl X x := by rfl) (hdb : (x == ("__debug__" : Str)) = false := by decide)
    (he : starEach (e :: es) X.env = (false, eval e X.env) :: starEach es X.env := by rfl) (hpl : (backTo pos (starEach es X.env)).any (·.1) = false := by rfl) : DE X W k E0 (.Call (.Name x p) (e :: es) [] pos) (fun ρ => bnd (dl ρ) (callM n F)) := ⟨fun o => by
  obtain ⟨fd, ps, h1, h2, h3⟩ := Fd.ex
  refine pe_imp (pe_call (by rw [o.hK, o.hM]; exact h2) o.room hg (by rw [o.hM]; exact hm) (by rw [o.hK]; exact Fd.kp) (by rw [o.hK]; exact h3) .nil o.ps (ha.run o) hdb he hpl) fun σ H Q t => ?_
  obtain ⟨ι, ρ, st, re, rs, g⟩ := t
  exact ⟨ι, ρ, st, re, rs, Good.imp (Good.bind g) fun ps st1 ι1 H1 m1 r1 g1 vs hvs => call_of r1 hvs g1⟩⟩
theorem de_call0 (Fd : DFn X.prog X.w W X.base k f n F) (hm : W.mg x = some (.ref f)) (hg : Gl X x := by rfl) (hdb : (x == ("__debug__" : Str)) = false := by decide) : DE X W k E0 (.Call (.Name x p) [] [] pos) (fun _ => callM n F []) := ⟨fun o => by
  obtain ⟨fd, ps, h1, h2, h3⟩ := Fd.ex
  refine pe_imp (pe_call0 (by rw [o.hK, o.hM]; exact h2) o.room hg (by rw [o.hM]; exact hm) (by rw [o.hK]; exact Fd.kp) (by rw [o.hK]; exact h3) .nil o.ps hdb) fun σ H Q t => ?_
  obtain ⟨ι, ρ, st, re, rs, g⟩ := t
  exact call_of rs .nil g⟩
/-- a def that a local name holds: tab tells what the defs that may stand there do -/
structure FnTab (P : Program) (w : World) (W : Wd) (base : Heap) (k : Nat) (n : Nat) (tab : Nat → Option (List PV → Mo PV)) : Prop where
  fn : ∀ j F f, tab j = some F → W.fa j = some f → DFn P w W base k f n F
theorem FnTab.mono {P : Program} {w : World} {W : Wd} {base : Heap} {j k n : Nat} {tab : Nat → Option (List PV → Mo PV)} (h : FnTab P w W base j n tab) (hk : j ≤ k) : FnTab P w W base k n tab := ⟨fun i F f h1 h2 => (h.fn i F f h1 h2).mono hk⟩
def fnM (tab : Nat → Option (List PV → Mo PV)) (q : PV) : Mo (List PV → Mo PV) := fun st => match q with
  | .fn j => match tab j with
    | some F => .ok F st
    | none => .stuck
  | _ => .stuck
theorem de_callV {i : Nat} {tab : Nat → Option (List PV → Mo PV)} (T : FnTab X.prog X.w W X.base k n tab) (ha : DA X W k E0 (e :: es) dl) (hN : X.N[i]? = some x := by rfl) (hv : Vis X.env.scope x := by first | exact Or.inl rfl | exact Or.inr (Or.inl rfl) | exact Or.inr (Or.inr rfl)) (hd : (x == ("__debug__" : Str)) = false := by decide)
    (hcd : (x == ("__classdict__" : Str)) = false := by decide) (he : starEach (e :: es) X.env = (false, eval e X.env) :: starEach es X.env := by rfl) (hpl : (backTo pos (starEach es X.env)).any (·.1) = false := by rfl) :
    DE X W k E0 (.Call (.Name x p) (e :: es) [] pos) (fun ρ => bnd (dVar i ρ) fun q => bnd (fnM tab q) fun F => bnd (dl ρ) (callM n F)) := ⟨fun o => ⟨fun pins s σ H Q I t => by
  obtain ⟨ι, ρ, st, re, rs, g⟩ := t
  have g0 := Good.bind g
  unfold dVar at g0
  cases q : ρ[i]? with
  | none => rw [q] at g0; exact g0.elim
  | some w =>
    cases w with
    | none => rw [q] at g0; exact g0.elim
    | some w =>
      rw [q] at g0
      obtain ⟨v, h1, h2⟩ := re.at_ i w q
      have g1 := Good.bind (g0.ok rs)
      cases h2 <;> try exact g1.elim
      rename_i j f hf
      unfold fnM at g1
      dsimp only at g1
      cases q2 : tab j with
      | none => rw [q2] at g1; exact g1.elim
      | some F =>
        rw [q2] at g1
        have Fd := T.fn j F f q2 hf
        obtain ⟨fd, ps, h3, h4, h5⟩ := Fd.ex
        refine (pe_callL (by rw [o.hK, o.hM]; exact h4) o.room hN hv (by rw [o.hK]; exact Fd.kp) (by rw [o.hK]; exact h5) .nil o.ps (ha.run o) hd hcd he hpl).run pins s σ H Q I ⟨h1, ι, ρ, st, re, rs, Good.imp (Good.bind (g1.ok rs)) fun ps st1 ι1 H1 m1 r1 g1 vs hvs => call_of r1 hvs g1⟩⟩⟩
end
end PD
/-! PD: generator expressions within all, any. -/
namespace PD
open PySem PySem.Spec PyProof.Rows L2 GxR
abbrev gxC (X : Cx) (A : Around) (s : Shared) (H : Hp) (cenv : PySem.Env) (fp : List Addr) (pn : List (Addr × Obj)) : Cx :=
  { X with A := A, s_0 := s, H_0 := H, env := cenv, outer := X.stack, stack := cenv :: X.stack, ex := fp, fn := fun _ => false, pn := pn, xe := fun _ _ => False }
theorem bare_set {gens : Array GenState} {g : Nat} {x : GenState} (h : AllBare gens) (hx : x.bare = true) : AllBare (gens.setIfInBounds g x) := by
  intro y hy
  obtain ⟨i, hi, rfl⟩ := Array.mem_iff_getElem.mp hy
  have hi' : i < gens.size := by simpa using hi
  rw [Array.getElem_setIfInBounds hi']
  split
  · exact hx
  · exact h _ (Array.getElem_mem _)
section
variable {X : Cx} {pins : List (Addr × Obj)} {σ : L2.St} {H : Hp} {s : Shared}
theorem gen_start {scope : Scope} {own : List (Str × Nat)} {fp : List Addr} {A' : Around} {code itv : Value} {h' : Heap} {go : Obj} {gs : GenState} {tk : Nat} (I : Inv X pins σ H s) (ok : BlkOk X.N X.env.scope scope own) (hcell : ∀ y ∈ scope.names, y.2 ≠ .cell) (hN : X.N.Nodup)
    (hfp : ∀ b ∈ fp, FpOk X pins H b ∧ b < s.heap.objs.size) (cenv : PySem.Env) (hce : cenv = genEnv scope (cloFrom X.env.cells scope.names []) s.heap.objs.size code builtinsNs X.env) (hA : A'.frames = some (cenv :: X.stack)) (hAh : A'.handled = none)
    (hn' : h'.Ns s.heap.objs.size (fun y => if y = (".0" : Str) then some itv else none)) (hs' : Heap.SameBut s.heap.objs.size (s.heap.push { cls := .type "frame", data := .dict #[] }) h') (hgo : ∀ v, go.data ≠ .cell v) (hgf : go.isFreed = false) (hgs : gs.bare = true) :
    Inv (gxC X A' s H cenv fp [(h'.objs.size, go)]) [] (wipe σ (own.map (·.2))) H { s with gens := s.gens.push gs, toks := tk, heap := h'.push go } := by
  have hsz : h'.objs.size = s.heap.objs.size + 1 := by rw [hs'.1, Heap.size_push]
  have kp : ∀ b o, s.heap.get? b = some o → (h'.push go).get? b = some o := fun b o e => Heap.get?_push_of_some _ (hs'.extBut b o (Nat.ne_of_lt (Heap.lt_size e)) (Heap.get?_push_of_some _ e))
  have hfree : ∀ y ∈ scope.names, y.2 = .free → ∃ c, X.env.cells.lookup y.1 = some c := fun y hy e => by
    rcases ok.free y hy e with k | k
    · exact I.ok.has _ (.inl k)
    · exact I.ok.has _ (.inr k)
  have hL : cenv.locals = s.heap.objs.size := by rw [hce]; rfl
  have hcl : cenv.cells = cloFrom X.env.cells scope.names [] := by rw [hce]; rfl
  have hsc : cenv.scope = scope := by rw [hce]; rfl
  have cm : ∀ {y c}, (y, c) ∈ cloFrom X.env.cells scope.names [] → X.env.cells.lookup y = some c ∧ c < s.heap.objs.size := fun {y c} hm => by
    rcases cloFrom_mem hm with hm | ⟨h1, rfl⟩
    · cases hm
    · obtain ⟨c, hc⟩ := hfree _ h1 rfl
      rw [hc]
      obtain ⟨w, z⟩ := I.cell _ _ hc
      exact ⟨rfl, z.lt⟩
  have mem : ∀ {y c}, cenv.cells.lookup y = some c → X.env.cells.lookup y = some c ∧ c < s.heap.objs.size := fun {y c} e => by
    rw [hcl] at e
    exact cm (PySem.mem_of_lookup e)
  have look : ∀ {y}, scope.names.lookup y = some .free → ∃ c, cenv.cells.lookup y = some c ∧ X.env.cells.lookup y = some c := fun {y} hl => by
    have hy : (y, NameKind.free) ∈ scope.names := PySem.mem_of_lookup hl
    obtain ⟨c', e'⟩ := mem_lookup (cloFrom_has (cells := X.env.cells) (acc := []) hy)
    exact ⟨c', by rw [hcl]; exact e', (cm (PySem.mem_of_lookup e')).1⟩
  have nocell : ∀ {y : Str}, scope.names.lookup y ≠ some .cell := fun {y} e => hcell _ (PySem.mem_of_lookup e) rfl
  have okB : (gxC X A' s H cenv fp [(h'.objs.size, go)]).Ok := by
    refine ⟨I.ok.mod, by show cenv.scope.kind = _; rw [hsc]; exact ok.kind, by show cenv.globals = _; rw [hce]; exact I.ok.glob, by show cenv.builtins = _; rw [hce]; rfl, by show s.heap.objs.size ≤ cenv.locals; rw [hL]; exact Nat.le_refl _,
      fun y z c e1 e2 => I.ok.inj y z c (mem e1).1 (mem e2).1, fun y hy => ?_, fun y c z e => (by cases z), fun _ => hAh, hA, .inr ⟨rfl, ?_⟩, fun b hb => ⟨?_, fun y c e z => ?_⟩, I.bs, Nat.le_trans I.ok.bsz I.sz, fun b o e hb => ?_, fun b hb z => ?_, I.stack, I.stkFree⟩
    · show ∃ c, cenv.cells.lookup y = some c
      have key : cenv.scope.names.lookup y = some .cell ∨ cenv.scope.names.lookup y = some .free := hy
      rw [hsc] at key
      rcases key with z | z
      · exact (nocell z).elim
      · obtain ⟨c, h1, _⟩ := look z
        exact ⟨c, h1⟩
    · show cenv.frame = some cenv.locals
      rw [hce]
      rfl
    · show b ≠ cenv.locals
      rw [hL]; exact Nat.ne_of_lt (hfp b hb).2
    · exact (hfp b hb).1.2.2.2.2.1 y c (mem e).1 z
    · rcases (hfp b hb).1.2.2.2.1 with z | z
      · exact I.ok.noex b o e z
      · exact absurd (Nat.lt_of_lt_of_le (Heap.lt_size e) (Nat.le_trans I.ok.bsz z)) (Nat.lt_irrefl _)
    · rcases List.mem_cons.mp (I.stkSub b z) with z | z
      · exact (hfp b hb).1.2.1 z
      · exact (hfp b hb).1.2.2.1 z
  refine ⟨okB, rfl, I.bare.push hgs, Un.kept kp, ⟨fun y => if y = (".0" : Str) then some itv else none, ?_, fun i y av e1 e2 e3 => ?_⟩, fun y c e => ?_, ?_, fun y c e => ?_, fun p hp => ?_, I.hok.kept kp, by rw [wipe_length]; exact I.len⟩
  · show Heap.Ns _ cenv.locals _
    rw [hL]
    exact hn'.push _
  · obtain ⟨e2, hne⟩ := wipe_some e2
    have e3 : Vis cenv.scope y := e3
    rw [hsc] at e3
    have hfr : scope.names.lookup y = some .free := by
      have no : ¬ (scope.names.lookup y = some .local) := fun e => by
        rcases ok.own _ (PySem.mem_of_lookup e) (.inl rfl) with e' | e'
        · obtain ⟨p, hp, hpy⟩ := List.mem_map.mp e'
          have e3 := ok.ix p hp
          have : p.1 = y := hpy
          rw [this] at e3
          exact hne (List.mem_map.mpr ⟨p, hp, nodup_ix hN e3 e1⟩)
        · exact e' (List.mem_of_getElem? e1)
      rcases e3 with z | z | z
      · exact (no z).elim
      · exact (nocell z).elim
      · exact z
    obtain ⟨m, hn, hl⟩ := I.loc
    have hvis : Vis X.env.scope y := (ok.free _ (PySem.mem_of_lookup hfr) rfl).elim (fun k => .inr (.inl k)) (fun k => .inr (.inr k))
    obtain ⟨w, r, q⟩ := hl i y av e1 e2 hvis
    have hk : cenv.kindOf y = some .free := by
      show cenv.scope.names.lookup y = _
      rw [hsc]; exact hfr
    refine ⟨w, r, .inr ⟨.inr hk, ?_⟩⟩
    obtain ⟨c, h1, h2⟩ := look hfr
    rcases q with ⟨k, _⟩ | ⟨_, c', e', z⟩
    · have k : X.env.scope.names.lookup y = some .local := k
      rcases ok.free _ (PySem.mem_of_lookup hfr) rfl with k' | k' <;> rw [show X.env.scope.names.lookup y = _ from k'] at k <;> cases k
    · rw [h2] at e'; cases e'
      exact ⟨c, h1, z.keeps kp⟩
  · obtain ⟨w, z⟩ := I.cell y c (mem e).1
    exact ⟨w, z.keeps kp⟩
  · show H cenv.locals = none
    rw [hL]; exact I.hok.fresh (Nat.le_refl _)
  · exact I.freeC y c (mem e).1
  · have hp : p ∈ [(h'.objs.size, go)] ++ [] := hp
    rw [List.append_nil, List.mem_singleton] at hp
    subst hp
    refine ⟨Heap.get?_push_size _ hgf, I.hok.fresh (by show s.heap.objs.size ≤ h'.objs.size; omega), ?_, fun z => ?_, hgo⟩
    · show h'.objs.size ≠ cenv.locals
      rw [hL]
      exact Nat.ne_of_gt (by omega)
    · have z : h'.objs.size ∈ frs X.stack := z
      rcases List.mem_cons.mp (I.stkSub _ z) with z | z
      · have := I.lt
        rw [← z] at this
        have h9 : h'.objs.size < s.heap.objs.size := this
        omega
      · exact I.nofs (by omega) z
end
/-! ### the protocol -/
def Woke (s s'' : Shared) : Prop := s''.heap = s.heap ∧ s''.os = s.os ∧ AllBare s''.gens
def ProtB (sv : Bool) (a : Addr) (g : Nat) (K : Bool → Shared → Prop) : Protocol := fun _ _ v s kap =>
  ∃ c : Bool, v = .bool c ∧ s.heap.IsGen a g ∧ s.heap.NoLimit ∧ AllBare s.gens ∧ if c = sv then ∀ s'', Woke s s'' → K sv s'' else ∀ s'', Woke s s'' → kap (.send .none) s''
def EndB (sv : Bool) (K : Bool → Shared → Prop) : Shared → Prop := fun s => AllBare s.gens ∧ ∀ s'', (∀ b o, s.heap.get? b = some o → s''.heap.get? b = some o) → s''.os = s.os → AllBare s''.gens → K (!sv) s''
theorem inv_woke {X : Cx} {pins : List (Addr × Obj)} {σ : L2.St} {H : Hp} {s s'' : Shared} (I : Inv X pins σ H s) (h : Woke s s'') : Inv X pins σ H s'' :=
  ⟨I.ok, h.2.1.trans I.os, h.2.2, by rw [h.1]; exact I.base, by rw [h.1]; exact I.loc, by rw [h.1]; exact I.cell, I.free, I.freeC, by rw [h.1]; exact I.pin, by rw [h.1]; exact I.hok, I.len⟩
section
variable {prog : Program} {w : World} {A : Around} {K : Bool → Shared → Prop} {a : Addr} {g : Nat}
/-- all, any walk the generator -/
theorem loop_all (hh : A.handled = none) (hroom : A.in1.depth < recursionLimit) {R : Result → Shared → Prop} (hK : ∀ c s, K c s → R (.ok (.ret (.bool c))) s) : ∀ (n : Nat) (s : Shared) (gs : GenState), s.gens[g]? = some gs → s.heap.IsGen a g → s.heap.NoLimit → AllBare s.gens →
    (∀ s'', Woke s s'' → gs.Goes (model prog w) A.in1.in1 (fun _ _ r s₁ => r = .ok .next ∧ EndB false K s₁) (ProtB false a g K) n (.send .none) s'') → codeAny (model prog w) A (.builtin "all.loop" ⟨[.ref a], []⟩) R s := by
  intro n
  induction n with
  | zero =>
    intro s gs hgs hg hl hb hgo
    refine codeAny_builtin F.entry_all_loop ?_
    rw [Around.under_plainId F.plain_all_loop _]
    show wpAny _ A.in1 (pyNext (.ref a) >>= _) _ _ s
    have hlt : g < s.gens.size := (Array.getElem?_eq_some_iff.mp hgs).1
    refine wpAny_bind (GenW.wpAny_gsz (n := g + 1) hlt (wpAny_pyNext_genexpQ (P := fun _ _ s₁ => EndB false K s₁) hh hl hroom hg hgs (hgo _ ⟨rfl, rfl, bare_set hb rfl⟩) (fun v s₁ gs' hbr hv hsz => ?_) fun s₁ hP h' hk hsz => ?_))
    · obtain ⟨c, rfl, hg1, hl1, hb1, hc⟩ := hv
      refine wpAny_bind (wpAny_holding (wpAny_truthy_bool ?_))
      refine wpAny_bind (wpAny_letGo ?_)
      cases c with
      | true =>
        rw [if_neg (by decide)] at hc
        exact (hc s₁ ⟨rfl, rfl, hb1⟩).elim
      | false =>
        rw [if_pos rfl] at hc
        simp only [Bool.false_eq_true, if_false]
        refine wpAny_bind (wpAny_rule (wpAny_pure ?_))
        exact hK _ _ (hc _ ⟨rfl, rfl, bare_set hb1 hbr⟩)
    · refine wpAny_bind (wpAny_rule (wpAny_pure ?_))
      exact hK _ _ (hP.2 _ hk rfl (bare_set hP.1 rfl))
  | succ n ih =>
    intro s gs hgs hg hl hb hgo
    refine codeAny_builtin F.entry_all_loop ?_
    rw [Around.under_plainId F.plain_all_loop _]
    show wpAny _ A.in1 (pyNext (.ref a) >>= _) _ _ s
    have hlt : g < s.gens.size := (Array.getElem?_eq_some_iff.mp hgs).1
    refine wpAny_bind (GenW.wpAny_gsz (n := g + 1) hlt (wpAny_pyNext_genexpQ (P := fun _ _ s₁ => EndB false K s₁) hh hl hroom hg hgs (hgo _ ⟨rfl, rfl, bare_set hb rfl⟩) (fun v s₁ gs' hbr hv hsz => ?_) fun s₁ hP h' hk hsz => ?_))
    · obtain ⟨c, rfl, hg1, hl1, hb1, hc⟩ := hv
      refine wpAny_bind (wpAny_holding (wpAny_truthy_bool ?_))
      refine wpAny_bind (wpAny_letGo ?_)
      cases c with
      | true =>
        rw [if_neg (by decide)] at hc
        simp only [if_true]
        have hsz' : g < s₁.gens.size := by rw [GenW.setGen_size] at hsz; exact hsz
        exact wpAny_pure ⟨plainId_quiet F.plain_all_loop _, ih _ gs' (by show (s₁.gens.setIfInBounds g gs')[g]? = _; exact Array.getElem?_setIfInBounds_self_of_lt hsz') hg1 hl1 (bare_set hb1 hbr) fun s'' hw => hc s'' ⟨hw.1, hw.2.1, hw.2.2⟩⟩
      | false =>
        rw [if_pos rfl] at hc
        simp only [Bool.false_eq_true, if_false]
        refine wpAny_bind (wpAny_rule (wpAny_pure ?_))
        exact hK _ _ (hc _ ⟨rfl, rfl, bare_set hb1 hbr⟩)
    · refine wpAny_bind (wpAny_rule (wpAny_pure ?_))
      exact hK _ _ (hP.2 _ hk rfl (bare_set hP.1 rfl))
theorem loop_any (hh : A.handled = none) (hroom : A.in1.depth < recursionLimit) {R : Result → Shared → Prop} (hK : ∀ c s, K c s → R (.ok (.ret (.bool c))) s) : ∀ (n : Nat) (s : Shared) (gs : GenState), s.gens[g]? = some gs → s.heap.IsGen a g → s.heap.NoLimit → AllBare s.gens →
    (∀ s'', Woke s s'' → gs.Goes (model prog w) A.in1.in1 (fun _ _ r s₁ => r = .ok .next ∧ EndB true K s₁) (ProtB true a g K) n (.send .none) s'') → codeAny (model prog w) A (.builtin "any.loop" ⟨[.ref a], []⟩) R s := by
  intro n
  induction n with
  | zero =>
    intro s gs hgs hg hl hb hgo
    refine codeAny_builtin F.entry_any_loop ?_
    rw [Around.under_plainId F.plain_any_loop _]
    show wpAny _ A.in1 (pyNext (.ref a) >>= _) _ _ s
    have hlt : g < s.gens.size := (Array.getElem?_eq_some_iff.mp hgs).1
    refine wpAny_bind (GenW.wpAny_gsz (n := g + 1) hlt (wpAny_pyNext_genexpQ (P := fun _ _ s₁ => EndB true K s₁) hh hl hroom hg hgs (hgo _ ⟨rfl, rfl, bare_set hb rfl⟩) (fun v s₁ gs' hbr hv hsz => ?_) fun s₁ hP h' hk hsz => ?_))
    · obtain ⟨c, rfl, hg1, hl1, hb1, hc⟩ := hv
      refine wpAny_bind (wpAny_holding (wpAny_truthy_bool ?_))
      refine wpAny_bind (wpAny_letGo ?_)
      cases c with
      | false =>
        rw [if_neg (by decide)] at hc
        exact (hc s₁ ⟨rfl, rfl, hb1⟩).elim
      | true =>
        rw [if_pos rfl] at hc
        simp only [if_true]
        refine wpAny_bind (wpAny_rule (wpAny_pure ?_))
        exact hK _ _ (hc _ ⟨rfl, rfl, bare_set hb1 hbr⟩)
    · refine wpAny_bind (wpAny_rule (wpAny_pure ?_))
      exact hK _ _ (hP.2 _ hk rfl (bare_set hP.1 rfl))
  | succ n ih =>
    intro s gs hgs hg hl hb hgo
    refine codeAny_builtin F.entry_any_loop ?_
    rw [Around.under_plainId F.plain_any_loop _]
    show wpAny _ A.in1 (pyNext (.ref a) >>= _) _ _ s
    have hlt : g < s.gens.size := (Array.getElem?_eq_some_iff.mp hgs).1
    refine wpAny_bind (GenW.wpAny_gsz (n := g + 1) hlt (wpAny_pyNext_genexpQ (P := fun _ _ s₁ => EndB true K s₁) hh hl hroom hg hgs (hgo _ ⟨rfl, rfl, bare_set hb rfl⟩) (fun v s₁ gs' hbr hv hsz => ?_) fun s₁ hP h' hk hsz => ?_))
    · obtain ⟨c, rfl, hg1, hl1, hb1, hc⟩ := hv
      refine wpAny_bind (wpAny_holding (wpAny_truthy_bool ?_))
      refine wpAny_bind (wpAny_letGo ?_)
      cases c with
      | false =>
        rw [if_neg (by decide)] at hc
        simp only [Bool.false_eq_true, if_false]
        have hsz' : g < s₁.gens.size := by rw [GenW.setGen_size] at hsz; exact hsz
        exact wpAny_pure ⟨plainId_quiet F.plain_any_loop _, ih _ gs' (by show (s₁.gens.setIfInBounds g gs')[g]? = _; exact Array.getElem?_setIfInBounds_self_of_lt hsz') hg1 hl1 (bare_set hb1 hbr) fun s'' hw => hc s'' ⟨hw.1, hw.2.1, hw.2.2⟩⟩
      | true =>
        rw [if_pos rfl] at hc
        simp only [if_true]
        refine wpAny_bind (wpAny_rule (wpAny_pure ?_))
        exact hK _ _ (hc _ ⟨rfl, rfl, bare_set hb1 hbr⟩)
    · refine wpAny_bind (wpAny_rule (wpAny_pure ?_))
      exact hK _ _ (hP.2 _ hk rfl (bare_set hP.1 rfl))

end
/-! ### the generator's own turns -/
/-- all (sv = false), any (sv = true) -/
def tGx (sv : Bool) (P : Addr) (wi : TI) (g : TG) (tt : TT) (te : TE) (vs : List Nat) : TE := fun σ H Q => wi σ H fun J H1 => TabG H1 P ∧ ∀ H2, Tabbed P H1 H2 → (∀ ps, H1 P = some (.tbl ps) → ∃ more, H2 P = some (.tbl (ps ++ more))) → ∃ W : Nat → Nat → Hp → Prop, (∃ m, W 0 m H2) ∧ ∀ i m H, W i m H →
  (J.stop i H ∧ Q (.bl (!sv)) H) ∨ (J.go i H ∧ ∃ Nx : Hp → Prop, (∀ H', Nx H' → ∃ m', m' < m ∧ W (i + 1) m' H') ∧ ∀ x H', J.yld i H x H' → g x (wipe σ vs) H' fun σ2 H2 => wipe σ2 vs = wipe σ vs ∧ tt σ2 H2 fun b H3 =>
    if b = true then te σ2 H3 fun y H4 => ∃ c, y = .bl c ∧ (if c = sv then Q (.bl sv) H4 else Nx H4) else Nx H3)
section
variable {Y : Cx} {a : Addr} {gn : Nat} {K : Bool → Shared → Prop}
theorem gen_loop {A : Around} {sv : Bool} {elt tg iter : Expr} {ifs : List Expr} {scope : Scope} {pos : Pos} {it : Addr} {tn : Nat → Heap → Prop} {J : It} {g : TG} {tt : TT} {te : TE} {σ : L2.St} {vs : List Nat} {Q : VK} {W : Nat → Nat → Hp → Prop}
    (hYA : Y.A = A.over (.compLoop (.GeneratorExp elt [⟨tg, iter, ifs, 0⟩] scope pos) 0 (.ref it) .none Y.env) []) (hc : Y.calm = true) (hco : Y.env.scope.isCoroutine = false) (hxe : Y.xe = fun _ _ => False) (T : Turn Y.prog Y.w Y.K tg J Y.ex it tn) (hgen : ∀ h : Heap, (∀ p ∈ Y.pn, h.get? p.1 = some p.2) → h.IsGen a gn) (hpx : ∀ p ∈ Y.pn, ∀ b ∈ Y.ex, p.1 ≠ b)
    (pg : PG Y tg g) (pt : PTs Y ifs tt) (pe : PE Y elt te)
    (turn : ∀ i m H, W i m H → (J.stop i H ∧ Q (.bl (!sv)) H) ∨ (J.go i H ∧ ∃ Nx : Hp → Prop, (∀ H', Nx H' → ∃ m', m' < m ∧ W (i + 1) m' H') ∧ ∀ x H', J.yld i H x H' → g x (wipe σ vs) H' fun σ2 H2 => wipe σ2 vs = wipe σ vs ∧ tt σ2 H2 fun b H3 =>
      if b = true then te σ2 H3 fun y H4 => ∃ c, y = .bl c ∧ (if c = sv then Q (.bl sv) H4 else Nx H4) else Nx H3))
    (fin : ∀ c H s, Inv Y [] (wipe σ vs) H s → Q (.bl c) H → K c s) :
    ∀ (m N i : Nat) (H : Hp) (s₀ s : Shared), m < N → Inv Y [] (wipe σ vs) H s → tn i s.heap → (∀ b ∈ Y.ex, H b = none) → W i m H →
      Seg (model Y.prog Y.w) A (fun _ _ r s₁ => r = .ok .next ∧ EndB sv K s₁) (ProtB sv a gn K) N s₀ (.compLoop (.GeneratorExp elt [⟨tg, iter, ifs, 0⟩] scope pos) 0 (.ref it) .none Y.env)
        ((model Y.prog Y.w).den (.compLoop (.GeneratorExp elt [⟨tg, iter, ifs, 0⟩] scope pos) 0 (.ref it) .none Y.env)) [] s := by
  have stat : ∀ {σ' : L2.St} {H' : Hp} {s' : Shared}, Inv Y [] σ' H' s' → (∀ b ∈ Y.ex, H' b = none) → ∀ b ∈ Y.ex, FpOk Y [] H' b := fun {σ' H' s'} I' hn b hb =>
    ⟨hn b hb, (I'.ok.exf b hb).1, I'.ok.exfs b hb, .inl hb, fun x c e => (I'.ok.exf b hb).2 x c e, fun p hp => hpx p (by simpa using hp) b hb⟩
  intro m
  induction m using Nat.strongRecOn with
  | _ m ih =>
    intro N i H s₀ s hN I st hf w
    show Seg _ A _ _ _ s₀ _ ((compTurn (.GeneratorExp elt [⟨tg, iter, ifs, 0⟩] scope pos) 0 (.ref it) .none Y.env).onRaise (leaving Y.env)) [] s
    rw [compTurn_gen, Sem.onRaise_eq_wrap]
    refine seg_bind_wrap (wpAny_standAt ?_)
    rcases turn i m H w with ⟨stop, q⟩ | ⟨go, Nx, hNx, step⟩
    · have td := T.done Y rfl rfl rfl hc i [] s _ H (fun _ _ => False) I (stat I hf) st stop
      rw [hYA] at td
      refine seg_bind_wrap (thnF td fun r s6 ⟨hr, I6⟩ => ?_)
      subst hr
      refine seg_end (.ok .next) ⟨rfl, I6.bare, fun s'' hk ho hb => fin _ _ _ ?_ q⟩
      obtain ⟨h', g', d', t', o'⟩ := s''
      have e : o' = s6.os := ho
      subst e
      refine I6.step (g' := g') (t' := t') (d' := d') (ch := []) (fun b hb => absurd hb (by simp)) (fun b o _ _ _ e n => hk b o e) (fun b o _ _ _ e n => ⟨o.slots, hk b o e⟩) (fun _ _ _ _ n => n) (fun b o _ e => ⟨o, hk b o e⟩) (fun _ _ e => e) (fun _ _ _ e => e) (fun b ps e => ⟨#[], by rw [e]; simp⟩) (fun mm hn => ?_) (fun b u e => ?_) hb
      · obtain ⟨ob, es, ep, ho, r⟩ := hn
        exact ⟨ob, es, ep, hk _ ob ho, r⟩
      · exact (I6.hok.kept hk) b u e
    · have ti := T.item Y rfl rfl rfl hc i [] s _ H (fun _ _ => False) I (stat I hf) st go
      rw [hYA] at ti
      refine seg_bind_wrap (thnF ti fun r s6 ⟨u, hr, h6⟩ => ?_)
      subst hr
      refine seg_bind_wrap (thnF h6 fun _ s7 ⟨x, H7, I7, r7, y7, st7, n7⟩ => ?_)
      have I7' := I7.pinned (stat I7 n7) (T.obj _ _ st7)
      have g7 := pg.run _ s7 _ H7 x u _ I7' r7 (step x H7 y7)
      rw [hYA, hxe] at g7
      refine seg_bind_wrap (thnF g7 fun _ s8 ⟨σ8, H8, I8, hw8, q8⟩ => ?_)
      have t8 := pt.run _ s8 σ8 H8 _ I8 q8
      rw [hYA, hxe] at t8
      refine seg_bind_wrap (thnF t8 fun b s9 ⟨H9, I9, q9⟩ => ?_)
      have back : ∀ {s' : Shared} {H' : Hp}, Inv Y ([] ++ pinsAt Y.ex s7.heap) σ8 H' s' → Inv Y [] (wipe σ vs) H' s' ∧ tn (i + 1) s'.heap ∧ ∀ b ∈ Y.ex, H' b = none := fun {s' H'} I' => by
        have pin' : ∀ b ∈ Y.ex, ∀ o, s7.heap.get? b = some o → s'.heap.get? b = some o ∧ H' b = none := fun b hb o e =>
          let z := I'.pin (b, o) (List.mem_append_right _ (List.mem_append_right _ (mem_pinsAt hb e)))
          ⟨z.1, z.2.1⟩
        have hl : (wipe σ vs).length = σ8.length := by rw [← hw8, wipe_length]
        refine ⟨(I'.unpinned (pins := [])).weak hl (fun j v e => ?_), T.keep _ _ _ st7 fun b hb o e => (pin' b hb o e).1, fun b hb => ?_⟩
        · rw [← hw8] at e
          exact (wipe_some e).1
        · obtain ⟨o, e, _⟩ := T.obj _ _ st7 b hb
          exact (pin' b hb o e).2
      cases b with
      | false =>
        simp only [Bool.false_eq_true, if_false] at q9 ⊢
        obtain ⟨m', hm, w'⟩ := hNx _ q9
        obtain ⟨I10, st10, f10⟩ := back I9
        exact seg_again rfl (ih m' hm N (i + 1) H9 s₀ s9 (by omega) I10 st10 f10 w')
      | true =>
        simp only [if_true] at q9 ⊢
        have hy : ∀ v, yieldOut Y.env v = yieldValue v := fun v => by simp only [yieldOut, hco, Bool.false_eq_true, if_false]
        simp only [hy]
        rw [Sem.bind_eq_wrap', Sem.bind_eq_wrap', Sem.wrap_wrap, Sem.wrap_wrap]
        have e9 := pe.run _ s9 σ8 H9 _ I9 q9
        rw [hYA, hxe] at e9
        refine seg_wrap (thnF e9 fun z s10 ⟨yv, H10, I10, r10, c, hyc, q10⟩ => ?_)
        subst hyc
        cases r10
        obtain ⟨I11, st11, f11⟩ := back I10
        cases N with
        | zero => exact absurd hN (Nat.not_lt_zero _)
        | succ N =>
          refine seg_at (seg_yield rfl rfl rfl ⟨c, rfl, hgen _ fun p hp => (I11.pin p (List.mem_append_left _ hp)).1, I11.nolimit, I11.bare, ?_⟩)
          by_cases hcs : c = sv
          · rw [if_pos hcs] at q10 ⊢
            exact fun s'' hw => fin _ _ _ (inv_woke I11 hw) q10
          · rw [if_neg hcs] at q10 ⊢
            obtain ⟨m', hm, w'⟩ := hNx _ q10
            intro s'' hw
            have Iw := inv_woke I11 hw
            exact seg_again rfl (ih m' hm N (i + 1) H10 s'' s'' (by omega) Iw (by rw [hw.1]; exact st11) f11 w')
end

/-! ### the call -/
theorem over_gen {A : Around} {elt : Expr} {gens : List Comprehension} {scope : Scope} {pos : Pos} {it acc : Value} {env : PySem.Env} : A.over (.compLoop (.GeneratorExp elt gens scope pos) 0 it acc env) [] = ⟨A.handled, A.depth + 1, A.frames.map (env :: ·), A.guards, A.units + 3⟩ := by
  obtain ⟨hd, d, fr, gs, u⟩ := A
  cases fr <;> cases gs <;> simp [Around.over, marksOver, frameCount, unitsOf, envsOf, guardsOf, pushEnvs, pushGuards, Code.envs, Code.env?, Code.isFrame, Code.guards, Code.isGuard, Code.weight, Code.frames, Code.isCreation, Code.isCaller, Code.cUnits]
def GxOk (X : Cx) (scope : Scope) (k : Nat) (p : Cx → Prop) : Prop := ∀ (A' : Around) (s : Shared) (H : Hp) (C : Addr) (code : Value) (fp : List Addr) (pn : List (Addr × Obj)), Room k A' → p (gxC X A' s H (genEnv scope (cloFrom X.env.cells scope.names []) C code builtinsNs X.env) fp pn)
section
variable {X : Cx} {pins : List (Addr × Obj)} {σ : L2.St} {H : Hp} {s : Shared}
theorem eval_gen {sv : Bool} {c P : Addr} {elt tg iter : Expr} {ifs : List Expr} {scope : Scope} {own : List (Str × Nat)} {gpos : Pos} {wi : TI} {g : TG} {tt : TT} {te : TE} {k : Nat} {Q : VK} {Q' : Value → Shared → Prop}
    (hr : Room (k + 1) X.A) (hc : X.calm = true) (hN : X.N.Nodup) (TB : TabB X.base X.mg c P) (hcode : X.env.code = .ref c) (ok : BlkOk X.N X.env.scope scope own) (hco : scope.isCoroutine = false) (hcell : ∀ y ∈ scope.names, y.2 ≠ .cell) (hdot : scope.names.lookup (".0" : Str) = some NameKind.local)
    (hi : PI X tg iter wi) (pg : GxOk X scope k fun Y => PG Y tg g) (pt : GxOk X scope k fun Y => PTs Y ifs tt) (pe : GxOk X scope k fun Y => PE Y elt te) (hs : ∀ v, genFold iter X.env v = pure v) (I : Inv X pins σ H s) (h : tGx sv P wi g tt te (own.map (·.2)) σ H Q)
    (hQ : ∀ a gn n s5 gs, s5.gens[gn]? = some gs → s5.heap.IsGen a gn → s5.heap.NoLimit → AllBare s5.gens →
      (∀ s'', Woke s5 s'' → gs.Goes (model X.prog X.w) X.A.in1.in1 (fun _ _ r s₁ => r = .ok .next ∧ EndB sv (fun c s' => EP X pins σ Q (.bool c) s') s₁) (ProtB sv a gn (fun c s' => EP X pins σ Q (.bool c) s')) n (.send .none) s'') → Q' (.ref a) s5) :
    wpAny (model X.prog X.w) X.A (eval (.GeneratorExp elt [⟨tg, iter, ifs, 0⟩] scope gpos) X.env) Q' X.xe s := by
  have hfree : ∀ y ∈ scope.names, y.2 = .free → ∃ c, X.env.cells.lookup y.1 = some c := fun y hy e => by
    rcases ok.free y hy e with k | k
    · exact I.ok.has _ (.inl k)
    · exact I.ok.has _ (.inr k)
  refine wpAny_GeneratorExp_make hco (closure_ok hfree) hcell hdot ok.kind (by have := hr.dp; omega) ?_ hs
  refine thn (hi.run pins s σ H _ I h) fun xv s1 hx => thn hx fun itv s2 h2 => ?_
  obtain ⟨it, fp, tn, J, H2, e, I2, T, st2, f2, ⟨ps, hP, ht⟩, q⟩ := h2
  subst e
  have hPs : s2.heap.get? P = some { cls := .none, data := .fields ps } := I2.hok P _ hP
  have hPlt : P < s2.heap.objs.size := Heap.lt_size hPs
  have cd : PySem.W.CodeHd s2.heap c P := TB.code.keeps fun b u e => I2.bk b u e
  have cont : ∀ (code : Value) (h3 : Heap) (tk : Nat) (ps' : Array Value), Heap.ExtBut P s2.heap h3 → s2.heap.objs.size ≤ h3.objs.size → h3.get? P = some { cls := .none, data := .fields ps' } → (∃ more, ps' = ps ++ more) → TriplesOk ps'.toList →
      wpAny (model X.prog X.w) X.A (builtinsFor X.env.globals X.env.builtins) (fun bi s₄ => ∀ h', h'.Ns s₄.heap.objs.size (fun y => if y = (".0" : Str) then some (Value.ref it) else none) → Heap.SameBut s₄.heap.objs.size (s₄.heap.push { cls := .type "frame", data := .dict #[] }) h' →
        Q' (.ref h'.objs.size) { s₄ with
            gens := s₄.gens.push (.fresh (.compStart (.GeneratorExp elt [⟨tg, iter, ifs, 0⟩] scope gpos) 0 (.ref it) .none (genEnv scope (cloFrom X.env.cells scope.names []) s₄.heap.objs.size code bi X.env))),
            toks := s₄.toks + 1 + 1 + 1,
            heap := h'.push { cls := .type "generator", data := .fields #[.int s₄.gens.size 0, .str "<genexpr>" (s₄.toks + 1), .str (X.env.qual ++ "<genexpr>") (s₄.toks + 1 + 1)] } }) X.xe { s2 with heap := h3, toks := tk } := by
    intro code h3 tk ps' hx hsz hP3 hmore ht3
    obtain ⟨more, rfl⟩ := hmore
    obtain ⟨bm, ob, e1, e2, e3, e4, e5, e6, e7, e8⟩ := TB.bm
    have keep3 : ∀ b u, b ≠ P → s2.heap.get? b = some u → h3.get? b = some u := fun b u hb e => hx b u hb e
    refine wpAny_builtinsFor (m := X.mg) (by rw [I2.ok.glob]; exact (I2.mod.glob.keeps I2.bk).extBut hx TB.gP) e1 e2 (keep3 _ _ e4 (I2.bk _ _ e5)) e6 e7 e8 ?_
    have I4 : Inv X pins σ (upd H2 P (.tbl (ps ++ more))) { s2 with heap := h3, toks := tk } := inv_tab (g' := s2.gens) (d' := s2.drawn) I2 hP keep3 hP3 I2.bare
    generalize hs4 : ({ s2 with heap := h3, toks := tk } : Shared) = s4 at I4 ⊢
    have h34 : s4.heap = h3 := by rw [← hs4]
    have g34 : s4.gens = s2.gens := by rw [← hs4]
    generalize hH4 : upd H2 P (.tbl (ps ++ more)) = H4 at I4
    have tb4 : Tabbed P H2 H4 := by rw [← hH4]; exact ⟨⟨_, upd_same, ht3⟩, fun b hb => upd_ne hb⟩
    obtain ⟨W, ⟨m0, w0⟩, turn⟩ := q H4 tb4 (fun ps0 e => by rw [hP] at e; cases e; exact ⟨more, by rw [← hH4]; exact upd_same⟩)
    intro h' hn' hs'
    have hfP : ∀ b ∈ fp, b ≠ P := fun b hb z => by
      have := (f2 b hb).1
      rw [z, hP] at this
      cases this
    have f4 : ∀ b ∈ fp, FpOk X pins H4 b ∧ b < s4.heap.objs.size := fun b hb => by
      obtain ⟨o, e, _⟩ := T.obj _ _ st2 b hb
      refine ⟨⟨?_, (f2 b hb).2⟩, by rw [h34]; exact Heap.lt_size (keep3 b o (hfP b hb) e)⟩
      rw [tb4.2 b (hfP b hb)]
      exact (f2 b hb).1
    generalize hcenv : genEnv scope (cloFrom X.env.cells scope.names []) s4.heap.objs.size code builtinsNs X.env = cenv
    have rA : Room k (X.A.in1.in1.over (.compLoop (.GeneratorExp elt [⟨tg, iter, ifs, 0⟩] scope gpos) 0 (.ref it) .none cenv) []) := by
      rw [over_gen]
      refine ⟨hr.hd, ?_, ?_⟩
      · have := hr.dp
        show X.A.in1.in1.depth + 1 + 3 * k + 5 < _
        have e : X.A.in1.in1.depth = X.A.depth := rfl
        omega
      · have := hr.un
        show X.A.in1.in1.units + 3 + 16 * k + 200 < _
        have e : X.A.in1.in1.units = X.A.units + 1 + 1 := rfl
        omega
    have I5 := gen_start (itv := Value.ref it) (code := code) (h' := h') (tk := s4.toks + 1 + 1 + 1) (gs := .fresh (.compStart (.GeneratorExp elt [⟨tg, iter, ifs, 0⟩] scope gpos) 0 (.ref it) .none cenv))
      (go := { cls := .type "generator", data := .fields #[.int s4.gens.size 0, .str "<genexpr>" (s4.toks + 1), .str (X.env.qual ++ "<genexpr>") (s4.toks + 1 + 1)] })
      (A' := X.A.in1.in1.over (.compLoop (.GeneratorExp elt [⟨tg, iter, ifs, 0⟩] scope gpos) 0 (.ref it) .none cenv) []) I4 ok hcell hN f4 cenv hcenv.symm
      (by rw [over_gen]; show X.A.frames.map (cenv :: ·) = _; rw [I2.ok.frames]; rfl) rA.hd hn' hs' (fun _ z => by cases z) rfl rfl
    have pg' := pg (X.A.in1.in1.over (.compLoop (.GeneratorExp elt [⟨tg, iter, ifs, 0⟩] scope gpos) 0 (.ref it) .none cenv) []) s4 H4 s4.heap.objs.size code fp [(h'.objs.size, { cls := .type "generator", data := .fields #[.int s4.gens.size 0, .str "<genexpr>" (s4.toks + 1), .str (X.env.qual ++ "<genexpr>") (s4.toks + 1 + 1)] })] rA
    have pt' := pt (X.A.in1.in1.over (.compLoop (.GeneratorExp elt [⟨tg, iter, ifs, 0⟩] scope gpos) 0 (.ref it) .none cenv) []) s4 H4 s4.heap.objs.size code fp [(h'.objs.size, { cls := .type "generator", data := .fields #[.int s4.gens.size 0, .str "<genexpr>" (s4.toks + 1), .str (X.env.qual ++ "<genexpr>") (s4.toks + 1 + 1)] })] rA
    have pe' := pe (X.A.in1.in1.over (.compLoop (.GeneratorExp elt [⟨tg, iter, ifs, 0⟩] scope gpos) 0 (.ref it) .none cenv) []) s4 H4 s4.heap.objs.size code fp [(h'.objs.size, { cls := .type "generator", data := .fields #[.int s4.gens.size 0, .str "<genexpr>" (s4.toks + 1), .str (X.env.qual ++ "<genexpr>") (s4.toks + 1 + 1)] })] rA
    rw [hcenv] at pg' pt' pe'
    generalize hgo : ({ cls := .type "generator", data := .fields #[.int s4.gens.size 0, .str "<genexpr>" (s4.toks + 1), .str (X.env.qual ++ "<genexpr>") (s4.toks + 1 + 1)] } : Obj) = go at I5 pg' pt' pe' ⊢
    have hsz' : h'.objs.size = s4.heap.objs.size + 1 := by rw [hs'.1, Heap.size_push]
    have isg : ∀ hh : Heap, hh.get? h'.objs.size = some go → hh.IsGen h'.objs.size s4.gens.size := fun hh e => by
      rw [← hgo] at e
      exact ⟨_, _, _, e, rfl, rfl, rfl⟩
    have st5 : tn 0 (h'.push go) := T.keep _ _ _ st2 fun b hb o e => Heap.get?_push_of_some _ (hs'.extBut b o (by rw [h34]; exact Nat.ne_of_lt (Heap.lt_size (keep3 b o (hfP b hb) e))) (Heap.get?_push_of_some _ (by rw [h34]; exact keep3 b o (hfP b hb) e)))
    have loop := gen_loop (Y := gxC X (X.A.in1.in1.over (.compLoop (.GeneratorExp elt [⟨tg, iter, ifs, 0⟩] scope gpos) 0 (.ref it) .none cenv) []) s4 H4 cenv fp [(h'.objs.size, go)]) (a := h'.objs.size) (gn := s4.gens.size) (K := fun c s' => EP X pins σ Q (.bool c) s') (σ := σ) (vs := own.map (·.2)) (Q := Q)
      rfl hc (by show cenv.scope.isCoroutine = false; rw [← hcenv]; exact hco) rfl T (fun hh hp => isg hh (hp (h'.objs.size, go) (by simp))) (fun p hp b hb => by
        have e : p = (h'.objs.size, go) := by simpa using hp
        rw [e]
        have := (f4 b hb).2
        exact Nat.ne_of_gt (Nat.lt_trans this (by rw [hsz']; exact Nat.lt_succ_self _))) pg' pt' pe' turn
      (fun c Hf sf If qf => ⟨.bl c, Hf, I4.call' (ch := fp) If.os If.base If.hok If.bare fun b hb => ⟨(f4 b hb).1.2.2.2.1, (f4 b hb).1.2.1, (f4 b hb).1.2.2.2.2.1, (f4 b hb).1.2.2.2.2.2⟩, rfl, qf⟩)
    refine hQ h'.objs.size s4.gens.size (m0 + 1) _ _ (Array.getElem?_push_size ..) (isg _ (Heap.get?_push_size _ (by rw [← hgo]; rfl))) I5.nolimit I5.bare fun s'' hw => ⟨rfl, ?_⟩
    have I6 := inv_woke I5 hw
    have lp := loop m0 (m0 + 1) 0 H4 s'' s'' (Nat.lt_succ_self _) I6 (by rw [hw.1]; exact st5) (fun b hb => (f4 b hb).1.1) w0
    have st6 : tn 0 s''.heap := by rw [hw.1]; exact st5
    show Seg _ X.A.in1.in1 _ _ _ s'' _ ((compStart (.GeneratorExp elt [⟨tg, iter, ifs, 0⟩] scope gpos) 0 (.ref it) .none cenv).onRaise (leaving cenv)) [] s''
    unfold compStart
    rw [Sem.onRaise_eq_wrap]
    show Seg _ X.A.in1.in1 _ _ _ s'' _ ((ask >>= _).wrap _ _ _ _) [] s''
    refine seg_bind_wrap (wpAny_askSetting ?_)
    split
    · exact seg_again rfl lp
    · refine seg_bind_wrap (wpAny_rule ?_)
      show Seg _ X.A.in1.in1 _ _ _ s'' _ ((standAt iter.pos >>= _).wrap _ _ _ _) [] s''
      exact seg_bind_wrap (wpAny_standAt (seg_bind_wrap (T.self _ 0 s'' _ _ st6 (seg_again rfl lp))))
  refine ⟨I2.nolimit, ?_⟩
  cases hf : codeAmong gpos ps.toList with
  | none =>
    refine wpAny_genexprCodeX hcode (cd.code hPs ht) (cd.tab hPs) hf fun c' h' tk hx hge hlt hco' _ htab' _ => ?_
    obtain ⟨o1, vs, f1, tf, fl, tg, inF, tx, tt, op, _, _, _, _, _, _, _, _, _, htr, _⟩ := hco'
    exact cont _ h' tk _ hx (Nat.le_trans hge (Nat.le_of_lt hlt)) htab'.2 ⟨_, rfl⟩ htr
  | some cv =>
    refine wpAny_genexprCode_hit hcode (cd.code hPs ht) hf ?_
    exact cont cv s2.heap s2.toks ps (Heap.ExtBut.refl _ _) (Nat.le_refl _) hPs ⟨#[], by simp⟩ ht

/-- all(.. for ..) -/
theorem pe_allG {c P : Addr} {elt tg iter : Expr} {ifs : List Expr} {scope : Scope} {own : List (Str × Nat)} {gpos p pos : Pos} {wi : TI} {g : TG} {tt : TT} {te : TE} {k : Nat}
    (hr : Room (k + 1) X.A) (hc : X.calm = true) (hN : X.N.Nodup) (hgl : Gl X "all") (hm : X.mg "all" = none) (TB : TabB X.base X.mg c P) (hcode : X.env.code = .ref c) (ok : BlkOk X.N X.env.scope scope own) (hco : scope.isCoroutine = false) (hcell : ∀ y ∈ scope.names, y.2 ≠ .cell) (hdot : scope.names.lookup (".0" : Str) = some NameKind.local)
    (hi : PI X tg iter wi) (pg : GxOk X scope k fun Y => PG Y tg g) (pt : GxOk X scope k fun Y => PTs Y ifs tt) (pe : GxOk X scope k fun Y => PE Y elt te) (hs : ∀ v, genFold iter X.env v = pure v)
    (he : starEach [.GeneratorExp elt [⟨tg, iter, ifs, 0⟩] scope gpos] X.env = (false, eval (.GeneratorExp elt [⟨tg, iter, ifs, 0⟩] scope gpos) X.env) :: starEach [] X.env) :
    PE X (.Call (.Name "all" p) [.GeneratorExp elt [⟨tg, iter, ifs, 0⟩] scope gpos] [] pos) (tGx false P wi g tt te (own.map (·.2))) := by
  refine ⟨fun pins s σ H Q I h => ?_⟩
  refine wpAny_Call_Name_kw (ld_blt I hgl hm boot_all_ ?_)
  refine PyProof.Rows.callWith_builtin1 ?_ he (by rfl)
  rw [he]
  show wpAny _ _ (spliced ((false, eval (.GeneratorExp elt [⟨tg, iter, ifs, 0⟩] scope gpos) X.env) :: backTo pos (starEach [] X.env))) _ _ s
  refine Calls.spliced_cons (eval_gen hr hc hN TB hcode ok hco hcell hdot hi pg pt pe hs I h fun a gn n s5 gs hgs hig hl hb hgo => ?_)
  refine Calls.spliced_nil ?_
  refine call_function_tree F.kind_all F.plain_all F.entry_all (F.args_all1 _) ?_
  unfold Builtin.«all»
  refine wpAny_bind (m := oneArg "all" _) (wpAny_pure ?_)
  refine wpAny_bind (wpAny_pyIter_gen hig ?_)
  exact wpAny_pure ⟨plainId_quiet F.plain_all_loop _, loop_all hr.hd (by have := hr.dp; show X.A.depth < _; omega) (fun c s' z => z) n s5 gs hgs hig hl hb hgo⟩
theorem pe_anyG {c P : Addr} {elt tg iter : Expr} {ifs : List Expr} {scope : Scope} {own : List (Str × Nat)} {gpos p pos : Pos} {wi : TI} {g : TG} {tt : TT} {te : TE} {k : Nat}
    (hr : Room (k + 1) X.A) (hc : X.calm = true) (hN : X.N.Nodup) (hgl : Gl X "any") (hm : X.mg "any" = none) (TB : TabB X.base X.mg c P) (hcode : X.env.code = .ref c) (ok : BlkOk X.N X.env.scope scope own) (hco : scope.isCoroutine = false) (hcell : ∀ y ∈ scope.names, y.2 ≠ .cell) (hdot : scope.names.lookup (".0" : Str) = some NameKind.local)
    (hi : PI X tg iter wi) (pg : GxOk X scope k fun Y => PG Y tg g) (pt : GxOk X scope k fun Y => PTs Y ifs tt) (pe : GxOk X scope k fun Y => PE Y elt te) (hs : ∀ v, genFold iter X.env v = pure v)
    (he : starEach [.GeneratorExp elt [⟨tg, iter, ifs, 0⟩] scope gpos] X.env = (false, eval (.GeneratorExp elt [⟨tg, iter, ifs, 0⟩] scope gpos) X.env) :: starEach [] X.env) :
    PE X (.Call (.Name "any" p) [.GeneratorExp elt [⟨tg, iter, ifs, 0⟩] scope gpos] [] pos) (tGx true P wi g tt te (own.map (·.2))) := by
  refine ⟨fun pins s σ H Q I h => ?_⟩
  refine wpAny_Call_Name_kw (ld_blt I hgl hm boot_any_ ?_)
  refine PyProof.Rows.callWith_builtin1 ?_ he (by rfl)
  rw [he]
  show wpAny _ _ (spliced ((false, eval (.GeneratorExp elt [⟨tg, iter, ifs, 0⟩] scope gpos) X.env) :: backTo pos (starEach [] X.env))) _ _ s
  refine Calls.spliced_cons (eval_gen hr hc hN TB hcode ok hco hcell hdot hi pg pt pe hs I h fun a gn n s5 gs hgs hig hl hb hgo => ?_)
  refine Calls.spliced_nil ?_
  refine call_function_tree F.kind_any F.plain_any F.entry_any (F.args_any1 _) ?_
  unfold Builtin.«any»
  refine wpAny_bind (m := oneArg "any" _) (wpAny_pure ?_)
  refine wpAny_bind (wpAny_pyIter_gen hig ?_)
  exact wpAny_pure ⟨plainId_quiet F.plain_any_loop _, loop_any hr.hd (by have := hr.dp; show X.A.depth < _; omega) (fun c s' z => z) n s5 gs hgs hig hl hb hgo⟩
end
/-! ### as denotations -/
section
variable {X : Cx} {W : Wd} {k : Nat} {E : XK} {a b c e o : Expr} {es ifs : List Expr} {pos p p2 : Pos} {d : Env → Mo PV} {dt : Env → Mo Bool}
theorem On.gx (h : On X W (k + 1) E) {A' : Around} (hA : Room k A') (s : Shared) (H : Hp) (env : PySem.Env) (fp : List Addr) (pn : List (Addr × Obj)) : On (gxC X A' s H env fp pn) W k E0 :=
  ⟨h.hK, h.hM, h.hc, h.nd, hA, fun _ _ _ _ _ _ _ z => (h.c0 _ _ _ _ _ z).elim, fun _ _ z => z.elim, h.c0⟩
open Classical in
/-- all (sv = false), any (sv = true) -/
noncomputable def gxF (sv : Bool) (pt : Pt) (dt : Env → Mo Bool) (d : Env → Mo PV) (chk : Sto → Prop) (ρ : Env) : List PV → Mo PV
  | [] => fun st => if chk st then .ok (.bl (!sv)) st else .stuck
  | q :: qs => fun st => if chk st then (match Pt.go pt q ρ with
    | none => .stuck
    | some ρ1 => bnd (nox (dt ρ1)) (fun b => if b = true then bnd (nox (d ρ1)) (fun y => bnd (blM y) fun c => if c = sv then fun st => .ok (.bl sv) st else gxF sv pt dt d chk ρ qs) else gxF sv pt dt d chk ρ qs) st) else .stuck
noncomputable def dGx (sv : Bool) (ds : Env → Mo Src) (pt : Pt) (dt : Env → Mo Bool) (d : Env → Mo PV) (vs : List Nat) : Env → Mo PV := fun ρ => bnd (ds ρ) fun S => gxF sv pt dt d S.chk (wipeE ρ vs) S.l
theorem mono_tab {ι : List Addr} {st : Sto} {H H2 : Hp} {P : Addr} (rs : RS W ι st H) (hP : P ∈ W.tb) (hPl : ∀ p ∈ W.tl, p.1 ≠ P) (t : Tabbed P H H2) (hm : ∀ ps, H P = some (.tbl ps) → ∃ more, H2 P = some (.tbl (ps ++ more))) : Mono ι H ι H2 ∧ RS W ι st H2 := by
  have m : Mono ι H ι H2 := by
    refine ⟨fun _ _ h => h, fun _ h n => absurd h n, fun a u h hn => ?_⟩
    by_cases ha : a = P
    · subst ha
      obtain ⟨ps, e, t1⟩ := rs.tb a hP
      rw [h] at e
      cases e
      obtain ⟨more, e2⟩ := hm ps h
      obtain ⟨ps2, e3, t2⟩ := t.1
      rw [e2] at e3
      cases e3
      exact ⟨_, e2, .inr ⟨ps, more, rfl, rfl, fun _ => t2⟩⟩
    · exact ⟨u, (t.2 a ha).trans h, Kp.refl u⟩
  refine ⟨m, rs.len, rs.nd, fun n u a h1 h2 => ?_, tab_mono rs m, fun p hp => ?_⟩
  rotate_left
  · obtain ⟨ps, h1, h2, h3⟩ := rs.tl p hp
    refine ⟨ps, (t.2 _ (hPl p hp)).trans h1, h2, fun pos cv hc => ?_⟩
    obtain ⟨c, e1, e2⟩ := h3 pos cv hc
    obtain ⟨ps', e3, _⟩ := rs.tb P hP
    exact ⟨c, e1, (t.2 _ fun z => by rw [z, e3] at e2; cases e2).trans e2⟩
  exact RO.mono rs m (t.2 a fun z => rs.notTab hP (by rw [← z]; exact List.mem_of_getElem? h2)) (rs.ob n u a h1 h2)
open Classical in
theorem gx_of {sv : Bool} {P : Addr} {pt : Pt} {ds : Env → Mo Src} {vs : List Nat} {σ : L2.St} {H : Hp} {Q : VK} (hP : P ∈ W.tb) (hPl : ∀ p ∈ W.tl, p.1 ≠ P) (t : tD W E (dGx sv ds pt dt d vs) σ H Q) : tGx sv P (tDI W E ds) (tDP W pt vs) (tDT W E0 dt) (tD W E0 d) vs σ H Q := by
  obtain ⟨ι, ρ, st, re, rs, g⟩ := t
  refine ⟨ι, ρ, st, re, rs, Good.imp (Good.bind g) fun S st1 ι1 H1 m1 r1 g1 J H1' mn r1' jo => ⟨r1'.tb P hP, fun H2 tbd hmore => ?_⟩⟩
  obtain ⟨mt, rt⟩ := mono_tab r1' hP hPl tbd hmore
  have re1 := ((re.mono rs m1).mono r1 mn).mono r1' mt
  refine ⟨fun i m H' => m = S.l.length - i ∧ ∃ ι' st', RE W ι' H' ρ σ ∧ RS W ι' st' H' ∧ Mono ι1 H1' ι' H' ∧ Good W E ι' H' (gxF sv pt dt d S.chk (wipeE ρ vs) (S.l.drop i) st') (kQ W Q), ⟨_, rfl, ι1, st1, re1, rt, mt, (g1.shift mn).shift mt⟩, ?_⟩
  rintro i m H' ⟨rfl, ι2, st2, re2, r2, m2, g2⟩
  by_cases hi : i < S.l.length
  · have hq : S.l[i]? = some S.l[i] := List.getElem?_eq_getElem hi
    rw [List.drop_eq_getElem_cons hi] at g2
    unfold gxF at g2
    obtain ⟨hc, g3⟩ := good_if g2
    obtain ⟨hgo, hy⟩ := (jo ι2 H' st2 m2 r2 hc i).1 _ hq
    refine .inr ⟨hgo, fun H3 => ∃ ι' st', RE W ι' H3 ρ σ ∧ RS W ι' st' H3 ∧ Mono ι1 H1' ι' H3 ∧ Good W E ι' H3 (gxF sv pt dt d S.chk (wipeE ρ vs) (S.l.drop (i + 1)) st') (kQ W Q), fun H'' z => ⟨S.l.length - (i + 1), by omega, rfl, z⟩, fun x H'' y => ?_⟩
    obtain ⟨m3, r3, rv⟩ := hy x H'' y
    cases hp : Pt.go pt S.l[i] (wipeE ρ vs) with
    | none => rw [hp] at g3; exact g3.elim
    | some ρ1 =>
      rw [hp] at g3
      have re3 := re2.mono r2 m3
      refine ⟨ι2, wipeE ρ vs, st2, _, re3.wipe vs, r3, rv, ρ1, hp, fun σ' re' hw => ⟨hw.trans (wipe_idem vs vs fun _ z => z), ?_⟩⟩
      refine ⟨ι2, ρ1, st2, re', r3, Good.imp (Good.nox (g3.shift m3)) fun b st4 ι4 H4 m4 r4 g4 => ?_⟩
      have re4 := re2.mono r2 (m3.trans m4)
      cases b with
      | false => exact ⟨ι4, st4, re4, r4, m2.trans (m3.trans m4), g4⟩
      | true =>
        show ite (true = true) _ _
        rw [if_pos rfl] at g4 ⊢
        refine ⟨ι4, ρ1, st4, re'.mono r3 m4, r4, Good.imp (Good.nox g4) fun y st5 ι5 H5 m5 r5 g5 yv hyv => ?_⟩
        obtain ⟨cc, rfl, rfl, g6⟩ := bl_of r5 hyv (Good.bind g5)
        refine ⟨cc, rfl, ?_⟩
        by_cases hcs : cc = sv
        · rw [if_pos hcs] at g6 ⊢
          exact g6.ok r5 _ (.bl sv)
        · rw [if_neg hcs] at g6 ⊢
          exact ⟨ι5, st5, re4.mono r4 m5, r5, (m2.trans (m3.trans m4)).trans m5, g6⟩
  · have hl : S.l.length ≤ i := by omega
    rw [List.drop_of_length_le hl] at g2
    unfold gxF at g2
    obtain ⟨hc, g3⟩ := good_if g2
    exact .inl ⟨(jo ι2 H' st2 m2 r2 hc i).2 hl, g3.ok r2 _ (.bl _)⟩
abbrev Gx (X : Cx) (scope : Scope) (p : Cx → Prop) : Prop := ∀ (A' : Around) (s : Shared) (H : Hp) (C : Addr) (code : Value) (fp : List Addr) (pn : List (Addr × Obj)), p (gxC X A' s H (genEnv scope (cloFrom X.env.cells scope.names []) C code builtinsNs X.env) fp pn)
theorem de_allG {cc P : Addr} {elt tg iter : Expr} {scope : Scope} {own : List (Str × Nat)} {gpos : Pos} {ds : Env → Mo Src} {pt : Pt} (TB : TabB X.base W.mg cc P) (hP : P ∈ W.tb) (hPl : ∀ p ∈ W.tl, p.1 ≠ P) (hcode : X.env.code = .ref cc) (hm : W.mg "all" = none)
    (hi : DI X W (k + 1) E tg iter ds) (ok : BlkOk X.N X.env.scope scope own) (hg : Gx X scope fun Y => DP Y W (own.map (·.2)) tg pt) (ht : Gx X scope fun Y => DTs Y W k E0 ifs dt) (he : Gx X scope fun Y => DE Y W k E0 elt d)
    (hgl : Gl X "all" := by rfl) (hco : scope.isCoroutine = false := by rfl) (hcell : ∀ y ∈ scope.names, y.2 ≠ .cell := by decide) (hdot : scope.names.lookup (".0" : Str) = some NameKind.local := by rfl) (hs : ∀ v, genFold iter X.env v = pure v := by intro _; rfl)
    (hst : starEach [.GeneratorExp elt [⟨tg, iter, ifs, 0⟩] scope gpos] X.env = (false, eval (.GeneratorExp elt [⟨tg, iter, ifs, 0⟩] scope gpos) X.env) :: starEach [] X.env := by rfl) :
    DE X W (k + 1) E (.Call (.Name "all" p) [.GeneratorExp elt [⟨tg, iter, ifs, 0⟩] scope gpos] [] pos) (dGx false ds pt dt d (own.map (·.2))) := ⟨fun o =>
  pe_imp (pe_allG o.room o.hc o.nd hgl (by rw [o.hM]; exact hm) (by rw [o.hM]; exact TB) hcode ok hco hcell hdot (hi.run o) (fun A' s H C code fp pn hA => (hg A' s H C code fp pn).run o.hK o.nd o.hc) (fun A' s H C code fp pn hA => (ht A' s H C code fp pn).run (o.gx hA s H _ fp pn)) (fun A' s H C code fp pn hA => (he A' s H C code fp pn).run (o.gx hA s H _ fp pn)) hs hst) fun _ _ _ t => gx_of hP hPl t⟩
theorem de_anyG {cc P : Addr} {elt tg iter : Expr} {scope : Scope} {own : List (Str × Nat)} {gpos : Pos} {ds : Env → Mo Src} {pt : Pt} (TB : TabB X.base W.mg cc P) (hP : P ∈ W.tb) (hPl : ∀ p ∈ W.tl, p.1 ≠ P) (hcode : X.env.code = .ref cc) (hm : W.mg "any" = none)
    (hi : DI X W (k + 1) E tg iter ds) (ok : BlkOk X.N X.env.scope scope own) (hg : Gx X scope fun Y => DP Y W (own.map (·.2)) tg pt) (ht : Gx X scope fun Y => DTs Y W k E0 ifs dt) (he : Gx X scope fun Y => DE Y W k E0 elt d)
    (hgl : Gl X "any" := by rfl) (hco : scope.isCoroutine = false := by rfl) (hcell : ∀ y ∈ scope.names, y.2 ≠ .cell := by decide) (hdot : scope.names.lookup (".0" : Str) = some NameKind.local := by rfl) (hs : ∀ v, genFold iter X.env v = pure v := by intro _; rfl)
    (hst : starEach [.GeneratorExp elt [⟨tg, iter, ifs, 0⟩] scope gpos] X.env = (false, eval (.GeneratorExp elt [⟨tg, iter, ifs, 0⟩] scope gpos) X.env) :: starEach [] X.env := by rfl) :
    DE X W (k + 1) E (.Call (.Name "any" p) [.GeneratorExp elt [⟨tg, iter, ifs, 0⟩] scope gpos] [] pos) (dGx true ds pt dt d (own.map (·.2))) := ⟨fun o =>
  pe_imp (pe_anyG o.room o.hc o.nd hgl (by rw [o.hM]; exact hm) (by rw [o.hM]; exact TB) hcode ok hco hcell hdot (hi.run o) (fun A' s H C code fp pn hA => (hg A' s H C code fp pn).run o.hK o.nd o.hc) (fun A' s H C code fp pn hA => (ht A' s H C code fp pn).run (o.gx hA s H _ fp pn)) (fun A' s H C code fp pn hA => (he A' s H C code fp pn).run (o.gx hA s H _ fp pn)) hs hst) fun _ _ _ t => gx_of hP hPl t⟩
end
end PD
/-! PD: more operators. -/
namespace PD
open PySem PySem.Spec PyProof.Rows L2
/-! ### tuple * int, small counts -/
theorem tuple_mul0 (l : Addr) (items : Array Value) (n : Nat) (dd : Option Addr) (sl : Array (Option Value)) (x : Int) (u : Tok) (c0 : (decide (x < -(2 ^ 63)) || decide (x ≥ 2 ^ 63)) = false) (c1 : (items.isEmpty || x == 1) = false) (c2 : (decide (x ≤ 0) || items.isEmpty) = true) :
    Meets (Builtin.«tuple.__mul__» ⟨[.ref l, .int x u], []⟩) (fun _ R s => s.heap.get? l = some { cls := .type "tuple", dict := dd, data := .seq items n, slots := sl } ∧
      R (.ok (.ret (Value.ref s.heap.objs.size))) { s with heap := s.heap.push { cls := Value.type "tuple", data := Data.seq #[] }, toks := s.toks }) :=
  .of_wp fun prog w A R s h => by
    obtain ⟨hp, g, d, tk, os⟩ := s
    obtain ⟨hl, h⟩ := h
    have f1 := AutoSeq1.idx_int
    wp_walk using wpAny_loadPart' hl
    repeat (first
      | (refine wpAny_ite_false (decide_eq_false (by rw [c0]; exact Bool.false_ne_true)) ?_; wp_walk using wpAny_loadPart' hl)
      | (refine wpAny_ite_false (decide_eq_false (by rw [c1]; exact Bool.false_ne_true)) ?_; wp_walk using wpAny_loadPart' hl)
      | (refine wpAny_ite_true (decide_eq_true (by rw [c2])) ?_; wp_walk using wpAny_loadPart' hl)
      | (refine wpAny_ite_false (decide_eq_false (Nat.not_lt.mpr (show (#[] : Array Value).size ≤ sizeLine by decide))) ?_; wp_walk using wpAny_loadPart' hl))
    exact ⟨_, rfl, h⟩
theorem tuple_mul1 (l : Addr) (items : Array Value) (n : Nat) (dd : Option Addr) (sl : Array (Option Value)) (x : Int) (u : Tok) (c0 : (decide (x < -(2 ^ 63)) || decide (x ≥ 2 ^ 63)) = false) (c1 : (items.isEmpty || x == 1) = true) :
    Meets (Builtin.«tuple.__mul__» ⟨[.ref l, .int x u], []⟩) (fun _ R s => s.heap.get? l = some { cls := .type "tuple", dict := dd, data := .seq items n, slots := sl } ∧ R (.ok (.ret (Value.ref l))) s) :=
  .of_wp fun prog w A R s h => by
    obtain ⟨hp, g, d, tk, os⟩ := s
    obtain ⟨hl, h⟩ := h
    have f1 := AutoSeq1.idx_int
    wp_walk using wpAny_loadPart' hl
    repeat (first
      | (refine wpAny_ite_false (decide_eq_false (by rw [c0]; exact Bool.false_ne_true)) ?_; wp_walk using wpAny_loadPart' hl)
      | (refine wpAny_ite_true (decide_eq_true (by rw [c1])) ?_; wp_walk using wpAny_loadPart' hl))
    exact ⟨_, rfl, h⟩
def rRepT2 (K : PySem.W.Frag) : R2 := fun x y H Q => ∃ l k xs, x = .ref l ∧ y = .int k ∧ SqT K H l xs ∧ -1000 ≤ k ∧ k ≤ 1000 ∧ xs.length ≤ 1000 ∧ (if xs = [] ∨ k = 1 then Q (.ref l) H else ∀ p, H p = none → Q (.ref p) (upd H p (.tup (List.replicate k.toNat xs).flatten)))
theorem op_repT2 {X : Cx} : OpR X (binaryOp .Mult) (rRepT2 X.K) := by
  intro pins s σ H x y v u Q I rx ry h
  obtain ⟨l, k, xs, rfl, rfl, hT, h1, h2, hz, q⟩ := h
  by_cases hb : xs ≠ [] ∧ 2 ≤ k
  · rw [if_neg (fun z => by rcases z with z | z; exact hb.1 z; omega)] at q
    exact op_repT pins s σ H _ _ v u Q I rx ry ⟨l, k, xs, rfl, rfl, hT, hb.1, hb.2, h2, hz, q⟩
  cases rx
  obtain ⟨t, rfl⟩ := ry
  obtain ⟨its, r, ⟨⟨cls, dd, data, sl⟩, ho, hc, n, hd⟩, hs⟩ := I.tuple hT
  simp only at hc hd
  subst hc hd
  have hle : its.length = xs.length := r.length.symm
  have c0 : (decide (k < -(2 ^ 63)) || decide (k ≥ 2 ^ 63)) = false := by
    rw [decide_eq_false (by omega), decide_eq_false (by omega)] <;> rfl
  have he : its.toArray.isEmpty = true ↔ xs = [] := by
    cases its with
    | nil => cases xs with
      | nil => exact ⟨fun _ => rfl, fun _ => rfl⟩
      | cons a b => cases hle
    | cons a b => cases xs with
      | nil => cases hle
      | cons c d => exact ⟨fun z => (by cases z), fun z => (by cases z)⟩
  by_cases h3 : xs = [] ∨ k = 1
  · rw [if_pos h3] at q
    have c1 : (its.toArray.isEmpty || k == 1) = true := by
      rcases h3 with z | z
      · rw [he.mpr z]; rfl
      · rw [z]; exact Bool.or_true _
    exact wpAny_binaryOp_repeat_ref (T := "tuple") (U := "int") (by decide) ⟨_, ho, rfl⟩ (fun s' => typeIs_int s' k t) noFill_tuple_mul F.fills_int_mul F.slot_int_rmul repeat_tuple F.slot_int_index.lookup
      (call_meets F.slot_int_rmul (typeIs_int s k t) F.entry_int_rmul (F.args_int_rmul_2 _ _) (int_rmul_tuple k t l its.toArray n dd sl)
        ⟨ho, rfl, ⟨_, ho, rfl⟩, call_meets F.slot_tuple_mul ⟨_, ho, rfl⟩ F.entry_tuple_mul (F.args_tuple_mul_2 _ _) (tuple_mul1 l its.toArray n dd sl k t c0 c1) ⟨ho, .ref l, H, I, rfl, q⟩⟩)
  · rw [if_neg h3] at q
    have hne : xs ≠ [] := fun z => h3 (.inl z)
    have hk1 : k ≠ 1 := fun z => h3 (.inr z)
    have hk : k ≤ 0 := Int.not_lt.mp fun z => hb ⟨hne, by omega⟩
    have hi : its.toArray.isEmpty = false := by
      cases q2 : its.toArray.isEmpty with
      | false => rfl
      | true => exact (hne (he.mp q2)).elim
    have c1 : (its.toArray.isEmpty || k == 1) = false := by
      rw [hi, Bool.false_or]
      exact beq_eq_false_iff_ne.mpr hk1
    have c2 : (decide (k ≤ 0) || its.toArray.isEmpty) = true := by rw [decide_eq_true hk]; rfl
    refine wpAny_binaryOp_repeat_ref (T := "tuple") (U := "int") (by decide) ⟨_, ho, rfl⟩ (fun s' => typeIs_int s' k t) noFill_tuple_mul F.fills_int_mul F.slot_int_rmul repeat_tuple F.slot_int_index.lookup
      (call_meets F.slot_int_rmul (typeIs_int s k t) F.entry_int_rmul (F.args_int_rmul_2 _ _) (int_rmul_tuple k t l its.toArray n dd sl)
        ⟨ho, rfl, ⟨_, ho, rfl⟩, call_meets F.slot_tuple_mul ⟨_, ho, rfl⟩ F.entry_tuple_mul (F.args_tuple_mul_2 _ _) (tuple_mul0 l its.toArray n dd sl k t c0 c1 c2) ⟨ho, ?_⟩⟩)
    have hk0 : k.toNat = 0 := by omega
    refine ⟨.ref s.heap.objs.size, _, I.laid (t' := s.toks) (o := .tup (List.replicate k.toNat xs).flatten) (fun b ob q => Heap.get?_push_of_some _ q) (Nat.le_refl _) ?_, rfl, q _ (I.hok.fresh (Nat.le_refl _))⟩
    rw [hk0]
    exact ⟨Nat.zero_le _, _, .nil, IsTup.new _ _⟩
section
variable {X : Cx} {W : Wd} {k : Nat} {E : XK} {a b c e o : Expr} {es ifs : List Expr} {pos p p2 : Pos} {da db dc d : Env → Mo PV} {dt du : Env → Mo Bool} {dl dm : Env → Mo (List PV)}
/-- *: ints, a tuple, a text -/
def oMulA : PV → PV → Mo PV
  | .int i, .int j => fun st => if CM i j then .ok (.int (i * j)) st else .stuck
  | .tup l, .int k => fun st => if -1000 ≤ k ∧ k ≤ 1000 ∧ l.length ≤ 1000 then .ok (.tup (List.replicate k.toNat l).flatten) st else .stuck
  | .str x, .int k => fun st => if -1000 ≤ k ∧ k ≤ 1000 ∧ x.length ≤ 1000 then .ok (.str ⟨(List.replicate k.toNat x.cps).foldl (· ++ ·) #[]⟩) st else .stuck
  | _, _ => fail
def rRepS : R2 := fun x y H Q => ∃ z k, x = .str z ∧ y = .int k ∧ -1000 ≤ k ∧ k ≤ 1000 ∧ z.length ≤ 1000 ∧ Q (.str ⟨(List.replicate k.toNat z.cps).foldl (· ++ ·) #[]⟩) H
theorem op_repS : OpR X (binaryOp .Mult) rRepS := by
  intro pins s σ H x y v u Q I rx ry h
  obtain ⟨z, k, rfl, rfl, h1, h2, hz, q⟩ := h
  obtain ⟨t, rfl⟩ := rx
  obtain ⟨t', rfl⟩ := ry
  have c0 : (decide (k < -(2 ^ 63 : Int)) || decide (k ≥ 2 ^ 63)) = false := by
    rw [decide_eq_false (by omega), decide_eq_false (by omega)] <;> rfl
  refine PySem.P.mul_str c0 (fun hk _ => ?_) (fun hk _ => ?_) ?_
  · have : (2 ^ 63 - 1) / k ≥ (2 ^ 63 - 1) / 1000 := by
      rw [ge_iff_le, Int.le_ediv_iff_mul_le (by omega)]
      have : ((2 ^ 63 - 1) / 1000 : Int) * k ≤ ((2 ^ 63 - 1) / 1000 : Int) * 1000 := Int.mul_le_mul_of_nonneg_left (by omega) (by decide)
      omega
    omega
  · have h9 : z.length * k.toNat ≤ 1000 * 1000 := Nat.mul_le_mul hz (by omega)
    show decide (z.length * k.toNat > sizeLine) = false
    rw [sizeLine_eq]
    exact decide_eq_false (by omega)
  · by_cases hk : k < 1
    · rw [if_pos hk]
      have e : k.toNat = 0 := by omega
      rw [e] at q
      exact ⟨by decide, .str _, H, I.tok _, ⟨_, rfl⟩, q⟩
    · rw [if_neg hk]
      by_cases hc : (k == 1 || z.length == 0) = true
      · rw [if_pos hc]
        have e : (⟨(List.replicate k.toNat z.cps).foldl (· ++ ·) #[]⟩ : Str) = z := by
          rw [Bool.or_eq_true] at hc
          rcases hc with hc | hc
          · have : k = 1 := by simpa using hc
            subst this
            obtain ⟨c⟩ := z
            simp
          · have hz0 : z.cps = #[] := by
              have : z.cps.size = 0 := by simpa [Str.length] using hc
              exact Array.eq_empty_of_size_eq_zero this
            obtain ⟨c⟩ := z
            subst hz0
            congr 1
            generalize k.toNat = n
            induction n with
            | zero => rfl
            | succ n ih => rw [List.replicate_succ, List.foldl_cons]; exact ih
        rw [e] at q
        exact ⟨.str z, H, I, ⟨_, rfl⟩, q⟩
      · rw [if_neg hc]
        refine ⟨?_, .str _, H, I.tok _, ⟨_, rfl⟩, q⟩
        have h9 : k.toNat * z.length ≤ 1000 * 1000 := Nat.mul_le_mul (by omega) hz
        have key : ∀ (n : Nat) (a : Array Nat), ((List.replicate n z.cps).foldl (· ++ ·) a).size = a.size + n * z.cps.size := by
          intro n
          induction n with
          | zero => intro a; simp
          | succ n ih => intro a; rw [List.replicate_succ, List.foldl_cons, ih, Array.size_append, Nat.succ_mul]; omega
        show Str.length _ ≤ sizeLine
        rw [sizeLine_eq]
        have k2 := key k.toNat #[]
        show Array.size (List.foldl (fun x1 x2 => x1 ++ x2) #[] (List.replicate k.toNat z.cps)) ≤ _
        rw [k2]
        have e : z.length = z.cps.size := rfl
        rw [e] at h9
        simp only [Array.size_empty]
        omega
def rMulA (K : PySem.W.Frag) : R2 := fun x y H Q => rI CMul (fun i j => .int (i * j)) x y H Q ∨ rRepT2 K x y H Q ∨ rRepS x y H Q
theorem fok_mulA : FOk W E (rMulA W.K) oMulA := by
  intro ι st H x y p q Q rs hx hy g0
  cases hx <;> cases hy <;> first
    | exact g0.elim
    | (obtain ⟨hc, g1⟩ := good_if g0
       first
        | exact .inl ⟨_, _, rfl, rfl, cm_ok hc, g1.ok rs _ (.int _)⟩
        | exact .inr (.inr ⟨_, _, rfl, rfl, hc.1, hc.2.1, hc.2.2, g1.ok rs _ (.str _)⟩)
        | (rename_i a vs l sq rr hz k
           refine .inr (.inl ⟨a, k, vs, rfl, rfl, sq, hc.1, hc.2.1, by rw [rr.length]; exact hc.2.2, ?_⟩)
           have rep : RVs W ι H (List.replicate k.toNat vs).flatten (List.replicate k.toNat l).flatten := by
             generalize k.toNat = n
             induction n with
             | zero => exact .nil
             | succ n ih => rw [List.replicate_succ, List.replicate_succ, List.flatten_cons, List.flatten_cons]; exact rr.append ih
           have hlen : (List.replicate k.toNat l).flatten.length ≤ 16777216 := by
             have e : (List.replicate k.toNat l).flatten.length = k.toNat * l.length := by simp
             have h9 : k.toNat * l.length ≤ 1000 * 1000 := Nat.mul_le_mul (by omega) hc.2.2
             omega
           split
           · rename_i hcs
             have e : (List.replicate k.toNat l).flatten = l := by
               rcases hcs with z | z
               · subst z
                 cases rr
                 generalize k.toNat = n
                 induction n with
                 | zero => rfl
                 | succ n ih => rw [List.replicate_succ, List.flatten_cons]; exact ih
               · subst z
                 simp
             rw [e] at g1
             exact g1.ok rs _ (.tup sq rr hz)
           · intro p hp
             exact good_newtup g1 rs rep hlen hp))
theorem op_mulA {X : Cx} : OpR X (binaryOp .Mult) (rMulA X.K) := OpR.or op_mul (OpR.or op_repT2 op_repS)
theorem de_mulA (ha : DE X W k E a da) (hb : DE X W k E b db) : DE X W k E (.BinOp a .Mult b pos) (dBin oMulA da db) := de_bin (fun o => by rw [← o.hK]; exact op_mulA) fok_mulA ha hb
/-! ### in -/
def rInP (K : PySem.W.Frag) (ng : Bool) : R2 := fun x y H Q => ∃ d ds, Dp K H x d ∧ (Dp K H y (.list ds) ∨ Dp K H y (.tuple ds)) ∧ d.plain = true ∧ PyData.plainAll ds = true ∧ PyData.depthAll ds ≤ 63 ∧ Q (.bl (if ng then !ds.any fun z => PyData.eqv z d else ds.any fun z => PyData.eqv z d)) H
theorem op_inP {X : Cx} (hu : X.A.units + 65 < cLine) : OpR X (compareOp .In) (rInP X.K false) := by
  intro pins s σ H x y v u Q I rx ry h
  obtain ⟨d, ds, hd, he, pd, pe, hz, q⟩ := h
  obtain ⟨as, r1⟩ := Dp.reads I d x v hd rx
  rcases he with he | he
  · obtain ⟨bs, r2⟩ := Dp.reads I (.list ds) y u he ry
    exact SeqAt.in_list_data r2 r1 pe pd (by omega) ⟨.bl _, H, I, rfl, q⟩
  · obtain ⟨bs, r2⟩ := Dp.reads I (.tuple ds) y u he ry
    exact SeqAt.in_tuple_data r2 r1 pe pd (by omega) ⟨.bl _, H, I, rfl, q⟩
theorem op_notInP {X : Cx} (hu : X.A.units + 65 < cLine) : OpR X (compareOp .NotIn) (rInP X.K true) := by
  intro pins s σ H x y v u Q I rx ry h
  obtain ⟨d, ds, hd, he, pd, pe, hz, q⟩ := h
  obtain ⟨as, r1⟩ := Dp.reads I d x v hd rx
  rcases he with he | he
  · obtain ⟨bs, r2⟩ := Dp.reads I (.list ds) y u he ry
    exact SeqAt.notIn_list_data r2 r1 pe pd (by omega) ⟨.bl _, H, I, rfl, q⟩
  · obtain ⟨bs, r2⟩ := Dp.reads I (.tuple ds) y u he ry
    exact SeqAt.notIn_tuple_data r2 r1 pe pd (by omega) ⟨.bl _, H, I, rfl, q⟩
def inQ (ng : Bool) (p : PV) (l : List PV) : Mo PV := fun st => if okd 60 p = true ∧ okds 60 l = true then .ok (.bl (if ng then !l.any fun z => eqb z p else l.any fun z => eqb z p)) st else .stuck
theorem any_toD {p : PV} (hp : okd 60 p = true) : ∀ (l : List PV), okds 60 l = true → ((toDs l).any fun z => PyData.eqv z (toD p)) = l.any fun z => eqb z p
  | [], _ => rfl
  | q :: l, h => by
    unfold okds at h
    rw [Bool.and_eq_true] at h
    unfold toDs
    rw [List.any_cons, List.any_cons, eqv_toD 60 q p h.1 hp, any_toD hp l h.2]
theorem in_of {ng : Bool} {ι : List Addr} {st : Sto} {H : Hp} {x y : V} {q : PV} {l : List PV} {vs : List V} {Q : VK} (rs : RS W ι st H) (hx : RV W ι H x q) (hy : IsSq W.K H y vs) (r : RVs W ι H vs l) (g : Good W E ι H (inQ ng q l st) (kQ W Q)) : rInP W.K ng x y H Q := by
  obtain ⟨hc, g1⟩ := good_if g
  obtain ⟨p1, p2⟩ := okd_plain 60 q hc.1
  obtain ⟨l1, l2⟩ := okds_plain 60 l hc.2
  have dv := dps_of 60 l vs hc.2 r
  have key : Dp W.K H y (.list (toDs l)) ∨ Dp W.K H y (.tuple (toDs l)) := by
    obtain ⟨a, rfl, z⟩ := hy
    rcases z with z | z
    · exact .inl (.lst z dv)
    · exact .inr (.tup z dv)
  refine ⟨toD q, toDs l, dp_of 60 q x hc.1 hx, key, p1, l1, by omega, ?_⟩
  rw [any_toD hc.1 l hc.2]
  exact g1.ok rs _ (.bl _)
theorem de_in (ha : DE X W k E a da) (hb : DE X W k E b db) (hm : behindInMarks .In b = false := by rfl) : DE X W k E (.Compare a [.In] [b] pos) (dBin (fun p q => bnd (sqM q) (inQ false p)) da db) :=
  de_cmp (r := rInP W.K false) (fun o => by rw [← o.hK]; exact op_inP (by have := o.room.un; omega)) (fun ι st H x y p q Q rs hx hy g => by
    have g0 := Good.bind g
    unfold sqM at g0
    cases z : seqOf st q with
    | none => rw [z] at g0; exact g0.elim
    | some l =>
      rw [z] at g0
      obtain ⟨vs, h1, h2, h3⟩ := seq_sq rs hy z
      exact in_of rs hx h1 h2 (g0.ok rs)) ha hb hm
theorem de_notin (ha : DE X W k E a da) (hb : DE X W k E b db) (hm : behindInMarks .NotIn b = false := by rfl) : DE X W k E (.Compare a [.NotIn] [b] pos) (dBin (fun p q => bnd (sqM q) (inQ true p)) da db) :=
  de_cmp (r := rInP W.K true) (fun o => by rw [← o.hK]; exact op_notInP (by have := o.room.un; omega)) (fun ι st H x y p q Q rs hx hy g => by
    have g0 := Good.bind g
    unfold sqM at g0
    cases z : seqOf st q with
    | none => rw [z] at g0; exact g0.elim
    | some l =>
      rw [z] at g0
      obtain ⟨vs, h1, h2, h3⟩ := seq_sq rs hy z
      exact in_of rs hx h1 h2 (g0.ok rs)) ha hb hm
/-! ### lists: times, and -/
def repM (l : List PV) (q : PV) : Mo (List PV) := fun st => match q with
  | .int k => if -1000000 ≤ k ∧ k ≤ 1000000 ∧ l.length * k.toNat ≤ 16777216 then .ok (List.replicate k.toNat l).flatten st else .stuck
  | _ => .stuck
theorem dl_rep (ha : DL X W k E a dl) (hb : DE X W k E b db) : DL X W k E (.BinOp a .Mult b pos) (fun ρ => bnd (dl ρ) fun l => bnd (db ρ) fun q => repM l q) := ⟨fun o => pe_imp (pe_op op_rep (ha.run o) (hb.run o)) fun σ H Q t => by
  obtain ⟨ι, ρ, st, re, rs, g⟩ := t
  refine ⟨ι, ρ, st, re, rs, Good.imp (Good.bind g) fun l st1 ι1 H1 m1 r1 g1 p vs hp0 hn he rr hz => ?_⟩
  refine ⟨ι1, ρ, st1, re.mono rs m1, r1, Good.imp (Good.bind g1) fun q st2 ι2 H2 m2 r2 g2 y hy => ?_⟩
  cases hy <;> try exact g2.elim
  rename_i kk
  obtain ⟨hc, g3⟩ := good_if g2
  have he2 := lst_mono m2 hn he
  have rr2 := rvs_mono r1 m2 _ _ rr
  have rep : RVs W ι2 H2 (List.replicate kk.toNat vs).flatten (List.replicate kk.toNat l).flatten := by
    generalize kk.toNat = n
    induction n with
    | zero => exact .nil
    | succ n ih => rw [List.replicate_succ, List.replicate_succ, List.flatten_cons, List.flatten_cons]; exact rr2.append ih
  refine ⟨p, kk, vs, rfl, rfl, he2, by omega, by omega, by rw [sizeLine_eq, rr.length]; exact hc.2.2, fun np hnp => ?_⟩
  have hlen : (List.replicate kk.toNat l).flatten.length ≤ 16777216 := by
    have e : (List.replicate kk.toNat l).flatten.length = kk.toNat * l.length := by simp
    rw [e, Nat.mul_comm]
    exact hc.2.2
  exact good_newlst g3 r2 rep hlen hnp (none_back rs (m1.trans m2) r2.some_ hnp)⟩
/-- an unlocked list, wherever it stands -/
def kU (W : Wd) (Q : VK) : List PV → Sto → List Addr → Hp → Prop := fun l _ ι' H' => ∀ p vs, H' p = some (.lst vs) → RVs W ι' H' vs l → l.length ≤ 16777216 → Q (.ref p) H'
def tDU (W : Wd) (E : XK) (d : Env → Mo (List PV)) : TE := fun σ H Q => ∃ ι ρ st, RE W ι H ρ σ ∧ RS W ι st H ∧ Good W E ι H (d ρ st) (kU W Q)
structure DU (X : Cx) (W : Wd) (k : Nat) (E : XK) (e : Expr) (d : Env → Mo (List PV)) : Prop where
  run : On X W k E → PE X e (tDU W E d)
theorem du_l (h : DL X W k E e dl) : DU X W k E e dl := ⟨fun o => pe_imp (h.run o) fun σ H Q t => by
  obtain ⟨ι, ρ, st, re, rs, g⟩ := t
  exact ⟨ι, ρ, st, re, rs, Good.imp g fun l st1 ι1 H1 m1 r1 g1 p vs hp hn e1 r z => g1 p vs e1 r z⟩⟩
def lstU (q : PV) : Mo (List PV) := fun st => match q with
  | .loc n => match st[n]? with
    | some (.lst false l) => .ok l st
    | _ => .stuck
  | _ => .stuck
theorem lu_of {ι : List Addr} {st : Sto} {H : Hp} {x : V} {q : PV} {kk : List PV → Sto → List Addr → Hp → Prop} (rs : RS W ι st H) (hx : RV W ι H x q) (g : Good W E ι H (lstU q st) kk) :
    ∃ a vs l, x = .ref a ∧ H a = some (.lst vs) ∧ RVs W ι H vs l ∧ l.length ≤ 16777216 ∧ kk l st ι H := by
  cases hx <;> try exact g.elim
  rename_i n a hn
  unfold lstU at g
  dsimp only at g
  cases q : st[n]? with
  | none => rw [q] at g; exact g.elim
  | some ob =>
    rw [q] at g
    have ro := rs.ob n ob a q hn
    cases ob with
    | dct _ _ => exact g.elim
    | sti _ => exact g.elim
    | lst lk l =>
      cases lk with
      | true => exact g.elim
      | false =>
        obtain ⟨vs, e, r, hz⟩ := ro
        exact ⟨a, vs, l, rfl, e, r, hz, g.ok rs⟩
theorem du_e (h : DE X W k E e d) : DU X W k E e (fun ρ => bnd (d ρ) lstU) := ⟨fun o => pe_imp (h.run o) fun σ H Q t => by
  obtain ⟨ι, ρ, st, re, rs, g⟩ := t
  refine ⟨ι, ρ, st, re, rs, Good.imp (Good.bind g) fun q st1 ι1 H1 m1 r1 g1 x hx => ?_⟩
  obtain ⟨a, vs, l, rfl, he, r, hz, g2⟩ := lu_of r1 hx g1
  exact g2 a vs he r hz⟩
theorem dl_catL (ha : DL X W k E a dl) (hb : DU X W k E b dm) : DL X W k E (.BinOp a .Add b pos) (fun ρ => bnd (dl ρ) fun l => bnd (dm ρ) fun m => capM (l ++ m)) := ⟨fun o => pe_imp (pe_op op_cat (ha.run o) (hb.run o)) fun σ H Q t => by
  obtain ⟨ι, ρ, st, re, rs, g⟩ := t
  refine ⟨ι, ρ, st, re, rs, Good.imp (Good.bind g) fun l st1 ι1 H1 m1 r1 g1 p vs hp0 hn he rr hz => ?_⟩
  refine ⟨ι1, ρ, st1, re.mono rs m1, r1, Good.imp (Good.bind g1) fun l2 st2 ι2 H2 m2 r2 g2 p2 vs2 he2 rr2 hz2 => ?_⟩
  obtain ⟨hc, g3⟩ := good_if g2
  rw [List.length_append] at hc
  refine ⟨p, p2, vs, vs2, rfl, rfl, lst_mono m2 hn he, he2, line_le (by rw [rr.length, rr2.length]; exact hc), fun np hnp => ?_⟩
  exact good_newlst g3 r2 ((rvs_mono r1 m2 _ _ rr).append rr2) (by rw [List.length_append]; exact hc) hnp (none_back rs (m1.trans m2) r2.some_ hnp)⟩
theorem dl_catE (ha : DE X W k E a da) (hb : DU X W k E b dm) : DL X W k E (.BinOp a .Add b pos) (fun ρ => bnd (da ρ) fun q => bnd (dm ρ) fun m => bnd (lstU q) fun l => capM (l ++ m)) := ⟨fun o => pe_imp (pe_op op_cat (ha.run o) (hb.run o)) fun σ H Q t => by
  obtain ⟨ι, ρ, st, re, rs, g⟩ := t
  refine ⟨ι, ρ, st, re, rs, Good.imp (Good.bind g) fun q st1 ι1 H1 m1 r1 g1 x hx => ?_⟩
  refine ⟨ι1, ρ, st1, re.mono rs m1, r1, Good.imp (Good.bind g1) fun l2 st2 ι2 H2 m2 r2 g2 p2 vs2 he2 rr2 hz2 => ?_⟩
  obtain ⟨p, vs, l, rfl, he, rr, hz, g2'⟩ := lu_of r2 (rv_mono r1 m2 q x hx) (Good.bind g2)
  obtain ⟨hc, g3⟩ := good_if g2'
  rw [List.length_append] at hc
  refine ⟨p, p2, vs, vs2, rfl, rfl, he, he2, line_le (by rw [rr.length, rr2.length]; exact hc), fun np hnp => ?_⟩
  exact good_newlst g3 r2 (rr.append rr2) (by rw [List.length_append]; exact hc) hnp (none_back rs (m1.trans m2) r2.some_ hnp)⟩
end
end PD
/-! PD: further rules. -/
namespace PD
open PySem PySem.Spec PyProof.Rows L2
section
variable {X : Cx} {W : Wd} {k : Nat} {E : XK} {a b c e o : Expr} {es ifs : List Expr} {pos p p2 : Pos} {da db dc d : Env → Mo PV} {dt du : Env → Mo Bool} {dl dm : Env → Mo (List PV)}
theorem ds_par2 {i j : Nat} {x y : Str} {px py pt pt2 : Pos} {kt k2 : Nat} (hij : i ≠ j) (ha : DA X W k E [a, b] dl) (hi : X.N[i]? = some x := by rfl) (hj : X.N[j]? = some y := by rfl) (hx : X.env.scope.names.lookup x = some .local := by rfl) (hy : X.env.scope.names.lookup y = some .local := by rfl)
    (hw : swappedStores [.Tuple [.Name x px, .Name y py] kt pt] (.Tuple [a, b] k2 pt2) X.env = pure (some [x, y]) := by rfl)
    (hs : swapsWithSole [.Tuple [.Name x px, .Name y py] kt pt] (.Tuple [a, b] k2 pt2) pos.line X.env = pure false := by rfl) : DS X W k E (.Assign [.Tuple [.Name x px, .Name y py] kt pt] (.Tuple [a, b] k2 pt2) pos) (dPar i j dl) :=
  ds_par hij ha hi hj hx hy fun o => ps_par o.hc o.nd hi hj hij hx hy (ha.run o) hw hs
theorem dt_in (ha : DE X W k E a da) (hb : DE X W k E b db) (hm : behindInMarks .In b = false := by rfl) : DT X W k E (.Compare a [.In] [b] pos) (dB (dBin (fun p q => bnd (sqM q) (inQ false p)) da db)) :=
  dt_cmp (r := rInP W.K false) (fun o => by rw [← o.hK]; exact op_inP (by have := o.room.un; omega)) (fun ι st H x y p q Q rs hx hy g => by
    have g0 := Good.bind g
    unfold sqM at g0
    cases z : seqOf st q with
    | none => rw [z] at g0; exact g0.elim
    | some l =>
      rw [z] at g0
      obtain ⟨vs, h1, h2, h3⟩ := seq_sq rs hy z
      exact in_of rs hx h1 h2 (g0.ok rs)) ha hb hm
theorem dt_notin (ha : DE X W k E a da) (hb : DE X W k E b db) (hm : behindInMarks .NotIn b = false := by rfl) : DT X W k E (.Compare a [.NotIn] [b] pos) (dB (dBin (fun p q => bnd (sqM q) (inQ true p)) da db)) :=
  dt_cmp (r := rInP W.K true) (fun o => by rw [← o.hK]; exact op_notInP (by have := o.room.un; omega)) (fun ι st H x y p q Q rs hx hy g => by
    have g0 := Good.bind g
    unfold sqM at g0
    cases z : seqOf st q with
    | none => rw [z] at g0; exact g0.elim
    | some l =>
      rw [z] at g0
      obtain ⟨vs, h1, h2, h3⟩ := seq_sq rs hy z
      exact in_of rs hx h1 h2 (g0.ok rs)) ha hb hm
/-! ### tuple(range(..)) -/
def tupR : List PV → Mo PV
  | [.int j] => fun st => if j ≤ 16777216 ∧ -16777216 ≤ j then .ok (.tup (rgP 0 j.toNat)) st else .stuck
  | _ => fail
theorem rvs_rg {ι : List Addr} {H : Hp} {n : Nat} : RVs W ι H (rgV 0 n) (rgP 0 n) := by
  unfold rgV rgP
  have e : ((n : Int) - 0).toNat = n := by omega
  rw [e]
  generalize List.range n = l
  induction l with
  | nil => exact .nil
  | cons a l ih => exact .cons (.int _) ih
theorem da_one (h : DA X W k E [a] dl) : True := True.intro
theorem de_tupR {p3 pos3 : Pos} (h : DE X W k E a da) (hg : Gl X "tuple") (hm : W.mg "tuple" = none) (hm2 : W.mg "range" = none) (hg2 : Gl X "range" := by rfl) (hs : starEach [a] X.env = (false, eval a X.env) :: starEach [] X.env := by rfl)
    (hs2 : starEach [.Call (.Name "range" p3) [a] [] pos3] X.env = (false, eval (.Call (.Name "range" p3) [a] [] pos3) X.env) :: starEach [] X.env := by rfl) :
    DE X W k E (.Call (.Name "tuple" p) [.Call (.Name "range" p3) [a] [] pos3] [] pos) (fun ρ => bnd (da ρ) fun q => tupR [q]) := ⟨fun o => pe_imp (pe_tupRg o.hc hg (by rw [o.hM]; exact hm) (prg_1 hg2 (by rw [o.hM]; exact hm2) (h.run o) hs) hs2) fun σ H Q t => by
  obtain ⟨ι, ρ, st, re, rs, g⟩ := t
  refine ⟨ι, ρ, st, re, rs, Good.imp (Good.bind g) fun q st1 ι1 H1 m1 r1 g1 v hv => ?_⟩
  cases hv <;> try exact g1.elim
  rename_i j
  obtain ⟨hc, g2⟩ := good_if g1
  refine ⟨j, rfl, ⟨by omega, by omega, by omega, by omega, by omega⟩, fun np hnp => ?_⟩
  have e : rgV 0 j = rgV 0 (j.toNat : Int) := by
    unfold rgV
    have : (j - 0).toNat = ((j.toNat : Int) - 0).toNat := by omega
    rw [this]
  rw [e]
  exact good_newtup g2 r1 rvs_rg (by unfold rgP; rw [List.length_map, List.length_range]; omega) hnp⟩
/-! ### chains as tests -/
theorem chain_of {r r' : R2} {f f' : PV → PV → Mo PV} {σ : L2.St} {H : Hp} {Q : VK} (hf : FOk W E r f) (hf' : FOk W E r' f') (t : tD W E (dChain f f' da db dc) σ H Q) : tChain r r' (tD W E da) (tD W E db) (tD W E dc) σ H Q := by
  obtain ⟨ι, ρ, st, re, rs, g⟩ := t
  refine ⟨ι, ρ, st, re, rs, Good.imp (Good.bind g) fun p st1 ι1 H1 m1 r1 g1 v1 hv1 => ?_⟩
  refine ⟨ι1, ρ, st1, re.mono rs m1, r1, Good.imp (Good.bind g1) fun q st2 ι2 H2 m2 r2 g2 v2 hv2 => ?_⟩
  refine hf ι2 st2 H2 v1 v2 p q _ r2 (rv_mono r1 m2 p v1 hv1) hv2 (Good.imp (Good.bind g2) fun z st3 ι3 H3 m3 r3 g3 v3 hv3 => ?_)
  obtain ⟨b, rfl, rfl, g4⟩ := bl_of r3 hv3 (Good.bind g3)
  refine ⟨b, rfl, ?_⟩
  cases b with
  | false => exact g4.ok r3 _ (.bl false)
  | true =>
    refine ⟨ι3, ρ, st3, ((re.mono rs m1).mono r1 m2).mono r2 m3, r3, Good.imp (Good.bind g4) fun w st4 ι4 H4 m4 r4 g5 v4 hv4 => ?_⟩
    exact hf' ι4 st4 H4 v2 v4 q w Q r4 (rv_mono r3 m4 q v2 (rv_mono r2 m3 q v2 hv2)) hv4 g5
theorem b_of {σ : L2.St} {H : Hp} {Q : Bool → Hp → Prop} (t : tDT W E (dB d) σ H Q) : tTest (tD W E d) σ H Q := by
  obtain ⟨ι, ρ, st, re, rs, g⟩ := t
  refine ⟨ι, ρ, st, re, rs, Good.imp (Good.bind g) fun q st1 ι1 H1 m1 r1 g1 v hv => ?_⟩
  obtain ⟨b, rfl, rfl, g2⟩ := bl_of r1 hv g1
  exact ⟨b, rfl, g2⟩
theorem dt_chain {op op' : CmpOp} {r r' : R2} {f f' : PV → PV → Mo PV} (ho : On X W k E → OpR X (compareOp op) r) (hf : FOk W E r f) (ho' : On X W k E → OpR X (compareOp op') r') (hf' : FOk W E r' f') (ha : DE X W k E a da) (hb : DE X W k E b db) (hc : DE X W k E c dc)
    (hm : lastMarks [op, op'] [b, c] = false := by with_unfolding_all rfl) : DT X W k E (.Compare a [op, op'] [b, c] pos) (dB (dChain f f' da db dc)) := ⟨fun o => pt_imp (pt_chain (ho o) (ho' o) (ha.run o) (hb.run o) (hc.run o) hm) fun _ _ _ t => chain_of hf hf' (b_of t)⟩
theorem dt_leLe (ha : DE X W k E a da) (hb : DE X W k E b db) (hc : DE X W k E c dc) (hm : lastMarks [.LtE, .LtE] [b, c] = false := by with_unfolding_all rfl) : DT X W k E (.Compare a [.LtE, .LtE] [b, c] pos) (dB (dChain oLe oLe da db dc)) := dt_chain (fun _ => op_le) (fok_I fun _ _ _ _ => .bl _) (fun _ => op_le) (fok_I fun _ _ _ _ => .bl _) ha hb hc hm
theorem dt_leLt (ha : DE X W k E a da) (hb : DE X W k E b db) (hc : DE X W k E c dc) (hm : lastMarks [.LtE, .Lt] [b, c] = false := by with_unfolding_all rfl) : DT X W k E (.Compare a [.LtE, .Lt] [b, c] pos) (dB (dChain oLe oLt da db dc)) := dt_chain (fun _ => op_le) (fok_I fun _ _ _ _ => .bl _) (fun _ => op_lt) (fok_I fun _ _ _ _ => .bl _) ha hb hc hm
/-! ### the greatest of a tuple of ints -/
def rMaxT (K : PySem.W.Frag) : List V → Hp → VK → Prop := fun vs H Q => ∃ (a : Addr) (n : Int) (ns : List Int), vs = [V.ref a] ∧ SqT K H a ((n :: ns).map V.int) ∧ Q (.int (ns.foldl max n)) H
theorem ints_alike (l : List Int) : PySem.W.AlikeAll (l.map PyData.int) := by
  refine ⟨fun x hx y hy => ?_, fun x hx => ?_⟩
  · obtain ⟨i, _, rfl⟩ := List.mem_map.mp hx
    obtain ⟨j, _, rfl⟩ := List.mem_map.mp hy
    rfl
  · obtain ⟨i, _, rfl⟩ := List.mem_map.mp hx
    exact fun z => (by cases z)
theorem ints_depth : ∀ l : List Int, PyData.depthAll (l.map PyData.int) ≤ 1
  | [] => by simp [PyData.depthAll]
  | i :: l => by
    have := ints_depth l
    simp only [List.map_cons, PyData.depthAll, PyData.depth]
    omega
theorem ints_dps {K : PySem.W.Frag} {H : Hp} : ∀ l : List Int, DpAll K H (l.map V.int) (l.map PyData.int)
  | [] => .nil
  | i :: l => .cons (.int i) (ints_dps l)
theorem call_maxT {X : Cx} (hc : X.calm = true) (hu : X.A.units + 64 < cLine) : CallR X (.builtin "max") (rMaxT X.K) := by
  intro pins s σ H xs us Q I r h
  obtain ⟨a, n, ns, rfl, hT, q⟩ := h
  cases r with
  | cons r1 rr =>
    cases rr
    cases r1
    obtain ⟨as, rd⟩ := Dp.reads I (.tuple ((n :: ns).map PyData.int)) (.ref a) (.ref a) (.tup hT (ints_dps _)) rfl
    cases rd with
    | tuple h1 h2 h3 h4 =>
      rename_i ob vs nn
      refine PySem.W.max_tuple_data (l := a) (vs := vs) (x := .int n) (xs := ns.map PyData.int) (I.ok.hd hc) ⟨ob, h1, h2, _, h3⟩ h4 (ints_alike (n :: ns)) ?_ fun i v h' tk bs hv hr hk => ?_
      · have := ints_depth (n :: ns)
        have e : PyData.depthAll (PyData.int n :: ns.map PyData.int) ≤ 1 := this
        omega
      · rw [PySem.W.maxD_ints] at hr
        cases hr with
        | int i t => exact ⟨.int _, H, I.kept hk, ⟨_, rfl⟩, q⟩
def maxS (q : PV) : Mo PV := fun st => match q with
  | .tup l => (bnd (intsM l) fun bs => fun st => if 0 < bs.length then .ok (.int (maxI bs)) st else .stuck) st
  | _ => .stuck
theorem foldl_max_mem : ∀ (ns : List Int) (n : Int), ns.foldl max n ∈ n :: ns ∧ ∀ y ∈ n :: ns, y ≤ ns.foldl max n
  | [], n => ⟨List.mem_cons_self .., fun y hy => by rw [List.mem_singleton] at hy; rw [hy]; exact Int.le_refl _⟩
  | m :: ns, n => by
    obtain ⟨h1, h2⟩ := foldl_max_mem ns (max n m)
    rw [List.foldl_cons]
    refine ⟨?_, fun y hy => ?_⟩
    · rcases List.mem_cons.mp h1 with z | z
      · rw [z]
        rcases Int.le_total n m with q | q
        · rw [Int.max_eq_right q]; simp
        · rw [Int.max_eq_left q]; simp
      · exact List.mem_cons_of_mem _ (List.mem_cons_of_mem _ z)
    · have h3 := h2 (max n m) (List.mem_cons_self ..)
      rcases List.mem_cons.mp hy with z | z
      · rw [z]; exact Int.le_trans (Int.le_max_left ..) h3
      · rcases List.mem_cons.mp z with z | z
        · rw [z]; exact Int.le_trans (Int.le_max_right ..) h3
        · exact h2 y (List.mem_cons_of_mem _ z)
theorem de_maxS (h : DE X W k E a d) (hg : Gl X "max") (hm : W.mg "max" = none) (hs : starEach [a] X.env = (false, eval a X.env) :: starEach [] X.env := by rfl) : DE X W k E (.Call (.Name "max" p) [a] [] pos) (fun ρ => bnd (d ρ) maxS) :=
  ⟨fun o => pe_imp (pe_callB (call_maxT o.hc (by have := o.room.un; omega)) hg (by rw [o.hM]; exact hm) boot_max_ (pa_cons (h.run o) pa_nil hs) (by decide) (by decide) hs (by rfl)) fun σ H Q t => by
    obtain ⟨ι, ρ, st, re, rs, g⟩ := t
    refine ⟨ι, ρ, st, re, rs, Good.imp (Good.bind g) fun q st1 ι1 H1 m1 r1 g1 v hv => ?_⟩
    cases hv <;> try exact g1.elim
    rename_i a vs l sq rr hz
    obtain ⟨bs, rfl, g2⟩ := ints_of r1 rr (Good.bind g1)
    obtain ⟨hc, g3⟩ := good_if g2
    cases bs with
    | nil => exact absurd hc (by decide)
    | cons n ns =>
      refine ⟨a, n, ns, rfl, by rw [o.hK]; exact sq, ?_⟩
      obtain ⟨h1, h2⟩ := foldl_max_mem ns n
      rw [maxI_spec h1 h2]
      exact g3.ok r1 _ (.int _)⟩
/-! ### the greater and the less of two data -/
theorem max_two_data {prog : Program} {w : World} {A : Around} {s : Shared} {E : Value → Shared → Prop} {x y : Value} {dx dy : PyData} {as bs : List Addr} {Q : Value → Shared → Prop} (hh : A.handled = none) (hx : Reads s.heap x dx as) (hy : Reads s.heap y dy bs) (ha : PySem.W.AlikeAll [dx, dy]) (hu : A.units + 2 + PyData.depthAll [dx, dy] < cLine)
    (h : ∀ h' tk, (∀ b o, s.heap.get? b = some o → h'.get? b = some o) → Q (if PySem.W.dataLt dx dy then y else x) { s with heap := h', toks := tk }) : wpAny (model prog w) A (call (.builtin "max") [x, y]) Q E s := by
  have hname : (toString "max" ++ toString ".loop" : String) = "max.loop" := by decide
  refine call_function_tree F.kind_max F.plain_max F.entry_max (F.args_max2 _ _) ?_
  show wpAny _ A.in1 (Builtin.Builtins.bindParams "max" ["key", "default"] 0 ⟨[], []⟩ >>= _) _ _ s
  refine wpAny_bind (wpAny_of_eq (show Builtin.Builtins.bindParams "max" ["key", "default"] 0 ⟨[], []⟩ = pure [none, none] from rfl) ?_)
  show wpAny _ A.in1 (newTuple [x, y] >>= _) _ _ s
  refine wpAny_bind (wpAny_newObj_type ?_)
  have hT : (s.heap.push { cls := .type "tuple", data := .seq #[x, y] }).IsTuple s.heap.objs.size #[x, y] := ⟨_, Heap.get?_push_size _ rfl, rfl, 0, rfl⟩
  have kp : ∀ b o, s.heap.get? b = some o → (s.heap.push { cls := .type "tuple", data := .seq #[x, y] }).get? b = some o := fun b o e => Heap.get?_push_of_some _ e
  have hr : ReadsAll (s.heap.push { cls := .type "tuple", data := .seq #[x, y] }) (#[x, y] : Array Value).toList [dx, dy] (as ++ (bs ++ [])) := .cons (Reads.keeps kp hx) (.cons (Reads.keeps kp hy) .nil)
  refine wpAny_bind (PySem.W.iter_tupleW (A := A.in1) (s := { s with heap := s.heap.push { cls := .type "tuple", data := .seq #[x, y] } }) hh hT fun s₂ e W st hfp hw hk => ?_)
  refine wpAny_bind (wpAny_newObj_type ?_)
  have hSf : s₂.heap.objs.size ∉ [(s.heap.push { cls := .type "tuple", data := .seq #[x, y] }).objs.size, s.heap.objs.size] := fun hm => Nat.lt_irrefl _ (hfp _ hm)
  rw [hname]
  have hcmp := PySem.W.cmpIn_gt (prog := prog) (w := w) (A := A.in1) (s := { s with heap := s.heap.push { cls := .type "tuple", data := .seq #[x, y] } }) hr ha (by show A.units + 1 + _ < _; omega)
  refine wpAny_pure ⟨plainId_quiet F.plain_max_loop _, codeAny_max_loop_firstH W (s.heap.push { cls := .type "tuple", data := .seq #[x, y] }) hw _ hcmp s₂.heap.objs.size hSf (fresh_in hk) _ (Nat.succ_pos 1) (fun b o e => Heap.get?_push_of_some _ (hk b o e)) (W.frame 0 s₂ _ s₂.toks st (Nat.le_refl _) fun b _ o e => Heap.get?_push_of_some _ e) (Heap.get?_push_size _ rfl) fun v s' hP hm => ?_⟩
  obtain ⟨h', tk, rfl, hk'⟩ := PySem.W.moved_old e rfl (Moved.drop_new (tk := s₂.toks) hm (Nat.le_refl _))
  have q := h h' tk fun b o z => hk' b o (kp b o z)
  have hP : (#[x, y] : Array Value)[argBest (fun i j => PySem.W.dataLt ([dx, dy].getD j .none) ([dx, dy].getD i .none)) 1]? = some v := hP
  unfold argBest at hP
  have e2 : PySem.W.dataLt ([dx, dy].getD (argBest (fun i j => PySem.W.dataLt ([dx, dy].getD j .none) ([dx, dy].getD i .none)) 0) .none) ([dx, dy].getD (0 + 1) .none) = PySem.W.dataLt dx dy := rfl
  simp only [e2] at hP
  cases z : PySem.W.dataLt dx dy with
  | true =>
    rw [z] at hP q
    have : v = y := by simpa using hP.symm
    subst this
    exact q
  | false =>
    rw [z] at hP q
    have : v = x := by simpa [argBest] using hP.symm
    subst this
    exact q
theorem min_two_data {prog : Program} {w : World} {A : Around} {s : Shared} {E : Value → Shared → Prop} {x y : Value} {dx dy : PyData} {as bs : List Addr} {Q : Value → Shared → Prop} (hh : A.handled = none) (hx : Reads s.heap x dx as) (hy : Reads s.heap y dy bs) (ha : PySem.W.AlikeAll [dx, dy]) (hu : A.units + 2 + PyData.depthAll [dx, dy] < cLine)
    (h : ∀ h' tk, (∀ b o, s.heap.get? b = some o → h'.get? b = some o) → Q (if PySem.W.dataLt dy dx then y else x) { s with heap := h', toks := tk }) : wpAny (model prog w) A (call (.builtin "min") [x, y]) Q E s := by
  have hname : (toString "min" ++ toString ".loop" : String) = "min.loop" := by decide
  refine call_function_tree F.kind_min F.plain_min F.entry_min (F.args_min2 _ _) ?_
  show wpAny _ A.in1 (Builtin.Builtins.bindParams "min" ["key", "default"] 0 ⟨[], []⟩ >>= _) _ _ s
  refine wpAny_bind (wpAny_of_eq (show Builtin.Builtins.bindParams "min" ["key", "default"] 0 ⟨[], []⟩ = pure [none, none] from rfl) ?_)
  show wpAny _ A.in1 (newTuple [x, y] >>= _) _ _ s
  refine wpAny_bind (wpAny_newObj_type ?_)
  have hT : (s.heap.push { cls := .type "tuple", data := .seq #[x, y] }).IsTuple s.heap.objs.size #[x, y] := ⟨_, Heap.get?_push_size _ rfl, rfl, 0, rfl⟩
  have kp : ∀ b o, s.heap.get? b = some o → (s.heap.push { cls := .type "tuple", data := .seq #[x, y] }).get? b = some o := fun b o e => Heap.get?_push_of_some _ e
  have hr : ReadsAll (s.heap.push { cls := .type "tuple", data := .seq #[x, y] }) (#[x, y] : Array Value).toList [dx, dy] (as ++ (bs ++ [])) := .cons (Reads.keeps kp hx) (.cons (Reads.keeps kp hy) .nil)
  refine wpAny_bind (PySem.W.iter_tupleW (A := A.in1) (s := { s with heap := s.heap.push { cls := .type "tuple", data := .seq #[x, y] } }) hh hT fun s₂ e W st hfp hw hk => ?_)
  refine wpAny_bind (wpAny_newObj_type ?_)
  have hSf : s₂.heap.objs.size ∉ [(s.heap.push { cls := .type "tuple", data := .seq #[x, y] }).objs.size, s.heap.objs.size] := fun hm => Nat.lt_irrefl _ (hfp _ hm)
  rw [hname]
  have hcmp := PySem.W.cmpIn_lt (prog := prog) (w := w) (A := A.in1) (s := { s with heap := s.heap.push { cls := .type "tuple", data := .seq #[x, y] } }) hr ha (by show A.units + 1 + _ < _; omega)
  refine wpAny_pure ⟨plainId_quiet F.plain_min_loop _, codeAny_min_loop_firstH W (s.heap.push { cls := .type "tuple", data := .seq #[x, y] }) hw _ hcmp s₂.heap.objs.size hSf (fresh_in hk) _ (Nat.succ_pos 1) (fun b o e => Heap.get?_push_of_some _ (hk b o e)) (W.frame 0 s₂ _ s₂.toks st (Nat.le_refl _) fun b _ o e => Heap.get?_push_of_some _ e) (Heap.get?_push_size _ rfl) fun v s' hP hm => ?_⟩
  obtain ⟨h', tk, rfl, hk'⟩ := PySem.W.moved_old e rfl (Moved.drop_new (tk := s₂.toks) hm (Nat.le_refl _))
  have q := h h' tk fun b o z => hk' b o (kp b o z)
  have hP : (#[x, y] : Array Value)[argBest (fun i j => PySem.W.dataLt ([dx, dy].getD i .none) ([dx, dy].getD j .none)) 1]? = some v := hP
  unfold argBest at hP
  have e2 : PySem.W.dataLt ([dx, dy].getD (0 + 1) .none) ([dx, dy].getD (argBest (fun i j => PySem.W.dataLt ([dx, dy].getD i .none) ([dx, dy].getD j .none)) 0) .none) = PySem.W.dataLt dy dx := rfl
  simp only [e2] at hP
  cases z : PySem.W.dataLt dy dx with
  | true =>
    rw [z] at hP q
    have : v = y := by simpa using hP.symm
    subst this
    exact q
  | false =>
    rw [z] at hP q
    have : v = x := by simpa [argBest] using hP.symm
    subst this
    exact q
def nnon : PV → Bool
  | .non => false
  | _ => true
/-- alike data, both for themselves and together -/
def alk (p q : PV) : Bool := okd 60 p && okd 60 q && PySem.W.alike (toD p) (toD p) && PySem.W.alike (toD p) (toD q) && PySem.W.alike (toD q) (toD p) && PySem.W.alike (toD q) (toD q) && nnon p && nnon q
def pvLt (p q : PV) : Bool := PySem.W.dataLt (toD p) (toD q)
theorem toD_none {p : PV} (h : okd 60 p = true) (hn : nnon p = true) : toD p ≠ .none := by
  cases p with
  | non => cases hn
  | loc i => rw [okd_loc] at h; cases h
  | fn j => rw [okd_fn] at h; cases h
  | kl l => rw [okd_kl] at h; cases h
  | bl b => exact fun z => (by cases z)
  | int i => exact fun z => (by cases z)
  | str i => exact fun z => (by cases z)
  | tup l => exact fun z => (by cases z)
theorem alk_all {p q : PV} (h : alk p q = true) : okd 60 p = true ∧ okd 60 q = true ∧ PySem.W.AlikeAll [toD p, toD q] ∧ PyData.depthAll [toD p, toD q] ≤ 60 := by
  unfold alk at h
  simp only [Bool.and_eq_true] at h
  obtain ⟨⟨⟨⟨⟨⟨⟨h1, h2⟩, h3⟩, h4⟩, h5⟩, h6⟩, h7⟩, h8⟩ := h
  have d1 := (okd_plain 60 p h1).2
  have d2 := (okd_plain 60 q h2).2
  refine ⟨h1, h2, ⟨fun x hx y hy => ?_, fun x hx => ?_⟩, by simp only [PyData.depthAll]; omega⟩
  · simp only [List.mem_cons, List.not_mem_nil, or_false] at hx hy
    rcases hx with rfl | rfl <;> rcases hy with rfl | rfl <;> assumption
  · simp only [List.mem_cons, List.not_mem_nil, or_false] at hx
    rcases hx with rfl | rfl
    · exact toD_none h1 h7
    · exact toD_none h2 h8
def oMaxD (p q : PV) : Mo PV := fun st => if alk p q = true then .ok (if pvLt p q then q else p) st else .stuck
def oMinD (p q : PV) : Mo PV := fun st => if alk p q = true then .ok (if pvLt q p then q else p) st else .stuck
def rMM (K : PySem.W.Frag) (mx : Bool) : List V → Hp → VK → Prop := fun vs H Q => ∃ x y dx dy, vs = [x, y] ∧ Dp K H x dx ∧ Dp K H y dy ∧ PySem.W.AlikeAll [dx, dy] ∧ PyData.depthAll [dx, dy] ≤ 60 ∧ Q (if (if mx then PySem.W.dataLt dx dy else PySem.W.dataLt dy dx) then y else x) H
theorem call_max2D {X : Cx} (hc : X.calm = true) (hu : X.A.units + 64 < cLine) : CallR X (.builtin "max") (rMM X.K true) := by
  intro pins s σ H xs us Q I r h
  obtain ⟨x, y, dx, dy, rfl, h1, h2, ha, hd, q⟩ := h
  obtain ⟨u, w', rfl, r1, r2⟩ := vals2 r
  obtain ⟨as, d1⟩ := Dp.reads I dx x u h1 r1
  obtain ⟨bs, d2⟩ := Dp.reads I dy y w' h2 r2
  refine max_two_data (I.ok.hd hc) d1 d2 ha (by omega) fun h' tk k => ⟨_, H, I.kept k, ?_, q⟩
  rw [if_pos (rfl : (true = true))]
  cases PySem.W.dataLt dx dy with
  | true => exact r2
  | false => exact r1
theorem call_min2D {X : Cx} (hc : X.calm = true) (hu : X.A.units + 64 < cLine) : CallR X (.builtin "min") (rMM X.K false) := by
  intro pins s σ H xs us Q I r h
  obtain ⟨x, y, dx, dy, rfl, h1, h2, ha, hd, q⟩ := h
  obtain ⟨u, w', rfl, r1, r2⟩ := vals2 r
  obtain ⟨as, d1⟩ := Dp.reads I dx x u h1 r1
  obtain ⟨bs, d2⟩ := Dp.reads I dy y w' h2 r2
  refine min_two_data (I.ok.hd hc) d1 d2 ha (by omega) fun h' tk k => ⟨_, H, I.kept k, ?_, q⟩
  rw [if_neg (Bool.false_ne_true)]
  cases PySem.W.dataLt dy dx with
  | true => exact r2
  | false => exact r1
theorem mm_of {mx : Bool} {σ : L2.St} {H : Hp} {Q : VK} (t : tD W E (dBin (if mx then oMaxD else oMinD) da db) σ H Q) : tCB (rMM W.K mx) (tCons (tD W E da) (tCons (tD W E db) tNil)) σ H Q := by
  obtain ⟨ι, ρ, st, re, rs, g⟩ := t
  refine ⟨ι, ρ, st, re, rs, Good.imp (Good.bind g) fun p st1 ι1 H1 m1 r1 g1 v1 hv1 => ?_⟩
  refine ⟨ι1, ρ, st1, re.mono rs m1, r1, Good.imp (Good.bind g1) fun q st2 ι2 H2 m2 r2 g2 v2 hv2 => ?_⟩
  have hv1 := rv_mono r1 m2 p v1 hv1
  cases mx with
  | true =>
    obtain ⟨hc, g3⟩ := good_if g2
    obtain ⟨k1, k2, k3, k4⟩ := alk_all hc
    refine ⟨v1, v2, toD p, toD q, rfl, dp_of 60 p v1 k1 hv1, dp_of 60 q v2 k2 hv2, k3, k4, g3.ok r2 _ ?_⟩
    show RV W ι2 H2 (if pvLt p q = true then v2 else v1) _
    cases pvLt p q with
    | true => exact hv2
    | false => exact hv1
  | false =>
    obtain ⟨hc, g3⟩ := good_if g2
    obtain ⟨k1, k2, k3, k4⟩ := alk_all hc
    refine ⟨v1, v2, toD p, toD q, rfl, dp_of 60 p v1 k1 hv1, dp_of 60 q v2 k2 hv2, k3, k4, g3.ok r2 _ ?_⟩
    show RV W ι2 H2 (if pvLt q p = true then v2 else v1) _
    cases pvLt q p with
    | true => exact hv2
    | false => exact hv1
theorem de_max2D (ha : DE X W k E a da) (hb : DE X W k E b db) (hg : Gl X "max") (hm : W.mg "max" = none) (hs : starEach [a, b] X.env = (false, eval a X.env) :: starEach [b] X.env := by rfl) (hs2 : starEach [b] X.env = (false, eval b X.env) :: starEach [] X.env := by rfl) (hpl : (backTo pos (starEach [b] X.env)).any (·.1) = false := by rfl) :
    DE X W k E (.Call (.Name "max" p) [a, b] [] pos) (dBin oMaxD da db) :=
  ⟨fun o => pe_imp (pe_callB (call_max2D o.hc (by have := o.room.un; omega)) hg (by rw [o.hM]; exact hm) boot_max_ (pa_cons (ha.run o) (pa_cons (hb.run o) pa_nil hs2) hs) (by decide) (by decide) hs hpl) fun σ H Q t => by
    rw [o.hK]
    exact mm_of (mx := true) t⟩
theorem de_min2D (ha : DE X W k E a da) (hb : DE X W k E b db) (hg : Gl X "min") (hm : W.mg "min" = none) (hs : starEach [a, b] X.env = (false, eval a X.env) :: starEach [b] X.env := by rfl) (hs2 : starEach [b] X.env = (false, eval b X.env) :: starEach [] X.env := by rfl) (hpl : (backTo pos (starEach [b] X.env)).any (·.1) = false := by rfl) :
    DE X W k E (.Call (.Name "min" p) [a, b] [] pos) (dBin oMinD da db) :=
  ⟨fun o => pe_imp (pe_callB (call_min2D o.hc (by have := o.room.un; omega)) hg (by rw [o.hM]; exact hm) boot_min_ (pa_cons (ha.run o) (pa_cons (hb.run o) pa_nil hs2) hs) (by decide) (by decide) hs hpl) fun σ H Q t => by
    rw [o.hK]
    exact mm_of (mx := false) t⟩
end
end PD
/-! PD: sorted(range(n), key=lambda i: t[i]). -/
namespace PD
open PySem PySem.Spec PyProof.Rows L2
section
variable {prog : Program} {w : World} {A : Around} {s : Shared} {E : Value → Shared → Prop}
theorem each_range : ∀ (l : List Value) (n0 : Nat), (∀ (i : Nat) v, l[i]? = some v → ∃ t, v = Value.int ((n0 + i : Nat) : Int) t) → PySem.W.EachIs (fun v (i : Nat) => ∃ t, v = Value.int i t) l (List.range' n0 l.length)
  | [], _, _ => .nil
  | v :: l, n0, h => by
    rw [List.length_cons, List.range'_succ]
    refine .cons (h 0 v rfl) (each_range l (n0 + 1) fun i u hu => ?_)
    obtain ⟨t, e⟩ := h (i + 1) u hu
    exact ⟨t, by rw [e]; congr 2; omega⟩
/-- sorted(range(j), key=f) -/
theorem sorted_range {r f : Addr} {j : Nat} {t u v : Tok} {Q : Value → Shared → Prop} (hh : A.handled = none) (hr : IsRange s.heap r 0 (j : Int) 1 t u v) (hj : j ≤ 16777216) (k : Nat → PyData) (hal : PySem.W.AllAlike ((List.range j).map k)) (hk : PySem.W.Sortable ((List.range j).map k))
    (hu : ∀ x, x ∈ List.range j → A.units + 2 + (k x).depth < cLine)
    (turn : ∀ (i : Nat) (tk0 : Tok), i < j → ∀ (h : Heap) (tk : Nat), (∀ b o, s.heap.get? b = some o → h.get? b = some o) →
      wpAny (model prog w) A.in1.in1 (call (.ref f) [.int i tk0]) (PySem.W.KeyPure (k i) { s with heap := h, toks := tk }) (fun _ _ => False) { s with heap := h, toks := tk })
    (h : ∀ (h1 : Heap) out c h' tk, (∀ b o, s.heap.get? b = some o → h1.get? b = some o) → (∀ b o, h1.get? b = some o → h'.get? b = some o) → h'.get? h1.objs.size = some (seqObj "list" (List.toArray out) c) → out.length = j → PySem.W.EachIs (fun v (i : Nat) => ∃ t, v = Value.int i t) out ((List.range j).mergeSort (PySem.W.dataLe false k)) →
      Q (.ref h1.objs.size) { s with heap := h', toks := tk }) :
    wpAny (model prog w) A (call (.builtin "sorted") [.ref r] [(Str.ofString "key", .ref f)]) Q E s := by
  refine call_function_entry_kw kind_sorted plain_sorted entry_sorted (PyProof.Rows.ksk_s1 _ _) ?_
  unfold Builtin.«sorted»
  refine wpAny_bind (m := checkCount "sorted" 1 1 _) (wpAny_pure ?_)
  refine wpAny_bind (collect_range (n := j) hh hr (small_one (by decide) (by decide) (by omega) (by omega)) (by rw [rangeSize_one]; split <;> omega) (by omega) fun h1 tk1 acc hk1 hacc => ?_)
  have hlen : acc.toList.length = j := by rw [Array.length_toList]; exact hacc.1
  refine wpAny_bind (wpAny_newList ?_ (by rw [hlen, sizeLine_eq]; exact hj))
  have hat : (h1.push { cls := .type "list", data := .seq acc.toList.toArray }).get? h1.objs.size = some (seqObj "list" acc.toList.toArray 0) := Heap.get?_push_size _ rfl
  refine wpAny_bind (wpAny_holding (wpAny_call_entry_kw slot_list_sort ⟨_, hat, rfl⟩ entry_list_sort ?body (PyProof.Rows.ksk_l1 _ _)))
  case body =>
    show wpAny (model prog w) A.in1.in1 (Builtin.«list.sort» ⟨[.ref h1.objs.size], [(Str.ofString "key", .ref f)]⟩) _ _ _
    rw [PyProof.Rows.ksk_t1]
    have hnew : s.heap.get? h1.objs.size = none := by
      cases e : s.heap.get? h1.objs.size with
      | none => rfl
      | some o => exact absurd (Heap.lt_size (hk1 _ _ e)) (Nat.lt_irrefl _)
    have eR : PySem.W.EachIs (fun v (i : Nat) => ∃ t, v = Value.int i t) acc.toList (List.range j) := by
      have e := each_range acc.toList 0 fun i v hv => by
        obtain ⟨t, e⟩ := hacc.2 i v (by rw [← hv, Array.getElem?_toList])
        exact ⟨t, by rw [e]; congr 1; omega⟩
      rw [hlen, ← List.range_eq_range'] at e
      exact e
    have up : ∀ {g : Heap}, PySem.W.KeepsBut h1.objs.size (h1.push { cls := .type "list", data := .seq acc.toList.toArray }) g → ∀ b o, s.heap.get? b = some o → g.get? b = some o := fun {g} kp b o q =>
      kp b o (fun z => by rw [z, hnew] at q; cases q) (Heap.get?_push_of_some _ (hk1 b o q))
    refine PySem.W.keyH_tree (kz := (List.range j).map k) (s := { s with heap := h1.push { cls := .type "list", data := .seq acc.toList.toArray }, toks := tk1 }) hat (by rw [List.length_map, List.length_range]; exact hlen.symm) (by rw [hlen, sizeLine_eq]; exact hj) hal hk (PySem.W.bound_map (A := A.in1.in1) hu)
      (PySem.W.keyH_turns eR fun v x hR hx hp tk kp => ?_) fun h' tk out c kp hD ko => ?_
    · obtain ⟨t0, rfl⟩ := hR
      exact turn x t0 (List.mem_range.mp hx) hp tk (up kp)
    · refine ⟨_, rfl, wpAny_pure ⟨_, rfl, ?_⟩⟩
      exact h h1 out c h' tk hk1 (fun b o q => kp b o (Nat.ne_of_lt (Heap.lt_size q)) (Heap.get?_push_of_some _ q)) hD ((ko.length (by rw [List.length_map, List.length_range]; exact hlen.symm)).trans hlen) (PySem.W.keyedOut_each k ko eR)
/-- the key: t[i], t a captured name -/
theorem lam_turn {f c cc tp : Addr} {qual T x : Str} {params : Arguments} {scope : Scope} {clos : List (Str × Addr)} {pm ctv u : Value} {its : List Value} {i : Nat} {tk0 : Tok} {pT px pos : Pos} {d : PyData} (hroom : A.depth < recursionLimit) (hl : s.heap.NoLimit)
    (hf : s.heap.get? f = some { cls := .type "function", data := .func (PySem.W.kla_fn "<lambda>" qual params (.Subscript (.Name T pT) (.Name x px) pos) scope clos pm (.ref cc) ctv) }) (hcd : s.heap.CodeRec (.ref cc) qual)
    (hbind : bindArgs (PySem.W.kla_fn "<lambda>" qual params (.Subscript (.Name T pT) (.Name x px) pos) scope clos pm (.ref cc) ctv) ⟨[.int i tk0], []⟩ = pure [(x, .int i tk0)])
    (hk : scope.kind = .function) (hco : scope.isCoroutine = false) (hgen : scope.isGenerator = false) (hcell : ∀ y ∈ scope.names, y.2 ≠ .cell) (hx : scope.names.lookup x = some .local) (hT : scope.names.lookup T = some .free)
    (hcl : clos.lookup T = some c) (hc : s.heap.IsCell c (some (.ref tp))) (ht : s.heap.IsTuple tp its.toArray) (hi : its[i]? = some u) (hi2 : i < 4611686018427387904) (hz : its.length ≤ 16777216) (hd : Reads s.heap u d [])
    (dT : (T == ("__debug__" : Str)) = false) (dT2 : (T == ("__classdict__" : Str)) = false) (dx : (x == ("__debug__" : Str)) = false) :
    wpAny (model prog w) A (call (.ref f) [.int i tk0]) (PySem.W.KeyPure d s) (fun _ _ => False) s := by
  refine wpAny_call (PySem.W.kla_callFunE hroom hf rfl hco hgen rfl hcd ?_)
  rw [hbind]
  refine wpAny_pure (wpAny_newFunctionEnv hcell (fun y hy => by
    have e : y = (x, .int i tk0) := by simpa using hy
    subst e; exact hx) (fun h1 hns hsb => ⟨hl.fresh _ hsb, ?_⟩) hk)
  have hk1 : ∀ b o, s.heap.get? b = some o → h1.get? b = some o := fun b o e => hsb.extBut b o (Nat.ne_of_lt (Heap.lt_size e)) (Heap.get?_push_of_some _ e)
  refine PySem.W.kla_codeExpr ?_
  have ht1 : h1.IsTuple tp its.toArray := let ⟨o, e, r⟩ := ht; ⟨o, hk1 _ _ e, r⟩
  have hc1 := hc.keeps hk1
  have hpl : ∀ o i : Value, subscripted (.Name x px) false o i = operate [o, i] (getItem o i) := fun _ _ => by with_unfolding_all rfl
  have hsq : seqIndex? (i : Int) its.toArray.size = some i := by
    rw [List.size_toArray]
    exact seqIndex_of (by omega) (by have := (List.getElem?_eq_some_iff.mp hi).1; omega)
  have hlk : List.lookup x [(x, Value.int (i : Int) tk0)].reverse = some (Value.int (i : Int) tk0) := by simp
  refine Subscript_ ?_
  refine wpAny_Name (wpAny_loadName_free hk hT hcl hc1 ?_ dT2) dT
  refine wpAny_Name (wpAny_loadName_local hk hx hns hlk ?_) dx
  refine subscriptTail_builtinR (x := u) ht1.typeIs slot_tuple_getitem.lookup ?_ (hpl _ _)
  refine PyProof.Rows.getItem_tuple (j := i) ht1 (by omega) (by omega) hsq (by simpa using hi) ⟨rfl, ?_⟩
  exact ⟨h1, _, rfl, hk1, PyProof.Rows.Reads.keeps hk1 hd⟩
end
/-! ### plain data is read without lists -/
mutual
theorem reads_nil {h : Heap} : ∀ (n : Nat) (p : PV) (u : Value) (as : List Addr), okd n p = true → Reads h u (toD p) as → as = []
  | n, .non, u, as, _, r => by rw [toD] at r; cases r; rfl
  | n, .bl b, u, as, _, r => by rw [toD] at r; cases r; rfl
  | n, .int b, u, as, _, r => by rw [toD] at r; cases r; rfl
  | n, .str b, u, as, _, r => by rw [toD] at r; cases r; rfl
  | 0, .tup l, u, as, z, r => by simp [okd] at z
  | n + 1, .tup l, u, as, z, r => by
    rw [toD] at r
    cases r with
    | tuple h1 h2 h3 h4 => exact readsAll_nil n l _ _ (by simpa [okd] using z) h4
  | n, .loc _, u, as, z, r => by rw [okd_loc] at z; cases z
  | n, .fn _, u, as, z, r => by rw [okd_fn] at z; cases z
  | n, .kl _, u, as, z, r => by rw [okd_kl] at z; cases z
theorem readsAll_nil {h : Heap} : ∀ (n : Nat) (l : List PV) (us : List Value) (as : List Addr), okds n l = true → ReadsAll h us (toDs l) as → as = []
  | n, [], us, as, _, r => by rw [toDs] at r; cases r; rfl
  | n, p :: l, us, as, z, r => by
    rw [toDs] at r
    simp only [okds, Bool.and_eq_true] at z
    cases r with
    | cons r1 r2 => rw [reads_nil n p _ _ z.1 r1, readsAll_nil n l _ _ z.2 r2]; rfl
end
/-- the tables after a lambda has been made -/
def LamNew (P : Addr) (q : Str) (H H2 : Hp) : Prop := LamX.TabS H2 P q ∧ (H2 = H ∨ ∃ ps more c, H P = some (.tbl ps) ∧ H c = none ∧ H2 = upd (upd H P (.tbl (ps ++ more))) c (LamX.CodeO c q))
section
variable {X : Cx} {pins : List (Addr × Obj)} {σ : L2.St} {H : Hp} {s : Shared}
/-- a lambda made -/
theorem eval_lam {c P : Addr} {params : Arguments} {body : Expr} {scope : Scope} {lpos : Pos} {Q : Value → Shared → Prop} {E : Value → Shared → Prop} (I : Inv X pins σ H s) (TB : GxR.TabB X.base X.mg c P) (hcode : X.env.code = .ref c) (ht : LamX.TabS H P (X.env.qual ++ "<lambda>"))
    (hfree : ∀ y ∈ scope.names, y.2 = .free → ∃ c, X.env.cells.lookup y.1 = some c) (hdef : defaultsOf params X.env = ([], []))
    (h : ∀ (f cc : Addr) (ctv : Value) (H2 : Hp) (s2 : Shared), Inv X pins σ H2 s2 → LamNew P (X.env.qual ++ "<lambda>") H H2 → (∀ b o, b ≠ P → s.heap.get? b = some o → s2.heap.get? b = some o) → s2.heap.CodeRec (.ref cc) (X.env.qual ++ "<lambda>") →
      s2.heap.get? f = some { cls := .type "function", data := .func (PySem.W.kla_fn "<lambda>" (X.env.qual ++ "<lambda>") params body scope (cloFrom X.env.cells scope.names []) ((X.mg "__name__").getD .none) (.ref cc) ctv) } → Q (.ref f) s2) :
    wpAny (model X.prog X.w) X.A (eval (.Lambda params body scope lpos) X.env) Q E s := by
  obtain ⟨ps, hP, hto, hco⟩ := ht
  have hPs : s.heap.get? P = some (PySem.W.tabObj ps) := I.hok P _ hP
  have cd : PySem.W.CodeHd s.heap c P := TB.code.keeps fun b u e => I.bk b u e
  obtain ⟨bm, ob, e1, e2, e3, e4, e5, e6, e7, e8⟩ := TB.bm
  have hb : s.heap.BuiltinsAt X.mg P := ⟨bm, ob, e1, e2, e3, e4, I.bk _ _ e5, e6, e7, e8⟩
  have hg : s.heap.Ns mainGlobals X.mg := I.mod.glob.keeps I.bk
  refine PySem.W.kla_eval hdef ?_
  cases hf : codeAmong lpos ps.toList with
  | none =>
    refine PySem.W.kla_makeFunction (closure_ok hfree) I.ok.glob hg hcode cd hPs hto hf TB.gP hb fun c' ctv h' tk hx hge hlt hrec htab => ?_
    obtain ⟨c2, oc, vs, t, ec, ho, hd, hv⟩ := hrec
    cases ec
    have I1 := LamX.inv_table (q := X.env.qual ++ "<lambda>") (t' := tk) I hP (fun b o hb e => hx b o hb e) htab hge ⟨oc, vs, t, ho, hd, hv⟩
    have I2 : Inv X pins σ _ { s with heap := h'.push (PySem.W.kla_obj "<lambda>" (X.env.qual ++ "<lambda>") params body scope (cloFrom X.env.cells scope.names []) ((X.mg "__name__").getD .none) c' ctv), toks := tk } := I1.kept (t' := tk) fun b o e => Heap.get?_push_of_some _ e
    have hc0 : H c' = none := I.hok.fresh hge
    have hcP : P ≠ c' := ne_of_none hP hc0
    refine h _ c' ctv _ _ I2 ⟨⟨_, by rw [upd_ne hcP]; exact upd_same, ?_, fun pos cv hcv => ?_⟩, .inr ⟨ps, _, c', hP, hc0, rfl⟩⟩ (fun b o hb e => Heap.get?_push_of_some _ (hx b o hb e)) ⟨c', oc, vs, t, rfl, Heap.get?_push_of_some _ ho, hd, hv⟩ (Heap.get?_push_size _ rfl)
    · have e : (ps ++ #[rawInt lpos.line, rawInt lpos.col, Value.ref c']).toList = ps.toList ++ [rawInt lpos.line, rawInt lpos.col, .ref c'] := by simp
      rw [e]
      exact TriplesOk_snoc _ _ _ _ hto
    · have e : (ps ++ #[rawInt lpos.line, rawInt lpos.col, Value.ref c']).toList = ps.toList ++ [rawInt lpos.line, rawInt lpos.col, .ref c'] := by simp
      rw [e] at hcv
      rcases LamX.among_app _ hto hcv with z | z
      · obtain ⟨c3, q1, q2⟩ := hco pos cv z
        refine ⟨c3, q1, ?_⟩
        rw [upd_ne (fun y => by rw [y, hc0] at q2; cases q2), upd_ne (fun y => by rw [y, hP] at q2; cases q2)]
        exact q2
      · exact ⟨c', z, upd_same⟩
  | some cv =>
    obtain ⟨c', rfl, hcc⟩ := hco _ _ hf
    refine PySem.W.kla_makeFunctionHit (closure_ok hfree) I.ok.glob hg hcode cd hPs hto hf hb fun ctv h' tk hk hsz => ?_
    obtain ⟨⟨oc, vs, t, ho, hd, hv⟩, _⟩ := I.hok c' _ hcc
    have kk : ∀ b o, s.heap.get? b = some o → (h'.push { cls := .type "function", data := .func (PySem.W.kla_fn "<lambda>" (X.env.qual ++ "<lambda>") params body scope (cloFrom X.env.cells scope.names []) ((X.mg "__name__").getD .none) (.ref c') ctv) }).get? b = some o := fun b o e => Heap.get?_push_of_some _ (hk b o e)
    exact h _ c' ctv H _ (I.kept (t' := tk) kk) ⟨⟨ps, hP, hto, hco⟩, .inl rfl⟩ (fun b o _ e => kk b o e) ⟨c', oc, vs, t, rfl, kk _ _ ho, hd, hv⟩ (Heap.get?_push_size _ rfl)
def sortIx (l : List PV) : List Nat := (List.range l.length).mergeSort (PySem.W.dataLe false fun i => (toDs l).getD i .none)
theorem toDs_length : ∀ l : List PV, (toDs l).length = l.length
  | [] => by rw [toDs]; rfl
  | p :: l => by rw [toDs, List.length_cons, List.length_cons, toDs_length l]
theorem map_getD {α : Type} (d : α) : ∀ l : List α, (List.range l.length).map (fun i => l.getD i d) = l := fun l => by
  apply List.ext_getElem?
  intro i
  rw [List.getElem?_map]
  by_cases h : i < l.length
  · rw [List.getElem?_range h]
    simp [List.getD, List.getElem?_eq_getElem h]
  · rw [List.getElem?_eq_none (by simpa using h), List.getElem?_eq_none (by omega)]
    rfl
theorem dps_get {K : PySem.W.Frag} {H : Hp} : ∀ {vs : List V} {ds : List PyData} {i : Nat} {v : V}, DpAll K H vs ds → vs[i]? = some v → Dp K H v (ds.getD i .none)
  | _, _, _, _, .nil, e => by simp at e
  | _, _, 0, _, .cons h _, e => by
    simp at e
    subst e
    simpa using h
  | _, _, i + 1, _, .cons _ r, e => by
    have := dps_get (i := i) r (by simpa using e)
    simpa using this
theorem okds_get {n : Nat} : ∀ {l : List PV} {i : Nat} {p : PV}, okds n l = true → l[i]? = some p → okd n p = true
  | [], _, _, _, e => by simp at e
  | q :: l, 0, p, h, e => by
    simp at e
    subst e
    simp only [okds, Bool.and_eq_true] at h
    exact h.1
  | q :: l, i + 1, p, h, e => by
    simp only [okds, Bool.and_eq_true] at h
    exact okds_get (i := i) h.2 (by simpa using e)
theorem toDs_get : ∀ {l : List PV} {i : Nat} {p : PV}, l[i]? = some p → (toDs l).getD i .none = toD p
  | [], _, _, e => by simp at e
  | q :: l, 0, p, e => by
    simp at e
    subst e
    rw [toDs]
    rfl
  | q :: l, i + 1, p, e => by
    rw [toDs]
    have := toDs_get (i := i) (p := p) (l := l) (by simpa using e)
    simpa using this
def kSortL (K : PySem.W.Frag) (P : Addr) (q : Str) (i : Nat) (σ : L2.St) (Q : VK) : Int → Int → Hp → Prop := fun a' b' H1 => a' = 0 ∧ ∃ (j : Nat) (tp : Addr) (vs : List V) (l : List PV), b' = (j : Int) ∧ j ≤ 16777216 ∧ σ[i]? = some (some (.ref tp)) ∧ okds 50 l = true ∧ l.length = j ∧ PySem.W.AllAlike (toDs l) ∧ PySem.W.Sortable (toDs l) ∧ LamX.TabS H1 P q ∧
  ∀ H2, LamNew P q H1 H2 → SqT K H2 tp vs ∧ DpAll K H2 vs (toDs l) ∧ vs.length = j ∧ ∀ nl, H2 nl = none → Q (.ref nl) (upd H2 nl (.lst ((sortIx l).map fun i : Nat => V.int i)))
def tSortL (K : PySem.W.Frag) (P : Addr) (q : Str) (i : Nat) (ta : TE) : TE := fun σ H Q => tRg1 ta σ H (kSortL K P q i σ Q)
/-- sorted(range(a), key=lambda x: T[x]) -/
theorem pe_sortLam {c P : Addr} {i : Nat} {T x : Str} {a : Expr} {params : Arguments} {scope : Scope} {p p1 p2 pos kp lpos pT px psub : Pos} {ta : TE} (hr : Room 2 X.A) (hc : X.calm = true) (hgs : Gl X "sorted") (hms : X.mg "sorted" = none) (hgr : Gl X "range") (hmr : X.mg "range" = none) (ha : PE X a ta)
    (TB : GxR.TabB X.base X.mg c P) (hcode : X.env.code = .ref c) (hN : X.N[i]? = some T) (hT : X.env.scope.names.lookup T = some .cell) (hsT : scope.names.lookup T = some .free) (hsx : scope.names.lookup x = some .local)
    (hsc : ∀ y ∈ scope.names, y.2 ≠ .cell) (hsf : ∀ y ∈ scope.names, y.2 = .free → y.1 = T) (hk : scope.kind = .function) (hco : scope.isCoroutine = false) (hgen : scope.isGenerator = false) (hdef : defaultsOf params X.env = ([], []))
    (hbind : ∀ (u : Value) (cl : List (Str × Addr)) (pm cdv ctv : Value), bindArgs (PySem.W.kla_fn "<lambda>" (X.env.qual ++ "<lambda>") params (.Subscript (.Name T pT) (.Name x px) psub) scope cl pm cdv ctv) ⟨[u], []⟩ = pure [(x, u)])
    (dT : (T == ("__debug__" : Str)) = false) (dT2 : (T == ("__classdict__" : Str)) = false) (dx : (x == ("__debug__" : Str)) = false)
    (hs : starEach [a] X.env = (false, eval a X.env) :: starEach [] X.env)
    (he : backTo pos (starEach [.Call (.Name "range" p1) [a] [] p2] X.env) = (false, eval (.Call (.Name "range" p1) [a] [] p2) X.env) :: backTo pos (starEach [] X.env)) :
    PE X (.Call (.Name "sorted" p) [.Call (.Name "range" p1) [a] [] p2] [⟨some "key", .Lambda params (.Subscript (.Name T pT) (.Name x px) psub) scope lpos, kp⟩] pos) (tSortL X.K P (X.env.qual ++ "<lambda>") i ta) := by
  refine ⟨fun pins s σ H Q I h => ?_⟩
  refine wpAny_Call_Name_kw (ld_blt I hgs hms boot_sorted ?_)
  refine PyProof.Rows.callWith_kw ?_ he (by rfl) (by rfl) (by rfl)
  rw [he]
  refine Calls.spliced_cons (thn (prg_1 (ta := ta) hgr hmr ha hs pins s σ H _ I h) fun xv s1 h1 => ?_)
  · obtain ⟨r, a', b', t, u, v, H1, rfl, hrg, I1, rfl, j, tp, vs, l, rfl, hj, hσ, hok, hlen, hal, hso, htab, hrest⟩ := h1
    refine Calls.spliced_nil ?_
    show wpAny _ _ (evalAll ((do let v ← eval (.Lambda params (.Subscript (.Name T pT) (.Name x px) psub) scope lpos) X.env; standAt pos; pure v) :: [])) _ _ s1
    have hcT : ∃ c, X.env.cells.lookup T = some c := I1.ok.has T (.inl hT)
    have hfree : ∀ y ∈ scope.names, y.2 = .free → ∃ c, X.env.cells.lookup y.1 = some c := fun y hy e => by rw [hsf y hy e]; exact hcT
    refine wpAny_evalAll_cons (wpAny_bind (eval_lam I1 TB hcode htab hfree hdef fun f cc ctv H2 s2 I2 hnew hk2 hrec hfo => wpAny_bind (wpAny_standAt (wpAny_pure (wpAny_evalAll_nil ?_)))))
    show wpAny _ _ (call (.builtin "sorted") [.ref r] [(Str.ofString "key", .ref f)]) _ _ s2
    obtain ⟨hsq, hdp, hvl, hQ⟩ := hrest H2 hnew
    obtain ⟨its, rvs, pl, hz⟩ := I2.tuple hsq
    have hlv := rvs.length
    -- the captured cell
    obtain ⟨m, hn, hloc⟩ := I2.loc
    obtain ⟨uu, ruu, hlook⟩ := hloc i T _ hN hσ (.inr (.inl hT))
    cases ruu
    obtain ⟨cT, hcTl, hcell⟩ : ∃ cT, X.env.cells.lookup T = some cT ∧ s2.heap.IsCell cT (some (.ref tp)) := by
      rcases hlook with ⟨k1, _⟩ | ⟨_, c2, e2, z⟩
      · have k1 : X.env.scope.names.lookup T = some .local := k1
        rw [hT] at k1; cases k1
      · exact ⟨c2, e2, z⟩
    have hcl : (cloFrom X.env.cells scope.names []).lookup T = some cT := by
      have hy : (T, NameKind.free) ∈ scope.names := PySem.mem_of_lookup hsT
      obtain ⟨c', e'⟩ := mem_lookup (cloFrom_has (cells := X.env.cells) (acc := []) hy)
      rcases cloFrom_mem (PySem.mem_of_lookup e') with hm | ⟨_, rfl⟩
      · cases hm
      · rw [e', hcTl]; rfl
    have hrP : r ≠ P := fun z => by
      obtain ⟨ps, hP, _⟩ := htab
      have e := I1.hok P _ hP
      have e2 : s1.heap.get? P = some { cls := .none, data := .fields ps } := e
      have hrg2 : s1.heap.get? r = _ := hrg
      rw [z, e2] at hrg2
      cases hrg2
    have hrg2 : IsRange s2.heap r 0 (j : Int) 1 t u v := hk2 r _ hrP hrg
    have hkeys : (List.range j).map (fun i => (toDs l).getD i .none) = toDs l := by
      have e := map_getD PyData.none (toDs l)
      rw [toDs_length, hlen] at e
      exact e
    refine sorted_range (I2.ok.hd hc) hrg2 hj (fun i => (toDs l).getD i .none) (by rw [hkeys]; exact hal) (by rw [hkeys]; exact hso) (fun x hx => ?_) (fun i0 tk0 hi0 hh tk kp => ?_) fun h1 out c0 h' tk k1 k2 hD hol eo => ?_
    · have h9 : (toDs l).getD x .none ∈ toDs l := by
        have hx' : x < (toDs l).length := by rw [toDs_length, hlen]; exact List.mem_range.mp hx
        rw [List.getD_eq_getElem?_getD, List.getElem?_eq_getElem hx']
        exact List.getElem_mem hx'
      have d1 := (okds_plain 50 l hok).2
      have d2 : ∀ (ds : List PyData) (d : PyData), d ∈ ds → d.depth ≤ PyData.depthAll ds := by
        intro ds
        induction ds with
        | nil => intro d hd; cases hd
        | cons d0 ds ih =>
          intro d hd
          simp only [PyData.depthAll]
          rcases List.mem_cons.mp hd with z | z
          · rw [z]; omega
          · have := ih d z; omega
      have := d2 _ _ h9
      have := hr.un
      omega
    · have hvi : i0 < vs.length := by rw [hvl]; exact hi0
      have hui : i0 < its.length := by rw [← hlv]; exact hvi
      obtain ⟨wv, ewv, rwv⟩ := Vals.get rvs (List.getElem?_eq_getElem hvi)
      have hli : i0 < l.length := by rw [hlen]; exact hi0
      have hpi : l[i0]? = some l[i0] := List.getElem?_eq_getElem hli
      have hdi := dps_get hdp (List.getElem?_eq_getElem hvi)
      obtain ⟨as, rd⟩ := Dp.reads I2 _ _ wv hdi rwv
      have e1 : (toDs l).getD i0 .none = toD l[i0] := toDs_get hpi
      rw [e1] at rd ⊢
      have e2 := reads_nil 50 l[i0] wv as (okds_get hok hpi) rd
      rw [e2] at rd
      exact lam_turn (s := { s2 with heap := hh, toks := tk }) (tp := tp) (its := its) (u := wv) (i := i0) (by have := hr.dp; show X.A.depth < _; omega) (I2.nolimit.keeps kp) (kp _ _ hfo) (let ⟨c2, o2, v2, t2, q1, q2, q3, q4⟩ := hrec; ⟨c2, o2, v2, t2, q1, kp _ _ q2, q3, q4⟩) (hbind _ _ _ _ _) hk hco hgen hsc hsx hsT hcl (hcell.keeps kp)
        (let ⟨o, e, r⟩ := pl; ⟨o, kp _ _ e, r⟩) ewv (by omega) (by rw [← hlv, hvl]; exact hj) (PyProof.Rows.Reads.keeps kp rd) dT dT2 dx
    · have I3 : Inv X pins σ H2 { s2 with heap := h1, toks := tk } := I2.kept k1
      have hnl : H2 h1.objs.size = none := I3.hok.fresh (Nat.le_refl _)
      have ev : Vals ((sortIx l).map fun i : Nat => V.int i) out := by
        have e9 : (List.range j).mergeSort (PySem.W.dataLe false fun i => (toDs l).getD i .none) = sortIx l := by unfold sortIx; rw [hlen]
        rw [e9] at eo
        clear hD hol e9
        generalize sortIx l = ix at eo
        induction eo with
        | nil => exact .nil
        | cons h t ih =>
          obtain ⟨t0, rfl⟩ := h
          exact .cons ⟨t0, rfl⟩ ih
      have I4 : Inv X pins σ (upd H2 h1.objs.size (.lst ((sortIx l).map fun i : Nat => V.int i))) { s2 with heap := h', toks := tk } := by
        refine I3.laid (t' := tk) k2 (Nat.le_refl _) ⟨by rw [ev.length, hol, sizeLine_eq]; exact hj, out, c0, ev, hD⟩
      exact ⟨.ref h1.objs.size, _, I4, rfl, hQ _ hnl⟩
end
def alkB (l : List PV) : Bool := (toDs l).all fun d => (toDs l).all fun d' => PySem.W.alike d d'
def tupB : List PV → Bool
  | [] => true
  | .tup (_ :: _) :: l => tupB l
  | _ => false
theorem tupB_ok : ∀ l : List PV, tupB l = true → ∀ d, d ∈ toDs l → ∃ x r, d = .tuple (x :: r)
  | [], _, d, hd => by rw [toDs] at hd; cases hd
  | .tup (a :: b) :: l, h, d, hd => by
    rw [toDs] at hd
    rcases List.mem_cons.mp hd with z | z
    · rw [z, toD, toDs]; exact ⟨_, _, rfl⟩
    · exact tupB_ok l h d z
  | .tup [] :: l, h, _, _ => by cases h
  | .non :: l, h, _, _ => by cases h
  | .bl _ :: l, h, _, _ => by cases h
  | .int _ :: l, h, _, _ => by cases h
  | .str _ :: l, h, _, _ => by cases h
  | .loc _ :: l, h, _, _ => by cases h
  | .fn _ :: l, h, _, _ => by cases h
  | .kl _ :: l, h, _, _ => by cases h
def sortR (q t : PV) : Mo (List PV) := fun st => match q, t with
  | .int j, .tup l => if j = l.length ∧ okds 50 l = true ∧ alkB l = true ∧ tupB l = true then .ok ((sortIx l).map fun i : Nat => PV.int i) st else .stuck
  | _, _ => .stuck
theorem lam_rs {W : Wd} {ι : List Addr} {st : Sto} {H H2 : Hp} {P : Addr} {q : Str} (rs : RS W ι st H) (hP : (P, q) ∈ W.tl) (hPu : ∀ p ∈ W.tl, p.1 = P → p.2 = q) (n : LamNew P q H H2) : Mono ι H ι H2 ∧ RS W ι st H2 := by
  obtain ⟨t2, n⟩ := n
  rcases n with rfl | ⟨ps, more, c, hP1, hc, rfl⟩
  · exact ⟨Mono.refl, rs⟩
  have hcP : P ≠ c := ne_of_none hP1 hc
  have same : ∀ b o, H b = some o → b ≠ P → upd (upd H P (.tbl (ps ++ more))) c (LamX.CodeO c q) b = some o := fun b o e hb => by
    rw [upd_ne (ne_of_none e hc), upd_ne hb]; exact e
  have hnP : P ∉ ι := fun ha => by
    obtain ⟨n, o, _, _, r⟩ := rs.at_ ha
    obtain ⟨u, e, z⟩ := r.there
    rw [hP1] at e; cases e; exact z.2.2.1 _ rfl
  have t3 := t2
  obtain ⟨ps2, e2, to2, _⟩ := t2
  have m : Mono ι H ι (upd (upd H P (.tbl (ps ++ more))) c (LamX.CodeO c q)) := by
    refine ⟨fun _ _ h => h, fun _ h n => absurd h n, fun a u h hn => ?_⟩
    by_cases ha : a = P
    · subst ha
      rw [hP1] at h
      cases h
      have e3 : upd (upd H a (.tbl (ps ++ more))) c (LamX.CodeO c q) a = some (.tbl (ps ++ more)) := by rw [upd_ne hcP]; exact upd_same
      rw [e3] at e2
      cases e2
      exact ⟨_, e3, .inr ⟨ps, more, rfl, rfl, fun _ => to2⟩⟩
    · exact ⟨u, same a u h ha, Kp.refl u⟩
  refine ⟨m, rs.len, rs.nd, fun n u a h1 h2 => ?_, tab_mono rs m, fun p hp => ?_⟩
  · have ha : a ≠ P := fun z => hnP (by rw [← z]; exact List.mem_of_getElem? h2)
    have r := rs.ob n u a h1 h2
    obtain ⟨x, e, _⟩ := r.there
    exact RO.mono rs m ((same a x e ha).trans e.symm) r
  · by_cases hp1 : p.1 = P
    · have e := hPu p hp hp1
      rw [hp1, e]
      exact t3
    · obtain ⟨ps3, h1, h2, h3⟩ := rs.tl p hp
      refine ⟨ps3, same _ _ h1 hp1, h2, fun pos cv hcv => ?_⟩
      obtain ⟨c3, q1, q2⟩ := h3 pos cv hcv
      exact ⟨c3, q1, same _ _ q2 fun z => by rw [z, hP1] at q2; cases q2⟩
section
variable {X : Cx} {W : Wd} {k : Nat} {E : XK} {a : Expr} {da : Env → Mo PV}
theorem dl_sortR {cc P : Addr} {i : Nat} {T x : Str} {params : Arguments} {scope : Scope} {p p1 p2 pos kp lpos pT px psub : Pos} (TB : GxR.TabB X.base W.mg cc P) (hP : (P, X.env.qual ++ "<lambda>") ∈ W.tl) (hPu : ∀ p ∈ W.tl, p.1 = P → p.2 = X.env.qual ++ "<lambda>") (hcode : X.env.code = .ref cc)
    (hms : W.mg "sorted" = none) (hmr : W.mg "range" = none) (ha : DE X W (k + 2) E a da) (hN : X.N[i]? = some T := by rfl) (hT : X.env.scope.names.lookup T = some .cell := by rfl) (hgs : Gl X "sorted" := by rfl) (hgr : Gl X "range" := by rfl) (hsT : scope.names.lookup T = some .free := by rfl) (hsx : scope.names.lookup x = some .local := by rfl)
    (hsc : ∀ y ∈ scope.names, y.2 ≠ .cell := by decide) (hsf : ∀ y ∈ scope.names, y.2 = .free → y.1 = T := by decide) (hk : scope.kind = .function := by rfl) (hco : scope.isCoroutine = false := by rfl) (hgen : scope.isGenerator = false := by rfl) (hdef : defaultsOf params X.env = ([], []) := by rfl)
    (hbind : ∀ (u : Value) (cl : List (Str × Addr)) (pm cdv ctv : Value), bindArgs (PySem.W.kla_fn "<lambda>" (X.env.qual ++ "<lambda>") params (.Subscript (.Name T pT) (.Name x px) psub) scope cl pm cdv ctv) ⟨[u], []⟩ = pure [(x, u)] := by intros; rfl)
    (dT : (T == ("__debug__" : Str)) = false := by decide) (dT2 : (T == ("__classdict__" : Str)) = false := by decide) (dx : (x == ("__debug__" : Str)) = false := by decide)
    (hs : starEach [a] X.env = (false, eval a X.env) :: starEach [] X.env := by rfl)
    (he : backTo pos (starEach [.Call (.Name "range" p1) [a] [] p2] X.env) = (false, eval (.Call (.Name "range" p1) [a] [] p2) X.env) :: backTo pos (starEach [] X.env) := by rfl) :
    DL X W (k + 2) E (.Call (.Name "sorted" p) [.Call (.Name "range" p1) [a] [] p2] [⟨some "key", .Lambda params (.Subscript (.Name T pT) (.Name x px) psub) scope lpos, kp⟩] pos) (fun ρ => bnd (da ρ) fun q => bnd (dVar i ρ) fun t => sortR q t) := ⟨fun o =>
  pe_imp (pe_sortLam (o.room.mono (by omega)) o.hc hgs (by rw [o.hM]; exact hms) hgr (by rw [o.hM]; exact hmr) (ha.run o) (by rw [o.hM]; exact TB) hcode hN hT hsT hsx hsc hsf hk hco hgen hdef hbind dT dT2 dx hs he) fun σ H Q t => by
    obtain ⟨ι, ρ, st, re, rs, g⟩ := t
    refine ⟨ι, ρ, st, re, rs, Good.imp (Good.bind g) fun q st1 ι1 H1 m1 r1 g1 v hv => ?_⟩
    have re1 := re.mono rs m1
    have g2 := Good.bind g1
    unfold dVar at g2
    cases qq : ρ[i]? with
    | none => rw [qq] at g2; exact g2.elim
    | some w =>
      cases w with
      | none => rw [qq] at g2; exact g2.elim
      | some w =>
        rw [qq] at g2
        obtain ⟨tv, h1, h2⟩ := re1.at_ i w qq
        have g3 := g2.ok r1
        cases hv <;> try exact g3.elim
        cases h2 <;> try exact g3.elim
        rename_i jj ta vs l sq rr hz
        obtain ⟨hc, g4⟩ := good_if g3
        obtain ⟨c1, c2, c3, c4⟩ := hc
        subst c1
        refine ⟨_, rfl, rfl, l.length, ta, vs, l, rfl, hz, h1, c2, rfl, ?_, .inl (tupB_ok l c4), r1.tl _ hP, fun H2 hnew => ?_⟩
        · intro d hd d' hd'
          have := List.all_eq_true.mp c3 d hd
          exact List.all_eq_true.mp this d' hd'
        · obtain ⟨m2, r2⟩ := lam_rs r1 hP hPu hnew
          have rr2 := rvs_mono r1 m2 _ _ rr
          refine ⟨by rw [o.hK]; exact sqt_mono r1 m2 sq, by rw [o.hK]; exact dps_of 50 l vs c2 rr2, rr2.length, fun nl hnl => ?_⟩
          have h9 : (sortIx l).length = l.length := by unfold sortIx; rw [List.length_mergeSort, List.length_range]
          refine good_newlst (g4.shift m2) r2 ?_ (by rw [List.length_map, h9]; exact hz) hnl (none_back rs (m1.trans m2) r2.some_ hnl)
          generalize sortIx l = ix
          induction ix with
          | nil => exact .nil
          | cons z ix ih => exact .cons (.int _) ih⟩
end
end PD
/-! PD: what a denotation yields, plainly. -/
namespace PD
open PySem PySem.Spec L2
structure Ok {α : Type} (r : Res α) (Q : α → Sto → Prop) : Prop where
  ex : ∃ a s, r = .ok a s ∧ Q a s
section
variable {α β : Type} {Q : α → Sto → Prop} {st : Sto}
@[simp] theorem ok_ok {a : α} : Ok (.ok a st) Q ↔ Q a st := ⟨fun h => by obtain ⟨b, s, e, q⟩ := h.ex; cases e; exact q, fun q => ⟨a, st, rfl, q⟩⟩
@[simp] theorem ok_stuck : Ok (.stuck : Res α) Q ↔ False := ⟨fun h => (by obtain ⟨b, s, e, q⟩ := h.ex; cases e), False.elim⟩
@[simp] theorem ok_exc {c : Nat} : Ok (.exc c st : Res α) Q ↔ False := ⟨fun h => (by obtain ⟨b, s, e, q⟩ := h.ex; cases e), False.elim⟩
@[simp] theorem ok_fail : Ok ((fail : Mo α) st) Q ↔ False := ok_stuck
theorem ok_same {r r' : Res α} (h : r = r') : Ok r Q ↔ Ok r' Q := by rw [h]
@[simp] theorem ok_bnd {m : Mo β} {f : β → Mo α} : Ok (bnd m f st) Q ↔ Ok (m st) (fun b st1 => Ok (f b st1) Q) := by
  unfold bnd
  cases m st with
  | ok a s => rw [ok_ok]
  | exc c s => exact ok_exc.trans ok_exc.symm
  | stuck => exact ok_stuck.trans ok_stuck.symm
@[simp] theorem ok_nox {m : Mo α} : Ok (nox m st) Q ↔ Ok (m st) Q := by
  unfold nox
  cases m st with
  | ok a s => exact Iff.rfl
  | exc c s => exact ok_stuck.trans ok_exc.symm
  | stuck => exact Iff.rfl
theorem ok_if {c : Prop} [Decidable c] {r : Res α} : Ok (if c then r else .stuck) Q ↔ c ∧ Ok r Q := by
  by_cases h : c
  · rw [if_pos h]; exact ⟨fun z => ⟨h, z⟩, fun z => z.2⟩
  · rw [if_neg h, ok_stuck]; exact ⟨fun z => z.elim, fun z => (h z.1).elim⟩
theorem Ok.imp {r : Res α} {Q' : α → Sto → Prop} (h : Ok r Q) (i : ∀ a st, Q a st → Q' a st) : Ok r Q' := by
  obtain ⟨a, s, e, q⟩ := h.ex
  exact ⟨a, s, e, i a s q⟩
theorem ok_eq {r : Res α} {a : α} {s : Sto} (h : r = .ok a s) : Ok r Q ↔ Q a s := by rw [h]; exact ok_ok
theorem Ok.eq {r : Res α} {a : α} {s : Sto} (h : Ok r (fun b s' => b = a ∧ s' = s)) : r = .ok a s := by
  obtain ⟨b, s', e, rfl, rfl⟩ := h.ex
  exact e
end
/-! ### pure specs -/
open Classical in
noncomputable def pureS (dom : List PV → Prop) (g : List PV → PV) : List PV → Mo PV := fun ps st => if dom ps then .ok (g ps) st else .stuck
theorem pureS_ok {dom : List PV → Prop} {g : List PV → PV} {ps : List PV} {st : Sto} (h : dom ps) : pureS dom g ps st = .ok (g ps) st := if_pos h
theorem nox_pure {dom : List PV → Prop} {g : List PV → PV} : NoX (pureS dom g) := fun ps st c st2 h => by
  unfold pureS at h
  split at h <;> cases h
theorem ref_pure {n : Nat} {F : List PV → Mo PV} {dom : List PV → Prop} {g : List PV → PV} (h : ∀ ps st, ps.length = n → dom ps → Ok (F ps st) (fun p st1 => p = g ps ∧ ∃ ex, st1 = st ++ ex)) (hg : ∀ ps m, dom ps → cl m (g ps) = true) : Ref n F (pureS dom g) := by
  intro ps st p2 st2 hl hc hs e
  unfold pureS at e
  split at e
  · rename_i hd
    cases e
    obtain ⟨a, s, e1, rfl, ex, rfl⟩ := (h ps st hl hd).ex
    exact ⟨_, _, e1, gc_take (Nat.le_refl _) (hg ps _ hd) hs⟩
  · cases e
theorem ref_same {n : Nat} {F : List PV → Mo PV} {dom : List PV → Prop} {g : List PV → PV} (h : ∀ ps st, dom ps → Ok (F ps st) (fun p st1 => p = g ps ∧ st1 = st)) (hg : ∀ ps m, dom ps → cl m (g ps) = true) : Ref n F (pureS dom g) :=
  ref_pure (fun ps st _ hd => (h ps st hd).imp fun p s z => ⟨z.1, [], by rw [z.2, List.append_nil]⟩) hg
def trunc (F : List PV → Mo PV) : List PV → Mo PV := fun ps st => match F ps st with
  | .ok p st1 => if (decide (st.length ≤ st1.length) && cl st.length p && (st1.take st.length).all (clO st.length)) = true then .ok p (st1.take st.length) else .stuck
  | _ => .stuck
theorem nox_trunc {F : List PV → Mo PV} : NoX (trunc F) := fun ps st c st2 h => by
  unfold trunc at h
  split at h
  · split at h <;> cases h
  · cases h
theorem ref_trunc {n : Nat} {F : List PV → Mo PV} : Ref n F (trunc F) := by
  intro ps st p2 st2 hl hc hs e
  unfold trunc at e
  cases q : F ps st with
  | ok p st1 =>
    rw [q] at e
    dsimp only at e
    split at e
    · rename_i hh
      cases e
      simp only [Bool.and_eq_true, decide_eq_true_eq, List.all_eq_true] at hh
      obtain ⟨⟨h1, h2⟩, h3⟩ := hh
      have hlen : (st1.take st.length).length = st.length := by rw [List.length_take]; omega
      have g := gc_take (n0 := st.length) (p := p2) (st := st1.take st.length) (ex := st1.drop st.length) (by omega) (by rw [hlen]; exact h2) (fun o ho => by rw [hlen]; exact h3 o ho)
      rw [List.take_append_drop] at g
      exact ⟨_, st1, rfl, g⟩
    · cases e
  | exc c s => rw [q] at e; cases e
  | stuck => rw [q] at e; cases e
theorem ref_self {n : Nat} {F : List PV → Mo PV} : Ref n F F := fun ps st p2 st2 _ _ _ e => ⟨p2, st2, e, .inl ⟨rfl, rfl⟩⟩
/-! ### loops -/
section
variable {Q : Fl → Sto → Prop}
/-- behind a turn: to go on, or what is told -/
def Aft (G : PD.Env → Sto → Prop) (Q : Fl → Sto → Prop) : Fl → Sto → Prop
  | .nx ρ, st => G ρ st
  | .ct ρ, st => G ρ st
  | .bk ρ, st => Q (.nx ρ) st
  | .rt p, st => Q (.rt p) st
theorem ok_for {g : PV → PD.Env → Mo PD.Env} {f : PD.Env → Mo Fl} {chk : Sto → Prop} (P : List PV → PD.Env → Sto → Prop) (hc : ∀ l ρ st, P l ρ st → chk st) (he : ∀ ρ st, P [] ρ st → Q (.nx ρ) st)
    (step : ∀ q l ρ st, P (q :: l) ρ st → Ok (g q ρ st) (fun ρ1 st1 => Ok (f ρ1 st1) (Aft (P l) Q))) : ∀ l ρ st, P l ρ st → Ok (foF g f chk l ρ st) Q
  | [], ρ, st, h => by
    unfold foF
    rw [if_pos (hc _ _ _ h)]
    exact ok_ok.mpr (he ρ st h)
  | q :: l, ρ, st, h => by
    unfold foF
    rw [if_pos (hc _ _ _ h)]
    rw [ok_bnd]
    refine (step q l ρ st h).imp fun ρ1 st1 h1 => ?_
    rw [ok_bnd]
    refine h1.imp fun fl st2 h2 => ?_
    cases fl with
    | nx ρ' => exact ok_for P hc he step l ρ' st2 h2
    | ct ρ' => exact ok_for P hc he step l ρ' st2 h2
    | bk ρ' => exact ok_ok.mpr h2
    | rt p => exact ok_ok.mpr h2
theorem ok_wh {dt : PD.Env → Mo Bool} {f : PD.Env → Mo Fl} (I : Nat → PD.Env → Sto → Prop) (step : ∀ n ρ st, I n ρ st → Ok (dt ρ st) (fun b st1 => if b = true then Ok (f ρ st1) (Aft (fun ρ' st' => ∃ m, m < n ∧ I m ρ' st') Q) else Q (.nx ρ) st1)) :
    ∀ n ρ st, I n ρ st → Ok (dWh dt f ρ st) Q := by
  intro n
  induction n using Nat.strongRecOn with
  | _ n ih =>
    intro ρ st h
    rw [dWh_eq, ok_bnd]
    refine (step n ρ st h).imp fun b st1 h1 => ?_
    cases b with
    | false => exact ok_ok.mpr h1
    | true =>
      rw [if_pos rfl] at h1 ⊢
      rw [ok_bnd]
      refine h1.imp fun fl st2 h2 => ?_
      cases fl with
      | nx ρ' => obtain ⟨m, hm, z⟩ := h2; exact ih m hm ρ' st2 z
      | ct ρ' => obtain ⟨m, hm, z⟩ := h2; exact ih m hm ρ' st2 z
      | bk ρ' => exact ok_ok.mpr h2
      | rt p => exact ok_ok.mpr h2
end
/-- a loop that leaves the store, and returns r at the first bad item -/
theorem for_find {g : PV → PD.Env → Mo PD.Env} {f : PD.Env → Mo Fl} {chk : Sto → Prop} {st : Sto} (I : PD.Env → Prop) (bad : PV → Bool) (r : PV) (hc : chk st) : ∀ (l : List PV) (ρ : PD.Env), (∀ q ∈ l, ∀ ρ, I ρ → Ok (g q ρ st) (fun ρ1 s1 => Ok (f ρ1 s1) (fun fl s2 => s2 = st ∧ if bad q = true then fl = .rt r else ∃ ρ', I ρ' ∧ (fl = .nx ρ' ∨ fl = .ct ρ')))) → I ρ →
    Ok (foF g f chk l ρ st) (fun fl s => s = st ∧ if l.any bad = true then fl = .rt r else ∃ ρ', I ρ' ∧ fl = .nx ρ')
  | [], ρ, _, hI => by
    unfold foF
    rw [if_pos hc]
    exact ok_ok.mpr ⟨rfl, by rw [if_neg (by simp)]; exact ⟨ρ, hI, rfl⟩⟩
  | q :: l, ρ, h, hI => by
    unfold foF
    rw [if_pos hc, ok_bnd]
    refine (h q (List.mem_cons_self ..) ρ hI).imp fun ρ1 s1 h1 => ?_
    rw [ok_bnd]
    refine h1.imp fun fl s2 h2 => ?_
    obtain ⟨rfl, h2⟩ := h2
    rw [List.any_cons]
    cases hb : bad q with
    | true =>
      rw [hb, if_pos rfl] at h2
      subst h2
      exact ok_ok.mpr ⟨rfl, by rw [Bool.true_or, if_pos rfl]⟩
    | false =>
      rw [hb, if_neg (by simp)] at h2
      obtain ⟨ρ', hI', e⟩ := h2
      rw [Bool.false_or]
      have ih := for_find I bad r hc l ρ' (fun q hq => h q (List.mem_cons_of_mem _ hq)) hI'
      rcases e with rfl | rfl
      · exact ih
      · exact ih
/-! ### comprehensions -/
theorem ok_lc {pt : Pt} {dt : PD.Env → Mo Bool} {d : PD.Env → Mo PV} {chk : Sto → Prop} {ρ : PD.Env} {Q : List PV → Sto → Prop} (P : List PV → List PV → Sto → Prop) (hc : ∀ l acc st, P l acc st → chk st) (he : ∀ acc st, P [] acc st → Q acc st)
    (step : ∀ q l acc st, P (q :: l) acc st → ∃ ρ1, Pt.go pt q ρ = some ρ1 ∧ Ok (dt ρ1 st) (fun b st1 => if b = true then Ok (d ρ1 st1) (fun y st2 => acc.length < 16777216 ∧ P l (acc ++ [y]) st2) else P l acc st1)) : ∀ l acc st, P l acc st → Ok (lcF pt dt d chk ρ l acc st) Q
  | [], acc, st, h => by
    unfold lcF
    rw [if_pos (hc _ _ _ h)]
    exact ok_ok.mpr (he acc st h)
  | q :: l, acc, st, h => by
    unfold lcF
    rw [if_pos (hc _ _ _ h)]
    obtain ⟨ρ1, e, z⟩ := step q l acc st h
    rw [e]
    dsimp only
    rw [ok_bnd, ok_nox]
    refine z.imp fun b st1 z1 => ?_
    cases b with
    | false => exact ok_lc P hc he step l acc st1 z1
    | true =>
      rw [if_pos rfl] at z1 ⊢
      rw [ok_bnd, ok_nox]
      refine z1.imp fun y st2 z2 => ?_
      rw [if_pos z2.1]
      exact ok_lc P hc he step l _ st2 z2.2
/-- without effect on the store -/
theorem lc_pure {pt : Pt} {dt : PD.Env → Mo Bool} {d : PD.Env → Mo PV} {chk : Sto → Prop} {ρ : PD.Env} {st : Sto} (t : PV → Bool) (f : PV → PV) (hc : chk st) : ∀ (l acc : List PV), (∀ q ∈ l, ∃ ρ1, Pt.go pt q ρ = some ρ1 ∧ dt ρ1 st = .ok (t q) st ∧ (t q = true → d ρ1 st = .ok (f q) st)) → acc.length + l.length ≤ 16777216 →
    lcF pt dt d chk ρ l acc st = .ok (acc ++ (l.filter t).map f) st
  | [], acc, _, _ => by
    unfold lcF
    rw [if_pos hc]
    simp
  | q :: l, acc, h, hl => by
    unfold lcF
    rw [if_pos hc]
    obtain ⟨ρ1, e, e1, e2⟩ := h q (List.mem_cons_self ..)
    rw [e]
    dsimp only
    unfold bnd nox
    rw [e1]
    dsimp only
    rw [List.length_cons] at hl
    cases ht : t q with
    | false =>
      rw [if_neg (by simp)]
      rw [lc_pure t f hc l acc (fun q hq => h q (List.mem_cons_of_mem _ hq)) (by omega), List.filter_cons_of_neg (by simp [ht])]
    | true =>
      rw [if_pos rfl, e2 ht]
      dsimp only
      rw [if_pos (by omega), lc_pure t f hc l _ (fun q hq => h q (List.mem_cons_of_mem _ hq)) (by rw [List.length_append, List.length_singleton]; omega), List.filter_cons_of_pos ht, List.map_cons, List.append_assoc]
      rfl
theorem gx_pure {sv : Bool} {pt : Pt} {dt : PD.Env → Mo Bool} {d : PD.Env → Mo PV} {chk : Sto → Prop} {ρ : PD.Env} {st : Sto} (f : PV → Bool) (hc : chk st) : ∀ (l : List PV), (∀ q ∈ l, ∃ ρ1, Pt.go pt q ρ = some ρ1 ∧ dt ρ1 st = .ok true st ∧ d ρ1 st = .ok (.bl (f q)) st) →
    gxF sv pt dt d chk ρ l st = .ok (.bl (if sv = true then l.any f else l.all f)) st
  | [], _ => by
    unfold gxF
    rw [if_pos hc]
    cases sv <;> rfl
  | q :: l, h => by
    unfold gxF
    rw [if_pos hc]
    obtain ⟨ρ1, e, e1, e2⟩ := h q (List.mem_cons_self ..)
    rw [e]
    dsimp only
    unfold bnd nox
    rw [e1]
    dsimp only
    rw [if_pos rfl, e2]
    dsimp only [blM]
    have ih := gx_pure (sv := sv) f hc l fun q hq => h q (List.mem_cons_of_mem _ hq)
    cases sv <;> cases hf : f q <;> simp_all
/-! ### the store -/
theorem dVar_ok {i : Nat} {ρ : PD.Env} {st : Sto} {p : PV} (h : ρ[i]? = some (some p)) : dVar i ρ st = .ok p st := by
  unfold dVar
  rw [h]
end PD
/-! PD: denotations, step by step. -/
namespace PD
open PySem PySem.Spec L2
section
variable {α β : Type} {Q : α → Sto → Prop} {st : Sto} {ρ : PD.Env} {i j : Nat} {p q z : PV} {da db dc d : PD.Env → Mo PV} {dt du : PD.Env → Mo Bool} {dl dm : PD.Env → Mo (List PV)} {f f1 f2 : PD.Env → Mo Fl} {l m : List PV}
@[simp] theorem ok_ite {c : Prop} [Decidable c] {a b : Res α} : Ok (if c then a else b) Q ↔ if c then Ok a Q else Ok b Q := by split <;> exact Iff.rfl
@[simp] theorem ok_ite_app {c : Prop} [Decidable c] {a b : Mo α} : Ok ((if c then a else b) st) Q ↔ if c then Ok (a st) Q else Ok (b st) Q := by split <;> exact Iff.rfl
@[simp] theorem e_var : dVar i ρ st = match ρ[i]? with | some (some p) => .ok p st | _ => .stuck := rfl
@[simp] theorem e_C : dC p ρ st = .ok p st := rfl
@[simp] theorem e_bin {g : PV → PV → Mo PV} : dBin g da db ρ = bnd (da ρ) fun p => bnd (db ρ) fun q => g p q := rfl
@[simp] theorem e_un {g : PV → Mo PV} : dUn g da ρ = bnd (da ρ) g := rfl
@[simp] theorem e_B : dB d ρ = bnd (d ρ) blM := rfl
@[simp] theorem e_andV : dAndV da db ρ = bnd (da ρ) fun q => bnd (blM q) fun b => if b = true then db ρ else fun st => .ok (.bl false) st := rfl
@[simp] theorem e_orV : dOrV da db ρ = bnd (da ρ) fun q => bnd (blM q) fun b => if b = true then fun st => .ok (.bl true) st else db ρ := rfl
@[simp] theorem e_notV : dNotV da ρ = bnd (da ρ) fun q => bnd (blM q) fun b => fun st => .ok (.bl (!b)) st := rfl
@[simp] theorem e_if : dIf dt da db ρ = bnd (dt ρ) fun b => if b = true then da ρ else db ρ := rfl
@[simp] theorem e_chain {g g' : PV → PV → Mo PV} : dChain g g' da db dc ρ = bnd (da ρ) fun p => bnd (db ρ) fun q => bnd (g p q) fun z => bnd (blM z) fun b => if b = true then bnd (dc ρ) fun w => g' q w else fun st => .ok (.bl false) st := rfl
@[simp] theorem e_isi {t : Kd} : dIsi t d ρ = bnd (d ρ) fun q => bnd (kdM q) fun kd => fun st => .ok (.bl (isK kd t)) st := rfl
@[simp] theorem e_cons : dCons da dl ρ = bnd (da ρ) fun p => bnd (dl ρ) fun ps => fun st => .ok (p :: ps) st := rfl
@[simp] theorem e_andT : dAndT dt du ρ = bnd (dt ρ) fun b => if b = true then du ρ else fun st => .ok false st := rfl
@[simp] theorem e_orT : dOrT dt du ρ = bnd (dt ρ) fun b => if b = true then fun st => .ok true st else du ρ := rfl
@[simp] theorem e_notT : dNotT dt ρ = bnd (dt ρ) fun b => fun st => .ok (!b) st := rfl
@[simp] theorem e_sl {d1 d2 : PD.Env → Mo (Option Int)} {g : PV → Option Int → Option Int → Mo PV} : dSl d d1 d2 g ρ = bnd (d ρ) fun q => bnd (d1 ρ) fun lo => bnd (d2 ρ) fun hi => g q lo hi := rfl
@[simp] theorem e_slL {d1 d2 : PD.Env → Mo (Option Int)} : dSlL d d1 d2 ρ = bnd (d ρ) fun q => bnd (d1 ρ) fun lo => bnd (d2 ρ) fun hi => bnd (lstM q) fun l => fun st => .ok (cutP l lo hi) st := rfl
@[simp] theorem e_yes : dYes ρ st = .ok true st := rfl
/-! statements -/
@[simp] theorem e_nil : dNil ρ st = .ok (.nx ρ) st := rfl
@[simp] theorem e_brk : dBrk ρ st = .ok (.bk ρ) st := rfl
@[simp] theorem e_cnt : dCnt ρ st = .ok (.ct ρ) st := rfl
@[simp] theorem e_ret : dRet d ρ = bnd (d ρ) fun q => fun st => .ok (.rt q) st := rfl
@[simp] theorem e_drop : dDrop d ρ = bnd (d ρ) fun _ => fun st => .ok (.nx ρ) st := rfl
@[simp] theorem e_ifS : dIfS dt f1 f2 ρ = bnd (dt ρ) fun b => if b = true then f1 ρ else f2 ρ := rfl
@[simp] theorem e_set : dSet i d ρ = bnd (d ρ) fun q => fun st => .ok (.nx (ρ.set i (some q))) st := rfl
@[simp] theorem e_asg {g : PV → PD.Env → Mo PD.Env} : dAsg d g ρ = bnd (d ρ) fun q => bnd (g q ρ) fun ρ' => fun st => .ok (.nx ρ') st := rfl
@[simp] theorem e_par : dPar i j dl ρ = bnd (dl ρ) fun l => match l with
  | [q, z] => fun st => .ok (.nx ((ρ.set i (some q)).set j (some z))) st
  | _ => fail := rfl
@[simp] theorem e_aug {g : Int → Int → Int} : dAug g i d ρ = bnd (dVar i ρ) fun q => bnd (d ρ) fun z => bnd (oI (fun x y => .int (g x y)) q z) fun w => fun st => .ok (.nx (ρ.set i (some w))) st := rfl
@[simp] theorem e_gNm : gNm i q ρ st = .ok (ρ.set i (some q)) st := rfl
@[simp] theorem e_gNl : gNl [] ρ st = .ok ρ st := rfl
@[simp] theorem e_gCs {g : PV → PD.Env → Mo PD.Env} {gs : List PV → PD.Env → Mo PD.Env} : gCs g gs (q :: l) ρ = bnd (g q ρ) fun ρ' => gs l ρ' := rfl
@[simp] theorem e_gTp {n : Nat} {gs : List PV → PD.Env → Mo PD.Env} : gTp n gs (.tup l) ρ st = if l.length = n then gs l ρ st else .stuck := rfl
@[simp] theorem e_gSb : gSb da db z ρ = bnd (da ρ) fun q => bnd (db ρ) fun i => bnd (setM q i z) fun _ => fun st => .ok ρ st := rfl
/-- behind a statement -/
def seqK (f2 : PD.Env → Mo Fl) (Q : Fl → Sto → Prop) : Fl → Sto → Prop
  | .nx ρ', s => Ok (f2 ρ' s) Q
  | .rt p, s => Q (.rt p) s
  | .bk ρ', s => Q (.bk ρ') s
  | .ct ρ', s => Q (.ct ρ') s
@[simp] theorem seqK_nx {Q : Fl → Sto → Prop} : seqK f2 Q (.nx ρ) st ↔ Ok (f2 ρ st) Q := Iff.rfl
@[simp] theorem seqK_rt {Q : Fl → Sto → Prop} : seqK f2 Q (.rt p) st ↔ Q (.rt p) st := Iff.rfl
@[simp] theorem seqK_bk {Q : Fl → Sto → Prop} : seqK f2 Q (.bk ρ) st ↔ Q (.bk ρ) st := Iff.rfl
@[simp] theorem seqK_ct {Q : Fl → Sto → Prop} : seqK f2 Q (.ct ρ) st ↔ Q (.ct ρ) st := Iff.rfl
@[simp] theorem ok_seq {Q : Fl → Sto → Prop} : Ok (dSeq f1 f2 ρ st) Q ↔ Ok (f1 ρ st) (seqK f2 Q) := by
  unfold dSeq
  rw [ok_bnd]
  have e : ∀ fl s, (Ok ((match fl with | .nx ρ' => f2 ρ' | r => fun st => .ok r st : Mo Fl) s) Q) = seqK f2 Q fl s := fun fl s => by cases fl <;> first | rfl | exact propext ok_ok
  have : (fun b st1 => Ok ((match b with | .nx ρ' => f2 ρ' | r => fun st => .ok r st : Mo Fl) st1) Q) = seqK f2 Q := by funext fl s; exact e fl s
  exact iff_of_eq (congrArg (Ok (f1 ρ st)) this)
@[simp] theorem aft_nx {G : PD.Env → Sto → Prop} {Q : Fl → Sto → Prop} : Aft G Q (.nx ρ) st ↔ G ρ st := Iff.rfl
@[simp] theorem aft_ct {G : PD.Env → Sto → Prop} {Q : Fl → Sto → Prop} : Aft G Q (.ct ρ) st ↔ G ρ st := Iff.rfl
@[simp] theorem aft_bk {G : PD.Env → Sto → Prop} {Q : Fl → Sto → Prop} : Aft G Q (.bk ρ) st ↔ Q (.nx ρ) st := Iff.rfl
@[simp] theorem aft_rt {G : PD.Env → Sto → Prop} {Q : Fl → Sto → Prop} : Aft G Q (.rt p) st ↔ Q (.rt p) st := Iff.rfl
@[simp] theorem retF_rt : retF (.rt p) st = .ok p st := rfl
@[simp] theorem retF_nx : retF (.nx ρ) st = .ok .non st := rfl
@[simp] theorem e_body {m : Nat} : bodyF m f l = bnd (f (start0 m l)) retF := rfl
@[simp] theorem e_for {ds : PD.Env → Mo Src} {g : PV → PD.Env → Mo PD.Env} : dFor ds g f ρ = bnd (ds ρ) fun S => foF g f S.chk S.l ρ := rfl
@[simp] theorem e_lc {ds : PD.Env → Mo Src} {pt : Pt} {vs : List Nat} : dLc ds pt dt d vs ρ = bnd (ds ρ) fun S => lcF pt dt d S.chk (wipeE ρ vs) S.l [] := rfl
@[simp] theorem e_gx {sv : Bool} {ds : PD.Env → Mo Src} {pt : Pt} {vs : List Nat} : dGx sv ds pt dt d vs ρ = bnd (ds ρ) fun S => gxF sv pt dt d S.chk (wipeE ρ vs) S.l := rfl
/-! operations -/
@[simp] theorem o_I {g : Int → Int → PV} {a b : Int} : oI g (PV.int a) (PV.int b) st = .ok (g a b) st := rfl
@[simp] theorem o_IC {C : Int → Int → Prop} [∀ i j, Decidable (C i j)] {g : Int → Int → PV} {a b : Int} : oIC C g (PV.int a) (PV.int b) st = if C a b then .ok (g a b) st else .stuck := rfl
@[simp] theorem o_addI {a b : Int} : oAdd (PV.int a) (PV.int b) st = .ok (PV.int (a + b)) st := rfl
@[simp] theorem o_addT : oAdd (.tup l) (.tup m) st = if l.length + m.length ≤ 16777216 then .ok (.tup (l ++ m)) st else .stuck := rfl
@[simp] theorem o_eq {ng : Bool} : oEq ng p q st = if okd 60 p = true ∧ okd 60 q = true then .ok (.bl (if ng then !eqb p q else eqb p q)) st else .stuck := rfl
@[simp] theorem o_isN {ng : Bool} : oIsN ng p q st = .ok (.bl (match p with | .non => !ng | _ => ng)) st := rfl
@[simp] theorem o_isB {ng a b : Bool} : oIsB ng (.bl a) (.bl b) st = .ok (.bl (if ng then !decide (a = b) else decide (a = b))) st := rfl
@[simp] theorem o_neg {a : Int} : oNeg (PV.int a) st = .ok (PV.int (-a)) st := rfl
@[simp] theorem m_bl {b : Bool} : blM (.bl b) st = .ok b st := rfl
@[simp] theorem m_truB {b : Bool} : truM (.bl b) st = .ok b st := rfl
@[simp] theorem m_kdN : kdM .non st = .ok .non st := rfl
@[simp] theorem m_kdB {b : Bool} : kdM (.bl b) st = .ok .bl st := rfl
@[simp] theorem m_kdI {a : Int} : kdM (PV.int a) st = .ok Kd.int st := rfl
@[simp] theorem m_kdS {a : Str} : kdM (.str a) st = .ok .str st := rfl
@[simp] theorem m_kdT : kdM (.tup l) st = .ok .tup st := rfl
@[simp] theorem m_lenT : lenM (.tup l) st = .ok (PV.int l.length) st := rfl
@[simp] theorem m_lenS {s : Str} : lenM (.str s) st = if s.length ≤ 16777216 then .ok (PV.int s.length) st else .stuck := rfl
@[simp] theorem m_lenK {ns : List Int} : lenM (.kl ns) st = .ok (PV.int ns.length) st := by
  show Res.ok (PV.int (ns.map PV.int).length) st = _
  rw [List.length_map]
@[simp] theorem m_lenL {n : Nat} : lenM (.loc n) st = match st[n]? with | some (.lst _ l) => .ok (PV.int l.length) st | _ => .stuck := by
  show (match seqOf st (.loc n) with | some l => Res.ok (PV.int l.length) st | none => .stuck) = _
  have e : seqOf st (.loc n) = match st[n]? with | some (.lst _ l) => some l | _ => none := rfl
  rw [e]
  cases st[n]? with
  | none => rfl
  | some o => cases o <;> rfl
@[simp] theorem m_sqT : sqM (.tup l) st = .ok l st := rfl
@[simp] theorem m_sqL {n : Nat} : sqM (.loc n) st = match st[n]? with | some (.lst _ l) => .ok l st | _ => .stuck := by
  show (match seqOf st (.loc n) with | some l => Res.ok l st | none => .stuck) = _
  have e : seqOf st (.loc n) = match st[n]? with | some (.lst _ l) => some l | _ => none := rfl
  rw [e]
  cases st[n]? with
  | none => rfl
  | some o => cases o <;> rfl
@[simp] theorem m_ixT {a : Int} : oIx (.tup l) (PV.int a) st = match atI l a with | some z => .ok z st | none => .stuck := rfl
@[simp] theorem m_ixL {n : Nat} {a : Int} : oIx (.loc n) (PV.int a) st = match st[n]? with | some (.lst _ l) => (match atI l a with | some z => .ok z st | none => .stuck) | _ => .stuck := by
  show (match seqOf st (.loc n) with | some l => (match atI l a with | some z => Res.ok z st | none => .stuck) | none => .stuck) = _
  have e : seqOf st (.loc n) = match st[n]? with | some (.lst _ l) => some l | _ => none := rfl
  rw [e]
  cases st[n]? with
  | none => rfl
  | some o => cases o <;> rfl
@[simp] theorem m_ixQ {a : Int} : ixQ l (PV.int a) st = match atI l a with | some z => .ok z st | none => .stuck := rfl
@[simp] theorem m_tup : tupM l st = if l.length ≤ 16777216 then .ok (.tup l) st else .stuck := rfl
@[simp] theorem m_cap : capM l st = if l.length ≤ 16777216 then .ok l st else .stuck := rfl
@[simp] theorem m_tupQ : tupQ l st = .ok (.tup l) st := rfl
@[simp] theorem m_lay : layL l st = .ok (.loc st.length) (st ++ [.lst false l]) := rfl
@[simp] theorem m_lstL {n : Nat} : lstM (.loc n) st = match st[n]? with | some (.lst _ l) => .ok l st | _ => .stuck := rfl
@[simp] theorem m_lstK {ns : List Int} : lstM (.kl ns) st = .ok (ns.map PV.int) st := rfl
@[simp] theorem m_lstW {n : Nat} : lstW (.loc n) st = match st[n]? with | some (.lst false l) => .ok (n, l) st | _ => .stuck := rfl
@[simp] theorem m_lstU {n : Nat} : lstU (.loc n) st = match st[n]? with | some (.lst false l) => .ok l st | _ => .stuck := rfl
@[simp] theorem m_setL {n : Nat} : setL n l z st = if l.length ≤ 16777216 then .ok z (st.set n (.lst false l)) else .stuck := rfl
@[simp] theorem m_app : appM q [z] = bnd (lstW q) fun nl => setL nl.1 (nl.2 ++ [z]) .non := rfl
@[simp] theorem m_popAt {a : Int} : popAtM q [PV.int a] = bnd (lstW q) fun nl => if -9223372036854775808 ≤ a ∧ a < 9223372036854775808 then (match seqIndex? a nl.2.length with
    | some j => match nl.2[j]? with
      | some y => setL nl.1 (nl.2.eraseIdx j) y
      | none => fail
    | none => fail) else fail := rfl
@[simp] theorem m_set {n : Nat} {a : Int} : setM (.loc n) (PV.int a) z st = match st[n]? with
    | some (.lst false l) => match ixN l.length a with
      | some j => .ok () (st.set n (.lst false (l.set j z)))
      | none => .stuck
    | _ => .stuck := rfl
@[simp] theorem m_int {a : Int} : intV (PV.int a) st = .ok (PV.int a) st := rfl
@[simp] theorem m_intM {a : Int} : intM (PV.int a) st = .ok (some a) st := rfl
@[simp] theorem m_slT {lo hi : Option Int} : slT (.tup l) lo hi st = .ok (.tup (cutP l lo hi)) st := rfl
@[simp] theorem m_call {n : Nat} {F : List PV → Mo PV} : callM n F l st = if l.length = n then F l st else .stuck := rfl
@[simp] theorem m_fn {tab : Nat → Option (List PV → Mo PV)} : fnM tab (.fn j) st = match tab j with | some F => .ok F st | none => .stuck := rfl
@[simp] theorem m_srcT : srcM (.tup l) st = .ok (sV l) st := rfl
@[simp] theorem m_srcL {n : Nat} : srcM (.loc n) st = match st[n]? with | some (.lst _ l) => .ok (sL n l) st | _ => .stuck := rfl
@[simp] theorem m_sv : svM l st = .ok (sV l) st := rfl
@[simp] theorem m_rg1 {a : Int} : rg1M [PV.int a] st = if RgOk a then .ok (sV (rgP 0 a.toNat)) st else .stuck := rfl
@[simp] theorem m_rg2 {a b : Int} : rg2M [PV.int a, PV.int b] st = if RgOk a ∧ RgOk b then .ok (sV (rgP a (b - a).toNat)) st else .stuck := rfl
@[simp] theorem sV_chk : (sV l).chk st ↔ True := Iff.rfl
@[simp] theorem sV_l : (sV l).l = l := rfl
end
end PD
/-! PD: recursion's ground, and the store. -/
namespace PD
open PySem PySem.Spec L2
section
variable {P : Program} {w : World} {W : Wd} {base : Heap} {k : Nat} {f : Addr}
theorem DFn.none_ {x qual : Str} {params : Arguments} {body : List Stmt} {scope : Scope} {fd : FuncData} {N ps : List Str} (hcx : W.cx = CX0) (Fd : FunD W.K x qual params body scope [] [] f fd) (S : FnScope N ps scope) (hb : Binds W.K fd ps []) :
    DFn P w W base (k + 1) f ps.length (fun _ => fail) := ⟨⟨fd, ps, rfl, Fd.ok S spF_len fun cdv A outer s H vs Q E hr z => by
  obtain ⟨ι, qs, st, rs, rr, hl, g⟩ := z
  exact g.elim, hb⟩, Fd.kp⟩
end
@[simp] theorem eqb_int {i j : Int} : eqb (.int i) (.int j) = (i == j) := by simp [eqb]
@[simp] theorem eqb_bl {i j : Bool} : eqb (.bl i) (.bl j) = (i == j) := by cases i <;> cases j <;> simp [eqb]
theorem bls_map (f : PV → Bool) {st : Sto} : ∀ l : List PV, blsM (l.map fun q => .bl (f q)) st = .ok (l.map f) st
  | [] => rfl
  | q :: l => by simp only [List.map_cons, blsM, bnd, bls_map f l]
theorem anyQ_map (f : PV → Bool) {st : Sto} (l : List PV) : anyQ (l.map fun q => .bl (f q)) st = .ok (.bl (l.any f)) st := by
  unfold anyQ bnd
  rw [bls_map]
  simp [List.any_map]
theorem allQ_map (f : PV → Bool) {st : Sto} (l : List PV) : allQ (l.map fun q => .bl (f q)) st = .ok (.bl (l.all f)) st := by
  unfold allQ bnd
  rw [bls_map]
  simp [List.all_map]
theorem lc_map {pt : Pt} {dt : PD.Env → Mo Bool} {d : PD.Env → Mo PV} {chk : Sto → Prop} {ρ : PD.Env} {st : Sto} (f : PV → PV) (hc : chk st) (l : List PV) (h : ∀ q ∈ l, ∃ ρ1, Pt.go pt q ρ = some ρ1 ∧ dt ρ1 st = .ok true st ∧ d ρ1 st = .ok (f q) st) (hl : l.length ≤ 16777216) :
    lcF pt dt d chk ρ l [] st = .ok (l.map f) st := by
  have z := lc_pure (pt := pt) (dt := dt) (d := d) (chk := chk) (ρ := ρ) (st := st) (fun _ => true) f hc l [] (fun q hq => by
    obtain ⟨ρ1, e1, e2, e3⟩ := h q hq
    exact ⟨ρ1, e1, e2, fun _ => e3⟩) (by simpa using hl)
  rw [List.filter_eq_self.mpr (fun _ _ => rfl), List.nil_append] at z
  exact z
@[simp] theorem sL_l {n : Nat} {l : List PV} : (sL n l).l = l := rfl
@[simp] theorem e_augS {f : Int → Int → Int} {da db d : Env → Mo PV} {ρ : PD.Env} : dAugS f da db d ρ = bnd (da ρ) fun q => bnd (db ρ) fun i => bnd (bnd (lstM q) fun l => ixQ l i) fun x => bnd (d ρ) fun y => bnd (oI (fun x y => .int (f x y)) x y) fun z => bnd (setM q i z) fun _ => fun st => .ok (.nx ρ) st := rfl
theorem ixN_nat {n i : Nat} (h : i < n) : ixN n (i : Int) = some i := by
  unfold ixN
  have h1 : (i : Int) < (n : Int) := by omega
  simp [h1]
end PD
/-! PD: a law's end. -/
namespace PD
open PySem PySem.Spec PyProof.Rows L2
/-- a list of ints is what the script is -/
def ScrAt (p : PV) (ns : List Int) (st : Sto) : Prop := p = .kl ns ∨ ∃ i lk, p = .loc i ∧ st[i]? = some (.lst lk (ns.map PV.int))
theorem rs_nil {W : Wd} {H : Hp} (h1 : ∀ P ∈ W.tb, H P = some (.tbl #[])) (h2 : ∀ p ∈ W.tl, H p.1 = some (.tbl #[])) : RS W [] [] H :=
  ⟨rfl, List.nodup_nil, fun n o a h => by simp at h, fun P hP => ⟨#[], h1 P hP, True.intro⟩, fun p hp => ⟨#[], h2 p hp, True.intro, fun pos cv h => by cases h⟩⟩
theorem rs_one {W : Wd} {H : Hp} {a : Addr} {o : Ob} (h1 : ∀ P ∈ W.tb, H P = some (.tbl #[])) (h2 : ∀ p ∈ W.tl, H p.1 = some (.tbl #[])) (h3 : RO W [a] H a o) : RS W [a] [o] H :=
  ⟨rfl, by simp, fun n u b h1 h2 => by
    cases n with
    | zero =>
      cases h1
      cases h2
      exact h3
    | succ n => simp at h1, fun P hP => ⟨#[], h1 P hP, True.intro⟩, fun p hp => ⟨#[], h2 p hp, True.intro, fun pos cv h => by cases h⟩⟩
theorem sp_law {W : Wd} {H : Hp} {a : Addr} {ns : List Int} {n : Nat} {F : List PV → Mo PV} (h1 : ∀ P ∈ W.tb, H P = some (.tbl #[])) (h2 : ∀ p ∈ W.tl, H p.1 = some (.tbl #[])) (hl : ns.length ≤ n) (hn : n ≤ 10000) (hs : SqL W.K H a (ns.map V.int))
    (hF : ∀ (p : PV) (ns : List Int) (st : Sto), ScrAt p ns st → ns.length ≤ n → Ok (F [p] st) (fun q _ => q = .bl true)) : spF W 1 F [.ref a] H (fun v _ => v = .bl true) fun _ _ _ => False := by
  have good : ∀ (ι : List Addr) (p : PV) (st : Sto), ScrAt p ns st → Good W E0 ι H (F [p] st) (kQ W fun v _ => v = .bl true) := fun ι p st h => by
    obtain ⟨q, s, e, rfl⟩ := (hF p ns st h hl).ex
    rw [e]
    intro ι' H' m rs v hv
    cases hv
    rfl
  rcases hs with hs | hs
  · rcases hs with e | ⟨o, e⟩
    · exact ⟨[a], [.loc 0], [.lst false (ns.map PV.int)], rs_one h1 h2 ⟨_, e, RVs.ints ns, by rw [List.length_map]; omega⟩, .cons (.loc rfl) .nil, rfl, good _ _ _ (.inr ⟨0, false, rfl, rfl⟩)⟩
    · exact ⟨[a], [.loc 0], [.lst true (ns.map PV.int)], rs_one h1 h2 ⟨o, _, e, RVs.ints ns, by rw [List.length_map]; omega⟩, .cons (.loc rfl) .nil, rfl, good _ _ _ (.inr ⟨0, true, rfl, rfl⟩)⟩
  · exact ⟨[], [.kl ns], [], rs_nil h1 h2, .cons (.kl hs (by omega)) .nil, rfl, good _ _ _ (.inl rfl)⟩
theorem lawAtS_of {l : PySem.W.OpenLaw} {w : World} {W : Wd} {h : Heap} {k n : Nat} {fa : Addr} {F : List PV → Mo PV} {cs : List (Addr × Addr)} {x qual a0 : Str} {params : Arguments} {body : List Stmt} {scope : Scope} {fd : FuncData}
    (hcs : ∀ p ∈ cs, h.get? p.2 = some { cls := .none, data := .fields #[] }) (hK : ∀ p ∈ cs, W.K.lookup p.2 = none) (hC : ∀ p ∈ cs, PySem.W.CodeHd h p.1 p.2)
    (Fd : FunD W.K x qual params body scope [] [] fa fd) (hb : ∀ (kV doc pm : Value) (an : Option Addr) (cdv ct : Value) (us : List Value), us.length = [a0].length → bindArgs (PySem.W.fnOf x qual params body scope .none kV doc pm an cdv ct) ⟨us, []⟩ = pure ([a0].zip us))
    (htb : ∀ P ∈ W.tb, ∃ p ∈ cs, p.2 = P) (htl : ∀ q ∈ W.tl, ∃ p ∈ cs, p.2 = q.1) (hn : n ≤ 10000)
    (hF : ∀ (p : PV) (ns : List Int) (st : Sto), ScrAt p ns st → ns.length ≤ n → Ok (F [p] st) (fun q _ => q = .bl true))
    (ok : ∀ base : Heap, W.K.In base → base.Ns mainGlobals W.mg → (∀ p ∈ cs, GxR.TabB base W.mg p.1 p.2) → FnOk l.prog w W.K W.mg base W.cx k fa fd [a0] (spF W 1 F)) : LamX.LawAtS l w W.K W.cx k n a0 W.mg fa h := by
  refine ⟨fd, cs, spF W 1 F, hcs, hK, hC, fun s u => Fd.bindsA (ps := [a0]) hb s [u] rfl, fun H a ns hl _ hT hS => sp_law (fun P hP => ?_) (fun q hq => ?_) hl hn hS hF, fun base h1 h2 h3 => ok base h1 h2 fun p hp => ?_⟩
  · obtain ⟨p, hp, rfl⟩ := htb P hP
    exact hT p hp
  · obtain ⟨p, hp, e⟩ := htl q hq
    rw [← e]
    exact hT p hp
  · obtain ⟨c, b, g⟩ := h3 p hp
    exact ⟨c, b, g⟩
end PD
/-! PD: xs[::-1], text slices, upper, extend, index, len(set(..)). -/
namespace HT
open PySem PySem.Spec PyProof.Rows L2
section
variable {prog : Program} {w : World} {A : Around} {E : Value → Shared → Prop} {s : Shared}
theorem pick_rev (xs : Array Value) : ((List.range xs.size).filterMap fun (m : Nat) => xs[(((xs.size : Int) - 1) + (m : Int) * (-1)).toNat]?).toArray = xs.toList.reverse.toArray := by
  congr 1
  refine List.ext_getElem? fun i => ?_
  have e : ((List.range xs.size).filterMap fun (m : Nat) => xs[(((xs.size : Int) - 1) + (m : Int) * (-1)).toNat]?) = (List.range xs.size).map fun m => xs.toList.getD (xs.size - 1 - m) .none := by
    have aux : ∀ (f : Nat → Option Value) (g : Nat → Value) (l : List Nat), (∀ m ∈ l, f m = some (g m)) → l.filterMap f = l.map g := fun f g l => by
      induction l with
      | nil => intro _; rfl
      | cons a l ih => intro h; rw [List.filterMap_cons, h a (List.mem_cons_self ..), List.map_cons, ih fun m hm => h m (List.mem_cons_of_mem _ hm)]
    refine aux _ _ _ fun m hm => ?_
    have hm := List.mem_range.mp hm
    have h1 : (((xs.size : Int) - 1) + (m : Int) * (-1)).toNat = xs.size - 1 - m := by omega
    rw [h1]
    have h2 : xs.size - 1 - m < xs.size := by omega
    simp [h2]
  rw [e, List.getElem?_map]
  by_cases hi : i < xs.size
  · rw [List.getElem?_range hi, List.getElem?_reverse (by simpa using hi)]
    have h2 : xs.size - 1 - i < xs.size := by omega
    simp [h2]
  · rw [List.getElem?_eq_none (by simp; omega), List.getElem?_eq_none (by simp; omega)]
    rfl
theorem getItem_tuple_rev {t sl : Addr} {items : Array Value} {tk : Tok} {Q : Value → Shared → Prop} (ht : IsTup s.heap t items) (hs : s.heap.IsSliceOf sl .none .none (.int (-1) tk))
    (h : Q (.ref s.heap.objs.size) { s with heap := s.heap.push { cls := .type "tuple", data := .seq items.toList.reverse.toArray } })
    (hsz : items.size ≤ sizeLine) : wpAny (model prog w) A (getItem (.ref t) (.ref sl)) Q E s := by
  have htake : sizeOk (.seq items.toList.reverse.toArray) := by
    show items.toList.reverse.toArray.size ≤ sizeLine
    rw [List.size_toArray, List.length_reverse, Array.length_toList]
    exact hsz
  obtain ⟨os, hos, hcs, hds⟩ := id hs
  have hTs : s.TypeIs (.ref sl) "slice" := ⟨os, hos, hcs⟩
  unfold getItem
  try with_reducible refine wpAny_holding ?_
  first | refine wpAny_bind (wpAny_pure ?_) | skip
  refine wpAny_bind (wpAny_sequenceKey ht.typeIs (by decide) ?_)
  refine wpAny_bind (wpAny_callSpecial?_slot (name := Str.ofString "__getitem__") ht.typeIs PyProof.Rows.slot_tuple_getitem
    (wpAny_call_entry PyProof.Rows.slot_tuple_getitem ht.typeIs entry_tuple_getitem ?_ (args_tuple_getitem _ _)))
  show wpAny _ _ (Builtin.Tuple.tupleItemsOf (.ref t) >>= _) _ _ s
  refine wpAny_bind (tupleItemsOf_ ht ?_)
  refine wpAny_bind (wpAny_typeOf hTs ?_)
  rw [if_pos (by decide)]
  have ap : ∀ Q' : Int × Int × Nat → Shared → Prop, Q' ((items.size : Int) - 1, -1, items.size) s → wpAny (model prog w) (A.in1) (Builtin.Slice.sliceApplied (.ref sl) (pure (items.size : Int))) Q' E s := fun Q' hq => by
    unfold Builtin.Slice.sliceApplied Builtin.Slice.sliceFields
    refine wpAny_bind (wpAny_bind (wpAny_field hos hds (x := .none) rfl (wpAny_bind (wpAny_field hos hds (x := .none) rfl (wpAny_bind (wpAny_field hos hds (x := .int (-1) tk) rfl (wpAny_pure ?_)))))))
    refine wpAny_bind (slicePart_ (.int (-1) tk) ?_)
    show wpAny _ _ (if ((-1 : Int) == 0) = true then _ else _) _ _ s
    rw [if_neg (by decide)]
    refine wpAny_bind (slicePart_ .none (wpAny_bind (slicePart_ .none (wpAny_bind (wpAny_pure ?_)))))
    have hp : Builtin.Slice.slicePlaces ((items.size : Int) - 1) (-1) (-1) = items.size := by
      unfold Builtin.Slice.slicePlaces
      have h1 : ¬ ((-1 : Int) > 0) := by omega
      simp only [h1, if_false]
      split
      · rw [show (-(-1) : Int) = 1 from rfl, Int.ediv_one]
        omega
      · omega
    show wpAny _ _ (pure ((items.size : Int) - 1, (-1 : Int), Builtin.Slice.slicePlaces ((items.size : Int) - 1) (-1) (-1))) _ _ s
    rw [hp]
    exact wpAny_pure hq
  refine wpAny_bind (ap _ ?_)
  have hno : ¬ ((((items.size : Int) - 1) == 0 && (-1 : Int) == 1 && items.size == items.size) = true) := by
    intro q
    rw [Bool.and_eq_true, Bool.and_eq_true] at q
    exact absurd (eq_of_beq q.1.2) (by decide)
  show wpAny _ _ (if (((items.size : Int) - 1) == 0 && (-1 : Int) == 1 && items.size == items.size) = true then _ else _) _ _ s
  rw [if_neg hno, pick_rev]
  first
    | exact wpAny_bind (m := Builtin.Tuple.tupleExact _) (wpAny_newObj_type (wpAny_pure ⟨_, rfl, wpAny_pure h⟩) htake)
    | exact wpAny_bind (m := Builtin.Tuple.tupleExact _) (wpAny_newObj_type (wpAny_bind (wpAny_pure (wpAny_pure ⟨_, rfl, wpAny_pure h⟩))) htake)
    | exact wpAny_bind (wpAny_bind (m := Builtin.Tuple.tupleExact _) (wpAny_newObj_type (wpAny_pure (wpAny_pure ⟨_, rfl, wpAny_pure h⟩)) htake))
    | exact wpAny_bind (wpAny_bind (m := Builtin.Tuple.tupleExact _) (wpAny_newObj_type (wpAny_pure ⟨_, rfl, wpAny_pure h⟩) htake))
end
end HT
/-! PD: dicts with int and text keys. -/
namespace PD
open PySem PySem.Spec PyProof.Rows L2
def keq : PV → PV → Bool
  | .int i, .int j => decide (i = j)
  | .str x, .str y => decide (x = y)
  | _, _ => false
def isKey : PV → Bool
  | .int _ => true
  | .str _ => true
  | _ => false
def lookP (l : List (PV × PV)) (y : PV) : Option PV := (l.find? fun kv => keq kv.1 y).map (·.2)
def putP (l : List (PV × PV)) (y z : PV) : List (PV × PV) := if (l.any fun kv => keq kv.1 y) = true then l.map (fun kv => if keq kv.1 y = true then (kv.1, z) else kv) else l ++ [(y, z)]
theorem keq_kP {k j : Key} : keq (kP k) (kP j) = decide (k = j) := by
  cases k <;> cases j <;> simp [kP, keq]
theorem keq_self {y : PV} (h : isKey y = true) : keq y y = true := by
  cases y <;> simp [isKey] at h <;> simp [keq]
theorem keq_eq {x y : PV} (h : keq x y = true) : x = y := by
  cases x <;> cases y <;> simp [keq] at h <;> subst h <;> rfl
theorem isKey_kP {y : PV} (h : isKey y = true) : ∃ k : Key, y = kP k := by
  cases y <;> simp [isKey] at h
  · exact ⟨.inl _, rfl⟩
  · exact ⟨.inr _, rfl⟩
theorem rv_key {W : Wd} {ι : List Addr} {H : Hp} {k : Key} {v : V} (h : RV W ι H v (kP k)) : v = kV k := by
  cases k <;> cases h <;> rfl
theorem rv_kP {W : Wd} {ι : List Addr} {H : Hp} {k : Key} : RV W ι H (kV k) (kP k) := by
  cases k
  · exact .int _
  · exact .str _
section
variable {W : Wd} {ι ι' : List Addr} {H : Hp}
theorem RKs.length : ∀ {ks : List (Key × V)} {l : List (PV × PV)}, RKs W ι H ks l → ks.length = l.length
  | _, _, .nil => rfl
  | _, _, .cons _ r => by rw [List.length_cons, List.length_cons, r.length]
theorem RKs.look {k : Key} : ∀ {ks : List (Key × V)} {l : List (PV × PV)}, RKs W ι H ks l → match lookP l (kP k) with | some p => ∃ v, valV ks k = some v ∧ RV W ι H v p | none => valV ks k = none
  | _, _, .nil => rfl
  | _, _, .cons (k := j) (v := v) (p := p) (vs := vs) (ps := ps) h r => by
    by_cases e : j = k
    · have e1 : lookP ((kP j, p) :: ps) (kP k) = some p := by
        unfold lookP
        rw [List.find?_cons, keq_kP, decide_eq_true e]
        rfl
      rw [e1]
      exact ⟨v, valV_pos (p := (j, v)) e, h⟩
    · have e1 : lookP ((kP j, p) :: ps) (kP k) = lookP ps (kP k) := by
        unfold lookP
        rw [List.find?_cons, keq_kP, decide_eq_false e]
      rw [e1, valV_neg (p := (j, v)) e]
      exact RKs.look r
theorem RKs.any {k : Key} : ∀ {ks : List (Key × V)} {l : List (PV × PV)}, RKs W ι H ks l → (l.any fun kv => keq kv.1 (kP k)) = ks.any fun kv => decide (kv.1 = k)
  | _, _, .nil => rfl
  | _, _, .cons (k := j) _ r => by
    rw [List.any_cons, List.any_cons, keq_kP, RKs.any r]
theorem RKs.repl {k : Key} {v : V} {p : PV} (hv : RV W ι H v p) : ∀ {ks : List (Key × V)} {l : List (PV × PV)}, RKs W ι H ks l → RKs W ι H (ks.map fun kv => if kv.1 = k then (kv.1, v) else kv) (l.map fun kv => if keq kv.1 (kP k) = true then (kv.1, p) else kv)
  | _, _, .nil => .nil
  | _, _, .cons (k := j) h r => by
    rw [List.map_cons, List.map_cons, keq_kP]
    by_cases e : j = k
    · rw [if_pos e, if_pos (decide_eq_true e)]
      exact .cons hv (RKs.repl hv r)
    · rw [if_neg e, if_neg (by rw [decide_eq_false e]; simp)]
      exact .cons h (RKs.repl hv r)
theorem RKs.snoc {k : Key} {v : V} {p : PV} (hv : RV W ι H v p) : ∀ {ks : List (Key × V)} {l : List (PV × PV)}, RKs W ι H ks l → RKs W ι H (ks ++ [(k, v)]) (l ++ [(kP k, p)])
  | _, _, .nil => .cons hv .nil
  | _, _, .cons h r => .cons h (RKs.snoc hv r)
theorem RKs.put {ks : List (Key × V)} {l : List (PV × PV)} {k : Key} {v : V} {p : PV} (r : RKs W ι H ks l) (hv : RV W ι H v p) : RKs W ι H (putK ks k v) (putP l (kP k) p) := by
  unfold putK putP
  rw [r.any]
  by_cases h : (ks.any fun kv => decide (kv.1 = k)) = true
  · rw [if_pos h, if_pos h]
    exact r.repl hv
  · rw [if_neg h, if_neg h]
    exact r.snoc hv
theorem ro_pre (m : ∀ (n : Nat) (a : Addr), ι[n]? = some a → ι'[n]? = some a) {a : Addr} {o : Ob} (h : RO W ι H a o) : RO W ι' H a o := by
  cases o with
  | lst lk l =>
    cases lk with
    | false => obtain ⟨ws, q1, q2, q3⟩ := h; exact ⟨ws, q1, rvs_pre m _ _ q2, q3⟩
    | true => obtain ⟨o, ws, q1, q2, q3⟩ := h; exact ⟨o, ws, q1, rvs_pre m _ _ q2, q3⟩
  | dct lk l =>
    cases lk with
    | false => obtain ⟨ws, q1, q2⟩ := h; exact ⟨ws, q1, rks_pre m q2⟩
    | true => obtain ⟨o, ws, q1, q2⟩ := h; exact ⟨o, ws, q1, rks_pre m q2⟩
  | sti l => exact h
/-- a new object is put into the store -/
theorem rs_lay {st : Sto} {p : Addr} {u : HO} {o : Ob} (rs : RS W ι st H) (hp : H p = none) (hr : RO W ι (upd H p u) p o) : RS W (ι ++ [p]) (st ++ [o]) (upd H p u) ∧ Mono ι H (ι ++ [p]) (upd H p u) := by
  have r1 : RS W ι st (upd H p u) := rs.other hp
  have hn : p ∉ ι := fun ha => by
    obtain ⟨n, ob, _, _, r⟩ := rs.at_ ha
    obtain ⟨x, e, _⟩ := r.there
    rw [hp] at e
    cases e
  have pre : ∀ (n : Nat) (a : Addr), ι[n]? = some a → (ι ++ [p])[n]? = some a := fun n x hx => by
    rw [List.getElem?_append_left (List.getElem?_eq_some_iff.mp hx).1]
    exact hx
  refine ⟨⟨by rw [List.length_append, List.length_append, r1.len]; rfl, ?_, fun n o x h3 h4 => ?_, r1.tb, r1.tl⟩, pre, fun x hx hx0 => ?_, fun x o hx hx0 => ⟨o, (upd_ne (ne_of_none hx hp)).trans hx, Kp.refl o⟩⟩
  · rw [List.nodup_append]
    refine ⟨r1.nd, by simp, fun x hx y hy => ?_⟩
    rw [List.mem_singleton] at hy
    subst hy
    exact fun zz => hn (zz ▸ hx)
  · by_cases hlt : n < ι.length
    · rw [List.getElem?_append_left hlt] at h4
      rw [List.getElem?_append_left (by rw [← r1.len]; exact hlt)] at h3
      exact ro_pre pre (r1.ob n o x h3 h4)
    · have h5 : n < (ι ++ [p]).length := (List.getElem?_eq_some_iff.mp h4).1
      have e2 : n = ι.length := by
        rw [List.length_append] at h5
        simp at h5
        omega
      subst e2
      rw [List.getElem?_append_right (Nat.le_refl _), Nat.sub_self] at h4
      rw [r1.len, List.getElem?_append_right (Nat.le_refl _), Nat.sub_self] at h3
      cases h3
      cases h4
      exact ro_pre pre hr
  · rcases List.mem_append.mp hx with h3 | h3
    · exact absurd h3 hx0
    · rw [List.mem_singleton] at h3
      rw [h3]
      exact hp
end
/-- the store with a new object -/
def layO (o : Ob) : Mo PV := fun st => .ok (.loc st.length) (st ++ [o])
section
variable {X : Cx} {W : Wd} {k : Nat} {E : XK} {a b c e : Expr} {es : List Expr} {pos : Pos} {da db dc : Env → Mo PV}
theorem good_lay {ι : List Addr} {st : Sto} {H : Hp} {Q : VK} {o : Ob} {u : HO} {p : Addr} (g : Good W E ι H (layO o st) (kQ W Q)) (rs : RS W ι st H) (hp : H p = none) (hr : RO W ι (upd H p u) p o) : Q (.ref p) (upd H p u) := by
  obtain ⟨r, m⟩ := rs_lay rs hp hr
  refine g _ _ m r _ (.loc ?_)
  rw [← rs.len, List.getElem?_append_right (Nat.le_refl _), Nat.sub_self]
  rfl
theorem de_dnew : DE X W k E (.Dict [] [] pos) (fun _ => layO (.dct false [])) := ⟨fun _ => pe_imp pe_dnewK fun σ H Q t => by
  obtain ⟨ι, ρ, st, re, rs, g⟩ := t
  exact fun p hp => good_lay g rs hp ⟨[], upd_same, .nil⟩⟩
/-- the dict at a place -/
def dctM (q : PV) : Mo (List (PV × PV)) := fun st => match q with
  | .loc n => match st[n]? with
    | some (.dct _ l) => .ok l st
    | _ => .stuck
  | _ => .stuck
theorem dct_of {α : Type} {ι : List Addr} {st : Sto} {H : Hp} {x : V} {q : PV} {ff : List (PV × PV) → Mo α} {kk : α → Sto → List Addr → Hp → Prop} (rs : RS W ι st H) (hx : RV W ι H x q) (g : Good W E ι H (bnd (dctM q) ff st) kk) :
    ∃ a ks l, x = .ref a ∧ Rd H a (.dK ks) ∧ RKs W ι H ks l ∧ Good W E ι H (ff l st) kk := by
  replace g := Good.bind g
  cases hx <;> try exact g.elim
  rename_i n a hn
  unfold dctM at g
  dsimp only at g
  cases q : st[n]? with
  | none => rw [q] at g; exact g.elim
  | some ob =>
    rw [q] at g
    have ro := rs.ob n ob a q hn
    cases ob with
    | lst _ _ => exact g.elim
    | sti _ => exact g.elim
    | dct lk l =>
      cases lk with
      | true => obtain ⟨o, ks, e, r⟩ := ro; exact ⟨a, ks, l, rfl, .inr ⟨o, e⟩, r, g.ok rs⟩
      | false => obtain ⟨ks, e, r⟩ := ro; exact ⟨a, ks, l, rfl, .inl e, r, g.ok rs⟩
def lookM (y : PV) (l : List (PV × PV)) : Mo PV := fun st => if isKey y = true then (match lookP l y with | some z => .ok z st | none => .stuck) else .stuck
def hasM' (ng : Bool) (y : PV) (l : List (PV × PV)) : Mo PV := fun st => if isKey y = true then .ok (.bl (if ng then !(lookP l y).isSome else (lookP l y).isSome)) st else .stuck
theorem look_of {ι : List Addr} {st : Sto} {H : Hp} {y : V} {i : PV} {a : Addr} {ks : List (Key × V)} {l : List (PV × PV)} {kk : PV → Sto → List Addr → Hp → Prop} (hd : Rd H a (.dK ks)) (r : RKs W ι H ks l) (hy : RV W ι H y i) (g : Good W E ι H (lookM i l st) kk) (rs : RS W ι st H) : ∃ v p, DGet H a y (some v) ∧ RV W ι H v p ∧ kk p st ι H := by
  obtain ⟨hk, g⟩ := good_if g
  obtain ⟨k, rfl⟩ := isKey_kP hk
  have z := r.look (k := k)
  cases q : lookP l (kP k) with
  | none => rw [q] at g; exact g.elim
  | some p =>
    rw [q] at z g
    obtain ⟨v, e, hv⟩ := z
    exact ⟨v, p, .inl ⟨ks, k, hd, rv_key hy, e.symm⟩, hv, g.ok rs⟩
theorem has_of {ng : Bool} {ι : List Addr} {st : Sto} {H : Hp} {y : V} {i : PV} {a : Addr} {ks : List (Key × V)} {l : List (PV × PV)} {kk : PV → Sto → List Addr → Hp → Prop} (hd : Rd H a (.dK ks)) (r : RKs W ι H ks l) (hy : RV W ι H y i) (g : Good W E ι H (hasM' ng i l st) kk) (rs : RS W ι st H) : ∃ o, DGet H a y o ∧ kk (.bl (if ng then !o.isSome else o.isSome)) st ι H := by
  obtain ⟨hk, g⟩ := good_if g
  obtain ⟨k, rfl⟩ := isKey_kP hk
  have z := r.look (k := k)
  refine ⟨valV ks k, .inl ⟨ks, k, hd, rv_key hy, rfl⟩, ?_⟩
  have e : (lookP l (kP k)).isSome = (valV ks k).isSome := by
    cases q : lookP l (kP k) with
    | none => rw [q] at z; rw [z]; rfl
    | some p => rw [q] at z; obtain ⟨v, e, _⟩ := z; rw [e]; rfl
  rw [e] at g
  exact g.ok rs
theorem de_dget (ha : DE X W k E a da) (hb : DE X W k E b db) (hs : NoSl b := by intro _ _; rfl) : DE X W k E (.Subscript a b pos) (fun ρ => bnd (da ρ) fun q => bnd (db ρ) fun i => bnd (dctM q) (lookM i)) :=
  ⟨fun o => pe_imp (pe_dget (by have := o.room.un; omega) (ha.run o) (hb.run o) hs) fun σ H Q t => by
    obtain ⟨ι, ρ, st, re, rs, g⟩ := t
    refine ⟨ι, ρ, st, re, rs, Good.imp (Good.bind g) fun q st1 ι1 H1 m1 r1 g1 x hx => ?_⟩
    refine ⟨ι1, ρ, st1, re.mono rs m1, r1, Good.imp (Good.bind g1) fun i st2 ι2 H2 m2 r2 g2 y hy => ?_⟩
    obtain ⟨d, ks, l, rfl, hd, r, g3⟩ := dct_of r2 (rv_mono r1 m2 q x hx) g2
    obtain ⟨v, p, e1, hv, g4⟩ := look_of hd r hy g3 r2
    exact ⟨d, v, rfl, e1, g4 v hv⟩⟩
theorem pc_dhas {ng : Bool} {op : CmpOp} {t : TE} (hop : On X W k E → PC X op a b t) (ht : ∀ σ H Q, (tD W E da σ H fun y H1 => tD W E db σ H1 fun x H2 => ∃ d o, x = .ref d ∧ DGet H2 d y o ∧ Q (.bl (if ng then !o.isSome else o.isSome)) H2) → t σ H Q) (hm : behindInMarks op b = false) :
    DE X W k E (.Compare a [op] [b] pos) (fun ρ => bnd (da ρ) fun i => bnd (db ρ) fun q => bnd (dctM q) (hasM' ng i)) :=
  ⟨fun o => pe_imp (pe_cmp (hop o) hm) fun σ H Q t => by
    obtain ⟨ι, ρ, st, re, rs, g⟩ := t
    refine ht σ H Q ⟨ι, ρ, st, re, rs, Good.imp (Good.bind g) fun i st1 ι1 H1 m1 r1 g1 y hy => ?_⟩
    refine ⟨ι1, ρ, st1, re.mono rs m1, r1, Good.imp (Good.bind g1) fun q st2 ι2 H2 m2 r2 g2 x hx => ?_⟩
    obtain ⟨d, ks, l, rfl, hd, r, g3⟩ := dct_of r2 hx g2
    obtain ⟨w, e1, g4⟩ := has_of hd r (rv_mono r1 m2 i y hy) g3 r2
    exact ⟨d, w, rfl, e1, g4 _ (.bl _)⟩⟩
theorem ptc_dhas {ng : Bool} {op : CmpOp} {t : TE} (hop : On X W k E → PC X op a b t) (ht : ∀ σ H Q, (tD W E da σ H fun y H1 => tD W E db σ H1 fun x H2 => ∃ d o, x = .ref d ∧ DGet H2 d y o ∧ Q (.bl (if ng then !o.isSome else o.isSome)) H2) → t σ H Q) (hm : behindInMarks op b = false) :
    DT X W k E (.Compare a [op] [b] pos) (dB (fun ρ => bnd (da ρ) fun i => bnd (db ρ) fun q => bnd (dctM q) (hasM' ng i))) :=
  ⟨fun o => pt_imp (pt_cmp (hop o) hm) fun σ H Q t => by
    obtain ⟨ι, ρ, st, re, rs, g⟩ := t
    refine ht σ H _ ⟨ι, ρ, st, re, rs, Good.imp (Good.bind (Good.bind g)) fun i st1 ι1 H1 m1 r1 g1 y hy => ?_⟩
    refine ⟨ι1, ρ, st1, re.mono rs m1, r1, Good.imp (Good.bind g1) fun q st2 ι2 H2 m2 r2 g2 x hx => ?_⟩
    obtain ⟨d, ks, l, rfl, hd, r, g3⟩ := dct_of r2 hx g2
    obtain ⟨w, e1, g4⟩ := has_of hd r (rv_mono r1 m2 i y hy) g3 r2
    exact ⟨d, w, rfl, e1, _, rfl, g4.ok r2⟩⟩
theorem de_din (ha : DE X W k E a da) (hb : DE X W k E b db) (hm : behindInMarks .In b = false := by rfl) : DE X W k E (.Compare a [.In] [b] pos) (fun ρ => bnd (da ρ) fun i => bnd (db ρ) fun q => bnd (dctM q) (hasM' false i)) :=
  pc_dhas (t := tDIn (tD W E da) (tD W E db)) (fun o => pc_din (by have := o.room.un; omega) (ha.run o) (hb.run o)) (fun σ H Q h => h) hm
theorem de_dnotin (ha : DE X W k E a da) (hb : DE X W k E b db) (hm : behindInMarks .NotIn b = false := by rfl) : DE X W k E (.Compare a [.NotIn] [b] pos) (fun ρ => bnd (da ρ) fun i => bnd (db ρ) fun q => bnd (dctM q) (hasM' true i)) :=
  pc_dhas (t := tDNotIn (tD W E da) (tD W E db)) (fun o => pc_dnotin (by have := o.room.un; omega) (ha.run o) (hb.run o)) (fun σ H Q h => h) hm
theorem dt_din (ha : DE X W k E a da) (hb : DE X W k E b db) (hm : behindInMarks .In b = false := by rfl) : DT X W k E (.Compare a [.In] [b] pos) (dB (fun ρ => bnd (da ρ) fun i => bnd (db ρ) fun q => bnd (dctM q) (hasM' false i))) :=
  ptc_dhas (t := tDIn (tD W E da) (tD W E db)) (fun o => pc_din (by have := o.room.un; omega) (ha.run o) (hb.run o)) (fun σ H Q h => h) hm
theorem dt_dnotin (ha : DE X W k E a da) (hb : DE X W k E b db) (hm : behindInMarks .NotIn b = false := by rfl) : DT X W k E (.Compare a [.NotIn] [b] pos) (dB (fun ρ => bnd (da ρ) fun i => bnd (db ρ) fun q => bnd (dctM q) (hasM' true i))) :=
  ptc_dhas (t := tDNotIn (tD W E da) (tD W E db)) (fun o => pc_dnotin (by have := o.room.un; omega) (ha.run o) (hb.run o)) (fun σ H Q h => h) hm
/-- d[y] = z -/
def putM (q y z : PV) : Mo Unit := fun st => match q with
  | .loc n => match st[n]? with
    | some (.dct false l) => if isKey y = true ∧ l.length < 16777216 then .ok () (st.set n (.dct false (putP l y z))) else .stuck
    | _ => .stuck
  | _ => .stuck
theorem put_of {ι : List Addr} {st : Sto} {H : Hp} {x y v : V} {q i z : PV} {kk : Unit → Sto → List Addr → Hp → Prop} (rs : RS W ι st H) (hx : RV W ι H x q) (hy : RV W ι H y i) (hv : RV W ι H v z) (g : Good W E ι H (putM q i z st) kk) : ∃ a H', x = .ref a ∧ DPut H a y v H' ∧ ∃ st', RS W ι st' H' ∧ Mono ι H ι H' ∧ kk () st' ι H' := by
  cases hx <;> try exact g.elim
  rename_i n a hn
  unfold putM at g
  dsimp only at g
  cases q : st[n]? with
  | none => rw [q] at g; exact g.elim
  | some ob =>
    rw [q] at g
    have ro := rs.ob n ob a q hn
    cases ob with
    | lst _ _ => exact g.elim
    | sti _ => exact g.elim
    | dct lk l =>
      cases lk with
      | true => exact g.elim
      | false =>
        obtain ⟨ks, e, r⟩ := ro
        dsimp only at g
        obtain ⟨⟨hk, hl⟩, g⟩ := good_if g
        obtain ⟨k, rfl⟩ := isKey_kP hk
        have m : Mono ι H ι (upd H a (.dK (putK ks k v))) := Mono.mut (List.mem_of_getElem? hn)
        have r2 := rs.upd (o := .dct false (putP l (kP k) z)) (ho := .dK (putK ks k v)) hn ⟨_, upd_same, rks_mono rs m (r.put hv)⟩
        exact ⟨a, _, rfl, .inl ⟨ks, k, e, rv_key hy, by rw [sizeLine_eq, r.length]; exact hl, rfl⟩, _, r2, m, g _ _ m r2⟩
def rPutD : TSet := fun x y v H Q => ∃ a H', x = .ref a ∧ DPut H a y v H' ∧ Q H'
end
end PD
/-! PD: dicts stored into, made of pairs; [::-1], text slices, upper, extend, index, len(set(..)). -/
namespace PD
open PySem PySem.Spec PyProof.Rows L2
section
variable {X : Cx} {W : Wd} {k : Nat} {E : XK} {a b c e : Expr} {es : List Expr} {p p2 pos : Pos} {da db dc d : Env → Mo PV} {dl : Env → Mo (List PV)}
theorem pset_put (hu : X.A.units + 1 < cLine) : PSet X rPutD := by
  intro pins s σ H o i v ov iv u Q I ro ri rv h
  obtain ⟨a, H', rfl, g, q⟩ := h
  cases ro
  exact d_setItem hu I g ri rv fun s' I' => ⟨H', I', q⟩
def gDb (da db : Env → Mo PV) : PV → Env → Mo Env := fun z ρ => bnd (da ρ) fun q => bnd (db ρ) fun i => bnd (putM q i z) fun _ => fun st => .ok ρ st
theorem dg_dsub (ha : DE X W k E a da) (hb : DE X W k E b db) (hs : ∀ v, assign (.Subscript a b pos) X.env v = (do
      let ov ← holding [v] (eval a X.env)
      let iv ← holding [v, ov] (eval b X.env)
      standAt pos
      holding [v, ov, iv] (setItem ov iv v)
      release [v, ov, iv] []) := by intro _; rfl) : DG X W k E (.Subscript a b pos) (gDb da db) := ⟨fun o => pg_imp (pg_sub (ha.run o) (hb.run o) (pset_put (by have := o.room.un; omega)) hs) fun v σ H Q t => by
  obtain ⟨ι, ρ, st, z, re, rs, r, g⟩ := t
  refine ⟨ι, ρ, st, re, rs, Good.imp (Good.bind g) fun q st1 ι1 H1 m1 r1 g1 x hx => ?_⟩
  refine ⟨ι1, ρ, st1, re.mono rs m1, r1, Good.imp (Good.bind g1) fun i st2 ι2 H2 m2 r2 g2 y hy => ?_⟩
  have re2 := (re.mono rs m1).mono r1 m2
  obtain ⟨w, H3, h1, h2, st3, r3, m3, g3⟩ := put_of r2 (rv_mono r1 m2 q x hx) hy (rv_mono r1 m2 z v (rv_mono rs m1 z v r)) (Good.bind g2)
  exact ⟨w, H3, h1, h2, g3.ok r3 σ (re2.mono r2 m3)⟩⟩
/-! ### extend -/
def extM : PV → List PV → Mo PV
  | q, [z] => bnd (lstW q) fun nl => bnd (lstU z) fun m => setL nl.1 (nl.2 ++ m) .non
  | _, _ => fail
theorem mok_ext : MOk W E rExtend extM := by
  intro ι st H x xs q l Q rs hx hxs g
  cases hxs with
  | nil => exact g.elim
  | cons h1 t1 =>
    cases t1 with
    | cons _ _ => exact g.elim
    | nil =>
      rename_i z
      obtain ⟨a, n, vs, l, rfl, hn, e, r, hz, g1⟩ := lw_of (ff := fun nl => bnd (lstU z) fun m => setL nl.1 (nl.2 ++ m) .non) rs hx g
      obtain ⟨b, ws, m, rfl, e2, r2, hz2, g2⟩ := lu_of (kk := fun m st1 ι1 H1 => Good W E ι1 H1 (setL n (l ++ m) .non st1) (kQ W Q)) rs h1 (Good.bind g1)
      have hl := (good_if g2).1
      rw [List.length_append] at hl
      exact ⟨a, b, vs, ws, rfl, rfl, e, e2, by rw [sizeLine_eq, r.length, r2.length]; exact hl, set_fin g2 rs hn (r.append r2) .non⟩
theorem de_extend {cpos apos : Pos} (ho : DE X W k E a d) (ha : DE X W k E e db) (hbase : attributeBase a "extend" X.env (eval a X.env) = eval a X.env := by rfl)
    (hfew : ((backTo cpos (starEach [e] X.env)).all (fun x => !x.1) && (backToKw cpos (keywordEach [] X.env)).all (fun x => x.1.isSome) && decide ([e].length + ([] : List Keyword).length + (if ([] : List Keyword).isEmpty then 0 else 1) < 30)) = true := by rfl)
    (hline : (apos.endLine == cpos.line) = true := by rfl) (hs : starEach [e] X.env = (false, eval e X.env) :: starEach [] X.env := by rfl) :
    DE X W k E (.Call (.Attribute a "extend" apos) [e] [] cpos) (fun ρ => bnd (d ρ) fun q => bnd (lstM q) fun _ => bnd (dCons db (fun _ st => .ok [] st) ρ) fun l => extM q l) :=
  de_lm PySem.F.slot_list_extend PySem.F.type_list_extend (fun o => mt_extend) mok_ext ho (da_cons ha da_nil hs) hbase hfew hline hs rfl
/-! ### text: slices, upper -/
def slTS (q : PV) (lo hi : Option Int) : Mo PV := fun st => match q with
  | .str z => if z.length ≤ 16777216 then .ok (.str (cutS z lo hi)) st else .stuck
  | _ => slT q lo hi st
theorem de_slTS {lo hi : Option Expr} {d1 d2 : Env → Mo (Option Int)} (h : DE X W k E e d) (h1 : DO X W k E lo d1) (h2 : DO X W k E hi d2) : DE X W k E (.Subscript e (.Slice lo hi none p2) pos) (dSl d d1 d2 slTS) :=
  ⟨fun o => pe_imp (pe_slice (SlR.or (r := rSlA W.K) (by rw [← o.hK]; exact sl_tupA) sl_str) (h.run o) (h1.run o) (h2.run o)) fun σ H Q t => by
    obtain ⟨ι, ρ, st, re, rs, g⟩ := t
    refine ⟨ι, ρ, st, re, rs, Good.imp (Good.bind g) fun q st1 ι1 H1 m1 r1 g1 v hv => ?_⟩
    refine ⟨ι1, ρ, st1, re.mono rs m1, r1, Good.imp (Good.bind g1) fun lo st2 ι2 H2 m2 r2 g2 => ?_⟩
    refine ⟨ι2, ρ, st2, (re.mono rs m1).mono r1 m2, r2, Good.imp (Good.bind g2) fun hi st3 ι3 H3 m3 r3 g3 => ?_⟩
    have hv3 := rv_mono r2 m3 q v (rv_mono r1 m2 q v hv)
    cases hv3 <;> first
      | exact g3.elim
      | (obtain ⟨hc, g4⟩ := good_if g3
         exact .inr ⟨_, rfl, line_le hc, g4.ok r3 _ (.str _)⟩)
      | (rename_i a vs l sq rr z
         refine .inl ⟨a, vs, rfl, sq, fun hw => ?_, fun _ w hw => ?_⟩
         · have e1 : cutP l lo hi = l := by
             unfold cutP
             rw [← rr.length, hw.1, hw.2]
             simp [rr.length]
           have g4 : Good W E ι3 H3 (.ok (.tup (cutP l lo hi)) st3) (kQ W Q) := g3
           rw [e1] at g4
           exact g4.ok r3 _ (.tup sq rr z)
         · exact good_newtup g3 r3 (cut_rv lo hi rr) (Nat.le_trans (cutP_len l lo hi) z) hw)⟩
def upM (q : PV) : Mo PV := fun st => match q with
  | .str z => if z.length ≤ 5592405 then .ok (.str (Txt.upper z)) st else .stuck
  | _ => .stuck
theorem de_upper {apos : Pos} (ho : DE X W k E a d) (hbase : attributeBase a "upper" X.env (eval a X.env) = eval a X.env := by rfl) (hline : (apos.endLine == pos.line) = true := by rfl) : DE X W k E (.Call (.Attribute a "upper" apos) [] [] pos) (fun ρ => bnd (d ρ) upM) :=
  ⟨fun o => pe_imp (pe_upper (ho.run o) hbase hline) fun σ H Q t => by
    obtain ⟨ι, ρ, st, re, rs, g⟩ := t
    refine ⟨ι, ρ, st, re, rs, Good.imp (Good.bind g) fun q st1 ι1 H1 m1 r1 g1 v hv => ?_⟩
    cases hv <;> first
      | exact g1.elim
      | (obtain ⟨hc, g2⟩ := good_if g1
         exact ⟨⟨_, rfl⟩, _, rfl, rfl, hc, g2.ok r1 _ (.str _)⟩)⟩
/-! ### [::-1] -/
def tRevT (K : PySem.W.Frag) (te : TE) : TE := fun σ H Q => te σ H fun x H1 => ∃ a xs, x = .ref a ∧ SqT K H1 a xs ∧ ∀ p, H1 p = none → Q (.ref p) (upd H1 p (.tup xs.reverse))
theorem pe_revT {te : TE} {k : Nat} {p1 p2 p3 : Pos} (he : PE X e te) : PE X (.Subscript e (.Slice none none (some (.UnaryOp .USub (.Constant (.int 1) k p1) p2)) p3) pos) (tRevT X.K te) := by
  refine ⟨fun pins s σ H Q I h => ?_⟩
  refine Subscript_ (thn (he.run pins s σ H _ I h) fun v s1 ⟨x, H1, I1, r1, q1⟩ => ?_)
  obtain ⟨a, xs, ex, hx, q⟩ := q1
  subst ex
  cases r1
  have hst : PO X (some (.UnaryOp .USub (.Constant (.int 1) k p1) p2)) (tPart (tUn (rU fun i => .int (-i)) (tC (.int 1)))) := po_some (pe_un un_neg pe_int)
  refine wpAny_Slice (thn (po_none.run pins s1 σ H1 (fun o H2 => o = none ∧ H2 = H1) I1 ⟨rfl, rfl⟩) fun vl s2 ⟨l, H2, I2, pl, el, e2⟩ => ?_)
  subst el e2
  refine thn (po_none.run pins s2 σ H2 (fun o H3 => o = none ∧ H3 = H2) I2 ⟨rfl, rfl⟩) fun vu s3 ⟨u, H3, I3, pu, eu, e3⟩ => ?_
  subst eu e3
  refine thn (hst.run pins s3 σ H3 (fun o H4 => o = some (-1) ∧ H4 = H3) I3 ⟨1, rfl, -1, rfl, rfl, rfl⟩) fun vs s4 ⟨o, H4, I4, ps, eo, e4⟩ => ?_
  subst eo e4
  cases pl
  cases pu
  cases ps with
  | int _ tk =>
    have I5 : Inv X pins σ H4 { s4 with heap := s4.heap.push { cls := .type "slice", data := .fields #[.none, .none, .int (-1) tk] } } := I4.kept (t' := s4.toks) fun b ob q => Heap.get?_push_of_some _ q
    obtain ⟨its, r, ht, hz⟩ := I5.tuple hx
    have hlen := r.length
    show wpAny (model X.prog X.w) X.A (subscriptTail e (.Slice none none (some (.UnaryOp .USub (.Constant (.int 1) k p1) p2)) p3) (.ref a) (.ref s4.heap.objs.size)) (EP X pins σ Q) X.xe { s4 with heap := s4.heap.push { cls := .type "slice", data := .fields #[.none, .none, .int (-1) tk] } }
    refine tail_any (ops := [.ref a, .ref s4.heap.objs.size]) ht.typeIs (PyProof.Rows.slot_tuple_getitem.lookup) ?_ (by with_unfolding_all rfl)
    refine HT.getItem_tuple_rev ht (Heap.IsSliceOf.new _ .none .none (.int (-1) tk)) ?_ (by rw [List.size_toArray]; omega)
    refine ⟨.ref _, _, I5.laid (t' := s4.toks) (o := .tup xs.reverse) (fun b ob q => Heap.get?_push_of_some _ q) (Nat.le_refl _) ?_, rfl, q _ (I5.hok.fresh (Nat.le_refl _))⟩
    exact ⟨by rw [List.length_reverse]; exact hz, _, r.reverse, IsTup.new _ _⟩
def revM (q : PV) : Mo PV := fun st => match q with
  | .tup l => .ok (.tup l.reverse) st
  | _ => .stuck
theorem de_revT {k0 : Nat} {p1 p2 p3 : Pos} (h : DE X W k E e d) : DE X W k E (.Subscript e (.Slice none none (some (.UnaryOp .USub (.Constant (.int 1) k0 p1) p2)) p3) pos) (fun ρ => bnd (d ρ) revM) :=
  ⟨fun o => pe_imp (pe_revT (h.run o)) fun σ H Q t => by
    obtain ⟨ι, ρ, st, re, rs, g⟩ := t
    refine ⟨ι, ρ, st, re, rs, Good.imp (Good.bind g) fun q st1 ι1 H1 m1 r1 g1 v hv => ?_⟩
    cases hv <;> first
      | exact g1.elim
      | (rename_i a vs l sq rr z
         have g2 : Good W E ι1 H1 (.ok (.tup l.reverse) st1) (kQ W Q) := g1
         exact ⟨a, vs, rfl, by rw [o.hK]; exact sq, fun p hp => good_newtup g2 r1 rr.reverse (by rw [List.length_reverse]; exact z) hp⟩)⟩
theorem dl_revL {k0 : Nat} {p1 p2 p3 : Pos} (h : DL X W k E e dl) : DL X W k E (.Subscript e (.Slice none none (some (.UnaryOp .USub (.Constant (.int 1) k0 p1) p2)) p3) pos) (fun ρ => bnd (dl ρ) fun l => fun st => .ok l.reverse st) :=
  ⟨fun o => pe_imp (pe_revL (h.run o)) fun σ H Q t => by
    obtain ⟨ι, ρ, st, re, rs, g⟩ := t
    refine ⟨ι, ρ, st, re, rs, Good.imp (Good.bind g) fun l st1 ι1 H1 m1 r1 g1 p vs hp hn e1 r z => ?_⟩
    refine ⟨p, vs, rfl, SqL.of e1, fun q hq => ?_⟩
    have m : Mono ι1 H1 ι1 (upd H1 q (.lst vs.reverse)) := Mono.new hq
    have hH : H q = none := by
      cases z0 : H q with
      | none => rfl
      | some o =>
        by_cases hi : q ∈ ι
        · obtain ⟨n, ob, e2, e3, ro⟩ := rs.at_ hi
          have e4 := m1.pre n q e3
          have : q ∈ ι1 := List.mem_of_getElem? e4
          obtain ⟨n', ob', _, _, ro'⟩ := r1.at_ this
          obtain ⟨x, e5, _⟩ := ro'.there
          rw [hq] at e5
          cases e5
        · obtain ⟨o', e5, _⟩ := m1.keep q o z0 hi
          rw [hq] at e5
          cases e5
    have hni : q ∉ ι1 := fun hi => by
      obtain ⟨n', ob', _, _, ro'⟩ := r1.at_ hi
      obtain ⟨x, e5, _⟩ := ro'.there
      rw [hq] at e5
      cases e5
    exact g1 ι1 _ m (r1.other hq) q vs.reverse hH hni upd_same (rvs_mono r1 m _ _ r.reverse) (by rw [List.length_reverse]; exact z)⟩
end
end PD
/-! PD: xs.index, len(set(..)), dict(pairs), len of a dict. -/
namespace PD
open PySem PySem.Spec PyProof.Rows L2
/-! ### distinct ints -/
def dst : List Int → List Int
  | [] => []
  | x :: l => if x ∈ l then dst l else x :: dst l
theorem mem_dst {k : Int} : ∀ {l : List Int}, k ∈ dst l ↔ k ∈ l
  | [] => Iff.rfl
  | x :: l => by
    unfold dst
    split
    · rename_i h
      rw [mem_dst, List.mem_cons]
      exact ⟨.inr, fun z => z.elim (fun e => e ▸ h) id⟩
    · rw [List.mem_cons, List.mem_cons, mem_dst]
theorem nodup_dst : ∀ l : List Int, (dst l).Nodup
  | [] => List.nodup_nil
  | x :: l => by
    unfold dst
    split
    · exact nodup_dst l
    · rename_i h
      exact List.nodup_cons.mpr ⟨fun z => h (mem_dst.mp z), nodup_dst l⟩
theorem dst_le : ∀ l : List Int, (dst l).length ≤ l.length
  | [] => Nat.le_refl _
  | x :: l => by
    unfold dst
    have := dst_le l
    split <;> simp <;> omega
theorem nodup_le_of {l m : List Int} (hn : l.Nodup) (h : ∀ a ∈ l, a ∈ m) : l.length ≤ m.length := by
  induction l generalizing m with
  | nil => exact Nat.zero_le _
  | cons a l ih =>
    have hm := h a (List.mem_cons_self ..)
    obtain ⟨h1, h2⟩ := List.nodup_cons.mp hn
    have := ih (m := m.erase a) h2 fun b hb => (List.mem_erase_of_ne (fun (e : b = a) => h1 (by rw [← e]; exact hb))).mpr (h b (List.mem_cons_of_mem _ hb))
    rw [List.length_erase_of_mem hm] at this
    have := List.length_pos_of_mem hm
    rw [List.length_cons]
    omega
theorem dst_length {l ns : List Int} (hn : l.Nodup) (h : ∀ k, k ∈ l ↔ k ∈ ns) : l.length = (dst ns).length :=
  Nat.le_antisymm (nodup_le_of hn fun a ha => mem_dst.mpr ((h a).mp ha)) (nodup_le_of (nodup_dst ns) fun a ha => (h a).mpr (mem_dst.mp ha))
theorem dst_nodup : ∀ {l : List Int}, l.Nodup ↔ (dst l).length = l.length
  | [] => by simp [dst]
  | x :: l => by
    unfold dst
    rw [List.nodup_cons]
    have hle := dst_le l
    split
    · rename_i h
      simp [h]
      omega
    · rename_i h
      rw [dst_nodup]
      simp [h]
theorem ne_before {i : Int} : ∀ {ns : List Int} {m : Nat}, m < ns.idxOf i → (h : m < ns.length) → (ns[m] == i) = false
  | [], _, _, h => absurd h (Nat.not_lt_zero _)
  | x :: ns, m, hm, h => by
    rw [List.idxOf_cons] at hm
    cases q : (x == i) with
    | true => rw [q] at hm; exact absurd hm (Nat.not_lt_zero _)
    | false =>
      rw [q] at hm
      cases m with
      | zero => exact q
      | succ m =>
        rw [List.getElem_cons_succ]
        have hm : m + 1 < ns.idxOf i + 1 := hm
        exact ne_before (by omega) _
section
variable {X : Cx} {W : Wd} {k : Nat} {E : XK} {a b c e : Expr} {es : List Expr} {p p2 q2 pos : Pos} {da db dc d : Env → Mo PV} {dl : Env → Mo (List PV)}
/-! ### len(set(..)) of ints -/
def tLenSetT (K : PySem.W.Frag) (ta : TE) : TE := fun σ H Q => ta σ H fun x H1 => ∃ (l : Addr) (ns : List Int), x = V.ref l ∧ SqT K H1 l (ns.map V.int) ∧ ns.length ≤ 4000 ∧ Q (.int (dst ns).length) H1
theorem pe_lenSetT {ta : TE} (hc : X.calm = true) (hg : Gl X "len") (hm : X.mg "len" = none) (hg2 : Gl X "set") (hm2 : X.mg "set" = none) (ha : PE X a ta)
    (na : starEach [a] X.env = (false, eval a X.env) :: starEach [] X.env := by rfl) : PE X (.Call (.Name "len" p) [.Call (.Name "set" p2) [a] [] q2] [] pos) (tLenSetT X.K ta) := by
  refine ⟨fun pins s σ H Q I h => ?_⟩
  refine Call_ (ld_blt I hg hm PySem.boot_len ?_)
  refine PyProof.Rows.callWith_builtin1 (PyProof.Rows.args_cons ?_ rfl) rfl rfl
  refine Call_ (ld_blt I hg2 hm2 PyProof.Rows.boot_set ?_)
  refine PyProof.Rows.callWith_type1 (PyProof.Rows.args_cons (thn (ha.run pins s σ H _ I h) fun v s1 ⟨x, H1, I1, r1, q1⟩ => PyProof.Rows.args_nil ?_) na) na rfl
  obtain ⟨l, ns, rfl, hq, h1, q1⟩ := q1
  cases r1
  obtain ⟨its, r, pl, hz⟩ := I1.tuple hq
  have hi : IntsAre its.toArray.toList ns := ints_of_vals (by simpa using r)
  refine call_set_tupI ns (I1.ok.hd hc) (show s1.heap.IsTuple l its.toArray from pl) hi (by unfold scanBound; omega) fun h' tk c hS _ hk => ?_
  refine PyProof.Rows.args_nil ?_
  obtain ⟨o, es, ep, t, ho, hex, hd, g, nd, hm3, hb, hf, hn, hr, hl2⟩ := hS
  have I2 : Inv X pins σ H1 { s1 with heap := h', toks := tk } := I1.kept fun b o e => hk b o e
  have hlen : es.size = (dst ns).length := by
    have z := dst_length (ns := ns) nd fun j => by rw [← hm3 j, decide_eq_true_eq]
    rw [List.length_map, Array.length_toList] at z
    exact z
  unfold scanBound at hb
  refine call_len_set ho hex hd hf (by omega) ⟨.int (dst ns).length, H1, I2.tok _, ⟨_, by rw [hlen]⟩, q1⟩
def intsV : List PV → Option (List Int)
  | [] => some []
  | .int i :: l => (intsV l).map (i :: ·)
  | _ :: _ => none
theorem intsV_some : ∀ {l : List PV} {ns : List Int}, intsV l = some ns → l = ns.map PV.int
  | [], ns, h => by cases h; rfl
  | p :: l, ns, h => by
    cases p <;> try (cases h; done)
    rename_i i
    have h : (intsV l).map (i :: ·) = some ns := h
    cases q : intsV l with
    | none => rw [q] at h; cases h
    | some m =>
      rw [q] at h
      cases h
      rw [intsV_some q]
      rfl
@[simp] theorem intsV_map (ns : List Int) : intsV (ns.map PV.int) = some ns := by
  induction ns with
  | nil => rfl
  | cons n ns ih => simp only [List.map_cons, intsV, ih, Option.map_some]
def lenSetM (q : PV) : Mo PV := fun st => match q with
  | .tup l => match intsV l with
    | some ns => if ns.length ≤ 4000 then .ok (.int (dst ns).length) st else .stuck
    | none => .stuck
  | _ => .stuck
theorem de_lenSet (h : DE X W k E a d) (hg : Gl X "len") (hm : W.mg "len" = none) (hg2 : Gl X "set") (hm2 : W.mg "set" = none)
    (na : starEach [a] X.env = (false, eval a X.env) :: starEach [] X.env := by rfl) : DE X W k E (.Call (.Name "len" p) [.Call (.Name "set" p2) [a] [] q2] [] pos) (fun ρ => bnd (d ρ) lenSetM) :=
  ⟨fun o => pe_imp (pe_lenSetT o.hc hg (by rw [o.hM]; exact hm) hg2 (by rw [o.hM]; exact hm2) (h.run o) na) fun σ H Q t => by
    obtain ⟨ι, ρ, st, re, rs, g⟩ := t
    refine ⟨ι, ρ, st, re, rs, Good.imp (Good.bind g) fun q st1 ι1 H1 m1 r1 g1 v hv => ?_⟩
    cases hv <;> first
      | exact g1.elim
      | (rename_i a vs l sq rr z
         have g2 : Good W E ι1 H1 (match intsV l with | some ns => if ns.length ≤ 4000 then .ok (.int (dst ns).length) st1 else .stuck | none => .stuck) (kQ W Q) := g1
         cases hns : intsV l with
         | none => rw [hns] at g2; exact g2.elim
         | some ns =>
           rw [hns] at g2
           obtain ⟨hc, g3⟩ := good_if g2
           have e := intsV_some hns
           subst e
           have e2 := RVs.of_ints rr
           subst e2
           exact ⟨a, ns, rfl, by rw [o.hK]; exact sq, hc, g3.ok r1 _ (.int _)⟩)⟩
/-! ### xs.index(x), ints -/
def idxM : PV → List PV → Mo PV
  | q, [.int i] => bnd (lstM q) fun l => fun st => match intsV l with
    | some ns => if i ∈ ns then .ok (.int (ns.idxOf i : Nat)) st else .stuck
    | none => .stuck
  | _, _ => fail
theorem flat_ints (ns : List Int) : (ns.map V.int).all flatV = true := by
  induction ns with
  | nil => rfl
  | cons n ns ih => rw [List.map_cons, List.all_cons, ih]; rfl
theorem mok_idx : MOk W E (rIndex W.K) idxM := by
  intro ι st H x xs q l Q rs hx hxs g
  cases hxs with
  | nil => exact g.elim
  | cons h1 t1 =>
    cases t1 with
    | cons _ _ => cases h1 <;> exact g.elim
    | nil =>
      cases h1 <;> try exact g.elim
      rename_i i
      obtain ⟨a, vs, l, rfl, sq, rr, hz, g2⟩ := lst_of (α := PV) rs hx (Good.bind g)
      cases hns : intsV l with
      | none => rw [hns] at g2; exact g2.elim
      | some ns =>
        rw [hns] at g2
        obtain ⟨hi, g3⟩ := good_if g2
        have e := intsV_some hns
        subst e
        have e2 := RVs.of_ints rr
        subst e2
        have hlt := List.idxOf_lt_length_iff.mpr hi
        refine ⟨a, ns.map V.int, .int i, ns.idxOf i, .int i, rfl, rfl, sq, rfl, flat_ints ns, ?_, ?_, fun m z hm hz => ?_, g3.ok rs _ (.int _)⟩
        · rw [List.getElem?_map, List.getElem?_eq_getElem hlt, List.getElem_idxOf]
          rfl
        · exact beq_self_eq_true i
        · rw [List.getElem?_map] at hz
          have hml : m < ns.length := by omega
          rw [List.getElem?_eq_getElem hml] at hz
          cases hz
          show (ns[m] == i) = false
          exact ne_before hm hml
theorem de_index {cpos apos : Pos} (ho : DE X W k E a d) (ha : DE X W k E e db) (hbase : attributeBase a "index" X.env (eval a X.env) = eval a X.env := by rfl)
    (hfew : ((backTo cpos (starEach [e] X.env)).all (fun x => !x.1) && (backToKw cpos (keywordEach [] X.env)).all (fun x => x.1.isSome) && decide ([e].length + ([] : List Keyword).length + (if ([] : List Keyword).isEmpty then 0 else 1) < 30)) = true := by rfl)
    (hline : (apos.endLine == cpos.line) = true := by rfl) (hs : starEach [e] X.env = (false, eval e X.env) :: starEach [] X.env := by rfl) :
    DE X W k E (.Call (.Attribute a "index" apos) [e] [] cpos) (fun ρ => bnd (d ρ) fun q => bnd (lstM q) fun _ => bnd (dCons db (fun _ st => .ok [] st) ρ) fun l => idxM q l) :=
  de_lm PySem.F.slot_list_index PySem.F.type_list_index (fun o => by rw [← o.hK]; exact mt_index) mok_idx ho (da_cons ha da_nil hs) hbase hfew hline hs rfl
end
end PD
/-! PD: dict(pairs), len of a dict. -/
namespace PD
open PySem PySem.Spec PyProof.Rows L2
def mergeP (l m : List (PV × PV)) : List (PV × PV) := m.foldl (fun acc kv => putP acc kv.1 kv.2) l
def pairsV : List PV → Option (List (PV × PV))
  | [] => some []
  | .tup [y, z] :: l => if isKey y = true then (pairsV l).map ((y, z) :: ·) else none
  | _ :: _ => none
section
variable {X : Cx} {W : Wd} {k : Nat} {E : XK} {a b c e : Expr} {es : List Expr} {p p2 q2 pos : Pos} {da db dc d : Env → Mo PV} {dl : Env → Mo (List PV)}
theorem rks_merge {ι : List Addr} {H : Hp} : ∀ {ms : List (Key × V)} {m : List (PV × PV)} {ks : List (Key × V)} {l : List (PV × PV)}, RKs W ι H ms m → RKs W ι H ks l → RKs W ι H (mergeK ks ms) (mergeP l m)
  | _, _, _, _, .nil, r => r
  | _, _, ks, l, .cons (k := k) (v := v) (p := p) (vs := vs) (ps := ps) h t, r => rks_merge (ks := putK ks k v) (l := putP l (kP k) p) t (r.put h)
theorem pairs_rv {ι : List Addr} {H : Hp} : ∀ {l : List PV} {vs : List V} {m : List (PV × PV)}, RVs W ι H vs l → pairsV l = some m → ∃ (ps : List Addr) (ms : List (Key × V)), vs = ps.map V.ref ∧ Paired (fun p kv => SqT W.K H p [kV kv.1, kv.2]) ps ms ∧ RKs W ι H ms m ∧ m.length = l.length
  | [], _, _, .nil, h => by
    cases h
    exact ⟨[], [], rfl, .nil, .nil, rfl⟩
  | q :: l, v :: vs, m, .cons hv r, h => by
    unfold pairsV at h
    split at h
    · rename_i e0
      cases e0
    · rename_i y z l1 e0
      cases e0
      split at h
      · rename_i hk
        cases q0 : pairsV l with
        | none => rw [q0] at h; cases h
        | some m1 =>
          rw [q0] at h
          cases h
          obtain ⟨ps, ms, rfl, h2, h3, h4⟩ := pairs_rv r q0
          obtain ⟨k, rfl⟩ := isKey_kP hk
          obtain ⟨a, us, rfl, sq, rr⟩ : ∃ a us, v = .ref a ∧ SqT W.K H a us ∧ RVs W ι H us [kP k, z] := by
            cases hv with
            | tup sq rr _ => exact ⟨_, _, rfl, sq, rr⟩
          cases rr with
          | cons h5 t5 =>
            cases t5 with
            | cons h6 t6 =>
              cases t6
              rw [rv_key h5] at sq
              exact ⟨a :: ps, (k, _) :: ms, rfl, .cons sq h2, .cons h6 h3, by rw [List.length_cons, List.length_cons, h4]⟩
      · cases h
    · cases h
def dictQ (l : List PV) : Mo PV := fun st => match pairsV l with
  | some m => layO (.dct false (mergeP [] m)) st
  | none => .stuck
theorem boot_dict__ : bootBuiltins "dict" = some (.type "dict") := by decide +kernel
theorem de_dictL (hq : DL X W k E e dl) (hg : Gl X "dict") (hm : W.mg "dict" = none) (hs : starEach [e] X.env = (false, eval e X.env) :: starEach [] X.env := by rfl) : DE X W k E (.Call (.Name "dict" p) [e] [] pos) (fun ρ => bnd (dl ρ) dictQ) :=
  ⟨fun o => pe_imp (pe_callTy (call_dictP o.hc) hg (by rw [o.hM]; exact hm) boot_dict__ (pa_cons (hq.run o) pa_nil hs) (by decide) (by decide) hs (by rfl)) fun σ H Q t => cbl_of (fun ι st H q vs l Q rs e1 r z g => by
    have g2 : Good W E ι H (match pairsV l with | some m => layO (.dct false (mergeP [] m)) st | none => .stuck) (kQ W Q) := g
    cases hp : pairsV l with
    | none => rw [hp] at g2; exact g2.elim
    | some m =>
      rw [hp] at g2
      obtain ⟨ps, ms, rfl, h2, h3, h4⟩ := pairs_rv r hp
      exact ⟨q, ps, ms, rfl, by rw [o.hK]; exact SqL.of e1, by rw [o.hK]; exact h2, fun p hp => good_lay g2 rs hp ⟨_, upd_same, rks_mono rs (Mono.new hp) (rks_merge h3 .nil)⟩⟩) t⟩
def rLenD : List V → Hp → VK → Prop := fun vs H Q => ∃ (a : Addr) (kvs : List (Key × V)), vs = [V.ref a] ∧ Rd H a (.dK kvs) ∧ Q (.int kvs.length) H
theorem cr_lenD : CallR X (.builtin "len") rLenD := by
  intro pins s σ H vs us Q I r h
  obtain ⟨a, kvs, rfl, hd, q⟩ := h
  rw [Vals.ref1 r]
  exact d_len I hd fun t s' I' => ⟨.int kvs.length, H, I', ⟨t, rfl⟩, q⟩
def lenD (q : PV) : Mo PV := bnd (dctM q) fun l => fun st => .ok (.int l.length) st
theorem de_lenD (h : DE X W k E e d) (hg : Gl X "len") (hm : W.mg "len" = none) (hs : starEach [e] X.env = (false, eval e X.env) :: starEach [] X.env := by rfl) : DE X W k E (.Call (.Name "len" p) [e] [] pos) (fun ρ => bnd (d ρ) lenD) :=
  ⟨fun o => pe_imp (pe_callB cr_lenD hg (by rw [o.hM]; exact hm) PySem.boot_len (pa_cons (h.run o) pa_nil hs) (by decide) (by decide) hs (by rfl)) fun σ H Q t => by
    obtain ⟨ι, ρ, st, re, rs, g⟩ := t
    refine ⟨ι, ρ, st, re, rs, Good.imp (Good.bind g) fun q st1 ι1 H1 m1 r1 g1 v hv => ?_⟩
    obtain ⟨a, ks, l, rfl, hd, r, g2⟩ := dct_of r1 hv g1
    refine ⟨a, ks, rfl, hd, ?_⟩
    rw [r.length]
    exact g2.ok r1 _ (.int _)⟩
end
/-! ### denotations, step by step -/
section
variable {Q : PV → Sto → Prop} {st : Sto} {l m : List PV} {kvs : List (PV × PV)} {n : Nat} {y z : PV}
@[simp] theorem m_layO {o : Ob} : layO o st = .ok (.loc st.length) (st ++ [o]) := rfl
@[simp] theorem m_dct : dctM (.loc n) st = match st[n]? with | some (.dct _ l) => .ok l st | _ => .stuck := rfl
@[simp] theorem m_look : lookM y kvs st = if isKey y = true then (match lookP kvs y with | some z => .ok z st | none => .stuck) else .stuck := rfl
@[simp] theorem m_has {ng : Bool} : hasM' ng y kvs st = if isKey y = true then .ok (.bl (if ng then !(lookP kvs y).isSome else (lookP kvs y).isSome)) st else .stuck := rfl
@[simp] theorem m_put : putM (.loc n) y z st = match st[n]? with
    | some (.dct false l) => if isKey y = true ∧ l.length < 16777216 then .ok () (st.set n (.dct false (putP l y z))) else .stuck
    | _ => .stuck := rfl
@[simp] theorem isKey_int {i : Int} : isKey (.int i) = true := rfl
@[simp] theorem isKey_str {s : Str} : isKey (.str s) = true := rfl
@[simp] theorem e_gDb {da db : PD.Env → Mo PV} {ρ : PD.Env} : gDb da db z ρ = bnd (da ρ) fun q => bnd (db ρ) fun i => bnd (putM q i z) fun _ => fun st => .ok ρ st := rfl
@[simp] theorem m_ext : extM y [z] = bnd (lstW y) fun nl => bnd (lstU z) fun m => setL nl.1 (nl.2 ++ m) .non := rfl
@[simp] theorem m_slTSs {s : Str} {lo hi : Option Int} : slTS (.str s) lo hi st = if s.length ≤ 16777216 then .ok (.str (cutS s lo hi)) st else .stuck := rfl
@[simp] theorem m_slTSt {lo hi : Option Int} : slTS (.tup l) lo hi st = .ok (.tup (cutP l lo hi)) st := rfl
@[simp] theorem m_up {s : Str} : upM (.str s) st = if s.length ≤ 5592405 then .ok (.str (Txt.upper s)) st else .stuck := rfl
@[simp] theorem m_rev : revM (.tup l) st = .ok (.tup l.reverse) st := rfl
@[simp] theorem m_lenSet {ns : List Int} : lenSetM (.tup (ns.map PV.int)) st = if ns.length ≤ 4000 then .ok (.int (dst ns).length) st else .stuck := by
  show (match intsV (ns.map PV.int) with | some ns => if ns.length ≤ 4000 then Res.ok (PV.int (dst ns).length) st else .stuck | none => .stuck) = _
  rw [intsV_map]
@[simp] theorem m_lenD : lenD (.loc n) st = match st[n]? with | some (.dct _ l) => .ok (.int l.length) st | _ => .stuck := by
  unfold lenD bnd
  rw [m_dct]
  cases st[n]? with
  | none => rfl
  | some o => cases o <;> rfl
@[simp] theorem m_popL {q : PV} : popM q [] = bnd (lstW q) fun nl => match nl.2[nl.2.length - 1]? with
    | some y => setL nl.1 nl.2.dropLast y
    | none => fail := rfl
end
end PD
/-! PD: plain lemmas: values, the box, stays. -/
namespace PD
open PySem PySem.Spec L2
/-- an integer within bounds -/
def isNum (v : PV) (lo hi : Int) : Bool := match v with
  | .int i => decide (lo ≤ i) && decide (i ≤ hi)
  | _ => false
/-- a value of the plain kinds -/
def plainV : PV → Prop
  | .loc _ => False
  | .fn _ => False
  | .kl _ => False
  | _ => True
def dom_is_number (ps : List PV) : Prop := ∃ v lo hi, ps = [v, .int lo, .int hi] ∧ plainV v
def val_is_number : List PV → PV
  | [v, .int lo, .int hi] => .bl (isNum v lo hi)
  | _ => .non
def dom_is_moment (ps : List PV) : Prop := ∃ v, ps = [v] ∧ plainV v
def val_is_moment : List PV → PV
  | [v] => .bl (isNum v 0 1000000)
  | _ => .non
/-- .. its parts, too -/
def plainT (v : PV) : Prop := plainV v ∧ ∀ l, v = .tup l → ∀ p ∈ l, plainV p
def isStay (v : PV) : Bool := match v with
  | .tup [.int a, .int b] => decide (0 ≤ a) && decide (a ≤ 1000000) && decide (0 ≤ b) && decide (b ≤ 1000000) && decide (a < b)
  | _ => false
def dom_is_stay (ps : List PV) : Prop := ∃ v, ps = [v] ∧ plainT v
def val_is_stay : List PV → PV
  | [v] => .bl (isStay v)
  | _ => .non
@[simp] theorem atI_0 {α : Type} {a : α} {l : List α} : atI (a :: l) 0 = some a := by
  unfold atI ixN
  simp
@[simp] theorem atI_1 {α : Type} {a b : α} {l : List α} : atI (a :: b :: l) 1 = some b := by
  unfold atI ixN
  have h : (1 : Int) < (l.length : Int) + 1 + 1 := by omega
  simp [h]
theorem isNum_int {v : PV} {lo hi : Int} (h : isNum v lo hi = true) : ∃ i, v = .int i ∧ lo ≤ i ∧ i ≤ hi := by
  cases v <;> simp [isNum] at h
  exact ⟨_, rfl, h⟩
/-- a tuple of such -/
def plainS (v : PV) : Prop := plainV v ∧ ∀ l, v = .tup l → ∀ p ∈ l, plainT p
def isStays (v : PV) (size : Int) : Bool := match v with
  | .tup l => decide ((l.length : Int) ≤ size) && l.all isStay
  | _ => false
def val_is_tuple_of : List PV → PV
  | [v, .int size, .fn _] => .bl (isStays v size)
  | _ => .non
def dom_is_stays (ps : List PV) : Prop := ∃ v, ps = [v] ∧ plainS v
def val_is_stays : List PV → PV
  | [v] => .bl (isStays v 60)
  | _ => .non
def isNat (v : PV) : Bool := match v with
  | .int i => decide (0 ≤ i)
  | _ => false
def isPl (n : Nat) (v : PV) : Bool := match v with
  | .tup l => decide (l.length = n) && l.all isNat
  | _ => false
def dom_is_placing (ps : List PV) : Prop := ∃ l v, ps = [.tup l, v] ∧ plainT v
def val_is_placing : List PV → PV
  | [.tup l, v] => .bl (isPl l.length v)
  | _ => .non
def stP (a : Int × Int) : PV := .tup [.int a.1, .int a.2]
def meetB (a b : Int × Int) : Bool := decide (a.1 < b.2) && decide (b.1 < a.2)
def withB (a b : Int × Int) : Bool := decide (b.1 < a.1) && decide (a.2 < b.2)
def crossB (a b : Int × Int) : Bool := meetB a b && ((decide (a.1 < b.1) && decide (a.2 < b.2)) || (decide (b.1 < a.1) && decide (b.2 < a.2)))
def dom_meets (ps : List PV) : Prop := ∃ a b : Int × Int, ps = [stP a, stP b]
def val_meets : List PV → PV
  | [.tup [.int a, .int b], .tup [.int c, .int d]] => .bl (meetB (a, b) (c, d))
  | _ => .non
def dom_is_within (ps : List PV) : Prop := ∃ a b : Int × Int, ps = [stP a, stP b]
def val_is_within : List PV → PV
  | [.tup [.int a, .int b], .tup [.int c, .int d]] => .bl (withB (a, b) (c, d))
  | _ => .non
def dom_crosses (ps : List PV) : Prop := ∃ a b : Int × Int, ps = [stP a, stP b]
def val_crosses : List PV → PV
  | [.tup [.int a, .int b], .tup [.int c, .int d]] => .bl (crossB (a, b) (c, d))
  | _ => .non
def hasM (a : Int × Int) (m : Int) : Bool := decide (a.1 ≤ m) && decide (m < a.2)
def dom_has_moment (ps : List PV) : Prop := ∃ (a : Int × Int) (m : Int), ps = [stP a, .int m]
def val_has_moment : List PV → PV
  | [.tup [.int a, .int b], .int m] => .bl (hasM (a, b) m)
  | _ => .non
/-- stays as a value -/
abbrev staysP (L : List (Int × Int)) : PV := .tup (L.map stP)
def presI (L : List (Int × Int)) (m : Int) : List Nat := (List.range L.length).filter fun i => hasM (L[i]?.getD (0, 0)) m
def intsP (l : List Nat) : PV := .tup (l.map fun i : Nat => PV.int i)
def dom_present (ps : List PV) : Prop := ∃ (L : List (Int × Int)) (m : Int), ps = [staysP L, .int m] ∧ L.length ≤ 16777216
def unSt : PV → Int × Int
  | .tup [.int a, .int b] => (a, b)
  | _ => (0, 0)
@[simp] theorem unSt_stP (a : Int × Int) : unSt (stP a) = a := rfl
theorem unSt_map (L : List (Int × Int)) : (L.map stP).map unSt = L := by
  rw [List.map_map]
  simp [Function.comp_def]
def val_present : List PV → PV
  | [.tup l, .int m] => intsP (presI (l.map unSt) m)
  | _ => .non
theorem val_present_eq (L : List (Int × Int)) (m : Int) : val_present [staysP L, .int m] = intsP (presI L m) := by
  show intsP (presI ((L.map stP).map unSt) m) = _
  rw [unSt_map]
theorem atI_nat {α : Type} {l : List α} {i : Nat} {a : α} (h : l[i]? = some a) : atI l (i : Int) = some a := by
  have hi : i < l.length := (List.getElem?_eq_some_iff.mp h).1
  have h2 : (i : Int) < (l.length : Int) := by omega
  unfold atI ixN
  simp [h2, h]
theorem stay_at {L : List (Int × Int)} {i : Nat} (h : i < L.length) : atI (L.map stP) (i : Int) = some (stP (L[i]?.getD (0, 0))) := by
  refine atI_nat ?_
  rw [List.getElem?_map, List.getElem?_eq_getElem h]
  rfl
theorem mem_rgP {q : PV} {n : Nat} (h : q ∈ rgP 0 n) : ∃ i : Nat, i < n ∧ q = .int (i : Int) := by
  unfold rgP at h
  obtain ⟨i, hi, rfl⟩ := List.mem_map.mp h
  exact ⟨i, List.mem_range.mp hi, by simp⟩
def natOf : PV → Nat
  | .int i => i.toNat
  | _ => 0
@[simp] theorem natOf_int (k : Nat) : natOf (.int (k : Int)) = k := by simp [natOf]
theorem cls_ints (m : Nat) (l : List Nat) : cls m (l.map fun i : Nat => PV.int i) = true := by
  induction l with
  | nil => rfl
  | cons a l ih => show (cl m (.int a) && _) = true; rw [ih]; rfl
theorem rgP_filter (n : Nat) (p : Nat → Bool) : ((rgP 0 n).filter fun q => p (natOf q)).map (fun q => q) = ((List.range n).filter p).map fun i : Nat => PV.int i := by
  unfold rgP
  rw [List.filter_map, List.map_map]
  have e : ((fun q => p (natOf q)) ∘ fun i : Nat => PV.int (0 + (i : Int))) = p := by
    funext i
    simp [natOf]
  rw [e]
  refine List.map_congr_left fun i _ => ?_
  simp
/-- whether no two of one number are bad together -/
def neverB (L : List (Int × Int)) (pl : List Int) (bad : Int × Int → Int × Int → Bool) : Bool :=
  (List.range L.length).all fun i => (List.range L.length).all fun j => !(decide (i ≠ j) && decide (pl[i]?.getD 0 = pl[j]?.getD 0) && bad (L[i]?.getD (0, 0)) (L[j]?.getD (0, 0)))
def unI : PV → Int
  | .int i => i
  | _ => 0
theorem unI_map (l : List Int) : (l.map PV.int).map unI = l := by
  rw [List.map_map]
  simp [Function.comp_def, unI]
theorem int_at {l : List Int} {i : Nat} (h : i < l.length) : atI (l.map PV.int) (i : Int) = some (.int (l[i]?.getD 0)) := by
  refine atI_nat ?_
  rw [List.getElem?_map, List.getElem?_eq_getElem h]
  rfl
theorem rgP_eq (n : Nat) : rgP 0 n = (List.range n).map fun i : Nat => PV.int (i : Int) := by
  unfold rgP
  refine List.map_congr_left fun i _ => ?_
  simp
theorem pvLt_st (a b : Int × Int) : pvLt (stP a) (stP b) = decide (a.1 < b.1 ∨ (a.1 = b.1 ∧ a.2 < b.2)) := by
  unfold pvLt
  simp only [stP, toD, toDs]
  exact PySem.W.dataLt_ii _ _ _ _
theorem alk_st (a b : Int × Int) : alk (stP a) (stP b) = true := by
  simp [alk, stP, okd, okds, toD, toDs, PySem.W.alike, PySem.W.alikeAll, nnon]

/-- the box at b, its cells at c -/
structure BoxAt (b c : Nat) (st : Sto) : Prop where
  ne : b ≠ c
  bx : ∃ v sd : Int, st[b]? = some (.lst false [.loc c, .int v, .int sd])
  cs : ∃ l : List Int, st[c]? = some (.lst false (l.map PV.int)) ∧ l.length ≤ 16777216
/-- nothing but the box and its cells has changed -/
structure Ch (b c : Nat) (st s : Sto) : Prop where
  le : st.length ≤ s.length
  eq : ∀ i, i < st.length → i ≠ b → i ≠ c → s[i]? = st[i]?
theorem Ch.refl {b c : Nat} {st : Sto} : Ch b c st st := ⟨Nat.le_refl _, fun _ _ _ _ => rfl⟩
theorem Ch.trans {b c : Nat} {s1 s2 s3 : Sto} (h : Ch b c s1 s2) (g : Ch b c s2 s3) : Ch b c s1 s3 := ⟨Nat.le_trans h.le g.le, fun i hi h1 h2 => by
  rw [g.eq i (Nat.lt_of_lt_of_le hi h.le) h1 h2, h.eq i hi h1 h2]⟩
theorem Ch.app {b c : Nat} {st ex : Sto} : Ch b c st (st ++ ex) := ⟨by simp, fun i hi _ _ => List.getElem?_append_left hi⟩
theorem Ch.setB {b c : Nat} {st : Sto} {o : Ob} : Ch b c st (st.set b o) := ⟨by simp, fun i hi h1 h2 => List.getElem?_set_ne (fun h => h1 h.symm)⟩
theorem Ch.setC {b c : Nat} {st : Sto} {o : Ob} : Ch b c st (st.set c o) := ⟨by simp, fun i hi h1 h2 => List.getElem?_set_ne (fun h => h2 h.symm)⟩
theorem BoxAt.lt {b c : Nat} {st : Sto} (h : BoxAt b c st) : b < st.length ∧ c < st.length := by
  obtain ⟨v, sd, e⟩ := h.bx
  obtain ⟨l, e2, _⟩ := h.cs
  exact ⟨(List.getElem?_eq_some_iff.mp e).1, (List.getElem?_eq_some_iff.mp e2).1⟩
theorem BoxAt.app {b c : Nat} {st ex : Sto} (h : BoxAt b c st) : BoxAt b c (st ++ ex) := ⟨h.ne, by
  obtain ⟨v, sd, e⟩ := h.bx
  exact ⟨v, sd, by rw [List.getElem?_append_left h.lt.1]; exact e⟩, by
  obtain ⟨l, e, hl⟩ := h.cs
  exact ⟨l, by rw [List.getElem?_append_left h.lt.2]; exact e, hl⟩⟩
theorem BoxAt.setO {b c i : Nat} {st : Sto} {o : Ob} (h : BoxAt b c st) (h1 : i ≠ b) (h2 : i ≠ c) : BoxAt b c (st.set i o) := ⟨h.ne, by
  obtain ⟨v, sd, e⟩ := h.bx
  exact ⟨v, sd, by rw [List.getElem?_set_ne h1]; exact e⟩, by
  obtain ⟨l, e, hl⟩ := h.cs
  exact ⟨l, by rw [List.getElem?_set_ne h2]; exact e, hl⟩⟩
theorem BoxAt.setB {b c : Nat} {st : Sto} {v sd : Int} (h : BoxAt b c st) : BoxAt b c (st.set b (.lst false [.loc c, .int v, .int sd])) := ⟨h.ne, ⟨v, sd, by rw [List.getElem?_set_self h.lt.1]⟩, by
  obtain ⟨l, e, hl⟩ := h.cs
  exact ⟨l, by rw [List.getElem?_set_ne h.ne]; exact e, hl⟩⟩
theorem BoxAt.setC {b c : Nat} {st : Sto} {l : List Int} (h : BoxAt b c st) (hl : l.length ≤ 16777216) : BoxAt b c (st.set c (.lst false (l.map PV.int))) := ⟨h.ne, by
  obtain ⟨v, sd, e⟩ := h.bx
  exact ⟨v, sd, by rw [List.getElem?_set_ne (Ne.symm h.ne)]; exact e⟩, ⟨l, by rw [List.getElem?_set_self h.lt.2], hl⟩⟩
/-- the same box, or another -/
def Bx (b c : Nat) (st s : Sto) : Prop := Ch b c st s ∧ BoxAt b c s
theorem atI3_0 {x y z : PV} : atI [x, y, z] 0 = some x := rfl
theorem atI3_1 {x y z : PV} : atI [x, y, z] 1 = some y := rfl
theorem atI3_2 {x y z : PV} : atI [x, y, z] 2 = some z := rfl
theorem ixN3_1 : ixN 3 1 = some 1 := rfl
theorem ixN3_2 : ixN 3 2 = some 2 := rfl
theorem seqIndex_0 {n : Nat} : seqIndex? 0 (n + 1) = some 0 := by simp [seqIndex?]
def sca : PV → Bool
  | .bl _ => true
  | .int _ => true
  | _ => false
theorem atI_get {l : List PV} {i : Nat} (h : i < l.length) : atI l (i : Int) = some l[i] := atI_nat (List.getElem?_eq_getElem h)
def okSt (lo hi : Int) (a : Int × Int) : Prop := lo ≤ a.1 ∧ a.1 < a.2 ∧ a.2 ≤ hi
def OkL (lo hi : Int) (L : List (Int × Int)) : Prop := ∀ a ∈ L, okSt lo hi a
/-- but the box, its cells and the object at r -/
structure Ch3 (b c r : Nat) (st s : Sto) : Prop where
  le : st.length ≤ s.length
  eq : ∀ i, i < st.length → i ≠ b → i ≠ c → i ≠ r → s[i]? = st[i]?
theorem Ch.ch3 {b c r : Nat} {st s : Sto} (h : Ch b c st s) : Ch3 b c r st s := ⟨h.le, fun i h1 h2 h3 _ => h.eq i h1 h2 h3⟩
theorem Ch3.trans {b c r : Nat} {s1 s2 s3 : Sto} (h : Ch3 b c r s1 s2) (g : Ch3 b c r s2 s3) : Ch3 b c r s1 s3 := ⟨Nat.le_trans h.le g.le, fun i hi h1 h2 h3 => by
  rw [g.eq i (Nat.lt_of_lt_of_le hi h.le) h1 h2 h3, h.eq i hi h1 h2 h3]⟩
theorem Ch3.setR {b c r : Nat} {st : Sto} {o : Ob} : Ch3 b c r st (st.set r o) := ⟨by simp, fun i hi h1 h2 h3 => List.getElem?_set_ne (fun h => h3 h.symm)⟩
def dom__law_present (ps : List PV) : Prop := ∃ (L : List (Int × Int)) (m : Int), ps = [staysP L, .int m] ∧ L.length ≤ 16777216
def dom__law_meets (ps : List PV) : Prop := ∃ a b : Int × Int, ps = [stP a, stP b] ∧ a.1 < a.2 ∧ b.1 < b.2
def val__law_meets : List PV → PV
  | [.tup [.int a, .int b], .tup [.int c, .int d]] => .bl (meetB (a, b) (c, d))
  | _ => .non
def dom__law_within (ps : List PV) : Prop := ∃ a b : Int × Int, ps = [stP a, stP b] ∧ a.1 < a.2 ∧ b.1 < b.2
def val__law_within : List PV → PV
  | [.tup [.int a, .int b], .tup [.int c, .int d]] => .bl (withB (a, b) (c, d))
  | _ => .non
def dom__law_crosses (ps : List PV) : Prop := ∃ a b : Int × Int, ps = [stP a, stP b] ∧ a.1 < a.2 ∧ b.1 < b.2
def val__law_crosses : List PV → PV
  | [.tup [.int a, .int b], .tup [.int c, .int d]] => .bl (crossB (a, b) (c, d))
  | _ => .non
theorem log2_small {n : Nat} (h : n ≤ 1000000) : n.log2 < 1920 := by
  by_cases h0 : n = 0
  · rw [h0]; decide
  · refine (Nat.log2_lt h0).mpr ?_
    have h1 : 2 ^ 20 ≤ 2 ^ 1920 := Nat.pow_le_pow_right (by omega) (by omega)
    have h2 : n < 2 ^ 20 := by omega
    exact Nat.lt_of_lt_of_le h2 h1
def dom_good_for_shelves (ps : List PV) : Prop := ∃ (L : List (Int × Int)) (pl : List Int), ps = [staysP L, .tup (pl.map PV.int)] ∧ L.length ≤ 16777216 ∧ pl.length = L.length
def val_good_for_shelves : List PV → PV
  | [.tup l, .tup m] => .bl (neverB (l.map unSt) (m.map unI) meetB)
  | _ => .non
theorem val_good_for_shelves_eq (L : List (Int × Int)) (pl : List Int) : val_good_for_shelves [staysP L, .tup (pl.map PV.int)] = .bl (neverB L pl meetB) := by
  show PV.bl (neverB ((L.map stP).map unSt) ((pl.map PV.int).map unI) _) = _
  rw [unSt_map, unI_map]
def dom_good_for_chutes (ps : List PV) : Prop := ∃ (L : List (Int × Int)) (pl : List Int), ps = [staysP L, .tup (pl.map PV.int)] ∧ L.length ≤ 16777216 ∧ pl.length = L.length
def val_good_for_chutes : List PV → PV
  | [.tup l, .tup m] => .bl (neverB (l.map unSt) (m.map unI) withB)
  | _ => .non
theorem val_good_for_chutes_eq (L : List (Int × Int)) (pl : List Int) : val_good_for_chutes [staysP L, .tup (pl.map PV.int)] = .bl (neverB L pl withB) := by
  show PV.bl (neverB ((L.map stP).map unSt) ((pl.map PV.int).map unI) _) = _
  rw [unSt_map, unI_map]
def dom_good_for_piles (ps : List PV) : Prop := ∃ (L : List (Int × Int)) (pl : List Int), ps = [staysP L, .tup (pl.map PV.int)] ∧ L.length ≤ 16777216 ∧ pl.length = L.length
def val_good_for_piles : List PV → PV
  | [.tup l, .tup m] => .bl (neverB (l.map unSt) (m.map unI) crossB)
  | _ => .non
theorem val_good_for_piles_eq (L : List (Int × Int)) (pl : List Int) : val_good_for_piles [staysP L, .tup (pl.map PV.int)] = .bl (neverB L pl crossB) := by
  show PV.bl (neverB ((L.map stP).map unSt) ((pl.map PV.int).map unI) _) = _
  rw [unSt_map, unI_map]
def wordB (L : List (Int × Int)) (pl : List Int) (n : Nat) : Bool := neverB L pl (if n = 0 then meetB else if n = 1 then withB else crossB)
/-- the i-th stay -/
abbrev gS (L : List (Int × Int)) (i : Nat) : Int × Int := L[i]?.getD (0, 0)
theorem toDs_getD (L : List (Int × Int)) {i : Nat} (h : i < L.length) : (toDs (L.map stP)).getD i .none = toD (stP (gS L i)) := by
  induction L generalizing i with
  | nil => exact absurd h (Nat.not_lt_zero _)
  | cons a L ih =>
    cases i with
    | zero => rfl
    | succ i =>
      have := ih (i := i) (by simpa using h)
      simpa [toDs, gS] using this
theorem sortIx_perm (L : List (Int × Int)) : (sortIx (L.map stP)).Perm (List.range L.length) := by
  unfold sortIx
  rw [List.length_map]
  exact List.mergeSort_perm _ _
theorem sortIx_pw (L : List (Int × Int)) : (sortIx (L.map stP)).Pairwise fun i j => (gS L i).1 ≤ (gS L j).1 := by
  have h := PySem.W.sort_pairwise (PySem.W.sortLe_total (PyProof.Rows.listOrd PyProof.Rows.itemOrd) false fun i : Nat => PySem.W.keyToks ((toDs (L.map stP)).getD i .none)) (List.range (L.map stP).length)
  have hp := sortIx_perm L
  refine List.Pairwise.imp_of_mem ?_ h
  intro i j hi hj e
  have hi' : i < L.length := List.mem_range.mp (hp.mem_iff.mp hi)
  have hj' : j < L.length := List.mem_range.mp (hp.mem_iff.mp hj)
  have e1 : (!PySem.W.dataLt ((toDs (L.map stP)).getD j .none) ((toDs (L.map stP)).getD i .none)) = true := e
  rw [toDs_getD L hi', toDs_getD L hj'] at e1
  have e2 : pvLt (stP (gS L j)) (stP (gS L i)) = false := by
    rw [Bool.not_eq_true'] at e1
    exact e1
  rw [pvLt_st] at e2
  simp at e2
  omega
theorem nodup_sub {α : Type} [DecidableEq α] : ∀ {l m : List α}, l.Nodup → (∀ a ∈ l, a ∈ m) → l.length ≤ m.length
  | [], _, _, _ => Nat.zero_le _
  | a :: l, m, hn, h => by
    have hm := h a (List.mem_cons_self ..)
    have ih := nodup_sub (l := l) (m := m.erase a) (List.nodup_cons.mp hn).2 fun b hb => by
      have hne : b ≠ a := fun e => (List.nodup_cons.mp hn).1 (e ▸ hb)
      exact (List.mem_erase_of_ne hne).mpr (h b (List.mem_cons_of_mem _ hb))
    rw [List.length_erase_of_mem hm] at ih
    have := List.length_pos_of_mem hm
    rw [List.length_cons]
    omega
theorem mex_le {tk : List Int} {v : Nat} (h : ∀ u : Nat, u < v → (u : Int) ∈ tk) : v ≤ tk.length := by
  have z := nodup_sub (l := (List.range v).map fun u : Nat => (u : Int)) (m := tk) (by
    exact List.pairwise_map.mpr (List.Pairwise.imp (fun {a b} hne e => hne (by omega)) (List.nodup_range (n := v)))) (fun a ha => by
    obtain ⟨u, hu, rfl⟩ := List.mem_map.mp ha
    exact h u (List.mem_range.mp hu))
  simpa using z
theorem okds_ints {n : Nat} (l : List Int) : okds n (l.map PV.int) = true := by
  induction l with
  | nil => cases n <;> rfl
  | cons a l ih => rw [List.map_cons, okds, okd_int, ih]; rfl
theorem inQ_ints {u : Int} {tk : List Int} {st : Sto} : inQ false (.int u) (tk.map PV.int) st = .ok (.bl (decide (u ∈ tk))) st := by
  unfold inQ
  rw [if_pos ⟨okd_int _ _, okds_ints _⟩]
  rw [if_neg (by simp), List.any_map]
  congr 2
  rw [Bool.eq_iff_iff, List.any_eq_true, decide_eq_true_iff]
  simp
def presN (L : List (Int × Int)) (m : Int) : Nat := (presI L m).length
/-- the numbers taken round i -/
def takenL (L : List (Int × Int)) (D : List Nat) (pl : List Int) (i : Nat) : List Int := (D.filter fun j => meetB (gS L i) (gS L j)).map fun j => pl[j]?.getD 0
structure Gr (L : List (Int × Int)) (D : List Nat) (pl : List Int) : Prop where
  len : pl.length = L.length
  nd : D.Nodup
  lt : ∀ j ∈ D, j < L.length
  zero : ∀ j, j < L.length → j ∉ D → pl[j]? = some 0
  num : ∀ j ∈ D, 0 ≤ pl[j]?.getD 0 ∧ pl[j]?.getD 0 < (presN L (gS L j).1 : Int)
  good : ∀ i ∈ D, ∀ j ∈ D, i ≠ j → pl[i]?.getD 0 = pl[j]?.getD 0 → meetB (gS L i) (gS L j) = false
theorem meetB_comm (a b : Int × Int) : meetB a b = meetB b a := by
  unfold meetB
  rw [Bool.and_comm]
theorem Gr.step {L : List (Int × Int)} {D : List Nat} {pl : List Int} {i u : Nat} (g : Gr L D pl) (hv : ∀ a ∈ L, a.1 < a.2) (hi : i < L.length) (hD : i ∉ D) (hs : ∀ j ∈ D, (gS L j).1 ≤ (gS L i).1) (h1 : (u : Int) ∉ takenL L D pl i) (h2 : u ≤ (takenL L D pl i).length) : Gr L (D ++ [i]) (pl.set i (u : Int)) := by
  have hne : ∀ j ∈ D, i ≠ j := fun j hj e => hD (e ▸ hj)
  have hget : ∀ j ∈ D, (pl.set i (u : Int))[j]?.getD 0 = pl[j]?.getD 0 := fun j hj => by rw [List.getElem?_set_ne (hne j hj)]
  have hself : (pl.set i (u : Int))[i]?.getD 0 = (u : Int) := by rw [List.getElem?_set_self (by rw [g.len]; exact hi)]; rfl
  have hnt : ∀ j ∈ D, (u : Int) = pl[j]?.getD 0 → meetB (gS L i) (gS L j) = false := fun j hj e => by
    cases hm : meetB (gS L i) (gS L j) with
    | false => rfl
    | true => exact absurd (List.mem_map.mpr ⟨j, List.mem_filter.mpr ⟨hj, hm⟩, e.symm⟩) h1
  have hv' : ∀ j, j < L.length → (gS L j).1 < (gS L j).2 := fun j hj => by
    unfold gS
    rw [List.getElem?_eq_getElem hj]
    exact hv _ (List.getElem_mem hj)
  have hcnt : u < presN L (gS L i).1 := by
    have z := nodup_sub (l := i :: D.filter fun j => meetB (gS L i) (gS L j)) (m := presI L (gS L i).1) (List.nodup_cons.mpr ⟨fun h => hD (List.mem_filter.mp h).1, g.nd.filter _⟩) (fun a ha => by
      unfold presI hasM
      rw [List.mem_cons] at ha
      rcases ha with rfl | ha
      · have := hv' _ hi
        exact List.mem_filter.mpr ⟨List.mem_range.mpr hi, by simp; omega⟩
      · obtain ⟨ha, hm⟩ := List.mem_filter.mp ha
        have q1 := hs a ha
        refine List.mem_filter.mpr ⟨List.mem_range.mpr (g.lt a ha), ?_⟩
        unfold meetB at hm
        simp at hm ⊢
        exact ⟨q1, hm.1⟩)
    unfold takenL at h2
    rw [List.length_map] at h2
    rw [List.length_cons] at z
    unfold presN
    omega
  constructor
  · rw [List.length_set, g.len]
  · rw [List.nodup_append]
    exact ⟨g.nd, by simp, fun a ha b hb e => by rw [List.mem_singleton] at hb; exact hD (hb ▸ e ▸ ha)⟩
  · intro j hj
    rw [List.mem_append, List.mem_singleton] at hj
    rcases hj with hj | rfl
    · exact g.lt j hj
    · exact hi
  · intro j hj hn
    rw [List.mem_append, List.mem_singleton, not_or] at hn
    rw [List.getElem?_set_ne (fun e => hn.2 e.symm)]
    exact g.zero j hj hn.1
  · intro j hj
    rw [List.mem_append, List.mem_singleton] at hj
    rcases hj with hj | rfl
    · rw [hget j hj]; exact g.num j hj
    · rw [hself]; omega
  · intro a ha b hb hab he
    rw [List.mem_append, List.mem_singleton] at ha hb
    rcases ha with ha | rfl <;> rcases hb with hb | rfl
    · rw [hget a ha, hget b hb] at he; exact g.good a ha b hb hab he
    · rw [hget a ha, hself] at he
      rw [meetB_comm]; exact hnt a ha he.symm
    · rw [hget b hb, hself] at he
      exact hnt b hb he
    · exact absurd rfl hab
def natsP (D : List Nat) : List PV := D.map fun i : Nat => PV.int i
/-- what was there is there -/
structure Keep (st s : Sto) : Prop where
  le : st.length ≤ s.length
  eq : ∀ i, i < st.length → s[i]? = st[i]?
theorem sort_stays {n : Int} {st : Sto} (L : List (Int × Int)) (h : n = (L.length : Int)) : sortR (.int n) (staysP L) st = .ok (natsP (sortIx (L.map stP))) st := by
  have h1 : okds 50 (L.map stP) = true := by
    clear h
    induction L with
    | nil => rfl
    | cons a L ih => rw [List.map_cons, okds, ih]; simp [stP, okd, okds]
  have h2 : tupB (L.map stP) = true := by
    clear h h1
    induction L with
    | nil => rfl
    | cons a L ih => rw [List.map_cons]; exact ih
  have e3 : ∀ d ∈ toDs (L.map stP), ∃ a b : Int, d = toD (stP (a, b)) := by
    clear h h1 h2
    induction L with
    | nil => intro d hd; cases hd
    | cons a L ih =>
      intro d hd
      rw [List.map_cons, toDs, List.mem_cons] at hd
      rcases hd with rfl | hd
      · exact ⟨a.1, a.2, rfl⟩
      · exact ih d hd
  have h3 : alkB (L.map stP) = true := by
    unfold alkB
    rw [List.all_eq_true]
    intro d hd
    rw [List.all_eq_true]
    intro d' hd'
    obtain ⟨a, b, rfl⟩ := e3 d hd
    obtain ⟨a', b', rfl⟩ := e3 d' hd'
    simp [stP, toD, toDs, PySem.W.alike, PySem.W.alikeAll]
  have h4 : n = (((L.map stP).length : Nat) : Int) := by rw [List.length_map]; exact h
  show (if _ then _ else _) = _
  rw [if_pos ⟨h4, h1, h3, h2⟩]
  rfl
theorem maxI_is {l : List Int} {m : Int} (h1 : m ∈ l) (h2 : ∀ y ∈ l, y ≤ m) : maxI l = m := (maxI_spec h1 h2).symm
theorem maxI_mem {l : List Int} (h : l ≠ []) : maxI l ∈ l := by
  induction l with
  | nil => exact absurd rfl h
  | cons a l ih =>
    cases l with
    | nil => simp [maxI]
    | cons b l =>
      rw [maxI]
      split
      · exact List.mem_cons_of_mem _ (ih (by simp))
      · exact List.mem_cons_self ..
      · simp
theorem maxI_ge {l : List Int} {y : Int} (h : y ∈ l) : y ≤ maxI l := by
  induction l with
  | nil => cases h
  | cons a l ih =>
    cases l with
    | nil =>
      rw [List.mem_singleton] at h
      rw [h]
      simp [maxI]
    | cons b l =>
      rw [maxI]
      rcases List.mem_cons.mp h with rfl | h
      · split <;> omega
      · have := ih h
        split <;> omega
      · simp
theorem intsM_ints {st : Sto} (l : List Int) : intsM (l.map PV.int) st = .ok l st := by
  induction l with
  | nil => rfl
  | cons a l ih => simp only [List.map_cons, intsM, bnd, ih]
theorem dSeq_assoc {f g h : PD.Env → Mo Fl} : dSeq (dSeq f g) h = dSeq f (dSeq g h) := by
  funext ρ st
  unfold dSeq bnd
  cases f ρ st with
  | ok fl s => cases fl <;> rfl
  | exc c s => rfl
  | stuck => rfl
theorem mem_cutP {l : List PV} {lo hi : Option Int} {p : PV} (h : p ∈ cutP l lo hi) : p ∈ l := by
  unfold cutP at h
  exact List.mem_of_mem_drop (List.mem_of_mem_take h)
theorem plainT_ints (pl : List Int) : plainT (.tup (pl.map PV.int)) := ⟨True.intro, fun l e => by
  cases e
  intro p hp
  obtain ⟨a, _, rfl⟩ := List.mem_map.mp hp
  exact True.intro⟩
theorem plainV_ints {pl : List Int} : ∀ p ∈ pl.map PV.int, plainV p := fun p hp => by
  obtain ⟨a, _, rfl⟩ := List.mem_map.mp hp
  exact True.intro
end PD
/-! PD: max, min of a list that a name holds. -/
namespace PD
open PySem PySem.Spec PyProof.Rows L2
section
variable {X : Cx} {W : Wd} {k : Nat} {E : XK} {e : Expr} {p pos : Pos} {d : Env → Mo PV}
theorem de_maxV (h : DE X W k E e d) (hg : Gl X "max") (hm : W.mg "max" = none) (hs : starEach [e] X.env = (false, eval e X.env) :: starEach [] X.env := by rfl) : DE X W k E (.Call (.Name "max" p) [e] [] pos) (fun ρ => bnd (d ρ) fun q => bnd (lstM q) maxQ) :=
  ⟨fun o => pe_imp (pe_callB (r := rMax W.K) (by rw [← o.hK]; exact cr_max o.hc) hg (by rw [o.hM]; exact hm) boot_max_ (pa_cons (h.run o) pa_nil hs) (by decide) (by decide) hs (by rfl)) fun σ H Q t => by
    obtain ⟨ι, ρ, st, re, rs, g⟩ := t
    refine ⟨ι, ρ, st, re, rs, Good.imp (Good.bind g) fun q st1 ι1 H1 m1 r1 g1 v hv => ?_⟩
    obtain ⟨a, vs, l, rfl, sq, rr, hz, g2⟩ := lst_of (α := PV) r1 hv (Good.bind g1)
    obtain ⟨bs, rfl, g3⟩ := ints_of r1 rr (Good.bind g2)
    obtain ⟨hc, g4⟩ := good_if g3
    exact ⟨a, bs, rfl, sq, hc, fun m h1 h2 => by rw [maxI_spec h1 h2]; exact g4.ok r1 _ (.int _)⟩⟩
theorem de_minV (h : DE X W k E e d) (hg : Gl X "min") (hm : W.mg "min" = none) (hs : starEach [e] X.env = (false, eval e X.env) :: starEach [] X.env := by rfl) : DE X W k E (.Call (.Name "min" p) [e] [] pos) (fun ρ => bnd (d ρ) fun q => bnd (lstM q) minQ) :=
  ⟨fun o => pe_imp (pe_callB (r := rMin W.K) (by rw [← o.hK]; exact cr_min o.hc) hg (by rw [o.hM]; exact hm) boot_min_ (pa_cons (h.run o) pa_nil hs) (by decide) (by decide) hs (by rfl)) fun σ H Q t => by
    obtain ⟨ι, ρ, st, re, rs, g⟩ := t
    refine ⟨ι, ρ, st, re, rs, Good.imp (Good.bind g) fun q st1 ι1 H1 m1 r1 g1 v hv => ?_⟩
    obtain ⟨a, vs, l, rfl, sq, rr, hz, g2⟩ := lst_of (α := PV) r1 hv (Good.bind g1)
    obtain ⟨bs, rfl, g3⟩ := ints_of r1 rr (Good.bind g2)
    obtain ⟨hc, g4⟩ := good_if g3
    exact ⟨a, bs, rfl, sq, hc, fun m h1 h2 => by rw [minI_spec h1 h2]; exact g4.ok r1 _ (.int _)⟩⟩
end
end PD
/-! PD: loops over a range. -/
namespace PD
open PySem PySem.Spec L2
section
variable {Q : Fl → Sto → Prop}
theorem ok_forR {g : PV → PD.Env → Mo PD.Env} {f : PD.Env → Mo Fl} {n : Nat} {ρ : PD.Env} {st : Sto} (P : Nat → PD.Env → Sto → Prop) (h0 : P 0 ρ st) (he : ∀ ρ st, P n ρ st → Q (.nx ρ) st)
    (step : ∀ i ρ st, i < n → P i ρ st → Ok (g (.int (i : Int)) ρ st) (fun ρ1 st1 => Ok (f ρ1 st1) (Aft (P (i + 1)) Q))) : Ok (foF g f (sV (rgP 0 n)).chk (rgP 0 n) ρ st) Q := by
  refine ok_for (chk := (sV (rgP 0 n)).chk) (fun l ρ s => ∃ m, m ≤ n ∧ l = (rgP 0 n).drop m ∧ P m ρ s) (fun _ _ _ _ => True.intro) ?_ ?_ _ _ _ ⟨0, Nat.zero_le _, rfl, h0⟩
  · rintro ρ s ⟨m, hm, e, hP⟩
    have : n ≤ m := by
      have := congrArg List.length e
      rw [List.length_drop] at this
      unfold rgP at this
      simp at this
      omega
    obtain rfl : m = n := by omega
    exact he ρ s hP
  · rintro q l ρ s ⟨m, hm, e, hP⟩
    have hlt : m < n := by
      have := congrArg List.length e
      rw [List.length_drop] at this
      unfold rgP at this
      simp at this
      omega
    have hlen : m < (rgP 0 n).length := by unfold rgP; simpa using hlt
    rw [List.drop_eq_getElem_cons hlen] at e
    obtain ⟨rfl, rfl⟩ := List.cons.inj e
    have e2 : (rgP 0 n)[m] = .int (m : Int) := by
      have : (rgP 0 n)[m]? = some (.int (m : Int)) := by
        rw [rgP_eq, List.getElem?_map, List.getElem?_range hlt]
        rfl
      rw [List.getElem?_eq_getElem hlen] at this
      exact Option.some.inj this
    rw [e2]
    refine (step m ρ s hlt hP).imp fun ρ1 s1 h1 => h1.imp fun fl s2 h2 => ?_
    cases fl with
    | nx ρ' => exact ⟨m + 1, hlt, rfl, h2⟩
    | ct ρ' => exact ⟨m + 1, hlt, rfl, h2⟩
    | bk ρ' => exact h2
    | rt p => exact h2
/-- a loop over what a list of plain things shows -/
theorem ok_forL {α : Type} {F : α → PV} {g : PV → PD.Env → Mo PD.Env} {f : PD.Env → Mo Fl} {chk : Sto → Prop} {ρ : PD.Env} {st : Sto} (l : List α) (P : List α → PD.Env → Sto → Prop) (hc : ∀ l ρ st, P l ρ st → chk st) (h0 : P l ρ st) (he : ∀ ρ st, P [] ρ st → Q (.nx ρ) st)
    (step : ∀ a l ρ st, P (a :: l) ρ st → Ok (g (F a) ρ st) (fun ρ1 st1 => Ok (f ρ1 st1) (Aft (P l) Q))) : Ok (foF g f chk (l.map F) ρ st) Q := by
  refine ok_for (fun m ρ s => ∃ l : List α, m = l.map F ∧ P l ρ s) (fun _ _ _ ⟨l, _, h⟩ => hc l _ _ h) ?_ ?_ _ _ _ ⟨l, rfl, h0⟩
  · rintro ρ s ⟨l, e, hP⟩
    cases l with
    | nil => exact he ρ s hP
    | cons a l => cases e
  · rintro q m ρ s ⟨l, e, hP⟩
    cases l with
    | nil => cases e
    | cons a l =>
      rw [List.map_cons] at e
      obtain ⟨rfl, rfl⟩ := List.cons.inj e
      refine (step a l ρ s hP).imp fun ρ1 s1 h1 => h1.imp fun fl s2 h2 => ?_
      cases fl with
      | nx ρ' => exact ⟨l, rfl, h2⟩
      | ct ρ' => exact ⟨l, rfl, h2⟩
      | bk ρ' => exact h2
      | rt p => exact h2
end
end PD
/-! PD: dicts by numbers, plainly. -/
namespace PD
open PySem PySem.Spec L2
/-- the dict of these numbers, in this order -/
def dN (K : List Nat) (f : Nat → PV) : List (PV × PV) := K.map fun (i : Nat) => (.int (i : Int), f i)
theorem dN_length {K : List Nat} {f : Nat → PV} : (dN K f).length = K.length := List.length_map _
theorem look_dN {f : Nat → PV} {j : Nat} : ∀ {K : List Nat}, lookP (dN K f) (.int (j : Int)) = if j ∈ K then some (f j) else none
  | [] => rfl
  | i :: K => by
    show ((((.int (i : Int), f i) :: dN K f).find? fun kv => keq kv.1 (.int (j : Int))).map (·.2)) = _
    rw [List.find?_cons]
    by_cases h : i = j
    · subst h
      have e : keq (PV.int (i : Int)) (.int (i : Int)) = true := decide_eq_true rfl
      rw [e, if_pos (List.mem_cons_self ..)]
      rfl
    · have e : keq (PV.int (i : Int)) (.int (j : Int)) = false := decide_eq_false (by omega)
      rw [e]
      show lookP (dN K f) (.int (j : Int)) = _
      rw [look_dN]
      by_cases h2 : j ∈ K
      · rw [if_pos h2, if_pos (List.mem_cons_of_mem _ h2)]
      · rw [if_neg h2, if_neg (fun z => (List.mem_cons.mp z).elim (fun e => h e.symm) h2)]
theorem any_dN {f : Nat → PV} {j : Nat} : ∀ {K : List Nat}, ((dN K f).any fun kv => keq kv.1 (.int (j : Int))) = decide (j ∈ K)
  | [] => rfl
  | i :: K => by
    show (keq (PV.int (i : Int)) (.int (j : Int)) || (dN K f).any fun kv => keq kv.1 (.int (j : Int))) = _
    rw [any_dN, Bool.eq_iff_iff]
    simp only [keq, Bool.or_eq_true, decide_eq_true_eq, List.mem_cons]
    constructor
    · rintro (h | h)
      · exact .inl (by omega)
      · exact .inr h
    · rintro (h | h)
      · exact .inl (by omega)
      · exact .inr h
theorem put_dN {K : List Nat} {f : Nat → PV} {j : Nat} {z : PV} : putP (dN K f) (.int (j : Int)) z = dN (if j ∈ K then K else K ++ [j]) (fun i => if i = j then z else f i) := by
  unfold putP
  rw [any_dN]
  by_cases h : j ∈ K
  · rw [if_pos (decide_eq_true h), if_pos h]
    unfold dN
    rw [List.map_map]
    refine List.map_congr_left fun i _ => ?_
    show (if keq (PV.int (i : Int)) (.int (j : Int)) = true then (PV.int (i : Int), z) else (PV.int (i : Int), f i)) = (PV.int (i : Int), if i = j then z else f i)
    by_cases e : i = j
    · subst e
      have e2 : keq (PV.int (i : Int)) (.int (i : Int)) = true := decide_eq_true rfl
      rw [if_pos e2, if_pos rfl]
    · rw [if_neg (by rw [show keq (PV.int (i : Int)) (.int (j : Int)) = false from decide_eq_false (by omega)]; simp), if_neg e]
  · rw [if_neg (by simp [h]), if_neg h]
    unfold dN
    rw [List.map_append]
    congr 1
    · refine List.map_congr_left fun i hi => ?_
      have : ¬ i = j := fun e => h (by rw [← e]; exact hi)
      show (PV.int (i : Int), f i) = (PV.int (i : Int), if i = j then z else f i)
      rw [if_neg this]
    · show [(PV.int (j : Int), z)] = [(PV.int (j : Int), if j = j then z else f j)]
      rw [if_pos rfl]
theorem dN_congr {K : List Nat} {f g : Nat → PV} (h : ∀ i ∈ K, f i = g i) : dN K f = dN K g := List.map_congr_left fun i hi => by rw [h i hi]
/-! ### paths -/
section
variable {r : Nat → Nat → Prop}
/-- each stands in r to the next one -/
def Pth (r : Nat → Nat → Prop) : List Nat → Prop
  | a :: b :: l => r a b ∧ Pth r (b :: l)
  | _ => True
theorem Pth.tail {a : Nat} {l : List Nat} (h : Pth r (a :: l)) : Pth r l := by
  cases l with
  | nil => exact True.intro
  | cons b l => exact h.2
theorem Pth.imp {r' : Nat → Nat → Prop} (hi : ∀ a b, r a b → r' a b) : ∀ {l : List Nat}, Pth r l → Pth r' l
  | [], _ => True.intro
  | [_], _ => True.intro
  | a :: b :: l, h => ⟨hi a b h.1, Pth.imp hi h.2⟩
theorem Pth.append : ∀ {l m : List Nat}, Pth r l → Pth r m → (∀ a b, l.getLast? = some a → m.head? = some b → r a b) → Pth r (l ++ m)
  | [], m, _, hm, _ => hm
  | [a], [], _, _, _ => True.intro
  | [a], b :: m, _, hm, h => ⟨h a b rfl rfl, hm⟩
  | a :: b :: l, m, hl, hm, h => ⟨hl.1, Pth.append hl.2 hm fun x y e e2 => h x y (by rw [List.getLast?_cons_cons]; exact e) e2⟩
theorem Pth.left : ∀ {l m : List Nat}, Pth r (l ++ m) → Pth r l
  | [], _, _ => True.intro
  | [a], _, _ => True.intro
  | a :: b :: l, m, h => ⟨h.1, Pth.left (l := b :: l) h.2⟩
theorem Pth.right : ∀ {l m : List Nat}, Pth r (l ++ m) → Pth r m
  | [], _, h => h
  | a :: l, m, h => Pth.right (l := l) (Pth.tail h)
theorem Pth.dropLast {l : List Nat} (h : Pth r l) : Pth r l.dropLast := by
  cases hl : l.getLast? with
  | none =>
    rw [List.getLast?_eq_none_iff] at hl
    subst hl
    exact True.intro
  | some z =>
    have hne : l ≠ [] := fun e => by subst e; cases hl
    have e : l.dropLast ++ [z] = l := by
      rw [List.getLast?_eq_some_getLast hne] at hl
      rw [← Option.some.inj hl]
      exact List.dropLast_concat_getLast hne
    rw [← e] at h
    exact h.left
theorem Pth.reverse (hs : ∀ a b, r a b → r b a) : ∀ {l : List Nat}, Pth r l → Pth r l.reverse
  | [], _ => True.intro
  | [_], _ => True.intro
  | a :: b :: l, h => by
    rw [List.reverse_cons]
    refine Pth.append (Pth.reverse hs h.2) True.intro fun x y e e2 => ?_
    rw [List.reverse_cons, List.getLast?_append] at e
    simp at e e2
    subst e e2
    exact hs _ _ h.1
theorem Pth.at_ : ∀ {l : List Nat}, Pth r l → ∀ k a b, l[k]? = some a → l[k + 1]? = some b → r a b
  | a :: b :: l, h, 0, x, y, e1, e2 => by
    simp at e1 e2
    subst e1 e2
    exact h.1
  | a :: b :: l, h, k + 1, x, y, e1, e2 => Pth.at_ (l := b :: l) h.2 k x y (by simpa using e1) (by simpa using e2)
  | [a], _, k, x, y, _, e2 => by simp at e2
  | [], _, k, x, y, e1, _ => by simp at e1
/-- a path by a function is the only one between its ends -/
theorem pth_unique {f : Nat → Option Nat} {rk : Nat → Nat} (hrk : ∀ a b, f a = some b → r a b → rk b < rk a) : ∀ {l m : List Nat} {x c : Nat}, Pth (fun a b => f a = some b ∧ r a b) l → Pth (fun a b => f a = some b ∧ r a b) m → l.head? = some x → m.head? = some x → l.getLast? = some c → m.getLast? = some c → l = m := by
  have low : ∀ {l : List Nat} {x c : Nat}, Pth (fun a b => f a = some b ∧ r a b) (x :: l) → l ≠ [] → (x :: l).getLast? = some c → rk c < rk x := by
    intro l
    induction l with
    | nil => intro x c _ h; exact absurd rfl h
    | cons b l ih =>
      intro x c hp _ hc
      have h1 := hrk x b hp.1.1 hp.1.2
      rw [List.getLast?_cons_cons] at hc
      cases l with
      | nil =>
        simp at hc
        subst hc
        exact h1
      | cons d l => exact Nat.lt_trans (ih hp.2 (by simp) hc) h1
  intro l
  induction l with
  | nil => intro m x c _ _ h; cases h
  | cons a l ih =>
    intro m x c hl hm h1 h2 h3 h4
    simp at h1
    subst h1
    cases m with
    | nil => cases h2
    | cons b m =>
      simp at h2
      subst h2
      cases l with
      | nil =>
        simp at h3
        subst h3
        cases m with
        | nil => rfl
        | cons d m => exact absurd (low hm (by simp) h4) (Nat.lt_irrefl _)
      | cons d l =>
        cases m with
        | nil =>
          simp at h4
          subst h4
          exact absurd (low hl (by simp) h3) (Nat.lt_irrefl _)
        | cons e m =>
          have he : d = e := by
            have q1 := hl.1.1
            have q2 := hm.1.1
            rw [q1] at q2
            exact Option.some.inj q2
          subst he
          rw [List.getLast?_cons_cons] at h3 h4
          rw [ih hl.2 hm.2 rfl rfl h3 h4]
theorem pth_nodup {rk : Nat → Nat} (hrk : ∀ a b, r a b → rk b < rk a) : ∀ {l : List Nat}, Pth r l → l.Nodup ∧ ∀ a m, l = a :: m → ∀ x ∈ m, rk x < rk a
  | [], _ => ⟨List.nodup_nil, fun _ _ h => (nomatch h)⟩
  | [a], _ => ⟨by simp, fun b m h x hx => by cases h; cases hx⟩
  | a :: b :: l, h => by
    obtain ⟨h1, h2⟩ := pth_nodup hrk h.2
    have hab := hrk a b h.1
    have hall : ∀ x ∈ b :: l, rk x < rk a := fun x hx => by
      rcases List.mem_cons.mp hx with rfl | hx
      · exact hab
      · exact Nat.lt_trans (h2 b l rfl x hx) hab
    refine ⟨List.nodup_cons.mpr ⟨fun z => Nat.lt_irrefl _ (hall a z), h1⟩, fun c m e x hx => ?_⟩
    cases e
    exact hall x hx
end
end PD
/-! PD: enumerate of a list or a tuple. -/
namespace HT
open PySem PySem.Spec PyProof.Rows L2
open PySem.Sem (wp)
theorem meets_enum1 {v : Value} {o : Obj} {H : Heap → Prop} (B : Begins v o H) :
    Meets (Builtin.«enumerate.__new__» ⟨[.type "enumerate", v], []⟩) (fun _ R s => H s.heap ∧
      R (.ok (.ret (.ref (s.heap.push o).objs.size))) { s with heap := (s.heap.push o).push { cls := .type "enumerate", data := .fields #[.none, .bool false, .ref s.heap.objs.size, rawInt 0, .none, .none] } }) :=
  .of_wp fun prog w A R s h => by
    obtain ⟨hp, g, d, tk, os⟩ := s
    obtain ⟨h1, h⟩ := h
    have hsub := sub_enumerate
    have q1 : ∀ {A' : Around} {E : Value → Shared → Prop} {Q : Value → Shared → Prop}, Q (.ref hp.objs.size) ⟨hp.push o, g, d, tk, os⟩ → wpAny (model prog w) A' (pyIter v) Q E ⟨hp, g, d, tk, os⟩ :=
      fun q => B.iter prog w _ _ ⟨hp, g, d, tk, os⟩ _ h1 q
    wp_walk using q1
    refine wpAny_stack_any fun st => wpAny_pure ?_
    split
    · rename_i c _ _ _ _ _
      cases (c == Value.type "enumerate") <;> (wp_walk using q1; exact ⟨_, rfl, h⟩)
    · wp_walk using q1
      exact ⟨_, rfl, h⟩
section
variable {prog : Program} {w : World} {A : Around} {E : Value → Shared → Prop} {s : Shared}
theorem call_enum_tuple {t : Addr} {items : Array Value} {Q : Value → Shared → Prop} (ht : s.heap.IsTuple t items)
    (h : ∀ h', IsEnum h' (s.heap.objs.size + 1) s.heap.objs.size 0 .none → h'.IsTupleIter s.heap.objs.size t 0 → (∀ b o, s.heap.get? b = some o → h'.get? b = some o) → Q (.ref (s.heap.objs.size + 1)) { s with heap := h' }) :
    wpAny (model prog w) A (call (.type "enumerate") [.ref t]) Q E s := by
  refine callType_new F.called_enumerate (by decide) (F.typeCall_enumerate_1 _) (F.newCall_enumerate_1 _) (fun obj => F.args_object_init_2 obj _) F.entry_enumerate_new (meets_enum1 (begins_tuple t items)) ⟨ht, ?_⟩
  show _ ∧ _
  have hz : (s.heap.push { cls := .type "tuple_iterator", data := .fields #[.ref t, .int 0 0] }).objs.size = s.heap.objs.size + 1 := Heap.size_push ..
  have he := Heap.get?_push_size (s.heap.push { cls := .type "tuple_iterator", data := .fields #[.ref t, .int 0 0] }) (o := { cls := .type "enumerate", data := .fields #[.none, .bool false, .ref s.heap.objs.size, rawInt 0, .none, .none] }) rfl
  rw [hz] at he ⊢
  exact ⟨⟨_, he, rfl⟩, h _ he ⟨_, Heap.get?_push_of_some _ (Heap.get?_push_size _ rfl), rfl, rfl⟩ fun b o x => Heap.get?_push_of_some _ (Heap.get?_push_of_some _ x)⟩
theorem draws_tuple {it t : Addr} {items : Array Value} (hne : t ≠ it) (hh : A.handled = none) : Draws prog w A it [it, t] items.size (fun i x => items[i]? = some x) (fun i h => h.IsTupleIter it t i ∧ h.IsTuple t items) where
  live := fun i h st => let ⟨o, ho, _⟩ := st.1; ⟨o, ho⟩
  frame := fun i h h' st k => ⟨st.1.at fun o e => k it (by simp) o e, let ⟨o, ho, r⟩ := st.2; ⟨o, k t (by simp) o ho, r⟩⟩
  item := fun i s Q E hi st hQ => RZ.nextOf_tuple_item st.1 st.2 (Array.getElem?_eq_getElem hi) fun h' st' sb => hQ _ h' s.toks (Array.getElem?_eq_getElem hi) ⟨st', let ⟨o, ho, r⟩ := st.2; ⟨o, (sb.2 t hne).trans ho, r⟩⟩ sb
  done := fun s Q E st hE => RZ.nextOf_tuple_end hh st.1 st.2 (Array.getElem?_eq_none (Nat.le_refl _)) hE
theorem draws_end {it t : Addr} {items : Array Value} {i : Nat} (hne : t ≠ it) (hh : A.handled = none) (hi : items.size ≤ i) : Draws prog w A it [it, t] i (fun _ _ => True) (fun j h => j = i ∧ h.IsTupleIter it t i ∧ h.IsTuple t items) where
  live := fun j h st => let ⟨o, ho, _⟩ := st.2.1; ⟨o, ho⟩
  frame := fun j h h' st k => ⟨st.1, st.2.1.at fun o e => k it (by simp) o e, let ⟨o, ho, r⟩ := st.2.2; ⟨o, k t (by simp) o ho, r⟩⟩
  item := fun j s Q E hj st hQ => by have := st.1; omega
  done := fun s Q E st hE => RZ.nextOf_tuple_end hh st.2.1 st.2.2 (Array.getElem?_eq_none hi) hE
end
end HT
namespace PD
open PySem PySem.Spec PyProof.Rows L2
theorem isEnum_ne_tup {h : Heap} {e it t : Addr} {i : Int} {old : Value} {items : Array Value} (he : IsEnum h e it i old) (ht : h.IsTuple t items) : e ≠ t := fun z => by
  subst z
  obtain ⟨o, ho, hc, _⟩ := ht
  unfold IsEnum at he
  rw [he] at ho
  cases ho
  have hc : Value.type "enumerate" = Value.type "tuple" := hc
  injection hc with hc
  exact absurd hc (by decide)
/-- the tuple at a, the items in new pairs -/
def Itet (K : PySem.W.Frag) (a : Addr) : It :=
  ⟨fun i H => ∃ (xs : List V) (x : V), SqT K H a xs ∧ xs[i]? = some x, fun i H v H' => ∃ T x, v = .ref T ∧ H T = none ∧ H' = upd H T (.tup [.int (i : Nat), x]) ∧ ∀ xs, SqT K H a xs → xs[i]? = some x, fun i H => ∃ xs : List V, SqT K H a xs ∧ xs.length ≤ i⟩
theorem turn_enumT {P : Program} {w : World} {K : PySem.W.Frag} {elts : List Expr} {kk : Nat} {tpos : Pos} (a e it : Addr) :
    Turn P w K (.Tuple elts kk tpos) (Itet K a) [e, it] e (fun i h => (∃ old, IsEnum h e it ((i : Nat) : Int) old) ∧ h.IsTupleIter it a i ∧ e ≠ it ∧ it ≠ a) where
  mem := by simp
  obj := fun i h st b hb => by
    obtain ⟨⟨old, he⟩, ⟨o, ho, hc, hd⟩, _⟩ := st
    have e' : b = e ∨ b = it := by simpa using hb
    rcases e' with rfl | rfl
    · exact ⟨_, he, fun v q => nomatch q⟩
    · exact ⟨o, ho, fun v q => by rw [hd] at q; cases q⟩
  keep := fun i h h' st k => let ⟨⟨old, he⟩, hi, hne, h2⟩ := st; ⟨⟨old, k e (by simp) _ he⟩, hi.at fun o q => k it (by simp) o q, hne, h2⟩
  item := by
    intro X hP hw hK hc i pins s σ H E I hf st hg
    subst hP hw hK
    obtain ⟨⟨old, he⟩, hit, hne, hna⟩ := st
    obtain ⟨xs, x, hq, hx⟩ := hg
    obtain ⟨its, rv, p, hz⟩ := I.tuple hq
    have ht : s.heap.IsTuple a its.toArray := p
    obtain ⟨u, hu, ru⟩ := rv.get hx
    have hil : it < s.heap.objs.size := by obtain ⟨_, q, _⟩ := hit; exact Heap.lt_size q
    have hel : e < s.heap.objs.size := Heap.lt_size he
    have hea : e ≠ a := isEnum_ne_tup he ht
    have hi : i < its.toArray.size := by
      have := (List.getElem?_eq_some_iff.mp hu).1
      simpa using this
    refine wpAny_pyNext_enum_itemD (HT.draws_tuple (Ne.symm hna) (I.ok.hd hc)) he ⟨hit, ht⟩ hi hne (by simp [hne, hea]) fun y h' tk hy ho hst hT hsz hk => ?_
    have hyu : y = u := by
      have hy : its.toArray[i]? = some y := hy
      simp [hu] at hy
      exact hy.symm
    subst hyu
    refine ⟨_, rfl, wpAny_letOwnedTupleGo_enum (s := { s with heap := h', toks := tk + 1 }) ho fun h'' he' sb => ?_⟩
    have hT2 : h''.get? s.heap.objs.size = some { cls := .type "tuple", data := .seq #[.int i tk, y] } := (sb.2 _ (Nat.ne_of_gt hel)).trans hT
    have new : ObjOk X.prog X.w (upd H s.heap.objs.size (.tup [.int (i : Nat), x])) h'' s.heap.objs.size (.tup [.int (i : Nat), x]) :=
      ⟨by show 2 ≤ sizeLine; decide, [.int i tk, y], .cons ⟨_, rfl⟩ (.cons ru .nil), ⟨_, hT2, rfl, _, rfl⟩⟩
    have I1 : Inv X pins σ (upd H s.heap.objs.size (.tup [.int (i : Nat), x])) { s with heap := h'', toks := tk + 1 } :=
      I.turnedNew (ch := [e, it]) (fun b ob hb q => (sb.2 b (fun z => hb (by simp [z]))).trans (hk b ob (fun z => hb (by simp [z])) (fun z => hb (by simp [z])) q)) hf (Nat.le_refl _) new
    refine ⟨.ref s.heap.objs.size, _, I1, rfl, ⟨_, x, rfl, I.hok.fresh (Nat.le_refl _), rfl, fun ys hy => by rw [I.tuple_inj hy hq]; exact hx⟩, ⟨⟨y, ?_⟩, hst.1.at fun o q => (sb.2 it (Ne.symm hne)).trans q, hne, hna⟩, fun b hb => ?_⟩
    · have e1 : ((i + 1 : Nat) : Int) = (i : Int) + 1 := by omega
      rw [e1]
      exact he'
    · have hb' : b < s.heap.objs.size := by
        have e' : b = e ∨ b = it := by simpa using hb
        rcases e' with rfl | rfl <;> assumption
      rw [upd_ne (Nat.ne_of_lt hb')]
      exact (hf b hb).1
  done := by
    intro X hP hw hK hc i pins s σ H E I hf st hg
    subst hP hw hK
    obtain ⟨⟨old, he⟩, hit, hne, hna⟩ := st
    obtain ⟨xs, hq, hx⟩ := hg
    obtain ⟨its, rv, p, hz⟩ := I.tuple hq
    obtain ⟨f0, f1, f2, f3, f4, f5⟩ := hf it (by simp)
    have hl := rv.length
    have ht : s.heap.IsTuple a its.toArray := p
    exact wpAny_pyNext_enum_endD (HT.draws_end (Ne.symm hna) (I.ok.hd hc) (i := i) (items := its.toArray) (by simp; omega)) he ⟨rfl, hit, ht⟩ fun h' eb => ⟨rfl, I.turned (t' := s.toks) (fun b o hb q => eb b o hb q) f0 f1 f3 f4 f5⟩
  self := fun A i s Q E st h => let ⟨⟨_, he⟩, _⟩ := st; wpAny_pyIter_enum he h
/-- enumerate of a list or a tuple -/
def iEnumS (K : PySem.W.Frag) (ta : TA) : TI := fun σ H R => ta σ H fun vs H1 => ∃ a, vs = [.ref a] ∧ (((∃ xs, SqL K H1 a xs) ∧ R (Ite K a) H1) ∨ ((∃ xs, SqT K H1 a xs) ∧ R (Itet K a) H1))
theorem pi_enumS {X : Cx} {e : Expr} {ta : TA} {p pos tpos : Pos} {elts : List Expr} {kk : Nat} (hg : Gl X "enumerate") (hm : X.mg "enumerate" = none) (ha : PA X [e] ta) (hs : starEach [e] X.env = [(false, eval e X.env)] := by rfl) :
    PI X (.Tuple elts kk tpos) (.Call (.Name "enumerate" p) [e] [] pos) (iEnumS X.K ta) := by
  refine ⟨fun pins s σ H R I h => ?_⟩
  refine Call_ (ld_blt I hg hm boot_enumerate (PyProof.Rows.callWith_type1 (thn (ha.run pos pins s σ H _ I h) fun us s1 ⟨vs, H1, I1, r1, q1⟩ => ?_) hs rfl))
  obtain ⟨a, ex, q⟩ := q1
  subst ex
  cases r1 with
  | cons r rr =>
    cases rr
    cases r
    have fresh : ∀ b ∈ [s1.heap.objs.size + 1, s1.heap.objs.size], FpOk X pins H1 b := fun b hb => by
      have e' : b = s1.heap.objs.size + 1 ∨ b = s1.heap.objs.size := by simpa using hb
      have hle : s1.heap.objs.size ≤ b := by rcases e' with rfl | rfl <;> omega
      exact I1.fpOk hle (I1.hok.fresh hle)
    rcases q with ⟨⟨xs, hq⟩, q⟩ | ⟨⟨xs, hq⟩, q⟩
    · obtain ⟨its, rv, p', hz⟩ := I1.list hq
      refine call_enumerate_list p'.isList fun h' he hit hsz hk => wpAny_pyIter_enum he ?_
      exact ⟨s1.heap.objs.size + 1, [s1.heap.objs.size + 1, s1.heap.objs.size], _, _, H1, rfl, I1.kept (t' := s1.toks) hk, turn_enum a (s1.heap.objs.size + 1) s1.heap.objs.size, ⟨⟨.none, he⟩, hit, Nat.succ_ne_self _⟩, fresh, q⟩
    · obtain ⟨its, rv, p', hz⟩ := I1.tuple hq
      have ht : s1.heap.IsTuple a its.toArray := p'
      have hla : a < s1.heap.objs.size := by obtain ⟨_, q, _⟩ := ht; exact Heap.lt_size q
      refine HT.call_enum_tuple ht fun h' he hit hk => wpAny_pyIter_enum he ?_
      exact ⟨s1.heap.objs.size + 1, [s1.heap.objs.size + 1, s1.heap.objs.size], _, _, H1, rfl, I1.kept (t' := s1.toks) hk, turn_enumT a (s1.heap.objs.size + 1) s1.heap.objs.size, ⟨⟨.none, he⟩, hit, Nat.succ_ne_self _, Nat.ne_of_gt hla⟩, fresh, q⟩
section
variable {X : Cx} {W : Wd} {k : Nat} {E : XK} {e : Expr} {d : Env → Mo PV} {p pos : Pos}
/-- numbered from i -/
def enuP : Nat → List PV → List PV
  | _, [] => []
  | i, q :: l => .tup [.int i, q] :: enuP (i + 1) l
theorem enuP_get : ∀ (l : List PV) (i j : Nat), (enuP j l)[i]? = (l[i]?).map fun q => .tup [.int ((j + i : Nat) : Int), q]
  | [], i, j => by simp [enuP]
  | q :: l, 0, j => by simp [enuP]
  | q :: l, i + 1, j => by
    rw [enuP, List.getElem?_cons_succ, List.getElem?_cons_succ, enuP_get l i (j + 1)]
    congr 1
    funext z
    have : j + 1 + i = j + (i + 1) := by omega
    rw [this]
@[simp] theorem enuP_len : ∀ (l : List PV) (j : Nat), (enuP j l).length = l.length
  | [], _ => rfl
  | q :: l, j => by rw [enuP, List.length_cons, List.length_cons, enuP_len l]
theorem enu_yld {ι : List Addr} {st : Sto} {H H' : Hp} {i : Nat} {v : V} {q : PV} {T : Addr} {xs : List V} {x : V} (rs : RS W ι st H) (hT : H T = none) (e : H' = upd H T (.tup [.int (i : Nat), x])) (rv : RV W ι H x q) : Mono ι H ι H' ∧ RS W ι st H' ∧ RV W ι H' (.ref T) (.tup [.int (i : Nat), q]) := by
  subst e
  have m : Mono ι H ι (upd H T (.tup [.int (i : Nat), x])) := Mono.new hT
  exact ⟨m, rs.other hT, .tup (.inl (.inl upd_same)) (rvs_mono rs m _ _ (.cons (.int _) (.cons rv .nil))) (by simp)⟩
theorem jok_enumL {ι : List Addr} {H : Hp} {n : Nat} {a : Addr} {l : List PV} (hn : ι[n]? = some a) : JOk W ⟨enuP 0 l, (sL n l).chk⟩ (Ite W.K a) ι H := by
  intro ι' H' st m rs hc i
  have hr : ∃ vs, SqL W.K H' a vs ∧ RVs W ι' H' vs l := by
    rcases hc with h | h
    all_goals
      obtain ⟨vs, q, r, _⟩ := ro_sql (rs.ob n _ a h (m.pre n a hn))
      exact ⟨vs, q, r⟩
  obtain ⟨vs, sq, r⟩ := hr
  refine ⟨fun q hq => ?_, fun hl => ⟨vs, sq, by rw [r.length]; simpa using hl⟩⟩
  have hq : (enuP 0 l)[i]? = some q := hq
  rw [enuP_get, Option.map_eq_some_iff] at hq
  obtain ⟨z, hz, rfl⟩ := hq
  obtain ⟨v, hv, rv⟩ := r.get hz
  refine ⟨⟨vs, v, sq, hv⟩, fun x H'' y => ?_⟩
  obtain ⟨T, x', rfl, hT, e, y⟩ := y
  have e2 := y vs sq
  rw [hv] at e2
  cases e2
  have := enu_yld (i := i) (xs := vs) (v := v) rs hT e rv
  rw [Nat.zero_add]
  exact this
theorem jok_enumT {ι : List Addr} {st0 : Sto} {H : Hp} {a : Addr} {vs : List V} {l : List PV} (r0 : RS W ι st0 H) (he : SqT W.K H a vs) (r : RVs W ι H vs l) : JOk W (sV (enuP 0 l)) (Itet W.K a) ι H := by
  intro ι' H' st m rs hc i
  have r := rvs_mono r0 m _ _ r
  have sq : SqT W.K H' a vs := sqt_mono r0 m he
  refine ⟨fun q hq => ?_, fun hl => ⟨vs, sq, by rw [r.length]; simpa [sV] using hl⟩⟩
  have hq : (enuP 0 l)[i]? = some q := hq
  rw [enuP_get, Option.map_eq_some_iff] at hq
  obtain ⟨z, hz, rfl⟩ := hq
  obtain ⟨v, hv, rv⟩ := r.get hz
  refine ⟨⟨vs, v, sq, hv⟩, fun x H'' y => ?_⟩
  obtain ⟨T, x', rfl, hT, e, y⟩ := y
  have e2 := y vs sq
  rw [hv] at e2
  cases e2
  have := enu_yld (i := i) (xs := vs) (v := v) rs hT e rv
  rw [Nat.zero_add]
  exact this
def enuM : List PV → Mo Src
  | [.tup l] => fun st => .ok (sV (enuP 0 l)) st
  | [.loc n] => fun st => match st[n]? with
    | some (.lst _ l) => .ok ⟨enuP 0 l, (sL n l).chk⟩ st
    | _ => .stuck
  | _ => fail
theorem di_enum {dl : Env → Mo (List PV)} {elts : List Expr} {kk : Nat} {tpos : Pos} (h : DA X W k E [e] dl) (hg : Gl X "enumerate") (hm : W.mg "enumerate" = none) (hs : starEach [e] X.env = [(false, eval e X.env)] := by rfl) : DI X W k E (.Tuple elts kk tpos) (.Call (.Name "enumerate" p) [e] [] pos) (fun ρ => bnd (dl ρ) enuM) := ⟨fun o => pi_imp (pi_enumS hg (by rw [o.hM]; exact hm) (h.run o) hs) fun σ H R t => by
  obtain ⟨ι, ρ, st, re, rs, g⟩ := t
  refine ⟨ι, ρ, st, re, rs, Good.imp (Good.bind g) fun l st1 ι1 H1 m1 r1 g1 vs hv => ?_⟩
  rw [o.hK]
  cases hv with
  | nil => exact g1.elim
  | cons h1 t1 =>
    cases t1 with
    | cons _ _ => cases h1 <;> exact g1.elim
    | nil =>
      cases h1 <;> try exact g1.elim
      · rename_i a vs l sq rr z
        exact ⟨a, rfl, .inr ⟨⟨vs, sq⟩, g1.ok r1 _ H1 Mono.refl r1 (jok_enumT r1 sq rr)⟩⟩
      · rename_i n a hn
        unfold enuM at g1
        dsimp only at g1
        cases q : st1[n]? with
        | none => rw [q] at g1; exact g1.elim
        | some ob =>
          rw [q] at g1
          cases ob with
          | dct _ _ => exact g1.elim
          | sti _ => exact g1.elim
          | lst lk l =>
            obtain ⟨vs, sq, _, _⟩ := ro_sql (r1.ob n _ a q hn)
            exact ⟨a, rfl, .inl ⟨⟨vs, sq⟩, g1.ok r1 _ H1 Mono.refl r1 (jok_enumL hn)⟩⟩⟩
end
end PD
/-! PD: sorted(set(..)) of ints, any length; sorted of what holds ints. -/
namespace HT
open PySem PySem.Spec PyProof.Rows L2
section
variable {P : Program} {w : World} {A : Around} {E : Value → Shared → Prop} {s : Shared}
/-- set of a list of ints -/
theorem call_set_listI {l : Addr} {items : Array Value} (ns : List Int) {Q : Value → Shared → Prop} (hh : A.handled = none) (hl : s.heap.IsList l items) (hit : IntsAre items.toList ns) (hb : ns.length + 1 < scanBound)
    (h : ∀ (h' : Heap) (tk c : Nat), SetR w h' s.heap.objs.size (fun j => decide (j ∈ ns)) c → (∀ b o, s.heap.get? b = some o → h'.get? b = some o) → Q (.ref s.heap.objs.size) { s with heap := h', toks := tk }) :
    wpAny (model P w) A (call (.type "set") [.ref l]) Q E s := by
  obtain ⟨c, tl, hmro⟩ := F.called_set.mro
  have hmade := F.called_set.made
  have hsub := F.called_set.sub
  have h1 := F.called_set.notType
  have h2 := F.called_set.canCreate
  have hct := F.typeCall_set_1 (.ref l)
  refine wpAny_call (codeAny_of_tree ?_)
  show wpAny _ _ (callAny (.type "set") _) _ _ _
  refine wpAny_pure ⟨Code.quiet_builtin _ (by decide +kernel), codeAny_builtin F.entry_type_call ?_⟩
  rw [Around.under_plain (weight_type_call_type "set" [.ref l] []) rfl]
  repeat (any_goals (first | assumption | wp_step))
  have hz : ∀ o, (s.heap.push o).objs.size = s.heap.objs.size + 1 := fun o => Heap.size_push ..
  refine codeAny_mono (code_set_led1 (.ref l) (E := E) (Q₁ := fun obj s₁ => obj = .ref s.heap.objs.size ∧ s₁ = { s with heap := s.heap.push { cls := .type "set", dict := none, data := .set #[] 0 (.fresh 0 0 (!w.params.followText "set-order")) } }) ⟨rfl, rfl⟩) fun r s₁ hr => ?_
  match r, hr with
  | .error e, hr => exact hr
  | .ok .next, hr => exact hr.elim
  | .ok .brk, hr => exact hr.elim
  | .ok .cont, hr => exact hr.elim
  | .ok (.ret obj), hr =>
    obtain ⟨rfl, rfl⟩ := hr
    generalize hs0 : ({ cls := .type "set", dict := none, data := .set #[] 0 (.fresh 0 0 (!w.params.followText "set-order")) } : Obj) = o0
    have hS : (s.heap.push o0).get? s.heap.objs.size = some o0 := Heap.get?_push_size _ (by rw [← hs0]; rfl)
    have hT : Shared.TypeIs { s with heap := s.heap.push o0 } (.ref s.heap.objs.size) "set" := ⟨_, hS, by rw [← hs0]⟩
    have hli := F.called_set.init.lookup
    have hbi := F.called_set.init.bind (.ref s.heap.objs.size)
    repeat (any_goals (first | assumption | wp_step))
    refine codeAny_mono (codeAny_call_builtin (R := wants (fun r s₂ => r = .none ∧ ∃ h' tk c, s₂ = { s with heap := h', toks := tk } ∧ SetR w h' s.heap.objs.size (fun j => decide (j ∈ ns)) c ∧ (∀ b o, s.heap.get? b = some o → h'.get? b = some o)) E)
      F.called_set.init.plain F.entry_set_init (check_set_init_1 hT ?_)) fun r₂ s₂ hr₂ => ?_
    · obtain ⟨⟨ocls, odict, odata, oslots⟩, hol, hcl, nl, hdl⟩ := hl
      simp only at hcl hdl
      subst hcl hdl
      have hol' : (s.heap.push o0).get? l = some { cls := .type "list", dict := odict, data := .seq items nl, slots := oslots } := Heap.get?_push_of_some _ hol
      have hsls := F.sub_list_set
      have hslf := F.sub_list_frozenset
      have hne : (Value.type "list" == Value.type "dict") = false := by decide
      have hl1 : (s.heap.push o0).IsList l items := ⟨_, hol', rfl, nl, rfl⟩
      subst hs0
      unfold Builtin.«set.__init__» noKeywords Builtin.Frozenset.updateFrom
      generalize hPI : pyIter = PI
      wp_walk
      subst hPI
      refine wpAny_pyIter_list hl1 ?_
      refine wpAny_bind (wpAny_runValue ?_)
      have hlS : l < s.heap.objs.size := Heap.lt_size hol
      have hisz : items.size = ns.length := by
        have q := IntsAre.length hit
        rwa [Array.length_toList] at q
      have hneI : ∀ o, l ≠ (s.heap.push o).objs.size := fun o => by rw [hz]; exact Nat.ne_of_lt (Nat.lt_succ_of_lt hlS)
      have hSf : ∀ o, s.heap.objs.size ∉ [(s.heap.push o).objs.size, l] := fun o => by
        rw [hz]
        simp only [List.mem_cons, List.not_mem_nil, or_false, not_or]
        exact ⟨Nat.ne_of_lt (Nat.lt_succ_self _), Nat.ne_of_gt hlS⟩
      have hval : ∀ (i : Nat) (v : Value), items[i]? = some v → ∃ k t, ns[i]? = some k ∧ v = .int k t := fun i v hv => by
        have hi : i < ns.length := by rw [← hisz]; exact (Array.getElem?_eq_some_iff.mp hv).1
        obtain ⟨t, e⟩ := PyProof.Rows.IntsAre.int_at hit i v (by rw [Array.getElem?_toList]; exact hv)
        refine ⟨ns[i], t, List.getElem?_eq_getElem hi, ?_⟩
        rw [e, List.getD_eq_getElem?_getD, List.getElem?_eq_getElem hi] <;> rfl
      refine set_update_ints ((Walks.list (by simp [hh]) _ l (hneI _) items).toS) s.heap.objs.size (hSf _) ns hisz hb hval (items.size - 0) 0 _ (by omega) (Nat.zero_le _)
        ⟨⟨_, Heap.get?_push_size _ rfl, rfl, rfl⟩, hl1.push _⟩ ⟨0, Nat.le_refl 0, setR_new_at (Heap.get?_push_of_some _ hS)⟩ ?_
      intro s' c' hm hc' hS'
      obtain ⟨h', g2, d', tk', os'⟩ := s'
      have eg : g2 = s.gens := hm.gens
      have ed : d' = s.drawn := hm.drawn
      have eo : os' = s.os := hm.os
      subst eg ed eo
      show wpAny _ _ _ _ _ _
      refine wpAny_pure ?_
      show wpAny _ _ (ret Value.none) _ _ _
      refine wpAny_pure ⟨rfl, h', tk', c', rfl, hS', fun b o e => ?_⟩
      have hb0 : b < s.heap.objs.size := Heap.lt_size e
      have hb1 : b ≠ s.heap.objs.size := Nat.ne_of_lt hb0
      have hb2 : ∀ o, b ≠ (s.heap.push o).objs.size := fun o => by rw [hz]; exact Nat.ne_of_lt (Nat.lt_succ_of_lt hb0)
      exact hm.heap b o (by simp only [List.mem_cons, List.not_mem_nil, or_false, not_or]; exact ⟨hb1, hb2 _⟩) (Heap.get?_push_of_some _ (Heap.get?_push_of_some _ e))
    · match r₂, hr₂ with
      | .error e, hr₂ => exact hr₂
      | .ok .next, hr₂ => exact hr₂.elim
      | .ok .brk, hr₂ => exact hr₂.elim
      | .ok .cont, hr₂ => exact hr₂.elim
      | .ok (.ret r), hr₂ =>
        obtain ⟨rfl, h', tk, c, rfl, hS', hk'⟩ := hr₂
        repeat (any_goals (first | assumption | wp_step))
        exact h _ _ _ hS' hk'
/-- sorted of a set of ints, any length -/
theorem sorted_setAny {a : Addr} {S : Int → Bool} {n : Nat} {Q : Value → Shared → Prop} (R : SetR w s.heap a S n) (hh : A.handled = none)
    (hQ : ∀ s' p (out : Array Value) (c : Nat) (ns : List Int), (∀ b o, s.heap.get? b = some o → s'.heap.get? b = some o) → s'.gens = s.gens → s'.os = s.os → s.heap.objs.size ≤ p →
      s'.heap.get? p = some (seqObj "list" out c) → IntsAre out.toList ns → ns.Pairwise (· < ·) → (∀ k, k ∈ ns ↔ S k = true) → ns.length = n → Q (.ref p) s') :
    wpAny (model P w) A (call (.builtin "sorted") [.ref a]) Q E s := by
  obtain ⟨o, es, ep, t, ho, hex, hd, g, nd, hm, hb, hf, hn, hr, hl⟩ := R
  refine Calls.call_function_entry kind_sorted plain_sorted entry_sorted (args_sorted1 _) ?_
  unfold Builtin.«sorted»
  refine wpAny_bind (m := checkCount "sorted" 1 1 _) (wpAny_pure ?_)
  refine wpAny_bind (collect_set (A := A.in1) hh ⟨o, ho, hex.1, hd⟩ hf hb hr hl fun s1 vs k1 hz g1 o1 pm => ?_)
  have hI : IntsAre vs (vs.map Builtin.Re.reRawOf) := ints_of vs fun v hv => by
    obtain ⟨e, he, q⟩ := List.mem_map.mp (pm.mem_iff.mp hv)
    obtain ⟨k, tk, h1, _⟩ := g e he
    exact ⟨k, tk, by rw [← q]; exact h1⟩
  have pk : (vs.map Builtin.Re.reRawOf).Perm (es.toList.map keyOf) := by
    have q := pm.map Builtin.Re.reRawOf
    rw [List.map_map] at q
    exact q
  have hvl : vs.length ≤ sizeLine := by
    rw [pm.length_eq, List.length_map, Array.length_toList]
    exact fits_of_scanBound hb
  refine wpAny_bind (wpAny_newList ?_ hvl)
  have hoL : (s1.heap.push (seqObj "list" vs.toArray 0)).get? s1.heap.objs.size = some (seqObj "list" vs.toArray 0) := Heap.get?_push_size _ rfl
  refine wpAny_bind (wpAny_holding (wpAny_call_entry slot_list_sort ⟨_, hoL, rfl⟩ entry_list_sort (SrtO.list_sort_ord SrtO.swo_int hoL hvl (fun h2 => SrtO.ints_sortable hI h2) fun out a1 a2 => ⟨_, rfl, ?_⟩) (args_list_sort _)))
  obtain ⟨b1, b2, b3⟩ := SrtO.ints_out hI a1 a2
  obtain ⟨c, hc⟩ := sortedHeap_at (vs := vs) (out := out.toArray) hoL
  have pn := b2.trans pk
  refine wpAny_pure ⟨_, rfl, hQ _ s1.heap.objs.size out.toArray c (out.map SrtO.iv) (fun b u e => ?_) g1 o1 hz hc (by simpa using b1) (lt_of_le_nodup _ b3 (pn.nodup_iff.mpr nd)) (fun k => by rw [pn.mem_iff, ← hm k]) ?_⟩
  · have q := k1 b u e
    have hlt := Heap.lt_size q
    show (sortedHeap (s1.heap.push (seqObj "list" vs.toArray 0)) s1.heap.objs.size vs out.toArray).get? b = some u
    rw [sortedHeap_old (Nat.ne_of_lt hlt) (by rw [size_push']; exact Nat.lt_succ_of_lt hlt)]
    exact Heap.get?_push_of_some _ q
  · rw [pn.length_eq, List.length_map, Array.length_toList]
    exact hn
end
end HT
namespace PD
open PySem PySem.Spec PyProof.Rows L2
/-- the distinct ones in their order -/
def srtI (ns : List Int) : List Int := (dst ns).mergeSort fun a b => decide (a ≤ b)
theorem mem_srtI {ns : List Int} {k : Int} : k ∈ srtI ns ↔ k ∈ ns := by
  unfold srtI
  rw [(List.mergeSort_perm _ _).mem_iff, mem_dst]
theorem srtI_lt (ns : List Int) : (srtI ns).Pairwise (· < ·) := by
  have h1 : (srtI ns).Pairwise (· ≤ ·) := by
    have := List.pairwise_mergeSort (le := fun a b : Int => decide (a ≤ b)) (fun a b c h1 h2 => by simp at *; omega) (fun a b => by simp; omega) (dst ns)
    exact this.imp fun h => by simpa using h
  exact lt_of_le_nodup _ h1 ((List.mergeSort_perm _ _).nodup_iff.mpr (nodup_dst ns))
theorem lt_unique : ∀ {l m : List Int}, l.Pairwise (· < ·) → m.Pairwise (· < ·) → (∀ k, k ∈ l ↔ k ∈ m) → l = m
  | [], [], _, _, _ => rfl
  | [], b :: m, _, _, h => absurd ((h b).mpr (List.mem_cons_self ..)) List.not_mem_nil
  | a :: l, [], _, _, h => absurd ((h a).mp (List.mem_cons_self ..)) List.not_mem_nil
  | a :: l, b :: m, h1, h2, h => by
    rw [List.pairwise_cons] at h1 h2
    have hab : a = b := by
      rcases List.mem_cons.mp ((h a).mp (List.mem_cons_self ..)) with e | e
      · exact e
      · rcases List.mem_cons.mp ((h b).mpr (List.mem_cons_self ..)) with e2 | e2
        · exact e2.symm
        · have := h1.1 b e2
          have := h2.1 a e
          omega
    subst hab
    refine congrArg (a :: ·) (lt_unique h1.2 h2.2 fun k => ?_)
    have hk := h k
    constructor
    · intro q
      rcases List.mem_cons.mp (hk.mp (List.mem_cons_of_mem _ q)) with e | e
      · have := h1.1 k q; omega
      · exact e
    · intro q
      rcases List.mem_cons.mp (hk.mpr (List.mem_cons_of_mem _ q)) with e | e
      · have := h2.1 k q; omega
      · exact e
theorem srtI_length (ns : List Int) : (srtI ns).length ≤ ns.length := by
  unfold srtI
  rw [List.length_mergeSort]
  exact dst_le ns
section
variable {X : Cx} {W : Wd} {k : Nat} {E : XK} {a e : Expr} {p p2 q2 pos : Pos} {da d : Env → Mo PV} {dl : Env → Mo (List PV)}
def tSortSet (K : PySem.W.Frag) (ta : TE) : TE := fun σ H Q => ta σ H fun x H1 => ∃ (l : Addr) (ns : List Int), x = V.ref l ∧ (SqL K H1 l (ns.map V.int) ∨ SqT K H1 l (ns.map V.int)) ∧ ns.length ≤ 4000 ∧ ∀ p, H1 p = none → Q (.ref p) (upd H1 p (.lst ((srtI ns).map V.int)))
theorem pe_sortSet {ta : TE} (hc : X.calm = true) (hg : Gl X "sorted") (hm : X.mg "sorted" = none) (hg2 : Gl X "set") (hm2 : X.mg "set" = none) (ha : PE X a ta)
    (na : starEach [a] X.env = (false, eval a X.env) :: starEach [] X.env := by rfl) : PE X (.Call (.Name "sorted" p) [.Call (.Name "set" p2) [a] [] q2] [] pos) (tSortSet X.K ta) := by
  refine ⟨fun pins s σ H Q I h => ?_⟩
  refine Call_ (ld_blt I hg hm PyProof.Rows.boot_sorted ?_)
  refine PyProof.Rows.callWith_builtin1 (PyProof.Rows.args_cons ?_ rfl) rfl rfl
  refine Call_ (ld_blt I hg2 hm2 PyProof.Rows.boot_set ?_)
  refine PyProof.Rows.callWith_type1 (PyProof.Rows.args_cons (thn (ha.run pins s σ H _ I h) fun v s1 ⟨x, H1, I1, r1, q1⟩ => PyProof.Rows.args_nil ?_) na) na rfl
  obtain ⟨l, ns, rfl, hq, hl, q1⟩ := q1
  cases r1
  have fin : ∀ (h' : Heap) (tk c : Nat), SetR X.w h' s1.heap.objs.size (fun j => decide (j ∈ ns)) c → (∀ b o, s1.heap.get? b = some o → h'.get? b = some o) →
      wpAny (model X.prog X.w) X.A (call (.builtin "sorted") [.ref s1.heap.objs.size]) (fun v s2 => ∃ x H2, Inv X pins σ H2 s2 ∧ RelV x v ∧ Q x H2) X.xe { s1 with heap := h', toks := tk } := by
    intro h' tk c hS hk
    have I2 : Inv X pins σ H1 { s1 with heap := h', toks := tk } := I1.kept fun b o e => hk b o e
    have hS : SetR X.w ({ s1 with heap := h', toks := tk } : Shared).heap s1.heap.objs.size (fun j => decide (j ∈ ns)) c := hS
    revert I2 hS
    generalize ({ s1 with heap := h', toks := tk } : Shared) = s2
    intro I2 hS
    refine HT.sorted_setAny hS (I2.ok.hd hc) fun s' p out c ns' k g o hp hg hi hs hm hl' => ?_
    have e0 : ns' = srtI ns := lt_unique hs (srtI_lt ns) fun j => by rw [hm j, decide_eq_true_eq, mem_srtI]
    subst e0
    have hlen : ((srtI ns).map V.int).length ≤ sizeLine := by
      rw [List.length_map, sizeLine_eq]
      have := srtI_length ns
      omega
    have hn : H1 p = none := I2.hok.fresh hp
    have J : Inv X pins σ (upd H1 p (.lst ((srtI ns).map V.int))) { s2 with heap := s'.heap, gens := s'.gens, drawn := s'.drawn, toks := s'.toks } :=
      I2.call (ch := []) (Un.laid k hp hn) (I2.hok.laid k hp ⟨hlen, out.toList, c, vals_of_ints hi, hg⟩) (by rw [g]; exact I2.bare) (fun _ z => nomatch z)
    have e : s' = { s2 with heap := s'.heap, gens := s'.gens, drawn := s'.drawn, toks := s'.toks } := by
      cases s'
      cases s2
      cases o
      rfl
    rw [e]
    exact ⟨.ref p, _, J, rfl, q1 p hn⟩
  rcases hq with hq | hq
  · obtain ⟨its, r, pl, hz⟩ := I1.list hq
    exact HT.call_set_listI ns (I1.ok.hd hc) pl.isList (ints_of_vals (by simpa using r)) (by unfold scanBound; omega) fun h' tk c hS hk => PyProof.Rows.args_nil (fin h' tk c hS hk)
  · obtain ⟨its, r, pl, hz⟩ := I1.tuple hq
    exact call_set_tupI ns (I1.ok.hd hc) (show s1.heap.IsTuple l its.toArray from pl) (ints_of_vals (by simpa using r)) (by unfold scanBound; omega) fun h' tk c hS _ hk => PyProof.Rows.args_nil (fin h' tk c hS hk)
def sortSetQ (l : List PV) : Mo (List PV) := fun st => match intsV l with
  | some ns => if ns.length ≤ 4000 then .ok ((srtI ns).map PV.int) st else .stuck
  | none => .stuck
theorem rvs_intsL {ι : List Addr} {H : Hp} : ∀ ns : List Int, RVs W ι H (ns.map V.int) (ns.map PV.int)
  | [] => .nil
  | _ :: ns => .cons (.int _) (rvs_intsL ns)
theorem dl_sortSetL (h : DL X W k E a dl) (hm : W.mg "sorted" = none) (hm2 : W.mg "set" = none) (hg : Gl X "sorted" := by rfl) (hg2 : Gl X "set" := by rfl)
    (na : starEach [a] X.env = (false, eval a X.env) :: starEach [] X.env := by rfl) : DL X W k E (.Call (.Name "sorted" p) [.Call (.Name "set" p2) [a] [] q2] [] pos) (fun ρ => bnd (dl ρ) sortSetQ) :=
  ⟨fun o => pe_imp (pe_sortSet o.hc hg (by rw [o.hM]; exact hm) hg2 (by rw [o.hM]; exact hm2) (h.run o) na) fun σ H Q t => by
    obtain ⟨ι, ρ, st, re, rs, g⟩ := t
    refine ⟨ι, ρ, st, re, rs, Good.imp (Good.bind g) fun l st1 ι1 H1 m1 r1 g1 p vs h0 hn he rr hz => ?_⟩
    have g2 : Good W E ι1 H1 (match intsV l with | some ns => if ns.length ≤ 4000 then .ok ((srtI ns).map PV.int) st1 else .stuck | none => .stuck) (kL W H Q) := g1
    cases hns : intsV l with
    | none => rw [hns] at g2; exact g2.elim
    | some ns =>
      rw [hns] at g2
      obtain ⟨hc, g3⟩ := good_if g2
      have e := intsV_some hns
      subst e
      have e2 := RVs.of_ints rr
      subst e2
      refine ⟨p, ns, rfl, .inl (.inl (.inl he)), hc, fun nl hnl => ?_⟩
      exact good_newlst g3 r1 (rvs_intsL _) (by rw [List.length_map]; have := srtI_length ns; omega) hnl (none_back rs m1 r1.some_ hnl)⟩
def sortSetM (q : PV) : Mo (List PV) := bnd (sqM q) sortSetQ
end
end PD
/-! PD: sorted of a dict by ints. -/
namespace PD
open PySem PySem.Spec PyProof.Rows L2
def ordI (ns : List Int) : List Int := ns.mergeSort fun a b => decide (a ≤ b)
theorem ordI_perm (ns : List Int) : (ordI ns).Perm ns := List.mergeSort_perm _ _
theorem ordI_le (ns : List Int) : (ordI ns).Pairwise (· ≤ ·) := by
  have := List.pairwise_mergeSort (le := fun a b : Int => decide (a ≤ b)) (fun a b c h1 h2 => by simp at *; omega) (fun a b => by simp; omega) ns
  exact this.imp fun h => by simpa using h
theorem ordI_is {ns ms : List Int} (h1 : ms.Perm ns) (h2 : ms.Pairwise (· ≤ ·)) : ms = ordI ns :=
  List.Perm.eq_of_pairwise (le := fun a b : Int => a ≤ b) (fun a b _ _ h h' => Int.le_antisymm h h') h2 (ordI_le ns) (h1.trans (ordI_perm ns).symm)
section
variable {X : Cx} {W : Wd} {k : Nat} {E : XK} {a e : Expr} {p p2 q2 pos : Pos} {da d : Env → Mo PV} {dl : Env → Mo (List PV)}
def sortDQ (l : List (PV × PV)) : Mo (List PV) := fun st => match intsV (l.map (·.1)) with
  | some ns => if ns.length < 64 then .ok ((ordI ns).map PV.int) st else .stuck
  | none => .stuck
theorem rks_ints {ι : List Addr} {H : Hp} : ∀ {ks : List (Key × V)} {l : List (PV × PV)} {ns : List Int}, RKs W ι H ks l → l.map (·.1) = ns.map PV.int → ks.map (·.1) = ns.map Sum.inl
  | _, _, [], .nil, _ => rfl
  | _, _, _ :: _, .nil, h => by cases h
  | _, _, [], .cons _ _, h => by cases h
  | _, _, n :: ns, .cons (k := k) _ r, h => by
    rw [List.map_cons, List.map_cons] at h
    injection h with h1 h2
    rw [List.map_cons, List.map_cons, rks_ints r h2]
    congr 1
    cases k with
    | inl i => cases h1; rfl
    | inr x => cases h1
theorem dl_sortD (h : DE X W k E a d) (hm : W.mg "sorted" = none) (hg : Gl X "sorted" := by rfl) (hs : starEach [a] X.env = (false, eval a X.env) :: starEach [] X.env := by rfl) : DL X W k E (.Call (.Name "sorted" p) [a] [] pos) (fun ρ => bnd (d ρ) fun q => bnd (dctM q) sortDQ) :=
  ⟨fun o => pe_imp (pe_callB (call_sortedDI (X := X) o.hc) hg (by rw [o.hM]; exact hm) PyProof.Rows.boot_sorted (pa_cons (h.run o) pa_nil hs) (by decide) (by decide) hs (by rfl)) fun σ H Q t => by
    obtain ⟨ι, ρ, st, re, rs, g⟩ := t
    refine ⟨ι, ρ, st, re, rs, Good.imp (Good.bind g) fun q st1 ι1 H1 m1 r1 g1 x hx => ?_⟩
    obtain ⟨a, ks, l, rfl, hd, r, g2⟩ := dct_of r1 hx g1
    have g3 : Good W E ι1 H1 (match intsV (l.map (·.1)) with | some ns => if ns.length < 64 then .ok ((ordI ns).map PV.int) st1 else .stuck | none => .stuck) (kL W H Q) := g2
    cases hns : intsV (l.map (·.1)) with
    | none => rw [hns] at g3; exact g3.elim
    | some ns =>
      rw [hns] at g3
      obtain ⟨hc, g4⟩ := good_if g3
      refine ⟨a, ks, ns, rfl, hd, rks_ints r (intsV_some hns), hc, fun ys p hp hy hn => ?_⟩
      rw [ordI_is hp hy]
      exact good_newlst g4 r1 (rvs_intsL _) (by rw [List.length_map, (ordI_perm ns).length_eq]; omega) hn (none_back rs m1 r1.some_ hn)⟩
end
end PD
/-! PD: sorted(d.items()), ints by ints. -/
namespace PD
open PySem PySem.Spec PyProof.Rows L2
section
variable {X : Cx} {pins : List (Addr × Obj)} {σ : L2.St} {H H' : Hp} {s : Shared} {h' : Heap} {tk : Nat}
/-- many new objects at once -/
theorem inv_many (I : Inv X pins σ H s) (hk : ∀ b o, s.heap.get? b = some o → h'.get? b = some o) (hoff : ∀ b, b < s.heap.objs.size → H' b = H b)
    (hok : ∀ b u, s.heap.objs.size ≤ b → H' b = some u → ObjOk X.prog X.w H' h' b u) : Inv X pins σ H' { s with heap := h', toks := tk } := by
  have kp : ∀ b u, H b = some u → H' b = some u := fun b u e => by
    by_cases hb : b < s.heap.objs.size
    · rw [hoff b hb]; exact e
    · rw [I.hok.fresh (Nat.le_of_not_lt hb)] at e; cases e
  refine I.call' (ch := []) rfl ⟨fun b o q _ _ _ => hk b o q, fun b o q _ _ _ => ⟨o.slots, hk b o q⟩, fun b o q n _ => ?_, fun b o q _ => ⟨o, hk b o q⟩, fun b xs q => kp b _ q, fun b o u q => kp b _ q, fun b ps q => ⟨#[], by rw [kp b _ q]; simp⟩⟩ (fun b u q => ?_) I.bare fun b z => nomatch z
  · rw [hoff b (Heap.lt_size q)]; exact n
  · by_cases hb : b < s.heap.objs.size
    · rw [hoff b hb] at q
      exact (I.hok b u q).stay (fun d v _ y => hk d v y) (fun d y => kp d _ y) fun d xs y => kp d _ y
    · exact hok b u (Nat.le_of_not_lt hb) q
end
theorem paired_of {α β : Type} {F : α → β → Prop} : ∀ {xs : List α} {ys : List β}, xs.length = ys.length → (∀ (i : Nat) (x : α) (y : β), xs[i]? = some x → ys[i]? = some y → F x y) → Paired F xs ys
  | [], [], _, _ => .nil
  | [], _ :: _, h, _ => by cases h
  | _ :: _, [], h, _ => by cases h
  | x :: xs, y :: ys, h, k => .cons (k 0 x y rfl rfl) (paired_of (Nat.succ.inj h) fun i a b h1 h2 => k (i + 1) a b h1 h2)
def lexLe (p q : Int × Int) : Bool := !SrtO.lexB q p
theorem lexLe_iff {p q : Int × Int} : lexLe p q = true ↔ p.1 < q.1 ∨ (p.1 = q.1 ∧ p.2 ≤ q.2) := by
  unfold lexLe
  rw [Bool.not_eq_true', ← Bool.not_eq_true, SrtO.lexB_iff]
  omega
def ordPP (ps : List (Int × Int)) : List (Int × Int) := ps.mergeSort lexLe
theorem ordPP_is {ps qs : List (Int × Int)} (h1 : qs.Perm ps) (h2 : qs.Pairwise fun p q => lexLe p q = true) : qs = ordPP ps := by
  have h3 : (ordPP ps).Pairwise fun p q => lexLe p q = true := List.pairwise_mergeSort (le := lexLe) (fun a b c h1 h2 => by rw [lexLe_iff] at *; omega) (fun a b => by rw [Bool.or_eq_true, lexLe_iff, lexLe_iff]; omega) ps
  refine List.Perm.eq_of_pairwise (le := fun p q => lexLe p q = true) (fun a b _ _ h h' => ?_) h2 h3 (h1.trans (List.mergeSort_perm _ _).symm)
  rw [lexLe_iff] at h h'
  refine Prod.ext ?_ ?_ <;> omega
def entI (p : Int × Int) : Key × V := (.inl p.1, .int p.2)
/-- the pairs of ints, in their order, in new tuples -/
def tSortIt (te : TE) : TE := fun σ H Q => te σ H fun x H1 => ∃ (d : Addr) (ps : List (Int × Int)), x = .ref d ∧ Rd H1 d (.dK (ps.map entI)) ∧
  ∀ (H' : Hp) (L : Addr) (ts : List Addr), (∀ b o, H1 b = some o → H' b = some o) → (∀ b ∈ L :: ts, H1 b = none) → L ∉ ts → H' L = some (.lst (ts.map V.ref)) → Paired (fun (t : Addr) (q : Int × Int) => H' t = some (.tup [.int q.1, .int q.2])) ts (ordPP ps) → Q (.ref L) H'
section
variable {X : Cx} {e : Expr} {te : TE} {p apos cpos pos : Pos}
theorem pe_sortIt (hc : X.calm = true) (he : PE X e te) (hg : Gl X "sorted") (hm : X.mg "sorted" = none) (hbase : attributeBase e "items" X.env (eval e X.env) = eval e X.env := by rfl) (hline : (apos.endLine == cpos.line) = true := by rfl)
    (hs : starEach [.Call (.Attribute e "items" apos) [] [] cpos] X.env = (false, eval (.Call (.Attribute e "items" apos) [] [] cpos) X.env) :: starEach [] X.env := by rfl) :
    PE X (.Call (.Name "sorted" p) [.Call (.Attribute e "items" apos) [] [] cpos] [] pos) (tSortIt te) := by
  refine ⟨fun pins s σ H Q I hq => ?_⟩
  refine Call_ (ld_blt I hg hm PyProof.Rows.boot_sorted ?_)
  refine PyProof.Rows.callWith_builtin1 (PyProof.Rows.args_cons ?_ hs) hs rfl
  refine wpAny_Call_method (T := "dict") (id := "dict.items") hbase rfl hline F.plainAttrs_dict F.slot_dict_items F.type_dict_items (thn (he.run pins s σ H _ I hq) fun u s1 ⟨x, H1, I1, rx, d, ps, ex, hd, q⟩ => ?_)
  subst ex
  obtain rfl : u = Value.ref d := rx
  obtain ⟨hz, hs0, vs, kv, hdo⟩ := dk_rd I1.hok hd
  refine ⟨hdo.typeIs, hdo.mapOf.noDict, ?_⟩
  refine method_meetsIn F.slot_dict_items F.entry_dict_items rfl (PySem.evalArgs_none ⟨rfl, hdo.typeIs, F.args_dict_items_1 _, _, meets_dict_items (mixKind X.prog X.w) d hs0, ⟨vs, hdo⟩, ?_⟩)
  refine PyProof.Rows.args_nil ?_
  obtain ⟨od, es, ep, hod, hex, hdat, -, hpr, -⟩ := id hdo
  have l1 : ps.length = vs.length := by
    have := Paired.length kv
    rwa [List.length_map] at this
  have l2 : es.size = vs.length := by
    have := hpr.length
    rwa [Array.length_toList] at this
  rw [List.length_map] at hz
  -- entry j
  have ent : ∀ (j : Nat) (en : DictEntry), es[j]? = some en → ∃ (p : Int × Int) (t1 t2 : Tok), ps[j]? = some p ∧ en.key = .int p.1 t1 ∧ en.val = .int p.2 t2 := by
    intro j en he
    have hj : j < vs.length := by rw [← l2]; exact (Array.getElem?_eq_some_iff.mp he).1
    obtain ⟨p, hp⟩ : ∃ p, ps[j]? = some p := ⟨ps[j], List.getElem?_eq_getElem (by omega)⟩
    obtain ⟨kq, hkq⟩ : ∃ kq, vs[j]? = some kq := ⟨vs[j], List.getElem?_eq_getElem hj⟩
    obtain ⟨y, hy, g1, g2⟩ := LiI.paired_get kv (x := entI p) (i := j) (by rw [List.getElem?_map, hp]; rfl)
    rw [hkq] at hy
    cases hy
    obtain ⟨r1, r2⟩ := hpr.get? (i := j) (e := en) (k := kq.1) (v := kq.2) (by rw [Array.getElem?_toList]; exact he) hkq
    have g1 : Sum.inl p.1 = kq.1 := g1
    rw [← g1] at r1
    obtain ⟨t2, g2⟩ : ∃ t, kq.2 = .int p.2 t := g2
    have r1 : keyIs (.inl p.1) en.key = true := r1
    rcases keyIs_shape r1 with ⟨i, t1, e1, e2⟩ | ⟨x, t1, e1, e2⟩
    · have e3 : p.1 = i := by injection e1
      subst e3
      exact ⟨p, t1, t2, hp, e2, r2.trans g2⟩
    · cases e1
  have hview : (s1.heap.push { cls := .type "dict_items", data := .fields #[.ref d] }).IsItemsView s1.heap.objs.size d := ⟨_, Heap.get?_push_size _ rfl, rfl, rfl⟩
  have hraw : DT.Raw (s1.heap.push { cls := .type "dict_items", data := .fields #[.ref d] }) d es ep := ⟨od, Heap.get?_push_of_some _ hod, hex, hdat⟩
  have I2 : Inv X pins σ H1 { s1 with heap := s1.heap.push { cls := .type "dict_items", data := .fields #[.ref d] } } := I1.kept (t' := s1.toks) fun b ob q => Heap.get?_push_of_some _ q
  revert I2 hview hraw
  generalize hs2 : ({ s1 with heap := s1.heap.push { cls := .type "dict_items", data := .fields #[.ref d] } } : Shared) = s2
  intro hview hraw I2
  have eh : s2.heap = s1.heap.push { cls := .type "dict_items", data := .fields #[.ref d] } := by rw [← hs2]
  have e0 : s1.heap.objs.size < s2.heap.objs.size := by rw [eh, Heap.size_push]; exact Nat.lt_succ_self _
  rw [← eh] at hview hraw
  refine DT.sortedI (es := es) (ep := ep) (I2.ok.hd hc) hview hraw (by omega) fun h' tk as hk hlt hl hG => ?_
  have nd : as.Nodup := List.Pairwise.imp (fun h => Nat.ne_of_lt h) hG.rise
  have lak : as.length = ps.length := by omega
  have hob : (h'.push { cls := .type "list", data := .seq (as.map Value.ref).toArray }).get? h'.objs.size = some (seqObj "list" (as.map Value.ref).toArray 0) := Heap.get?_push_size _ rfl
  have ka : ∀ b o, h'.get? b = some o → (h'.push { cls := .type "list", data := .seq (as.map Value.ref).toArray }).get? b = some o := fun b o e => Heap.get?_push_of_some _ e
  have hLn : ∀ b o, h'.get? b = some o → b ≠ h'.objs.size := fun b o e => Nat.ne_of_lt (Heap.lt_size e)
  revert hob ka hLn
  generalize h'.push { cls := .type "list", data := .seq (as.map Value.ref).toArray } = h2
  generalize hL : h'.objs.size = L
  intro hob ka hLn
  have pr : ∀ (j : Nat) (b : Addr), as[j]? = some b → ∃ (p : Int × Int) (t1 t2 : Tok), ps[j]? = some p ∧ h2.get? b = some { cls := .type "tuple", data := .seq #[.int p.1 t1, .int p.2 t2] } ∧ s2.heap.objs.size ≤ b ∧ b ≠ L := by
    intro j b hj
    obtain ⟨en, he, hg⟩ := hG.pairs j b hj
    obtain ⟨p, t1, t2, hp, k1, k2⟩ := ent j en he
    refine ⟨p, t1, t2, hp, ?_, Nat.le_of_lt (hG.above b (List.mem_of_getElem? hj)), hLn _ _ hg⟩
    rw [ka _ _ hg, k1, k2]
  let kk : Value → Int × Int := fun u => match u with
    | .ref b => (ps[as.idxOf b]?).getD (0, 0)
    | _ => (0, 0)
  have kkj : ∀ (j : Nat) (b : Addr) (p : Int × Int), as[j]? = some b → ps[j]? = some p → kk (.ref b) = p := by
    intro j b p hj hp
    show (ps[as.idxOf b]?).getD (0, 0) = p
    have hjl := (List.getElem?_eq_some_iff.mp hj)
    obtain ⟨hj1, hj2⟩ := hjl
    have : as.idxOf b = j := by rw [← hj2]; exact nd.idxOf_getElem j hj1
    rw [this, hp]
    rfl
  have hIsP : ∀ v ∈ as.map Value.ref, Srt.IsPair h2 v (kk v).1 (kk v).2 := by
    intro v hv
    obtain ⟨b, hb, rfl⟩ := List.mem_map.mp hv
    obtain ⟨j, hj⟩ := List.mem_iff_getElem?.mp hb
    obtain ⟨p, t1, t2, hp, hg, _, _⟩ := pr j b hj
    rw [kkj j b p hj hp]
    exact ⟨b, _, t1, t2, 0, rfl, hg, rfl, rfl⟩
  have hz2 : (as.map Value.ref).length ≤ sizeLine := by rw [List.length_map]; omega
  refine wpAny_call_entry PyProof.Rows.slot_list_sort ⟨_, hob, rfl⟩ PyProof.Rows.entry_list_sort
    (SrtO.list_sort_ord (s := { s2 with heap := h2, toks := tk }) (SrtO.swo_lex kk) hob hz2 (fun h2' => SrtO.pairs_sortableO (by omega) hIsP fun o e => ?_) fun out a1 a2 => ⟨.none, rfl, ?_⟩) (PyProof.Rows.args_list_sort _)
  · have e' : some o = some (seqObj "list" (as.map Value.ref).toArray 0) := e.symm.trans hob
    cases e'
    intro c
    exact absurd (Value.type.inj c) (by decide)
  · obtain ⟨ep', he'⟩ := PyProof.Rows.sortedHeap_at (vs := as.map Value.ref) (out := out.toArray) hob
    let back : Value → Addr := fun u => match u with
      | .ref b => b
      | _ => 0
    obtain ⟨bs, hbs⟩ : ∃ bs : List Addr, bs = out.map back := ⟨_, rfl⟩
    have ho : out = bs.map Value.ref := by
      rw [hbs, List.map_map]
      have : ∀ u ∈ out, (Value.ref ∘ back) u = u := fun u hu => by
        obtain ⟨b, _, rfl⟩ := List.mem_map.mp (a2.perm.mem_iff.mp hu)
        rfl
      exact ((List.map_congr_left this).trans (List.map_id out)).symm
    have hperm : bs.Perm as := by
      have := a2.perm.map back
      rw [List.map_map, ← hbs] at this
      have e : as.map (back ∘ Value.ref) = as := List.map_id'' (fun _ => rfl) as
      rw [e] at this
      exact this
    have hkk : as.map (fun b => kk (.ref b)) = ps := by
      refine List.ext_getElem? fun j => ?_
      rw [List.getElem?_map]
      cases hj : as[j]? with
      | none =>
        rw [List.getElem?_eq_none_iff] at hj
        exact (List.getElem?_eq_none (by omega)).symm
      | some b =>
        obtain ⟨p, _, _, hp, _⟩ := pr j b hj
        rw [hp, Option.map_some, kkj j b p hj hp]
    have hord : bs.map (fun b => kk (.ref b)) = ordPP ps := by
      refine ordPP_is ?_ ?_
      · have := hperm.map fun b => kk (.ref b)
        rwa [hkk] at this
      · rw [List.pairwise_map]
        rw [ho] at a1
        have a3 := a1
        unfold SrtO.Srtd at a3
        rw [List.pairwise_map] at a3
        refine a3.imp fun {a b} h => ?_
        have h : SrtO.lexB (kk (.ref b)) (kk (.ref a)) = false := h
        unfold lexLe
        rw [h]
        rfl
    have hLas : L ∉ as := fun z => by
      obtain ⟨j, hj⟩ := List.mem_iff_getElem?.mp z
      obtain ⟨_, _, _, _, _, _, hne⟩ := pr j L hj
      exact hne rfl
    have asz : ∀ b ∈ as, s2.heap.objs.size ≤ b := fun b hb => by
      obtain ⟨j, hj⟩ := List.mem_iff_getElem?.mp hb
      obtain ⟨_, _, _, _, _, h5, _⟩ := pr j b hj
      exact h5
    have hLs : s2.heap.objs.size ≤ L := by rw [← hL]; exact Nat.le_of_lt hlt
    have hat := LiI.putT_at as (ps.map entI) H1 (by rw [List.length_map]; omega) nd
    have hoff : ∀ b, b ∉ as → b ≠ L → upd (LiI.putT H1 as (ps.map entI)) L (.lst (bs.map V.ref)) b = H1 b := fun b h1 h2 => by rw [upd_ne h2, LiI.putT_off as _ _ h1]
    have hput : ∀ (j : Nat) (b : Addr) (p : Int × Int), as[j]? = some b → ps[j]? = some p → upd (LiI.putT H1 as (ps.map entI)) L (.lst (bs.map V.ref)) b = some (.tup [.int p.1, .int p.2]) := fun j b p hj hp => by
      obtain ⟨y, hy, e⟩ := LiI.paired_get hat hj
      rw [List.getElem?_map, hp] at hy
      cases hy
      rw [upd_ne (fun z => hLas (by rw [← z]; exact List.mem_of_getElem? hj)), e]
      rfl
    have h3 : ∀ b o, h2.get? b = some o → b ≠ L → (sortedHeap h2 L (as.map Value.ref) out.toArray).get? b = some o := fun b o e hb => by
      rw [PyProof.Rows.sortedHeap_old hb (Heap.lt_size e)]; exact e
    have J : Inv X pins σ (upd (LiI.putT H1 as (ps.map entI)) L (.lst (bs.map V.ref))) { s2 with heap := sortedHeap h2 L (as.map Value.ref) out.toArray, toks := tk } := by
      refine inv_many I2 (fun b o e => h3 b o (ka _ _ (hk _ _ e)) (hLn _ _ (hk _ _ e))) (fun b hb => hoff b (fun z => ?_) ?_) fun b u hb hu => ?_
      · exact absurd (asz b z) (Nat.not_le_of_lt hb)
      · exact Nat.ne_of_lt (Nat.lt_of_lt_of_le hb hLs)
      · by_cases hbL : b = L
        · subst hbL
          rw [upd_same] at hu
          cases hu
          refine ⟨by rw [List.length_map, hperm.length_eq]; omega, out, ep', ?_, he'⟩
          rw [ho]
          exact LiI.vals_refs bs
        · by_cases hba : b ∈ as
          · obtain ⟨j, hj⟩ := List.mem_iff_getElem?.mp hba
            obtain ⟨p, t1, t2, hp, hg, _, _⟩ := pr j b hj
            rw [hput j b p hj hp] at hu
            cases hu
            exact ⟨by show 2 ≤ sizeLine; decide, [.int p.1 t1, .int p.2 t2], .cons ⟨_, rfl⟩ (.cons ⟨_, rfl⟩ .nil), ⟨_, h3 _ _ hg hbL, rfl, 0, rfl⟩⟩
          · rw [hoff b hba hbL, I2.hok.fresh hb] at hu
            cases hu
    refine ⟨.ref L, _, J, rfl, q _ L bs (fun b o e => ?_) (fun b hb => ?_) (fun z => hLas (hperm.mem_iff.mp z)) upd_same ?_⟩
    · have hbs2 : b < s2.heap.objs.size := Nat.lt_of_not_le fun z => by rw [I2.hok.fresh z] at e; cases e
      rw [hoff b (fun z => absurd (asz b z) (Nat.not_le_of_lt hbs2)) (Nat.ne_of_lt (Nat.lt_of_lt_of_le hbs2 hLs))]
      exact e
    · refine I2.hok.fresh ?_
      rcases List.mem_cons.mp hb with rfl | hb
      · exact hLs
      · exact asz b (hperm.mem_iff.mp hb)
    · rw [← hord]
      refine paired_of (by rw [List.length_map]) fun i x y hx hy => ?_
      rw [List.getElem?_map, hx] at hy
      cases hy
      obtain ⟨j, hj⟩ := List.mem_iff_getElem?.mp (hperm.mem_iff.mp (List.mem_of_getElem? hx))
      obtain ⟨p, _, _, hp, _⟩ := pr j x hj
      have e9 := hput j x p hj hp
      rw [← kkj j x p hj hp] at e9
      exact e9
end
section
variable {X : Cx} {W : Wd} {k : Nat} {E : XK} {e : Expr} {d : Env → Mo PV} {p apos cpos pos : Pos}
def pairsOf : List (PV × PV) → Option (List (Int × Int))
  | [] => some []
  | (.int i, .int j) :: l => (pairsOf l).map fun ps => (i, j) :: ps
  | _ => none
theorem pairsOf_some : ∀ {l : List (PV × PV)} {ps : List (Int × Int)}, pairsOf l = some ps → l = ps.map fun p => (PV.int p.1, PV.int p.2)
  | [], ps, h => by cases h; rfl
  | (.int i, .int j) :: l, ps, h => by
    unfold pairsOf at h
    rw [Option.map_eq_some_iff] at h
    obtain ⟨qs, h1, rfl⟩ := h
    rw [pairsOf_some h1]
    rfl
  | (.int i, .non) :: l, ps, h => by cases h
  | (.int i, .bl _) :: l, ps, h => by cases h
  | (.int i, .str _) :: l, ps, h => by cases h
  | (.int i, .tup _) :: l, ps, h => by cases h
  | (.int i, .loc _) :: l, ps, h => by cases h
  | (.int i, .fn _) :: l, ps, h => by cases h
  | (.int i, .kl _) :: l, ps, h => by cases h
  | (.non, _) :: l, ps, h => by cases h
  | (.bl _, _) :: l, ps, h => by cases h
  | (.str _, _) :: l, ps, h => by cases h
  | (.tup _, _) :: l, ps, h => by cases h
  | (.loc _, _) :: l, ps, h => by cases h
  | (.fn _, _) :: l, ps, h => by cases h
  | (.kl _, _) :: l, ps, h => by cases h
@[simp] theorem pairsOf_map : ∀ ps : List (Int × Int), pairsOf (ps.map fun p => (PV.int p.1, PV.int p.2)) = some ps
  | [] => rfl
  | p :: ps => by rw [List.map_cons, pairsOf, pairsOf_map ps]; rfl
theorem rks_pairs {ι : List Addr} {H : Hp} : ∀ {ks : List (Key × V)} {ps : List (Int × Int)}, RKs W ι H ks (ps.map fun p => (PV.int p.1, PV.int p.2)) → ks = ps.map entI
  | _, [], r => by cases r; rfl
  | _, p :: ps, r => by
    rw [List.map_cons] at r
    generalize hq : (PV.int p.1, PV.int p.2) = q at r
    cases r with
    | cons rv rr =>
      rename_i k v pv vs
      injection hq with e1 e2
      subst e2
      cases rv
      rw [rks_pairs rr, List.map_cons]
      congr 1
      cases k with
      | inl i => cases e1; rfl
      | inr x => cases e1
def pairP (p : Int × Int) : PV := .tup [.int p.1, .int p.2]
def sortItQ (l : List (PV × PV)) : Mo (List PV) := fun st => match pairsOf l with
  | some ps => if ps.length ≤ 16777216 then .ok ((ordPP ps).map pairP) st else .stuck
  | none => .stuck
theorem rv_pairs {ι : List Addr} {H : Hp} : ∀ {ts : List Addr} {ps : List (Int × Int)}, Paired (fun (t : Addr) (q : Int × Int) => H t = some (.tup [.int q.1, .int q.2])) ts ps → RVs W ι H (ts.map V.ref) (ps.map pairP)
  | _, _, .nil => .nil
  | _, _, .cons h t => .cons (.tup (.inl (.inl h)) (.cons (.int _) (.cons (.int _) .nil)) (by simp)) (rv_pairs t)
theorem dl_sortIt (h : DE X W k E e d) (hm : W.mg "sorted" = none) (hg : Gl X "sorted" := by rfl) (hbase : attributeBase e "items" X.env (eval e X.env) = eval e X.env := by rfl) (hline : (apos.endLine == cpos.line) = true := by rfl)
    (hs : starEach [.Call (.Attribute e "items" apos) [] [] cpos] X.env = (false, eval (.Call (.Attribute e "items" apos) [] [] cpos) X.env) :: starEach [] X.env := by rfl) :
    DL X W k E (.Call (.Name "sorted" p) [.Call (.Attribute e "items" apos) [] [] cpos] [] pos) (fun ρ => bnd (d ρ) fun q => bnd (dctM q) sortItQ) :=
  ⟨fun o => pe_imp (pe_sortIt o.hc (h.run o) hg (by rw [o.hM]; exact hm) hbase hline hs) fun σ H Q t => by
    obtain ⟨ι, ρ, st, re, rs, g⟩ := t
    refine ⟨ι, ρ, st, re, rs, Good.imp (Good.bind g) fun q st1 ι1 H1 m1 r1 g1 x hx => ?_⟩
    obtain ⟨a, ks, l, rfl, hd, r, g2⟩ := dct_of r1 hx g1
    have g3 : Good W E ι1 H1 (match pairsOf l with | some ps => if ps.length ≤ 16777216 then .ok ((ordPP ps).map pairP) st1 else .stuck | none => .stuck) (kL W H Q) := g2
    cases hns : pairsOf l with
    | none => rw [hns] at g3; exact g3.elim
    | some ps =>
      rw [hns] at g3
      obtain ⟨hc, g4⟩ := good_if g3
      have e := pairsOf_some hns
      subst e
      have e2 := rks_pairs r
      subst e2
      refine ⟨a, ps, rfl, hd, fun H' L ts hk hn hL hat hp => ?_⟩
      have m : Mono ι1 H1 ι1 H' := ⟨fun _ _ h => h, fun _ h n => absurd h n, fun a u h _ => ⟨u, hk a u h, Kp.refl u⟩⟩
      have r2 : RS W ι1 st1 H' := ⟨r1.len, r1.nd, fun n u b h1 h2 => by
        have rr := r1.ob n u b h1 h2
        obtain ⟨y, e, _⟩ := rr.there
        exact RO.mono r1 m ((hk b y e).trans e.symm) rr, tab_mono r1 m, tl_keep r1.tl fun b o e _ => hk b o e⟩
      have hLn : H1 L = none := hn L (List.mem_cons_self ..)
      refine (g4.shift m) ι1 H' Mono.refl r2 L (ts.map V.ref) (none_back rs m1 r1.some_ hLn) (fun z => ?_) hat (rv_pairs hp) ?_
      · exact r1.some_ L z hLn
      · rw [List.length_map]
        unfold ordPP
        rw [List.length_mergeSort]
        exact hc⟩
end
end PD
/-! PD: a, b, .. = x, x a list. -/
namespace PD
open PySem PySem.Spec PyProof.Rows L2
section
variable {X : Cx} {W : Wd} {k : Nat} {E : XK} {es : List Expr} {gs : List PV → Env → Mo Env} {pos : Pos}
def gTpL (n : Nat) (gs : List PV → Env → Mo Env) : PV → Env → Mo Env := fun q ρ st => match q with
  | .loc m => match st[m]? with
    | some (.lst _ l) => if l.length = n then gs l ρ st else .stuck
    | _ => .stuck
  | _ => .stuck
theorem dg_tupL {x1 n : Nat} (h : DGs X W k E es gs) (hn : (assignEach es X.env).length = n := by rfl) (hst : (assignEach es X.env).findIdx? (·.1) = none := by rfl) : DG X W k E (.Tuple es x1 pos) (gTpL n gs) := ⟨fun o => pg_imp (pg_unl o.hc (h.run o) hn hst) fun v σ H Q t => by
  obtain ⟨ι, ρ, st, q, re, rs, r, g⟩ := t
  cases r <;> try exact g.elim
  rename_i m a hm
  unfold gTpL at g
  dsimp only at g
  cases q : st[m]? with
  | none => rw [q] at g; exact g.elim
  | some ob =>
    rw [q] at g
    cases ob with
    | dct _ _ => exact g.elim
    | sti _ => exact g.elim
    | lst lk l =>
      obtain ⟨vs, sq, rr, _⟩ := ro_sql (rs.ob m _ a q hm)
      obtain ⟨hc, g1⟩ := good_if g
      exact ⟨a, vs, rfl, by rw [o.hK]; exact sq, by rw [rr.length]; exact hc, ι, ρ, st, l, re, rs, rr, g1⟩⟩
@[simp] theorem e_gTpL {n m : Nat} {gs : List PV → Env → Mo Env} {ρ : Env} {st : Sto} : gTpL n gs (.loc m) ρ st = match st[m]? with | some (.lst _ l) => if l.length = n then gs l ρ st else .stuck | _ => .stuck := rfl
end
end PD
namespace K50
open PySem PySem.Spec PyProof.Rows L2 PD
def top (i : Nat) : Stmt := PySem.Challenge.pw_backtohand_k50_whole_worths_and_rents.main.body.getD i (.Pass ⟨0, 0, 0, 0⟩)
abbrev J_is_number : Nat := 0
abbrev J_is_moment : Nat := 1
abbrev J_is_ascending : Nat := 2
abbrev J_are_numbers_of : Nat := 3
abbrev J_has_moment : Nat := 4
abbrev J_present : Nat := 5
abbrev J_is_kept_set : Nat := 6
abbrev J_are_rents : Nat := 7
abbrev J_rent_of : Nat := 8
abbrev J_bound_of : Nat := 9
abbrev J_road : Nat := 10
abbrev J_least_costs : Nat := 11
abbrev J_send : Nat := 12
abbrev J_best_kept : Nat := 13
abbrev J__law_box : Nat := 14
abbrev J__law_load : Nat := 15
abbrev J__law_draw : Nat := 16
abbrev J__law_same : Nat := 17
abbrev J__law_stays : Nat := 18
abbrev J__law_present : Nat := 19
abbrev J__law_numbers : Nat := 20
abbrev J__law_bent : Nat := 21
abbrev J__law_kept : Nat := 22
abbrev J__law_rents : Nat := 23
abbrev J__law_bound : Nat := 24
abbrev J__law_greatest : Nat := 25
abbrev J__law_some : Nat := 26
abbrev J_law : Nat := 27
structure Ev (W : Wd) (base : Heap) : Prop where
  cx : W.cx = CX0
  b_all : W.mg "all" = none
  b_any : W.mg "any" = none
  b_bool : W.mg "bool" = none
  b_dict : W.mg "dict" = none
  b_enumerate : W.mg "enumerate" = none
  b_int : W.mg "int" = none
  b_isinstance : W.mg "isinstance" = none
  b_len : W.mg "len" = none
  b_list : W.mg "list" = none
  b_max : W.mg "max" = none
  b_min : W.mg "min" = none
  b_range : W.mg "range" = none
  b_set : W.mg "set" = none
  b_sorted : W.mg "sorted" = none
  b_str : W.mg "str" = none
  b_sum : W.mg "sum" = none
  b_tuple : W.mg "tuple" = none
  i_LAST_MOMENT : ∃ t, W.mg "LAST_MOMENT" = some (.int 1000000 t)
  g_is_ascending : W.mg "is_ascending" = some (.ref (He.fAd W.K ("is_ascending", none)))
  a_is_ascending : W.fa J_is_ascending = some (He.fAd W.K ("is_ascending", none))
  D_is_ascending : ∃ fd, FunD W.K "is_ascending" "is_ascending" (defArgs (top 4)) (defBody (top 4)) (defScope (top 4)) [] [] (He.fAd W.K ("is_ascending", none)) fd
  g_is_number : W.mg "is_number" = some (.ref (He.fAd W.K ("is_number", none)))
  a_is_number : W.fa J_is_number = some (He.fAd W.K ("is_number", none))
  D_is_number : ∃ fd, FunD W.K "is_number" "is_number" (defArgs (top 2)) (defBody (top 2)) (defScope (top 2)) [] [] (He.fAd W.K ("is_number", none)) fd
  g_are_numbers_of : W.mg "are_numbers_of" = some (.ref (He.fAd W.K ("are_numbers_of", none)))
  a_are_numbers_of : W.fa J_are_numbers_of = some (He.fAd W.K ("are_numbers_of", none))
  D_are_numbers_of : ∃ fd, FunD W.K "are_numbers_of" "are_numbers_of" (defArgs (top 6)) (defBody (top 6)) (defScope (top 6)) [] [] (He.fAd W.K ("are_numbers_of", none)) fd
  g_has_moment : W.mg "has_moment" = some (.ref (He.fAd W.K ("has_moment", none)))
  a_has_moment : W.fa J_has_moment = some (He.fAd W.K ("has_moment", none))
  D_has_moment : ∃ fd, FunD W.K "has_moment" "has_moment" (defArgs (top 7)) (defBody (top 7)) (defScope (top 7)) [] [] (He.fAd W.K ("has_moment", none)) fd
  g_present : W.mg "present" = some (.ref (He.fAd W.K ("present", none)))
  a_present : W.fa J_present = some (He.fAd W.K ("present", none))
  D_present : ∃ fd, FunD W.K "present" "present" (defArgs (top 8)) (defBody (top 8)) (defScope (top 8)) [] [] (He.fAd W.K ("present", none)) fd
  g_is_kept_set : W.mg "is_kept_set" = some (.ref (He.fAd W.K ("is_kept_set", none)))
  a_is_kept_set : W.fa J_is_kept_set = some (He.fAd W.K ("is_kept_set", none))
  D_is_kept_set : ∃ fd, FunD W.K "is_kept_set" "is_kept_set" (defArgs (top 10)) (defBody (top 10)) (defScope (top 10)) [] [] (He.fAd W.K ("is_kept_set", none)) fd
  g_is_moment : W.mg "is_moment" = some (.ref (He.fAd W.K ("is_moment", none)))
  a_is_moment : W.fa J_is_moment = some (He.fAd W.K ("is_moment", none))
  D_is_moment : ∃ fd, FunD W.K "is_moment" "is_moment" (defArgs (top 3)) (defBody (top 3)) (defScope (top 3)) [] [] (He.fAd W.K ("is_moment", none)) fd
  g_are_rents : W.mg "are_rents" = some (.ref (He.fAd W.K ("are_rents", none)))
  a_are_rents : W.fa J_are_rents = some (He.fAd W.K ("are_rents", none))
  D_are_rents : ∃ fd, FunD W.K "are_rents" "are_rents" (defArgs (top 11)) (defBody (top 11)) (defScope (top 11)) [] [] (He.fAd W.K ("are_rents", none)) fd
  g_rent_of : W.mg "rent_of" = some (.ref (He.fAd W.K ("rent_of", none)))
  a_rent_of : W.fa J_rent_of = some (He.fAd W.K ("rent_of", none))
  D_rent_of : ∃ fd, FunD W.K "rent_of" "rent_of" (defArgs (top 12)) (defBody (top 12)) (defScope (top 12)) [] [] (He.fAd W.K ("rent_of", none)) fd
  g_bound_of : W.mg "bound_of" = some (.ref (He.fAd W.K ("bound_of", none)))
  a_bound_of : W.fa J_bound_of = some (He.fAd W.K ("bound_of", none))
  D_bound_of : ∃ fd, FunD W.K "bound_of" "bound_of" (defArgs (top 13)) (defBody (top 13)) (defScope (top 13)) [] [] (He.fAd W.K ("bound_of", none)) fd
  g_road : W.mg "road" = some (.ref (He.fAd W.K ("road", none)))
  a_road : W.fa J_road = some (He.fAd W.K ("road", none))
  D_road : ∃ fd, FunD W.K "road" "road" (defArgs (top 14)) (defBody (top 14)) (defScope (top 14)) [] [] (He.fAd W.K ("road", none)) fd
  g_least_costs : W.mg "least_costs" = some (.ref (He.fAd W.K ("least_costs", none)))
  a_least_costs : W.fa J_least_costs = some (He.fAd W.K ("least_costs", none))
  D_least_costs : ∃ fd, FunD W.K "least_costs" "least_costs" (defArgs (top 15)) (defBody (top 15)) (defScope (top 15)) [] [] (He.fAd W.K ("least_costs", none)) fd
  g_send : W.mg "send" = some (.ref (He.fAd W.K ("send", none)))
  a_send : W.fa J_send = some (He.fAd W.K ("send", none))
  D_send : ∃ fd, FunD W.K "send" "send" (defArgs (top 16)) (defBody (top 16)) (defScope (top 16)) [] [] (He.fAd W.K ("send", none)) fd
  g_best_kept : W.mg "best_kept" = some (.ref (He.fAd W.K ("best_kept", none)))
  a_best_kept : W.fa J_best_kept = some (He.fAd W.K ("best_kept", none))
  D_best_kept : ∃ fd, FunD W.K "best_kept" "best_kept" (defArgs (top 17)) (defBody (top 17)) (defScope (top 17)) [] [] (He.fAd W.K ("best_kept", none)) fd
  g__law_box : W.mg "_law_box" = some (.ref (He.fAd W.K ("_law_box", none)))
  a__law_box : W.fa J__law_box = some (He.fAd W.K ("_law_box", none))
  D__law_box : ∃ fd, FunD W.K "_law_box" "_law_box" (defArgs (top 19)) (defBody (top 19)) (defScope (top 19)) [] [] (He.fAd W.K ("_law_box", none)) fd
  g__law_load : W.mg "_law_load" = some (.ref (He.fAd W.K ("_law_load", none)))
  a__law_load : W.fa J__law_load = some (He.fAd W.K ("_law_load", none))
  D__law_load : ∃ fd, FunD W.K "_law_load" "_law_load" (defArgs (top 20)) (defBody (top 20)) (defScope (top 20)) [] [] (He.fAd W.K ("_law_load", none)) fd
  g__law_draw : W.mg "_law_draw" = some (.ref (He.fAd W.K ("_law_draw", none)))
  a__law_draw : W.fa J__law_draw = some (He.fAd W.K ("_law_draw", none))
  D__law_draw : ∃ fd, FunD W.K "_law_draw" "_law_draw" (defArgs (top 21)) (defBody (top 21)) (defScope (top 21)) [] [] (He.fAd W.K ("_law_draw", none)) fd
  g__law_same : W.mg "_law_same" = some (.ref (He.fAd W.K ("_law_same", none)))
  a__law_same : W.fa J__law_same = some (He.fAd W.K ("_law_same", none))
  D__law_same : ∃ fd, FunD W.K "_law_same" "_law_same" (defArgs (top 22)) (defBody (top 22)) (defScope (top 22)) [] [] (He.fAd W.K ("_law_same", none)) fd
  g__law_stays : W.mg "_law_stays" = some (.ref (He.fAd W.K ("_law_stays", none)))
  a__law_stays : W.fa J__law_stays = some (He.fAd W.K ("_law_stays", none))
  D__law_stays : ∃ fd, FunD W.K "_law_stays" "_law_stays" (defArgs (top 23)) (defBody (top 23)) (defScope (top 23)) [] [] (He.fAd W.K ("_law_stays", none)) fd
  g__law_bent : W.mg "_law_bent" = some (.ref (He.fAd W.K ("_law_bent", none)))
  a__law_bent : W.fa J__law_bent = some (He.fAd W.K ("_law_bent", none))
  D__law_bent : ∃ fd, FunD W.K "_law_bent" "_law_bent" (defArgs (top 26)) (defBody (top 26)) (defScope (top 26)) [] [] (He.fAd W.K ("_law_bent", none)) fd
  g__law_present : W.mg "_law_present" = some (.ref (He.fAd W.K ("_law_present", none)))
  a__law_present : W.fa J__law_present = some (He.fAd W.K ("_law_present", none))
  D__law_present : ∃ fd, FunD W.K "_law_present" "_law_present" (defArgs (top 24)) (defBody (top 24)) (defScope (top 24)) [] [] (He.fAd W.K ("_law_present", none)) fd
  g__law_numbers : W.mg "_law_numbers" = some (.ref (He.fAd W.K ("_law_numbers", none)))
  a__law_numbers : W.fa J__law_numbers = some (He.fAd W.K ("_law_numbers", none))
  D__law_numbers : ∃ fd, FunD W.K "_law_numbers" "_law_numbers" (defArgs (top 25)) (defBody (top 25)) (defScope (top 25)) [] [] (He.fAd W.K ("_law_numbers", none)) fd
  g__law_kept : W.mg "_law_kept" = some (.ref (He.fAd W.K ("_law_kept", none)))
  a__law_kept : W.fa J__law_kept = some (He.fAd W.K ("_law_kept", none))
  D__law_kept : ∃ fd, FunD W.K "_law_kept" "_law_kept" (defArgs (top 27)) (defBody (top 27)) (defScope (top 27)) [] [] (He.fAd W.K ("_law_kept", none)) fd
  g__law_rents : W.mg "_law_rents" = some (.ref (He.fAd W.K ("_law_rents", none)))
  a__law_rents : W.fa J__law_rents = some (He.fAd W.K ("_law_rents", none))
  D__law_rents : ∃ fd, FunD W.K "_law_rents" "_law_rents" (defArgs (top 28)) (defBody (top 28)) (defScope (top 28)) [] [] (He.fAd W.K ("_law_rents", none)) fd
  g__law_bound : W.mg "_law_bound" = some (.ref (He.fAd W.K ("_law_bound", none)))
  a__law_bound : W.fa J__law_bound = some (He.fAd W.K ("_law_bound", none))
  D__law_bound : ∃ fd, FunD W.K "_law_bound" "_law_bound" (defArgs (top 29)) (defBody (top 29)) (defScope (top 29)) [] [] (He.fAd W.K ("_law_bound", none)) fd
  g__law_greatest : W.mg "_law_greatest" = some (.ref (He.fAd W.K ("_law_greatest", none)))
  a__law_greatest : W.fa J__law_greatest = some (He.fAd W.K ("_law_greatest", none))
  D__law_greatest : ∃ fd, FunD W.K "_law_greatest" "_law_greatest" (defArgs (top 30)) (defBody (top 30)) (defScope (top 30)) [] [] (He.fAd W.K ("_law_greatest", none)) fd
  g__law_some : W.mg "_law_some" = some (.ref (He.fAd W.K ("_law_some", none)))
  a__law_some : W.fa J__law_some = some (He.fAd W.K ("_law_some", none))
  D__law_some : ∃ fd, FunD W.K "_law_some" "_law_some" (defArgs (top 31)) (defBody (top 31)) (defScope (top 31)) [] [] (He.fAd W.K ("_law_some", none)) fd
  g_law : W.mg "law" = some (.ref (He.fAd W.K ("law", none)))
  a_law : W.fa J_law = some (He.fAd W.K ("law", none))
  D_law : ∃ fd, FunD W.K "law" "law" (defArgs (top 32)) (defBody (top 32)) (defScope (top 32)) [] [] (He.fAd W.K ("law", none)) fd
  T_is_ascending : GxR.TabB base W.mg (He.cT W.K ("is_ascending", none)).1 (He.cT W.K ("is_ascending", none)).2
  p_is_ascending : (He.cT W.K ("is_ascending", none)).2 ∈ W.tb
  q_is_ascending : ∀ p ∈ W.tl, p.1 ≠ (He.cT W.K ("is_ascending", none)).2
  T_are_numbers_of : GxR.TabB base W.mg (He.cT W.K ("are_numbers_of", none)).1 (He.cT W.K ("are_numbers_of", none)).2
  p_are_numbers_of : (He.cT W.K ("are_numbers_of", none)).2 ∈ W.tb
  q_are_numbers_of : ∀ p ∈ W.tl, p.1 ≠ (He.cT W.K ("are_numbers_of", none)).2
  T_is_kept_set : GxR.TabB base W.mg (He.cT W.K ("is_kept_set", none)).1 (He.cT W.K ("is_kept_set", none)).2
  p_is_kept_set : (He.cT W.K ("is_kept_set", none)).2 ∈ W.tb
  q_is_kept_set : ∀ p ∈ W.tl, p.1 ≠ (He.cT W.K ("is_kept_set", none)).2
abbrev N_is_ascending : List Str := ["rows", "k"]
noncomputable def d_is_ascending_1 : PD.Env → Mo Fl := (dRet (dGx false (fun ρ => bnd ((dCons (dBin oSub (fun ρ => bnd ((dVar 0) ρ) lenM) (dC (.int 1))) (fun _ st => .ok [] st)) ρ) rg1M) (.nm 1) dYes (dBin oLt (dBin oIx (dVar 0) (dVar 1)) (dBin oIx (dVar 0) (dBin oAdd (dVar 1) (dC (.int 1))))) [1]))
noncomputable def d_is_ascending : PD.Env → Mo Fl := d_is_ascending_1
theorem sc_is_ascending : FnScope N_is_ascending ["rows"] (defScope (top 4)) := C8.fnScope_by (by decide +kernel)
theorem body_is_ascending {P : Program} {w : World} {W : Wd} {base : Heap} (V : Ev W base)  : BodyT P w W base N_is_ascending "is_ascending" (defScope (top 4)) (He.fAd W.K ("is_ascending", none)) (He.cT W.K ("is_ascending", none)).1 4 (defBody (top 4)) d_is_ascending := fun A outer s H E =>
  (dss_one (ds_ret (de_allG V.T_is_ascending V.p_is_ascending V.q_is_ascending rfl V.b_all (own := [("k", 1)]) (di_range1 (da_cons (de_sub (de_lenV (de_var (i := 0)) rfl V.b_len) de_int) da_nil) rfl V.b_range) (blkOk_by (N := N_is_ascending) (sc := defScope (top 4)) (by decide +kernel)) (fun _ _ _ _ _ _ _ => (dp_name (i := 1))) (fun _ _ _ _ _ _ _ => dts_nil) (fun _ _ _ _ _ _ _ => (de_lt (de_ix (de_var (i := 0)) (de_var (i := 1))) (de_ix (de_var (i := 0)) (de_add (de_var (i := 1)) de_int)))))))
theorem raw_is_ascending {P : Program} {w : World} {W : Wd} {base : Heap} (V : Ev W base)  : DFn P w W base 5 (He.fAd W.K ("is_ascending", none)) 1 (bodyF 2 d_is_ascending) := by
  obtain ⟨fd, F⟩ := V.D_is_ascending
  exact DFn.ofT V.cx F sc_is_ascending (F.bindsN fun _ _ _ _ _ _ us hl => match us, hl with | [_], _ => rfl) (body_is_ascending V )
noncomputable def S_is_ascending : List PV → Mo PV := bodyF 2 d_is_ascending
theorem ref_is_ascending : Ref 1 (bodyF 2 d_is_ascending) S_is_ascending := ref_self
/-! networks: arcs with what room they have left, and what one thing more costs -/
structure Arc where
  s : Nat
  e : Nat
  r : Int
  c : Int
def Feas (as : List Arc) (f : Nat → Int) : Prop := ∀ a ∈ as, 0 < a.r → f a.e ≤ f a.s + a.c
def vO {α : Type} (l : List (Option α)) (v : Nat) : Option α := l[v]?.getD none
theorem vO_set {α : Type} {l : List (Option α)} {v w : Nat} {x : Option α} (h : v < l.length) : vO (l.set v x) w = if w = v then x else vO l w := by
  unfold vO
  rw [List.getElem?_set]
  by_cases e : v = w
  · subst e
    simp [h]
  · have : ¬ w = v := fun z => e z.symm
    simp [e, this]
/-- from v one comes back to 0 by the told arcs -/
inductive Chn (as : List Arc) (bs : List (Option Nat)) : Nat → Prop
  | zero : Chn as bs 0
  | step {v n : Nat} {a : Arc} : v ≠ 0 → vO bs v = some n → as[n]? = some a → a.e = v → Chn as bs a.s → Chn as bs v
structure BF (as : List Arc) (f : Nat → Int) (m : Nat) (ds : List (Option Int)) (bs : List (Option Nat)) : Prop where
  l1 : ds.length = m
  l2 : bs.length = m
  d0 : vO ds 0 = some 0
  b0 : vO bs 0 = none
  low : ∀ v x, vO ds v = some x → f v - f 0 ≤ x
  by_ : ∀ v n, vO bs v = some n → ∃ a x y, as[n]? = some a ∧ 0 < a.r ∧ a.e = v ∧ a.s < m ∧ vO ds a.s = some x ∧ vO ds v = some y ∧ x + a.c ≤ y
  has : ∀ v x, vO ds v = some x → v = 0 ∨ ∃ n, vO bs v = some n
  ch : ∀ v x, vO ds v = some x → Chn as bs v
section
variable {as : List Arc} {f : Nat → Int} {m : Nat} {ds : List (Option Int)} {bs : List (Option Nat)}
theorem vO_lt {α : Type} {l : List (Option α)} {v : Nat} {x : α} (h : vO l v = some x) : v < l.length := by
  unfold vO at h
  by_cases hv : v < l.length
  · exact hv
  · rw [List.getElem?_eq_none (by omega)] at h
    cases h
/-- nodes on the way of w lie not above w -/
theorem chn_keep (hf : Feas as f) (h : BF as f m ds bs) {v n : Nat} {y : Option Int} (hy : ∀ x, vO ds v = some x → y = some x) : ∀ {w : Nat}, Chn as bs w → ∀ x, vO ds w = some x → (∀ z, vO ds v = some z → x - f w < z - f v) → v < bs.length → vO ds v = none ∨ (∃ z, vO ds v = some z) → Chn as (bs.set v (some n)) w := by
  intro w hw
  induction hw with
  | zero => intro _ _ _ _ _; exact .zero
  | step hv0 hb ha he hc ih =>
    rename_i w n' a
    intro x hx hlt hvl hor
    have hne : w ≠ v := fun z => by
      subst z
      have := hlt x hx
      omega
    obtain ⟨a', xs, yw, ha', hr, he', hs, hxs, hyw, hle⟩ := h.by_ w n' hb
    rw [ha] at ha'
    cases ha'
    rw [hx] at hyw
    cases hyw
    have hfe := hf a (List.mem_of_getElem? ha) hr
    rw [he] at hfe
    refine .step hv0 (by rw [vO_set hvl, if_neg hne]; exact hb) ha he (ih xs hxs (fun z hz => ?_) hvl hor)
    have := hlt z hz
    omega
theorem chn_set {n : Nat} {v : Nat} {bs' : List (Option Nat)} (hb : ∀ w, w ≠ v → vO bs' w = vO bs w) (hv : Chn as bs' v) : ∀ {w : Nat}, Chn as bs w → Chn as bs' w := by
  intro w hw
  induction hw with
  | zero => exact .zero
  | step hv0 hb' ha he hc ih =>
    rename_i w n' a
    by_cases e : w = v
    · rw [e]; exact hv
    · exact .step hv0 (by rw [hb w e]; exact hb') ha he ih
theorem BF.step (hf : Feas as f) (h : BF as f m ds bs) {n : Nat} {a : Arc} {x : Int} (ha : as[n]? = some a) (hr : 0 < a.r) (hs : a.s < m) (he : a.e < m) (hx : vO ds a.s = some x) (hlt : ∀ y, vO ds a.e = some y → x + a.c < y) :
    BF as f m (ds.set a.e (some (x + a.c))) (bs.set a.e (some n)) := by
  have hfe := hf a (List.mem_of_getElem? ha) hr
  have hlx := h.low _ _ hx
  have hd : a.e < ds.length := by rw [h.l1]; exact he
  have hb : a.e < bs.length := by rw [h.l2]; exact he
  have e0 : a.e ≠ 0 := fun z => by
    rw [z] at hlt hfe
    have := hlt 0 h.d0
    omega
  have es : a.s ≠ a.e := fun z => by
    rw [← z] at hlt hfe
    have := hlt x hx
    omega
  have hcs : Chn as (bs.set a.e (some n)) a.s := chn_keep hf h (y := vO ds a.e) (fun _ e => e) (h.ch _ _ hx) x hx (fun z hz => by have := hlt z hz; omega) hb (by cases vO ds a.e with | none => exact .inl rfl | some z => exact .inr ⟨z, rfl⟩)
  have hce : Chn as (bs.set a.e (some n)) a.e := .step e0 (by rw [vO_set hb, if_pos rfl]) ha rfl hcs
  have off : ∀ w, w ≠ a.e → vO (bs.set a.e (some n)) w = vO bs w := fun w hw => by rw [vO_set hb, if_neg hw]
  have offd : ∀ w, w ≠ a.e → vO (ds.set a.e (some (x + a.c))) w = vO ds w := fun w hw => by rw [vO_set hd, if_neg hw]
  have atd : vO (ds.set a.e (some (x + a.c))) a.e = some (x + a.c) := by rw [vO_set hd, if_pos rfl]
  have atb : vO (bs.set a.e (some n)) a.e = some n := by rw [vO_set hb, if_pos rfl]
  refine ⟨by rw [List.length_set]; exact h.l1, by rw [List.length_set]; exact h.l2, by rw [offd 0 (Ne.symm e0)]; exact h.d0, by rw [off 0 (Ne.symm e0)]; exact h.b0, fun v y hv => ?_, fun v k hv => ?_, fun v y hv => ?_, fun v y hv => ?_⟩
  · by_cases ev : v = a.e
    · subst ev
      rw [atd] at hv
      cases hv
      omega
    · rw [offd v ev] at hv
      exact h.low v y hv
  · by_cases ev : v = a.e
    · subst ev
      rw [atb] at hv
      cases hv
      exact ⟨a, x, x + a.c, ha, hr, rfl, hs, by rw [offd _ es]; exact hx, atd, Int.le_refl _⟩
    · rw [off v ev] at hv
      obtain ⟨a', x', y', h1, h2, h3, h4, h5, h6, h7⟩ := h.by_ v k hv
      by_cases eu : a'.s = a.e
      · have := hlt x' (by rw [← eu]; exact h5)
        exact ⟨a', x + a.c, y', h1, h2, h3, h4, by rw [eu]; exact atd, by rw [offd v ev]; exact h6, by omega⟩
      · exact ⟨a', x', y', h1, h2, h3, h4, by rw [offd _ eu]; exact h5, by rw [offd v ev]; exact h6, h7⟩
  · by_cases ev : v = a.e
    · subst ev
      exact .inr ⟨n, atb⟩
    · rw [offd v ev] at hv
      rw [off v ev]
      exact h.has v y hv
  · by_cases ev : v = a.e
    · subst ev
      exact hce
    · rw [offd v ev] at hv
      exact chn_set (n := n) off hce (h.ch v y hv)
end
theorem sum_same {g g' : Nat → Nat} : ∀ {m : Nat}, (∀ w, w < m → g' w = g w) → ((List.range m).map g').sum = ((List.range m).map g).sum
  | 0, _ => rfl
  | m + 1, h => by
    rw [List.range_succ, List.map_append, List.map_append, List.sum_append, List.sum_append, sum_same fun w hw => h w (by omega), List.map_cons, List.map_cons, h m (by omega)]
    rfl
theorem sum_lt {g g' : Nat → Nat} {v : Nat} : ∀ {m : Nat}, v < m → (∀ w, w ≠ v → g' w = g w) → g' v < g v → ((List.range m).map g').sum < ((List.range m).map g).sum
  | 0, hv, _, _ => by omega
  | m + 1, hv, h, hlt => by
    rw [List.range_succ, List.map_append, List.map_append, List.sum_append, List.sum_append]
    simp only [List.map_cons, List.map_nil, List.sum_cons, List.sum_nil, Nat.add_zero]
    by_cases e : v = m
    · subst e
      have := sum_same (g := g) (g' := g') (m := v) fun w hw => h w (by omega)
      omega
    · have := sum_lt (m := m) (by omega) h hlt
      rw [h m (Ne.symm e)]
      omega
def noC (m : Nat) (ds : List (Option Int)) : Nat := ((List.range m).map fun v => if vO ds v = none then 1 else 0).sum
def suC (f : Nat → Int) (m : Nat) (ds : List (Option Int)) : Nat := ((List.range m).map fun v => match vO ds v with | some x => (x - (f v - f 0)).toNat | none => 0).sum
section
variable {as : List Arc} {f : Nat → Int} {m : Nat} {ds : List (Option Int)} {bs : List (Option Nat)}
def BLt (f : Nat → Int) (m : Nat) (d' ds : List (Option Int)) : Prop := noC m d' < noC m ds ∨ (noC m d' = noC m ds ∧ suC f m d' < suC f m ds)
theorem BLt.trans {d1 d2 d3 : List (Option Int)} (a : BLt f m d1 d2) (b : BLt f m d2 d3) : BLt f m d1 d3 := by
  unfold BLt at *
  omega
theorem BF.less (hf : Feas as f) (h : BF as f m ds bs) {n : Nat} {a : Arc} {x : Int} (ha : as[n]? = some a) (hr : 0 < a.r) (he : a.e < m) (hx : vO ds a.s = some x) (hlt : ∀ y, vO ds a.e = some y → x + a.c < y) :
    BLt f m (ds.set a.e (some (x + a.c))) ds := by
  have hd : a.e < ds.length := by rw [h.l1]; exact he
  have hfe := hf a (List.mem_of_getElem? ha) hr
  have hlx := h.low _ _ hx
  have offd : ∀ w, w ≠ a.e → vO (ds.set a.e (some (x + a.c))) w = vO ds w := fun w hw => by rw [vO_set hd, if_neg hw]
  have atd : vO (ds.set a.e (some (x + a.c))) a.e = some (x + a.c) := by rw [vO_set hd, if_pos rfl]
  cases hv : vO ds a.e with
  | none =>
    refine .inl (sum_lt (v := a.e) he (fun w hw => by rw [offd w hw]) ?_)
    rw [atd, hv]
    simp
  | some y =>
    have h1 := hlt y hv
    have h2 := h.low _ _ hv
    refine .inr ⟨sum_same fun w hw => ?_, sum_lt (v := a.e) he (fun w hw => by rw [offd w hw]) ?_⟩
    · by_cases e : w = a.e
      · subst e
        rw [atd, hv]
        simp
      · rw [offd w e]
    · rw [atd, hv]
      show (x + a.c - (f a.e - f 0)).toNat < (y - (f a.e - f 0)).toNat
      omega
/-- nothing is left to be done -/
def Done (as : List Arc) (ds : List (Option Int)) : Prop := ∀ a ∈ as, 0 < a.r → ∀ x, vO ds a.s = some x → ∃ y, vO ds a.e = some y ∧ y ≤ x + a.c
theorem BF.tight (h : BF as f m ds bs) (hd : Done as ds) : ∀ v n, vO bs v = some n → ∃ a x, as[n]? = some a ∧ 0 < a.r ∧ a.e = v ∧ a.s < m ∧ vO ds a.s = some x ∧ vO ds v = some (x + a.c) := fun v n hv => by
  obtain ⟨a, x, y, h1, h2, h3, h4, h5, h6, h7⟩ := h.by_ v n hv
  obtain ⟨y', h8, h9⟩ := hd a (List.mem_of_getElem? h1) h2 x h5
  rw [h3, h6] at h8
  cases h8
  have : y = x + a.c := by omega
  subst this
  exact ⟨a, x, h1, h2, h3, h4, h5, h6⟩
end
theorem ok_whW {α : Type} {R : α → α → Prop} (wf : WellFounded R) {Q : Fl → Sto → Prop} {dt : PD.Env → Mo Bool} {f : PD.Env → Mo Fl} (I : α → PD.Env → Sto → Prop) (step : ∀ n ρ st, I n ρ st → Ok (dt ρ st) (fun b st1 => if b = true then Ok (f ρ st1) (Aft (fun ρ' st' => ∃ m, R m n ∧ I m ρ' st') Q) else Q (.nx ρ) st1)) :
    ∀ n ρ st, I n ρ st → Ok (dWh dt f ρ st) Q := by
  intro n
  induction n using wf.induction with
  | _ n ih =>
    intro ρ st h
    rw [dWh_eq, ok_bnd]
    refine (step n ρ st h).imp fun b st1 h1 => ?_
    cases b with
    | false => exact ok_ok.mpr h1
    | true =>
      rw [if_pos rfl] at h1 ⊢
      rw [ok_bnd]
      refine h1.imp fun fl st2 h2 => ?_
      cases fl with
      | nx ρ' => obtain ⟨m, hm, z⟩ := h2; exact ih m hm ρ' st2 z
      | ct ρ' => obtain ⟨m, hm, z⟩ := h2; exact ih m hm ρ' st2 z
      | bk ρ' => exact ok_ok.mpr h2
      | rt p => exact ok_ok.mpr h2
theorem blt_wf (f : Nat → Int) (m : Nat) : WellFounded (BLt f m) := by
  have w : WellFounded (Prod.Lex (fun a b : Nat => a < b) (fun a b : Nat => a < b)) := (Prod.lex Nat.lt_wfRel Nat.lt_wfRel).wf
  refine Subrelation.wf (r := fun d' ds => Prod.Lex (fun a b : Nat => a < b) (fun a b : Nat => a < b) (noC m d', suC f m d') (noC m ds, suC f m ds)) (fun {d' ds} h => ?_) (InvImage.wf (fun ds => (noC m ds, suC f m ds)) w)
  rcases h with h | ⟨h1, h2⟩
  · exact .left _ _ h
  · show Prod.Lex _ _ (noC m d', suC f m d') (noC m ds, suC f m ds)
    rw [h1]
    exact .right _ h2
/-- the way from v back to 0 -/
inductive ChL (as : List Arc) (bs : List (Option Nat)) : Nat → List Nat → Prop
  | zero : ChL as bs 0 []
  | step {v n : Nat} {a : Arc} {l : List Nat} : v ≠ 0 → vO bs v = some n → as[n]? = some a → a.e = v → ChL as bs a.s l → ChL as bs v (v :: l)
section
variable {as : List Arc} {bs : List (Option Nat)}
theorem Chn.list {v : Nat} (h : Chn as bs v) : ∃ l, ChL as bs v l := by
  induction h with
  | zero => exact ⟨[], .zero⟩
  | step h1 h2 h3 h4 _ ih =>
    obtain ⟨l, hl⟩ := ih
    exact ⟨_, .step h1 h2 h3 h4 hl⟩
theorem ChL.uniq {v : Nat} {l : List Nat} (h : ChL as bs v l) : ∀ {l' : List Nat}, ChL as bs v l' → l = l' := by
  induction h with
  | zero =>
    intro l' h'
    cases h' with
    | zero => rfl
    | step h1 _ _ _ _ => exact absurd rfl h1
  | step h1 h2 h3 h4 _ ih =>
    intro l' h'
    cases h' with
    | zero => exact absurd rfl h1
    | step g1 g2 g3 g4 g5 =>
      rw [h2] at g2
      cases g2
      rw [h3] at g3
      cases g3
      rw [ih g5]
theorem ChL.tail {v : Nat} {l : List Nat} (h : ChL as bs v l) : ∀ u ∈ l, ∃ l', ChL as bs u l' ∧ l'.length ≤ l.length := by
  induction h with
  | zero => intro u hu; cases hu
  | step h1 h2 h3 h4 h5 ih =>
    intro u hu
    rcases List.mem_cons.mp hu with rfl | hu
    · exact ⟨_, .step h1 h2 h3 h4 h5, Nat.le_refl _⟩
    · obtain ⟨l', g1, g2⟩ := ih u hu
      exact ⟨l', g1, by rw [List.length_cons]; omega⟩
theorem ChL.head {v : Nat} {l : List Nat} (h : ChL as bs v (v :: l)) (hv : v ≠ 0) : v ∉ l ∧ ∃ n a, vO bs v = some n ∧ as[n]? = some a ∧ a.e = v ∧ ChL as bs a.s l := by
  cases h with
  | step h1 h2 h3 h4 h5 =>
    refine ⟨fun z => ?_, _, _, h2, h3, h4, h5⟩
    obtain ⟨l', g1, g2⟩ := h5.tail v z
    have := g1.uniq (.step h1 h2 h3 h4 h5)
    rw [this, List.length_cons] at g2
    omega
end
/-- an edge: what it can hold, and its cost -/
structure Ed where
  s : Nat
  e : Nat
  cap : Int
  c : Int
def netL : List Ed → List Int → List Arc
  | b :: B, x :: F => ⟨b.s, b.e, b.cap - x, b.c⟩ :: ⟨b.e, b.s, x, -b.c⟩ :: netL B F
  | _, _ => []
def crs : List Ed → List Int → Nat → Int
  | b :: B, x :: F, i => (if b.s ≤ i ∧ i < b.e then x else 0) + crs B F i
  | _, _, _ => 0
structure FlowOk (m : Nat) (B : List Ed) (F : List Int) : Prop where
  len : F.length = B.length
  bd : ∀ (j : Nat) b x, B[j]? = some b → F[j]? = some x → 0 ≤ x ∧ x ≤ b.cap
theorem net_even : ∀ {B : List Ed} {F : List Int} {j : Nat} {b : Ed} {x : Int}, B[j]? = some b → F[j]? = some x → (netL B F)[2 * j]? = some ⟨b.s, b.e, b.cap - x, b.c⟩
  | b :: B, x :: F, 0, _, _, h1, h2 => by cases h1; cases h2; rfl
  | b :: B, x :: F, j + 1, _, _, h1, h2 => by
    rw [List.getElem?_cons_succ] at h1 h2
    have := net_even h1 h2
    rw [show 2 * (j + 1) = 2 * j + 1 + 1 by omega]
    exact this
  | [], _, _, _, _, h1, _ => by simp at h1
  | _ :: _, [], _, _, _, _, h2 => by simp at h2
theorem net_odd : ∀ {B : List Ed} {F : List Int} {j : Nat} {b : Ed} {x : Int}, B[j]? = some b → F[j]? = some x → (netL B F)[2 * j + 1]? = some ⟨b.e, b.s, x, -b.c⟩
  | b :: B, x :: F, 0, _, _, h1, h2 => by cases h1; cases h2; rfl
  | b :: B, x :: F, j + 1, _, _, h1, h2 => by
    rw [List.getElem?_cons_succ] at h1 h2
    have := net_odd h1 h2
    rw [show 2 * (j + 1) + 1 = (2 * j + 1) + 1 + 1 by omega]
    exact this
  | [], _, _, _, _, h1, _ => by simp at h1
  | _ :: _, [], _, _, _, _, h2 => by simp at h2
theorem net_len : ∀ {B : List Ed} {F : List Int}, F.length = B.length → (netL B F).length = 2 * B.length
  | [], _, _ => by cases ‹List Int› <;> rfl
  | b :: B, x :: F, h => by
    have := net_len (B := B) (F := F) (by simpa using h)
    show (netL B F).length + 1 + 1 = _
    rw [this, List.length_cons]
    omega
theorem net_cases {B : List Ed} {F : List Int} (h : F.length = B.length) {n : Nat} {a : Arc} (ha : (netL B F)[n]? = some a) : ∃ j b x, B[j]? = some b ∧ F[j]? = some x ∧ ((n = 2 * j ∧ a = ⟨b.s, b.e, b.cap - x, b.c⟩) ∨ (n = 2 * j + 1 ∧ a = ⟨b.e, b.s, x, -b.c⟩)) := by
  have hn := (List.getElem?_eq_some_iff.mp ha).1
  rw [net_len h] at hn
  have hj : n / 2 < B.length := by omega
  have e1 : B[n / 2]? = some B[n / 2] := List.getElem?_eq_getElem hj
  have e2 : F[n / 2]? = some (F[n / 2]'(by omega)) := List.getElem?_eq_getElem (by omega)
  refine ⟨n / 2, _, _, e1, e2, ?_⟩
  by_cases h2 : n % 2 = 0
  · have e : n = 2 * (n / 2) := by omega
    have := net_even e1 e2
    rw [← e, ha] at this
    exact .inl ⟨e, by injection this⟩
  · have e : n = 2 * (n / 2) + 1 := by omega
    have := net_odd e1 e2
    rw [← e, ha] at this
    exact .inr ⟨e, by injection this⟩
theorem crs_set : ∀ {B : List Ed} {F : List Int} {j : Nat} {b : Ed} {x y : Int} {i : Nat}, B[j]? = some b → F[j]? = some x → crs B (F.set j y) i = crs B F i + if b.s ≤ i ∧ i < b.e then y - x else 0
  | b :: B, x :: F, 0, _, _, y, i, h1, h2 => by
    cases h1; cases h2
    show (if b.s ≤ i ∧ i < b.e then y else 0) + crs B F i = (if b.s ≤ i ∧ i < b.e then x else 0) + crs B F i + _
    by_cases h : b.s ≤ i ∧ i < b.e
    · rw [if_pos h, if_pos h, if_pos h]; omega
    · rw [if_neg h, if_neg h, if_neg h]; omega
  | b :: B, x :: F, j + 1, _, _, y, i, h1, h2 => by
    rw [List.getElem?_cons_succ] at h1 h2
    have := crs_set (y := y) (i := i) h1 h2
    show (if b.s ≤ i ∧ i < b.e then x else 0) + crs B (F.set j y) i = (if b.s ≤ i ∧ i < b.e then x else 0) + crs B F i + _
    rw [this]
    omega
  | [], _, _, _, _, _, _, h1, _ => by simp at h1
  | _ :: _, [], _, _, _, _, _, _, h2 => by simp at h2
theorem mem_net {B : List Ed} {F : List Int} (h : F.length = B.length) {a : Arc} (ha : a ∈ netL B F) : ∃ (j : Nat) (b : Ed) (x : Int), B[j]? = some b ∧ F[j]? = some x ∧ (a = ⟨b.s, b.e, b.cap - x, b.c⟩ ∨ a = ⟨b.e, b.s, x, -b.c⟩) := by
  obtain ⟨n, hn⟩ := List.mem_iff_getElem?.mp ha
  obtain ⟨j, b, x, h1, h2, h3⟩ := net_cases h hn
  exact ⟨j, b, x, h1, h2, by rcases h3 with ⟨_, h⟩ | ⟨_, h⟩; exact .inl h; exact .inr h⟩
theorem feas_iff {B : List Ed} {F : List Int} (h : F.length = B.length) {f : Nat → Int} : Feas (netL B F) f ↔ ∀ (j : Nat) (b : Ed) (x : Int), B[j]? = some b → F[j]? = some x → (x < b.cap → f b.e ≤ f b.s + b.c) ∧ (0 < x → f b.s ≤ f b.e - b.c) := by
  constructor
  · intro hf j b x h1 h2
    refine ⟨fun hx => ?_, fun hx => ?_⟩
    · exact hf _ (List.mem_of_getElem? (net_even h1 h2)) (by show 0 < b.cap - x; omega)
    · have := hf _ (List.mem_of_getElem? (net_odd h1 h2)) hx
      have : f b.s ≤ f b.e + -b.c := this
      omega
  · intro hf a ha hr
    obtain ⟨j, b, x, h1, h2, h3⟩ := mem_net h ha
    obtain ⟨k1, k2⟩ := hf j b x h1 h2
    rcases h3 with rfl | rfl
    · have hr : 0 < b.cap - x := hr
      exact k1 (by omega)
    · have hr : 0 < x := hr
      have := k2 hr
      show f b.s ≤ f b.e + -b.c
      omega
theorem getI_set {F : List Int} {j k : Nat} {y x : Int} (h : (F.set j y)[k]? = some x) : (k = j ∧ x = y ∧ j < F.length) ∨ (k ≠ j ∧ F[k]? = some x) := by
  rw [List.getElem?_set] at h
  by_cases e : j = k
  · rw [if_pos e] at h
    by_cases hl : k < F.length
    · subst e
      simp [hl] at h
      exact .inl ⟨rfl, h.symm, hl⟩
    · simp at h
      omega
  · rw [if_neg e] at h
    exact .inr ⟨fun z => e z.symm, h⟩
/-- one thing more is being sent: it stands at v -/
structure SdI (m : Nat) (B : List Ed) (F0 : List Int) (bs : List (Option Nat)) (f : Nat → Int) (t : Int) (v : Nat) (l vis : List Nat) (F : List Int) : Prop where
  fo : FlowOk m B F
  ch : ChL (netL B F0) bs v l
  dis : ∀ u ∈ vis, u ∉ l
  up : ∀ (j : Nat) (b : Ed) (x x0 : Int), B[j]? = some b → F[j]? = some x → F0[j]? = some x0 → x ≤ x0 ∨ b.e ∈ vis
  dn : ∀ (j : Nat) (b : Ed) (x x0 : Int), B[j]? = some b → F[j]? = some x → F0[j]? = some x0 → x0 ≤ x ∨ b.s ∈ vis
  cut : ∀ i, i + 1 < m → crs B F i = t + if v ≤ i then 1 else 0
  pot : Feas (netL B F) f
section
variable {m : Nat} {B : List Ed} {F0 F : List Int} {bs : List (Option Nat)} {f : Nat → Int} {t : Int} {v : Nat} {l vis : List Nat}
theorem SdI.set (h : SdI m B F0 bs f t v (v :: l) vis F) (hv : v ∉ l) {j v' : Nat} {b : Ed} {x x0 y : Int} (h1 : B[j]? = some b) (h2 : F[j]? = some x) (h20 : F0[j]? = some x0) (hch : ChL (netL B F0) bs v' l) (hb : b.s < b.e)
    (hc : (v = b.e ∧ v' = b.s ∧ y = x + 1 ∧ x0 < b.cap) ∨ (v = b.s ∧ v' = b.e ∧ y = x - 1 ∧ 0 < x0)) (ht : f b.e = f b.s + b.c) : SdI m B F0 bs f t v' l (v :: vis) (F.set j y) := by
  have hl := h.fo.len
  have hjl : j < F.length := (List.getElem?_eq_some_iff.mp h2).1
  have hvv : v ∉ vis := fun z => h.dis v z (List.mem_cons_self ..)
  have hbd := h.fo.bd j b x h1 h2
  have hy : 0 ≤ y ∧ y ≤ b.cap := by
    rcases hc with ⟨e1, _, e3, e4⟩ | ⟨e1, _, e3, e4⟩
    · rcases h.up j b x x0 h1 h2 h20 with q | q
      · omega
      · exact absurd q (by rw [← e1]; exact hvv)
    · rcases h.dn j b x x0 h1 h2 h20 with q | q
      · omega
      · exact absurd q (by rw [← e1]; exact hvv)
  have hl2 : (F.set j y).length = B.length := by rw [List.length_set]; exact hl
  refine ⟨⟨hl2, fun k b' z g1 g2 => ?_⟩, hch, fun u hu => ?_, fun k b' z z0 g1 g2 g3 => ?_, fun k b' z z0 g1 g2 g3 => ?_, fun i hi => ?_, ?_⟩
  · rcases getI_set g2 with ⟨rfl, rfl, _⟩ | ⟨_, g2⟩
    · rw [h1] at g1; cases g1
      exact hy
    · exact h.fo.bd k b' z g1 g2
  · rcases List.mem_cons.mp hu with rfl | hu
    · exact hv
    · exact fun z => h.dis u hu (List.mem_cons_of_mem _ z)
  · rcases getI_set g2 with ⟨rfl, rfl, _⟩ | ⟨_, g2⟩
    · rw [h1] at g1; cases g1
      rw [h20] at g3; cases g3
      rcases hc with ⟨e1, _, e3, e4⟩ | ⟨e1, _, e3, e4⟩
      · exact .inr (by rw [← e1]; exact List.mem_cons_self ..)
      · rcases h.up k b x x0 h1 h2 h20 with q | q
        · exact .inl (by omega)
        · exact .inr (List.mem_cons_of_mem _ q)
    · rcases h.up k b' z z0 g1 g2 g3 with q | q
      · exact .inl q
      · exact .inr (List.mem_cons_of_mem _ q)
  · rcases getI_set g2 with ⟨rfl, rfl, _⟩ | ⟨_, g2⟩
    · rw [h1] at g1; cases g1
      rw [h20] at g3; cases g3
      rcases hc with ⟨e1, _, e3, e4⟩ | ⟨e1, _, e3, e4⟩
      · rcases h.dn k b x x0 h1 h2 h20 with q | q
        · exact .inl (by omega)
        · exact .inr (List.mem_cons_of_mem _ q)
      · exact .inr (by rw [← e1]; exact List.mem_cons_self ..)
    · rcases h.dn k b' z z0 g1 g2 g3 with q | q
      · exact .inl q
      · exact .inr (List.mem_cons_of_mem _ q)
  · rw [crs_set h1 h2, h.cut i hi]
    rcases hc with ⟨e1, e2, e3, _⟩ | ⟨e1, e2, e3, _⟩
    · subst e1 e2 e3
      by_cases q1 : b.e ≤ i
      · have : b.s ≤ i := by omega
        have q3 : ¬ (b.s ≤ i ∧ i < b.e) := by omega
        rw [if_pos q1, if_pos this, if_neg q3]; omega
      · by_cases q2 : b.s ≤ i
        · have q3 : b.s ≤ i ∧ i < b.e := by omega
          rw [if_neg q1, if_pos q2, if_pos q3]; omega
        · have q3 : ¬ (b.s ≤ i ∧ i < b.e) := by omega
          rw [if_neg q1, if_neg q2, if_neg q3]; omega
    · subst e1 e2 e3
      by_cases q1 : b.e ≤ i
      · have : b.s ≤ i := by omega
        have q3 : ¬ (b.s ≤ i ∧ i < b.e) := by omega
        rw [if_pos q1, if_pos this, if_neg q3]; omega
      · by_cases q2 : b.s ≤ i
        · have q3 : b.s ≤ i ∧ i < b.e := by omega
          rw [if_neg q1, if_pos q2, if_pos q3]; omega
        · have q3 : ¬ (b.s ≤ i ∧ i < b.e) := by omega
          rw [if_neg q1, if_neg q2, if_neg q3]; omega
  · rw [feas_iff hl2]
    intro k b' z g1 g2
    rcases getI_set g2 with ⟨rfl, rfl, _⟩ | ⟨_, g2⟩
    · rw [h1] at g1; cases g1
      omega
    · exact (feas_iff hl).mp h.pot k b' z g1 g2
end
section
variable {m : Nat} {B : List Ed} {F0 F : List Int} {bs : List (Option Nat)} {ds : List (Option Int)} {f : Nat → Int} {t : Int} {v : Nat} {l vis : List Nat}
/-- the costs, for all nodes -/
def potF (ds : List (Option Int)) (v : Nat) : Int := (vO ds v).getD 0
theorem SdI.start (hF : FlowOk m B F0) (hb : BF (netL B F0) f m ds bs) (hd : Done (netL B F0) ds) (hall : ∀ v, v < m → vO ds v ≠ none) (hE : ∀ b ∈ B, b.s < m ∧ b.e < m) (hm : 0 < m) (hcut : ∀ i, i + 1 < m → crs B F0 i = t) : ∃ l, SdI m B F0 bs (potF ds) t (m - 1) l [] F0 := by
  obtain ⟨x, hx⟩ := Option.ne_none_iff_exists'.mp (hall (m - 1) (by omega))
  obtain ⟨l, hl⟩ := (hb.ch _ _ hx).list
  refine ⟨l, hF, hl, (fun _ h => nomatch h), fun j b x x0 h1 h2 h3 => ?_, fun j b x x0 h1 h2 h3 => ?_, fun i hi => ?_, ?_⟩
  · rw [h2] at h3; cases h3; exact .inl (Int.le_refl _)
  · rw [h2] at h3; cases h3; exact .inl (Int.le_refl _)
  · rw [hcut i hi, if_neg (by omega)]; omega
  · intro a ha hr
    obtain ⟨j, b, x, h1, h2, h3⟩ := mem_net hF.len ha
    have hE := hE b (List.mem_of_getElem? h1)
    have hs : a.s < m := by rcases h3 with rfl | rfl; exact hE.1; exact hE.2
    obtain ⟨y, hy⟩ := Option.ne_none_iff_exists'.mp (hall a.s hs)
    obtain ⟨z, hz, hle⟩ := hd a ha hr y hy
    unfold potF
    rw [hy, hz]
    exact hle
/-- one step back -/
theorem SdI.next (hF : FlowOk m B F0) (hE : ∀ b ∈ B, b.s < b.e ∧ b.e < m) (hb : BF (netL B F0) f m ds bs) (hd : Done (netL B F0) ds) (h : SdI m B F0 bs (potF ds) t v l vis F) (hv : v ≠ 0) :
    ∃ (l' : List Nat) (j : Nat) (b : Ed) (x : Int), l = v :: l' ∧ B[j]? = some b ∧ F[j]? = some x ∧ ((vO bs v = some (2 * j) ∧ SdI m B F0 bs (potF ds) t b.s l' (v :: vis) (F.set j (x + 1))) ∨ (vO bs v = some (2 * j + 1) ∧ SdI m B F0 bs (potF ds) t b.e l' (v :: vis) (F.set j (x - 1)))) := by
  obtain ⟨l', rfl⟩ : ∃ l', l = v :: l' := by
    cases h.ch with
    | zero => exact absurd rfl hv
    | step _ _ _ _ _ => exact ⟨_, rfl⟩
  obtain ⟨hvl, n, a, e1, e2, e3, e4⟩ := h.ch.head hv
  obtain ⟨a', xs, k1, k2, k3, k4, k5, k6⟩ := hb.tight hd v n e1
  rw [e2] at k1
  cases k1
  obtain ⟨j, b, x0, h1, h20, h3⟩ := net_cases hF.len e2
  have hj : j < F.length := by rw [h.fo.len]; exact (List.getElem?_eq_some_iff.mp h1).1
  obtain ⟨x, h2⟩ : ∃ x, F[j]? = some x := ⟨F[j], List.getElem?_eq_getElem hj⟩
  have hbb := hE b (List.mem_of_getElem? h1)
  have hp : potF ds v = potF ds a.s + a.c := by
    unfold potF
    rw [k5, k6]
    rfl
  refine ⟨l', j, b, x, rfl, h1, h2, ?_⟩
  rcases h3 with ⟨rfl, rfl⟩ | ⟨rfl, rfl⟩
  · have e3 : b.e = v := e3
    have k2 : 0 < b.cap - x0 := k2
    have hp : potF ds v = potF ds b.s + b.c := hp
    exact .inl ⟨e1, h.set hvl h1 h2 h20 e4 hbb.1 (.inl ⟨e3.symm, rfl, rfl, by omega⟩) (by rw [e3]; exact hp)⟩
  · have e3 : b.s = v := e3
    have k2 : 0 < x0 := k2
    have hp : potF ds v = potF ds b.e + -b.c := hp
    exact .inr ⟨e1, h.set hvl h1 h2 h20 e4 hbb.1 (.inr ⟨e3.symm, rfl, rfl, k2⟩) (by rw [e3, hp]; omega)⟩
theorem SdI.done (h : SdI m B F0 bs f t 0 l vis F) : FlowOk m B F ∧ Feas (netL B F) f ∧ ∀ i, i + 1 < m → crs B F i = t + 1 := ⟨h.fo, h.pot, fun i hi => by rw [h.cut i hi, if_pos (Nat.zero_le _)]⟩
end
def sumZ (n : Nat) (g : Nat → Int) : Int := ((List.range n).map g).sum
theorem sumZ_succ (n : Nat) (g : Nat → Int) : sumZ (n + 1) g = sumZ n g + g n := by
  unfold sumZ
  rw [List.range_succ, List.map_append, List.sum_append]
  simp
theorem sumZ_congr {g h : Nat → Int} : ∀ {n : Nat}, (∀ i, i < n → g i = h i) → sumZ n g = sumZ n h
  | 0, _ => rfl
  | n + 1, e => by rw [sumZ_succ, sumZ_succ, sumZ_congr fun i hi => e i (by omega), e n (by omega)]
theorem sumZ_add {g h : Nat → Int} : ∀ {n : Nat}, sumZ n (fun i => g i + h i) = sumZ n g + sumZ n h
  | 0 => rfl
  | n + 1 => by rw [sumZ_succ, sumZ_succ, sumZ_succ, sumZ_add]; omega
theorem sumZ_mul {g : Nat → Int} {k : Int} : ∀ {n : Nat}, sumZ n (fun i => k * g i) = k * sumZ n g
  | 0 => by simp [sumZ]
  | n + 1 => by rw [sumZ_succ, sumZ_succ, sumZ_mul, Int.mul_add]
theorem sumZ_le {g h : Nat → Int} : ∀ {n : Nat}, (∀ i, i < n → g i ≤ h i) → sumZ n g ≤ sumZ n h
  | 0, _ => Int.le_refl _
  | n + 1, e => by
    have := sumZ_le (n := n) fun i hi => e i (by omega)
    have := e n (by omega)
    rw [sumZ_succ, sumZ_succ]
    omega
theorem sumZ_tel {d : Nat → Int} {p q : Nat} : ∀ {n : Nat}, p ≤ q → q ≤ n → sumZ n (fun i => if p ≤ i ∧ i < q then d i - d (i + 1) else 0) = d p - d q
  | 0, h1, h2 => by
    have e : p = q := by omega
    subst e
    simp [sumZ]
  | n + 1, h1, h2 => by
    rw [sumZ_succ]
    by_cases e : q = n + 1
    · subst e
      by_cases ep : p = n + 1
      · subst ep
        have : sumZ n (fun i => if n + 1 ≤ i ∧ i < n + 1 then d i - d (i + 1) else 0) = sumZ n fun _ => 0 * 0 := sumZ_congr fun i hi => by rw [if_neg (by omega)]; rfl
        rw [this, sumZ_mul, if_neg (by omega)]
        omega
      · have := sumZ_tel (d := d) (p := p) (q := n) (n := n) (by omega) (Nat.le_refl _)
        have e2 : sumZ n (fun i => if p ≤ i ∧ i < n + 1 then d i - d (i + 1) else 0) = sumZ n (fun i => if p ≤ i ∧ i < n then d i - d (i + 1) else 0) := sumZ_congr fun i hi => by
          by_cases hp : p ≤ i
          · rw [if_pos ⟨hp, by omega⟩, if_pos ⟨hp, hi⟩]
          · rw [if_neg (by omega), if_neg (by omega)]
        rw [e2, this, if_pos ⟨by omega, by omega⟩]
        omega
    · rw [sumZ_tel (n := n) h1 (by omega), if_neg (by omega)]
      omega
def dueS : List Ed → List Int → Int
  | b :: B, x :: F => x * (-b.c) + dueS B F
  | _, _ => 0
def rentS (d : Nat → Int) : List Ed → List Int → Int
  | b :: B, x :: F => x * (d b.s - d b.e) + rentS d B F
  | _, _ => 0
def overS (d : Nat → Int) : List Ed → Int
  | b :: B => max 0 (-b.c - (d b.s - d b.e)) + overS d B
  | _ => 0
theorem due_split {d : Nat → Int} : ∀ {B : List Ed} {F : List Int}, F.length = B.length → (∀ (j : Nat) (b : Ed) (x : Int), B[j]? = some b → F[j]? = some x → b.cap = 1 ∧ 0 ≤ x ∧ x ≤ 1 ∧ (x < 1 → d b.e ≤ d b.s + b.c) ∧ (0 < x → d b.s ≤ d b.e - b.c)) → dueS B F = overS d B + rentS d B F
  | [], [], _, _ => rfl
  | [], _ :: _, h, _ => by simp at h
  | _ :: _, [], h, _ => by simp at h
  | b :: B, x :: F, h, k => by
    have ih := due_split (d := d) (B := B) (F := F) (by simpa using h) fun j b x h1 h2 => k (j + 1) b x h1 h2
    obtain ⟨_, h0, h1, h2, h3⟩ := k 0 b x rfl rfl
    show x * (-b.c) + dueS B F = (max 0 (-b.c - (d b.s - d b.e)) + overS d B) + (x * (d b.s - d b.e) + rentS d B F)
    rw [ih]
    by_cases e : x = 0
    · subst e
      have := h2 (by omega)
      rw [Int.max_eq_left (by omega)]
      simp
    · have e : x = 1 := by omega
      subst e
      have := h3 (by omega)
      rw [Int.max_eq_right (by omega)]
      omega
theorem rent_cross {d : Nat → Int} {M : Nat} : ∀ {B : List Ed} {F : List Int}, (∀ b ∈ B, b.s ≤ b.e ∧ b.e ≤ M) → rentS d B F = sumZ M fun i => (d i - d (i + 1)) * crs B F i
  | [], F, _ => by
    have : sumZ M (fun i => (d i - d (i + 1)) * crs [] F i) = sumZ M fun _ => 0 * 0 := sumZ_congr fun i _ => by simp [crs]
    rw [this, sumZ_mul]
    simp [rentS]
  | b :: B, [], _ => by
    have : sumZ M (fun i => (d i - d (i + 1)) * crs (b :: B) [] i) = sumZ M fun _ => 0 * 0 := sumZ_congr fun i _ => by simp [crs]
    rw [this, sumZ_mul]
    simp [rentS]
  | b :: B, x :: F, h => by
    have ih := rent_cross (d := d) (M := M) (B := B) (F := F) fun b hb => h b (List.mem_cons_of_mem _ hb)
    obtain ⟨h1, h2⟩ := h b (List.mem_cons_self ..)
    have ht := sumZ_tel (d := d) h1 h2
    show x * (d b.s - d b.e) + rentS d B F = _
    rw [ih, ← ht, ← sumZ_mul, ← sumZ_add]
    refine sumZ_congr fun i hi => ?_
    show _ = (d i - d (i + 1)) * ((if b.s ≤ i ∧ i < b.e then x else 0) + crs B F i)
    rw [Int.mul_add]
    congr 1
    by_cases e : b.s ≤ i ∧ i < b.e
    · rw [if_pos e, if_pos e, Int.mul_comm]
    · rw [if_neg e, if_neg e]; simp
def chainE (M : Nat) (k : Int) : List Ed := (List.range M).map fun i => ⟨i, i + 1, k + 1, 0⟩
theorem chain_get {M : Nat} {k : Int} {i : Nat} (h : i < M) : (chainE M k)[i]? = some ⟨i, i + 1, k + 1, 0⟩ := by
  unfold chainE
  rw [List.getElem?_map, List.getElem?_range h]
  rfl
theorem chain_len {M : Nat} {k : Int} : (chainE M k).length = M := by unfold chainE; simp
theorem crs_append : ∀ {B1 B2 : List Ed} {F1 F2 : List Int} {i : Nat}, F1.length = B1.length → crs (B1 ++ B2) (F1 ++ F2) i = crs B1 F1 i + crs B2 F2 i
  | [], B2, [], F2, i, _ => by simp [crs]
  | [], _, _ :: _, _, _, h => by simp at h
  | _ :: _, _, [], _, _, h => by simp at h
  | b :: B1, B2, x :: F1, F2, i, h => by
    have := crs_append (B1 := B1) (B2 := B2) (F1 := F1) (F2 := F2) (i := i) (by simpa using h)
    show (if b.s ≤ i ∧ i < b.e then x else 0) + crs (B1 ++ B2) (F1 ++ F2) i = ((if b.s ≤ i ∧ i < b.e then x else 0) + crs B1 F1 i) + crs B2 F2 i
    rw [this]
    omega
theorem crs_nn : ∀ {B : List Ed} {F : List Int} {i : Nat}, (∀ x ∈ F, 0 ≤ x) → 0 ≤ crs B F i
  | [], F, _, _ => by simp [crs]
  | _ :: _, [], _, _ => by simp [crs]
  | b :: B, x :: F, i, h => by
    have := crs_nn (B := B) (F := F) (i := i) fun y hy => h y (List.mem_cons_of_mem _ hy)
    have := h x (List.mem_cons_self ..)
    show 0 ≤ (if b.s ≤ i ∧ i < b.e then x else 0) + crs B F i
    split <;> omega
theorem crs_off : ∀ {B : List Ed} {F : List Int} {i : Nat}, (∀ b ∈ B, ¬ (b.s ≤ i ∧ i < b.e)) → crs B F i = 0
  | [], F, _, _ => by simp [crs]
  | _ :: _, [], _, _ => by simp [crs]
  | b :: B, x :: F, i, h => by
    have := crs_off (B := B) (F := F) (i := i) fun y hy => h y (List.mem_cons_of_mem _ hy)
    show (if b.s ≤ i ∧ i < b.e then x else 0) + crs B F i = 0
    rw [if_neg (h b (List.mem_cons_self ..)), this]
    rfl
theorem crs_chain {k : Int} {G : List Int} {M i : Nat} (hG : G.length = M) (hi : i < M) : crs (chainE M k) G i = G[i]?.getD 0 := by
  induction M generalizing G with
  | zero => omega
  | succ M ih =>
    obtain ⟨G', x, rfl⟩ : ∃ G' x, G = G' ++ [x] := ⟨G.dropLast, G.getLast (by intro e; subst e; simp at hG), (List.dropLast_concat_getLast _).symm⟩
    have hG' : G'.length = M := by simpa using hG
    have e : chainE (M + 1) k = chainE M k ++ [⟨M, M + 1, k + 1, 0⟩] := by
      unfold chainE
      rw [List.range_succ, List.map_append]
      rfl
    rw [e, crs_append (by rw [chain_len, hG'])]
    by_cases h : i < M
    · rw [ih hG' h, List.getElem?_append_left (by omega)]
      have : crs [⟨M, M + 1, k + 1, 0⟩] [x] i = 0 := crs_off fun b hb => by rw [List.mem_singleton.mp hb]; show ¬ (M ≤ i ∧ i < M + 1); omega
      omega
    · have hm : i = M := by omega
      subst hm
      have : crs (chainE i k) G' i = 0 := crs_off fun b hb => by
        obtain ⟨j, hj, rfl⟩ := List.mem_map.mp hb
        have := List.mem_range.mp hj
        show ¬ (j ≤ i ∧ i < j + 1)
        omega
      rw [this, List.getElem?_append_right (by omega), hG', Nat.sub_self]
      show 0 + ((if i ≤ i ∧ i < i + 1 then x else 0) + 0) = x
      rw [if_pos ⟨Nat.le_refl _, Nat.lt_succ_self _⟩]
      omega
/-- what the net of the stays must be -/
structure NetOk (M : Nat) (k t : Int) (SE : List Ed) (G H : List Int) (d : Nat → Int) : Prop where
  lG : G.length = M
  lH : H.length = SE.length
  ed : ∀ b ∈ SE, b.s < b.e ∧ b.e ≤ M ∧ b.cap = 1
  fo : FlowOk (M + 1) (chainE M k ++ SE) (G ++ H)
  cut : ∀ i, i < M → crs (chainE M k ++ SE) (G ++ H) i = t
  pot : Feas (netL (chainE M k ++ SE) (G ++ H)) d
section
variable {M : Nat} {k t : Int} {SE : List Ed} {G H : List Int} {d : Nat → Int}
theorem NetOk.nn (h : NetOk M k t SE G H d) : ∀ x ∈ G ++ H, 0 ≤ x := fun x hx => by
  obtain ⟨j, hj⟩ := List.mem_iff_getElem?.mp hx
  have hl := h.fo.len
  have := (List.getElem?_eq_some_iff.mp hj).1
  exact (h.fo.bd j _ x (List.getElem?_eq_getElem (by omega)) hj).1
theorem NetOk.split (h : NetOk M k t SE G H d) {i : Nat} (hi : i < M) : G[i]?.getD 0 + crs SE H i = t := by
  have := h.cut i hi
  rw [crs_append (by rw [chain_len, h.lG]), crs_chain h.lG hi] at this
  exact this
theorem NetOk.chain (h : NetOk M k t SE G H d) {i : Nat} (hi : i < M) : ∃ x, G[i]? = some x ∧ 0 ≤ x ∧ x + crs SE H i = t ∧ 0 ≤ crs SE H i := by
  have hl : i < G.length := by rw [h.lG]; exact hi
  have e : G[i]? = some G[i] := List.getElem?_eq_getElem hl
  refine ⟨G[i], e, h.nn _ (List.mem_append_left _ (List.getElem_mem hl)), ?_, crs_nn fun x hx => h.nn x (List.mem_append_right _ hx)⟩
  have := h.split hi
  rw [e] at this
  exact this
theorem NetOk.down (h : NetOk M k t SE G H d) (ht : t ≤ k) {i : Nat} (hi : i < M) : d (i + 1) ≤ d i ∧ (d i - d (i + 1)) * crs SE H i = (d i - d (i + 1)) * t := by
  obtain ⟨x, e, h0, h1, h2⟩ := h.chain hi
  have hf := (feas_iff h.fo.len).mp h.pot i ⟨i, i + 1, k + 1, 0⟩ x (by rw [List.getElem?_append_left (by rw [chain_len]; exact hi)]; exact chain_get hi) (by rw [List.getElem?_append_left (by rw [h.lG]; exact hi)]; exact e)
  obtain ⟨f1, f2⟩ := hf
  have f1 : d (i + 1) ≤ d i + 0 := f1 (by show x < k + 1; omega)
  refine ⟨by omega, ?_⟩
  by_cases hx : x = 0
  · rw [show crs SE H i = t by omega]
  · have f2 : d i ≤ d (i + 1) - 0 := f2 (by omega)
    rw [show d i - d (i + 1) = 0 by omega]
    simp
theorem NetOk.dual (h : NetOk M k k SE G H d) : dueS SE H = k * sumZ M (fun i => d i - d (i + 1)) + overS d SE := by
  rw [due_split (d := d) h.lH fun j b x h1 h2 => ?_, rent_cross (M := M) fun b hb => by have := h.ed b hb; omega]
  · rw [sumZ_congr (h := fun i => k * (d i - d (i + 1))) fun i hi => by rw [(h.down (Int.le_refl _) hi).2, Int.mul_comm], sumZ_mul]
    omega
  · have e1 : (chainE M k ++ SE)[M + j]? = some b := by
      rw [List.getElem?_append_right (by rw [chain_len]; omega), chain_len, Nat.add_sub_cancel_left]
      exact h1
    have e2 : (G ++ H)[M + j]? = some x := by
      rw [List.getElem?_append_right (by rw [h.lG]; omega), h.lG, Nat.add_sub_cancel_left]
      exact h2
    have hb := h.ed b (List.mem_of_getElem? h1)
    have hbd := h.fo.bd _ _ _ e1 e2
    have hf := (feas_iff h.fo.len).mp h.pot _ _ _ e1 e2
    exact ⟨hb.2.2, hbd.1, by omega, fun hx => hf.1 (by omega), hf.2⟩
theorem NetOk.reach (h : NetOk M k t SE G H d) (ht : t ≤ k) {ds : List (Option Int)} {bs : List (Option Nat)} {f : Nat → Int} {m : Nat} (hb : BF (netL (chainE M k ++ SE) (G ++ H)) f m ds bs) (hd : Done (netL (chainE M k ++ SE) (G ++ H)) ds) : ∀ v, v ≤ M → vO ds v ≠ none
  | 0, _ => by rw [hb.d0]; exact fun z => nomatch z
  | v + 1, hv => by
    have ih := NetOk.reach h ht hb hd v (by omega)
    obtain ⟨y, hy⟩ := Option.ne_none_iff_exists'.mp ih
    obtain ⟨x, e, h0, h1, h2⟩ := h.chain (i := v) (by omega)
    have hm := List.mem_of_getElem? (net_even (B := chainE M k ++ SE) (F := G ++ H) (j := v) (b := ⟨v, v + 1, k + 1, 0⟩) (x := x) (by rw [List.getElem?_append_left (by rw [chain_len]; omega)]; exact chain_get (by omega)) (by rw [List.getElem?_append_left (by rw [h.lG]; omega)]; exact e))
    obtain ⟨z, hz, _⟩ := hd _ hm (by show 0 < k + 1 - x; omega) y hy
    have hz : vO ds (v + 1) = some z := hz
    rw [hz]
    exact fun z => nomatch z
end
theorem _root_.PD.Keep.refl {st : Sto} : Keep st st := ⟨Nat.le_refl _, fun _ _ => rfl⟩
theorem _root_.PD.Keep.trans {s1 s2 s3 : Sto} (a : Keep s1 s2) (b : Keep s2 s3) : Keep s1 s3 := ⟨Nat.le_trans a.le b.le, fun i hi => (b.eq i (Nat.lt_of_lt_of_le hi a.le)).trans (a.eq i hi)⟩
theorem _root_.PD.Keep.app {s1 s2 ex : Sto} (a : Keep s1 s2) : Keep s1 (s2 ++ ex) := ⟨by have := a.le; simp; omega, fun i hi => by rw [List.getElem?_append_left (Nat.lt_of_lt_of_le hi a.le)]; exact a.eq i hi⟩
theorem _root_.PD.Keep.set {s1 s2 : Sto} {r : Nat} {o : Ob} (a : Keep s1 s2) (h : s1.length ≤ r) : Keep s1 (s2.set r o) := ⟨by rw [List.length_set]; exact a.le, fun i hi => by rw [List.getElem?_set_ne (by omega)]; exact a.eq i hi⟩
theorem _root_.PD.Keep.get {st s : Sto} (k : Keep st s) {i : Nat} {o : Ob} (h : st[i]? = some o) : s[i]? = some o := by
  have : i < st.length := by
    rw [List.getElem?_eq_some_iff] at h
    exact h.1
  rw [k.eq i this, h]
/-- in ascending order -/
def ascB (ns : List Int) : Bool := (List.range (ns.length - 1)).all fun k => decide (ns[k]?.getD 0 < ns[k + 1]?.getD 0)
theorem ascB_iff : ∀ {ns : List Int}, ascB ns = true ↔ ns.Pairwise (· < ·)
  | [] => ⟨fun _ => .nil, fun _ => rfl⟩
  | [a] => ⟨fun _ => List.pairwise_singleton _ _, fun _ => rfl⟩
  | a :: b :: ns => by
    have ih := ascB_iff (ns := b :: ns)
    have e : ascB (a :: b :: ns) = (decide (a < b) && ascB (b :: ns)) := by
      unfold ascB
      have e1 : (a :: b :: ns).length - 1 = ((b :: ns).length - 1) + 1 := by simp
      rw [e1, List.range_succ_eq_map, List.all_cons, List.all_map]
      congr 1
    rw [e, Bool.and_eq_true, decide_eq_true_eq, ih, List.pairwise_cons (a := a)]
    constructor
    · rintro ⟨h1, h2⟩
      refine ⟨fun x hx => ?_, h2⟩
      rcases List.mem_cons.mp hx with rfl | hx
      · exact h1
      · have := (List.pairwise_cons.mp h2).1 x hx
        omega
    · rintro ⟨h1, h2⟩
      exact ⟨h1 b (List.mem_cons_self ..), h2⟩
theorem asc_gx {st : Sto} {ns : List Int} {v : PV} {chk : Sto → Prop} {x1 : Option PV} (hc : chk st) (hv : ∀ (i : Nat), i < ns.length → oIx v (.int (i : Int)) st = .ok (.int (ns[i]?.getD 0)) st) : gxF false (.nm 1) dYes (dBin oLt (dBin oIx (dVar 0) (dVar 1)) (dBin oIx (dVar 0) (dBin oAdd (dVar 1) (dC (.int 1))))) chk [some (v), x1] (rgP 0 (ns.length - 1)) st = .ok (.bl (ascB ns)) st := by
  rw [gx_pure (fun q => decide (ns[natOf q]?.getD 0 < ns[natOf q + 1]?.getD 0)) hc (rgP 0 (ns.length - 1)) fun q hq => by
    obtain ⟨i, hi, rfl⟩ := mem_rgP hq
    refine ⟨_, rfl, rfl, ?_⟩
    have h1 := hv i (by omega)
    have h2 := hv (i + 1) (by omega)
    refine Ok.eq ?_
    rw [Int.natCast_add] at h2
    simp at h2
    simp [h1, h2]]
  rw [if_neg (by simp)]
  congr 2
  rw [rgP_eq, List.all_map]
  unfold ascB
  congr 1
theorem is_ascending_tup {ns : List Int} {st : Sto} (h : ns.length ≤ 16777216) : S_is_ascending [.tup (ns.map PV.int)] st = .ok (.bl (ascB ns)) st := by
  unfold S_is_ascending
  refine Ok.eq ?_
  simp [d_is_ascending, d_is_ascending_1, start0, -e_gx]
  rw [e_gx]
  simp [-e_gx, wipeE]
  refine ⟨⟨by omega, by omega⟩, ?_⟩
  rw [asc_gx True.intro fun i hi => ?_]
  · simp
  · rw [m_ixT, int_at hi]
theorem is_ascending_lst {ns : List Int} {st : Sto} {n : Nat} (hn : st[n]? = some (.lst false (ns.map PV.int))) (h : ns.length ≤ 16777216) : S_is_ascending [.loc n] st = .ok (.bl (ascB ns)) st := by
  unfold S_is_ascending
  refine Ok.eq ?_
  simp [d_is_ascending, d_is_ascending_1, start0, hn, -e_gx]
  rw [e_gx]
  simp [-e_gx, wipeE, hn]
  refine ⟨⟨by omega, by omega⟩, ?_⟩
  rw [asc_gx True.intro fun i hi => ?_]
  · simp
  · rw [m_ixL, hn]
    dsimp only
    rw [int_at hi]
theorem ok_is_ascending {P : Program} {w : World} {W : Wd} {base : Heap} (V : Ev W base) : DFn P w W base 5 (He.fAd W.K ("is_ascending", none)) 1 S_is_ascending := raw_is_ascending V 
abbrev N_is_number : List Str := ["value", "least", "most"]
noncomputable def d_is_number_1 : PD.Env → Mo Fl := (dRet (dAndV (dIsi .int (dVar 0)) (dAndV (dNotV (dIsi .bl (dVar 0))) (dChain oLe oLe (dVar 1) (dVar 0) (dVar 2)))))
noncomputable def d_is_number : PD.Env → Mo Fl := d_is_number_1
theorem sc_is_number : FnScope N_is_number ["value", "least", "most"] (defScope (top 2)) := C8.fnScope_by (by decide +kernel)
theorem body_is_number {P : Program} {w : World} {W : Wd} {base : Heap} (V : Ev W base)  : Body P w W base N_is_number "is_number" (defScope (top 2)) (He.fAd W.K ("is_number", none)) 2 (defBody (top 2)) d_is_number := fun cdv A outer s H E =>
  (dss_one (ds_ret (de_and (de_isi .int (de_var (i := 0)) rfl V.b_isinstance rfl V.b_int boot_int_) (de_and (de_not (de_isi .bl (de_var (i := 0)) rfl V.b_isinstance rfl V.b_bool boot_bool_)) (de_one (de_leLe (de_var (i := 1)) (de_var (i := 0)) (de_var (i := 2))))))))
theorem raw_is_number {P : Program} {w : World} {W : Wd} {base : Heap} (V : Ev W base)  : DFn P w W base 3 (He.fAd W.K ("is_number", none)) 3 (bodyF 3 d_is_number) := by
  obtain ⟨fd, F⟩ := V.D_is_number
  exact DFn.of V.cx F sc_is_number (F.bindsN fun _ _ _ _ _ _ us hl => match us, hl with | [_, _, _], _ => rfl) (body_is_number V )
noncomputable def S_is_number : List PV → Mo PV := pureS dom_is_number val_is_number
theorem nox_is_number : NoX S_is_number := nox_pure
theorem ref_is_number : Ref 3 (bodyF 3 d_is_number) S_is_number := ref_same (fun ps st h => by
  obtain ⟨v, lo, hi, rfl, hv⟩ := h
  cases v <;> first
    | exact hv.elim
    | (simp [d_is_number, d_is_number_1, start0, isK, val_is_number, isNum]; try (split <;> simp_all <;> omega))) (fun ps m h => by
  obtain ⟨v, lo, hi, rfl, hv⟩ := h
  rfl)
@[simp] theorem is_number_ok {v : PV} {lo hi : Int} {st : Sto} (hv : plainV v) : S_is_number [v, .int lo, .int hi] st = .ok (.bl (isNum v lo hi)) st := pureS_ok ⟨v, lo, hi, rfl, hv⟩


theorem ok_is_number {P : Program} {w : World} {W : Wd} {base : Heap} (V : Ev W base) : DFn P w W base 3 (He.fAd W.K ("is_number", none)) 3 S_is_number := (raw_is_number V ).ref ref_is_number nox_is_number
abbrev N_are_numbers_of : List Str := ["stays", "value", "number"]
noncomputable def d_are_numbers_of_1 : PD.Env → Mo Fl := (dRet (dC (.bl false)))
noncomputable def d_are_numbers_of_2 : PD.Env → Mo Fl := (dIfS (dOrT (dNotT (fun ρ => bnd ((dIsi .tup (dVar 1)) ρ) truM)) (dNotT (fun ρ => bnd ((dGx false (fun ρ => bnd ((dVar 1) ρ) srcM) (.nm 2) dYes (fun ρ => bnd ((dCons (dVar 2) (dCons (dC (.int 0)) (dCons (dBin oSub (fun ρ => bnd ((dVar 0) ρ) lenM) (dC (.int 1))) (fun _ st => .ok [] st)))) ρ) (callM 3 S_is_number)) [2]) ρ) truM))) d_are_numbers_of_1 dNil)
noncomputable def d_are_numbers_of_3 : PD.Env → Mo Fl := (dRet (dBin (oEq false) (fun ρ => bnd ((dVar 1) ρ) lenSetM) (fun ρ => bnd ((dVar 1) ρ) lenM)))
noncomputable def d_are_numbers_of : PD.Env → Mo Fl := (dSeq d_are_numbers_of_2
    d_are_numbers_of_3)
theorem sc_are_numbers_of : FnScope N_are_numbers_of ["stays", "value"] (defScope (top 6)) := C8.fnScope_by (by decide +kernel)
theorem body_are_numbers_of {P : Program} {w : World} {W : Wd} {base : Heap} (V : Ev W base) (h_is_number : DFn P w W base 3 (He.fAd W.K ("is_number", none)) 3 S_is_number) : BodyT P w W base N_are_numbers_of "are_numbers_of" (defScope (top 6)) (He.fAd W.K ("are_numbers_of", none)) (He.cT W.K ("are_numbers_of", none)).1 5 (defBody (top 6)) d_are_numbers_of := fun A outer s H E =>
  (dss_cons (ds_if (dt_w (dw_or (dt_not (dt_e (de_isi .tup (de_var (i := 1)) rfl V.b_isinstance rfl V.b_tuple boot_tuple_))) (dw_or1 (dt_not (dt_e (de_allG V.T_are_numbers_of V.p_are_numbers_of V.q_are_numbers_of rfl V.b_all (own := [("number", 2)]) (di_e (de_var (i := 1))) (blkOk_by (N := N_are_numbers_of) (sc := defScope (top 6)) (by decide +kernel)) (fun _ _ _ _ _ _ _ => (dp_name (i := 2))) (fun _ _ _ _ _ _ _ => dts_nil) (fun _ _ _ _ _ _ _ => (de_call (h_is_number.mono (by decide)) V.g_is_number (da_cons (de_var (i := 2)) (da_cons de_int (da_cons (de_sub (de_lenV (de_var (i := 0)) rfl V.b_len) de_int) da_nil))))))))))) (dss_one (ds_ret de_bl)) dss_nil)
    (dss_one (ds_ret (de_eq (de_lenSet (de_var (i := 1)) rfl V.b_len rfl V.b_set) (de_lenV (de_var (i := 1)) rfl V.b_len)))))
theorem raw_are_numbers_of {P : Program} {w : World} {W : Wd} {base : Heap} (V : Ev W base) (h_is_number : DFn P w W base 3 (He.fAd W.K ("is_number", none)) 3 S_is_number) : DFn P w W base 6 (He.fAd W.K ("are_numbers_of", none)) 2 (bodyF 3 d_are_numbers_of) := by
  obtain ⟨fd, F⟩ := V.D_are_numbers_of
  exact DFn.ofT V.cx F sc_are_numbers_of (F.bindsN fun _ _ _ _ _ _ us hl => match us, hl with | [_, _], _ => rfl) (body_are_numbers_of V h_is_number)
noncomputable def S_are_numbers_of : List PV → Mo PV := bodyF 3 d_are_numbers_of
theorem ref_are_numbers_of : Ref 2 (bodyF 3 d_are_numbers_of) S_are_numbers_of := ref_self
/-- the ints that a value is, within bounds and different -/
def numB (n : Int) (i : Int) : Bool := decide (0 ≤ i) && decide (i ≤ n - 1)
def isNums (n : Int) (v : PV) : Bool := match v with
  | .tup l => match intsV l with
    | some ns => ns.all (numB n) && decide ((dst ns).length = ns.length)
    | none => false
  | _ => false
def nums (v : PV) : List Int := match v with
  | .tup l => (intsV l).getD []
  | _ => []
theorem all_isNum {n : Int} : ∀ {l : List PV}, l.all (fun q => isNum q 0 (n - 1)) = true → ∃ ns : List Int, l = ns.map PV.int ∧ ns.all (numB n) = true
  | [], _ => ⟨[], rfl, rfl⟩
  | q :: l, h => by
    rw [List.all_cons, Bool.and_eq_true] at h
    obtain ⟨i, rfl, h1, h2⟩ := isNum_int h.1
    obtain ⟨ns, rfl, h3⟩ := all_isNum h.2
    exact ⟨i :: ns, rfl, by rw [List.all_cons, h3]; simp [numB, h1, h2]⟩
theorem isNum_all {n : Int} {ns : List Int} : (ns.map PV.int).all (fun q => isNum q 0 (n - 1)) = ns.all (numB n) := by
  rw [List.all_map]
  rfl
theorem isNums_not {n : Int} {l : List PV} (h : l.all (fun q => isNum q 0 (n - 1)) = false) : isNums n (.tup l) = false := by
  unfold isNums
  dsimp only
  cases q : intsV l with
  | none => rfl
  | some ns =>
    have e := intsV_some q
    subst e
    rw [isNum_all] at h
    simp [h]
theorem beq_nat {a b : Nat} : ((a : Int) == (b : Int)) = decide (a = b) := by
  rw [Bool.eq_iff_iff]
  simp
  omega
/-- plain, not too long -/
def okV (v : PV) : Prop := plainT v ∧ ∀ l, v = .tup l → l.length ≤ 4000
theorem are_numbers_of_ok {L : List (Int × Int)} {v : PV} {st : Sto} (h : okV v) : S_are_numbers_of [staysP L, v] st = .ok (.bl (isNums L.length v)) st := by
  obtain ⟨hv, hl⟩ := h
  unfold S_are_numbers_of
  refine Ok.eq ?_
  cases v with
  | loc _ => exact hv.1.elim
  | fn _ => exact hv.1.elim
  | kl _ => exact hv.1.elim
  | tup l =>
    have hp := hv.2 l rfl
    have hl := hl l rfl
    simp [d_are_numbers_of, d_are_numbers_of_1, d_are_numbers_of_2, d_are_numbers_of_3, start0, isK]
    rw [gx_pure (fun q => isNum q 0 ((L.length : Int) - 1)) True.intro l fun q hq => ⟨_, rfl, by simp, by
      have hq := hp q hq
      refine Ok.eq ?_
      simp [wipeE, hq]⟩]
    cases h : l.all (fun q => isNum q 0 ((L.length : Int) - 1)) with
    | false => simp [isNums_not h]
    | true =>
      obtain ⟨ns, rfl, h2⟩ := all_isNum h
      rw [List.length_map] at hl
      simp [hl, okd_int, isNums, h2, beq_nat]
  | _ => simp [d_are_numbers_of, d_are_numbers_of_1, d_are_numbers_of_2, d_are_numbers_of_3, start0, isK, isNums]
theorem ok_are_numbers_of {P : Program} {w : World} {W : Wd} {base : Heap} (V : Ev W base) : DFn P w W base 6 (He.fAd W.K ("are_numbers_of", none)) 2 S_are_numbers_of := raw_are_numbers_of V (ok_is_number V)
abbrev N_has_moment : List Str := ["stay", "moment"]
noncomputable def d_has_moment_1 : PD.Env → Mo Fl := (dRet (dChain oLe oLt (dBin oIx (dVar 0) (dC (.int 0))) (dVar 1) (dBin oIx (dVar 0) (dC (.int 1)))))
noncomputable def d_has_moment : PD.Env → Mo Fl := d_has_moment_1
theorem sc_has_moment : FnScope N_has_moment ["stay", "moment"] (defScope (top 7)) := C8.fnScope_by (by decide +kernel)
theorem body_has_moment {P : Program} {w : World} {W : Wd} {base : Heap} (V : Ev W base)  : Body P w W base N_has_moment "has_moment" (defScope (top 7)) (He.fAd W.K ("has_moment", none)) 2 (defBody (top 7)) d_has_moment := fun cdv A outer s H E =>
  (dss_one (ds_ret (de_leLt (de_ix (de_var (i := 0)) de_int) (de_var (i := 1)) (de_ix (de_var (i := 0)) de_int))))
theorem raw_has_moment {P : Program} {w : World} {W : Wd} {base : Heap} (V : Ev W base)  : DFn P w W base 3 (He.fAd W.K ("has_moment", none)) 2 (bodyF 2 d_has_moment) := by
  obtain ⟨fd, F⟩ := V.D_has_moment
  exact DFn.of V.cx F sc_has_moment (F.bindsN fun _ _ _ _ _ _ us hl => match us, hl with | [_, _], _ => rfl) (body_has_moment V )
noncomputable def S_has_moment : List PV → Mo PV := pureS dom_has_moment val_has_moment
theorem nox_has_moment : NoX S_has_moment := nox_pure
theorem ref_has_moment : Ref 2 (bodyF 2 d_has_moment) S_has_moment := ref_same (fun ps st h => by
  obtain ⟨a, m, rfl⟩ := h
  simp [d_has_moment, d_has_moment_1, start0, stP, val_has_moment, hasM]
  by_cases h1 : a.1 ≤ m <;> simp [h1]) (fun ps m h => by
  obtain ⟨a, m, rfl⟩ := h
  rfl)
@[simp] theorem has_moment_ok {a : Int × Int} {m : Int} {st : Sto} : S_has_moment [stP a, .int m] st = .ok (.bl (hasM a m)) st := pureS_ok ⟨a, m, rfl⟩


theorem ok_has_moment {P : Program} {w : World} {W : Wd} {base : Heap} (V : Ev W base) : DFn P w W base 3 (He.fAd W.K ("has_moment", none)) 2 S_has_moment := (raw_has_moment V ).ref ref_has_moment nox_has_moment
abbrev N_present : List Str := ["stays", "moment", "i"]
noncomputable def d_present_1 : PD.Env → Mo Fl := (dRet (fun ρ => bnd ((dLc (fun ρ => bnd ((dCons (fun ρ => bnd ((dVar 0) ρ) lenM) (fun _ st => .ok [] st)) ρ) rg1M) (.nm 2) (fun ρ => bnd ((fun ρ => bnd ((dCons (dBin oIx (dVar 0) (dVar 2)) (dCons (dVar 1) (fun _ st => .ok [] st))) ρ) (callM 2 S_has_moment)) ρ) truM) (dVar 2) [2]) ρ) tupQ))
noncomputable def d_present : PD.Env → Mo Fl := d_present_1
theorem sc_present : FnScope N_present ["stays", "moment"] (defScope (top 8)) := C8.fnScope_by (by decide +kernel)
theorem body_present {P : Program} {w : World} {W : Wd} {base : Heap} (V : Ev W base) (h_has_moment : DFn P w W base 3 (He.fAd W.K ("has_moment", none)) 2 S_has_moment) : Body P w W base N_present "present" (defScope (top 8)) (He.fAd W.K ("present", none)) 3 (defBody (top 8)) d_present := fun cdv A outer s H E =>
  (dss_one (ds_ret (de_tuple (dq_l (dl_lc (own := [("i", 2)]) (di_range1 (da_cons (de_lenV (de_var (i := 0)) rfl V.b_len) da_nil) rfl V.b_range) (blkOk_by (N := N_present) (sc := defScope (top 8)) (by decide +kernel)) (fun _ _ _ _ _ => (dp_name (i := 2))) (fun _ _ _ _ _ => (dts_one (dt_e (de_call (h_has_moment.mono (by decide)) V.g_has_moment (da_cons (de_ix (de_var (i := 0)) (de_var (i := 2))) (da_cons (de_var (i := 1)) da_nil)))))) (fun _ _ _ _ _ => (de_var (i := 2))))) rfl V.b_tuple)))
theorem raw_present {P : Program} {w : World} {W : Wd} {base : Heap} (V : Ev W base) (h_has_moment : DFn P w W base 3 (He.fAd W.K ("has_moment", none)) 2 S_has_moment) : DFn P w W base 4 (He.fAd W.K ("present", none)) 2 (bodyF 3 d_present) := by
  obtain ⟨fd, F⟩ := V.D_present
  exact DFn.of V.cx F sc_present (F.bindsN fun _ _ _ _ _ _ us hl => match us, hl with | [_, _], _ => rfl) (body_present V h_has_moment)
noncomputable def S_present : List PV → Mo PV := bodyF 3 d_present
theorem ref_present : Ref 2 (bodyF 3 d_present) S_present := ref_self
/-- how many of the stays have a moment -/
def cov (K : List (Int × Int)) (m : Int) : Nat := (K.filter fun a => hasM a m).length
theorem range_filter_len {α : Type} (p : α → Bool) (d : α) : ∀ l : List α, ((List.range l.length).filter fun i => p (l[i]?.getD d)).length = (l.filter p).length
  | [] => rfl
  | a :: l => by
    have ih := range_filter_len p d l
    rw [List.length_cons, List.range_succ_eq_map, List.filter_cons, List.filter_map, List.filter_cons]
    have e : ((fun i => p ((a :: l)[i]?.getD d)) ∘ Nat.succ) = fun i => p (l[i]?.getD d) := by
      funext i
      simp
    rw [e]
    have e0 : p ((a :: l)[0]?.getD d) = p a := rfl
    rw [e0]
    split
    · rw [List.length_cons, List.length_cons, List.length_map, ih]
    · rw [List.length_map, ih]
theorem presI_len {K : List (Int × Int)} {m : Int} : (presI K m).length = cov K m := range_filter_len (fun a => hasM a m) (0, 0) K
theorem present_okL {K : List (Int × Int)} {n : Nat} {m : Int} {st : Sto} (hn : st[n]? = some (.lst false (K.map stP))) (hl : K.length ≤ 16777216) : S_present [.loc n, .int m] st = .ok (intsP (presI K m)) st := by
  have hr : RgOk ((K.length : Nat) : Int) := ⟨by omega, by omega⟩
  unfold S_present
  refine Ok.eq ?_
  simp [d_present, d_present_1, start0, hn, hr]
  rw [lc_pure (fun q => hasM (K[natOf q]?.getD (0, 0)) m) (fun q => q) True.intro (rgP 0 K.length) [] (fun q hq => by
    obtain ⟨i, hi, rfl⟩ := mem_rgP hq
    refine ⟨_, rfl, ?_, fun _ => ?_⟩
    · refine Ok.eq ?_
      simp [wipeE, hn, stay_at hi, natOf]
    · refine Ok.eq ?_
      simp [wipeE]) (by unfold rgP; simpa using hl)]
  have e := rgP_filter K.length fun i => hasM (K[i]?.getD (0, 0)) m
  rw [List.nil_append, e]
  refine ⟨hr, ?_⟩
  exact ok_ok.mpr ⟨rfl, rfl⟩
theorem gS_of {L : List (Int × Int)} {i : Nat} (h : i < L.length) : gS L i = L[i] := by
  unfold gS
  rw [List.getElem?_eq_getElem h]
  rfl
def gI (L : List (Int × Int)) (i : Int) : Int × Int := gS L i.toNat
theorem stayI_at {L : List (Int × Int)} {i : Int} (h : 0 ≤ i ∧ i < (L.length : Int)) : atI (L.map stP) i = some (stP (gI L i)) := by
  obtain ⟨n, rfl⟩ : ∃ n : Nat, i = (n : Int) := ⟨i.toNat, by omega⟩
  exact stay_at (by omega)
/-- a set that can be kept -/
structure KeptOk (L : List (Int × Int)) (k : Int) (ns : List Int) : Prop where
  bd : ∀ i ∈ ns, 0 ≤ i ∧ i < (L.length : Int)
  asc : ns.Pairwise (· < ·)
  cov : ∀ i ∈ ns, (cov (ns.map (gI L)) (gI L i).1 : Int) ≤ k
def covB (L : List (Int × Int)) (k : Int) (ns : List Int) : Bool := ns.all fun i => decide ((cov (ns.map (gI L)) (gI L i).1 : Int) ≤ k)
def keptB (L : List (Int × Int)) (k : Int) (v : PV) : Bool := isNums L.length v && (ascB (nums v) && covB L k (nums v))
theorem intsV_mapI : ∀ (ns : List Int), intsV (ns.map PV.int) = some ns := fun ns => intsV_map ns
theorem nums_tup {ns : List Int} : nums (.tup (ns.map PV.int)) = ns := by
  unfold nums
  dsimp only
  rw [intsV_map]
  rfl
theorem isNums_tup {n : Int} {v : PV} (h : isNums n v = true) : ∃ ns : List Int, v = .tup (ns.map PV.int) ∧ (∀ i ∈ ns, 0 ≤ i ∧ i < n) ∧ nums v = ns ∧ (dst ns).length = ns.length := by
  unfold isNums at h
  cases v with
  | tup l =>
    dsimp only at h
    cases q : intsV l with
    | none => rw [q] at h; cases h
    | some ns =>
      have e := intsV_some q
      subst e
      rw [q] at h
      simp only [Bool.and_eq_true, decide_eq_true_eq, List.all_eq_true] at h
      refine ⟨ns, rfl, fun i hi => ?_, nums_tup, h.2⟩
      have := h.1 i hi
      unfold numB at this
      simp only [Bool.and_eq_true, decide_eq_true_eq] at this
      omega
  | _ => cases h
theorem isNums_of {n : Int} {ns : List Int} (h : ∀ i ∈ ns, 0 ≤ i ∧ i < n) (hd : ns.Nodup) : isNums n (.tup (ns.map PV.int)) = true := by
  unfold isNums
  dsimp only
  rw [intsV_map]
  simp only [Bool.and_eq_true, decide_eq_true_eq, List.all_eq_true]
  refine ⟨fun i hi => ?_, (dst_length hd fun k => Iff.rfl).symm⟩
  have := h i hi
  unfold numB
  simp only [Bool.and_eq_true, decide_eq_true_eq]
  omega
theorem keptB_iff {L : List (Int × Int)} {k : Int} {ns : List Int} : keptB L k (.tup (ns.map PV.int)) = true ↔ KeptOk L k ns := by
  unfold keptB covB
  rw [nums_tup]
  simp only [Bool.and_eq_true, List.all_eq_true, decide_eq_true_eq, ascB_iff]
  constructor
  · rintro ⟨h1, h2, h3⟩
    obtain ⟨ms, e, hb, e2, _⟩ := isNums_tup h1
    rw [nums_tup] at e2
    subst e2
    exact ⟨hb, h2, h3⟩
  · rintro ⟨h1, h2, h3⟩
    exact ⟨isNums_of h1 (h2.imp fun h e => by omega), h2, h3⟩
theorem keptB_tup {L : List (Int × Int)} {k : Int} {v : PV} (h : keptB L k v = true) : ∃ ns : List Int, v = .tup (ns.map PV.int) ∧ KeptOk L k ns := by
  have h1 := h
  unfold keptB at h1
  rw [Bool.and_eq_true] at h1
  obtain ⟨ns, rfl, _⟩ := isNums_tup h1.1
  exact ⟨ns, rfl, keptB_iff.mp h⟩
theorem ok_present {P : Program} {w : World} {W : Wd} {base : Heap} (V : Ev W base) : DFn P w W base 4 (He.fAd W.K ("present", none)) 2 S_present := raw_present V (ok_has_moment V)
abbrev N_is_kept_set : List Str := ["stays", "k", "value", "kept", "i", "stay"]
noncomputable def d_is_kept_set_1 : PD.Env → Mo Fl := (dRet (dC (.bl false)))
noncomputable def d_is_kept_set_2 : PD.Env → Mo Fl := (dIfS (dOrT (dNotT (fun ρ => bnd ((fun ρ => bnd ((dCons (dVar 0) (dCons (dVar 2) (fun _ st => .ok [] st))) ρ) (callM 2 S_are_numbers_of)) ρ) truM)) (dNotT (fun ρ => bnd ((fun ρ => bnd ((dCons (dVar 2) (fun _ st => .ok [] st)) ρ) (callM 1 S_is_ascending)) ρ) truM))) d_is_kept_set_1 dNil)
noncomputable def d_is_kept_set_3 : PD.Env → Mo Fl := (dSet 3 (fun ρ => bnd ((dLc (fun ρ => bnd ((dVar 2) ρ) srcM) (.nm 4) dYes (dBin oIx (dVar 0) (dVar 4)) [4]) ρ) layL))
noncomputable def d_is_kept_set_4 : PD.Env → Mo Fl := (dRet (dGx false (fun ρ => bnd ((dVar 3) ρ) srcM) (.nm 5) dYes (dBin oLe (fun ρ => bnd ((fun ρ => bnd ((dCons (dVar 3) (dCons (dBin oIx (dVar 5) (dC (.int 0))) (fun _ st => .ok [] st))) ρ) (callM 2 S_present)) ρ) lenM) (dVar 1)) [5]))
noncomputable def d_is_kept_set : PD.Env → Mo Fl := (dSeq d_is_kept_set_2
    (dSeq d_is_kept_set_3
    d_is_kept_set_4))
theorem sc_is_kept_set : FnScope N_is_kept_set ["stays", "k", "value"] (defScope (top 10)) := C8.fnScope_by (by decide +kernel)
theorem body_is_kept_set {P : Program} {w : World} {W : Wd} {base : Heap} (V : Ev W base) (h_are_numbers_of : DFn P w W base 6 (He.fAd W.K ("are_numbers_of", none)) 2 S_are_numbers_of) (h_is_ascending : DFn P w W base 5 (He.fAd W.K ("is_ascending", none)) 1 S_is_ascending) (h_present : DFn P w W base 4 (He.fAd W.K ("present", none)) 2 S_present) : BodyT P w W base N_is_kept_set "is_kept_set" (defScope (top 10)) (He.fAd W.K ("is_kept_set", none)) (He.cT W.K ("is_kept_set", none)).1 8 (defBody (top 10)) d_is_kept_set := fun A outer s H E =>
  (dss_cons (ds_if (dt_w (dw_or (dt_not (dt_e (de_call (h_are_numbers_of.mono (by decide)) V.g_are_numbers_of (da_cons (de_var (i := 0)) (da_cons (de_var (i := 2)) da_nil))))) (dw_or1 (dt_not (dt_e (de_call (h_is_ascending.mono (by decide)) V.g_is_ascending (da_cons (de_var (i := 2)) da_nil))))))) (dss_one (ds_ret de_bl)) dss_nil)
    (dss_cons (ds_set (i := 3) (de_l (dl_lc (own := [("i", 4)]) (di_e (de_var (i := 2))) (blkOk_by (N := N_is_kept_set) (sc := defScope (top 10)) (by decide +kernel)) (fun _ _ _ _ _ => (dp_name (i := 4))) (fun _ _ _ _ _ => dts_nil) (fun _ _ _ _ _ => (de_ix (de_var (i := 0)) (de_var (i := 4)))))))
    (dss_one (ds_ret (de_allG V.T_is_kept_set V.p_is_kept_set V.q_is_kept_set rfl V.b_all (own := [("stay", 5)]) (di_e (de_var (i := 3))) (blkOk_by (N := N_is_kept_set) (sc := defScope (top 10)) (by decide +kernel)) (fun _ _ _ _ _ _ _ => (dp_name (i := 5))) (fun _ _ _ _ _ _ _ => dts_nil) (fun _ _ _ _ _ _ _ => (de_le (de_lenV (de_call (h_present.mono (by decide)) V.g_present (da_cons (de_var (i := 3)) (da_cons (de_ix (de_var (i := 5)) de_int) da_nil))) rfl V.b_len) (de_var (i := 1)))))))))
theorem raw_is_kept_set {P : Program} {w : World} {W : Wd} {base : Heap} (V : Ev W base) (h_are_numbers_of : DFn P w W base 6 (He.fAd W.K ("are_numbers_of", none)) 2 S_are_numbers_of) (h_is_ascending : DFn P w W base 5 (He.fAd W.K ("is_ascending", none)) 1 S_is_ascending) (h_present : DFn P w W base 4 (He.fAd W.K ("present", none)) 2 S_present) : DFn P w W base 9 (He.fAd W.K ("is_kept_set", none)) 3 (bodyF 6 d_is_kept_set) := by
  obtain ⟨fd, F⟩ := V.D_is_kept_set
  exact DFn.ofT V.cx F sc_is_kept_set (F.bindsN fun _ _ _ _ _ _ us hl => match us, hl with | [_, _, _], _ => rfl) (body_is_kept_set V h_are_numbers_of h_is_ascending h_present)
noncomputable def S_is_kept_set : List PV → Mo PV := bodyF 6 d_is_kept_set
theorem ref_is_kept_set : Ref 3 (bodyF 6 d_is_kept_set) S_is_kept_set := ref_self
theorem okV_len {v : PV} {l : List PV} (h : okV v) (e : v = .tup l) : l.length ≤ 4000 := h.2 l e
def stI (L : List (Int × Int)) : PV → PV
  | .int i => stP (gI L i)
  | _ => .non
theorem stI_map {L : List (Int × Int)} {ns : List Int} : (ns.map PV.int).map (stI L) = (ns.map (gI L)).map stP := by
  rw [List.map_map, List.map_map]
  rfl
def unStart : PV → Int
  | .tup [.int a, _] => a
  | _ => 0
section
variable {L : List (Int × Int)} {k : Int} {v : PV} {st : Sto} {Q : PV → Sto → Prop} {x0 x1 x2 x3 x4 x5 : Option PV}
theorem is_kept_set_ok (hv : okV v) (K : ∀ ex, Q (.bl (keptB L k v)) (st ++ ex)) : Ok (S_is_kept_set [staysP L, .int k, v] st) Q := by
  have K0 := K []
  rw [List.append_nil] at K0
  unfold S_is_kept_set
  rw [e_body, ok_bnd]
  simp only [d_is_kept_set, ok_seq]
  simp [d_is_kept_set_2, start0, are_numbers_of_ok hv, -ok_seq]
  cases h1 : isNums L.length v with
  | false =>
    have e : keptB L k v = false := by unfold keptB; rw [h1]; rfl
    rw [e] at K0
    simpa [d_is_kept_set_1] using K0
  | true =>
    obtain ⟨ns, rfl, hb, hn, _⟩ := isNums_tup h1
    have hl := okV_len hv rfl
    rw [List.length_map] at hl
    simp [is_ascending_tup (ns := ns) (st := st) (by omega), -ok_seq]
    cases h2 : ascB ns with
    | false =>
      have e : keptB L k (.tup (ns.map PV.int)) = false := by unfold keptB; rw [hn, h2]; simp
      rw [e] at K0
      simpa [d_is_kept_set_1] using K0
    | true =>
      have e : keptB L k (.tup (ns.map PV.int)) = covB L k ns := by unfold keptB; rw [h1, hn, h2]; simp
      rw [e] at K
      rw [ok_seq]
      simp [d_is_kept_set_3, staysP, wipeE, -ok_seq]
      rw [lc_map (stI L) (by exact True.intro) (ns.map PV.int) (fun q hq => by
        obtain ⟨i, hi, rfl⟩ := List.mem_map.mp hq
        refine ⟨_, rfl, rfl, ?_⟩
        refine Ok.eq ?_
        simp [stayI_at (hb i hi), stI]) (by rw [List.length_map]; omega), ok_ok, stI_map]
      have hl2 : (ns.map (gI L)).length ≤ 16777216 := by rw [List.length_map]; omega
      have hK : (ns.map (gI L)).map stP = ns.map (stP ∘ gI L) := List.map_map ..
      have hat : (st ++ [Ob.lst false ((ns.map (gI L)).map stP)])[st.length]? = some (.lst false ((ns.map (gI L)).map stP)) := by simp
      simp [d_is_kept_set_4, wipeE, -List.map_map]
      rw [gx_pure (fun q => decide ((cov (ns.map (gI L)) (unStart q) : Int) ≤ k)) (by exact .inl hat) _ fun q hq => by
        obtain ⟨a, ha, rfl⟩ := List.mem_map.mp hq
        refine ⟨_, rfl, rfl, ?_⟩
        have e1 := present_okL (m := a.1) hat hl2
        have e2 : unStart (stP a) = a.1 := rfl
        refine Ok.eq ?_
        simp [stP, -List.map_map] at e1 ⊢
        rw [e1]
        simp [intsP, presI_len, unStart]
        exact decide_eq_decide.mpr Iff.rfl]
      rw [if_neg (by simp), ok_ok]
      have z := K [.lst false ((ns.map (gI L)).map stP)]
      have ez : covB L k ns = ((ns.map (gI L)).map stP).all (fun q => decide ((cov (ns.map (gI L)) (unStart q) : Int) ≤ k)) := by
        rw [List.all_map, List.all_map]
        rfl
      rw [ez] at z
      exact z
end
theorem ok_is_kept_set {P : Program} {w : World} {W : Wd} {base : Heap} (V : Ev W base) : DFn P w W base 9 (He.fAd W.K ("is_kept_set", none)) 3 S_is_kept_set := raw_is_kept_set V (ok_are_numbers_of V) (ok_is_ascending V) (ok_present V)
abbrev N_is_moment : List Str := ["value"]
noncomputable def d_is_moment_1 : PD.Env → Mo Fl := (dRet (fun ρ => bnd ((dCons (dVar 0) (dCons (dC (.int 0)) (dCons (dC (.int 1000000)) (fun _ st => .ok [] st)))) ρ) (callM 3 S_is_number)))
noncomputable def d_is_moment : PD.Env → Mo Fl := d_is_moment_1
theorem sc_is_moment : FnScope N_is_moment ["value"] (defScope (top 3)) := C8.fnScope_by (by decide +kernel)
theorem body_is_moment {P : Program} {w : World} {W : Wd} {base : Heap} (V : Ev W base) (h_is_number : DFn P w W base 3 (He.fAd W.K ("is_number", none)) 3 S_is_number) : Body P w W base N_is_moment "is_moment" (defScope (top 3)) (He.fAd W.K ("is_moment", none)) 3 (defBody (top 3)) d_is_moment := fun cdv A outer s H E =>
  (dss_one (ds_ret (de_call (h_is_number.mono (by decide)) V.g_is_number (da_cons (de_var (i := 0)) (da_cons de_int (da_cons (de_gint rfl V.i_LAST_MOMENT) da_nil))))))
theorem raw_is_moment {P : Program} {w : World} {W : Wd} {base : Heap} (V : Ev W base) (h_is_number : DFn P w W base 3 (He.fAd W.K ("is_number", none)) 3 S_is_number) : DFn P w W base 4 (He.fAd W.K ("is_moment", none)) 1 (bodyF 1 d_is_moment) := by
  obtain ⟨fd, F⟩ := V.D_is_moment
  exact DFn.of V.cx F sc_is_moment (F.bindsN fun _ _ _ _ _ _ us hl => match us, hl with | [_], _ => rfl) (body_is_moment V h_is_number)
noncomputable def S_is_moment : List PV → Mo PV := pureS dom_is_moment val_is_moment
theorem nox_is_moment : NoX S_is_moment := nox_pure
theorem ref_is_moment : Ref 1 (bodyF 1 d_is_moment) S_is_moment := ref_same (fun ps st h => by
  obtain ⟨v, rfl, hv⟩ := h
  simp [d_is_moment, d_is_moment_1, start0, hv, val_is_moment]) (fun ps m h => by
  obtain ⟨v, rfl, hv⟩ := h
  rfl)
@[simp] theorem is_moment_ok {v : PV} {st : Sto} (hv : plainV v) : S_is_moment [v] st = .ok (.bl (isNum v 0 1000000)) st := pureS_ok ⟨v, rfl, hv⟩


theorem ok_is_moment {P : Program} {w : World} {W : Wd} {base : Heap} (V : Ev W base) : DFn P w W base 4 (He.fAd W.K ("is_moment", none)) 1 S_is_moment := (raw_is_moment V (ok_is_number V)).ref ref_is_moment nox_is_moment
abbrev N_are_rents : List Str := ["value", "pair"]
noncomputable def d_are_rents_1 : PD.Env → Mo Fl := (dRet (dC (.bl false)))
noncomputable def d_are_rents_2 : PD.Env → Mo Fl := (dIfS (dNotT (fun ρ => bnd ((dIsi .tup (dVar 0)) ρ) truM)) d_are_rents_1 dNil)
noncomputable def d_are_rents_3 : PD.Env → Mo Fl := (dRet (dC (.bl false)))
noncomputable def d_are_rents_4 : PD.Env → Mo Fl := (dIfS (dOrT (dNotT (fun ρ => bnd ((dIsi .tup (dVar 1)) ρ) truM)) (dOrT (dB (dBin (oEq true) (fun ρ => bnd ((dVar 1) ρ) lenM) (dC (.int 2)))) (dNotT (fun ρ => bnd ((fun ρ => bnd ((dCons (dBin oIx (dVar 1) (dC (.int 0))) (fun _ st => .ok [] st)) ρ) (callM 1 S_is_moment)) ρ) truM)))) d_are_rents_3 dNil)
noncomputable def d_are_rents_5 : PD.Env → Mo Fl := (dRet (dC (.bl false)))
noncomputable def d_are_rents_6 : PD.Env → Mo Fl := (dIfS (dOrT (dNotT (fun ρ => bnd ((dIsi .int (dBin oIx (dVar 1) (dC (.int 1)))) ρ) truM)) (dOrT (fun ρ => bnd ((dIsi .bl (dBin oIx (dVar 1) (dC (.int 1)))) ρ) truM) (dB (dBin oLt (dBin oIx (dVar 1) (dC (.int 1))) (dC (.int 1)))))) d_are_rents_5 dNil)
noncomputable def d_are_rents_7 : PD.Env → Mo Fl := (dFor (fun ρ => bnd ((dVar 0) ρ) srcM) (gNm 1) (dSeq d_are_rents_4
    d_are_rents_6))
noncomputable def d_are_rents_8 : PD.Env → Mo Fl := (dRet (fun ρ => bnd ((dCons (fun ρ => bnd ((dLc (fun ρ => bnd ((dVar 0) ρ) srcM) (.nm 1) dYes (dBin oIx (dVar 1) (dC (.int 0))) [1]) ρ) layL) (fun _ st => .ok [] st)) ρ) (callM 1 S_is_ascending)))
noncomputable def d_are_rents : PD.Env → Mo Fl := (dSeq d_are_rents_2
    (dSeq d_are_rents_7
    d_are_rents_8))
theorem sc_are_rents : FnScope N_are_rents ["value"] (defScope (top 11)) := C8.fnScope_by (by decide +kernel)
theorem body_are_rents {P : Program} {w : World} {W : Wd} {base : Heap} (V : Ev W base) (h_is_moment : DFn P w W base 4 (He.fAd W.K ("is_moment", none)) 1 S_is_moment) (h_is_ascending : DFn P w W base 5 (He.fAd W.K ("is_ascending", none)) 1 S_is_ascending) : Body P w W base N_are_rents "are_rents" (defScope (top 11)) (He.fAd W.K ("are_rents", none)) 5 (defBody (top 11)) d_are_rents := fun cdv A outer s H E =>
  (dss_cons (ds_if (dt_not (dt_e (de_isi .tup (de_var (i := 0)) rfl V.b_isinstance rfl V.b_tuple boot_tuple_))) (dss_one (ds_ret de_bl)) dss_nil)
    (dss_cons (ds_for (di_e (de_var (i := 0))) (dg_name (i := 1)) (dss_cons (ds_if (dt_w (dw_or (dt_not (dt_e (de_isi .tup (de_var (i := 1)) rfl V.b_isinstance rfl V.b_tuple boot_tuple_))) (dw_or (dt_ne (de_lenV (de_var (i := 1)) rfl V.b_len) de_int) (dw_or1 (dt_not (dt_e (de_call (h_is_moment.mono (by decide)) V.g_is_moment (da_cons (de_ix (de_var (i := 1)) de_int) da_nil)))))))) (dss_one (ds_ret de_bl)) dss_nil)
    (dss_one (ds_if (dt_w (dw_or (dt_not (dt_e (de_isi .int (de_ix (de_var (i := 1)) de_int) rfl V.b_isinstance rfl V.b_int boot_int_))) (dw_or (dt_e (de_isi .bl (de_ix (de_var (i := 1)) de_int) rfl V.b_isinstance rfl V.b_bool boot_bool_)) (dw_or1 (dt_lt (de_ix (de_var (i := 1)) de_int) de_int))))) (dss_one (ds_ret de_bl)) dss_nil))))
    (dss_one (ds_ret (de_call (h_is_ascending.mono (by decide)) V.g_is_ascending (da_cons (de_l (dl_lc (own := [("pair", 1)]) (di_e (de_var (i := 0))) (blkOk_by (N := N_are_rents) (sc := defScope (top 11)) (by decide +kernel)) (fun _ _ _ _ _ => (dp_name (i := 1))) (fun _ _ _ _ _ => dts_nil) (fun _ _ _ _ _ => (de_ix (de_var (i := 1)) de_int)))) da_nil))))))
theorem raw_are_rents {P : Program} {w : World} {W : Wd} {base : Heap} (V : Ev W base) (h_is_moment : DFn P w W base 4 (He.fAd W.K ("is_moment", none)) 1 S_is_moment) (h_is_ascending : DFn P w W base 5 (He.fAd W.K ("is_ascending", none)) 1 S_is_ascending) : DFn P w W base 6 (He.fAd W.K ("are_rents", none)) 1 (bodyF 2 d_are_rents) := by
  obtain ⟨fd, F⟩ := V.D_are_rents
  exact DFn.of V.cx F sc_are_rents (F.bindsN fun _ _ _ _ _ _ us hl => match us, hl with | [_], _ => rfl) (body_are_rents V h_is_moment h_is_ascending)
noncomputable def S_are_rents : List PV → Mo PV := bodyF 2 d_are_rents
theorem ref_are_rents : Ref 1 (bodyF 2 d_are_rents) S_are_rents := ref_self
/-- a rent: a moment, and how much -/
def okRent (q : PV) : Bool := match q with
  | .tup [.int a, .int b] => decide (0 ≤ a) && decide (a ≤ 1000000) && decide (1 ≤ b)
  | _ => false
def rentsB (v : PV) : Bool := match v with
  | .tup l => l.all okRent && ascB (l.map fun q => (unSt q).1)
  | _ => false
/-- plain, its parts, and theirs -/
def okR (v : PV) : Prop := okV v ∧ ∀ l, v = .tup l → ∀ p ∈ l, okV p
theorem len_two {α : Type} : ∀ {l : List α}, l.length = 2 → ∃ a b, l = [a, b]
  | [a, b], _ => ⟨a, b, rfl⟩
theorem any_not {α : Type} {f : α → Bool} : ∀ {l : List α}, (l.any fun q => !f q) = !l.all f
  | [] => rfl
  | a :: l => by
    rw [List.any_cons, List.all_cons, any_not, Bool.not_and]
theorem okRent_st {q : PV} (h : okRent q = true) : ∃ a : Int × Int, q = stP a ∧ 0 ≤ a.1 ∧ a.1 ≤ 1000000 ∧ 1 ≤ a.2 := by
  unfold okRent at h
  split at h
  · rename_i a b
    simp only [Bool.and_eq_true, decide_eq_true_eq] at h
    exact ⟨(a, b), rfl, h.1.1, h.1.2, h.2⟩
  · cases h
theorem okRents_st : ∀ {l : List PV}, l.all okRent = true → ∃ rs : List (Int × Int), l = rs.map stP ∧ ∀ a ∈ rs, 0 ≤ a.1 ∧ a.1 ≤ 1000000 ∧ 1 ≤ a.2
  | [], _ => ⟨[], rfl, fun _ h => nomatch h⟩
  | q :: l, h => by
    rw [List.all_cons, Bool.and_eq_true] at h
    obtain ⟨a, rfl, ha⟩ := okRent_st h.1
    obtain ⟨rs, rfl, hr⟩ := okRents_st h.2
    refine ⟨a :: rs, rfl, fun b hb => ?_⟩
    rcases List.mem_cons.mp hb with rfl | hb
    · exact ha
    · exact hr b hb
structure RentsOk (rs : List (Int × Int)) : Prop where
  bd : ∀ a ∈ rs, 0 ≤ a.1 ∧ a.1 ≤ 1000000 ∧ 1 ≤ a.2
  asc : (rs.map (·.1)).Pairwise (· < ·)
theorem un_fst {rs : List (Int × Int)} : (rs.map stP).map (fun q => (unSt q).1) = rs.map (·.1) := by
  rw [List.map_map]
  rfl
theorem rentsB_iff {rs : List (Int × Int)} : rentsB (staysP rs) = true ↔ RentsOk rs := by
  unfold rentsB staysP
  dsimp only
  rw [un_fst, Bool.and_eq_true, ascB_iff, List.all_map, List.all_eq_true]
  constructor
  · rintro ⟨h1, h2⟩
    refine ⟨fun a ha => ?_, h2⟩
    have := h1 a ha
    simp [okRent, stP] at this
    omega
  · rintro ⟨h1, h2⟩
    refine ⟨fun a ha => ?_, h2⟩
    have := h1 a ha
    simp [okRent, stP]
    omega
theorem rentsB_tup {v : PV} (h : rentsB v = true) : ∃ rs : List (Int × Int), v = staysP rs ∧ RentsOk rs := by
  have h1 := h
  unfold rentsB at h
  split at h
  · rename_i l
    rw [Bool.and_eq_true] at h
    obtain ⟨rs, rfl, _⟩ := okRents_st h.1
    exact ⟨rs, rfl, rentsB_iff.mp h1⟩
  · cases h
section
variable {v : PV} {st : Sto} {Q : PV → Sto → Prop} {x0 x1 x2 x3 x4 x5 : Option PV}
theorem is_rent_part {p : PV} {lo : Int} (h : plainV p) : isNum p 0 1000000 = match p with | .int i => decide (0 ≤ i) && decide (i ≤ 1000000) | _ => false := by
  cases p <;> rfl
theorem are_rents_pair {q : PV} (h : okV q) : Ok (dSeq d_are_rents_4 d_are_rents_6 [some (v), some (q)] st) (fun fl s => s = st ∧ if okRent q = false then fl = .rt (.bl false) else fl = .nx [some (v), some (q)]) := by
  obtain ⟨⟨hv, hp⟩, hl⟩ := h
  rw [ok_seq]
  cases q with
  | loc _ => exact hv.elim
  | fn _ => exact hv.elim
  | kl _ => exact hv.elim
  | tup l =>
    have hp := hp l rfl
    have hl := hl l rfl
    have e0 : ((2 : Int) = ((2 : Nat) : Int)) := rfl
    by_cases h2 : l.length = 2
    · obtain ⟨a, b, rfl⟩ := len_two h2
      have ha := hp a (by simp)
      have hb := hp b (by simp)
      have e1 := is_moment_ok (v := a) (st := st) ha
      simp [d_are_rents_4, isK, okd_int, d_are_rents_3, e1]
      cases a with
      | loc _ => exact ha.elim
      | fn _ => exact ha.elim
      | kl _ => exact ha.elim
      | int i =>
        by_cases hi : 0 ≤ i ∧ i ≤ 1000000
        · cases b with
          | loc _ => exact hb.elim
          | fn _ => exact hb.elim
          | kl _ => exact hb.elim
          | int j =>
            by_cases hj : j < 1
            · have : ¬ 1 ≤ j := by omega
              simp [isNum, hi, d_are_rents_6, isK, d_are_rents_5, hj, okRent, this]
            · have : 1 ≤ j := by omega
              simp [isNum, hi, d_are_rents_6, isK, d_are_rents_5, hj, okRent, this]
          | _ => simp [isNum, hi, d_are_rents_6, isK, d_are_rents_5, okRent]
        · have hi2 : 0 ≤ i → ¬ i ≤ 1000000 := fun z w => hi ⟨z, w⟩
          have : (decide (0 ≤ i) && decide (i ≤ 1000000)) = false := by simpa using hi2
          cases b <;> simp [isNum, this, okRent]
      | _ => cases b <;> simp [isNum, okRent]
    · have h3 : okRent (.tup l) = false := by
        unfold okRent
        split
        · rename_i e
          cases e
          exact absurd rfl h2
        · rfl
      have h4 : ¬ ((l.length : Int) = 2) := by omega
      have h5 : ((l.length : Int) == 2) = false := by simpa using h4
      simp [d_are_rents_4, isK, okd_int, d_are_rents_3, h3, h5, h4]
  | _ => simp [d_are_rents_4, isK, d_are_rents_3, okRent]
theorem are_rents_ok (hv : okR v) (K : ∀ ex, Q (.bl (rentsB v)) (st ++ ex)) : Ok (S_are_rents [v] st) Q := by
  have K0 := K []
  rw [List.append_nil] at K0
  obtain ⟨⟨⟨hv, _⟩, hl⟩, hp⟩ := hv
  unfold S_are_rents
  rw [e_body, ok_bnd]
  simp only [d_are_rents, ok_seq]
  cases v with
  | loc _ => exact hv.elim
  | fn _ => exact hv.elim
  | kl _ => exact hv.elim
  | tup l =>
    have hl := hl l rfl
    have hp := hp l rfl
    simp [d_are_rents_2, start0, isK, d_are_rents_7, -ok_seq, -e_for]
    simp only [e_for, ok_bnd, ok_seq]
    simp [-ok_seq]
    refine (for_find (fun ρ => ∃ x1, ρ = [some (.tup l), x1]) (fun q => !okRent q) (.bl false) True.intro l _ (fun q hq ρ hI => ?_) ⟨_, rfl⟩).imp fun fl s hh => ?_
    · obtain ⟨x1, rfl⟩ := hI
      rw [e_gNm, ok_ok]
      refine (are_rents_pair (hp q hq)).imp fun fl s hh => ?_
      obtain ⟨rfl, hh⟩ := hh
      refine ⟨rfl, ?_⟩
      cases h : okRent q with
      | false => rw [h, if_pos rfl] at hh; simpa using hh
      | true => rw [h, if_neg (by simp)] at hh; rw [if_neg (by simp)]; exact ⟨_, ⟨_, rfl⟩, .inl hh⟩
    · obtain ⟨rfl, hh⟩ := hh
      cases h : l.all okRent with
      | false =>
        have e : rentsB (.tup l) = false := by unfold rentsB; dsimp only; rw [h]; rfl
        have h2 : (l.any fun q => !okRent q) = true := by rw [any_not, h]; rfl
        rw [if_pos h2] at hh
        subst hh
        rw [e] at K0
        simpa using K0
      | true =>
        have h2 : (l.any fun q => !okRent q) = false := by rw [any_not, h]; rfl
        rw [h2, if_neg (by simp)] at hh
        obtain ⟨ρ, ⟨x1, rfl⟩, rfl⟩ := hh
        obtain ⟨rs, rfl, _⟩ := okRents_st h
        rw [List.length_map] at hl
        have e : rentsB (.tup (rs.map stP)) = ascB (rs.map (·.1)) := by unfold rentsB; dsimp only; rw [h, un_fst]; rfl
        rw [e] at K
        simp [d_are_rents_8, wipeE]
        rw [lc_map (fun q => .int (unSt q).1) (by exact True.intro) (rs.map stP) (fun q hq => by
          obtain ⟨a, _, rfl⟩ := List.mem_map.mp hq
          refine ⟨_, rfl, rfl, ?_⟩
          refine Ok.eq ?_
          simp [stP, unSt]) (by rw [List.length_map]; omega), ok_ok]
        have e2 : (rs.map stP).map (fun q => PV.int (unSt q).1) = (rs.map (·.1)).map PV.int := by
          rw [List.map_map, List.map_map]
          rfl
        rw [e2, is_ascending_lst (ns := rs.map (·.1)) (by simp) (by rw [List.length_map]; omega), ok_ok]
        exact K _
  | _ => simpa [d_are_rents_2, start0, isK, d_are_rents_1, rentsB] using K0
end
theorem ok_are_rents {P : Program} {w : World} {W : Wd} {base : Heap} (V : Ev W base) : DFn P w W base 6 (He.fAd W.K ("are_rents", none)) 1 S_are_rents := raw_are_rents V (ok_is_moment V) (ok_is_ascending V)
abbrev N_rent_of : List Str := ["stay", "rents", "moment", "rent"]
noncomputable def d_rent_of_1 : PD.Env → Mo Fl := (dRet (fun ρ => bnd ((dLc (fun ρ => bnd ((dVar 1) ρ) srcM) (.tp [(.nm 2), (.nm 3)]) (fun ρ => bnd ((fun ρ => bnd ((dCons (dVar 0) (dCons (dVar 2) (fun _ st => .ok [] st))) ρ) (callM 2 S_has_moment)) ρ) truM) (dVar 3) [2, 3]) ρ) sumQ))
noncomputable def d_rent_of : PD.Env → Mo Fl := d_rent_of_1
theorem sc_rent_of : FnScope N_rent_of ["stay", "rents"] (defScope (top 12)) := C8.fnScope_by (by decide +kernel)
theorem body_rent_of {P : Program} {w : World} {W : Wd} {base : Heap} (V : Ev W base) (h_has_moment : DFn P w W base 3 (He.fAd W.K ("has_moment", none)) 2 S_has_moment) : Body P w W base N_rent_of "rent_of" (defScope (top 12)) (He.fAd W.K ("rent_of", none)) 3 (defBody (top 12)) d_rent_of := fun cdv A outer s H E =>
  (dss_one (ds_ret (de_sum (dl_lc (own := [("moment", 2), ("rent", 3)]) (di_e (de_var (i := 1))) (blkOk_by (N := N_rent_of) (sc := defScope (top 12)) (by decide +kernel)) (fun _ _ _ _ _ => (dp_tup (dps_cons (dp_name (i := 2)) (dps_cons (dp_name (i := 3)) dps_nil)))) (fun _ _ _ _ _ => (dts_one (dt_e (de_call (h_has_moment.mono (by decide)) V.g_has_moment (da_cons (de_var (i := 0)) (da_cons (de_var (i := 2)) da_nil)))))) (fun _ _ _ _ _ => (de_var (i := 3)))) rfl V.b_sum)))
theorem raw_rent_of {P : Program} {w : World} {W : Wd} {base : Heap} (V : Ev W base) (h_has_moment : DFn P w W base 3 (He.fAd W.K ("has_moment", none)) 2 S_has_moment) : DFn P w W base 4 (He.fAd W.K ("rent_of", none)) 2 (bodyF 4 d_rent_of) := by
  obtain ⟨fd, F⟩ := V.D_rent_of
  exact DFn.of V.cx F sc_rent_of (F.bindsN fun _ _ _ _ _ _ us hl => match us, hl with | [_, _], _ => rfl) (body_rent_of V h_has_moment)
noncomputable def S_rent_of : List PV → Mo PV := bodyF 4 d_rent_of
theorem ref_rent_of : Ref 2 (bodyF 4 d_rent_of) S_rent_of := ref_self
/-- what a stay pays -/
def rentF (rs : List (Int × Int)) (a : Int × Int) : Int := ((rs.filter fun r => hasM a r.1).map (·.2)).sum
section
variable {rs : List (Int × Int)} {a : Int × Int} {st : Sto}
theorem sumQ_ints {l : List Int} : sumQ (l.map PV.int) st = .ok (.int l.sum) st := by
  unfold sumQ bnd
  rw [intsM_ints]
theorem rent_of_ok (h : rs.length ≤ 1000000) : S_rent_of [stP a, staysP rs] st = .ok (.int (rentF rs a)) st := by
  unfold S_rent_of
  refine Ok.eq ?_
  simp [d_rent_of, d_rent_of_1, start0, staysP, wipeE]
  rw [lc_pure (fun q => hasM a (unSt q).1) (fun q => .int (unSt q).2) (by exact True.intro) (rs.map stP) [] (fun q hq => by
    obtain ⟨b, _, rfl⟩ := List.mem_map.mp hq
    refine ⟨_, rfl, ?_, fun _ => ?_⟩
    · refine Ok.eq ?_
      simp
    · refine Ok.eq ?_
      simp) (by rw [List.length_map]; simp; omega), ok_ok, List.nil_append]
  have e : ((rs.map stP).filter fun q => hasM a (unSt q).1).map (fun q => PV.int (unSt q).2) = ((rs.filter fun r => hasM a r.1).map (·.2)).map PV.int := by
    rw [List.filter_map, List.map_map, List.map_map]
    rfl
  rw [e, sumQ_ints]
  simp [rentF]
end
theorem ok_rent_of {P : Program} {w : World} {W : Wd} {base : Heap} (V : Ev W base) : DFn P w W base 4 (He.fAd W.K ("rent_of", none)) 2 S_rent_of := raw_rent_of V (ok_has_moment V)
abbrev N_bound_of : List Str := ["stays", "worths", "k", "rents", "over", "i", "_", "rent"]
noncomputable def d_bound_of_1 : PD.Env → Mo Fl := (dSet 4 (fun ρ => bnd ((dLc (fun ρ => bnd ((dCons (fun ρ => bnd ((dVar 0) ρ) lenM) (fun _ st => .ok [] st)) ρ) rg1M) (.nm 5) dYes (dBin oMax (dC (.int 0)) (dBin oSub (dBin oIx (dVar 1) (dVar 5)) (fun ρ => bnd ((dCons (dBin oIx (dVar 0) (dVar 5)) (dCons (dVar 3) (fun _ st => .ok [] st))) ρ) (callM 2 S_rent_of)))) [5]) ρ) sumQ))
noncomputable def d_bound_of_2 : PD.Env → Mo Fl := (dRet (dBin oAdd (dBin oMul (dVar 2) (fun ρ => bnd ((dLc (fun ρ => bnd ((dVar 3) ρ) srcM) (.tp [(.nm 6), (.nm 7)]) dYes (dVar 7) [6, 7]) ρ) sumQ)) (dVar 4)))
noncomputable def d_bound_of : PD.Env → Mo Fl := (dSeq d_bound_of_1
    d_bound_of_2)
theorem sc_bound_of : FnScope N_bound_of ["stays", "worths", "k", "rents"] (defScope (top 13)) := C8.fnScope_by (by decide +kernel)
theorem body_bound_of {P : Program} {w : World} {W : Wd} {base : Heap} (V : Ev W base) (h_rent_of : DFn P w W base 4 (He.fAd W.K ("rent_of", none)) 2 S_rent_of) : Body P w W base N_bound_of "bound_of" (defScope (top 13)) (He.fAd W.K ("bound_of", none)) 4 (defBody (top 13)) d_bound_of := fun cdv A outer s H E =>
  (dss_cons (ds_set (i := 4) (de_sum (dl_lc (own := [("i", 5)]) (di_range1 (da_cons (de_lenV (de_var (i := 0)) rfl V.b_len) da_nil) rfl V.b_range) (blkOk_by (N := N_bound_of) (sc := defScope (top 13)) (by decide +kernel)) (fun _ _ _ _ _ => (dp_name (i := 5))) (fun _ _ _ _ _ => dts_nil) (fun _ _ _ _ _ => (de_max2 de_int (de_sub (de_ix (de_var (i := 1)) (de_var (i := 5))) (de_call (h_rent_of.mono (by decide)) V.g_rent_of (da_cons (de_ix (de_var (i := 0)) (de_var (i := 5))) (da_cons (de_var (i := 3)) da_nil)))) rfl V.b_max))) rfl V.b_sum))
    (dss_one (ds_ret (de_add (de_mul (de_var (i := 2)) (de_sum (dl_lc (own := [("_", 6), ("rent", 7)]) (di_e (de_var (i := 3))) (blkOk_by (N := N_bound_of) (sc := defScope (top 13)) (by decide +kernel)) (fun _ _ _ _ _ => (dp_tup (dps_cons (dp_name (i := 6)) (dps_cons (dp_name (i := 7)) dps_nil)))) (fun _ _ _ _ _ => dts_nil) (fun _ _ _ _ _ => (de_var (i := 7)))) rfl V.b_sum)) (de_var (i := 4))))))
theorem raw_bound_of {P : Program} {w : World} {W : Wd} {base : Heap} (V : Ev W base) (h_rent_of : DFn P w W base 4 (He.fAd W.K ("rent_of", none)) 2 S_rent_of) : DFn P w W base 5 (He.fAd W.K ("bound_of", none)) 4 (bodyF 8 d_bound_of) := by
  obtain ⟨fd, F⟩ := V.D_bound_of
  exact DFn.of V.cx F sc_bound_of (F.bindsN fun _ _ _ _ _ _ us hl => match us, hl with | [_, _, _, _], _ => rfl) (body_bound_of V h_rent_of)
noncomputable def S_bound_of : List PV → Mo PV := bodyF 8 d_bound_of
theorem ref_bound_of : Ref 4 (bodyF 8 d_bound_of) S_bound_of := ref_self
def overF (L : List (Int × Int)) (ws : List Int) (rs : List (Int × Int)) (i : Nat) : Int := max 0 (ws[i]?.getD 0 - rentF rs (gS L i))
def boundI (L : List (Int × Int)) (ws : List Int) (k : Int) (rs : List (Int × Int)) : Int := k * (rs.map (·.2)).sum + ((List.range L.length).map (overF L ws rs)).sum
section
variable {L rs : List (Int × Int)} {ws : List Int} {k : Int} {st : Sto} {x4 x5 x6 x7 : Option PV}
theorem all_rents {ds : PD.Env} {chk : Sto → Prop} (hc : chk st) (h : rs.length ≤ 1000000) (e : ∀ r : Int × Int, ∃ ρ1, Pt.go (.tp [.nm 6, .nm 7]) (stP r) ds = some ρ1 ∧ dVar 7 ρ1 st = .ok (.int r.2) st) : lcF (.tp [.nm 6, .nm 7]) dYes (dVar 7) chk ds (rs.map stP) [] st = .ok ((rs.map (·.2)).map PV.int) st := by
  rw [lc_map (fun q => .int (unSt q).2) hc (rs.map stP) (fun q hq => by
    obtain ⟨b, _, rfl⟩ := List.mem_map.mp hq
    obtain ⟨ρ1, e1, e2⟩ := e b
    exact ⟨ρ1, e1, rfl, e2⟩) (by rw [List.length_map]; omega), List.map_map, List.map_map]
  rfl
theorem bound_of_ok (h : rs.length ≤ 1000000) (hL : L.length ≤ 1000000) (hw : ws.length = L.length) (hk : k.natAbs < 18446744073709551616) : S_bound_of [staysP L, .tup (ws.map PV.int), .int k, staysP rs] st = .ok (.int (boundI L ws k rs)) st := by
  unfold S_bound_of
  refine Ok.eq ?_
  simp [d_bound_of, d_bound_of_1, start0, staysP, wipeE]
  refine ⟨⟨by omega, by omega⟩, ?_⟩
  rw [lc_map (fun q => .int (overF L ws rs (natOf q))) (by exact True.intro) (rgP 0 L.length) (fun q hq => by
    obtain ⟨i, hi, rfl⟩ := mem_rgP hq
    refine ⟨_, rfl, rfl, ?_⟩
    have e1 := int_at (l := ws) (i := i) (by omega)
    have e2 := rent_of_ok (rs := rs) (a := gS L i) (st := st) h
    refine Ok.eq ?_
    simp [e1, stay_at hi]
    unfold staysP at e2
    rw [e2]
    simp [overF, oMax]
    split <;> omega) (by unfold rgP; simp; omega), ok_ok]
  have e3 : (rgP 0 L.length).map (fun q => PV.int (overF L ws rs (natOf q))) = ((List.range L.length).map (overF L ws rs)).map PV.int := by
    rw [rgP_eq, List.map_map, List.map_map]
    rfl
  rw [e3, sumQ_ints, ok_ok]
  simp [d_bound_of_2, wipeE]
  rw [all_rents (by exact True.intro) h fun r => ⟨_, rfl, rfl⟩, ok_ok, sumQ_ints]
  simp [boundI, CM]
  exact .inl hk
end
theorem ok_bound_of {P : Program} {w : World} {W : Wd} {base : Heap} (V : Ev W base) : DFn P w W base 5 (He.fAd W.K ("bound_of", none)) 4 S_bound_of := raw_bound_of V (ok_rent_of V)
abbrev N_road : List Str := ["moments", "stays", "worths", "k", "arcs", "i", "stay", "start", "end"]
noncomputable def d_road_1 : PD.Env → Mo Fl := (dSet 4 (fun ρ => bnd ((fun ρ => bnd ((fun _ st => .ok [] st) ρ) capM) ρ) layL))
noncomputable def d_road_2 : PD.Env → Mo Fl := (dDrop (fun ρ => bnd ((dVar 4) ρ) fun q => bnd (lstM q) fun _ => bnd (dCons (fun ρ => bnd ((fun ρ => bnd ((dCons (fun ρ => bnd ((fun ρ => bnd ((dCons (dVar 5) (dCons (dBin oAdd (dVar 5) (dC (.int 1))) (dCons (dBin oAdd (dVar 3) (dC (.int 1))) (dCons (dC (.int 0)) (fun _ st => .ok [] st))))) ρ) capM) ρ) layL) (dCons (fun ρ => bnd ((fun ρ => bnd ((dCons (dBin oAdd (dVar 5) (dC (.int 1))) (dCons (dVar 5) (dCons (dC (.int 0)) (dCons (dC (.int 0)) (fun _ st => .ok [] st))))) ρ) capM) ρ) layL) (fun _ st => .ok [] st))) ρ) capM) ρ) layL) (fun _ st => .ok [] st) ρ) fun l => extM q l))
noncomputable def d_road_3 : PD.Env → Mo Fl := (dFor (fun ρ => bnd ((dCons (dBin oSub (fun ρ => bnd ((dVar 0) ρ) lenM) (dC (.int 1))) (fun _ st => .ok [] st)) ρ) rg1M) (gNm 5) d_road_2)
noncomputable def d_road_4 : PD.Env → Mo Fl := (dPar 7 8 (dCons (fun ρ => bnd ((dVar 0) ρ) fun q => bnd (lstM q) fun _ => bnd (dCons (dBin oIx (dVar 6) (dC (.int 0))) (fun _ st => .ok [] st) ρ) fun l => idxM q l) (dCons (fun ρ => bnd ((dVar 0) ρ) fun q => bnd (lstM q) fun _ => bnd (dCons (dBin oIx (dVar 6) (dC (.int 1))) (fun _ st => .ok [] st) ρ) fun l => idxM q l) (fun _ st => .ok [] st))))
noncomputable def d_road_5 : PD.Env → Mo Fl := (dDrop (fun ρ => bnd ((dVar 4) ρ) fun q => bnd (lstM q) fun _ => bnd (dCons (fun ρ => bnd ((fun ρ => bnd ((dCons (fun ρ => bnd ((fun ρ => bnd ((dCons (dVar 7) (dCons (dVar 8) (dCons (dC (.int 1)) (dCons (dUn oNeg (dBin oIx (dVar 2) (dVar 5))) (fun _ st => .ok [] st))))) ρ) capM) ρ) layL) (dCons (fun ρ => bnd ((fun ρ => bnd ((dCons (dVar 8) (dCons (dVar 7) (dCons (dC (.int 0)) (dCons (dBin oIx (dVar 2) (dVar 5)) (fun _ st => .ok [] st))))) ρ) capM) ρ) layL) (fun _ st => .ok [] st))) ρ) capM) ρ) layL) (fun _ st => .ok [] st) ρ) fun l => extM q l))
noncomputable def d_road_6 : PD.Env → Mo Fl := (dFor (fun ρ => bnd ((dCons (dVar 1) (fun _ st => .ok [] st)) ρ) enuM) (gTp 2 (gCs (gNm 5) (gCs (gNm 6) gNl))) (dSeq d_road_4
    d_road_5))
noncomputable def d_road_7 : PD.Env → Mo Fl := (dRet (dVar 4))
noncomputable def d_road : PD.Env → Mo Fl := (dSeq d_road_1
    (dSeq d_road_3
    (dSeq d_road_6
    d_road_7)))
theorem sc_road : FnScope N_road ["moments", "stays", "worths", "k"] (defScope (top 14)) := C8.fnScope_by (by decide +kernel)
theorem body_road {P : Program} {w : World} {W : Wd} {base : Heap} (V : Ev W base)  : Body P w W base N_road "road" (defScope (top 14)) (He.fAd W.K ("road", none)) 2 (defBody (top 14)) d_road := fun cdv A outer s H E =>
  (dss_cons (ds_set (i := 4) (de_l (dl_lst da_nil)))
    (dss_cons (ds_for (di_range1 (da_cons (de_sub (de_lenV (de_var (i := 0)) rfl V.b_len) de_int) da_nil) rfl V.b_range) (dg_name (i := 5)) (dss_one (ds_expr (de_extend (de_var (i := 4)) (de_l (dl_lst (da_cons (de_l (dl_lst (da_cons (de_var (i := 5)) (da_cons (de_add (de_var (i := 5)) de_int) (da_cons (de_add (de_var (i := 3)) de_int) (da_cons de_int da_nil)))))) (da_cons (de_l (dl_lst (da_cons (de_add (de_var (i := 5)) de_int) (da_cons (de_var (i := 5)) (da_cons de_int (da_cons de_int da_nil)))))) da_nil))))))))
    (dss_cons (ds_for (di_enum (da_cons (de_var (i := 1)) da_nil) rfl V.b_enumerate) (dg_tup (dgs_cons (dg_name (i := 5)) (dgs_cons (dg_name (i := 6)) dgs_nil))) (dss_cons (ds_par2 (i := 7) (j := 8) (by decide) (da_cons (de_index (de_var (i := 0)) (de_ix (de_var (i := 6)) de_int)) (da_cons (de_index (de_var (i := 0)) (de_ix (de_var (i := 6)) de_int)) da_nil)))
    (dss_one (ds_expr (de_extend (de_var (i := 4)) (de_l (dl_lst (da_cons (de_l (dl_lst (da_cons (de_var (i := 7)) (da_cons (de_var (i := 8)) (da_cons de_int (da_cons (de_neg (de_ix (de_var (i := 2)) (de_var (i := 5)))) da_nil)))))) (da_cons (de_l (dl_lst (da_cons (de_var (i := 8)) (da_cons (de_var (i := 7)) (da_cons de_int (da_cons (de_ix (de_var (i := 2)) (de_var (i := 5))) da_nil)))))) da_nil)))))))))
    (dss_one (ds_ret (de_var (i := 4)))))))
theorem raw_road {P : Program} {w : World} {W : Wd} {base : Heap} (V : Ev W base)  : DFn P w W base 3 (He.fAd W.K ("road", none)) 4 (bodyF 9 d_road) := by
  obtain ⟨fd, F⟩ := V.D_road
  exact DFn.of V.cx F sc_road (F.bindsN fun _ _ _ _ _ _ us hl => match us, hl with | [_, _, _, _], _ => rfl) (body_road V )
noncomputable def S_road : List PV → Mo PV := bodyF 9 d_road
theorem ref_road : Ref 4 (bodyF 9 d_road) S_road := ref_self
def arcP (a : Arc) : List PV := [.int a.s, .int a.e, .int a.r, .int a.c]
structure ArcsAt (p : Nat) (ls : List Nat) (as : List Arc) (st : Sto) : Prop where
  at_ : st[p]? = some (.lst false (ls.map PV.loc))
  len : ls.length = as.length
  nd : ls.Nodup
  np : p ∉ ls
  arc : ∀ (i n : Nat) (a : Arc), as[i]? = some a → ls[i]? = some n → st[n]? = some (.lst false (arcP a))
theorem get_lt {α : Type} {st : List α} {i : Nat} {o : α} (h : st[i]? = some o) : i < st.length := (List.getElem?_eq_some_iff.mp h).1
theorem ArcsAt.lt {p : Nat} {ls : List Nat} {as : List Arc} {st : Sto} (h : ArcsAt p ls as st) : ∀ n ∈ ls, n < st.length := fun n hn => by
  obtain ⟨i, hi⟩ := List.mem_iff_getElem?.mp hn
  have := get_lt hi
  exact get_lt (h.arc i n _ (List.getElem?_eq_getElem (by rw [← h.len]; exact this)) hi)
theorem ArcsAt.two {p : Nat} {ls : List Nat} {as : List Arc} {st : Sto} {a b : Arc} {o : Ob} (h : ArcsAt p ls as st) :
    ArcsAt p (ls ++ [st.length, st.length + 1]) (as ++ [a, b]) ((st ++ [Ob.lst false (arcP a), Ob.lst false (arcP b), o]).set p (Ob.lst false (ls.map PV.loc ++ [PV.loc st.length, PV.loc (st.length + 1)]))) := by
  have hp := get_lt h.at_
  have hl := h.lt
  refine ⟨by rw [List.getElem?_set_self (by simp; omega)]; simp, by simp [h.len], ?_, ?_, fun i n x hx hn => ?_⟩
  · rw [List.nodup_append]
    refine ⟨h.nd, by simp, fun x hx y hy => ?_⟩
    have := hl x hx
    simp at hy
    omega
  · rw [List.mem_append]
    intro z
    rcases z with z | z
    · exact h.np z
    · simp at z
      omega
  · have hne : p ≠ n := fun z => by
      subst z
      have := List.mem_of_getElem? hn
      rw [List.mem_append] at this
      rcases this with z | z
      · exact h.np z
      · simp at z
        omega
    rw [List.getElem?_set_ne hne]
    by_cases hi : i < as.length
    · rw [List.getElem?_append_left hi] at hx
      rw [List.getElem?_append_left (by rw [h.len]; exact hi)] at hn
      have h3 := h.arc i n x hx hn
      have hn2 := get_lt h3
      rw [List.getElem?_append_left hn2]
      exact h3
    · rw [List.getElem?_append_right (by omega)] at hx
      rw [List.getElem?_append_right (by rw [h.len]; omega), h.len] at hn
      have : i - as.length = 0 ∨ i - as.length = 1 := by
        have := get_lt hx
        simp at this
        omega
      rcases this with e | e
      · rw [e] at hx hn
        simp at hx hn
        subst hx hn
        rw [List.getElem?_append_right (Nat.le_refl _)]
        simp
      · rw [e] at hx hn
        simp at hx hn
        subst hx hn
        rw [List.getElem?_append_right (by omega)]
        simp
theorem net_snoc : ∀ {B : List Ed} {F : List Int} {b : Ed} {x : Int}, F.length = B.length → netL (B ++ [b]) (F ++ [x]) = netL B F ++ [⟨b.s, b.e, b.cap - x, b.c⟩, ⟨b.e, b.s, x, -b.c⟩]
  | [], [], _, _, _ => rfl
  | [], _ :: _, _, _, h => by simp at h
  | _ :: _, [], _, _, h => by simp at h
  | b' :: B, x' :: F, b, x, h => by
    have := net_snoc (B := B) (F := F) (b := b) (x := x) (by simpa using h)
    show _ :: _ :: netL (B ++ [b]) (F ++ [x]) = _
    rw [this]
    rfl
def zeros (n : Nat) : List Int := List.replicate n 0
theorem zeros_succ (n : Nat) : zeros (n + 1) = zeros n ++ [0] := by
  unfold zeros
  exact List.replicate_succ'
theorem net_zero_snoc {B : List Ed} {b : Ed} : netL (B ++ [b]) (zeros (B ++ [b]).length) = netL B (zeros B.length) ++ [⟨b.s, b.e, b.cap, b.c⟩, ⟨b.e, b.s, 0, -b.c⟩] := by
  rw [List.length_append, List.length_singleton, zeros_succ, net_snoc (by simp [zeros])]
  simp
section
variable {Q : Fl → Sto → Prop} {st0 st : Sto} {p mo : Nat} {ls : List Nat} {L : List (Int × Int)} {ms ws : List Int} {k : Int} {x0 x1 x2 x3 x4 x5 x6 x7 x8 : Option PV}
/-- the net so far, all of it new -/
structure RdI (st0 : Sto) (p : Nat) (ls : List Nat) (B : List Ed) (s : Sto) : Prop where
  kp : Keep st0 s
  new : st0.length ≤ p ∧ ∀ n ∈ ls, st0.length ≤ n
  arcs : ArcsAt p ls (netL B (zeros B.length)) s
theorem RdI.lsl {B : List Ed} (h : RdI st0 p ls B st) : ls.length = 2 * B.length := by
  rw [h.arcs.len, net_len (by simp [zeros])]
theorem RdI.two {B : List Ed} {b : Ed} {o : Ob} (h : RdI st0 p ls B st) :
    RdI st0 p (ls ++ [st.length, st.length + 1]) (B ++ [b]) ((st ++ [Ob.lst false (arcP ⟨b.s, b.e, b.cap, b.c⟩), Ob.lst false (arcP ⟨b.e, b.s, 0, -b.c⟩), o]).set p (Ob.lst false (ls.map PV.loc ++ [PV.loc st.length, PV.loc (st.length + 1)]))) := by
  refine ⟨h.kp.app.set h.new.1, ⟨h.new.1, fun n hn => ?_⟩, ?_⟩
  · rw [List.mem_append] at hn
    rcases hn with hn | hn
    · exact h.new.2 n hn
    · have := h.kp.le
      simp at hn
      omega
  · rw [net_zero_snoc]
    exact h.arcs.two
theorem get_app3 {st : Sto} {i : Nat} {o a b c : Ob} (h : st[i]? = some o) : (st ++ [a, b, c])[i]? = some o := by
  rw [List.getElem?_append_left (get_lt h)]; exact h
theorem get_new3 {st : Sto} {a b c : Ob} : (st ++ [a, b, c])[st.length + 1 + 1]? = some c := by
  rw [List.getElem?_append_right (by omega)]
  have : st.length + 1 + 1 - st.length = 2 := by omega
  rw [this]
  rfl
theorem road_one {B : List Ed} {i : Nat} (h : RdI st0 p ls B st) (hl : B.length ≤ 1000000) (K : ∀ s ls', RdI st0 p ls' (B ++ [⟨i, i + 1, k + 1, 0⟩]) s → Q (.nx [x0, x1, x2, some (.int k), some (.loc p), some (.int (i : Int)), x6, x7, x8]) s) : Ok (d_road_2 [x0, x1, x2, some (.int k), some (.loc p), some (.int (i : Int)), x6, x7, x8] st) Q := by
  have hl2 := h.lsl
  simp [d_road_2, h.arcs.at_]
  rw [get_app3 h.arcs.at_]
  simp only [ok_ok]
  rw [get_new3]
  simp only [ok_ok]
  refine ⟨by simp; omega, ?_⟩
  exact K _ _ (h.two (b := ⟨i, i + 1, k + 1, 0⟩) (o := Ob.lst false [PV.loc st.length, PV.loc (st.length + 1)]))
/-- where a moment stands -/
def posM (ms : List Int) (x : Int) : Nat := ms.idxOf x
def edS (ms : List Int) (a : Int × Int) (w : Int) : Ed := ⟨posM ms a.1, posM ms a.2, 1, -w⟩
theorem idx_mom {x : Int} (hm : st[mo]? = some (.lst false (ms.map PV.int))) (hx : x ∈ ms) : idxM (.loc mo) [.int x] st = .ok (.int (posM ms x : Nat)) st := by
  unfold idxM
  refine Ok.eq ?_
  simp [hm, hx]
  rfl
theorem road_stay {B : List Ed} {i : Nat} {a : Int × Int} {w : Int} (h : RdI st0 p ls B st) (hl : B.length ≤ 1000000) (hm : st[mo]? = some (.lst false (ms.map PV.int))) (h1 : a.1 ∈ ms) (h2 : a.2 ∈ ms) (hw : ws[i]? = some w) (hml : ms.length ≤ 1000000)
    (K : ∀ s ls' x7 x8, RdI st0 p ls' (B ++ [edS ms a w]) s → Q (.nx [some (.loc mo), x1, some (.tup (ws.map PV.int)), some (.int k), some (.loc p), some (.int (i : Int)), some (stP a), x7, x8]) s) : Ok (dSeq d_road_4 d_road_5 [some (.loc mo), x1, some (.tup (ws.map PV.int)), some (.int k), some (.loc p), some (.int (i : Int)), some (stP a), x7, x8] st) Q := by
  have hl2 := h.lsl
  have hw2 : atI (ws.map PV.int) (i : Int) = some (.int w) := PD.atI_nat (by rw [List.getElem?_map, hw]; rfl)
  rw [ok_seq]
  simp [d_road_4, hm, stP, idx_mom hm h1, idx_mom hm h2]
  simp [d_road_5, h.arcs.at_, hw2]
  rw [get_app3 h.arcs.at_]
  simp only [ok_ok]
  rw [get_new3]
  simp only [ok_ok]
  refine ⟨by simp; omega, ?_⟩
  have := K _ _ (some (PV.int (posM ms a.1 : Nat))) (some (PV.int (posM ms a.2 : Nat))) (h.two (b := edS ms a w) (o := Ob.lst false [PV.loc st.length, PV.loc (st.length + 1)]))
  unfold edS arcP at this
  simp at this
  exact this
end
def stE (ms : List Int) (L : List (Int × Int)) (ws : List Int) (n : Nat) : List Ed := (List.range n).map fun t => edS ms (gS L t) (ws[t]?.getD 0)
theorem stE_succ {ms : List Int} {L : List (Int × Int)} {ws : List Int} {n : Nat} : stE ms L ws (n + 1) = stE ms L ws n ++ [edS ms (gS L n) (ws[n]?.getD 0)] := by
  unfold stE
  rw [List.range_succ, List.map_append]
  rfl
theorem chain_succ {M : Nat} {k : Int} : chainE (M + 1) k = chainE M k ++ [⟨M, M + 1, k + 1, 0⟩] := by
  unfold chainE
  rw [List.range_succ, List.map_append]
  rfl
section
variable {Q : PV → Sto → Prop} {st0 st : Sto} {p mo : Nat} {ls : List Nat} {L : List (Int × Int)} {ms ws : List Int} {k : Int} {x0 x1 x2 x3 x4 x5 x6 x7 x8 : Option PV}
def RdA (st0 : Sto) (mo p : Nat) (L : List (Int × Int)) (ws : List Int) (k : Int) (i : Nat) (ρ : PD.Env) (s : Sto) : Prop := ∃ ls x5, ρ = [some (.loc mo), some (staysP L), some (.tup (ws.map PV.int)), some (.int k), some (.loc p), x5, none, none, none] ∧ RdI st0 p ls (chainE i k) s
def RdB (st0 : Sto) (mo p : Nat) (ms : List Int) (L : List (Int × Int)) (ws : List Int) (k : Int) (l : List PV) (ρ : PD.Env) (s : Sto) : Prop := ∃ t ls x5 x6 x7 x8, t ≤ L.length ∧ l = enuP t ((L.drop t).map stP) ∧ ρ = [some (.loc mo), some (staysP L), some (.tup (ws.map PV.int)), some (.int k), some (.loc p), x5, x6, x7, x8] ∧ RdI st0 p ls (chainE (ms.length - 1) k ++ stE ms L ws t) s
theorem road_ok (hm : st[mo]? = some (.lst false (ms.map PV.int))) (hml : ms.length ≤ 100000) (hmn : ms ≠ []) (hL : L.length ≤ 100000) (hmem : ∀ a ∈ L, a.1 ∈ ms ∧ a.2 ∈ ms) (hws : ws.length = L.length)
    (K : ∀ p ls s, RdI st p ls (chainE (ms.length - 1) k ++ stE ms L ws L.length) s → Q (.loc p) s) : Ok (S_road [.loc mo, staysP L, .tup (ws.map PV.int), .int k] st) Q := by
  have hp : 0 < ms.length := List.length_pos_iff.mpr hmn
  unfold S_road
  rw [e_body, ok_bnd]
  simp only [d_road, ok_seq]
  simp [d_road_1, start0, -ok_seq]
  rw [ok_seq]
  simp only [d_road_3, e_for, ok_bnd]
  have hm1 : (st ++ [Ob.lst false []])[mo]? = some (.lst false (ms.map PV.int)) := by rw [List.getElem?_append_left (get_lt hm)]; exact hm
  simp [hm1, -ok_seq]
  refine ⟨⟨by omega, by omega⟩, ?_⟩
  refine ok_forR (RdA st mo st.length L ws k) ⟨[], none, rfl, Keep.refl.app, ⟨Nat.le_refl _, (fun _ h => nomatch h)⟩, ⟨by simp, rfl, .nil, List.not_mem_nil, fun i n a h _ => by simp [chainE, netL] at h⟩⟩ ?_ ?_
  · intro ρ s hP
    obtain ⟨ls, x5, rfl, hR⟩ := hP
    rw [seqK_nx, ok_seq]
    simp only [d_road_6, e_for, ok_bnd]
    simp [staysP, -ok_seq, enuM]
    refine ok_for (RdB st mo st.length ms L ws k) (fun _ _ _ _ => True.intro) ?_ ?_ _ _ _ ⟨0, ls, _, _, _, _, Nat.zero_le _, rfl, rfl, by simpa [stE] using hR⟩
    · intro ρ s hP
      obtain ⟨t, ls, x5, x6, x7, x8, ht, hl, rfl, hR⟩ := hP
      have : t = L.length := by
        have := congrArg List.length hl
        simp at this
        omega
      subst this
      simp [d_road_7]
      exact K _ _ _ hR
    · intro q l ρ s hP
      obtain ⟨t, ls, x5, x6, x7, x8, ht, hl, rfl, hR⟩ := hP
      have htl : t < L.length := by
        have := congrArg List.length hl
        simp at this
        omega
      rw [List.drop_eq_getElem_cons htl, List.map_cons, enuP] at hl
      injection hl with e1 e2
      subst e1 e2
      have hg : gS L t = L[t] := by
        unfold gS
        rw [List.getElem?_eq_getElem htl]
        rfl
      have hw : ws[t]? = some (ws[t]'(by omega)) := List.getElem?_eq_getElem (by omega)
      have hmm := hmem _ (List.getElem_mem htl)
      simp [-ok_seq]
      refine road_stay hR (by simp [chainE, stE]; omega) (hR.kp.get hm) hmm.1 hmm.2 hw (by omega) fun s ls' x7 x8 hR' => ?_
      refine ⟨t + 1, ls', _, _, _, _, htl, by rw [List.map_drop], rfl, ?_⟩
      rw [stE_succ, hg, hw, ← List.append_assoc]
      exact hR'
  · intro i ρ s hi hP
    obtain ⟨ls, x5, rfl, hR⟩ := hP
    rw [e_gNm, ok_ok]
    refine road_one hR (by rw [chain_len]; omega) fun s ls' hR' => ?_
    exact ⟨ls', _, rfl, by rw [chain_succ]; exact hR'⟩
end
theorem ok_road {P : Program} {w : World} {W : Wd} {base : Heap} (V : Ev W base) : DFn P w W base 3 (He.fAd W.K ("road", none)) 4 S_road := raw_road V 
abbrev N_least_costs : List Str := ["arcs", "many", "more", "costs", "by", "number", "arc", "start", "end", "room", "cost"]
noncomputable def d_least_costs_1 : PD.Env → Mo Fl := (dPar 3 4 (dCons (fun ρ => bnd ((fun ρ => bnd ((fun ρ => bnd ((dCons (dC (.int 0)) (fun _ st => .ok [] st)) ρ) capM) ρ) fun l => bnd ((fun ρ => bnd ((fun ρ => bnd ((dCons (dC .non) (fun _ st => .ok [] st)) ρ) capM) ρ) fun l => bnd ((dBin oSub (dVar 1) (dC (.int 1))) ρ) fun q => repM l q) ρ) fun m => capM (l ++ m)) ρ) layL) (dCons (fun ρ => bnd ((fun ρ => bnd ((fun ρ => bnd ((dCons (dC .non) (fun _ st => .ok [] st)) ρ) capM) ρ) fun l => bnd ((dVar 1) ρ) fun q => repM l q) ρ) layL) (fun _ st => .ok [] st))))
noncomputable def d_least_costs_2 : PD.Env → Mo Fl := (dSet 2 (dC (.bl true)))
noncomputable def d_least_costs_3 : PD.Env → Mo Fl := (dSet 2 (dC (.bl false)))
noncomputable def d_least_costs_4 : PD.Env → Mo Fl := (dAsg (dVar 6) (gTpL 4 (gCs (gNm 7) (gCs (gNm 8) (gCs (gNm 9) (gCs (gNm 10) gNl))))))
noncomputable def d_least_costs_5 : PD.Env → Mo Fl := (dAsg (fun ρ => bnd ((dCons (dBin oAdd (dBin oIx (dVar 3) (dVar 7)) (dVar 10)) (dCons (dVar 5) (fun _ st => .ok [] st))) ρ) tupM) (gTp 2 (gCs (gSb (dVar 3) (dVar 8)) (gCs (gSb (dVar 4) (dVar 8)) gNl))))
noncomputable def d_least_costs_6 : PD.Env → Mo Fl := (dSet 2 (dC (.bl true)))
noncomputable def d_least_costs_7 : PD.Env → Mo Fl := (dIfS (dAndT (dB (dBin oGt (dVar 9) (dC (.int 0)))) (dAndT (dB (dBin (fun p q => match q with | .non => oIsN true p q | _ => fail) (dBin oIx (dVar 3) (dVar 7)) (dC .non))) (dOrT (dB (dBin (fun p q => match q with | .non => oIsN false p q | _ => fail) (dBin oIx (dVar 3) (dVar 8)) (dC .non))) (dB (dBin oLt (dBin oAdd (dBin oIx (dVar 3) (dVar 7)) (dVar 10)) (dBin oIx (dVar 3) (dVar 8))))))) (dSeq d_least_costs_5
    d_least_costs_6) dNil)
noncomputable def d_least_costs_8 : PD.Env → Mo Fl := (dFor (fun ρ => bnd ((dCons (dVar 0) (fun _ st => .ok [] st)) ρ) enuM) (gTp 2 (gCs (gNm 5) (gCs (gNm 6) gNl))) (dSeq d_least_costs_4
    d_least_costs_7))
noncomputable def d_least_costs_9 : PD.Env → Mo Fl := (dWh (fun ρ => bnd ((dVar 2) ρ) truM) (dSeq d_least_costs_3
    d_least_costs_8))
noncomputable def d_least_costs_10 : PD.Env → Mo Fl := (dRet (fun ρ => bnd ((dCons (dVar 3) (dCons (dVar 4) (fun _ st => .ok [] st))) ρ) tupM))
noncomputable def d_least_costs : PD.Env → Mo Fl := (dSeq d_least_costs_1
    (dSeq d_least_costs_2
    (dSeq d_least_costs_9
    d_least_costs_10)))
theorem sc_least_costs : FnScope N_least_costs ["arcs", "many"] (defScope (top 15)) := C8.fnScope_by (by decide +kernel)
theorem body_least_costs {P : Program} {w : World} {W : Wd} {base : Heap} (V : Ev W base)  : Body P w W base N_least_costs "least_costs" (defScope (top 15)) (He.fAd W.K ("least_costs", none)) 2 (defBody (top 15)) d_least_costs := fun cdv A outer s H E =>
  (dss_cons (ds_par2 (i := 3) (j := 4) (by decide) (da_cons (de_l (dl_catL (dl_lst (da_cons de_int da_nil)) (du_l (dl_rep (dl_lst (da_cons de_non da_nil)) (de_sub (de_var (i := 1)) de_int))))) (da_cons (de_l (dl_rep (dl_lst (da_cons de_non da_nil)) (de_var (i := 1)))) da_nil)))
    (dss_cons (ds_set (i := 2) de_bl)
    (dss_cons (ds_while (dt_e (de_var (i := 2))) (dss_cons (ds_set (i := 2) de_bl)
    (dss_one (ds_for (di_enum (da_cons (de_var (i := 0)) da_nil) rfl V.b_enumerate) (dg_tup (dgs_cons (dg_name (i := 5)) (dgs_cons (dg_name (i := 6)) dgs_nil))) (dss_cons (ds_asg (de_var (i := 6)) (dg_tupL (dgs_cons (dg_name (i := 7)) (dgs_cons (dg_name (i := 8)) (dgs_cons (dg_name (i := 9)) (dgs_cons (dg_name (i := 10)) dgs_nil))))))
    (dss_one (ds_if (dt_w (dw_and (dt_gt (de_var (i := 9)) de_int) (dw_and (dt_notN (de_ix (de_var (i := 3)) (de_var (i := 7)))) (dw_and1 (dt_w (dw_or (dt_isN (de_ix (de_var (i := 3)) (de_var (i := 8)))) (dw_or1 (dt_lt (de_add (de_ix (de_var (i := 3)) (de_var (i := 7))) (de_var (i := 10))) (de_ix (de_var (i := 3)) (de_var (i := 8))))))))))) (dss_cons (ds_asg (de_tup (da_cons (de_add (de_ix (de_var (i := 3)) (de_var (i := 7))) (de_var (i := 10))) (da_cons (de_var (i := 5)) da_nil))) (dg_tup (dgs_cons (dg_sub (de_var (i := 3)) (de_var (i := 8))) (dgs_cons (dg_sub (de_var (i := 4)) (de_var (i := 8))) dgs_nil))))
    (dss_one (ds_set (i := 2) de_bl))) dss_nil)))))))
    (dss_one (ds_ret (de_tup (da_cons (de_var (i := 3)) (da_cons (de_var (i := 4)) da_nil))))))))
theorem raw_least_costs {P : Program} {w : World} {W : Wd} {base : Heap} (V : Ev W base)  : DFn P w W base 3 (He.fAd W.K ("least_costs", none)) 2 (bodyF 11 d_least_costs) := by
  obtain ⟨fd, F⟩ := V.D_least_costs
  exact DFn.of V.cx F sc_least_costs (F.bindsN fun _ _ _ _ _ _ us hl => match us, hl with | [_, _], _ => rfl) (body_least_costs V )
noncomputable def S_least_costs : List PV → Mo PV := bodyF 11 d_least_costs
theorem ref_least_costs : Ref 2 (bodyF 11 d_least_costs) S_least_costs := ref_self
def oI : Option Int → PV
  | none => .non
  | some x => .int x
def oN : Option Nat → PV
  | none => .non
  | some n => .int n
theorem at_o {α : Type} {g : Option α → PV} {l : List (Option α)} {v : Nat} (h : v < l.length) : atI (l.map g) (v : Int) = some (g (vO l v)) := PD.atI_nat (by
  unfold vO
  rw [List.getElem?_map, List.getElem?_eq_getElem h]
  rfl)
/-- the two lists of least_costs -/
structure LcI (st0 : Sto) (p : Nat) (ls : List Nat) (as : List Arc) (f : Nat → Int) (m dl bl : Nat) (ds : List (Option Int)) (bs : List (Option Nat)) (s : Sto) : Prop where
  kp : Keep st0 s
  nd : st0.length ≤ dl
  nb : st0.length ≤ bl
  ne : dl ≠ bl
  d : s[dl]? = some (.lst false (ds.map oI))
  b : s[bl]? = some (.lst false (bs.map oN))
  bf : BF as f m ds bs
section
variable {Q : Fl → Sto → Prop} {st0 st : Sto} {p dl bl m : Nat} {ls : List Nat} {as : List Arc} {f : Nat → Int} {ds : List (Option Int)} {bs : List (Option Nat)} {x0 x1 x2 x3 x4 x5 x6 x7 x8 x9 x10 : Option PV}
def better (ds : List (Option Int)) (a : Arc) : Bool := decide (0 < a.r) && match vO ds a.s with
  | none => false
  | some x => match vO ds a.e with
    | none => true
    | some y => decide (x + a.c < y)
theorem least_put {n : Nat} {a : Arc} {x : Int} (h : LcI st0 p ls as f m dl bl ds bs st) (hf : Feas as f) (ha : as[n]? = some a) (hr : 0 < a.r) (hs : a.s < m) (he : a.e < m) (hx : vO ds a.s = some x) (hlt : ∀ y, vO ds a.e = some y → x + a.c < y)
    (k1 : ∀ ds' bs' s, LcI st0 p ls as f m dl bl ds' bs' s → BLt f m ds' ds → Q (.nx [x0, x1, some (.bl true), some (.loc dl), some (.loc bl), some (.int (n : Int)), x6, some (.int (a.s : Int)), some (.int (a.e : Int)), x9, some (.int a.c)]) s) :
    Ok (d_least_costs_5 [x0, x1, x2, some (.loc dl), some (.loc bl), some (.int (n : Int)), x6, some (.int (a.s : Int)), some (.int (a.e : Int)), x9, some (.int a.c)] st) (seqK d_least_costs_6 Q) := by
  have h1 : atI (ds.map oI) (a.s : Int) = some (.int x) := by
    have := at_o (g := oI) (l := ds) (v := a.s) (by rw [h.bf.l1]; exact hs)
    rw [this, hx]
    rfl
  have e1 : ixN (ds.map oI).length (a.e : Int) = some a.e := ixN_nat (by rw [List.length_map, h.bf.l1]; exact he)
  have e2 : ixN (bs.map oN).length (a.e : Int) = some a.e := ixN_nat (by rw [List.length_map, h.bf.l2]; exact he)
  rw [List.length_map] at e1 e2
  have hb : (st.set dl (Ob.lst false ((ds.map oI).set a.e (.int (x + a.c)))))[bl]? = some (.lst false (bs.map oN)) := by
    rw [List.getElem?_set_ne h.ne]; exact h.b
  have g1 : (ds.map oI).set a.e (PV.int (x + a.c)) = (ds.set a.e (some (x + a.c))).map oI := by
    rw [List.map_set]; rfl
  have g2 : (bs.map oN).set a.e (PV.int (n : Int)) = (bs.set a.e (some n)).map oN := by
    rw [List.map_set]; rfl
  simp [d_least_costs_5, h.d, h1, setM, e1, hb, e2]
  rw [g1, g2]
  simp [d_least_costs_6]
  refine k1 _ _ _ ⟨(h.kp.set h.nd).set h.nb, h.nd, h.nb, h.ne, ?_, ?_, h.bf.step hf ha hr hs he hx hlt⟩ (h.bf.less hf ha hr he hx hlt)
  · rw [List.getElem?_set_ne (Ne.symm h.ne), List.getElem?_set_self (get_lt h.d), List.map_set]
  · rw [List.getElem?_set_self (by rw [List.length_set]; exact get_lt h.b), List.map_set]
theorem least_arc {n nl : Nat} {a : Arc} (h : LcI st0 p ls as f m dl bl ds bs st) (hA : ArcsAt p ls as st0) (hf : Feas as f) (ha : as[n]? = some a) (hl : ls[n]? = some nl) (hs : a.s < m) (he : a.e < m)
    (k0 : better ds a = false → ∀ x7 x8 x9 x10, Q (.nx [x0, x1, x2, some (.loc dl), some (.loc bl), some (.int (n : Int)), some (.loc nl), x7, x8, x9, x10]) st)
    (k1 : better ds a = true → ∀ ds' bs' s x7 x8 x9 x10, LcI st0 p ls as f m dl bl ds' bs' s → BLt f m ds' ds → Q (.nx [x0, x1, some (.bl true), some (.loc dl), some (.loc bl), some (.int (n : Int)), some (.loc nl), x7, x8, x9, x10]) s) :
    Ok (dSeq d_least_costs_4 d_least_costs_7 [x0, x1, x2, some (.loc dl), some (.loc bl), some (.int (n : Int)), some (.loc nl), x7, x8, x9, x10] st) Q := by
  have hn := h.kp.get (hA.arc n nl a ha hl)
  have h1 : atI (ds.map oI) (a.s : Int) = some (oI (vO ds a.s)) := at_o (by rw [h.bf.l1]; exact hs)
  have h2 : atI (ds.map oI) (a.e : Int) = some (oI (vO ds a.e)) := at_o (by rw [h.bf.l1]; exact he)
  rw [ok_seq]
  simp [d_least_costs_4, hn, arcP]
  simp [d_least_costs_7, h.d, h1, h2]
  by_cases hr : 0 < a.r
  · rw [if_pos hr]
    cases hx : vO ds a.s with
    | none =>
      rw [if_neg (by simp [oI])]
      exact k0 (by simp [better, hx]) _ _ _ _
    | some x =>
      rw [if_pos (by rfl)]
      cases hy : vO ds a.e with
      | none =>
        rw [if_pos (by rfl)]
        refine least_put h hf ha hr hs he hx (fun y e => by rw [hy] at e; cases e) fun ds' bs' s hI hlt => ?_
        exact k1 (by simp [better, hx, hy, hr]) ds' bs' s _ _ _ _ hI hlt
      | some y =>
        rw [if_neg (by simp [oI])]
        have h2' : atI (ds.map oI) (a.e : Int) = some (.int y) := by rw [h2, hy]; rfl
        simp [oI, h.d, h2']
        by_cases hc : x + a.c < y
        · rw [if_pos hc]
          refine least_put h hf ha hr hs he hx (fun y' e => by rw [hy] at e; cases e; exact hc) fun ds' bs' s hI hlt => ?_
          exact k1 (by simp [better, hx, hy, hr, hc]) ds' bs' s _ _ _ _ hI hlt
        · rw [if_neg hc]
          exact k0 (by simp [better, hx, hy]; omega) _ _ _ _
  · rw [if_neg hr]
    exact k0 (by simp [better, hr]) _ _ _ _
end
section
variable {Q : Fl → Sto → Prop} {st0 st : Sto} {p dl bl m : Nat} {ls : List Nat} {as : List Arc} {f : Nat → Int} {ds : List (Option Int)} {bs : List (Option Nat)} {x0 x1 x2 x3 x4 x5 x6 x7 x8 x9 x10 : Option PV}
theorem better_done (h : ∀ (i : Nat) (a : Arc), as[i]? = some a → better ds a = false) : Done as ds := by
  intro a ha hr x hx
  obtain ⟨i, hi⟩ := List.mem_iff_getElem?.mp ha
  have hb := h i a hi
  unfold better at hb
  rw [hx] at hb
  cases hy : vO ds a.e with
  | none => rw [hy] at hb; simp [hr] at hb
  | some y =>
    rw [hy] at hb
    simp [hr] at hb
    exact ⟨y, rfl, hb⟩
/-- one sweep -/
def SwI (st0 : Sto) (p : Nat) (ls : List Nat) (as : List Arc) (f : Nat → Int) (m dl bl : Nat) (ds : List (Option Int)) (l : List PV) (ρ : PD.Env) (s : Sto) : Prop := ∃ t mo ds' bs' x5 x6 x7 x8 x9 x10, t ≤ ls.length ∧ l = enuP t ((ls.drop t).map PV.loc) ∧ ρ = [some (.loc p), some (.int (m : Int)), some (.bl mo), some (.loc dl), some (.loc bl), x5, x6, x7, x8, x9, x10] ∧ LcI st0 p ls as f m dl bl ds' bs' s ∧ (mo = false → ds' = ds ∧ ∀ (i : Nat) (a : Arc), i < t → as[i]? = some a → better ds a = false) ∧ (mo = true → BLt f m ds' ds)
theorem least_sweep (h : LcI st0 p ls as f m dl bl ds bs st) (hA : ArcsAt p ls as st0) (hf : Feas as f) (hin : ∀ a ∈ as, a.s < m ∧ a.e < m)
    (k : ∀ (mo : Bool) ds' bs' s x5 x6 x7 x8 x9 x10, LcI st0 p ls as f m dl bl ds' bs' s → (mo = false → ds' = ds ∧ Done as ds') → (mo = true → BLt f m ds' ds) → Q (.nx [some (.loc p), some (.int (m : Int)), some (.bl mo), some (.loc dl), some (.loc bl), x5, x6, x7, x8, x9, x10]) s) :
    Ok (dSeq d_least_costs_3 d_least_costs_8 [some (.loc p), some (.int (m : Int)), x2, some (.loc dl), some (.loc bl), x5, x6, x7, x8, x9, x10] st) Q := by
  rw [ok_seq]
  simp [d_least_costs_3]
  simp only [d_least_costs_8, e_for, ok_bnd]
  have hat := h.kp.get hA.at_
  simp [enuM, hat]
  refine ok_for (SwI st0 p ls as f m dl bl ds) (fun l ρ s hP => ?_) ?_ ?_ _ _ _ ⟨0, false, ds, bs, _, _, _, _, _, _, Nat.zero_le _, rfl, rfl, h, (fun _ => ⟨rfl, fun i a hi => by omega⟩), fun e => by cases e⟩
  · obtain ⟨t, mo, ds', bs', x5, x6, x7, x8, x9, x10, ht, hl, rfl, hI, h1, h2⟩ := hP
    exact .inl (hI.kp.get hA.at_)
  · intro ρ s hP
    obtain ⟨t, mo, ds', bs', x5, x6, x7, x8, x9, x10, ht, hl, rfl, hI, h1, h2⟩ := hP
    have : t = ls.length := by
      have := congrArg List.length hl
      simp at this
      omega
    subst this
    refine k mo ds' bs' s _ _ _ _ _ _ hI (fun e => ?_) h2
    obtain ⟨e1, e2⟩ := h1 e
    subst e1
    exact ⟨rfl, better_done fun i a ha => e2 i a (by rw [hA.len]; exact get_lt ha) ha⟩
  · intro q l ρ s hP
    obtain ⟨t, mo, ds', bs', x5, x6, x7, x8, x9, x10, ht, hl, rfl, hI, h1, h2⟩ := hP
    have htl : t < ls.length := by
      have := congrArg List.length hl
      simp at this
      omega
    rw [List.drop_eq_getElem_cons htl, List.map_cons, enuP] at hl
    injection hl with e1 e2
    subst e1 e2
    have hta : t < as.length := by rw [← hA.len]; exact htl
    have ha : as[t]? = some as[t] := List.getElem?_eq_getElem hta
    have hn : ls[t]? = some ls[t] := List.getElem?_eq_getElem htl
    have hi := hin _ (List.getElem_mem hta)
    simp [-ok_seq]
    refine least_arc hI hA hf ha hn hi.1 hi.2 (fun hb x7 x8 x9 x10 => ?_) fun hb ds2 bs2 s2 x7 x8 x9 x10 hI2 hlt => ?_
    · refine ⟨t + 1, mo, ds', bs', _, _, _, _, _, _, htl, by rw [List.map_drop], rfl, hI, fun e => ?_, h2⟩
      obtain ⟨e1, e2⟩ := h1 e
      refine ⟨e1, fun i a hi' ha' => ?_⟩
      by_cases hit : i = t
      · subst hit
        rw [ha] at ha'
        cases ha'
        rw [← e1]
        exact hb
      · exact e2 i a (by omega) ha'
    · refine ⟨t + 1, true, ds2, bs2, _, _, _, _, _, _, htl, by rw [List.map_drop], rfl, hI2, (fun e => by cases e), fun _ => ?_⟩
      cases mo with
      | true => exact hlt.trans (h2 rfl)
      | false => rw [(h1 rfl).1] at hlt; exact hlt
/-- the whole -/
def WhI (st0 : Sto) (p : Nat) (ls : List Nat) (as : List Arc) (f : Nat → Int) (m dl bl : Nat) (dm : List (Option Int) × Bool) (ρ : PD.Env) (s : Sto) : Prop := ∃ bs x5 x6 x7 x8 x9 x10, ρ = [some (.loc p), some (.int (m : Int)), some (.bl dm.2), some (.loc dl), some (.loc bl), x5, x6, x7, x8, x9, x10] ∧ LcI st0 p ls as f m dl bl dm.1 bs s ∧ (dm.2 = false → Done as dm.1)
def SwR (f : Nat → Int) (m : Nat) : List (Option Int) × Bool → List (Option Int) × Bool → Prop := Prod.Lex (BLt f m) (fun a b : Bool => a.toNat < b.toNat)
theorem swr_wf (f : Nat → Int) (m : Nat) : WellFounded (SwR f m) := (Prod.lex ⟨BLt f m, blt_wf f m⟩ ⟨fun a b : Bool => a.toNat < b.toNat, InvImage.wf Bool.toNat Nat.lt_wfRel.wf⟩).wf
theorem bf_start (hm : 0 < m) : BF as f m (some 0 :: List.replicate (m - 1) none) (List.replicate m none) := by
  have h1 : ∀ v x, vO (some (0 : Int) :: List.replicate (m - 1) none) v = some x → v = 0 ∧ x = 0 := fun v x hx => by
    unfold vO at hx
    cases v with
    | zero => simp at hx; exact ⟨rfl, hx.symm⟩
    | succ v =>
      rw [List.getElem?_cons_succ, List.getElem?_replicate] at hx
      split at hx <;> simp at hx
  have h2 : ∀ v, vO (List.replicate m (none : Option Nat)) v = none := fun v => by
    unfold vO
    rw [List.getElem?_replicate]
    split <;> rfl
  refine ⟨by simp; omega, by simp, rfl, h2 0, fun v x hx => ?_, fun v n hv => ?_, fun v x hx => ?_, fun v x hx => ?_⟩
  · obtain ⟨rfl, rfl⟩ := h1 v x hx; omega
  · rw [h2] at hv; cases hv
  · exact .inl (h1 v x hx).1
  · rw [(h1 v x hx).1]; exact .zero
theorem least_costs_ok {Q : PV → Sto → Prop} (hA : ArcsAt p ls as st) (hf : Feas as f) (hm : 0 < m) (hml : m ≤ 1000000) (hin : ∀ a ∈ as, a.s < m ∧ a.e < m)
    (K : ∀ dl bl ds bs s, LcI st p ls as f m dl bl ds bs s → Done as ds → Q (.tup [.loc dl, .loc bl]) s) : Ok (S_least_costs [.loc p, .int (m : Int)] st) Q := by
  unfold S_least_costs
  rw [e_body, ok_bnd]
  simp only [d_least_costs, ok_seq]
  have rep : ∀ (j : Int) (n : Nat) s, j = n → n ≤ 1000000 → repM [PV.non] (PV.int j) s = .ok (List.replicate n PV.non) s := fun j n s e hn => by
    subst e
    unfold repM
    dsimp only
    rw [if_pos ⟨by omega, by omega, by simp; omega⟩]
    simp
  simp [d_least_costs_1, start0, -ok_seq]
  rw [rep _ (m - 1) _ (by omega) (by omega)]
  simp only [ok_ok]
  refine ⟨by simp; omega, ?_⟩
  rw [rep _ m _ rfl hml]
  simp only [ok_ok]
  rw [ok_seq]
  simp only [d_least_costs_2, e_set, e_C, ok_bnd, ok_ok]
  simp [-ok_seq]
  rw [ok_seq]
  refine ok_whW (swr_wf f m) (WhI st p ls as f m st.length (st.length + 1)) (fun dm ρ s hI => ?_) (some 0 :: List.replicate (m - 1) none, true) _ _ ⟨List.replicate m none, _, _, _, _, _, _, rfl, ⟨Keep.refl.app, Nat.le_refl _, by omega, by omega, ?_, ?_, bf_start hm⟩, fun e => by cases e⟩
  · obtain ⟨ds, mo⟩ := dm
    obtain ⟨bs, x5, x6, x7, x8, x9, x10, rfl, hL, hD⟩ := hI
    simp [-ok_seq]
    cases mo with
    | false =>
      rw [if_neg (by simp)]
      simp [d_least_costs_10]
      exact K _ _ _ _ _ hL (hD rfl)
    | true =>
      rw [if_pos rfl]
      refine least_sweep hL hA hf hin fun mo ds' bs' s x5 x6 x7 x8 x9 x10 hL' h0 h1 => ?_
      have hw : WhI st p ls as f m st.length (st.length + 1) (ds', mo) [some (.loc p), some (.int (m : Int)), some (.bl mo), some (.loc st.length), some (.loc (st.length + 1)), x5, x6, x7, x8, x9, x10] s := ⟨bs', _, _, _, _, _, _, rfl, hL', fun e => (h0 e).2⟩
      have hr : SwR f m (ds', mo) (ds, true) := by
        cases mo with
        | true => exact .left _ _ (h1 rfl)
        | false =>
          rw [(h0 rfl).1]
          exact .right _ (by decide)
      first
        | exact ⟨(ds', mo), hr, hw⟩
        | (cases mo with
           | false => exact ⟨ds', .inl ⟨hr, hw⟩⟩
           | true => exact ⟨ds', .inr ⟨hr, hw⟩⟩)
  · simp [oI]
  · rw [List.getElem?_append_right (by omega)]
    simp [oN]
end
theorem ok_least_costs {P : Program} {w : World} {W : Wd} {base : Heap} (V : Ev W base) : DFn P w W base 3 (He.fAd W.K ("least_costs", none)) 2 S_least_costs := raw_least_costs V 
abbrev N_send : List Str := ["arcs", "by", "end", "number"]
noncomputable def d_send_1 : PD.Env → Mo Fl := (dSet 3 (dBin oIx (dVar 1) (dVar 2)))
noncomputable def d_send_2 : PD.Env → Mo Fl := (dAugS (fun i j => i - j) (dBin oIx (dVar 0) (dVar 3)) (dC (.int 2)) (dC (.int 1)))
noncomputable def d_send_3 : PD.Env → Mo Fl := (dAugS (fun i j => i + j) (dBin oIx (dVar 0) (dIf (dB (dBin (oEq false) (dBin oMod (dVar 3) (dC (.int 2))) (dC (.int 0)))) (dBin oAdd (dVar 3) (dC (.int 1))) (dBin oSub (dVar 3) (dC (.int 1))))) (dC (.int 2)) (dC (.int 1)))
noncomputable def d_send_4 : PD.Env → Mo Fl := (dSet 2 (dBin oIx (dBin oIx (dVar 0) (dVar 3)) (dC (.int 0))))
noncomputable def d_send_5 : PD.Env → Mo Fl := (dWh (dAndT (dB (dBin (fun p q => match q with | .non => oIsN true p q | _ => fail) (dBin oIx (dVar 1) (dVar 2)) (dC .non))) (dB (dBin (oEq true) (dVar 2) (dC (.int 0))))) (dSeq d_send_1
    (dSeq d_send_2
    (dSeq d_send_3
    d_send_4))))
noncomputable def d_send : PD.Env → Mo Fl := d_send_5
theorem sc_send : FnScope N_send ["arcs", "by", "end"] (defScope (top 16)) := C8.fnScope_by (by decide +kernel)
theorem body_send {P : Program} {w : World} {W : Wd} {base : Heap} (V : Ev W base)  : Body P w W base N_send "send" (defScope (top 16)) (He.fAd W.K ("send", none)) 2 (defBody (top 16)) d_send := fun cdv A outer s H E =>
  (dss_one (ds_while (dt_w (dw_and (dt_notN (de_ix (de_var (i := 1)) (de_var (i := 2)))) (dw_and1 (dt_ne (de_var (i := 2)) de_int)))) (dss_cons (ds_set (i := 3) (de_ix (de_var (i := 1)) (de_var (i := 2))))
    (dss_cons (ds_augSSub (de_ix (de_var (i := 0)) (de_var (i := 3))) de_int de_int)
    (dss_cons (ds_augSAdd (de_ix (de_var (i := 0)) (de_if (dt_eq (de_mod (de_var (i := 3)) de_int) de_int) (de_add (de_var (i := 3)) de_int) (de_sub (de_var (i := 3)) de_int))) de_int de_int)
    (dss_one (ds_set (i := 2) (de_ix (de_ix (de_var (i := 0)) (de_var (i := 3))) de_int))))))))
theorem raw_send {P : Program} {w : World} {W : Wd} {base : Heap} (V : Ev W base)  : DFn P w W base 3 (He.fAd W.K ("send", none)) 3 (bodyF 4 d_send) := by
  obtain ⟨fd, F⟩ := V.D_send
  exact DFn.of V.cx F sc_send (F.bindsN fun _ _ _ _ _ _ us hl => match us, hl with | [_, _, _], _ => rfl) (body_send V )
noncomputable def S_send : List PV → Mo PV := bodyF 4 d_send
theorem ref_send : Ref 3 (bodyF 4 d_send) S_send := ref_self
/-- only objects of ls have changed -/
structure ChA (ls : List Nat) (st s : Sto) : Prop where
  len : s.length = st.length
  eq : ∀ i, i ∉ ls → s[i]? = st[i]?
theorem ArcsAt.setR {p n i : Nat} {ls : List Nat} {as : List Arc} {st : Sto} {a : Arc} (h : ArcsAt p ls as st) (hn : ls[i]? = some n) (hi : i < as.length) : ArcsAt p ls (as.set i a) (st.set n (.lst false (arcP a))) := by
  have hnm := List.mem_of_getElem? hn
  have hp : n ≠ p := fun z => h.np (by rw [← z]; exact hnm)
  refine ⟨by rw [List.getElem?_set_ne hp]; exact h.at_, by rw [List.length_set]; exact h.len, h.nd, h.np, fun k q b hb hq => ?_⟩
  rw [List.getElem?_set] at hb
  by_cases e : i = k
  · subst e
    rw [hn] at hq
    cases hq
    rw [if_pos rfl, if_pos hi] at hb
    cases hb
    rw [List.getElem?_set_self (h.lt n hnm)]
  · rw [if_neg e] at hb
    have hne : n ≠ q := fun z => by
      subst z
      obtain ⟨h1, e1⟩ := List.getElem?_eq_some_iff.mp hn
      obtain ⟨h2, e2⟩ := List.getElem?_eq_some_iff.mp hq
      exact e ((List.getElem_inj h.nd).mp (e1.trans e2.symm))
    rw [List.getElem?_set_ne hne]
    exact h.arc k q b hb hq
theorem ChA.set {ls : List Nat} {st s : Sto} {n : Nat} {o : Ob} (h : ChA ls st s) (hn : n ∈ ls) : ChA ls st (s.set n o) := ⟨by rw [List.length_set]; exact h.len, fun i hi => by
  rw [List.getElem?_set_ne (fun z => hi (by rw [← z]; exact hn))]
  exact h.eq i hi⟩
theorem net_set : ∀ {B : List Ed} {F : List Int} {j : Nat} {b : Ed} {y : Int}, F.length = B.length → B[j]? = some b → netL B (F.set j y) = ((netL B F).set (2 * j) ⟨b.s, b.e, b.cap - y, b.c⟩).set (2 * j + 1) ⟨b.e, b.s, y, -b.c⟩
  | b :: B, x :: F, 0, _, y, _, h => by cases h; rfl
  | b :: B, x :: F, j + 1, _, y, hl, h => by
    rw [List.getElem?_cons_succ] at h
    have := net_set (y := y) (F := F) (by simpa using hl) h
    rw [show 2 * (j + 1) = 2 * j + 1 + 1 by omega]
    show _ :: _ :: netL B (F.set j y) = _
    rw [this]
    rfl
  | [], _, _, _, _, _, h => by simp at h
  | _ :: _, [], _, _, _, h, _ => by simp at h
section
variable {Q : Fl → Sto → Prop} {st0 st : Sto} {p bl m v j n1 n2 : Nat} {ls : List Nat} {B : List Ed} {F : List Int} {bs : List (Option Nat)} {b : Ed} {x : Int} {x0 x1 x2 x3 : Option PV}
theorem at_l {ls : List Nat} {i n : Nat} (h : ls[i]? = some n) : atI (ls.map PV.loc) (i : Int) = some (.loc n) := PD.atI_nat (by rw [List.getElem?_map, h]; rfl)
theorem send_even (hFl : F.length = B.length) (hA : ArcsAt p ls (netL B F) st) (hb : st[bl]? = some (.lst false (bs.map oN))) (hbl : bl ∉ ls) (hv : vO bs v = some (2 * j)) (h1 : B[j]? = some b) (h2 : F[j]? = some x) (hn1 : ls[2 * j]? = some n1) (hn2 : ls[2 * j + 1]? = some n2)
    (k : ∀ s, ChA ls st s → ArcsAt p ls (netL B (F.set j (x + 1))) s → ∀ x3, Q (.nx [some (.loc p), some (.loc bl), some (.int (b.s : Int)), x3]) s) : Ok (dSeq d_send_1 (dSeq d_send_2 (dSeq d_send_3 d_send_4)) [some (.loc p), some (.loc bl), some (.int (v : Int)), x3] st) Q := by
  have hvl := vO_lt hv
  have e1 : atI (bs.map oN) (v : Int) = some (.int ((2 * j : Nat) : Int)) := by
    rw [at_o hvl, hv]; rfl
  have e2 := at_l hn1
  have e3 := at_l hn2
  have q1 := hA.arc _ _ _ (net_even h1 h2) hn1
  have q2 := hA.arc _ _ _ (net_odd h1 h2) hn2
  rw [ok_seq]
  simp [d_send_1, hb, e1, -ok_seq]
  rw [ok_seq]
  have e2' : atI (ls.map PV.loc) (2 * (j : Int)) = some (.loc n1) := by have := e2; push_cast at this; exact this
  have a2 : ∀ a b c d : PV, atI [a, b, c, d] 2 = some c := fun _ _ _ _ => rfl
  have a0 : ∀ a b c d : PV, atI [a, b, c, d] 0 = some a := fun _ _ _ _ => rfl
  have i2 : ixN 4 2 = some 2 := rfl
  have om : ∀ (g : Int → Int → Int) (a b : Int) s, PD.oI (fun x y => PV.int (g x y)) (.int a) (.int b) s = .ok (.int (g a b)) s := fun _ _ _ _ => rfl
  have hj : 2 * j < (netL B F).length ∧ 2 * j + 1 < (netL B F).length := ⟨get_lt (net_even h1 h2), get_lt (net_odd h1 h2)⟩
  have hA1 := hA.setR (a := ⟨b.s, b.e, b.cap - x - 1, b.c⟩) hn1 hj.1
  have hA2 := hA1.setR (a := ⟨b.e, b.s, x + 1, -b.c⟩) hn2 (by rw [List.length_set]; exact hj.2)
  have q2' := hA1.arc (2 * j + 1) n2 ⟨b.e, b.s, x, -b.c⟩ (by rw [List.getElem?_set_ne (by omega)]; exact net_odd h1 h2) hn2
  have e3' : atI (ls.map PV.loc) (2 * (j : Int) + 1) = some (.loc n2) := by have := e3; push_cast at this; exact this
  simp [d_send_2, hA.at_, e2', q1, arcP, -ok_seq, a2, i2]
  rw [ok_seq]
  unfold arcP at hA1 q2'
  simp [d_send_3, hA1.at_, e3', q2', a2, i2]
  refine ⟨rfl, ?_⟩
  have q1' := hA2.arc (2 * j) n1 ⟨b.s, b.e, b.cap - x - 1, b.c⟩ (by rw [List.getElem?_set_ne (by omega), List.getElem?_set_self hj.1]) hn1
  have hs := net_set (F := F) (j := j) (b := b) (y := x + 1) hFl h1
  unfold arcP at hA2 q1'
  simp [d_send_4, hA2.at_, e2', q1', a0]
  have hn1m := List.mem_of_getElem? hn1
  have hn2m := List.mem_of_getElem? hn2
  refine k _ (ChA.set (ChA.set ⟨rfl, fun _ _ => rfl⟩ hn1m) hn2m) ?_ _
  rw [hs]
  have ec : b.cap - (x + 1) = b.cap - x - 1 := by omega
  rw [ec]
  exact hA2
theorem send_odd (hFl : F.length = B.length) (hA : ArcsAt p ls (netL B F) st) (hb : st[bl]? = some (.lst false (bs.map oN))) (hbl : bl ∉ ls) (hv : vO bs v = some (2 * j + 1)) (h1 : B[j]? = some b) (h2 : F[j]? = some x) (hn1 : ls[2 * j]? = some n1) (hn2 : ls[2 * j + 1]? = some n2)
    (k : ∀ s, ChA ls st s → ArcsAt p ls (netL B (F.set j (x - 1))) s → ∀ x3, Q (.nx [some (.loc p), some (.loc bl), some (.int (b.e : Int)), x3]) s) : Ok (dSeq d_send_1 (dSeq d_send_2 (dSeq d_send_3 d_send_4)) [some (.loc p), some (.loc bl), some (.int (v : Int)), x3] st) Q := by
  have hvl := vO_lt hv
  have e1 : atI (bs.map oN) (v : Int) = some (.int ((2 * j + 1 : Nat) : Int)) := by
    rw [at_o hvl, hv]; rfl
  have e2 := at_l hn1
  have e3 := at_l hn2
  have q1 := hA.arc _ _ _ (net_even h1 h2) hn1
  have q2 := hA.arc _ _ _ (net_odd h1 h2) hn2
  rw [ok_seq]
  simp [d_send_1, hb, e1, -ok_seq]
  rw [ok_seq]
  have e2' : atI (ls.map PV.loc) (2 * (j : Int)) = some (.loc n1) := by have := e2; push_cast at this; exact this
  have e3' : atI (ls.map PV.loc) (2 * (j : Int) + 1) = some (.loc n2) := by have := e3; push_cast at this; exact this
  have a2 : ∀ a b c d : PV, atI [a, b, c, d] 2 = some c := fun _ _ _ _ => rfl
  have a0 : ∀ a b c d : PV, atI [a, b, c, d] 0 = some a := fun _ _ _ _ => rfl
  have i2 : ixN 4 2 = some 2 := rfl
  have om : ∀ (g : Int → Int → Int) (a b : Int) s, PD.oI (fun x y => PV.int (g x y)) (.int a) (.int b) s = .ok (.int (g a b)) s := fun _ _ _ _ => rfl
  have hj : 2 * j < (netL B F).length ∧ 2 * j + 1 < (netL B F).length := ⟨get_lt (net_even h1 h2), get_lt (net_odd h1 h2)⟩
  have hA1 := hA.setR (a := ⟨b.e, b.s, x - 1, -b.c⟩) hn2 hj.2
  have hA2 := hA1.setR (a := ⟨b.s, b.e, b.cap - x + 1, b.c⟩) hn1 (by rw [List.length_set]; exact hj.1)
  have q1' := hA1.arc (2 * j) n1 ⟨b.s, b.e, b.cap - x, b.c⟩ (by rw [List.getElem?_set_ne (by omega)]; exact net_even h1 h2) hn1
  have hmod : ((2 * (j : Int) + 1) % 2 == 0) = false := by rw [beq_eq_false_iff_ne]; omega
  simp [d_send_2, hA.at_, e3', q2, arcP, -ok_seq, a2, i2]
  rw [ok_seq]
  unfold arcP at hA1 q1'
  simp [d_send_3, hA1.at_, e2', q1', a2, i2]
  refine ⟨⟨rfl, rfl⟩, ?_⟩
  have q2' := hA2.arc (2 * j + 1) n2 ⟨b.e, b.s, x - 1, -b.c⟩ (by rw [List.getElem?_set_ne (by omega), List.getElem?_set_self hj.2]) hn2
  have hs := net_set (F := F) (j := j) (b := b) (y := x - 1) hFl h1
  unfold arcP at hA2 q2'
  simp [d_send_4, hA2.at_, e3', q2', a0]
  have hn1m := List.mem_of_getElem? hn1
  have hn2m := List.mem_of_getElem? hn2
  refine k _ (ChA.set (ChA.set ⟨rfl, fun _ _ => rfl⟩ hn2m) hn1m) ?_ _
  rw [hs, List.set_comm _ _ (by omega)]
  have ec : b.cap - (x - 1) = b.cap - x + 1 := by omega
  rw [ec]
  exact hA2
end
section
variable {Q : PV → Sto → Prop} {st : Sto} {p bl m v : Nat} {ls l vis : List Nat} {B : List Ed} {F0 F : List Int} {bs : List (Option Nat)} {ds : List (Option Int)} {f : Nat → Int} {t : Int} {x0 x1 x2 x3 : Option PV}
def SeI (st0 : Sto) (p bl m : Nat) (ls : List Nat) (B : List Ed) (F0 : List Int) (bs : List (Option Nat)) (f : Nat → Int) (t : Int) (n : Nat) (ρ : PD.Env) (s : Sto) : Prop := ∃ (v : Nat) (l vis : List Nat) (F : List Int) (x3 : Option PV), n = l.length ∧ ρ = [some (.loc p), some (.loc bl), some (.int (v : Int)), x3] ∧ ChA ls st0 s ∧ ArcsAt p ls (netL B F) s ∧ SdI m B F0 bs f t v l vis F ∧ v < m
theorem send_ok (hA : ArcsAt p ls (netL B F0) st) (hb : st[bl]? = some (.lst false (bs.map oN))) (hbl : bl ∉ ls) (hF : FlowOk m B F0) (hE : ∀ b ∈ B, b.s < b.e ∧ b.e < m) (hbf : BF (netL B F0) f m ds bs) (hd : Done (netL B F0) ds) (hall : ∀ v, v < m → vO ds v ≠ none) (hm : 0 < m) (hcut : ∀ i, i + 1 < m → crs B F0 i = t)
    (K : ∀ F s, ChA ls st s → ArcsAt p ls (netL B F) s → FlowOk m B F → Feas (netL B F) (potF ds) → (∀ i, i + 1 < m → crs B F i = t + 1) → Q .non s) : Ok (S_send [.loc p, .loc bl, .int ((m - 1 : Nat) : Int)] st) Q := by
  obtain ⟨l, hS⟩ := SdI.start hF hbf hd hall (fun b hb => by have := hE b hb; omega) hm hcut
  unfold S_send
  rw [e_body, ok_bnd]
  simp only [d_send, d_send_5, start0]
  refine ok_wh (SeI st p bl m ls B F0 bs (potF ds) t) (fun n ρ s hI => ?_) _ _ _ ⟨m - 1, l, [], F0, none, rfl, rfl, ⟨rfl, fun _ _ => rfl⟩, hA, hS, by omega⟩
  obtain ⟨v, l, vis, F, x3, rfl, rfl, hC, hA', hS', hv⟩ := hI
  have hbs : s[bl]? = some (.lst false (bs.map oN)) := by rw [hC.eq bl hbl]; exact hb
  have e1 : atI (bs.map oN) (v : Int) = some (oN (vO bs v)) := at_o (by rw [hbf.l2]; exact hv)
  by_cases h0 : v = 0
  · subst h0
    have e0 : vO bs 0 = none := hbf.b0
    rw [e0] at e1
    have e1 : atI (bs.map oN) 0 = some .non := e1
    simp [hbs, e1]
    obtain ⟨k1, k2, k3⟩ := hS'.done
    exact K F s hC hA' k1 k2 k3
  · obtain ⟨l', j, b, x, rfl, h1, h2, hc⟩ := hS'.next hF hE hbf hd h0
    have hj : j < B.length := get_lt h1
    have hll : ls.length = 2 * B.length := by rw [hA'.len, net_len hS'.fo.len]
    have hn1 : ls[2 * j]? = some (ls[2 * j]'(by omega)) := List.getElem?_eq_getElem (by omega)
    have hn2 : ls[2 * j + 1]? = some (ls[2 * j + 1]'(by omega)) := List.getElem?_eq_getElem (by omega)
    have hEb := hE b (List.mem_of_getElem? h1)
    have nn : ∀ n : Nat, oN (some n) ≠ .non := fun n e => by cases e
    rcases hc with ⟨hv', hS2⟩ | ⟨hv', hS2⟩
    · rw [hv'] at e1
      have e1 : atI (bs.map oN) (v : Int) = some (.int ((2 * j : Nat) : Int)) := e1
      simp [hbs, e1, h0, okd_int, -ok_seq]
      refine send_even hS'.fo.len hA' hbs hbl hv' h1 h2 hn1 hn2 fun s2 hC2 hA2 x3 => ?_
      exact ⟨l'.length, by simp, b.s, l', v :: vis, _, x3, rfl, rfl, ⟨hC2.len.trans hC.len, fun i hi => (hC2.eq i hi).trans (hC.eq i hi)⟩, hA2, hS2, by omega⟩
    · rw [hv'] at e1
      have e1 : atI (bs.map oN) (v : Int) = some (.int ((2 * j + 1 : Nat) : Int)) := e1
      simp [hbs, e1, h0, okd_int, -ok_seq]
      refine send_odd hS'.fo.len hA' hbs hbl hv' h1 h2 hn1 hn2 fun s2 hC2 hA2 x3 => ?_
      exact ⟨l'.length, by simp, b.e, l', v :: vis, _, x3, rfl, rfl, ⟨hC2.len.trans hC.len, fun i hi => (hC2.eq i hi).trans (hC.eq i hi)⟩, hA2, hS2, by omega⟩
end
theorem ok_send {P : Program} {w : World} {W : Wd} {base : Heap} (V : Ev W base) : DFn P w W base 3 (He.fAd W.K ("send", none)) 3 S_send := raw_send V 
abbrev N_best_kept : List Str := ["stays", "worths", "k", "moments", "arcs", "_", "costs", "first", "kept", "rents", "i", "stay"]
noncomputable def d_best_kept_1 : PD.Env → Mo Fl := (dSet 3 (fun ρ => bnd ((fun ρ => bnd ((fun ρ => bnd ((dLc (fun ρ => bnd ((dVar 0) ρ) srcM) (.nm 11) dYes (dBin oIx (dVar 11) (dC (.int 0))) [11]) ρ) fun l => bnd ((dLc (fun ρ => bnd ((dVar 0) ρ) srcM) (.nm 11) dYes (dBin oIx (dVar 11) (dC (.int 1))) [11]) ρ) fun m => capM (l ++ m)) ρ) sortSetQ) ρ) layL))
noncomputable def d_best_kept_2 : PD.Env → Mo Fl := (dRet (fun ρ => bnd ((dCons (fun ρ => bnd ((fun _ st => .ok [] st) ρ) tupM) (dCons (fun ρ => bnd ((fun _ st => .ok [] st) ρ) tupM) (fun _ st => .ok [] st))) ρ) tupM))
noncomputable def d_best_kept_3 : PD.Env → Mo Fl := (dIfS (dNotT (fun ρ => bnd ((dVar 3) ρ) truM)) d_best_kept_2 dNil)
noncomputable def d_best_kept_4 : PD.Env → Mo Fl := (dSet 4 (fun ρ => bnd ((dCons (dVar 3) (dCons (dVar 0) (dCons (dVar 1) (dCons (dVar 2) (fun _ st => .ok [] st))))) ρ) (callM 4 S_road)))
noncomputable def d_best_kept_5 : PD.Env → Mo Fl := (dDrop (fun ρ => bnd ((dCons (dVar 4) (dCons (dBin oIx (fun ρ => bnd ((dCons (dVar 4) (dCons (fun ρ => bnd ((dVar 3) ρ) lenM) (fun _ st => .ok [] st))) ρ) (callM 2 S_least_costs)) (dC (.int 1))) (dCons (dBin oSub (fun ρ => bnd ((dVar 3) ρ) lenM) (dC (.int 1))) (fun _ st => .ok [] st)))) ρ) (callM 3 S_send)))
noncomputable def d_best_kept_6 : PD.Env → Mo Fl := (dFor (fun ρ => bnd ((dCons (dVar 2) (fun _ st => .ok [] st)) ρ) rg1M) (gNm 5) d_best_kept_5)
noncomputable def d_best_kept_7 : PD.Env → Mo Fl := (dSet 6 (dBin oIx (fun ρ => bnd ((dCons (dVar 4) (dCons (fun ρ => bnd ((dVar 3) ρ) lenM) (fun _ st => .ok [] st))) ρ) (callM 2 S_least_costs)) (dC (.int 0))))
noncomputable def d_best_kept_8 : PD.Env → Mo Fl := (dSet 7 (dBin oMul (dC (.int 2)) (dBin oSub (fun ρ => bnd ((dVar 3) ρ) lenM) (dC (.int 1)))))
noncomputable def d_best_kept_9 : PD.Env → Mo Fl := (dSet 8 (fun ρ => bnd ((dLc (fun ρ => bnd ((dCons (fun ρ => bnd ((dVar 0) ρ) lenM) (fun _ st => .ok [] st)) ρ) rg1M) (.nm 10) (dB (dBin (oEq false) (dBin oIx (dBin oIx (dVar 4) (dBin oAdd (dVar 7) (dBin oMul (dC (.int 2)) (dVar 10)))) (dC (.int 2))) (dC (.int 0)))) (dVar 10) [10]) ρ) tupQ))
noncomputable def d_best_kept_10 : PD.Env → Mo Fl := (dSet 9 (fun ρ => bnd ((dLc (fun ρ => bnd ((dCons (dBin oSub (fun ρ => bnd ((dVar 3) ρ) lenM) (dC (.int 1))) (fun _ st => .ok [] st)) ρ) rg1M) (.nm 10) (dB (dBin oGt (dBin oIx (dVar 6) (dVar 10)) (dBin oIx (dVar 6) (dBin oAdd (dVar 10) (dC (.int 1)))))) (fun ρ => bnd ((dCons (dBin oIx (dVar 3) (dVar 10)) (dCons (dBin oSub (dBin oIx (dVar 6) (dVar 10)) (dBin oIx (dVar 6) (dBin oAdd (dVar 10) (dC (.int 1))))) (fun _ st => .ok [] st))) ρ) tupM) [10]) ρ) layL))
noncomputable def d_best_kept_11 : PD.Env → Mo Fl := (dRet (fun ρ => bnd ((dCons (dVar 8) (dCons (fun ρ => bnd ((fun ρ => bnd ((dVar 9) ρ) sqM) ρ) tupQ) (fun _ st => .ok [] st))) ρ) tupM))
noncomputable def d_best_kept : PD.Env → Mo Fl := (dSeq d_best_kept_1
    (dSeq d_best_kept_3
    (dSeq d_best_kept_4
    (dSeq d_best_kept_6
    (dSeq d_best_kept_7
    (dSeq d_best_kept_8
    (dSeq d_best_kept_9
    (dSeq d_best_kept_10
    d_best_kept_11))))))))
theorem sc_best_kept : FnScope N_best_kept ["stays", "worths", "k"] (defScope (top 17)) := C8.fnScope_by (by decide +kernel)
theorem body_best_kept {P : Program} {w : World} {W : Wd} {base : Heap} (V : Ev W base) (h_road : DFn P w W base 3 (He.fAd W.K ("road", none)) 4 S_road) (h_send : DFn P w W base 3 (He.fAd W.K ("send", none)) 3 S_send) (h_least_costs : DFn P w W base 3 (He.fAd W.K ("least_costs", none)) 2 S_least_costs) : Body P w W base N_best_kept "best_kept" (defScope (top 17)) (He.fAd W.K ("best_kept", none)) 3 (defBody (top 17)) d_best_kept := fun cdv A outer s H E =>
  (dss_cons (ds_set (i := 3) (de_l (dl_sortSetL (dl_catL (dl_lc (own := [("stay", 11)]) (di_e (de_var (i := 0))) (blkOk_by (N := N_best_kept) (sc := defScope (top 17)) (by decide +kernel)) (fun _ _ _ _ _ => (dp_name (i := 11))) (fun _ _ _ _ _ => dts_nil) (fun _ _ _ _ _ => (de_ix (de_var (i := 11)) de_int))) (du_l (dl_lc (own := [("stay", 11)]) (di_e (de_var (i := 0))) (blkOk_by (N := N_best_kept) (sc := defScope (top 17)) (by decide +kernel)) (fun _ _ _ _ _ => (dp_name (i := 11))) (fun _ _ _ _ _ => dts_nil) (fun _ _ _ _ _ => (de_ix (de_var (i := 11)) de_int))))) V.b_sorted V.b_set)))
    (dss_cons (ds_if (dt_not (dt_e (de_var (i := 3)))) (dss_one (ds_ret (de_tup (da_cons (de_tup da_nil) (da_cons (de_tup da_nil) da_nil))))) dss_nil)
    (dss_cons (ds_set (i := 4) (de_call (h_road.mono (by decide)) V.g_road (da_cons (de_var (i := 3)) (da_cons (de_var (i := 0)) (da_cons (de_var (i := 1)) (da_cons (de_var (i := 2)) da_nil))))))
    (dss_cons (ds_for (di_range1 (da_cons (de_var (i := 2)) da_nil) rfl V.b_range) (dg_name (i := 5)) (dss_one (ds_expr (de_call (h_send.mono (by decide)) V.g_send (da_cons (de_var (i := 4)) (da_cons (de_ix (de_call (h_least_costs.mono (by decide)) V.g_least_costs (da_cons (de_var (i := 4)) (da_cons (de_lenV (de_var (i := 3)) rfl V.b_len) da_nil))) de_int) (da_cons (de_sub (de_lenV (de_var (i := 3)) rfl V.b_len) de_int) da_nil)))))))
    (dss_cons (ds_set (i := 6) (de_ix (de_call (h_least_costs.mono (by decide)) V.g_least_costs (da_cons (de_var (i := 4)) (da_cons (de_lenV (de_var (i := 3)) rfl V.b_len) da_nil))) de_int))
    (dss_cons (ds_set (i := 7) (de_mul de_int (de_sub (de_lenV (de_var (i := 3)) rfl V.b_len) de_int)))
    (dss_cons (ds_set (i := 8) (de_tuple (dq_l (dl_lc (own := [("i", 10)]) (di_range1 (da_cons (de_lenV (de_var (i := 0)) rfl V.b_len) da_nil) rfl V.b_range) (blkOk_by (N := N_best_kept) (sc := defScope (top 17)) (by decide +kernel)) (fun _ _ _ _ _ => (dp_name (i := 10))) (fun _ _ _ _ _ => (dts_one (dt_eq (de_ix (de_ix (de_var (i := 4)) (de_add (de_var (i := 7)) (de_mul de_int (de_var (i := 10))))) de_int) de_int))) (fun _ _ _ _ _ => (de_var (i := 10))))) rfl V.b_tuple))
    (dss_cons (ds_setLc (i := 9) (own := [("i", 10)]) (di_range1 (da_cons (de_sub (de_lenV (de_var (i := 3)) rfl V.b_len) de_int) da_nil) rfl V.b_range) (blkOk_by (N := N_best_kept) (sc := defScope (top 17)) (by decide +kernel)) (fun _ _ _ _ _ => (dp_name (i := 10))) (fun _ _ _ _ _ => (dts_one (dt_gt (de_ix (de_var (i := 6)) (de_var (i := 10))) (de_ix (de_var (i := 6)) (de_add (de_var (i := 10)) de_int))))) (fun _ _ _ _ _ => (de_tup (da_cons (de_ix (de_var (i := 3)) (de_var (i := 10))) (da_cons (de_sub (de_ix (de_var (i := 6)) (de_var (i := 10))) (de_ix (de_var (i := 6)) (de_add (de_var (i := 10)) de_int))) da_nil)))))
    (dss_one (ds_ret (de_tup (da_cons (de_var (i := 8)) (da_cons (de_tuple (dq_e (de_var (i := 9))) rfl V.b_tuple) da_nil)))))))))))))
theorem raw_best_kept {P : Program} {w : World} {W : Wd} {base : Heap} (V : Ev W base) (h_road : DFn P w W base 3 (He.fAd W.K ("road", none)) 4 S_road) (h_send : DFn P w W base 3 (He.fAd W.K ("send", none)) 3 S_send) (h_least_costs : DFn P w W base 3 (He.fAd W.K ("least_costs", none)) 2 S_least_costs) : DFn P w W base 4 (He.fAd W.K ("best_kept", none)) 3 (bodyF 12 d_best_kept) := by
  obtain ⟨fd, F⟩ := V.D_best_kept
  exact DFn.of V.cx F sc_best_kept (F.bindsN fun _ _ _ _ _ _ us hl => match us, hl with | [_, _, _], _ => rfl) (body_best_kept V h_road h_send h_least_costs)
noncomputable def S_best_kept : List PV → Mo PV := bodyF 12 d_best_kept
theorem ref_best_kept : Ref 3 (bodyF 12 d_best_kept) S_best_kept := ref_self
theorem crs_zero : ∀ {B : List Ed} {n i : Nat}, crs B (zeros n) i = 0
  | [], n, _ => by cases n <;> rfl
  | _ :: _, 0, _ => rfl
  | b :: B, n + 1, i => by
    have := crs_zero (B := B) (n := n) (i := i)
    show (if b.s ≤ i ∧ i < b.e then (0 : Int) else 0) + crs B (zeros n) i = 0
    rw [this]
    split <;> rfl
theorem zeros_get {n i : Nat} {x : Int} (h : (zeros n)[i]? = some x) : x = 0 := by
  unfold zeros at h
  rw [List.getElem?_replicate] at h
  split at h
  · exact (Option.some.inj h).symm
  · cases h
theorem zeros_append {a b : Nat} : zeros a ++ zeros b = zeros (a + b) := by
  unfold zeros
  exact List.replicate_append_replicate
theorem net_start {M : Nat} {k W : Int} {SE : List Ed} (hk : 0 ≤ k) (hW : 0 ≤ W) (hSE : ∀ b ∈ SE, b.s < b.e ∧ b.e ≤ M ∧ b.cap = 1 ∧ -b.c ≤ W) : NetOk M k 0 SE (zeros M) (zeros SE.length) (fun v => -(W * v)) := by
  have hl : (zeros M ++ zeros SE.length).length = (chainE M k ++ SE).length := by simp [zeros, chain_len]
  have hB : ∀ b ∈ chainE M k ++ SE, b.s < b.e ∧ 0 ≤ b.cap ∧ -b.c ≤ W := fun b hb => by
    rw [List.mem_append] at hb
    rcases hb with hb | hb
    · obtain ⟨i, _, rfl⟩ := List.mem_map.mp hb
      exact ⟨Nat.lt_succ_self _, by show 0 ≤ k + 1; omega, by show -(0 : Int) ≤ W; omega⟩
    · obtain ⟨h1, h2, h3, h4⟩ := hSE b hb
      exact ⟨h1, by omega, h4⟩
  refine ⟨by simp [zeros], by simp [zeros], fun b hb => ⟨(hSE b hb).1, (hSE b hb).2.1, (hSE b hb).2.2.1⟩, ⟨hl, fun j b x h1 h2 => ?_⟩, fun i hi => by rw [zeros_append]; exact crs_zero, ?_⟩
  · rw [zeros_append] at h2
    have := zeros_get h2
    have := (hB b (List.mem_of_getElem? h1)).2.1
    omega
  · rw [feas_iff hl]
    intro j b x h1 h2
    rw [zeros_append] at h2
    have h0 := zeros_get h2
    obtain ⟨g1, g2, g3⟩ := hB b (List.mem_of_getElem? h1)
    refine ⟨fun _ => ?_, fun h => by omega⟩
    have e : (b.e : Int) = b.s + ((b.e - b.s : Nat) : Int) := by omega
    have : W * 1 ≤ W * ((b.e - b.s : Nat) : Int) := Int.mul_le_mul_of_nonneg_left (by omega) hW
    show -(W * (b.e : Int)) ≤ -(W * (b.s : Int)) + b.c
    rw [e, Int.mul_add]
    omega
theorem ChA.keep {ls : List Nat} {st0 st s : Sto} (h : ChA ls st s) (k : Keep st0 st) (hl : ∀ n ∈ ls, st0.length ≤ n) : Keep st0 s := ⟨by rw [h.len]; exact k.le, fun i hi => by
  rw [h.eq i (fun z => by have := hl i z; omega)]
  exact k.eq i hi⟩
theorem ArcsAt.keep {p : Nat} {ls : List Nat} {as : List Arc} {st s : Sto} (h : ArcsAt p ls as st) (k : Keep st s) : ArcsAt p ls as s := ⟨k.get h.at_, h.len, h.nd, h.np, fun i n a ha hn => k.get (h.arc i n a ha hn)⟩
/-- costs are not too low -/
def LowD (W : Int) (M : Nat) (d : Nat → Int) : Prop := d 0 = 0 ∧ ∀ v, v ≤ M → -(W * (v : Int)) ≤ d v
theorem LowD.next {W : Int} {M m : Nat} {d : Nat → Int} {as : List Arc} {ds : List (Option Int)} {bs : List (Option Nat)} (h : LowD W M d) (hb : BF as d m ds bs) (hr : ∀ v, v ≤ M → vO ds v ≠ none) : LowD W M (potF ds) := by
  refine ⟨by unfold potF; rw [hb.d0]; rfl, fun v hv => ?_⟩
  obtain ⟨y, hy⟩ := Option.ne_none_iff_exists'.mp (hr v hv)
  have h1 := hb.low v y hy
  have h2 := h.2 v hv
  have h3 := h.1
  unfold potF
  rw [hy]
  show _ ≤ y
  omega
section
variable {W : Int} {Q : Fl → Sto → Prop} {st0 st : Sto} {p mo M : Nat} {ls : List Nat} {L : List (Int × Int)} {ms ws : List Int} {k t : Int} {SE : List Ed} {G H : List Int} {d : Nat → Int} {x0 x1 x2 x3 x4 x5 x6 x7 x8 x9 x10 x11 : Option PV}
theorem NetOk.edges (h : NetOk M k t SE G H d) : ∀ b ∈ chainE M k ++ SE, b.s < b.e ∧ b.e < M + 1 := fun b hb => by
  rw [List.mem_append] at hb
  rcases hb with hb | hb
  · obtain ⟨i, hi, rfl⟩ := List.mem_map.mp hb
    have := List.mem_range.mp hi
    exact ⟨Nat.lt_succ_self _, by show i + 1 < M + 1; omega⟩
  · have := h.ed b hb
    omega
theorem NetOk.arcs (h : NetOk M k t SE G H d) : ∀ a ∈ netL (chainE M k ++ SE) (G ++ H), a.s < M + 1 ∧ a.e < M + 1 := fun a ha => by
  obtain ⟨j, b, x, h1, h2, h3⟩ := mem_net h.fo.len ha
  have := h.edges b (List.mem_of_getElem? h1)
  rcases h3 with rfl | rfl
  · exact ⟨by show b.s < M + 1; omega, by show b.e < M + 1; omega⟩
  · exact ⟨by show b.e < M + 1; omega, by show b.s < M + 1; omega⟩
theorem kept_turn (h : NetOk M k t SE G H d) (hlo : LowD W M d) (ht : t < k) (hA : ArcsAt p ls (netL (chainE M k ++ SE) (G ++ H)) st) (hm : st[mo]? = some (.lst false (ms.map PV.int))) (hM : ms.length = M + 1) (hMl : M < 1000000) (k0 : Keep st0 st) (hls : ∀ n ∈ ls, st0.length ≤ n)
    (K : ∀ s G' H' d', Keep st0 s → ArcsAt p ls (netL (chainE M k ++ SE) (G' ++ H')) s → NetOk M k (t + 1) SE G' H' d' → LowD W M d' → Q (.nx [x0, x1, x2, some (.loc mo), some (.loc p), x5, x6, x7, x8, x9, x10, x11]) s) : Ok (d_best_kept_5 [x0, x1, x2, some (.loc mo), some (.loc p), x5, x6, x7, x8, x9, x10, x11] st) Q := by
  simp [d_best_kept_5, hm]
  have e1 : ((ms.length : Nat) : Int) = ((M + 1 : Nat) : Int) := by rw [hM]
  rw [e1]
  refine least_costs_ok hA h.pot (by omega) (by omega) h.arcs fun dl bl ds bs s hL hD => ?_
  simp [hL.kp.get hm, hM]
  have hA' := hA.keep hL.kp
  refine send_ok (m := M + 1) hA' hL.b (fun z => by have := hA.lt bl z; have := hL.nb; omega) h.fo h.edges hL.bf hD (fun v hv => h.reach (by omega) hL.bf hD v (by omega)) (by omega) (fun i hi => h.cut i (by omega)) fun F s2 hC hA2 hF hf hc => ?_
  have hFl := hF.len
  rw [List.length_append, chain_len] at hFl
  have eF : F.take M ++ F.drop M = F := List.take_append_drop M F
  refine K s2 (F.take M) (F.drop M) (potF ds) (hC.keep (k0.trans hL.kp) hls) (by rw [eF]; exact hA2) ⟨by rw [List.length_take]; omega, by rw [List.length_drop]; omega, h.ed, by rw [eF]; exact hF, fun i hi => by rw [eF]; exact hc i (by omega), by rw [eF]; exact hf⟩ (hlo.next hL.bf fun v hv => h.reach (by omega) hL.bf hD v (by omega))
end
section
variable {W : Int} {Q : Fl → Sto → Prop} {st0 st : Sto} {p mo M kk : Nat} {ls : List Nat} {L : List (Int × Int)} {ms ws : List Int} {SE : List Ed} {G H : List Int} {d : Nat → Int} {x0 x1 x2 x3 x4 x5 x6 x7 x8 x9 x10 x11 : Option PV}
def KtI (W : Int) (st0 : Sto) (p mo M kk : Nat) (ls : List Nat) (SE : List Ed) (x0 x1 x6 x7 x8 x9 x10 x11 : Option PV) (i : Nat) (ρ : PD.Env) (s : Sto) : Prop := ∃ x5 G H d, ρ = [x0, x1, some (.int (kk : Int)), some (.loc mo), some (.loc p), x5, x6, x7, x8, x9, x10, x11] ∧ Keep st0 s ∧ ArcsAt p ls (netL (chainE M kk ++ SE) (G ++ H)) s ∧ NetOk M kk i SE G H d ∧ LowD W M d
theorem kept_loop (h : NetOk M kk 0 SE G H d) (hlo : LowD W M d) (hkk : kk ≤ 1000) (hA : ArcsAt p ls (netL (chainE M kk ++ SE) (G ++ H)) st) (hm : st0[mo]? = some (.lst false (ms.map PV.int))) (hM : ms.length = M + 1) (hMl : M < 1000000) (k0 : Keep st0 st) (hls : ∀ n ∈ ls, st0.length ≤ n)
    (K : ∀ s G' H' d' x5, Keep st0 s → ArcsAt p ls (netL (chainE M kk ++ SE) (G' ++ H')) s → NetOk M kk kk SE G' H' d' → LowD W M d' → Q (.nx [x0, x1, some (.int (kk : Int)), some (.loc mo), some (.loc p), x5, x6, x7, x8, x9, x10, x11]) s) : Ok (d_best_kept_6 [x0, x1, some (.int (kk : Int)), some (.loc mo), some (.loc p), x5, x6, x7, x8, x9, x10, x11] st) Q := by
  simp only [d_best_kept_6, e_for, ok_bnd]
  simp
  refine ⟨⟨by omega, by omega⟩, ?_⟩
  refine ok_forR (KtI W st0 p mo M kk ls SE x0 x1 x6 x7 x8 x9 x10 x11) ⟨_, G, H, d, rfl, k0, hA, h, hlo⟩ ?_ ?_
  · intro ρ s hP
    obtain ⟨x5, G', H', d', rfl, h1, h2, h3, h4⟩ := hP
    exact K s G' H' d' x5 h1 h2 h3 h4
  · intro i ρ s hi hP
    obtain ⟨x5, G', H', d', rfl, h1, h2, h3, h4⟩ := hP
    rw [e_gNm, ok_ok]
    refine kept_turn h3 h4 (by omega) h2 (h1.get hm) hM hMl h1 hls fun s2 G2 H2 d2 k1 k2 k3 k4 => ?_
    exact ⟨_, G2, H2, d2, rfl, k1, k2, by exact_mod_cast k3, k4⟩
end
section
variable {ms : List Int}
theorem pos_lt {x : Int} (h : x ∈ ms) : posM ms x < ms.length := List.idxOf_lt_length_of_mem h
theorem pos_get {x : Int} (h : x ∈ ms) : ms[posM ms x]? = some x := by
  have : ms.idxOf x < ms.length := pos_lt h
  show ms[ms.idxOf x]? = some x
  rw [List.getElem?_eq_getElem this, List.getElem_idxOf]
theorem pos_mono (hs : ms.Pairwise (· < ·)) {x y : Int} (hx : x ∈ ms) (hy : y ∈ ms) (h : x < y) : posM ms x < posM ms y := by
  have e1 := pos_get hx
  have e2 := pos_get hy
  have l1 := pos_lt hx
  have l2 := pos_lt hy
  rw [List.getElem?_eq_getElem l1] at e1
  rw [List.getElem?_eq_getElem l2] at e2
  have e1 := Option.some.inj e1
  have e2 := Option.some.inj e2
  rcases Nat.lt_trichotomy (posM ms x) (posM ms y) with q | q | q
  · exact q
  · have : x = y := by rw [← e1, ← e2]; congr 1
    omega
  · have := List.pairwise_iff_getElem.mp hs _ _ l2 l1 q
    omega
end
section
variable {Q : Fl → Sto → Prop} {st : Sto} {L : List (Int × Int)} {x1 x2 x3 x4 x5 x6 x7 x8 x9 x10 x11 : Option PV}
def ixP (i : Int) : PV → PV
  | .tup l => (atI l i).getD .non
  | _ => .non
def momS (L : List (Int × Int)) : List Int := srtI (L.map (·.1) ++ L.map (·.2))
theorem kept_moms (hL : L.length ≤ 1000) (k : Q (.nx [some (staysP L), x1, x2, some (.loc st.length), x4, x5, x6, x7, x8, x9, x10, x11]) (st ++ [.lst false ((momS L).map PV.int)])) : Ok (d_best_kept_1 [some (staysP L), x1, x2, x3, x4, x5, x6, x7, x8, x9, x10, x11] st) Q := by
  simp [d_best_kept_1, staysP, wipeE]
  have c1 := lc_map (st := st) (pt := .nm 11) (dt := dYes) (d := dBin oIx (dVar 11) (dC (PV.int 0))) (chk := (sV (L.map stP)).chk) (ρ := [some (.tup (L.map stP)), x1, x2, x3, x4, x5, x6, x7, x8, x9, x10, none]) (ixP 0) (by exact True.intro) (L.map stP) (fun z hz => by
    obtain ⟨a, _, rfl⟩ := List.mem_map.mp hz
    refine ⟨_, rfl, rfl, ?_⟩
    refine Ok.eq ?_
    simp [stP, ixP]) (by simp; omega)
  have c2 := lc_map (st := st) (pt := .nm 11) (dt := dYes) (d := dBin oIx (dVar 11) (dC (PV.int 1))) (chk := (sV (L.map stP)).chk) (ρ := [some (.tup (L.map stP)), x1, x2, x3, x4, x5, x6, x7, x8, x9, x10, none]) (ixP 1) (by exact True.intro) (L.map stP) (fun z hz => by
    obtain ⟨a, _, rfl⟩ := List.mem_map.mp hz
    refine ⟨_, rfl, rfl, ?_⟩
    refine Ok.eq ?_
    simp [stP, ixP]) (by simp; omega)
  rw [c1]
  simp only [ok_ok]
  rw [c2]
  simp only [ok_ok]
  have g1 : (L.map stP).map (ixP 0) = (L.map (·.1)).map PV.int := by rw [List.map_map, List.map_map]; exact List.map_congr_left fun a _ => by simp [stP, ixP]
  have g2 : (L.map stP).map (ixP 1) = (L.map (·.2)).map PV.int := by rw [List.map_map, List.map_map]; exact List.map_congr_left fun a _ => by simp [stP, ixP]
  rw [g1, g2, ← List.map_append]
  refine ⟨by simp; omega, ?_⟩
  have e : ∀ s, sortSetQ ((L.map (·.1) ++ L.map (·.2)).map PV.int) s = .ok ((momS L).map PV.int) s := fun s => by
    unfold sortSetQ
    rw [intsV_map]
    dsimp only
    rw [if_pos (by simp; omega)]
    rfl
  rw [e, ok_ok]
  exact k
end
section
variable {W : Int} {Q : Fl → Sto → Prop} {st0 st : Sto} {p mo M n : Nat} {kk : Int} {ls : List Nat} {L : List (Int × Int)} {ms ws : List Int} {SE : List Ed} {G H : List Int} {d : Nat → Int} {x0 x1 x2 x3 x4 x5 x6 x7 x8 x9 x10 x11 : Option PV}
theorem kept_costs (h : NetOk M kk kk SE G H d) (hlo : LowD W M d) (hA : ArcsAt p ls (netL (chainE M kk ++ SE) (G ++ H)) st) (hm : st[mo]? = some (.lst false (ms.map PV.int))) (hM : ms.length = M + 1) (hMl : M < 1000000)
    (K : ∀ s dl ds, Keep st s → s[dl]? = some (.lst false (ds.map oI)) → ds.length = M + 1 → (∀ v, v ≤ M → vO ds v ≠ none) → NetOk M kk kk SE G H (potF ds) → LowD W M (potF ds) → Q (.nx [x0, x1, x2, some (.loc mo), some (.loc p), x5, some (.loc dl), x7, x8, x9, x10, x11]) s) : Ok (d_best_kept_7 [x0, x1, x2, some (.loc mo), some (.loc p), x5, x6, x7, x8, x9, x10, x11] st) Q := by
  simp [d_best_kept_7, hm]
  have e1 : ((ms.length : Nat) : Int) = ((M + 1 : Nat) : Int) := by rw [hM]
  rw [e1]
  refine least_costs_ok hA h.pot (by omega) (by omega) h.arcs fun dl bl ds bs s hL hD => ?_
  have hr := h.reach (by omega) hL.bf hD
  simp
  refine K s dl ds hL.kp hL.d hL.bf.l1 hr ?_ (hlo.next hL.bf hr)
  refine ⟨h.lG, h.lH, h.ed, h.fo, h.cut, fun a ha hr' => ?_⟩
  have ha' := h.arcs a ha
  obtain ⟨y, hy⟩ := Option.ne_none_iff_exists'.mp (hr a.s (by omega))
  obtain ⟨z, hz, hle⟩ := hD a ha hr' y hy
  unfold potF
  rw [hy, hz]
  exact hle
end
def keptN (n : Nat) (H : List Int) : List Nat := (List.range n).filter fun i => decide (H[i]?.getD 0 = 1)
def keptI (n : Nat) (H : List Int) : List Int := (keptN n H).map fun i : Nat => (i : Int)
def rentsN (M : Nat) (ms : List Int) (d : Nat → Int) : List (Int × Int) := ((List.range M).filter fun i => decide (d (i + 1) < d i)).map fun i => (ms[i]?.getD 0, d i - d (i + 1))
section
variable {Q : Fl → Sto → Prop} {st0 st : Sto} {p mo dl M n : Nat} {kk t : Int} {ls : List Nat} {L : List (Int × Int)} {ms ws : List Int} {SE : List Ed} {G H : List Int} {d : Nat → Int} {ds : List (Option Int)} {x0 x1 x2 x3 x4 x5 x6 x7 x8 x9 x10 x11 : Option PV}
theorem dat {v : Nat} (h : v < ds.length) (hn : vO ds v ≠ none) : atI (ds.map oI) (v : Int) = some (.int (potF ds v)) := by
  rw [at_o h]
  obtain ⟨y, hy⟩ := Option.ne_none_iff_exists'.mp hn
  unfold potF
  rw [hy]
  rfl
theorem kept_nine (h : NetOk M kk t SE G H d) (hA : ArcsAt p ls (netL (chainE M kk ++ SE) (G ++ H)) st) (hL : L.length = SE.length) (hLl : L.length ≤ 1000)
    (K : Q (.nx [some (staysP L), x1, x2, x3, some (.loc p), x5, x6, some (.int (2 * (M : Int))), some (.tup ((keptI L.length H).map PV.int)), x9, x10, x11]) st) : Ok (d_best_kept_9 [some (staysP L), x1, x2, x3, some (.loc p), x5, x6, some (.int (2 * (M : Int))), x8, x9, x10, x11] st) Q := by
  simp [d_best_kept_9, staysP, wipeE]
  refine ⟨⟨by omega, by omega⟩, ?_⟩
  rw [lc_pure (fun q => decide (H[natOf q]?.getD 0 = 1)) (fun q => q) (by exact True.intro) (rgP 0 L.length) [] (fun q hq => by
    obtain ⟨i, hi, rfl⟩ := mem_rgP hq
    have hS : SE[i]? = some (SE[i]'(by omega)) := List.getElem?_eq_getElem (by omega)
    have hlH := h.lH
    have hHx : H[i]? = some (H[i]'(by omega)) := List.getElem?_eq_getElem (by omega)
    have e1 : (chainE M kk ++ SE)[M + i]? = some (SE[i]'(by omega)) := by
      rw [List.getElem?_append_right (by rw [chain_len]; omega), chain_len, Nat.add_sub_cancel_left]
      exact hS
    have e2 : (G ++ H)[M + i]? = some (H[i]'(by omega)) := by
      rw [List.getElem?_append_right (by rw [h.lG]; omega), h.lG, Nat.add_sub_cancel_left]
      exact hHx
    have e3 := net_even e1 e2
    have hcap := (h.ed _ (List.getElem_mem (by omega : i < SE.length))).2.2
    have hlt : 2 * (M + i) < ls.length := by rw [hA.len]; exact get_lt e3
    have e4 : ls[2 * (M + i)]? = some (ls[2 * (M + i)]'hlt) := List.getElem?_eq_getElem hlt
    have e5 := hA.arc _ _ _ e3 e4
    have e6 := at_l e4
    have e7 : (2 * (M : Int) + 2 * (i : Int)) = 2 * ((M : Int) + (i : Int)) := by omega
    have e9 : ((2 * (M + i) : Nat) : Int) = 2 * ((M : Int) + (i : Int)) := by omega
    rw [e9] at e6
    have e10 : CM 2 (i : Int) := .inl (by decide)
    refine ⟨_, rfl, ?_, fun _ => ?_⟩
    · refine Ok.eq ?_
      have e8 : atI (arcP ⟨(SE[i]'(by omega)).s, (SE[i]'(by omega)).e, (SE[i]'(by omega)).cap - (H[i]'(by omega)), (SE[i]'(by omega)).c⟩) 2 = some (.int (1 - (H[i]'(by omega)))) := by
        unfold arcP
        rw [hcap]
        rfl
      simp [hA.at_, e7, e6, e5, e8, e10, okd_int, hHx]
      rw [Bool.eq_iff_iff]
      simp
      omega
    · refine Ok.eq ?_
      simp) (by unfold rgP; simp; omega), ok_ok]
  have e := rgP_filter L.length fun i => decide (H[i]?.getD 0 = 1)
  rw [List.nil_append, e]
  have e2 : ((keptI L.length H).map PV.int) = ((List.range L.length).filter fun i => decide (H[i]?.getD 0 = 1)).map fun i : Nat => PV.int i := by
    unfold keptI keptN
    rw [List.map_map]
    rfl
  rw [e2] at K
  exact K
theorem kept_ten (hm : st[mo]? = some (.lst false (ms.map PV.int))) (hM : ms.length = M + 1) (hMl : M ≤ 1000) (hd : st[dl]? = some (.lst false (ds.map oI))) (hl : ds.length = M + 1) (hr : ∀ v, v ≤ M → vO ds v ≠ none)
    (K : Q (.nx [x0, x1, x2, some (.loc mo), x4, x5, some (.loc dl), x7, x8, some (.loc st.length), x10, x11]) (st ++ [.lst false ((rentsN M ms (potF ds)).map stP)])) : Ok (d_best_kept_10 [x0, x1, x2, some (.loc mo), x4, x5, some (.loc dl), x7, x8, x9, x10, x11] st) Q := by
  have hM1 : ((ms.map PV.int).length : Int) - 1 = (M : Int) := by rw [List.length_map]; omega
  have hM2 : (M : Int).toNat = M := by omega
  simp [d_best_kept_10, hm, wipeE]
  rw [show ((ms.length : Int) - 1) = (M : Int) by omega]
  refine ⟨⟨by omega, by omega⟩, ?_⟩
  rw [show ms.length - 1 = M by omega, lc_pure (fun q => decide (potF ds (natOf q + 1) < potF ds (natOf q))) (fun q => stP (ms[natOf q]?.getD 0, potF ds (natOf q) - potF ds (natOf q + 1))) (by exact True.intro) (rgP 0 M) [] (fun q hq => by
    obtain ⟨i, hi, rfl⟩ := mem_rgP hq
    have e1 := dat (ds := ds) (v := i) (by omega) (hr i (by omega))
    have e2 := dat (ds := ds) (v := i + 1) (by omega) (hr (i + 1) (by omega))
    have e3 := int_at (l := ms) (i := i) (by omega)
    rw [Int.natCast_add] at e2
    simp only [Int.cast_ofNat_Int] at e2
    refine ⟨_, rfl, ?_, fun _ => ?_⟩
    · refine Ok.eq ?_
      simp [hd, e1, e2]
    · refine Ok.eq ?_
      simp [hd, hm, e1, e2, e3, stP]) (by unfold rgP; simp; omega), ok_ok, List.nil_append]
  have e : ((rgP 0 M).filter fun q => decide (potF ds (natOf q + 1) < potF ds (natOf q))).map (fun q => stP (ms[natOf q]?.getD 0, potF ds (natOf q) - potF ds (natOf q + 1))) = (rentsN M ms (potF ds)).map stP := by
    unfold rentsN
    rw [rgP_eq, List.filter_map, List.map_map, List.map_map]
    rfl
  rw [e]
  exact K
end
/-! plain sums -/
theorem sumZ_zero {g : Nat → Int} : sumZ 0 g = 0 := rfl
theorem get_snoc {α : Type} {l : List α} {x : α} {t : Nat} {d : α} (h : t < l.length) : (l ++ [x])[t]?.getD d = l[t]?.getD d := by rw [List.getElem?_append_left h]
theorem get_last {α : Type} {l : List α} {x : α} {d : α} : (l ++ [x])[l.length]?.getD d = x := by
  rw [List.getElem?_append_right (Nat.le_refl _), Nat.sub_self]
  rfl
theorem range_snoc {α : Type} {e : Nat → α} {n : Nat} : (List.range (n + 1)).map e = (List.range n).map e ++ [e n] := by
  rw [List.range_succ, List.map_append]
  rfl
theorem len_snoc {α : Type} {l : List α} {n : Nat} (h : l.length = n + 1) : ∃ l' x, l = l' ++ [x] ∧ l'.length = n := by
  have hn : n < l.length := by omega
  refine ⟨l.take n, l[n], ?_, by rw [List.length_take]; omega⟩
  have e1 : l.drop n = [l[n]] := by
    rw [List.drop_eq_getElem_cons hn, List.drop_eq_nil_of_le (by omega)]
  rw [← e1, List.take_append_drop]
theorem crs_map {e : Nat → Ed} {i : Nat} : ∀ {n : Nat} {H : List Int}, H.length = n → crs ((List.range n).map e) H i = sumZ n fun t => if (e t).s ≤ i ∧ i < (e t).e then H[t]?.getD 0 else 0
  | 0, H, h => by
    have := List.eq_nil_of_length_eq_zero h
    subst this
    rfl
  | n + 1, H, h => by
    obtain ⟨H', x, rfl, hl⟩ := len_snoc h
    have ih := crs_map (e := e) (i := i) hl
    rw [range_snoc, crs_append (by rw [List.length_map, List.length_range, hl]), sumZ_succ, ih]
    have e1 : sumZ n (fun t => if (e t).s ≤ i ∧ i < (e t).e then (H' ++ [x])[t]?.getD 0 else 0) = sumZ n fun t => if (e t).s ≤ i ∧ i < (e t).e then H'[t]?.getD 0 else 0 := sumZ_congr fun t ht => by
      rw [get_snoc (by omega)]
    rw [e1]
    subst hl
    rw [get_last]
    show _ + ((if (e H'.length).s ≤ i ∧ i < (e H'.length).e then x else 0) + 0) = _
    omega
theorem due_app : ∀ {B : List Ed} {F : List Int} {b : Ed} {x : Int}, F.length = B.length → dueS (B ++ [b]) (F ++ [x]) = dueS B F + x * (-b.c)
  | [], [], b, x, _ => by show x * (-b.c) + 0 = 0 + x * (-b.c); omega
  | [], _ :: _, _, _, h => by simp at h
  | _ :: _, [], _, _, h => by simp at h
  | b' :: B, y :: F, b, x, h => by
    have ih := due_app (B := B) (F := F) (b := b) (x := x) (by simpa using h)
    show y * (-b'.c) + dueS (B ++ [b]) (F ++ [x]) = (y * (-b'.c) + dueS B F) + x * (-b.c)
    rw [ih]
    omega
theorem due_map {e : Nat → Ed} : ∀ {n : Nat} {H : List Int}, H.length = n → dueS ((List.range n).map e) H = sumZ n fun t => H[t]?.getD 0 * (-(e t).c)
  | 0, H, h => by
    have := List.eq_nil_of_length_eq_zero h
    subst this
    rfl
  | n + 1, H, h => by
    obtain ⟨H', x, rfl, hl⟩ := len_snoc h
    have ih := due_map (e := e) hl
    rw [range_snoc, due_app (by rw [List.length_map, List.length_range, hl]), sumZ_succ, ih]
    have e1 : sumZ n (fun t => (H' ++ [x])[t]?.getD 0 * (-(e t).c)) = sumZ n fun t => H'[t]?.getD 0 * (-(e t).c) := sumZ_congr fun t ht => by
      rw [get_snoc (by omega)]
    rw [e1]
    subst hl
    rw [get_last]
theorem over_app {d : Nat → Int} : ∀ {B : List Ed} {b : Ed}, overS d (B ++ [b]) = overS d B + max 0 (-b.c - (d b.s - d b.e))
  | [], b => by show max 0 (-b.c - (d b.s - d b.e)) + 0 = 0 + _; omega
  | b' :: B, b => by
    have ih := over_app (d := d) (B := B) (b := b)
    show max 0 (-b'.c - (d b'.s - d b'.e)) + overS d (B ++ [b]) = (max 0 (-b'.c - (d b'.s - d b'.e)) + overS d B) + _
    rw [ih]
    omega
theorem over_map {d : Nat → Int} {e : Nat → Ed} : ∀ {n : Nat}, overS d ((List.range n).map e) = sumZ n fun t => max 0 (-(e t).c - (d (e t).s - d (e t).e))
  | 0 => rfl
  | n + 1 => by rw [range_snoc, over_app, sumZ_succ, over_map]
theorem sum_filter {α : Type} (p : α → Bool) (f : α → Int) : ∀ l : List α, ((l.filter p).map f).sum = (l.map fun x => if p x = true then f x else 0).sum
  | [] => rfl
  | a :: l => by
    have ih := sum_filter p f l
    rw [List.filter_cons, List.map_cons, List.sum_cons, ← ih]
    split
    · rw [List.map_cons, List.sum_cons]
    · omega
theorem len_filter {α : Type} (p : α → Bool) : ∀ l : List α, ((l.filter p).length : Int) = (l.map fun x => if p x = true then (1 : Int) else 0).sum
  | [] => rfl
  | a :: l => by
    have ih := len_filter p l
    rw [List.filter_cons, List.map_cons, List.sum_cons, ← ih]
    split
    · rw [List.length_cons]; omega
    · omega
theorem sum_eqZ {n : Nat} {g : Nat → Int} : ((List.range n).map g).sum = sumZ n g := rfl
section
variable {ms : List Int}
theorem ms_get {i : Nat} (h : i < ms.length) : ms[i]?.getD 0 = ms[i] := by rw [List.getElem?_eq_getElem h]; rfl
theorem ms_lt (hs : ms.Pairwise (· < ·)) {i j : Nat} (hi : i < ms.length) (hj : j < ms.length) : ms[i] < ms[j] ↔ i < j := by
  rw [List.pairwise_iff_getElem] at hs
  constructor
  · intro h
    rcases Nat.lt_trichotomy i j with q | q | q
    · exact q
    · subst q; omega
    · have := hs j i hj hi q; omega
  · exact hs i j hi hj
theorem pos_at {x : Int} (h : x ∈ ms) : ms[posM ms x]'(pos_lt h) = x := by
  have := pos_get h
  rw [List.getElem?_eq_getElem (pos_lt h)] at this
  exact Option.some.inj this
/-- where a stay has a moment -/
theorem has_pos (hs : ms.Pairwise (· < ·)) {a : Int × Int} (h1 : a.1 ∈ ms) (h2 : a.2 ∈ ms) {i : Nat} (hi : i < ms.length) : hasM a ms[i] = decide (posM ms a.1 ≤ i ∧ i < posM ms a.2) := by
  have e1 := pos_at h1
  have e2 := pos_at h2
  have q1 := ms_lt hs hi (pos_lt h1)
  have q2 := ms_lt hs hi (pos_lt h2)
  rw [e1] at q1
  rw [e2] at q2
  unfold hasM
  rw [Bool.eq_iff_iff]
  simp only [Bool.and_eq_true, decide_eq_true_eq]
  omega
end
def wI (ws : List Int) (i : Int) : Int := ws[i.toNat]?.getD 0
def dueI (ws ns : List Int) : Int := (ns.map (wI ws)).sum
section
variable {M : Nat} {k W : Int} {L : List (Int × Int)} {ms ws G H : List Int} {d : Nat → Int}
/-- a stay's rent: the fall of the costs -/
theorem rent_fall (hs : ms.Pairwise (· < ·)) (hM : ms.length = M + 1) (hd : ∀ i, i < M → d (i + 1) ≤ d i) {a : Int × Int} (h1 : a.1 ∈ ms) (h2 : a.2 ∈ ms) (hlt : a.1 < a.2) : rentF (rentsN M ms d) a = d (posM ms a.1) - d (posM ms a.2) := by
  unfold rentF rentsN
  rw [List.filter_map, List.map_map, List.filter_filter, sum_filter, sum_eqZ]
  have hp := pos_mono hs h1 h2 hlt
  have hq := pos_lt h2
  rw [← sumZ_tel (d := d) (n := M) (by omega : posM ms a.1 ≤ posM ms a.2) (by omega)]
  refine sumZ_congr fun i hi => ?_
  have e := has_pos hs h1 h2 (i := i) (by omega)
  have hdi := hd i hi
  simp only [Function.comp_apply, ms_get (ms := ms) (i := i) (by omega), e, Bool.and_eq_true, decide_eq_true_eq]
  by_cases q : posM ms a.1 ≤ i ∧ i < posM ms a.2
  · by_cases r : d (i + 1) < d i
    · rw [if_pos ⟨q, r⟩, if_pos q]
    · rw [if_neg (fun z => r z.2), if_pos q]; omega
  · rw [if_neg (fun z => q z.1), if_neg q]
theorem rent_all (hd : ∀ i, i < M → d (i + 1) ≤ d i) : ((rentsN M ms d).map (·.2)).sum = sumZ M fun i => d i - d (i + 1) := by
  unfold rentsN
  rw [List.map_map, sum_filter, sum_eqZ]
  refine sumZ_congr fun i hi => ?_
  have hdi := hd i hi
  simp only [Function.comp_apply, decide_eq_true_eq]
  split
  · rfl
  · omega
theorem rents_okN (hs : ms.Pairwise (· < ·)) (hM : ms.length = M + 1) (hb : ∀ x ∈ ms, 0 ≤ x ∧ x ≤ 1000000) : RentsOk (rentsN M ms d) := by
  constructor
  · intro a ha
    obtain ⟨i, hi, rfl⟩ := List.mem_map.mp ha
    rw [List.mem_filter, List.mem_range, decide_eq_true_eq] at hi
    have := hb (ms[i]'(by omega)) (List.getElem_mem _)
    show 0 ≤ ms[i]?.getD 0 ∧ ms[i]?.getD 0 ≤ 1000000 ∧ 1 ≤ d i - d (i + 1)
    rw [ms_get (by omega)]
    omega
  · unfold rentsN
    rw [List.map_map, List.pairwise_map]
    have : ((List.range M).filter fun i => decide (d (i + 1) < d i)).Pairwise (· < ·) := List.Pairwise.filter _ List.pairwise_lt_range
    refine List.Pairwise.imp_of_mem ?_ this
    intro i j hi hj hij
    rw [List.mem_filter, List.mem_range] at hi hj
    show ms[i]?.getD 0 < ms[j]?.getD 0
    rw [ms_get (by omega), ms_get (by omega)]
    exact (ms_lt hs (by omega) (by omega)).mpr hij
theorem rents_len : (rentsN M ms d).length ≤ M := by
  unfold rentsN
  rw [List.length_map]
  have := List.length_filter_le (fun i => decide (d (i + 1) < d i)) (List.range M)
  rw [List.length_range] at this
  exact this
theorem rents_top (hd : ∀ i, i < M → d (i + 1) ≤ d i) (hlo : LowD W M d) (hW : 0 ≤ W) : ∀ a ∈ rentsN M ms d, a.2 ≤ W * (M : Int) := by
  have up : ∀ i, i ≤ M → d i ≤ 0 := by
    intro i
    induction i with
    | zero => intro _; rw [hlo.1]; omega
    | succ i ih =>
      intro hi
      have := ih (by omega)
      have := hd i (by omega)
      omega
  intro a ha
  obtain ⟨i, hi, rfl⟩ := List.mem_map.mp ha
  rw [List.mem_filter, List.mem_range] at hi
  have h1 := hlo.2 (i + 1) (by omega)
  have h2 := up i (by omega)
  have h3 : W * ((i + 1 : Nat) : Int) ≤ W * (M : Int) := Int.mul_le_mul_of_nonneg_left (by omega) hW
  show d i - d (i + 1) ≤ _
  omega
theorem kept_mem {n : Nat} {i : Int} (h : i ∈ keptI n H) : 0 ≤ i ∧ i < (n : Int) ∧ H[i.toNat]?.getD 0 = 1 := by
  obtain ⟨j, hj, rfl⟩ := List.mem_map.mp h
  unfold keptN at hj
  rw [List.mem_filter, List.mem_range, decide_eq_true_eq] at hj
  exact ⟨by omega, by omega, hj.2⟩
theorem ed_in (hmem : ∀ a ∈ L, a.1 ∈ ms ∧ a.2 ∈ ms) {t : Nat} (ht : t < L.length) : (gS L t).1 ∈ ms ∧ (gS L t).2 ∈ ms := by
  rw [gS_of ht]
  exact hmem _ (List.getElem_mem ht)
theorem stE_len {n : Nat} : (stE ms L ws n).length = n := by unfold stE; simp
theorem h01 (h : NetOk M k k (stE ms L ws L.length) G H d) {t : Nat} (ht : t < L.length) : H[t]?.getD 0 = 0 ∨ H[t]?.getD 0 = 1 := by
  have hl := h.lH
  rw [stE_len] at hl
  have e1 : (chainE M k ++ stE ms L ws L.length)[M + t]? = some (edS ms (gS L t) (ws[t]?.getD 0)) := by
    rw [List.getElem?_append_right (by rw [chain_len]; omega), chain_len, Nat.add_sub_cancel_left]
    unfold stE
    rw [List.getElem?_map, List.getElem?_range ht]
    rfl
  have e0 : H[t]? = some H[t] := List.getElem?_eq_getElem (by omega)
  have e2 : (G ++ H)[M + t]? = some H[t] := by
    rw [List.getElem?_append_right (by rw [h.lG]; omega), h.lG, Nat.add_sub_cancel_left]
    exact e0
  have := h.fo.bd _ _ _ e1 e2
  rw [e0]
  show H[t] = 0 ∨ H[t] = 1
  have hc : (edS ms (gS L t) (ws[t]?.getD 0)).cap = 1 := rfl
  omega
theorem kept_okN (hs : ms.Pairwise (· < ·)) (hM : ms.length = M + 1) (hmem : ∀ a ∈ L, a.1 ∈ ms ∧ a.2 ∈ ms) (hv : ∀ a ∈ L, a.1 < a.2) (h : NetOk M k k (stE ms L ws L.length) G H d) : KeptOk L k (keptI L.length H) := by
  have hl := h.lH
  rw [stE_len] at hl
  refine ⟨fun i hi => by have := kept_mem hi; omega, ?_, fun i hi => ?_⟩
  · unfold keptI keptN
    rw [List.pairwise_map]
    have : ((List.range L.length).filter fun i => decide (H[i]?.getD 0 = 1)).Pairwise (· < ·) := List.Pairwise.filter _ List.pairwise_lt_range
    exact this.imp fun h => by omega
  · obtain ⟨h0, h1, _⟩ := kept_mem hi
    obtain ⟨a1, a2⟩ := ed_in hmem (t := i.toNat) (by omega)
    have hlt : (gS L i.toNat).1 < (gS L i.toNat).2 := by
      rw [gS_of (by omega)]
      exact hv _ (List.getElem_mem _)
    have hp := pos_mono hs a1 a2 hlt
    have hq := pos_lt a2
    have hiM : posM ms (gI L i).1 < M := by unfold gI; omega
    obtain ⟨x, _, hx0, hx, _⟩ := h.chain hiM
    have em : ms[posM ms (gI L i).1]'(by omega) = (gI L i).1 := pos_at a1
    have ec : (cov ((keptI L.length H).map (gI L)) (gI L i).1 : Int) = crs (stE ms L ws L.length) H (posM ms (gI L i).1) := by
      unfold stE
      rw [crs_map hl]
      unfold cov keptI keptN
      rw [List.map_map, List.filter_map, List.length_map, List.filter_filter, len_filter, sum_eqZ]
      refine sumZ_congr fun t ht => ?_
      obtain ⟨b1, b2⟩ := ed_in hmem ht
      have eh := has_pos hs b1 b2 (i := posM ms (gI L i).1) (by omega)
      rw [em] at eh
      have hg : gI L (t : Int) = gS L t := rfl
      simp only [Function.comp_apply, hg, eh, Bool.and_eq_true, decide_eq_true_eq]
      show _ = if posM ms (gS L t).1 ≤ _ ∧ _ < posM ms (gS L t).2 then _ else _
      rcases h01 h ht with z | z
      · rw [z, if_neg (by omega)]
        split <;> rfl
      · rw [z]
        by_cases q : posM ms (gS L t).1 ≤ posM ms (gI L i).1 ∧ posM ms (gI L i).1 < posM ms (gS L t).2
        · rw [if_pos ⟨q, rfl⟩, if_pos q]
        · rw [if_neg (fun z => q z.1), if_neg q]
    rw [ec]
    omega
theorem kept_due (hs : ms.Pairwise (· < ·)) (hM : ms.length = M + 1) (hmem : ∀ a ∈ L, a.1 ∈ ms ∧ a.2 ∈ ms) (hv : ∀ a ∈ L, a.1 < a.2) (h : NetOk M k k (stE ms L ws L.length) G H d) : boundI L ws k (rentsN M ms d) = dueI ws (keptI L.length H) := by
  have hl := h.lH
  rw [stE_len] at hl
  have hd : ∀ i, i < M → d (i + 1) ≤ d i := fun i hi => (h.down (Int.le_refl _) hi).1
  have hdual := h.dual
  unfold stE at hdual
  rw [due_map hl, over_map] at hdual
  unfold boundI
  rw [rent_all hd, sum_eqZ]
  have e1 : sumZ L.length (overF L ws (rentsN M ms d)) = sumZ L.length fun t => max 0 (-(edS ms (gS L t) (ws[t]?.getD 0)).c - (d (edS ms (gS L t) (ws[t]?.getD 0)).s - d (edS ms (gS L t) (ws[t]?.getD 0)).e)) := sumZ_congr fun t ht => by
    obtain ⟨b1, b2⟩ := ed_in hmem ht
    have hlt : (gS L t).1 < (gS L t).2 := by
      rw [gS_of ht]
      exact hv _ (List.getElem_mem _)
    unfold overF
    rw [rent_fall hs hM hd b1 b2 hlt]
    unfold edS
    rw [Int.neg_neg]
  rw [e1, ← hdual]
  unfold dueI keptI keptN
  rw [List.map_map, sum_filter, sum_eqZ]
  refine sumZ_congr fun t ht => ?_
  have hw : wI ws (t : Int) = ws[t]?.getD 0 := rfl
  simp only [Function.comp_apply, hw, decide_eq_true_eq]
  show H[t]?.getD 0 * (- -(ws[t]?.getD 0)) = _
  rw [Int.neg_neg]
  rcases h01 h ht with z | z
  · rw [z, if_neg (by omega)]; omega
  · rw [z, if_pos rfl]; omega
end
section
variable {Q : PV → Sto → Prop} {st : Sto} {kk : Nat} {L : List (Int × Int)} {ws : List Int} {W : Int}
theorem momS_mem {a : Int × Int} (h : a ∈ L) : a.1 ∈ momS L ∧ a.2 ∈ momS L := by
  unfold momS
  rw [mem_srtI, mem_srtI, List.mem_append, List.mem_append]
  exact ⟨.inl (List.mem_map.mpr ⟨a, h, rfl⟩), .inr (List.mem_map.mpr ⟨a, h, rfl⟩)⟩
theorem momS_bd (hv : ∀ a ∈ L, 0 ≤ a.1 ∧ a.1 < a.2 ∧ a.2 ≤ 1000000) : ∀ x ∈ momS L, 0 ≤ x ∧ x ≤ 1000000 := fun x hx => by
  unfold momS at hx
  rw [mem_srtI, List.mem_append] at hx
  rcases hx with hx | hx
  · obtain ⟨a, ha, rfl⟩ := List.mem_map.mp hx
    have := hv a ha
    omega
  · obtain ⟨a, ha, rfl⟩ := List.mem_map.mp hx
    have := hv a ha
    omega
theorem momS_len : (momS L).length ≤ 2 * L.length := by
  have := srtI_length (L.map (·.1) ++ L.map (·.2))
  rw [List.length_append, List.length_map, List.length_map] at this
  unfold momS
  omega
theorem stE_ok (hv : ∀ a ∈ L, 0 ≤ a.1 ∧ a.1 < a.2 ∧ a.2 ≤ 1000000) {M : Nat} (hM : (momS L).length = M + 1) (hw : ws.length = L.length) (hW : ∀ w ∈ ws, w ≤ W) : ∀ b ∈ stE (momS L) L ws L.length, b.s < b.e ∧ b.e ≤ M ∧ b.cap = 1 ∧ -b.c ≤ W := fun b hb => by
  unfold stE at hb
  obtain ⟨t, ht, rfl⟩ := List.mem_map.mp hb
  have ht := List.mem_range.mp ht
  have hm : gS L t ∈ L := by rw [gS_of ht]; exact List.getElem_mem ht
  have ⟨m1, m2⟩ := momS_mem hm
  have h3 := pos_mono (srtI_lt _) m1 m2 (hv _ hm).2.1
  have h4 := pos_lt m2
  have hwt : ws[t]?.getD 0 ≤ W := by
    rw [List.getElem?_eq_getElem (by omega)]
    exact hW _ (List.getElem_mem _)
  refine ⟨h3, ?_, rfl, ?_⟩
  · show posM (momS L) (gS L t).2 ≤ M
    omega
  · show - -(ws[t]?.getD 0) ≤ W
    omega
theorem best_kept_ok (hL : L.length ≤ 60) (hv : ∀ a ∈ L, 0 ≤ a.1 ∧ a.1 < a.2 ∧ a.2 ≤ 1000000) (hw : ws.length = L.length) (hW : ∀ w ∈ ws, w ≤ W) (hW0 : 0 ≤ W) (hkk : kk ≤ 1000)
    (K : ∀ s ns rs, Keep st s → KeptOk L kk ns → RentsOk rs → boundI L ws kk rs = dueI ws ns → rs.length ≤ 120 → (∀ a ∈ rs, a.2 ≤ W * 120) → Q (.tup [.tup (ns.map PV.int), staysP rs]) s) :
    Ok (S_best_kept [staysP L, .tup (ws.map PV.int), .int (kk : Int)] st) Q := by
  unfold S_best_kept
  rw [e_body, ok_bnd]
  simp only [d_best_kept]
  simp only [start0, List.length_cons, List.length_nil, List.map_cons, List.map_nil, List.cons_append, List.nil_append]
  rw [ok_seq]
  refine kept_moms (by omega) ?_
  rw [seqK_nx, ok_seq]
  by_cases hne : momS L = []
  · have hL0 : L = [] := by
      cases L with
      | nil => rfl
      | cons a L =>
        have := (momS_mem (L := a :: L) (List.mem_cons_self ..)).1
        rw [hne] at this
        cases this
    subst hL0
    simp [d_best_kept_3, d_best_kept_2, hne, truM]
    have z := K (st ++ [.lst false []]) [] [] Keep.refl.app ⟨(fun _ h => nomatch h), List.Pairwise.nil, (fun _ h => nomatch h)⟩ ⟨(fun _ h => nomatch h), List.Pairwise.nil⟩ (by simp [boundI, dueI]) (by simp) (fun _ h => nomatch h)
    simpa [staysP] using z
  have hpos : 0 < (momS L).length := List.length_pos_iff.mpr hne
  have hml := momS_len (L := L)
  obtain ⟨M, hM⟩ : ∃ M, (momS L).length = M + 1 := ⟨(momS L).length - 1, by omega⟩
  have hst : (st ++ [Ob.lst false ((momS L).map PV.int)])[st.length]? = some (.lst false ((momS L).map PV.int)) := by simp
  have kp0 : Keep st (st ++ [Ob.lst false ((momS L).map PV.int)]) := Keep.refl.app
  revert hst kp0
  generalize st ++ [Ob.lst false ((momS L).map PV.int)] = st1
  intro hst kp0
  simp [d_best_kept_3, hne, hpos, truM, hst, -ok_seq]
  rw [ok_seq]
  simp [d_best_kept_4, -ok_seq]
  have hmem : ∀ a ∈ L, a.1 ∈ momS L ∧ a.2 ∈ momS L := fun a ha => momS_mem ha
  have hlt : ∀ a ∈ L, a.1 < a.2 := fun a ha => (hv a ha).2.1
  have hasc : (momS L).Pairwise (· < ·) := srtI_lt _
  refine road_ok (k := (kk : Int)) hst (by omega) hne (by omega) hmem hw fun p ls s hR => ?_
  have hM1 : (momS L).length - 1 = M := by omega
  rw [hM1] at hR
  have hSE := stE_ok hv hM hw hW
  have n0 := net_start (M := M) (k := (kk : Int)) (W := W) (by omega) hW0 hSE
  have hz : zeros (chainE M (kk : Int) ++ stE (momS L) L ws L.length).length = zeros M ++ zeros (stE (momS L) L ws L.length).length := by
    rw [zeros_append, List.length_append, chain_len]
  have hA := hR.arcs
  rw [hz] at hA
  rw [ok_seq]
  refine kept_loop (W := W) n0 ⟨by simp, fun v hv => Int.le_refl _⟩ hkk hA hst hM (by omega) hR.kp hR.new.2 fun s2 G H d x5 k2 hA2 n2 lo2 => ?_
  rw [seqK_nx, ok_seq]
  refine kept_costs n2 lo2 hA2 (k2.get hst) hM (by omega) fun s3 dl ds k3 hdl hdsl hr n3 lo3 => ?_
  rw [seqK_nx, ok_seq]
  have k23 := k2.trans k3
  have hm3 := k23.get hst
  have e1 : (((momS L).length : Nat) : Int) - 1 = (M : Int) := by omega
  simp [d_best_kept_8, hm3, CM, e1, -ok_seq]
  rw [ok_seq]
  refine kept_nine n3 (hA2.keep k3) stE_len.symm (by omega) ?_
  rw [seqK_nx, ok_seq]
  refine kept_ten hm3 hM (by omega) hdl hdsl hr ?_
  simp [d_best_kept_11, -List.map_map]
  have hdn : ∀ i, i < M → potF ds (i + 1) ≤ potF ds i := fun i hi => (n3.down (Int.le_refl _) hi).1
  have hrl := rents_len (M := M) (ms := momS L) (d := potF ds)
  have kf : Keep st (s3 ++ [Ob.lst false ((rentsN M (momS L) (potF ds)).map stP)]) := ((kp0.trans k23)).app
  refine K _ (keptI L.length H) (rentsN M (momS L) (potF ds)) kf (kept_okN hasc hM hmem hlt n3) (rents_okN hasc hM (momS_bd hv)) (kept_due hasc hM hmem hlt n3) (by omega) fun a ha => ?_
  have h1 := rents_top (ms := momS L) hdn lo3 hW0 a ha
  have h2 : W * (M : Int) ≤ W * 120 := Int.mul_le_mul_of_nonneg_left (by omega) hW0
  omega
end
theorem ok_best_kept {P : Program} {w : World} {W : Wd} {base : Heap} (V : Ev W base) : DFn P w W base 4 (He.fAd W.K ("best_kept", none)) 3 S_best_kept := raw_best_kept V (ok_road V) (ok_send V) (ok_least_costs V)
abbrev N__law_box : List Str := ["script"]
noncomputable def d__law_box_1 : PD.Env → Mo Fl := (dRet (fun ρ => bnd ((fun ρ => bnd ((dCons (fun ρ => bnd ((fun ρ => bnd ((dSlL (dVar 0) (fun _ st => .ok none st) (fun ρ => bnd ((dC (.int 63)) ρ) intM)) ρ) fun l => fun st => .ok l st) ρ) layL) (dCons (dC (.int 0)) (dCons (dBin oAdd (dC (.int 4711)) (fun ρ => bnd ((dVar 0) ρ) lenM)) (fun _ st => .ok [] st)))) ρ) capM) ρ) layL))
noncomputable def d__law_box : PD.Env → Mo Fl := d__law_box_1
theorem sc__law_box : FnScope N__law_box ["script"] (defScope (top 19)) := C8.fnScope_by (by decide +kernel)
theorem body__law_box {P : Program} {w : World} {W : Wd} {base : Heap} (V : Ev W base)  : Body P w W base N__law_box "_law_box" (defScope (top 19)) (He.fAd W.K ("_law_box", none)) 2 (defBody (top 19)) d__law_box := fun cdv A outer s H E =>
  (dss_one (ds_ret (de_l (dl_lst (da_cons (de_l (dl_list (dq_l (dl_sl (de_var (i := 0)) do_none (do_some de_int))) rfl V.b_list)) (da_cons de_int (da_cons (de_add de_int (de_lenV (de_var (i := 0)) rfl V.b_len)) da_nil)))))))
theorem raw__law_box {P : Program} {w : World} {W : Wd} {base : Heap} (V : Ev W base)  : DFn P w W base 3 (He.fAd W.K ("_law_box", none)) 1 (bodyF 1 d__law_box) := by
  obtain ⟨fd, F⟩ := V.D__law_box
  exact DFn.of V.cx F sc__law_box (F.bindsN fun _ _ _ _ _ _ us hl => match us, hl with | [_], _ => rfl) (body__law_box V )
noncomputable def S__law_box : List PV → Mo PV := bodyF 1 d__law_box
theorem ref__law_box : Ref 1 (bodyF 1 d__law_box) S__law_box := ref_self
theorem ok__law_box {P : Program} {w : World} {W : Wd} {base : Heap} (V : Ev W base) : DFn P w W base 3 (He.fAd W.K ("_law_box", none)) 1 S__law_box := raw__law_box V 
abbrev N__law_load : List Str := ["box", "cells", "first", "second", "cell", "size"]
noncomputable def d__law_load_1 : PD.Env → Mo Fl := (dSet 1 (dBin oIx (dVar 0) (dC (.int 0))))
noncomputable def d__law_load_2 : PD.Env → Mo Fl := (dSet 4 (fun ρ => bnd ((fun ρ => bnd ((dVar 1) ρ) fun q => bnd (lstM q) fun _ => bnd (dCons (dC (.int 0)) (fun _ st => .ok [] st) ρ) fun l => popAtM q l) ρ) intV))
noncomputable def d__law_load_3 : PD.Env → Mo Fl := (dSet 5 (dIf (dB (dBin oGe (dVar 4) (dC (.int 0)))) (dBin oMul (dC (.int 2)) (dVar 4)) (dBin oSub (dBin oMul (dUn oNeg (dC (.int 2))) (dVar 4)) (dC (.int 1)))))
noncomputable def d__law_load_4 : PD.Env → Mo Fl := (dRet (dVar 5))
noncomputable def d__law_load_5 : PD.Env → Mo Fl := (dIfS (dB (dBin oGe (dVar 5) (dC (.int 1000000000000000000)))) d__law_load_4 dNil)
noncomputable def d__law_load_6 : PD.Env → Mo Fl := (dAsg (dBin oMod (fun ρ => bnd ((dBin oAdd (dBin oAdd (dBin oMul (dBin oIx (dVar 0) (dC (.int 2))) (dC (.int 69621))) (dBin oMul (dVar 5) (dC (.int 48271)))) (dC (.int 11))) ρ) intV) (dC (.int 2147483647))) (gSb (dVar 0) (dC (.int 2))))
noncomputable def d__law_load_7 : PD.Env → Mo Fl := (dIfS (dB (dBin oGt (fun ρ => bnd ((dVar 1) ρ) lenM) (dC (.int 0)))) (dSeq d__law_load_2
    (dSeq d__law_load_3
    (dSeq d__law_load_5
    d__law_load_6))) dNil)
noncomputable def d__law_load_8 : PD.Env → Mo Fl := (dSet 2 (dBin oMod (fun ρ => bnd ((dBin oAdd (dBin oMul (dBin oIx (dVar 0) (dC (.int 2))) (dC (.int 48271))) (dC (.int 17))) ρ) intV) (dC (.int 2147483629))))
noncomputable def d__law_load_9 : PD.Env → Mo Fl := (dSet 3 (dBin oMod (fun ρ => bnd ((dBin oAdd (dBin oMul (dVar 2) (dC (.int 69621))) (dC (.int 5))) ρ) intV) (dC (.int 2147483587))))
noncomputable def d__law_load_10 : PD.Env → Mo Fl := (dAsg (dBin oMod (fun ρ => bnd ((dBin oAdd (dBin oMul (dVar 3) (dC (.int 40692))) (dC (.int 3))) ρ) intV) (dC (.int 2147483563))) (gSb (dVar 0) (dC (.int 2))))
noncomputable def d__law_load_11 : PD.Env → Mo Fl := (dRet (dBin oAdd (dBin oAdd (dBin oMul (dVar 2) (dC (.int 4611686014132420609))) (dBin oMul (dVar 3) (dC (.int 2147483647)))) (dBin oIx (dVar 0) (dC (.int 2)))))
noncomputable def d__law_load : PD.Env → Mo Fl := (dSeq d__law_load_1
    (dSeq d__law_load_7
    (dSeq d__law_load_8
    (dSeq d__law_load_9
    (dSeq d__law_load_10
    d__law_load_11)))))
theorem sc__law_load : FnScope N__law_load ["box"] (defScope (top 20)) := C8.fnScope_by (by decide +kernel)
theorem body__law_load {P : Program} {w : World} {W : Wd} {base : Heap} (V : Ev W base)  : Body P w W base N__law_load "_law_load" (defScope (top 20)) (He.fAd W.K ("_law_load", none)) 2 (defBody (top 20)) d__law_load := fun cdv A outer s H E =>
  (dss_cons (ds_set (i := 1) (de_ix (de_var (i := 0)) de_int))
    (dss_cons (ds_if (dt_gt (de_lenV (de_var (i := 1)) rfl V.b_len) de_int) (dss_cons (ds_set (i := 4) (de_intc (de_popAt (de_var (i := 1)) de_int) rfl V.b_int))
    (dss_cons (ds_set (i := 5) (de_if (dt_ge (de_var (i := 4)) de_int) (de_mul de_int (de_var (i := 4))) (de_sub (de_mul (de_neg de_int) (de_var (i := 4))) de_int)))
    (dss_cons (ds_if (dt_ge (de_var (i := 5)) de_int) (dss_one (ds_ret (de_var (i := 5)))) dss_nil)
    (dss_one (ds_asg (de_mod (de_intc (de_add (de_add (de_mul (de_ix (de_var (i := 0)) de_int) de_int) (de_mul (de_var (i := 5)) de_int)) de_int) rfl V.b_int) de_int) (dg_sub (de_var (i := 0)) de_int)))))) dss_nil)
    (dss_cons (ds_set (i := 2) (de_mod (de_intc (de_add (de_mul (de_ix (de_var (i := 0)) de_int) de_int) de_int) rfl V.b_int) de_int))
    (dss_cons (ds_set (i := 3) (de_mod (de_intc (de_add (de_mul (de_var (i := 2)) de_int) de_int) rfl V.b_int) de_int))
    (dss_cons (ds_asg (de_mod (de_intc (de_add (de_mul (de_var (i := 3)) de_int) de_int) rfl V.b_int) de_int) (dg_sub (de_var (i := 0)) de_int))
    (dss_one (ds_ret (de_add (de_add (de_mul (de_var (i := 2)) de_int) (de_mul (de_var (i := 3)) de_int)) (de_ix (de_var (i := 0)) de_int)))))))))
theorem raw__law_load {P : Program} {w : World} {W : Wd} {base : Heap} (V : Ev W base)  : DFn P w W base 3 (He.fAd W.K ("_law_load", none)) 1 (bodyF 6 d__law_load) := by
  obtain ⟨fd, F⟩ := V.D__law_load
  exact DFn.of V.cx F sc__law_load (F.bindsN fun _ _ _ _ _ _ us hl => match us, hl with | [_], _ => rfl) (body__law_load V )
noncomputable def S__law_load : List PV → Mo PV := bodyF 6 d__law_load
theorem ref__law_load : Ref 1 (bodyF 6 d__law_load) S__law_load := ref_self
/-- the last part: two more numbers -/
theorem law_load_tail {b c : Nat} {st : Sto} {x1 x4 x5 : Option PV} (h : BoxAt b c st) : Ok (dSeq d__law_load_8 (dSeq d__law_load_9 (dSeq d__law_load_10 d__law_load_11)) [some (.loc b), x1, none, none, x4, x5] st) (fun fl s => (∃ d : Int, fl = .rt (.int d)) ∧ Bx b c st s) := by
  obtain ⟨v, sd, e⟩ := h.bx
  have hb := h.lt.1
  have hself : ∀ o : Ob, (st.set b o)[b]? = some o := fun o => List.getElem?_set_self hb
  simp [d__law_load_8, d__law_load_9, d__law_load_10, d__law_load_11, e, atI3_2, ixN3_2, hself, CM]
  exact ⟨Ch.setB, h.setB⟩
theorem law_load_ok {b c : Nat} {st : Sto} (h : BoxAt b c st) : Ok (S__law_load [.loc b] st) (fun p s => (∃ d : Int, p = .int d) ∧ Bx b c st s) := by
  obtain ⟨v, sd, e⟩ := h.bx
  obtain ⟨l, ec, hl⟩ := h.cs
  have hb := h.lt.1
  have hc := h.lt.2
  unfold S__law_load
  simp only [e_body, d__law_load, ok_bnd, ok_seq]
  simp [start0, d__law_load_1, e, atI3_0, d__law_load_7, ec]
  have fin : ∀ (s0 : Sto) (x1 x4 x5 : Option PV), Bx b c st s0 → Ok (dSeq d__law_load_8 (dSeq d__law_load_9 (dSeq d__law_load_10 d__law_load_11)) [some (.loc b), x1, none, none, x4, x5] s0) (fun fl s1 => Ok (retF fl s1) fun p s => (∃ d : Int, p = .int d) ∧ Bx b c st s) := fun s0 x1 x4 x5 hs => by
    refine (law_load_tail hs.2).imp fun fl s hh => ?_
    obtain ⟨⟨d, rfl⟩, h2, h3⟩ := hh
    simp
    exact ⟨hs.1.trans h2, h3⟩
  cases l with
  | nil =>
    have z := fin st (some (.loc c)) none none ⟨Ch.refl, h⟩
    rw [ok_seq] at z
    simpa using z
  | cons x l =>
    have e' : (st.set c (.lst false (l.map PV.int)))[b]? = some (.lst false [.loc c, .int v, .int sd]) := by rw [List.getElem?_set_ne (Ne.symm h.ne)]; exact e
    have hl' : l.length ≤ 16777216 := by rw [List.length_cons] at hl; omega
    have h1 := h.setC hl'
    have b1 : Bx b c st (st.set c (.lst false (l.map PV.int))) := ⟨Ch.setC, h1⟩
    have z : ∀ (x4 x5 : Option PV) (v sd : Int), Ok (dSeq d__law_load_8 (dSeq d__law_load_9 (dSeq d__law_load_10 d__law_load_11)) [some (.loc b), some (.loc c), none, none, x4, x5] ((st.set c (.lst false (l.map PV.int))).set b (.lst false [.loc c, .int v, .int sd]))) (fun fl s1 => Ok (retF fl s1) fun p s => (∃ d : Int, p = .int d) ∧ Bx b c st s) := fun x4 x5 v sd => fin _ _ _ _ ⟨b1.1.trans Ch.setB, h1.setB⟩
    simp only [ok_seq] at z
    simp [d__law_load_2, d__law_load_3, d__law_load_4, d__law_load_5, d__law_load_6, ec, seqIndex_0, e', atI3_2, ixN3_2, CM, hl']
    split
    · split
      · exact b1
      · simpa using z _ _ _ _
    · split
      · exact b1
      · simpa using z _ _ _ _
theorem ok__law_load {P : Program} {w : World} {W : Wd} {base : Heap} (V : Ev W base) : DFn P w W base 3 (He.fAd W.K ("_law_load", none)) 1 S__law_load := raw__law_load V 
abbrev N__law_draw : List Str := ["box", "many", "digit"]
noncomputable def d__law_draw_1 : PD.Env → Mo Fl := (dAsg (fun ρ => bnd ((dCons (dVar 0) (fun _ st => .ok [] st)) ρ) (callM 1 S__law_load)) (gSb (dVar 0) (dC (.int 1))))
noncomputable def d__law_draw_2 : PD.Env → Mo Fl := (dIfS (dB (dBin oLt (dBin oIx (dVar 0) (dC (.int 1))) (dVar 1))) d__law_draw_1 dNil)
noncomputable def d__law_draw_3 : PD.Env → Mo Fl := (dSet 2 (dBin oMod (fun ρ => bnd ((dBin oIx (dVar 0) (dC (.int 1))) ρ) intV) (dVar 1)))
noncomputable def d__law_draw_4 : PD.Env → Mo Fl := (dAsg (dBin oDiv (dBin oIx (dVar 0) (dC (.int 1))) (dVar 1)) (gSb (dVar 0) (dC (.int 1))))
noncomputable def d__law_draw_5 : PD.Env → Mo Fl := (dRet (dVar 2))
noncomputable def d__law_draw : PD.Env → Mo Fl := (dSeq d__law_draw_2
    (dSeq d__law_draw_3
    (dSeq d__law_draw_4
    d__law_draw_5)))
theorem sc__law_draw : FnScope N__law_draw ["box", "many"] (defScope (top 21)) := C8.fnScope_by (by decide +kernel)
theorem body__law_draw {P : Program} {w : World} {W : Wd} {base : Heap} (V : Ev W base) (h__law_load : DFn P w W base 3 (He.fAd W.K ("_law_load", none)) 1 S__law_load) : Body P w W base N__law_draw "_law_draw" (defScope (top 21)) (He.fAd W.K ("_law_draw", none)) 3 (defBody (top 21)) d__law_draw := fun cdv A outer s H E =>
  (dss_cons (ds_if (dt_lt (de_ix (de_var (i := 0)) de_int) (de_var (i := 1))) (dss_one (ds_asg (de_call (h__law_load.mono (by decide)) V.g__law_load (da_cons (de_var (i := 0)) da_nil)) (dg_sub (de_var (i := 0)) de_int))) dss_nil)
    (dss_cons (ds_set (i := 2) (de_mod (de_intc (de_ix (de_var (i := 0)) de_int) rfl V.b_int) (de_var (i := 1))))
    (dss_cons (ds_asg (de_div (de_ix (de_var (i := 0)) de_int) (de_var (i := 1))) (dg_sub (de_var (i := 0)) de_int))
    (dss_one (ds_ret (de_var (i := 2)))))))
theorem raw__law_draw {P : Program} {w : World} {W : Wd} {base : Heap} (V : Ev W base) (h__law_load : DFn P w W base 3 (He.fAd W.K ("_law_load", none)) 1 S__law_load) : DFn P w W base 4 (He.fAd W.K ("_law_draw", none)) 2 (bodyF 3 d__law_draw) := by
  obtain ⟨fd, F⟩ := V.D__law_draw
  exact DFn.of V.cx F sc__law_draw (F.bindsN fun _ _ _ _ _ _ us hl => match us, hl with | [_, _], _ => rfl) (body__law_draw V h__law_load)
noncomputable def S__law_draw : List PV → Mo PV := bodyF 3 d__law_draw
theorem ref__law_draw : Ref 2 (bodyF 3 d__law_draw) S__law_draw := ref_self
theorem law_draw_ok {b c : Nat} {st : Sto} {m : Int} (h : BoxAt b c st) (hm : 0 < m) (hm2 : m < 1073741824) : Ok (S__law_draw [.loc b, .int m] st) (fun p s => ∃ d : Int, p = .int d ∧ 0 ≤ d ∧ d < m ∧ Bx b c st s) := by
  have tail : ∀ s0 : Sto, Bx b c st s0 → Ok (dSeq d__law_draw_3 (dSeq d__law_draw_4 d__law_draw_5) [some (.loc b), some (.int m), none] s0) (fun fl s1 => Ok (retF fl s1) fun p s => ∃ d : Int, p = .int d ∧ 0 ≤ d ∧ d < m ∧ Bx b c st s) := fun s0 hs => by
    obtain ⟨v, sd, e⟩ := hs.2.bx
    have hb := hs.2.lt.1
    have hself : ∀ o : Ob, (s0.set b o)[b]? = some o := fun o => List.getElem?_set_self hb
    simp [d__law_draw_3, d__law_draw_4, d__law_draw_5, e, atI3_1, ixN3_1, hself, hm]
    have q1 := Int.emod_nonneg v (show m ≠ 0 by omega)
    have q2 := Int.emod_lt_of_pos v hm
    have q3 := hs.1.trans (Ch.setB (o := .lst false [.loc c, .int (v / m), .int sd]))
    have q4 := hs.2.setB (v := v / m) (sd := sd)
    exact ⟨⟨hm, hm2⟩, q1, q2, q3, q4⟩
  obtain ⟨v, sd, e⟩ := h.bx
  unfold S__law_draw
  simp only [e_body, d__law_draw, ok_bnd]
  rw [ok_seq]
  simp [start0, d__law_draw_2, e, atI3_1, d__law_draw_1, -ok_seq]
  split
  · refine (law_load_ok h).imp fun p s hh => ?_
    obtain ⟨⟨d, rfl⟩, h2, h3⟩ := hh
    obtain ⟨v', sd', e'⟩ := h3.bx
    simp [e', ixN3_1, -ok_seq]
    exact tail _ ⟨h2.trans Ch.setB, h3.setB⟩
  · simpa [-ok_seq] using tail st ⟨Ch.refl, h⟩
theorem law_box_ok {p : PV} {ns : List Int} {st : Sto} (h : ScrAt p ns st) (hn : ns.length ≤ 63) : Ok (S__law_box [p] st) (fun q s => ∃ b c, q = .loc b ∧ BoxAt b c s ∧ st.length ≤ b ∧ st.length ≤ c ∧ ∃ ex, s = st ++ ex) := by
  have e1 : ∀ s, lstM p (st ++ s) = .ok (ns.map PV.int) (st ++ s) := fun s => by
    rcases h with rfl | ⟨i, lk, rfl, e⟩
    · rfl
    · have e' : (st ++ s)[i]? = some (.lst lk (ns.map PV.int)) := by
        rw [List.getElem?_append_left (List.getElem?_eq_some_iff.mp e).1]; exact e
      rw [m_lstL, e']
  have e2 : ∀ s, lenM p (st ++ s) = .ok (.int (ns.length : Int)) (st ++ s) := fun s => by
    rcases h with rfl | ⟨i, lk, rfl, e⟩
    · exact m_lenK
    · have e' : (st ++ s)[i]? = some (.lst lk (ns.map PV.int)) := by
        rw [List.getElem?_append_left (List.getElem?_eq_some_iff.mp e).1]; exact e
      rw [m_lenL, e']
      simp
  have e10 := e1 []
  rw [List.append_nil] at e10
  have hc : cutP (ns.map PV.int) none (some 63) = ns.map PV.int := by
    unfold cutP
    rw [show (63 : Int) = ((63 : Nat) : Int) from rfl, HT.sIx_nat, HT.sIx_none, List.length_map, List.drop_zero, Nat.sub_zero, Nat.min_eq_right hn]
    exact List.take_of_length_le (by simp)
  unfold S__law_box
  simp [d__law_box, d__law_box_1, start0, e10, hc, e2]
  exact ⟨st.length, ⟨by omega, ⟨0, 4711 + (ns.length : Int), by rw [List.getElem?_append_right (by omega)]; simp⟩, ⟨ns, by simp, by omega⟩⟩, Nat.le_refl _⟩
theorem ok__law_draw {P : Program} {w : World} {W : Wd} {base : Heap} (V : Ev W base) : DFn P w W base 4 (He.fAd W.K ("_law_draw", none)) 2 S__law_draw := raw__law_draw V (ok__law_load V)
abbrev N__law_same : List Str := ["a", "b", "k"]
noncomputable def d__law_same_1 (S__law_same : List PV → Mo PV) : PD.Env → Mo Fl := (dRet (dAndV (dBin (oEq false) (fun ρ => bnd ((dVar 0) ρ) lenM) (fun ρ => bnd ((dVar 1) ρ) lenM)) (fun ρ => bnd ((dLc (fun ρ => bnd ((dCons (fun ρ => bnd ((dVar 0) ρ) lenM) (fun _ st => .ok [] st)) ρ) rg1M) (.nm 2) dYes (fun ρ => bnd ((dCons (dBin oIx (dVar 0) (dVar 2)) (dCons (dBin oIx (dVar 1) (dVar 2)) (fun _ st => .ok [] st))) ρ) (callM 2 S__law_same)) [2]) ρ) allQ)))
noncomputable def d__law_same_2 (S__law_same : List PV → Mo PV) : PD.Env → Mo Fl := (dIfS (dOrT (dAndT (fun ρ => bnd ((dIsi .tup (dVar 0)) ρ) truM) (fun ρ => bnd ((dIsi .tup (dVar 1)) ρ) truM)) (dAndT (fun ρ => bnd ((dIsi .lst (dVar 0)) ρ) truM) (fun ρ => bnd ((dIsi .lst (dVar 1)) ρ) truM))) (d__law_same_1 S__law_same) dNil)
noncomputable def d__law_same_3 (S__law_same : List PV → Mo PV) : PD.Env → Mo Fl := (dRet (dAndV (dIsi .bl (dVar 0)) (dAndV (dIsi .bl (dVar 1)) (dBin (oEq false) (dVar 0) (dVar 1)))))
noncomputable def d__law_same_4 (S__law_same : List PV → Mo PV) : PD.Env → Mo Fl := (dIfS (dOrT (fun ρ => bnd ((dIsi .bl (dVar 0)) ρ) truM) (fun ρ => bnd ((dIsi .bl (dVar 1)) ρ) truM)) (d__law_same_3 S__law_same) dNil)
noncomputable def d__law_same_5 (S__law_same : List PV → Mo PV) : PD.Env → Mo Fl := (dRet (dBin (oEq false) (dVar 0) (dVar 1)))
noncomputable def d__law_same_6 (S__law_same : List PV → Mo PV) : PD.Env → Mo Fl := (dIfS (dOrT (dAndT (fun ρ => bnd ((dIsi .int (dVar 0)) ρ) truM) (fun ρ => bnd ((dIsi .int (dVar 1)) ρ) truM)) (dAndT (fun ρ => bnd ((dIsi .str (dVar 0)) ρ) truM) (fun ρ => bnd ((dIsi .str (dVar 1)) ρ) truM))) (d__law_same_5 S__law_same) dNil)
noncomputable def d__law_same_7 (S__law_same : List PV → Mo PV) : PD.Env → Mo Fl := (dRet (dAndV (dBin (fun p q => match q with | .non => oIsN false p q | _ => fail) (dVar 0) (dC .non)) (dBin (fun p q => match q with | .non => oIsN false p q | _ => fail) (dVar 1) (dC .non))))
noncomputable def d__law_same (S__law_same : List PV → Mo PV) : PD.Env → Mo Fl := (dSeq (d__law_same_2 S__law_same)
    (dSeq (d__law_same_4 S__law_same)
    (dSeq (d__law_same_6 S__law_same)
    (d__law_same_7 S__law_same))))
theorem sc__law_same : FnScope N__law_same ["a", "b"] (defScope (top 22)) := C8.fnScope_by (by decide +kernel)
theorem body__law_same {P : Program} {w : World} {W : Wd} {base : Heap} (V : Ev W base) {S__law_same : List PV → Mo PV} {k : Nat} (hk : 2 ≤ k) (h__law_same : DFn P w W base k (He.fAd W.K ("_law_same", none)) 2 S__law_same) : Body P w W base N__law_same "_law_same" (defScope (top 22)) (He.fAd W.K ("_law_same", none)) k (defBody (top 22)) (d__law_same S__law_same) := fun cdv A outer s H E =>
  (dss_cons (ds_if (dt_w (dw_or (dt_w (dw_and (dt_e (de_isi .tup (de_var (i := 0)) rfl V.b_isinstance rfl V.b_tuple boot_tuple_)) (dw_and1 (dt_e (de_isi .tup (de_var (i := 1)) rfl V.b_isinstance rfl V.b_tuple boot_tuple_))))) (dw_or1 (dt_w (dw_and (dt_e (de_isi .lst (de_var (i := 0)) rfl V.b_isinstance rfl V.b_list boot_list_)) (dw_and1 (dt_e (de_isi .lst (de_var (i := 1)) rfl V.b_isinstance rfl V.b_list boot_list_)))))))) (dss_one (ds_ret (de_and (de_eq (de_lenV (de_var (i := 0)) rfl V.b_len) (de_lenV (de_var (i := 1)) rfl V.b_len)) (de_one (de_all (dl_lc (own := [("k", 2)]) (di_range1 (da_cons (de_lenV (de_var (i := 0)) rfl V.b_len) da_nil) rfl V.b_range) (blkOk_by (N := N__law_same) (sc := defScope (top 22)) (by decide +kernel)) (fun _ _ _ _ _ => (dp_name (i := 2))) (fun _ _ _ _ _ => dts_nil) (fun _ _ _ _ _ => (de_call (h__law_same.mono (by omega)) V.g__law_same (da_cons (de_ix (de_var (i := 0)) (de_var (i := 2))) (da_cons (de_ix (de_var (i := 1)) (de_var (i := 2))) da_nil))))) rfl V.b_all))))) dss_nil)
    (dss_cons (ds_if (dt_w (dw_or (dt_e (de_isi .bl (de_var (i := 0)) rfl V.b_isinstance rfl V.b_bool boot_bool_)) (dw_or1 (dt_e (de_isi .bl (de_var (i := 1)) rfl V.b_isinstance rfl V.b_bool boot_bool_))))) (dss_one (ds_ret (de_and (de_isi .bl (de_var (i := 0)) rfl V.b_isinstance rfl V.b_bool boot_bool_) (de_and (de_isi .bl (de_var (i := 1)) rfl V.b_isinstance rfl V.b_bool boot_bool_) (de_one (de_eq (de_var (i := 0)) (de_var (i := 1)))))))) dss_nil)
    (dss_cons (ds_if (dt_w (dw_or (dt_w (dw_and (dt_e (de_isi .int (de_var (i := 0)) rfl V.b_isinstance rfl V.b_int boot_int_)) (dw_and1 (dt_e (de_isi .int (de_var (i := 1)) rfl V.b_isinstance rfl V.b_int boot_int_))))) (dw_or1 (dt_w (dw_and (dt_e (de_isi .str (de_var (i := 0)) rfl V.b_isinstance rfl V.b_str boot_str_)) (dw_and1 (dt_e (de_isi .str (de_var (i := 1)) rfl V.b_isinstance rfl V.b_str boot_str_)))))))) (dss_one (ds_ret (de_eq (de_var (i := 0)) (de_var (i := 1))))) dss_nil)
    (dss_one (ds_ret (de_and (de_isN (de_var (i := 0))) (de_one (de_isN (de_var (i := 1))))))))))
theorem raw__law_same {P : Program} {w : World} {W : Wd} {base : Heap} (V : Ev W base) {S__law_same : List PV → Mo PV} {k : Nat} (hk : 2 ≤ k) (h__law_same : DFn P w W base k (He.fAd W.K ("_law_same", none)) 2 S__law_same) : DFn P w W base (k + 1) (He.fAd W.K ("_law_same", none)) 2 (bodyF 3 (d__law_same S__law_same)) := by
  obtain ⟨fd, F⟩ := V.D__law_same
  exact DFn.of V.cx F sc__law_same (F.bindsN fun _ _ _ _ _ _ us hl => match us, hl with | [_, _], _ => rfl) (body__law_same V hk h__law_same)
noncomputable def S0__law_same : List PV → Mo PV := pureS (fun ps => ∃ a, ps = [a, a] ∧ sca a = true) fun _ => .bl true
theorem law_same_sca {a : PV} {S : List PV → Mo PV} {st : Sto} (h : sca a = true) : Ok (bodyF 3 (d__law_same S) [a, a] st) (fun p s => p = .bl true ∧ s = st) := by
  cases a with
  | bl b => cases b <;> simp [d__law_same, d__law_same_2, d__law_same_4, d__law_same_3, start0, isK, okd]
  | int i => simp [d__law_same, d__law_same_2, d__law_same_4, d__law_same_6, d__law_same_5, start0, isK, okd_int]
  | _ => cases h
theorem ref0__law_same : Ref 2 (bodyF 3 (d__law_same fun _ => fail)) S0__law_same := ref_same (fun ps st h => by
  obtain ⟨a, rfl, ha⟩ := h
  exact law_same_sca ha) (fun ps m h => rfl)
noncomputable def S__law_same : List PV → Mo PV := pureS (fun ps => ∃ a, ps = [a, a] ∧ (sca a = true ∨ ∃ l : List PV, a = .tup l ∧ l.length ≤ 16777216 ∧ ∀ q ∈ l, sca q = true)) fun _ => .bl true
theorem nox__law_same : NoX S__law_same := nox_pure
theorem ref__law_same : Ref 2 (bodyF 3 (d__law_same S0__law_same)) S__law_same := ref_same (fun ps st h => by
  obtain ⟨a, rfl, ha⟩ := h
  rcases ha with ha | ⟨l, rfl, hl, hs⟩
  · exact law_same_sca ha
  · have hr : RgOk ((l.length : Nat) : Int) := ⟨by omega, by omega⟩
    simp [d__law_same, d__law_same_2, d__law_same_1, start0, isK, okd_int]
    refine ⟨hr, ?_⟩
    rw [lc_pure (fun _ => true) (fun _ => .bl true) (by exact True.intro) (rgP 0 l.length) [] (fun q hq => by
      obtain ⟨i, hi, rfl⟩ := mem_rgP hq
      refine ⟨_, rfl, rfl, fun _ => ?_⟩
      refine Ok.eq ?_
      have e : S0__law_same [l[i], l[i]] st = .ok (.bl true) st := pureS_ok ⟨_, rfl, hs _ (List.getElem_mem hi)⟩
      simp [wipeE, atI_get hi, e]) (by unfold rgP; simpa using hl)]
    rw [List.nil_append, List.filter_eq_self.mpr (fun _ _ => rfl)]
    generalize rgP 0 l.length = x
    have z : allQ (x.map fun _ => PV.bl true) st = .ok (.bl true) st := by
      unfold allQ bnd
      have : ∀ x : List PV, blsM (x.map fun _ => PV.bl true) st = .ok (x.map fun _ => true) st := fun x => by
        induction x with
        | nil => rfl
        | cons y x ih => exact (by simp only [List.map_cons, blsM, bnd, m_bl, ih])
      rw [this]
      simp
    rw [ok_ok, z]
    simp) (fun ps m h => rfl)
@[simp] theorem law_same_ok1 {a : PV} {st : Sto} (h : sca a = true) : S__law_same [a, a] st = .ok (.bl true) st := pureS_ok ⟨a, rfl, .inl h⟩
theorem law_same_ok2 {l : List PV} {st : Sto} (hl : l.length ≤ 16777216) (h : ∀ q ∈ l, sca q = true) : S__law_same [.tup l, .tup l] st = .ok (.bl true) st := pureS_ok ⟨_, rfl, .inr ⟨l, rfl, hl, h⟩⟩


theorem ok__law_same {P : Program} {w : World} {W : Wd} {base : Heap} (V : Ev W base) : DFn P w W base 6 (He.fAd W.K ("_law_same", none)) 2 S__law_same := by
  obtain ⟨fd, F⟩ := V.D__law_same
  have d0 : DFn P w W base 2 (He.fAd W.K ("_law_same", none)) 2 (fun _ => fail) := DFn.none_ V.cx F sc__law_same (F.bindsN fun _ _ _ _ _ _ us hl => match us, hl with | [_, _], _ => rfl)
  have d1 := (raw__law_same V (by omega) d0).ref ref0__law_same nox_pure
  exact ((raw__law_same V (by omega) d1).ref ref__law_same nox__law_same).mono (by decide)
abbrev N__law_stays : List Str := ["box", "many", "span", "scale", "base", "rows", "turn", "first", "last", "other"]
noncomputable def d__law_stays_1 : PD.Env → Mo Fl := (dSet 2 (dBin oAdd (dC (.int 3)) (fun ρ => bnd ((dCons (dVar 0) (dCons (dC (.int 12)) (fun _ st => .ok [] st))) ρ) (callM 2 S__law_draw))))
noncomputable def d__law_stays_2 : PD.Env → Mo Fl := (dSet 3 (fun ρ => bnd ((fun ρ => bnd ((dCons (dC (.int 1)) (dCons (dC (.int 1)) (dCons (dBin oAdd (dC (.int 1)) (fun ρ => bnd ((dCons (dVar 0) (dCons (dBin oDiv (dC (.int 900000)) (dVar 2)) (fun _ st => .ok [] st))) ρ) (callM 2 S__law_draw))) (fun _ st => .ok [] st)))) ρ) capM) ρ) fun l => bnd ((fun ρ => bnd ((dCons (dVar 0) (dCons (dC (.int 3)) (fun _ st => .ok [] st))) ρ) (callM 2 S__law_draw)) ρ) fun i => ixQ l i))
noncomputable def d__law_stays_3 : PD.Env → Mo Fl := (dSet 4 (fun ρ => bnd ((fun ρ => bnd ((dCons (dC (.int 0)) (dCons (fun ρ => bnd ((dCons (dVar 0) (dCons (dC (.int 90000)) (fun _ st => .ok [] st))) ρ) (callM 2 S__law_draw)) (dCons (dBin oSub (dC (.int 1000000)) (dBin oMul (dVar 2) (dVar 3))) (fun _ st => .ok [] st)))) ρ) capM) ρ) fun l => bnd ((fun ρ => bnd ((dCons (dVar 0) (dCons (dC (.int 3)) (fun _ st => .ok [] st))) ρ) (callM 2 S__law_draw)) ρ) fun i => ixQ l i))
noncomputable def d__law_stays_4 : PD.Env → Mo Fl := (dSet 5 (fun ρ => bnd ((fun ρ => bnd ((fun _ st => .ok [] st) ρ) capM) ρ) layL))
noncomputable def d__law_stays_5 : PD.Env → Mo Fl := (dSet 7 (fun ρ => bnd ((dCons (dVar 0) (dCons (dVar 2) (fun _ st => .ok [] st))) ρ) (callM 2 S__law_draw)))
noncomputable def d__law_stays_6 : PD.Env → Mo Fl := (dSet 8 (dBin oAdd (dBin oAdd (dVar 7) (dC (.int 1))) (fun ρ => bnd ((dCons (dVar 0) (dCons (dBin oSub (dVar 2) (dVar 7)) (fun _ st => .ok [] st))) ρ) (callM 2 S__law_draw))))
noncomputable def d__law_stays_7 : PD.Env → Mo Fl := (dSet 9 (dBin oIx (dVar 5) (fun ρ => bnd ((dCons (dVar 0) (dCons (fun ρ => bnd ((dVar 5) ρ) lenM) (fun _ st => .ok [] st))) ρ) (callM 2 S__law_draw))))
noncomputable def d__law_stays_8 : PD.Env → Mo Fl := (dAsg (fun ρ => bnd ((fun ρ => bnd ((dCons (fun ρ => bnd ((dCons (dBin oIx (dVar 9) (dC (.int 0))) (dCons (dBin oIx (dVar 9) (dC (.int 1))) (fun _ st => .ok [] st))) ρ) tupM) (dCons (fun ρ => bnd ((dCons (dBin oIx (dVar 9) (dC (.int 0))) (dCons (dBin oMax (dVar 8) (dBin oAdd (dBin oIx (dVar 9) (dC (.int 0))) (dC (.int 1)))) (fun _ st => .ok [] st))) ρ) tupM) (dCons (fun ρ => bnd ((dCons (dBin oMin (dVar 7) (dBin oSub (dBin oIx (dVar 9) (dC (.int 1))) (dC (.int 1)))) (dCons (dBin oIx (dVar 9) (dC (.int 1))) (fun _ st => .ok [] st))) ρ) tupM) (fun _ st => .ok [] st)))) ρ) capM) ρ) fun l => bnd ((fun ρ => bnd ((dCons (dVar 0) (dCons (dC (.int 3)) (fun _ st => .ok [] st))) ρ) (callM 2 S__law_draw)) ρ) fun i => ixQ l i) (gTp 2 (gCs (gNm 7) (gCs (gNm 8) gNl))))
noncomputable def d__law_stays_9 : PD.Env → Mo Fl := (dIfS (dAndT (dB (dBin oGt (fun ρ => bnd ((dVar 5) ρ) lenM) (dC (.int 0)))) (dB (dBin (oEq false) (fun ρ => bnd ((dCons (dVar 0) (dCons (dC (.int 5)) (fun _ st => .ok [] st))) ρ) (callM 2 S__law_draw)) (dC (.int 0))))) (dSeq d__law_stays_7
    d__law_stays_8) dNil)
noncomputable def d__law_stays_10 : PD.Env → Mo Fl := (dDrop (fun ρ => bnd ((dVar 5) ρ) fun q => bnd (lstM q) fun _ => bnd (dCons (fun ρ => bnd ((dCons (dVar 7) (dCons (dVar 8) (fun _ st => .ok [] st))) ρ) tupM) (fun _ st => .ok [] st) ρ) fun l => appM q l))
noncomputable def d__law_stays_11 : PD.Env → Mo Fl := (dFor (fun ρ => bnd ((dCons (dVar 1) (fun _ st => .ok [] st)) ρ) rg1M) (gNm 6) (dSeq d__law_stays_5
    (dSeq d__law_stays_6
    (dSeq d__law_stays_9
    d__law_stays_10))))
noncomputable def d__law_stays_12 : PD.Env → Mo Fl := (dRet (fun ρ => bnd ((dLc (fun ρ => bnd ((dVar 5) ρ) srcM) (.tp [(.nm 7), (.nm 8)]) dYes (fun ρ => bnd ((dCons (dBin oAdd (dVar 4) (dBin oMul (dVar 3) (dVar 7))) (dCons (dBin oAdd (dVar 4) (dBin oMul (dVar 3) (dVar 8))) (fun _ st => .ok [] st))) ρ) tupM) [7, 8]) ρ) tupQ))
noncomputable def d__law_stays : PD.Env → Mo Fl := (dSeq d__law_stays_1
    (dSeq d__law_stays_2
    (dSeq d__law_stays_3
    (dSeq d__law_stays_4
    (dSeq d__law_stays_11
    d__law_stays_12)))))
theorem sc__law_stays : FnScope N__law_stays ["box", "many"] (defScope (top 23)) := C8.fnScope_by (by decide +kernel)
theorem body__law_stays {P : Program} {w : World} {W : Wd} {base : Heap} (V : Ev W base) (h__law_draw : DFn P w W base 4 (He.fAd W.K ("_law_draw", none)) 2 S__law_draw) : Body P w W base N__law_stays "_law_stays" (defScope (top 23)) (He.fAd W.K ("_law_stays", none)) 4 (defBody (top 23)) d__law_stays := fun cdv A outer s H E =>
  (dss_cons (ds_set (i := 2) (de_add de_int (de_call (h__law_draw.mono (by decide)) V.g__law_draw (da_cons (de_var (i := 0)) (da_cons de_int da_nil)))))
    (dss_cons (ds_set (i := 3) (de_ixL (dl_lst (da_cons de_int (da_cons de_int (da_cons (de_add de_int (de_call (h__law_draw.mono (by decide)) V.g__law_draw (da_cons (de_var (i := 0)) (da_cons (de_div de_int (de_var (i := 2))) da_nil)))) da_nil)))) (de_call (h__law_draw.mono (by decide)) V.g__law_draw (da_cons (de_var (i := 0)) (da_cons de_int da_nil)))))
    (dss_cons (ds_set (i := 4) (de_ixL (dl_lst (da_cons de_int (da_cons (de_call (h__law_draw.mono (by decide)) V.g__law_draw (da_cons (de_var (i := 0)) (da_cons de_int da_nil))) (da_cons (de_sub de_int (de_mul (de_var (i := 2)) (de_var (i := 3)))) da_nil)))) (de_call (h__law_draw.mono (by decide)) V.g__law_draw (da_cons (de_var (i := 0)) (da_cons de_int da_nil)))))
    (dss_cons (ds_set (i := 5) (de_l (dl_lst da_nil)))
    (dss_cons (ds_for (di_range1 (da_cons (de_var (i := 1)) da_nil) rfl V.b_range) (dg_name (i := 6)) (dss_cons (ds_set (i := 7) (de_call (h__law_draw.mono (by decide)) V.g__law_draw (da_cons (de_var (i := 0)) (da_cons (de_var (i := 2)) da_nil))))
    (dss_cons (ds_set (i := 8) (de_add (de_add (de_var (i := 7)) de_int) (de_call (h__law_draw.mono (by decide)) V.g__law_draw (da_cons (de_var (i := 0)) (da_cons (de_sub (de_var (i := 2)) (de_var (i := 7))) da_nil)))))
    (dss_cons (ds_if (dt_w (dw_and (dt_gt (de_lenV (de_var (i := 5)) rfl V.b_len) de_int) (dw_and1 (dt_eq (de_call (h__law_draw.mono (by decide)) V.g__law_draw (da_cons (de_var (i := 0)) (da_cons de_int da_nil))) de_int)))) (dss_cons (ds_set (i := 9) (de_ix (de_var (i := 5)) (de_call (h__law_draw.mono (by decide)) V.g__law_draw (da_cons (de_var (i := 0)) (da_cons (de_lenV (de_var (i := 5)) rfl V.b_len) da_nil)))))
    (dss_one (ds_asg (de_ixL (dl_lst (da_cons (de_tup (da_cons (de_ix (de_var (i := 9)) de_int) (da_cons (de_ix (de_var (i := 9)) de_int) da_nil))) (da_cons (de_tup (da_cons (de_ix (de_var (i := 9)) de_int) (da_cons (de_max2 (de_var (i := 8)) (de_add (de_ix (de_var (i := 9)) de_int) de_int) rfl V.b_max) da_nil))) (da_cons (de_tup (da_cons (de_min2 (de_var (i := 7)) (de_sub (de_ix (de_var (i := 9)) de_int) de_int) rfl V.b_min) (da_cons (de_ix (de_var (i := 9)) de_int) da_nil))) da_nil)))) (de_call (h__law_draw.mono (by decide)) V.g__law_draw (da_cons (de_var (i := 0)) (da_cons de_int da_nil)))) (dg_tup (dgs_cons (dg_name (i := 7)) (dgs_cons (dg_name (i := 8)) dgs_nil)))))) dss_nil)
    (dss_one (ds_expr (de_append (de_var (i := 5)) (de_tup (da_cons (de_var (i := 7)) (da_cons (de_var (i := 8)) da_nil))))))))))
    (dss_one (ds_ret (de_tuple (dq_l (dl_lc (own := [("first", 7), ("last", 8)]) (di_e (de_var (i := 5))) (blkOk_by (N := N__law_stays) (sc := defScope (top 23)) (by decide +kernel)) (fun _ _ _ _ _ => (dp_tup (dps_cons (dp_name (i := 7)) (dps_cons (dp_name (i := 8)) dps_nil)))) (fun _ _ _ _ _ => dts_nil) (fun _ _ _ _ _ => (de_tup (da_cons (de_add (de_var (i := 4)) (de_mul (de_var (i := 3)) (de_var (i := 7)))) (da_cons (de_add (de_var (i := 4)) (de_mul (de_var (i := 3)) (de_var (i := 8)))) da_nil)))))) rfl V.b_tuple))))))))
theorem raw__law_stays {P : Program} {w : World} {W : Wd} {base : Heap} (V : Ev W base) (h__law_draw : DFn P w W base 4 (He.fAd W.K ("_law_draw", none)) 2 S__law_draw) : DFn P w W base 5 (He.fAd W.K ("_law_stays", none)) 2 (bodyF 10 d__law_stays) := by
  obtain ⟨fd, F⟩ := V.D__law_stays
  exact DFn.of V.cx F sc__law_stays (F.bindsN fun _ _ _ _ _ _ us hl => match us, hl with | [_, _], _ => rfl) (body__law_stays V h__law_draw)
noncomputable def S__law_stays : List PV → Mo PV := bodyF 10 d__law_stays
theorem ref__law_stays : Ref 2 (bodyF 10 d__law_stays) S__law_stays := ref_self
/-- a turn's end: the row is put on -/
theorem stays_put {b c r : Nat} {st : Sto} {x y : Int} {x1 x2 x3 x4 x6 x9 : Option PV} {R : List (Int × Int)} {Q : Fl → Sto → Prop} (h : BoxAt b c st) (hR : st[r]? = some (.lst false (R.map stP))) (hb : r ≠ b) (hc : r ≠ c) (hRl : R.length < 1000)
    (k : ∀ s, BoxAt b c s → Ch3 b c r st s → s[r]? = some (.lst false ((R ++ [(x, y)]).map stP)) → Q (.nx [some (.loc b), x1, x2, x3, x4, some (.loc r), x6, some (.int x), some (.int y), x9]) s) :
    Ok (d__law_stays_10 [some (.loc b), x1, x2, x3, x4, some (.loc r), x6, some (.int x), some (.int y), x9] st) Q := by
  have hr := (List.getElem?_eq_some_iff.mp hR).1
  have z := k (st.set r (.lst false ((R ++ [(x, y)]).map stP))) (h.setO hb hc) Ch3.setR (List.getElem?_set_self hr)
  rw [List.map_append] at z
  simp [d__law_stays_10, hR]
  exact ⟨by omega, z⟩
/-- a turn -/
theorem stays_ends {b c r : Nat} {st : Sto} {m span sc ba : Int} {x6 x7 x8 x9 : Option PV} {R : List (Int × Int)} {Q : Fl → Sto → Prop} (h : BoxAt b c st) (hsp : 0 < span) (hsp2 : span < 100) (hR : st[r]? = some (.lst false (R.map stP))) (hb : r ≠ b) (hc : r ≠ c) (hv : OkL 0 span R) (hRl : R.length < 1000)
    (k : ∀ y7 y8 y9 a s, BoxAt b c s → Ch3 b c r st s → s[r]? = some (.lst false ((R ++ [a]).map stP)) → okSt 0 span a → Q (.nx [some (.loc b), some (.int m), some (.int span), some (.int sc), some (.int ba), some (.loc r), x6, y7, y8, y9]) s) :
    Ok (dSeq d__law_stays_5 (dSeq d__law_stays_6 (dSeq d__law_stays_9 d__law_stays_10)) [some (.loc b), some (.int m), some (.int span), some (.int sc), some (.int ba), some (.loc r), x6, x7, x8, x9] st) Q := by
  have hr := (List.getElem?_eq_some_iff.mp hR).1
  simp [d__law_stays_5]
  refine (law_draw_ok h hsp (by omega)).imp fun p s hh => ?_
  obtain ⟨f, rfl, f1, f2, c1, b1⟩ := hh
  have r1 : s[r]? = _ := (c1.eq r hr hb hc).trans hR
  simp [d__law_stays_6]
  refine (law_draw_ok b1 (m := span - f) (by omega) (by omega)).imp fun p s2 hh => ?_
  obtain ⟨g, rfl, g1, g2, c2, b2⟩ := hh
  have c2' := c1.trans c2
  have r2 : s2[r]? = _ := (c2'.eq r hr hb hc).trans hR
  have fin : ∀ s3 (x y : Int) x9, BoxAt b c s3 → Ch b c st s3 → okSt 0 span (x, y) → Ok (d__law_stays_10 [some (.loc b), some (.int m), some (.int span), some (.int sc), some (.int ba), some (.loc r), x6, some (.int x), some (.int y), x9] s3) Q := fun s3 x y x9 hb3 hc3 hok =>
    stays_put hb3 ((hc3.eq r hr hb hc).trans hR) hb hc hRl fun s4 b4 c4 r4 => k _ _ _ (x, y) s4 b4 (hc3.ch3.trans c4) r4 hok
  simp [d__law_stays_9, r2]
  by_cases h0 : R = []
  · simp [h0]
    exact fin _ _ _ _ b2 c2' ⟨by omega, by dsimp only; omega, by dsimp only; omega⟩
  · simp [h0, List.length_pos_iff]
    refine (law_draw_ok b2 (m := 5) (by omega) (by omega)).imp fun p s3 hh => ?_
    obtain ⟨d, rfl, d1, d2, c3, b3⟩ := hh
    have c3' := c2'.trans c3
    have r3 : s3[r]? = _ := (c3'.eq r hr hb hc).trans hR
    simp [okd_int]
    split
    · have hRp : 0 < R.length := List.length_pos_iff.mpr h0
      simp [d__law_stays_7, r3]
      refine (law_draw_ok b3 (m := (R.length : Int)) (by omega) (by omega)).imp fun p s4 hh => ?_
      obtain ⟨e, rfl, e1, e2, c4, b4⟩ := hh
      have c4' := c3'.trans c4
      have r4 : s4[r]? = _ := (c4'.eq r hr hb hc).trans hR
      have he : ∃ j : Nat, e = (j : Int) ∧ j < R.length := ⟨e.toNat, by omega, by omega⟩
      obtain ⟨j, rfl, hj⟩ := he
      have ej := stay_at hj
      have ok0 := hv (R[j]?.getD (0, 0)) (by
        rw [List.getElem?_eq_getElem hj]
        exact List.getElem_mem hj)
      revert ej ok0
      generalize R[j]?.getD (0, 0) = o
      intro ej ok0
      obtain ⟨o0, o1⟩ := o
      obtain ⟨q1, q2, q3⟩ := ok0
      dsimp only at q1 q2 q3
      simp [r4, ej]
      simp [d__law_stays_8, stP, oMax, oMin]
      refine (law_draw_ok b4 (m := 3) (by omega) (by omega)).imp fun p s5 hh => ?_
      obtain ⟨t, rfl, t1, t2, c5, b5⟩ := hh
      have c5' := c4'.trans c5
      have ht : t = 0 ∨ t = 1 ∨ t = 2 := by omega
      rcases ht with rfl | rfl | rfl
      · simp
        exact fin _ _ _ _ b5 c5' ⟨q1, q2, q3⟩
      · simp
        refine fin _ _ _ _ b5 c5' ⟨q1, ?_, ?_⟩
        · dsimp only; omega
        · dsimp only; omega
      · simp [atI3_2]
        refine fin _ _ _ _ b5 c5' ⟨?_, ?_, q3⟩
        · dsimp only; omega
        · dsimp only; omega
    · exact fin _ _ _ _ b3 c3' ⟨by omega, by dsimp only; omega, by dsimp only; omega⟩
theorem law_stays_ok {b c : Nat} {st : Sto} {n : Nat} (h : BoxAt b c st) (hn : n ≤ 100) : Ok (S__law_stays [.loc b, .int (n : Int)] st) (fun p s => ∃ L : List (Int × Int), p = staysP L ∧ L.length = n ∧ OkL 0 1000000 L ∧ Bx b c st s) := by
  have hr : RgOk ((n : Nat) : Int) := ⟨by omega, by omega⟩
  -- the loop, and what follows it
  have loop : ∀ (span sc ba : Int) (s0 : Sto), 0 < span → span < 100 → 0 ≤ sc → 0 ≤ ba → ba + span * sc ≤ 1000000 → Bx b c st s0 → 1 ≤ sc →
      Ok (dSeq d__law_stays_11 d__law_stays_12 [some (.loc b), some (.int (n : Int)), some (.int span), some (.int sc), some (.int ba), some (.loc s0.length), none, none, none, none] (s0 ++ [.lst false []])) (fun fl s => Ok (retF fl s) fun p s => ∃ L : List (Int × Int), p = staysP L ∧ L.length = n ∧ OkL 0 1000000 L ∧ Bx b c st s) := by
    intro span sc ba s0 p1 p2 p3 p4 p5 hs p6
    have hlt := hs.2.lt
    simp [d__law_stays_11]
    refine ⟨hr, ?_⟩
    refine ok_for (fun (l : List PV) (ρ : PD.Env) (s : Sto) => ∃ x6 y7 y8 y9 R, ρ = [some (.loc b), some (.int (n : Int)), some (.int span), some (.int sc), some (.int ba), some (.loc s0.length), x6, y7, y8, y9] ∧ BoxAt b c s ∧ Ch b c s0 s ∧ s[s0.length]? = some (.lst false (R.map stP)) ∧ OkL 0 span R ∧ R.length + l.length = n) (fun _ _ _ _ => True.intro) ?_ ?_ _ _ _ ⟨none, none, none, none, [], rfl, hs.2.app, Ch.app, by simp, (fun _ h => nomatch h), by unfold rgP; simp⟩
    · intro ρ s hP
      obtain ⟨x6, y7, y8, y9, R, rfl, b1, c1, r1, hv, hl⟩ := hP
      rw [seqK_nx]
      simp [d__law_stays_12, r1]
      rw [lc_map (fun q => stP (ba + sc * (unSt q).1, ba + sc * (unSt q).2)) (.inl r1) (R.map stP) (fun q hq => by
        obtain ⟨a, ha, rfl⟩ := List.mem_map.mp hq
        refine ⟨[some (.loc b), some (.int (n : Int)), some (.int span), some (.int sc), some (.int ba), some (.loc s0.length), x6, some (.int a.1), some (.int a.2), y9], rfl, rfl, ?_⟩
        refine Ok.eq ?_
        simp [unSt, stP, CM]
        obtain ⟨o1, o2, o3⟩ := hv a ha
        exact ⟨.inr (by omega), .inr (by omega)⟩) (by simp at hl ⊢; omega)]
      simp
      refine ⟨R.map fun a => (ba + sc * a.1, ba + sc * a.2), ?_, by simpa using hl, ?_, hs.1.trans c1, b1⟩
      · rw [List.map_map]
        rfl
      · intro a ha
        obtain ⟨a0, ha0, rfl⟩ := List.mem_map.mp ha
        obtain ⟨o1, o2, o3⟩ := hv a0 ha0
        have m1 : 0 ≤ sc * a0.1 := Int.mul_nonneg p3 o1
        have m2 : sc * a0.2 ≤ sc * span := Int.mul_le_mul_of_nonneg_left o3 p3
        have m3 : sc * a0.1 < sc * a0.2 := Int.mul_lt_mul_of_pos_left o2 (by omega)
        rw [Int.mul_comm sc span] at m2
        exact ⟨by dsimp only; omega, by dsimp only; omega, by dsimp only; omega⟩
    · intro q l ρ s hP
      obtain ⟨x6, y7, y8, y9, R, rfl, b1, c1, r1, hv, hl⟩ := hP
      rw [e_gNm, ok_ok]
      refine stays_ends b1 p1 p2 r1 (by omega) (by omega) hv (by simp at hl; omega) fun y7 y8 y9 a s' b2 c2 r2 ha => ?_
      rw [aft_nx]
      refine ⟨_, y7, y8, y9, R ++ [a], rfl, b2, ?_, r2, ?_, ?_⟩
      · refine ⟨Nat.le_trans c1.le c2.le, fun i hi h1 h2 => ?_⟩
        rw [c2.eq i (Nat.lt_of_lt_of_le hi c1.le) h1 h2 (by omega), c1.eq i hi h1 h2]
      · intro a' ha'
        rw [List.mem_append, List.mem_singleton] at ha'
        rcases ha' with h | rfl
        · exact hv _ h
        · exact ha
      · simp at hl ⊢
        omega
  unfold S__law_stays
  simp only [e_body, d__law_stays, ok_bnd, ok_seq]
  simp [start0, d__law_stays_1]
  refine (law_draw_ok h (m := 12) (by omega) (by omega)).imp fun p s1 hh => ?_
  obtain ⟨d, rfl, d1, d2, c1, b1⟩ := hh
  have hq : 0 < 900000 / (3 + d) := Int.lt_of_lt_of_le Int.zero_lt_one (Int.le_ediv_of_mul_le (by omega) (by omega))
  have hq2 : (3 + d) * (900000 / (3 + d)) ≤ 900000 := Int.mul_ediv_self_le (by omega)
  have hq3 : 900000 / (3 + d) ≤ 900000 := Int.ediv_le_self _ (by omega)
  simp [d__law_stays_2]
  refine ⟨⟨by omega, by omega⟩, ?_⟩
  refine (law_draw_ok b1 hq (by omega)).imp fun p s2 hh => ?_
  obtain ⟨g, rfl, g1, g2, c2, b2⟩ := hh
  simp
  refine (law_draw_ok b2 (m := 3) (by omega) (by omega)).imp fun p s3 hh => ?_
  obtain ⟨t, rfl, t1, t2, c3, b3⟩ := hh
  have hsc : ∃ sc : Int, atI [PV.int 1, PV.int 1, PV.int (1 + g)] t = some (.int sc) ∧ 1 ≤ sc ∧ sc ≤ 900000 / (3 + d) := by
    have ht : t = 0 ∨ t = 1 ∨ t = 2 := by omega
    rcases ht with rfl | rfl | rfl
    · exact ⟨1, rfl, by omega, by omega⟩
    · exact ⟨1, rfl, by omega, by omega⟩
    · exact ⟨1 + g, rfl, by omega, by omega⟩
  obtain ⟨sc, esc, sc1, sc2⟩ := hsc
  have hmul : (3 + d) * sc ≤ 900000 := Int.le_trans (Int.mul_le_mul_of_nonneg_left sc2 (by omega)) hq2
  have hmul0 : 0 ≤ (3 + d) * sc := Int.mul_nonneg (by omega) (by omega)
  simp [esc, d__law_stays_3]
  refine (law_draw_ok b3 (m := 90000) (by omega) (by omega)).imp fun p s4 hh => ?_
  obtain ⟨g', rfl, g1', g2', c4, b4⟩ := hh
  simp [CM]
  refine ⟨by omega, ?_⟩
  refine (law_draw_ok b4 (m := 3) (by omega) (by omega)).imp fun p s5 hh => ?_
  obtain ⟨t', rfl, t1', t2', c5, b5⟩ := hh
  have hba : ∃ ba : Int, atI [PV.int 0, PV.int g', PV.int (1000000 - (3 + d) * sc)] t' = some (.int ba) ∧ 0 ≤ ba ∧ ba + (3 + d) * sc ≤ 1000000 := by
    have ht : t' = 0 ∨ t' = 1 ∨ t' = 2 := by omega
    rcases ht with rfl | rfl | rfl
    · exact ⟨0, rfl, by omega, by omega⟩
    · exact ⟨g', rfl, by omega, by omega⟩
    · exact ⟨1000000 - (3 + d) * sc, rfl, by omega, by omega⟩
  obtain ⟨ba, eba, ba1, ba2⟩ := hba
  simp [eba, d__law_stays_4]
  have z := loop (3 + d) sc ba s5 (by omega) (by omega) (by omega) ba1 ba2 ⟨(((c1.trans c2).trans c3).trans c4).trans c5, b5⟩ sc1
  rw [ok_seq] at z
  exact z
theorem ok__law_stays {P : Program} {w : World} {W : Wd} {base : Heap} (V : Ev W base) : DFn P w W base 5 (He.fAd W.K ("_law_stays", none)) 2 S__law_stays := raw__law_stays V (ok__law_draw V)
abbrev N__law_bent : List Str := ["box", "value", "at"]
noncomputable def d__law_bent_1 (S__law_bent : List PV → Mo PV) : PD.Env → Mo Fl := (dSet 2 (fun ρ => bnd ((dCons (dVar 0) (dCons (fun ρ => bnd ((dVar 1) ρ) lenM) (fun _ st => .ok [] st))) ρ) (callM 2 S__law_draw)))
noncomputable def d__law_bent_2 (S__law_bent : List PV → Mo PV) : PD.Env → Mo Fl := (dRet (dBin oAdd (dBin oAdd (dSl (dVar 1) (fun _ st => .ok none st) (fun ρ => bnd ((dVar 2) ρ) intM) slTS) (fun ρ => bnd ((dCons (fun ρ => bnd ((dCons (dVar 0) (dCons (dBin oIx (dVar 1) (dVar 2)) (fun _ st => .ok [] st))) ρ) (callM 2 S__law_bent)) (fun _ st => .ok [] st)) ρ) tupM)) (dSl (dVar 1) (fun ρ => bnd ((dBin oAdd (dVar 2) (dC (.int 1))) ρ) intM) (fun _ st => .ok none st) slTS)))
noncomputable def d__law_bent_3 (S__law_bent : List PV → Mo PV) : PD.Env → Mo Fl := (dIfS (dAndT (fun ρ => bnd ((dIsi .tup (dVar 1)) ρ) truM) (dAndT (dB (dBin oGt (fun ρ => bnd ((dVar 1) ρ) lenM) (dC (.int 0)))) (dB (dBin oGt (fun ρ => bnd ((dCons (dVar 0) (dCons (dC (.int 5)) (fun _ st => .ok [] st))) ρ) (callM 2 S__law_draw)) (dC (.int 0)))))) (dSeq (d__law_bent_1 S__law_bent)
    (d__law_bent_2 S__law_bent)) dNil)
noncomputable def d__law_bent_4 (S__law_bent : List PV → Mo PV) : PD.Env → Mo Fl := (dRet (fun ρ => bnd ((fun ρ => bnd ((dCons (dC (.int 0)) (dCons (dC (.int 1)) (dCons (fun ρ => bnd ((fun _ st => .ok [] st) ρ) tupM) (dCons (dC (.str "a")) (fun _ st => .ok [] st))))) ρ) capM) ρ) fun l => bnd ((fun ρ => bnd ((dCons (dVar 0) (dCons (dC (.int 4)) (fun _ st => .ok [] st))) ρ) (callM 2 S__law_draw)) ρ) fun i => ixQ l i))
noncomputable def d__law_bent_5 (S__law_bent : List PV → Mo PV) : PD.Env → Mo Fl := (dIfS (dOrT (fun ρ => bnd ((dIsi .bl (dVar 1)) ρ) truM) (dB (dBin (fun p q => match q with | .non => oIsN false p q | _ => fail) (dVar 1) (dC .non)))) (d__law_bent_4 S__law_bent) dNil)
noncomputable def d__law_bent_6 (S__law_bent : List PV → Mo PV) : PD.Env → Mo Fl := (dRet (fun ρ => bnd ((fun ρ => bnd ((dCons (dBin oAdd (dVar 1) (dC (.int 1))) (dCons (dBin oSub (dVar 1) (dC (.int 1))) (dCons (dBin (oEq false) (dVar 1) (dC (.int 1))) (dCons (dC .non) (dCons (dBin oMul (dC (.int 2)) (dVar 1)) (dCons (fun ρ => bnd ((dVar 1) ρ) strV) (dCons (fun ρ => bnd ((dCons (dVar 1) (fun _ st => .ok [] st)) ρ) tupM) (dCons (dC (.int 1000001)) (fun _ st => .ok [] st))))))))) ρ) capM) ρ) fun l => bnd ((fun ρ => bnd ((dCons (dVar 0) (dCons (dC (.int 8)) (fun _ st => .ok [] st))) ρ) (callM 2 S__law_draw)) ρ) fun i => ixQ l i))
noncomputable def d__law_bent_7 (S__law_bent : List PV → Mo PV) : PD.Env → Mo Fl := (dIfS (fun ρ => bnd ((dIsi .int (dVar 1)) ρ) truM) (d__law_bent_6 S__law_bent) dNil)
noncomputable def d__law_bent_8 (S__law_bent : List PV → Mo PV) : PD.Env → Mo Fl := (dRet (fun ρ => bnd ((fun ρ => bnd ((dCons (dBin oAdd (dVar 1) (dC (.str "1"))) (dCons (dSl (dVar 1) (fun ρ => bnd ((dC (.int 1)) ρ) intM) (fun _ st => .ok none st) slTS) (dCons (dC .non) (dCons (dC (.int 0)) (dCons (fun ρ => bnd ((dVar 1) ρ) upM) (dCons (fun ρ => bnd ((dCons (dVar 1) (fun _ st => .ok [] st)) ρ) tupM) (dCons (dC (.str "any")) (dCons (dBin oAdd (dC (.str " ")) (dVar 1)) (fun _ st => .ok [] st))))))))) ρ) capM) ρ) fun l => bnd ((fun ρ => bnd ((dCons (dVar 0) (dCons (dC (.int 8)) (fun _ st => .ok [] st))) ρ) (callM 2 S__law_draw)) ρ) fun i => ixQ l i))
noncomputable def d__law_bent_9 (S__law_bent : List PV → Mo PV) : PD.Env → Mo Fl := (dIfS (fun ρ => bnd ((dIsi .str (dVar 1)) ρ) truM) (d__law_bent_8 S__law_bent) dNil)
noncomputable def d__law_bent_10 (S__law_bent : List PV → Mo PV) : PD.Env → Mo Fl := (dRet (fun ρ => bnd ((fun ρ => bnd ((dCons (dBin oAdd (dVar 1) (dSl (dVar 1) (fun ρ => bnd ((dUn oNeg (dC (.int 1))) ρ) intM) (fun _ st => .ok none st) slTS)) (dCons (dSl (dVar 1) (fun ρ => bnd ((dC (.int 1)) ρ) intM) (fun _ st => .ok none st) slTS) (dCons (dSl (dVar 1) (fun _ st => .ok none st) (fun ρ => bnd ((dUn oNeg (dC (.int 1))) ρ) intM) slTS) (dCons (fun ρ => bnd ((dVar 1) ρ) revM) (dCons (dC .non) (dCons (fun ρ => bnd ((dCons (dVar 1) (fun _ st => .ok [] st)) ρ) tupM) (dCons (dBin oAdd (dVar 1) (fun ρ => bnd ((dCons (dC (.int 0)) (fun _ st => .ok [] st)) ρ) tupM)) (dCons (fun ρ => bnd ((fun _ st => .ok [] st) ρ) tupM) (fun _ st => .ok [] st))))))))) ρ) capM) ρ) fun l => bnd ((fun ρ => bnd ((dCons (dVar 0) (dCons (dC (.int 8)) (fun _ st => .ok [] st))) ρ) (callM 2 S__law_draw)) ρ) fun i => ixQ l i))
noncomputable def d__law_bent (S__law_bent : List PV → Mo PV) : PD.Env → Mo Fl := (dSeq (d__law_bent_3 S__law_bent)
    (dSeq (d__law_bent_5 S__law_bent)
    (dSeq (d__law_bent_7 S__law_bent)
    (dSeq (d__law_bent_9 S__law_bent)
    (d__law_bent_10 S__law_bent)))))
theorem sc__law_bent : FnScope N__law_bent ["box", "value"] (defScope (top 26)) := C8.fnScope_by (by decide +kernel)
theorem body__law_bent {P : Program} {w : World} {W : Wd} {base : Heap} (V : Ev W base) {S__law_bent : List PV → Mo PV} {k : Nat} (hk : 4 ≤ k) (h__law_draw : DFn P w W base 4 (He.fAd W.K ("_law_draw", none)) 2 S__law_draw) (h__law_bent : DFn P w W base k (He.fAd W.K ("_law_bent", none)) 2 S__law_bent) : Body P w W base N__law_bent "_law_bent" (defScope (top 26)) (He.fAd W.K ("_law_bent", none)) k (defBody (top 26)) (d__law_bent S__law_bent) := fun cdv A outer s H E =>
  (dss_cons (ds_if (dt_w (dw_and (dt_e (de_isi .tup (de_var (i := 1)) rfl V.b_isinstance rfl V.b_tuple boot_tuple_)) (dw_and (dt_gt (de_lenV (de_var (i := 1)) rfl V.b_len) de_int) (dw_and1 (dt_gt (de_call (h__law_draw.mono (by omega)) V.g__law_draw (da_cons (de_var (i := 0)) (da_cons de_int da_nil))) de_int))))) (dss_cons (ds_set (i := 2) (de_call (h__law_draw.mono (by omega)) V.g__law_draw (da_cons (de_var (i := 0)) (da_cons (de_lenV (de_var (i := 1)) rfl V.b_len) da_nil))))
    (dss_one (ds_ret (de_add (de_add (de_slTS (de_var (i := 1)) do_none (do_some (de_var (i := 2)))) (de_tup (da_cons (de_call (h__law_bent.mono (by omega)) V.g__law_bent (da_cons (de_var (i := 0)) (da_cons (de_ix (de_var (i := 1)) (de_var (i := 2))) da_nil))) da_nil))) (de_slTS (de_var (i := 1)) (do_some (de_add (de_var (i := 2)) de_int)) do_none))))) dss_nil)
    (dss_cons (ds_if (dt_w (dw_or (dt_e (de_isi .bl (de_var (i := 1)) rfl V.b_isinstance rfl V.b_bool boot_bool_)) (dw_or1 (dt_isN (de_var (i := 1)))))) (dss_one (ds_ret (de_ixL (dl_lst (da_cons de_int (da_cons de_int (da_cons (de_tup da_nil) (da_cons de_str da_nil))))) (de_call (h__law_draw.mono (by omega)) V.g__law_draw (da_cons (de_var (i := 0)) (da_cons de_int da_nil)))))) dss_nil)
    (dss_cons (ds_if (dt_e (de_isi .int (de_var (i := 1)) rfl V.b_isinstance rfl V.b_int boot_int_)) (dss_one (ds_ret (de_ixL (dl_lst (da_cons (de_add (de_var (i := 1)) de_int) (da_cons (de_sub (de_var (i := 1)) de_int) (da_cons (de_eq (de_var (i := 1)) de_int) (da_cons de_non (da_cons (de_mul de_int (de_var (i := 1))) (da_cons (de_strc (de_var (i := 1)) rfl V.b_str) (da_cons (de_tup (da_cons (de_var (i := 1)) da_nil)) (da_cons de_int da_nil))))))))) (de_call (h__law_draw.mono (by omega)) V.g__law_draw (da_cons (de_var (i := 0)) (da_cons de_int da_nil)))))) dss_nil)
    (dss_cons (ds_if (dt_e (de_isi .str (de_var (i := 1)) rfl V.b_isinstance rfl V.b_str boot_str_)) (dss_one (ds_ret (de_ixL (dl_lst (da_cons (de_add (de_var (i := 1)) de_str) (da_cons (de_slTS (de_var (i := 1)) (do_some de_int) do_none) (da_cons de_non (da_cons de_int (da_cons (de_upper (de_var (i := 1))) (da_cons (de_tup (da_cons (de_var (i := 1)) da_nil)) (da_cons de_str (da_cons (de_add de_str (de_var (i := 1))) da_nil))))))))) (de_call (h__law_draw.mono (by omega)) V.g__law_draw (da_cons (de_var (i := 0)) (da_cons de_int da_nil)))))) dss_nil)
    (dss_one (ds_ret (de_ixL (dl_lst (da_cons (de_add (de_var (i := 1)) (de_slTS (de_var (i := 1)) (do_some (de_neg de_int)) do_none)) (da_cons (de_slTS (de_var (i := 1)) (do_some de_int) do_none) (da_cons (de_slTS (de_var (i := 1)) do_none (do_some (de_neg de_int))) (da_cons (de_revT (de_var (i := 1))) (da_cons de_non (da_cons (de_tup (da_cons (de_var (i := 1)) da_nil)) (da_cons (de_add (de_var (i := 1)) (de_tup (da_cons de_int da_nil))) (da_cons (de_tup da_nil) da_nil))))))))) (de_call (h__law_draw.mono (by omega)) V.g__law_draw (da_cons (de_var (i := 0)) (da_cons de_int da_nil))))))))))
theorem raw__law_bent {P : Program} {w : World} {W : Wd} {base : Heap} (V : Ev W base) {S__law_bent : List PV → Mo PV} {k : Nat} (hk : 4 ≤ k) (h__law_draw : DFn P w W base 4 (He.fAd W.K ("_law_draw", none)) 2 S__law_draw) (h__law_bent : DFn P w W base k (He.fAd W.K ("_law_bent", none)) 2 S__law_bent) : DFn P w W base (k + 1) (He.fAd W.K ("_law_bent", none)) 2 (bodyF 3 (d__law_bent S__law_bent)) := by
  obtain ⟨fd, F⟩ := V.D__law_bent
  exact DFn.of V.cx F sc__law_bent (F.bindsN fun _ _ _ _ _ _ us hl => match us, hl with | [_, _], _ => rfl) (body__law_bent V hk h__law_draw h__law_bent)
noncomputable def bnt : Nat → List PV → Mo PV
  | 0 => fun _ => fail
  | n + 1 => bodyF 3 (d__law_bent (bnt n))
noncomputable def S__law_bent : List PV → Mo PV := bnt 3

section
variable {b c : Nat} {st : Sto}
theorem ixQ_ok {l : List PV} {d : Int} {Q : PV → Sto → Prop} (h0 : 0 ≤ d) (h1 : d < l.length) (h : ∀ z ∈ l, Q z st) : Ok (ixQ l (.int d) st) Q := by
  obtain ⟨k, rfl⟩ : ∃ k : Nat, d = (k : Int) := ⟨d.toNat, by omega⟩
  have hk : k < l.length := by omega
  rw [m_ixQ, PD.atI_get hk]
  exact ok_ok.mpr (h _ (List.getElem_mem hk))
@[simp] theorem o_addS {x y : Str} : oAdd (.str x) (.str y) st = if x.length + y.length ≤ 16777216 then .ok (.str (x ++ y)) st else .stuck := rfl
/-- flat, within bounds -/
def BnF (v : PV) : Prop := v = .non ∨ (∃ i : Int, v = .int i ∧ i.natAbs ≤ 1000000000000000000000000) ∨ (∃ s : Str, v = .str s ∧ s.length ≤ 100) ∨ ∃ x : Bool, v = .bl x
/-- what can be bent, n deep -/
def Bn : Nat → PV → Prop
  | 0, v => BnF v
  | n + 1, v => BnF v ∨ ∃ l, v = .tup l ∧ l.length ≤ 1900 ∧ ∀ p ∈ l, Bn n p
/-- plain, and its parts, m deep -/
def Pd : Nat → PV → Prop
  | 0, v => plainV v
  | m + 1, v => plainV v ∧ ∀ l, v = .tup l → l.length ≤ 4000 ∧ ∀ p ∈ l, Pd m p
def PdA (v : PV) : Prop := ∀ m, Pd m v
theorem PdA.okV {v : PV} (h : PdA v) : okV v := by
  obtain ⟨h1, h2⟩ := h 1
  exact ⟨⟨h1, fun l e => (h2 l e).2⟩, fun l e => (h2 l e).1⟩
theorem PdA.part {l : List PV} (h : PdA (.tup l)) : ∀ p ∈ l, PdA p := fun p hp m => ((h (m + 1)).2 l rfl).2 p hp
theorem PdA.okR {v : PV} (h : PdA v) : okR v := ⟨h.okV, fun l e p hp => by
  subst e
  exact (h.part p hp).okV⟩
def flatP : PV → Bool
  | .non => true
  | .bl _ => true
  | .int _ => true
  | .str _ => true
  | _ => false
theorem pdA_flat {v : PV} (h : flatP v = true) : PdA v := fun m => by
  cases v <;> first
    | (cases h; done)
    | (cases m with
       | zero => exact True.intro
       | succ m => exact ⟨True.intro, fun l e => nomatch e⟩)
theorem pdA_tup {l : List PV} (h : ∀ p ∈ l, PdA p) (hl : l.length ≤ 4000) : PdA (.tup l) := fun m => by
  cases m with
  | zero => exact True.intro
  | succ m => exact ⟨True.intro, fun l e => by cases e; exact ⟨hl, fun p hp => h p hp m⟩⟩
theorem pdA_one {v : PV} (h : PdA v) : PdA (.tup [v]) := pdA_tup (fun p hp => by rw [List.mem_singleton.mp hp]; exact h) (by simp)
theorem pdA_nil : PdA (.tup []) := pdA_tup (fun _ h => nomatch h) (by simp)
theorem bnF_pd {v : PV} (h : BnF v) : PdA v := by
  rcases h with rfl | ⟨i, rfl, _⟩ | ⟨s, rfl, _⟩ | ⟨x, rfl⟩ <;> exact pdA_flat rfl
theorem bn_pd : ∀ {n : Nat} {v : PV}, Bn n v → PdA v
  | 0, _, h => bnF_pd h
  | n + 1, v, h => by
    rcases h with h | ⟨l, rfl, hl, hp⟩
    · exact bnF_pd h
    · exact pdA_tup (fun p hq => bn_pd (hp p hq)) (by omega)
theorem log2_big {n : Nat} (h : n ≤ 1000000000000000000000000) : n.log2 < 1920 := by
  by_cases h0 : n = 0
  · rw [h0]; decide
  · refine (Nat.log2_lt h0).mpr ?_
    have h1 : 2 ^ 80 ≤ 2 ^ 1920 := Nat.pow_le_pow_right (by omega) (by omega)
    have h2 : n < 2 ^ 80 := by omega
    exact Nat.lt_of_lt_of_le h2 h1
theorem bent_flat {v : PV} {S : List PV → Mo PV} (h : BoxAt b c st) (hv : BnF v) : Ok (bodyF 3 (d__law_bent S) [.loc b, v] st) (fun p s => PdA p ∧ Bx b c st s) := by
  simp only [e_body, d__law_bent, ok_bnd, ok_seq]
  rcases hv with rfl | ⟨i, rfl, hi⟩ | ⟨s, rfl, hs⟩ | ⟨x, rfl⟩
  · simp [start0, d__law_bent_3, d__law_bent_5, d__law_bent_4, isK]
    refine (law_draw_ok h (m := 4) (by omega) (by omega)).imp fun p s hh => ?_
    obtain ⟨d, rfl, d1, d2, c1, b1⟩ := hh
    refine ixQ_ok d1 d2 fun z hz => ⟨?_, c1, b1⟩
    simp at hz
    rcases hz with rfl | rfl | rfl | rfl
    · exact pdA_flat rfl
    · exact pdA_flat rfl
    · exact pdA_nil
    · exact pdA_flat rfl
  · simp [start0, d__law_bent_3, d__law_bent_5, d__law_bent_7, d__law_bent_6, isK, okd_int, strV, CM]
    refine ⟨log2_big hi, ?_⟩
    refine (law_draw_ok h (m := 8) (by omega) (by omega)).imp fun p s hh => ?_
    obtain ⟨d, rfl, d1, d2, c1, b1⟩ := hh
    refine ixQ_ok d1 d2 fun z hz => ⟨?_, c1, b1⟩
    simp at hz
    rcases hz with rfl | rfl | rfl | rfl | rfl | rfl | rfl | rfl
    · exact pdA_flat rfl
    · exact pdA_flat rfl
    · exact pdA_flat rfl
    · exact pdA_flat rfl
    · exact pdA_flat rfl
    · exact pdA_flat rfl
    · exact pdA_one (pdA_flat rfl)
    · exact pdA_flat rfl
  · have l1 : (Str.ofString "1").length = 1 := by decide
    have l2 : (Str.ofString " ").length = 1 := by decide
    simp [start0, d__law_bent_3, d__law_bent_5, d__law_bent_7, d__law_bent_9, d__law_bent_8, isK, l1, l2]
    refine ⟨by omega, by omega, by omega, by omega, ?_⟩
    refine (law_draw_ok h (m := 8) (by omega) (by omega)).imp fun p s hh => ?_
    obtain ⟨d, rfl, d1, d2, c1, b1⟩ := hh
    refine ixQ_ok d1 d2 fun z hz => ⟨?_, c1, b1⟩
    simp at hz
    rcases hz with rfl | rfl | rfl | rfl | rfl | rfl | rfl | rfl
    · exact pdA_flat rfl
    · exact pdA_flat rfl
    · exact pdA_flat rfl
    · exact pdA_flat rfl
    · exact pdA_flat rfl
    · exact pdA_one (pdA_flat rfl)
    · exact pdA_flat rfl
    · exact pdA_flat rfl
  · simp [start0, d__law_bent_3, d__law_bent_5, d__law_bent_4, isK]
    refine (law_draw_ok h (m := 4) (by omega) (by omega)).imp fun p s hh => ?_
    obtain ⟨d, rfl, d1, d2, c1, b1⟩ := hh
    refine ixQ_ok d1 d2 fun z hz => ⟨?_, c1, b1⟩
    simp at hz
    rcases hz with rfl | rfl | rfl | rfl
    · exact pdA_flat rfl
    · exact pdA_flat rfl
    · exact pdA_nil
    · exact pdA_flat rfl
theorem cutP_le (l : List PV) (lo hi : Option Int) : (cutP l lo hi).length ≤ l.length := by
  unfold cutP
  rw [List.length_take, List.length_drop]
  omega
theorem bent_end {l : List PV} {S : List PV → Mo PV} {x2 : Option PV} (h : BoxAt b c st) (hl : l.length ≤ 1900) (hp : ∀ p ∈ l, PdA p) : Ok (d__law_bent_10 S [some (.loc b), some (.tup l), x2] st) (fun fl s => Ok (retF fl s) fun p s => PdA p ∧ Bx b c st s) := by
  have z1 := cutP_le l (some (-1)) none
  have z2 := cutP_le l (some 1) none
  have z3 := cutP_le l none (some (-1))
  simp [d__law_bent_10]
  refine ⟨by omega, by omega, ?_⟩
  refine (law_draw_ok h (m := 8) (by omega) (by omega)).imp fun p s hh => ?_
  obtain ⟨d, rfl, d1, d2, c1, b1⟩ := hh
  refine ixQ_ok d1 d2 fun z hz => ?_
  refine ⟨?_, c1, b1⟩
  have pc : ∀ lo hi, ∀ p ∈ cutP l lo hi, PdA p := fun lo hi p hq => hp p (mem_cutP hq)
  simp only [List.mem_cons, List.not_mem_nil, or_false] at hz
  rcases hz with rfl | rfl | rfl | rfl | rfl | rfl | rfl | rfl
  · exact pdA_tup (fun p hq => (List.mem_append.mp hq).elim (hp p) (pc _ _ p)) (by simp; omega)
  · exact pdA_tup (pc _ _) (by omega)
  · exact pdA_tup (pc _ _) (by omega)
  · exact pdA_tup (fun p hq => hp p (by simpa using hq)) (by simp; omega)
  · exact pdA_flat rfl
  · exact pdA_one (pdA_tup hp (by omega))
  · exact pdA_tup (fun p hq => (List.mem_append.mp hq).elim (hp p) fun h => by rw [List.mem_singleton.mp h]; exact pdA_flat rfl) (by simp; omega)
  · exact pdA_nil
theorem bent_tup {l : List PV} {S : List PV → Mo PV} (h : BoxAt b c st) (hl : l.length ≤ 1900) (hp : ∀ p ∈ l, PdA p) (hS : ∀ p ∈ l, ∀ s, BoxAt b c s → Ok (S [.loc b, p] s) (fun q s2 => PdA q ∧ Bx b c s s2)) : Ok (bodyF 3 (d__law_bent S) [.loc b, .tup l] st) (fun p s => PdA p ∧ Bx b c st s) := by
  simp only [e_body, d__law_bent, ok_bnd, ok_seq]
  have fin : ∀ s, Bx b c st s → Ok (d__law_bent_10 S [some (.loc b), some (.tup l), none] s) (fun fl s => Ok (retF fl s) fun p s => PdA p ∧ Bx b c st s) := fun s hs =>
    (bent_end hs.2 hl hp).imp fun fl s2 h2 => h2.imp fun p s3 h3 => ⟨h3.1, hs.1.trans h3.2.1, h3.2.2⟩
  by_cases h0 : l = []
  · subst h0
    have z := fin st ⟨Ch.refl, h⟩
    simp [start0, d__law_bent_3, d__law_bent_5, d__law_bent_7, d__law_bent_9, isK]
    exact z
  · have hpos := List.length_pos_iff.mpr h0
    simp [start0, d__law_bent_3, isK, hpos]
    refine (law_draw_ok h (m := 5) (by omega) (by omega)).imp fun p s hh => ?_
    obtain ⟨d, rfl, d1, d2, c1, b1⟩ := hh
    simp
    split
    · simp [d__law_bent_1]
      refine (law_draw_ok b1 (m := (l.length : Int)) (by omega) (by omega)).imp fun p s2 hh => ?_
      obtain ⟨e, rfl, e1, e2, c2, b2⟩ := hh
      obtain ⟨k, rfl⟩ : ∃ k : Nat, e = (k : Int) := ⟨e.toNat, by omega⟩
      have hkl : k < l.length := by omega
      have ek := PD.atI_get hkl
      simp [d__law_bent_2, ek]
      refine (hS _ (List.getElem_mem hkl) s2 b2).imp fun p s3 hh => ?_
      have z1 := cutP_le l none (some (k : Int))
      have z2 := cutP_le l (some ((k : Int) + 1)) none
      refine ⟨by omega, by omega, ?_, (c1.trans c2).trans hh.2.1, hh.2.2⟩
      refine pdA_tup (fun q hq => ?_) (by simp; omega)
      rw [List.mem_append, List.mem_cons] at hq
      rcases hq with hq | rfl | hq
      · exact hp q (mem_cutP hq)
      · exact hh.1
      · exact hp q (mem_cutP hq)
    · have z := fin s ⟨c1, b1⟩
      simp [d__law_bent_5, d__law_bent_7, d__law_bent_9, isK]
      exact z
theorem bnt_ok : ∀ {n k : Nat} {v : PV} {st : Sto}, n < k → BoxAt b c st → Bn n v → Ok (bnt k [.loc b, v] st) (fun p s => PdA p ∧ Bx b c st s)
  | 0, k + 1, v, st, _, h, hv => by
    unfold bnt
    exact bent_flat h hv
  | n + 1, k + 1, v, st, hk, h, hv => by
    unfold bnt
    rcases hv with hv | ⟨l, rfl, hl, hp⟩
    · exact bent_flat h hv
    · exact bent_tup h hl (fun p hq => bn_pd (hp p hq)) fun p hq s hs => bnt_ok (Nat.lt_of_succ_lt_succ hk) hs (hp p hq)
theorem law_bent_ok {v : PV} (h : BoxAt b c st) (hv : Bn 2 v) : Ok (S__law_bent [.loc b, v] st) (fun p s => PdA p ∧ Bx b c st s) := bnt_ok (by omega) h hv
end
theorem ok__law_bent {P : Program} {w : World} {W : Wd} {base : Heap} (V : Ev W base) : DFn P w W base 9 (He.fAd W.K ("_law_bent", none)) 2 S__law_bent := by
  obtain ⟨fd, F⟩ := V.D__law_bent
  have d0 : DFn P w W base 4 (He.fAd W.K ("_law_bent", none)) 2 (fun _ => fail) := (DFn.none_ (k := 3) V.cx F sc__law_bent (F.bindsN fun _ _ _ _ _ _ us hl => match us, hl with | [_, _], _ => rfl))
  have d1 := raw__law_bent V (by omega) (ok__law_draw V) d0
  have d2 := raw__law_bent V (by omega) (ok__law_draw V) d1
  exact (raw__law_bent V (by omega) (ok__law_draw V) d2).mono (by decide)
abbrev N__law_present : List Str := ["stays", "moment", "i"]
noncomputable def d__law_present_1 : PD.Env → Mo Fl := (dRet (fun ρ => bnd ((dLc (fun ρ => bnd ((dCons (fun ρ => bnd ((dVar 0) ρ) lenM) (fun _ st => .ok [] st)) ρ) rg1M) (.nm 2) (dAndT (dB (dBin oLe (dBin oIx (dBin oIx (dVar 0) (dVar 2)) (dC (.int 0))) (dVar 1))) (dB (dBin oLt (dVar 1) (dBin oIx (dBin oIx (dVar 0) (dVar 2)) (dC (.int 1)))))) (dVar 2) [2]) ρ) tupQ))
noncomputable def d__law_present : PD.Env → Mo Fl := d__law_present_1
theorem sc__law_present : FnScope N__law_present ["stays", "moment"] (defScope (top 24)) := C8.fnScope_by (by decide +kernel)
theorem body__law_present {P : Program} {w : World} {W : Wd} {base : Heap} (V : Ev W base)  : Body P w W base N__law_present "_law_present" (defScope (top 24)) (He.fAd W.K ("_law_present", none)) 2 (defBody (top 24)) d__law_present := fun cdv A outer s H E =>
  (dss_one (ds_ret (de_tuple (dq_l (dl_lc (own := [("i", 2)]) (di_range1 (da_cons (de_lenV (de_var (i := 0)) rfl V.b_len) da_nil) rfl V.b_range) (blkOk_by (N := N__law_present) (sc := defScope (top 24)) (by decide +kernel)) (fun _ _ _ _ _ => (dp_name (i := 2))) (fun _ _ _ _ _ => (dts_one (dt_w (dw_and (dt_le (de_ix (de_ix (de_var (i := 0)) (de_var (i := 2))) de_int) (de_var (i := 1))) (dw_and1 (dt_lt (de_var (i := 1)) (de_ix (de_ix (de_var (i := 0)) (de_var (i := 2))) de_int))))))) (fun _ _ _ _ _ => (de_var (i := 2))))) rfl V.b_tuple)))
theorem raw__law_present {P : Program} {w : World} {W : Wd} {base : Heap} (V : Ev W base)  : DFn P w W base 3 (He.fAd W.K ("_law_present", none)) 2 (bodyF 3 d__law_present) := by
  obtain ⟨fd, F⟩ := V.D__law_present
  exact DFn.of V.cx F sc__law_present (F.bindsN fun _ _ _ _ _ _ us hl => match us, hl with | [_, _], _ => rfl) (body__law_present V )
noncomputable def S__law_present : List PV → Mo PV := bodyF 3 d__law_present
theorem ref__law_present : Ref 2 (bodyF 3 d__law_present) S__law_present := ref_self
theorem law_present_okL {K : List (Int × Int)} {n : Nat} {m : Int} {st : Sto} (hn : st[n]? = some (.lst false (K.map stP))) (hl : K.length ≤ 16777216) : S__law_present [.loc n, .int m] st = .ok (intsP (presI K m)) st := by
  have hr : RgOk ((K.length : Nat) : Int) := ⟨by omega, by omega⟩
  unfold S__law_present
  refine Ok.eq ?_
  simp [d__law_present, d__law_present_1, start0, hn, hr]
  rw [lc_pure (fun q => hasM (K[natOf q]?.getD (0, 0)) m) (fun q => q) True.intro (rgP 0 K.length) [] (fun q hq => by
    obtain ⟨i, hi, rfl⟩ := mem_rgP hq
    have e1 := stay_at hi
    refine ⟨_, rfl, ?_, fun _ => ?_⟩
    · refine Ok.eq ?_
      rw [natOf_int]
      revert e1
      generalize K[i]?.getD (0, 0) = a
      intro e1
      simp [wipeE, hn, e1, stP, hasM]
      by_cases h1 : a.1 ≤ m <;> simp [h1]
    · refine Ok.eq ?_
      simp [wipeE]) (by unfold rgP; simpa using hl)]
  have e := rgP_filter K.length fun i => hasM (K[i]?.getD (0, 0)) m
  rw [List.nil_append, e]
  refine ⟨hr, ?_⟩
  exact ok_ok.mpr ⟨rfl, rfl⟩
theorem ok__law_present {P : Program} {w : World} {W : Wd} {base : Heap} (V : Ev W base) : DFn P w W base 3 (He.fAd W.K ("_law_present", none)) 2 S__law_present := raw__law_present V 
abbrev N__law_numbers : List Str := ["stays", "value", "i"]
noncomputable def d__law_numbers_1 : PD.Env → Mo Fl := (dRet (dC (.bl false)))
noncomputable def d__law_numbers_2 : PD.Env → Mo Fl := (dIfS (dOrT (dNotT (fun ρ => bnd ((dIsi .tup (dVar 1)) ρ) truM)) (dNotT (fun ρ => bnd ((fun ρ => bnd ((dLc (fun ρ => bnd ((dVar 1) ρ) srcM) (.nm 2) dYes (dAndV (dIsi .int (dVar 2)) (dAndV (dNotV (dIsi .bl (dVar 2))) (dAndV (dBin oLe (dC (.int 0)) (dVar 2)) (dBin oLt (dVar 2) (fun ρ => bnd ((dVar 0) ρ) lenM))))) [2]) ρ) allQ) ρ) truM))) d__law_numbers_1 dNil)
noncomputable def d__law_numbers_3 : PD.Env → Mo Fl := (dRet (dBin (oEq false) (fun ρ => bnd ((fun ρ => bnd ((dLc (fun ρ => bnd ((dVar 1) ρ) srcM) (.nm 2) dYes (fun ρ => bnd ((dCons (dVar 2) (dCons (dC (.int 1)) (fun _ st => .ok [] st))) ρ) tupM) [2]) ρ) dictQ) ρ) lenD) (fun ρ => bnd ((dVar 1) ρ) lenM)))
noncomputable def d__law_numbers : PD.Env → Mo Fl := (dSeq d__law_numbers_2
    d__law_numbers_3)
theorem sc__law_numbers : FnScope N__law_numbers ["stays", "value"] (defScope (top 25)) := C8.fnScope_by (by decide +kernel)
theorem body__law_numbers {P : Program} {w : World} {W : Wd} {base : Heap} (V : Ev W base)  : Body P w W base N__law_numbers "_law_numbers" (defScope (top 25)) (He.fAd W.K ("_law_numbers", none)) 2 (defBody (top 25)) d__law_numbers := fun cdv A outer s H E =>
  (dss_cons (ds_if (dt_w (dw_or (dt_not (dt_e (de_isi .tup (de_var (i := 1)) rfl V.b_isinstance rfl V.b_tuple boot_tuple_))) (dw_or1 (dt_not (dt_e (de_all (dl_lc (own := [("i", 2)]) (di_e (de_var (i := 1))) (blkOk_by (N := N__law_numbers) (sc := defScope (top 25)) (by decide +kernel)) (fun _ _ _ _ _ => (dp_name (i := 2))) (fun _ _ _ _ _ => dts_nil) (fun _ _ _ _ _ => (de_and (de_isi .int (de_var (i := 2)) rfl V.b_isinstance rfl V.b_int boot_int_) (de_and (de_not (de_isi .bl (de_var (i := 2)) rfl V.b_isinstance rfl V.b_bool boot_bool_)) (de_and (de_le de_int (de_var (i := 2))) (de_one (de_lt (de_var (i := 2)) (de_lenV (de_var (i := 0)) rfl V.b_len)))))))) rfl V.b_all)))))) (dss_one (ds_ret de_bl)) dss_nil)
    (dss_one (ds_ret (de_eq (de_lenD (de_dictL (dl_lc (own := [("i", 2)]) (di_e (de_var (i := 1))) (blkOk_by (N := N__law_numbers) (sc := defScope (top 25)) (by decide +kernel)) (fun _ _ _ _ _ => (dp_name (i := 2))) (fun _ _ _ _ _ => dts_nil) (fun _ _ _ _ _ => (de_tup (da_cons (de_var (i := 2)) (da_cons de_int da_nil))))) rfl V.b_dict) rfl V.b_len) (de_lenV (de_var (i := 1)) rfl V.b_len)))))
theorem raw__law_numbers {P : Program} {w : World} {W : Wd} {base : Heap} (V : Ev W base)  : DFn P w W base 3 (He.fAd W.K ("_law_numbers", none)) 2 (bodyF 3 d__law_numbers) := by
  obtain ⟨fd, F⟩ := V.D__law_numbers
  exact DFn.of V.cx F sc__law_numbers (F.bindsN fun _ _ _ _ _ _ us hl => match us, hl with | [_, _], _ => rfl) (body__law_numbers V )
noncomputable def S__law_numbers : List PV → Mo PV := bodyF 3 d__law_numbers
theorem ref__law_numbers : Ref 2 (bodyF 3 d__law_numbers) S__law_numbers := ref_self
def oneP (i : Int) : PV × PV := (.int i, .int 1)
theorem one_any {as : List Int} {i : Int} : ((as.map oneP).any fun kv => keq kv.1 (.int i)) = decide (i ∈ as) := by
  induction as with
  | nil => simp
  | cons a as ih =>
    rw [List.map_cons, List.any_cons, ih]
    show (decide (a = i) || decide (i ∈ as)) = _
    rw [Bool.eq_iff_iff]
    simp only [Bool.or_eq_true, decide_eq_true_eq, List.mem_cons]
    exact ⟨Or.imp_left Eq.symm, Or.imp_left Eq.symm⟩
theorem put_one {as : List Int} {i : Int} : putP (as.map oneP) (.int i) (.int 1) = (if i ∈ as then as else as ++ [i]).map oneP := by
  unfold putP
  rw [one_any]
  by_cases h : i ∈ as
  · rw [if_pos (decide_eq_true h), if_pos h]
    have : ∀ l : List Int, (l.map oneP).map (fun kv => if keq kv.1 (.int i) = true then (kv.1, PV.int 1) else kv) = l.map oneP := fun l => by
      rw [List.map_map]
      refine List.map_congr_left fun a _ => ?_
      show (if keq (PV.int a) (.int i) = true then (PV.int a, PV.int 1) else oneP a) = oneP a
      split <;> rfl
    exact this as
  · rw [if_neg (by simp [h]), if_neg h, List.map_append]
    rfl
theorem merge_one : ∀ (ns as : List Int), as.Nodup → ∃ bs : List Int, mergeP (as.map oneP) (ns.map oneP) = bs.map oneP ∧ bs.Nodup ∧ ∀ k, k ∈ bs ↔ k ∈ as ∨ k ∈ ns
  | [], as, h => ⟨as, rfl, h, fun k => by simp⟩
  | n :: ns, as, h => by
    have h2 : (if n ∈ as then as else as ++ [n]).Nodup := by
      split
      · exact h
      · rename_i hn
        rw [List.nodup_append]
        exact ⟨h, by simp, fun a ha b hb => by
          rw [List.mem_singleton] at hb
          subst hb
          exact fun e => hn (e ▸ ha)⟩
    obtain ⟨bs, e, h3, h4⟩ := merge_one ns _ h2
    refine ⟨bs, ?_, h3, fun k => ?_⟩
    · show mergeP (putP (as.map oneP) (.int n) (.int 1)) (ns.map oneP) = _
      rw [put_one]
      exact e
    · rw [h4, List.mem_cons]
      split
      · rename_i hn
        constructor
        · rintro (h | h)
          · exact .inl h
          · exact .inr (.inr h)
        · rintro (h | rfl | h)
          · exact .inl h
          · exact .inl hn
          · exact .inr h
      · rw [List.mem_append, List.mem_singleton]
        constructor
        · rintro ((h | h) | h)
          · exact .inl h
          · exact .inr (.inl h)
          · exact .inr (.inr h)
        · rintro (h | h | h)
          · exact .inl (.inl h)
          · exact .inl (.inr h)
          · exact .inr h
theorem dict_one {ns : List Int} {st : Sto} : ∃ l : List (PV × PV), dictQ (ns.map fun i => .tup [.int i, .int 1]) st = .ok (.loc st.length) (st ++ [.dct false l]) ∧ l.length = (dst ns).length := by
  obtain ⟨bs, e, h1, h2⟩ := merge_one ns [] List.nodup_nil
  refine ⟨bs.map oneP, ?_, ?_⟩
  · have hp : pairsV (ns.map fun i => .tup [.int i, .int 1]) = some (ns.map oneP) := by
      clear e h2
      induction ns with
      | nil => rfl
      | cons n ns ih => simp only [List.map_cons, pairsV, isKey_int, if_true, ih, Option.map_some]; rfl
    unfold dictQ
    rw [hp]
    show layO (.dct false (mergeP [] (ns.map oneP))) st = _
    have e : mergeP [] (ns.map oneP) = bs.map oneP := e
    rw [e]
    rfl
  · rw [List.length_map]
    exact dst_length h1 fun k => by simp [h2]
def numL (n : Int) (q : PV) : Bool := match q with
  | .int i => decide (0 ≤ i) && decide (i < n)
  | _ => false
theorem numL_isNum {n : Int} (q : PV) : numL n q = isNum q 0 (n - 1) := by
  cases q <;> first
    | rfl
    | (rename_i i
       show (decide (0 ≤ i) && decide (i < n)) = (decide (0 ≤ i) && decide (i ≤ n - 1))
       rw [Bool.eq_iff_iff]
       simp
       omega)
def Gb (st s : Sto) : Prop := ∃ ex, s = st ++ ex
theorem _law_numbers_ok {L : List (Int × Int)} {v : PV} {st : Sto} {Q : PV → Sto → Prop} (h : okV v) (k : ∀ s, Gb st s → Q (.bl (isNums L.length v)) s) : Ok (S__law_numbers [staysP L, v] st) Q := by
  obtain ⟨hv, hl⟩ := h
  unfold S__law_numbers
  have kk : Q (.bl (isNums L.length v)) st := k st ⟨[], by simp⟩
  cases v with
  | loc _ => exact hv.1.elim
  | fn _ => exact hv.1.elim
  | kl _ => exact hv.1.elim
  | tup l =>
    have hp := hv.2 l rfl
    have hl := hl l rfl
    simp [d__law_numbers, d__law_numbers_1, d__law_numbers_2, d__law_numbers_3, start0, isK]
    rw [lc_map (fun q => .bl (numL L.length q)) (by exact True.intro) l (fun q hq => by
      have hq := hp q hq
      refine ⟨_, rfl, rfl, ?_⟩
      refine Ok.eq ?_
      cases q <;> first
        | exact hq.elim
        | (simp [wipeE, isK, numL]; done)
        | (simp [wipeE, isK, numL]; split <;> omega)) (by omega), ok_ok, allQ_map]
    cases h : l.all (numL L.length) with
    | false =>
      have h' : l.all (fun q => isNum q 0 ((L.length : Int) - 1)) = false := by
        rw [← h]
        congr 1
        funext q
        rw [numL_isNum]
      rw [isNums_not h'] at kk
      simpa using kk
    | true =>
      have h' : l.all (fun q => isNum q 0 ((L.length : Int) - 1)) = true := by
        rw [← h]
        congr 1
        funext q
        rw [numL_isNum]
      obtain ⟨ns, rfl, h2⟩ := all_isNum h'
      rw [List.length_map] at hl
      simp
      rw [lc_map (fun q => .tup [q, .int 1]) (by exact True.intro) _ (fun q hq => by
        refine ⟨_, rfl, rfl, ?_⟩
        refine Ok.eq ?_
        simp [wipeE]) (by rw [List.length_map]; omega), ok_ok, List.map_map]
      obtain ⟨m, e, hm⟩ := dict_one (ns := ns) (st := st)
      have e' : dictQ (ns.map ((fun q => PV.tup [q, .int 1]) ∘ PV.int)) st = .ok (.loc st.length) (st ++ [.dct false m]) := e
      rw [e', ok_ok]
      have z := k (st ++ [.dct false m]) ⟨_, rfl⟩
      simp [okd_int, hm, beq_nat]
      simpa [isNums, h2] using z
  | _ => simpa [d__law_numbers, d__law_numbers_1, d__law_numbers_2, d__law_numbers_3, start0, isK, isNums] using kk
theorem ok__law_numbers {P : Program} {w : World} {W : Wd} {base : Heap} (V : Ev W base) : DFn P w W base 3 (He.fAd W.K ("_law_numbers", none)) 2 S__law_numbers := raw__law_numbers V 
abbrev N__law_kept : List Str := ["stays", "k", "value", "kept", "i", "stay"]
noncomputable def d__law_kept_1 : PD.Env → Mo Fl := (dRet (dC (.bl false)))
noncomputable def d__law_kept_2 : PD.Env → Mo Fl := (dIfS (dOrT (dNotT (fun ρ => bnd ((fun ρ => bnd ((dCons (dVar 0) (dCons (dVar 2) (fun _ st => .ok [] st))) ρ) (callM 2 S__law_numbers)) ρ) truM)) (fun ρ => bnd ((fun ρ => bnd ((dLc (fun ρ => bnd ((dCons (dBin oSub (fun ρ => bnd ((dVar 2) ρ) lenM) (dC (.int 1))) (fun _ st => .ok [] st)) ρ) rg1M) (.nm 4) dYes (dBin oGe (dBin oIx (dVar 2) (dVar 4)) (dBin oIx (dVar 2) (dBin oAdd (dVar 4) (dC (.int 1))))) [4]) ρ) anyQ) ρ) truM)) d__law_kept_1 dNil)
noncomputable def d__law_kept_3 : PD.Env → Mo Fl := (dSet 3 (fun ρ => bnd ((dLc (fun ρ => bnd ((dVar 2) ρ) srcM) (.nm 4) dYes (dBin oIx (dVar 0) (dVar 4)) [4]) ρ) layL))
noncomputable def d__law_kept_4 : PD.Env → Mo Fl := (dRet (fun ρ => bnd ((dLc (fun ρ => bnd ((dVar 3) ρ) srcM) (.nm 5) dYes (dBin oLe (fun ρ => bnd ((fun ρ => bnd ((dCons (dVar 3) (dCons (dBin oIx (dVar 5) (dC (.int 0))) (fun _ st => .ok [] st))) ρ) (callM 2 S__law_present)) ρ) lenM) (dVar 1)) [5]) ρ) allQ))
noncomputable def d__law_kept : PD.Env → Mo Fl := (dSeq d__law_kept_2
    (dSeq d__law_kept_3
    d__law_kept_4))
theorem sc__law_kept : FnScope N__law_kept ["stays", "k", "value"] (defScope (top 27)) := C8.fnScope_by (by decide +kernel)
theorem body__law_kept {P : Program} {w : World} {W : Wd} {base : Heap} (V : Ev W base) (h__law_numbers : DFn P w W base 3 (He.fAd W.K ("_law_numbers", none)) 2 S__law_numbers) (h__law_present : DFn P w W base 3 (He.fAd W.K ("_law_present", none)) 2 S__law_present) : Body P w W base N__law_kept "_law_kept" (defScope (top 27)) (He.fAd W.K ("_law_kept", none)) 3 (defBody (top 27)) d__law_kept := fun cdv A outer s H E =>
  (dss_cons (ds_if (dt_w (dw_or (dt_not (dt_e (de_call (h__law_numbers.mono (by decide)) V.g__law_numbers (da_cons (de_var (i := 0)) (da_cons (de_var (i := 2)) da_nil))))) (dw_or1 (dt_e (de_any (dl_lc (own := [("i", 4)]) (di_range1 (da_cons (de_sub (de_lenV (de_var (i := 2)) rfl V.b_len) de_int) da_nil) rfl V.b_range) (blkOk_by (N := N__law_kept) (sc := defScope (top 27)) (by decide +kernel)) (fun _ _ _ _ _ => (dp_name (i := 4))) (fun _ _ _ _ _ => dts_nil) (fun _ _ _ _ _ => (de_ge (de_ix (de_var (i := 2)) (de_var (i := 4))) (de_ix (de_var (i := 2)) (de_add (de_var (i := 4)) de_int))))) rfl V.b_any))))) (dss_one (ds_ret de_bl)) dss_nil)
    (dss_cons (ds_set (i := 3) (de_l (dl_lc (own := [("i", 4)]) (di_e (de_var (i := 2))) (blkOk_by (N := N__law_kept) (sc := defScope (top 27)) (by decide +kernel)) (fun _ _ _ _ _ => (dp_name (i := 4))) (fun _ _ _ _ _ => dts_nil) (fun _ _ _ _ _ => (de_ix (de_var (i := 0)) (de_var (i := 4)))))))
    (dss_one (ds_ret (de_all (dl_lc (own := [("stay", 5)]) (di_e (de_var (i := 3))) (blkOk_by (N := N__law_kept) (sc := defScope (top 27)) (by decide +kernel)) (fun _ _ _ _ _ => (dp_name (i := 5))) (fun _ _ _ _ _ => dts_nil) (fun _ _ _ _ _ => (de_le (de_lenV (de_call (h__law_present.mono (by decide)) V.g__law_present (da_cons (de_var (i := 3)) (da_cons (de_ix (de_var (i := 5)) de_int) da_nil))) rfl V.b_len) (de_var (i := 1))))) rfl V.b_all)))))
theorem raw__law_kept {P : Program} {w : World} {W : Wd} {base : Heap} (V : Ev W base) (h__law_numbers : DFn P w W base 3 (He.fAd W.K ("_law_numbers", none)) 2 S__law_numbers) (h__law_present : DFn P w W base 3 (He.fAd W.K ("_law_present", none)) 2 S__law_present) : DFn P w W base 4 (He.fAd W.K ("_law_kept", none)) 3 (bodyF 6 d__law_kept) := by
  obtain ⟨fd, F⟩ := V.D__law_kept
  exact DFn.of V.cx F sc__law_kept (F.bindsN fun _ _ _ _ _ _ us hl => match us, hl with | [_, _, _], _ => rfl) (body__law_kept V h__law_numbers h__law_present)
noncomputable def S__law_kept : List PV → Mo PV := bodyF 6 d__law_kept
theorem ref__law_kept : Ref 3 (bodyF 6 d__law_kept) S__law_kept := ref_self
theorem any_asc {ns : List Int} : ((List.range (ns.length - 1)).any fun k => decide (ns[k]?.getD 0 ≥ ns[k + 1]?.getD 0)) = !ascB ns := by
  unfold ascB
  rw [← any_not]
  congr 1
  funext k
  rw [Bool.eq_iff_iff]
  simp
def anyQ_map {f : PV → Bool} : ∀ {l : List PV} {st : Sto}, anyQ (l.map fun q => PV.bl (f q)) st = .ok (.bl (l.any f)) st := fun {l st} => by
  unfold anyQ bnd
  have : ∀ x : List PV, blsM (x.map fun q => PV.bl (f q)) st = .ok (x.map f) st := fun x => by
    induction x with
    | nil => rfl
    | cons y x ih => exact (by simp only [List.map_cons, blsM, bnd, m_bl, ih])
  rw [this]
  dsimp only
  rw [List.any_map]
  rfl
section
variable {L : List (Int × Int)} {k : Int} {v : PV} {st : Sto} {Q : PV → Sto → Prop} {x0 x1 x2 x3 x4 x5 : Option PV}
theorem _law_kept_ok (hv : okV v) (K : ∀ ex, Q (.bl (keptB L k v)) (st ++ ex)) : Ok (S__law_kept [staysP L, .int k, v] st) Q := by
  unfold S__law_kept
  rw [e_body, ok_bnd]
  simp only [d__law_kept, ok_seq]
  simp [d__law_kept_2, start0, -ok_seq, -e_lc]
  refine _law_numbers_ok hv fun s hs => ?_
  obtain ⟨ex, rfl⟩ := hs
  have K0 := K ex
  cases h1 : isNums L.length v with
  | false =>
    have e : keptB L k v = false := by unfold keptB; rw [h1]; rfl
    rw [e] at K0
    simpa [d__law_kept_1] using K0
  | true =>
    obtain ⟨ns, rfl, hb, hn, _⟩ := isNums_tup h1
    have hl := okV_len hv rfl
    rw [List.length_map] at hl
    simp [-ok_seq, -e_lc]
    rw [e_lc]
    simp [wipeE, -ok_seq]
    refine ⟨⟨by omega, by omega⟩, ?_⟩
    rw [lc_map (fun q => .bl (decide (ns[natOf q]?.getD 0 ≥ ns[natOf q + 1]?.getD 0))) (by exact True.intro) (rgP 0 (ns.length - 1)) (fun q hq => by
      obtain ⟨i, hi, rfl⟩ := mem_rgP hq
      refine ⟨_, rfl, rfl, ?_⟩
      have e1 := int_at (l := ns) (i := i) (by omega)
      have e2 := int_at (l := ns) (i := i + 1) (by omega)
      rw [Int.natCast_add] at e2
      simp at e2
      refine Ok.eq ?_
      simp [e1, e2]) (by unfold rgP; simp; omega), ok_ok, anyQ_map]
    have ea : ((rgP 0 (ns.length - 1)).any fun q => decide (ns[natOf q]?.getD 0 ≥ ns[natOf q + 1]?.getD 0)) = !ascB ns := by
      rw [← any_asc, rgP_eq, List.any_map]
      congr 1
    rw [ea]
    cases h2 : ascB ns with
    | false =>
      have e : keptB L k (.tup (ns.map PV.int)) = false := by unfold keptB; rw [hn, h2]; simp
      rw [e] at K0
      simpa [d__law_kept_1] using K0
    | true =>
      have e : keptB L k (.tup (ns.map PV.int)) = covB L k ns := by unfold keptB; rw [h1, hn, h2]; simp
      rw [e] at K
      simp [-ok_seq]
      rw [ok_seq]
      simp [d__law_kept_3, staysP, wipeE, -ok_seq]
      rw [lc_map (stI L) (by exact True.intro) (ns.map PV.int) (fun q hq => by
        obtain ⟨i, hi, rfl⟩ := List.mem_map.mp hq
        refine ⟨_, rfl, rfl, ?_⟩
        refine Ok.eq ?_
        simp [stayI_at (hb i hi), stI]) (by rw [List.length_map]; omega), ok_ok, stI_map]
      have hl2 : (ns.map (gI L)).length ≤ 16777216 := by rw [List.length_map]; omega
      have K2 : ∀ ex2, Q (.bl (covB L k ns)) ((st ++ ex) ++ ex2) := fun ex2 => by rw [List.append_assoc]; exact K _
      revert K2
      generalize st ++ ex = s1
      intro K2
      have hat : (s1 ++ [Ob.lst false ((ns.map (gI L)).map stP)])[s1.length]? = some (.lst false ((ns.map (gI L)).map stP)) := by simp
      simp [d__law_kept_4, wipeE, -List.map_map]
      rw [lc_map (fun q => .bl (decide ((cov (ns.map (gI L)) (unStart q) : Int) ≤ k))) (by exact .inl hat) _ (fun q hq => by
        obtain ⟨a, ha, rfl⟩ := List.mem_map.mp hq
        refine ⟨_, rfl, rfl, ?_⟩
        have e1 := law_present_okL (m := a.1) hat hl2
        have e2 : unStart (stP a) = a.1 := rfl
        refine Ok.eq ?_
        simp [stP, -List.map_map] at e1 ⊢
        rw [e1]
        simp [intsP, presI_len, unStart]
        exact decide_eq_decide.mpr Iff.rfl) (by rw [List.length_map]; omega), ok_ok, allQ_map, ok_ok]
      have z := K2 [.lst false ((ns.map (gI L)).map stP)]
      have ez : covB L k ns = ((ns.map (gI L)).map stP).all (fun q => decide ((cov (ns.map (gI L)) (unStart q) : Int) ≤ k)) := by
        rw [List.all_map, List.all_map]
        rfl
      rw [ez] at z
      exact z
end
theorem ok__law_kept {P : Program} {w : World} {W : Wd} {base : Heap} (V : Ev W base) : DFn P w W base 4 (He.fAd W.K ("_law_kept", none)) 3 S__law_kept := raw__law_kept V (ok__law_numbers V) (ok__law_present V)
abbrev N__law_rents : List Str := ["value", "last", "pair", "part"]
noncomputable def d__law_rents_1 : PD.Env → Mo Fl := (dSet 1 (dUn oNeg (dC (.int 1))))
noncomputable def d__law_rents_2 : PD.Env → Mo Fl := (dRet (dC (.bl false)))
noncomputable def d__law_rents_3 : PD.Env → Mo Fl := (dIfS (dNotT (fun ρ => bnd ((dIsi .tup (dVar 0)) ρ) truM)) d__law_rents_2 dNil)
noncomputable def d__law_rents_4 : PD.Env → Mo Fl := (dRet (dC (.bl false)))
noncomputable def d__law_rents_5 : PD.Env → Mo Fl := (dIfS (dOrT (dNotT (fun ρ => bnd ((dIsi .tup (dVar 2)) ρ) truM)) (dOrT (dB (dBin (oEq true) (fun ρ => bnd ((dVar 2) ρ) lenM) (dC (.int 2)))) (dNotT (fun ρ => bnd ((fun ρ => bnd ((dLc (fun ρ => bnd ((dVar 2) ρ) srcM) (.nm 3) dYes (dAndV (dIsi .int (dVar 3)) (dNotV (dIsi .bl (dVar 3)))) [3]) ρ) allQ) ρ) truM)))) d__law_rents_4 dNil)
noncomputable def d__law_rents_6 : PD.Env → Mo Fl := (dRet (dC (.bl false)))
noncomputable def d__law_rents_7 : PD.Env → Mo Fl := (dIfS (dOrT (dB (dBin oLe (dBin oIx (dVar 2) (dC (.int 0))) (dVar 1))) (dOrT (dB (dBin oGt (dBin oIx (dVar 2) (dC (.int 0))) (dC (.int 1000000)))) (dB (dBin oLt (dBin oIx (dVar 2) (dC (.int 1))) (dC (.int 1)))))) d__law_rents_6 dNil)
noncomputable def d__law_rents_8 : PD.Env → Mo Fl := (dSet 1 (dBin oIx (dVar 2) (dC (.int 0))))
noncomputable def d__law_rents_9 : PD.Env → Mo Fl := (dFor (fun ρ => bnd ((dVar 0) ρ) srcM) (gNm 2) (dSeq d__law_rents_5
    (dSeq d__law_rents_7
    d__law_rents_8)))
noncomputable def d__law_rents_10 : PD.Env → Mo Fl := (dRet (dC (.bl true)))
noncomputable def d__law_rents : PD.Env → Mo Fl := (dSeq d__law_rents_1
    (dSeq d__law_rents_3
    (dSeq d__law_rents_9
    d__law_rents_10)))
theorem sc__law_rents : FnScope N__law_rents ["value"] (defScope (top 28)) := C8.fnScope_by (by decide +kernel)
theorem body__law_rents {P : Program} {w : World} {W : Wd} {base : Heap} (V : Ev W base)  : Body P w W base N__law_rents "_law_rents" (defScope (top 28)) (He.fAd W.K ("_law_rents", none)) 2 (defBody (top 28)) d__law_rents := fun cdv A outer s H E =>
  (dss_cons (ds_set (i := 1) (de_neg de_int))
    (dss_cons (ds_if (dt_not (dt_e (de_isi .tup (de_var (i := 0)) rfl V.b_isinstance rfl V.b_tuple boot_tuple_))) (dss_one (ds_ret de_bl)) dss_nil)
    (dss_cons (ds_for (di_e (de_var (i := 0))) (dg_name (i := 2)) (dss_cons (ds_if (dt_w (dw_or (dt_not (dt_e (de_isi .tup (de_var (i := 2)) rfl V.b_isinstance rfl V.b_tuple boot_tuple_))) (dw_or (dt_ne (de_lenV (de_var (i := 2)) rfl V.b_len) de_int) (dw_or1 (dt_not (dt_e (de_all (dl_lc (own := [("part", 3)]) (di_e (de_var (i := 2))) (blkOk_by (N := N__law_rents) (sc := defScope (top 28)) (by decide +kernel)) (fun _ _ _ _ _ => (dp_name (i := 3))) (fun _ _ _ _ _ => dts_nil) (fun _ _ _ _ _ => (de_and (de_isi .int (de_var (i := 3)) rfl V.b_isinstance rfl V.b_int boot_int_) (de_one (de_not (de_isi .bl (de_var (i := 3)) rfl V.b_isinstance rfl V.b_bool boot_bool_)))))) rfl V.b_all))))))) (dss_one (ds_ret de_bl)) dss_nil)
    (dss_cons (ds_if (dt_w (dw_or (dt_le (de_ix (de_var (i := 2)) de_int) (de_var (i := 1))) (dw_or (dt_gt (de_ix (de_var (i := 2)) de_int) de_int) (dw_or1 (dt_lt (de_ix (de_var (i := 2)) de_int) de_int))))) (dss_one (ds_ret de_bl)) dss_nil)
    (dss_one (ds_set (i := 1) (de_ix (de_var (i := 2)) de_int))))))
    (dss_one (ds_ret de_bl)))))
theorem raw__law_rents {P : Program} {w : World} {W : Wd} {base : Heap} (V : Ev W base)  : DFn P w W base 3 (He.fAd W.K ("_law_rents", none)) 1 (bodyF 4 d__law_rents) := by
  obtain ⟨fd, F⟩ := V.D__law_rents
  exact DFn.of V.cx F sc__law_rents (F.bindsN fun _ _ _ _ _ _ us hl => match us, hl with | [_], _ => rfl) (body__law_rents V )
noncomputable def S__law_rents : List PV → Mo PV := bodyF 4 d__law_rents
theorem ref__law_rents : Ref 1 (bodyF 4 d__law_rents) S__law_rents := ref_self
/-- the rents, one after the other -/
def lrB (last : Int) : List PV → Bool
  | [] => true
  | q :: l => match q with
    | .tup [.int a, .int b] => decide (last < a) && decide (a ≤ 1000000) && decide (1 ≤ b) && lrB a l
    | _ => false
theorem lrB_st {last : Int} {a : Int × Int} {l : List PV} : lrB last (stP a :: l) = (decide (last < a.1) && decide (a.1 ≤ 1000000) && decide (1 ≤ a.2) && lrB a.1 l) := rfl
theorem lrB_all : ∀ {l : List PV} {last : Int}, -1 ≤ last → lrB last l = true → l.all okRent = true
  | [], _, _, _ => rfl
  | q :: l, last, h0, h => by
    unfold lrB at h
    split at h
    · rename_i a b
      simp only [Bool.and_eq_true, decide_eq_true_eq] at h
      obtain ⟨⟨⟨h1, h2⟩, h3⟩, h4⟩ := h
      have := lrB_all (l := l) (by omega) h4
      rw [List.all_cons, this]
      simp [okRent]
      omega
    · cases h
theorem lrB_asc : ∀ {rs : List (Int × Int)} {last : Int}, (∀ a ∈ rs, a.1 ≤ 1000000 ∧ 1 ≤ a.2) → (lrB last (rs.map stP) = true ↔ (last :: rs.map (·.1)).Pairwise (· < ·))
  | [], _, _ => ⟨fun _ => List.pairwise_singleton _ _, fun _ => rfl⟩
  | a :: rs, last, h => by
    have ih := lrB_asc (rs := rs) (last := a.1) fun b hb => h b (List.mem_cons_of_mem _ hb)
    have ha := h a (List.mem_cons_self ..)
    rw [List.map_cons, lrB_st, List.map_cons]
    simp only [Bool.and_eq_true, decide_eq_true_eq, ih]
    rw [List.pairwise_cons (a := last)]
    constructor
    · rintro ⟨⟨⟨h1, h2⟩, h3⟩, h4⟩
      refine ⟨fun x hx => ?_, h4⟩
      rcases List.mem_cons.mp hx with rfl | hx
      · exact h1
      · have := (List.pairwise_cons.mp h4).1 x hx
        omega
    · rintro ⟨h1, h2⟩
      exact ⟨⟨⟨h1 _ (List.mem_cons_self ..), ha.1⟩, ha.2⟩, h2⟩
theorem lrB_rents {l : List PV} : lrB (-1) l = rentsB (.tup l) := by
  rw [Bool.eq_iff_iff]
  constructor
  · intro h
    have h1 := lrB_all (by omega) h
    obtain ⟨rs, rfl, hr⟩ := okRents_st h1
    rw [lrB_asc fun a ha => (hr a ha).2] at h
    exact rentsB_iff.mpr ⟨hr, (List.pairwise_cons.mp h).2⟩
  · intro h
    obtain ⟨rs, e, hr⟩ := rentsB_tup h
    cases e
    rw [lrB_asc fun a ha => (hr.bd a ha).2, List.pairwise_cons]
    refine ⟨fun x hx => ?_, hr.asc⟩
    obtain ⟨a, ha, rfl⟩ := List.mem_map.mp hx
    have := hr.bd a ha
    omega
section
variable {v : PV} {st : Sto} {last : Int} {Q : PV → Sto → Prop} {QF : Fl → Sto → Prop} {x0 x1 x2 x3 x4 x5 : Option PV}
/-- one rent: out, or on -/
theorem _law_rents_pair {q : PV} {l : List PV} (h : okV q) (K1 : lrB last (q :: l) = false → QF (.rt (.bl false)) st) (K2 : ∀ a : Int × Int, q = stP a → lrB last (q :: l) = lrB a.1 l → QF (.nx [some (v), some (.int a.1), some (q), none]) st) : Ok (dSeq d__law_rents_5 (dSeq d__law_rents_7 d__law_rents_8) [some (v), some (.int last), some (q), none] st) QF := by
  obtain ⟨⟨hv, hp⟩, hl⟩ := h
  rw [ok_seq]
  cases q with
  | loc _ => exact hv.elim
  | fn _ => exact hv.elim
  | kl _ => exact hv.elim
  | tup m =>
    have hp := hp m rfl
    have hl := hl m rfl
    by_cases h2 : m.length = 2
    · obtain ⟨a, b, rfl⟩ := len_two h2
      have ha := hp a (by simp)
      have hb := hp b (by simp)
      simp [d__law_rents_5, isK, okd_int, d__law_rents_4, wipeE]
      have isI : PV → Bool := fun p => match p with | .int _ => true | _ => false
      rw [lc_map (fun p => .bl (match p with | .int _ => true | _ => false)) (by exact True.intro) [a, b] (fun p hp2 => by
        refine ⟨_, rfl, rfl, ?_⟩
        have hpp := hp p hp2
        refine Ok.eq ?_
        cases p <;> first
          | exact hpp.elim
          | simp [isK]) (by simp), ok_ok, allQ_map]
      cases a with
      | loc _ => exact ha.elim
      | fn _ => exact ha.elim
      | kl _ => exact ha.elim
      | int i =>
        cases b with
        | loc _ => exact hb.elim
        | fn _ => exact hb.elim
        | kl _ => exact hb.elim
        | int j =>
          have e : lrB last (.tup [.int i, .int j] :: l) = (decide (last < i) && decide (i ≤ 1000000) && decide (1 ≤ j) && lrB i l) := rfl
          by_cases g1 : last < i
          · have g1' : ¬ i ≤ last := by omega
            by_cases g2 : i ≤ 1000000
            · have g2' : ¬ 1000000 < i := by omega
              by_cases g3 : 1 ≤ j
              · have g3' : ¬ j < 1 := by omega
                rw [decide_eq_true g1, decide_eq_true g2, decide_eq_true g3] at e
                have z := K2 (i, j) rfl e
                simpa [d__law_rents_7, d__law_rents_6, d__law_rents_8, g1', g2', g3'] using z
              · have g3' : j < 1 := by omega
                rw [decide_eq_false g3] at e
                have z := K1 (by rw [e]; simp)
                simpa [d__law_rents_7, d__law_rents_6, d__law_rents_8, g1', g2', g3'] using z
            · have g2' : 1000000 < i := by omega
              rw [decide_eq_false g2] at e
              have z := K1 (by rw [e]; simp)
              simpa [d__law_rents_7, d__law_rents_6, d__law_rents_8, g1', g2'] using z
          · have g1' : i ≤ last := by omega
            rw [decide_eq_false g1] at e
            have z := K1 (by rw [e]; simp)
            simpa [d__law_rents_7, d__law_rents_6, d__law_rents_8, g1'] using z
        | _ => simpa [d__law_rents_4] using K1 rfl
      | _ => simpa [d__law_rents_4] using K1 rfl
    · have h3 : lrB last (.tup m :: l) = false := by
        unfold lrB
        split
        · rename_i e
          cases e
          exact absurd rfl h2
        · rfl
      have h4 : ¬ ((m.length : Int) = 2) := by omega
      have h5 : ((m.length : Int) == 2) = false := by simpa using h4
      simpa [d__law_rents_5, isK, okd_int, d__law_rents_4, h5] using K1 h3
  | _ => simpa [d__law_rents_5, isK, d__law_rents_4] using K1 rfl
theorem _law_rents_ok (hv : okR v) : S__law_rents [v] st = .ok (.bl (rentsB v)) st := by
  obtain ⟨⟨⟨hv, _⟩, hl⟩, hp⟩ := hv
  unfold S__law_rents
  refine Ok.eq ?_
  rw [e_body, ok_bnd]
  simp only [d__law_rents, ok_seq]
  cases v with
  | loc _ => exact hv.elim
  | fn _ => exact hv.elim
  | kl _ => exact hv.elim
  | tup l =>
    have hl := hl l rfl
    have hp := hp l rfl
    simp [d__law_rents_1, d__law_rents_3, start0, isK, -ok_seq]
    rw [ok_seq]
    simp [-ok_seq]
    rw [ok_seq]
    simp only [d__law_rents_9, e_for, ok_bnd]
    simp [-ok_seq]
    refine ok_for (fun m ρ s => ∃ (last : Int) (x2 : Option PV), ρ = [some (.tup l), some (.int last), x2, none] ∧ s = st ∧ (∀ q ∈ m, okV q) ∧ lrB last m = rentsB (.tup l)) (fun _ _ _ _ => True.intro) ?_ ?_ _ _ _ ⟨-1, none, rfl, rfl, hp, lrB_rents⟩
    · intro ρ s hP
      obtain ⟨last, x2, rfl, rfl, _, e⟩ := hP
      rw [← e]
      simp [d__law_rents_10, lrB]
    · intro q m ρ s hP
      obtain ⟨last, x2, rfl, rfl, hq, e⟩ := hP
      rw [e_gNm, ok_ok]
      refine _law_rents_pair (l := m) (hq q (List.mem_cons_self ..)) (fun h0 => ?_) fun a ha h1 => ?_
      · rw [← e, h0]
        simp
      · exact ⟨a.1, _, rfl, rfl, fun p hp => hq p (List.mem_cons_of_mem _ hp), by rw [← e, h1]⟩
  | _ => simp [d__law_rents_1, d__law_rents_3, start0, isK, d__law_rents_2, rentsB]
end
theorem ok__law_rents {P : Program} {w : World} {W : Wd} {base : Heap} (V : Ev W base) : DFn P w W base 3 (He.fAd W.K ("_law_rents", none)) 1 S__law_rents := raw__law_rents V 
abbrev N__law_bound : List Str := ["stays", "worths", "k", "rents", "over", "i", "moment", "rent"]
noncomputable def d__law_bound_1 : PD.Env → Mo Fl := (dSet 4 (dC (.int 0)))
noncomputable def d__law_bound_2 : PD.Env → Mo Fl := (dSet 4 (dBin oAdd (dVar 4) (dBin oMax (dC (.int 0)) (dBin oSub (dBin oIx (dVar 1) (dVar 5)) (fun ρ => bnd ((dLc (fun ρ => bnd ((dVar 3) ρ) srcM) (.tp [(.nm 6), (.nm 7)]) (dAndT (dB (dBin oLe (dBin oIx (dBin oIx (dVar 0) (dVar 5)) (dC (.int 0))) (dVar 6))) (dB (dBin oLt (dVar 6) (dBin oIx (dBin oIx (dVar 0) (dVar 5)) (dC (.int 1)))))) (dVar 7) [6, 7]) ρ) sumQ)))))
noncomputable def d__law_bound_3 : PD.Env → Mo Fl := (dFor (fun ρ => bnd ((dCons (fun ρ => bnd ((dVar 0) ρ) lenM) (fun _ st => .ok [] st)) ρ) rg1M) (gNm 5) d__law_bound_2)
noncomputable def d__law_bound_4 : PD.Env → Mo Fl := (dRet (dBin oAdd (dBin oMul (dVar 2) (fun ρ => bnd ((dLc (fun ρ => bnd ((dVar 3) ρ) srcM) (.tp [(.nm 6), (.nm 7)]) dYes (dVar 7) [6, 7]) ρ) sumQ)) (dVar 4)))
noncomputable def d__law_bound : PD.Env → Mo Fl := (dSeq d__law_bound_1
    (dSeq d__law_bound_3
    d__law_bound_4))
theorem sc__law_bound : FnScope N__law_bound ["stays", "worths", "k", "rents"] (defScope (top 29)) := C8.fnScope_by (by decide +kernel)
theorem body__law_bound {P : Program} {w : World} {W : Wd} {base : Heap} (V : Ev W base)  : Body P w W base N__law_bound "_law_bound" (defScope (top 29)) (He.fAd W.K ("_law_bound", none)) 2 (defBody (top 29)) d__law_bound := fun cdv A outer s H E =>
  (dss_cons (ds_set (i := 4) de_int)
    (dss_cons (ds_for (di_range1 (da_cons (de_lenV (de_var (i := 0)) rfl V.b_len) da_nil) rfl V.b_range) (dg_name (i := 5)) (dss_one (ds_set (i := 4) (de_add (de_var (i := 4)) (de_max2 de_int (de_sub (de_ix (de_var (i := 1)) (de_var (i := 5))) (de_sum (dl_lc (own := [("moment", 6), ("rent", 7)]) (di_e (de_var (i := 3))) (blkOk_by (N := N__law_bound) (sc := defScope (top 29)) (by decide +kernel)) (fun _ _ _ _ _ => (dp_tup (dps_cons (dp_name (i := 6)) (dps_cons (dp_name (i := 7)) dps_nil)))) (fun _ _ _ _ _ => (dts_one (dt_w (dw_and (dt_le (de_ix (de_ix (de_var (i := 0)) (de_var (i := 5))) de_int) (de_var (i := 6))) (dw_and1 (dt_lt (de_var (i := 6)) (de_ix (de_ix (de_var (i := 0)) (de_var (i := 5))) de_int))))))) (fun _ _ _ _ _ => (de_var (i := 7)))) rfl V.b_sum)) rfl V.b_max)))))
    (dss_one (ds_ret (de_add (de_mul (de_var (i := 2)) (de_sum (dl_lc (own := [("moment", 6), ("rent", 7)]) (di_e (de_var (i := 3))) (blkOk_by (N := N__law_bound) (sc := defScope (top 29)) (by decide +kernel)) (fun _ _ _ _ _ => (dp_tup (dps_cons (dp_name (i := 6)) (dps_cons (dp_name (i := 7)) dps_nil)))) (fun _ _ _ _ _ => dts_nil) (fun _ _ _ _ _ => (de_var (i := 7)))) rfl V.b_sum)) (de_var (i := 4)))))))
theorem raw__law_bound {P : Program} {w : World} {W : Wd} {base : Heap} (V : Ev W base)  : DFn P w W base 3 (He.fAd W.K ("_law_bound", none)) 4 (bodyF 8 d__law_bound) := by
  obtain ⟨fd, F⟩ := V.D__law_bound
  exact DFn.of V.cx F sc__law_bound (F.bindsN fun _ _ _ _ _ _ us hl => match us, hl with | [_, _, _, _], _ => rfl) (body__law_bound V )
noncomputable def S__law_bound : List PV → Mo PV := bodyF 8 d__law_bound
theorem ref__law_bound : Ref 4 (bodyF 8 d__law_bound) S__law_bound := ref_self
section
variable {L rs : List (Int × Int)} {ws : List Int} {k : Int} {st : Sto} {x4 x5 x6 x7 : Option PV}
theorem _law_bound_ok (h : rs.length ≤ 1000000) (hL : L.length ≤ 1000000) (hw : ws.length = L.length) (hk : k.natAbs < 18446744073709551616) : S__law_bound [staysP L, .tup (ws.map PV.int), .int k, staysP rs] st = .ok (.int (boundI L ws k rs)) st := by
  unfold S__law_bound
  refine Ok.eq ?_
  rw [e_body, ok_bnd]
  simp only [d__law_bound, ok_seq]
  simp [d__law_bound_1, start0, -ok_seq]
  rw [ok_seq]
  simp only [d__law_bound_3, e_for, ok_bnd]
  simp [staysP, -ok_seq]
  refine ⟨⟨by omega, by omega⟩, ?_⟩
  refine ok_forR (fun i ρ s => ∃ x5, ρ = [some (staysP L), some (.tup (ws.map PV.int)), some (.int k), some (staysP rs), some (.int ((List.range i).map (overF L ws rs)).sum), x5, none, none] ∧ s = st) ⟨none, rfl, rfl⟩ ?_ ?_
  · intro ρ s hP
    obtain ⟨x5, rfl, rfl⟩ := hP
    simp [d__law_bound_4, wipeE, staysP]
    rw [all_rents (by exact True.intro) h fun r => ⟨_, rfl, rfl⟩, ok_ok, sumQ_ints]
    simp [boundI, CM]
    exact .inl hk
  · intro i ρ s hi hP
    obtain ⟨x5, rfl, rfl⟩ := hP
    have e1 := int_at (l := ws) (i := i) (by omega)
    have e2 := stay_at hi
    rw [e_gNm, ok_ok]
    simp [d__law_bound_2, e1, wipeE, staysP]
    rw [lc_pure (fun q => hasM (gS L i) (unSt q).1) (fun q => .int (unSt q).2) (by exact True.intro) (rs.map stP) [] (fun q hq => by
      obtain ⟨b, _, rfl⟩ := List.mem_map.mp hq
      refine ⟨_, rfl, ?_, fun _ => ?_⟩
      · refine Ok.eq ?_
        simp [e2, stP, unSt, hasM]
        by_cases g : (L[i]?.getD (0, 0)).1 ≤ b.1 <;> simp [g, gS]
        exact decide_eq_decide.mpr Iff.rfl
      · refine Ok.eq ?_
        simp [stP, unSt]) (by rw [List.length_map]; simp; omega), ok_ok, List.nil_append]
    have e : ((rs.map stP).filter fun q => hasM (gS L i) (unSt q).1).map (fun q => PV.int (unSt q).2) = ((rs.filter fun r => hasM (gS L i) r.1).map (·.2)).map PV.int := by
      rw [List.filter_map, List.map_map, List.map_map]
      rfl
    rw [e, sumQ_ints]
    have e3 : ((List.range (i + 1)).map (overF L ws rs)).sum = ((List.range i).map (overF L ws rs)).sum + overF L ws rs i := by
      rw [range_snoc, List.sum_append]
      simp
    simp [oMax, e3]
    unfold overF rentF
    split <;> omega
end
theorem ok__law_bound {P : Program} {w : World} {W : Wd} {base : Heap} (V : Ev W base) : DFn P w W base 3 (He.fAd W.K ("_law_bound", none)) 4 S__law_bound := raw__law_bound V 
abbrev N__law_greatest : List Str := ["stays", "worths", "k", "rows", "i", "row"]
noncomputable def d__law_greatest_1 : PD.Env → Mo Fl := (dSet 3 (fun ρ => bnd ((fun ρ => bnd ((dCons (fun ρ => bnd ((fun _ st => .ok [] st) ρ) tupM) (fun _ st => .ok [] st)) ρ) capM) ρ) layL))
noncomputable def d__law_greatest_2 : PD.Env → Mo Fl := (dSet 3 (fun ρ => bnd ((fun ρ => bnd ((dVar 3) ρ) fun q => bnd ((dLc (fun ρ => bnd ((dVar 3) ρ) srcM) (.nm 5) (fun ρ => bnd ((fun ρ => bnd ((dCons (dVar 0) (dCons (dVar 2) (dCons (dBin oAdd (dVar 5) (fun ρ => bnd ((dCons (dVar 4) (fun _ st => .ok [] st)) ρ) tupM)) (fun _ st => .ok [] st)))) ρ) (callM 3 S__law_kept)) ρ) truM) (dBin oAdd (dVar 5) (fun ρ => bnd ((dCons (dVar 4) (fun _ st => .ok [] st)) ρ) tupM)) [5]) ρ) fun m => bnd (lstU q) fun l => capM (l ++ m)) ρ) layL))
noncomputable def d__law_greatest_3 : PD.Env → Mo Fl := (dFor (fun ρ => bnd ((dCons (fun ρ => bnd ((dVar 0) ρ) lenM) (fun _ st => .ok [] st)) ρ) rg1M) (gNm 4) d__law_greatest_2)
noncomputable def d__law_greatest_4 : PD.Env → Mo Fl := (dRet (fun ρ => bnd ((dLc (fun ρ => bnd ((dVar 3) ρ) srcM) (.nm 5) dYes (fun ρ => bnd ((dLc (fun ρ => bnd ((dVar 5) ρ) srcM) (.nm 4) dYes (dBin oIx (dVar 1) (dVar 4)) [4]) ρ) sumQ) [5]) ρ) maxQ))
noncomputable def d__law_greatest : PD.Env → Mo Fl := (dSeq d__law_greatest_1
    (dSeq d__law_greatest_3
    d__law_greatest_4))
theorem sc__law_greatest : FnScope N__law_greatest ["stays", "worths", "k"] (defScope (top 30)) := C8.fnScope_by (by decide +kernel)
theorem body__law_greatest {P : Program} {w : World} {W : Wd} {base : Heap} (V : Ev W base) (h__law_kept : DFn P w W base 4 (He.fAd W.K ("_law_kept", none)) 3 S__law_kept) : Body P w W base N__law_greatest "_law_greatest" (defScope (top 30)) (He.fAd W.K ("_law_greatest", none)) 4 (defBody (top 30)) d__law_greatest := fun cdv A outer s H E =>
  (dss_cons (ds_set (i := 3) (de_l (dl_lst (da_cons (de_tup da_nil) da_nil))))
    (dss_cons (ds_for (di_range1 (da_cons (de_lenV (de_var (i := 0)) rfl V.b_len) da_nil) rfl V.b_range) (dg_name (i := 4)) (dss_one (ds_set (i := 3) (de_l (dl_catE (de_var (i := 3)) (du_l (dl_lc (own := [("row", 5)]) (di_e (de_var (i := 3))) (blkOk_by (N := N__law_greatest) (sc := defScope (top 30)) (by decide +kernel)) (fun _ _ _ _ _ => (dp_name (i := 5))) (fun _ _ _ _ _ => (dts_one (dt_e (de_call (h__law_kept.mono (by decide)) V.g__law_kept (da_cons (de_var (i := 0)) (da_cons (de_var (i := 2)) (da_cons (de_add (de_var (i := 5)) (de_tup (da_cons (de_var (i := 4)) da_nil))) da_nil))))))) (fun _ _ _ _ _ => (de_add (de_var (i := 5)) (de_tup (da_cons (de_var (i := 4)) da_nil)))))))))))
    (dss_one (ds_ret (de_maxL (dl_lc (own := [("row", 5)]) (di_e (de_var (i := 3))) (blkOk_by (N := N__law_greatest) (sc := defScope (top 30)) (by decide +kernel)) (fun _ _ _ _ _ => (dp_name (i := 5))) (fun _ _ _ _ _ => dts_nil) (fun _ _ _ _ _ => (de_sum (dl_lc (own := [("i", 4)]) (di_e (de_var (i := 5))) (blkOk_by (by rfl)) (fun _ _ _ _ _ => (dp_name (i := 4))) (fun _ _ _ _ _ => dts_nil) (fun _ _ _ _ _ => (de_ix (de_var (i := 1)) (de_var (i := 4))))) rfl V.b_sum))) rfl V.b_max)))))
theorem raw__law_greatest {P : Program} {w : World} {W : Wd} {base : Heap} (V : Ev W base) (h__law_kept : DFn P w W base 4 (He.fAd W.K ("_law_kept", none)) 3 S__law_kept) : DFn P w W base 5 (He.fAd W.K ("_law_greatest", none)) 3 (bodyF 6 d__law_greatest) := by
  obtain ⟨fd, F⟩ := V.D__law_greatest
  exact DFn.of V.cx F sc__law_greatest (F.bindsN fun _ _ _ _ _ _ us hl => match us, hl with | [_, _, _], _ => rfl) (body__law_greatest V h__law_kept)
noncomputable def S__law_greatest : List PV → Mo PV := bodyF 6 d__law_greatest
theorem ref__law_greatest : Ref 3 (bodyF 6 d__law_greatest) S__law_greatest := ref_self
/-! weak duality -/
theorem len_le {α : Type} {p q : α → Bool} {l : List α} (h : ∀ x ∈ l, p x = true → q x = true) : (l.filter p).length ≤ (l.filter q).length := by
  rw [← List.countP_eq_length_filter, ← List.countP_eq_length_filter]
  exact List.countP_mono_left h
theorem max_start : ∀ {l : List (Int × Int)}, l ≠ [] → ∃ a ∈ l, ∀ b ∈ l, b.1 ≤ a.1
  | [], h => absurd rfl h
  | [a], _ => ⟨a, List.mem_cons_self .., fun b hb => by rw [List.mem_singleton.mp hb]; omega⟩
  | a :: b :: l, _ => by
    obtain ⟨c, hc, h⟩ := max_start (l := b :: l) (by simp)
    by_cases q : c.1 ≤ a.1
    · refine ⟨a, List.mem_cons_self .., fun x hx => ?_⟩
      rcases List.mem_cons.mp hx with rfl | hx
      · omega
      · have := h x hx; omega
    · refine ⟨c, List.mem_cons_of_mem _ hc, fun x hx => ?_⟩
      rcases List.mem_cons.mp hx with rfl | hx
      · omega
      · exact h x hx
theorem cov_le {K : List (Int × Int)} {k : Int} (hk : 0 ≤ k) (h : ∀ a ∈ K, (cov K a.1 : Int) ≤ k) (m : Int) : (cov K m : Int) ≤ k := by
  by_cases he : (K.filter fun a => hasM a m) = []
  · unfold cov
    rw [he]
    exact hk
  · obtain ⟨a, ha, hm⟩ := max_start he
    rw [List.mem_filter] at ha
    have h1 := h a ha.1
    have h2 : cov K m ≤ cov K a.1 := len_le_of K m a.1 fun b hb hbm => by
      have h3 := hm b (List.mem_filter.mpr ⟨hb, hbm⟩)
      have h4 := ha.2
      unfold hasM at h4 hbm ⊢
      simp only [Bool.and_eq_true, decide_eq_true_eq] at h4 hbm ⊢
      omega
    omega
where
  len_le_of (K : List (Int × Int)) (m m' : Int) (h : ∀ b ∈ K, hasM b m = true → hasM b m' = true) : cov K m ≤ cov K m' := len_le h
theorem rentF_cons {r : Int × Int} {rs : List (Int × Int)} {a : Int × Int} : rentF (r :: rs) a = (if hasM a r.1 = true then r.2 else 0) + rentF rs a := by
  unfold rentF
  rw [List.filter_cons]
  split
  · rw [List.map_cons, List.sum_cons]
  · omega
theorem sum_add {α : Type} {f g : α → Int} : ∀ {l : List α}, (l.map fun x => f x + g x).sum = (l.map f).sum + (l.map g).sum
  | [] => rfl
  | a :: l => by rw [List.map_cons, List.sum_cons, List.map_cons, List.sum_cons, List.map_cons, List.sum_cons, sum_add]; omega
theorem sum_le {α : Type} {f g : α → Int} : ∀ {l : List α}, (∀ x ∈ l, f x ≤ g x) → (l.map f).sum ≤ (l.map g).sum
  | [], _ => Int.le_refl _
  | a :: l, h => by
    have h1 := sum_le (l := l) fun x hx => h x (List.mem_cons_of_mem _ hx)
    have h2 := h a (List.mem_cons_self ..)
    rw [List.map_cons, List.sum_cons, List.map_cons, List.sum_cons]
    omega
theorem pay_one {K : List (Int × Int)} {m r : Int} : (K.map fun a => if hasM a m = true then r else 0).sum = r * (cov K m : Int) := by
  unfold cov
  induction K with
  | nil => simp
  | cons a K ih =>
    rw [List.map_cons, List.sum_cons, ih, List.filter_cons]
    split
    · rw [List.length_cons, Int.natCast_add, Int.mul_add]
      simp only [Int.cast_ofNat_Int]
      omega
    · omega
theorem pay_all {K : List (Int × Int)} {k : Int} (h : ∀ m, (cov K m : Int) ≤ k) : ∀ {rs : List (Int × Int)}, (∀ r ∈ rs, 0 ≤ r.2) → (K.map (rentF rs)).sum ≤ k * (rs.map (·.2)).sum
  | [], _ => by
    have : (K.map (rentF [])).sum = (K.map fun _ => (0 : Int)).sum := rfl
    rw [this]
    have z : ∀ l : List (Int × Int), (l.map fun _ => (0 : Int)).sum = 0 := fun l => by
      induction l with
      | nil => rfl
      | cons a l ih => rw [List.map_cons, List.sum_cons, ih]; rfl
    rw [z]
    simp
  | r :: rs, hr => by
    have ih := pay_all h (rs := rs) fun x hx => hr x (List.mem_cons_of_mem _ hx)
    have h0 := hr r (List.mem_cons_self ..)
    have e : (K.map (rentF (r :: rs))).sum = (K.map fun a => (if hasM a r.1 = true then r.2 else 0) + rentF rs a).sum := by
      congr 1
      exact List.map_congr_left fun a _ => rentF_cons
    rw [e, sum_add, pay_one, List.map_cons, List.sum_cons, Int.mul_add]
    have h1 : r.2 * (cov K r.1 : Int) ≤ r.2 * k := Int.mul_le_mul_of_nonneg_left (h _) h0
    rw [Int.mul_comm k r.2]
    omega
theorem sumZ_mono {g : Nat → Int} (hg : ∀ i, 0 ≤ g i) {m : Nat} : ∀ {n : Nat}, m ≤ n → sumZ m g ≤ sumZ n g
  | 0, h => by
    have : m = 0 := by omega
    subst this
    exact Int.le_refl _
  | n + 1, h => by
    by_cases q : m = n + 1
    · rw [q]; exact Int.le_refl _
    · have := sumZ_mono hg (m := m) (n := n) (by omega)
      have := hg n
      rw [sumZ_succ]
      omega
theorem asc_sum {g : Nat → Int} (hg : ∀ i, 0 ≤ g i) : ∀ (t : Nat) {ns : List Int} {n : Nat}, ns.length = t → ns.Pairwise (· < ·) → (∀ i ∈ ns, 0 ≤ i ∧ i < (n : Int)) → (ns.map fun i => g i.toNat).sum ≤ sumZ n g
  | 0, ns, n, ht, _, _ => by
    have := List.eq_nil_of_length_eq_zero ht
    subst this
    have := sumZ_mono hg (Nat.zero_le n)
    exact this
  | t + 1, ns, n, ht, hp, hb => by
    obtain ⟨l, x, rfl, hl⟩ := len_snoc ht
    rw [List.pairwise_append] at hp
    have hx := hb x (by simp)
    have ih := asc_sum hg t (ns := l) (n := x.toNat) hl hp.1 fun i hi => by
      have h1 := hb i (List.mem_append_left _ hi)
      have h2 := hp.2.2 i hi x (by simp)
      omega
    have h3 : sumZ (x.toNat + 1) g ≤ sumZ n g := sumZ_mono hg (by omega)
    rw [sumZ_succ] at h3
    rw [List.map_append, List.sum_append]
    simp only [List.map_cons, List.map_nil, List.sum_cons, List.sum_nil]
    omega
section
variable {L rs : List (Int × Int)} {ws ns : List Int} {k : Int}
theorem weak (hk : 0 ≤ k) (h : KeptOk L k ns) (hr : ∀ r ∈ rs, 0 ≤ r.2) : dueI ws ns ≤ boundI L ws k rs := by
  have hcov : ∀ m, (cov (ns.map (gI L)) m : Int) ≤ k := cov_le hk fun a ha => by
    obtain ⟨i, hi, rfl⟩ := List.mem_map.mp ha
    exact h.cov i hi
  have h1 := pay_all hcov hr
  rw [List.map_map] at h1
  have h2 := asc_sum (g := overF L ws rs) (fun i => by unfold overF; omega) ns.length rfl h.asc h.bd
  have h3 : dueI ws ns ≤ (ns.map fun i => (rentF rs ∘ gI L) i + overF L ws rs i.toNat).sum := by
    unfold dueI
    refine sum_le fun i hi => ?_
    show wI ws i ≤ rentF rs (gS L i.toNat) + max 0 (ws[i.toNat]?.getD 0 - rentF rs (gS L i.toNat))
    unfold wI
    omega
  rw [sum_add] at h3
  unfold boundI
  rw [sum_eqZ]
  omega
theorem kept_front {i : Int} (h : KeptOk L k (ns ++ [i])) : KeptOk L k ns := by
  refine ⟨fun j hj => h.bd j (List.mem_append_left _ hj), (List.pairwise_append.mp h.asc).1, fun j hj => ?_⟩
  have h1 := h.cov j (List.mem_append_left _ hj)
  have h2 : cov (ns.map (gI L)) (gI L j).1 ≤ cov ((ns ++ [i]).map (gI L)) (gI L j).1 := by
    unfold cov
    rw [List.map_append, List.filter_append, List.length_append]
    omega
  omega
end
def tupI (ns : List Int) : PV := .tup (ns.map PV.int)
/-- the rows so far -/
structure GrI (L : List (Int × Int)) (k : Int) (i : Nat) (R : List (List Int)) : Prop where
  all : ∀ r ∈ R, KeptOk L k r
  has : ∀ ns, KeptOk L k ns → (∀ x ∈ ns, x < (i : Int)) → ns ∈ R
  len : R.length ≤ 2 ^ i
section
variable {L rs : List (Int × Int)} {ws ns : List Int} {k : Int} {st : Sto} {Q : PV → Sto → Prop} {QF : Fl → Sto → Prop} {x0 x1 x2 x3 x4 x5 : Option PV}
def nextR (L : List (Int × Int)) (k : Int) (i : Nat) (R : List (List Int)) : List (List Int) := (R.filter fun r => keptB L k (tupI (r ++ [(i : Int)]))).map fun r => r ++ [(i : Int)]
theorem GrI.next {i : Nat} {R : List (List Int)} (h : GrI L k i R) : GrI L k (i + 1) (R ++ nextR L k i R) := by
  refine ⟨fun r hr => ?_, fun ns hn hx => ?_, ?_⟩
  · rcases List.mem_append.mp hr with hr | hr
    · exact h.all r hr
    · obtain ⟨r', hr', rfl⟩ := List.mem_map.mp hr
      exact keptB_iff.mp (List.mem_filter.mp hr').2
  · rw [List.mem_append]
    by_cases q : ∀ x ∈ ns, x < (i : Int)
    · exact .inl (h.has ns hn q)
    · right
      have hne : ns.length ≠ 0 := fun z => by
        have := List.eq_nil_of_length_eq_zero z
        subst this
        exact q fun _ h => nomatch h
      obtain ⟨l, x, rfl, hl⟩ := len_snoc (n := ns.length - 1) (l := ns) (by omega)
      have hp := List.pairwise_append.mp hn.asc
      have hxi : x = (i : Int) := by
        have h1 := hx x (by simp)
        by_cases z : x = (i : Int)
        · exact z
        · exact absurd (fun y hy => by
            rcases List.mem_append.mp hy with hy | hy
            · have := hp.2.2 y hy x (by simp)
              omega
            · rw [List.mem_singleton.mp hy]
              omega) q
      subst hxi
      refine List.mem_map.mpr ⟨l, List.mem_filter.mpr ⟨h.has l (kept_front hn) fun y hy => hp.2.2 y hy _ (by simp), ?_⟩, rfl⟩
      exact keptB_iff.mpr hn
  · have h1 : (nextR L k i R).length ≤ R.length := by
      unfold nextR
      rw [List.length_map]
      exact List.length_filter_le _ _
    have := h.len
    rw [List.length_append, Nat.pow_succ]
    omega
theorem okV_ints {ns : List Int} (h : ns.length ≤ 4000) : okV (tupI ns) := ⟨⟨True.intro, fun l e => by
  cases e
  exact plainV_ints⟩, fun l e => by
  cases e
  rw [List.length_map]
  exact h⟩
theorem kept_len (h : KeptOk L k ns) : ns.length ≤ L.length := by
  have := asc_sum (g := fun _ => 1) (fun _ => by omega) ns.length rfl h.asc h.bd
  have e1 : (ns.map fun i => (1 : Int)).sum = (ns.length : Int) := by
    clear h this
    induction ns with
    | nil => rfl
    | cons a l ih => rw [List.map_cons, List.sum_cons, ih, List.length_cons]; omega
  have e2 : sumZ L.length (fun _ => 1) = (L.length : Int) := by
    clear e1 this h
    generalize L.length = n
    induction n with
    | zero => rfl
    | succ n ih => rw [sumZ_succ, ih]; omega
  omega
def GtI (L : List (Int × Int)) (k : Int) (i : Nat) (R : List (List Int)) (st : Sto) (m acc : List PV) (s : Sto) : Prop := ∃ ex R1 R2, s = st ++ ex ∧ R = R1 ++ R2 ∧ m = R2.map tupI ∧ acc = (nextR L k i R1).map tupI
theorem greatest_turn {i q : Nat} {R : List (List Int)} (h : GrI L k i R) (hi : i < L.length) (hL : L.length ≤ 8) (hq : st[q]? = some (.lst false (R.map tupI)))
    (K : ∀ ex s, s = st ++ ex → s[s.length - 1]? = some (.lst false ((R ++ nextR L k i R).map tupI)) → 0 < s.length → QF (.nx [some (staysP L), x1, some (.int k), some (.loc (s.length - 1)), some (.int (i : Int)), x5]) s) :
    Ok (d__law_greatest_2 [some (staysP L), x1, some (.int k), some (.loc q), some (.int (i : Int)), x5] st) QF := by
  have hR : R.length ≤ 256 := Nat.le_trans h.len (Nat.le_trans (Nat.pow_le_pow_right (by omega) (by omega : i ≤ 8)) (by decide))
  simp only [d__law_greatest_2, e_set, ok_bnd]
  simp [-e_lc, hq]
  rw [e_lc]
  simp [-e_lc, hq, wipeE]
  refine ok_lc (GtI L k i R st) (fun m acc s hP => ?_) ?_ ?_ _ _ _ ⟨[], [], R, by simp, rfl, rfl, rfl⟩
  · obtain ⟨ex, R1, R2, rfl, _⟩ := hP
    refine .inl ?_
    rw [List.getElem?_append_left (get_lt hq)]
    exact hq
  · intro acc s hP
    obtain ⟨ex, R1, R2, rfl, rfl, e1, rfl⟩ := hP
    have e1 : R2 = [] := by
      cases R2 with
      | nil => rfl
      | cons a b => cases e1
    subst e1
    rw [List.append_nil] at hq hR K
    have hq2 : (st ++ ex)[q]? = some (.lst false (R1.map tupI)) := by
      rw [List.getElem?_append_left (get_lt hq)]
      exact hq
    have hn : (nextR L k i R1).length ≤ R1.length := by
      unfold nextR
      rw [List.length_map]
      exact List.length_filter_le _ _
    rw [hq2]
    simp
    refine ⟨by omega, ?_⟩
    have z := K (ex ++ [.lst false ((R1 ++ nextR L k i R1).map tupI)]) _ rfl (by simp) (by simp; omega)
    simpa using z
  · intro p m acc s hP
    obtain ⟨ex, R1, R2, rfl, rfl, e1, rfl⟩ := hP
    cases R2 with
    | nil => cases e1
    | cons r R2 =>
      injection e1 with e1 e2
      subst e1 e2
      refine ⟨_, rfl, ?_⟩
      have hr := kept_len (h.all r (by simp))
      have hv := okV_ints (ns := r ++ [(i : Int)]) (by rw [List.length_append, List.length_singleton]; omega)
      have ev : PV.tup (r.map PV.int ++ [PV.int (i : Int)]) = tupI (r ++ [(i : Int)]) := by simp [tupI]
      have hl2 : (r.map PV.int).length + 1 ≤ 16777216 := by rw [List.length_map]; omega
      simp [tupI, -List.length_map]
      rw [List.length_map]
      refine ⟨by omega, ?_⟩
      rw [ev]
      refine _law_kept_ok hv fun ex2 => ?_
      have eR : R1 ++ r :: R2 = (R1 ++ [r]) ++ R2 := by simp
      cases hk : keptB L k (tupI (r ++ [(i : Int)])) with
      | false =>
        simp
        refine ⟨ex ++ ex2, R1 ++ [r], R2, by simp, by simp, rfl, ?_⟩
        have e3 : nextR L k i (R1 ++ [r]) = nextR L k i R1 := by
          unfold nextR
          rw [List.filter_append, List.filter_cons_of_neg (by simp [hk])]
          simp
        rw [e3]
      | true =>
        have hn : (nextR L k i R1).length ≤ R1.length := by
          unfold nextR
          rw [List.length_map]
          exact List.length_filter_le _ _
        have hRl : (R1 ++ r :: R2).length ≤ 256 := hR
        rw [List.length_append] at hRl
        simp
        refine ⟨by omega, by omega, ex ++ ex2, R1 ++ [r], R2, by simp, by simp, rfl, ?_⟩
        have e3 : nextR L k i (R1 ++ [r]) = nextR L k i R1 ++ [r ++ [(i : Int)]] := by
          unfold nextR
          rw [List.filter_append]
          simp [hk]
        rw [e3]
        simp [tupI]
end
section
variable {L rs : List (Int × Int)} {ws ns : List Int} {k : Int} {st : Sto} {Q : PV → Sto → Prop} {QF : Fl → Sto → Prop} {x0 x1 x2 x3 x4 x5 : Option PV}
def GgI (L : List (Int × Int)) (ws : List Int) (k : Int) (st : Sto) (i : Nat) (ρ : PD.Env) (s : Sto) : Prop := ∃ R q x4, ρ = [some (staysP L), some (.tup (ws.map PV.int)), some (.int k), some (.loc q), x4, none] ∧ Keep st s ∧ s[q]? = some (.lst false (R.map tupI)) ∧ GrI L k i R
def dueP (ws : List Int) : PV → PV
  | .tup l => .int ((l.map unI).map (wI ws)).sum
  | _ => .non
theorem dueP_tup : dueP ws (tupI ns) = .int (dueI ws ns) := by
  unfold dueP tupI
  dsimp only
  rw [unI_map]
  rfl
theorem workI_at {i : Int} (h : 0 ≤ i ∧ i < (ws.length : Int)) : atI (ws.map PV.int) i = some (.int (wI ws i)) := by
  obtain ⟨n, rfl⟩ : ∃ n : Nat, i = (n : Int) := ⟨i.toNat, by omega⟩
  exact int_at (by omega)
def wP (ws : List Int) : PV → PV
  | .int i => .int (wI ws i)
  | _ => .non
theorem wP_map : (ns.map PV.int).map (wP ws) = (ns.map (wI ws)).map PV.int := by
  rw [List.map_map, List.map_map]
  rfl
theorem _law_greatest_ok (hL : L.length ≤ 8) (hw : ws.length = L.length) (hk : 0 ≤ k) (h : KeptOk L k ns) (hr : ∀ r ∈ rs, 0 ≤ r.2) (he : boundI L ws k rs = dueI ws ns) (K : ∀ s, Keep st s → Q (.int (dueI ws ns)) s) : Ok (S__law_greatest [staysP L, .tup (ws.map PV.int), .int k] st) Q := by
  unfold S__law_greatest
  rw [e_body, ok_bnd]
  simp only [d__law_greatest]
  rw [ok_seq]
  simp [d__law_greatest_1, start0, -ok_seq]
  rw [ok_seq]
  simp only [d__law_greatest_3, e_for, ok_bnd]
  simp [-ok_seq]
  refine ⟨⟨by omega, by omega⟩, ?_⟩
  refine ok_forR (GgI L ws k st) ⟨[[]], st.length, none, rfl, Keep.refl.app, by simp [tupI], ?_⟩ ?_ ?_
  · refine ⟨fun r hr => ?_, fun m hm hx => ?_, by simp⟩
    · rw [List.mem_singleton.mp hr]
      exact ⟨(fun _ h => nomatch h), List.Pairwise.nil, (fun _ h => nomatch h)⟩
    · cases m with
      | nil => simp
      | cons a m =>
        have h1 := hm.bd a (by simp)
        have h2 := hx a (by simp)
        omega
  · intro ρ s hP
    obtain ⟨R, q, x4, rfl, k1, hq, hG⟩ := hP
    have hR : R.length ≤ 256 := Nat.le_trans hG.len (Nat.le_trans (Nat.pow_le_pow_right (by omega) hL) (by decide))
    simp [d__law_greatest_4, hq, wipeE, -e_lc]
    rw [e_lc]
    simp [hq, wipeE, -e_lc]
    rw [lc_map (dueP ws) (by exact .inl hq) (R.map tupI) (fun p hp => by
      obtain ⟨r, hr, rfl⟩ := List.mem_map.mp hp
      have hko := hG.all r hr
      have hrl := kept_len hko
      refine ⟨_, rfl, rfl, ?_⟩
      refine Ok.eq ?_
      rw [dueP_tup]
      simp [tupI, -e_lc, -List.map_map]
      rw [e_lc]
      simp [wipeE, -List.map_map]
      rw [lc_map (wP ws) (by exact True.intro) (r.map PV.int) (fun p hp => by
        obtain ⟨i, hi, rfl⟩ := List.mem_map.mp hp
        have := workI_at (ws := ws) (by rw [hw]; exact hko.bd i hi)
        refine ⟨_, rfl, rfl, ?_⟩
        refine Ok.eq ?_
        simp [this, wP]) (by rw [List.length_map]; omega), ok_ok, wP_map, sumQ_ints]
      simp [dueI]) (by rw [List.length_map]; omega), ok_ok]
    have e1 : (R.map tupI).map (dueP ws) = (R.map (dueI ws)).map PV.int := by
      rw [List.map_map, List.map_map]
      exact List.map_congr_left fun r _ => dueP_tup
    have hin : ns ∈ R := hG.has ns h fun x hx => (h.bd x hx).2
    have hne : (R.map (dueI ws)).length ≠ 0 := by
      rw [List.length_map]
      have := List.length_pos_of_mem hin
      omega
    have hmx : maxI (R.map (dueI ws)) = dueI ws ns := maxI_is (List.mem_map.mpr ⟨ns, hin, rfl⟩) fun y hy => by
      obtain ⟨r, hr', rfl⟩ := List.mem_map.mp hy
      have := weak (ws := ws) (rs := rs) hk (hG.all r hr') hr
      omega
    rw [e1]
    revert hne hmx
    generalize R.map (dueI ws) = X
    intro hne hmx
    simp [maxQ, intsM_ints, hmx]
    exact ⟨by omega, K s k1⟩
  · intro i ρ s hi hP
    obtain ⟨R, q, x4, rfl, k1, hq, hG⟩ := hP
    rw [e_gNm, ok_ok]
    refine greatest_turn hG hi hL hq fun ex s2 e hat hpos => ?_
    subst e
    exact ⟨_, _, _, rfl, k1.app, hat, hG.next⟩
end
theorem ok__law_greatest {P : Program} {w : World} {W : Wd} {base : Heap} (V : Ev W base) : DFn P w W base 5 (He.fAd W.K ("_law_greatest", none)) 3 S__law_greatest := raw__law_greatest V (ok__law_kept V)
abbrev N__law_some : List Str := ["box", "stays", "worths", "rows", "turn", "stay", "moment"]
noncomputable def d__law_some_1 : PD.Env → Mo Fl := (dSet 3 (fun _ => layO (.dct false [])))
noncomputable def d__law_some_2 : PD.Env → Mo Fl := (dSet 5 (dIf (dB (dBin oGt (fun ρ => bnd ((dVar 1) ρ) lenM) (dC (.int 0)))) (dBin oIx (dVar 1) (fun ρ => bnd ((dCons (dVar 0) (dCons (fun ρ => bnd ((dVar 1) ρ) lenM) (fun _ st => .ok [] st))) ρ) (callM 2 S__law_draw))) (fun ρ => bnd ((dCons (dC (.int 5)) (dCons (dC (.int 9)) (fun _ st => .ok [] st))) ρ) tupM)))
noncomputable def d__law_some_3 : PD.Env → Mo Fl := (dSet 6 (fun ρ => bnd ((fun ρ => bnd ((dCons (dBin oIx (dVar 5) (dC (.int 0))) (dCons (dBin oSub (dBin oIx (dVar 5) (dC (.int 1))) (dC (.int 1))) (dCons (dBin oIx (dVar 5) (dC (.int 1))) (dCons (dBin oMax (dC (.int 0)) (dBin oSub (dBin oIx (dVar 5) (dC (.int 0))) (dC (.int 1)))) (fun _ st => .ok [] st))))) ρ) capM) ρ) fun l => bnd ((fun ρ => bnd ((dCons (dVar 0) (dCons (dC (.int 4)) (fun _ st => .ok [] st))) ρ) (callM 2 S__law_draw)) ρ) fun i => ixQ l i))
noncomputable def d__law_some_4 : PD.Env → Mo Fl := (dAsg (dBin oAdd (dC (.int 1)) (fun ρ => bnd ((dCons (dVar 0) (dCons (fun ρ => bnd ((dBin oAdd (dVar 2) (fun ρ => bnd ((dCons (dC (.int 3)) (fun _ st => .ok [] st)) ρ) tupM)) ρ) maxS) (fun _ st => .ok [] st))) ρ) (callM 2 S__law_draw))) (gDb (dVar 3) (dVar 6)))
noncomputable def d__law_some_5 : PD.Env → Mo Fl := (dFor (fun ρ => bnd ((dCons (fun ρ => bnd ((dCons (dVar 0) (dCons (dC (.int 5)) (fun _ st => .ok [] st))) ρ) (callM 2 S__law_draw)) (fun _ st => .ok [] st)) ρ) rg1M) (gNm 4) (dSeq d__law_some_2
    (dSeq d__law_some_3
    d__law_some_4)))
noncomputable def d__law_some_6 : PD.Env → Mo Fl := (dRet (fun ρ => bnd ((fun ρ => bnd ((dVar 3) ρ) fun q => bnd (dctM q) sortItQ) ρ) tupQ))
noncomputable def d__law_some : PD.Env → Mo Fl := (dSeq d__law_some_1
    (dSeq d__law_some_5
    d__law_some_6))
theorem sc__law_some : FnScope N__law_some ["box", "stays", "worths"] (defScope (top 31)) := C8.fnScope_by (by decide +kernel)
theorem body__law_some {P : Program} {w : World} {W : Wd} {base : Heap} (V : Ev W base) (h__law_draw : DFn P w W base 4 (He.fAd W.K ("_law_draw", none)) 2 S__law_draw) : Body P w W base N__law_some "_law_some" (defScope (top 31)) (He.fAd W.K ("_law_some", none)) 4 (defBody (top 31)) d__law_some := fun cdv A outer s H E =>
  (dss_cons (ds_set (i := 3) de_dnew)
    (dss_cons (ds_for (di_range1 (da_cons (de_call (h__law_draw.mono (by decide)) V.g__law_draw (da_cons (de_var (i := 0)) (da_cons de_int da_nil))) da_nil) rfl V.b_range) (dg_name (i := 4)) (dss_cons (ds_set (i := 5) (de_if (dt_gt (de_lenV (de_var (i := 1)) rfl V.b_len) de_int) (de_ix (de_var (i := 1)) (de_call (h__law_draw.mono (by decide)) V.g__law_draw (da_cons (de_var (i := 0)) (da_cons (de_lenV (de_var (i := 1)) rfl V.b_len) da_nil)))) (de_tup (da_cons de_int (da_cons de_int da_nil)))))
    (dss_cons (ds_set (i := 6) (de_ixL (dl_lst (da_cons (de_ix (de_var (i := 5)) de_int) (da_cons (de_sub (de_ix (de_var (i := 5)) de_int) de_int) (da_cons (de_ix (de_var (i := 5)) de_int) (da_cons (de_max2 de_int (de_sub (de_ix (de_var (i := 5)) de_int) de_int) rfl V.b_max) da_nil))))) (de_call (h__law_draw.mono (by decide)) V.g__law_draw (da_cons (de_var (i := 0)) (da_cons de_int da_nil)))))
    (dss_one (ds_asg (de_add de_int (de_call (h__law_draw.mono (by decide)) V.g__law_draw (da_cons (de_var (i := 0)) (da_cons (de_maxS (de_add (de_var (i := 2)) (de_tup (da_cons de_int da_nil))) rfl V.b_max) da_nil)))) (dg_dsub (de_var (i := 3)) (de_var (i := 6))))))))
    (dss_one (ds_ret (de_tuple (dq_l (dl_sortIt (de_var (i := 3)) V.b_sorted)) rfl V.b_tuple)))))
theorem raw__law_some {P : Program} {w : World} {W : Wd} {base : Heap} (V : Ev W base) (h__law_draw : DFn P w W base 4 (He.fAd W.K ("_law_draw", none)) 2 S__law_draw) : DFn P w W base 5 (He.fAd W.K ("_law_some", none)) 3 (bodyF 7 d__law_some) := by
  obtain ⟨fd, F⟩ := V.D__law_some
  exact DFn.of V.cx F sc__law_some (F.bindsN fun _ _ _ _ _ _ us hl => match us, hl with | [_, _, _], _ => rfl) (body__law_some V h__law_draw)
noncomputable def S__law_some : List PV → Mo PV := bodyF 7 d__law_some
theorem ref__law_some : Ref 3 (bodyF 7 d__law_some) S__law_some := ref_self
def entP (p : Int × Int) : PV × PV := (.int p.1, .int p.2)
theorem put_ent {ps : List (Int × Int)} {m w : Int} : ∃ qs : List (Int × Int), putP (ps.map entP) (.int m) (.int w) = qs.map entP ∧ qs.length ≤ ps.length + 1 ∧ ∀ q ∈ qs, (q.1 = m ∨ ∃ p ∈ ps, p.1 = q.1) ∧ (q.2 = w ∨ ∃ p ∈ ps, p.2 = q.2) := by
  unfold putP
  split
  · refine ⟨ps.map fun p => if keq (.int p.1) (.int m) = true then (p.1, w) else p, ?_, by simp, fun q hq => ?_⟩
    · rw [List.map_map, List.map_map]
      refine List.map_congr_left fun p _ => ?_
      show (if keq (PV.int p.1) (.int m) = true then (PV.int p.1, PV.int w) else entP p) = entP (if keq (PV.int p.1) (.int m) = true then (p.1, w) else p)
      split <;> rfl
    · obtain ⟨p, hp, rfl⟩ := List.mem_map.mp hq
      split
      · exact ⟨.inr ⟨p, hp, rfl⟩, .inl rfl⟩
      · exact ⟨.inr ⟨p, hp, rfl⟩, .inr ⟨p, hp, rfl⟩⟩
  · refine ⟨ps ++ [(m, w)], by rw [List.map_append]; rfl, by simp, fun q hq => ?_⟩
    rcases List.mem_append.mp hq with hq | hq
    · exact ⟨.inr ⟨q, hq, rfl⟩, .inr ⟨q, hq, rfl⟩⟩
    · rw [List.mem_singleton.mp hq]
      exact ⟨.inl rfl, .inl rfl⟩
def InB (p : Int × Int) : Prop := -2000000 ≤ p.1 ∧ p.1 ≤ 2000000 ∧ -2000000 ≤ p.2 ∧ p.2 ≤ 2000000
section
variable {b c : Nat} {st : Sto} {L : List (Int × Int)} {ws : List Int} {Q : PV → Sto → Prop} {QF : Fl → Sto → Prop} {x0 x1 x2 x3 x4 x5 x6 : Option PV}
structure SoI (b c : Nat) (st : Sto) (n : Nat) (s : Sto) (ps : List (Int × Int)) : Prop where
  bx : Bx b c st s
  at_ : s[st.length]? = some (.dct false (ps.map entP))
  len : ps.length ≤ n
  bd : ∀ p ∈ ps, InB p
theorem SoI.bxs {n : Nat} {s s' : Sto} {ps : List (Int × Int)} (h : SoI b c st n s ps) (h0 : BoxAt b c st) (hb : Bx b c s s') : SoI b c st n s' ps := by
  have hlt := h0.lt
  exact ⟨⟨h.bx.1.trans hb.1, hb.2⟩, by rw [hb.1.eq _ (get_lt h.at_) (by omega) (by omega)]; exact h.at_, h.len, h.bd⟩
theorem some_stay {n : Nat} {s : Sto} {ps : List (Int × Int)} (h0 : BoxAt b c st) (h : SoI b c st n s ps) (hL : L.length ≤ 60) (hv : ∀ a ∈ L, 0 ≤ a.1 ∧ a.1 < a.2 ∧ a.2 ≤ 1000000)
    (K : ∀ a s', SoI b c st n s' ps → 0 ≤ a.1 ∧ a.1 < a.2 ∧ a.2 ≤ 1000000 → QF (.nx [some (.loc b), some (staysP L), some (.tup (ws.map PV.int)), some (.loc st.length), x4, some (stP a), x6]) s') :
    Ok (d__law_some_2 [some (.loc b), some (staysP L), some (.tup (ws.map PV.int)), some (.loc st.length), x4, x5, x6] s) QF := by
  simp [d__law_some_2, staysP]
  by_cases hz : L.length = 0
  · have e := List.eq_nil_of_length_eq_zero hz
    subst e
    simp
    exact K (5, 9) s h ⟨by decide, by decide, by decide⟩
  · have hp : 0 < L.length := by omega
    simp [hp]
    refine (law_draw_ok h.bx.2 (m := (L.length : Int)) (by omega) (by omega)).imp fun p s2 hh => ?_
    obtain ⟨d, rfl, d1, d2, c1, b1⟩ := hh
    obtain ⟨k, rfl⟩ : ∃ k : Nat, d = (k : Int) := ⟨d.toNat, by omega⟩
    have hk : k < L.length := by omega
    have e1 := stay_at hk
    simp [e1]
    have hg : gS L k = L[k] := gS_of hk
    have z := K (gS L k) s2 (h.bxs h0 ⟨c1, b1⟩) (by rw [hg]; exact hv _ (List.getElem_mem hk))
    exact z
theorem some_put {n : Nat} {s : Sto} {ps : List (Int × Int)} {a : Int × Int} (h0 : BoxAt b c st) (h : SoI b c st n s ps) (hn : n ≤ 100) (ha : 0 ≤ a.1 ∧ a.1 < a.2 ∧ a.2 ≤ 1000000) (hw : ∀ w ∈ ws, w ≤ 1000000) (hwl : ws.length ≤ 60)
    (K : ∀ qs s' x6, SoI b c st (n + 1) s' qs → QF (.nx [some (.loc b), some (staysP L), some (.tup (ws.map PV.int)), some (.loc st.length), x4, some (stP a), x6]) s') :
    Ok (dSeq d__law_some_3 d__law_some_4 [some (.loc b), some (staysP L), some (.tup (ws.map PV.int)), some (.loc st.length), x4, some (stP a), x6] s) QF := by
  rw [ok_seq]
  simp [d__law_some_3, stP, oMax]
  refine (law_draw_ok h.bx.2 (m := 4) (by omega) (by omega)).imp fun p s2 hh => ?_
  obtain ⟨d, rfl, d1, d2, c1, b1⟩ := hh
  have h2 := h.bxs h0 ⟨c1, b1⟩
  refine ixQ_ok d1 d2 fun z hz => ?_
  have hz2 : ∃ m : Int, z = .int m ∧ -2000000 ≤ m ∧ m ≤ 2000000 := by
    simp only [List.mem_cons, List.not_mem_nil, or_false] at hz
    rcases hz with rfl | rfl | rfl | rfl
    · exact ⟨_, rfl, by omega, by omega⟩
    · exact ⟨_, rfl, by omega, by omega⟩
    · exact ⟨_, rfl, by omega, by omega⟩
    · refine ⟨_, rfl, ?_, ?_⟩ <;> (split <;> omega)
  obtain ⟨m, rfl, m1, m2⟩ := hz2
  clear hz
  have em : ws.map PV.int ++ [PV.int 3] = (ws ++ [3]).map PV.int := by simp
  have hmx : maxI (ws ++ [3]) ≤ 1000000 ∧ 0 < maxI (ws ++ [3]) := by
    have hm := maxI_mem (l := ws ++ [3]) (by simp)
    have hg := maxI_ge (l := ws ++ [3]) (y := 3) (by simp)
    rw [List.mem_append, List.mem_singleton] at hm
    rcases hm with hm | hm
    · exact ⟨hw _ hm, by omega⟩
    · omega
  have hYl : (ws ++ [3]).length = ws.length + 1 := by simp
  simp [d__law_some_4]
  rw [em]
  revert hmx hYl
  generalize ws ++ [3] = Y
  intro hmx hYl
  simp [maxS, intsM_ints]
  refine ⟨by omega, by omega, ?_⟩
  refine (law_draw_ok h2.bx.2 (m := maxI Y) (by omega) (by omega)).imp fun p s3 hh => ?_
  obtain ⟨e, rfl, e1, e2, c2, b2⟩ := hh
  have h3 := h2.bxs h0 ⟨c2, b2⟩
  obtain ⟨qs, eq, hql, hqs⟩ := put_ent (ps := ps) (m := m) (w := 1 + e)
  have hpl := h3.len
  simp [h3.at_, isKey_int, eq]
  refine ⟨by omega, ?_⟩
  have hlt := h0.lt
  have hle := get_lt h3.at_
  refine K qs _ _ ⟨⟨⟨by rw [List.length_set]; exact h3.bx.1.le, fun i hi i1 i2 => by rw [List.getElem?_set_ne (by omega)]; exact h3.bx.1.eq i hi i1 i2⟩, h3.bx.2.setO (by omega) (by omega)⟩, by rw [List.getElem?_set_self hle], by omega, fun q hq => ?_⟩
  obtain ⟨g1, g2⟩ := hqs q hq
  have g3 : -2000000 ≤ q.1 ∧ q.1 ≤ 2000000 := by
    rcases g1 with g | ⟨p, hp, g⟩
    · omega
    · have := h3.bd p hp
      unfold InB at this
      omega
  have g4 : -2000000 ≤ q.2 ∧ q.2 ≤ 2000000 := by
    rcases g2 with g | ⟨p, hp, g⟩
    · omega
    · have := h3.bd p hp
      unfold InB at this
      omega
  exact ⟨g3.1, g3.2, g4.1, g4.2⟩
theorem bn_pairs {ps : List (Int × Int)} (h : ∀ p ∈ ps, p.1.natAbs ≤ 1000000000000000000000000 ∧ p.2.natAbs ≤ 1000000000000000000000000) (hl : ps.length ≤ 1900) : Bn 2 (staysP ps) := by
  refine .inr ⟨_, rfl, by rw [List.length_map]; exact hl, fun p hp => ?_⟩
  obtain ⟨a, ha, rfl⟩ := List.mem_map.mp hp
  have := h a ha
  refine .inr ⟨_, rfl, by simp, fun q hq => ?_⟩
  simp only [List.mem_cons, List.not_mem_nil, or_false] at hq
  rcases hq with rfl | rfl
  · exact .inr (.inl ⟨_, rfl, this.1⟩)
  · exact .inr (.inl ⟨_, rfl, this.2⟩)
theorem _law_some_ok (h : BoxAt b c st) (hL : L.length ≤ 60) (hv : ∀ a ∈ L, 0 ≤ a.1 ∧ a.1 < a.2 ∧ a.2 ≤ 1000000) (hw : ∀ w ∈ ws, w ≤ 1000000) (hwl : ws.length ≤ 60) (K : ∀ v s, Bx b c st s → Bn 2 v → Q v s) : Ok (S__law_some [.loc b, staysP L, .tup (ws.map PV.int)] st) Q := by
  unfold S__law_some
  rw [e_body, ok_bnd]
  simp only [d__law_some]
  rw [ok_seq]
  simp [d__law_some_1, start0, layO, -ok_seq]
  rw [ok_seq]
  simp only [d__law_some_5, e_for, ok_bnd]
  simp [-ok_seq]
  have b0 : BoxAt b c (st ++ [.dct false []]) := h.app
  refine (law_draw_ok b0 (m := 5) (by omega) (by omega)).imp fun p s1 hh => ?_
  obtain ⟨d, rfl, d1, d2, c1, b1⟩ := hh
  simp [-ok_seq]
  refine ⟨⟨by omega, by omega⟩, ?_⟩
  have hlt := h.lt
  have i0 : SoI b c st 0 s1 [] := ⟨⟨Ch.app.trans c1, b1⟩, by rw [c1.eq _ (by simp) (by omega) (by omega)]; simp, Nat.le_refl _, (fun _ h => nomatch h)⟩
  refine ok_forR (fun i ρ s => ∃ ps x4 x5 x6, ρ = [some (.loc b), some (staysP L), some (.tup (ws.map PV.int)), some (.loc st.length), x4, x5, x6] ∧ SoI b c st i s ps) ⟨[], _, _, _, rfl, i0⟩ ?_ ?_
  · intro ρ s hP
    obtain ⟨ps, x4, x5, x6, rfl, hI⟩ := hP
    have hpl := hI.len
    have hp := pairsOf_map ps
    have e : (ps.map entP) = ps.map fun p => (PV.int p.1, PV.int p.2) := rfl
    simp [d__law_some_6, dctM, hI.at_]
    unfold sortItQ
    rw [e, hp]
    dsimp only
    rw [if_pos (by omega), ok_ok]
    refine K _ s hI.bx (bn_pairs (ps := ordPP ps) (fun p hq => ?_) ?_)
    · have := hI.bd p ((List.mergeSort_perm _ _).mem_iff.mp hq)
      unfold InB at this
      omega
    · have : (ordPP ps).length = ps.length := (List.mergeSort_perm _ _).length_eq
      omega
  · intro i ρ s hi hP
    obtain ⟨ps, x4, x5, x6, rfl, hI⟩ := hP
    rw [e_gNm, ok_ok, ok_seq]
    refine some_stay h hI hL hv fun a s2 hI2 ha => ?_
    rw [seqK_nx]
    refine some_put h hI2 (by omega) ha hw hwl fun qs s3 x6 hI3 => ?_
    exact ⟨qs, _, _, _, rfl, hI3⟩
end
theorem ok__law_some {P : Program} {w : World} {W : Wd} {base : Heap} (V : Ev W base) : DFn P w W base 5 (He.fAd W.K ("_law_some", none)) 3 S__law_some := raw__law_some V (ok__law_draw V)
abbrev N_law : List Str := ["script", "box", "great", "many", "stays", "top", "worths", "k", "told", "due", "rows", "value", "kept", "rents", "fine", "i", "turn"]
noncomputable def d_law_1 : PD.Env → Mo Fl := (dSet 1 (fun ρ => bnd ((dCons (dVar 0) (fun _ st => .ok [] st)) ρ) (callM 1 S__law_box)))
noncomputable def d_law_2 : PD.Env → Mo Fl := (dSet 2 (dBin (oEq false) (fun ρ => bnd ((dCons (dVar 1) (dCons (dC (.int 8)) (fun _ st => .ok [] st))) ρ) (callM 2 S__law_draw)) (dC (.int 0))))
noncomputable def d_law_3 : PD.Env → Mo Fl := (dSet 3 (dIf (fun ρ => bnd ((dVar 2) ρ) truM) (dBin oAdd (dC (.int 10)) (fun ρ => bnd ((dCons (dVar 1) (dCons (dC (.int 31)) (fun _ st => .ok [] st))) ρ) (callM 2 S__law_draw))) (fun ρ => bnd ((dCons (dVar 1) (dCons (dC (.int 9)) (fun _ st => .ok [] st))) ρ) (callM 2 S__law_draw))))
noncomputable def d_law_4 : PD.Env → Mo Fl := (dSet 4 (fun ρ => bnd ((dCons (dVar 1) (dCons (dVar 3) (fun _ st => .ok [] st))) ρ) (callM 2 S__law_stays)))
noncomputable def d_law_5 : PD.Env → Mo Fl := (dSet 5 (fun ρ => bnd ((fun ρ => bnd ((dCons (dC (.int 1)) (dCons (dC (.int 4)) (dCons (dC (.int 1000000)) (fun _ st => .ok [] st)))) ρ) capM) ρ) fun l => bnd ((fun ρ => bnd ((dCons (dVar 1) (dCons (dC (.int 3)) (fun _ st => .ok [] st))) ρ) (callM 2 S__law_draw)) ρ) fun i => ixQ l i))
noncomputable def d_law_6 : PD.Env → Mo Fl := (dSet 6 (fun ρ => bnd ((dLc (fun ρ => bnd ((dCons (dVar 3) (fun _ st => .ok [] st)) ρ) rg1M) (.nm 15) dYes (dBin oAdd (dC (.int 1)) (fun ρ => bnd ((dCons (dVar 1) (dCons (dVar 5) (fun _ st => .ok [] st))) ρ) (callM 2 S__law_draw))) [15]) ρ) tupQ))
noncomputable def d_law_7 : PD.Env → Mo Fl := (dSet 8 (fun ρ => bnd ((dCons (dVar 4) (dCons (dVar 6) (dCons (dVar 7) (fun _ st => .ok [] st)))) ρ) (callM 3 S_best_kept)))
noncomputable def d_law_8 : PD.Env → Mo Fl := (dRet (dC (.bl false)))
noncomputable def d_law_9 : PD.Env → Mo Fl := (dIfS (dOrT (dNotT (fun ρ => bnd ((dIsi .tup (dVar 8)) ρ) truM)) (dB (dBin (oEq true) (fun ρ => bnd ((dVar 8) ρ) lenM) (dC (.int 2))))) d_law_8 dNil)
noncomputable def d_law_10 : PD.Env → Mo Fl := (dAsg (dVar 8) (gTp 2 (gCs (gNm 12) (gCs (gNm 13) gNl))))
noncomputable def d_law_11 : PD.Env → Mo Fl := (dRet (dC (.bl false)))
noncomputable def d_law_12 : PD.Env → Mo Fl := (dIfS (dOrT (dNotT (fun ρ => bnd ((fun ρ => bnd ((dCons (dVar 4) (dCons (dVar 7) (dCons (dVar 12) (fun _ st => .ok [] st)))) ρ) (callM 3 S__law_kept)) ρ) truM)) (dNotT (fun ρ => bnd ((fun ρ => bnd ((dCons (dVar 13) (fun _ st => .ok [] st)) ρ) (callM 1 S__law_rents)) ρ) truM))) d_law_11 dNil)
noncomputable def d_law_13 : PD.Env → Mo Fl := (dSet 9 (fun ρ => bnd ((dLc (fun ρ => bnd ((dVar 12) ρ) srcM) (.nm 15) dYes (dBin oIx (dVar 6) (dVar 15)) [15]) ρ) sumQ))
noncomputable def d_law_14 : PD.Env → Mo Fl := (dRet (dC (.bl false)))
noncomputable def d_law_15 : PD.Env → Mo Fl := (dIfS (dOrT (dB (dBin (oEq true) (fun ρ => bnd ((dCons (dVar 4) (dCons (dVar 6) (dCons (dVar 7) (dCons (dVar 13) (fun _ st => .ok [] st))))) ρ) (callM 4 S__law_bound)) (dVar 9))) (dAndT (dNotT (fun ρ => bnd ((dVar 2) ρ) truM)) (dB (dBin (oEq true) (fun ρ => bnd ((dCons (dVar 4) (dCons (dVar 6) (dCons (dVar 7) (fun _ st => .ok [] st)))) ρ) (callM 3 S__law_greatest)) (dVar 9))))) d_law_14 dNil)
noncomputable def d_law_16 : PD.Env → Mo Fl := (dSet 10 (fun ρ => bnd ((fun ρ => bnd ((dCons (dVar 12) (dCons (dSl (dVar 12) (fun ρ => bnd ((dC (.int 1)) ρ) intM) (fun _ st => .ok none st) slT) (dCons (fun ρ => bnd ((dVar 12) ρ) revM) (dCons (dBin oAdd (dVar 12) (dSl (dVar 12) (fun ρ => bnd ((dUn oNeg (dC (.int 1))) ρ) intM) (fun _ st => .ok none st) slT)) (dCons (fun ρ => bnd ((dVar 3) ρ) fun q => tupR [q]) (dCons (dC .non) (dCons (dC (.int 3)) (dCons (dC (.str "kept")) (dCons (fun ρ => bnd ((fun _ st => .ok [] st) ρ) tupM) (dCons (fun ρ => bnd ((dCons (dVar 3) (fun _ st => .ok [] st)) ρ) tupM) (dCons (fun ρ => bnd ((dCons (dUn oNeg (dC (.int 1))) (fun _ st => .ok [] st)) ρ) tupM) (fun _ st => .ok [] st)))))))))))) ρ) capM) ρ) layL))
noncomputable def d_law_17 : PD.Env → Mo Fl := (dSet 10 (fun ρ => bnd ((fun ρ => bnd ((dVar 10) ρ) fun q => bnd ((dLc (fun ρ => bnd ((dCons (dC (.int 8)) (fun _ st => .ok [] st)) ρ) rg1M) (.nm 16) dYes (fun ρ => bnd ((dLc (fun ρ => bnd ((dCons (dVar 3) (fun _ st => .ok [] st)) ρ) rg1M) (.nm 15) (dB (dBin (oEq false) (fun ρ => bnd ((dCons (dVar 1) (dCons (dC (.int 2)) (fun _ st => .ok [] st))) ρ) (callM 2 S__law_draw)) (dC (.int 0)))) (dVar 15) [15]) ρ) tupQ) [16]) ρ) fun m => bnd (lstU q) fun l => capM (l ++ m)) ρ) layL))
noncomputable def d_law_18 : PD.Env → Mo Fl := (dSet 10 (fun ρ => bnd ((fun ρ => bnd ((dVar 10) ρ) fun q => bnd ((dLc (fun ρ => bnd ((dCons (dC (.int 3)) (fun _ st => .ok [] st)) ρ) rg1M) (.nm 16) (dB (dBin oGt (dVar 3) (dC (.int 0)))) (fun ρ => bnd ((fun ρ => bnd ((fun ρ => bnd ((dLc (fun ρ => bnd ((dBin oAdd (dVar 12) (fun ρ => bnd ((dCons (fun ρ => bnd ((dCons (dVar 1) (dCons (dVar 3) (fun _ st => .ok [] st))) ρ) (callM 2 S__law_draw)) (fun _ st => .ok [] st)) ρ) tupM)) ρ) srcM) (.nm 15) dYes (fun ρ => bnd ((dCons (dVar 15) (dCons (dC (.int 1)) (fun _ st => .ok [] st))) ρ) tupM) [15]) ρ) dictQ) ρ) fun q => bnd (dctM q) sortDQ) ρ) tupQ) [16]) ρ) fun m => bnd (lstU q) fun l => capM (l ++ m)) ρ) layL))
noncomputable def d_law_19 : PD.Env → Mo Fl := (dSet 10 (fun ρ => bnd ((fun ρ => bnd ((dVar 10) ρ) fun q => bnd ((dLc (fun ρ => bnd ((dCons (dC (.int 8)) (fun _ st => .ok [] st)) ρ) rg1M) (.nm 16) dYes (fun ρ => bnd ((dCons (dVar 1) (dCons (dBin oIx (dVar 10) (fun ρ => bnd ((dCons (dVar 1) (dCons (fun ρ => bnd ((dVar 10) ρ) lenM) (fun _ st => .ok [] st))) ρ) (callM 2 S__law_draw))) (fun _ st => .ok [] st))) ρ) (callM 2 S__law_bent)) [16]) ρ) fun m => bnd (lstU q) fun l => capM (l ++ m)) ρ) layL))
noncomputable def d_law_20 : PD.Env → Mo Fl := (dSet 14 (fun ρ => bnd ((dCons (dVar 4) (dCons (dVar 7) (dCons (dVar 11) (fun _ st => .ok [] st)))) ρ) (callM 3 S__law_kept)))
noncomputable def d_law_21 : PD.Env → Mo Fl := (dRet (dC (.bl false)))
noncomputable def d_law_22 : PD.Env → Mo Fl := (dIfS (dOrT (dNotT (fun ρ => bnd ((fun ρ => bnd ((dCons (fun ρ => bnd ((dCons (dVar 4) (dCons (dVar 7) (dCons (dVar 11) (fun _ st => .ok [] st)))) ρ) (callM 3 S_is_kept_set)) (dCons (dVar 14) (fun _ st => .ok [] st))) ρ) (callM 2 S__law_same)) ρ) truM)) (dAndT (fun ρ => bnd ((dVar 14) ρ) truM) (dB (dBin oGt (fun ρ => bnd ((dLc (fun ρ => bnd ((dVar 11) ρ) srcM) (.nm 15) dYes (dBin oIx (dVar 6) (dVar 15)) [15]) ρ) sumQ) (dVar 9))))) d_law_21 dNil)
noncomputable def d_law_23 : PD.Env → Mo Fl := (dFor (fun ρ => bnd ((dVar 10) ρ) srcM) (gNm 11) (dSeq d_law_20
    d_law_22))
noncomputable def d_law_24 : PD.Env → Mo Fl := (dSet 10 (fun ρ => bnd ((fun ρ => bnd ((fun ρ => bnd ((dCons (dVar 13) (dCons (fun ρ => bnd ((fun _ st => .ok [] st) ρ) tupM) (dCons (fun ρ => bnd ((dVar 13) ρ) revM) (dCons (dBin oAdd (dVar 13) (dSl (dVar 13) (fun ρ => bnd ((dUn oNeg (dC (.int 1))) ρ) intM) (fun _ st => .ok none st) slT)) (dCons (dC .non) (dCons (dC (.int 7)) (dCons (dC (.str "rents")) (dCons (fun ρ => bnd ((dCons (dC (.int 5)) (dCons (dC (.int 9)) (fun _ st => .ok [] st))) ρ) tupM) (fun _ st => .ok [] st))))))))) ρ) capM) ρ) fun l => bnd ((dLc (fun ρ => bnd ((dCons (dC (.int 6)) (fun _ st => .ok [] st)) ρ) rg1M) (.nm 16) dYes (fun ρ => bnd ((dCons (dVar 1) (dCons (dVar 4) (dCons (dVar 6) (fun _ st => .ok [] st)))) ρ) (callM 3 S__law_some)) [16]) ρ) fun m => capM (l ++ m)) ρ) layL))
noncomputable def d_law_25 : PD.Env → Mo Fl := (dSet 10 (fun ρ => bnd ((fun ρ => bnd ((dVar 10) ρ) fun q => bnd ((fun ρ => bnd ((dCons (fun ρ => bnd ((dCons (fun ρ => bnd ((dCons (dC (.int 5)) (dCons (dC (.int 0)) (fun _ st => .ok [] st))) ρ) tupM) (fun _ st => .ok [] st)) ρ) tupM) (dCons (fun ρ => bnd ((dCons (fun ρ => bnd ((dCons (dC (.int 5)) (dCons (dUn oNeg (dC (.int 1))) (fun _ st => .ok [] st))) ρ) tupM) (fun _ st => .ok [] st)) ρ) tupM) (dCons (fun ρ => bnd ((dCons (fun ρ => bnd ((dCons (dC (.int 5)) (dCons (dC (.bl true)) (fun _ st => .ok [] st))) ρ) tupM) (fun _ st => .ok [] st)) ρ) tupM) (dCons (fun ρ => bnd ((dCons (fun ρ => bnd ((dCons (dC (.int 1000001)) (dCons (dC (.int 1)) (fun _ st => .ok [] st))) ρ) tupM) (fun _ st => .ok [] st)) ρ) tupM) (dCons (fun ρ => bnd ((dCons (fun ρ => bnd ((dCons (dUn oNeg (dC (.int 1))) (dCons (dC (.int 1)) (fun _ st => .ok [] st))) ρ) tupM) (fun _ st => .ok [] st)) ρ) tupM) (dCons (fun ρ => bnd ((dCons (fun ρ => bnd ((dCons (dC (.int 5)) (dCons (dC (.int 1)) (fun _ st => .ok [] st))) ρ) tupM) (dCons (fun ρ => bnd ((dCons (dC (.int 5)) (dCons (dC (.int 2)) (fun _ st => .ok [] st))) ρ) tupM) (fun _ st => .ok [] st))) ρ) tupM) (dCons (fun ρ => bnd ((dCons (fun ρ => bnd ((dCons (dC (.int 5)) (dCons (dC (.int 1)) (dCons (dC (.int 1)) (fun _ st => .ok [] st)))) ρ) tupM) (fun _ st => .ok [] st)) ρ) tupM) (dCons (fun ρ => bnd ((dCons (fun ρ => bnd ((dCons (dC (.int 1000000)) (dCons (dBin oPow (dC (.int 10)) (dC (.int 20))) (fun _ st => .ok [] st))) ρ) tupM) (fun _ st => .ok [] st)) ρ) tupM) (dCons (fun ρ => bnd ((dCons (fun ρ => bnd ((dCons (dC (.int 0)) (dCons (dC (.int 1)) (fun _ st => .ok [] st))) ρ) tupM) (fun _ st => .ok [] st)) ρ) tupM) (fun _ st => .ok [] st)))))))))) ρ) capM) ρ) fun m => bnd (lstU q) fun l => capM (l ++ m)) ρ) layL))
noncomputable def d_law_26 : PD.Env → Mo Fl := (dSet 10 (fun ρ => bnd ((fun ρ => bnd ((dVar 10) ρ) fun q => bnd ((dLc (fun ρ => bnd ((dCons (dC (.int 8)) (fun _ st => .ok [] st)) ρ) rg1M) (.nm 16) dYes (fun ρ => bnd ((dCons (dVar 1) (dCons (dBin oIx (dVar 10) (fun ρ => bnd ((dCons (dVar 1) (dCons (fun ρ => bnd ((dVar 10) ρ) lenM) (fun _ st => .ok [] st))) ρ) (callM 2 S__law_draw))) (fun _ st => .ok [] st))) ρ) (callM 2 S__law_bent)) [16]) ρ) fun m => bnd (lstU q) fun l => capM (l ++ m)) ρ) layL))
noncomputable def d_law_27 : PD.Env → Mo Fl := (dSet 14 (fun ρ => bnd ((dCons (dVar 11) (fun _ st => .ok [] st)) ρ) (callM 1 S__law_rents)))
noncomputable def d_law_28 : PD.Env → Mo Fl := (dRet (dC (.bl false)))
noncomputable def d_law_29 : PD.Env → Mo Fl := (dIfS (dNotT (fun ρ => bnd ((fun ρ => bnd ((dCons (fun ρ => bnd ((dCons (dVar 11) (fun _ st => .ok [] st)) ρ) (callM 1 S_are_rents)) (dCons (dVar 14) (fun _ st => .ok [] st))) ρ) (callM 2 S__law_same)) ρ) truM)) d_law_28 dNil)
noncomputable def d_law_30 : PD.Env → Mo Fl := (dRet (dC (.bl false)))
noncomputable def d_law_31 : PD.Env → Mo Fl := (dIfS (dAndT (fun ρ => bnd ((dVar 14) ρ) truM) (dOrT (dNotT (fun ρ => bnd ((fun ρ => bnd ((dCons (fun ρ => bnd ((dCons (dVar 4) (dCons (dVar 6) (dCons (dVar 7) (dCons (dVar 11) (fun _ st => .ok [] st))))) ρ) (callM 4 S_bound_of)) (dCons (fun ρ => bnd ((dCons (dVar 4) (dCons (dVar 6) (dCons (dVar 7) (dCons (dVar 11) (fun _ st => .ok [] st))))) ρ) (callM 4 S__law_bound)) (fun _ st => .ok [] st))) ρ) (callM 2 S__law_same)) ρ) truM)) (dB (dBin oLt (fun ρ => bnd ((dCons (dVar 4) (dCons (dVar 6) (dCons (dVar 7) (dCons (dVar 11) (fun _ st => .ok [] st))))) ρ) (callM 4 S_bound_of)) (dVar 9))))) d_law_30 dNil)
noncomputable def d_law_32 : PD.Env → Mo Fl := (dFor (fun ρ => bnd ((dVar 10) ρ) srcM) (gNm 11) (dSeq d_law_27
    (dSeq d_law_29
    d_law_31)))
noncomputable def d_law_33 : PD.Env → Mo Fl := (dFor (fun ρ => bnd ((fun ρ => bnd ((dCons (fun ρ => bnd ((dCons (dVar 1) (dCons (dC (.int 4)) (fun _ st => .ok [] st))) ρ) (callM 2 S__law_draw)) (dCons (fun ρ => bnd ((fun ρ => bnd ((dCons (dC (.int 0)) (dCons (dC (.int 1)) (dCons (dC (.int 60)) (dCons (dVar 3) (dCons (dC (.int 2)) (fun _ st => .ok [] st)))))) ρ) capM) ρ) fun l => bnd ((fun ρ => bnd ((dCons (dVar 1) (dCons (dC (.int 5)) (fun _ st => .ok [] st))) ρ) (callM 2 S__law_draw)) ρ) fun i => ixQ l i) (fun _ st => .ok [] st))) ρ) capM) ρ) svM) (gNm 7) (dSeq d_law_7
    (dSeq d_law_9
    (dSeq d_law_10
    (dSeq d_law_12
    (dSeq d_law_13
    (dSeq d_law_15
    (dSeq d_law_16
    (dSeq d_law_17
    (dSeq d_law_18
    (dSeq d_law_19
    (dSeq d_law_23
    (dSeq d_law_24
    (dSeq d_law_25
    (dSeq d_law_26
    d_law_32)))))))))))))))
noncomputable def d_law_34 : PD.Env → Mo Fl := (dRet (dC (.bl true)))
noncomputable def d_law : PD.Env → Mo Fl := (dSeq d_law_1
    (dSeq d_law_2
    (dSeq d_law_3
    (dSeq d_law_4
    (dSeq d_law_5
    (dSeq d_law_6
    (dSeq d_law_33
    d_law_34)))))))
theorem sc_law : FnScope N_law ["script"] (defScope (top 32)) := C8.fnScope_by (by decide +kernel)
theorem body_law {P : Program} {w : World} {W : Wd} {base : Heap} (V : Ev W base) (h__law_box : DFn P w W base 3 (He.fAd W.K ("_law_box", none)) 1 S__law_box) (h__law_draw : DFn P w W base 4 (He.fAd W.K ("_law_draw", none)) 2 S__law_draw) (h__law_stays : DFn P w W base 5 (He.fAd W.K ("_law_stays", none)) 2 S__law_stays) (h_best_kept : DFn P w W base 4 (He.fAd W.K ("best_kept", none)) 3 S_best_kept) (h__law_kept : DFn P w W base 4 (He.fAd W.K ("_law_kept", none)) 3 S__law_kept) (h__law_rents : DFn P w W base 3 (He.fAd W.K ("_law_rents", none)) 1 S__law_rents) (h__law_bound : DFn P w W base 3 (He.fAd W.K ("_law_bound", none)) 4 S__law_bound) (h__law_greatest : DFn P w W base 5 (He.fAd W.K ("_law_greatest", none)) 3 S__law_greatest) (h__law_bent : DFn P w W base 9 (He.fAd W.K ("_law_bent", none)) 2 S__law_bent) (h__law_same : DFn P w W base 6 (He.fAd W.K ("_law_same", none)) 2 S__law_same) (h_is_kept_set : DFn P w W base 9 (He.fAd W.K ("is_kept_set", none)) 3 S_is_kept_set) (h__law_some : DFn P w W base 5 (He.fAd W.K ("_law_some", none)) 3 S__law_some) (h_are_rents : DFn P w W base 6 (He.fAd W.K ("are_rents", none)) 1 S_are_rents) (h_bound_of : DFn P w W base 5 (He.fAd W.K ("bound_of", none)) 4 S_bound_of) : Body P w W base N_law "law" (defScope (top 32)) (He.fAd W.K ("law", none)) 9 (defBody (top 32)) d_law := fun cdv A outer s H E =>
  (dss_cons (ds_set (i := 1) (de_call (h__law_box.mono (by decide)) V.g__law_box (da_cons (de_var (i := 0)) da_nil)))
    (dss_cons (ds_set (i := 2) (de_eq (de_call (h__law_draw.mono (by decide)) V.g__law_draw (da_cons (de_var (i := 1)) (da_cons de_int da_nil))) de_int))
    (dss_cons (ds_set (i := 3) (de_if (dt_e (de_var (i := 2))) (de_add de_int (de_call (h__law_draw.mono (by decide)) V.g__law_draw (da_cons (de_var (i := 1)) (da_cons de_int da_nil)))) (de_call (h__law_draw.mono (by decide)) V.g__law_draw (da_cons (de_var (i := 1)) (da_cons de_int da_nil)))))
    (dss_cons (ds_set (i := 4) (de_call (h__law_stays.mono (by decide)) V.g__law_stays (da_cons (de_var (i := 1)) (da_cons (de_var (i := 3)) da_nil))))
    (dss_cons (ds_set (i := 5) (de_ixL (dl_lst (da_cons de_int (da_cons de_int (da_cons de_int da_nil)))) (de_call (h__law_draw.mono (by decide)) V.g__law_draw (da_cons (de_var (i := 1)) (da_cons de_int da_nil)))))
    (dss_cons (ds_set (i := 6) (de_tuple (dq_l (dl_lc (own := [("i", 15)]) (di_range1 (da_cons (de_var (i := 3)) da_nil) rfl V.b_range) (blkOk_by (N := N_law) (sc := defScope (top 32)) (by decide +kernel)) (fun _ _ _ _ _ => (dp_name (i := 15))) (fun _ _ _ _ _ => dts_nil) (fun _ _ _ _ _ => (de_add de_int (de_call (h__law_draw.mono (by decide)) V.g__law_draw (da_cons (de_var (i := 1)) (da_cons (de_var (i := 5)) da_nil))))))) rfl V.b_tuple))
    (dss_cons (ds_for (di_l (dl_lst (da_cons (de_call (h__law_draw.mono (by decide)) V.g__law_draw (da_cons (de_var (i := 1)) (da_cons de_int da_nil))) (da_cons (de_ixL (dl_lst (da_cons de_int (da_cons de_int (da_cons de_int (da_cons (de_var (i := 3)) (da_cons de_int da_nil)))))) (de_call (h__law_draw.mono (by decide)) V.g__law_draw (da_cons (de_var (i := 1)) (da_cons de_int da_nil)))) da_nil)))) (dg_name (i := 7)) (dss_cons (ds_set (i := 8) (de_call (h_best_kept.mono (by decide)) V.g_best_kept (da_cons (de_var (i := 4)) (da_cons (de_var (i := 6)) (da_cons (de_var (i := 7)) da_nil)))))
    (dss_cons (ds_if (dt_w (dw_or (dt_not (dt_e (de_isi .tup (de_var (i := 8)) rfl V.b_isinstance rfl V.b_tuple boot_tuple_))) (dw_or1 (dt_ne (de_lenV (de_var (i := 8)) rfl V.b_len) de_int)))) (dss_one (ds_ret de_bl)) dss_nil)
    (dss_cons (ds_asg (de_var (i := 8)) (dg_tup (dgs_cons (dg_name (i := 12)) (dgs_cons (dg_name (i := 13)) dgs_nil))))
    (dss_cons (ds_if (dt_w (dw_or (dt_not (dt_e (de_call (h__law_kept.mono (by decide)) V.g__law_kept (da_cons (de_var (i := 4)) (da_cons (de_var (i := 7)) (da_cons (de_var (i := 12)) da_nil)))))) (dw_or1 (dt_not (dt_e (de_call (h__law_rents.mono (by decide)) V.g__law_rents (da_cons (de_var (i := 13)) da_nil))))))) (dss_one (ds_ret de_bl)) dss_nil)
    (dss_cons (ds_set (i := 9) (de_sum (dl_lc (own := [("i", 15)]) (di_e (de_var (i := 12))) (blkOk_by (N := N_law) (sc := defScope (top 32)) (by decide +kernel)) (fun _ _ _ _ _ => (dp_name (i := 15))) (fun _ _ _ _ _ => dts_nil) (fun _ _ _ _ _ => (de_ix (de_var (i := 6)) (de_var (i := 15))))) rfl V.b_sum))
    (dss_cons (ds_if (dt_w (dw_or (dt_ne (de_call (h__law_bound.mono (by decide)) V.g__law_bound (da_cons (de_var (i := 4)) (da_cons (de_var (i := 6)) (da_cons (de_var (i := 7)) (da_cons (de_var (i := 13)) da_nil))))) (de_var (i := 9))) (dw_or1 (dt_w (dw_and (dt_not (dt_e (de_var (i := 2)))) (dw_and1 (dt_ne (de_call (h__law_greatest.mono (by decide)) V.g__law_greatest (da_cons (de_var (i := 4)) (da_cons (de_var (i := 6)) (da_cons (de_var (i := 7)) da_nil)))) (de_var (i := 9))))))))) (dss_one (ds_ret de_bl)) dss_nil)
    (dss_cons (ds_set (i := 10) (de_l (dl_lst (da_cons (de_var (i := 12)) (da_cons (de_slT (de_var (i := 12)) (do_some de_int) do_none) (da_cons (de_revT (de_var (i := 12))) (da_cons (de_add (de_var (i := 12)) (de_slT (de_var (i := 12)) (do_some (de_neg de_int)) do_none)) (da_cons (de_tupR (de_var (i := 3)) rfl V.b_tuple V.b_range) (da_cons de_non (da_cons de_int (da_cons de_str (da_cons (de_tup da_nil) (da_cons (de_tup (da_cons (de_var (i := 3)) da_nil)) (da_cons (de_tup (da_cons (de_neg de_int) da_nil)) da_nil))))))))))))))
    (dss_cons (ds_set (i := 10) (de_l (dl_catE (de_var (i := 10)) (du_l (dl_lc (own := [("turn", 16)]) (di_range1 (da_cons de_int da_nil) rfl V.b_range) (blkOk_by (N := N_law) (sc := defScope (top 32)) (by decide +kernel)) (fun _ _ _ _ _ => (dp_name (i := 16))) (fun _ _ _ _ _ => dts_nil) (fun _ _ _ _ _ => (de_tuple (dq_l (dl_lc (own := [("i", 15)]) (di_range1 (da_cons (de_var (i := 3)) da_nil) rfl V.b_range) (blkOk_by (by rfl)) (fun _ _ _ _ _ => (dp_name (i := 15))) (fun _ _ _ _ _ => (dts_one (dt_eq (de_call (h__law_draw.mono (by decide)) V.g__law_draw (da_cons (de_var (i := 1)) (da_cons de_int da_nil))) de_int))) (fun _ _ _ _ _ => (de_var (i := 15))))) rfl V.b_tuple)))))))
    (dss_cons (ds_set (i := 10) (de_l (dl_catE (de_var (i := 10)) (du_l (dl_lc (own := [("turn", 16)]) (di_range1 (da_cons de_int da_nil) rfl V.b_range) (blkOk_by (N := N_law) (sc := defScope (top 32)) (by decide +kernel)) (fun _ _ _ _ _ => (dp_name (i := 16))) (fun _ _ _ _ _ => (dts_one (dt_gt (de_var (i := 3)) de_int))) (fun _ _ _ _ _ => (de_tuple (dq_l (dl_sortD (de_dictL (dl_lc (own := [("i", 15)]) (di_e (de_add (de_var (i := 12)) (de_tup (da_cons (de_call (h__law_draw.mono (by decide)) V.g__law_draw (da_cons (de_var (i := 1)) (da_cons (de_var (i := 3)) da_nil))) da_nil)))) (blkOk_by (by rfl)) (fun _ _ _ _ _ => (dp_name (i := 15))) (fun _ _ _ _ _ => dts_nil) (fun _ _ _ _ _ => (de_tup (da_cons (de_var (i := 15)) (da_cons de_int da_nil))))) rfl V.b_dict) V.b_sorted)) rfl V.b_tuple)))))))
    (dss_cons (ds_set (i := 10) (de_l (dl_catE (de_var (i := 10)) (du_l (dl_lc (own := [("turn", 16)]) (di_range1 (da_cons de_int da_nil) rfl V.b_range) (blkOk_by (N := N_law) (sc := defScope (top 32)) (by decide +kernel)) (fun _ _ _ _ _ => (dp_name (i := 16))) (fun _ _ _ _ _ => dts_nil) (fun _ _ _ _ _ => (de_call (h__law_bent.mono (by decide)) V.g__law_bent (da_cons (de_var (i := 1)) (da_cons (de_ix (de_var (i := 10)) (de_call (h__law_draw.mono (by decide)) V.g__law_draw (da_cons (de_var (i := 1)) (da_cons (de_lenV (de_var (i := 10)) rfl V.b_len) da_nil)))) da_nil)))))))))
    (dss_cons (ds_for (di_e (de_var (i := 10))) (dg_name (i := 11)) (dss_cons (ds_set (i := 14) (de_call (h__law_kept.mono (by decide)) V.g__law_kept (da_cons (de_var (i := 4)) (da_cons (de_var (i := 7)) (da_cons (de_var (i := 11)) da_nil)))))
    (dss_one (ds_if (dt_w (dw_or (dt_not (dt_e (de_call (h__law_same.mono (by decide)) V.g__law_same (da_cons (de_call (h_is_kept_set.mono (by decide)) V.g_is_kept_set (da_cons (de_var (i := 4)) (da_cons (de_var (i := 7)) (da_cons (de_var (i := 11)) da_nil)))) (da_cons (de_var (i := 14)) da_nil))))) (dw_or1 (dt_w (dw_and (dt_e (de_var (i := 14))) (dw_and1 (dt_gt (de_sum (dl_lc (own := [("i", 15)]) (di_e (de_var (i := 11))) (blkOk_by (N := N_law) (sc := defScope (top 32)) (by decide +kernel)) (fun _ _ _ _ _ => (dp_name (i := 15))) (fun _ _ _ _ _ => dts_nil) (fun _ _ _ _ _ => (de_ix (de_var (i := 6)) (de_var (i := 15))))) rfl V.b_sum) (de_var (i := 9))))))))) (dss_one (ds_ret de_bl)) dss_nil))))
    (dss_cons (ds_set (i := 10) (de_l (dl_catL (dl_lst (da_cons (de_var (i := 13)) (da_cons (de_tup da_nil) (da_cons (de_revT (de_var (i := 13))) (da_cons (de_add (de_var (i := 13)) (de_slT (de_var (i := 13)) (do_some (de_neg de_int)) do_none)) (da_cons de_non (da_cons de_int (da_cons de_str (da_cons (de_tup (da_cons de_int (da_cons de_int da_nil))) da_nil))))))))) (du_l (dl_lc (own := [("turn", 16)]) (di_range1 (da_cons de_int da_nil) rfl V.b_range) (blkOk_by (N := N_law) (sc := defScope (top 32)) (by decide +kernel)) (fun _ _ _ _ _ => (dp_name (i := 16))) (fun _ _ _ _ _ => dts_nil) (fun _ _ _ _ _ => (de_call (h__law_some.mono (by decide)) V.g__law_some (da_cons (de_var (i := 1)) (da_cons (de_var (i := 4)) (da_cons (de_var (i := 6)) da_nil))))))))))
    (dss_cons (ds_set (i := 10) (de_l (dl_catE (de_var (i := 10)) (du_l (dl_lst (da_cons (de_tup (da_cons (de_tup (da_cons de_int (da_cons de_int da_nil))) da_nil)) (da_cons (de_tup (da_cons (de_tup (da_cons de_int (da_cons (de_neg de_int) da_nil))) da_nil)) (da_cons (de_tup (da_cons (de_tup (da_cons de_int (da_cons de_bl da_nil))) da_nil)) (da_cons (de_tup (da_cons (de_tup (da_cons de_int (da_cons de_int da_nil))) da_nil)) (da_cons (de_tup (da_cons (de_tup (da_cons (de_neg de_int) (da_cons de_int da_nil))) da_nil)) (da_cons (de_tup (da_cons (de_tup (da_cons de_int (da_cons de_int da_nil))) (da_cons (de_tup (da_cons de_int (da_cons de_int da_nil))) da_nil))) (da_cons (de_tup (da_cons (de_tup (da_cons de_int (da_cons de_int (da_cons de_int da_nil)))) da_nil)) (da_cons (de_tup (da_cons (de_tup (da_cons de_int (da_cons (de_pow de_int de_int) da_nil))) da_nil)) (da_cons (de_tup (da_cons (de_tup (da_cons de_int (da_cons de_int da_nil))) da_nil)) da_nil))))))))))))))
    (dss_cons (ds_set (i := 10) (de_l (dl_catE (de_var (i := 10)) (du_l (dl_lc (own := [("turn", 16)]) (di_range1 (da_cons de_int da_nil) rfl V.b_range) (blkOk_by (N := N_law) (sc := defScope (top 32)) (by decide +kernel)) (fun _ _ _ _ _ => (dp_name (i := 16))) (fun _ _ _ _ _ => dts_nil) (fun _ _ _ _ _ => (de_call (h__law_bent.mono (by decide)) V.g__law_bent (da_cons (de_var (i := 1)) (da_cons (de_ix (de_var (i := 10)) (de_call (h__law_draw.mono (by decide)) V.g__law_draw (da_cons (de_var (i := 1)) (da_cons (de_lenV (de_var (i := 10)) rfl V.b_len) da_nil)))) da_nil)))))))))
    (dss_one (ds_for (di_e (de_var (i := 10))) (dg_name (i := 11)) (dss_cons (ds_set (i := 14) (de_call (h__law_rents.mono (by decide)) V.g__law_rents (da_cons (de_var (i := 11)) da_nil)))
    (dss_cons (ds_if (dt_not (dt_e (de_call (h__law_same.mono (by decide)) V.g__law_same (da_cons (de_call (h_are_rents.mono (by decide)) V.g_are_rents (da_cons (de_var (i := 11)) da_nil)) (da_cons (de_var (i := 14)) da_nil))))) (dss_one (ds_ret de_bl)) dss_nil)
    (dss_one (ds_if (dt_w (dw_and (dt_e (de_var (i := 14))) (dw_and1 (dt_w (dw_or (dt_not (dt_e (de_call (h__law_same.mono (by decide)) V.g__law_same (da_cons (de_call (h_bound_of.mono (by decide)) V.g_bound_of (da_cons (de_var (i := 4)) (da_cons (de_var (i := 6)) (da_cons (de_var (i := 7)) (da_cons (de_var (i := 11)) da_nil))))) (da_cons (de_call (h__law_bound.mono (by decide)) V.g__law_bound (da_cons (de_var (i := 4)) (da_cons (de_var (i := 6)) (da_cons (de_var (i := 7)) (da_cons (de_var (i := 11)) da_nil))))) da_nil))))) (dw_or1 (dt_lt (de_call (h_bound_of.mono (by decide)) V.g_bound_of (da_cons (de_var (i := 4)) (da_cons (de_var (i := 6)) (da_cons (de_var (i := 7)) (da_cons (de_var (i := 11)) da_nil))))) (de_var (i := 9))))))))) (dss_one (ds_ret de_bl)) dss_nil)))))))))))))))))))))
    (dss_one (ds_ret de_bl)))))))))
theorem raw_law {P : Program} {w : World} {W : Wd} {base : Heap} (V : Ev W base) (h__law_box : DFn P w W base 3 (He.fAd W.K ("_law_box", none)) 1 S__law_box) (h__law_draw : DFn P w W base 4 (He.fAd W.K ("_law_draw", none)) 2 S__law_draw) (h__law_stays : DFn P w W base 5 (He.fAd W.K ("_law_stays", none)) 2 S__law_stays) (h_best_kept : DFn P w W base 4 (He.fAd W.K ("best_kept", none)) 3 S_best_kept) (h__law_kept : DFn P w W base 4 (He.fAd W.K ("_law_kept", none)) 3 S__law_kept) (h__law_rents : DFn P w W base 3 (He.fAd W.K ("_law_rents", none)) 1 S__law_rents) (h__law_bound : DFn P w W base 3 (He.fAd W.K ("_law_bound", none)) 4 S__law_bound) (h__law_greatest : DFn P w W base 5 (He.fAd W.K ("_law_greatest", none)) 3 S__law_greatest) (h__law_bent : DFn P w W base 9 (He.fAd W.K ("_law_bent", none)) 2 S__law_bent) (h__law_same : DFn P w W base 6 (He.fAd W.K ("_law_same", none)) 2 S__law_same) (h_is_kept_set : DFn P w W base 9 (He.fAd W.K ("is_kept_set", none)) 3 S_is_kept_set) (h__law_some : DFn P w W base 5 (He.fAd W.K ("_law_some", none)) 3 S__law_some) (h_are_rents : DFn P w W base 6 (He.fAd W.K ("are_rents", none)) 1 S_are_rents) (h_bound_of : DFn P w W base 5 (He.fAd W.K ("bound_of", none)) 4 S_bound_of) : DFn P w W base 10 (He.fAd W.K ("law", none)) 1 (bodyF 17 d_law) := by
  obtain ⟨fd, F⟩ := V.D_law
  exact DFn.of V.cx F sc_law (F.bindsN fun _ _ _ _ _ _ us hl => match us, hl with | [_], _ => rfl) (body_law V h__law_box h__law_draw h__law_stays h_best_kept h__law_kept h__law_rents h__law_bound h__law_greatest h__law_bent h__law_same h_is_kept_set h__law_some h_are_rents h_bound_of)
noncomputable def S_law : List PV → Mo PV := bodyF 17 d_law
theorem ref_law : Ref 1 (bodyF 17 d_law) S_law := ref_self
theorem keep_bx {b c : Nat} {st s : Sto} (h : BoxAt b c st) (k : Keep st s) : Bx b c st s := by
  have hlt := h.lt
  refine ⟨⟨k.le, fun i hi _ _ => k.eq i hi⟩, h.ne, ?_, ?_⟩
  · obtain ⟨v, sd, e⟩ := h.bx
    exact ⟨v, sd, by rw [k.eq b hlt.1]; exact e⟩
  · obtain ⟨l, e, hl⟩ := h.cs
    exact ⟨l, by rw [k.eq c hlt.2]; exact e, hl⟩
theorem ok_seq2 {Q : Fl → Sto → Prop} {st : Sto} {d1 d2 d3 : PD.Env → Mo Fl} {ρ : PD.Env} : Ok (dSeq d1 (dSeq d2 d3) ρ st) Q = Ok (dSeq d1 d2 ρ st) (seqK d3 Q) := by
  rw [← dSeq_assoc, ok_seq]
/-- what is given -/
structure Giv (L : List (Int × Int)) (ws : List Int) : Prop where
  len : L.length ≤ 60
  bd : ∀ a ∈ L, 0 ≤ a.1 ∧ a.1 < a.2 ∧ a.2 ≤ 1000000
  wl : ws.length = L.length
  wb : ∀ w ∈ ws, 1 ≤ w ∧ w ≤ 1000000
/-- what is told -/
structure Tol (L : List (Int × Int)) (ws : List Int) (kk : Nat) (ns : List Int) (rs : List (Int × Int)) : Prop where
  giv : Giv L ws
  kk60 : kk ≤ 60
  kept : KeptOk L kk ns
  rents : RentsOk rs
  due : boundI L ws kk rs = dueI ws ns
  rl : rs.length ≤ 120
  rb : ∀ a ∈ rs, a.2 ≤ 1000000 * 120
def IntB (p : PV) : Prop := ∃ x : Int, p = .int x ∧ -1000000 ≤ x ∧ x ≤ 1000000
theorem bnF_int {p : PV} (h : IntB p) : BnF p := by
  obtain ⟨x, rfl, _, _⟩ := h
  exact .inr (.inl ⟨x, rfl, by omega⟩)
theorem bn_ints {l : List PV} (h : ∀ p ∈ l, IntB p) (hl : l.length ≤ 1900) : Bn 2 (.tup l) := .inr ⟨l, rfl, hl, fun p hp => .inl (bnF_int (h p hp))⟩
section
variable {b c : Nat} {st : Sto} {Q : Fl → Sto → Prop} {g : Bool} {L : List (Int × Int)} {ws : List Int} {x0 x1 x2 x3 x4 x5 x6 x7 x8 x9 x10 x11 x12 x13 x14 x15 x16 : Option PV}
theorem law_start {x2 x3 : Option PV} (h : BoxAt b c st) (k : ∀ (g : Bool) (n : Nat) s, n ≤ 60 → (g = false → n ≤ 8) → Bx b c st s → Q (.nx [x0, some (.loc b), some (.bl g), some (.int (n : Int)), x4, x5, x6, x7, x8, x9, x10, x11, x12, x13, x14, x15, x16]) s) : Ok (dSeq d_law_2 d_law_3 [x0, some (.loc b), x2, x3, x4, x5, x6, x7, x8, x9, x10, x11, x12, x13, x14, x15, x16] st) Q := by
  rw [ok_seq]
  simp [d_law_2, -ok_seq]
  refine (law_draw_ok h (m := 8) (by omega) (by omega)).imp fun p s1 hh => ?_
  obtain ⟨d, rfl, d1, d2, c1, b1⟩ := hh
  simp [okd_int, d_law_3]
  by_cases hd : d = 0
  · simp [hd]
    refine (law_draw_ok b1 (m := 31) (by omega) (by omega)).imp fun p s2 hh => ?_
    obtain ⟨e, rfl, e1, e2, c2, b2⟩ := hh
    simp only [o_addI, ok_ok]
    have : 10 + e = ((10 + e).toNat : Int) := by omega
    rw [this]
    exact k true (10 + e).toNat _ (by omega) (by simp) ⟨c1.trans c2, b2⟩
  · simp [hd]
    refine (law_draw_ok b1 (m := 9) (by omega) (by omega)).imp fun p s2 hh => ?_
    obtain ⟨e, rfl, e1, e2, c2, b2⟩ := hh
    have he : e = (e.toNat : Int) := by omega
    have hd2 : (d == 0) = false := by simp [hd]
    rw [he, hd2]
    exact k false e.toNat _ (by omega) (fun _ => by omega) ⟨c1.trans c2, b2⟩
theorem law_worths {n : Nat} (h : BoxAt b c st) (hn : n ≤ 60) (k : ∀ (ws : List Int) x5 s, ws.length = n → (∀ w ∈ ws, 1 ≤ w ∧ w ≤ 1000000) → Bx b c st s → Q (.nx [x0, some (.loc b), some (.bl g), some (.int (n : Int)), some (staysP L), x5, some (.tup (ws.map PV.int)), x7, x8, x9, x10, x11, x12, x13, x14, x15, x16]) s) : Ok (dSeq d_law_5 d_law_6 [x0, some (.loc b), some (.bl g), some (.int (n : Int)), some (staysP L), x5, x6, x7, x8, x9, x10, x11, x12, x13, x14, x15, x16] st) Q := by
  rw [ok_seq]
  simp [d_law_5, -ok_seq]
  refine (law_draw_ok h (m := 3) (by omega) (by omega)).imp fun p s1 hh => ?_
  obtain ⟨d, rfl, d1, d2, c1, b1⟩ := hh
  have ht : ∃ top : Int, 1 ≤ top ∧ top ≤ 1000000 ∧ atI [PV.int 1, PV.int 4, PV.int 1000000] d = some (.int top) := by
    have : d = 0 ∨ d = 1 ∨ d = 2 := by omega
    rcases this with rfl | rfl | rfl
    · exact ⟨1, by omega, by omega, rfl⟩
    · exact ⟨4, by omega, by omega, rfl⟩
    · exact ⟨1000000, by omega, by omega, rfl⟩
  obtain ⟨top, t1, t2, et⟩ := ht
  rw [m_ixQ, et]
  simp [d_law_6, -e_lc]
  rw [e_lc]
  simp [wipeE, -e_lc]
  refine ⟨⟨by omega, by omega⟩, ?_⟩
  refine ok_lc (fun l acc s => Bx b c st s ∧ ∃ ws : List Int, acc = ws.map PV.int ∧ (∀ w ∈ ws, 1 ≤ w ∧ w ≤ 1000000) ∧ ws.length + l.length = n) (fun _ _ _ _ => True.intro) ?_ ?_ _ _ _ ⟨⟨c1, b1⟩, [], rfl, (fun _ h => nomatch h), by unfold rgP; simp⟩
  · intro acc s hP
    obtain ⟨hb, ws, rfl, hw, hl⟩ := hP
    exact k ws _ s (by simpa using hl) hw hb
  · intro q l acc s hP
    obtain ⟨hb, ws, rfl, hw, hl⟩ := hP
    refine ⟨_, rfl, ?_⟩
    simp
    refine (law_draw_ok hb.2 (m := top) (by omega) (by omega)).imp fun p s2 hh => ?_
    obtain ⟨e, rfl, e1, e2, c2, b2⟩ := hh
    simp only [o_addI, ok_ok]
    simp at hl
    refine ⟨by omega, ⟨hb.1.trans c2, b2⟩, ws ++ [1 + e], by simp, fun w hw' => ?_, by simp; omega⟩
    rcases List.mem_append.mp hw' with hw' | hw'
    · exact hw w hw'
    · rw [List.mem_singleton.mp hw']
      omega
end
section
variable {b c r N kk : Nat} {st : Sto} {Q : Fl → Sto → Prop} {g : Bool} {L rs : List (Int × Int)} {ws ns : List Int} {M : List PV} {x0 x1 x2 x3 x4 x5 x6 x7 x8 x9 x10 x11 x12 x13 x14 x15 x16 : Option PV}
theorem law_told (hG : Giv L ws) (hk : kk ≤ 60) (k : ∀ ns rs s, Tol L ws kk ns rs → Keep st s → Q (.nx [x0, some (.loc b), some (.bl g), some (.int (L.length : Int)), some (staysP L), x5, some (.tup (ws.map PV.int)), some (.int (kk : Int)), some (.tup [.tup (ns.map PV.int), staysP rs]), x9, x10, x11, x12, x13, x14, x15, x16]) s) : Ok (d_law_7 [x0, some (.loc b), some (.bl g), some (.int (L.length : Int)), some (staysP L), x5, some (.tup (ws.map PV.int)), some (.int (kk : Int)), x8, x9, x10, x11, x12, x13, x14, x15, x16] st) Q := by
  simp [d_law_7]
  refine best_kept_ok (W := 1000000) hG.len hG.bd hG.wl (fun w hw => (hG.wb w hw).2) (by omega) (by omega) fun s ns rs h1 h2 h3 h4 h5 h6 => ?_
  have z := k ns rs s ⟨hG, hk, h2, h3, h4, h5, h6⟩ h1
  exact z
theorem law_nine (k : Q (.nx [x0, some (.loc b), some (.bl g), some (.int (L.length : Int)), some (staysP L), x5, some (.tup (ws.map PV.int)), some (.int (kk : Int)), some (.tup [.tup (ns.map PV.int), staysP rs]), x9, x10, x11, some (.tup (ns.map PV.int)), some (staysP rs), x14, x15, x16]) st) : Ok (dSeq d_law_9 d_law_10 [x0, some (.loc b), some (.bl g), some (.int (L.length : Int)), some (staysP L), x5, some (.tup (ws.map PV.int)), some (.int (kk : Int)), some (.tup [.tup (ns.map PV.int), staysP rs]), x9, x10, x11, x12, x13, x14, x15, x16] st) Q := by
  have e1 : isK Kd.tup Kd.tup = true := rfl
  have e2 : okd 60 (PV.int 2) = true := rfl
  rw [ok_seq]
  simp [d_law_9, d_law_10, e1, e2]
  exact k
theorem Tol.nl (h : Tol L ws kk ns rs) : ns.length ≤ 60 := Nat.le_trans (kept_len h.kept) h.giv.len
theorem Tol.bnR (h : Tol L ws kk ns rs) : Bn 2 (staysP rs) := bn_pairs (fun p hp => by
  have h1 := h.rents.bd p hp
  have h2 := h.rb p hp
  omega) (by have := h.rl; omega)
theorem law_twelve (h : Tol L ws kk ns rs) (k : ∀ s, Keep st s → Q (.nx [x0, some (.loc b), some (.bl g), some (.int (L.length : Int)), some (staysP L), x5, some (.tup (ws.map PV.int)), some (.int (kk : Int)), x8, x9, x10, x11, some (.tup (ns.map PV.int)), some (staysP rs), x14, x15, x16]) s) : Ok (d_law_12 [x0, some (.loc b), some (.bl g), some (.int (L.length : Int)), some (staysP L), x5, some (.tup (ws.map PV.int)), some (.int (kk : Int)), x8, x9, x10, x11, some (.tup (ns.map PV.int)), some (staysP rs), x14, x15, x16] st) Q := by
  have e1 : keptB L kk (.tup (ns.map PV.int)) = true := keptB_iff.mpr h.kept
  have e2 : rentsB (staysP rs) = true := rentsB_iff.mpr h.rents
  have hnl := h.nl
  have ev : okV (.tup (ns.map PV.int)) := okV_ints (ns := ns) (by omega)
  have er : okR (staysP rs) := (bn_pd h.bnR).okR
  simp [d_law_12]
  refine _law_kept_ok ev fun ex => ?_
  rw [e1]
  have e3 := _law_rents_ok (st := st ++ ex) er
  rw [e2] at e3
  unfold staysP at e3
  simp [e3]
  exact k _ Keep.refl.app
theorem due_lc {ms : List Int} {ρ : PD.Env} {chk : Sto → Prop} (hc : chk st) (hm : ∀ i ∈ ms, 0 ≤ i ∧ i < (ws.length : Int)) (hl : ms.length ≤ 4000) (hρ : ρ = [x0, x1, x2, x3, x4, x5, some (.tup (ws.map PV.int)), x7, x8, x9, x10, x11, x12, x13, x14, x15, x16]) : lcF (.nm 15) dYes (dBin oIx (dVar 6) (dVar 15)) chk ρ (ms.map PV.int) [] st = .ok ((ms.map (wI ws)).map PV.int) st := by
  subst hρ
  rw [lc_map (wP ws) hc (ms.map PV.int) (fun p hp => by
    obtain ⟨i, hi, rfl⟩ := List.mem_map.mp hp
    have := workI_at (ws := ws) (hm i hi)
    refine ⟨_, rfl, rfl, ?_⟩
    refine Ok.eq ?_
    simp [this, wP]) (by rw [List.length_map]; omega), wP_map]
theorem law_due (h : Tol L ws kk ns rs) (k : Q (.nx [x0, some (.loc b), some (.bl g), some (.int (L.length : Int)), some (staysP L), x5, some (.tup (ws.map PV.int)), some (.int (kk : Int)), x8, some (.int (dueI ws ns)), x10, x11, some (.tup (ns.map PV.int)), some (staysP rs), x14, x15, x16]) st) : Ok (d_law_13 [x0, some (.loc b), some (.bl g), some (.int (L.length : Int)), some (staysP L), x5, some (.tup (ws.map PV.int)), some (.int (kk : Int)), x8, x9, x10, x11, some (.tup (ns.map PV.int)), some (staysP rs), x14, x15, x16] st) Q := by
  have hnl := h.nl
  simp [d_law_13, wipeE, -List.map_map]
  rw [due_lc (ws := ws) (ms := ns) (by exact True.intro) (fun i hi => by rw [h.giv.wl]; exact h.kept.bd i hi) (by omega) rfl, ok_ok, sumQ_ints, ok_ok]
  exact k
theorem law_great (h : Tol L ws kk ns rs) (hg : g = false → L.length ≤ 8) (k : ∀ s, Keep st s → Q (.nx [x0, some (.loc b), some (.bl g), some (.int (L.length : Int)), some (staysP L), x5, some (.tup (ws.map PV.int)), some (.int (kk : Int)), x8, some (.int (dueI ws ns)), x10, x11, some (.tup (ns.map PV.int)), some (staysP rs), x14, x15, x16]) s) : Ok (d_law_15 [x0, some (.loc b), some (.bl g), some (.int (L.length : Int)), some (staysP L), x5, some (.tup (ws.map PV.int)), some (.int (kk : Int)), x8, some (.int (dueI ws ns)), x10, x11, some (.tup (ns.map PV.int)), some (staysP rs), x14, x15, x16] st) Q := by
  have hw := h.giv.wl
  have hl := h.giv.len
  have hrl := h.rl
  have hkk := h.kk60
  have e1 := _law_bound_ok (L := L) (rs := rs) (ws := ws) (k := (kk : Int)) (st := st) (by omega) (by omega) hw (by omega)
  rw [h.due] at e1
  unfold staysP at e1
  simp [d_law_15, e1, okd_int]
  cases g with
  | true =>
    simp
    exact k st Keep.refl
  | false =>
    simp
    refine _law_greatest_ok (hg rfl) hw (by omega) h.kept (fun r hr => by have := h.rents.bd r hr; omega) h.due fun s ks => ?_
    simp [okd_int]
    exact k s ks
structure RwI (b c r N : Nat) (s : Sto) (M : List PV) : Prop where
  bx : BoxAt b c s
  at_ : s[r]? = some (.lst false M)
  nb : r ≠ b
  nc : r ≠ c
  row : ∀ v ∈ M, Bn 2 v
  ne : M ≠ []
  len : M.length ≤ N
theorem RwI.bxs {s s' : Sto} (h : RwI b c r N s M) (hb : Bx b c s s') : RwI b c r N s' M := ⟨hb.2, by
  rw [hb.1.eq r (get_lt h.at_) h.nb h.nc]
  exact h.at_, h.nb, h.nc, h.row, h.ne, h.len⟩
theorem rw_new {s : Sto} {acc : List PV} {n : Nat} (h : RwI b c r N s M) (ha : ∀ v ∈ acc, Bn 2 v) (hl : acc.length ≤ n) : RwI b c s.length (N + n) (s ++ [.lst false (M ++ acc)]) (M ++ acc) := by
  have hlt := h.bx.lt
  refine ⟨h.bx.app, by simp, by omega, by omega, fun v hv => ?_, fun e => ?_, ?_⟩
  · rcases List.mem_append.mp hv with hv | hv
    · exact h.row v hv
    · exact ha v hv
  · rw [List.append_eq_nil_iff] at e
    exact h.ne e.1
  · have := h.len
    rw [List.length_append]
    omega
theorem rw_first {s : Sto} (h : BoxAt b c s) (hr : ∀ v ∈ M, Bn 2 v) (hne : M ≠ []) (hl : M.length ≤ N) : RwI b c s.length N (s ++ [.lst false M]) M := by
  have hlt := h.lt
  exact ⟨h.app, by simp, by omega, by omega, hr, hne, hl⟩
theorem mem_ints {ms : List Int} (h : ∀ i ∈ ms, 0 ≤ i ∧ i < 100) : ∀ p ∈ ms.map PV.int, IntB p := fun p hp => by
  obtain ⟨i, hi, rfl⟩ := List.mem_map.mp hp
  have := h i hi
  exact ⟨i, rfl, by omega, by omega⟩
theorem law_rows (h : Tol L ws kk ns rs) (hb : BoxAt b c st) (k : RwI b c st.length 11 (st ++ [.lst false [.tup (ns.map PV.int), .tup (cutP (ns.map PV.int) (some 1) none), .tup (ns.map PV.int).reverse, .tup (ns.map PV.int ++ cutP (ns.map PV.int) (some (-1)) none), .tup (rgP 0 L.length), .non, .int 3, .str (Str.ofString "kept"), .tup [], .tup [.int (L.length : Int)], .tup [.int (-1)]]]) [.tup (ns.map PV.int), .tup (cutP (ns.map PV.int) (some 1) none), .tup (ns.map PV.int).reverse, .tup (ns.map PV.int ++ cutP (ns.map PV.int) (some (-1)) none), .tup (rgP 0 L.length), .non, .int 3, .str (Str.ofString "kept"), .tup [], .tup [.int (L.length : Int)], .tup [.int (-1)]] → Q (.nx [x0, some (.loc b), some (.bl g), some (.int (L.length : Int)), some (staysP L), x5, some (.tup (ws.map PV.int)), some (.int (kk : Int)), x8, some (.int (dueI ws ns)), some (.loc st.length), x11, some (.tup (ns.map PV.int)), some (staysP rs), x14, x15, x16]) (st ++ [.lst false [.tup (ns.map PV.int), .tup (cutP (ns.map PV.int) (some 1) none), .tup (ns.map PV.int).reverse, .tup (ns.map PV.int ++ cutP (ns.map PV.int) (some (-1)) none), .tup (rgP 0 L.length), .non, .int 3, .str (Str.ofString "kept"), .tup [], .tup [.int (L.length : Int)], .tup [.int (-1)]]])) : Ok (d_law_16 [x0, some (.loc b), some (.bl g), some (.int (L.length : Int)), some (staysP L), x5, some (.tup (ws.map PV.int)), some (.int (kk : Int)), x8, some (.int (dueI ws ns)), x10, x11, some (.tup (ns.map PV.int)), some (staysP rs), x14, x15, x16] st) Q := by
  have hnl := h.nl
  have hl := h.giv.len
  have hI : ∀ p ∈ ns.map PV.int, IntB p := mem_ints fun i hi => by
    have := h.kept.bd i hi
    omega
  have hIl : (ns.map PV.int).length ≤ 60 := by rw [List.length_map]; exact hnl
  revert k
  generalize ns.map PV.int = X at *
  intro k
  have c1 := cutP_le X (some 1) none
  have c2 := cutP_le X (some (-1)) none
  simp [d_law_16, tupR]
  refine ⟨by omega, by omega, k (rw_first hb (fun v hv => ?_) (by simp) (by simp))⟩
  simp only [List.mem_cons, List.not_mem_nil, or_false] at hv
  have hcut : ∀ lo hi, ∀ p ∈ cutP X lo hi, IntB p := fun lo hi p hp => hI p (mem_cutP hp)
  rcases hv with rfl | rfl | rfl | rfl | rfl | rfl | rfl | rfl | rfl | rfl | rfl
  · exact bn_ints hI (by omega)
  · exact bn_ints (hcut _ _) (by omega)
  · exact bn_ints (fun p hp => hI p (List.mem_reverse.mp hp)) (by rw [List.length_reverse]; omega)
  · exact bn_ints (fun p hp => (List.mem_append.mp hp).elim (hI p) (hcut _ _ p)) (by rw [List.length_append]; omega)
  · refine bn_ints (fun p hp => ?_) (by unfold rgP; simp; omega)
    obtain ⟨i, hi, rfl⟩ := mem_rgP hp
    exact ⟨i, rfl, by omega, by omega⟩
  · exact .inl (.inl rfl)
  · exact .inl (.inr (.inl ⟨3, rfl, by decide⟩))
  · exact .inl (.inr (.inr (.inl ⟨_, rfl, by decide⟩)))
  · exact bn_ints (fun _ h => nomatch h) (by simp)
  · exact bn_ints (fun p hp => by rw [List.mem_singleton.mp hp]; exact ⟨_, rfl, by omega, by omega⟩) (by simp)
  · exact bn_ints (fun p hp => by rw [List.mem_singleton.mp hp]; exact ⟨_, rfl, by omega, by omega⟩) (by simp)
theorem draws_if {n : Nat} {ρ : PD.Env} {QQ : List PV → Sto → Prop} (h : BoxAt b c st) (hn : n ≤ 60) (hρ : ρ = [x0, some (.loc b), x2, some (.int (n : Int)), x4, x5, x6, x7, x8, x9, x10, x11, x12, x13, x14, x15, x16]) (k : ∀ l s, (∀ p ∈ l, IntB p) → l.length ≤ 60 → Bx b c st s → QQ l s) :
    Ok (lcF (.nm 15) (dB (dBin (oEq false) (fun ρ => bnd ((dCons (dVar 1) (dCons (dC (.int 2)) (fun _ st => .ok [] st))) ρ) (callM 2 S__law_draw)) (dC (.int 0)))) (dVar 15) (sV (rgP 0 n)).chk ρ (rgP 0 n) [] st) QQ := by
  subst hρ
  refine ok_lc (fun l acc s => Bx b c st s ∧ (∀ p ∈ acc, IntB p) ∧ acc.length + l.length ≤ n ∧ ∀ q ∈ l, IntB q) (fun _ _ _ _ => True.intro) ?_ ?_ _ _ _ ⟨⟨Ch.refl, h⟩, (fun _ h => nomatch h), by unfold rgP; simp, fun q hq => ?_⟩
  · intro acc s hP
    obtain ⟨hb, ha, hl, _⟩ := hP
    exact k acc s ha (by simp at hl; omega) hb
  · intro q l acc s hP
    obtain ⟨hb, ha, hl, hq⟩ := hP
    have hql : ∀ q ∈ l, IntB q := fun p hp => hq p (List.mem_cons_of_mem _ hp)
    refine ⟨_, rfl, ?_⟩
    simp
    refine (law_draw_ok hb.2 (m := 2) (by omega) (by omega)).imp fun p s2 hh => ?_
    obtain ⟨d, rfl, d1, d2, c1, b1⟩ := hh
    simp [okd_int]
    simp at hl
    by_cases hd : d = 0
    · rw [if_pos hd]
      refine ⟨by omega, ⟨hb.1.trans c1, b1⟩, ?_, by omega, hql⟩
      intro p hp
      rcases hp with hp | rfl
      · exact ha p hp
      · exact hq _ (List.mem_cons_self ..)
    · rw [if_neg hd]
      exact ⟨⟨hb.1.trans c1, b1⟩, ha, by omega, hql⟩
  · obtain ⟨i, hi, rfl⟩ := mem_rgP hq
    exact ⟨i, rfl, by omega, by omega⟩
theorem law_drawn (h : RwI b c r N st M) (hN : N ≤ 1000) (hL : L.length ≤ 60) (k : ∀ M' r' s, RwI b c r' (N + 8) s M' → Q (.nx [x0, some (.loc b), some (.bl g), some (.int (L.length : Int)), some (staysP L), x5, some (.tup (ws.map PV.int)), some (.int (kk : Int)), x8, some (.int (dueI ws ns)), some (.loc r'), x11, some (.tup (ns.map PV.int)), some (staysP rs), x14, x15, x16]) s) : Ok (d_law_17 [x0, some (.loc b), some (.bl g), some (.int (L.length : Int)), some (staysP L), x5, some (.tup (ws.map PV.int)), some (.int (kk : Int)), x8, some (.int (dueI ws ns)), some (.loc r), x11, some (.tup (ns.map PV.int)), some (staysP rs), x14, x15, x16] st) Q := by
  simp only [d_law_17, e_set, ok_bnd]
  simp [-e_lc]
  rw [e_lc]
  simp [-e_lc]
  refine ⟨⟨by omega, by omega⟩, ?_⟩
  simp only [wipeE]
  refine ok_lc (fun l acc s => Bx b c st s ∧ (∀ v ∈ acc, Bn 2 v) ∧ acc.length + l.length ≤ 8) (fun _ _ _ _ => True.intro) ?_ ?_ _ _ _ ⟨⟨Ch.refl, h.bx⟩, (fun _ h => nomatch h), by unfold rgP; simp⟩
  · intro acc s hP
    obtain ⟨hb, ha, hl⟩ := hP
    have h2 := h.bxs hb
    have hl2 := h.len
    simp at hl
    simp [h2.at_]
    exact ⟨by omega, k _ _ _ (rw_new h2 ha hl)⟩
  · intro q l acc s hP
    obtain ⟨hb, ha, hl⟩ := hP
    simp at hl
    refine ⟨_, rfl, ?_⟩
    simp [-e_lc]
    rw [e_lc]
    simp [wipeE, -e_lc]
    refine ⟨⟨by omega, by omega⟩, ?_⟩
    refine draws_if hb.2 hL rfl fun l2 s2 h2 hl2 b2 => ?_
    refine ⟨by omega, ⟨hb.1.trans b2.1, b2.2⟩, ?_, by omega⟩
    intro v hv
    rcases hv with hv | rfl
    · exact ha v hv
    · exact bn_ints h2 (by omega)
theorem dict_keys {ms : List Int} : ∃ bs : List Int, dictQ (ms.map fun i => .tup [.int i, .int 1]) st = .ok (.loc st.length) (st ++ [.dct false (bs.map oneP)]) ∧ bs.Nodup ∧ ∀ k, k ∈ bs ↔ k ∈ ms := by
  obtain ⟨bs, e, h1, h2⟩ := merge_one ms [] List.nodup_nil
  refine ⟨bs, ?_, h1, fun k => by simp [h2]⟩
  have hp : pairsV (ms.map fun i => .tup [.int i, .int 1]) = some (ms.map oneP) := by
    clear e h2
    induction ms with
    | nil => rfl
    | cons n ns ih => simp only [List.map_cons, pairsV, isKey_int, if_true, ih, Option.map_some]; rfl
  unfold dictQ
  rw [hp]
  show layO (.dct false (mergeP [] (ms.map oneP))) st = _
  have e : mergeP [] (ms.map oneP) = bs.map oneP := e
  rw [e]
  rfl
theorem nodup_le : ∀ {l m : List Int}, l.Nodup → (∀ x ∈ l, x ∈ m) → l.length ≤ m.length
  | [], _, _, _ => Nat.zero_le _
  | a :: l, m, hn, h => by
    have ha := h a (List.mem_cons_self ..)
    have hn := List.nodup_cons.mp hn
    have ih := nodup_le (l := l) (m := m.erase a) hn.2 fun x hx => (List.mem_erase_of_ne (fun (e : x = a) => hn.1 (by rw [← e]; exact hx))).mpr (h x (List.mem_cons_of_mem _ hx))
    rw [List.length_erase_of_mem ha] at ih
    have := List.length_pos_of_mem ha
    rw [List.length_cons]
    omega
theorem law_kepts (h : RwI b c r N st M) (hT : Tol L ws kk ns rs) (hN : N ≤ 1000) (k : ∀ M' r' s, RwI b c r' (N + 3) s M' → Q (.nx [x0, some (.loc b), some (.bl g), some (.int (L.length : Int)), some (staysP L), x5, some (.tup (ws.map PV.int)), some (.int (kk : Int)), x8, some (.int (dueI ws ns)), some (.loc r'), x11, some (.tup (ns.map PV.int)), some (staysP rs), x14, x15, x16]) s) : Ok (d_law_18 [x0, some (.loc b), some (.bl g), some (.int (L.length : Int)), some (staysP L), x5, some (.tup (ws.map PV.int)), some (.int (kk : Int)), x8, some (.int (dueI ws ns)), some (.loc r), x11, some (.tup (ns.map PV.int)), some (staysP rs), x14, x15, x16] st) Q := by
  have hnl := hT.nl
  have hL := hT.giv.len
  have hnb : ∀ i ∈ ns, 0 ≤ i ∧ i < 100 := fun i hi => by
    have := hT.kept.bd i hi
    omega
  simp only [d_law_18, e_set, ok_bnd]
  simp [-e_lc]
  rw [e_lc]
  simp [-e_lc]
  refine ⟨⟨by omega, by omega⟩, ?_⟩
  simp only [wipeE]
  refine ok_lc (fun l acc s => Bx b c st s ∧ (∀ v ∈ acc, Bn 2 v) ∧ acc.length + l.length ≤ 3) (fun _ _ _ _ => True.intro) ?_ ?_ _ _ _ ⟨⟨Ch.refl, h.bx⟩, (fun _ h => nomatch h), by unfold rgP; simp⟩
  · intro acc s hP
    obtain ⟨hb, ha, hl⟩ := hP
    have h2 := h.bxs hb
    have hl2 := h.len
    simp at hl
    simp [h2.at_]
    exact ⟨by omega, k _ _ _ (rw_new h2 ha hl)⟩
  · intro q l acc s hP
    obtain ⟨hb, ha, hl⟩ := hP
    simp at hl
    refine ⟨_, rfl, ?_⟩
    by_cases h0 : L.length = 0
    · simp [h0]
      exact ⟨hb, ha, by omega⟩
    · have h0' : 0 < L.length := by omega
      simp [h0', -e_lc]
      rw [e_lc]
      simp [-e_lc]
      refine (law_draw_ok hb.2 (m := (L.length : Int)) (by omega) (by omega)).imp fun p s2 hh => ?_
      obtain ⟨d, rfl, d1, d2, c1, b1⟩ := hh
      have em : ns.map PV.int ++ [PV.int d] = (ns ++ [d]).map PV.int := by simp
      have hml : (ns ++ [d]).length ≤ 61 := by simp; omega
      have hmb : ∀ i ∈ ns ++ [d], 0 ≤ i ∧ i < 100 := fun i hi => by
        rcases List.mem_append.mp hi with hi | hi
        · exact hnb i hi
        · rw [List.mem_singleton.mp hi]
          omega
      simp [wipeE]
      refine ⟨by omega, ?_⟩
      rw [em]
      revert hml hmb
      generalize ns ++ [d] = ms
      intro hml hmb
      rw [lc_map (fun q => .tup [q, .int 1]) (by exact True.intro) (ms.map PV.int) (fun q hq => by
        refine ⟨_, rfl, rfl, ?_⟩
        refine Ok.eq ?_
        simp) (by rw [List.length_map]; omega), ok_ok]
      obtain ⟨bs, eb, hbn, hbm⟩ := dict_keys (st := s2) (ms := ms)
      have e2 : (ms.map PV.int).map (fun q => PV.tup [q, .int 1]) = ms.map fun i => .tup [.int i, .int 1] := by rw [List.map_map]; rfl
      have hbl := nodup_le hbn fun x hx => (hbm x).mp hx
      have e3 : intsV ((bs.map oneP).map (·.1)) = some bs := by
        rw [List.map_map]
        exact intsV_map bs
      rw [e2, eb, ok_ok]
      simp [-List.map_map]
      unfold sortDQ
      rw [e3]
      dsimp only
      have ol : (ordI bs).length = bs.length := (ordI_perm bs).length_eq
      rw [if_pos (by omega), ok_ok]
      refine ⟨by omega, ⟨hb.1.trans (c1.trans Ch.app), b1.app⟩, ?_, by omega⟩
      intro v hv
      rcases hv with hv | rfl
      · exact ha v hv
      · refine bn_ints (mem_ints fun i hi => hmb i ((hbm i).mp ((ordI_perm bs).mem_iff.mp hi))) (by rw [List.length_map]; omega)
theorem law_bents (h : RwI b c r N st M) (hN : N ≤ 1000) (k : ∀ M' r' s, BoxAt b c s → s[r']? = some (.lst false M') → (∀ v ∈ M', PdA v) → Q (.nx [x0, some (.loc b), some (.bl g), some (.int (L.length : Int)), some (staysP L), x5, some (.tup (ws.map PV.int)), some (.int (kk : Int)), x8, some (.int (dueI ws ns)), some (.loc r'), x11, some (.tup (ns.map PV.int)), some (staysP rs), x14, x15, x16]) s) : Ok (d_law_19 [x0, some (.loc b), some (.bl g), some (.int (L.length : Int)), some (staysP L), x5, some (.tup (ws.map PV.int)), some (.int (kk : Int)), x8, some (.int (dueI ws ns)), some (.loc r), x11, some (.tup (ns.map PV.int)), some (staysP rs), x14, x15, x16] st) Q := by
  simp only [d_law_19, e_set, ok_bnd]
  simp [-e_lc]
  rw [e_lc]
  simp [-e_lc]
  refine ⟨⟨by omega, by omega⟩, ?_⟩
  simp only [wipeE]
  refine ok_lc (fun l acc s => Bx b c st s ∧ (∀ v ∈ acc, PdA v) ∧ acc.length + l.length ≤ 8) (fun _ _ _ _ => True.intro) ?_ ?_ _ _ _ ⟨⟨Ch.refl, h.bx⟩, (fun _ h => nomatch h), by unfold rgP; simp⟩
  · intro acc s hP
    obtain ⟨hb, ha, hl⟩ := hP
    have h2 := h.bxs hb
    have hl2 := h.len
    simp at hl
    simp [h2.at_]
    refine ⟨by omega, k (M ++ acc) _ _ hb.2.app (by simp) fun v hv => ?_⟩
    rcases List.mem_append.mp hv with hv | hv
    · exact bn_pd (h.row v hv)
    · exact ha v hv
  · intro q l acc s hP
    obtain ⟨hb, ha, hl⟩ := hP
    simp at hl
    have h2 := h.bxs hb
    have hl2 := h.len
    have hne : 0 < M.length := List.length_pos_iff.mpr h.ne
    refine ⟨_, rfl, ?_⟩
    simp [h2.at_]
    refine (law_draw_ok hb.2 (m := (M.length : Int)) (by omega) (by omega)).imp fun p s2 hh => ?_
    obtain ⟨d, rfl, d1, d2, b2⟩ := hh
    have h3 := h2.bxs b2
    obtain ⟨z, hz⟩ : ∃ z : PV, M[d.toNat]? = some z := ⟨M[d.toNat]'(by omega), List.getElem?_eq_getElem (by omega)⟩
    have e3 : atI M d = some z := by
      have := PD.atI_nat (l := M) (i := d.toNat) (a := z) hz
      rw [show ((d.toNat : Nat) : Int) = d by omega] at this
      exact this
    have hzm : z ∈ M := List.mem_of_getElem? hz
    simp [h3.at_, e3]
    refine (law_bent_ok b2.2 (h.row z hzm)).imp fun p s3 hh => ?_
    obtain ⟨hp, b3⟩ := hh
    refine ⟨by omega, ⟨hb.1.trans (b2.1.trans b3.1), b3.2⟩, ?_, by omega⟩
    intro v hv
    rcases hv with hv | rfl
    · exact ha v hv
    · exact hp
theorem law_bents2 : d_law_26 = d_law_19 := rfl
def JuI (L : List (Int × Int)) (ws ns : List Int) (rs : List (Int × Int)) (kk : Nat) (g : Bool) (x0 x5 x8 x15 x16 : Option PV) (b c r : Nat) (M : List PV) (l : List PV) (ρ : PD.Env) (s : Sto) : Prop := ∃ x11 x14, ρ = [x0, some (.loc b), some (.bl g), some (.int (L.length : Int)), some (staysP L), x5, some (.tup (ws.map PV.int)), some (.int (kk : Int)), x8, some (.int (dueI ws ns)), some (.loc r), x11, some (.tup (ns.map PV.int)), some (staysP rs), x14, x15, x16] ∧ BoxAt b c s ∧ s[r]? = some (.lst false M) ∧ ∀ v ∈ l, PdA v
theorem same_b (x : Bool) (s : Sto) : S__law_same [.bl x, .bl x] s = .ok (.bl true) s := law_same_ok1 rfl
theorem same_i (x : Int) (s : Sto) : S__law_same [.int x, .int x] s = .ok (.bl true) s := law_same_ok1 rfl
theorem law_judge {v : PV} (h : Tol L ws kk ns rs) (ho : PdA v) (k : ∀ ex x14, Q (.nx [x0, some (.loc b), some (.bl g), some (.int (L.length : Int)), some (staysP L), x5, some (.tup (ws.map PV.int)), some (.int (kk : Int)), x8, some (.int (dueI ws ns)), some (.loc r), some (v), some (.tup (ns.map PV.int)), some (staysP rs), x14, x15, x16]) (st ++ ex)) : Ok (dSeq d_law_20 d_law_22 [x0, some (.loc b), some (.bl g), some (.int (L.length : Int)), some (staysP L), x5, some (.tup (ws.map PV.int)), some (.int (kk : Int)), x8, some (.int (dueI ws ns)), some (.loc r), some (v), some (.tup (ns.map PV.int)), some (staysP rs), x14, x15, x16] st) Q := by
  rw [ok_seq]
  simp [d_law_20]
  refine _law_kept_ok ho.okV fun ex => ?_
  simp [d_law_22, -e_lc]
  refine is_kept_set_ok ho.okV fun ex2 => ?_
  simp [same_b, -e_lc]
  cases hf : keptB L kk v with
  | false =>
    simp
    have z := k (ex ++ ex2) (some (.bl false))
    simpa using z
  | true =>
    obtain ⟨ms, rfl, hms⟩ := keptB_tup hf
    have hml := kept_len hms
    have hL := h.giv.len
    simp [-e_lc, -List.map_map]
    rw [e_lc]
    simp [-e_lc, wipeE, -List.map_map]
    rw [due_lc (ws := ws) (ms := ms) (by exact True.intro) (fun i hi => by rw [h.giv.wl]; exact hms.bd i hi) (by omega) rfl, ok_ok, sumQ_ints]
    have hw := weak (L := L) (ws := ws) (rs := rs) (by omega : (0 : Int) ≤ (kk : Int)) hms (fun r hr => by have := h.rents.bd r hr; omega)
    rw [h.due] at hw
    have hw2 : ¬ dueI ws ns < (ms.map (wI ws)).sum := by
      have e : (ms.map (wI ws)).sum = dueI ws ms := rfl
      omega
    simp [hw2, -List.map_map]
    have z := k (ex ++ ex2) (some (.bl true))
    simpa using z
theorem law_judges (h : Tol L ws kk ns rs) (hb : BoxAt b c st) (hr : st[r]? = some (.lst false M)) (hM : ∀ v ∈ M, PdA v) (k : ∀ s x11 x14, BoxAt b c s → Q (.nx [x0, some (.loc b), some (.bl g), some (.int (L.length : Int)), some (staysP L), x5, some (.tup (ws.map PV.int)), some (.int (kk : Int)), x8, some (.int (dueI ws ns)), some (.loc r), x11, some (.tup (ns.map PV.int)), some (staysP rs), x14, x15, x16]) s) : Ok (d_law_23 [x0, some (.loc b), some (.bl g), some (.int (L.length : Int)), some (staysP L), x5, some (.tup (ws.map PV.int)), some (.int (kk : Int)), x8, some (.int (dueI ws ns)), some (.loc r), x11, some (.tup (ns.map PV.int)), some (staysP rs), x14, x15, x16] st) Q := by
  simp only [d_law_23, e_for, ok_bnd]
  simp [hr, -ok_seq]
  refine ok_for (JuI L ws ns rs kk g x0 x5 x8 x15 x16 b c r M) (fun l ρ s h => ?_) ?_ ?_ _ _ _ ⟨x11, x14, rfl, hb, hr, hM⟩
  · obtain ⟨x11, x14, rfl, h0, h1, h2⟩ := h
    exact .inl h1
  · intro ρ s hP
    obtain ⟨x11, x14, rfl, h0, h1, h2⟩ := hP
    exact k s x11 x14 h0
  · intro q l ρ s hP2
    obtain ⟨x11, x14, rfl, h0, h1, h2⟩ := hP2
    rw [e_gNm, ok_ok]
    refine law_judge h (h2 q (List.mem_cons_self ..)) fun ex x14 => ?_
    exact ⟨some q, x14, rfl, h0.app, by rw [List.getElem?_append_left (get_lt h1)]; exact h1, fun v hv => h2 v (List.mem_cons_of_mem _ hv)⟩
theorem law_rents (h : Tol L ws kk ns rs) (hb : BoxAt b c st) (k : ∀ M' r' s, RwI b c r' 14 s M' → Q (.nx [x0, some (.loc b), some (.bl g), some (.int (L.length : Int)), some (staysP L), x5, some (.tup (ws.map PV.int)), some (.int (kk : Int)), x8, some (.int (dueI ws ns)), some (.loc r'), x11, some (.tup (ns.map PV.int)), some (staysP rs), x14, x15, x16]) s) : Ok (d_law_24 [x0, some (.loc b), some (.bl g), some (.int (L.length : Int)), some (staysP L), x5, some (.tup (ws.map PV.int)), some (.int (kk : Int)), x8, some (.int (dueI ws ns)), x10, x11, some (.tup (ns.map PV.int)), some (staysP rs), x14, x15, x16] st) Q := by
  have hR := h.bnR
  have hrl := h.rl
  have hRp : ∀ p ∈ rs.map stP, Bn 1 p := by
    rcases hR with hR | ⟨l, e, _, hp⟩
    · rcases hR with e | ⟨_, e, _⟩ | ⟨_, e, _⟩ | ⟨_, e⟩ <;> cases e
    · cases e
      exact hp
  have hXl : (rs.map stP).length ≤ 120 := by rw [List.length_map]; exact hrl
  simp only [d_law_24, e_set, ok_bnd]
  simp [staysP, -e_lc, -List.map_map]
  have hbn : ∀ l : List PV, (∀ p ∈ l, Bn 1 p) → l.length ≤ 1900 → Bn 2 (.tup l) := fun l h1 h2 => .inr ⟨l, rfl, h2, h1⟩
  have hst : staysP rs = .tup (rs.map stP) := rfl
  rw [hst] at k
  revert hRp hXl
  generalize rs.map stP = X at *
  intro hRp hXl
  have c2 := cutP_le X (some (-1)) none
  rw [e_lc]
  simp [-e_lc]
  refine ⟨by omega, ⟨by omega, by omega⟩, ?_⟩
  simp only [wipeE]
  refine ok_lc (fun l acc s => Bx b c st s ∧ (∀ v ∈ acc, Bn 2 v) ∧ acc.length + l.length ≤ 6) (fun _ _ _ _ => True.intro) ?_ ?_ _ _ _ ⟨⟨Ch.refl, hb⟩, (fun _ h => nomatch h), by unfold rgP; simp⟩
  · intro acc s hP
    obtain ⟨hb2, ha, hl⟩ := hP
    simp at hl
    refine ⟨by omega, ?_⟩
    refine k _ _ _ (rw_first hb2.2 (fun v hv => ?_) (by simp) (by simp; omega))
    simp only [List.mem_cons] at hv
    rcases hv with rfl | rfl | rfl | rfl | rfl | rfl | rfl | rfl | hv
    · exact hbn _ hRp (by omega)
    · exact hbn _ (fun _ h => nomatch h) (by simp)
    · exact hbn _ (fun p hp => hRp p (List.mem_reverse.mp hp)) (by rw [List.length_reverse]; omega)
    · exact hbn _ (fun p hp => (List.mem_append.mp hp).elim (hRp p) fun hp => hRp p (mem_cutP hp)) (by rw [List.length_append]; omega)
    · exact .inl (.inl rfl)
    · exact .inl (.inr (.inl ⟨7, rfl, by decide⟩))
    · exact .inl (.inr (.inr (.inl ⟨_, rfl, by decide⟩)))
    · exact bn_ints (fun p hp => by
        simp only [List.mem_cons, List.not_mem_nil, or_false] at hp
        rcases hp with rfl | rfl
        · exact ⟨5, rfl, by omega, by omega⟩
        · exact ⟨9, rfl, by omega, by omega⟩) (by simp)
    · exact ha v hv
  · intro q l acc s hP
    obtain ⟨hb2, ha, hl⟩ := hP
    simp at hl
    have hL := h.giv.len
    refine ⟨_, rfl, ?_⟩
    simp
    refine _law_some_ok hb2.2 hL h.giv.bd (fun w hw => (h.giv.wb w hw).2) (by rw [h.giv.wl]; exact hL) fun v s2 b2 hv => ?_
    refine ⟨by omega, ⟨hb2.1.trans b2.1, b2.2⟩, ?_, by omega⟩
    intro u hu
    rcases hu with hu | rfl
    · exact ha u hu
    · exact hv
theorem bnF2 {x y : PV} (hx : BnF x) (hy : BnF y) : Bn 1 (.tup [x, y]) := .inr ⟨_, rfl, by simp, fun p hp => by
  simp only [List.mem_cons, List.not_mem_nil, or_false] at hp
  rcases hp with rfl | rfl
  · exact hx
  · exact hy⟩
theorem bn_one {x : PV} (hx : Bn 1 x) : Bn 2 (.tup [x]) := .inr ⟨_, rfl, by simp, fun p hp => by rw [List.mem_singleton.mp hp]; exact hx⟩
theorem bnF_i {x : Int} (h : x.natAbs ≤ 1000000000000000000000000) : BnF (.int x) := .inr (.inl ⟨x, rfl, h⟩)
theorem law_odd (h : RwI b c r N st M) (hN : N ≤ 1000) (k : ∀ M' r' s, RwI b c r' (N + 9) s M' → Q (.nx [x0, some (.loc b), some (.bl g), some (.int (L.length : Int)), some (staysP L), x5, some (.tup (ws.map PV.int)), some (.int (kk : Int)), x8, some (.int (dueI ws ns)), some (.loc r'), x11, some (.tup (ns.map PV.int)), some (staysP rs), x14, x15, x16]) s) : Ok (d_law_25 [x0, some (.loc b), some (.bl g), some (.int (L.length : Int)), some (staysP L), x5, some (.tup (ws.map PV.int)), some (.int (kk : Int)), x8, some (.int (dueI ws ns)), some (.loc r), x11, some (.tup (ns.map PV.int)), some (staysP rs), x14, x15, x16] st) Q := by
  have hl2 := h.len
  have e10 : (10 : Int) ^ 20 = 100000000000000000000 := by decide
  simp [d_law_25, h.at_]
  refine ⟨⟨by decide, by decide, by decide⟩, by omega, k _ _ _ (rw_new (n := 9) h (fun v hv => ?_) (by simp))⟩
  simp only [List.mem_cons, List.not_mem_nil, or_false] at hv
  rcases hv with rfl | rfl | rfl | rfl | rfl | rfl | rfl | rfl | rfl
  · exact bn_one (bnF2 (bnF_i (by decide)) (bnF_i (by decide)))
  · exact bn_one (bnF2 (bnF_i (by decide)) (bnF_i (by decide)))
  · exact bn_one (bnF2 (bnF_i (by decide)) (.inr (.inr (.inr ⟨true, rfl⟩))))
  · exact bn_one (bnF2 (bnF_i (by decide)) (bnF_i (by decide)))
  · exact bn_one (bnF2 (bnF_i (by decide)) (bnF_i (by decide)))
  · refine .inr ⟨_, rfl, by simp, fun p hp => ?_⟩
    simp only [List.mem_cons, List.not_mem_nil, or_false] at hp
    rcases hp with rfl | rfl
    · exact bnF2 (bnF_i (by decide)) (bnF_i (by decide))
    · exact bnF2 (bnF_i (by decide)) (bnF_i (by decide))
  · refine bn_one (.inr ⟨_, rfl, by simp, fun p hp => ?_⟩)
    simp only [List.mem_cons, List.not_mem_nil, or_false] at hp
    rcases hp with rfl | rfl | rfl
    · exact bnF_i (by decide)
    · exact bnF_i (by decide)
    · exact bnF_i (by decide)
  · exact bn_one (bnF2 (bnF_i (by decide)) (bnF_i (by decide)))
  · exact bn_one (bnF2 (bnF_i (by decide)) (bnF_i (by decide)))
theorem law_rate {v : PV} (h : Tol L ws kk ns rs) (ho : PdA v) (k : ∀ ex x14, Q (.nx [x0, some (.loc b), some (.bl g), some (.int (L.length : Int)), some (staysP L), x5, some (.tup (ws.map PV.int)), some (.int (kk : Int)), x8, some (.int (dueI ws ns)), some (.loc r), some (v), some (.tup (ns.map PV.int)), some (staysP rs), x14, x15, x16]) (st ++ ex)) : Ok (dSeq d_law_27 (dSeq d_law_29 d_law_31) [x0, some (.loc b), some (.bl g), some (.int (L.length : Int)), some (staysP L), x5, some (.tup (ws.map PV.int)), some (.int (kk : Int)), x8, some (.int (dueI ws ns)), some (.loc r), some (v), some (.tup (ns.map PV.int)), some (staysP rs), x14, x15, x16] st) Q := by
  rw [ok_seq]
  simp [d_law_27, _law_rents_ok ho.okR, -ok_seq]
  rw [ok_seq]
  simp [d_law_29, -ok_seq]
  refine are_rents_ok ho.okR fun ex => ?_
  simp [same_b, -ok_seq]
  cases hf : rentsB v with
  | false =>
    simp [d_law_31]
    exact k ex _
  | true =>
    obtain ⟨ms, rfl, hms⟩ := rentsB_tup hf
    have hml := ho.okV.2 _ rfl
    rw [List.length_map] at hml
    have hL := h.giv.len
    have hkk := h.kk60
    have e1 := bound_of_ok (L := L) (rs := ms) (ws := ws) (k := (kk : Int)) (st := st ++ ex) (by omega) (by omega) h.giv.wl (by omega)
    have e2 := _law_bound_ok (L := L) (rs := ms) (ws := ws) (k := (kk : Int)) (st := st ++ ex) (by omega) (by omega) h.giv.wl (by omega)
    have hw := weak (L := L) (ws := ws) (rs := ms) (by omega : (0 : Int) ≤ (kk : Int)) h.kept (fun r hr => by have := hms.bd r hr; omega)
    have hw2 : ¬ boundI L ws kk ms < dueI ws ns := by omega
    unfold staysP at e1 e2
    simp [d_law_31, e1, e2, same_i, hw2]
    exact k ex _
theorem law_rates (h : Tol L ws kk ns rs) (hb : BoxAt b c st) (hr : st[r]? = some (.lst false M)) (hM : ∀ v ∈ M, PdA v) (k : ∀ s x11 x14, BoxAt b c s → Q (.nx [x0, some (.loc b), some (.bl g), some (.int (L.length : Int)), some (staysP L), x5, some (.tup (ws.map PV.int)), some (.int (kk : Int)), x8, some (.int (dueI ws ns)), some (.loc r), x11, some (.tup (ns.map PV.int)), some (staysP rs), x14, x15, x16]) s) : Ok (d_law_32 [x0, some (.loc b), some (.bl g), some (.int (L.length : Int)), some (staysP L), x5, some (.tup (ws.map PV.int)), some (.int (kk : Int)), x8, some (.int (dueI ws ns)), some (.loc r), x11, some (.tup (ns.map PV.int)), some (staysP rs), x14, x15, x16] st) Q := by
  simp only [d_law_32, e_for, ok_bnd]
  simp [hr, -ok_seq]
  refine ok_for (JuI L ws ns rs kk g x0 x5 x8 x15 x16 b c r M) (fun l ρ s h => ?_) ?_ ?_ _ _ _ ⟨x11, x14, rfl, hb, hr, hM⟩
  · obtain ⟨x11, x14, rfl, h0, h1, h2⟩ := h
    exact .inl h1
  · intro ρ s hP
    obtain ⟨x11, x14, rfl, h0, h1, h2⟩ := hP
    exact k s x11 x14 h0
  · intro q l ρ s hP2
    obtain ⟨x11, x14, rfl, h0, h1, h2⟩ := hP2
    rw [e_gNm, ok_ok]
    refine law_rate h (h2 q (List.mem_cons_self ..)) fun ex x14 => ?_
    exact ⟨some q, x14, rfl, h0.app, by rw [List.getElem?_append_left (get_lt h1)]; exact h1, fun v hv => h2 v (List.mem_cons_of_mem _ hv)⟩
theorem law_body (hG : Giv L ws) (hg : g = false → L.length ≤ 8) (hk : kk ≤ 60) (hb : BoxAt b c st) (k : ∀ s x7 x8 x9 x10 x11 x12 x13 x14 x15 x16, BoxAt b c s → Q (.nx [x0, some (.loc b), some (.bl g), some (.int (L.length : Int)), some (staysP L), x5, some (.tup (ws.map PV.int)), x7, x8, x9, x10, x11, x12, x13, x14, x15, x16]) s) :
    Ok (dSeq d_law_7 (dSeq d_law_9 (dSeq d_law_10 (dSeq d_law_12 (dSeq d_law_13 (dSeq d_law_15 (dSeq d_law_16 (dSeq d_law_17 (dSeq d_law_18 (dSeq d_law_19 (dSeq d_law_23 (dSeq d_law_24 (dSeq d_law_25 (dSeq d_law_26 d_law_32))))))))))))) [x0, some (.loc b), some (.bl g), some (.int (L.length : Int)), some (staysP L), x5, some (.tup (ws.map PV.int)), some (.int (kk : Int)), x8, x9, x10, x11, x12, x13, x14, x15, x16] st) Q := by
  rw [ok_seq]
  refine law_told hG hk fun ns rs s1 hT k1 => ?_
  have b1 := (keep_bx hb k1).2
  rw [seqK_nx, ok_seq2]
  refine law_nine ?_
  rw [seqK_nx, ok_seq]
  refine law_twelve hT fun s2 k2 => ?_
  have b2 := (keep_bx b1 k2).2
  rw [seqK_nx, ok_seq]
  refine law_due hT ?_
  rw [seqK_nx, ok_seq]
  refine law_great hT hg fun s3 k3 => ?_
  have b3 := (keep_bx b2 k3).2
  rw [seqK_nx, ok_seq]
  refine law_rows hT b3 fun h4 => ?_
  rw [seqK_nx, ok_seq]
  refine law_drawn h4 (by omega) hG.len fun M5 r5 s5 h5 => ?_
  rw [seqK_nx, ok_seq]
  refine law_kepts h5 hT (by omega) fun M6 r6 s6 h6 => ?_
  rw [seqK_nx, ok_seq]
  refine law_bents h6 (by omega) fun M7 r7 s7 h7 g7 p7 => ?_
  rw [seqK_nx, ok_seq]
  refine law_judges hT h7 g7 p7 fun s8 x11 x14 h8 => ?_
  rw [seqK_nx, ok_seq]
  refine law_rents hT h8 fun M9 r9 s9 h9 => ?_
  rw [seqK_nx, ok_seq]
  refine law_odd h9 (by omega) fun M10 r10 s10 h10 => ?_
  rw [seqK_nx, ok_seq, law_bents2]
  refine law_bents h10 (by omega) fun M11 r11 s11 h11 g11 p11 => ?_
  rw [seqK_nx]
  refine law_rates hT h11 g11 p11 fun s12 x11 x14 h12 => ?_
  exact k _ _ _ _ _ _ _ _ _ _ _ h12
end
def LoI (L : List (Int × Int)) (ws : List Int) (g : Bool) (x0 x5 : Option PV) (b c : Nat) (l : List PV) (ρ : PD.Env) (s : Sto) : Prop := ∃ x7 x8 x9 x10 x11 x12 x13 x14 x15 x16, ρ = [x0, some (.loc b), some (.bl g), some (.int (L.length : Int)), some (staysP L), x5, some (.tup (ws.map PV.int)), x7, x8, x9, x10, x11, x12, x13, x14, x15, x16] ∧ BoxAt b c s ∧ ∀ q ∈ l, ∃ kk : Nat, q = .int (kk : Int) ∧ kk ≤ 60
section
variable {b c : Nat} {st : Sto} {g : Bool} {L : List (Int × Int)} {ws : List Int} {x0 x1 x2 x3 x4 x5 x6 x7 x8 x9 x10 x11 x12 x13 x14 x15 x16 : Option PV}
theorem law_loop {Q : PV → Sto → Prop} (hG : Giv L ws) (hg : g = false → L.length ≤ 8) (hb : BoxAt b c st) (k : ∀ s, Q (.bl true) s) : Ok (dSeq d_law_33 d_law_34 [x0, some (.loc b), some (.bl g), some (.int (L.length : Int)), some (staysP L), x5, some (.tup (ws.map PV.int)), x7, x8, x9, x10, x11, x12, x13, x14, x15, x16] st) fun fl s => Ok (retF fl s) Q := by
  rw [ok_seq]
  simp only [d_law_33, e_for, ok_bnd]
  simp [-ok_seq]
  refine (law_draw_ok hb (m := 4) (by omega) (by omega)).imp fun p s1 hh => ?_
  obtain ⟨d, rfl, d1, d2, c1, b1⟩ := hh
  refine (law_draw_ok b1 (m := 5) (by omega) (by omega)).imp fun p s2 hh => ?_
  obtain ⟨e, rfl, e1, e2, c2, b2⟩ := hh
  refine ixQ_ok e1 e2 fun z hz => ?_
  have hL := hG.len
  have hz2 : ∃ kk : Nat, z = .int (kk : Int) ∧ kk ≤ 60 := by
    simp only [List.mem_cons, List.not_mem_nil, or_false] at hz
    rcases hz with rfl | rfl | rfl | rfl | rfl
    · exact ⟨0, rfl, by omega⟩
    · exact ⟨1, rfl, by omega⟩
    · exact ⟨60, rfl, by omega⟩
    · exact ⟨L.length, rfl, hL⟩
    · exact ⟨2, rfl, by omega⟩
  refine ok_for (LoI L ws g x0 x5 b c) (fun _ _ _ _ => True.intro) ?_ ?_ _ _ _ ⟨_, _, _, _, _, _, _, _, _, _, rfl, b2, fun q hq => ?_⟩
  · intro ρ s hP
    obtain ⟨x7, x8, x9, x10, x11, x12, x13, x14, x15, x16, rfl, _, _⟩ := hP
    simp [d_law_34]
    exact k s
  · intro q l ρ s hP
    obtain ⟨x7, x8, x9, x10, x11, x12, x13, x14, x15, x16, rfl, hb, hq⟩ := hP
    obtain ⟨kk, rfl, hk⟩ := hq _ (List.mem_cons_self ..)
    rw [e_gNm, ok_ok]
    refine law_body hG hg hk hb fun s x7 x8 x9 x10 x11 x12 x13 x14 x15 x16 hb2 => ?_
    exact ⟨x7, x8, x9, x10, x11, x12, x13, x14, x15, x16, rfl, hb2, fun q hq' => hq q (List.mem_cons_of_mem _ hq')⟩
  · simp only [List.mem_cons, List.not_mem_nil, or_false] at hq
    rcases hq with rfl | rfl
    · exact ⟨d.toNat, by rw [show ((d.toNat : Nat) : Int) = d by omega], by omega⟩
    · exact hz2
end
theorem law_ok {p : PV} {ns : List Int} {st : Sto} (h : ScrAt p ns st) (hn : ns.length ≤ 63) : Ok (S_law [p] st) (fun q _ => q = .bl true) := by
  unfold S_law
  rw [e_body, ok_bnd]
  simp only [d_law, ok_seq]
  simp only [d_law_1, e_set, ok_bnd]
  simp [start0, -ok_seq]
  refine (law_box_ok h hn).imp fun q s1 hh => ?_
  obtain ⟨b, c, rfl, hb, _, _, _, _⟩ := hh
  rw [ok_seq2]
  refine law_start hb fun g n s2 hn60 hg8 b2 => ?_
  rw [seqK_nx, ok_seq]
  simp [d_law_4, -ok_seq]
  refine (law_stays_ok b2.2 (n := n) (by omega)).imp fun q s3 hh => ?_
  obtain ⟨L, rfl, rfl, hL, b3⟩ := hh
  rw [ok_seq2]
  refine law_worths b3.2 hn60 fun ws x5 s4 hwl hwb b4 => ?_
  rw [seqK_nx]
  have hG : Giv L ws := ⟨hn60, hL, hwl, hwb⟩
  exact law_loop hG hg8 b4.2 fun s => rfl
theorem ok_law {P : Program} {w : World} {W : Wd} {base : Heap} (V : Ev W base) : DFn P w W base 10 (He.fAd W.K ("law", none)) 1 S_law := raw_law V (ok__law_box V) (ok__law_draw V) (ok__law_stays V) (ok_best_kept V) (ok__law_kept V) (ok__law_rents V) (ok__law_bound V) (ok__law_greatest V) (ok__law_bent V) (ok__law_same V) (ok_is_kept_set V) (ok__law_some V) (ok_are_rents V) (ok_bound_of V)
def D_is_number : He.DefD := ⟨("is_number", none), "is_number", "is_number", defArgs (top 2), defBody (top 2), defScope (top 2), [], []⟩
def D_is_moment : He.DefD := ⟨("is_moment", none), "is_moment", "is_moment", defArgs (top 3), defBody (top 3), defScope (top 3), [], []⟩
def D_is_ascending : He.DefD := ⟨("is_ascending", none), "is_ascending", "is_ascending", defArgs (top 4), defBody (top 4), defScope (top 4), [], []⟩
def D_are_numbers_of : He.DefD := ⟨("are_numbers_of", none), "are_numbers_of", "are_numbers_of", defArgs (top 6), defBody (top 6), defScope (top 6), [], []⟩
def D_has_moment : He.DefD := ⟨("has_moment", none), "has_moment", "has_moment", defArgs (top 7), defBody (top 7), defScope (top 7), [], []⟩
def D_present : He.DefD := ⟨("present", none), "present", "present", defArgs (top 8), defBody (top 8), defScope (top 8), [], []⟩
def D_is_kept_set : He.DefD := ⟨("is_kept_set", none), "is_kept_set", "is_kept_set", defArgs (top 10), defBody (top 10), defScope (top 10), [], []⟩
def D_are_rents : He.DefD := ⟨("are_rents", none), "are_rents", "are_rents", defArgs (top 11), defBody (top 11), defScope (top 11), [], []⟩
def D_rent_of : He.DefD := ⟨("rent_of", none), "rent_of", "rent_of", defArgs (top 12), defBody (top 12), defScope (top 12), [], []⟩
def D_bound_of : He.DefD := ⟨("bound_of", none), "bound_of", "bound_of", defArgs (top 13), defBody (top 13), defScope (top 13), [], []⟩
def D_road : He.DefD := ⟨("road", none), "road", "road", defArgs (top 14), defBody (top 14), defScope (top 14), [], []⟩
def D_least_costs : He.DefD := ⟨("least_costs", none), "least_costs", "least_costs", defArgs (top 15), defBody (top 15), defScope (top 15), [], []⟩
def D_send : He.DefD := ⟨("send", none), "send", "send", defArgs (top 16), defBody (top 16), defScope (top 16), [], []⟩
def D_best_kept : He.DefD := ⟨("best_kept", none), "best_kept", "best_kept", defArgs (top 17), defBody (top 17), defScope (top 17), [], []⟩
def D__law_box : He.DefD := ⟨("_law_box", none), "_law_box", "_law_box", defArgs (top 19), defBody (top 19), defScope (top 19), [], []⟩
def D__law_load : He.DefD := ⟨("_law_load", none), "_law_load", "_law_load", defArgs (top 20), defBody (top 20), defScope (top 20), [], []⟩
def D__law_draw : He.DefD := ⟨("_law_draw", none), "_law_draw", "_law_draw", defArgs (top 21), defBody (top 21), defScope (top 21), [], []⟩
def D__law_same : He.DefD := ⟨("_law_same", none), "_law_same", "_law_same", defArgs (top 22), defBody (top 22), defScope (top 22), [], []⟩
def D__law_stays : He.DefD := ⟨("_law_stays", none), "_law_stays", "_law_stays", defArgs (top 23), defBody (top 23), defScope (top 23), [], []⟩
def D__law_present : He.DefD := ⟨("_law_present", none), "_law_present", "_law_present", defArgs (top 24), defBody (top 24), defScope (top 24), [], []⟩
def D__law_numbers : He.DefD := ⟨("_law_numbers", none), "_law_numbers", "_law_numbers", defArgs (top 25), defBody (top 25), defScope (top 25), [], []⟩
def D__law_bent : He.DefD := ⟨("_law_bent", none), "_law_bent", "_law_bent", defArgs (top 26), defBody (top 26), defScope (top 26), [], []⟩
def D__law_kept : He.DefD := ⟨("_law_kept", none), "_law_kept", "_law_kept", defArgs (top 27), defBody (top 27), defScope (top 27), [], []⟩
def D__law_rents : He.DefD := ⟨("_law_rents", none), "_law_rents", "_law_rents", defArgs (top 28), defBody (top 28), defScope (top 28), [], []⟩
def D__law_bound : He.DefD := ⟨("_law_bound", none), "_law_bound", "_law_bound", defArgs (top 29), defBody (top 29), defScope (top 29), [], []⟩
def D__law_greatest : He.DefD := ⟨("_law_greatest", none), "_law_greatest", "_law_greatest", defArgs (top 30), defBody (top 30), defScope (top 30), [], []⟩
def D__law_some : He.DefD := ⟨("_law_some", none), "_law_some", "_law_some", defArgs (top 31), defBody (top 31), defScope (top 31), [], []⟩
def D_law : He.DefD := ⟨("law", none), "law", "law", defArgs (top 32), defBody (top 32), defScope (top 32), [], []⟩
def fn : List He.DefD := [D_is_number, D_is_moment, D_is_ascending, D_are_numbers_of, D_has_moment, D_present, D_is_kept_set, D_are_rents, D_rent_of, D_bound_of, D_road, D_least_costs, D_send, D_best_kept, D__law_box, D__law_load, D__law_draw, D__law_same, D__law_stays, D__law_present, D__law_numbers, D__law_bent, D__law_kept, D__law_rents, D__law_bound, D__law_greatest, D__law_some, D_law]
def fa : List He.Fa := [.glo "is_number", .glo "is_moment", .glo "is_ascending", .glo "are_numbers_of", .glo "has_moment", .glo "present", .glo "is_kept_set", .glo "are_rents", .glo "rent_of", .glo "bound_of", .glo "road", .glo "least_costs", .glo "send", .glo "best_kept", .glo "_law_box", .glo "_law_load", .glo "_law_draw", .glo "_law_same", .glo "_law_stays", .glo "_law_present", .glo "_law_numbers", .glo "_law_bent", .glo "_law_kept", .glo "_law_rents", .glo "_law_bound", .glo "_law_greatest", .glo "_law_some", .glo "law", .int "LAST_MOMENT" 1000000, .free "all", .free "any", .free "bool", .free "dict", .free "enumerate", .free "int", .free "isinstance", .free "len", .free "list", .free "max", .free "min", .free "range", .free "set", .free "sorted", .free "str", .free "sum", .free "tuple"]
def tf : List (Str × Option Str) := [("is_ascending", none), ("are_numbers_of", none), ("is_kept_set", none)]
def exB (K : PySem.W.Frag) : Bool := decide (tf.map fun p => (He.cT K p).2).Nodup
abbrev R : PySem.W.OpenRow := PySem.W.OpenLaw.row PySem.Challenge.rw_backtohand_k50_whole_worths_and_rents
abbrev hk : PySem.W.Hook := He.hookX 4 fa fn [] tf exB
def ob (s : PySem.W.SharedT) : He.AlX := He.obsX 4 fa fn [] tf exB (HandSHeadRun.getT s)
theorem ob_eq (s : PySem.W.SharedT) : ob s = hk.obs s.abs := He.obsX_eq (HandSHeadRun.getT_eq s)
def names : List Str := (["is_number", "is_moment", "is_ascending", "are_numbers_of", "has_moment", "present", "is_kept_set", "are_rents", "rent_of", "bound_of", "road", "least_costs", "send", "best_kept", "_law_box", "_law_load", "_law_draw", "_law_same", "_law_stays", "_law_present", "_law_numbers", "_law_bent", "_law_kept", "_law_rents", "_law_bound", "_law_greatest", "_law_some", "LAST_MOMENT"] : List Str)
theorem run (w : World) : HandSHeadRun.RunEq R (PySem.W.view R.prog [32]) hk ob 4000 names w := by
  intro os
  kernel_rfl
def dnames : List Str := ["is_number", "is_moment", "is_ascending", "are_numbers_of", "has_moment", "present", "is_kept_set", "are_rents", "rent_of", "bound_of", "road", "least_costs", "send", "best_kept", "_law_box", "_law_load", "_law_draw", "_law_same", "_law_stays", "_law_present", "_law_numbers", "_law_bent", "_law_kept", "_law_rents", "_law_bound", "_law_greatest", "_law_some", "law"]
def WW (K : PySem.W.Frag) (mg : Str → Option Value) : Wd where
  K := K
  mg := mg
  cx := CX0
  fa := fun j => (dnames[j]?).map fun x => He.fAd K (x, none)
  xc := fun _ => .none
  tb := [(He.cT K ("is_ascending", none)).2, (He.cT K ("are_numbers_of", none)).2, (He.cT K ("is_kept_set", none)).2]
  tl := []
theorem nd_ne {l : List Addr} (h : l.Nodup) {i j : Nat} {a b : Addr} (ha : l[i]? = some a) (hb : l[j]? = some b) (hij : i ≠ j) : a ≠ b := fun e => by
  subst e
  obtain ⟨h1, e1⟩ := List.getElem?_eq_some_iff.mp ha
  obtain ⟨h2, e2⟩ := List.getElem?_eq_some_iff.mp hb
  exact hij ((List.getElem_inj h).mp (e1.trans e2.symm))
theorem ev_cx {w : World} {h base : Heap} {K : PySem.W.Frag} {mg : Str → Option Value} (KX : K.In h) (G : h.Ns mainGlobals mg) (c : He.SaysX fa fn [] tf exB w h K) (nd : (tf.map fun p => (He.cT K p).2).Nodup) (TB : ∀ p ∈ tf.map (He.cT K), GxR.TabB base mg p.1 p.2) : (WW K mg).cx = CX0 := rfl
theorem ev_b_all {w : World} {h base : Heap} {K : PySem.W.Frag} {mg : Str → Option Value} (KX : K.In h) (G : h.Ns mainGlobals mg) (c : He.SaysX fa fn [] tf exB w h K) (nd : (tf.map fun p => (He.cT K p).2).Nodup) (TB : ∀ p ∈ tf.map (He.cT K), GxR.TabB base mg p.1 p.2) : (WW K mg).mg "all" = none := He.free_ok KX G (c.t.d.fact 29 (f := .free "all"))
theorem ev_b_any {w : World} {h base : Heap} {K : PySem.W.Frag} {mg : Str → Option Value} (KX : K.In h) (G : h.Ns mainGlobals mg) (c : He.SaysX fa fn [] tf exB w h K) (nd : (tf.map fun p => (He.cT K p).2).Nodup) (TB : ∀ p ∈ tf.map (He.cT K), GxR.TabB base mg p.1 p.2) : (WW K mg).mg "any" = none := He.free_ok KX G (c.t.d.fact 30 (f := .free "any"))
theorem ev_b_bool {w : World} {h base : Heap} {K : PySem.W.Frag} {mg : Str → Option Value} (KX : K.In h) (G : h.Ns mainGlobals mg) (c : He.SaysX fa fn [] tf exB w h K) (nd : (tf.map fun p => (He.cT K p).2).Nodup) (TB : ∀ p ∈ tf.map (He.cT K), GxR.TabB base mg p.1 p.2) : (WW K mg).mg "bool" = none := He.free_ok KX G (c.t.d.fact 31 (f := .free "bool"))
theorem ev_b_dict {w : World} {h base : Heap} {K : PySem.W.Frag} {mg : Str → Option Value} (KX : K.In h) (G : h.Ns mainGlobals mg) (c : He.SaysX fa fn [] tf exB w h K) (nd : (tf.map fun p => (He.cT K p).2).Nodup) (TB : ∀ p ∈ tf.map (He.cT K), GxR.TabB base mg p.1 p.2) : (WW K mg).mg "dict" = none := He.free_ok KX G (c.t.d.fact 32 (f := .free "dict"))
theorem ev_b_enumerate {w : World} {h base : Heap} {K : PySem.W.Frag} {mg : Str → Option Value} (KX : K.In h) (G : h.Ns mainGlobals mg) (c : He.SaysX fa fn [] tf exB w h K) (nd : (tf.map fun p => (He.cT K p).2).Nodup) (TB : ∀ p ∈ tf.map (He.cT K), GxR.TabB base mg p.1 p.2) : (WW K mg).mg "enumerate" = none := He.free_ok KX G (c.t.d.fact 33 (f := .free "enumerate"))
theorem ev_b_int {w : World} {h base : Heap} {K : PySem.W.Frag} {mg : Str → Option Value} (KX : K.In h) (G : h.Ns mainGlobals mg) (c : He.SaysX fa fn [] tf exB w h K) (nd : (tf.map fun p => (He.cT K p).2).Nodup) (TB : ∀ p ∈ tf.map (He.cT K), GxR.TabB base mg p.1 p.2) : (WW K mg).mg "int" = none := He.free_ok KX G (c.t.d.fact 34 (f := .free "int"))
theorem ev_b_isinstance {w : World} {h base : Heap} {K : PySem.W.Frag} {mg : Str → Option Value} (KX : K.In h) (G : h.Ns mainGlobals mg) (c : He.SaysX fa fn [] tf exB w h K) (nd : (tf.map fun p => (He.cT K p).2).Nodup) (TB : ∀ p ∈ tf.map (He.cT K), GxR.TabB base mg p.1 p.2) : (WW K mg).mg "isinstance" = none := He.free_ok KX G (c.t.d.fact 35 (f := .free "isinstance"))
theorem ev_b_len {w : World} {h base : Heap} {K : PySem.W.Frag} {mg : Str → Option Value} (KX : K.In h) (G : h.Ns mainGlobals mg) (c : He.SaysX fa fn [] tf exB w h K) (nd : (tf.map fun p => (He.cT K p).2).Nodup) (TB : ∀ p ∈ tf.map (He.cT K), GxR.TabB base mg p.1 p.2) : (WW K mg).mg "len" = none := He.free_ok KX G (c.t.d.fact 36 (f := .free "len"))
theorem ev_b_list {w : World} {h base : Heap} {K : PySem.W.Frag} {mg : Str → Option Value} (KX : K.In h) (G : h.Ns mainGlobals mg) (c : He.SaysX fa fn [] tf exB w h K) (nd : (tf.map fun p => (He.cT K p).2).Nodup) (TB : ∀ p ∈ tf.map (He.cT K), GxR.TabB base mg p.1 p.2) : (WW K mg).mg "list" = none := He.free_ok KX G (c.t.d.fact 37 (f := .free "list"))
theorem ev_b_max {w : World} {h base : Heap} {K : PySem.W.Frag} {mg : Str → Option Value} (KX : K.In h) (G : h.Ns mainGlobals mg) (c : He.SaysX fa fn [] tf exB w h K) (nd : (tf.map fun p => (He.cT K p).2).Nodup) (TB : ∀ p ∈ tf.map (He.cT K), GxR.TabB base mg p.1 p.2) : (WW K mg).mg "max" = none := He.free_ok KX G (c.t.d.fact 38 (f := .free "max"))
theorem ev_b_min {w : World} {h base : Heap} {K : PySem.W.Frag} {mg : Str → Option Value} (KX : K.In h) (G : h.Ns mainGlobals mg) (c : He.SaysX fa fn [] tf exB w h K) (nd : (tf.map fun p => (He.cT K p).2).Nodup) (TB : ∀ p ∈ tf.map (He.cT K), GxR.TabB base mg p.1 p.2) : (WW K mg).mg "min" = none := He.free_ok KX G (c.t.d.fact 39 (f := .free "min"))
theorem ev_b_range {w : World} {h base : Heap} {K : PySem.W.Frag} {mg : Str → Option Value} (KX : K.In h) (G : h.Ns mainGlobals mg) (c : He.SaysX fa fn [] tf exB w h K) (nd : (tf.map fun p => (He.cT K p).2).Nodup) (TB : ∀ p ∈ tf.map (He.cT K), GxR.TabB base mg p.1 p.2) : (WW K mg).mg "range" = none := He.free_ok KX G (c.t.d.fact 40 (f := .free "range"))
theorem ev_b_set {w : World} {h base : Heap} {K : PySem.W.Frag} {mg : Str → Option Value} (KX : K.In h) (G : h.Ns mainGlobals mg) (c : He.SaysX fa fn [] tf exB w h K) (nd : (tf.map fun p => (He.cT K p).2).Nodup) (TB : ∀ p ∈ tf.map (He.cT K), GxR.TabB base mg p.1 p.2) : (WW K mg).mg "set" = none := He.free_ok KX G (c.t.d.fact 41 (f := .free "set"))
theorem ev_b_sorted {w : World} {h base : Heap} {K : PySem.W.Frag} {mg : Str → Option Value} (KX : K.In h) (G : h.Ns mainGlobals mg) (c : He.SaysX fa fn [] tf exB w h K) (nd : (tf.map fun p => (He.cT K p).2).Nodup) (TB : ∀ p ∈ tf.map (He.cT K), GxR.TabB base mg p.1 p.2) : (WW K mg).mg "sorted" = none := He.free_ok KX G (c.t.d.fact 42 (f := .free "sorted"))
theorem ev_b_str {w : World} {h base : Heap} {K : PySem.W.Frag} {mg : Str → Option Value} (KX : K.In h) (G : h.Ns mainGlobals mg) (c : He.SaysX fa fn [] tf exB w h K) (nd : (tf.map fun p => (He.cT K p).2).Nodup) (TB : ∀ p ∈ tf.map (He.cT K), GxR.TabB base mg p.1 p.2) : (WW K mg).mg "str" = none := He.free_ok KX G (c.t.d.fact 43 (f := .free "str"))
theorem ev_b_sum {w : World} {h base : Heap} {K : PySem.W.Frag} {mg : Str → Option Value} (KX : K.In h) (G : h.Ns mainGlobals mg) (c : He.SaysX fa fn [] tf exB w h K) (nd : (tf.map fun p => (He.cT K p).2).Nodup) (TB : ∀ p ∈ tf.map (He.cT K), GxR.TabB base mg p.1 p.2) : (WW K mg).mg "sum" = none := He.free_ok KX G (c.t.d.fact 44 (f := .free "sum"))
theorem ev_b_tuple {w : World} {h base : Heap} {K : PySem.W.Frag} {mg : Str → Option Value} (KX : K.In h) (G : h.Ns mainGlobals mg) (c : He.SaysX fa fn [] tf exB w h K) (nd : (tf.map fun p => (He.cT K p).2).Nodup) (TB : ∀ p ∈ tf.map (He.cT K), GxR.TabB base mg p.1 p.2) : (WW K mg).mg "tuple" = none := He.free_ok KX G (c.t.d.fact 45 (f := .free "tuple"))
theorem ev_i_LAST_MOMENT {w : World} {h base : Heap} {K : PySem.W.Frag} {mg : Str → Option Value} (KX : K.In h) (G : h.Ns mainGlobals mg) (c : He.SaysX fa fn [] tf exB w h K) (nd : (tf.map fun p => (He.cT K p).2).Nodup) (TB : ∀ p ∈ tf.map (He.cT K), GxR.TabB base mg p.1 p.2) : ∃ t, (WW K mg).mg "LAST_MOMENT" = some (.int 1000000 t) := He.int_ok KX G (c.t.d.fact 28 (f := .int "LAST_MOMENT" 1000000))
theorem ev_g_is_ascending {w : World} {h base : Heap} {K : PySem.W.Frag} {mg : Str → Option Value} (KX : K.In h) (G : h.Ns mainGlobals mg) (c : He.SaysX fa fn [] tf exB w h K) (nd : (tf.map fun p => (He.cT K p).2).Nodup) (TB : ∀ p ∈ tf.map (He.cT K), GxR.TabB base mg p.1 p.2) : (WW K mg).mg "is_ascending" = some (.ref (He.fAd (WW K mg).K ("is_ascending", none))) := He.glo_ok KX G (c.t.d.fact 2 (f := .glo "is_ascending"))
theorem ev_a_is_ascending {w : World} {h base : Heap} {K : PySem.W.Frag} {mg : Str → Option Value} (KX : K.In h) (G : h.Ns mainGlobals mg) (c : He.SaysX fa fn [] tf exB w h K) (nd : (tf.map fun p => (He.cT K p).2).Nodup) (TB : ∀ p ∈ tf.map (He.cT K), GxR.TabB base mg p.1 p.2) : (WW K mg).fa J_is_ascending = some (He.fAd (WW K mg).K ("is_ascending", none)) := rfl
theorem ev_D_is_ascending {w : World} {h base : Heap} {K : PySem.W.Frag} {mg : Str → Option Value} (KX : K.In h) (G : h.Ns mainGlobals mg) (c : He.SaysX fa fn [] tf exB w h K) (nd : (tf.map fun p => (He.cT K p).2).Nodup) (TB : ∀ p ∈ tf.map (He.cT K), GxR.TabB base mg p.1 p.2) : ∃ fd, FunD (WW K mg).K "is_ascending" "is_ascending" (defArgs (top 4)) (defBody (top 4)) (defScope (top 4)) [] [] (He.fAd (WW K mg).K ("is_ascending", none)) fd := c.t.d.def_ 2 (d := D_is_ascending)
theorem ev_g_is_number {w : World} {h base : Heap} {K : PySem.W.Frag} {mg : Str → Option Value} (KX : K.In h) (G : h.Ns mainGlobals mg) (c : He.SaysX fa fn [] tf exB w h K) (nd : (tf.map fun p => (He.cT K p).2).Nodup) (TB : ∀ p ∈ tf.map (He.cT K), GxR.TabB base mg p.1 p.2) : (WW K mg).mg "is_number" = some (.ref (He.fAd (WW K mg).K ("is_number", none))) := He.glo_ok KX G (c.t.d.fact 0 (f := .glo "is_number"))
theorem ev_a_is_number {w : World} {h base : Heap} {K : PySem.W.Frag} {mg : Str → Option Value} (KX : K.In h) (G : h.Ns mainGlobals mg) (c : He.SaysX fa fn [] tf exB w h K) (nd : (tf.map fun p => (He.cT K p).2).Nodup) (TB : ∀ p ∈ tf.map (He.cT K), GxR.TabB base mg p.1 p.2) : (WW K mg).fa J_is_number = some (He.fAd (WW K mg).K ("is_number", none)) := rfl
theorem ev_D_is_number {w : World} {h base : Heap} {K : PySem.W.Frag} {mg : Str → Option Value} (KX : K.In h) (G : h.Ns mainGlobals mg) (c : He.SaysX fa fn [] tf exB w h K) (nd : (tf.map fun p => (He.cT K p).2).Nodup) (TB : ∀ p ∈ tf.map (He.cT K), GxR.TabB base mg p.1 p.2) : ∃ fd, FunD (WW K mg).K "is_number" "is_number" (defArgs (top 2)) (defBody (top 2)) (defScope (top 2)) [] [] (He.fAd (WW K mg).K ("is_number", none)) fd := c.t.d.def_ 0 (d := D_is_number)
theorem ev_g_are_numbers_of {w : World} {h base : Heap} {K : PySem.W.Frag} {mg : Str → Option Value} (KX : K.In h) (G : h.Ns mainGlobals mg) (c : He.SaysX fa fn [] tf exB w h K) (nd : (tf.map fun p => (He.cT K p).2).Nodup) (TB : ∀ p ∈ tf.map (He.cT K), GxR.TabB base mg p.1 p.2) : (WW K mg).mg "are_numbers_of" = some (.ref (He.fAd (WW K mg).K ("are_numbers_of", none))) := He.glo_ok KX G (c.t.d.fact 3 (f := .glo "are_numbers_of"))
theorem ev_a_are_numbers_of {w : World} {h base : Heap} {K : PySem.W.Frag} {mg : Str → Option Value} (KX : K.In h) (G : h.Ns mainGlobals mg) (c : He.SaysX fa fn [] tf exB w h K) (nd : (tf.map fun p => (He.cT K p).2).Nodup) (TB : ∀ p ∈ tf.map (He.cT K), GxR.TabB base mg p.1 p.2) : (WW K mg).fa J_are_numbers_of = some (He.fAd (WW K mg).K ("are_numbers_of", none)) := rfl
theorem ev_D_are_numbers_of {w : World} {h base : Heap} {K : PySem.W.Frag} {mg : Str → Option Value} (KX : K.In h) (G : h.Ns mainGlobals mg) (c : He.SaysX fa fn [] tf exB w h K) (nd : (tf.map fun p => (He.cT K p).2).Nodup) (TB : ∀ p ∈ tf.map (He.cT K), GxR.TabB base mg p.1 p.2) : ∃ fd, FunD (WW K mg).K "are_numbers_of" "are_numbers_of" (defArgs (top 6)) (defBody (top 6)) (defScope (top 6)) [] [] (He.fAd (WW K mg).K ("are_numbers_of", none)) fd := c.t.d.def_ 3 (d := D_are_numbers_of)
theorem ev_g_has_moment {w : World} {h base : Heap} {K : PySem.W.Frag} {mg : Str → Option Value} (KX : K.In h) (G : h.Ns mainGlobals mg) (c : He.SaysX fa fn [] tf exB w h K) (nd : (tf.map fun p => (He.cT K p).2).Nodup) (TB : ∀ p ∈ tf.map (He.cT K), GxR.TabB base mg p.1 p.2) : (WW K mg).mg "has_moment" = some (.ref (He.fAd (WW K mg).K ("has_moment", none))) := He.glo_ok KX G (c.t.d.fact 4 (f := .glo "has_moment"))
theorem ev_a_has_moment {w : World} {h base : Heap} {K : PySem.W.Frag} {mg : Str → Option Value} (KX : K.In h) (G : h.Ns mainGlobals mg) (c : He.SaysX fa fn [] tf exB w h K) (nd : (tf.map fun p => (He.cT K p).2).Nodup) (TB : ∀ p ∈ tf.map (He.cT K), GxR.TabB base mg p.1 p.2) : (WW K mg).fa J_has_moment = some (He.fAd (WW K mg).K ("has_moment", none)) := rfl
theorem ev_D_has_moment {w : World} {h base : Heap} {K : PySem.W.Frag} {mg : Str → Option Value} (KX : K.In h) (G : h.Ns mainGlobals mg) (c : He.SaysX fa fn [] tf exB w h K) (nd : (tf.map fun p => (He.cT K p).2).Nodup) (TB : ∀ p ∈ tf.map (He.cT K), GxR.TabB base mg p.1 p.2) : ∃ fd, FunD (WW K mg).K "has_moment" "has_moment" (defArgs (top 7)) (defBody (top 7)) (defScope (top 7)) [] [] (He.fAd (WW K mg).K ("has_moment", none)) fd := c.t.d.def_ 4 (d := D_has_moment)
theorem ev_g_present {w : World} {h base : Heap} {K : PySem.W.Frag} {mg : Str → Option Value} (KX : K.In h) (G : h.Ns mainGlobals mg) (c : He.SaysX fa fn [] tf exB w h K) (nd : (tf.map fun p => (He.cT K p).2).Nodup) (TB : ∀ p ∈ tf.map (He.cT K), GxR.TabB base mg p.1 p.2) : (WW K mg).mg "present" = some (.ref (He.fAd (WW K mg).K ("present", none))) := He.glo_ok KX G (c.t.d.fact 5 (f := .glo "present"))
theorem ev_a_present {w : World} {h base : Heap} {K : PySem.W.Frag} {mg : Str → Option Value} (KX : K.In h) (G : h.Ns mainGlobals mg) (c : He.SaysX fa fn [] tf exB w h K) (nd : (tf.map fun p => (He.cT K p).2).Nodup) (TB : ∀ p ∈ tf.map (He.cT K), GxR.TabB base mg p.1 p.2) : (WW K mg).fa J_present = some (He.fAd (WW K mg).K ("present", none)) := rfl
theorem ev_D_present {w : World} {h base : Heap} {K : PySem.W.Frag} {mg : Str → Option Value} (KX : K.In h) (G : h.Ns mainGlobals mg) (c : He.SaysX fa fn [] tf exB w h K) (nd : (tf.map fun p => (He.cT K p).2).Nodup) (TB : ∀ p ∈ tf.map (He.cT K), GxR.TabB base mg p.1 p.2) : ∃ fd, FunD (WW K mg).K "present" "present" (defArgs (top 8)) (defBody (top 8)) (defScope (top 8)) [] [] (He.fAd (WW K mg).K ("present", none)) fd := c.t.d.def_ 5 (d := D_present)
theorem ev_g_is_kept_set {w : World} {h base : Heap} {K : PySem.W.Frag} {mg : Str → Option Value} (KX : K.In h) (G : h.Ns mainGlobals mg) (c : He.SaysX fa fn [] tf exB w h K) (nd : (tf.map fun p => (He.cT K p).2).Nodup) (TB : ∀ p ∈ tf.map (He.cT K), GxR.TabB base mg p.1 p.2) : (WW K mg).mg "is_kept_set" = some (.ref (He.fAd (WW K mg).K ("is_kept_set", none))) := He.glo_ok KX G (c.t.d.fact 6 (f := .glo "is_kept_set"))
theorem ev_a_is_kept_set {w : World} {h base : Heap} {K : PySem.W.Frag} {mg : Str → Option Value} (KX : K.In h) (G : h.Ns mainGlobals mg) (c : He.SaysX fa fn [] tf exB w h K) (nd : (tf.map fun p => (He.cT K p).2).Nodup) (TB : ∀ p ∈ tf.map (He.cT K), GxR.TabB base mg p.1 p.2) : (WW K mg).fa J_is_kept_set = some (He.fAd (WW K mg).K ("is_kept_set", none)) := rfl
theorem ev_D_is_kept_set {w : World} {h base : Heap} {K : PySem.W.Frag} {mg : Str → Option Value} (KX : K.In h) (G : h.Ns mainGlobals mg) (c : He.SaysX fa fn [] tf exB w h K) (nd : (tf.map fun p => (He.cT K p).2).Nodup) (TB : ∀ p ∈ tf.map (He.cT K), GxR.TabB base mg p.1 p.2) : ∃ fd, FunD (WW K mg).K "is_kept_set" "is_kept_set" (defArgs (top 10)) (defBody (top 10)) (defScope (top 10)) [] [] (He.fAd (WW K mg).K ("is_kept_set", none)) fd := c.t.d.def_ 6 (d := D_is_kept_set)
theorem ev_g_is_moment {w : World} {h base : Heap} {K : PySem.W.Frag} {mg : Str → Option Value} (KX : K.In h) (G : h.Ns mainGlobals mg) (c : He.SaysX fa fn [] tf exB w h K) (nd : (tf.map fun p => (He.cT K p).2).Nodup) (TB : ∀ p ∈ tf.map (He.cT K), GxR.TabB base mg p.1 p.2) : (WW K mg).mg "is_moment" = some (.ref (He.fAd (WW K mg).K ("is_moment", none))) := He.glo_ok KX G (c.t.d.fact 1 (f := .glo "is_moment"))
theorem ev_a_is_moment {w : World} {h base : Heap} {K : PySem.W.Frag} {mg : Str → Option Value} (KX : K.In h) (G : h.Ns mainGlobals mg) (c : He.SaysX fa fn [] tf exB w h K) (nd : (tf.map fun p => (He.cT K p).2).Nodup) (TB : ∀ p ∈ tf.map (He.cT K), GxR.TabB base mg p.1 p.2) : (WW K mg).fa J_is_moment = some (He.fAd (WW K mg).K ("is_moment", none)) := rfl
theorem ev_D_is_moment {w : World} {h base : Heap} {K : PySem.W.Frag} {mg : Str → Option Value} (KX : K.In h) (G : h.Ns mainGlobals mg) (c : He.SaysX fa fn [] tf exB w h K) (nd : (tf.map fun p => (He.cT K p).2).Nodup) (TB : ∀ p ∈ tf.map (He.cT K), GxR.TabB base mg p.1 p.2) : ∃ fd, FunD (WW K mg).K "is_moment" "is_moment" (defArgs (top 3)) (defBody (top 3)) (defScope (top 3)) [] [] (He.fAd (WW K mg).K ("is_moment", none)) fd := c.t.d.def_ 1 (d := D_is_moment)
theorem ev_g_are_rents {w : World} {h base : Heap} {K : PySem.W.Frag} {mg : Str → Option Value} (KX : K.In h) (G : h.Ns mainGlobals mg) (c : He.SaysX fa fn [] tf exB w h K) (nd : (tf.map fun p => (He.cT K p).2).Nodup) (TB : ∀ p ∈ tf.map (He.cT K), GxR.TabB base mg p.1 p.2) : (WW K mg).mg "are_rents" = some (.ref (He.fAd (WW K mg).K ("are_rents", none))) := He.glo_ok KX G (c.t.d.fact 7 (f := .glo "are_rents"))
theorem ev_a_are_rents {w : World} {h base : Heap} {K : PySem.W.Frag} {mg : Str → Option Value} (KX : K.In h) (G : h.Ns mainGlobals mg) (c : He.SaysX fa fn [] tf exB w h K) (nd : (tf.map fun p => (He.cT K p).2).Nodup) (TB : ∀ p ∈ tf.map (He.cT K), GxR.TabB base mg p.1 p.2) : (WW K mg).fa J_are_rents = some (He.fAd (WW K mg).K ("are_rents", none)) := rfl
theorem ev_D_are_rents {w : World} {h base : Heap} {K : PySem.W.Frag} {mg : Str → Option Value} (KX : K.In h) (G : h.Ns mainGlobals mg) (c : He.SaysX fa fn [] tf exB w h K) (nd : (tf.map fun p => (He.cT K p).2).Nodup) (TB : ∀ p ∈ tf.map (He.cT K), GxR.TabB base mg p.1 p.2) : ∃ fd, FunD (WW K mg).K "are_rents" "are_rents" (defArgs (top 11)) (defBody (top 11)) (defScope (top 11)) [] [] (He.fAd (WW K mg).K ("are_rents", none)) fd := c.t.d.def_ 7 (d := D_are_rents)
theorem ev_g_rent_of {w : World} {h base : Heap} {K : PySem.W.Frag} {mg : Str → Option Value} (KX : K.In h) (G : h.Ns mainGlobals mg) (c : He.SaysX fa fn [] tf exB w h K) (nd : (tf.map fun p => (He.cT K p).2).Nodup) (TB : ∀ p ∈ tf.map (He.cT K), GxR.TabB base mg p.1 p.2) : (WW K mg).mg "rent_of" = some (.ref (He.fAd (WW K mg).K ("rent_of", none))) := He.glo_ok KX G (c.t.d.fact 8 (f := .glo "rent_of"))
theorem ev_a_rent_of {w : World} {h base : Heap} {K : PySem.W.Frag} {mg : Str → Option Value} (KX : K.In h) (G : h.Ns mainGlobals mg) (c : He.SaysX fa fn [] tf exB w h K) (nd : (tf.map fun p => (He.cT K p).2).Nodup) (TB : ∀ p ∈ tf.map (He.cT K), GxR.TabB base mg p.1 p.2) : (WW K mg).fa J_rent_of = some (He.fAd (WW K mg).K ("rent_of", none)) := rfl
theorem ev_D_rent_of {w : World} {h base : Heap} {K : PySem.W.Frag} {mg : Str → Option Value} (KX : K.In h) (G : h.Ns mainGlobals mg) (c : He.SaysX fa fn [] tf exB w h K) (nd : (tf.map fun p => (He.cT K p).2).Nodup) (TB : ∀ p ∈ tf.map (He.cT K), GxR.TabB base mg p.1 p.2) : ∃ fd, FunD (WW K mg).K "rent_of" "rent_of" (defArgs (top 12)) (defBody (top 12)) (defScope (top 12)) [] [] (He.fAd (WW K mg).K ("rent_of", none)) fd := c.t.d.def_ 8 (d := D_rent_of)
theorem ev_g_bound_of {w : World} {h base : Heap} {K : PySem.W.Frag} {mg : Str → Option Value} (KX : K.In h) (G : h.Ns mainGlobals mg) (c : He.SaysX fa fn [] tf exB w h K) (nd : (tf.map fun p => (He.cT K p).2).Nodup) (TB : ∀ p ∈ tf.map (He.cT K), GxR.TabB base mg p.1 p.2) : (WW K mg).mg "bound_of" = some (.ref (He.fAd (WW K mg).K ("bound_of", none))) := He.glo_ok KX G (c.t.d.fact 9 (f := .glo "bound_of"))
theorem ev_a_bound_of {w : World} {h base : Heap} {K : PySem.W.Frag} {mg : Str → Option Value} (KX : K.In h) (G : h.Ns mainGlobals mg) (c : He.SaysX fa fn [] tf exB w h K) (nd : (tf.map fun p => (He.cT K p).2).Nodup) (TB : ∀ p ∈ tf.map (He.cT K), GxR.TabB base mg p.1 p.2) : (WW K mg).fa J_bound_of = some (He.fAd (WW K mg).K ("bound_of", none)) := rfl
theorem ev_D_bound_of {w : World} {h base : Heap} {K : PySem.W.Frag} {mg : Str → Option Value} (KX : K.In h) (G : h.Ns mainGlobals mg) (c : He.SaysX fa fn [] tf exB w h K) (nd : (tf.map fun p => (He.cT K p).2).Nodup) (TB : ∀ p ∈ tf.map (He.cT K), GxR.TabB base mg p.1 p.2) : ∃ fd, FunD (WW K mg).K "bound_of" "bound_of" (defArgs (top 13)) (defBody (top 13)) (defScope (top 13)) [] [] (He.fAd (WW K mg).K ("bound_of", none)) fd := c.t.d.def_ 9 (d := D_bound_of)
theorem ev_g_road {w : World} {h base : Heap} {K : PySem.W.Frag} {mg : Str → Option Value} (KX : K.In h) (G : h.Ns mainGlobals mg) (c : He.SaysX fa fn [] tf exB w h K) (nd : (tf.map fun p => (He.cT K p).2).Nodup) (TB : ∀ p ∈ tf.map (He.cT K), GxR.TabB base mg p.1 p.2) : (WW K mg).mg "road" = some (.ref (He.fAd (WW K mg).K ("road", none))) := He.glo_ok KX G (c.t.d.fact 10 (f := .glo "road"))
theorem ev_a_road {w : World} {h base : Heap} {K : PySem.W.Frag} {mg : Str → Option Value} (KX : K.In h) (G : h.Ns mainGlobals mg) (c : He.SaysX fa fn [] tf exB w h K) (nd : (tf.map fun p => (He.cT K p).2).Nodup) (TB : ∀ p ∈ tf.map (He.cT K), GxR.TabB base mg p.1 p.2) : (WW K mg).fa J_road = some (He.fAd (WW K mg).K ("road", none)) := rfl
theorem ev_D_road {w : World} {h base : Heap} {K : PySem.W.Frag} {mg : Str → Option Value} (KX : K.In h) (G : h.Ns mainGlobals mg) (c : He.SaysX fa fn [] tf exB w h K) (nd : (tf.map fun p => (He.cT K p).2).Nodup) (TB : ∀ p ∈ tf.map (He.cT K), GxR.TabB base mg p.1 p.2) : ∃ fd, FunD (WW K mg).K "road" "road" (defArgs (top 14)) (defBody (top 14)) (defScope (top 14)) [] [] (He.fAd (WW K mg).K ("road", none)) fd := c.t.d.def_ 10 (d := D_road)
theorem ev_g_least_costs {w : World} {h base : Heap} {K : PySem.W.Frag} {mg : Str → Option Value} (KX : K.In h) (G : h.Ns mainGlobals mg) (c : He.SaysX fa fn [] tf exB w h K) (nd : (tf.map fun p => (He.cT K p).2).Nodup) (TB : ∀ p ∈ tf.map (He.cT K), GxR.TabB base mg p.1 p.2) : (WW K mg).mg "least_costs" = some (.ref (He.fAd (WW K mg).K ("least_costs", none))) := He.glo_ok KX G (c.t.d.fact 11 (f := .glo "least_costs"))
theorem ev_a_least_costs {w : World} {h base : Heap} {K : PySem.W.Frag} {mg : Str → Option Value} (KX : K.In h) (G : h.Ns mainGlobals mg) (c : He.SaysX fa fn [] tf exB w h K) (nd : (tf.map fun p => (He.cT K p).2).Nodup) (TB : ∀ p ∈ tf.map (He.cT K), GxR.TabB base mg p.1 p.2) : (WW K mg).fa J_least_costs = some (He.fAd (WW K mg).K ("least_costs", none)) := rfl
theorem ev_D_least_costs {w : World} {h base : Heap} {K : PySem.W.Frag} {mg : Str → Option Value} (KX : K.In h) (G : h.Ns mainGlobals mg) (c : He.SaysX fa fn [] tf exB w h K) (nd : (tf.map fun p => (He.cT K p).2).Nodup) (TB : ∀ p ∈ tf.map (He.cT K), GxR.TabB base mg p.1 p.2) : ∃ fd, FunD (WW K mg).K "least_costs" "least_costs" (defArgs (top 15)) (defBody (top 15)) (defScope (top 15)) [] [] (He.fAd (WW K mg).K ("least_costs", none)) fd := c.t.d.def_ 11 (d := D_least_costs)
theorem ev_g_send {w : World} {h base : Heap} {K : PySem.W.Frag} {mg : Str → Option Value} (KX : K.In h) (G : h.Ns mainGlobals mg) (c : He.SaysX fa fn [] tf exB w h K) (nd : (tf.map fun p => (He.cT K p).2).Nodup) (TB : ∀ p ∈ tf.map (He.cT K), GxR.TabB base mg p.1 p.2) : (WW K mg).mg "send" = some (.ref (He.fAd (WW K mg).K ("send", none))) := He.glo_ok KX G (c.t.d.fact 12 (f := .glo "send"))
theorem ev_a_send {w : World} {h base : Heap} {K : PySem.W.Frag} {mg : Str → Option Value} (KX : K.In h) (G : h.Ns mainGlobals mg) (c : He.SaysX fa fn [] tf exB w h K) (nd : (tf.map fun p => (He.cT K p).2).Nodup) (TB : ∀ p ∈ tf.map (He.cT K), GxR.TabB base mg p.1 p.2) : (WW K mg).fa J_send = some (He.fAd (WW K mg).K ("send", none)) := rfl
theorem ev_D_send {w : World} {h base : Heap} {K : PySem.W.Frag} {mg : Str → Option Value} (KX : K.In h) (G : h.Ns mainGlobals mg) (c : He.SaysX fa fn [] tf exB w h K) (nd : (tf.map fun p => (He.cT K p).2).Nodup) (TB : ∀ p ∈ tf.map (He.cT K), GxR.TabB base mg p.1 p.2) : ∃ fd, FunD (WW K mg).K "send" "send" (defArgs (top 16)) (defBody (top 16)) (defScope (top 16)) [] [] (He.fAd (WW K mg).K ("send", none)) fd := c.t.d.def_ 12 (d := D_send)
theorem ev_g_best_kept {w : World} {h base : Heap} {K : PySem.W.Frag} {mg : Str → Option Value} (KX : K.In h) (G : h.Ns mainGlobals mg) (c : He.SaysX fa fn [] tf exB w h K) (nd : (tf.map fun p => (He.cT K p).2).Nodup) (TB : ∀ p ∈ tf.map (He.cT K), GxR.TabB base mg p.1 p.2) : (WW K mg).mg "best_kept" = some (.ref (He.fAd (WW K mg).K ("best_kept", none))) := He.glo_ok KX G (c.t.d.fact 13 (f := .glo "best_kept"))
theorem ev_a_best_kept {w : World} {h base : Heap} {K : PySem.W.Frag} {mg : Str → Option Value} (KX : K.In h) (G : h.Ns mainGlobals mg) (c : He.SaysX fa fn [] tf exB w h K) (nd : (tf.map fun p => (He.cT K p).2).Nodup) (TB : ∀ p ∈ tf.map (He.cT K), GxR.TabB base mg p.1 p.2) : (WW K mg).fa J_best_kept = some (He.fAd (WW K mg).K ("best_kept", none)) := rfl
theorem ev_D_best_kept {w : World} {h base : Heap} {K : PySem.W.Frag} {mg : Str → Option Value} (KX : K.In h) (G : h.Ns mainGlobals mg) (c : He.SaysX fa fn [] tf exB w h K) (nd : (tf.map fun p => (He.cT K p).2).Nodup) (TB : ∀ p ∈ tf.map (He.cT K), GxR.TabB base mg p.1 p.2) : ∃ fd, FunD (WW K mg).K "best_kept" "best_kept" (defArgs (top 17)) (defBody (top 17)) (defScope (top 17)) [] [] (He.fAd (WW K mg).K ("best_kept", none)) fd := c.t.d.def_ 13 (d := D_best_kept)
theorem ev_g__law_box {w : World} {h base : Heap} {K : PySem.W.Frag} {mg : Str → Option Value} (KX : K.In h) (G : h.Ns mainGlobals mg) (c : He.SaysX fa fn [] tf exB w h K) (nd : (tf.map fun p => (He.cT K p).2).Nodup) (TB : ∀ p ∈ tf.map (He.cT K), GxR.TabB base mg p.1 p.2) : (WW K mg).mg "_law_box" = some (.ref (He.fAd (WW K mg).K ("_law_box", none))) := He.glo_ok KX G (c.t.d.fact 14 (f := .glo "_law_box"))
theorem ev_a__law_box {w : World} {h base : Heap} {K : PySem.W.Frag} {mg : Str → Option Value} (KX : K.In h) (G : h.Ns mainGlobals mg) (c : He.SaysX fa fn [] tf exB w h K) (nd : (tf.map fun p => (He.cT K p).2).Nodup) (TB : ∀ p ∈ tf.map (He.cT K), GxR.TabB base mg p.1 p.2) : (WW K mg).fa J__law_box = some (He.fAd (WW K mg).K ("_law_box", none)) := rfl
theorem ev_D__law_box {w : World} {h base : Heap} {K : PySem.W.Frag} {mg : Str → Option Value} (KX : K.In h) (G : h.Ns mainGlobals mg) (c : He.SaysX fa fn [] tf exB w h K) (nd : (tf.map fun p => (He.cT K p).2).Nodup) (TB : ∀ p ∈ tf.map (He.cT K), GxR.TabB base mg p.1 p.2) : ∃ fd, FunD (WW K mg).K "_law_box" "_law_box" (defArgs (top 19)) (defBody (top 19)) (defScope (top 19)) [] [] (He.fAd (WW K mg).K ("_law_box", none)) fd := c.t.d.def_ 14 (d := D__law_box)
theorem ev_g__law_load {w : World} {h base : Heap} {K : PySem.W.Frag} {mg : Str → Option Value} (KX : K.In h) (G : h.Ns mainGlobals mg) (c : He.SaysX fa fn [] tf exB w h K) (nd : (tf.map fun p => (He.cT K p).2).Nodup) (TB : ∀ p ∈ tf.map (He.cT K), GxR.TabB base mg p.1 p.2) : (WW K mg).mg "_law_load" = some (.ref (He.fAd (WW K mg).K ("_law_load", none))) := He.glo_ok KX G (c.t.d.fact 15 (f := .glo "_law_load"))
theorem ev_a__law_load {w : World} {h base : Heap} {K : PySem.W.Frag} {mg : Str → Option Value} (KX : K.In h) (G : h.Ns mainGlobals mg) (c : He.SaysX fa fn [] tf exB w h K) (nd : (tf.map fun p => (He.cT K p).2).Nodup) (TB : ∀ p ∈ tf.map (He.cT K), GxR.TabB base mg p.1 p.2) : (WW K mg).fa J__law_load = some (He.fAd (WW K mg).K ("_law_load", none)) := rfl
theorem ev_D__law_load {w : World} {h base : Heap} {K : PySem.W.Frag} {mg : Str → Option Value} (KX : K.In h) (G : h.Ns mainGlobals mg) (c : He.SaysX fa fn [] tf exB w h K) (nd : (tf.map fun p => (He.cT K p).2).Nodup) (TB : ∀ p ∈ tf.map (He.cT K), GxR.TabB base mg p.1 p.2) : ∃ fd, FunD (WW K mg).K "_law_load" "_law_load" (defArgs (top 20)) (defBody (top 20)) (defScope (top 20)) [] [] (He.fAd (WW K mg).K ("_law_load", none)) fd := c.t.d.def_ 15 (d := D__law_load)
theorem ev_g__law_draw {w : World} {h base : Heap} {K : PySem.W.Frag} {mg : Str → Option Value} (KX : K.In h) (G : h.Ns mainGlobals mg) (c : He.SaysX fa fn [] tf exB w h K) (nd : (tf.map fun p => (He.cT K p).2).Nodup) (TB : ∀ p ∈ tf.map (He.cT K), GxR.TabB base mg p.1 p.2) : (WW K mg).mg "_law_draw" = some (.ref (He.fAd (WW K mg).K ("_law_draw", none))) := He.glo_ok KX G (c.t.d.fact 16 (f := .glo "_law_draw"))
theorem ev_a__law_draw {w : World} {h base : Heap} {K : PySem.W.Frag} {mg : Str → Option Value} (KX : K.In h) (G : h.Ns mainGlobals mg) (c : He.SaysX fa fn [] tf exB w h K) (nd : (tf.map fun p => (He.cT K p).2).Nodup) (TB : ∀ p ∈ tf.map (He.cT K), GxR.TabB base mg p.1 p.2) : (WW K mg).fa J__law_draw = some (He.fAd (WW K mg).K ("_law_draw", none)) := rfl
theorem ev_D__law_draw {w : World} {h base : Heap} {K : PySem.W.Frag} {mg : Str → Option Value} (KX : K.In h) (G : h.Ns mainGlobals mg) (c : He.SaysX fa fn [] tf exB w h K) (nd : (tf.map fun p => (He.cT K p).2).Nodup) (TB : ∀ p ∈ tf.map (He.cT K), GxR.TabB base mg p.1 p.2) : ∃ fd, FunD (WW K mg).K "_law_draw" "_law_draw" (defArgs (top 21)) (defBody (top 21)) (defScope (top 21)) [] [] (He.fAd (WW K mg).K ("_law_draw", none)) fd := c.t.d.def_ 16 (d := D__law_draw)
theorem ev_g__law_same {w : World} {h base : Heap} {K : PySem.W.Frag} {mg : Str → Option Value} (KX : K.In h) (G : h.Ns mainGlobals mg) (c : He.SaysX fa fn [] tf exB w h K) (nd : (tf.map fun p => (He.cT K p).2).Nodup) (TB : ∀ p ∈ tf.map (He.cT K), GxR.TabB base mg p.1 p.2) : (WW K mg).mg "_law_same" = some (.ref (He.fAd (WW K mg).K ("_law_same", none))) := He.glo_ok KX G (c.t.d.fact 17 (f := .glo "_law_same"))
theorem ev_a__law_same {w : World} {h base : Heap} {K : PySem.W.Frag} {mg : Str → Option Value} (KX : K.In h) (G : h.Ns mainGlobals mg) (c : He.SaysX fa fn [] tf exB w h K) (nd : (tf.map fun p => (He.cT K p).2).Nodup) (TB : ∀ p ∈ tf.map (He.cT K), GxR.TabB base mg p.1 p.2) : (WW K mg).fa J__law_same = some (He.fAd (WW K mg).K ("_law_same", none)) := rfl
theorem ev_D__law_same {w : World} {h base : Heap} {K : PySem.W.Frag} {mg : Str → Option Value} (KX : K.In h) (G : h.Ns mainGlobals mg) (c : He.SaysX fa fn [] tf exB w h K) (nd : (tf.map fun p => (He.cT K p).2).Nodup) (TB : ∀ p ∈ tf.map (He.cT K), GxR.TabB base mg p.1 p.2) : ∃ fd, FunD (WW K mg).K "_law_same" "_law_same" (defArgs (top 22)) (defBody (top 22)) (defScope (top 22)) [] [] (He.fAd (WW K mg).K ("_law_same", none)) fd := c.t.d.def_ 17 (d := D__law_same)
theorem ev_g__law_stays {w : World} {h base : Heap} {K : PySem.W.Frag} {mg : Str → Option Value} (KX : K.In h) (G : h.Ns mainGlobals mg) (c : He.SaysX fa fn [] tf exB w h K) (nd : (tf.map fun p => (He.cT K p).2).Nodup) (TB : ∀ p ∈ tf.map (He.cT K), GxR.TabB base mg p.1 p.2) : (WW K mg).mg "_law_stays" = some (.ref (He.fAd (WW K mg).K ("_law_stays", none))) := He.glo_ok KX G (c.t.d.fact 18 (f := .glo "_law_stays"))
theorem ev_a__law_stays {w : World} {h base : Heap} {K : PySem.W.Frag} {mg : Str → Option Value} (KX : K.In h) (G : h.Ns mainGlobals mg) (c : He.SaysX fa fn [] tf exB w h K) (nd : (tf.map fun p => (He.cT K p).2).Nodup) (TB : ∀ p ∈ tf.map (He.cT K), GxR.TabB base mg p.1 p.2) : (WW K mg).fa J__law_stays = some (He.fAd (WW K mg).K ("_law_stays", none)) := rfl
theorem ev_D__law_stays {w : World} {h base : Heap} {K : PySem.W.Frag} {mg : Str → Option Value} (KX : K.In h) (G : h.Ns mainGlobals mg) (c : He.SaysX fa fn [] tf exB w h K) (nd : (tf.map fun p => (He.cT K p).2).Nodup) (TB : ∀ p ∈ tf.map (He.cT K), GxR.TabB base mg p.1 p.2) : ∃ fd, FunD (WW K mg).K "_law_stays" "_law_stays" (defArgs (top 23)) (defBody (top 23)) (defScope (top 23)) [] [] (He.fAd (WW K mg).K ("_law_stays", none)) fd := c.t.d.def_ 18 (d := D__law_stays)
theorem ev_g__law_bent {w : World} {h base : Heap} {K : PySem.W.Frag} {mg : Str → Option Value} (KX : K.In h) (G : h.Ns mainGlobals mg) (c : He.SaysX fa fn [] tf exB w h K) (nd : (tf.map fun p => (He.cT K p).2).Nodup) (TB : ∀ p ∈ tf.map (He.cT K), GxR.TabB base mg p.1 p.2) : (WW K mg).mg "_law_bent" = some (.ref (He.fAd (WW K mg).K ("_law_bent", none))) := He.glo_ok KX G (c.t.d.fact 21 (f := .glo "_law_bent"))
theorem ev_a__law_bent {w : World} {h base : Heap} {K : PySem.W.Frag} {mg : Str → Option Value} (KX : K.In h) (G : h.Ns mainGlobals mg) (c : He.SaysX fa fn [] tf exB w h K) (nd : (tf.map fun p => (He.cT K p).2).Nodup) (TB : ∀ p ∈ tf.map (He.cT K), GxR.TabB base mg p.1 p.2) : (WW K mg).fa J__law_bent = some (He.fAd (WW K mg).K ("_law_bent", none)) := rfl
theorem ev_D__law_bent {w : World} {h base : Heap} {K : PySem.W.Frag} {mg : Str → Option Value} (KX : K.In h) (G : h.Ns mainGlobals mg) (c : He.SaysX fa fn [] tf exB w h K) (nd : (tf.map fun p => (He.cT K p).2).Nodup) (TB : ∀ p ∈ tf.map (He.cT K), GxR.TabB base mg p.1 p.2) : ∃ fd, FunD (WW K mg).K "_law_bent" "_law_bent" (defArgs (top 26)) (defBody (top 26)) (defScope (top 26)) [] [] (He.fAd (WW K mg).K ("_law_bent", none)) fd := c.t.d.def_ 21 (d := D__law_bent)
theorem ev_g__law_present {w : World} {h base : Heap} {K : PySem.W.Frag} {mg : Str → Option Value} (KX : K.In h) (G : h.Ns mainGlobals mg) (c : He.SaysX fa fn [] tf exB w h K) (nd : (tf.map fun p => (He.cT K p).2).Nodup) (TB : ∀ p ∈ tf.map (He.cT K), GxR.TabB base mg p.1 p.2) : (WW K mg).mg "_law_present" = some (.ref (He.fAd (WW K mg).K ("_law_present", none))) := He.glo_ok KX G (c.t.d.fact 19 (f := .glo "_law_present"))
theorem ev_a__law_present {w : World} {h base : Heap} {K : PySem.W.Frag} {mg : Str → Option Value} (KX : K.In h) (G : h.Ns mainGlobals mg) (c : He.SaysX fa fn [] tf exB w h K) (nd : (tf.map fun p => (He.cT K p).2).Nodup) (TB : ∀ p ∈ tf.map (He.cT K), GxR.TabB base mg p.1 p.2) : (WW K mg).fa J__law_present = some (He.fAd (WW K mg).K ("_law_present", none)) := rfl
theorem ev_D__law_present {w : World} {h base : Heap} {K : PySem.W.Frag} {mg : Str → Option Value} (KX : K.In h) (G : h.Ns mainGlobals mg) (c : He.SaysX fa fn [] tf exB w h K) (nd : (tf.map fun p => (He.cT K p).2).Nodup) (TB : ∀ p ∈ tf.map (He.cT K), GxR.TabB base mg p.1 p.2) : ∃ fd, FunD (WW K mg).K "_law_present" "_law_present" (defArgs (top 24)) (defBody (top 24)) (defScope (top 24)) [] [] (He.fAd (WW K mg).K ("_law_present", none)) fd := c.t.d.def_ 19 (d := D__law_present)
theorem ev_g__law_numbers {w : World} {h base : Heap} {K : PySem.W.Frag} {mg : Str → Option Value} (KX : K.In h) (G : h.Ns mainGlobals mg) (c : He.SaysX fa fn [] tf exB w h K) (nd : (tf.map fun p => (He.cT K p).2).Nodup) (TB : ∀ p ∈ tf.map (He.cT K), GxR.TabB base mg p.1 p.2) : (WW K mg).mg "_law_numbers" = some (.ref (He.fAd (WW K mg).K ("_law_numbers", none))) := He.glo_ok KX G (c.t.d.fact 20 (f := .glo "_law_numbers"))
theorem ev_a__law_numbers {w : World} {h base : Heap} {K : PySem.W.Frag} {mg : Str → Option Value} (KX : K.In h) (G : h.Ns mainGlobals mg) (c : He.SaysX fa fn [] tf exB w h K) (nd : (tf.map fun p => (He.cT K p).2).Nodup) (TB : ∀ p ∈ tf.map (He.cT K), GxR.TabB base mg p.1 p.2) : (WW K mg).fa J__law_numbers = some (He.fAd (WW K mg).K ("_law_numbers", none)) := rfl
theorem ev_D__law_numbers {w : World} {h base : Heap} {K : PySem.W.Frag} {mg : Str → Option Value} (KX : K.In h) (G : h.Ns mainGlobals mg) (c : He.SaysX fa fn [] tf exB w h K) (nd : (tf.map fun p => (He.cT K p).2).Nodup) (TB : ∀ p ∈ tf.map (He.cT K), GxR.TabB base mg p.1 p.2) : ∃ fd, FunD (WW K mg).K "_law_numbers" "_law_numbers" (defArgs (top 25)) (defBody (top 25)) (defScope (top 25)) [] [] (He.fAd (WW K mg).K ("_law_numbers", none)) fd := c.t.d.def_ 20 (d := D__law_numbers)
theorem ev_g__law_kept {w : World} {h base : Heap} {K : PySem.W.Frag} {mg : Str → Option Value} (KX : K.In h) (G : h.Ns mainGlobals mg) (c : He.SaysX fa fn [] tf exB w h K) (nd : (tf.map fun p => (He.cT K p).2).Nodup) (TB : ∀ p ∈ tf.map (He.cT K), GxR.TabB base mg p.1 p.2) : (WW K mg).mg "_law_kept" = some (.ref (He.fAd (WW K mg).K ("_law_kept", none))) := He.glo_ok KX G (c.t.d.fact 22 (f := .glo "_law_kept"))
theorem ev_a__law_kept {w : World} {h base : Heap} {K : PySem.W.Frag} {mg : Str → Option Value} (KX : K.In h) (G : h.Ns mainGlobals mg) (c : He.SaysX fa fn [] tf exB w h K) (nd : (tf.map fun p => (He.cT K p).2).Nodup) (TB : ∀ p ∈ tf.map (He.cT K), GxR.TabB base mg p.1 p.2) : (WW K mg).fa J__law_kept = some (He.fAd (WW K mg).K ("_law_kept", none)) := rfl
theorem ev_D__law_kept {w : World} {h base : Heap} {K : PySem.W.Frag} {mg : Str → Option Value} (KX : K.In h) (G : h.Ns mainGlobals mg) (c : He.SaysX fa fn [] tf exB w h K) (nd : (tf.map fun p => (He.cT K p).2).Nodup) (TB : ∀ p ∈ tf.map (He.cT K), GxR.TabB base mg p.1 p.2) : ∃ fd, FunD (WW K mg).K "_law_kept" "_law_kept" (defArgs (top 27)) (defBody (top 27)) (defScope (top 27)) [] [] (He.fAd (WW K mg).K ("_law_kept", none)) fd := c.t.d.def_ 22 (d := D__law_kept)
theorem ev_g__law_rents {w : World} {h base : Heap} {K : PySem.W.Frag} {mg : Str → Option Value} (KX : K.In h) (G : h.Ns mainGlobals mg) (c : He.SaysX fa fn [] tf exB w h K) (nd : (tf.map fun p => (He.cT K p).2).Nodup) (TB : ∀ p ∈ tf.map (He.cT K), GxR.TabB base mg p.1 p.2) : (WW K mg).mg "_law_rents" = some (.ref (He.fAd (WW K mg).K ("_law_rents", none))) := He.glo_ok KX G (c.t.d.fact 23 (f := .glo "_law_rents"))
theorem ev_a__law_rents {w : World} {h base : Heap} {K : PySem.W.Frag} {mg : Str → Option Value} (KX : K.In h) (G : h.Ns mainGlobals mg) (c : He.SaysX fa fn [] tf exB w h K) (nd : (tf.map fun p => (He.cT K p).2).Nodup) (TB : ∀ p ∈ tf.map (He.cT K), GxR.TabB base mg p.1 p.2) : (WW K mg).fa J__law_rents = some (He.fAd (WW K mg).K ("_law_rents", none)) := rfl
theorem ev_D__law_rents {w : World} {h base : Heap} {K : PySem.W.Frag} {mg : Str → Option Value} (KX : K.In h) (G : h.Ns mainGlobals mg) (c : He.SaysX fa fn [] tf exB w h K) (nd : (tf.map fun p => (He.cT K p).2).Nodup) (TB : ∀ p ∈ tf.map (He.cT K), GxR.TabB base mg p.1 p.2) : ∃ fd, FunD (WW K mg).K "_law_rents" "_law_rents" (defArgs (top 28)) (defBody (top 28)) (defScope (top 28)) [] [] (He.fAd (WW K mg).K ("_law_rents", none)) fd := c.t.d.def_ 23 (d := D__law_rents)
theorem ev_g__law_bound {w : World} {h base : Heap} {K : PySem.W.Frag} {mg : Str → Option Value} (KX : K.In h) (G : h.Ns mainGlobals mg) (c : He.SaysX fa fn [] tf exB w h K) (nd : (tf.map fun p => (He.cT K p).2).Nodup) (TB : ∀ p ∈ tf.map (He.cT K), GxR.TabB base mg p.1 p.2) : (WW K mg).mg "_law_bound" = some (.ref (He.fAd (WW K mg).K ("_law_bound", none))) := He.glo_ok KX G (c.t.d.fact 24 (f := .glo "_law_bound"))
theorem ev_a__law_bound {w : World} {h base : Heap} {K : PySem.W.Frag} {mg : Str → Option Value} (KX : K.In h) (G : h.Ns mainGlobals mg) (c : He.SaysX fa fn [] tf exB w h K) (nd : (tf.map fun p => (He.cT K p).2).Nodup) (TB : ∀ p ∈ tf.map (He.cT K), GxR.TabB base mg p.1 p.2) : (WW K mg).fa J__law_bound = some (He.fAd (WW K mg).K ("_law_bound", none)) := rfl
theorem ev_D__law_bound {w : World} {h base : Heap} {K : PySem.W.Frag} {mg : Str → Option Value} (KX : K.In h) (G : h.Ns mainGlobals mg) (c : He.SaysX fa fn [] tf exB w h K) (nd : (tf.map fun p => (He.cT K p).2).Nodup) (TB : ∀ p ∈ tf.map (He.cT K), GxR.TabB base mg p.1 p.2) : ∃ fd, FunD (WW K mg).K "_law_bound" "_law_bound" (defArgs (top 29)) (defBody (top 29)) (defScope (top 29)) [] [] (He.fAd (WW K mg).K ("_law_bound", none)) fd := c.t.d.def_ 24 (d := D__law_bound)
theorem ev_g__law_greatest {w : World} {h base : Heap} {K : PySem.W.Frag} {mg : Str → Option Value} (KX : K.In h) (G : h.Ns mainGlobals mg) (c : He.SaysX fa fn [] tf exB w h K) (nd : (tf.map fun p => (He.cT K p).2).Nodup) (TB : ∀ p ∈ tf.map (He.cT K), GxR.TabB base mg p.1 p.2) : (WW K mg).mg "_law_greatest" = some (.ref (He.fAd (WW K mg).K ("_law_greatest", none))) := He.glo_ok KX G (c.t.d.fact 25 (f := .glo "_law_greatest"))
theorem ev_a__law_greatest {w : World} {h base : Heap} {K : PySem.W.Frag} {mg : Str → Option Value} (KX : K.In h) (G : h.Ns mainGlobals mg) (c : He.SaysX fa fn [] tf exB w h K) (nd : (tf.map fun p => (He.cT K p).2).Nodup) (TB : ∀ p ∈ tf.map (He.cT K), GxR.TabB base mg p.1 p.2) : (WW K mg).fa J__law_greatest = some (He.fAd (WW K mg).K ("_law_greatest", none)) := rfl
theorem ev_D__law_greatest {w : World} {h base : Heap} {K : PySem.W.Frag} {mg : Str → Option Value} (KX : K.In h) (G : h.Ns mainGlobals mg) (c : He.SaysX fa fn [] tf exB w h K) (nd : (tf.map fun p => (He.cT K p).2).Nodup) (TB : ∀ p ∈ tf.map (He.cT K), GxR.TabB base mg p.1 p.2) : ∃ fd, FunD (WW K mg).K "_law_greatest" "_law_greatest" (defArgs (top 30)) (defBody (top 30)) (defScope (top 30)) [] [] (He.fAd (WW K mg).K ("_law_greatest", none)) fd := c.t.d.def_ 25 (d := D__law_greatest)
theorem ev_g__law_some {w : World} {h base : Heap} {K : PySem.W.Frag} {mg : Str → Option Value} (KX : K.In h) (G : h.Ns mainGlobals mg) (c : He.SaysX fa fn [] tf exB w h K) (nd : (tf.map fun p => (He.cT K p).2).Nodup) (TB : ∀ p ∈ tf.map (He.cT K), GxR.TabB base mg p.1 p.2) : (WW K mg).mg "_law_some" = some (.ref (He.fAd (WW K mg).K ("_law_some", none))) := He.glo_ok KX G (c.t.d.fact 26 (f := .glo "_law_some"))
theorem ev_a__law_some {w : World} {h base : Heap} {K : PySem.W.Frag} {mg : Str → Option Value} (KX : K.In h) (G : h.Ns mainGlobals mg) (c : He.SaysX fa fn [] tf exB w h K) (nd : (tf.map fun p => (He.cT K p).2).Nodup) (TB : ∀ p ∈ tf.map (He.cT K), GxR.TabB base mg p.1 p.2) : (WW K mg).fa J__law_some = some (He.fAd (WW K mg).K ("_law_some", none)) := rfl
theorem ev_D__law_some {w : World} {h base : Heap} {K : PySem.W.Frag} {mg : Str → Option Value} (KX : K.In h) (G : h.Ns mainGlobals mg) (c : He.SaysX fa fn [] tf exB w h K) (nd : (tf.map fun p => (He.cT K p).2).Nodup) (TB : ∀ p ∈ tf.map (He.cT K), GxR.TabB base mg p.1 p.2) : ∃ fd, FunD (WW K mg).K "_law_some" "_law_some" (defArgs (top 31)) (defBody (top 31)) (defScope (top 31)) [] [] (He.fAd (WW K mg).K ("_law_some", none)) fd := c.t.d.def_ 26 (d := D__law_some)
theorem ev_g_law {w : World} {h base : Heap} {K : PySem.W.Frag} {mg : Str → Option Value} (KX : K.In h) (G : h.Ns mainGlobals mg) (c : He.SaysX fa fn [] tf exB w h K) (nd : (tf.map fun p => (He.cT K p).2).Nodup) (TB : ∀ p ∈ tf.map (He.cT K), GxR.TabB base mg p.1 p.2) : (WW K mg).mg "law" = some (.ref (He.fAd (WW K mg).K ("law", none))) := He.glo_ok KX G (c.t.d.fact 27 (f := .glo "law"))
theorem ev_a_law {w : World} {h base : Heap} {K : PySem.W.Frag} {mg : Str → Option Value} (KX : K.In h) (G : h.Ns mainGlobals mg) (c : He.SaysX fa fn [] tf exB w h K) (nd : (tf.map fun p => (He.cT K p).2).Nodup) (TB : ∀ p ∈ tf.map (He.cT K), GxR.TabB base mg p.1 p.2) : (WW K mg).fa J_law = some (He.fAd (WW K mg).K ("law", none)) := rfl
theorem ev_D_law {w : World} {h base : Heap} {K : PySem.W.Frag} {mg : Str → Option Value} (KX : K.In h) (G : h.Ns mainGlobals mg) (c : He.SaysX fa fn [] tf exB w h K) (nd : (tf.map fun p => (He.cT K p).2).Nodup) (TB : ∀ p ∈ tf.map (He.cT K), GxR.TabB base mg p.1 p.2) : ∃ fd, FunD (WW K mg).K "law" "law" (defArgs (top 32)) (defBody (top 32)) (defScope (top 32)) [] [] (He.fAd (WW K mg).K ("law", none)) fd := c.t.d.def_ 27 (d := D_law)
theorem ev_T_is_ascending {w : World} {h base : Heap} {K : PySem.W.Frag} {mg : Str → Option Value} (KX : K.In h) (G : h.Ns mainGlobals mg) (c : He.SaysX fa fn [] tf exB w h K) (nd : (tf.map fun p => (He.cT K p).2).Nodup) (TB : ∀ p ∈ tf.map (He.cT K), GxR.TabB base mg p.1 p.2) : GxR.TabB base (WW K mg).mg (He.cT (WW K mg).K ("is_ascending", none)).1 (He.cT (WW K mg).K ("is_ascending", none)).2 := TB _ (List.mem_map.mpr ⟨("is_ascending", none), (.head _), rfl⟩)
theorem ev_p_is_ascending {w : World} {h base : Heap} {K : PySem.W.Frag} {mg : Str → Option Value} (KX : K.In h) (G : h.Ns mainGlobals mg) (c : He.SaysX fa fn [] tf exB w h K) (nd : (tf.map fun p => (He.cT K p).2).Nodup) (TB : ∀ p ∈ tf.map (He.cT K), GxR.TabB base mg p.1 p.2) : (He.cT (WW K mg).K ("is_ascending", none)).2 ∈ (WW K mg).tb := (.head _)
theorem ev_q_is_ascending {w : World} {h base : Heap} {K : PySem.W.Frag} {mg : Str → Option Value} (KX : K.In h) (G : h.Ns mainGlobals mg) (c : He.SaysX fa fn [] tf exB w h K) (nd : (tf.map fun p => (He.cT K p).2).Nodup) (TB : ∀ p ∈ tf.map (He.cT K), GxR.TabB base mg p.1 p.2) : ∀ p ∈ (WW K mg).tl, p.1 ≠ (He.cT (WW K mg).K ("is_ascending", none)).2 := fun p h => nomatch h
theorem ev_T_are_numbers_of {w : World} {h base : Heap} {K : PySem.W.Frag} {mg : Str → Option Value} (KX : K.In h) (G : h.Ns mainGlobals mg) (c : He.SaysX fa fn [] tf exB w h K) (nd : (tf.map fun p => (He.cT K p).2).Nodup) (TB : ∀ p ∈ tf.map (He.cT K), GxR.TabB base mg p.1 p.2) : GxR.TabB base (WW K mg).mg (He.cT (WW K mg).K ("are_numbers_of", none)).1 (He.cT (WW K mg).K ("are_numbers_of", none)).2 := TB _ (List.mem_map.mpr ⟨("are_numbers_of", none), (.tail _ (.head _)), rfl⟩)
theorem ev_p_are_numbers_of {w : World} {h base : Heap} {K : PySem.W.Frag} {mg : Str → Option Value} (KX : K.In h) (G : h.Ns mainGlobals mg) (c : He.SaysX fa fn [] tf exB w h K) (nd : (tf.map fun p => (He.cT K p).2).Nodup) (TB : ∀ p ∈ tf.map (He.cT K), GxR.TabB base mg p.1 p.2) : (He.cT (WW K mg).K ("are_numbers_of", none)).2 ∈ (WW K mg).tb := (.tail _ (.head _))
theorem ev_q_are_numbers_of {w : World} {h base : Heap} {K : PySem.W.Frag} {mg : Str → Option Value} (KX : K.In h) (G : h.Ns mainGlobals mg) (c : He.SaysX fa fn [] tf exB w h K) (nd : (tf.map fun p => (He.cT K p).2).Nodup) (TB : ∀ p ∈ tf.map (He.cT K), GxR.TabB base mg p.1 p.2) : ∀ p ∈ (WW K mg).tl, p.1 ≠ (He.cT (WW K mg).K ("are_numbers_of", none)).2 := fun p h => nomatch h
theorem ev_T_is_kept_set {w : World} {h base : Heap} {K : PySem.W.Frag} {mg : Str → Option Value} (KX : K.In h) (G : h.Ns mainGlobals mg) (c : He.SaysX fa fn [] tf exB w h K) (nd : (tf.map fun p => (He.cT K p).2).Nodup) (TB : ∀ p ∈ tf.map (He.cT K), GxR.TabB base mg p.1 p.2) : GxR.TabB base (WW K mg).mg (He.cT (WW K mg).K ("is_kept_set", none)).1 (He.cT (WW K mg).K ("is_kept_set", none)).2 := TB _ (List.mem_map.mpr ⟨("is_kept_set", none), (.tail _ (.tail _ (.head _))), rfl⟩)
theorem ev_p_is_kept_set {w : World} {h base : Heap} {K : PySem.W.Frag} {mg : Str → Option Value} (KX : K.In h) (G : h.Ns mainGlobals mg) (c : He.SaysX fa fn [] tf exB w h K) (nd : (tf.map fun p => (He.cT K p).2).Nodup) (TB : ∀ p ∈ tf.map (He.cT K), GxR.TabB base mg p.1 p.2) : (He.cT (WW K mg).K ("is_kept_set", none)).2 ∈ (WW K mg).tb := (.tail _ (.tail _ (.head _)))
theorem ev_q_is_kept_set {w : World} {h base : Heap} {K : PySem.W.Frag} {mg : Str → Option Value} (KX : K.In h) (G : h.Ns mainGlobals mg) (c : He.SaysX fa fn [] tf exB w h K) (nd : (tf.map fun p => (He.cT K p).2).Nodup) (TB : ∀ p ∈ tf.map (He.cT K), GxR.TabB base mg p.1 p.2) : ∀ p ∈ (WW K mg).tl, p.1 ≠ (He.cT (WW K mg).K ("is_kept_set", none)).2 := fun p h => nomatch h
theorem ev_ok {w : World} {h base : Heap} {K : PySem.W.Frag} {mg : Str → Option Value} (KX : K.In h) (G : h.Ns mainGlobals mg) (c : He.SaysX fa fn [] tf exB w h K) (nd : (tf.map fun p => (He.cT K p).2).Nodup) (TB : ∀ p ∈ tf.map (He.cT K), GxR.TabB base mg p.1 p.2) : Ev (WW K mg) base :=
  ⟨ev_cx KX G c nd TB, ev_b_all KX G c nd TB, ev_b_any KX G c nd TB, ev_b_bool KX G c nd TB, ev_b_dict KX G c nd TB, ev_b_enumerate KX G c nd TB, ev_b_int KX G c nd TB, ev_b_isinstance KX G c nd TB, ev_b_len KX G c nd TB, ev_b_list KX G c nd TB, ev_b_max KX G c nd TB, ev_b_min KX G c nd TB, ev_b_range KX G c nd TB, ev_b_set KX G c nd TB, ev_b_sorted KX G c nd TB, ev_b_str KX G c nd TB, ev_b_sum KX G c nd TB, ev_b_tuple KX G c nd TB, ev_i_LAST_MOMENT KX G c nd TB, ev_g_is_ascending KX G c nd TB, ev_a_is_ascending KX G c nd TB, ev_D_is_ascending KX G c nd TB, ev_g_is_number KX G c nd TB, ev_a_is_number KX G c nd TB, ev_D_is_number KX G c nd TB, ev_g_are_numbers_of KX G c nd TB, ev_a_are_numbers_of KX G c nd TB, ev_D_are_numbers_of KX G c nd TB, ev_g_has_moment KX G c nd TB, ev_a_has_moment KX G c nd TB, ev_D_has_moment KX G c nd TB, ev_g_present KX G c nd TB, ev_a_present KX G c nd TB, ev_D_present KX G c nd TB, ev_g_is_kept_set KX G c nd TB, ev_a_is_kept_set KX G c nd TB, ev_D_is_kept_set KX G c nd TB, ev_g_is_moment KX G c nd TB, ev_a_is_moment KX G c nd TB, ev_D_is_moment KX G c nd TB, ev_g_are_rents KX G c nd TB, ev_a_are_rents KX G c nd TB, ev_D_are_rents KX G c nd TB, ev_g_rent_of KX G c nd TB, ev_a_rent_of KX G c nd TB, ev_D_rent_of KX G c nd TB, ev_g_bound_of KX G c nd TB, ev_a_bound_of KX G c nd TB, ev_D_bound_of KX G c nd TB, ev_g_road KX G c nd TB, ev_a_road KX G c nd TB, ev_D_road KX G c nd TB, ev_g_least_costs KX G c nd TB, ev_a_least_costs KX G c nd TB, ev_D_least_costs KX G c nd TB, ev_g_send KX G c nd TB, ev_a_send KX G c nd TB, ev_D_send KX G c nd TB, ev_g_best_kept KX G c nd TB, ev_a_best_kept KX G c nd TB, ev_D_best_kept KX G c nd TB, ev_g__law_box KX G c nd TB, ev_a__law_box KX G c nd TB, ev_D__law_box KX G c nd TB, ev_g__law_load KX G c nd TB, ev_a__law_load KX G c nd TB, ev_D__law_load KX G c nd TB, ev_g__law_draw KX G c nd TB, ev_a__law_draw KX G c nd TB, ev_D__law_draw KX G c nd TB, ev_g__law_same KX G c nd TB, ev_a__law_same KX G c nd TB, ev_D__law_same KX G c nd TB, ev_g__law_stays KX G c nd TB, ev_a__law_stays KX G c nd TB, ev_D__law_stays KX G c nd TB, ev_g__law_bent KX G c nd TB, ev_a__law_bent KX G c nd TB, ev_D__law_bent KX G c nd TB, ev_g__law_present KX G c nd TB, ev_a__law_present KX G c nd TB, ev_D__law_present KX G c nd TB, ev_g__law_numbers KX G c nd TB, ev_a__law_numbers KX G c nd TB, ev_D__law_numbers KX G c nd TB, ev_g__law_kept KX G c nd TB, ev_a__law_kept KX G c nd TB, ev_D__law_kept KX G c nd TB, ev_g__law_rents KX G c nd TB, ev_a__law_rents KX G c nd TB, ev_D__law_rents KX G c nd TB, ev_g__law_bound KX G c nd TB, ev_a__law_bound KX G c nd TB, ev_D__law_bound KX G c nd TB, ev_g__law_greatest KX G c nd TB, ev_a__law_greatest KX G c nd TB, ev_D__law_greatest KX G c nd TB, ev_g__law_some KX G c nd TB, ev_a__law_some KX G c nd TB, ev_D__law_some KX G c nd TB, ev_g_law KX G c nd TB, ev_a_law KX G c nd TB, ev_D_law KX G c nd TB, ev_T_is_ascending KX G c nd TB, ev_p_is_ascending KX G c nd TB, ev_q_is_ascending KX G c nd TB, ev_T_are_numbers_of KX G c nd TB, ev_p_are_numbers_of KX G c nd TB, ev_q_are_numbers_of KX G c nd TB, ev_T_is_kept_set KX G c nd TB, ev_p_is_kept_set KX G c nd TB, ev_q_is_kept_set KX G c nd TB⟩
theorem fn_law {P : Program} {w : World} {W : Wd} {base : Heap} {fd : FuncData} (V : Ev W base) (F : FunD W.K "law" "law" (defArgs (top 32)) (defBody (top 32)) (defScope (top 32)) [] [] (He.fAd W.K ("law", none)) fd) : FnOk P w W.K W.mg base W.cx 10 (He.fAd W.K ("law", none)) fd ["script"] (spF W 1 S_law) :=
  fnOk_of V.cx F sc_law (body_law V (ok__law_box V) (ok__law_draw V) (ok__law_stays V) (ok_best_kept V) (ok__law_kept V) (ok__law_rents V) (ok__law_bound V) (ok__law_greatest V) (ok__law_bent V) (ok__law_same V) (ok_is_kept_set V) (ok__law_some V) (ok_are_rents V) (ok_bound_of V))
end K50
open PySem PySem.W PySem.Calls PyProof.Rows
theorem K50.walk : WalkO (view (OpenLaw.row PySem.Challenge.rw_backtohand_k50_whole_worths_and_rents).prog [32]) K50.names (XL (view (OpenLaw.row PySem.Challenge.rw_backtohand_k50_whole_worths_and_rents).prog [32]) []) K50.hk.says (OpenLaw.row PySem.Challenge.rw_backtohand_k50_whole_worths_and_rents).toRowW (HandSHeadRun.topDef (OpenLaw.row PySem.Challenge.rw_backtohand_k50_whole_worths_and_rents).prog 32) [] fun f vs => PySem.call f vs := by
    refine LamX.walk_ofTsE (l := PySem.Challenge.rw_backtohand_k50_whole_worths_and_rents) (n := 63) (k := 10) (x := "script") (CX := fun _ => L2.CX0) rfl (by decide) rfl ⟨rfl, by decide, by decide⟩ (fun w mg fa h Y G hm => ?_) fun w H s e s' z => z
    obtain ⟨K, KX, c⟩ := Y
    have nd : (K50.tf.map fun p => (He.cT K p).2).Nodup := of_decide_eq_true c.more
    have e1 : mg "law" = some (.ref (He.fAd K ("law", none))) := He.glo_ok KX G (c.t.d.fact 27 (f := .glo "law"))
    obtain rfl : fa = He.fAd K ("law", none) := by
      rw [show (HandSHeadRun.topDef (OpenLaw.row PySem.Challenge.rw_backtohand_k50_whole_worths_and_rents).prog 32).name = "law" from rfl, e1] at hm
      injection hm with z
      injection z with z
      exact z.symm
    obtain ⟨fd, F⟩ := c.t.d.def_ 27 (d := K50.D_law)
    refine ⟨K, KX, PD.lawAtS_of (W := K50.WW K mg) (F := K50.S_law) (cs := K50.tf.map (He.cT K)) (fun p hp => ?_) (fun p hp => ?_) (fun p hp => ?_) F (fun _ _ _ _ _ _ us hl => match us, hl with | [_], _ => rfl) (fun P hP => ?_) (fun q hq => ?_) (by decide) (fun p ns st h1 h2 => K50.law_ok h1 h2) fun base _ hg TB => K50.fn_law (K50.ev_ok KX G c nd TB) F⟩
    · obtain ⟨x, hx, rfl⟩ := List.mem_map.mp hp
      exact c.empty x hx
    · obtain ⟨x, hx, rfl⟩ := List.mem_map.mp hp
      exact c.out x hx
    · obtain ⟨x, hx, rfl⟩ := List.mem_map.mp hp
      exact codeHd_of_K KX (c.hd x hx)
    · exact (List.mem_cons.mp hP).elim (fun e => ⟨_, List.mem_map.mpr ⟨("is_ascending", none), (.head _), rfl⟩, e.symm⟩) fun hP => (List.mem_cons.mp hP).elim (fun e => ⟨_, List.mem_map.mpr ⟨("are_numbers_of", none), (.tail _ (.head _)), rfl⟩, e.symm⟩) fun hP => (List.mem_cons.mp hP).elim (fun e => ⟨_, List.mem_map.mpr ⟨("is_kept_set", none), (.tail _ (.tail _ (.head _))), rfl⟩, e.symm⟩) fun hP => nomatch hP
    · exact nomatch hq
theorem PySem.Challenge.cw_backtohand_k50_whole_worths_and_rents_holds : PySem.Challenge.rw_backtohand_k50_whole_worths_and_rents.Holds := by
  w_on; o_law
  refine HandSHeadRun.head_any (r := OpenLaw.row PySem.Challenge.rw_backtohand_k50_whole_worths_and_rents) (q := view (OpenLaw.row PySem.Challenge.rw_backtohand_k50_whole_worths_and_rents).prog [32]) (H := K50.hk) (ob := K50.ob) (M := 4000) (loose := K50.names) (d := HandSHeadRun.topDef (OpenLaw.row PySem.Challenge.rw_backtohand_k50_whole_worths_and_rents).prog 32) (kwd := []) K50.ob_eq
    (by kernel_rfl) (fun s => by kernel_rfl) K50.run (by kernel_rfl) (by kernel_rfl) (by kernel_rfl) (by rfl) (by first | assumption | decide +kernel) (by decide +kernel) ⟨rfl, rfl, rfl, rfl, rfl, by decide +kernel⟩ ?hw ?hc
  case hw => w_witness2
  case hc => exact K50.walk
