import PyProof.Rows.All
import Wide.All
import OpenK.AllK
import Wide.FinOn
import HandS.ForMost
import HandS.Walk
import HandS.AnyAll
import HandS.Lambda
import HandS.TupAny
import HandS.Style
import HandS.TupMul
import HandS.IsInst
import HandS.Wide
import KE.DataEq
import KE.DataCmp
import HandS.Codes
import HandS.Defaults
import HandS.CallLocal
import HandS.HeadHook4
import HandS.HeadWalk
import HandS.GenOver
import HandS.Conv
import KE.DataMinMax
import KE.SortKeyHeap
import KE.KSortKey
import KE.KLam
import HandS.Head0
import HandS.Head1
import HandS.Head2
import HandS.HeadEnd
import HandS.HeadHook1
import HandS.HeadHook2
import HandS.HeadHook3
import HandS.EndTab
import PySem.Challenge.RW_backtohand_k48_whole_stays_and_shelves
set_option Elab.async false
set_option linter.all false
set_option maxRecDepth 100000
set_option maxHeartbeats 4000000
set_option autoImplicit false
/-! PD: pure denotations over the layer. -/
namespace PD
open PySem PySem.Spec PyProof.Rows L2

/-- a Python value: tuples as such, what can change by its place in the store -/
inductive PV where
  | non | bl (b : Bool) | int (i : Int) | str (s : Str) | tup (l : List PV) | loc (n : Nat) | fn (j : Nat) | kl (ns : List Int)
/-- what can change -/
inductive Ob where
  | lst (lk : Bool) (l : List PV)
  | dct (lk : Bool) (kvs : List (PV × PV))
  | sti (l : List Int)
abbrev Sto := List Ob
inductive Res (α : Type) where
  | ok (a : α) (st : Sto) | exc (c : Nat) (st : Sto) | stuck
abbrev Mo (α : Type) := Sto → Res α
def ret {α : Type} (a : α) : Mo α := fun st => .ok a st
def bnd {α β : Type} (m : Mo α) (f : α → Mo β) : Mo β := fun st => match m st with
  | .ok a st' => f a st'
  | .exc c st' => .exc c st'
  | .stuck => .stuck
def fail {α : Type} : Mo α := fun _ => .stuck
abbrev Env := List (Option PV)

/-- what is fixed through a law -/
structure Wd where
  K : PySem.W.Frag
  mg : Str → Option Value
  cx : CXT
  fa : Nat → Option Addr
  xc : Nat → Value
  tb : List Addr
  tl : List (Addr × Str)

mutual
inductive RV (W : Wd) (ι : List Addr) (H : Hp) : V → PV → Prop
  | non : RV W ι H .non .non
  | bl (b : Bool) : RV W ι H (.bl b) (.bl b)
  | int (i : Int) : RV W ι H (.int i) (.int i)
  | str (s : Str) : RV W ι H (.str s) (.str s)
  | tup {a : Addr} {vs : List V} {ps : List PV} : SqT W.K H a vs → RVs W ι H vs ps → ps.length ≤ 16777216 → RV W ι H (.ref a) (.tup ps)
  | loc {n : Nat} {a : Addr} : ι[n]? = some a → RV W ι H (.ref a) (.loc n)
  | fn {j : Nat} {a : Addr} : W.fa j = some a → RV W ι H (.ref a) (.fn j)
  | kl {a : Addr} {ns : List Int} : (∃ (o : Obj) (its : Array Value) (n : Nat), W.K.lookup a = some o ∧ o.cls = .type "list" ∧ o.dict = none ∧ o.data = .seq its n ∧ its.size ≤ sizeLine ∧ Vals (ns.map V.int) its.toList) → ns.length ≤ 16777216 → RV W ι H (.ref a) (.kl ns)
inductive RVs (W : Wd) (ι : List Addr) (H : Hp) : List V → List PV → Prop
  | nil : RVs W ι H [] []
  | cons {v : V} {p : PV} {vs : List V} {ps : List PV} : RV W ι H v p → RVs W ι H vs ps → RVs W ι H (v :: vs) (p :: ps)
end
def kP : Key → PV
  | .inl i => .int i
  | .inr s => .str s
inductive RKs (W : Wd) (ι : List Addr) (H : Hp) : List (Key × V) → List (PV × PV) → Prop
  | nil : RKs W ι H [] []
  | cons {k : Key} {v : V} {p : PV} {vs : List (Key × V)} {ps : List (PV × PV)} : RV W ι H v p → RKs W ι H vs ps → RKs W ι H ((k, v) :: vs) ((kP k, p) :: ps)
def RO (W : Wd) (ι : List Addr) (H : Hp) (a : Addr) : Ob → Prop
  | .lst false l => ∃ vs, H a = some (.lst vs) ∧ RVs W ι H vs l ∧ l.length ≤ 16777216
  | .lst true l => ∃ o vs, H a = some (.frz o (.lst vs)) ∧ RVs W ι H vs l ∧ l.length ≤ 16777216
  | .dct false l => ∃ ks, H a = some (.dK ks) ∧ RKs W ι H ks l
  | .dct true l => ∃ o ks, H a = some (.frz o (.dK ks)) ∧ RKs W ι H ks l
  | .sti l => ∃ S, H a = some (.set S l.length) ∧ l.Nodup ∧ ∀ i, S i = true ↔ i ∈ l
/-- an object that the store does not tell stays, but for the tables of code -/
def Kp (o o' : HO) : Prop := o' = o ∨ ∃ ps more, o = .tbl ps ∧ o' = .tbl (ps ++ more) ∧ (TriplesOk ps.toList → TriplesOk (ps ++ more).toList)
theorem Kp.refl (o : HO) : Kp o o := .inl rfl
theorem Kp.trans {o o1 o2 : HO} (a : Kp o o1) (b : Kp o1 o2) : Kp o o2 := by
  rcases a with rfl | ⟨ps, m, rfl, rfl, t⟩
  · exact b
  · rcases b with rfl | ⟨ps', m', e, rfl, t'⟩
    · exact .inr ⟨ps, m, rfl, rfl, t⟩
    · cases e
      exact .inr ⟨ps, m ++ m', rfl, by rw [Array.append_assoc], fun z => by rw [← Array.append_assoc]; exact t' (t z)⟩
structure Mono (ι : List Addr) (H : Hp) (ι' : List Addr) (H' : Hp) : Prop where
  pre : ∀ (n : Nat) (a : Addr), ι[n]? = some a → ι'[n]? = some a
  fresh : ∀ a : Addr, a ∈ ι' → a ∉ ι → H a = none
  keep : ∀ (a : Addr) (o : HO), H a = some o → a ∉ ι → ∃ o', H' a = some o' ∧ Kp o o'
structure RS (W : Wd) (ι : List Addr) (st : Sto) (H : Hp) : Prop where
  len : ι.length = st.length
  nd : ι.Nodup
  ob : ∀ (n : Nat) (o : Ob) (a : Addr), st[n]? = some o → ι[n]? = some a → RO W ι H a o
  tb : ∀ P ∈ W.tb, GxR.TabG H P
  tl : LamX.Tabs W.tl H

section
variable {W : Wd} {ι ι' ι1 ι2 : List Addr} {H H' H1 H2 : Hp} {st st' st1 : Sto}
theorem Mono.refl : Mono ι H ι H := ⟨fun _ _ h => h, fun _ h n => absurd h n, fun _ o h _ => ⟨o, h, Kp.refl o⟩⟩
theorem Mono.trans (a : Mono ι H ι1 H1) (b : Mono ι1 H1 ι2 H2) : Mono ι H ι2 H2 := by
  have key : ∀ x ∈ ι2, x ∉ ι → H x = none := fun x hx hn => by
    by_cases h1 : x ∈ ι1
    · exact a.fresh x h1 hn
    · have e := b.fresh x hx h1
      cases q : H x with
      | none => rfl
      | some o =>
        obtain ⟨o', e', _⟩ := a.keep x o q hn
        rw [e] at e'
        cases e'
  refine ⟨fun n x h => b.pre n x (a.pre n x h), key, fun x o h hn => ?_⟩
  obtain ⟨o1, e1, k1⟩ := a.keep x o h hn
  have h1 : x ∉ ι1 := fun z => by
    rw [a.fresh x z hn] at h
    cases h
  obtain ⟨o2, e2, k2⟩ := b.keep x o1 e1 h1
  exact ⟨o2, e2, k1.trans k2⟩
theorem Mono.new {p : Addr} {o : HO} (hp : H p = none) : Mono ι H ι (upd H p o) :=
  ⟨fun _ _ h => h, fun _ h n => absurd h n, fun a u h _ => ⟨u, (upd_ne (ne_of_none h hp)).trans h, Kp.refl u⟩⟩
theorem Mono.mut {p : Addr} {o : HO} (hp : p ∈ ι) : Mono ι H ι (upd H p o) :=
  ⟨fun _ _ h => h, fun _ h n => absurd h n, fun a u h hn => ⟨u, (upd_ne (fun z => hn (by rw [z]; exact hp))).trans h, Kp.refl u⟩⟩

theorem RS.at_ (R : RS W ι st H) {a : Addr} (ha : a ∈ ι) : ∃ (n : Nat) (o : Ob), st[n]? = some o ∧ ι[n]? = some a ∧ RO W ι H a o := by
  obtain ⟨n, hn, e⟩ := List.getElem_of_mem ha
  have h1 : ι[n]? = some a := by rw [List.getElem?_eq_getElem hn, e]
  have h2 : n < st.length := by rw [← R.len]; exact hn
  exact ⟨n, st[n], List.getElem?_eq_getElem h2, h1, R.ob n _ a (List.getElem?_eq_getElem h2) h1⟩
theorem RS.addr (R : RS W ι st H) {n : Nat} {o : Ob} (h : st[n]? = some o) : ∃ a, ι[n]? = some a ∧ RO W ι H a o := by
  have hn : n < ι.length := by rw [R.len]; exact (List.getElem?_eq_some_iff.mp h).1
  exact ⟨ι[n], List.getElem?_eq_getElem hn, R.ob n o _ h (List.getElem?_eq_getElem hn)⟩
def Plain0 (u : HO) : Prop := (∀ xs, u ≠ .tup xs) ∧ (∀ b xs, u ≠ .frz b (.tup xs)) ∧ (∀ ps, u ≠ .tbl ps) ∧ ∀ φ, u ≠ .ext φ
theorem RO.there {a : Addr} {o : Ob} (h : RO W ι H a o) : ∃ u, H a = some u ∧ Plain0 u := by
  cases o with
  | lst lk l =>
    cases lk with
    | false => obtain ⟨vs, e, _⟩ := h; exact ⟨_, e, fun _ z => (by cases z), fun _ _ z => (by cases z), fun _ z => (by cases z), fun _ z => (by cases z)⟩
    | true =>
      obtain ⟨b, vs, e, _⟩ := h
      exact ⟨_, e, fun _ z => (by cases z), fun b xs z => (by injection z with _ z2; cases z2), fun _ z => (by cases z), fun _ z => (by cases z)⟩
  | dct lk l =>
    cases lk with
    | false => obtain ⟨vs, e, _⟩ := h; exact ⟨_, e, fun _ z => (by cases z), fun _ _ z => (by cases z), fun _ z => (by cases z), fun _ z => (by cases z)⟩
    | true =>
      obtain ⟨b, vs, e, _⟩ := h
      exact ⟨_, e, fun _ z => (by cases z), fun b xs z => (by injection z with _ z2; cases z2), fun _ z => (by cases z), fun _ z => (by cases z)⟩
  | sti l => obtain ⟨S, e, _⟩ := h; exact ⟨_, e, fun _ z => (by cases z), fun _ _ z => (by cases z), fun _ z => (by cases z), fun _ z => (by cases z)⟩
/-- the tables of lambdas stay when nothing of them is touched -/
theorem tl_keep {T : List (Addr × Str)} (t : LamX.Tabs T H) (k : ∀ b o, H b = some o → ((∃ ps, o = .tbl ps) ∨ ∃ φ, o = .ext φ) → H' b = some o) : LamX.Tabs T H' := fun p hp => by
  obtain ⟨ps, h1, h2, h3⟩ := t p hp
  refine ⟨ps, k _ _ h1 (.inl ⟨ps, rfl⟩), h2, fun pos cv hc => ?_⟩
  obtain ⟨c, e1, e2⟩ := h3 pos cv hc
  exact ⟨c, e1, k _ _ e2 (.inr ⟨_, rfl⟩)⟩
theorem tl_upd {T : List (Addr × Str)} {a : Addr} {u : HO} (t : LamX.Tabs T H) (h : ∀ o, H a = some o → Plain0 o) : LamX.Tabs T (L2.upd H a u) := tl_keep t fun b o e k => (upd_ne fun z => by
  rw [z] at e
  obtain ⟨_, _, h3, h4⟩ := h o e
  rcases k with ⟨ps, rfl⟩ | ⟨φ, rfl⟩
  · exact h3 _ rfl
  · exact h4 _ rfl).trans e
theorem RS.notTup (R : RS W ι st H) {a : Addr} {xs : List V} (h : Rd H a (.tup xs)) : a ∉ ι := fun ha => by
  obtain ⟨n, o, _, _, r⟩ := R.at_ ha
  obtain ⟨u, e, h1, h2, _⟩ := r.there
  rcases h with h | ⟨b, h⟩
  · rw [h] at e; cases e; exact h1 _ rfl
  · rw [h] at e; cases e; exact h2 _ _ rfl
theorem RS.notTab (R : RS W ι st H) {P : Addr} (hP : P ∈ W.tb) : P ∉ ι := fun ha => by
  obtain ⟨ps, e, _⟩ := R.tb P hP
  obtain ⟨n, o, _, _, r⟩ := R.at_ ha
  obtain ⟨u, e2, _, _, h3, _⟩ := r.there
  rw [e] at e2; cases e2; exact h3 _ rfl
theorem tab_mono (R : RS W ι st H) (m : Mono ι H ι' H') : ∀ P ∈ W.tb, GxR.TabG H' P := fun P hP => by
  obtain ⟨ps, e, t⟩ := R.tb P hP
  obtain ⟨o', e', k⟩ := m.keep P _ e (R.notTab hP)
  rcases k with rfl | ⟨ps', more, z, rfl, t'⟩
  · exact ⟨ps, e', t⟩
  · cases z
    exact ⟨_, e', t' t⟩
theorem sqt_mono (R : RS W ι st H) (m : Mono ι H ι' H') {a : Addr} {xs : List V} (h : SqT W.K H a xs) : SqT W.K H' a xs := by
  rcases h with h | h
  · have hn := R.notTup h
    rcases h with h | ⟨b, h⟩
    · obtain ⟨o', e, k⟩ := m.keep a _ h hn
      rcases k with rfl | ⟨_, _, z, _, _⟩
      · exact .inl (.inl e)
      · cases z
    · obtain ⟨o', e, k⟩ := m.keep a _ h hn
      rcases k with rfl | ⟨_, _, z, _, _⟩
      · exact .inl (.inr ⟨b, e⟩)
      · cases z
  · exact .inr h
mutual
theorem rv_mono (R : RS W ι st H) (m : Mono ι H ι' H') : ∀ (p : PV) (v : V), RV W ι H v p → RV W ι' H' v p
  | .non, _, .non => .non
  | .bl _, _, .bl _ => .bl _
  | .int _, _, .int _ => .int _
  | .str _, _, .str _ => .str _
  | .tup ps, _, .tup h r z => .tup (sqt_mono R m h) (rvs_mono R m ps _ r) z
  | .loc _, _, .loc h => .loc (m.pre _ _ h)
  | .fn _, _, .fn h => .fn h
  | .kl _, _, .kl h z => .kl h z
theorem rvs_mono (R : RS W ι st H) (m : Mono ι H ι' H') : ∀ (ps : List PV) (vs : List V), RVs W ι H vs ps → RVs W ι' H' vs ps
  | [], _, .nil => .nil
  | p :: ps, _, .cons h r => .cons (rv_mono R m p _ h) (rvs_mono R m ps _ r)
end
theorem rks_mono (R : RS W ι st H) (m : Mono ι H ι' H') : ∀ {ps : List (PV × PV)} {vs : List (Key × V)}, RKs W ι H vs ps → RKs W ι' H' vs ps
  | _, _, .nil => .nil
  | _, _, .cons h r => .cons (rv_mono R m _ _ h) (rks_mono R m r)
mutual
theorem rv_pre (m : ∀ (n : Nat) (a : Addr), ι[n]? = some a → ι'[n]? = some a) : ∀ (p : PV) (v : V), RV W ι H v p → RV W ι' H v p
  | .non, _, .non => .non
  | .bl _, _, .bl _ => .bl _
  | .int _, _, .int _ => .int _
  | .str _, _, .str _ => .str _
  | .tup ps, _, .tup h r z => .tup h (rvs_pre m ps _ r) z
  | .loc _, _, .loc h => .loc (m _ _ h)
  | .fn _, _, .fn h => .fn h
  | .kl _, _, .kl h z => .kl h z
theorem rvs_pre (m : ∀ (n : Nat) (a : Addr), ι[n]? = some a → ι'[n]? = some a) : ∀ (ps : List PV) (vs : List V), RVs W ι H vs ps → RVs W ι' H vs ps
  | [], _, .nil => .nil
  | p :: ps, _, .cons h r => .cons (rv_pre m p _ h) (rvs_pre m ps _ r)
end
theorem rks_pre (m : ∀ (n : Nat) (a : Addr), ι[n]? = some a → ι'[n]? = some a) : ∀ {ps : List (PV × PV)} {vs : List (Key × V)}, RKs W ι H vs ps → RKs W ι' H vs ps
  | _, _, .nil => .nil
  | _, _, .cons h r => .cons (rv_pre m _ _ h) (rks_pre m r)
theorem RVs.length : ∀ {vs : List V} {ps : List PV}, RVs W ι H vs ps → vs.length = ps.length
  | _, _, .nil => rfl
  | _, _, .cons _ r => by rw [List.length_cons, List.length_cons, r.length]
theorem RVs.get : ∀ {vs : List V} {ps : List PV} {i : Nat} {p : PV}, RVs W ι H vs ps → ps[i]? = some p → ∃ v, vs[i]? = some v ∧ RV W ι H v p
  | _, _, _, _, .nil, e => by simp at e
  | _, _, 0, _, .cons r _, e => by simp at e; subst e; exact ⟨_, rfl, r⟩
  | _, _, i + 1, p, .cons _ t, e => by
    obtain ⟨v, h1, h2⟩ := RVs.get (i := i) (p := p) t (by simpa using e)
    exact ⟨v, by simpa using h1, h2⟩
theorem RVs.append : ∀ {vs ws : List V} {ps qs : List PV}, RVs W ι H vs ps → RVs W ι H ws qs → RVs W ι H (vs ++ ws) (ps ++ qs)
  | _, _, _, _, .nil, s => s
  | _, _, _, _, .cons r t, s => .cons r (RVs.append t s)
theorem RVs.take : ∀ {vs : List V} {ps : List PV} (n : Nat), RVs W ι H vs ps → RVs W ι H (vs.take n) (ps.take n)
  | _, _, 0, _ => .nil
  | _, _, _ + 1, .nil => .nil
  | _, _, n + 1, .cons r t => .cons r (RVs.take n t)
theorem RVs.drop : ∀ {vs : List V} {ps : List PV} (n : Nat), RVs W ι H vs ps → RVs W ι H (vs.drop n) (ps.drop n)
  | _, _, 0, r => r
  | _, _, _ + 1, .nil => .nil
  | _, _, n + 1, .cons _ t => RVs.drop n t
theorem RVs.set {v : V} {p : PV} (r : RV W ι H v p) : ∀ {vs : List V} {ps : List PV} (i : Nat), RVs W ι H vs ps → RVs W ι H (vs.set i v) (ps.set i p)
  | _, _, _, .nil => .nil
  | _, _, 0, .cons _ t => .cons r t
  | _, _, i + 1, .cons q t => .cons q (RVs.set r i t)
theorem RVs.eraseIdx : ∀ {vs : List V} {ps : List PV} (i : Nat), RVs W ι H vs ps → RVs W ι H (vs.eraseIdx i) (ps.eraseIdx i)
  | _, _, _, .nil => .nil
  | _, _, 0, .cons _ t => t
  | _, _, i + 1, .cons q t => .cons q (RVs.eraseIdx i t)
theorem RVs.reverse {vs : List V} {ps : List PV} (r : RVs W ι H vs ps) : RVs W ι H vs.reverse ps.reverse := by
  induction ps generalizing vs with
  | nil => cases r; exact .nil
  | cons p ps ih =>
    cases r with
    | cons h t =>
      rw [List.reverse_cons, List.reverse_cons]
      exact (ih t).append (.cons h .nil)
theorem RVs.ints (ns : List Int) : RVs W ι H (ns.map V.int) (ns.map PV.int) := by
  induction ns with
  | nil => exact .nil
  | cons n ns ih => exact .cons (.int n) ih
theorem RVs.of_ints : ∀ {ns : List Int} {vs : List V}, RVs W ι H vs (ns.map PV.int) → vs = ns.map V.int
  | [], _, .nil => rfl
  | n :: ns, _, .cons (.int _) t => by rw [List.map_cons, RVs.of_ints t]

/-- the store told of the heap behind an object of it that has changed -/
theorem RS.upd {n : Nat} {a : Addr} {ho : HO} {o : Ob} (R : RS W ι st H) (hn : ι[n]? = some a) (hr : RO W ι (L2.upd H a ho) a o) : RS W ι (st.set n o) (L2.upd H a ho) := by
  have ha : a ∈ ι := List.mem_of_getElem? hn
  have m : Mono ι H ι (L2.upd H a ho) := Mono.mut ha
  refine ⟨by rw [List.length_set]; exact R.len, R.nd, fun k u b h1 h2 => ?_, tab_mono R m, tl_upd R.tl fun o e => by
    obtain ⟨n, ob, _, _, r⟩ := R.at_ ha
    obtain ⟨u, e2, z⟩ := r.there
    rw [e] at e2
    cases e2
    exact z⟩
  by_cases hk : k = n
  · subst hk
    rw [hn] at h2
    cases h2
    have hlt : k < st.length := by rw [← R.len]; exact (List.getElem?_eq_some_iff.mp hn).1
    rw [List.getElem?_set_self hlt] at h1
    cases h1
    exact hr
  · rw [List.getElem?_set_ne (Ne.symm hk)] at h1
    have hb : b ≠ a := fun z => by
      subst z
      obtain ⟨h3, e3⟩ := List.getElem?_eq_some_iff.mp hn
      obtain ⟨h4, e4⟩ := List.getElem?_eq_some_iff.mp h2
      exact hk ((List.getElem_inj R.nd).mp (e4.trans e3.symm))
    have r := R.ob k u b h1 h2
    have e : L2.upd H a ho b = H b := upd_ne hb
    cases u with
    | lst lk l =>
      cases lk with
      | false => obtain ⟨vs, q, z, y⟩ := r; exact ⟨vs, e.trans q, rvs_mono R m _ _ z, y⟩
      | true => obtain ⟨c, vs, q, z, y⟩ := r; exact ⟨c, vs, e.trans q, rvs_mono R m _ _ z, y⟩
    | dct lk l =>
      cases lk with
      | false => obtain ⟨vs, q, z⟩ := r; exact ⟨vs, e.trans q, rks_mono R m z⟩
      | true => obtain ⟨c, vs, q, z⟩ := r; exact ⟨c, vs, e.trans q, rks_mono R m z⟩
    | sti l => obtain ⟨S, q, z⟩ := r; exact ⟨S, e.trans q, z⟩
theorem RO.mono {a : Addr} {o : Ob} (R : RS W ι st H) (m : Mono ι H ι' H') (e : H' a = H a) (h : RO W ι H a o) : RO W ι' H' a o := by
  cases o with
  | lst lk l =>
    cases lk with
    | false => obtain ⟨vs, q, z, y⟩ := h; exact ⟨vs, e.trans q, rvs_mono R m _ _ z, y⟩
    | true => obtain ⟨c, vs, q, z, y⟩ := h; exact ⟨c, vs, e.trans q, rvs_mono R m _ _ z, y⟩
  | dct lk l =>
    cases lk with
    | false => obtain ⟨vs, q, z⟩ := h; exact ⟨vs, e.trans q, rks_mono R m z⟩
    | true => obtain ⟨c, vs, q, z⟩ := h; exact ⟨c, vs, e.trans q, rks_mono R m z⟩
  | sti l => obtain ⟨S, q, z⟩ := h; exact ⟨S, e.trans q, z⟩
/-- an object that the store does not tell is laid, or changed -/
theorem RS.other {p : Addr} {o : HO} (R : RS W ι st H) (hp : H p = none) : RS W ι st (L2.upd H p o) :=
  ⟨R.len, R.nd, fun n u a h1 h2 => by
    have r := R.ob n u a h1 h2
    obtain ⟨x, e, _⟩ := r.there
    exact RO.mono R (Mono.new hp) (upd_ne (ne_of_none e hp)) r, tab_mono R (Mono.new hp), tl_upd R.tl fun o e => by rw [hp] at e; cases e⟩
/-- .. and told from now on -/
theorem RS.take {p : Addr} {o : Ob} (R : RS W ι st H) (m : Mono ι H (ι ++ [p]) H) (hp : p ∉ ι) (hr : RO W ι H p o) : RS W (ι ++ [p]) (st ++ [o]) H := by
  refine ⟨by rw [List.length_append, List.length_append, R.len]; rfl, ?_, fun n u a h1 h2 => ?_, R.tb, R.tl⟩
  · rw [List.nodup_append]
    refine ⟨R.nd, by simp, fun a ha b hb => ?_⟩
    rw [List.mem_singleton] at hb
    subst hb
    exact fun z => hp (z ▸ ha)
  · by_cases hn : n < ι.length
    · rw [List.getElem?_append_left hn] at h2
      rw [List.getElem?_append_left (by rw [← R.len]; exact hn)] at h1
      exact RO.mono R m rfl (R.ob n u a h1 h2)
    · have hlt : n < (ι ++ [p]).length := (List.getElem?_eq_some_iff.mp h2).1
      have e : n = ι.length := by
        rw [List.length_append] at hlt
        simp at hlt
        omega
      subst e
      rw [List.getElem?_append_right (Nat.le_refl _), Nat.sub_self] at h2
      rw [R.len, List.getElem?_append_right (Nat.le_refl _), Nat.sub_self] at h1
      cases h1
      cases h2
      exact RO.mono R m rfl hr
end
end PD
/-! PD: judgements, names, operators. -/
namespace PD
open PySem PySem.Spec PyProof.Rows L2

structure RE (W : Wd) (ι : List Addr) (H : Hp) (ρ : Env) (σ : L2.St) : Prop where
  len : ρ.length = σ.length
  at_ : ∀ (i : Nat) (p : PV), ρ[i]? = some (some p) → ∃ v, σ[i]? = some (some v) ∧ RV W ι H v p
def Good (W : Wd) (E : XK) {α : Type} (ι : List Addr) (H : Hp) (r : Res α) (k : α → Sto → List Addr → Hp → Prop) : Prop :=
  match r with
  | .ok a st' => ∀ ι' H', Mono ι H ι' H' → RS W ι' st' H' → k a st' ι' H'
  | .exc c st' => ∀ ι' H', Mono ι H ι' H' → RS W ι' st' H' → E (W.xc c) none H'
  | .stuck => False
section
variable {W : Wd} {E : XK} {ι ι' ι1 : List Addr} {H H' H1 : Hp} {st : Sto} {ρ : Env} {σ : L2.St}
theorem RE.mono (e : RE W ι H ρ σ) (R : RS W ι st H) (m : Mono ι H ι' H') : RE W ι' H' ρ σ :=
  ⟨e.len, fun i p h => let ⟨v, h1, h2⟩ := e.at_ i p h; ⟨v, h1, rv_mono R m p v h2⟩⟩
theorem RE.set (e : RE W ι H ρ σ) {v : V} {p : PV} (r : RV W ι H v p) (i : Nat) : RE W ι H (ρ.set i (some p)) (σ.set i (some v)) := by
  refine ⟨by rw [List.length_set, List.length_set]; exact e.len, fun j q h => ?_⟩
  by_cases hj : i = j
  · subst hj
    by_cases hi : i < ρ.length
    · rw [List.getElem?_set_self hi] at h
      cases h
      exact ⟨v, by rw [List.getElem?_set_self (by rw [← e.len]; exact hi)], r⟩
    · rw [List.getElem?_eq_none (by rw [List.length_set]; omega)] at h
      cases h
  · rw [List.getElem?_set_ne hj] at h
    obtain ⟨u, h1, h2⟩ := e.at_ j q h
    exact ⟨u, by rw [List.getElem?_set_ne hj]; exact h1, h2⟩
theorem RE.unset (e : RE W ι H ρ σ) (i : Nat) : RE W ι H (ρ.set i none) (σ.set i none) := by
  refine ⟨by rw [List.length_set, List.length_set]; exact e.len, fun j q h => ?_⟩
  by_cases hj : i = j
  · subst hj
    by_cases hi : i < ρ.length
    · rw [List.getElem?_set_self hi] at h
      cases h
    · rw [List.getElem?_eq_none (by rw [List.length_set]; omega)] at h
      cases h
  · rw [List.getElem?_set_ne hj] at h
    obtain ⟨u, h1, h2⟩ := e.at_ j q h
    exact ⟨u, by rw [List.getElem?_set_ne hj]; exact h1, h2⟩
theorem Good.imp {α : Type} {r : Res α} {k k' : α → Sto → List Addr → Hp → Prop} (g : Good W E ι H r k) (h : ∀ a st' ι' H', Mono ι H ι' H' → RS W ι' st' H' → k a st' ι' H' → k' a st' ι' H') : Good W E ι H r k' := by
  cases r with
  | ok a st' => exact fun ι' H' m R => h a st' ι' H' m R (g ι' H' m R)
  | exc c st' => exact g
  | stuck => exact g
theorem Good.shift {α : Type} {r : Res α} {k : α → Sto → List Addr → Hp → Prop} (g : Good W E ι H r k) (m : Mono ι H ι1 H1) : Good W E ι1 H1 r k := by
  cases r with
  | ok a st' => exact fun ι' H' m' R => g ι' H' (m.trans m') R
  | exc c st' => exact fun ι' H' m' R => g ι' H' (m.trans m') R
  | stuck => exact g
theorem Good.bind {α β : Type} {m : Mo α} {f : α → Mo β} {k : β → Sto → List Addr → Hp → Prop} (g : Good W E ι H (bnd m f st) k) : Good W E ι H (m st) (fun a st1 ι1 H1 => Good W E ι1 H1 (f a st1) k) := by
  unfold bnd at g
  cases h : m st with
  | ok a st' =>
    rw [h] at g
    exact fun ι' H' m' R => g.shift m'
  | exc c st' =>
    rw [h] at g
    exact g
  | stuck =>
    rw [h] at g
    exact g
theorem Good.ok {α : Type} {a : α} {k : α → Sto → List Addr → Hp → Prop} (g : Good W E ι H (.ok a st) k) (R : RS W ι st H) : k a st ι H := g ι H Mono.refl R
end

/-- the readings of denotations -/
def kQ (W : Wd) (Q : VK) : PV → Sto → List Addr → Hp → Prop := fun z _ ι' H' => ∀ v, RV W ι' H' v z → Q v H'
def tD (W : Wd) (E : XK) (d : Env → Mo PV) : TE := fun σ H Q => ∃ ι ρ st, RE W ι H ρ σ ∧ RS W ι st H ∧ Good W E ι H (d ρ st) (kQ W Q)
def tDT (W : Wd) (E : XK) (d : Env → Mo Bool) : TT := fun σ H Q => ∃ ι ρ st, RE W ι H ρ σ ∧ RS W ι st H ∧ Good W E ι H (d ρ st) (fun b _ _ H' => Q b H')
def tDA (W : Wd) (E : XK) (d : Env → Mo (List PV)) : TA := fun σ H Q => ∃ ι ρ st, RE W ι H ρ σ ∧ RS W ι st H ∧ Good W E ι H (d ρ st) (fun ps _ ι' H' => ∀ vs, RVs W ι' H' vs ps → Q vs H')
/-- a new list that the store does not tell -/
def kL (W : Wd) (H : Hp) (Q : VK) : List PV → Sto → List Addr → Hp → Prop := fun l _ ι' H' => ∀ p vs, H p = none → p ∉ ι' → H' p = some (.lst vs) → RVs W ι' H' vs l → l.length ≤ 16777216 → Q (.ref p) H'
def tDL (W : Wd) (E : XK) (d : Env → Mo (List PV)) : TE := fun σ H Q => ∃ ι ρ st, RE W ι H ρ σ ∧ RS W ι st H ∧ Good W E ι H (d ρ st) (kL W H Q)
/-- a list or a tuple, wherever it stands -/
def IsSq (K : PySem.W.Frag) (H : Hp) (v : V) (vs : List V) : Prop := ∃ p, v = .ref p ∧ (SqL K H p vs ∨ SqT K H p vs)
def kS (W : Wd) (Q : VK) : List PV → Sto → List Addr → Hp → Prop := fun l _ ι' H' => ∀ v vs, IsSq W.K H' v vs → RVs W ι' H' vs l → l.length ≤ 16777216 → Q v H'
def tDQ (W : Wd) (E : XK) (d : Env → Mo (List PV)) : TE := fun σ H Q => ∃ ι ρ st, RE W ι H ρ σ ∧ RS W ι st H ∧ Good W E ι H (d ρ st) (kS W Q)

structure On (X : Cx) (W : Wd) (k : Nat) (E : XK) : Prop where
  hK : X.K = W.K
  hM : X.mg = W.mg
  hc : X.calm = true
  nd : X.N.Nodup
  room : Room k X.A
  ps : Passes W.cx X E
  own : PassesOwn (model X.prog X.w) X.A X.env X.xe
  c0 : ∀ outer H s e s', W.cx outer H s E0 e s' → False
structure DE (X : Cx) (W : Wd) (k : Nat) (E : XK) (e : Expr) (d : Env → Mo PV) : Prop where
  run : On X W k E → PE X e (tD W E d)
structure DT (X : Cx) (W : Wd) (k : Nat) (E : XK) (e : Expr) (d : Env → Mo Bool) : Prop where
  run : On X W k E → PT X e (tDT W E d)
/-- a test within and, or -/
structure DW (X : Cx) (W : Wd) (k : Nat) (E : XK) (e : Expr) (d : Env → Mo Bool) : Prop where
  run : On X W k E → PW X e (tDT W E d)
structure DA (X : Cx) (W : Wd) (k : Nat) (E : XK) (es : List Expr) (d : Env → Mo (List PV)) : Prop where
  run : On X W k E → PA X es (tDA W E d)
structure DL (X : Cx) (W : Wd) (k : Nat) (E : XK) (e : Expr) (d : Env → Mo (List PV)) : Prop where
  run : On X W k E → PE X e (tDL W E d)
structure DQ (X : Cx) (W : Wd) (k : Nat) (E : XK) (e : Expr) (d : Env → Mo (List PV)) : Prop where
  run : On X W k E → PE X e (tDQ W E d)

theorem pe_imp {X : Cx} {e : Expr} {t t' : TE} (h : PE X e t) (hi : ∀ σ H Q, t' σ H Q → t σ H Q) : PE X e t' := ⟨fun pins s σ H Q I w => h.run pins s σ H Q I (hi σ H Q w)⟩
theorem pt_imp {X : Cx} {e : Expr} {t t' : TT} (h : PT X e t) (hi : ∀ σ H Q, t' σ H Q → t σ H Q) : PT X e t' := ⟨fun pins s σ H Q I w => h.run pins s σ H Q I (hi σ H Q w)⟩
theorem pw_imp {X : Cx} {e : Expr} {t t' : TT} (h : PW X e t) (hi : ∀ σ H Q, t' σ H Q → t σ H Q) : PW X e t' := ⟨fun wh pins s σ H Q I w => h.run wh pins s σ H Q I (hi σ H Q w)⟩
theorem pa_imp {X : Cx} {es : List Expr} {t t' : TA} (h : PA X es t) (hi : ∀ σ H Q, t' σ H Q → t σ H Q) : PA X es t' := ⟨fun pos pins s σ H Q I w => h.run pos pins s σ H Q I (hi σ H Q w)⟩

section
variable {X : Cx} {W : Wd} {k : Nat} {E : XK} {a b c e : Expr} {es : List Expr} {pos : Pos} {da db dc : Env → Mo PV}
/-! ### names and constants -/
def dVar (i : Nat) : Env → Mo PV := fun ρ st => match ρ[i]? with
  | some (some p) => .ok p st
  | _ => .stuck
def dC (p : PV) : Env → Mo PV := fun _ st => .ok p st
theorem de_var {i : Nat} {x : Str} (hN : X.N[i]? = some x := by rfl) (hv : Vis X.env.scope x := by first | exact Or.inl rfl | exact Or.inr (Or.inl rfl) | exact Or.inr (Or.inr rfl)) (hd : (x == ("__debug__" : Str)) = false := by decide)
    (hcd : (x == ("__classdict__" : Str)) = false := by decide) : DE X W k E (.Name x pos) (dVar i) := ⟨fun _ => pe_imp (pe_var hN hv hd hcd) fun σ H Q h => by
  obtain ⟨ι, ρ, st, re, rs, g⟩ := h
  unfold dVar at g
  cases q : ρ[i]? with
  | none => rw [q] at g; exact g.elim
  | some o =>
    cases o with
    | none => rw [q] at g; exact g.elim
    | some p =>
      rw [q] at g
      obtain ⟨v, h1, h2⟩ := re.at_ i p q
      exact ⟨v, h1, g.ok rs v h2⟩⟩
theorem de_k {v : V} {p : PV} (h : PE X e (tC v)) (hr : ∀ ι H, RV W ι H v p) : DE X W k E e (dC p) := ⟨fun _ => pe_imp h fun σ H Q h => by
  obtain ⟨ι, ρ, st, re, rs, g⟩ := h
  exact g.ok rs v (hr ι H)⟩
theorem de_int {i : Int} {j : Nat} : DE X W k E (.Constant (.int i) j pos) (dC (.int i)) := de_k pe_int fun _ _ => .int i
theorem de_bl {b : Bool} {j : Nat} : DE X W k E (.Constant (.bool b) j pos) (dC (.bl b)) := de_k pe_bl fun _ _ => .bl b
theorem de_non {j : Nat} : DE X W k E (.Constant .none j pos) (dC .non) := de_k pe_non fun _ _ => .non
theorem de_str {x : Str} {j : Nat} : DE X W k E (.Constant (.str x) j pos) (dC (.str x)) := de_k pe_str fun _ _ => .str x
/-- a module's name that holds an int, a def as a value -/
theorem de_gint {x : Str} {i : Int} (hg : Gl X x) (hm : ∃ t, W.mg x = some (.int i t)) (hd : (x == ("__debug__" : Str)) = false := by decide) : DE X W k E (.Name x pos) (dC (.int i)) := ⟨fun o => by
  obtain ⟨t, hm⟩ := hm
  exact (de_k (W := W) (k := k) (E := E) (v := .int i) (pe_glob hg (by rw [o.hM]; exact hm) ⟨t, rfl⟩ hd) fun _ _ => .int i).run o⟩
theorem de_fn {x : Str} {j : Nat} {f : Addr} (hg : Gl X x) (hm : W.mg x = some (.ref f)) (hf : W.fa j = some f) (hd : (x == ("__debug__" : Str)) = false := by decide) : DE X W k E (.Name x pos) (dC (.fn j)) := ⟨fun o =>
  (de_k (W := W) (k := k) (E := E) (v := .ref f) (pe_glob hg (by rw [o.hM]; exact hm) rfl hd) fun _ _ => .fn hf).run o⟩

/-! ### operators -/
def FOk (W : Wd) (E : XK) (r : R2) (f : PV → PV → Mo PV) : Prop := ∀ (ι : List Addr) (st : Sto) (H : Hp) (x y : V) (p q : PV) (Q : VK), RS W ι st H → RV W ι H x p → RV W ι H y q → Good W E ι H (f p q st) (kQ W Q) → r x y H Q
def dBin (f : PV → PV → Mo PV) (da db : Env → Mo PV) : Env → Mo PV := fun ρ => bnd (da ρ) fun p => bnd (db ρ) fun q => f p q
theorem op_of {r : R2} {f : PV → PV → Mo PV} (hf : FOk W E r f) {σ : L2.St} {H : Hp} {Q : VK} (h : tD W E (dBin f da db) σ H Q) : tOp r (tD W E da) (tD W E db) σ H Q := by
  obtain ⟨ι, ρ, st, re, rs, g⟩ := h
  refine ⟨ι, ρ, st, re, rs, Good.imp (Good.bind g) fun p st1 ι1 H1 m1 r1 g1 v1 hv1 => ?_⟩
  refine ⟨ι1, ρ, st1, re.mono rs m1, r1, Good.imp (Good.bind g1) fun q st2 ι2 H2 m2 r2 g2 v2 hv2 => ?_⟩
  exact hf ι2 st2 H2 v1 v2 p q Q r2 (rv_mono r1 m2 p v1 hv1) hv2 g2
theorem de_bin {op : Operator} {r : R2} {f : PV → PV → Mo PV} (ho : On X W k E → OpR X (binaryOp op) r) (hf : FOk W E r f) (ha : DE X W k E a da) (hb : DE X W k E b db) : DE X W k E (.BinOp a op b pos) (dBin f da db) :=
  ⟨fun o => pe_imp (pe_op (ho o) (ha.run o) (hb.run o)) fun _ _ _ h => op_of hf h⟩
theorem de_cmp {op : CmpOp} {r : R2} {f : PV → PV → Mo PV} (ho : On X W k E → OpR X (compareOp op) r) (hf : FOk W E r f) (ha : DE X W k E a da) (hb : DE X W k E b db) (hm : behindInMarks op b = false) : DE X W k E (.Compare a [op] [b] pos) (dBin f da db) :=
  ⟨fun o => pe_imp (pe_cmpR (ho o) (ha.run o) (hb.run o) hm) fun _ _ _ h => op_of hf h⟩
def oI (g : Int → Int → PV) : PV → PV → Mo PV
  | .int i, .int j => fun st => .ok (g i j) st
  | _, _ => fail
def oIC (C : Int → Int → Prop) [∀ i j, Decidable (C i j)] (g : Int → Int → PV) : PV → PV → Mo PV
  | .int i, .int j => fun st => if C i j then .ok (g i j) st else .stuck
  | _, _ => fail
theorem fok_I {g : Int → Int → PV} {g' : Int → Int → V} (hr : ∀ i j ι H, RV W ι H (g' i j) (g i j)) : FOk W E (rI0 g') (oI g) := by
  intro ι st H x y p q Q rs hx hy g0
  cases hx <;> cases hy <;> first
    | exact ⟨_, _, rfl, rfl, g0.ok rs _ (hr _ _ _ _)⟩
    | exact g0.elim
theorem fok_IC {C C' : Int → Int → Prop} [∀ i j, Decidable (C i j)] {g : Int → Int → PV} {g' : Int → Int → V} (hC : ∀ i j, C i j → C' i j) (hr : ∀ i j ι H, RV W ι H (g' i j) (g i j)) : FOk W E (rI C' g') (oIC C g) := by
  intro ι st H x y p q Q rs hx hy g0
  cases hx <;> cases hy <;> first
    | (rename_i i j
       by_cases hc : C i j
       · have e : oIC C g (.int i) (.int j) st = .ok (g i j) st := if_pos hc
         rw [e] at g0
         exact ⟨_, _, rfl, rfl, hC _ _ hc, g0.ok rs _ (hr _ _ _ _)⟩
       · have e : oIC C g (.int i) (.int j) st = .stuck := if_neg hc
         rw [e] at g0
         exact g0.elim)
    | exact g0.elim
abbrev oSub := oI fun i j => .int (i - j)
abbrev oLt := oI fun i j => .bl (decide (i < j))
abbrev oLe := oI fun i j => .bl (decide (i ≤ j))
abbrev oGt := oI fun i j => .bl (decide (j < i))
abbrev oGe := oI fun i j => .bl (decide (j ≤ i))
abbrev CM (i j : Int) : Prop := i.natAbs < 18446744073709551616 ∨ j.natAbs < 18446744073709551616
abbrev oMul := oIC CM fun i j => .int (i * j)
abbrev CDv (i j : Int) : Prop := 0 < j ∧ j < 1073741824
abbrev oDiv := oIC CDv fun i j => .int (i / j)
abbrev oMod := oIC (fun _ j => 0 < j) fun i j => .int (i % j)
abbrev CPw (i j : Int) : Prop := 0 ≤ j ∧ j ≤ 1000000 ∧ i.natAbs < 18446744073709551616
abbrev oPow := oIC CPw fun i j => .int (i ^ j.toNat)
abbrev oShl := oIC CPw fun i j => .int (i * 2 ^ j.toNat)
abbrev oShr := oIC (fun _ j => 0 ≤ j) fun i j => .int (i / 2 ^ j.toNat)
abbrev oAnd := oI fun i j => .int (Builtin.bitAnd i j)
theorem cm_ok {i j : Int} (h : CM i j) : CMul i j := by
  rcases h with h | h
  · exact .inl (by constructor <;> (first | (have := h; omega)))
  · exact .inr (by constructor <;> (first | (have := h; omega)))
theorem cp_ok {i j : Int} (h : CPw i j) : CPow i j := ⟨h.1, h.2.1, by have := h.2.2; omega⟩
theorem de_sub (ha : DE X W k E a da) (hb : DE X W k E b db) : DE X W k E (.BinOp a .Sub b pos) (dBin oSub da db) := de_bin (fun _ => op_sub) (fok_I fun _ _ _ _ => .int _) ha hb
theorem de_mul (ha : DE X W k E a da) (hb : DE X W k E b db) : DE X W k E (.BinOp a .Mult b pos) (dBin oMul da db) := de_bin (fun _ => op_mul) (fok_IC (fun _ _ => cm_ok) fun _ _ _ _ => .int _) ha hb
theorem de_div (ha : DE X W k E a da) (hb : DE X W k E b db) : DE X W k E (.BinOp a .FloorDiv b pos) (dBin oDiv da db) := de_bin (fun _ => op_fdiv) (fok_IC (fun _ _ h => h) fun _ _ _ _ => .int _) ha hb
theorem de_mod (ha : DE X W k E a da) (hb : DE X W k E b db) : DE X W k E (.BinOp a .Mod b pos) (dBin oMod da db) := de_bin (fun _ => op_mod) (fok_IC (fun _ _ h => h) fun _ _ _ _ => .int _) ha hb
theorem de_pow (ha : DE X W k E a da) (hb : DE X W k E b db) : DE X W k E (.BinOp a .Pow b pos) (dBin oPow da db) := de_bin (fun _ => op_pow) (fok_IC (fun _ _ => cp_ok) fun _ _ _ _ => .int _) ha hb
theorem de_shl (ha : DE X W k E a da) (hb : DE X W k E b db) : DE X W k E (.BinOp a .LShift b pos) (dBin oShl da db) := de_bin (fun _ => op_shl) (fok_IC (fun _ _ => cp_ok) fun _ _ _ _ => .int _) ha hb
theorem de_shr (ha : DE X W k E a da) (hb : DE X W k E b db) : DE X W k E (.BinOp a .RShift b pos) (dBin oShr da db) := de_bin (fun _ => op_shr) (fok_IC (fun _ _ h => h) fun _ _ _ _ => .int _) ha hb
theorem de_band (ha : DE X W k E a da) (hb : DE X W k E b db) : DE X W k E (.BinOp a .BitAnd b pos) (dBin oAnd da db) := de_bin (fun _ => op_and) (fok_I fun _ _ _ _ => .int _) ha hb
theorem de_lt (ha : DE X W k E a da) (hb : DE X W k E b db) : DE X W k E (.Compare a [.Lt] [b] pos) (dBin oLt da db) := de_cmp (fun _ => op_lt) (fok_I fun _ _ _ _ => .bl _) ha hb (nomark _)
theorem de_le (ha : DE X W k E a da) (hb : DE X W k E b db) : DE X W k E (.Compare a [.LtE] [b] pos) (dBin oLe da db) := de_cmp (fun _ => op_le) (fok_I fun _ _ _ _ => .bl _) ha hb (nomark _)
theorem de_gt (ha : DE X W k E a da) (hb : DE X W k E b db) : DE X W k E (.Compare a [.Gt] [b] pos) (dBin oGt da db) := de_cmp (fun _ => op_gt) (fok_I fun _ _ _ _ => .bl _) ha hb (nomark _)
theorem de_ge (ha : DE X W k E a da) (hb : DE X W k E b db) : DE X W k E (.Compare a [.GtE] [b] pos) (dBin oGe da db) := de_cmp (fun _ => op_ge) (fok_I fun _ _ _ _ => .bl _) ha hb (nomark _)
/-- +: ints, texts, tuples -/
def oAdd : PV → PV → Mo PV
  | .int i, .int j => fun st => .ok (.int (i + j)) st
  | .str x, .str y => fun st => if x.length + y.length ≤ 16777216 then .ok (.str (x ++ y)) st else .stuck
  | .tup l, .tup m => fun st => if l.length + m.length ≤ 16777216 then .ok (.tup (l ++ m)) st else .stuck
  | _, _ => fail
def rAddA (K : PySem.W.Frag) : R2 := fun x y H Q => (∃ i j, x = .int i ∧ y = .int j ∧ Q (.int (i + j)) H) ∨ (∃ i j, x = .str i ∧ y = .str j ∧ i.length + j.length ≤ sizeLine ∧ Q (.str (i ++ j)) H) ∨ rCatA K x y H Q
theorem line_le {n : Nat} (h : n ≤ 16777216) : n ≤ sizeLine := by
  rw [sizeLine_eq]
  exact h
theorem line_of {n : Nat} (h : n ≤ sizeLine) : n ≤ 16777216 := by
  rw [sizeLine_eq] at h
  exact h
theorem good_if {α : Type} {ι : List Addr} {H : Hp} {C : Prop} [Decidable C] {r : Res α} {kk : α → Sto → List Addr → Hp → Prop} (g : Good W E ι H (if C then r else .stuck) kk) : C ∧ Good W E ι H r kk := by
  by_cases h : C
  · rw [if_pos h] at g
    exact ⟨h, g⟩
  · rw [if_neg h] at g
    exact g.elim
/-- a new tuple -/
theorem good_newtup {ι : List Addr} {st : Sto} {H : Hp} {Q : VK} {l : List PV} {vs : List V} {p : Addr} (g : Good W E ι H (.ok (.tup l) st) (kQ W Q)) (rs : RS W ι st H) (r : RVs W ι H vs l) (hz : l.length ≤ 16777216) (hp : H p = none) : Q (.ref p) (upd H p (.tup vs)) := by
  have m : Mono ι H ι (upd H p (.tup vs)) := Mono.new hp
  exact g ι _ m (rs.other hp) _ (.tup (.inl (.inl upd_same)) (rvs_mono rs m _ _ r) hz)
theorem fok_add : FOk W E (rAddA W.K) oAdd := by
  intro ι st H x y p q Q rs hx hy g0
  cases hx <;> cases hy <;> first
    | exact .inl ⟨_, _, rfl, rfl, g0.ok rs _ (.int _)⟩
    | (obtain ⟨hc, g1⟩ := good_if g0
       first
        | exact .inr (.inl ⟨_, _, rfl, rfl, line_le hc, g1.ok rs _ (.str _)⟩)
        | (rename_i a1 vs1 l1 sq1 z1 n1 a2 vs2 l2 sq2 z2 n2
           refine .inr (.inr ⟨a1, a2, vs1, vs2, rfl, rfl, sq1, sq2, line_le (by rw [z1.length, z2.length]; exact hc), fun e => ?_, fun _ e => ?_, fun _ _ p hp => ?_⟩)
           · subst e
             cases z1
             exact g1.ok rs _ (.tup sq2 z2 n2)
           · subst e
             cases z2
             rw [List.append_nil] at g1
             exact g1.ok rs _ (.tup sq1 z1 n1)
           · exact good_newtup g1 rs (z1.append z2) (by rw [List.length_append]; exact hc) hp))
    | exact g0.elim
theorem op_addA {X : Cx} : OpR X (binaryOp .Add) (rAddA X.K) := OpR.or (opI0 fun _ _ _ _ _ _ _ q => add_int q) (OpR.or op_add_str op_catA)
theorem de_add (ha : DE X W k E a da) (hb : DE X W k E b db) : DE X W k E (.BinOp a .Add b pos) (dBin oAdd da db) := de_bin (fun o => by rw [← o.hK]; exact op_addA) fok_add ha hb

/-! ### equality of plain data -/
mutual
def toD : PV → PyData
  | .non => .none
  | .bl b => .bool b
  | .int i => .int i
  | .str s => .str s
  | .tup l => .tuple (toDs l)
  | .loc _ => .none
  | .fn _ => .none
  | .kl _ => .none
def toDs : List PV → List PyData
  | [] => []
  | p :: ps => toD p :: toDs ps
end
mutual
/-- plain data, so deep at most -/
def okd : Nat → PV → Bool
  | _, .non => true
  | _, .bl _ => true
  | _, .int _ => true
  | _, .str _ => true
  | 0, .tup _ => false
  | n + 1, .tup l => okds n l
  | _, .loc _ => false
  | _, .fn _ => false
  | _, .kl _ => false
def okds : Nat → List PV → Bool
  | _, [] => true
  | n, p :: ps => okd n p && okds n ps
end
theorem okd_non (n : Nat) : okd n .non = true := by cases n <;> rfl
theorem okd_bl (n : Nat) (b : Bool) : okd n (.bl b) = true := by cases n <;> rfl
theorem okd_int (n : Nat) (i : Int) : okd n (.int i) = true := by cases n <;> rfl
theorem okd_str (n : Nat) (s : Str) : okd n (.str s) = true := by cases n <;> rfl
theorem okd_loc (n i : Nat) : okd n (.loc i) = false := by cases n <;> rfl
theorem okd_fn (n i : Nat) : okd n (.fn i) = false := by cases n <;> rfl
theorem okd_kl (n : Nat) (l : List Int) : okd n (.kl l) = false := by cases n <;> rfl
theorem okd_tup0 (l : List PV) : okd 0 (.tup l) = false := rfl
theorem okd_tup (n : Nat) (l : List PV) : okd (n + 1) (.tup l) = okds n l := rfl
mutual
def eqb : PV → PV → Bool
  | .non, .non => true
  | .bl a, .bl b => a == b
  | .bl a, .int j => (if a then 1 else 0) == j
  | .int i, .bl b => i == (if b then 1 else 0)
  | .int i, .int j => i == j
  | .str x, .str y => x == y
  | .tup l, .tup m => eqbs l m
  | _, _ => false
def eqbs : List PV → List PV → Bool
  | [], [] => true
  | p :: ps, q :: qs => eqb p q && eqbs ps qs
  | _, _ => false
end
mutual
theorem okd_plain : ∀ (n : Nat) (p : PV), okd n p = true → (toD p).plain = true ∧ (toD p).depth ≤ n
  | _, .non, _ => by simp [toD, PyData.plain, PyData.depth]
  | _, .bl _, _ => by simp [toD, PyData.plain, PyData.depth]
  | _, .int _, _ => by simp [toD, PyData.plain, PyData.depth]
  | _, .str _, _ => by simp [toD, PyData.plain, PyData.depth]
  | 0, .tup _, h => by simp [okd] at h
  | n + 1, .tup l, h => by
    have z := okds_plain n l (by simpa [okd] using h)
    exact ⟨by simpa [toD, PyData.plain] using z.1, by have := z.2; simp only [toD, PyData.depth]; omega⟩
  | _, .loc _, h => by simp [okd] at h
  | _, .fn _, h => by simp [okd] at h
  | _, .kl _, h => by simp [okd] at h
theorem okds_plain : ∀ (n : Nat) (ps : List PV), okds n ps = true → PyData.plainAll (toDs ps) = true ∧ PyData.depthAll (toDs ps) ≤ n
  | _, [], _ => by simp [toDs, PyData.plainAll, PyData.depthAll]
  | n, p :: ps, h => by
    simp only [okds, Bool.and_eq_true] at h
    have a := okd_plain n p h.1
    have b := okds_plain n ps h.2
    refine ⟨by simp only [toDs, PyData.plainAll, a.1, b.1, Bool.and_self], ?_⟩
    simp only [toDs, PyData.depthAll]
    omega
end
mutual
theorem eqv_toD : ∀ (n : Nat) (p q : PV), okd n p = true → okd n q = true → PyData.eqv (toD p) (toD q) = eqb p q
  | n, p, q, hp, hq => by
    cases p <;> cases q <;> first
      | (rw [okd_loc] at hp; cases hp)
      | (rw [okd_fn] at hp; cases hp)
      | (rw [okd_loc] at hq; cases hq)
      | (rw [okd_fn] at hq; cases hq)
      | (rw [okd_kl] at hp; cases hp)
      | (rw [okd_kl] at hq; cases hq)
      | (simp [toD, PyData.eqv, eqb]; done)
      | (rename_i l m
         cases n with
         | zero => simp [okd] at hp
         | succ n =>
           simp only [toD, PyData.eqv, eqb]
           exact eqvs_toD n l m (by simpa [okd] using hp) (by simpa [okd] using hq))
theorem eqvs_toD : ∀ (n : Nat) (ps qs : List PV), okds n ps = true → okds n qs = true → PyData.eqvAll (toDs ps) (toDs qs) = eqbs ps qs
  | _, [], [], _, _ => by simp [toDs, PyData.eqvAll, eqbs]
  | _, [], _ :: _, _, _ => by simp [toDs, PyData.eqvAll, eqbs]
  | _, _ :: _, [], _, _ => by simp [toDs, PyData.eqvAll, eqbs]
  | n, p :: ps, q :: qs, hp, hq => by
    simp only [okds, Bool.and_eq_true] at hp hq
    simp only [toDs, PyData.eqvAll, eqbs]
    rw [eqv_toD n p q hp.1 hq.1, eqvs_toD n ps qs hp.2 hq.2]
end
mutual
theorem dp_of {ι : List Addr} {H : Hp} : ∀ (n : Nat) (p : PV) (v : V), okd n p = true → RV W ι H v p → Dp W.K H v (toD p)
  | _, .non, _, _, .non => by rw [toD]; exact .non
  | _, .bl _, _, _, .bl b => by rw [toD]; exact .bl b
  | _, .int _, _, _, .int i => by rw [toD]; exact .int i
  | _, .str _, _, _, .str s => by rw [toD]; exact .str s
  | 0, .tup _, _, h, _ => by simp [okd] at h
  | n + 1, .tup l, _, h, .tup sq r _ => by rw [toD]; exact .tup sq (dps_of n l _ (by simpa [okd] using h) r)
  | _, .loc _, _, h, _ => by simp [okd] at h
  | _, .fn _, _, h, _ => by simp [okd] at h
  | _, .kl _, _, h, _ => by simp [okd] at h
theorem dps_of {ι : List Addr} {H : Hp} : ∀ (n : Nat) (ps : List PV) (vs : List V), okds n ps = true → RVs W ι H vs ps → DpAll W.K H vs (toDs ps)
  | _, [], _, _, .nil => by rw [toDs]; exact .nil
  | n, p :: ps, _, h, .cons a t => by
    simp only [okds, Bool.and_eq_true] at h
    rw [toDs]
    exact .cons (dp_of n p _ h.1 a) (dps_of n ps _ h.2 t)
end
def rEqP (K : PySem.W.Frag) (ne : Bool) : R2 := fun x y H Q => ∃ d e, Dp K H x d ∧ Dp K H y e ∧ d.plain = true ∧ e.plain = true ∧ d.depth ≤ 64 ∧ Q (.bl (if ne then !PyData.eqv d e else PyData.eqv d e)) H
theorem op_eqP (hu : X.A.units + 64 < cLine) : OpR X (compareOp .Eq) (rEqP X.K false) := by
  rintro pins s σ H x y v u Q I rx ry ⟨d, e, hd, he, sd, se, dd, q⟩
  obtain ⟨as, r1⟩ := Dp.reads I d x v hd rx
  obtain ⟨bs, r2⟩ := Dp.reads I e y u he ry
  exact SeqAt.eq_plain r1 r2 sd se (by omega) ⟨.bl _, H, I, rfl, q⟩
theorem op_neP (hu : X.A.units + 64 < cLine) : OpR X (compareOp .NotEq) (rEqP X.K true) := by
  rintro pins s σ H x y v u Q I rx ry ⟨d, e, hd, he, sd, se, dd, q⟩
  obtain ⟨as, r1⟩ := Dp.reads I d x v hd rx
  obtain ⟨bs, r2⟩ := Dp.reads I e y u he ry
  exact SeqAt.ne_plain r1 r2 sd se (by omega) ⟨.bl _, H, I, rfl, q⟩
def oEq (ne : Bool) (p q : PV) : Mo PV := fun st => if okd 60 p = true ∧ okd 60 q = true then .ok (.bl (if ne then !eqb p q else eqb p q)) st else .stuck
theorem fok_eq {ne : Bool} : FOk W E (rEqP W.K ne) (oEq ne) := by
  intro ι st H x y p q Q rs hx hy g0
  obtain ⟨⟨h1, h2⟩, g1⟩ := good_if g0
  have a := okd_plain 60 p h1
  have b := okd_plain 60 q h2
  refine ⟨toD p, toD q, dp_of 60 p x h1 hx, dp_of 60 q y h2 hy, a.1, b.1, by have := a.2; omega, ?_⟩
  rw [eqv_toD 60 p q h1 h2]
  exact g1.ok rs _ (.bl _)
theorem de_eq (ha : DE X W k E a da) (hb : DE X W k E b db) : DE X W k E (.Compare a [.Eq] [b] pos) (dBin (oEq false) da db) :=
  de_cmp (fun o => by rw [← o.hK]; exact op_eqP (by have := o.room.un; omega)) fok_eq ha hb (nomark _)
theorem de_ne (ha : DE X W k E a da) (hb : DE X W k E b db) : DE X W k E (.Compare a [.NotEq] [b] pos) (dBin (oEq true) da db) :=
  de_cmp (fun o => by rw [← o.hK]; exact op_neP (by have := o.room.un; omega)) fok_eq ha hb (nomark _)
/-! ### is None, is True -/
def oIsN (ng : Bool) (p _q : PV) : Mo PV := fun st => .ok (.bl (match p with | .non => !ng | _ => ng)) st
theorem fok_isN {ng : Bool} {a : V → Bool} : FOk W E (fun x y H Q => y = .non ∧ Q (.bl (if ng then !decide (x = .non) else decide (x = .non))) H) (fun p q => match q with | .non => oIsN ng p q | _ => fail) := by
  intro ι st H x y p q Q rs hx hy g0
  cases hy <;> first
    | exact g0.elim
    | (refine ⟨rfl, ?_⟩
       have z := g0.ok rs
       cases hx <;> first
        | (have y := z _ (.bl _); cases ng <;> simpa using y))
theorem de_isN {j : Nat} {p2 : Pos} (ha : DE X W k E a da) : DE X W k E (.Compare a [.Is] [.Constant .none j p2] pos) (dBin (fun p q => match q with | .non => oIsN false p q | _ => fail) da (dC .non)) :=
  de_cmp (r := fun x y H Q => y = .non ∧ Q (.bl (if false = true then !decide (x = .non) else decide (x = .non))) H) (fun _ => by simpa using op_isN) (fok_isN (a := fun _ => true)) ha de_non (nomark _)
theorem de_notN {j : Nat} {p2 : Pos} (ha : DE X W k E a da) : DE X W k E (.Compare a [.IsNot] [.Constant .none j p2] pos) (dBin (fun p q => match q with | .non => oIsN true p q | _ => fail) da (dC .non)) :=
  de_cmp (r := fun x y H Q => y = .non ∧ Q (.bl (if true = true then !decide (x = .non) else decide (x = .non))) H) (fun _ => by simpa using op_notN) (fok_isN (a := fun _ => true)) ha de_non (nomark _)
def oIsB (ng : Bool) : PV → PV → Mo PV
  | .bl x, .bl y => fun st => .ok (.bl (if ng then !decide (x = y) else decide (x = y))) st
  | _, _ => fail
theorem fok_isB {ng : Bool} : FOk W E (fun x y H Q => ∃ a b : Bool, x = .bl a ∧ y = .bl b ∧ Q (.bl (if ng then !decide (a = b) else decide (a = b))) H) (oIsB ng) := by
  intro ι st H x y p q Q rs hx hy g0
  cases hx <;> cases hy <;> first
    | exact ⟨_, _, rfl, rfl, g0.ok rs _ (.bl _)⟩
    | exact g0.elim
theorem de_isB (ha : DE X W k E a da) (hb : DE X W k E b db) : DE X W k E (.Compare a [.Is] [b] pos) (dBin (oIsB false) da db) :=
  de_cmp (r := fun x y H Q => ∃ a b : Bool, x = .bl a ∧ y = .bl b ∧ Q (.bl (if false = true then !decide (a = b) else decide (a = b))) H) (fun _ => op_isBl) fok_isB ha hb (nomark _)
theorem de_notB (ha : DE X W k E a da) (hb : DE X W k E b db) : DE X W k E (.Compare a [.IsNot] [b] pos) (dBin (oIsB true) da db) :=
  de_cmp (r := fun x y H Q => ∃ a b : Bool, x = .bl a ∧ y = .bl b ∧ Q (.bl (if true = true then !decide (a = b) else decide (a = b))) H) (fun _ => op_notBl) fok_isB ha hb (nomark _)
/-! ### unary -/
def dUn (f : PV → Mo PV) (da : Env → Mo PV) : Env → Mo PV := fun ρ => bnd (da ρ) f
def oNeg : PV → Mo PV
  | .int i => fun st => .ok (.int (-i)) st
  | _ => fail
theorem de_neg (ha : DE X W k E a da) : DE X W k E (.UnaryOp .USub a pos) (dUn oNeg da) := ⟨fun o => pe_imp (pe_un un_neg (ha.run o)) fun σ H Q h => by
  obtain ⟨ι, ρ, st, re, rs, g⟩ := h
  refine ⟨ι, ρ, st, re, rs, Good.imp (Good.bind g) fun p st1 ι1 H1 m1 r1 g1 v1 hv1 => ?_⟩
  cases hv1 <;> first
    | exact ⟨_, rfl, g1.ok r1 _ (.int _)⟩
    | exact g1.elim⟩
end
end PD
/-! PD: tests, arguments, calls, sequences. -/
namespace PD
open PySem PySem.Spec PyProof.Rows L2
section
variable {X : Cx} {W : Wd} {k : Nat} {E : XK} {a b c e : Expr} {es rest : List Expr} {pos p p2 : Pos} {da db dc d : Env → Mo PV} {dt du : Env → Mo Bool} {dl dm : Env → Mo (List PV)}

/-! ### sequences -/
def seqOf (st : Sto) : PV → Option (List PV)
  | .tup l => some l
  | .loc n => match st[n]? with
    | some (.lst _ l) => some l
    | _ => none
  | .kl ns => some (ns.map PV.int)
  | _ => none
def oOf {α : Type} (o : Option α) : Mo α := fun st => match o with
  | some x => .ok x st
  | none => .stuck
def sqM (q : PV) : Mo (List PV) := fun st => match seqOf st q with
  | some l => .ok l st
  | none => .stuck
theorem ro_sql {ι : List Addr} {H : Hp} {a : Addr} {lk : Bool} {l : List PV} (h : RO W ι H a (.lst lk l)) : ∃ vs, SqL W.K H a vs ∧ RVs W ι H vs l ∧ l.length ≤ 16777216 := by
  cases lk with
  | false => obtain ⟨vs, e, r, z⟩ := h; exact ⟨vs, SqL.of e, r, z⟩
  | true => obtain ⟨o, vs, e, r, z⟩ := h; exact ⟨vs, .inl (.inr ⟨o, e⟩), r, z⟩
theorem seq_sq {ι : List Addr} {st : Sto} {H : Hp} {v : V} {q : PV} {l : List PV} (rs : RS W ι st H) (r : RV W ι H v q) (h : seqOf st q = some l) : ∃ vs, IsSq W.K H v vs ∧ RVs W ι H vs l ∧ l.length ≤ 16777216 := by
  cases r with
  | tup sq rr z =>
    have e : _ = l := Option.some.inj h
    subst e
    exact ⟨_, ⟨_, rfl, .inr sq⟩, rr, z⟩
  | loc hn =>
    rename_i n a
    unfold seqOf at h
    dsimp only at h
    cases q : st[n]? with
    | none => rw [q] at h; cases h
    | some o =>
      rw [q] at h
      cases o with
      | lst lk m =>
        have e : m = l := Option.some.inj h
        subst e
        obtain ⟨vs, h1, h2, h3⟩ := ro_sql (rs.ob n _ a q hn)
        exact ⟨vs, ⟨a, rfl, .inl h1⟩, h2, h3⟩
      | dct _ _ => cases h
      | sti _ => cases h
  | non => cases h
  | bl => cases h
  | int => cases h
  | str => cases h
  | fn => cases h
  | kl hk z =>
    have e : _ = l := Option.some.inj h
    subst e
    exact ⟨_, ⟨_, rfl, .inl (.inr hk)⟩, RVs.ints _, by rw [List.length_map]; exact z⟩
theorem dq_e (h : DE X W k E e d) : DQ X W k E e (fun ρ => bnd (d ρ) sqM) := ⟨fun o => pe_imp (h.run o) fun σ H Q t => by
  obtain ⟨ι, ρ, st, re, rs, g⟩ := t
  refine ⟨ι, ρ, st, re, rs, Good.imp (Good.bind g) fun q st1 ι1 H1 m1 r1 g1 v hv => ?_⟩
  unfold sqM at g1
  cases hs : seqOf st1 q with
  | none => rw [hs] at g1; exact g1.elim
  | some l =>
    rw [hs] at g1
    obtain ⟨vs, h1, h2, h3⟩ := seq_sq r1 hv hs
    exact g1.ok r1 v vs h1 h2 h3⟩
theorem dq_l (h : DL X W k E e dl) : DQ X W k E e dl := ⟨fun o => pe_imp (h.run o) fun σ H Q t => by
  obtain ⟨ι, ρ, st, re, rs, g⟩ := t
  exact ⟨ι, ρ, st, re, rs, Good.imp g fun l st1 ι1 H1 m1 r1 g1 p vs hp _ e1 r z => g1 (.ref p) vs ⟨p, rfl, .inl (SqL.of e1)⟩ r z⟩⟩
/-- a new list is put into the store -/
def layL (l : List PV) : Mo PV := fun st => .ok (.loc st.length) (st ++ [.lst false l])
theorem lay_of {σ : L2.St} {H : Hp} {Q : VK} (t : tD W E (fun ρ => bnd (dl ρ) layL) σ H Q) : tDL W E dl σ H Q := by
  obtain ⟨ι, ρ, st, re, rs, g⟩ := t
  refine ⟨ι, ρ, st, re, rs, ?_⟩
  unfold bnd at g
  dsimp only at g
  cases q : dl ρ st with
  | stuck => rw [q] at g; exact g.elim
  | exc c st' => rw [q] at g; exact g
  | ok l st1 =>
    rw [q] at g
    intro ι1 H1 m1 r1 p vs hp hn e1 r z
    have m2 : Mono ι H (ι1 ++ [p]) H1 := by
      refine ⟨fun n x hx => ?_, fun x hx hx0 => ?_, m1.keep⟩
      · have h2 := m1.pre n x hx
        rw [List.getElem?_append_left (List.getElem?_eq_some_iff.mp h2).1]
        exact h2
      · rcases List.mem_append.mp hx with h3 | h3
        · exact m1.fresh x h3 hx0
        · rw [List.mem_singleton] at h3
          rw [h3]
          exact hp
    have m3 : Mono (ι1 : List Addr) (fun x => if x = p then none else H1 x) (ι1 ++ [p]) H1 := by
      refine ⟨fun n x hx => ?_, fun x hx hx0 => ?_, fun x o hx hx0 => ?_⟩
      · rw [List.getElem?_append_left (List.getElem?_eq_some_iff.mp hx).1]
        exact hx
      · rcases List.mem_append.mp hx with h3 | h3
        · exact absurd h3 hx0
        · rw [List.mem_singleton] at h3
          simp [h3]
      · by_cases hxp : x = p
        · simp [hxp] at hx
        · simp [hxp] at hx
          exact ⟨o, hx, Kp.refl o⟩
    have keepO : ∀ (n : Nat) (o : Ob) (x : Addr), st1[n]? = some o → ι1[n]? = some x → RO W (ι1 ++ [p]) H1 x o := fun n o x h3 h4 => by
      have ro := r1.ob n o x h3 h4
      have mm : ∀ (ps : List PV) (ws : List V), RVs W ι1 H1 ws ps → RVs W (ι1 ++ [p]) H1 ws ps := fun ps ws rr => rvs_pre m3.pre ps ws rr
      cases o with
      | lst lk l =>
        cases lk with
        | false => obtain ⟨ws, q1, q2, q3⟩ := ro; exact ⟨ws, q1, mm _ _ q2, q3⟩
        | true => obtain ⟨o, ws, q1, q2, q3⟩ := ro; exact ⟨o, ws, q1, mm _ _ q2, q3⟩
      | dct lk l =>
        cases lk with
        | false => obtain ⟨ws, q1, q2⟩ := ro; exact ⟨ws, q1, rks_pre m3.pre q2⟩
        | true => obtain ⟨o, ws, q1, q2⟩ := ro; exact ⟨o, ws, q1, rks_pre m3.pre q2⟩
      | sti l => exact ro
    have r2 : RS W (ι1 ++ [p]) (st1 ++ [.lst false l]) H1 := by
      refine ⟨by rw [List.length_append, List.length_append, r1.len]; rfl, ?_, fun n o x h3 h4 => ?_, r1.tb, r1.tl⟩
      · rw [List.nodup_append]
        refine ⟨r1.nd, by simp, fun x hx y hy => ?_⟩
        rw [List.mem_singleton] at hy
        subst hy
        exact fun zz => hn (zz ▸ hx)
      · by_cases hlt : n < ι1.length
        · rw [List.getElem?_append_left hlt] at h4
          rw [List.getElem?_append_left (by rw [← r1.len]; exact hlt)] at h3
          exact keepO n o x h3 h4
        · have h5 : n < (ι1 ++ [p]).length := (List.getElem?_eq_some_iff.mp h4).1
          have e2 : n = ι1.length := by
            rw [List.length_append] at h5
            simp at h5
            omega
          subst e2
          rw [List.getElem?_append_right (Nat.le_refl _), Nat.sub_self] at h4
          rw [r1.len, List.getElem?_append_right (Nat.le_refl _), Nat.sub_self] at h3
          cases h3
          cases h4
          exact ⟨vs, e1, rvs_pre m3.pre _ _ r, z⟩
    refine g (ι1 ++ [p]) H1 m2 r2 (.ref p) (.loc ?_)
    rw [← r1.len, List.getElem?_append_right (Nat.le_refl _), Nat.sub_self]
    rfl
theorem de_l (h : DL X W k E e dl) : DE X W k E e (fun ρ => bnd (dl ρ) layL) := ⟨fun o => pe_imp (h.run o) fun _ _ _ t => lay_of t⟩

/-! ### truth -/
def truM (q : PV) : Mo Bool := fun st => match q with
  | .non => .ok false st
  | .bl b => .ok b st
  | .int i => .ok (i != 0) st
  | .str s => if s.length ≤ 16777216 then .ok ((s.length : Int) != 0) st else .stuck
  | .tup l => .ok (!l.isEmpty) st
  | .loc n => match st[n]? with
    | some (.lst _ l) => .ok (!l.isEmpty) st
    | some (.dct false l) => .ok (!l.isEmpty) st
    | _ => .stuck
  | .fn _ => .stuck
  | .kl _ => .stuck
theorem isEmpty_rvs {ι : List Addr} {H : Hp} {vs : List V} {ps : List PV} (r : RVs W ι H vs ps) : vs.isEmpty = ps.isEmpty := by cases r <;> rfl
theorem isEmpty_rks {ι : List Addr} {H : Hp} {vs : List (Key × V)} {ps : List (PV × PV)} (r : RKs W ι H vs ps) : vs.isEmpty = ps.isEmpty := by cases r <;> rfl
theorem tru_of {ι : List Addr} {st : Sto} {H : Hp} {v : V} {q : PV} {kk : Bool → Sto → List Addr → Hp → Prop} (rs : RS W ι st H) (r : RV W ι H v q) (g : Good W E ι H (truM q st) kk) : ∃ b, TruV W.K v H b ∧ kk b st ι H := by
  cases r with
  | non => exact ⟨false, rfl, g.ok rs⟩
  | bl b => exact ⟨b, rfl, g.ok rs⟩
  | int i => exact ⟨_, rfl, g.ok rs⟩
  | str s =>
    obtain ⟨hc, g1⟩ := good_if g
    exact ⟨_, ⟨line_le hc, rfl⟩, g1.ok rs⟩
  | tup sq rr z => exact ⟨_, .inr (.inl ⟨_, sq, rfl⟩), by rw [isEmpty_rvs rr]; exact g.ok rs⟩
  | fn => exact g.elim
  | kl => exact g.elim
  | loc hn =>
    rename_i n a
    unfold truM at g
    dsimp only at g
    cases q : st[n]? with
    | none => rw [q] at g; exact g.elim
    | some o =>
      rw [q] at g
      have ro := rs.ob n o a q hn
      cases o with
      | lst lk m =>
        obtain ⟨vs, h1, h2, h3⟩ := ro_sql ro
        exact ⟨_, .inl ⟨vs, h1, rfl⟩, by rw [isEmpty_rvs h2]; exact g.ok rs⟩
      | dct lk m =>
        cases lk with
        | true => exact g.elim
        | false =>
          obtain ⟨ks, h1, h2⟩ := ro
          exact ⟨_, .inr (.inr ⟨ks, h1, rfl⟩), by rw [isEmpty_rks h2]; exact g.ok rs⟩
      | sti m => exact g.elim
theorem dt_e (h : DE X W k E e d) (he : ∀ whole, isTrue e X.env whole = (do let v ← whole; standAt e.pos; holding [v] (truthy v)) := by intro _; rfl) : DT X W k E e (fun ρ => bnd (d ρ) truM) := ⟨fun o => pt_imp (pt_truth (h.run o) he) fun σ H Q t => by
  obtain ⟨ι, ρ, st, re, rs, g⟩ := t
  refine ⟨ι, ρ, st, re, rs, Good.imp (Good.bind g) fun q st1 ι1 H1 m1 r1 g1 v hv => ?_⟩
  rw [o.hK]
  exact tru_of r1 hv g1⟩
def blM (q : PV) : Mo Bool := fun st => match q with
  | .bl b => .ok b st
  | _ => .stuck
theorem bl_of {ι : List Addr} {st : Sto} {H : Hp} {v : V} {q : PV} {kk : Bool → Sto → List Addr → Hp → Prop} (rs : RS W ι st H) (r : RV W ι H v q) (g : Good W E ι H (blM q st) kk) : ∃ b, v = .bl b ∧ q = .bl b ∧ kk b st ι H := by
  cases r with
  | bl b => exact ⟨b, rfl, rfl, g.ok rs⟩
  | _ => exact g.elim
theorem dt_cmp {op : CmpOp} {r : R2} {f : PV → PV → Mo PV} (ho : On X W k E → OpR X (compareOp op) r) (hf : FOk W E r f) (ha : DE X W k E a da) (hb : DE X W k E b db) (hm : behindInMarks op b = false) : DT X W k E (.Compare a [op] [b] pos) (fun ρ => bnd (dBin f da db ρ) blM) :=
  ⟨fun o => pt_imp (pt_cmpR (ho o) (ha.run o) (hb.run o) hm) fun σ H Q t => by
    obtain ⟨ι, ρ, st, re, rs, g⟩ := t
    refine op_of hf ⟨ι, ρ, st, re, rs, Good.imp (Good.bind g) fun q st1 ι1 H1 m1 r1 g1 v hv => ?_⟩
    obtain ⟨b, rfl, _, q1⟩ := bl_of r1 hv g1
    exact ⟨b, rfl, q1⟩⟩
abbrev dB (de : Env → Mo PV) : Env → Mo Bool := fun ρ => bnd (de ρ) blM
theorem dt_lt (ha : DE X W k E a da) (hb : DE X W k E b db) : DT X W k E (.Compare a [.Lt] [b] pos) (dB (dBin oLt da db)) := dt_cmp (fun _ => op_lt) (fok_I fun _ _ _ _ => .bl _) ha hb (nomark _)
theorem dt_le (ha : DE X W k E a da) (hb : DE X W k E b db) : DT X W k E (.Compare a [.LtE] [b] pos) (dB (dBin oLe da db)) := dt_cmp (fun _ => op_le) (fok_I fun _ _ _ _ => .bl _) ha hb (nomark _)
theorem dt_gt (ha : DE X W k E a da) (hb : DE X W k E b db) : DT X W k E (.Compare a [.Gt] [b] pos) (dB (dBin oGt da db)) := dt_cmp (fun _ => op_gt) (fok_I fun _ _ _ _ => .bl _) ha hb (nomark _)
theorem dt_ge (ha : DE X W k E a da) (hb : DE X W k E b db) : DT X W k E (.Compare a [.GtE] [b] pos) (dB (dBin oGe da db)) := dt_cmp (fun _ => op_ge) (fok_I fun _ _ _ _ => .bl _) ha hb (nomark _)
theorem dt_eq (ha : DE X W k E a da) (hb : DE X W k E b db) : DT X W k E (.Compare a [.Eq] [b] pos) (dB (dBin (oEq false) da db)) :=
  dt_cmp (fun o => by rw [← o.hK]; exact op_eqP (by have := o.room.un; omega)) fok_eq ha hb (nomark _)
theorem dt_ne (ha : DE X W k E a da) (hb : DE X W k E b db) : DT X W k E (.Compare a [.NotEq] [b] pos) (dB (dBin (oEq true) da db)) :=
  dt_cmp (fun o => by rw [← o.hK]; exact op_neP (by have := o.room.un; omega)) fok_eq ha hb (nomark _)
theorem dt_isN {j : Nat} (ha : DE X W k E a da) : DT X W k E (.Compare a [.Is] [.Constant .none j p2] pos) (dB (dBin (fun p q => match q with | .non => oIsN false p q | _ => fail) da (dC .non))) :=
  dt_cmp (r := fun x y H Q => y = .non ∧ Q (.bl (if false = true then !decide (x = .non) else decide (x = .non))) H) (fun _ => by simpa using op_isN) (fok_isN (a := fun _ => true)) ha de_non (nomark _)
theorem dt_notN {j : Nat} (ha : DE X W k E a da) : DT X W k E (.Compare a [.IsNot] [.Constant .none j p2] pos) (dB (dBin (fun p q => match q with | .non => oIsN true p q | _ => fail) da (dC .non))) :=
  dt_cmp (r := fun x y H Q => y = .non ∧ Q (.bl (if true = true then !decide (x = .non) else decide (x = .non))) H) (fun _ => by simpa using op_notN) (fok_isN (a := fun _ => true)) ha de_non (nomark _)
theorem dt_isB (ha : DE X W k E a da) (hb : DE X W k E b db) : DT X W k E (.Compare a [.Is] [b] pos) (dB (dBin (oIsB false) da db)) :=
  dt_cmp (r := fun x y H Q => ∃ a b : Bool, x = .bl a ∧ y = .bl b ∧ Q (.bl (if false = true then !decide (a = b) else decide (a = b))) H) (fun _ => op_isBl) fok_isB ha hb (nomark _)
theorem dt_notB (ha : DE X W k E a da) (hb : DE X W k E b db) : DT X W k E (.Compare a [.IsNot] [b] pos) (dB (dBin (oIsB true) da db)) :=
  dt_cmp (r := fun x y H Q => ∃ a b : Bool, x = .bl a ∧ y = .bl b ∧ Q (.bl (if true = true then !decide (a = b) else decide (a = b))) H) (fun _ => op_notBl) fok_isB ha hb (nomark _)
/-! and, or, not -/
def dAndT (dt du : Env → Mo Bool) : Env → Mo Bool := fun ρ => bnd (dt ρ) fun b => if b = true then du ρ else fun st => .ok false st
def dOrT (dt du : Env → Mo Bool) : Env → Mo Bool := fun ρ => bnd (dt ρ) fun b => if b = true then fun st => .ok true st else du ρ
def dNotT (dt : Env → Mo Bool) : Env → Mo Bool := fun ρ => bnd (dt ρ) fun b => fun st => .ok (!b) st
theorem dt_w (h : DW X W k E e dt) : DT X W k E e dt := ⟨fun o => (h.run o).pt⟩
theorem dw_and1 (h : DT X W k E a dt) : DW X W k E (.BoolOp .And [a] pos) dt := ⟨fun o => pw_and1 (h.run o)⟩
theorem dw_or1 (h : DT X W k E a dt) : DW X W k E (.BoolOp .Or [a] pos) dt := ⟨fun o => pw_or1 (h.run o)⟩
theorem dw_and (h : DT X W k E a dt) (h2 : DW X W k E (.BoolOp .And (b :: rest) pos) du) : DW X W k E (.BoolOp .And (a :: b :: rest) pos) (dAndT dt du) := ⟨fun o => pw_imp (pw_and (h.run o) (h2.run o)) fun σ H Q t => by
  obtain ⟨ι, ρ, st, re, rs, g⟩ := t
  refine ⟨ι, ρ, st, re, rs, Good.imp (Good.bind g) fun b st1 ι1 H1 m1 r1 g1 => ?_⟩
  cases b with
  | true => exact ⟨ι1, ρ, st1, re.mono rs m1, r1, g1⟩
  | false => exact g1.ok r1⟩
theorem dw_or (h : DT X W k E a dt) (h2 : DW X W k E (.BoolOp .Or (b :: rest) pos) du) : DW X W k E (.BoolOp .Or (a :: b :: rest) pos) (dOrT dt du) := ⟨fun o => pw_imp (pw_or (h.run o) (h2.run o)) fun σ H Q t => by
  obtain ⟨ι, ρ, st, re, rs, g⟩ := t
  refine ⟨ι, ρ, st, re, rs, Good.imp (Good.bind g) fun b st1 ι1 H1 m1 r1 g1 => ?_⟩
  cases b with
  | false => exact ⟨ι1, ρ, st1, re.mono rs m1, r1, g1⟩
  | true => exact g1.ok r1⟩
theorem dt_not (h : DT X W k E a dt) : DT X W k E (.UnaryOp .Not a pos) (dNotT dt) := ⟨fun o => pt_imp (pt_not (h.run o)) fun σ H Q t => by
  obtain ⟨ι, ρ, st, re, rs, g⟩ := t
  exact ⟨ι, ρ, st, re, rs, Good.imp (Good.bind g) fun b st1 ι1 H1 m1 r1 g1 => g1.ok r1⟩⟩
def dAndV (da db : Env → Mo PV) : Env → Mo PV := fun ρ => bnd (da ρ) fun q => bnd (blM q) fun b => if b = true then db ρ else fun st => .ok (.bl false) st
def dOrV (da db : Env → Mo PV) : Env → Mo PV := fun ρ => bnd (da ρ) fun q => bnd (blM q) fun b => if b = true then fun st => .ok (.bl true) st else db ρ
def dNotV (da : Env → Mo PV) : Env → Mo PV := fun ρ => bnd (da ρ) fun q => bnd (blM q) fun b => fun st => .ok (.bl (!b)) st
theorem de_one {op : BoolOp} (h : DE X W k E a d) : DE X W k E (.BoolOp op [a] pos) d := ⟨fun o => pe_one (h.run o)⟩
theorem de_and (h : DE X W k E a da) (h2 : DE X W k E (.BoolOp .And (b :: rest) pos) db) : DE X W k E (.BoolOp .And (a :: b :: rest) pos) (dAndV da db) := ⟨fun o => pe_imp (pe_and (h.run o) (h2.run o)) fun σ H Q t => by
  obtain ⟨ι, ρ, st, re, rs, g⟩ := t
  refine ⟨ι, ρ, st, re, rs, Good.imp (Good.bind g) fun q st1 ι1 H1 m1 r1 g1 v hv => ?_⟩
  obtain ⟨b, rfl, rfl, g2⟩ := bl_of r1 hv (Good.bind g1)
  refine ⟨b, rfl, ?_⟩
  cases b with
  | true => exact ⟨ι1, ρ, st1, re.mono rs m1, r1, g2⟩
  | false => exact g2.ok r1 _ (.bl false)⟩
theorem de_or (h : DE X W k E a da) (h2 : DE X W k E (.BoolOp .Or (b :: rest) pos) db) : DE X W k E (.BoolOp .Or (a :: b :: rest) pos) (dOrV da db) := ⟨fun o => pe_imp (pe_or (h.run o) (h2.run o)) fun σ H Q t => by
  obtain ⟨ι, ρ, st, re, rs, g⟩ := t
  refine ⟨ι, ρ, st, re, rs, Good.imp (Good.bind g) fun q st1 ι1 H1 m1 r1 g1 v hv => ?_⟩
  obtain ⟨b, rfl, rfl, g2⟩ := bl_of r1 hv (Good.bind g1)
  refine ⟨b, rfl, ?_⟩
  cases b with
  | false => exact ⟨ι1, ρ, st1, re.mono rs m1, r1, g2⟩
  | true => exact g2.ok r1 _ (.bl true)⟩
theorem de_not (h : DE X W k E a da) : DE X W k E (.UnaryOp .Not a pos) (dNotV da) := ⟨fun o => pe_imp (pe_not (h.run o)) fun σ H Q t => by
  obtain ⟨ι, ρ, st, re, rs, g⟩ := t
  refine ⟨ι, ρ, st, re, rs, Good.imp (Good.bind g) fun q st1 ι1 H1 m1 r1 g1 v hv => ?_⟩
  obtain ⟨b, rfl, rfl, g2⟩ := bl_of r1 hv (Good.bind g1)
  exact ⟨b, rfl, g2.ok r1 _ (.bl _)⟩⟩
def dIf (dt : Env → Mo Bool) (da db : Env → Mo PV) : Env → Mo PV := fun ρ => bnd (dt ρ) fun b => if b = true then da ρ else db ρ
theorem de_if (h : DT X W k E c dt) (ha : DE X W k E a da) (hb : DE X W k E b db) : DE X W k E (.IfExp c a b pos) (dIf dt da db) := ⟨fun o => pe_imp (pe_ifExp (h.run o) (ha.run o) (hb.run o)) fun σ H Q t => by
  obtain ⟨ι, ρ, st, re, rs, g⟩ := t
  refine ⟨ι, ρ, st, re, rs, Good.imp (Good.bind g) fun b st1 ι1 H1 m1 r1 g1 => ?_⟩
  cases b with
  | true => exact ⟨ι1, ρ, st1, re.mono rs m1, r1, g1⟩
  | false => exact ⟨ι1, ρ, st1, re.mono rs m1, r1, g1⟩⟩
/-- a op b op' c -/
def dChain (f f' : PV → PV → Mo PV) (da db dc : Env → Mo PV) : Env → Mo PV := fun ρ => bnd (da ρ) fun p => bnd (db ρ) fun q => bnd (f p q) fun z => bnd (blM z) fun b => if b = true then bnd (dc ρ) fun w => f' q w else fun st => .ok (.bl false) st
theorem de_chain {op op' : CmpOp} {r r' : R2} {f f' : PV → PV → Mo PV} (ho : On X W k E → OpR X (compareOp op) r) (hf : FOk W E r f) (ho' : On X W k E → OpR X (compareOp op') r') (hf' : FOk W E r' f') (ha : DE X W k E a da) (hb : DE X W k E b db) (hc : DE X W k E c dc)
    (hm : lastMarks [op, op'] [b, c] = false := by with_unfolding_all rfl) : DE X W k E (.Compare a [op, op'] [b, c] pos) (dChain f f' da db dc) := ⟨fun o => pe_imp (pe_chain (ho o) (ho' o) (ha.run o) (hb.run o) (hc.run o) hm) fun σ H Q t => by
  obtain ⟨ι, ρ, st, re, rs, g⟩ := t
  refine ⟨ι, ρ, st, re, rs, Good.imp (Good.bind g) fun p st1 ι1 H1 m1 r1 g1 v1 hv1 => ?_⟩
  refine ⟨ι1, ρ, st1, re.mono rs m1, r1, Good.imp (Good.bind g1) fun q st2 ι2 H2 m2 r2 g2 v2 hv2 => ?_⟩
  refine hf ι2 st2 H2 v1 v2 p q _ r2 (rv_mono r1 m2 p v1 hv1) hv2 (Good.imp (Good.bind g2) fun z st3 ι3 H3 m3 r3 g3 v3 hv3 => ?_)
  obtain ⟨b, rfl, rfl, g4⟩ := bl_of r3 hv3 (Good.bind g3)
  refine ⟨b, rfl, ?_⟩
  cases b with
  | false => exact g4.ok r3 _ (.bl false)
  | true =>
    refine ⟨ι3, ρ, st3, ((re.mono rs m1).mono r1 m2).mono r2 m3, r3, Good.imp (Good.bind g4) fun w st4 ι4 H4 m4 r4 g5 v4 hv4 => ?_⟩
    exact hf' ι4 st4 H4 v2 v4 q w Q r4 (rv_mono r3 m4 q v2 (rv_mono r2 m3 q v2 hv2)) hv4 g5⟩
theorem de_leLe (ha : DE X W k E a da) (hb : DE X W k E b db) (hc : DE X W k E c dc) (hm : lastMarks [.LtE, .LtE] [b, c] = false := by with_unfolding_all rfl) : DE X W k E (.Compare a [.LtE, .LtE] [b, c] pos) (dChain oLe oLe da db dc) :=
  de_chain (fun _ => op_le) (fok_I fun _ _ _ _ => .bl _) (fun _ => op_le) (fok_I fun _ _ _ _ => .bl _) ha hb hc hm
theorem de_leLt (ha : DE X W k E a da) (hb : DE X W k E b db) (hc : DE X W k E c dc) (hm : lastMarks [.LtE, .Lt] [b, c] = false := by with_unfolding_all rfl) : DE X W k E (.Compare a [.LtE, .Lt] [b, c] pos) (dChain oLe oLt da db dc) :=
  de_chain (fun _ => op_le) (fok_I fun _ _ _ _ => .bl _) (fun _ => op_lt) (fok_I fun _ _ _ _ => .bl _) ha hb hc hm

/-! ### arguments -/
theorem da_nil : DA X W k E [] (fun _ st => .ok [] st) := ⟨fun o => pa_imp pa_nil fun σ H Q t => by
  obtain ⟨ι, ρ, st, re, rs, g⟩ := t
  exact g.ok rs [] .nil⟩
def dCons (da : Env → Mo PV) (dl : Env → Mo (List PV)) : Env → Mo (List PV) := fun ρ => bnd (da ρ) fun p => bnd (dl ρ) fun ps => fun st => .ok (p :: ps) st
theorem da_cons (h : DE X W k E e d) (hr : DA X W k E es dl) (hs : starEach (e :: es) X.env = (false, eval e X.env) :: starEach es X.env := by rfl) : DA X W k E (e :: es) (dCons d dl) := ⟨fun o => pa_imp (pa_cons (h.run o) (hr.run o) hs) fun σ H Q t => by
  obtain ⟨ι, ρ, st, re, rs, g⟩ := t
  refine ⟨ι, ρ, st, re, rs, Good.imp (Good.bind g) fun p st1 ι1 H1 m1 r1 g1 v1 hv1 => ?_⟩
  refine ⟨ι1, ρ, st1, re.mono rs m1, r1, Good.imp (Good.bind g1) fun ps st2 ι2 H2 m2 r2 g2 vs hvs => ?_⟩
  exact g2.ok r2 _ (.cons (rv_mono r1 m2 p v1 hv1) hvs)⟩
/-- (a, b, ..) -/
def tupM (l : List PV) : Mo PV := fun st => if l.length ≤ 16777216 then .ok (.tup l) st else .stuck
theorem de_tup {x1 : Nat} (h : DA X W k E es dl) : DE X W k E (.Tuple es x1 pos) (fun ρ => bnd (dl ρ) tupM) := ⟨fun o => pe_imp (pe_tup (h.run o)) fun σ H Q t => by
  obtain ⟨ι, ρ, st, re, rs, g⟩ := t
  refine ⟨ι, ρ, st, re, rs, Good.imp (Good.bind g) fun l st1 ι1 H1 m1 r1 g1 vs hvs => ?_⟩
  obtain ⟨hc, g2⟩ := good_if g1
  exact ⟨line_le (by rw [hvs.length]; exact hc), fun p hp => good_newtup g2 r1 hvs hc hp⟩⟩
def capM (l : List PV) : Mo (List PV) := fun st => if l.length ≤ 16777216 then .ok l st else .stuck
/-- a new list that the store does not tell: it stands at p, which was free -/
theorem good_newlst {ι : List Addr} {st : Sto} {H H0 : Hp} {Q : VK} {l : List PV} {vs : List V} {p : Addr} (g : Good W E ι H (.ok l st) (kL W H0 Q)) (rs : RS W ι st H) (r : RVs W ι H vs l) (hz : l.length ≤ 16777216) (hp : H p = none) (hp0 : H0 p = none) : Q (.ref p) (upd H p (.lst vs)) := by
  have m : Mono ι H ι (upd H p (.lst vs)) := Mono.new hp
  refine g ι _ m (rs.other hp) p vs hp0 (fun z => ?_) upd_same (rvs_mono rs m _ _ r) hz
  obtain ⟨n, o, _, _, ro⟩ := rs.at_ z
  obtain ⟨u, e, _⟩ := ro.there
  rw [hp] at e
  cases e
theorem none_back {ι ι1 : List Addr} {H H1 : Hp} {p : Addr} {st : Sto} (rs : RS W ι st H) (m : Mono ι H ι1 H1) (r1 : ∀ a ∈ ι1, H1 a ≠ none) (h : H1 p = none) : H p = none := by
  cases q : H p with
  | none => rfl
  | some o =>
    by_cases hp : p ∈ ι
    · obtain ⟨n, hn⟩ := List.getElem?_of_mem hp
      exact absurd h (r1 p (List.mem_of_getElem? (m.pre n p hn)))
    · obtain ⟨o', e, _⟩ := m.keep p o q hp
      rw [h] at e
      cases e
theorem RS.some_ {ι : List Addr} {st : Sto} {H : Hp} (rs : RS W ι st H) : ∀ a ∈ ι, H a ≠ none := fun a ha z => by
  obtain ⟨n, o, _, _, ro⟩ := rs.at_ ha
  obtain ⟨u, e, _⟩ := ro.there
  rw [z] at e
  cases e
theorem dl_lst (h : DA X W k E es dl) : DL X W k E (.List es pos) (fun ρ => bnd (dl ρ) capM) := ⟨fun o => pe_imp (pe_lst (h.run o)) fun σ H Q t => by
  obtain ⟨ι, ρ, st, re, rs, g⟩ := t
  refine ⟨ι, ρ, st, re, rs, Good.imp (Good.bind g) fun l st1 ι1 H1 m1 r1 g1 vs hvs => ?_⟩
  obtain ⟨hc, g2⟩ := good_if g1
  exact ⟨line_le (by rw [hvs.length]; exact hc), fun p hp => good_newlst g2 r1 hvs hc hp (none_back rs m1 r1.some_ hp)⟩⟩
end
end PD
/-! PD: len, items, slices, isinstance, calls of built-ins and of defs. -/
namespace PD
open PySem PySem.Spec PyProof.Rows L2
section
variable {X : Cx} {W : Wd} {k : Nat} {E : XK} {a b c e : Expr} {es rest : List Expr} {pos p p2 : Pos} {da db dc d : Env → Mo PV} {dt du : Env → Mo Bool} {dl dm : Env → Mo (List PV)}

/-! ### built-ins of one sequence -/
def tQ1 (tq : TE) : TA := tCons tq tNil
def COk1 (W : Wd) (E : XK) (r : List V → Hp → VK → Prop) (f : List PV → Mo PV) : Prop := ∀ (ι : List Addr) (st : Sto) (H : Hp) (v : V) (vs : List V) (l : List PV) (Q : VK), RS W ι st H → IsSq W.K H v vs → RVs W ι H vs l → l.length ≤ 16777216 → Good W E ι H (f l st) (kQ W Q) → r [v] H Q
theorem cb_of {r : List V → Hp → VK → Prop} {f : List PV → Mo PV} (hf : COk1 W E r f) {σ : L2.St} {H : Hp} {Q : VK} (t : tD W E (fun ρ => bnd (dl ρ) f) σ H Q) : tCB r (tCons (tDQ W E dl) tNil) σ H Q := by
  obtain ⟨ι, ρ, st, re, rs, g⟩ := t
  exact ⟨ι, ρ, st, re, rs, Good.imp (Good.bind g) fun l st1 ι1 H1 m1 r1 g1 v vs hv r z => hf ι1 st1 H1 v vs l Q r1 hv r z g1⟩
theorem de_b1 {id : String} {x : Str} {r : List V → Hp → VK → Prop} {f : List PV → Mo PV} (hc : On X W k E → CallR X (.builtin id) r) (hf : COk1 W E r f) (hv : bootBuiltins x = some (.builtin id)) (hn : x ≠ "__name__") (hdb : (x == ("__debug__" : Str)) = false)
    (hg : Gl X x) (hm : W.mg x = none) (hq : DQ X W k E e dl) (hs : starEach [e] X.env = (false, eval e X.env) :: starEach [] X.env := by rfl) : DE X W k E (.Call (.Name x p) [e] [] pos) (fun ρ => bnd (dl ρ) f) :=
  ⟨fun o => pe_imp (pe_callB (hc o) hg (by rw [o.hM]; exact hm) hv (pa_cons (hq.run o) pa_nil hs) hn hdb hs (by rfl)) fun _ _ _ t => cb_of hf t⟩
theorem de_t1 {T : String} {x : Str} {r : List V → Hp → VK → Prop} {f : List PV → Mo PV} (hc : On X W k E → CallR X (.type T) r) (hf : COk1 W E r f) (hv : bootBuiltins x = some (.type T)) (hn : x ≠ "__name__") (hdb : (x == ("__debug__" : Str)) = false)
    (hg : Gl X x) (hm : W.mg x = none) (hq : DQ X W k E e dl) (hs : starEach [e] X.env = (false, eval e X.env) :: starEach [] X.env := by rfl) : DE X W k E (.Call (.Name x p) [e] [] pos) (fun ρ => bnd (dl ρ) f) :=
  ⟨fun o => pe_imp (pe_callTy (hc o) hg (by rw [o.hM]; exact hm) hv (pa_cons (hq.run o) pa_nil hs) hn hdb hs (by rfl)) fun _ _ _ t => cb_of hf t⟩
/-- .. whose answer is a new list -/
def COkL (W : Wd) (E : XK) (r : List V → Hp → VK → Prop) (f : List PV → Mo (List PV)) : Prop := ∀ (ι : List Addr) (st : Sto) (H H0 : Hp) (v : V) (vs : List V) (l : List PV) (Q : VK), RS W ι st H → (∀ q, H q = none → H0 q = none) → IsSq W.K H v vs → RVs W ι H vs l → l.length ≤ 16777216 → Good W E ι H (f l st) (kL W H0 Q) → r [v] H Q
theorem cbL_of {r : List V → Hp → VK → Prop} {f : List PV → Mo (List PV)} (hf : COkL W E r f) {σ : L2.St} {H : Hp} {Q : VK} (t : tDL W E (fun ρ => bnd (dl ρ) f) σ H Q) : tCB r (tCons (tDQ W E dl) tNil) σ H Q := by
  obtain ⟨ι, ρ, st, re, rs, g⟩ := t
  exact ⟨ι, ρ, st, re, rs, Good.imp (Good.bind g) fun l st1 ι1 H1 m1 r1 g1 v vs hv r z => hf ι1 st1 H1 H v vs l Q r1 (fun q hq => none_back rs m1 r1.some_ hq) hv r z g1⟩
theorem dl_b1 {id : String} {x : Str} {r : List V → Hp → VK → Prop} {f : List PV → Mo (List PV)} (hc : On X W k E → CallR X (.builtin id) r) (hf : COkL W E r f) (hv : bootBuiltins x = some (.builtin id)) (hn : x ≠ "__name__") (hdb : (x == ("__debug__" : Str)) = false)
    (hg : Gl X x) (hm : W.mg x = none) (hq : DQ X W k E e dl) (hs : starEach [e] X.env = (false, eval e X.env) :: starEach [] X.env := by rfl) : DL X W k E (.Call (.Name x p) [e] [] pos) (fun ρ => bnd (dl ρ) f) :=
  ⟨fun o => pe_imp (pe_callB (hc o) hg (by rw [o.hM]; exact hm) hv (pa_cons (hq.run o) pa_nil hs) hn hdb hs (by rfl)) fun _ _ _ t => cbL_of hf t⟩
theorem dl_t1 {T : String} {x : Str} {r : List V → Hp → VK → Prop} {f : List PV → Mo (List PV)} (hc : On X W k E → CallR X (.type T) r) (hf : COkL W E r f) (hv : bootBuiltins x = some (.type T)) (hn : x ≠ "__name__") (hdb : (x == ("__debug__" : Str)) = false)
    (hg : Gl X x) (hm : W.mg x = none) (hq : DQ X W k E e dl) (hs : starEach [e] X.env = (false, eval e X.env) :: starEach [] X.env := by rfl) : DL X W k E (.Call (.Name x p) [e] [] pos) (fun ρ => bnd (dl ρ) f) :=
  ⟨fun o => pe_imp (pe_callTy (hc o) hg (by rw [o.hM]; exact hm) hv (pa_cons (hq.run o) pa_nil hs) hn hdb hs (by rfl)) fun _ _ _ t => cbL_of hf t⟩

/-! len -/
def rLenQ (K : PySem.W.Frag) : List V → Hp → VK → Prop := fun xs H Q => ∃ p ys, xs = [.ref p] ∧ (SqL K H p ys ∨ SqT K H p ys) ∧ Q (.int ys.length) H
def rListQ (K : PySem.W.Frag) : List V → Hp → VK → Prop := fun xs H Q => ∃ p ys, xs = [.ref p] ∧ (SqL K H p ys ∨ SqT K H p ys) ∧ ∀ l, H l = none → Q (.ref l) (upd H l (.lst ys))
def rTupQ (K : PySem.W.Frag) : List V → Hp → VK → Prop := fun xs H Q => ∃ p ys, xs = [.ref p] ∧ ((SqL K H p ys ∧ ∀ l, H l = none → Q (.ref l) (upd H l (.tup ys))) ∨ (SqT K H p ys ∧ Q (.ref p) H))
def lenQ (l : List PV) : Mo PV := fun st => .ok (.int l.length) st
theorem de_lenQ (hq : DQ X W k E e dl) (hg : Gl X "len") (hm : W.mg "len" = none) (hs : starEach [e] X.env = (false, eval e X.env) :: starEach [] X.env := by rfl) : DE X W k E (.Call (.Name "len" p) [e] [] pos) (fun ρ => bnd (dl ρ) lenQ) :=
  de_b1 (r := rLenQ W.K) (fun o => by rw [← o.hK]; exact call_len_seq) (fun ι st H v vs l Q rs hv r z g => by
    obtain ⟨q, rfl, hq⟩ := hv
    refine ⟨q, vs, rfl, hq, ?_⟩
    rw [r.length]
    exact g.ok rs _ (.int _)) PySem.boot_len (by decide) (by decide) hg hm hq hs
/-- of a text, too -/
def lenM (q : PV) : Mo PV := fun st => match q with
  | .str s => if s.length ≤ 16777216 then .ok (.int s.length) st else .stuck
  | q => match seqOf st q with
    | some l => .ok (.int l.length) st
    | none => .stuck
theorem de_lenV (h : DE X W k E e d) (hg : Gl X "len") (hm : W.mg "len" = none) (hs : starEach [e] X.env = (false, eval e X.env) :: starEach [] X.env := by rfl) : DE X W k E (.Call (.Name "len" p) [e] [] pos) (fun ρ => bnd (d ρ) lenM) :=
  ⟨fun o => pe_imp (pe_callB (call_len (X := X)) hg (by rw [o.hM]; exact hm) PySem.boot_len (pa_cons (h.run o) pa_nil hs) (by decide) (by decide) hs (by rfl)) fun σ H Q t => by
    obtain ⟨ι, ρ, st, re, rs, g⟩ := t
    refine ⟨ι, ρ, st, re, rs, Good.imp (Good.bind g) fun q st1 ι1 H1 m1 r1 g1 v hv => ?_⟩
    have gen : ∀ l, seqOf st1 q = some l → Good W E ι1 H1 (.ok (.int l.length) st1) (kQ W Q) → ∃ x n, [v] = [x] ∧ LenV X.K x H1 n ∧ Q (.int n) H1 := fun l hl g2 => by
      obtain ⟨vs, ⟨w, rfl, hw⟩, h2, _⟩ := seq_sq r1 hv hl
      refine ⟨_, l.length, rfl, ?_, g2.ok r1 _ (.int _)⟩
      rw [o.hK]
      rcases hw with hw | hw
      · exact .inl ⟨vs, hw, h2.length.symm⟩
      · exact .inr ⟨vs, hw, h2.length.symm⟩
    cases hv with
    | str s =>
      obtain ⟨hc, g2⟩ := good_if g1
      exact ⟨_, _, rfl, ⟨line_le hc, rfl⟩, g2.ok r1 _ (.int _)⟩
    | tup sq rr z => exact gen _ rfl g1
    | loc hn =>
      rename_i n a
      have g2 : Good W E ι1 H1 (match seqOf st1 (.loc n) with | some l => .ok (.int l.length) st1 | none => .stuck) (kQ W Q) := g1
      cases hl : seqOf st1 (.loc n) with
      | none => rw [hl] at g2; exact g2.elim
      | some l => rw [hl] at g2; exact gen l hl g2
    | non => exact g1.elim
    | bl => exact g1.elim
    | int => exact g1.elim
    | fn => exact g1.elim
    | kl hk z => exact gen _ rfl g1⟩

/-! ### items -/
theorem atI_rv {ι : List Addr} {H : Hp} {vs : List V} {l : List PV} {i : Int} {q : PV} (r : RVs W ι H vs l) (h : atI l i = some q) : ∃ v, atI vs i = some v ∧ RV W ι H v q := by
  unfold atI at h ⊢
  rw [r.length]
  cases hj : ixN l.length i with
  | none => rw [hj] at h; cases h
  | some j =>
    rw [hj] at h
    exact r.get h
def oIx (q i : PV) : Mo PV := fun st => match i with
  | .int i => match seqOf st q with
    | some l => match atI l i with
      | some z => .ok z st
      | none => .stuck
    | none => .stuck
  | _ => .stuck
theorem fok_ix : FOk W E (rIx W.K) oIx := by
  intro ι st H x y q i Q rs hx hy g
  cases hy <;> first
    | exact g.elim
    | (rename_i i
       have g2 : Good W E ι H (match seqOf st q with | some l => (match atI l i with | some z => .ok z st | none => .stuck) | none => .stuck) (kQ W Q) := g
       cases hl : seqOf st q with
       | none => rw [hl] at g2; exact g2.elim
       | some l =>
         rw [hl] at g2
         dsimp only at g2
         cases hz : atI l i with
         | none => rw [hz] at g2; exact g2.elim
         | some z =>
           rw [hz] at g2
           obtain ⟨vs, ⟨w, rfl, hw⟩, h2, _⟩ := seq_sq rs hx hl
           obtain ⟨v, hv, rv⟩ := atI_rv h2 hz
           rcases hw with hw | hw
           · exact .inl ⟨w, vs, i, v, rfl, rfl, hw, hv, g2.ok rs v rv⟩
           · exact .inr (.inl ⟨w, vs, i, v, rfl, rfl, hw, hv, g2.ok rs v rv⟩))
theorem de_ix (ha : DE X W k E a da) (hb : DE X W k E b db) (hs : PlainIx b := by intro _ _; rfl) : DE X W k E (.Subscript a b pos) (dBin oIx da db) :=
  ⟨fun o => pe_imp (pe_ix (by rw [← o.hK]; exact ix_seq) (ha.run o) (hb.run o) hs) fun _ _ _ h => op_of fok_ix h⟩
/-- .. of a list that is made on the way -/
def ixQ (l : List PV) (i : PV) : Mo PV := fun st => match i with
  | .int i => match atI l i with
    | some z => .ok z st
    | none => .stuck
  | _ => .stuck
theorem lst_mono {ι ι' : List Addr} {H H' : Hp} {q : Addr} {vs : List V} (m : Mono ι H ι' H') (hn : q ∉ ι) (e : H q = some (.lst vs)) : H' q = some (.lst vs) := by
  obtain ⟨o', e', kp⟩ := m.keep q _ e hn
  rcases kp with rfl | ⟨_, _, z, _⟩
  · exact e'
  · cases z
theorem de_ixL (ha : DL X W k E a dl) (hb : DE X W k E b db) (hs : PlainIx b := by intro _ _; rfl) : DE X W k E (.Subscript a b pos) (fun ρ => bnd (dl ρ) fun l => bnd (db ρ) fun i => ixQ l i) :=
  ⟨fun o => pe_imp (pe_ix (r := rIxL W.K) (by rw [← o.hK]; exact ix_list) (ha.run o) (hb.run o) hs) fun σ H Q t => by
    obtain ⟨ι, ρ, st, re, rs, g⟩ := t
    refine ⟨ι, ρ, st, re, rs, Good.imp (Good.bind g) fun l st1 ι1 H1 m1 r1 g1 q vs hq0 hn e1 r z => ?_⟩
    refine ⟨ι1, ρ, st1, re.mono rs m1, r1, Good.imp (Good.bind g1) fun i st2 ι2 H2 m2 r2 g2 w hw => ?_⟩
    cases hw <;> first
      | exact g2.elim
      | (rename_i i
         have g3 : Good W E ι2 H2 (match atI l i with | some z => .ok z st2 | none => .stuck) (kQ W Q) := g2
         cases hz : atI l i with
         | none => rw [hz] at g3; exact g3.elim
         | some y =>
           rw [hz] at g3
           obtain ⟨v, hv, rv⟩ := atI_rv (rvs_mono r1 m2 _ _ r) hz
           exact ⟨q, vs, i, v, rfl, rfl, SqL.of (lst_mono m2 hn e1), hv, g3.ok r2 v rv⟩)⟩

/-! ### slices -/
def tDO (W : Wd) (E : XK) (d : Env → Mo (Option Int)) : TO := fun σ H Q => ∃ ι ρ st, RE W ι H ρ σ ∧ RS W ι st H ∧ Good W E ι H (d ρ st) (fun o _ _ H' => Q o H')
structure DO (X : Cx) (W : Wd) (k : Nat) (E : XK) (e : Option Expr) (d : Env → Mo (Option Int)) : Prop where
  run : On X W k E → PO X e (tDO W E d)
theorem po_imp {eo : Option Expr} {t t' : TO} (h : PO X eo t) (hi : ∀ σ H Q, t' σ H Q → t σ H Q) : PO X eo t' := ⟨fun pins s σ H Q I w => h.run pins s σ H Q I (hi σ H Q w)⟩
theorem do_none : DO X W k E none (fun _ st => .ok none st) := ⟨fun o => po_imp po_none fun σ H Q t => by
  obtain ⟨ι, ρ, st, re, rs, g⟩ := t
  exact g.ok rs⟩
def intM (q : PV) : Mo (Option Int) := fun st => match q with
  | .int i => .ok (some i) st
  | _ => .stuck
theorem do_some (h : DE X W k E e d) : DO X W k E (some e) (fun ρ => bnd (d ρ) intM) := ⟨fun o => po_imp (po_some (h.run o)) fun σ H Q t => by
  obtain ⟨ι, ρ, st, re, rs, g⟩ := t
  refine ⟨ι, ρ, st, re, rs, Good.imp (Good.bind g) fun q st1 ι1 H1 m1 r1 g1 v hv => ?_⟩
  cases hv <;> first
    | exact ⟨_, rfl, g1.ok r1⟩
    | exact g1.elim⟩
def cutP (l : List PV) (lo hi : Option Int) : List PV := (l.drop (HT.sIx l.length 0 lo)).take (HT.sIx l.length l.length hi - HT.sIx l.length 0 lo)
theorem cutP_len (l : List PV) (lo hi : Option Int) : (cutP l lo hi).length ≤ l.length := by
  unfold cutP
  rw [List.length_take, List.length_drop]
  omega
theorem cut_rv {ι : List Addr} {H : Hp} {vs : List V} {l : List PV} (lo hi : Option Int) (r : RVs W ι H vs l) : RVs W ι H (cutV vs lo hi) (cutP l lo hi) := by
  unfold cutV cutP
  rw [r.length]
  exact (r.drop _).take _
def dSl (d : Env → Mo PV) (d1 d2 : Env → Mo (Option Int)) (f : PV → Option Int → Option Int → Mo PV) : Env → Mo PV := fun ρ => bnd (d ρ) fun q => bnd (d1 ρ) fun lo => bnd (d2 ρ) fun hi => f q lo hi
def slT (q : PV) (lo hi : Option Int) : Mo PV := fun st => match q with
  | .tup l => .ok (.tup (cutP l lo hi)) st
  | _ => .stuck
theorem de_slT {lo hi : Option Expr} {d1 d2 : Env → Mo (Option Int)} (h : DE X W k E e d) (h1 : DO X W k E lo d1) (h2 : DO X W k E hi d2) : DE X W k E (.Subscript e (.Slice lo hi none p2) pos) (dSl d d1 d2 slT) :=
  ⟨fun o => pe_imp (pe_slice (r := rSlA W.K) (by rw [← o.hK]; exact sl_tupA) (h.run o) (h1.run o) (h2.run o)) fun σ H Q t => by
    obtain ⟨ι, ρ, st, re, rs, g⟩ := t
    refine ⟨ι, ρ, st, re, rs, Good.imp (Good.bind g) fun q st1 ι1 H1 m1 r1 g1 v hv => ?_⟩
    refine ⟨ι1, ρ, st1, re.mono rs m1, r1, Good.imp (Good.bind g1) fun lo st2 ι2 H2 m2 r2 g2 => ?_⟩
    refine ⟨ι2, ρ, st2, (re.mono rs m1).mono r1 m2, r2, Good.imp (Good.bind g2) fun hi st3 ι3 H3 m3 r3 g3 => ?_⟩
    have hv3 := rv_mono r2 m3 q v (rv_mono r1 m2 q v hv)
    cases hv3 <;> first
      | exact g3.elim
      | (rename_i a vs l sq rr z
         refine ⟨a, vs, rfl, sq, fun hw => ?_, fun _ w hw => ?_⟩
         · have e1 : cutP l lo hi = l := by
             unfold cutP
             rw [← rr.length, hw.1, hw.2]
             simp [rr.length]
           have g4 : Good W E ι3 H3 (.ok (.tup (cutP l lo hi)) st3) (kQ W Q) := g3
           rw [e1] at g4
           exact g4.ok r3 _ (.tup sq rr z)
         · exact good_newtup g3 r3 (cut_rv lo hi rr) (Nat.le_trans (cutP_len l lo hi) z) hw)⟩
/-- a slice of a list: a new one -/
def lstM (q : PV) : Mo (List PV) := fun st => match q with
  | .loc n => match st[n]? with
    | some (.lst _ l) => .ok l st
    | _ => .stuck
  | .kl ns => .ok (ns.map PV.int) st
  | _ => .stuck
theorem lst_of {α : Type} {ι : List Addr} {st : Sto} {H : Hp} {v : V} {q : PV} {kk : List PV → Sto → List Addr → Hp → Prop} (rs : RS W ι st H) (r : RV W ι H v q) (g : Good W E ι H (lstM q st) kk) : ∃ a vs l, v = .ref a ∧ SqL W.K H a vs ∧ RVs W ι H vs l ∧ l.length ≤ 16777216 ∧ kk l st ι H := by
  cases r with
  | loc hn =>
    rename_i n a
    unfold lstM at g
    dsimp only at g
    cases q : st[n]? with
    | none => rw [q] at g; exact g.elim
    | some o =>
      rw [q] at g
      cases o with
      | lst lk m =>
        obtain ⟨vs, h1, h2, h3⟩ := ro_sql (rs.ob n _ a q hn)
        exact ⟨a, vs, m, rfl, h1, h2, h3, g.ok rs⟩
      | dct _ _ => exact g.elim
      | sti _ => exact g.elim
  | kl hk z => exact ⟨_, _, _, rfl, .inr hk, RVs.ints _, by rw [List.length_map]; exact z, g.ok rs⟩
  | _ => exact g.elim
def dSlL (d : Env → Mo PV) (d1 d2 : Env → Mo (Option Int)) : Env → Mo (List PV) := fun ρ => bnd (d ρ) fun q => bnd (d1 ρ) fun lo => bnd (d2 ρ) fun hi => bnd (lstM q) fun l => fun st => .ok (cutP l lo hi) st
theorem dl_sl {lo hi : Option Expr} {d1 d2 : Env → Mo (Option Int)} (h : DE X W k E e d) (h1 : DO X W k E lo d1) (h2 : DO X W k E hi d2) : DL X W k E (.Subscript e (.Slice lo hi none p2) pos) (dSlL d d1 d2) :=
  ⟨fun o => pe_imp (pe_slice (r := rSlL W.K) (by rw [← o.hK]; exact sl_list) (h.run o) (h1.run o) (h2.run o)) fun σ H Q t => by
    obtain ⟨ι, ρ, st, re, rs, g⟩ := t
    refine ⟨ι, ρ, st, re, rs, Good.imp (Good.bind g) fun q st1 ι1 H1 m1 r1 g1 v hv => ?_⟩
    refine ⟨ι1, ρ, st1, re.mono rs m1, r1, Good.imp (Good.bind g1) fun lo st2 ι2 H2 m2 r2 g2 => ?_⟩
    refine ⟨ι2, ρ, st2, (re.mono rs m1).mono r1 m2, r2, Good.imp (Good.bind g2) fun hi st3 ι3 H3 m3 r3 g3 => ?_⟩
    have hv3 := rv_mono r2 m3 q v (rv_mono r1 m2 q v hv)
    obtain ⟨a, vs, l, rfl, sq, rr, z, g4⟩ := lst_of (α := Nat) r3 hv3 (Good.bind g3)
    exact ⟨a, vs, rfl, sq, fun w hw => good_newlst g4 r3 (cut_rv lo hi rr) (Nat.le_trans (cutP_len l lo hi) z) hw (none_back rs ((m1.trans m2).trans m3) r3.some_ hw)⟩⟩

/-! ### isinstance -/
inductive Kd where
  | non | bl | int | str | tup | lst | dct
  deriving DecidableEq
def Kd.ty : Kd → String
  | .non => "NoneType"
  | .bl => "bool"
  | .int => "int"
  | .str => "str"
  | .tup => "tuple"
  | .lst => "list"
  | .dct => "dict"
def kdM (q : PV) : Mo Kd := fun st => match q with
  | .non => .ok .non st
  | .bl _ => .ok .bl st
  | .int _ => .ok .int st
  | .str _ => .ok .str st
  | .tup _ => .ok .tup st
  | .loc n => match st[n]? with
    | some (.lst _ _) => .ok .lst st
    | some (.dct false _) => .ok .dct st
    | _ => .stuck
  | .fn _ => .stuck
  | .kl _ => .stuck
def isK : Kd → Kd → Bool
  | .bl, .int => true
  | a, b => decide (a = b)
theorem kd_of {ι : List Addr} {st : Sto} {H : Hp} {v : V} {q : PV} {kk : Kd → Sto → List Addr → Hp → Prop} (rs : RS W ι st H) (r : RV W ι H v q) (g : Good W E ι H (kdM q st) kk) : ∃ d, TyX W.K H v (.type (Kd.ty d)) ∧ kk d st ι H := by
  cases r with
  | non => exact ⟨.non, .base .non, g.ok rs⟩
  | bl b => exact ⟨.bl, .base (.bl b), g.ok rs⟩
  | int i => exact ⟨.int, .base (.int i), g.ok rs⟩
  | str s => exact ⟨.str, .base (.str s), g.ok rs⟩
  | fn => exact g.elim
  | kl => exact g.elim
  | tup sq rr z =>
    refine ⟨.tup, ?_, g.ok rs⟩
    rcases sq with (sq | ⟨o, sq⟩) | ⟨o, its, n, h1, h2, _⟩
    · exact .base (.tup sq)
    · exact .fTuple sq
    · exact .kTuple h1 h2
  | loc hn =>
    rename_i n a
    unfold kdM at g
    dsimp only at g
    cases q : st[n]? with
    | none => rw [q] at g; exact g.elim
    | some o =>
      rw [q] at g
      have ro := rs.ob n o a q hn
      cases o with
      | lst lk m =>
        refine ⟨.lst, ?_, g.ok rs⟩
        cases lk with
        | false => obtain ⟨vs, e, _⟩ := ro; exact .base (.lst e)
        | true => obtain ⟨o, vs, e, _⟩ := ro; exact .base (.frz e)
      | dct lk m =>
        cases lk with
        | true => exact g.elim
        | false => obtain ⟨vs, e, _⟩ := ro; exact ⟨.dct, .base (.dK e), g.ok rs⟩
      | sti _ => exact g.elim
def dIsi (t : Kd) (d : Env → Mo PV) : Env → Mo PV := fun ρ => bnd (d ρ) fun q => bnd (kdM q) fun kd => fun st => .ok (.bl (isK kd t)) st
theorem kit_kd : ∀ a b : Kd, kitB (Kd.ty a) (Kd.ty b) = some (isK a b) := by
  intro a b
  cases a <;> cases b <;> decide +kernel
theorem de_isi {T : Str} (t : Kd) (h : DE X W k E e d) (hg : Gl X "isinstance") (hm : W.mg "isinstance" = none) (hgT : Gl X T) (hmT : W.mg T = none) (hT : bootBuiltins T = some (.type (Kd.ty t)))
    (hn : T ≠ "__name__" := by decide) (hd : (T == ("__debug__" : Str)) = false := by decide)
    (hs : starEach [e, .Name T p2] X.env = (false, eval e X.env) :: starEach [.Name T p2] X.env := by rfl) : DE X W k E (.Call (.Name "isinstance" p) [e, .Name T p2] [] pos) (dIsi t d) :=
  ⟨fun o => pe_imp (pe_callB (r := rIsi W.K) (by rw [← o.hK]; exact call_isi) hg (by rw [o.hM]; exact hm) (by decide +kernel) (pa_cons (h.run o) (pa_cons (pe_bltn (v := .ty (Kd.ty t)) hgT (by rw [o.hM]; exact hmT) hT rfl hn hd) pa_nil (by rfl)) hs) (by decide) (by decide) hs (by rfl)) fun σ H Q t0 => by
    obtain ⟨ι, ρ, st, re, rs, g⟩ := t0
    refine ⟨ι, ρ, st, re, rs, Good.imp (Good.bind g) fun q st1 ι1 H1 m1 r1 g1 v hv => ?_⟩
    obtain ⟨kd, ty, g2⟩ := kd_of r1 hv (Good.bind g1)
    exact ⟨v, .ty (Kd.ty t), _, _, _, rfl, .ty _, ty, kit_ty (kit_kd kd t), g2.ok r1 _ (.bl _)⟩⟩
theorem boot_int_ : bootBuiltins "int" = some (.type "int") := by decide +kernel
theorem boot_bool_ : bootBuiltins "bool" = some (.type "bool") := by decide +kernel
theorem boot_str_ : bootBuiltins "str" = some (.type "str") := by decide +kernel
theorem boot_tuple_ : bootBuiltins "tuple" = some (.type "tuple") := by decide +kernel
theorem boot_list_ : bootBuiltins "list" = some (.type "list") := by decide +kernel

/-! ### tuple(..), list(..), int(..) -/
def tupQ (l : List PV) : Mo PV := fun st => .ok (.tup l) st
theorem de_tuple (hq : DQ X W k E e dl) (hg : Gl X "tuple") (hm : W.mg "tuple" = none) (hs : starEach [e] X.env = (false, eval e X.env) :: starEach [] X.env := by rfl) : DE X W k E (.Call (.Name "tuple" p) [e] [] pos) (fun ρ => bnd (dl ρ) tupQ) :=
  de_t1 (r := rTupQ W.K) (fun o => by rw [← o.hK]; exact call_tuple_of) (fun ι st H v vs l Q rs hv r z g => by
    obtain ⟨q, rfl, hq⟩ := hv
    rcases hq with hq | hq
    · exact ⟨q, vs, rfl, .inl ⟨hq, fun w hw => good_newtup g rs r z hw⟩⟩
    · exact ⟨q, vs, rfl, .inr ⟨hq, g.ok rs _ (.tup hq r z)⟩⟩) boot_tuple_ (by decide) (by decide) hg hm hq hs
theorem dl_list (hq : DQ X W k E e dl) (hg : Gl X "list") (hm : W.mg "list" = none) (hs : starEach [e] X.env = (false, eval e X.env) :: starEach [] X.env := by rfl) : DL X W k E (.Call (.Name "list" p) [e] [] pos) (fun ρ => bnd (dl ρ) fun l => fun st => .ok l st) :=
  dl_t1 (r := rListQ W.K) (fun o => by rw [← o.hK]; exact call_list_of) (fun ι st H H0 v vs l Q rs hb hv r z g => by
    obtain ⟨q, rfl, hq⟩ := hv
    exact ⟨q, vs, rfl, hq, fun w hw => good_newlst g rs r z hw (hb w hw)⟩) boot_list_ (by decide) (by decide) hg hm hq hs
def intV (q : PV) : Mo PV := fun st => match q with
  | .int i => .ok (.int i) st
  | .bl b => .ok (.int (if b = true then 1 else 0)) st
  | _ => .stuck
theorem de_intc (h : DE X W k E e d) (hg : Gl X "int") (hm : W.mg "int" = none) (hs : starEach [e] X.env = (false, eval e X.env) :: starEach [] X.env := by rfl) : DE X W k E (.Call (.Name "int" p) [e] [] pos) (fun ρ => bnd (d ρ) intV) :=
  ⟨fun o => pe_imp (pe_callTy (call_int1 (X := X)) hg (by rw [o.hM]; exact hm) boot_int_ (pa_cons (h.run o) pa_nil hs) (by decide) (by decide) hs (by rfl)) fun σ H Q t => by
    obtain ⟨ι, ρ, st, re, rs, g⟩ := t
    refine ⟨ι, ρ, st, re, rs, Good.imp (Good.bind g) fun q st1 ι1 H1 m1 r1 g1 v hv => ?_⟩
    cases hv <;> first
      | exact .inl ⟨_, rfl, g1.ok r1 _ (.int _)⟩
      | exact .inr ⟨_, rfl, g1.ok r1 _ (.int _)⟩
      | exact g1.elim⟩
def strV (q : PV) : Mo PV := fun st => match q with
  | .int i => if i.natAbs.log2 < 1920 then .ok (.str (toString i)) st else .stuck
  | _ => .stuck
theorem de_strc (h : DE X W k E e d) (hg : Gl X "str") (hm : W.mg "str" = none) (hs : starEach [e] X.env = (false, eval e X.env) :: starEach [] X.env := by rfl) : DE X W k E (.Call (.Name "str" p) [e] [] pos) (fun ρ => bnd (d ρ) strV) :=
  ⟨fun o => pe_imp (pe_callTy (call_str_int (X := X)) hg (by rw [o.hM]; exact hm) boot_str_ (pa_cons (h.run o) pa_nil hs) (by decide) (by decide) hs (by rfl)) fun σ H Q t => by
    obtain ⟨ι, ρ, st, re, rs, g⟩ := t
    refine ⟨ι, ρ, st, re, rs, Good.imp (Good.bind g) fun q st1 ι1 H1 m1 r1 g1 v hv => ?_⟩
    cases hv <;> first
      | (obtain ⟨hc, g2⟩ := good_if g1
         exact ⟨_, rfl, hc, g2.ok r1 _ (.str _)⟩)
      | exact g1.elim⟩
/-! max, min of two ints -/
def oMax : PV → PV → Mo PV
  | .int i, .int j => fun st => .ok (.int (if j > i then j else i)) st
  | _, _ => fail
def oMin : PV → PV → Mo PV
  | .int i, .int j => fun st => .ok (.int (if j < i then j else i)) st
  | _, _ => fail
theorem boot_max_ : bootBuiltins "max" = some (.builtin "max") := by decide +kernel
theorem boot_min_ : bootBuiltins "min" = some (.builtin "min") := by decide +kernel
theorem de_max2 (ha : DE X W k E a da) (hb : DE X W k E b db) (hg : Gl X "max") (hm : W.mg "max" = none) (hs : starEach [a, b] X.env = (false, eval a X.env) :: starEach [b] X.env := by rfl) (hs2 : starEach [b] X.env = (false, eval b X.env) :: starEach [] X.env := by rfl)
    (hpl : (backTo pos (starEach [b] X.env)).any (·.1) = false := by rfl) : DE X W k E (.Call (.Name "max" p) [a, b] [] pos) (dBin oMax da db) :=
  ⟨fun o => pe_imp (pe_callB (call_max2 (X := X) o.hc) hg (by rw [o.hM]; exact hm) boot_max_ (pa_cons (ha.run o) (pa_cons (hb.run o) pa_nil hs2) hs) (by decide) (by decide) hs hpl) fun σ H Q t => by
    obtain ⟨ι, ρ, st, re, rs, g⟩ := t
    refine ⟨ι, ρ, st, re, rs, Good.imp (Good.bind g) fun q st1 ι1 H1 m1 r1 g1 v hv => ?_⟩
    refine ⟨ι1, ρ, st1, re.mono rs m1, r1, Good.imp (Good.bind g1) fun q2 st2 ι2 H2 m2 r2 g2 w hw => ?_⟩
    cases hv <;> cases hw <;> first
      | exact ⟨_, _, rfl, g2.ok r2 _ (.int _)⟩
      | exact g2.elim⟩
theorem de_min2 (ha : DE X W k E a da) (hb : DE X W k E b db) (hg : Gl X "min") (hm : W.mg "min" = none) (hs : starEach [a, b] X.env = (false, eval a X.env) :: starEach [b] X.env := by rfl) (hs2 : starEach [b] X.env = (false, eval b X.env) :: starEach [] X.env := by rfl)
    (hpl : (backTo pos (starEach [b] X.env)).any (·.1) = false := by rfl) : DE X W k E (.Call (.Name "min" p) [a, b] [] pos) (dBin oMin da db) :=
  ⟨fun o => pe_imp (pe_callB (call_min2 (X := X) o.hc) hg (by rw [o.hM]; exact hm) boot_min_ (pa_cons (ha.run o) (pa_cons (hb.run o) pa_nil hs2) hs) (by decide) (by decide) hs hpl) fun σ H Q t => by
    obtain ⟨ι, ρ, st, re, rs, g⟩ := t
    refine ⟨ι, ρ, st, re, rs, Good.imp (Good.bind g) fun q st1 ι1 H1 m1 r1 g1 v hv => ?_⟩
    refine ⟨ι1, ρ, st1, re.mono rs m1, r1, Good.imp (Good.bind g1) fun q2 st2 ι2 H2 m2 r2 g2 w hw => ?_⟩
    cases hv <;> cases hw <;> first
      | exact ⟨_, _, rfl, g2.ok r2 _ (.int _)⟩
      | exact g2.elim⟩
/-! ### all, any of a list of bools; sum of a list of ints -/
def blsM : List PV → Mo (List Bool)
  | [] => fun st => .ok [] st
  | .bl b :: l => bnd (blsM l) fun bs => fun st => .ok (b :: bs) st
  | _ :: _ => fail
theorem bls_of {ι : List Addr} {H : Hp} : ∀ {l : List PV} {vs : List V} {st : Sto} {kk : List Bool → Sto → List Addr → Hp → Prop}, RS W ι st H → RVs W ι H vs l → Good W E ι H (blsM l st) kk → ∃ bs, vs = bs.map V.bl ∧ kk bs st ι H
  | [], _, st, kk, rs, .nil, g => ⟨[], rfl, g.ok rs⟩
  | p :: l, _, st, kk, rs, .cons hv r, g => by
    cases hv with
    | bl b =>
      obtain ⟨bs, e, g2⟩ := bls_of rs r (Good.bind g)
      exact ⟨b :: bs, by rw [e]; rfl, g2.ok rs⟩
    | _ => exact g.elim
def allQ (l : List PV) : Mo PV := bnd (blsM l) fun bs => fun st => .ok (.bl (bs.all id)) st
def anyQ (l : List PV) : Mo PV := bnd (blsM l) fun bs => fun st => .ok (.bl (bs.any id)) st
theorem boot_all_ : bootBuiltins "all" = some (.builtin "all") := by decide +kernel
theorem boot_any_ : bootBuiltins "any" = some (.builtin "any") := by decide +kernel
theorem boot_sum_ : bootBuiltins "sum" = some (.builtin "sum") := by decide +kernel
theorem sq_list {ι : List Addr} {H : Hp} {v : V} {vs : List V} {K : PySem.W.Frag} (h : IsSq K H v vs) : ∃ p, v = .ref p := by
  obtain ⟨p, rfl, _⟩ := h
  exact ⟨p, rfl⟩
theorem cbl_of {r : List V → Hp → VK → Prop} {f : List PV → Mo PV} (hf : ∀ (ι : List Addr) (st : Sto) (H : Hp) (q : Addr) (vs : List V) (l : List PV) (Q : VK), RS W ι st H → H q = some (.lst vs) → RVs W ι H vs l → l.length ≤ 16777216 → Good W E ι H (f l st) (kQ W Q) → r [.ref q] H Q) {σ : L2.St} {H : Hp} {Q : VK} (t : tD W E (fun ρ => bnd (dl ρ) f) σ H Q) : tCB r (tCons (tDL W E dl) tNil) σ H Q := by
  obtain ⟨ι, ρ, st, re, rs, g⟩ := t
  exact ⟨ι, ρ, st, re, rs, Good.imp (Good.bind g) fun l st1 ι1 H1 m1 r1 g1 q vs _ _ e1 r z => hf ι1 st1 H1 q vs l Q r1 e1 r z g1⟩
theorem de_all (hq : DL X W k E e dl) (hg : Gl X "all") (hm : W.mg "all" = none) (hs : starEach [e] X.env = (false, eval e X.env) :: starEach [] X.env := by rfl) : DE X W k E (.Call (.Name "all" p) [e] [] pos) (fun ρ => bnd (dl ρ) allQ) :=
  ⟨fun o => pe_imp (pe_callB (r := rAll W.K) (by rw [← o.hK]; exact cr_all o.hc) hg (by rw [o.hM]; exact hm) boot_all_ (pa_cons (hq.run o) pa_nil hs) (by decide) (by decide) hs (by rfl)) fun σ H Q t => cbl_of (fun ι st H q vs l Q rs e1 r z g => by
    obtain ⟨bs, rfl, g2⟩ := bls_of rs r (Good.bind g)
    exact ⟨q, bs, rfl, SqL.of e1, g2.ok rs _ (.bl _)⟩) t⟩
theorem de_any (hq : DL X W k E e dl) (hg : Gl X "any") (hm : W.mg "any" = none) (hs : starEach [e] X.env = (false, eval e X.env) :: starEach [] X.env := by rfl) : DE X W k E (.Call (.Name "any" p) [e] [] pos) (fun ρ => bnd (dl ρ) anyQ) :=
  ⟨fun o => pe_imp (pe_callB (r := rAny W.K) (by rw [← o.hK]; exact cr_any o.hc) hg (by rw [o.hM]; exact hm) boot_any_ (pa_cons (hq.run o) pa_nil hs) (by decide) (by decide) hs (by rfl)) fun σ H Q t => cbl_of (fun ι st H q vs l Q rs e1 r z g => by
    obtain ⟨bs, rfl, g2⟩ := bls_of rs r (Good.bind g)
    exact ⟨q, bs, rfl, SqL.of e1, g2.ok rs _ (.bl _)⟩) t⟩
def intsM : List PV → Mo (List Int)
  | [] => fun st => .ok [] st
  | .int i :: l => bnd (intsM l) fun bs => fun st => .ok (i :: bs) st
  | _ :: _ => fail
theorem ints_of {ι : List Addr} {H : Hp} : ∀ {l : List PV} {vs : List V} {st : Sto} {kk : List Int → Sto → List Addr → Hp → Prop}, RS W ι st H → RVs W ι H vs l → Good W E ι H (intsM l st) kk → ∃ bs, vs = bs.map V.int ∧ kk bs st ι H
  | [], _, st, kk, rs, .nil, g => ⟨[], rfl, g.ok rs⟩
  | p :: l, _, st, kk, rs, .cons hv r, g => by
    cases hv with
    | int b =>
      obtain ⟨bs, e, g2⟩ := ints_of rs r (Good.bind g)
      exact ⟨b :: bs, by rw [e]; rfl, g2.ok rs⟩
    | _ => exact g.elim
def sumQ (l : List PV) : Mo PV := bnd (intsM l) fun bs => fun st => .ok (.int bs.sum) st
theorem de_sum (hq : DL X W k E e dl) (hg : Gl X "sum") (hm : W.mg "sum" = none) (hs : starEach [e] X.env = (false, eval e X.env) :: starEach [] X.env := by rfl) : DE X W k E (.Call (.Name "sum" p) [e] [] pos) (fun ρ => bnd (dl ρ) sumQ) :=
  ⟨fun o => pe_imp (pe_callB (r := rSum W.K) (by rw [← o.hK]; exact cr_sum o.hc) hg (by rw [o.hM]; exact hm) boot_sum_ (pa_cons (hq.run o) pa_nil hs) (by decide) (by decide) hs (by rfl)) fun σ H Q t => cbl_of (fun ι st H q vs l Q rs e1 r z g => by
    obtain ⟨bs, rfl, g2⟩ := ints_of rs r (Good.bind g)
    exact ⟨q, bs, rfl, SqL.of e1, g2.ok rs _ (.int _)⟩) t⟩
/-- the greatest, the least of a list of ints that is not empty -/
def maxI : List Int → Int
  | [] => 0
  | [x] => x
  | x :: l => if maxI l > x then maxI l else x
def minI : List Int → Int
  | [] => 0
  | [x] => x
  | x :: l => if minI l < x then minI l else x
theorem maxI_spec : ∀ {l : List Int} {m : Int}, m ∈ l → (∀ y, y ∈ l → y ≤ m) → m = maxI l
  | [], _, h, _ => by cases h
  | [x], m, h, _ => by simpa [maxI] using h
  | x :: y :: l, m, h, hm => by
    rw [maxI]
    · have hx := hm x (by simp)
      rcases List.mem_cons.mp h with rfl | h2
      · have : maxI (y :: l) ≤ m := by
          have key : ∀ (l : List Int), l ≠ [] → maxI l ∈ l := by
            intro l
            induction l with
            | nil => intro z; exact absurd rfl z
            | cons a r ih =>
              intro _
              cases r with
              | nil => simp [maxI]
              | cons b r =>
                rw [maxI]
                · split
                  · exact List.mem_cons_of_mem _ (ih (by simp))
                  · simp
                · simp
          exact hm _ (List.mem_cons_of_mem _ (key _ (by simp)))
        rw [if_neg (by omega)]
      · have e := maxI_spec h2 fun z hz => hm z (List.mem_cons_of_mem _ hz)
        rw [← e]
        split <;> omega
    · simp
theorem minI_spec : ∀ {l : List Int} {m : Int}, m ∈ l → (∀ y, y ∈ l → m ≤ y) → m = minI l
  | [], _, h, _ => by cases h
  | [x], m, h, _ => by simpa [minI] using h
  | x :: y :: l, m, h, hm => by
    rw [minI]
    · have hx := hm x (by simp)
      rcases List.mem_cons.mp h with rfl | h2
      · have : m ≤ minI (y :: l) := by
          have key : ∀ (l : List Int), l ≠ [] → minI l ∈ l := by
            intro l
            induction l with
            | nil => intro z; exact absurd rfl z
            | cons a r ih =>
              intro _
              cases r with
              | nil => simp [minI]
              | cons b r =>
                rw [minI]
                · split
                  · exact List.mem_cons_of_mem _ (ih (by simp))
                  · simp
                · simp
          exact hm _ (List.mem_cons_of_mem _ (key _ (by simp)))
        rw [if_neg (by omega)]
      · have e := minI_spec h2 fun z hz => hm z (List.mem_cons_of_mem _ hz)
        rw [← e]
        split <;> omega
    · simp
def maxQ (l : List PV) : Mo PV := bnd (intsM l) fun bs => fun st => if 0 < bs.length then .ok (.int (maxI bs)) st else .stuck
def minQ (l : List PV) : Mo PV := bnd (intsM l) fun bs => fun st => if 0 < bs.length then .ok (.int (minI bs)) st else .stuck
theorem de_maxL (hq : DL X W k E e dl) (hg : Gl X "max") (hm : W.mg "max" = none) (hs : starEach [e] X.env = (false, eval e X.env) :: starEach [] X.env := by rfl) : DE X W k E (.Call (.Name "max" p) [e] [] pos) (fun ρ => bnd (dl ρ) maxQ) :=
  ⟨fun o => pe_imp (pe_callB (r := rMax W.K) (by rw [← o.hK]; exact cr_max o.hc) hg (by rw [o.hM]; exact hm) boot_max_ (pa_cons (hq.run o) pa_nil hs) (by decide) (by decide) hs (by rfl)) fun σ H Q t => cbl_of (fun ι st H q vs l Q rs e1 r z g => by
    obtain ⟨bs, rfl, g2⟩ := ints_of rs r (Good.bind g)
    obtain ⟨hc, g3⟩ := good_if g2
    exact ⟨q, bs, rfl, SqL.of e1, hc, fun m h1 h2 => by rw [maxI_spec h1 h2]; exact g3.ok rs _ (.int _)⟩) t⟩
theorem de_minL (hq : DL X W k E e dl) (hg : Gl X "min") (hm : W.mg "min" = none) (hs : starEach [e] X.env = (false, eval e X.env) :: starEach [] X.env := by rfl) : DE X W k E (.Call (.Name "min" p) [e] [] pos) (fun ρ => bnd (dl ρ) minQ) :=
  ⟨fun o => pe_imp (pe_callB (r := rMin W.K) (by rw [← o.hK]; exact cr_min o.hc) hg (by rw [o.hM]; exact hm) boot_min_ (pa_cons (hq.run o) pa_nil hs) (by decide) (by decide) hs (by rfl)) fun σ H Q t => cbl_of (fun ι st H q vs l Q rs e1 r z g => by
    obtain ⟨bs, rfl, g2⟩ := ints_of rs r (Good.bind g)
    obtain ⟨hc, g3⟩ := good_if g2
    exact ⟨q, bs, rfl, SqL.of e1, hc, fun m h1 h2 => by rw [minI_spec h1 h2]; exact g3.ok rs _ (.int _)⟩) t⟩
end
end PD
/-! PD: statements, targets, loops. -/
namespace PD
open PySem PySem.Spec PyProof.Rows L2
/-- how a statement ends -/
inductive Fl where
  | nx (ρ : Env) | rt (p : PV) | bk (ρ : Env) | ct (ρ : Env)
def kF (W : Wd) (D : Ends) : Fl → Sto → List Addr → Hp → Prop := fun fl _ ι' H' => match fl with
  | .nx ρ' => ∀ σ', RE W ι' H' ρ' σ' → D.nx σ' H'
  | .rt p => ∀ v, RV W ι' H' v p → D.rt v H'
  | .bk ρ' => ∀ σ', RE W ι' H' ρ' σ' → D.bk σ' H'
  | .ct ρ' => ∀ σ', RE W ι' H' ρ' σ' → D.ct σ' H'
def tDS (W : Wd) (E : XK) (d : Env → Mo Fl) : TS := fun D σ H => ∃ ι ρ st, RE W ι H ρ σ ∧ RS W ι st H ∧ Good W E ι H (d ρ st) (kF W D)
structure DS (X : Cx) (W : Wd) (k : Nat) (E : XK) (s : Stmt) (d : Env → Mo Fl) : Prop where
  run : On X W k E → PS X s (tDS W E d)
structure DSs (X : Cx) (W : Wd) (k : Nat) (E : XK) (s : List Stmt) (d : Env → Mo Fl) : Prop where
  run : On X W k E → PSs X s (tDS W E d)
def tDG (W : Wd) (E : XK) (g : PV → Env → Mo Env) : TG := fun v σ H Q => ∃ ι ρ st p, RE W ι H ρ σ ∧ RS W ι st H ∧ RV W ι H v p ∧ Good W E ι H (g p ρ st) (fun ρ' _ ι' H' => ∀ σ', RE W ι' H' ρ' σ' → Q σ' H')
def tDGs (W : Wd) (E : XK) (g : List PV → Env → Mo Env) : TGs := fun vs σ H Q => ∃ ι ρ st ps, RE W ι H ρ σ ∧ RS W ι st H ∧ RVs W ι H vs ps ∧ Good W E ι H (g ps ρ st) (fun ρ' _ ι' H' => ∀ σ', RE W ι' H' ρ' σ' → Q σ' H')
structure DG (X : Cx) (W : Wd) (k : Nat) (E : XK) (e : Expr) (g : PV → Env → Mo Env) : Prop where
  run : On X W k E → PG X e (tDG W E g)
structure DGs (X : Cx) (W : Wd) (k : Nat) (E : XK) (es : List Expr) (g : List PV → Env → Mo Env) : Prop where
  run : On X W k E → PGs X es (tDGs W E g)
theorem ps_imp {X : Cx} {s : Stmt} {t t' : TS} (h : PS X s t) (hi : ∀ D σ H, t' D σ H → t D σ H) : PS X s t' := ⟨fun pins s σ H D I w => h.run pins s σ H D I (hi D σ H w)⟩
theorem pss_imp {X : Cx} {s : List Stmt} {t t' : TS} (h : PSs X s t) (hi : ∀ D σ H, t' D σ H → t D σ H) : PSs X s t' := ⟨fun pins s σ H D I w => h.run pins s σ H D I (hi D σ H w)⟩
theorem pg_imp {X : Cx} {e : Expr} {t t' : TG} (h : PG X e t) (hi : ∀ v σ H Q, t' v σ H Q → t v σ H Q) : PG X e t' := ⟨fun pins s σ H v u Q I r w => h.run pins s σ H v u Q I r (hi v σ H Q w)⟩
theorem pgs_imp {X : Cx} {e : List Expr} {t t' : TGs} (h : PGs X e t) (hi : ∀ v σ H Q, t' v σ H Q → t v σ H Q) : PGs X e t' := ⟨fun pins s σ H v u Q I r w => h.run pins s σ H v u Q I r (hi v σ H Q w)⟩
section
variable {X : Cx} {W : Wd} {k : Nat} {E : XK} {a b c e o : Expr} {es : List Expr} {st : Stmt} {ss ss2 : List Stmt} {pos p p2 : Pos} {da db dc d : Env → Mo PV} {dt du : Env → Mo Bool} {dl dm : Env → Mo (List PV)} {f f1 f2 : Env → Mo Fl} {g : PV → Env → Mo Env} {gs : List PV → Env → Mo Env}

/-! ### in a row -/
def dNil : Env → Mo Fl := fun ρ st => .ok (.nx ρ) st
def dSeq (f1 f2 : Env → Mo Fl) : Env → Mo Fl := fun ρ => bnd (f1 ρ) fun fl => match fl with
  | .nx ρ' => f2 ρ'
  | r => fun st => .ok r st
theorem dss_nil : DSs X W k E [] dNil := ⟨fun o => pss_imp pss_nil fun D σ H t => by
  obtain ⟨ι, ρ, st, re, rs, g⟩ := t
  exact g.ok rs σ re⟩
theorem dss_cons (h1 : DS X W k E st f1) (h2 : DSs X W k E ss f2) : DSs X W k E (st :: ss) (dSeq f1 f2) := ⟨fun o => pss_imp (pss_cons (h1.run o) (h2.run o)) fun D σ H t => by
  obtain ⟨ι, ρ, st, re, rs, g⟩ := t
  refine ⟨ι, ρ, st, re, rs, Good.imp (Good.bind g) fun fl st1 ι1 H1 m1 r1 g1 => ?_⟩
  cases fl with
  | nx ρ' => exact fun σ' re' => ⟨ι1, ρ', st1, re', r1, g1⟩
  | rt p => exact g1.ok r1
  | bk ρ' => exact g1.ok r1
  | ct ρ' => exact g1.ok r1⟩
theorem dss_one (h1 : DS X W k E st f1) : DSs X W k E [st] f1 := ⟨fun o => pss_one (h1.run o)⟩
theorem ds_pass : DS X W k E (.Pass pos) dNil := ⟨fun o => ps_imp ps_pass fun D σ H t => by
  obtain ⟨ι, ρ, st, re, rs, g⟩ := t
  exact g.ok rs σ re⟩
def dBrk : Env → Mo Fl := fun ρ st => .ok (.bk ρ) st
def dCnt : Env → Mo Fl := fun ρ st => .ok (.ct ρ) st
theorem ds_break : DS X W k E (.Break pos) dBrk := ⟨fun o => ps_imp ps_break fun D σ H t => by
  obtain ⟨ι, ρ, st, re, rs, g⟩ := t
  exact g.ok rs σ re⟩
theorem ds_continue : DS X W k E (.Continue pos) dCnt := ⟨fun o => ps_imp ps_continue fun D σ H t => by
  obtain ⟨ι, ρ, st, re, rs, g⟩ := t
  exact g.ok rs σ re⟩
def dRet (d : Env → Mo PV) : Env → Mo Fl := fun ρ => bnd (d ρ) fun q => fun st => .ok (.rt q) st
theorem ds_ret (h : DE X W k E e d) : DS X W k E (.Return (some e) pos) (dRet d) := ⟨fun o => ps_imp (ps_ret (h.run o)) fun D σ H t => by
  obtain ⟨ι, ρ, st, re, rs, g⟩ := t
  exact ⟨ι, ρ, st, re, rs, Good.imp (Good.bind g) fun q st1 ι1 H1 m1 r1 g1 => g1.ok r1⟩⟩
theorem ds_retN : DS X W k E (.Return none pos) (dRet (dC .non)) := ⟨fun o => ps_imp ps_retN fun D σ H t => by
  obtain ⟨ι, ρ, st, re, rs, g⟩ := t
  exact g.ok rs _ .non⟩
def dDrop (d : Env → Mo PV) : Env → Mo Fl := fun ρ => bnd (d ρ) fun _ => fun st => .ok (.nx ρ) st
theorem ds_expr (h : DE X W k E e d) (hs : swapsWith e none pos.line X.env = pure false := by rfl) : DS X W k E (.Expr e pos) (dDrop d) := ⟨fun o => ps_imp (ps_expr (h.run o) hs) fun D σ H t => by
  obtain ⟨ι, ρ, st, re, rs, g⟩ := t
  exact ⟨ι, ρ, st, re, rs, Good.imp (Good.bind g) fun q st1 ι1 H1 m1 r1 g1 v hv => g1.ok r1 σ (re.mono rs m1)⟩⟩
def dIfS (dt : Env → Mo Bool) (f1 f2 : Env → Mo Fl) : Env → Mo Fl := fun ρ => bnd (dt ρ) fun b => if b = true then f1 ρ else f2 ρ
theorem ds_if (h : DT X W k E c dt) (h1 : DSs X W k E ss f1) (h2 : DSs X W k E ss2 f2) : DS X W k E (.If c ss ss2 pos) (dIfS dt f1 f2) := ⟨fun o => ps_imp (ps_if (h.run o) (h1.run o) (h2.run o)) fun D σ H t => by
  obtain ⟨ι, ρ, st, re, rs, g⟩ := t
  refine ⟨ι, ρ, st, re, rs, Good.imp (Good.bind g) fun b st1 ι1 H1 m1 r1 g1 => ?_⟩
  cases b with
  | true => exact ⟨ι1, ρ, st1, re.mono rs m1, r1, g1⟩
  | false => exact ⟨ι1, ρ, st1, re.mono rs m1, r1, g1⟩⟩

/-! ### targets and assignments -/
def gNm (i : Nat) : PV → Env → Mo Env := fun q ρ st => .ok (ρ.set i (some q)) st
theorem dg_name {i : Nat} {x : Str} (hi : X.N[i]? = some x := by rfl) (hx : Loc X.env.scope x := by first | exact .inl rfl | exact .inr rfl) (hf : X.fn x = true ∨ X.env.scope.names.lookup x = some .local := by first | exact .inl rfl | exact .inr rfl) : DG X W k E (.Name x pos) (gNm i) := ⟨fun o => pg_imp (pg_name o.nd hi hx hf) fun v σ H Q t => by
  obtain ⟨ι, ρ, st, q, re, rs, r, g⟩ := t
  exact g.ok rs _ (re.set r i)⟩
def gNl : List PV → Env → Mo Env
  | [], ρ => fun st => .ok ρ st
  | _ :: _, _ => fail
def gCs (g : PV → Env → Mo Env) (gs : List PV → Env → Mo Env) : List PV → Env → Mo Env
  | [], _ => fail
  | q :: qs, ρ => bnd (g q ρ) fun ρ' => gs qs ρ'
theorem dgs_nil : DGs X W k E [] gNl := ⟨fun o => pgs_imp pgs_nil fun v σ H Q t => by
  obtain ⟨ι, ρ, st, q, re, rs, r, g⟩ := t
  cases r with
  | nil => exact ⟨rfl, g.ok rs _ re⟩
  | cons _ _ => exact g.elim⟩
theorem dgs_cons (h1 : DG X W k E e g) (h2 : DGs X W k E es gs) (hs : (assignEach (e :: es) X.env).map (·.2) = assign e X.env :: (assignEach es X.env).map (·.2) := by rfl) : DGs X W k E (e :: es) (gCs g gs) := ⟨fun o => pgs_imp (pgs_cons (h1.run o) (h2.run o) hs) fun v σ H Q t => by
  obtain ⟨ι, ρ, st, q, re, rs, r, g⟩ := t
  cases r with
  | nil => exact g.elim
  | cons hv rr =>
    refine ⟨_, _, rfl, ι, ρ, st, _, re, rs, hv, Good.imp (Good.bind g) fun ρ' st1 ι1 H1 m1 r1 g1 σ' re' => ?_⟩
    exact ⟨ι1, ρ', st1, _, re', r1, rvs_mono rs m1 _ _ rr, g1⟩⟩
def gTp (n : Nat) (gs : List PV → Env → Mo Env) : PV → Env → Mo Env := fun q ρ st => match q with
  | .tup l => if l.length = n then gs l ρ st else .stuck
  | _ => .stuck
theorem dg_tup {x1 n : Nat} (h : DGs X W k E es gs) (hn : (assignEach es X.env).length = n := by rfl) (hst : (assignEach es X.env).findIdx? (·.1) = none := by rfl) : DG X W k E (.Tuple es x1 pos) (gTp n gs) := ⟨fun o => pg_imp (pg_tup o.hc (h.run o) hn hst) fun v σ H Q t => by
  obtain ⟨ι, ρ, st, q, re, rs, r, g⟩ := t
  cases r <;> first
    | exact g.elim
    | (rename_i a vs l sq rr z
       obtain ⟨hc, g1⟩ := good_if g
       refine ⟨a, vs, rfl, by rw [o.hK]; exact sq, by rw [rr.length]; exact hc, ι, ρ, st, l, re, rs, rr, g1⟩)⟩
/-- a[b] = .. of a list -/
def setM (q i z : PV) : Mo Unit := fun st => match q, i with
  | .loc n, .int i => match st[n]? with
    | some (.lst false l) => match ixN l.length i with
      | some j => .ok () (st.set n (.lst false (l.set j z)))
      | none => .stuck
    | _ => .stuck
  | _, _ => .stuck
theorem good_upd {α : Type} {ι : List Addr} {st : Sto} {H : Hp} {n : Nat} {a : Addr} {l : List PV} {vs : List V} {z : α} {kk : α → Sto → List Addr → Hp → Prop} (g : Good W E ι H (.ok z (st.set n (.lst false l))) kk) (rs : RS W ι st H) (hn : ι[n]? = some a) (r : RVs W ι H vs l) (hz : l.length ≤ 16777216) : kk z (st.set n (.lst false l)) ι (upd H a (.lst vs)) := by
  have m : Mono ι H ι (upd H a (.lst vs)) := Mono.mut (List.mem_of_getElem? hn)
  exact g ι _ m (rs.upd hn ⟨vs, upd_same, rvs_mono rs m _ _ r, hz⟩)
theorem set_of {ι : List Addr} {st : Sto} {H : Hp} {x y v : V} {q i z : PV} {kk : Unit → Sto → List Addr → Hp → Prop} (rs : RS W ι st H) (hx : RV W ι H x q) (hy : RV W ι H y i) (hv : RV W ι H v z) (g : Good W E ι H (setM q i z st) kk) : rSetL x y v H fun H' => ∃ st', RS W ι st' H' ∧ Mono ι H ι H' ∧ kk () st' ι H' := by
  cases hx <;> try exact g.elim
  cases hy <;> try exact g.elim
  rename_i n a hn i
  unfold setM at g
  dsimp only at g
  cases q : st[n]? with
  | none => rw [q] at g; exact g.elim
  | some ob =>
    rw [q] at g
    have ro := rs.ob n ob a q hn
    cases ob with
    | dct _ _ => exact g.elim
    | sti _ => exact g.elim
    | lst lk l =>
      cases lk with
      | true => exact g.elim
      | false =>
        obtain ⟨vs, e, r, hz⟩ := ro
        dsimp only at g
        cases hj : ixN l.length i with
        | none => rw [hj] at g; exact g.elim
        | some j =>
          rw [hj] at g
          have hz2 : (l.set j z).length ≤ 16777216 := by rw [List.length_set]; exact hz
          refine ⟨a, vs, i, j, rfl, rfl, e, by rw [r.length]; exact hj, _, rs.upd (o := .lst false (l.set j z)) hn ⟨_, upd_same, ?_, hz2⟩, Mono.mut (List.mem_of_getElem? hn), good_upd g rs hn (r.set hv j) hz2⟩
          exact rvs_mono rs (Mono.mut (List.mem_of_getElem? hn)) _ _ (r.set hv j)
def gSb (da db : Env → Mo PV) : PV → Env → Mo Env := fun z ρ => bnd (da ρ) fun q => bnd (db ρ) fun i => bnd (setM q i z) fun _ => fun st => .ok ρ st
theorem dg_sub (ha : DE X W k E a da) (hb : DE X W k E b db) (hs : ∀ v, assign (.Subscript a b pos) X.env v = (do
      let ov ← holding [v] (eval a X.env)
      let iv ← holding [v, ov] (eval b X.env)
      standAt pos
      holding [v, ov, iv] (setItem ov iv v)
      release [v, ov, iv] []) := by intro _; rfl) : DG X W k E (.Subscript a b pos) (gSb da db) := ⟨fun o => pg_imp (pg_sub (ha.run o) (hb.run o) set_list hs) fun v σ H Q t => by
  obtain ⟨ι, ρ, st, z, re, rs, r, g⟩ := t
  refine ⟨ι, ρ, st, re, rs, Good.imp (Good.bind g) fun q st1 ι1 H1 m1 r1 g1 x hx => ?_⟩
  refine ⟨ι1, ρ, st1, re.mono rs m1, r1, Good.imp (Good.bind g1) fun i st2 ι2 H2 m2 r2 g2 y hy => ?_⟩
  have re2 := (re.mono rs m1).mono r1 m2
  obtain ⟨w, xs, i', j, h1, h2, h3, h4, st3, r3, m3, g3⟩ := set_of r2 (rv_mono r1 m2 q x hx) hy (rv_mono r1 m2 z v (rv_mono rs m1 z v r)) (Good.bind g2)
  exact ⟨w, xs, i', j, h1, h2, h3, h4, g3.ok r3 σ (re2.mono r2 m3)⟩⟩
def dAsg (d : Env → Mo PV) (g : PV → Env → Mo Env) : Env → Mo Fl := fun ρ => bnd (d ρ) fun q => bnd (g q ρ) fun ρ' => fun st => .ok (.nx ρ') st
theorem ds_asg {tg : Expr} (he : DE X W k E e d) (hg : DG X W k E tg g) (hs : swapsWithSole [tg] e pos.line X.env = pure false := by rfl) (hw : swappedStores [tg] e X.env = pure none := by rfl)
    (h1 : (assignEach [tg] X.env).map (·.2) = [assign tg X.env] := by rfl) : DS X W k E (.Assign [tg] e pos) (dAsg d g) := ⟨fun o => ps_imp (ps_asg (he.run o) (hg.run o) hs hw h1) fun D σ H t => by
  obtain ⟨ι, ρ, st, re, rs, g⟩ := t
  refine ⟨ι, ρ, st, re, rs, Good.imp (Good.bind g) fun q st1 ι1 H1 m1 r1 g1 v hv => ?_⟩
  exact ⟨ι1, ρ, st1, q, re.mono rs m1, r1, hv, Good.imp (Good.bind g1) fun ρ' st2 ι2 H2 m2 r2 g2 σ' re' => g2.ok r2 σ' re'⟩⟩
/-- x = e -/
def dSet (i : Nat) (d : Env → Mo PV) : Env → Mo Fl := fun ρ => bnd (d ρ) fun q => fun st => .ok (.nx (ρ.set i (some q))) st
theorem ds_set {i : Nat} {x : Str} (he : DE X W k E e d) (hi : X.N[i]? = some x := by rfl) (hx : Loc X.env.scope x := by first | exact .inl rfl | exact .inr rfl) (hs : swapsWith e (some (.Name x p)) pos.line X.env = pure false := by rfl)
    (hf : X.fn x = true ∨ X.env.scope.names.lookup x = some .local := by first | exact .inl rfl | exact .inr rfl) : DS X W k E (.Assign [.Name x p] e pos) (dSet i d) := ⟨fun o => ps_imp (ps_set o.nd hi hx (he.run o) hs hf) fun D σ H t => by
  obtain ⟨ι, ρ, st, re, rs, g⟩ := t
  exact ⟨ι, ρ, st, re, rs, Good.imp (Good.bind g) fun q st1 ι1 H1 m1 r1 g1 v hv => g1.ok r1 _ ((re.mono rs m1).set hv i)⟩⟩
/-- a, b = x, y: two plain locals -/
def dPar (i j : Nat) (dl : Env → Mo (List PV)) : Env → Mo Fl := fun ρ => bnd (dl ρ) fun l => match l with
  | [q, z] => fun st => .ok (.nx ((ρ.set i (some q)).set j (some z))) st
  | _ => fail
theorem ds_par {i j : Nat} {x y : Str} {px py pt pt2 : Pos} {kt k2 : Nat} (hij : i ≠ j) (ha : DA X W k E [a, b] dl) (hi : X.N[i]? = some x := by rfl) (hj : X.N[j]? = some y := by rfl) (hx : X.env.scope.names.lookup x = some .local := by rfl) (hy : X.env.scope.names.lookup y = some .local := by rfl)
    (hps : On X W k E → PS X (.Assign [.Tuple [.Name x px, .Name y py] kt pt] (.Tuple [a, b] k2 pt2) pos) (tPar i j (tDA W E dl))) : DS X W k E (.Assign [.Tuple [.Name x px, .Name y py] kt pt] (.Tuple [a, b] k2 pt2) pos) (dPar i j dl) := ⟨fun o => ps_imp (hps o) fun D σ H t => by
  obtain ⟨ι, ρ, st, re, rs, g⟩ := t
  refine ⟨ι, ρ, st, re, rs, Good.imp (Good.bind g) fun l st1 ι1 H1 m1 r1 g1 vs hvs => ?_⟩
  cases hvs with
  | nil => exact g1.elim
  | cons h1 t1 =>
    cases t1 with
    | nil => exact g1.elim
    | cons h2 t2 =>
      cases t2 with
      | cons _ _ => exact g1.elim
      | nil => exact ⟨_, _, rfl, g1.ok r1 _ (((re.mono rs m1).set h1 i).set h2 j)⟩⟩
/-- x += e, ints -/
def dAug (f : Int → Int → Int) (i : Nat) (d : Env → Mo PV) : Env → Mo Fl := fun ρ => bnd (dVar i ρ) fun q => bnd (d ρ) fun z => bnd (oI (fun x y => .int (f x y)) q z) fun w => fun st => .ok (.nx (ρ.set i (some w))) st
theorem ds_augI {op : Operator} {fi : Int → Int → Int} {i : Nat} {x : Str} (ho : PIp X op (ipI fi)) (he : DE X W k E e d) (hi : X.N[i]? = some x) (hx : Loc X.env.scope x) (hf : X.fn x = true ∨ X.env.scope.names.lookup x = some .local) : DS X W k E (.AugAssign (.Name x p) op e pos) (dAug fi i d) := ⟨fun o => ps_imp (ps_aug o.nd hi hx (he.run o) ho hf) fun D σ H t => by
  obtain ⟨ι, ρ, st, re, rs, g⟩ := t
  unfold dAug at g
  have g0 := Good.bind g
  unfold dVar at g0
  cases q : ρ[i]? with
  | none => rw [q] at g0; exact g0.elim
  | some w =>
    cases w with
    | none => rw [q] at g0; exact g0.elim
    | some w =>
      rw [q] at g0
      obtain ⟨v, h1, h2⟩ := re.at_ i w q
      have g1 := g0.ok rs
      refine ⟨v, h1, ι, ρ, st, re, rs, Good.imp (Good.bind g1) fun z st1 ι1 H1 m1 r1 g2 y hy => ?_⟩
      have h3 := rv_mono rs m1 w v h2
      have re1 := re.mono rs m1
      cases h3 <;> cases hy <;> first
        | exact g2.elim
        | exact ⟨_, _, rfl, rfl, (Good.bind g2).ok r1 |>.ok r1 _ (re1.set (.int _) i)⟩⟩
theorem ds_augAdd {i : Nat} {x : Str} (he : DE X W k E e d) (hi : X.N[i]? = some x := by rfl) (hx : Loc X.env.scope x := by first | exact .inl rfl | exact .inr rfl) (hf : X.fn x = true ∨ X.env.scope.names.lookup x = some .local := by first | exact .inl rfl | exact .inr rfl) : DS X W k E (.AugAssign (.Name x p) .Add e pos) (dAug (fun i j => i + j) i d) := ds_augI ip_add he hi hx hf
theorem ds_augSub {i : Nat} {x : Str} (he : DE X W k E e d) (hi : X.N[i]? = some x := by rfl) (hx : Loc X.env.scope x := by first | exact .inl rfl | exact .inr rfl) (hf : X.fn x = true ∨ X.env.scope.names.lookup x = some .local := by first | exact .inl rfl | exact .inr rfl) : DS X W k E (.AugAssign (.Name x p) .Sub e pos) (dAug (fun i j => i - j) i d) := ds_augI ip_sub he hi hx hf
/-- a[b] += e of a list of ints -/
theorem get_list : PGet X (rIxL X.K) := by
  intro pins s σ H x y v u Q I rx ry h
  obtain ⟨w, xs, i, z, rfl, rfl, hq, he, q⟩ := h
  cases rx
  obtain ⟨t, rfl⟩ := ry
  obtain ⟨its, r, pl, hz⟩ := I.list hq
  obtain ⟨j, h1, h2, h3, h4, h5⟩ := atI_get he
  obtain ⟨w2, ew, rw'⟩ := r.get h2
  have hl := r.length
  have hn := line63
  have fin : EP X pins σ Q w2 s := ⟨z, H, I, rw', q⟩
  by_cases h0 : 0 ≤ i
  · have hj : i.toNat = j := by
      have e3 := seqIndex_of h0 h5
      rw [h1] at e3
      exact (Option.some.inj e3).symm
    exact wpAny_getItem_list pl.isList h0 (by omega) (by rw [hj]; simpa using ew) fin
  · have hj : (i + (its.toArray.size : Int)).toNat = j := by
      have e3 := seqIndex_neg (show i < 0 by omega) h4
      rw [h1] at e3
      rw [List.size_toArray, ← hl]
      exact (Option.some.inj e3).symm
    exact wpAny_getItem_list_neg pl.isList (by omega) (by rw [List.size_toArray] <;> omega) (by omega) (by rw [hj]; simpa using ew) fin
def dAugS (f : Int → Int → Int) (da db d : Env → Mo PV) : Env → Mo Fl := fun ρ => bnd (da ρ) fun q => bnd (db ρ) fun i => bnd (bnd (lstM q) fun l => ixQ l i) fun x => bnd (d ρ) fun y => bnd (oI (fun x y => .int (f x y)) x y) fun z => bnd (setM q i z) fun _ => fun st => .ok (.nx ρ) st
theorem ds_augS {op : Operator} {fi : Int → Int → Int} (ho : PIp X op (ipI fi)) (ha : DE X W k E a da) (hb : DE X W k E b db) (he : DE X W k E e d) (hs : ∀ ov iv new, augStore b ov iv new = (do holding [new, ov, iv] (setItem ov iv new); release [new, ov, iv] []; pure .next)) : DS X W k E (.AugAssign (.Subscript a b p) op e pos) (dAugS fi da db d) := ⟨fun o => ps_imp (ps_augS (ha.run o) (hb.run o) (tget := rIxL W.K) (by rw [← o.hK]; exact get_list) (he.run o) ho set_list hs) fun D σ H t => by
  obtain ⟨ι, ρ, st, re, rs, g⟩ := t
  refine ⟨ι, ρ, st, re, rs, Good.imp (Good.bind g) fun q st1 ι1 H1 m1 r1 g1 v1 hv1 => ?_⟩
  have re1 := re.mono rs m1
  refine ⟨ι1, ρ, st1, re1, r1, Good.imp (Good.bind g1) fun i st2 ι2 H2 m2 r2 g2 v2 hv2 => ?_⟩
  have re2 := re1.mono r1 m2
  have hq2 := rv_mono r1 m2 q v1 hv1
  obtain ⟨w, vs, l, rfl, sq, rr, hz, g3⟩ := lst_of (α := Nat) r2 hq2 (Good.bind (Good.bind g2))
  cases hv2 <;> try exact g3.elim
  rename_i i
  have g4 : Good W E ι2 H2 (match atI l i with | some z => .ok z st2 | none => .stuck) _ := g3
  cases hx : atI l i with
  | none => rw [hx] at g4; exact g4.elim
  | some x =>
    rw [hx] at g4
    obtain ⟨xv, hxv, rxv⟩ := atI_rv rr hx
    refine ⟨w, vs, i, xv, rfl, rfl, sq, hxv, ι2, ρ, st2, re2, r2, Good.imp (Good.bind (g4.ok r2)) fun y st3 ι3 H3 m3 r3 g5 yv hy => ?_⟩
    have hx3 := rv_mono r2 m3 x xv rxv
    cases hx3 <;> try exact g5.elim
    cases hy <;> try exact g5.elim
    refine ⟨_, _, rfl, rfl, ?_⟩
    obtain ⟨w', xs, i', j, h1, h2, h3, h4, st4, r4, m4, g6⟩ := set_of r3 (rv_mono r2 m3 _ _ hq2) (.int i) (.int _) (Good.bind ((Good.bind g5).ok r3))
    exact ⟨w', xs, i', j, h1, h2, h3, h4, g6.ok r4 σ ((re2.mono r2 m3).mono r3 m4)⟩⟩
theorem ds_augSAdd (ha : DE X W k E a da) (hb : DE X W k E b db) (he : DE X W k E e d) (hs : ∀ ov iv new, augStore b ov iv new = (do holding [new, ov, iv] (setItem ov iv new); release [new, ov, iv] []; pure .next) := by intros; rfl) : DS X W k E (.AugAssign (.Subscript a b p) .Add e pos) (dAugS (fun i j => i + j) da db d) := ds_augS ip_add ha hb he hs
theorem ds_augSSub (ha : DE X W k E a da) (hb : DE X W k E b db) (he : DE X W k E e d) (hs : ∀ ov iv new, augStore b ov iv new = (do holding [new, ov, iv] (setItem ov iv new); release [new, ov, iv] []; pure .next) := by intros; rfl) : DS X W k E (.AugAssign (.Subscript a b p) .Sub e pos) (dAugS (fun i j => i - j) da db d) := ds_augS ip_sub ha hb he hs
end
end PD
/-! PD: while, for, comprehensions. -/
namespace PD
open PySem PySem.Spec PyProof.Rows L2
section
variable {X : Cx} {W : Wd} {k : Nat} {E : XK} {a b c e o : Expr} {es : List Expr} {st : Stmt} {ss ss2 : List Stmt} {pos p p2 : Pos} {da db dc d : Env → Mo PV} {dt du : Env → Mo Bool} {dl dm : Env → Mo (List PV)} {f f1 f2 : Env → Mo Fl} {g : PV → Env → Mo Env} {gs : List PV → Env → Mo Env}
/-! ### while -/
/-- behind a turn -/
def turnF (h : Env → Mo Fl) : Fl → Mo Fl
  | .nx ρ => h ρ
  | .ct ρ => h ρ
  | .bk ρ => fun st => .ok (.nx ρ) st
  | .rt p => fun st => .ok (.rt p) st
def whF (dt : Env → Mo Bool) (f : Env → Mo Fl) : Nat → Env → Mo Fl
  | 0 => fun _ => fail
  | n + 1 => fun ρ => bnd (dt ρ) fun b => if b = true then bnd (f ρ) (turnF (whF dt f n)) else fun st => .ok (.nx ρ) st
open Classical in
noncomputable def dWh (dt : Env → Mo Bool) (f : Env → Mo Fl) : Env → Mo Fl := fun ρ st => if h : ∃ n, whF dt f n ρ st ≠ .stuck then whF dt f (Classical.choose h) ρ st else .stuck
theorem bnd_ne {α β : Type} {m : Mo α} {f : α → Mo β} {st : Sto} (h : bnd m f st ≠ .stuck) : (∃ c st', m st = .exc c st' ∧ ∀ f' : α → Mo β, bnd m f' st = .exc c st') ∨ ∃ a st', m st = .ok a st' ∧ f a st' ≠ .stuck ∧ ∀ f' : α → Mo β, bnd m f' st = f' a st' := by
  cases q : m st with
  | ok a st' =>
    refine .inr ⟨a, st', rfl, ?_, fun f' => by unfold bnd; rw [q]⟩
    have e : bnd m f st = f a st' := by unfold bnd; rw [q]
    rw [e] at h
    exact h
  | exc c st' => exact .inl ⟨c, st', rfl, fun f' => by unfold bnd; rw [q]⟩
  | stuck =>
    have e : bnd m f st = .stuck := by unfold bnd; rw [q]
    exact (h e).elim
theorem whF_more : ∀ {n : Nat} {ρ : Env} {st : Sto} (j : Nat), whF dt f n ρ st ≠ .stuck → whF dt f (n + j) ρ st = whF dt f n ρ st
  | 0, _, _, _, h => (h rfl).elim
  | n + 1, ρ, st, j, h => by
    rw [Nat.add_right_comm]
    unfold whF at h ⊢
    rcases bnd_ne h with ⟨c, st', _, q⟩ | ⟨b, st', _, hb, q⟩
    · rw [q, q]
    · rw [q, q]
      cases b with
      | false => rfl
      | true =>
        rw [if_pos rfl] at hb
        rw [if_pos rfl, if_pos rfl]
        rcases bnd_ne hb with ⟨c, st2, _, q2⟩ | ⟨fl, st2, _, hf, q2⟩
        · rw [q2, q2]
        · rw [q2, q2]
          cases fl with
          | nx ρ' => exact whF_more j hf
          | ct ρ' => exact whF_more j hf
          | bk _ => rfl
          | rt _ => rfl
theorem dWh_of {n : Nat} {ρ : Env} {st : Sto} (h : whF dt f n ρ st ≠ .stuck) : dWh dt f ρ st = whF dt f n ρ st := by
  have hx : ∃ n, whF dt f n ρ st ≠ .stuck := ⟨n, h⟩
  unfold dWh
  rw [dif_pos hx]
  have h2 := Classical.choose_spec hx
  generalize Classical.choose hx = m at h2 ⊢
  rcases Nat.le_total m n with hl | hl
  · obtain ⟨j, rfl⟩ := Nat.exists_eq_add_of_le hl
    exact (whF_more j h2).symm
  · obtain ⟨j, rfl⟩ := Nat.exists_eq_add_of_le hl
    exact whF_more j h
theorem dWh_eq (ρ : Env) (st : Sto) : dWh dt f ρ st = bnd (dt ρ) (fun b => if b = true then bnd (f ρ) (turnF (dWh dt f)) else fun st => .ok (.nx ρ) st) st := by
  by_cases h : ∃ n, whF dt f n ρ st ≠ .stuck
  · obtain ⟨n, h⟩ := h
    rw [dWh_of h]
    cases n with
    | zero => exact (h rfl).elim
    | succ n =>
      unfold whF at h ⊢
      rcases bnd_ne h with ⟨c, st', _, q⟩ | ⟨b, st', _, hb, q⟩
      · rw [q, q]
      · rw [q, q]
        cases b with
        | false => rfl
        | true =>
          rw [if_pos rfl] at hb
          rw [if_pos rfl, if_pos rfl]
          rcases bnd_ne hb with ⟨c, st2, _, q2⟩ | ⟨fl, st2, _, hf, q2⟩
          · rw [q2, q2]
          · rw [q2, q2]
            cases fl with
            | nx ρ' => exact (dWh_of hf).symm
            | ct ρ' => exact (dWh_of hf).symm
            | bk _ => rfl
            | rt _ => rfl
  · have e : dWh dt f ρ st = .stuck := by unfold dWh; rw [dif_neg h]
    rw [e]
    refine Classical.byContradiction fun hn => h ?_
    have hn2 := fun z => hn (Eq.symm z)
    have key : ∀ (ρ' : Env) (st' : Sto), dWh dt f ρ' st' ≠ .stuck → ∃ n, whF dt f n ρ' st' ≠ .stuck := fun ρ' st' z => by
      refine Classical.byContradiction fun y => z ?_
      unfold dWh
      rw [dif_neg y]
    rcases bnd_ne hn2 with ⟨c, st', _, q⟩ | ⟨b, st', _, hb, q⟩
    · exact ⟨1, by unfold whF; rw [q]; exact fun z => nomatch z⟩
    · cases b with
      | false => exact ⟨1, by unfold whF; rw [q]; exact fun z => nomatch z⟩
      | true =>
        rw [if_pos rfl] at hb
        rcases bnd_ne hb with ⟨c, st2, _, q2⟩ | ⟨fl, st2, _, hf, q2⟩
        · exact ⟨1, by unfold whF; rw [q, if_pos rfl, q2]; exact fun z => nomatch z⟩
        · cases fl with
          | nx ρ' => obtain ⟨n, hn⟩ := key _ _ hf; exact ⟨n + 1, by unfold whF; rw [q, if_pos rfl, q2]; exact hn⟩
          | ct ρ' => obtain ⟨n, hn⟩ := key _ _ hf; exact ⟨n + 1, by unfold whF; rw [q, if_pos rfl, q2]; exact hn⟩
          | bk _ => exact ⟨1, by unfold whF; rw [q, if_pos rfl, q2]; exact fun z => nomatch z⟩
          | rt _ => exact ⟨1, by unfold whF; rw [q, if_pos rfl, q2]; exact fun z => nomatch z⟩
theorem ds_while (hc : DT X W k E c dt) (hb : DSs X W k E ss f) : DS X W k E (.While c ss [] pos) (dWh dt f) := ⟨fun o => ps_imp (ps_while o.own (hc.run o) (hb.run o)) fun D σ H t => by
  obtain ⟨ι, ρ, st, re, rs, g⟩ := t
  have hx : ∃ n, whF dt f n ρ st ≠ .stuck := by
    refine Classical.byContradiction fun z => ?_
    unfold dWh at g
    rw [dif_neg z] at g
    exact g.elim
  obtain ⟨n, hn⟩ := hx
  rw [dWh_of hn] at g
  refine ⟨fun m σ' H' => ∃ ι' ρ' st', RE W ι' H' ρ' σ' ∧ RS W ι' st' H' ∧ Good W E ι' H' (whF dt f m ρ' st') (kF W D), ⟨n, ι, ρ, st, re, rs, g⟩, ?_⟩
  intro m σ1 H1 ⟨ι1, ρ1, st1, re1, rs1, g1⟩
  cases m with
  | zero => exact g1.elim
  | succ m =>
    refine ⟨ι1, ρ1, st1, re1, rs1, Good.imp (Good.bind g1) fun b st2 ι2 H2 m2 r2 g2 => ?_⟩
    have re2 := re1.mono rs1 m2
    cases b with
    | false => exact g2.ok r2 σ1 re2
    | true =>
      rw [if_pos rfl] at g2
      show ite (true = true) _ _
      rw [if_pos rfl]
      refine ⟨fun σ' H' => ∃ ι' ρ' st', RE W ι' H' ρ' σ' ∧ RS W ι' st' H' ∧ Good W E ι' H' (whF dt f m ρ' st') (kF W D), fun σ' H' z => ⟨m, Nat.lt_succ_self m, z⟩, ι2, ρ1, st2, re2, r2, Good.imp (Good.bind g2) fun fl st3 ι3 H3 m3 r3 g3 => ?_⟩
      cases fl with
      | nx ρ' => exact fun σ' re' => ⟨ι3, ρ', st3, re', r3, g3⟩
      | ct ρ' => exact fun σ' re' => ⟨ι3, ρ', st3, re', r3, g3⟩
      | bk ρ' => exact fun σ' re' => g3.ok r3 σ' re'
      | rt q => exact fun v hv => g3.ok r3 v hv⟩

/-! ### what is walked -/
structure Src where
  l : List PV
  chk : Sto → Prop
def JOk (W : Wd) (S : Src) (J : It) (ι0 : List Addr) (H0 : Hp) : Prop := ∀ (ι : List Addr) (H : Hp) (st : Sto), Mono ι0 H0 ι H → RS W ι st H → S.chk st → ∀ i,
  (∀ q, S.l[i]? = some q → J.go i H ∧ ∀ x H', J.yld i H x H' → Mono ι H ι H' ∧ RS W ι st H' ∧ RV W ι H' x q) ∧ (S.l.length ≤ i → J.stop i H)
def kI (W : Wd) (R : It → Hp → Prop) : Src → Sto → List Addr → Hp → Prop := fun S _ ι' H' => ∀ J, JOk W S J ι' H' → R J H'
/-- .. for one iterator, at a list that has just been laid -/
def tDI (W : Wd) (E : XK) (ds : Env → Mo Src) : TI := fun σ H R => ∃ ι ρ st, RE W ι H ρ σ ∧ RS W ι st H ∧ Good W E ι H (ds ρ st) (fun S st' ι' H' => ∀ J H'', Mono ι' H' ι' H'' → RS W ι' st' H'' → JOk W S J ι' H'' → R J H'')
structure DI (X : Cx) (W : Wd) (k : Nat) (E : XK) (tg e : Expr) (ds : Env → Mo Src) : Prop where
  run : On X W k E → PI X tg e (tDI W E ds)
theorem pi_imp {tg e : Expr} {t t' : TI} (h : PI X tg e t) (hi : ∀ σ H R, t' σ H R → t σ H R) : PI X tg e t' := ⟨fun pins s σ H R I w => h.run pins s σ H R I (hi σ H R w)⟩
def sV (l : List PV) : Src := ⟨l, fun _ => True⟩
def sL (n : Nat) (l : List PV) : Src := ⟨l, fun st => st[n]? = some (.lst false l) ∨ st[n]? = some (.lst true l)⟩
/-! ### for -/
open Classical in
noncomputable def foF (g : PV → Env → Mo Env) (f : Env → Mo Fl) (chk : Sto → Prop) : List PV → Env → Mo Fl
  | [], ρ => fun st => if chk st then .ok (.nx ρ) st else .stuck
  | q :: qs, ρ => fun st => if chk st then bnd (g q ρ) (fun ρ' => bnd (f ρ') (turnF (foF g f chk qs))) st else .stuck
noncomputable def dFor (ds : Env → Mo Src) (g : PV → Env → Mo Env) (f : Env → Mo Fl) : Env → Mo Fl := fun ρ => bnd (ds ρ) fun S => foF g f S.chk S.l ρ
open Classical in
theorem ds_for {tg : Expr} {ds : Env → Mo Src} (hi : DI X W k E tg e ds) (hg : DG X W k E tg g) (hb : DSs X W k E ss f) (hs : ∀ x, foldedSetIterable e X.env x = pure x := by intro _; rfl) : DS X W k E (.For tg e ss [] pos) (dFor ds g f) := ⟨fun o => ps_imp (ps_for o.own o.hc (hi.run o) (hg.run o) (hb.run o) hs) fun D σ H t => by
  obtain ⟨ι, ρ, st, re, rs, g0⟩ := t
  refine ⟨ι, ρ, st, re, rs, Good.imp (Good.bind g0) fun S st1 ι1 H1 m1 r1 g1 J H1' mn r1' jo => ?_⟩
  have re1 := (re.mono rs m1).mono r1 mn
  have P0 : ∀ i σ' H', (∃ ι' ρ' st', RE W ι' H' ρ' σ' ∧ RS W ι' st' H' ∧ Mono ι1 H1' ι' H' ∧ Good W E ι' H' (foF g f S.chk (S.l.drop i) ρ' st') (kF W D)) → (S.l.length ≤ i ∧ J.stop i H' ∧ D.nx σ' H') ∨ (∃ q, S.l[i]? = some q ∧ J.go i H' ∧ ∀ x H'', J.yld i H' x H'' →
      tDG W E g x σ' H'' fun σ2 H2 => tDS W E f { D with nx := fun σ3 H3 => ∃ ι' ρ' st', RE W ι' H3 ρ' σ3 ∧ RS W ι' st' H3 ∧ Mono ι1 H1' ι' H3 ∧ Good W E ι' H3 (foF g f S.chk (S.l.drop (i + 1)) ρ' st') (kF W D), ct := fun σ3 H3 => ∃ ι' ρ' st', RE W ι' H3 ρ' σ3 ∧ RS W ι' st' H3 ∧ Mono ι1 H1' ι' H3 ∧ Good W E ι' H3 (foF g f S.chk (S.l.drop (i + 1)) ρ' st') (kF W D), bk := D.nx } σ2 H2) := by
    intro i σ' H' ⟨ι2, ρ2, st2, re2, r2, m2, g2⟩
    by_cases hi : i < S.l.length
    · have hq : S.l[i]? = some S.l[i] := List.getElem?_eq_getElem hi
      rw [List.drop_eq_getElem_cons hi] at g2
      unfold foF at g2
      obtain ⟨hc, g3⟩ := good_if g2
      obtain ⟨hgo, hy⟩ := (jo ι2 H' st2 m2 r2 hc i).1 _ hq
      refine .inr ⟨_, hq, hgo, fun x H'' y => ?_⟩
      obtain ⟨m3, r3, rv⟩ := hy x H'' y
      refine ⟨ι2, ρ2, st2, _, re2.mono r2 m3, r3, rv, Good.imp (Good.bind (g3.shift m3)) fun ρ' st4 ι4 H4 m4 r4 g4 σ4 re4 => ?_⟩
      refine ⟨ι4, ρ', st4, re4, r4, Good.imp (Good.bind g4) fun fl st5 ι5 H5 m5 r5 g5 => ?_⟩
      have mm := ((m2.trans m3).trans m4).trans m5
      cases fl with
      | nx ρ' => exact fun σ' re' => ⟨ι5, ρ', st5, re', r5, mm, g5⟩
      | ct ρ' => exact fun σ' re' => ⟨ι5, ρ', st5, re', r5, mm, g5⟩
      | bk ρ' => exact fun σ' re' => g5.ok r5 σ' re'
      | rt q => exact fun v hv => g5.ok r5 v hv
    · have hl : S.l.length ≤ i := by omega
      rw [List.drop_of_length_le hl] at g2
      unfold foF at g2
      obtain ⟨hc, g3⟩ := good_if g2
      exact .inl ⟨hl, (jo ι2 H' st2 m2 r2 hc i).2 hl, g3.ok r2 σ' re2⟩
  refine ⟨fun i m σ' H' => m = S.l.length - i ∧ ∃ ι' ρ' st', RE W ι' H' ρ' σ' ∧ RS W ι' st' H' ∧ Mono ι1 H1' ι' H' ∧ Good W E ι' H' (foF g f S.chk (S.l.drop i) ρ' st') (kF W D), ⟨_, rfl, ι1, ρ, st1, re1, r1', Mono.refl, g1.shift mn⟩, ?_⟩
  rintro i m σ' H' ⟨rfl, z⟩
  rcases P0 i σ' H' z with ⟨_, h1, h2⟩ | ⟨q, hq, h1, h2⟩
  · exact .inl ⟨h1, h2⟩
  · have hlt := (List.getElem?_eq_some_iff.mp hq).1
    exact .inr ⟨h1, _, fun σ3 H3 z3 => ⟨S.l.length - (i + 1), by omega, rfl, z3⟩, h2⟩⟩

/-! ### sources -/
theorem jok_itr {ι : List Addr} {H : Hp} {lo : Int} {n : Nat} : JOk W (sV ((List.range n).map fun i : Nat => PV.int (lo + i))) (Itr lo n) ι H := by
  intro ι' H' st m rs _ i
  refine ⟨fun q hq => ?_, fun hl => show n ≤ i by simpa [sV] using hl⟩
  have hq : ((List.range n).map fun i : Nat => PV.int (lo + i))[i]? = some q := hq
  rw [List.getElem?_map] at hq
  have hi : i < n := by
    cases z : (List.range n)[i]? with
    | none => rw [z] at hq; cases hq
    | some y =>
      have := (List.getElem?_eq_some_iff.mp z).1
      simpa using this
  rw [List.getElem?_range hi] at hq
  cases hq
  refine ⟨hi, fun x H'' y => ?_⟩
  obtain ⟨rfl, rfl⟩ := y
  exact ⟨Mono.refl, rs, .int _⟩
theorem jok_list {ι : List Addr} {H : Hp} {n : Nat} {a : Addr} {l : List PV} (hn : ι[n]? = some a) : JOk W (sL n l) (Itl W.K a) ι H := by
  intro ι' H' st m rs hc i
  have hr : ∃ vs, SqL W.K H' a vs ∧ RVs W ι' H' vs l := by
    rcases hc with h | h
    · obtain ⟨vs, q, r, _⟩ := ro_sql (rs.ob n _ a h (m.pre n a hn))
      exact ⟨vs, q, r⟩
    · obtain ⟨vs, q, r, _⟩ := ro_sql (rs.ob n _ a h (m.pre n a hn))
      exact ⟨vs, q, r⟩
  obtain ⟨vs, sq, r⟩ := hr
  refine ⟨fun q hq => ?_, fun hl => ⟨vs, sq, by rw [r.length]; exact hl⟩⟩
  obtain ⟨v, hv, rv⟩ := r.get hq
  refine ⟨⟨vs, v, sq, hv⟩, fun x H'' y => ?_⟩
  obtain ⟨rfl, y⟩ := y
  have e := y vs sq
  rw [hv] at e
  cases e
  exact ⟨Mono.refl, rs, rv⟩
theorem jok_tmp {ι : List Addr} {st0 : Sto} {H : Hp} {a : Addr} {vs : List V} {l : List PV} (r0 : RS W ι st0 H) (hn : a ∉ ι) (he : H a = some (.lst vs)) (r : RVs W ι H vs l) : JOk W (sV l) (Itl W.K a) ι H := by
  intro ι' H' st m rs hc i
  have r := rvs_mono r0 m _ _ r
  have sq : SqL W.K H' a vs := .inl (.inl (lst_mono m hn he))
  refine ⟨fun q hq => ?_, fun hl => ⟨vs, sq, by rw [r.length]; exact hl⟩⟩
  obtain ⟨v, hv, rv⟩ := r.get hq
  refine ⟨⟨vs, v, sq, hv⟩, fun x H'' y => ?_⟩
  obtain ⟨rfl, y⟩ := y
  have e := y vs sq
  rw [hv] at e
  cases e
  exact ⟨Mono.refl, rs, rv⟩
theorem jok_tup {ι : List Addr} {st0 : Sto} {H : Hp} {a : Addr} {vs : List V} {l : List PV} (r0 : RS W ι st0 H) (he : SqT W.K H a vs) (r : RVs W ι H vs l) : JOk W (sV l) (Itt W.K a) ι H := by
  intro ι' H' st m rs hc i
  have r := rvs_mono r0 m _ _ r
  have sq : SqT W.K H' a vs := sqt_mono r0 m he
  refine ⟨fun q hq => ?_, fun hl => ⟨vs, sq, by rw [r.length]; exact hl⟩⟩
  obtain ⟨v, hv, rv⟩ := r.get hq
  refine ⟨⟨vs, v, sq, hv⟩, fun x H'' y => ?_⟩
  obtain ⟨rfl, y⟩ := y
  have e := y vs sq
  rw [hv] at e
  cases e
  exact ⟨Mono.refl, rs, rv⟩
/-- a list or a tuple, told when it is there -/
def iSeq (K : PySem.W.Frag) (tl : TE) : TI := fun σ H R => tl σ H fun x H1 => ∃ a, x = .ref a ∧ (((∃ xs, SqL K H1 a xs) ∧ R (Itl K a) H1) ∨ ((∃ xs, SqT K H1 a xs) ∧ R (Itt K a) H1))
theorem pi_seq {tg l : Expr} {tl : TE} (hl : PE X l tl) : PI X tg l (iSeq X.K tl) := by
  refine ⟨fun pins s σ H R I hw => ?_⟩
  refine thn (hl.run pins s σ H _ I hw) fun _ sa ⟨_, Ha, Ia, ra, a, e, qa⟩ => ?_
  subst e
  cases ra
  have fresh : ∀ b ∈ [sa.heap.objs.size], FpOk X pins Ha b := fun b hb => by
    have e : b = sa.heap.objs.size := List.mem_singleton.mp hb
    subst e
    exact Ia.fpOk (Nat.le_refl _) (Ia.hok.fresh (Nat.le_refl _))
  rcases qa with ⟨⟨xs, hq⟩, qa⟩ | ⟨⟨xs, hq⟩, qa⟩
  · obtain ⟨its, _, pl, _⟩ := Ia.list hq
    exact wpAny_pyIter_list pl.isList ⟨sa.heap.objs.size, [sa.heap.objs.size], _, _, Ha, rfl, Ia.kept (t' := sa.toks) fun b o z => Heap.get?_push_of_some _ z, turn_list a _, ⟨_, Heap.get?_push_size _ rfl, rfl, rfl⟩, fresh, qa⟩
  · obtain ⟨its, _, pl, _⟩ := Ia.tuple hq
    exact wpAny_pyIter_tuple (show sa.heap.IsTuple a its.toArray from pl) ⟨sa.heap.objs.size, [sa.heap.objs.size], _, _, Ha, rfl, Ia.kept (t' := sa.toks) fun b o z => Heap.get?_push_of_some _ z, turn_tuple a _, ⟨_, Heap.get?_push_size _ rfl, rfl, rfl⟩, fresh, qa⟩
def srcM (q : PV) : Mo Src := fun st => match q with
  | .tup l => .ok (sV l) st
  | .loc n => match st[n]? with
    | some (.lst _ l) => .ok (sL n l) st
    | _ => .stuck
  | _ => .stuck
theorem di_e {tg : Expr} (h : DE X W k E e d) : DI X W k E tg e (fun ρ => bnd (d ρ) srcM) := ⟨fun o => pi_imp (pi_seq (h.run o)) fun σ H R t => by
  obtain ⟨ι, ρ, st, re, rs, g⟩ := t
  refine ⟨ι, ρ, st, re, rs, Good.imp (Good.bind g) fun q st1 ι1 H1 m1 r1 g1 v hv => ?_⟩
  rw [o.hK]
  cases hv <;> try exact g1.elim
  · rename_i a vs l sq rr z
    exact ⟨a, rfl, .inr ⟨⟨vs, sq⟩, g1.ok r1 _ H1 Mono.refl r1 (jok_tup r1 sq rr)⟩⟩
  · rename_i n a hn
    unfold srcM at g1
    dsimp only at g1
    cases q : st1[n]? with
    | none => rw [q] at g1; exact g1.elim
    | some ob =>
      rw [q] at g1
      cases ob with
      | dct _ _ => exact g1.elim
      | sti _ => exact g1.elim
      | lst lk l =>
        obtain ⟨vs, sq, _, _⟩ := ro_sql (r1.ob n _ a q hn)
        exact ⟨a, rfl, .inl ⟨⟨vs, sq⟩, g1.ok r1 _ H1 Mono.refl r1 (jok_list hn)⟩⟩⟩
def svM (l : List PV) : Mo Src := fun st => .ok (sV l) st
theorem di_l {tg : Expr} (h : DL X W k E e dl) : DI X W k E tg e (fun ρ => bnd (dl ρ) svM) := ⟨fun o => pi_imp (pi_seq (h.run o)) fun σ H R t => by
  obtain ⟨ι, ρ, st, re, rs, g⟩ := t
  refine ⟨ι, ρ, st, re, rs, Good.imp (Good.bind g) fun l st1 ι1 H1 m1 r1 g1 p vs h0 hn he rr hz => ?_⟩
  rw [o.hK]
  exact ⟨p, rfl, .inl ⟨⟨vs, .inl (.inl he)⟩, g1.ok r1 _ H1 Mono.refl r1 (jok_tmp r1 hn he rr)⟩⟩⟩
def rgP (lo : Int) (n : Nat) : List PV := (List.range n).map fun i : Nat => PV.int (lo + i)
abbrev RgOk (i : Int) : Prop := -4611686018427387904 ≤ i ∧ i < 4611686018427387904
def rg1M : List PV → Mo Src
  | [.int j] => fun st => if RgOk j then .ok (sV (rgP 0 j.toNat)) st else .stuck
  | _ => fail
def rg2M : List PV → Mo Src
  | [.int i, .int j] => fun st => if RgOk i ∧ RgOk j then .ok (sV (rgP i (j - i).toNat)) st else .stuck
  | _ => fail
theorem di_range1 {tg : Expr} (h : DA X W k E [a] dl) (hg : Gl X "range") (hm : W.mg "range" = none) (hs : starEach [a] X.env = [(false, eval a X.env)] := by rfl) : DI X W k E tg (.Call (.Name "range" p) [a] [] pos) (fun ρ => bnd (dl ρ) rg1M) := ⟨fun o => pi_imp (pi_range1 hg (by rw [o.hM]; exact hm) (h.run o) hs) fun σ H R t => by
  obtain ⟨ι, ρ, st, re, rs, g⟩ := t
  refine ⟨ι, ρ, st, re, rs, Good.imp (Good.bind g) fun l st1 ι1 H1 m1 r1 g1 vs hv => ?_⟩
  cases hv with
  | nil => exact g1.elim
  | cons h1 t1 =>
    cases t1 with
    | cons _ _ => cases h1 <;> exact g1.elim
    | nil =>
      cases h1 <;> try exact g1.elim
      obtain ⟨hc, g2⟩ := good_if g1
      exact ⟨_, rfl, by have := hc.1; omega, by have := hc.2; omega, g2.ok r1 _ H1 Mono.refl r1 jok_itr⟩⟩
theorem di_range2 {tg : Expr} (h : DA X W k E [a, b] dl) (hg : Gl X "range") (hm : W.mg "range" = none) (hs : starEach [a, b] X.env = [(false, eval a X.env), (false, eval b X.env)] := by rfl) (hs2 : starEach [b] X.env = [(false, eval b X.env)] := by rfl) : DI X W k E tg (.Call (.Name "range" p) [a, b] [] pos) (fun ρ => bnd (dl ρ) rg2M) := ⟨fun o => pi_imp (pi_range2 hg (by rw [o.hM]; exact hm) (h.run o) hs hs2) fun σ H R t => by
  obtain ⟨ι, ρ, st, re, rs, g⟩ := t
  refine ⟨ι, ρ, st, re, rs, Good.imp (Good.bind g) fun l st1 ι1 H1 m1 r1 g1 vs hv => ?_⟩
  cases hv with
  | nil => exact g1.elim
  | cons h1 t1 =>
    cases t1 with
    | nil => cases h1 <;> exact g1.elim
    | cons h2 t2 =>
      cases t2 with
      | cons _ _ => cases h1 <;> cases h2 <;> exact g1.elim
      | nil =>
        cases h1 <;> cases h2 <;> try exact g1.elim
        obtain ⟨hc, g2⟩ := good_if g1
        exact ⟨_, _, rfl, ⟨by have := hc.1.1; omega, by have := hc.1.2; omega, by have := hc.2.1; omega, by have := hc.2.2; omega⟩, g2.ok r1 _ H1 Mono.refl r1 jok_itr⟩⟩
/-! ### patterns, without effect -/
inductive Pt where
  | nm (i : Nat) | tp (l : List Pt)
mutual
def Pt.vs : Pt → List Nat
  | .nm i => [i]
  | .tp l => Pt.vss l
def Pt.vss : List Pt → List Nat
  | [] => []
  | p :: l => Pt.vs p ++ Pt.vss l
end
mutual
/-- what is set, in order -/
def Pt.go : Pt → PV → Env → Option Env
  | .nm i, q, ρ => some (ρ.set i (some q))
  | .tp l, .tup qs, ρ => Pt.gos l qs ρ
  | .tp _, _, _ => none
def Pt.gos : List Pt → List PV → Env → Option Env
  | [], [], ρ => some ρ
  | p :: l, q :: qs, ρ => (Pt.go p q ρ).bind (Pt.gos l qs)
  | _, _, _ => none
end
def wipeE (ρ : Env) : List Nat → Env
  | [] => ρ
  | v :: vs => (wipeE ρ vs).set v none
theorem RE.wipe {ι : List Addr} {H : Hp} {ρ : Env} {σ : L2.St} (re : RE W ι H ρ σ) : ∀ vs : List Nat, RE W ι H (wipeE ρ vs) (wipe σ vs)
  | [] => re
  | v :: vs => (RE.wipe re vs).unset v
theorem wipe_set {σ : L2.St} {i : Nat} {v : Option V} : ∀ {vs : List Nat}, i ∈ vs → wipe (σ.set i v) vs = wipe σ vs
  | [], h => (by cases h)
  | w :: vs, h => by
    unfold wipe
    by_cases hi : i ∈ vs
    · rw [wipe_set hi]
    · have e : i = w := by
        rcases List.mem_cons.mp h with z | z
        · exact z
        · exact (hi z).elim
      subst e
      have key : ∀ us : List Nat, i ∉ us → wipe (σ.set i v) us = (wipe σ us).set i v := by
        intro us
        induction us with
        | nil => intro _; rfl
        | cons u us ih =>
          intro hn
          rw [List.mem_cons, not_or] at hn
          unfold wipe
          rw [ih hn.2, List.set_comm _ _ hn.1]
      rw [key vs hi, List.set_set]
def tDP (W : Wd) (pt : Pt) (vs : List Nat) : TG := fun v σ H Q => ∃ ι ρ st q, RE W ι H ρ σ ∧ RS W ι st H ∧ RV W ι H v q ∧ ∃ ρ', Pt.go pt q ρ = some ρ' ∧ ∀ σ', RE W ι H ρ' σ' → wipe σ' vs = wipe σ vs → Q σ' H
def tDPs (W : Wd) (pt : List Pt) (vs : List Nat) : TGs := fun us σ H Q => ∃ ι ρ st q, RE W ι H ρ σ ∧ RS W ι st H ∧ RVs W ι H us q ∧ ∃ ρ', Pt.gos pt q ρ = some ρ' ∧ ∀ σ', RE W ι H ρ' σ' → wipe σ' vs = wipe σ vs → Q σ' H
structure DP (X : Cx) (W : Wd) (vs : List Nat) (e : Expr) (pt : Pt) : Prop where
  run : X.K = W.K → X.N.Nodup → X.calm = true → PG X e (tDP W pt vs)
structure DPs (X : Cx) (W : Wd) (vs : List Nat) (e : List Expr) (pt : List Pt) : Prop where
  run : X.K = W.K → X.N.Nodup → X.calm = true → PGs X e (tDPs W pt vs)
theorem dp_name {vs : List Nat} {i : Nat} {x : Str} (hv : i ∈ vs := by decide) (hi : X.N[i]? = some x := by rfl) (hx : Loc X.env.scope x := by first | exact .inl rfl | exact .inr rfl) (hf : X.fn x = true ∨ X.env.scope.names.lookup x = some .local := by first | exact .inl rfl | exact .inr rfl) : DP X W vs (.Name x pos) (.nm i) := ⟨fun _ nd _ => pg_imp (pg_name nd hi hx hf) fun v σ H Q t => by
  obtain ⟨ι, ρ, st, q, re, rs, r, ρ', e, hq⟩ := t
  cases e
  exact hq _ (re.set r i) (wipe_set hv)⟩
theorem dps_nil {vs : List Nat} : DPs X W vs [] [] := ⟨fun _ _ _ => pgs_imp pgs_nil fun v σ H Q t => by
  obtain ⟨ι, ρ, st, q, re, rs, r, ρ', e, hq⟩ := t
  cases r with
  | nil => cases e; exact ⟨rfl, hq _ re rfl⟩
  | cons _ _ => cases e⟩
theorem dps_cons {vs : List Nat} {pt : Pt} {pts : List Pt} (h1 : DP X W vs e pt) (h2 : DPs X W vs es pts) (hs : (assignEach (e :: es) X.env).map (·.2) = assign e X.env :: (assignEach es X.env).map (·.2) := by rfl) : DPs X W vs (e :: es) (pt :: pts) := ⟨fun hK nd hc => pgs_imp (pgs_cons (h1.run hK nd hc) (h2.run hK nd hc) hs) fun v σ H Q t => by
  obtain ⟨ι, ρ, st, q, re, rs, r, ρ', e, hq⟩ := t
  cases r with
  | nil => cases e
  | cons hv rr =>
    rename_i q0 _ qs
    unfold Pt.gos at e
    cases z : Pt.go pt q0 ρ with
    | none => rw [z] at e; cases e
    | some ρ1 =>
      rw [z] at e
      exact ⟨_, _, rfl, ι, ρ, st, q0, re, rs, hv, ρ1, z, fun σ' re' w' => ⟨ι, ρ1, st, qs, re', rs, rr, ρ', e, fun σ2 re2 w2 => hq σ2 re2 (w2.trans w')⟩⟩⟩
theorem dp_tup {vs : List Nat} {pts : List Pt} {x1 n : Nat} (h : DPs X W vs es pts) (hn : (assignEach es X.env).length = n := by rfl) (hp : pts.length = n := by rfl) (hst : (assignEach es X.env).findIdx? (·.1) = none := by rfl) : DP X W vs (.Tuple es x1 pos) (.tp pts) := ⟨fun hK nd hc => pg_imp (pg_tup hc (h.run hK nd hc) hn hst) fun v σ H Q t => by
  obtain ⟨ι, ρ, st, q, re, rs, r, ρ', e, hq⟩ := t
  cases r <;> try (unfold Pt.go at e; cases e; done)
  rename_i a us l sq rr z
  unfold Pt.go at e
  have hl : ∀ (pts : List Pt) (l : List PV) (ρ ρ' : Env), Pt.gos pts l ρ = some ρ' → l.length = pts.length := by
    intro pts
    induction pts with
    | nil => intro l ρ ρ' e; cases l with
      | nil => rfl
      | cons _ _ => cases e
    | cons p pts ih => intro l ρ ρ' e; cases l with
      | nil => cases e
      | cons q l =>
        unfold Pt.gos at e
        cases z : Pt.go p q ρ with
        | none => rw [z] at e; cases e
        | some ρ1 => rw [z] at e; rw [List.length_cons, List.length_cons, ih l ρ1 ρ' e]
  exact ⟨a, us, rfl, by rw [hK]; exact sq, by rw [rr.length, hl _ _ _ _ e]; exact hp, ι, ρ, st, l, re, rs, rr, ρ', e, hq⟩⟩
end
end PD
/-! PD: list comprehensions. -/
namespace PD
open PySem PySem.Spec PyProof.Rows L2
def nox {α : Type} (m : Mo α) : Mo α := fun st => match m st with
  | .exc _ _ => .stuck
  | r => r
theorem Good.nox {W : Wd} {E : XK} {α β : Type} {ι : List Addr} {H : Hp} {st : Sto} {m : Mo α} {f : α → Mo β} {k : β → Sto → List Addr → Hp → Prop} (g : Good W E ι H (bnd (PD.nox m) f st) k) : Good W E0 ι H (m st) (fun a st1 ι1 H1 => Good W E ι1 H1 (f a st1) k) := by
  have g1 := Good.bind g
  unfold PD.nox at g1
  cases q : m st with
  | ok a st' => rw [q] at g1; exact g1
  | exc c st' => rw [q] at g1; exact g1.elim
  | stuck => rw [q] at g1; exact g1.elim
theorem Good.bindB {W : Wd} {E : XK} {α β : Type} {ι0 ι : List Addr} {H0 H : Hp} {st : Sto} {m : Mo α} {f : α → Mo β} {k : β → Sto → List Addr → Hp → Prop} (g : Good W E ι0 H0 (bnd m f st) k) (mm : Mono ι0 H0 ι H) : Good W E ι H (m st) (fun a st1 _ _ => Good W E ι0 H0 (f a st1) k) := by
  unfold bnd at g
  cases q : m st with
  | ok a st' => rw [q] at g; exact fun _ _ _ _ => g
  | exc c st' => rw [q] at g; exact g.shift mm
  | stuck => rw [q] at g; exact g.elim
theorem Good.noxB {W : Wd} {E : XK} {α β : Type} {ι0 ι : List Addr} {H0 H : Hp} {st : Sto} {m : Mo α} {f : α → Mo β} {k : β → Sto → List Addr → Hp → Prop} (g : Good W E ι0 H0 (bnd (PD.nox m) f st) k) (mm : Mono ι0 H0 ι H) : Good W E0 ι H (m st) (fun a st1 _ _ => Good W E ι0 H0 (f a st1) k) := by
  have g1 := Good.bindB g mm
  unfold PD.nox at g1
  cases q : m st with
  | ok a st' => rw [q] at g1; exact g1
  | exc c st' => rw [q] at g1; exact g1.elim
  | stuck => rw [q] at g1; exact g1.elim
theorem wipe_idem {σ : L2.St} : ∀ (vs us : List Nat), (∀ i ∈ us, i ∈ vs) → wipe (wipe σ us) vs = wipe σ vs
  | vs, [], _ => rfl
  | vs, u :: us, h => by
    show wipe ((wipe σ us).set u none) vs = _
    rw [wipe_set (h u (List.mem_cons_self ..)), wipe_idem vs us fun i hi => h i (List.mem_cons_of_mem _ hi)]
section
variable {W : Wd} {ι : List Addr} {H : Hp} {st : Sto} {D : Addr} {xs ys : List V}
theorem sqt_off {K : PySem.W.Frag} (hD : H D = some (.lst xs)) {a : Addr} {vs : List V} (h : SqT K H a vs) : SqT K (upd H D (.lst ys)) a vs := by
  rcases h with (h | ⟨b, h⟩) | h
  · exact .inl (.inl ((upd_ne (fun z => by rw [z, hD] at h; cases h)).trans h))
  · exact .inl (.inr ⟨b, (upd_ne (fun z => by rw [z, hD] at h; cases h)).trans h⟩)
  · exact .inr h
mutual
theorem rv_off (hD : H D = some (.lst xs)) : ∀ (p : PV) (v : V), RV W ι H v p → RV W ι (upd H D (.lst ys)) v p
  | .non, _, .non => .non
  | .bl _, _, .bl _ => .bl _
  | .int _, _, .int _ => .int _
  | .str _, _, .str _ => .str _
  | .tup ps, _, .tup h r z => .tup (sqt_off hD h) (rvs_off hD ps _ r) z
  | .loc _, _, .loc h => .loc h
  | .fn _, _, .fn h => .fn h
  | .kl _, _, .kl h z => .kl h z
theorem rvs_off (hD : H D = some (.lst xs)) : ∀ (ps : List PV) (vs : List V), RVs W ι H vs ps → RVs W ι (upd H D (.lst ys)) vs ps
  | [], _, .nil => .nil
  | p :: ps, _, .cons h r => .cons (rv_off hD p _ h) (rvs_off hD ps _ r)
end
theorem rks_off (hD : H D = some (.lst xs)) : ∀ {ps : List (PV × PV)} {vs : List (Key × V)}, RKs W ι H vs ps → RKs W ι (upd H D (.lst ys)) vs ps
  | _, _, .nil => .nil
  | _, _, .cons h r => .cons (rv_off hD _ _ h) (rks_off hD r)
theorem RS.off (rs : RS W ι st H) (hn : D ∉ ι) (hD : H D = some (.lst xs)) : RS W ι st (L2.upd H D (.lst ys)) := by
  refine ⟨rs.len, rs.nd, fun n u a h1 h2 => ?_, fun P hP => ?_, tl_upd rs.tl fun o e => by rw [hD] at e; cases e; exact ⟨fun _ z => (by cases z), fun _ _ z => (by cases z), fun _ z => (by cases z), fun _ z => (by cases z)⟩⟩
  rotate_left
  · obtain ⟨ps, e, t⟩ := rs.tb P hP
    exact ⟨ps, (upd_ne (fun z => by rw [z, hD] at e; cases e)).trans e, t⟩
  have r := rs.ob n u a h1 h2
  have e : L2.upd H D (.lst ys) a = H a := upd_ne fun z => hn (by rw [← z]; exact List.mem_of_getElem? h2)
  cases u with
  | lst lk l =>
    cases lk with
    | false => obtain ⟨vs, q, z, y⟩ := r; exact ⟨vs, e.trans q, rvs_off hD _ _ z, y⟩
    | true => obtain ⟨c, vs, q, z, y⟩ := r; exact ⟨c, vs, e.trans q, rvs_off hD _ _ z, y⟩
  | dct lk l =>
    cases lk with
    | false => obtain ⟨vs, q, z⟩ := r; exact ⟨vs, e.trans q, rks_off hD z⟩
    | true => obtain ⟨c, vs, q, z⟩ := r; exact ⟨c, vs, e.trans q, rks_off hD z⟩
  | sti l => obtain ⟨S, q, z⟩ := r; exact ⟨S, e.trans q, z⟩
theorem Mono.off {ι0 : List Addr} {H0 : Hp} (m : Mono ι0 H0 ι H) (h0 : H0 D = none) {o : HO} : Mono ι0 H0 ι (L2.upd H D o) := ⟨m.pre, m.fresh, fun a u h hn => by
  obtain ⟨u', e, kp⟩ := m.keep a u h hn
  exact ⟨u', (upd_ne (ne_of_none h h0)).trans e, kp⟩⟩
theorem Mono.notin {ι' : List Addr} {H' : Hp} {o : HO} (m : Mono ι H ι' H') (hn : D ∉ ι) (hD : H D = some o) : D ∉ ι' := fun z => by
  rw [m.fresh D z hn] at hD
  cases hD
end
section
variable {X : Cx} {W : Wd} {k : Nat} {E : XK} {a b c e o : Expr} {es ifs : List Expr} {pos p p2 : Pos} {da db dc d : Env → Mo PV} {dt du : Env → Mo Bool} {dl dm : Env → Mo (List PV)}
theorem On.blk (h : On X W k E) (s : Shared) (H : Hp) (scope : Scope) (env : PySem.Env) (fp : List Addr) : On (X.blk s H scope env fp) W k E0 :=
  ⟨h.hK, h.hM, h.hc, h.nd, h.room, fun _ _ _ _ _ _ _ z => (h.c0 _ _ _ _ _ z).elim, fun _ _ z => z.elim, h.c0⟩
structure DTs (X : Cx) (W : Wd) (k : Nat) (E : XK) (ifs : List Expr) (d : Env → Mo Bool) : Prop where
  run : On X W k E → PTs X ifs (tDT W E d)
theorem pts_imp {t t' : TT} (h : PTs X ifs t) (hi : ∀ σ H Q, t' σ H Q → t σ H Q) : PTs X ifs t' := ⟨fun pins s σ H Q I w => h.run pins s σ H Q I (hi σ H Q w)⟩
def dYes : Env → Mo Bool := fun _ st => .ok true st
theorem dts_nil : DTs X W k E [] dYes := ⟨fun o => pts_imp pts_nil fun σ H Q t => by
  obtain ⟨ι, ρ, st, re, rs, g⟩ := t
  exact g.ok rs⟩
theorem dts_one (h : DT X W k E c dt) : DTs X W k E [c] dt := ⟨fun o => pts_one (h.run o)⟩
open Classical in
noncomputable def lcF (pt : Pt) (dt : Env → Mo Bool) (d : Env → Mo PV) (chk : Sto → Prop) (ρ : Env) : List PV → List PV → Mo (List PV)
  | [], acc => fun st => if chk st then .ok acc st else .stuck
  | q :: qs, acc => fun st => if chk st then (match Pt.go pt q ρ with
    | none => .stuck
    | some ρ1 => bnd (nox (dt ρ1)) (fun b => if b = true then bnd (nox (d ρ1)) (fun y st2 => if acc.length < 16777216 then lcF pt dt d chk ρ qs (acc ++ [y]) st2 else .stuck) else lcF pt dt d chk ρ qs acc) st) else .stuck
noncomputable def dLc (ds : Env → Mo Src) (pt : Pt) (dt : Env → Mo Bool) (d : Env → Mo PV) (vs : List Nat) : Env → Mo (List PV) := fun ρ => bnd (ds ρ) fun S => lcF pt dt d S.chk (wipeE ρ vs) S.l []
open Classical in
theorem lc_of {pt : Pt} {ds : Env → Mo Src} {vs : List Nat} {σ : L2.St} {H : Hp} {Q : VK} (t : tDL W E (dLc ds pt dt d vs) σ H Q) : tLc (tDI W E ds) (tDP W pt vs) (tDT W E0 dt) (tD W E0 d) vs σ H Q := by
  obtain ⟨ι, ρ, st, re, rs, g⟩ := t
  refine ⟨ι, ρ, st, re, rs, Good.imp (Good.bind g) fun S st1 ι1 H1 m1 r1 g1 J H1' mn r1' jo D hD => ?_⟩
  have re1 := (re.mono rs m1).mono r1 mn
  have hD0 : H D = none := none_back rs (m1.trans mn) r1'.some_ hD
  have hD1 : D ∉ ι1 := fun z => r1'.some_ D z hD
  have Dsz : ∀ (acc : List PV), acc.length < 16777216 → (acc.length : Nat) < sizeLine := fun acc h => by
    rw [sizeLine_eq]
    exact h
  let S0 := fun (i : Nat) (H' : Hp) => ∃ ι' st' acc av, RE W ι' H' ρ σ ∧ RS W ι' st' H' ∧ Mono ι1 H1' ι' H' ∧ D ∉ ι' ∧ H' D = some (.lst av) ∧ RVs W ι' H' av acc ∧ acc.length ≤ 16777216 ∧ Good W E ι1 H1' (lcF pt dt d S.chk (wipeE ρ vs) (S.l.drop i) acc st') (kL W H Q)
  refine ⟨fun i m H' => m = S.l.length - i ∧ S0 i H', ⟨_, rfl, ι1, st1, [], [], ?_, ?_, ?_, hD1, upd_same, .nil, Nat.zero_le _, ?_⟩, ?_⟩
  · exact re1.mono r1' (Mono.new hD)
  · exact r1'.other hD
  · exact Mono.new hD
  · exact g1.shift mn
  · rintro i m H' ⟨rfl, ι2, st2, acc, av, re2, r2, m2, hn2, he2, ra2, hz2, g2⟩
    by_cases hi : i < S.l.length
    · have hq : S.l[i]? = some S.l[i] := List.getElem?_eq_getElem hi
      rw [List.drop_eq_getElem_cons hi] at g2
      unfold lcF at g2
      obtain ⟨hc, g3⟩ := good_if g2
      obtain ⟨hgo, hy⟩ := (jo ι2 H' st2 m2 r2 hc i).1 _ hq
      refine .inr ⟨hgo, S0 (i + 1), fun H'' z => ⟨S.l.length - (i + 1), by omega, rfl, z⟩, fun x H'' y => ?_⟩
      obtain ⟨m3, r3, rv⟩ := hy x H'' y
      cases hp : Pt.go pt S.l[i] (wipeE ρ vs) with
      | none => rw [hp] at g3; exact g3.elim
      | some ρ1 =>
        rw [hp] at g3
        have re3 := re2.mono r2 m3
        refine ⟨ι2, wipeE ρ vs, st2, _, re3.wipe vs, r3, rv, ρ1, hp, fun σ' re' hw => ⟨hw.trans (wipe_idem vs vs fun _ z => z), ?_⟩⟩
        refine ⟨ι2, ρ1, st2, re', r3, Good.imp (Good.noxB g3 (m2.trans m3)) fun b st4 ι4 H4 m4 r4 g4 => ?_⟩
        have hn4 := (m3.trans m4).notin hn2 he2
        have he4 := lst_mono (m3.trans m4) hn2 he2
        have ra4 := rvs_mono r2 (m3.trans m4) _ _ ra2
        have re4 := re2.mono r2 (m3.trans m4)
        cases b with
        | false => exact ⟨ι4, st4, acc, av, re4, r4, m2.trans (m3.trans m4), hn4, he4, ra4, hz2, g4⟩
        | true =>
          show ite (true = true) _ _
          rw [if_pos rfl] at g4 ⊢
          refine ⟨ι4, ρ1, st4, re'.mono r3 m4, r4, Good.imp (Good.noxB g4 (m2.trans (m3.trans m4))) fun y st5 ι5 H5 m5 r5 g5 yv hyv => ?_⟩
          obtain ⟨hl, g6⟩ := good_if g5
          have hn5 := m5.notin hn4 he4
          have he5 := lst_mono m5 hn4 he4
          have ra5 := rvs_mono r4 m5 _ _ ra4
          refine ⟨av, he5, by rw [ra2.length]; exact Dsz acc hl, ?_⟩
          have mm : Mono ι1 H1' ι5 H5 := m2.trans ((m3.trans m4).trans m5)
          refine ⟨ι5, st5, acc ++ [y], av ++ [yv], ?_, r5.off hn5 he5, mm.off hD, hn5, upd_same, rvs_off he5 _ _ (ra5.append (.cons hyv .nil)), by rw [List.length_append, List.length_singleton]; exact hl, ?_⟩
          · have re5 := re4.mono r4 m5
            exact ⟨re5.len, fun i p h => let ⟨v, h1, h2⟩ := re5.at_ i p h; ⟨v, h1, rv_off he5 p v h2⟩⟩
          · exact g6
    · have hl : S.l.length ≤ i := by omega
      rw [List.drop_of_length_le hl] at g2
      unfold lcF at g2
      obtain ⟨hc, g3⟩ := good_if g2
      exact .inl ⟨(jo ι2 H' st2 m2 r2 hc i).2 hl, (g3.shift m2).ok r2 D av hD0 hn2 he2 ra2 hz2⟩

abbrev Bk (X : Cx) (scope : Scope) (P : Cx → Prop) : Prop := ∀ (s : Shared) (H : Hp) (C : Addr) (cl : List (Str × Addr)) (fp : List Addr), P (X.blk s H scope (compEnvC scope cl C X.env) fp)
theorem dl_lc {elt tg iter : Expr} {scope : Scope} {own : List (Str × Nat)} {ds : Env → Mo Src} {pt : Pt} (hi : DI X W k E tg iter ds) (ok : BlkOk X.N X.env.scope scope own) (hg : Bk X scope fun Y => DP Y W (own.map (·.2)) tg pt) (ht : Bk X scope fun Y => DTs Y W k E0 ifs dt)
    (he : Bk X scope fun Y => DE Y W k E0 elt d) (hs : ∀ x, foldedSetIterable iter X.env x = pure x := by intro _; rfl) : DL X W k E (.ListComp elt [⟨tg, iter, ifs, 0⟩] scope pos) (dLc ds pt dt d (own.map (·.2))) := ⟨fun o =>
  pe_imp (pe_lc o.hc o.nd (hi.run o) ok (fun s H C cl fp => (hg s H C cl fp).run o.hK o.nd o.hc) (fun s H C cl fp => (ht s H C cl fp).run (o.blk s H scope _ fp)) (fun s H C cl fp => (he s H C cl fp).run (o.blk s H scope _ fp)) hs) fun _ _ _ t => lc_of t⟩
/-- y = [..] on one line, y a local -/
theorem ds_setLc {i : Nat} {y : Str} {py spos : Pos} {elt tg iter : Expr} {scope : Scope} {own : List (Str × Nat)} {ds : Env → Mo Src} {pt : Pt} (hi : DI X W k E tg iter ds) (ok : BlkOk X.N X.env.scope scope own) (hg : Bk X scope fun Y => DP Y W (own.map (·.2)) tg pt) (ht : Bk X scope fun Y => DTs Y W k E0 ifs dt)
    (he : Bk X scope fun Y => DE Y W k E0 elt d) (hy : X.N[i]? = some y := by rfl) (hyl : X.env.scope.names.lookup y = some .local := by rfl) (hsw : swapsWith (.ListComp elt [⟨tg, iter, ifs, 0⟩] scope pos) (some (.Name y py)) spos.line X.env = pure true := by rfl)
    (hs : ∀ x, foldedSetIterable iter X.env x = pure x := by intro _; rfl) : DS X W k E (.Assign [.Name y py] (.ListComp elt [⟨tg, iter, ifs, 0⟩] scope pos) spos) (dSet i (fun ρ => bnd (dLc ds pt dt d (own.map (·.2)) ρ) layL)) := ⟨fun o =>
  ps_imp (ps_setLc o.hc o.nd hy hyl hsw (hi.run o) ok (fun s H C cl fp => (hg s H C cl fp).run o.hK o.nd o.hc) (fun s H C cl fp => (ht s H C cl fp).run (o.blk s H scope _ fp)) (fun s H C cl fp => (he s H C cl fp).run (o.blk s H scope _ fp)) hs) fun D σ H t => by
    obtain ⟨ι, ρ, st, re, rs, g⟩ := t
    exact lc_of (lay_of ⟨ι, ρ, st, re, rs, Good.imp (Good.bind g) fun q st1 ι1 H1 m1 r1 g1 v hv => g1.ok r1 _ ((re.mono rs m1).set hv i)⟩)⟩

/-! ### methods of lists -/
def MOk (W : Wd) (E : XK) (r : V → List V → Hp → VK → Prop) (f : PV → List PV → Mo PV) : Prop := ∀ (ι : List Addr) (st : Sto) (H : Hp) (x : V) (xs : List V) (q : PV) (l : List PV) (Q : VK), RS W ι st H → RV W ι H x q → RVs W ι H xs l → Good W E ι H (f q l st) (kQ W Q) → r x xs H Q
variable {name : Str} {apos cpos : Pos} {id : String} {r : V → List V → Hp → VK → Prop} {f : PV → List PV → Mo PV}
theorem de_lm (slot : Slot "list" name id) (hty : typeOf (.builtin id) = pure (.type "method_descriptor")) (hm : On X W k E → MtR X id r) (hf : MOk W E r f) (ho : DE X W k E a d) (ha : DA X W k E (e :: es) dl)
    (hbase : attributeBase a name X.env (eval a X.env) = eval a X.env := by rfl)
    (hfew : ((backTo cpos (starEach (e :: es) X.env)).all (fun x => !x.1) && (backToKw cpos (keywordEach [] X.env)).all (fun x => x.1.isSome) && decide ((e :: es).length + ([] : List Keyword).length + (if ([] : List Keyword).isEmpty then 0 else 1) < 30)) = true := by rfl)
    (hline : (apos.endLine == cpos.line) = true := by rfl) (hs : starEach (e :: es) X.env = (false, eval e X.env) :: starEach es X.env := by rfl) (hplain : (backTo cpos (starEach es X.env)).any (·.1) = false := by rfl) :
    DE X W k E (.Call (.Attribute a name apos) (e :: es) [] cpos) (fun ρ => bnd (d ρ) fun q => bnd (lstM q) fun _ => bnd (dl ρ) fun l => f q l) := ⟨fun o => pe_imp (pe_bm PySem.F.plainAttrs_list slot hty (hm o) (ho.run o) (ha.run o) hbase hfew hline hs hplain) fun σ H Q t => by
  obtain ⟨ι, ρ, st, re, rs, g⟩ := t
  refine ⟨ι, ρ, st, re, rs, Good.imp (Good.bind g) fun q st1 ι1 H1 m1 r1 g1 x hx => ?_⟩
  obtain ⟨p, vs, l, rfl, sq, rr, hz, g2⟩ := lst_of (α := Nat) r1 hx (Good.bind g1)
  refine ⟨.inl ⟨rfl, _, by rw [o.hK]; exact sq⟩, ι1, ρ, st1, re.mono rs m1, r1, Good.imp (Good.bind g2) fun ys st2 ι2 H2 m2 r2 g3 xs hxs => ?_⟩
  exact hf ι2 st2 H2 _ xs q ys Q r2 (rv_mono r1 m2 q _ hx) hxs g3⟩
theorem de_lm0 (slot : Slot "list" name id) (hty : typeOf (.builtin id) = pure (.type "method_descriptor")) (hm : On X W k E → MtR X id r) (hf : MOk W E r f) (ho : DE X W k E a d)
    (hbase : attributeBase a name X.env (eval a X.env) = eval a X.env := by rfl) (hline : (apos.endLine == cpos.line) = true := by rfl) :
    DE X W k E (.Call (.Attribute a name apos) [] [] cpos) (fun ρ => bnd (d ρ) fun q => bnd (lstM q) fun _ => f q []) := ⟨fun o => pe_imp (pe_bm0 PySem.F.plainAttrs_list slot hty (hm o) (ho.run o) hbase hline) fun σ H Q t => by
  obtain ⟨ι, ρ, st, re, rs, g⟩ := t
  refine ⟨ι, ρ, st, re, rs, Good.imp (Good.bind g) fun q st1 ι1 H1 m1 r1 g1 x hx => ?_⟩
  obtain ⟨p, vs, l, rfl, sq, rr, hz, g2⟩ := lst_of (α := Nat) r1 hx (Good.bind g1)
  exact ⟨.inl ⟨rfl, _, by rw [o.hK]; exact sq⟩, hf ι1 st1 H1 _ [] q [] Q r1 hx .nil g2⟩⟩
/-- a list that may be written -/
def lstW (q : PV) : Mo (Nat × List PV) := fun st => match q with
  | .loc n => match st[n]? with
    | some (.lst false l) => .ok (n, l) st
    | _ => .stuck
  | _ => .stuck
def setL (n : Nat) (l : List PV) (z : PV) : Mo PV := fun st => if l.length ≤ 16777216 then .ok z (st.set n (.lst false l)) else .stuck
theorem lw_of {ι : List Addr} {st : Sto} {H : Hp} {x : V} {q : PV} {kk : PV → Sto → List Addr → Hp → Prop} {ff : Nat × List PV → Mo PV} (rs : RS W ι st H) (hx : RV W ι H x q) (g : Good W E ι H (bnd (lstW q) ff st) kk) :
    ∃ a n vs l, x = .ref a ∧ ι[n]? = some a ∧ H a = some (.lst vs) ∧ RVs W ι H vs l ∧ l.length ≤ 16777216 ∧ Good W E ι H (ff (n, l) st) kk := by
  replace g := Good.bind g
  cases hx <;> try exact g.elim
  rename_i n a hn
  unfold lstW at g
  dsimp only at g
  cases q : st[n]? with
  | none => rw [q] at g; exact g.elim
  | some ob =>
    rw [q] at g
    have ro := rs.ob n ob a q hn
    cases ob with
    | dct _ _ => exact g.elim
    | sti _ => exact g.elim
    | lst lk l =>
      cases lk with
      | true => exact g.elim
      | false =>
        obtain ⟨vs, e, r, hz⟩ := ro
        exact ⟨a, n, vs, l, rfl, hn, e, r, hz, g.ok rs⟩
theorem set_fin {ι : List Addr} {st : Sto} {H : Hp} {n : Nat} {a : Addr} {l : List PV} {vs : List V} {z : PV} {v : V} {Q : VK} (g : Good W E ι H (setL n l z st) (kQ W Q)) (rs : RS W ι st H) (hn : ι[n]? = some a) (r : RVs W ι H vs l) (hv : RV W ι H v z) : Q v (upd H a (.lst vs)) := by
  obtain ⟨hz, g⟩ := good_if g
  exact good_upd g rs hn r hz v (rv_mono rs (Mono.mut (List.mem_of_getElem? hn)) _ _ hv)
def appM : PV → List PV → Mo PV
  | q, [y] => bnd (lstW q) fun nl => setL nl.1 (nl.2 ++ [y]) .non
  | _, _ => fail
theorem mok_app : MOk W E rAppend appM := by
  intro ι st H x xs q l Q rs hx hxs g
  cases hxs with
  | nil => exact g.elim
  | cons h1 t1 =>
    cases t1 with
    | cons _ _ => exact g.elim
    | nil =>
      obtain ⟨a, n, vs, l, rfl, hn, e, r, hz, g1⟩ := lw_of rs hx g
      have hl := (good_if g1).1
      rw [List.length_append, List.length_singleton] at hl
      exact ⟨a, vs, _, rfl, rfl, e, by rw [sizeLine_eq, r.length]; exact hl, set_fin g1 rs hn (r.append (.cons h1 .nil)) .non⟩
theorem de_append (ho : DE X W k E a d) (ha : DE X W k E e db) (hbase : attributeBase a "append" X.env (eval a X.env) = eval a X.env := by rfl)
    (hfew : ((backTo cpos (starEach [e] X.env)).all (fun x => !x.1) && (backToKw cpos (keywordEach [] X.env)).all (fun x => x.1.isSome) && decide ([e].length + ([] : List Keyword).length + (if ([] : List Keyword).isEmpty then 0 else 1) < 30)) = true := by rfl)
    (hline : (apos.endLine == cpos.line) = true := by rfl) (hs : starEach [e] X.env = (false, eval e X.env) :: starEach [] X.env := by rfl) :
    DE X W k E (.Call (.Attribute a "append" apos) [e] [] cpos) (fun ρ => bnd (d ρ) fun q => bnd (lstM q) fun _ => bnd (dCons db (fun _ st => .ok [] st) ρ) fun l => appM q l) :=
  de_lm PySem.F.slot_list_append PySem.F.type_list_append (fun o => mt_append) mok_app ho (da_cons ha da_nil hs) hbase hfew hline hs rfl
def popM : PV → List PV → Mo PV
  | q, [] => bnd (lstW q) fun nl => match nl.2[nl.2.length - 1]? with
    | some y => setL nl.1 nl.2.dropLast y
    | none => fail
  | _, _ => fail
theorem RVs.dropLast {ι : List Addr} {H : Hp} {vs : List V} {ps : List PV} (r : RVs W ι H vs ps) : RVs W ι H vs.dropLast ps.dropLast := by
  rw [List.dropLast_eq_take, List.dropLast_eq_take, r.length]
  exact r.take _
theorem mok_pop : MOk W E rPop popM := by
  intro ι st H x xs q l Q rs hx hxs g
  cases hxs with
  | cons _ _ => exact g.elim
  | nil =>
    obtain ⟨a, n, vs, l, rfl, hn, e, r, hz, g1⟩ := lw_of rs hx g
    dsimp only at g1
    cases hy : l[l.length - 1]? with
    | none => rw [hy] at g1; exact g1.elim
    | some y =>
      rw [hy] at g1
      obtain ⟨v, hv, rv⟩ := r.get hy
      exact ⟨a, vs, v, rfl, rfl, e, by rw [r.length]; exact hv, set_fin g1 rs hn r.dropLast rv⟩
theorem de_pop (ho : DE X W k E a d) (hbase : attributeBase a "pop" X.env (eval a X.env) = eval a X.env := by rfl) (hline : (apos.endLine == cpos.line) = true := by rfl) :
    DE X W k E (.Call (.Attribute a "pop" apos) [] [] cpos) (fun ρ => bnd (d ρ) fun q => bnd (lstM q) fun _ => popM q []) := de_lm0 PySem.F.slot_list_pop PySem.F.type_list_pop (fun o => mt_pop) mok_pop ho hbase hline
def popAtM : PV → List PV → Mo PV
  | q, [.int i] => bnd (lstW q) fun nl => if -9223372036854775808 ≤ i ∧ i < 9223372036854775808 then (match seqIndex? i nl.2.length with
    | some j => match nl.2[j]? with
      | some y => setL nl.1 (nl.2.eraseIdx j) y
      | none => fail
    | none => fail) else fail
  | _, _ => fail
theorem mok_popAt : MOk W E rPopAt popAtM := by
  intro ι st H x xs q l Q rs hx hxs g
  cases hxs with
  | nil => exact g.elim
  | cons h1 t1 =>
    cases t1 with
    | cons _ _ => cases h1 <;> exact g.elim
    | nil =>
      cases h1 <;> try exact g.elim
      obtain ⟨a, n, vs, l, rfl, hn, e, r, hz, g1⟩ := lw_of rs hx g
      rename_i i
      dsimp only at g1
      by_cases hc : -9223372036854775808 ≤ i ∧ i < 9223372036854775808
      · rw [if_pos hc] at g1
        cases hj : seqIndex? i l.length with
        | none => rw [hj] at g1; exact g1.elim
        | some j =>
          rw [hj] at g1
          dsimp only at g1
          cases hy : l[j]? with
          | none => rw [hy] at g1; exact g1.elim
          | some y =>
            rw [hy] at g1
            obtain ⟨v, hv, rv⟩ := r.get hy
            exact ⟨a, vs, i, j, v, rfl, rfl, e, by have := hc.1; omega, by have := hc.2; omega, by rw [r.length]; exact hj, hv, set_fin g1 rs hn (r.eraseIdx j) rv⟩
      · rw [if_neg hc] at g1
        exact g1.elim
theorem de_popAt (ho : DE X W k E a d) (ha : DE X W k E e db) (hbase : attributeBase a "pop" X.env (eval a X.env) = eval a X.env := by rfl)
    (hfew : ((backTo cpos (starEach [e] X.env)).all (fun x => !x.1) && (backToKw cpos (keywordEach [] X.env)).all (fun x => x.1.isSome) && decide ([e].length + ([] : List Keyword).length + (if ([] : List Keyword).isEmpty then 0 else 1) < 30)) = true := by rfl)
    (hline : (apos.endLine == cpos.line) = true := by rfl) (hs : starEach [e] X.env = (false, eval e X.env) :: starEach [] X.env := by rfl) :
    DE X W k E (.Call (.Attribute a "pop" apos) [e] [] cpos) (fun ρ => bnd (d ρ) fun q => bnd (lstM q) fun _ => bnd (dCons db (fun _ st => .ok [] st) ρ) fun l => popAtM q l) :=
  de_lm PySem.F.slot_list_pop PySem.F.type_list_pop (fun o => mt_popAt) mok_popAt ho (da_cons ha da_nil hs) hbase hfew hline hs rfl
end
end PD
/-! PD: functions, what they leave behind. -/
namespace PD
open PySem PySem.Spec PyProof.Rows L2
/-! ### places -/
mutual
/-- all places are below n -/
def cl (n : Nat) : PV → Bool
  | .loc m => decide (m < n)
  | .tup l => cls n l
  | _ => true
def cls (n : Nat) : List PV → Bool
  | [] => true
  | p :: l => cl n p && cls n l
end
def clks (n : Nat) : List (PV × PV) → Bool
  | [] => true
  | p :: l => cl n p.2 && clks n l
def clO (n : Nat) : Ob → Bool
  | .lst _ l => cls n l
  | .dct _ l => clks n l
  | .sti _ => true
mutual
def ren (f : Nat → Nat) : PV → PV
  | .loc m => .loc (f m)
  | .tup l => .tup (rens f l)
  | .non => .non
  | .bl b => .bl b
  | .int i => .int i
  | .str s => .str s
  | .fn j => .fn j
  | .kl l => .kl l
def rens (f : Nat → Nat) : List PV → List PV
  | [] => []
  | p :: l => ren f p :: rens f l
end
def renks (f : Nat → Nat) : List (PV × PV) → List (PV × PV)
  | [] => []
  | p :: l => (p.1, ren f p.2) :: renks f l
def renO (f : Nat → Nat) : Ob → Ob
  | .lst k l => .lst k (rens f l)
  | .dct k l => .dct k (renks f l)
  | .sti l => .sti l
mutual
theorem ren_id {f : Nat → Nat} {n : Nat} (h : ∀ i, i < n → f i = i) : ∀ p : PV, cl n p = true → ren f p = p
  | .loc m, z => by unfold cl at z; unfold ren; rw [h m (of_decide_eq_true z)]
  | .tup l, z => by unfold cl at z; unfold ren; rw [rens_id h l z]
  | .non, _ => rfl
  | .bl _, _ => rfl
  | .int _, _ => rfl
  | .str _, _ => rfl
  | .fn _, _ => rfl
  | .kl _, _ => rfl
theorem rens_id {f : Nat → Nat} {n : Nat} (h : ∀ i, i < n → f i = i) : ∀ l : List PV, cls n l = true → rens f l = l
  | [], _ => rfl
  | p :: l, z => by
    unfold cls at z
    rw [Bool.and_eq_true] at z
    unfold rens
    rw [ren_id h p z.1, rens_id h l z.2]
end
theorem renks_id {f : Nat → Nat} {n : Nat} (h : ∀ i, i < n → f i = i) : ∀ l : List (PV × PV), clks n l = true → renks f l = l
  | [], _ => rfl
  | p :: l, z => by
    unfold clks at z
    rw [Bool.and_eq_true] at z
    unfold renks
    rw [ren_id h p.2 z.1, renks_id h l z.2]
theorem renO_id {f : Nat → Nat} {n : Nat} (h : ∀ i, i < n → f i = i) : ∀ o : Ob, clO n o = true → renO f o = o
  | .lst k l, z => by show Ob.lst k (rens f l) = _; rw [rens_id h l z]
  | .dct k l, z => by show Ob.dct k (renks f l) = _; rw [renks_id h l z]
  | .sti _, _ => rfl
theorem rens_length {f : Nat → Nat} : ∀ l : List PV, (rens f l).length = l.length
  | [] => rfl
  | p :: l => by unfold rens; rw [List.length_cons, List.length_cons, rens_length l]
mutual
theorem cl_mono {n m : Nat} (h : n ≤ m) : ∀ p : PV, cl n p = true → cl m p = true
  | .loc i, z => by unfold cl at z ⊢; exact decide_eq_true (Nat.lt_of_lt_of_le (of_decide_eq_true z) h)
  | .tup l, z => by unfold cl at z ⊢; exact cls_mono h l z
  | .non, _ => rfl
  | .bl _, _ => rfl
  | .int _, _ => rfl
  | .str _, _ => rfl
  | .fn _, _ => rfl
  | .kl _, _ => rfl
theorem cls_mono {n m : Nat} (h : n ≤ m) : ∀ l : List PV, cls n l = true → cls m l = true
  | [], _ => rfl
  | p :: l, z => by
    unfold cls at z ⊢
    rw [Bool.and_eq_true] at z ⊢
    exact ⟨cl_mono h p z.1, cls_mono h l z.2⟩
end
theorem clks_mono {n m : Nat} (h : n ≤ m) : ∀ l : List (PV × PV), clks n l = true → clks m l = true
  | [], _ => rfl
  | p :: l, z => by
    unfold clks at z ⊢
    rw [Bool.and_eq_true] at z ⊢
    exact ⟨cl_mono h p.2 z.1, clks_mono h l z.2⟩
theorem clO_mono {n m : Nat} (h : n ≤ m) : ∀ o : Ob, clO n o = true → clO m o = true
  | .lst _ l, z => cls_mono h l z
  | .dct _ l, z => clks_mono h l z
  | .sti _, _ => rfl
section
variable {W : Wd} {ι ι' ι1 ι2 : List Addr} {H H' : Hp} {st : Sto}
mutual
theorem rv_cl : ∀ (p : PV) (v : V), RV W ι H v p → cl ι.length p = true
  | .non, _, .non => rfl
  | .bl _, _, .bl _ => rfl
  | .int _, _, .int _ => rfl
  | .str _, _, .str _ => rfl
  | .tup ps, _, .tup h r z => by unfold cl; exact rvs_cl ps _ r
  | .loc _, _, .loc h => by unfold cl; exact decide_eq_true (List.getElem?_eq_some_iff.mp h).1
  | .fn _, _, .fn h => rfl
  | .kl _, _, .kl _ _ => rfl
theorem rvs_cl : ∀ (ps : List PV) (vs : List V), RVs W ι H vs ps → cls ι.length ps = true
  | [], _, .nil => rfl
  | p :: ps, _, .cons h r => by unfold cls; rw [Bool.and_eq_true]; exact ⟨rv_cl p _ h, rvs_cl ps _ r⟩
end
theorem rks_cl : ∀ {ps : List (PV × PV)} {vs : List (Key × V)}, RKs W ι H vs ps → clks ι.length ps = true
  | _, _, .nil => rfl
  | _, _, .cons h r => by unfold clks; rw [Bool.and_eq_true]; exact ⟨rv_cl _ _ h, rks_cl r⟩
theorem RS.closed (rs : RS W ι st H) : ∀ o ∈ st, clO st.length o = true := fun o ho => by
  obtain ⟨n, hn, e⟩ := List.getElem_of_mem ho
  obtain ⟨a, ha, r⟩ := rs.addr (n := n) (o := o) (by rw [List.getElem?_eq_getElem hn, e])
  rw [← rs.len]
  cases o with
  | lst k l =>
    cases k with
    | false => obtain ⟨vs, _, r, _⟩ := r; exact rvs_cl _ _ r
    | true => obtain ⟨_, vs, _, r, _⟩ := r; exact rvs_cl _ _ r
  | dct k l =>
    cases k with
    | false => obtain ⟨vs, _, r⟩ := r; exact rks_cl r
    | true => obtain ⟨_, vs, _, r⟩ := r; exact rks_cl r
  | sti l => rfl
mutual
theorem rv_ren {f : Nat → Nat} {m : Nat} (hf : ∀ n, n < m → ι2[n]? = ι1[f n]?) : ∀ (p : PV) (v : V), cl m p = true → RV W ι1 H v (ren f p) → RV W ι2 H v p
  | .non, _, _, .non => .non
  | .bl _, _, _, .bl _ => .bl _
  | .int _, _, _, .int _ => .int _
  | .str _, _, _, .str _ => .str _
  | .tup ps, v, c, r => by
    unfold ren at r
    unfold cl at c
    cases r with
    | tup h r z => exact .tup h (rvs_ren hf ps _ c r) (by rw [rens_length] at z; exact z)
  | .loc n, v, c, r => by
    unfold ren at r
    unfold cl at c
    cases r with
    | loc h => exact .loc ((hf n (of_decide_eq_true c)).trans h)
  | .fn _, _, _, .fn h => .fn h
  | .kl _, _, _, .kl h z => .kl h z
theorem rvs_ren {f : Nat → Nat} {m : Nat} (hf : ∀ n, n < m → ι2[n]? = ι1[f n]?) : ∀ (ps : List PV) (vs : List V), cls m ps = true → RVs W ι1 H vs (rens f ps) → RVs W ι2 H vs ps
  | [], _, _, r => by
    unfold rens at r
    cases r
    exact .nil
  | p :: ps, _, c, r => by
    unfold rens at r
    unfold cls at c
    rw [Bool.and_eq_true] at c
    cases r with
    | cons h r => exact .cons (rv_ren hf p _ c.1 h) (rvs_ren hf ps _ c.2 r)
end
theorem rks_ren {f : Nat → Nat} {m : Nat} (hf : ∀ n, n < m → ι2[n]? = ι1[f n]?) : ∀ (ps : List (PV × PV)) (vs : List (Key × V)), clks m ps = true → RKs W ι1 H vs (renks f ps) → RKs W ι2 H vs ps
  | [], _, _, r => by
    unfold renks at r
    cases r
    exact .nil
  | (k, p) :: ps, _, c, r => by
    unfold renks at r
    unfold clks at c
    rw [Bool.and_eq_true] at c
    dsimp only at r c
    generalize e : ren f p = z at r
    cases r with
    | cons h r => subst e; exact .cons (rv_ren hf p _ c.1 h) (rks_ren hf ps _ c.2 r)
theorem ro_ren {f : Nat → Nat} {m : Nat} (hf : ∀ n, n < m → ι2[n]? = ι1[f n]?) {a : Addr} : ∀ o : Ob, clO m o = true → RO W ι1 H a (renO f o) → RO W ι2 H a o
  | .lst k l, c, r => by
    cases k with
    | false => obtain ⟨vs, e, r, z⟩ := r; exact ⟨vs, e, rvs_ren hf _ _ c r, by rw [rens_length] at z; exact z⟩
    | true => obtain ⟨o, vs, e, r, z⟩ := r; exact ⟨o, vs, e, rvs_ren hf _ _ c r, by rw [rens_length] at z; exact z⟩
  | .dct k l, c, r => by
    cases k with
    | false => obtain ⟨vs, e, r⟩ := r; exact ⟨vs, e, rks_ren hf _ _ c r⟩
    | true => obtain ⟨o, vs, e, r⟩ := r; exact ⟨o, vs, e, rks_ren hf _ _ c r⟩
  | .sti l, c, r => r
end
/-- what is left of the store when nobody looks at the rest any more -/
structure Gc (n0 : Nat) (p1 : PV) (st1 : Sto) (p2 : PV) (st2 : Sto) (f : Nat → Nat) : Prop where
  old : ∀ i, i < n0 → f i = i
  lt : ∀ i, i < st2.length → f i < st1.length
  inj : ∀ i j, i < st2.length → j < st2.length → f i = f j → i = j
  le : n0 ≤ st2.length
  cp : cl st2.length p2 = true
  ep : p1 = ren f p2
  ob : ∀ i o, st2[i]? = some o → clO st2.length o = true ∧ st1[f i]? = some (renO f o)
theorem Gc.run {W : Wd} {ι ι1 : List Addr} {H H1 : Hp} {p1 p2 : PV} {st1 st2 : Sto} {f : Nat → Nat} {n0 : Nat} (g : Gc n0 p1 st1 p2 st2 f) (hn : ι.length = n0) (m : Mono ι H ι1 H1) (rs : RS W ι1 st1 H1) :
    ∃ ι2, Mono ι H ι2 H1 ∧ RS W ι2 st2 H1 ∧ ∀ v, RV W ι1 H1 v p1 → RV W ι2 H1 v p2 := by
  let ι2 := (List.range st2.length).map fun i => (ι1[f i]?).getD 0
  have hl2 : ι2.length = st2.length := by simp [ι2]
  have hget : ∀ n, n < st2.length → ι2[n]? = ι1[f n]? := fun n hn => by
    have h1 : f n < ι1.length := by rw [rs.len]; exact g.lt n hn
    show ((List.range st2.length).map fun i => (ι1[f i]?).getD 0)[n]? = _
    rw [List.getElem?_map, List.getElem?_range hn]
    show some ((ι1[f n]?).getD 0) = _
    rw [List.getElem?_eq_getElem h1]
    rfl
  have hback : ∀ a ∈ ι2, ∃ i, i < st2.length ∧ ι1[f i]? = some a := fun a ha => by
    obtain ⟨i, hi, e⟩ := List.getElem_of_mem ha
    refine ⟨i, by rw [← hl2]; exact hi, ?_⟩
    rw [← hget i (by rw [← hl2]; exact hi), List.getElem?_eq_getElem hi, e]
  refine ⟨ι2, ⟨fun n a h => ?_, fun a h h0 => ?_, m.keep⟩, ⟨hl2, ?_, fun n o a h1 h2 => ?_, rs.tb, rs.tl⟩, fun v h => ?_⟩
  · have hlt : n < n0 := by rw [← hn]; exact (List.getElem?_eq_some_iff.mp h).1
    rw [hget n (Nat.lt_of_lt_of_le hlt g.le), g.old n hlt]
    exact m.pre n a h
  · obtain ⟨i, _, e⟩ := hback a h
    exact m.fresh a (List.mem_of_getElem? e) h0
  · refine List.pairwise_iff_getElem.mpr fun i j hi hj hij e0 => ?_
    have e : ι2[i]? = ι2[j]? := by rw [List.getElem?_eq_getElem hi, List.getElem?_eq_getElem hj, e0]
    have hj' : j < st2.length := by rw [← hl2]; exact hj
    have hi' : i < st2.length := by omega
    rw [hget i hi', hget j hj'] at e
    have h1 : f i < ι1.length := by rw [rs.len]; exact g.lt i hi'
    have h2 : f j < ι1.length := by rw [rs.len]; exact g.lt j hj'
    rw [List.getElem?_eq_getElem h1, List.getElem?_eq_getElem h2] at e
    have e2 := (List.getElem_inj rs.nd).mp (Option.some.inj e)
    have := g.inj i j hi' hj' e2
    omega
  · have hlt : n < st2.length := (List.getElem?_eq_some_iff.mp h1).1
    obtain ⟨c, e⟩ := g.ob n o h1
    rw [hget n hlt] at h2
    exact ro_ren hget o c (rs.ob (f n) _ a e h2)
  · rw [g.ep] at h
    exact rv_ren hget p2 v g.cp h
def GcR (n0 : Nat) (p1 : PV) (st1 : Sto) (p2 : PV) (st2 : Sto) : Prop := (p1 = p2 ∧ st1 = st2) ∨ ∃ f, Gc n0 p1 st1 p2 st2 f
theorem gc_take {n0 : Nat} {p : PV} {st ex : Sto} (hn : n0 ≤ st.length) (hp : cl st.length p = true) (hs : ∀ o ∈ st, clO st.length o = true) : GcR n0 p (st ++ ex) p st := by
  refine .inr ⟨id, ⟨fun _ _ => rfl, fun i hi => ?_, fun _ _ _ _ h => h, hn, hp, (ren_id (fun _ _ => rfl) p hp).symm, fun i o h => ⟨hs o (List.mem_of_getElem? h), ?_⟩⟩⟩
  · rw [List.length_append]
    exact Nat.lt_of_lt_of_le hi (Nat.le_add_right _ _)
  · have e := renO_id (f := id) (fun _ _ => rfl) o (hs o (List.mem_of_getElem? h))
    rw [e]
    show (st ++ ex)[i]? = some o
    rw [List.getElem?_append_left (List.getElem?_eq_some_iff.mp h).1]
    exact h
/-- a new list comes back -/
theorem gc_new {n0 m : Nat} {st ex : Sto} {k : Bool} {l : List PV} (hn : n0 ≤ st.length) (hm : (st ++ ex)[m]? = some (.lst k l)) (hle : st.length ≤ m) (hp : cls st.length l = true) (hs : ∀ o ∈ st, clO st.length o = true) : GcR n0 (.loc m) (st ++ ex) (.loc st.length) (st ++ [.lst k l]) := by
  have hlen : (st ++ [Ob.lst k l]).length = st.length + 1 := by rw [List.length_append, List.length_singleton]
  have hid : ∀ i, i < st.length → (fun i => if i = st.length then m else i) i = i := fun i hi => if_neg (by omega)
  refine .inr ⟨fun i => if i = st.length then m else i, ⟨fun i hi => hid i (by omega), fun i hi => ?_, fun i j hi hj e => ?_, by omega, ?_, ?_, fun i o h => ?_⟩⟩
  · show (if i = st.length then m else i) < _
    have h2 := (List.getElem?_eq_some_iff.mp hm).1
    split
    · exact h2
    · rw [List.length_append]; omega
  · have e : (if i = st.length then m else i) = (if j = st.length then m else j) := e
    split at e <;> split at e <;> omega
  · unfold cl
    exact decide_eq_true (by omega)
  · unfold ren
    show _ = PV.loc (if st.length = st.length then m else st.length)
    rw [if_pos rfl]
  · by_cases hi : i < st.length
    · rw [List.getElem?_append_left hi] at h
      have c := hs o (List.mem_of_getElem? h)
      refine ⟨clO_mono (by omega) o c, ?_⟩
      rw [renO_id hid o c]
      show (st ++ ex)[if i = st.length then m else i]? = _
      rw [if_neg (by omega), List.getElem?_append_left hi]
      exact h
    · have e : i = st.length := by
        have := (List.getElem?_eq_some_iff.mp h).1
        omega
      subst e
      rw [List.getElem?_append_right (Nat.le_refl _), Nat.sub_self] at h
      have e : Ob.lst k l = o := Option.some.inj h
      subst e
      refine ⟨cls_mono (by omega) l hp, ?_⟩
      show (st ++ ex)[if st.length = st.length then m else st.length]? = _
      rw [if_pos rfl, hm]
      show _ = some (Ob.lst k (rens _ l))
      rw [rens_id hid l hp]
/-! ### functions -/
def spF (W : Wd) (n : Nat) (F : List PV → Mo PV) : Sp := fun vs H Q _ => ∃ ι ps st, RS W ι st H ∧ RVs W ι H vs ps ∧ ps.length = n ∧ Good W E0 ι H (F ps st) (kQ W Q)
structure DFn (P : Program) (w : World) (W : Wd) (base : Heap) (k : Nat) (f : Addr) (n : Nat) (F : List PV → Mo PV) : Prop where
  ex : ∃ (fd : FuncData) (ps : List Str), ps.length = n ∧ FnOk P w W.K W.mg base W.cx k f fd ps (spF W n F) ∧ Binds W.K fd ps []
  kp : PySem.W.keepIn W.K (.ref f) = true
/-- F2 tells what F1 tells -/
def Ref (n : Nat) (F1 F2 : List PV → Mo PV) : Prop := ∀ ps st p2 st2, ps.length = n → cls st.length ps = true → (∀ o ∈ st, clO st.length o = true) → F2 ps st = .ok p2 st2 → ∃ p1 st1, F1 ps st = .ok p1 st1 ∧ GcR st.length p1 st1 p2 st2
/-- never an exception -/
def NoX (F : List PV → Mo PV) : Prop := ∀ ps st c st2, F ps st ≠ .exc c st2
section
variable {P : Program} {w : World} {W : Wd} {base : Heap} {j k n : Nat} {f : Addr} {F F1 F2 : List PV → Mo PV}
theorem DFn.mono (h : DFn P w W base j f n F) (hk : j ≤ k) : DFn P w W base k f n F := by
  obtain ⟨fd, ps, h1, h2, h3⟩ := h.ex
  exact ⟨⟨fd, ps, h1, h2.mono hk, h3⟩, h.kp⟩
theorem DFn.ref (h : DFn P w W base k f n F1) (r : Ref n F1 F2) (hx : NoX F2) : DFn P w W base k f n F2 := by
  obtain ⟨fd, ps, h1, h2, h3⟩ := h.ex
  refine ⟨⟨fd, ps, h1, h2.imp fun vs H Q E z => ?_, h3⟩, h.kp⟩
  obtain ⟨ι, qs, st, rs, rr, hl, g⟩ := z
  refine ⟨ι, qs, st, rs, rr, hl, ?_⟩
  cases q : F2 qs st with
  | stuck => rw [q] at g; exact g.elim
  | exc c st2 => exact (hx _ _ _ _ q).elim
  | ok p2 st2 =>
    rw [q] at g
    obtain ⟨p1, st1, e, gc⟩ := r qs st p2 st2 hl (by rw [← rs.len]; exact rvs_cl _ _ rr) rs.closed q
    rw [e]
    rcases gc with ⟨rfl, rfl⟩ | ⟨ff, gc⟩
    · exact g
    · intro ι1 H1 m1 r1 v hv
      obtain ⟨ι2, m2, r2, hr⟩ := gc.run rs.len m1 r1
      exact g ι2 H1 m2 r2 v (hr v hv)
def retF : Fl → Mo PV
  | .rt p => fun st => .ok p st
  | .nx _ => fun st => .ok .non st
  | _ => fail
def start0 (m : Nat) (ps : List PV) : Env := ps.map some ++ List.replicate (m - ps.length) none
def bodyF (m : Nat) (d : Env → Mo Fl) : List PV → Mo PV := fun ps => bnd (d (start0 m ps)) retF
theorem RE.start {ι : List Addr} {H : Hp} {N : List Str} {vs : List V} {ps : List PV} (r : RVs W ι H vs ps) : RE W ι H (start0 N.length ps) (start N vs) := by
  unfold start0 L2.start
  refine ⟨?_, fun i p h => ?_⟩
  · rw [List.length_append, List.length_append, List.length_map, List.length_map, List.length_replicate, List.length_replicate, r.length]
  · have hl := r.length
    by_cases hi : i < ps.length
    · rw [List.getElem?_append_left (by rw [List.length_map]; exact hi), List.getElem?_map] at h
      rw [List.getElem?_append_left (by rw [List.length_map]; omega), List.getElem?_map]
      cases q : ps[i]? with
      | none => rw [q] at h; cases h
      | some z =>
        rw [q] at h
        cases h
        obtain ⟨v, h1, h2⟩ := r.get q
        exact ⟨v, by rw [h1]; rfl, h2⟩
    · rw [List.getElem?_append_right (by rw [List.length_map]; omega), List.getElem?_replicate] at h
      split at h <;> cases h
abbrev Body (P : Program) (w : World) (W : Wd) (base : Heap) (N : List Str) (qual : Str) (scope : Scope) (f : Addr) (k : Nat) (body : List Stmt) (d : Env → Mo Fl) : Prop :=
  ∀ (cdv : Value) (A : Around) (outer : List PySem.Env) (s : Shared) (H : Hp) (E : XK), DSs (cxOf W.cx P w W.K W.mg base N qual scope f cdv A outer s H E).nox W k E0 body d
/-- what the body promises -/
theorem body_ok {qual : Str} {body : List Stmt} {scope : Scope} {N ps : List Str} {d : Env → Mo Fl} {cdv : Value} {A : Around} {outer : List PySem.Env} {s : Shared} {H : Hp} {vs : List V} {Q : VK} {E : XK} (hcx : W.cx = CX0) (S : FnScope N ps scope)
    (hd : DSs (cxOf W.cx P w W.K W.mg base N qual scope f cdv A outer s H E).nox W k E0 body d) (hr : Room k (A.deeper (envOfC qual scope s.heap.objs.size f cdv))) (z : spF W ps.length (bodyF N.length d) vs H Q E) :
    ∃ t, PSs (cxOf W.cx P w W.K W.mg base N qual scope f cdv A outer s H E) body t ∧ t { nx := fun _ H' => Q .non H', rt := Q } (start N vs) H := by
  obtain ⟨ι, qs, st, rs, rr, hl, g⟩ := z
  refine ⟨_, PSs.nox (hd.run ⟨rfl, rfl, rfl, S.nd, hr, ?_, fun _ _ z => z.elim, ?_⟩), ι, start0 N.length qs, st, RE.start rr, rs, Good.imp (Good.bind g) fun fl st1 ι1 H1 m1 r1 g1 => ?_⟩
  · rw [hcx]; exact pass0
  · rw [hcx]; exact fun _ _ _ _ _ z => z
  · cases fl with
    | nx ρ' => exact fun σ' re => g1.ok r1 _ .non
    | rt p => exact g1.ok r1
    | bk ρ' => exact g1.elim
    | ct ρ' => exact g1.elim
theorem spF_len {ps : List Str} {F : List PV → Mo PV} : ∀ vs H Q E, spF W ps.length F vs H Q E → vs.length = ps.length := fun vs H Q E z => by
  obtain ⟨ι, qs, st, rs, rr, hl, g⟩ := z
  rw [rr.length, hl]
theorem fnOk_of {x qual : Str} {params : Arguments} {body : List Stmt} {scope : Scope} {fd : FuncData} {N ps : List Str} {d : Env → Mo Fl} (hcx : W.cx = CX0) (Fd : FunD W.K x qual params body scope [] [] f fd) (S : FnScope N ps scope)
    (hd : Body P w W base N qual scope f k body d) : FnOk P w W.K W.mg base W.cx (k + 1) f fd ps (spF W ps.length (bodyF N.length d)) :=
  Fd.ok S spF_len fun cdv A outer s H vs Q E hr z => body_ok hcx S (hd cdv A outer s H E) hr z
/-- .. the code object known -/
abbrev BodyT (P : Program) (w : World) (W : Wd) (base : Heap) (N : List Str) (qual : Str) (scope : Scope) (f c : Addr) (k : Nat) (body : List Stmt) (d : Env → Mo Fl) : Prop :=
  ∀ (A : Around) (outer : List PySem.Env) (s : Shared) (H : Hp) (E : XK), DSs (cxOf W.cx P w W.K W.mg base N qual scope f (.ref c) A outer s H E).nox W k E0 body d
theorem fnOk_ofT {x qual : Str} {params : Arguments} {body : List Stmt} {scope : Scope} {fd : FuncData} {N ps : List Str} {d : Env → Mo Fl} {at_ : He.Defn} (hcx : W.cx = CX0) (Fd : FunD W.K x qual params body scope [] [] (He.fAd W.K at_) fd) (S : FnScope N ps scope)
    (hd : BodyT P w W base N qual scope (He.fAd W.K at_) (He.cT W.K at_).1 k body d) : FnOk P w W.K W.mg base W.cx (k + 1) (He.fAd W.K at_) fd ps (spF W ps.length (bodyF N.length d)) := by
  obtain ⟨oc, od, dV, kV, doc, pm, an, cdv, ct, osl, rfl, lk, hcd, _, _⟩ := Fd.ex
  obtain ⟨c, rfl⟩ := He.codeIn_ref hcd
  have e : He.codeOf W.K at_ = c := He.codeOf_eq lk rfl
  refine fn_of lk hcd S spF_len fun A outer s H vs Q E hr z => body_ok hcx S ?_ hr z
  rw [← e]
  exact hd A outer s H E
theorem DFn.of {x qual : Str} {params : Arguments} {body : List Stmt} {scope : Scope} {fd : FuncData} {N ps : List Str} {d : Env → Mo Fl} (hcx : W.cx = CX0) (Fd : FunD W.K x qual params body scope [] [] f fd) (S : FnScope N ps scope) (hb : Binds W.K fd ps [])
    (hd : Body P w W base N qual scope f k body d) : DFn P w W base (k + 1) f ps.length (bodyF N.length d) := ⟨⟨fd, ps, rfl, fnOk_of hcx Fd S hd, hb⟩, Fd.kp⟩
theorem DFn.ofT {x qual : Str} {params : Arguments} {body : List Stmt} {scope : Scope} {fd : FuncData} {N ps : List Str} {d : Env → Mo Fl} {at_ : He.Defn} (hcx : W.cx = CX0) (Fd : FunD W.K x qual params body scope [] [] (He.fAd W.K at_) fd) (S : FnScope N ps scope) (hb : Binds W.K fd ps [])
    (hd : BodyT P w W base N qual scope (He.fAd W.K at_) (He.cT W.K at_).1 k body d) : DFn P w W base (k + 1) (He.fAd W.K at_) ps.length (bodyF N.length d) := ⟨⟨fd, ps, rfl, fnOk_ofT hcx Fd S hd, hb⟩, Fd.kp⟩
end
section
variable {X : Cx} {W : Wd} {k : Nat} {a b c e o : Expr} {es : List Expr} {pos p : Pos} {d : Env → Mo PV} {dl : Env → Mo (List PV)} {f : Addr} {n : Nat} {F : List PV → Mo PV} {x : Str}
def callM (n : Nat) (F : List PV → Mo PV) (ps : List PV) : Mo PV := fun st => if ps.length = n then F ps st else .stuck
theorem call_of {ι : List Addr} {st : Sto} {H : Hp} {vs : List V} {ps : List PV} {Q : VK} (rs : RS W ι st H) (rr : RVs W ι H vs ps) (g : Good W E0 ι H (callM n F ps st) (kQ W Q)) : spF W n F (vs ++ []) H Q E0 := by
  obtain ⟨hl, g⟩ := good_if g
  rw [List.append_nil]
  exact ⟨ι, ps, st, rs, rr, hl, g⟩
theorem de_call (Fd : DFn X.prog X.w W X.base k f n F) (hm : W.mg x = some (.ref f)) (ha : DA X W k E0 (e :: es) dl) (hg : Gl X x := by rfl) (hdb : (x == ("__debug__" : Str)) = false := by decide)
    (he : starEach (e :: es) X.env = (false, eval e X.env) :: starEach es X.env := by rfl) (hpl : (backTo pos (starEach es X.env)).any (·.1) = false := by rfl) : DE X W k E0 (.Call (.Name x p) (e :: es) [] pos) (fun ρ => bnd (dl ρ) (callM n F)) := ⟨fun o => by
  obtain ⟨fd, ps, h1, h2, h3⟩ := Fd.ex
  refine pe_imp (pe_call (by rw [o.hK, o.hM]; exact h2) o.room hg (by rw [o.hM]; exact hm) (by rw [o.hK]; exact Fd.kp) (by rw [o.hK]; exact h3) .nil o.ps (ha.run o) hdb he hpl) fun σ H Q t => ?_
  obtain ⟨ι, ρ, st, re, rs, g⟩ := t
  exact ⟨ι, ρ, st, re, rs, Good.imp (Good.bind g) fun ps st1 ι1 H1 m1 r1 g1 vs hvs => call_of r1 hvs g1⟩⟩
theorem de_call0 (Fd : DFn X.prog X.w W X.base k f n F) (hm : W.mg x = some (.ref f)) (hg : Gl X x := by rfl) (hdb : (x == ("__debug__" : Str)) = false := by decide) : DE X W k E0 (.Call (.Name x p) [] [] pos) (fun _ => callM n F []) := ⟨fun o => by
  obtain ⟨fd, ps, h1, h2, h3⟩ := Fd.ex
  refine pe_imp (pe_call0 (by rw [o.hK, o.hM]; exact h2) o.room hg (by rw [o.hM]; exact hm) (by rw [o.hK]; exact Fd.kp) (by rw [o.hK]; exact h3) .nil o.ps hdb) fun σ H Q t => ?_
  obtain ⟨ι, ρ, st, re, rs, g⟩ := t
  exact call_of rs .nil g⟩
/-- a def that a local name holds: tab tells what the defs that may stand there do -/
structure FnTab (P : Program) (w : World) (W : Wd) (base : Heap) (k : Nat) (n : Nat) (tab : Nat → Option (List PV → Mo PV)) : Prop where
  fn : ∀ j F f, tab j = some F → W.fa j = some f → DFn P w W base k f n F
theorem FnTab.mono {P : Program} {w : World} {W : Wd} {base : Heap} {j k n : Nat} {tab : Nat → Option (List PV → Mo PV)} (h : FnTab P w W base j n tab) (hk : j ≤ k) : FnTab P w W base k n tab := ⟨fun i F f h1 h2 => (h.fn i F f h1 h2).mono hk⟩
def fnM (tab : Nat → Option (List PV → Mo PV)) (q : PV) : Mo (List PV → Mo PV) := fun st => match q with
  | .fn j => match tab j with
    | some F => .ok F st
    | none => .stuck
  | _ => .stuck
theorem de_callV {i : Nat} {tab : Nat → Option (List PV → Mo PV)} (T : FnTab X.prog X.w W X.base k n tab) (ha : DA X W k E0 (e :: es) dl) (hN : X.N[i]? = some x := by rfl) (hv : Vis X.env.scope x := by first | exact Or.inl rfl | exact Or.inr (Or.inl rfl) | exact Or.inr (Or.inr rfl)) (hd : (x == ("__debug__" : Str)) = false := by decide)
    (hcd : (x == ("__classdict__" : Str)) = false := by decide) (he : starEach (e :: es) X.env = (false, eval e X.env) :: starEach es X.env := by rfl) (hpl : (backTo pos (starEach es X.env)).any (·.1) = false := by rfl) :
    DE X W k E0 (.Call (.Name x p) (e :: es) [] pos) (fun ρ => bnd (dVar i ρ) fun q => bnd (fnM tab q) fun F => bnd (dl ρ) (callM n F)) := ⟨fun o => ⟨fun pins s σ H Q I t => by
  obtain ⟨ι, ρ, st, re, rs, g⟩ := t
  have g0 := Good.bind g
  unfold dVar at g0
  cases q : ρ[i]? with
  | none => rw [q] at g0; exact g0.elim
  | some w =>
    cases w with
    | none => rw [q] at g0; exact g0.elim
    | some w =>
      rw [q] at g0
      obtain ⟨v, h1, h2⟩ := re.at_ i w q
      have g1 := Good.bind (g0.ok rs)
      cases h2 <;> try exact g1.elim
      rename_i j f hf
      unfold fnM at g1
      dsimp only at g1
      cases q2 : tab j with
      | none => rw [q2] at g1; exact g1.elim
      | some F =>
        rw [q2] at g1
        have Fd := T.fn j F f q2 hf
        obtain ⟨fd, ps, h3, h4, h5⟩ := Fd.ex
        refine (pe_callL (by rw [o.hK, o.hM]; exact h4) o.room hN hv (by rw [o.hK]; exact Fd.kp) (by rw [o.hK]; exact h5) .nil o.ps (ha.run o) hd hcd he hpl).run pins s σ H Q I ⟨h1, ι, ρ, st, re, rs, Good.imp (Good.bind (g1.ok rs)) fun ps st1 ι1 H1 m1 r1 g1 vs hvs => call_of r1 hvs g1⟩⟩⟩
end
end PD
/-! PD: generator expressions within all, any. -/
namespace PD
open PySem PySem.Spec PyProof.Rows L2 GxR
abbrev gxC (X : Cx) (A : Around) (s : Shared) (H : Hp) (cenv : PySem.Env) (fp : List Addr) (pn : List (Addr × Obj)) : Cx :=
  { X with A := A, s_0 := s, H_0 := H, env := cenv, outer := X.stack, stack := cenv :: X.stack, ex := fp, fn := fun _ => false, pn := pn, xe := fun _ _ => False }
theorem bare_set {gens : Array GenState} {g : Nat} {x : GenState} (h : AllBare gens) (hx : x.bare = true) : AllBare (gens.setIfInBounds g x) := by
  intro y hy
  obtain ⟨i, hi, rfl⟩ := Array.mem_iff_getElem.mp hy
  have hi' : i < gens.size := by simpa using hi
  rw [Array.getElem_setIfInBounds hi']
  split
  · exact hx
  · exact h _ (Array.getElem_mem _)
section
variable {X : Cx} {pins : List (Addr × Obj)} {σ : L2.St} {H : Hp} {s : Shared}
theorem gen_start {scope : Scope} {own : List (Str × Nat)} {fp : List Addr} {A' : Around} {code itv : Value} {h' : Heap} {go : Obj} {gs : GenState} {tk : Nat} (I : Inv X pins σ H s) (ok : BlkOk X.N X.env.scope scope own) (hcell : ∀ y ∈ scope.names, y.2 ≠ .cell) (hN : X.N.Nodup)
    (hfp : ∀ b ∈ fp, FpOk X pins H b ∧ b < s.heap.objs.size) (cenv : PySem.Env) (hce : cenv = genEnv scope (cloFrom X.env.cells scope.names []) s.heap.objs.size code builtinsNs X.env) (hA : A'.frames = some (cenv :: X.stack)) (hAh : A'.handled = none)
    (hn' : h'.Ns s.heap.objs.size (fun y => if y = (".0" : Str) then some itv else none)) (hs' : Heap.SameBut s.heap.objs.size (s.heap.push { cls := .type "frame", data := .dict #[] }) h') (hgo : ∀ v, go.data ≠ .cell v) (hgf : go.isFreed = false) (hgs : gs.bare = true) :
    Inv (gxC X A' s H cenv fp [(h'.objs.size, go)]) [] (wipe σ (own.map (·.2))) H { s with gens := s.gens.push gs, toks := tk, heap := h'.push go } := by
  have hsz : h'.objs.size = s.heap.objs.size + 1 := by rw [hs'.1, Heap.size_push]
  have kp : ∀ b o, s.heap.get? b = some o → (h'.push go).get? b = some o := fun b o e => Heap.get?_push_of_some _ (hs'.extBut b o (Nat.ne_of_lt (Heap.lt_size e)) (Heap.get?_push_of_some _ e))
  have hfree : ∀ y ∈ scope.names, y.2 = .free → ∃ c, X.env.cells.lookup y.1 = some c := fun y hy e => by
    rcases ok.free y hy e with k | k
    · exact I.ok.has _ (.inl k)
    · exact I.ok.has _ (.inr k)
  have hL : cenv.locals = s.heap.objs.size := by rw [hce]; rfl
  have hcl : cenv.cells = cloFrom X.env.cells scope.names [] := by rw [hce]; rfl
  have hsc : cenv.scope = scope := by rw [hce]; rfl
  have cm : ∀ {y c}, (y, c) ∈ cloFrom X.env.cells scope.names [] → X.env.cells.lookup y = some c ∧ c < s.heap.objs.size := fun {y c} hm => by
    rcases cloFrom_mem hm with hm | ⟨h1, rfl⟩
    · cases hm
    · obtain ⟨c, hc⟩ := hfree _ h1 rfl
      rw [hc]
      obtain ⟨w, z⟩ := I.cell _ _ hc
      exact ⟨rfl, z.lt⟩
  have mem : ∀ {y c}, cenv.cells.lookup y = some c → X.env.cells.lookup y = some c ∧ c < s.heap.objs.size := fun {y c} e => by
    rw [hcl] at e
    exact cm (PySem.mem_of_lookup e)
  have look : ∀ {y}, scope.names.lookup y = some .free → ∃ c, cenv.cells.lookup y = some c ∧ X.env.cells.lookup y = some c := fun {y} hl => by
    have hy : (y, NameKind.free) ∈ scope.names := PySem.mem_of_lookup hl
    obtain ⟨c', e'⟩ := mem_lookup (cloFrom_has (cells := X.env.cells) (acc := []) hy)
    exact ⟨c', by rw [hcl]; exact e', (cm (PySem.mem_of_lookup e')).1⟩
  have nocell : ∀ {y : Str}, scope.names.lookup y ≠ some .cell := fun {y} e => hcell _ (PySem.mem_of_lookup e) rfl
  have okB : (gxC X A' s H cenv fp [(h'.objs.size, go)]).Ok := by
    refine ⟨I.ok.mod, by show cenv.scope.kind = _; rw [hsc]; exact ok.kind, by show cenv.globals = _; rw [hce]; exact I.ok.glob, by show cenv.builtins = _; rw [hce]; rfl, by show s.heap.objs.size ≤ cenv.locals; rw [hL]; exact Nat.le_refl _,
      fun y z c e1 e2 => I.ok.inj y z c (mem e1).1 (mem e2).1, fun y hy => ?_, fun y c z e => (by cases z), fun _ => hAh, hA, .inr ⟨rfl, ?_⟩, fun b hb => ⟨?_, fun y c e z => ?_⟩, I.bs, Nat.le_trans I.ok.bsz I.sz, fun b o e hb => ?_, fun b hb z => ?_, I.stack, I.stkFree⟩
    · show ∃ c, cenv.cells.lookup y = some c
      have key : cenv.scope.names.lookup y = some .cell ∨ cenv.scope.names.lookup y = some .free := hy
      rw [hsc] at key
      rcases key with z | z
      · exact (nocell z).elim
      · obtain ⟨c, h1, _⟩ := look z
        exact ⟨c, h1⟩
    · show cenv.frame = some cenv.locals
      rw [hce]
      rfl
    · show b ≠ cenv.locals
      rw [hL]; exact Nat.ne_of_lt (hfp b hb).2
    · exact (hfp b hb).1.2.2.2.2.1 y c (mem e).1 z
    · rcases (hfp b hb).1.2.2.2.1 with z | z
      · exact I.ok.noex b o e z
      · exact absurd (Nat.lt_of_lt_of_le (Heap.lt_size e) (Nat.le_trans I.ok.bsz z)) (Nat.lt_irrefl _)
    · rcases List.mem_cons.mp (I.stkSub b z) with z | z
      · exact (hfp b hb).1.2.1 z
      · exact (hfp b hb).1.2.2.1 z
  refine ⟨okB, rfl, I.bare.push hgs, Un.kept kp, ⟨fun y => if y = (".0" : Str) then some itv else none, ?_, fun i y av e1 e2 e3 => ?_⟩, fun y c e => ?_, ?_, fun y c e => ?_, fun p hp => ?_, I.hok.kept kp, by rw [wipe_length]; exact I.len⟩
  · show Heap.Ns _ cenv.locals _
    rw [hL]
    exact hn'.push _
  · obtain ⟨e2, hne⟩ := wipe_some e2
    have e3 : Vis cenv.scope y := e3
    rw [hsc] at e3
    have hfr : scope.names.lookup y = some .free := by
      have no : ¬ (scope.names.lookup y = some .local) := fun e => by
        rcases ok.own _ (PySem.mem_of_lookup e) (.inl rfl) with e' | e'
        · obtain ⟨p, hp, hpy⟩ := List.mem_map.mp e'
          have e3 := ok.ix p hp
          have : p.1 = y := hpy
          rw [this] at e3
          exact hne (List.mem_map.mpr ⟨p, hp, nodup_ix hN e3 e1⟩)
        · exact e' (List.mem_of_getElem? e1)
      rcases e3 with z | z | z
      · exact (no z).elim
      · exact (nocell z).elim
      · exact z
    obtain ⟨m, hn, hl⟩ := I.loc
    have hvis : Vis X.env.scope y := (ok.free _ (PySem.mem_of_lookup hfr) rfl).elim (fun k => .inr (.inl k)) (fun k => .inr (.inr k))
    obtain ⟨w, r, q⟩ := hl i y av e1 e2 hvis
    have hk : cenv.kindOf y = some .free := by
      show cenv.scope.names.lookup y = _
      rw [hsc]; exact hfr
    refine ⟨w, r, .inr ⟨.inr hk, ?_⟩⟩
    obtain ⟨c, h1, h2⟩ := look hfr
    rcases q with ⟨k, _⟩ | ⟨_, c', e', z⟩
    · have k : X.env.scope.names.lookup y = some .local := k
      rcases ok.free _ (PySem.mem_of_lookup hfr) rfl with k' | k' <;> rw [show X.env.scope.names.lookup y = _ from k'] at k <;> cases k
    · rw [h2] at e'; cases e'
      exact ⟨c, h1, z.keeps kp⟩
  · obtain ⟨w, z⟩ := I.cell y c (mem e).1
    exact ⟨w, z.keeps kp⟩
  · show H cenv.locals = none
    rw [hL]; exact I.hok.fresh (Nat.le_refl _)
  · exact I.freeC y c (mem e).1
  · have hp : p ∈ [(h'.objs.size, go)] ++ [] := hp
    rw [List.append_nil, List.mem_singleton] at hp
    subst hp
    refine ⟨Heap.get?_push_size _ hgf, I.hok.fresh (by show s.heap.objs.size ≤ h'.objs.size; omega), ?_, fun z => ?_, hgo⟩
    · show h'.objs.size ≠ cenv.locals
      rw [hL]
      exact Nat.ne_of_gt (by omega)
    · have z : h'.objs.size ∈ frs X.stack := z
      rcases List.mem_cons.mp (I.stkSub _ z) with z | z
      · have := I.lt
        rw [← z] at this
        have h9 : h'.objs.size < s.heap.objs.size := this
        omega
      · exact I.nofs (by omega) z
end
/-! ### the protocol -/
def Woke (s s'' : Shared) : Prop := s''.heap = s.heap ∧ s''.os = s.os ∧ AllBare s''.gens
def ProtB (sv : Bool) (a : Addr) (g : Nat) (K : Bool → Shared → Prop) : Protocol := fun _ _ v s kap =>
  ∃ c : Bool, v = .bool c ∧ s.heap.IsGen a g ∧ s.heap.NoLimit ∧ AllBare s.gens ∧ if c = sv then ∀ s'', Woke s s'' → K sv s'' else ∀ s'', Woke s s'' → kap (.send .none) s''
def EndB (sv : Bool) (K : Bool → Shared → Prop) : Shared → Prop := fun s => AllBare s.gens ∧ ∀ s'', (∀ b o, s.heap.get? b = some o → s''.heap.get? b = some o) → s''.os = s.os → AllBare s''.gens → K (!sv) s''
theorem inv_woke {X : Cx} {pins : List (Addr × Obj)} {σ : L2.St} {H : Hp} {s s'' : Shared} (I : Inv X pins σ H s) (h : Woke s s'') : Inv X pins σ H s'' :=
  ⟨I.ok, h.2.1.trans I.os, h.2.2, by rw [h.1]; exact I.base, by rw [h.1]; exact I.loc, by rw [h.1]; exact I.cell, I.free, I.freeC, by rw [h.1]; exact I.pin, by rw [h.1]; exact I.hok, I.len⟩
section
variable {prog : Program} {w : World} {A : Around} {K : Bool → Shared → Prop} {a : Addr} {g : Nat}
/-- all, any walk the generator -/
theorem loop_all (hh : A.handled = none) (hroom : A.in1.depth < recursionLimit) {R : Result → Shared → Prop} (hK : ∀ c s, K c s → R (.ok (.ret (.bool c))) s) : ∀ (n : Nat) (s : Shared) (gs : GenState), s.gens[g]? = some gs → s.heap.IsGen a g → s.heap.NoLimit → AllBare s.gens →
    (∀ s'', Woke s s'' → gs.Goes (model prog w) A.in1.in1 (fun _ _ r s₁ => r = .ok .next ∧ EndB false K s₁) (ProtB false a g K) n (.send .none) s'') → codeAny (model prog w) A (.builtin "all.loop" ⟨[.ref a], []⟩) R s := by
  intro n
  induction n with
  | zero =>
    intro s gs hgs hg hl hb hgo
    refine codeAny_builtin F.entry_all_loop ?_
    rw [Around.under_plainId F.plain_all_loop _]
    show wpAny _ A.in1 (pyNext (.ref a) >>= _) _ _ s
    have hlt : g < s.gens.size := (Array.getElem?_eq_some_iff.mp hgs).1
    refine wpAny_bind (GenW.wpAny_gsz (n := g + 1) hlt (wpAny_pyNext_genexpQ (P := fun _ _ s₁ => EndB false K s₁) hh hl hroom hg hgs (hgo _ ⟨rfl, rfl, bare_set hb rfl⟩) (fun v s₁ gs' hbr hv hsz => ?_) fun s₁ hP h' hk hsz => ?_))
    · obtain ⟨c, rfl, hg1, hl1, hb1, hc⟩ := hv
      refine wpAny_bind (wpAny_holding (wpAny_truthy_bool ?_))
      refine wpAny_bind (wpAny_letGo ?_)
      cases c with
      | true =>
        rw [if_neg (by decide)] at hc
        exact (hc s₁ ⟨rfl, rfl, hb1⟩).elim
      | false =>
        rw [if_pos rfl] at hc
        simp only [Bool.false_eq_true, if_false]
        refine wpAny_bind (wpAny_rule (wpAny_pure ?_))
        exact hK _ _ (hc _ ⟨rfl, rfl, bare_set hb1 hbr⟩)
    · refine wpAny_bind (wpAny_rule (wpAny_pure ?_))
      exact hK _ _ (hP.2 _ hk rfl (bare_set hP.1 rfl))
  | succ n ih =>
    intro s gs hgs hg hl hb hgo
    refine codeAny_builtin F.entry_all_loop ?_
    rw [Around.under_plainId F.plain_all_loop _]
    show wpAny _ A.in1 (pyNext (.ref a) >>= _) _ _ s
    have hlt : g < s.gens.size := (Array.getElem?_eq_some_iff.mp hgs).1
    refine wpAny_bind (GenW.wpAny_gsz (n := g + 1) hlt (wpAny_pyNext_genexpQ (P := fun _ _ s₁ => EndB false K s₁) hh hl hroom hg hgs (hgo _ ⟨rfl, rfl, bare_set hb rfl⟩) (fun v s₁ gs' hbr hv hsz => ?_) fun s₁ hP h' hk hsz => ?_))
    · obtain ⟨c, rfl, hg1, hl1, hb1, hc⟩ := hv
      refine wpAny_bind (wpAny_holding (wpAny_truthy_bool ?_))
      refine wpAny_bind (wpAny_letGo ?_)
      cases c with
      | true =>
        rw [if_neg (by decide)] at hc
        simp only [if_true]
        have hsz' : g < s₁.gens.size := by rw [GenW.setGen_size] at hsz; exact hsz
        exact wpAny_pure ⟨plainId_quiet F.plain_all_loop _, ih _ gs' (by show (s₁.gens.setIfInBounds g gs')[g]? = _; exact Array.getElem?_setIfInBounds_self_of_lt hsz') hg1 hl1 (bare_set hb1 hbr) fun s'' hw => hc s'' ⟨hw.1, hw.2.1, hw.2.2⟩⟩
      | false =>
        rw [if_pos rfl] at hc
        simp only [Bool.false_eq_true, if_false]
        refine wpAny_bind (wpAny_rule (wpAny_pure ?_))
        exact hK _ _ (hc _ ⟨rfl, rfl, bare_set hb1 hbr⟩)
    · refine wpAny_bind (wpAny_rule (wpAny_pure ?_))
      exact hK _ _ (hP.2 _ hk rfl (bare_set hP.1 rfl))
theorem loop_any (hh : A.handled = none) (hroom : A.in1.depth < recursionLimit) {R : Result → Shared → Prop} (hK : ∀ c s, K c s → R (.ok (.ret (.bool c))) s) : ∀ (n : Nat) (s : Shared) (gs : GenState), s.gens[g]? = some gs → s.heap.IsGen a g → s.heap.NoLimit → AllBare s.gens →
    (∀ s'', Woke s s'' → gs.Goes (model prog w) A.in1.in1 (fun _ _ r s₁ => r = .ok .next ∧ EndB true K s₁) (ProtB true a g K) n (.send .none) s'') → codeAny (model prog w) A (.builtin "any.loop" ⟨[.ref a], []⟩) R s := by
  intro n
  induction n with
  | zero =>
    intro s gs hgs hg hl hb hgo
    refine codeAny_builtin F.entry_any_loop ?_
    rw [Around.under_plainId F.plain_any_loop _]
    show wpAny _ A.in1 (pyNext (.ref a) >>= _) _ _ s
    have hlt : g < s.gens.size := (Array.getElem?_eq_some_iff.mp hgs).1
    refine wpAny_bind (GenW.wpAny_gsz (n := g + 1) hlt (wpAny_pyNext_genexpQ (P := fun _ _ s₁ => EndB true K s₁) hh hl hroom hg hgs (hgo _ ⟨rfl, rfl, bare_set hb rfl⟩) (fun v s₁ gs' hbr hv hsz => ?_) fun s₁ hP h' hk hsz => ?_))
    · obtain ⟨c, rfl, hg1, hl1, hb1, hc⟩ := hv
      refine wpAny_bind (wpAny_holding (wpAny_truthy_bool ?_))
      refine wpAny_bind (wpAny_letGo ?_)
      cases c with
      | false =>
        rw [if_neg (by decide)] at hc
        exact (hc s₁ ⟨rfl, rfl, hb1⟩).elim
      | true =>
        rw [if_pos rfl] at hc
        simp only [if_true]
        refine wpAny_bind (wpAny_rule (wpAny_pure ?_))
        exact hK _ _ (hc _ ⟨rfl, rfl, bare_set hb1 hbr⟩)
    · refine wpAny_bind (wpAny_rule (wpAny_pure ?_))
      exact hK _ _ (hP.2 _ hk rfl (bare_set hP.1 rfl))
  | succ n ih =>
    intro s gs hgs hg hl hb hgo
    refine codeAny_builtin F.entry_any_loop ?_
    rw [Around.under_plainId F.plain_any_loop _]
    show wpAny _ A.in1 (pyNext (.ref a) >>= _) _ _ s
    have hlt : g < s.gens.size := (Array.getElem?_eq_some_iff.mp hgs).1
    refine wpAny_bind (GenW.wpAny_gsz (n := g + 1) hlt (wpAny_pyNext_genexpQ (P := fun _ _ s₁ => EndB true K s₁) hh hl hroom hg hgs (hgo _ ⟨rfl, rfl, bare_set hb rfl⟩) (fun v s₁ gs' hbr hv hsz => ?_) fun s₁ hP h' hk hsz => ?_))
    · obtain ⟨c, rfl, hg1, hl1, hb1, hc⟩ := hv
      refine wpAny_bind (wpAny_holding (wpAny_truthy_bool ?_))
      refine wpAny_bind (wpAny_letGo ?_)
      cases c with
      | false =>
        rw [if_neg (by decide)] at hc
        simp only [Bool.false_eq_true, if_false]
        have hsz' : g < s₁.gens.size := by rw [GenW.setGen_size] at hsz; exact hsz
        exact wpAny_pure ⟨plainId_quiet F.plain_any_loop _, ih _ gs' (by show (s₁.gens.setIfInBounds g gs')[g]? = _; exact Array.getElem?_setIfInBounds_self_of_lt hsz') hg1 hl1 (bare_set hb1 hbr) fun s'' hw => hc s'' ⟨hw.1, hw.2.1, hw.2.2⟩⟩
      | true =>
        rw [if_pos rfl] at hc
        simp only [if_true]
        refine wpAny_bind (wpAny_rule (wpAny_pure ?_))
        exact hK _ _ (hc _ ⟨rfl, rfl, bare_set hb1 hbr⟩)
    · refine wpAny_bind (wpAny_rule (wpAny_pure ?_))
      exact hK _ _ (hP.2 _ hk rfl (bare_set hP.1 rfl))

end
/-! ### the generator's own turns -/
/-- all (sv = false), any (sv = true) -/
def tGx (sv : Bool) (P : Addr) (wi : TI) (g : TG) (tt : TT) (te : TE) (vs : List Nat) : TE := fun σ H Q => wi σ H fun J H1 => TabG H1 P ∧ ∀ H2, Tabbed P H1 H2 → (∀ ps, H1 P = some (.tbl ps) → ∃ more, H2 P = some (.tbl (ps ++ more))) → ∃ W : Nat → Nat → Hp → Prop, (∃ m, W 0 m H2) ∧ ∀ i m H, W i m H →
  (J.stop i H ∧ Q (.bl (!sv)) H) ∨ (J.go i H ∧ ∃ Nx : Hp → Prop, (∀ H', Nx H' → ∃ m', m' < m ∧ W (i + 1) m' H') ∧ ∀ x H', J.yld i H x H' → g x (wipe σ vs) H' fun σ2 H2 => wipe σ2 vs = wipe σ vs ∧ tt σ2 H2 fun b H3 =>
    if b = true then te σ2 H3 fun y H4 => ∃ c, y = .bl c ∧ (if c = sv then Q (.bl sv) H4 else Nx H4) else Nx H3)
section
variable {Y : Cx} {a : Addr} {gn : Nat} {K : Bool → Shared → Prop}
theorem gen_loop {A : Around} {sv : Bool} {elt tg iter : Expr} {ifs : List Expr} {scope : Scope} {pos : Pos} {it : Addr} {tn : Nat → Heap → Prop} {J : It} {g : TG} {tt : TT} {te : TE} {σ : L2.St} {vs : List Nat} {Q : VK} {W : Nat → Nat → Hp → Prop}
    (hYA : Y.A = A.over (.compLoop (.GeneratorExp elt [⟨tg, iter, ifs, 0⟩] scope pos) 0 (.ref it) .none Y.env) []) (hc : Y.calm = true) (hco : Y.env.scope.isCoroutine = false) (hxe : Y.xe = fun _ _ => False) (T : Turn Y.prog Y.w Y.K tg J Y.ex it tn) (hgen : ∀ h : Heap, (∀ p ∈ Y.pn, h.get? p.1 = some p.2) → h.IsGen a gn) (hpx : ∀ p ∈ Y.pn, ∀ b ∈ Y.ex, p.1 ≠ b)
    (pg : PG Y tg g) (pt : PTs Y ifs tt) (pe : PE Y elt te)
    (turn : ∀ i m H, W i m H → (J.stop i H ∧ Q (.bl (!sv)) H) ∨ (J.go i H ∧ ∃ Nx : Hp → Prop, (∀ H', Nx H' → ∃ m', m' < m ∧ W (i + 1) m' H') ∧ ∀ x H', J.yld i H x H' → g x (wipe σ vs) H' fun σ2 H2 => wipe σ2 vs = wipe σ vs ∧ tt σ2 H2 fun b H3 =>
      if b = true then te σ2 H3 fun y H4 => ∃ c, y = .bl c ∧ (if c = sv then Q (.bl sv) H4 else Nx H4) else Nx H3))
    (fin : ∀ c H s, Inv Y [] (wipe σ vs) H s → Q (.bl c) H → K c s) :
    ∀ (m N i : Nat) (H : Hp) (s₀ s : Shared), m < N → Inv Y [] (wipe σ vs) H s → tn i s.heap → (∀ b ∈ Y.ex, H b = none) → W i m H →
      Seg (model Y.prog Y.w) A (fun _ _ r s₁ => r = .ok .next ∧ EndB sv K s₁) (ProtB sv a gn K) N s₀ (.compLoop (.GeneratorExp elt [⟨tg, iter, ifs, 0⟩] scope pos) 0 (.ref it) .none Y.env)
        ((model Y.prog Y.w).den (.compLoop (.GeneratorExp elt [⟨tg, iter, ifs, 0⟩] scope pos) 0 (.ref it) .none Y.env)) [] s := by
  have stat : ∀ {σ' : L2.St} {H' : Hp} {s' : Shared}, Inv Y [] σ' H' s' → (∀ b ∈ Y.ex, H' b = none) → ∀ b ∈ Y.ex, FpOk Y [] H' b := fun {σ' H' s'} I' hn b hb =>
    ⟨hn b hb, (I'.ok.exf b hb).1, I'.ok.exfs b hb, .inl hb, fun x c e => (I'.ok.exf b hb).2 x c e, fun p hp => hpx p (by simpa using hp) b hb⟩
  intro m
  induction m using Nat.strongRecOn with
  | _ m ih =>
    intro N i H s₀ s hN I st hf w
    show Seg _ A _ _ _ s₀ _ ((compTurn (.GeneratorExp elt [⟨tg, iter, ifs, 0⟩] scope pos) 0 (.ref it) .none Y.env).onRaise (leaving Y.env)) [] s
    rw [compTurn_gen, Sem.onRaise_eq_wrap]
    refine seg_bind_wrap (wpAny_standAt ?_)
    rcases turn i m H w with ⟨stop, q⟩ | ⟨go, Nx, hNx, step⟩
    · have td := T.done Y rfl rfl rfl hc i [] s _ H (fun _ _ => False) I (stat I hf) st stop
      rw [hYA] at td
      refine seg_bind_wrap (thnF td fun r s6 ⟨hr, I6⟩ => ?_)
      subst hr
      refine seg_end (.ok .next) ⟨rfl, I6.bare, fun s'' hk ho hb => fin _ _ _ ?_ q⟩
      obtain ⟨h', g', d', t', o'⟩ := s''
      have e : o' = s6.os := ho
      subst e
      refine I6.step (g' := g') (t' := t') (d' := d') (ch := []) (fun b hb => absurd hb (by simp)) (fun b o _ _ _ e n => hk b o e) (fun b o _ _ _ e n => ⟨o.slots, hk b o e⟩) (fun _ _ _ _ n => n) (fun b o _ e => ⟨o, hk b o e⟩) (fun _ _ e => e) (fun _ _ _ e => e) (fun b ps e => ⟨#[], by rw [e]; simp⟩) (fun mm hn => ?_) (fun b u e => ?_) hb
      · obtain ⟨ob, es, ep, ho, r⟩ := hn
        exact ⟨ob, es, ep, hk _ ob ho, r⟩
      · exact (I6.hok.kept hk) b u e
    · have ti := T.item Y rfl rfl rfl hc i [] s _ H (fun _ _ => False) I (stat I hf) st go
      rw [hYA] at ti
      refine seg_bind_wrap (thnF ti fun r s6 ⟨u, hr, h6⟩ => ?_)
      subst hr
      refine seg_bind_wrap (thnF h6 fun _ s7 ⟨x, H7, I7, r7, y7, st7, n7⟩ => ?_)
      have I7' := I7.pinned (stat I7 n7) (T.obj _ _ st7)
      have g7 := pg.run _ s7 _ H7 x u _ I7' r7 (step x H7 y7)
      rw [hYA, hxe] at g7
      refine seg_bind_wrap (thnF g7 fun _ s8 ⟨σ8, H8, I8, hw8, q8⟩ => ?_)
      have t8 := pt.run _ s8 σ8 H8 _ I8 q8
      rw [hYA, hxe] at t8
      refine seg_bind_wrap (thnF t8 fun b s9 ⟨H9, I9, q9⟩ => ?_)
      have back : ∀ {s' : Shared} {H' : Hp}, Inv Y ([] ++ pinsAt Y.ex s7.heap) σ8 H' s' → Inv Y [] (wipe σ vs) H' s' ∧ tn (i + 1) s'.heap ∧ ∀ b ∈ Y.ex, H' b = none := fun {s' H'} I' => by
        have pin' : ∀ b ∈ Y.ex, ∀ o, s7.heap.get? b = some o → s'.heap.get? b = some o ∧ H' b = none := fun b hb o e =>
          let z := I'.pin (b, o) (List.mem_append_right _ (List.mem_append_right _ (mem_pinsAt hb e)))
          ⟨z.1, z.2.1⟩
        have hl : (wipe σ vs).length = σ8.length := by rw [← hw8, wipe_length]
        refine ⟨(I'.unpinned (pins := [])).weak hl (fun j v e => ?_), T.keep _ _ _ st7 fun b hb o e => (pin' b hb o e).1, fun b hb => ?_⟩
        · rw [← hw8] at e
          exact (wipe_some e).1
        · obtain ⟨o, e, _⟩ := T.obj _ _ st7 b hb
          exact (pin' b hb o e).2
      cases b with
      | false =>
        simp only [Bool.false_eq_true, if_false] at q9 ⊢
        obtain ⟨m', hm, w'⟩ := hNx _ q9
        obtain ⟨I10, st10, f10⟩ := back I9
        exact seg_again rfl (ih m' hm N (i + 1) H9 s₀ s9 (by omega) I10 st10 f10 w')
      | true =>
        simp only [if_true] at q9 ⊢
        have hy : ∀ v, yieldOut Y.env v = yieldValue v := fun v => by simp only [yieldOut, hco, Bool.false_eq_true, if_false]
        simp only [hy]
        rw [Sem.bind_eq_wrap', Sem.bind_eq_wrap', Sem.wrap_wrap, Sem.wrap_wrap]
        have e9 := pe.run _ s9 σ8 H9 _ I9 q9
        rw [hYA, hxe] at e9
        refine seg_wrap (thnF e9 fun z s10 ⟨yv, H10, I10, r10, c, hyc, q10⟩ => ?_)
        subst hyc
        cases r10
        obtain ⟨I11, st11, f11⟩ := back I10
        cases N with
        | zero => exact absurd hN (Nat.not_lt_zero _)
        | succ N =>
          refine seg_at (seg_yield rfl rfl rfl ⟨c, rfl, hgen _ fun p hp => (I11.pin p (List.mem_append_left _ hp)).1, I11.nolimit, I11.bare, ?_⟩)
          by_cases hcs : c = sv
          · rw [if_pos hcs] at q10 ⊢
            exact fun s'' hw => fin _ _ _ (inv_woke I11 hw) q10
          · rw [if_neg hcs] at q10 ⊢
            obtain ⟨m', hm, w'⟩ := hNx _ q10
            intro s'' hw
            have Iw := inv_woke I11 hw
            exact seg_again rfl (ih m' hm N (i + 1) H10 s'' s'' (by omega) Iw (by rw [hw.1]; exact st11) f11 w')
end

/-! ### the call -/
theorem over_gen {A : Around} {elt : Expr} {gens : List Comprehension} {scope : Scope} {pos : Pos} {it acc : Value} {env : PySem.Env} : A.over (.compLoop (.GeneratorExp elt gens scope pos) 0 it acc env) [] = ⟨A.handled, A.depth + 1, A.frames.map (env :: ·), A.guards, A.units + 3⟩ := by
  obtain ⟨hd, d, fr, gs, u⟩ := A
  cases fr <;> cases gs <;> simp [Around.over, marksOver, frameCount, unitsOf, envsOf, guardsOf, pushEnvs, pushGuards, Code.envs, Code.env?, Code.isFrame, Code.guards, Code.isGuard, Code.weight, Code.frames, Code.isCreation, Code.isCaller, Code.cUnits]
def GxOk (X : Cx) (scope : Scope) (k : Nat) (p : Cx → Prop) : Prop := ∀ (A' : Around) (s : Shared) (H : Hp) (C : Addr) (code : Value) (fp : List Addr) (pn : List (Addr × Obj)), Room k A' → p (gxC X A' s H (genEnv scope (cloFrom X.env.cells scope.names []) C code builtinsNs X.env) fp pn)
section
variable {X : Cx} {pins : List (Addr × Obj)} {σ : L2.St} {H : Hp} {s : Shared}
theorem eval_gen {sv : Bool} {c P : Addr} {elt tg iter : Expr} {ifs : List Expr} {scope : Scope} {own : List (Str × Nat)} {gpos : Pos} {wi : TI} {g : TG} {tt : TT} {te : TE} {k : Nat} {Q : VK} {Q' : Value → Shared → Prop}
    (hr : Room (k + 1) X.A) (hc : X.calm = true) (hN : X.N.Nodup) (TB : TabB X.base X.mg c P) (hcode : X.env.code = .ref c) (ok : BlkOk X.N X.env.scope scope own) (hco : scope.isCoroutine = false) (hcell : ∀ y ∈ scope.names, y.2 ≠ .cell) (hdot : scope.names.lookup (".0" : Str) = some NameKind.local)
    (hi : PI X tg iter wi) (pg : GxOk X scope k fun Y => PG Y tg g) (pt : GxOk X scope k fun Y => PTs Y ifs tt) (pe : GxOk X scope k fun Y => PE Y elt te) (hs : ∀ v, genFold iter X.env v = pure v) (I : Inv X pins σ H s) (h : tGx sv P wi g tt te (own.map (·.2)) σ H Q)
    (hQ : ∀ a gn n s5 gs, s5.gens[gn]? = some gs → s5.heap.IsGen a gn → s5.heap.NoLimit → AllBare s5.gens →
      (∀ s'', Woke s5 s'' → gs.Goes (model X.prog X.w) X.A.in1.in1 (fun _ _ r s₁ => r = .ok .next ∧ EndB sv (fun c s' => EP X pins σ Q (.bool c) s') s₁) (ProtB sv a gn (fun c s' => EP X pins σ Q (.bool c) s')) n (.send .none) s'') → Q' (.ref a) s5) :
    wpAny (model X.prog X.w) X.A (eval (.GeneratorExp elt [⟨tg, iter, ifs, 0⟩] scope gpos) X.env) Q' X.xe s := by
  have hfree : ∀ y ∈ scope.names, y.2 = .free → ∃ c, X.env.cells.lookup y.1 = some c := fun y hy e => by
    rcases ok.free y hy e with k | k
    · exact I.ok.has _ (.inl k)
    · exact I.ok.has _ (.inr k)
  refine wpAny_GeneratorExp_make hco (closure_ok hfree) hcell hdot ok.kind (by have := hr.dp; omega) ?_ hs
  refine thn (hi.run pins s σ H _ I h) fun xv s1 hx => thn hx fun itv s2 h2 => ?_
  obtain ⟨it, fp, tn, J, H2, e, I2, T, st2, f2, ⟨ps, hP, ht⟩, q⟩ := h2
  subst e
  have hPs : s2.heap.get? P = some { cls := .none, data := .fields ps } := I2.hok P _ hP
  have hPlt : P < s2.heap.objs.size := Heap.lt_size hPs
  have cd : PySem.W.CodeHd s2.heap c P := TB.code.keeps fun b u e => I2.bk b u e
  have cont : ∀ (code : Value) (h3 : Heap) (tk : Nat) (ps' : Array Value), Heap.ExtBut P s2.heap h3 → s2.heap.objs.size ≤ h3.objs.size → h3.get? P = some { cls := .none, data := .fields ps' } → (∃ more, ps' = ps ++ more) → TriplesOk ps'.toList →
      wpAny (model X.prog X.w) X.A (builtinsFor X.env.globals X.env.builtins) (fun bi s₄ => ∀ h', h'.Ns s₄.heap.objs.size (fun y => if y = (".0" : Str) then some (Value.ref it) else none) → Heap.SameBut s₄.heap.objs.size (s₄.heap.push { cls := .type "frame", data := .dict #[] }) h' →
        Q' (.ref h'.objs.size) { s₄ with
            gens := s₄.gens.push (.fresh (.compStart (.GeneratorExp elt [⟨tg, iter, ifs, 0⟩] scope gpos) 0 (.ref it) .none (genEnv scope (cloFrom X.env.cells scope.names []) s₄.heap.objs.size code bi X.env))),
            toks := s₄.toks + 1 + 1 + 1,
            heap := h'.push { cls := .type "generator", data := .fields #[.int s₄.gens.size 0, .str "<genexpr>" (s₄.toks + 1), .str (X.env.qual ++ "<genexpr>") (s₄.toks + 1 + 1)] } }) X.xe { s2 with heap := h3, toks := tk } := by
    intro code h3 tk ps' hx hsz hP3 hmore ht3
    obtain ⟨more, rfl⟩ := hmore
    obtain ⟨bm, ob, e1, e2, e3, e4, e5, e6, e7, e8⟩ := TB.bm
    have keep3 : ∀ b u, b ≠ P → s2.heap.get? b = some u → h3.get? b = some u := fun b u hb e => hx b u hb e
    refine wpAny_builtinsFor (m := X.mg) (by rw [I2.ok.glob]; exact (I2.mod.glob.keeps I2.bk).extBut hx TB.gP) e1 e2 (keep3 _ _ e4 (I2.bk _ _ e5)) e6 e7 e8 ?_
    have I4 : Inv X pins σ (upd H2 P (.tbl (ps ++ more))) { s2 with heap := h3, toks := tk } := inv_tab (g' := s2.gens) (d' := s2.drawn) I2 hP keep3 hP3 I2.bare
    generalize hs4 : ({ s2 with heap := h3, toks := tk } : Shared) = s4 at I4 ⊢
    have h34 : s4.heap = h3 := by rw [← hs4]
    have g34 : s4.gens = s2.gens := by rw [← hs4]
    generalize hH4 : upd H2 P (.tbl (ps ++ more)) = H4 at I4
    have tb4 : Tabbed P H2 H4 := by rw [← hH4]; exact ⟨⟨_, upd_same, ht3⟩, fun b hb => upd_ne hb⟩
    obtain ⟨W, ⟨m0, w0⟩, turn⟩ := q H4 tb4 (fun ps0 e => by rw [hP] at e; cases e; exact ⟨more, by rw [← hH4]; exact upd_same⟩)
    intro h' hn' hs'
    have hfP : ∀ b ∈ fp, b ≠ P := fun b hb z => by
      have := (f2 b hb).1
      rw [z, hP] at this
      cases this
    have f4 : ∀ b ∈ fp, FpOk X pins H4 b ∧ b < s4.heap.objs.size := fun b hb => by
      obtain ⟨o, e, _⟩ := T.obj _ _ st2 b hb
      refine ⟨⟨?_, (f2 b hb).2⟩, by rw [h34]; exact Heap.lt_size (keep3 b o (hfP b hb) e)⟩
      rw [tb4.2 b (hfP b hb)]
      exact (f2 b hb).1
    generalize hcenv : genEnv scope (cloFrom X.env.cells scope.names []) s4.heap.objs.size code builtinsNs X.env = cenv
    have rA : Room k (X.A.in1.in1.over (.compLoop (.GeneratorExp elt [⟨tg, iter, ifs, 0⟩] scope gpos) 0 (.ref it) .none cenv) []) := by
      rw [over_gen]
      refine ⟨hr.hd, ?_, ?_⟩
      · have := hr.dp
        show X.A.in1.in1.depth + 1 + 3 * k + 5 < _
        have e : X.A.in1.in1.depth = X.A.depth := rfl
        omega
      · have := hr.un
        show X.A.in1.in1.units + 3 + 16 * k + 200 < _
        have e : X.A.in1.in1.units = X.A.units + 1 + 1 := rfl
        omega
    have I5 := gen_start (itv := Value.ref it) (code := code) (h' := h') (tk := s4.toks + 1 + 1 + 1) (gs := .fresh (.compStart (.GeneratorExp elt [⟨tg, iter, ifs, 0⟩] scope gpos) 0 (.ref it) .none cenv))
      (go := { cls := .type "generator", data := .fields #[.int s4.gens.size 0, .str "<genexpr>" (s4.toks + 1), .str (X.env.qual ++ "<genexpr>") (s4.toks + 1 + 1)] })
      (A' := X.A.in1.in1.over (.compLoop (.GeneratorExp elt [⟨tg, iter, ifs, 0⟩] scope gpos) 0 (.ref it) .none cenv) []) I4 ok hcell hN f4 cenv hcenv.symm
      (by rw [over_gen]; show X.A.frames.map (cenv :: ·) = _; rw [I2.ok.frames]; rfl) rA.hd hn' hs' (fun _ z => by cases z) rfl rfl
    have pg' := pg (X.A.in1.in1.over (.compLoop (.GeneratorExp elt [⟨tg, iter, ifs, 0⟩] scope gpos) 0 (.ref it) .none cenv) []) s4 H4 s4.heap.objs.size code fp [(h'.objs.size, { cls := .type "generator", data := .fields #[.int s4.gens.size 0, .str "<genexpr>" (s4.toks + 1), .str (X.env.qual ++ "<genexpr>") (s4.toks + 1 + 1)] })] rA
    have pt' := pt (X.A.in1.in1.over (.compLoop (.GeneratorExp elt [⟨tg, iter, ifs, 0⟩] scope gpos) 0 (.ref it) .none cenv) []) s4 H4 s4.heap.objs.size code fp [(h'.objs.size, { cls := .type "generator", data := .fields #[.int s4.gens.size 0, .str "<genexpr>" (s4.toks + 1), .str (X.env.qual ++ "<genexpr>") (s4.toks + 1 + 1)] })] rA
    have pe' := pe (X.A.in1.in1.over (.compLoop (.GeneratorExp elt [⟨tg, iter, ifs, 0⟩] scope gpos) 0 (.ref it) .none cenv) []) s4 H4 s4.heap.objs.size code fp [(h'.objs.size, { cls := .type "generator", data := .fields #[.int s4.gens.size 0, .str "<genexpr>" (s4.toks + 1), .str (X.env.qual ++ "<genexpr>") (s4.toks + 1 + 1)] })] rA
    rw [hcenv] at pg' pt' pe'
    generalize hgo : ({ cls := .type "generator", data := .fields #[.int s4.gens.size 0, .str "<genexpr>" (s4.toks + 1), .str (X.env.qual ++ "<genexpr>") (s4.toks + 1 + 1)] } : Obj) = go at I5 pg' pt' pe' ⊢
    have hsz' : h'.objs.size = s4.heap.objs.size + 1 := by rw [hs'.1, Heap.size_push]
    have isg : ∀ hh : Heap, hh.get? h'.objs.size = some go → hh.IsGen h'.objs.size s4.gens.size := fun hh e => by
      rw [← hgo] at e
      exact ⟨_, _, _, e, rfl, rfl, rfl⟩
    have st5 : tn 0 (h'.push go) := T.keep _ _ _ st2 fun b hb o e => Heap.get?_push_of_some _ (hs'.extBut b o (by rw [h34]; exact Nat.ne_of_lt (Heap.lt_size (keep3 b o (hfP b hb) e))) (Heap.get?_push_of_some _ (by rw [h34]; exact keep3 b o (hfP b hb) e)))
    have loop := gen_loop (Y := gxC X (X.A.in1.in1.over (.compLoop (.GeneratorExp elt [⟨tg, iter, ifs, 0⟩] scope gpos) 0 (.ref it) .none cenv) []) s4 H4 cenv fp [(h'.objs.size, go)]) (a := h'.objs.size) (gn := s4.gens.size) (K := fun c s' => EP X pins σ Q (.bool c) s') (σ := σ) (vs := own.map (·.2)) (Q := Q)
      rfl hc (by show cenv.scope.isCoroutine = false; rw [← hcenv]; exact hco) rfl T (fun hh hp => isg hh (hp (h'.objs.size, go) (by simp))) (fun p hp b hb => by
        have e : p = (h'.objs.size, go) := by simpa using hp
        rw [e]
        have := (f4 b hb).2
        exact Nat.ne_of_gt (Nat.lt_trans this (by rw [hsz']; exact Nat.lt_succ_self _))) pg' pt' pe' turn
      (fun c Hf sf If qf => ⟨.bl c, Hf, I4.call' (ch := fp) If.os If.base If.hok If.bare fun b hb => ⟨(f4 b hb).1.2.2.2.1, (f4 b hb).1.2.1, (f4 b hb).1.2.2.2.2.1, (f4 b hb).1.2.2.2.2.2⟩, rfl, qf⟩)
    refine hQ h'.objs.size s4.gens.size (m0 + 1) _ _ (Array.getElem?_push_size ..) (isg _ (Heap.get?_push_size _ (by rw [← hgo]; rfl))) I5.nolimit I5.bare fun s'' hw => ⟨rfl, ?_⟩
    have I6 := inv_woke I5 hw
    have lp := loop m0 (m0 + 1) 0 H4 s'' s'' (Nat.lt_succ_self _) I6 (by rw [hw.1]; exact st5) (fun b hb => (f4 b hb).1.1) w0
    have st6 : tn 0 s''.heap := by rw [hw.1]; exact st5
    show Seg _ X.A.in1.in1 _ _ _ s'' _ ((compStart (.GeneratorExp elt [⟨tg, iter, ifs, 0⟩] scope gpos) 0 (.ref it) .none cenv).onRaise (leaving cenv)) [] s''
    unfold compStart
    rw [Sem.onRaise_eq_wrap]
    show Seg _ X.A.in1.in1 _ _ _ s'' _ ((ask >>= _).wrap _ _ _ _) [] s''
    refine seg_bind_wrap (wpAny_askSetting ?_)
    split
    · exact seg_again rfl lp
    · refine seg_bind_wrap (wpAny_rule ?_)
      show Seg _ X.A.in1.in1 _ _ _ s'' _ ((standAt iter.pos >>= _).wrap _ _ _ _) [] s''
      exact seg_bind_wrap (wpAny_standAt (seg_bind_wrap (T.self _ 0 s'' _ _ st6 (seg_again rfl lp))))
  refine ⟨I2.nolimit, ?_⟩
  cases hf : codeAmong gpos ps.toList with
  | none =>
    refine wpAny_genexprCodeX hcode (cd.code hPs ht) (cd.tab hPs) hf fun c' h' tk hx hge hlt hco' _ htab' _ => ?_
    obtain ⟨o1, vs, f1, tf, fl, tg, inF, tx, tt, op, _, _, _, _, _, _, _, _, _, htr, _⟩ := hco'
    exact cont _ h' tk _ hx (Nat.le_trans hge (Nat.le_of_lt hlt)) htab'.2 ⟨_, rfl⟩ htr
  | some cv =>
    refine wpAny_genexprCode_hit hcode (cd.code hPs ht) hf ?_
    exact cont cv s2.heap s2.toks ps (Heap.ExtBut.refl _ _) (Nat.le_refl _) hPs ⟨#[], by simp⟩ ht

/-- all(.. for ..) -/
theorem pe_allG {c P : Addr} {elt tg iter : Expr} {ifs : List Expr} {scope : Scope} {own : List (Str × Nat)} {gpos p pos : Pos} {wi : TI} {g : TG} {tt : TT} {te : TE} {k : Nat}
    (hr : Room (k + 1) X.A) (hc : X.calm = true) (hN : X.N.Nodup) (hgl : Gl X "all") (hm : X.mg "all" = none) (TB : TabB X.base X.mg c P) (hcode : X.env.code = .ref c) (ok : BlkOk X.N X.env.scope scope own) (hco : scope.isCoroutine = false) (hcell : ∀ y ∈ scope.names, y.2 ≠ .cell) (hdot : scope.names.lookup (".0" : Str) = some NameKind.local)
    (hi : PI X tg iter wi) (pg : GxOk X scope k fun Y => PG Y tg g) (pt : GxOk X scope k fun Y => PTs Y ifs tt) (pe : GxOk X scope k fun Y => PE Y elt te) (hs : ∀ v, genFold iter X.env v = pure v)
    (he : starEach [.GeneratorExp elt [⟨tg, iter, ifs, 0⟩] scope gpos] X.env = (false, eval (.GeneratorExp elt [⟨tg, iter, ifs, 0⟩] scope gpos) X.env) :: starEach [] X.env) :
    PE X (.Call (.Name "all" p) [.GeneratorExp elt [⟨tg, iter, ifs, 0⟩] scope gpos] [] pos) (tGx false P wi g tt te (own.map (·.2))) := by
  refine ⟨fun pins s σ H Q I h => ?_⟩
  refine wpAny_Call_Name_kw (ld_blt I hgl hm boot_all_ ?_)
  refine PyProof.Rows.callWith_builtin1 ?_ he (by rfl)
  rw [he]
  show wpAny _ _ (spliced ((false, eval (.GeneratorExp elt [⟨tg, iter, ifs, 0⟩] scope gpos) X.env) :: backTo pos (starEach [] X.env))) _ _ s
  refine Calls.spliced_cons (eval_gen hr hc hN TB hcode ok hco hcell hdot hi pg pt pe hs I h fun a gn n s5 gs hgs hig hl hb hgo => ?_)
  refine Calls.spliced_nil ?_
  refine call_function_tree F.kind_all F.plain_all F.entry_all (F.args_all1 _) ?_
  unfold Builtin.«all»
  refine wpAny_bind (m := oneArg "all" _) (wpAny_pure ?_)
  refine wpAny_bind (wpAny_pyIter_gen hig ?_)
  exact wpAny_pure ⟨plainId_quiet F.plain_all_loop _, loop_all hr.hd (by have := hr.dp; show X.A.depth < _; omega) (fun c s' z => z) n s5 gs hgs hig hl hb hgo⟩
theorem pe_anyG {c P : Addr} {elt tg iter : Expr} {ifs : List Expr} {scope : Scope} {own : List (Str × Nat)} {gpos p pos : Pos} {wi : TI} {g : TG} {tt : TT} {te : TE} {k : Nat}
    (hr : Room (k + 1) X.A) (hc : X.calm = true) (hN : X.N.Nodup) (hgl : Gl X "any") (hm : X.mg "any" = none) (TB : TabB X.base X.mg c P) (hcode : X.env.code = .ref c) (ok : BlkOk X.N X.env.scope scope own) (hco : scope.isCoroutine = false) (hcell : ∀ y ∈ scope.names, y.2 ≠ .cell) (hdot : scope.names.lookup (".0" : Str) = some NameKind.local)
    (hi : PI X tg iter wi) (pg : GxOk X scope k fun Y => PG Y tg g) (pt : GxOk X scope k fun Y => PTs Y ifs tt) (pe : GxOk X scope k fun Y => PE Y elt te) (hs : ∀ v, genFold iter X.env v = pure v)
    (he : starEach [.GeneratorExp elt [⟨tg, iter, ifs, 0⟩] scope gpos] X.env = (false, eval (.GeneratorExp elt [⟨tg, iter, ifs, 0⟩] scope gpos) X.env) :: starEach [] X.env) :
    PE X (.Call (.Name "any" p) [.GeneratorExp elt [⟨tg, iter, ifs, 0⟩] scope gpos] [] pos) (tGx true P wi g tt te (own.map (·.2))) := by
  refine ⟨fun pins s σ H Q I h => ?_⟩
  refine wpAny_Call_Name_kw (ld_blt I hgl hm boot_any_ ?_)
  refine PyProof.Rows.callWith_builtin1 ?_ he (by rfl)
  rw [he]
  show wpAny _ _ (spliced ((false, eval (.GeneratorExp elt [⟨tg, iter, ifs, 0⟩] scope gpos) X.env) :: backTo pos (starEach [] X.env))) _ _ s
  refine Calls.spliced_cons (eval_gen hr hc hN TB hcode ok hco hcell hdot hi pg pt pe hs I h fun a gn n s5 gs hgs hig hl hb hgo => ?_)
  refine Calls.spliced_nil ?_
  refine call_function_tree F.kind_any F.plain_any F.entry_any (F.args_any1 _) ?_
  unfold Builtin.«any»
  refine wpAny_bind (m := oneArg "any" _) (wpAny_pure ?_)
  refine wpAny_bind (wpAny_pyIter_gen hig ?_)
  exact wpAny_pure ⟨plainId_quiet F.plain_any_loop _, loop_any hr.hd (by have := hr.dp; show X.A.depth < _; omega) (fun c s' z => z) n s5 gs hgs hig hl hb hgo⟩
end
/-! ### as denotations -/
section
variable {X : Cx} {W : Wd} {k : Nat} {E : XK} {a b c e o : Expr} {es ifs : List Expr} {pos p p2 : Pos} {d : Env → Mo PV} {dt : Env → Mo Bool}
theorem On.gx (h : On X W (k + 1) E) {A' : Around} (hA : Room k A') (s : Shared) (H : Hp) (env : PySem.Env) (fp : List Addr) (pn : List (Addr × Obj)) : On (gxC X A' s H env fp pn) W k E0 :=
  ⟨h.hK, h.hM, h.hc, h.nd, hA, fun _ _ _ _ _ _ _ z => (h.c0 _ _ _ _ _ z).elim, fun _ _ z => z.elim, h.c0⟩
open Classical in
/-- all (sv = false), any (sv = true) -/
noncomputable def gxF (sv : Bool) (pt : Pt) (dt : Env → Mo Bool) (d : Env → Mo PV) (chk : Sto → Prop) (ρ : Env) : List PV → Mo PV
  | [] => fun st => if chk st then .ok (.bl (!sv)) st else .stuck
  | q :: qs => fun st => if chk st then (match Pt.go pt q ρ with
    | none => .stuck
    | some ρ1 => bnd (nox (dt ρ1)) (fun b => if b = true then bnd (nox (d ρ1)) (fun y => bnd (blM y) fun c => if c = sv then fun st => .ok (.bl sv) st else gxF sv pt dt d chk ρ qs) else gxF sv pt dt d chk ρ qs) st) else .stuck
noncomputable def dGx (sv : Bool) (ds : Env → Mo Src) (pt : Pt) (dt : Env → Mo Bool) (d : Env → Mo PV) (vs : List Nat) : Env → Mo PV := fun ρ => bnd (ds ρ) fun S => gxF sv pt dt d S.chk (wipeE ρ vs) S.l
theorem mono_tab {ι : List Addr} {st : Sto} {H H2 : Hp} {P : Addr} (rs : RS W ι st H) (hP : P ∈ W.tb) (hPl : ∀ p ∈ W.tl, p.1 ≠ P) (t : Tabbed P H H2) (hm : ∀ ps, H P = some (.tbl ps) → ∃ more, H2 P = some (.tbl (ps ++ more))) : Mono ι H ι H2 ∧ RS W ι st H2 := by
  have m : Mono ι H ι H2 := by
    refine ⟨fun _ _ h => h, fun _ h n => absurd h n, fun a u h hn => ?_⟩
    by_cases ha : a = P
    · subst ha
      obtain ⟨ps, e, t1⟩ := rs.tb a hP
      rw [h] at e
      cases e
      obtain ⟨more, e2⟩ := hm ps h
      obtain ⟨ps2, e3, t2⟩ := t.1
      rw [e2] at e3
      cases e3
      exact ⟨_, e2, .inr ⟨ps, more, rfl, rfl, fun _ => t2⟩⟩
    · exact ⟨u, (t.2 a ha).trans h, Kp.refl u⟩
  refine ⟨m, rs.len, rs.nd, fun n u a h1 h2 => ?_, tab_mono rs m, fun p hp => ?_⟩
  rotate_left
  · obtain ⟨ps, h1, h2, h3⟩ := rs.tl p hp
    refine ⟨ps, (t.2 _ (hPl p hp)).trans h1, h2, fun pos cv hc => ?_⟩
    obtain ⟨c, e1, e2⟩ := h3 pos cv hc
    obtain ⟨ps', e3, _⟩ := rs.tb P hP
    exact ⟨c, e1, (t.2 _ fun z => by rw [z, e3] at e2; cases e2).trans e2⟩
  exact RO.mono rs m (t.2 a fun z => rs.notTab hP (by rw [← z]; exact List.mem_of_getElem? h2)) (rs.ob n u a h1 h2)
open Classical in
theorem gx_of {sv : Bool} {P : Addr} {pt : Pt} {ds : Env → Mo Src} {vs : List Nat} {σ : L2.St} {H : Hp} {Q : VK} (hP : P ∈ W.tb) (hPl : ∀ p ∈ W.tl, p.1 ≠ P) (t : tD W E (dGx sv ds pt dt d vs) σ H Q) : tGx sv P (tDI W E ds) (tDP W pt vs) (tDT W E0 dt) (tD W E0 d) vs σ H Q := by
  obtain ⟨ι, ρ, st, re, rs, g⟩ := t
  refine ⟨ι, ρ, st, re, rs, Good.imp (Good.bind g) fun S st1 ι1 H1 m1 r1 g1 J H1' mn r1' jo => ⟨r1'.tb P hP, fun H2 tbd hmore => ?_⟩⟩
  obtain ⟨mt, rt⟩ := mono_tab r1' hP hPl tbd hmore
  have re1 := ((re.mono rs m1).mono r1 mn).mono r1' mt
  refine ⟨fun i m H' => m = S.l.length - i ∧ ∃ ι' st', RE W ι' H' ρ σ ∧ RS W ι' st' H' ∧ Mono ι1 H1' ι' H' ∧ Good W E ι' H' (gxF sv pt dt d S.chk (wipeE ρ vs) (S.l.drop i) st') (kQ W Q), ⟨_, rfl, ι1, st1, re1, rt, mt, (g1.shift mn).shift mt⟩, ?_⟩
  rintro i m H' ⟨rfl, ι2, st2, re2, r2, m2, g2⟩
  by_cases hi : i < S.l.length
  · have hq : S.l[i]? = some S.l[i] := List.getElem?_eq_getElem hi
    rw [List.drop_eq_getElem_cons hi] at g2
    unfold gxF at g2
    obtain ⟨hc, g3⟩ := good_if g2
    obtain ⟨hgo, hy⟩ := (jo ι2 H' st2 m2 r2 hc i).1 _ hq
    refine .inr ⟨hgo, fun H3 => ∃ ι' st', RE W ι' H3 ρ σ ∧ RS W ι' st' H3 ∧ Mono ι1 H1' ι' H3 ∧ Good W E ι' H3 (gxF sv pt dt d S.chk (wipeE ρ vs) (S.l.drop (i + 1)) st') (kQ W Q), fun H'' z => ⟨S.l.length - (i + 1), by omega, rfl, z⟩, fun x H'' y => ?_⟩
    obtain ⟨m3, r3, rv⟩ := hy x H'' y
    cases hp : Pt.go pt S.l[i] (wipeE ρ vs) with
    | none => rw [hp] at g3; exact g3.elim
    | some ρ1 =>
      rw [hp] at g3
      have re3 := re2.mono r2 m3
      refine ⟨ι2, wipeE ρ vs, st2, _, re3.wipe vs, r3, rv, ρ1, hp, fun σ' re' hw => ⟨hw.trans (wipe_idem vs vs fun _ z => z), ?_⟩⟩
      refine ⟨ι2, ρ1, st2, re', r3, Good.imp (Good.nox (g3.shift m3)) fun b st4 ι4 H4 m4 r4 g4 => ?_⟩
      have re4 := re2.mono r2 (m3.trans m4)
      cases b with
      | false => exact ⟨ι4, st4, re4, r4, m2.trans (m3.trans m4), g4⟩
      | true =>
        show ite (true = true) _ _
        rw [if_pos rfl] at g4 ⊢
        refine ⟨ι4, ρ1, st4, re'.mono r3 m4, r4, Good.imp (Good.nox g4) fun y st5 ι5 H5 m5 r5 g5 yv hyv => ?_⟩
        obtain ⟨cc, rfl, rfl, g6⟩ := bl_of r5 hyv (Good.bind g5)
        refine ⟨cc, rfl, ?_⟩
        by_cases hcs : cc = sv
        · rw [if_pos hcs] at g6 ⊢
          exact g6.ok r5 _ (.bl sv)
        · rw [if_neg hcs] at g6 ⊢
          exact ⟨ι5, st5, re4.mono r4 m5, r5, (m2.trans (m3.trans m4)).trans m5, g6⟩
  · have hl : S.l.length ≤ i := by omega
    rw [List.drop_of_length_le hl] at g2
    unfold gxF at g2
    obtain ⟨hc, g3⟩ := good_if g2
    exact .inl ⟨(jo ι2 H' st2 m2 r2 hc i).2 hl, g3.ok r2 _ (.bl _)⟩
abbrev Gx (X : Cx) (scope : Scope) (p : Cx → Prop) : Prop := ∀ (A' : Around) (s : Shared) (H : Hp) (C : Addr) (code : Value) (fp : List Addr) (pn : List (Addr × Obj)), p (gxC X A' s H (genEnv scope (cloFrom X.env.cells scope.names []) C code builtinsNs X.env) fp pn)
theorem de_allG {cc P : Addr} {elt tg iter : Expr} {scope : Scope} {own : List (Str × Nat)} {gpos : Pos} {ds : Env → Mo Src} {pt : Pt} (TB : TabB X.base W.mg cc P) (hP : P ∈ W.tb) (hPl : ∀ p ∈ W.tl, p.1 ≠ P) (hcode : X.env.code = .ref cc) (hm : W.mg "all" = none)
    (hi : DI X W (k + 1) E tg iter ds) (ok : BlkOk X.N X.env.scope scope own) (hg : Gx X scope fun Y => DP Y W (own.map (·.2)) tg pt) (ht : Gx X scope fun Y => DTs Y W k E0 ifs dt) (he : Gx X scope fun Y => DE Y W k E0 elt d)
    (hgl : Gl X "all" := by rfl) (hco : scope.isCoroutine = false := by rfl) (hcell : ∀ y ∈ scope.names, y.2 ≠ .cell := by decide) (hdot : scope.names.lookup (".0" : Str) = some NameKind.local := by rfl) (hs : ∀ v, genFold iter X.env v = pure v := by intro _; rfl)
    (hst : starEach [.GeneratorExp elt [⟨tg, iter, ifs, 0⟩] scope gpos] X.env = (false, eval (.GeneratorExp elt [⟨tg, iter, ifs, 0⟩] scope gpos) X.env) :: starEach [] X.env := by rfl) :
    DE X W (k + 1) E (.Call (.Name "all" p) [.GeneratorExp elt [⟨tg, iter, ifs, 0⟩] scope gpos] [] pos) (dGx false ds pt dt d (own.map (·.2))) := ⟨fun o =>
  pe_imp (pe_allG o.room o.hc o.nd hgl (by rw [o.hM]; exact hm) (by rw [o.hM]; exact TB) hcode ok hco hcell hdot (hi.run o) (fun A' s H C code fp pn hA => (hg A' s H C code fp pn).run o.hK o.nd o.hc) (fun A' s H C code fp pn hA => (ht A' s H C code fp pn).run (o.gx hA s H _ fp pn)) (fun A' s H C code fp pn hA => (he A' s H C code fp pn).run (o.gx hA s H _ fp pn)) hs hst) fun _ _ _ t => gx_of hP hPl t⟩
theorem de_anyG {cc P : Addr} {elt tg iter : Expr} {scope : Scope} {own : List (Str × Nat)} {gpos : Pos} {ds : Env → Mo Src} {pt : Pt} (TB : TabB X.base W.mg cc P) (hP : P ∈ W.tb) (hPl : ∀ p ∈ W.tl, p.1 ≠ P) (hcode : X.env.code = .ref cc) (hm : W.mg "any" = none)
    (hi : DI X W (k + 1) E tg iter ds) (ok : BlkOk X.N X.env.scope scope own) (hg : Gx X scope fun Y => DP Y W (own.map (·.2)) tg pt) (ht : Gx X scope fun Y => DTs Y W k E0 ifs dt) (he : Gx X scope fun Y => DE Y W k E0 elt d)
    (hgl : Gl X "any" := by rfl) (hco : scope.isCoroutine = false := by rfl) (hcell : ∀ y ∈ scope.names, y.2 ≠ .cell := by decide) (hdot : scope.names.lookup (".0" : Str) = some NameKind.local := by rfl) (hs : ∀ v, genFold iter X.env v = pure v := by intro _; rfl)
    (hst : starEach [.GeneratorExp elt [⟨tg, iter, ifs, 0⟩] scope gpos] X.env = (false, eval (.GeneratorExp elt [⟨tg, iter, ifs, 0⟩] scope gpos) X.env) :: starEach [] X.env := by rfl) :
    DE X W (k + 1) E (.Call (.Name "any" p) [.GeneratorExp elt [⟨tg, iter, ifs, 0⟩] scope gpos] [] pos) (dGx true ds pt dt d (own.map (·.2))) := ⟨fun o =>
  pe_imp (pe_anyG o.room o.hc o.nd hgl (by rw [o.hM]; exact hm) (by rw [o.hM]; exact TB) hcode ok hco hcell hdot (hi.run o) (fun A' s H C code fp pn hA => (hg A' s H C code fp pn).run o.hK o.nd o.hc) (fun A' s H C code fp pn hA => (ht A' s H C code fp pn).run (o.gx hA s H _ fp pn)) (fun A' s H C code fp pn hA => (he A' s H C code fp pn).run (o.gx hA s H _ fp pn)) hs hst) fun _ _ _ t => gx_of hP hPl t⟩
end
end PD
/-! PD: more operators. -/
namespace PD
open PySem PySem.Spec PyProof.Rows L2
/-! ### tuple * int, small counts -/
theorem tuple_mul0 (l : Addr) (items : Array Value) (n : Nat) (dd : Option Addr) (sl : Array (Option Value)) (x : Int) (u : Tok) (c0 : (decide (x < -(2 ^ 63)) || decide (x ≥ 2 ^ 63)) = false) (c1 : (items.isEmpty || x == 1) = false) (c2 : (decide (x ≤ 0) || items.isEmpty) = true) :
    Meets (Builtin.«tuple.__mul__» ⟨[.ref l, .int x u], []⟩) (fun _ R s => s.heap.get? l = some { cls := .type "tuple", dict := dd, data := .seq items n, slots := sl } ∧
      R (.ok (.ret (Value.ref s.heap.objs.size))) { s with heap := s.heap.push { cls := Value.type "tuple", data := Data.seq #[] }, toks := s.toks }) :=
  .of_wp fun prog w A R s h => by
    obtain ⟨hp, g, d, tk, os⟩ := s
    obtain ⟨hl, h⟩ := h
    have f1 := AutoSeq1.idx_int
    wp_walk using wpAny_loadPart' hl
    repeat (first
      | (refine wpAny_ite_false (decide_eq_false (by rw [c0]; exact Bool.false_ne_true)) ?_; wp_walk using wpAny_loadPart' hl)
      | (refine wpAny_ite_false (decide_eq_false (by rw [c1]; exact Bool.false_ne_true)) ?_; wp_walk using wpAny_loadPart' hl)
      | (refine wpAny_ite_true (decide_eq_true (by rw [c2])) ?_; wp_walk using wpAny_loadPart' hl)
      | (refine wpAny_ite_false (decide_eq_false (Nat.not_lt.mpr (show (#[] : Array Value).size ≤ sizeLine by decide))) ?_; wp_walk using wpAny_loadPart' hl))
    exact ⟨_, rfl, h⟩
theorem tuple_mul1 (l : Addr) (items : Array Value) (n : Nat) (dd : Option Addr) (sl : Array (Option Value)) (x : Int) (u : Tok) (c0 : (decide (x < -(2 ^ 63)) || decide (x ≥ 2 ^ 63)) = false) (c1 : (items.isEmpty || x == 1) = true) :
    Meets (Builtin.«tuple.__mul__» ⟨[.ref l, .int x u], []⟩) (fun _ R s => s.heap.get? l = some { cls := .type "tuple", dict := dd, data := .seq items n, slots := sl } ∧ R (.ok (.ret (Value.ref l))) s) :=
  .of_wp fun prog w A R s h => by
    obtain ⟨hp, g, d, tk, os⟩ := s
    obtain ⟨hl, h⟩ := h
    have f1 := AutoSeq1.idx_int
    wp_walk using wpAny_loadPart' hl
    repeat (first
      | (refine wpAny_ite_false (decide_eq_false (by rw [c0]; exact Bool.false_ne_true)) ?_; wp_walk using wpAny_loadPart' hl)
      | (refine wpAny_ite_true (decide_eq_true (by rw [c1])) ?_; wp_walk using wpAny_loadPart' hl))
    exact ⟨_, rfl, h⟩
def rRepT2 (K : PySem.W.Frag) : R2 := fun x y H Q => ∃ l k xs, x = .ref l ∧ y = .int k ∧ SqT K H l xs ∧ -1000 ≤ k ∧ k ≤ 1000 ∧ xs.length ≤ 1000 ∧ (if xs = [] ∨ k = 1 then Q (.ref l) H else ∀ p, H p = none → Q (.ref p) (upd H p (.tup (List.replicate k.toNat xs).flatten)))
theorem op_repT2 {X : Cx} : OpR X (binaryOp .Mult) (rRepT2 X.K) := by
  intro pins s σ H x y v u Q I rx ry h
  obtain ⟨l, k, xs, rfl, rfl, hT, h1, h2, hz, q⟩ := h
  by_cases hb : xs ≠ [] ∧ 2 ≤ k
  · rw [if_neg (fun z => by rcases z with z | z; exact hb.1 z; omega)] at q
    exact op_repT pins s σ H _ _ v u Q I rx ry ⟨l, k, xs, rfl, rfl, hT, hb.1, hb.2, h2, hz, q⟩
  cases rx
  obtain ⟨t, rfl⟩ := ry
  obtain ⟨its, r, ⟨⟨cls, dd, data, sl⟩, ho, hc, n, hd⟩, hs⟩ := I.tuple hT
  simp only at hc hd
  subst hc hd
  have hle : its.length = xs.length := r.length.symm
  have c0 : (decide (k < -(2 ^ 63)) || decide (k ≥ 2 ^ 63)) = false := by
    rw [decide_eq_false (by omega), decide_eq_false (by omega)] <;> rfl
  have he : its.toArray.isEmpty = true ↔ xs = [] := by
    cases its with
    | nil => cases xs with
      | nil => exact ⟨fun _ => rfl, fun _ => rfl⟩
      | cons a b => cases hle
    | cons a b => cases xs with
      | nil => cases hle
      | cons c d => exact ⟨fun z => (by cases z), fun z => (by cases z)⟩
  by_cases h3 : xs = [] ∨ k = 1
  · rw [if_pos h3] at q
    have c1 : (its.toArray.isEmpty || k == 1) = true := by
      rcases h3 with z | z
      · rw [he.mpr z]; rfl
      · rw [z]; exact Bool.or_true _
    exact wpAny_binaryOp_repeat_ref (T := "tuple") (U := "int") (by decide) ⟨_, ho, rfl⟩ (fun s' => typeIs_int s' k t) noFill_tuple_mul F.fills_int_mul F.slot_int_rmul repeat_tuple F.slot_int_index.lookup
      (call_meets F.slot_int_rmul (typeIs_int s k t) F.entry_int_rmul (F.args_int_rmul_2 _ _) (int_rmul_tuple k t l its.toArray n dd sl)
        ⟨ho, rfl, ⟨_, ho, rfl⟩, call_meets F.slot_tuple_mul ⟨_, ho, rfl⟩ F.entry_tuple_mul (F.args_tuple_mul_2 _ _) (tuple_mul1 l its.toArray n dd sl k t c0 c1) ⟨ho, .ref l, H, I, rfl, q⟩⟩)
  · rw [if_neg h3] at q
    have hne : xs ≠ [] := fun z => h3 (.inl z)
    have hk1 : k ≠ 1 := fun z => h3 (.inr z)
    have hk : k ≤ 0 := Int.not_lt.mp fun z => hb ⟨hne, by omega⟩
    have hi : its.toArray.isEmpty = false := by
      cases q2 : its.toArray.isEmpty with
      | false => rfl
      | true => exact (hne (he.mp q2)).elim
    have c1 : (its.toArray.isEmpty || k == 1) = false := by
      rw [hi, Bool.false_or]
      exact beq_eq_false_iff_ne.mpr hk1
    have c2 : (decide (k ≤ 0) || its.toArray.isEmpty) = true := by rw [decide_eq_true hk]; rfl
    refine wpAny_binaryOp_repeat_ref (T := "tuple") (U := "int") (by decide) ⟨_, ho, rfl⟩ (fun s' => typeIs_int s' k t) noFill_tuple_mul F.fills_int_mul F.slot_int_rmul repeat_tuple F.slot_int_index.lookup
      (call_meets F.slot_int_rmul (typeIs_int s k t) F.entry_int_rmul (F.args_int_rmul_2 _ _) (int_rmul_tuple k t l its.toArray n dd sl)
        ⟨ho, rfl, ⟨_, ho, rfl⟩, call_meets F.slot_tuple_mul ⟨_, ho, rfl⟩ F.entry_tuple_mul (F.args_tuple_mul_2 _ _) (tuple_mul0 l its.toArray n dd sl k t c0 c1 c2) ⟨ho, ?_⟩⟩)
    have hk0 : k.toNat = 0 := by omega
    refine ⟨.ref s.heap.objs.size, _, I.laid (t' := s.toks) (o := .tup (List.replicate k.toNat xs).flatten) (fun b ob q => Heap.get?_push_of_some _ q) (Nat.le_refl _) ?_, rfl, q _ (I.hok.fresh (Nat.le_refl _))⟩
    rw [hk0]
    exact ⟨Nat.zero_le _, _, .nil, IsTup.new _ _⟩
section
variable {X : Cx} {W : Wd} {k : Nat} {E : XK} {a b c e o : Expr} {es ifs : List Expr} {pos p p2 : Pos} {da db dc d : Env → Mo PV} {dt du : Env → Mo Bool} {dl dm : Env → Mo (List PV)}
/-- *: ints, a tuple, a text -/
def oMulA : PV → PV → Mo PV
  | .int i, .int j => fun st => if CM i j then .ok (.int (i * j)) st else .stuck
  | .tup l, .int k => fun st => if -1000 ≤ k ∧ k ≤ 1000 ∧ l.length ≤ 1000 then .ok (.tup (List.replicate k.toNat l).flatten) st else .stuck
  | .str x, .int k => fun st => if -1000 ≤ k ∧ k ≤ 1000 ∧ x.length ≤ 1000 then .ok (.str ⟨(List.replicate k.toNat x.cps).foldl (· ++ ·) #[]⟩) st else .stuck
  | _, _ => fail
def rRepS : R2 := fun x y H Q => ∃ z k, x = .str z ∧ y = .int k ∧ -1000 ≤ k ∧ k ≤ 1000 ∧ z.length ≤ 1000 ∧ Q (.str ⟨(List.replicate k.toNat z.cps).foldl (· ++ ·) #[]⟩) H
theorem op_repS : OpR X (binaryOp .Mult) rRepS := by
  intro pins s σ H x y v u Q I rx ry h
  obtain ⟨z, k, rfl, rfl, h1, h2, hz, q⟩ := h
  obtain ⟨t, rfl⟩ := rx
  obtain ⟨t', rfl⟩ := ry
  have c0 : (decide (k < -(2 ^ 63 : Int)) || decide (k ≥ 2 ^ 63)) = false := by
    rw [decide_eq_false (by omega), decide_eq_false (by omega)] <;> rfl
  refine PySem.P.mul_str c0 (fun hk _ => ?_) (fun hk _ => ?_) ?_
  · have : (2 ^ 63 - 1) / k ≥ (2 ^ 63 - 1) / 1000 := by
      rw [ge_iff_le, Int.le_ediv_iff_mul_le (by omega)]
      have : ((2 ^ 63 - 1) / 1000 : Int) * k ≤ ((2 ^ 63 - 1) / 1000 : Int) * 1000 := Int.mul_le_mul_of_nonneg_left (by omega) (by decide)
      omega
    omega
  · have h9 : z.length * k.toNat ≤ 1000 * 1000 := Nat.mul_le_mul hz (by omega)
    show decide (z.length * k.toNat > sizeLine) = false
    rw [sizeLine_eq]
    exact decide_eq_false (by omega)
  · by_cases hk : k < 1
    · rw [if_pos hk]
      have e : k.toNat = 0 := by omega
      rw [e] at q
      exact ⟨by decide, .str _, H, I.tok _, ⟨_, rfl⟩, q⟩
    · rw [if_neg hk]
      by_cases hc : (k == 1 || z.length == 0) = true
      · rw [if_pos hc]
        have e : (⟨(List.replicate k.toNat z.cps).foldl (· ++ ·) #[]⟩ : Str) = z := by
          rw [Bool.or_eq_true] at hc
          rcases hc with hc | hc
          · have : k = 1 := by simpa using hc
            subst this
            obtain ⟨c⟩ := z
            simp
          · have hz0 : z.cps = #[] := by
              have : z.cps.size = 0 := by simpa [Str.length] using hc
              exact Array.eq_empty_of_size_eq_zero this
            obtain ⟨c⟩ := z
            subst hz0
            congr 1
            generalize k.toNat = n
            induction n with
            | zero => rfl
            | succ n ih => rw [List.replicate_succ, List.foldl_cons]; exact ih
        rw [e] at q
        exact ⟨.str z, H, I, ⟨_, rfl⟩, q⟩
      · rw [if_neg hc]
        refine ⟨?_, .str _, H, I.tok _, ⟨_, rfl⟩, q⟩
        have h9 : k.toNat * z.length ≤ 1000 * 1000 := Nat.mul_le_mul (by omega) hz
        have key : ∀ (n : Nat) (a : Array Nat), ((List.replicate n z.cps).foldl (· ++ ·) a).size = a.size + n * z.cps.size := by
          intro n
          induction n with
          | zero => intro a; simp
          | succ n ih => intro a; rw [List.replicate_succ, List.foldl_cons, ih, Array.size_append, Nat.succ_mul]; omega
        show Str.length _ ≤ sizeLine
        rw [sizeLine_eq]
        have k2 := key k.toNat #[]
        show Array.size (List.foldl (fun x1 x2 => x1 ++ x2) #[] (List.replicate k.toNat z.cps)) ≤ _
        rw [k2]
        have e : z.length = z.cps.size := rfl
        rw [e] at h9
        simp only [Array.size_empty]
        omega
def rMulA (K : PySem.W.Frag) : R2 := fun x y H Q => rI CMul (fun i j => .int (i * j)) x y H Q ∨ rRepT2 K x y H Q ∨ rRepS x y H Q
theorem fok_mulA : FOk W E (rMulA W.K) oMulA := by
  intro ι st H x y p q Q rs hx hy g0
  cases hx <;> cases hy <;> first
    | exact g0.elim
    | (obtain ⟨hc, g1⟩ := good_if g0
       first
        | exact .inl ⟨_, _, rfl, rfl, cm_ok hc, g1.ok rs _ (.int _)⟩
        | exact .inr (.inr ⟨_, _, rfl, rfl, hc.1, hc.2.1, hc.2.2, g1.ok rs _ (.str _)⟩)
        | (rename_i a vs l sq rr hz k
           refine .inr (.inl ⟨a, k, vs, rfl, rfl, sq, hc.1, hc.2.1, by rw [rr.length]; exact hc.2.2, ?_⟩)
           have rep : RVs W ι H (List.replicate k.toNat vs).flatten (List.replicate k.toNat l).flatten := by
             generalize k.toNat = n
             induction n with
             | zero => exact .nil
             | succ n ih => rw [List.replicate_succ, List.replicate_succ, List.flatten_cons, List.flatten_cons]; exact rr.append ih
           have hlen : (List.replicate k.toNat l).flatten.length ≤ 16777216 := by
             have e : (List.replicate k.toNat l).flatten.length = k.toNat * l.length := by simp
             have h9 : k.toNat * l.length ≤ 1000 * 1000 := Nat.mul_le_mul (by omega) hc.2.2
             omega
           split
           · rename_i hcs
             have e : (List.replicate k.toNat l).flatten = l := by
               rcases hcs with z | z
               · subst z
                 cases rr
                 generalize k.toNat = n
                 induction n with
                 | zero => rfl
                 | succ n ih => rw [List.replicate_succ, List.flatten_cons]; exact ih
               · subst z
                 simp
             rw [e] at g1
             exact g1.ok rs _ (.tup sq rr hz)
           · intro p hp
             exact good_newtup g1 rs rep hlen hp))
theorem op_mulA {X : Cx} : OpR X (binaryOp .Mult) (rMulA X.K) := OpR.or op_mul (OpR.or op_repT2 op_repS)
theorem de_mulA (ha : DE X W k E a da) (hb : DE X W k E b db) : DE X W k E (.BinOp a .Mult b pos) (dBin oMulA da db) := de_bin (fun o => by rw [← o.hK]; exact op_mulA) fok_mulA ha hb
/-! ### in -/
def rInP (K : PySem.W.Frag) (ng : Bool) : R2 := fun x y H Q => ∃ d ds, Dp K H x d ∧ (Dp K H y (.list ds) ∨ Dp K H y (.tuple ds)) ∧ d.plain = true ∧ PyData.plainAll ds = true ∧ PyData.depthAll ds ≤ 63 ∧ Q (.bl (if ng then !ds.any fun z => PyData.eqv z d else ds.any fun z => PyData.eqv z d)) H
theorem op_inP {X : Cx} (hu : X.A.units + 65 < cLine) : OpR X (compareOp .In) (rInP X.K false) := by
  intro pins s σ H x y v u Q I rx ry h
  obtain ⟨d, ds, hd, he, pd, pe, hz, q⟩ := h
  obtain ⟨as, r1⟩ := Dp.reads I d x v hd rx
  rcases he with he | he
  · obtain ⟨bs, r2⟩ := Dp.reads I (.list ds) y u he ry
    exact SeqAt.in_list_data r2 r1 pe pd (by omega) ⟨.bl _, H, I, rfl, q⟩
  · obtain ⟨bs, r2⟩ := Dp.reads I (.tuple ds) y u he ry
    exact SeqAt.in_tuple_data r2 r1 pe pd (by omega) ⟨.bl _, H, I, rfl, q⟩
theorem op_notInP {X : Cx} (hu : X.A.units + 65 < cLine) : OpR X (compareOp .NotIn) (rInP X.K true) := by
  intro pins s σ H x y v u Q I rx ry h
  obtain ⟨d, ds, hd, he, pd, pe, hz, q⟩ := h
  obtain ⟨as, r1⟩ := Dp.reads I d x v hd rx
  rcases he with he | he
  · obtain ⟨bs, r2⟩ := Dp.reads I (.list ds) y u he ry
    exact SeqAt.notIn_list_data r2 r1 pe pd (by omega) ⟨.bl _, H, I, rfl, q⟩
  · obtain ⟨bs, r2⟩ := Dp.reads I (.tuple ds) y u he ry
    exact SeqAt.notIn_tuple_data r2 r1 pe pd (by omega) ⟨.bl _, H, I, rfl, q⟩
def inQ (ng : Bool) (p : PV) (l : List PV) : Mo PV := fun st => if okd 60 p = true ∧ okds 60 l = true then .ok (.bl (if ng then !l.any fun z => eqb z p else l.any fun z => eqb z p)) st else .stuck
theorem any_toD {p : PV} (hp : okd 60 p = true) : ∀ (l : List PV), okds 60 l = true → ((toDs l).any fun z => PyData.eqv z (toD p)) = l.any fun z => eqb z p
  | [], _ => rfl
  | q :: l, h => by
    unfold okds at h
    rw [Bool.and_eq_true] at h
    unfold toDs
    rw [List.any_cons, List.any_cons, eqv_toD 60 q p h.1 hp, any_toD hp l h.2]
theorem in_of {ng : Bool} {ι : List Addr} {st : Sto} {H : Hp} {x y : V} {q : PV} {l : List PV} {vs : List V} {Q : VK} (rs : RS W ι st H) (hx : RV W ι H x q) (hy : IsSq W.K H y vs) (r : RVs W ι H vs l) (g : Good W E ι H (inQ ng q l st) (kQ W Q)) : rInP W.K ng x y H Q := by
  obtain ⟨hc, g1⟩ := good_if g
  obtain ⟨p1, p2⟩ := okd_plain 60 q hc.1
  obtain ⟨l1, l2⟩ := okds_plain 60 l hc.2
  have dv := dps_of 60 l vs hc.2 r
  have key : Dp W.K H y (.list (toDs l)) ∨ Dp W.K H y (.tuple (toDs l)) := by
    obtain ⟨a, rfl, z⟩ := hy
    rcases z with z | z
    · exact .inl (.lst z dv)
    · exact .inr (.tup z dv)
  refine ⟨toD q, toDs l, dp_of 60 q x hc.1 hx, key, p1, l1, by omega, ?_⟩
  rw [any_toD hc.1 l hc.2]
  exact g1.ok rs _ (.bl _)
theorem de_in (ha : DE X W k E a da) (hb : DE X W k E b db) (hm : behindInMarks .In b = false := by rfl) : DE X W k E (.Compare a [.In] [b] pos) (dBin (fun p q => bnd (sqM q) (inQ false p)) da db) :=
  de_cmp (r := rInP W.K false) (fun o => by rw [← o.hK]; exact op_inP (by have := o.room.un; omega)) (fun ι st H x y p q Q rs hx hy g => by
    have g0 := Good.bind g
    unfold sqM at g0
    cases z : seqOf st q with
    | none => rw [z] at g0; exact g0.elim
    | some l =>
      rw [z] at g0
      obtain ⟨vs, h1, h2, h3⟩ := seq_sq rs hy z
      exact in_of rs hx h1 h2 (g0.ok rs)) ha hb hm
theorem de_notin (ha : DE X W k E a da) (hb : DE X W k E b db) (hm : behindInMarks .NotIn b = false := by rfl) : DE X W k E (.Compare a [.NotIn] [b] pos) (dBin (fun p q => bnd (sqM q) (inQ true p)) da db) :=
  de_cmp (r := rInP W.K true) (fun o => by rw [← o.hK]; exact op_notInP (by have := o.room.un; omega)) (fun ι st H x y p q Q rs hx hy g => by
    have g0 := Good.bind g
    unfold sqM at g0
    cases z : seqOf st q with
    | none => rw [z] at g0; exact g0.elim
    | some l =>
      rw [z] at g0
      obtain ⟨vs, h1, h2, h3⟩ := seq_sq rs hy z
      exact in_of rs hx h1 h2 (g0.ok rs)) ha hb hm
/-! ### lists: times, and -/
def repM (l : List PV) (q : PV) : Mo (List PV) := fun st => match q with
  | .int k => if -1000000 ≤ k ∧ k ≤ 1000000 ∧ l.length * k.toNat ≤ 16777216 then .ok (List.replicate k.toNat l).flatten st else .stuck
  | _ => .stuck
theorem dl_rep (ha : DL X W k E a dl) (hb : DE X W k E b db) : DL X W k E (.BinOp a .Mult b pos) (fun ρ => bnd (dl ρ) fun l => bnd (db ρ) fun q => repM l q) := ⟨fun o => pe_imp (pe_op op_rep (ha.run o) (hb.run o)) fun σ H Q t => by
  obtain ⟨ι, ρ, st, re, rs, g⟩ := t
  refine ⟨ι, ρ, st, re, rs, Good.imp (Good.bind g) fun l st1 ι1 H1 m1 r1 g1 p vs hp0 hn he rr hz => ?_⟩
  refine ⟨ι1, ρ, st1, re.mono rs m1, r1, Good.imp (Good.bind g1) fun q st2 ι2 H2 m2 r2 g2 y hy => ?_⟩
  cases hy <;> try exact g2.elim
  rename_i kk
  obtain ⟨hc, g3⟩ := good_if g2
  have he2 := lst_mono m2 hn he
  have rr2 := rvs_mono r1 m2 _ _ rr
  have rep : RVs W ι2 H2 (List.replicate kk.toNat vs).flatten (List.replicate kk.toNat l).flatten := by
    generalize kk.toNat = n
    induction n with
    | zero => exact .nil
    | succ n ih => rw [List.replicate_succ, List.replicate_succ, List.flatten_cons, List.flatten_cons]; exact rr2.append ih
  refine ⟨p, kk, vs, rfl, rfl, he2, by omega, by omega, by rw [sizeLine_eq, rr.length]; exact hc.2.2, fun np hnp => ?_⟩
  have hlen : (List.replicate kk.toNat l).flatten.length ≤ 16777216 := by
    have e : (List.replicate kk.toNat l).flatten.length = kk.toNat * l.length := by simp
    rw [e, Nat.mul_comm]
    exact hc.2.2
  exact good_newlst g3 r2 rep hlen hnp (none_back rs (m1.trans m2) r2.some_ hnp)⟩
/-- an unlocked list, wherever it stands -/
def kU (W : Wd) (Q : VK) : List PV → Sto → List Addr → Hp → Prop := fun l _ ι' H' => ∀ p vs, H' p = some (.lst vs) → RVs W ι' H' vs l → l.length ≤ 16777216 → Q (.ref p) H'
def tDU (W : Wd) (E : XK) (d : Env → Mo (List PV)) : TE := fun σ H Q => ∃ ι ρ st, RE W ι H ρ σ ∧ RS W ι st H ∧ Good W E ι H (d ρ st) (kU W Q)
structure DU (X : Cx) (W : Wd) (k : Nat) (E : XK) (e : Expr) (d : Env → Mo (List PV)) : Prop where
  run : On X W k E → PE X e (tDU W E d)
theorem du_l (h : DL X W k E e dl) : DU X W k E e dl := ⟨fun o => pe_imp (h.run o) fun σ H Q t => by
  obtain ⟨ι, ρ, st, re, rs, g⟩ := t
  exact ⟨ι, ρ, st, re, rs, Good.imp g fun l st1 ι1 H1 m1 r1 g1 p vs hp hn e1 r z => g1 p vs e1 r z⟩⟩
def lstU (q : PV) : Mo (List PV) := fun st => match q with
  | .loc n => match st[n]? with
    | some (.lst false l) => .ok l st
    | _ => .stuck
  | _ => .stuck
theorem lu_of {ι : List Addr} {st : Sto} {H : Hp} {x : V} {q : PV} {kk : List PV → Sto → List Addr → Hp → Prop} (rs : RS W ι st H) (hx : RV W ι H x q) (g : Good W E ι H (lstU q st) kk) :
    ∃ a vs l, x = .ref a ∧ H a = some (.lst vs) ∧ RVs W ι H vs l ∧ l.length ≤ 16777216 ∧ kk l st ι H := by
  cases hx <;> try exact g.elim
  rename_i n a hn
  unfold lstU at g
  dsimp only at g
  cases q : st[n]? with
  | none => rw [q] at g; exact g.elim
  | some ob =>
    rw [q] at g
    have ro := rs.ob n ob a q hn
    cases ob with
    | dct _ _ => exact g.elim
    | sti _ => exact g.elim
    | lst lk l =>
      cases lk with
      | true => exact g.elim
      | false =>
        obtain ⟨vs, e, r, hz⟩ := ro
        exact ⟨a, vs, l, rfl, e, r, hz, g.ok rs⟩
theorem du_e (h : DE X W k E e d) : DU X W k E e (fun ρ => bnd (d ρ) lstU) := ⟨fun o => pe_imp (h.run o) fun σ H Q t => by
  obtain ⟨ι, ρ, st, re, rs, g⟩ := t
  refine ⟨ι, ρ, st, re, rs, Good.imp (Good.bind g) fun q st1 ι1 H1 m1 r1 g1 x hx => ?_⟩
  obtain ⟨a, vs, l, rfl, he, r, hz, g2⟩ := lu_of r1 hx g1
  exact g2 a vs he r hz⟩
theorem dl_catL (ha : DL X W k E a dl) (hb : DU X W k E b dm) : DL X W k E (.BinOp a .Add b pos) (fun ρ => bnd (dl ρ) fun l => bnd (dm ρ) fun m => capM (l ++ m)) := ⟨fun o => pe_imp (pe_op op_cat (ha.run o) (hb.run o)) fun σ H Q t => by
  obtain ⟨ι, ρ, st, re, rs, g⟩ := t
  refine ⟨ι, ρ, st, re, rs, Good.imp (Good.bind g) fun l st1 ι1 H1 m1 r1 g1 p vs hp0 hn he rr hz => ?_⟩
  refine ⟨ι1, ρ, st1, re.mono rs m1, r1, Good.imp (Good.bind g1) fun l2 st2 ι2 H2 m2 r2 g2 p2 vs2 he2 rr2 hz2 => ?_⟩
  obtain ⟨hc, g3⟩ := good_if g2
  rw [List.length_append] at hc
  refine ⟨p, p2, vs, vs2, rfl, rfl, lst_mono m2 hn he, he2, line_le (by rw [rr.length, rr2.length]; exact hc), fun np hnp => ?_⟩
  exact good_newlst g3 r2 ((rvs_mono r1 m2 _ _ rr).append rr2) (by rw [List.length_append]; exact hc) hnp (none_back rs (m1.trans m2) r2.some_ hnp)⟩
theorem dl_catE (ha : DE X W k E a da) (hb : DU X W k E b dm) : DL X W k E (.BinOp a .Add b pos) (fun ρ => bnd (da ρ) fun q => bnd (dm ρ) fun m => bnd (lstU q) fun l => capM (l ++ m)) := ⟨fun o => pe_imp (pe_op op_cat (ha.run o) (hb.run o)) fun σ H Q t => by
  obtain ⟨ι, ρ, st, re, rs, g⟩ := t
  refine ⟨ι, ρ, st, re, rs, Good.imp (Good.bind g) fun q st1 ι1 H1 m1 r1 g1 x hx => ?_⟩
  refine ⟨ι1, ρ, st1, re.mono rs m1, r1, Good.imp (Good.bind g1) fun l2 st2 ι2 H2 m2 r2 g2 p2 vs2 he2 rr2 hz2 => ?_⟩
  obtain ⟨p, vs, l, rfl, he, rr, hz, g2'⟩ := lu_of r2 (rv_mono r1 m2 q x hx) (Good.bind g2)
  obtain ⟨hc, g3⟩ := good_if g2'
  rw [List.length_append] at hc
  refine ⟨p, p2, vs, vs2, rfl, rfl, he, he2, line_le (by rw [rr.length, rr2.length]; exact hc), fun np hnp => ?_⟩
  exact good_newlst g3 r2 (rr.append rr2) (by rw [List.length_append]; exact hc) hnp (none_back rs (m1.trans m2) r2.some_ hnp)⟩
end
end PD
/-! PD: further rules. -/
namespace PD
open PySem PySem.Spec PyProof.Rows L2
section
variable {X : Cx} {W : Wd} {k : Nat} {E : XK} {a b c e o : Expr} {es ifs : List Expr} {pos p p2 : Pos} {da db dc d : Env → Mo PV} {dt du : Env → Mo Bool} {dl dm : Env → Mo (List PV)}
theorem ds_par2 {i j : Nat} {x y : Str} {px py pt pt2 : Pos} {kt k2 : Nat} (hij : i ≠ j) (ha : DA X W k E [a, b] dl) (hi : X.N[i]? = some x := by rfl) (hj : X.N[j]? = some y := by rfl) (hx : X.env.scope.names.lookup x = some .local := by rfl) (hy : X.env.scope.names.lookup y = some .local := by rfl)
    (hw : swappedStores [.Tuple [.Name x px, .Name y py] kt pt] (.Tuple [a, b] k2 pt2) X.env = pure (some [x, y]) := by rfl)
    (hs : swapsWithSole [.Tuple [.Name x px, .Name y py] kt pt] (.Tuple [a, b] k2 pt2) pos.line X.env = pure false := by rfl) : DS X W k E (.Assign [.Tuple [.Name x px, .Name y py] kt pt] (.Tuple [a, b] k2 pt2) pos) (dPar i j dl) :=
  ds_par hij ha hi hj hx hy fun o => ps_par o.hc o.nd hi hj hij hx hy (ha.run o) hw hs
theorem dt_in (ha : DE X W k E a da) (hb : DE X W k E b db) (hm : behindInMarks .In b = false := by rfl) : DT X W k E (.Compare a [.In] [b] pos) (dB (dBin (fun p q => bnd (sqM q) (inQ false p)) da db)) :=
  dt_cmp (r := rInP W.K false) (fun o => by rw [← o.hK]; exact op_inP (by have := o.room.un; omega)) (fun ι st H x y p q Q rs hx hy g => by
    have g0 := Good.bind g
    unfold sqM at g0
    cases z : seqOf st q with
    | none => rw [z] at g0; exact g0.elim
    | some l =>
      rw [z] at g0
      obtain ⟨vs, h1, h2, h3⟩ := seq_sq rs hy z
      exact in_of rs hx h1 h2 (g0.ok rs)) ha hb hm
theorem dt_notin (ha : DE X W k E a da) (hb : DE X W k E b db) (hm : behindInMarks .NotIn b = false := by rfl) : DT X W k E (.Compare a [.NotIn] [b] pos) (dB (dBin (fun p q => bnd (sqM q) (inQ true p)) da db)) :=
  dt_cmp (r := rInP W.K true) (fun o => by rw [← o.hK]; exact op_notInP (by have := o.room.un; omega)) (fun ι st H x y p q Q rs hx hy g => by
    have g0 := Good.bind g
    unfold sqM at g0
    cases z : seqOf st q with
    | none => rw [z] at g0; exact g0.elim
    | some l =>
      rw [z] at g0
      obtain ⟨vs, h1, h2, h3⟩ := seq_sq rs hy z
      exact in_of rs hx h1 h2 (g0.ok rs)) ha hb hm
/-! ### tuple(range(..)) -/
def tupR : List PV → Mo PV
  | [.int j] => fun st => if j ≤ 16777216 ∧ -16777216 ≤ j then .ok (.tup (rgP 0 j.toNat)) st else .stuck
  | _ => fail
theorem rvs_rg {ι : List Addr} {H : Hp} {n : Nat} : RVs W ι H (rgV 0 n) (rgP 0 n) := by
  unfold rgV rgP
  have e : ((n : Int) - 0).toNat = n := by omega
  rw [e]
  generalize List.range n = l
  induction l with
  | nil => exact .nil
  | cons a l ih => exact .cons (.int _) ih
theorem da_one (h : DA X W k E [a] dl) : True := True.intro
theorem de_tupR {p3 pos3 : Pos} (h : DE X W k E a da) (hg : Gl X "tuple") (hm : W.mg "tuple" = none) (hm2 : W.mg "range" = none) (hg2 : Gl X "range" := by rfl) (hs : starEach [a] X.env = (false, eval a X.env) :: starEach [] X.env := by rfl)
    (hs2 : starEach [.Call (.Name "range" p3) [a] [] pos3] X.env = (false, eval (.Call (.Name "range" p3) [a] [] pos3) X.env) :: starEach [] X.env := by rfl) :
    DE X W k E (.Call (.Name "tuple" p) [.Call (.Name "range" p3) [a] [] pos3] [] pos) (fun ρ => bnd (da ρ) fun q => tupR [q]) := ⟨fun o => pe_imp (pe_tupRg o.hc hg (by rw [o.hM]; exact hm) (prg_1 hg2 (by rw [o.hM]; exact hm2) (h.run o) hs) hs2) fun σ H Q t => by
  obtain ⟨ι, ρ, st, re, rs, g⟩ := t
  refine ⟨ι, ρ, st, re, rs, Good.imp (Good.bind g) fun q st1 ι1 H1 m1 r1 g1 v hv => ?_⟩
  cases hv <;> try exact g1.elim
  rename_i j
  obtain ⟨hc, g2⟩ := good_if g1
  refine ⟨j, rfl, ⟨by omega, by omega, by omega, by omega, by omega⟩, fun np hnp => ?_⟩
  have e : rgV 0 j = rgV 0 (j.toNat : Int) := by
    unfold rgV
    have : (j - 0).toNat = ((j.toNat : Int) - 0).toNat := by omega
    rw [this]
  rw [e]
  exact good_newtup g2 r1 rvs_rg (by unfold rgP; rw [List.length_map, List.length_range]; omega) hnp⟩
/-! ### chains as tests -/
theorem chain_of {r r' : R2} {f f' : PV → PV → Mo PV} {σ : L2.St} {H : Hp} {Q : VK} (hf : FOk W E r f) (hf' : FOk W E r' f') (t : tD W E (dChain f f' da db dc) σ H Q) : tChain r r' (tD W E da) (tD W E db) (tD W E dc) σ H Q := by
  obtain ⟨ι, ρ, st, re, rs, g⟩ := t
  refine ⟨ι, ρ, st, re, rs, Good.imp (Good.bind g) fun p st1 ι1 H1 m1 r1 g1 v1 hv1 => ?_⟩
  refine ⟨ι1, ρ, st1, re.mono rs m1, r1, Good.imp (Good.bind g1) fun q st2 ι2 H2 m2 r2 g2 v2 hv2 => ?_⟩
  refine hf ι2 st2 H2 v1 v2 p q _ r2 (rv_mono r1 m2 p v1 hv1) hv2 (Good.imp (Good.bind g2) fun z st3 ι3 H3 m3 r3 g3 v3 hv3 => ?_)
  obtain ⟨b, rfl, rfl, g4⟩ := bl_of r3 hv3 (Good.bind g3)
  refine ⟨b, rfl, ?_⟩
  cases b with
  | false => exact g4.ok r3 _ (.bl false)
  | true =>
    refine ⟨ι3, ρ, st3, ((re.mono rs m1).mono r1 m2).mono r2 m3, r3, Good.imp (Good.bind g4) fun w st4 ι4 H4 m4 r4 g5 v4 hv4 => ?_⟩
    exact hf' ι4 st4 H4 v2 v4 q w Q r4 (rv_mono r3 m4 q v2 (rv_mono r2 m3 q v2 hv2)) hv4 g5
theorem b_of {σ : L2.St} {H : Hp} {Q : Bool → Hp → Prop} (t : tDT W E (dB d) σ H Q) : tTest (tD W E d) σ H Q := by
  obtain ⟨ι, ρ, st, re, rs, g⟩ := t
  refine ⟨ι, ρ, st, re, rs, Good.imp (Good.bind g) fun q st1 ι1 H1 m1 r1 g1 v hv => ?_⟩
  obtain ⟨b, rfl, rfl, g2⟩ := bl_of r1 hv g1
  exact ⟨b, rfl, g2⟩
theorem dt_chain {op op' : CmpOp} {r r' : R2} {f f' : PV → PV → Mo PV} (ho : On X W k E → OpR X (compareOp op) r) (hf : FOk W E r f) (ho' : On X W k E → OpR X (compareOp op') r') (hf' : FOk W E r' f') (ha : DE X W k E a da) (hb : DE X W k E b db) (hc : DE X W k E c dc)
    (hm : lastMarks [op, op'] [b, c] = false := by with_unfolding_all rfl) : DT X W k E (.Compare a [op, op'] [b, c] pos) (dB (dChain f f' da db dc)) := ⟨fun o => pt_imp (pt_chain (ho o) (ho' o) (ha.run o) (hb.run o) (hc.run o) hm) fun _ _ _ t => chain_of hf hf' (b_of t)⟩
theorem dt_leLe (ha : DE X W k E a da) (hb : DE X W k E b db) (hc : DE X W k E c dc) (hm : lastMarks [.LtE, .LtE] [b, c] = false := by with_unfolding_all rfl) : DT X W k E (.Compare a [.LtE, .LtE] [b, c] pos) (dB (dChain oLe oLe da db dc)) := dt_chain (fun _ => op_le) (fok_I fun _ _ _ _ => .bl _) (fun _ => op_le) (fok_I fun _ _ _ _ => .bl _) ha hb hc hm
theorem dt_leLt (ha : DE X W k E a da) (hb : DE X W k E b db) (hc : DE X W k E c dc) (hm : lastMarks [.LtE, .Lt] [b, c] = false := by with_unfolding_all rfl) : DT X W k E (.Compare a [.LtE, .Lt] [b, c] pos) (dB (dChain oLe oLt da db dc)) := dt_chain (fun _ => op_le) (fok_I fun _ _ _ _ => .bl _) (fun _ => op_lt) (fok_I fun _ _ _ _ => .bl _) ha hb hc hm
/-! ### the greatest of a tuple of ints -/
def rMaxT (K : PySem.W.Frag) : List V → Hp → VK → Prop := fun vs H Q => ∃ (a : Addr) (n : Int) (ns : List Int), vs = [V.ref a] ∧ SqT K H a ((n :: ns).map V.int) ∧ Q (.int (ns.foldl max n)) H
theorem ints_alike (l : List Int) : PySem.W.AlikeAll (l.map PyData.int) := by
  refine ⟨fun x hx y hy => ?_, fun x hx => ?_⟩
  · obtain ⟨i, _, rfl⟩ := List.mem_map.mp hx
    obtain ⟨j, _, rfl⟩ := List.mem_map.mp hy
    rfl
  · obtain ⟨i, _, rfl⟩ := List.mem_map.mp hx
    exact fun z => (by cases z)
theorem ints_depth : ∀ l : List Int, PyData.depthAll (l.map PyData.int) ≤ 1
  | [] => by simp [PyData.depthAll]
  | i :: l => by
    have := ints_depth l
    simp only [List.map_cons, PyData.depthAll, PyData.depth]
    omega
theorem ints_dps {K : PySem.W.Frag} {H : Hp} : ∀ l : List Int, DpAll K H (l.map V.int) (l.map PyData.int)
  | [] => .nil
  | i :: l => .cons (.int i) (ints_dps l)
theorem call_maxT {X : Cx} (hc : X.calm = true) (hu : X.A.units + 64 < cLine) : CallR X (.builtin "max") (rMaxT X.K) := by
  intro pins s σ H xs us Q I r h
  obtain ⟨a, n, ns, rfl, hT, q⟩ := h
  cases r with
  | cons r1 rr =>
    cases rr
    cases r1
    obtain ⟨as, rd⟩ := Dp.reads I (.tuple ((n :: ns).map PyData.int)) (.ref a) (.ref a) (.tup hT (ints_dps _)) rfl
    cases rd with
    | tuple h1 h2 h3 h4 =>
      rename_i ob vs nn
      refine PySem.W.max_tuple_data (l := a) (vs := vs) (x := .int n) (xs := ns.map PyData.int) (I.ok.hd hc) ⟨ob, h1, h2, _, h3⟩ h4 (ints_alike (n :: ns)) ?_ fun i v h' tk bs hv hr hk => ?_
      · have := ints_depth (n :: ns)
        have e : PyData.depthAll (PyData.int n :: ns.map PyData.int) ≤ 1 := this
        omega
      · rw [PySem.W.maxD_ints] at hr
        cases hr with
        | int i t => exact ⟨.int _, H, I.kept hk, ⟨_, rfl⟩, q⟩
def maxS (q : PV) : Mo PV := fun st => match q with
  | .tup l => (bnd (intsM l) fun bs => fun st => if 0 < bs.length then .ok (.int (maxI bs)) st else .stuck) st
  | _ => .stuck
theorem foldl_max_mem : ∀ (ns : List Int) (n : Int), ns.foldl max n ∈ n :: ns ∧ ∀ y ∈ n :: ns, y ≤ ns.foldl max n
  | [], n => ⟨List.mem_cons_self .., fun y hy => by rw [List.mem_singleton] at hy; rw [hy]; exact Int.le_refl _⟩
  | m :: ns, n => by
    obtain ⟨h1, h2⟩ := foldl_max_mem ns (max n m)
    rw [List.foldl_cons]
    refine ⟨?_, fun y hy => ?_⟩
    · rcases List.mem_cons.mp h1 with z | z
      · rw [z]
        rcases Int.le_total n m with q | q
        · rw [Int.max_eq_right q]; simp
        · rw [Int.max_eq_left q]; simp
      · exact List.mem_cons_of_mem _ (List.mem_cons_of_mem _ z)
    · have h3 := h2 (max n m) (List.mem_cons_self ..)
      rcases List.mem_cons.mp hy with z | z
      · rw [z]; exact Int.le_trans (Int.le_max_left ..) h3
      · rcases List.mem_cons.mp z with z | z
        · rw [z]; exact Int.le_trans (Int.le_max_right ..) h3
        · exact h2 y (List.mem_cons_of_mem _ z)
theorem de_maxS (h : DE X W k E a d) (hg : Gl X "max") (hm : W.mg "max" = none) (hs : starEach [a] X.env = (false, eval a X.env) :: starEach [] X.env := by rfl) : DE X W k E (.Call (.Name "max" p) [a] [] pos) (fun ρ => bnd (d ρ) maxS) :=
  ⟨fun o => pe_imp (pe_callB (call_maxT o.hc (by have := o.room.un; omega)) hg (by rw [o.hM]; exact hm) boot_max_ (pa_cons (h.run o) pa_nil hs) (by decide) (by decide) hs (by rfl)) fun σ H Q t => by
    obtain ⟨ι, ρ, st, re, rs, g⟩ := t
    refine ⟨ι, ρ, st, re, rs, Good.imp (Good.bind g) fun q st1 ι1 H1 m1 r1 g1 v hv => ?_⟩
    cases hv <;> try exact g1.elim
    rename_i a vs l sq rr hz
    obtain ⟨bs, rfl, g2⟩ := ints_of r1 rr (Good.bind g1)
    obtain ⟨hc, g3⟩ := good_if g2
    cases bs with
    | nil => exact absurd hc (by decide)
    | cons n ns =>
      refine ⟨a, n, ns, rfl, by rw [o.hK]; exact sq, ?_⟩
      obtain ⟨h1, h2⟩ := foldl_max_mem ns n
      rw [maxI_spec h1 h2]
      exact g3.ok r1 _ (.int _)⟩
/-! ### the greater and the less of two data -/
theorem max_two_data {prog : Program} {w : World} {A : Around} {s : Shared} {E : Value → Shared → Prop} {x y : Value} {dx dy : PyData} {as bs : List Addr} {Q : Value → Shared → Prop} (hh : A.handled = none) (hx : Reads s.heap x dx as) (hy : Reads s.heap y dy bs) (ha : PySem.W.AlikeAll [dx, dy]) (hu : A.units + 2 + PyData.depthAll [dx, dy] < cLine)
    (h : ∀ h' tk, (∀ b o, s.heap.get? b = some o → h'.get? b = some o) → Q (if PySem.W.dataLt dx dy then y else x) { s with heap := h', toks := tk }) : wpAny (model prog w) A (call (.builtin "max") [x, y]) Q E s := by
  have hname : (toString "max" ++ toString ".loop" : String) = "max.loop" := by decide
  refine call_function_tree F.kind_max F.plain_max F.entry_max (F.args_max2 _ _) ?_
  show wpAny _ A.in1 (Builtin.Builtins.bindParams "max" ["key", "default"] 0 ⟨[], []⟩ >>= _) _ _ s
  refine wpAny_bind (wpAny_of_eq (show Builtin.Builtins.bindParams "max" ["key", "default"] 0 ⟨[], []⟩ = pure [none, none] from rfl) ?_)
  show wpAny _ A.in1 (newTuple [x, y] >>= _) _ _ s
  refine wpAny_bind (wpAny_newObj_type ?_)
  have hT : (s.heap.push { cls := .type "tuple", data := .seq #[x, y] }).IsTuple s.heap.objs.size #[x, y] := ⟨_, Heap.get?_push_size _ rfl, rfl, 0, rfl⟩
  have kp : ∀ b o, s.heap.get? b = some o → (s.heap.push { cls := .type "tuple", data := .seq #[x, y] }).get? b = some o := fun b o e => Heap.get?_push_of_some _ e
  have hr : ReadsAll (s.heap.push { cls := .type "tuple", data := .seq #[x, y] }) (#[x, y] : Array Value).toList [dx, dy] (as ++ (bs ++ [])) := .cons (Reads.keeps kp hx) (.cons (Reads.keeps kp hy) .nil)
  refine wpAny_bind (PySem.W.iter_tupleW (A := A.in1) (s := { s with heap := s.heap.push { cls := .type "tuple", data := .seq #[x, y] } }) hh hT fun s₂ e W st hfp hw hk => ?_)
  refine wpAny_bind (wpAny_newObj_type ?_)
  have hSf : s₂.heap.objs.size ∉ [(s.heap.push { cls := .type "tuple", data := .seq #[x, y] }).objs.size, s.heap.objs.size] := fun hm => Nat.lt_irrefl _ (hfp _ hm)
  rw [hname]
  have hcmp := PySem.W.cmpIn_gt (prog := prog) (w := w) (A := A.in1) (s := { s with heap := s.heap.push { cls := .type "tuple", data := .seq #[x, y] } }) hr ha (by show A.units + 1 + _ < _; omega)
  refine wpAny_pure ⟨plainId_quiet F.plain_max_loop _, codeAny_max_loop_firstH W (s.heap.push { cls := .type "tuple", data := .seq #[x, y] }) hw _ hcmp s₂.heap.objs.size hSf (fresh_in hk) _ (Nat.succ_pos 1) (fun b o e => Heap.get?_push_of_some _ (hk b o e)) (W.frame 0 s₂ _ s₂.toks st (Nat.le_refl _) fun b _ o e => Heap.get?_push_of_some _ e) (Heap.get?_push_size _ rfl) fun v s' hP hm => ?_⟩
  obtain ⟨h', tk, rfl, hk'⟩ := PySem.W.moved_old e rfl (Moved.drop_new (tk := s₂.toks) hm (Nat.le_refl _))
  have q := h h' tk fun b o z => hk' b o (kp b o z)
  have hP : (#[x, y] : Array Value)[argBest (fun i j => PySem.W.dataLt ([dx, dy].getD j .none) ([dx, dy].getD i .none)) 1]? = some v := hP
  unfold argBest at hP
  have e2 : PySem.W.dataLt ([dx, dy].getD (argBest (fun i j => PySem.W.dataLt ([dx, dy].getD j .none) ([dx, dy].getD i .none)) 0) .none) ([dx, dy].getD (0 + 1) .none) = PySem.W.dataLt dx dy := rfl
  simp only [e2] at hP
  cases z : PySem.W.dataLt dx dy with
  | true =>
    rw [z] at hP q
    have : v = y := by simpa using hP.symm
    subst this
    exact q
  | false =>
    rw [z] at hP q
    have : v = x := by simpa [argBest] using hP.symm
    subst this
    exact q
theorem min_two_data {prog : Program} {w : World} {A : Around} {s : Shared} {E : Value → Shared → Prop} {x y : Value} {dx dy : PyData} {as bs : List Addr} {Q : Value → Shared → Prop} (hh : A.handled = none) (hx : Reads s.heap x dx as) (hy : Reads s.heap y dy bs) (ha : PySem.W.AlikeAll [dx, dy]) (hu : A.units + 2 + PyData.depthAll [dx, dy] < cLine)
    (h : ∀ h' tk, (∀ b o, s.heap.get? b = some o → h'.get? b = some o) → Q (if PySem.W.dataLt dy dx then y else x) { s with heap := h', toks := tk }) : wpAny (model prog w) A (call (.builtin "min") [x, y]) Q E s := by
  have hname : (toString "min" ++ toString ".loop" : String) = "min.loop" := by decide
  refine call_function_tree F.kind_min F.plain_min F.entry_min (F.args_min2 _ _) ?_
  show wpAny _ A.in1 (Builtin.Builtins.bindParams "min" ["key", "default"] 0 ⟨[], []⟩ >>= _) _ _ s
  refine wpAny_bind (wpAny_of_eq (show Builtin.Builtins.bindParams "min" ["key", "default"] 0 ⟨[], []⟩ = pure [none, none] from rfl) ?_)
  show wpAny _ A.in1 (newTuple [x, y] >>= _) _ _ s
  refine wpAny_bind (wpAny_newObj_type ?_)
  have hT : (s.heap.push { cls := .type "tuple", data := .seq #[x, y] }).IsTuple s.heap.objs.size #[x, y] := ⟨_, Heap.get?_push_size _ rfl, rfl, 0, rfl⟩
  have kp : ∀ b o, s.heap.get? b = some o → (s.heap.push { cls := .type "tuple", data := .seq #[x, y] }).get? b = some o := fun b o e => Heap.get?_push_of_some _ e
  have hr : ReadsAll (s.heap.push { cls := .type "tuple", data := .seq #[x, y] }) (#[x, y] : Array Value).toList [dx, dy] (as ++ (bs ++ [])) := .cons (Reads.keeps kp hx) (.cons (Reads.keeps kp hy) .nil)
  refine wpAny_bind (PySem.W.iter_tupleW (A := A.in1) (s := { s with heap := s.heap.push { cls := .type "tuple", data := .seq #[x, y] } }) hh hT fun s₂ e W st hfp hw hk => ?_)
  refine wpAny_bind (wpAny_newObj_type ?_)
  have hSf : s₂.heap.objs.size ∉ [(s.heap.push { cls := .type "tuple", data := .seq #[x, y] }).objs.size, s.heap.objs.size] := fun hm => Nat.lt_irrefl _ (hfp _ hm)
  rw [hname]
  have hcmp := PySem.W.cmpIn_lt (prog := prog) (w := w) (A := A.in1) (s := { s with heap := s.heap.push { cls := .type "tuple", data := .seq #[x, y] } }) hr ha (by show A.units + 1 + _ < _; omega)
  refine wpAny_pure ⟨plainId_quiet F.plain_min_loop _, codeAny_min_loop_firstH W (s.heap.push { cls := .type "tuple", data := .seq #[x, y] }) hw _ hcmp s₂.heap.objs.size hSf (fresh_in hk) _ (Nat.succ_pos 1) (fun b o e => Heap.get?_push_of_some _ (hk b o e)) (W.frame 0 s₂ _ s₂.toks st (Nat.le_refl _) fun b _ o e => Heap.get?_push_of_some _ e) (Heap.get?_push_size _ rfl) fun v s' hP hm => ?_⟩
  obtain ⟨h', tk, rfl, hk'⟩ := PySem.W.moved_old e rfl (Moved.drop_new (tk := s₂.toks) hm (Nat.le_refl _))
  have q := h h' tk fun b o z => hk' b o (kp b o z)
  have hP : (#[x, y] : Array Value)[argBest (fun i j => PySem.W.dataLt ([dx, dy].getD i .none) ([dx, dy].getD j .none)) 1]? = some v := hP
  unfold argBest at hP
  have e2 : PySem.W.dataLt ([dx, dy].getD (0 + 1) .none) ([dx, dy].getD (argBest (fun i j => PySem.W.dataLt ([dx, dy].getD i .none) ([dx, dy].getD j .none)) 0) .none) = PySem.W.dataLt dy dx := rfl
  simp only [e2] at hP
  cases z : PySem.W.dataLt dy dx with
  | true =>
    rw [z] at hP q
    have : v = y := by simpa using hP.symm
    subst this
    exact q
  | false =>
    rw [z] at hP q
    have : v = x := by simpa [argBest] using hP.symm
    subst this
    exact q
def nnon : PV → Bool
  | .non => false
  | _ => true
/-- alike data, both for themselves and together -/
def alk (p q : PV) : Bool := okd 60 p && okd 60 q && PySem.W.alike (toD p) (toD p) && PySem.W.alike (toD p) (toD q) && PySem.W.alike (toD q) (toD p) && PySem.W.alike (toD q) (toD q) && nnon p && nnon q
def pvLt (p q : PV) : Bool := PySem.W.dataLt (toD p) (toD q)
theorem toD_none {p : PV} (h : okd 60 p = true) (hn : nnon p = true) : toD p ≠ .none := by
  cases p with
  | non => cases hn
  | loc i => rw [okd_loc] at h; cases h
  | fn j => rw [okd_fn] at h; cases h
  | kl l => rw [okd_kl] at h; cases h
  | bl b => exact fun z => (by cases z)
  | int i => exact fun z => (by cases z)
  | str i => exact fun z => (by cases z)
  | tup l => exact fun z => (by cases z)
theorem alk_all {p q : PV} (h : alk p q = true) : okd 60 p = true ∧ okd 60 q = true ∧ PySem.W.AlikeAll [toD p, toD q] ∧ PyData.depthAll [toD p, toD q] ≤ 60 := by
  unfold alk at h
  simp only [Bool.and_eq_true] at h
  obtain ⟨⟨⟨⟨⟨⟨⟨h1, h2⟩, h3⟩, h4⟩, h5⟩, h6⟩, h7⟩, h8⟩ := h
  have d1 := (okd_plain 60 p h1).2
  have d2 := (okd_plain 60 q h2).2
  refine ⟨h1, h2, ⟨fun x hx y hy => ?_, fun x hx => ?_⟩, by simp only [PyData.depthAll]; omega⟩
  · simp only [List.mem_cons, List.not_mem_nil, or_false] at hx hy
    rcases hx with rfl | rfl <;> rcases hy with rfl | rfl <;> assumption
  · simp only [List.mem_cons, List.not_mem_nil, or_false] at hx
    rcases hx with rfl | rfl
    · exact toD_none h1 h7
    · exact toD_none h2 h8
def oMaxD (p q : PV) : Mo PV := fun st => if alk p q = true then .ok (if pvLt p q then q else p) st else .stuck
def oMinD (p q : PV) : Mo PV := fun st => if alk p q = true then .ok (if pvLt q p then q else p) st else .stuck
def rMM (K : PySem.W.Frag) (mx : Bool) : List V → Hp → VK → Prop := fun vs H Q => ∃ x y dx dy, vs = [x, y] ∧ Dp K H x dx ∧ Dp K H y dy ∧ PySem.W.AlikeAll [dx, dy] ∧ PyData.depthAll [dx, dy] ≤ 60 ∧ Q (if (if mx then PySem.W.dataLt dx dy else PySem.W.dataLt dy dx) then y else x) H
theorem call_max2D {X : Cx} (hc : X.calm = true) (hu : X.A.units + 64 < cLine) : CallR X (.builtin "max") (rMM X.K true) := by
  intro pins s σ H xs us Q I r h
  obtain ⟨x, y, dx, dy, rfl, h1, h2, ha, hd, q⟩ := h
  obtain ⟨u, w', rfl, r1, r2⟩ := vals2 r
  obtain ⟨as, d1⟩ := Dp.reads I dx x u h1 r1
  obtain ⟨bs, d2⟩ := Dp.reads I dy y w' h2 r2
  refine max_two_data (I.ok.hd hc) d1 d2 ha (by omega) fun h' tk k => ⟨_, H, I.kept k, ?_, q⟩
  rw [if_pos (rfl : (true = true))]
  cases PySem.W.dataLt dx dy with
  | true => exact r2
  | false => exact r1
theorem call_min2D {X : Cx} (hc : X.calm = true) (hu : X.A.units + 64 < cLine) : CallR X (.builtin "min") (rMM X.K false) := by
  intro pins s σ H xs us Q I r h
  obtain ⟨x, y, dx, dy, rfl, h1, h2, ha, hd, q⟩ := h
  obtain ⟨u, w', rfl, r1, r2⟩ := vals2 r
  obtain ⟨as, d1⟩ := Dp.reads I dx x u h1 r1
  obtain ⟨bs, d2⟩ := Dp.reads I dy y w' h2 r2
  refine min_two_data (I.ok.hd hc) d1 d2 ha (by omega) fun h' tk k => ⟨_, H, I.kept k, ?_, q⟩
  rw [if_neg (Bool.false_ne_true)]
  cases PySem.W.dataLt dy dx with
  | true => exact r2
  | false => exact r1
theorem mm_of {mx : Bool} {σ : L2.St} {H : Hp} {Q : VK} (t : tD W E (dBin (if mx then oMaxD else oMinD) da db) σ H Q) : tCB (rMM W.K mx) (tCons (tD W E da) (tCons (tD W E db) tNil)) σ H Q := by
  obtain ⟨ι, ρ, st, re, rs, g⟩ := t
  refine ⟨ι, ρ, st, re, rs, Good.imp (Good.bind g) fun p st1 ι1 H1 m1 r1 g1 v1 hv1 => ?_⟩
  refine ⟨ι1, ρ, st1, re.mono rs m1, r1, Good.imp (Good.bind g1) fun q st2 ι2 H2 m2 r2 g2 v2 hv2 => ?_⟩
  have hv1 := rv_mono r1 m2 p v1 hv1
  cases mx with
  | true =>
    obtain ⟨hc, g3⟩ := good_if g2
    obtain ⟨k1, k2, k3, k4⟩ := alk_all hc
    refine ⟨v1, v2, toD p, toD q, rfl, dp_of 60 p v1 k1 hv1, dp_of 60 q v2 k2 hv2, k3, k4, g3.ok r2 _ ?_⟩
    show RV W ι2 H2 (if pvLt p q = true then v2 else v1) _
    cases pvLt p q with
    | true => exact hv2
    | false => exact hv1
  | false =>
    obtain ⟨hc, g3⟩ := good_if g2
    obtain ⟨k1, k2, k3, k4⟩ := alk_all hc
    refine ⟨v1, v2, toD p, toD q, rfl, dp_of 60 p v1 k1 hv1, dp_of 60 q v2 k2 hv2, k3, k4, g3.ok r2 _ ?_⟩
    show RV W ι2 H2 (if pvLt q p = true then v2 else v1) _
    cases pvLt q p with
    | true => exact hv2
    | false => exact hv1
theorem de_max2D (ha : DE X W k E a da) (hb : DE X W k E b db) (hg : Gl X "max") (hm : W.mg "max" = none) (hs : starEach [a, b] X.env = (false, eval a X.env) :: starEach [b] X.env := by rfl) (hs2 : starEach [b] X.env = (false, eval b X.env) :: starEach [] X.env := by rfl) (hpl : (backTo pos (starEach [b] X.env)).any (·.1) = false := by rfl) :
    DE X W k E (.Call (.Name "max" p) [a, b] [] pos) (dBin oMaxD da db) :=
  ⟨fun o => pe_imp (pe_callB (call_max2D o.hc (by have := o.room.un; omega)) hg (by rw [o.hM]; exact hm) boot_max_ (pa_cons (ha.run o) (pa_cons (hb.run o) pa_nil hs2) hs) (by decide) (by decide) hs hpl) fun σ H Q t => by
    rw [o.hK]
    exact mm_of (mx := true) t⟩
theorem de_min2D (ha : DE X W k E a da) (hb : DE X W k E b db) (hg : Gl X "min") (hm : W.mg "min" = none) (hs : starEach [a, b] X.env = (false, eval a X.env) :: starEach [b] X.env := by rfl) (hs2 : starEach [b] X.env = (false, eval b X.env) :: starEach [] X.env := by rfl) (hpl : (backTo pos (starEach [b] X.env)).any (·.1) = false := by rfl) :
    DE X W k E (.Call (.Name "min" p) [a, b] [] pos) (dBin oMinD da db) :=
  ⟨fun o => pe_imp (pe_callB (call_min2D o.hc (by have := o.room.un; omega)) hg (by rw [o.hM]; exact hm) boot_min_ (pa_cons (ha.run o) (pa_cons (hb.run o) pa_nil hs2) hs) (by decide) (by decide) hs hpl) fun σ H Q t => by
    rw [o.hK]
    exact mm_of (mx := false) t⟩
end
end PD
/-! PD: sorted(range(n), key=lambda i: t[i]). -/
namespace PD
open PySem PySem.Spec PyProof.Rows L2
section
variable {prog : Program} {w : World} {A : Around} {s : Shared} {E : Value → Shared → Prop}
theorem each_range : ∀ (l : List Value) (n0 : Nat), (∀ (i : Nat) v, l[i]? = some v → ∃ t, v = Value.int ((n0 + i : Nat) : Int) t) → PySem.W.EachIs (fun v (i : Nat) => ∃ t, v = Value.int i t) l (List.range' n0 l.length)
  | [], _, _ => .nil
  | v :: l, n0, h => by
    rw [List.length_cons, List.range'_succ]
    refine .cons (h 0 v rfl) (each_range l (n0 + 1) fun i u hu => ?_)
    obtain ⟨t, e⟩ := h (i + 1) u hu
    exact ⟨t, by rw [e]; congr 2; omega⟩
/-- sorted(range(j), key=f) -/
theorem sorted_range {r f : Addr} {j : Nat} {t u v : Tok} {Q : Value → Shared → Prop} (hh : A.handled = none) (hr : IsRange s.heap r 0 (j : Int) 1 t u v) (hj : j ≤ 16777216) (k : Nat → PyData) (hal : PySem.W.AllAlike ((List.range j).map k)) (hk : PySem.W.Sortable ((List.range j).map k))
    (hu : ∀ x, x ∈ List.range j → A.units + 2 + (k x).depth < cLine)
    (turn : ∀ (i : Nat) (tk0 : Tok), i < j → ∀ (h : Heap) (tk : Nat), (∀ b o, s.heap.get? b = some o → h.get? b = some o) →
      wpAny (model prog w) A.in1.in1 (call (.ref f) [.int i tk0]) (PySem.W.KeyPure (k i) { s with heap := h, toks := tk }) (fun _ _ => False) { s with heap := h, toks := tk })
    (h : ∀ (h1 : Heap) out c h' tk, (∀ b o, s.heap.get? b = some o → h1.get? b = some o) → (∀ b o, h1.get? b = some o → h'.get? b = some o) → h'.get? h1.objs.size = some (seqObj "list" (List.toArray out) c) → out.length = j → PySem.W.EachIs (fun v (i : Nat) => ∃ t, v = Value.int i t) out ((List.range j).mergeSort (PySem.W.dataLe false k)) →
      Q (.ref h1.objs.size) { s with heap := h', toks := tk }) :
    wpAny (model prog w) A (call (.builtin "sorted") [.ref r] [(Str.ofString "key", .ref f)]) Q E s := by
  refine call_function_entry_kw kind_sorted plain_sorted entry_sorted (PyProof.Rows.ksk_s1 _ _) ?_
  unfold Builtin.«sorted»
  refine wpAny_bind (m := checkCount "sorted" 1 1 _) (wpAny_pure ?_)
  refine wpAny_bind (collect_range (n := j) hh hr (small_one (by decide) (by decide) (by omega) (by omega)) (by rw [rangeSize_one]; split <;> omega) (by omega) fun h1 tk1 acc hk1 hacc => ?_)
  have hlen : acc.toList.length = j := by rw [Array.length_toList]; exact hacc.1
  refine wpAny_bind (wpAny_newList ?_ (by rw [hlen, sizeLine_eq]; exact hj))
  have hat : (h1.push { cls := .type "list", data := .seq acc.toList.toArray }).get? h1.objs.size = some (seqObj "list" acc.toList.toArray 0) := Heap.get?_push_size _ rfl
  refine wpAny_bind (wpAny_holding (wpAny_call_entry_kw slot_list_sort ⟨_, hat, rfl⟩ entry_list_sort ?body (PyProof.Rows.ksk_l1 _ _)))
  case body =>
    show wpAny (model prog w) A.in1.in1 (Builtin.«list.sort» ⟨[.ref h1.objs.size], [(Str.ofString "key", .ref f)]⟩) _ _ _
    rw [PyProof.Rows.ksk_t1]
    have hnew : s.heap.get? h1.objs.size = none := by
      cases e : s.heap.get? h1.objs.size with
      | none => rfl
      | some o => exact absurd (Heap.lt_size (hk1 _ _ e)) (Nat.lt_irrefl _)
    have eR : PySem.W.EachIs (fun v (i : Nat) => ∃ t, v = Value.int i t) acc.toList (List.range j) := by
      have e := each_range acc.toList 0 fun i v hv => by
        obtain ⟨t, e⟩ := hacc.2 i v (by rw [← hv, Array.getElem?_toList])
        exact ⟨t, by rw [e]; congr 1; omega⟩
      rw [hlen, ← List.range_eq_range'] at e
      exact e
    have up : ∀ {g : Heap}, PySem.W.KeepsBut h1.objs.size (h1.push { cls := .type "list", data := .seq acc.toList.toArray }) g → ∀ b o, s.heap.get? b = some o → g.get? b = some o := fun {g} kp b o q =>
      kp b o (fun z => by rw [z, hnew] at q; cases q) (Heap.get?_push_of_some _ (hk1 b o q))
    refine PySem.W.keyH_tree (kz := (List.range j).map k) (s := { s with heap := h1.push { cls := .type "list", data := .seq acc.toList.toArray }, toks := tk1 }) hat (by rw [List.length_map, List.length_range]; exact hlen.symm) (by rw [hlen, sizeLine_eq]; exact hj) hal hk (PySem.W.bound_map (A := A.in1.in1) hu)
      (PySem.W.keyH_turns eR fun v x hR hx hp tk kp => ?_) fun h' tk out c kp hD ko => ?_
    · obtain ⟨t0, rfl⟩ := hR
      exact turn x t0 (List.mem_range.mp hx) hp tk (up kp)
    · refine ⟨_, rfl, wpAny_pure ⟨_, rfl, ?_⟩⟩
      exact h h1 out c h' tk hk1 (fun b o q => kp b o (Nat.ne_of_lt (Heap.lt_size q)) (Heap.get?_push_of_some _ q)) hD ((ko.length (by rw [List.length_map, List.length_range]; exact hlen.symm)).trans hlen) (PySem.W.keyedOut_each k ko eR)
/-- the key: t[i], t a captured name -/
theorem lam_turn {f c cc tp : Addr} {qual T x : Str} {params : Arguments} {scope : Scope} {clos : List (Str × Addr)} {pm ctv u : Value} {its : List Value} {i : Nat} {tk0 : Tok} {pT px pos : Pos} {d : PyData} (hroom : A.depth < recursionLimit) (hl : s.heap.NoLimit)
    (hf : s.heap.get? f = some { cls := .type "function", data := .func (PySem.W.kla_fn "<lambda>" qual params (.Subscript (.Name T pT) (.Name x px) pos) scope clos pm (.ref cc) ctv) }) (hcd : s.heap.CodeRec (.ref cc) qual)
    (hbind : bindArgs (PySem.W.kla_fn "<lambda>" qual params (.Subscript (.Name T pT) (.Name x px) pos) scope clos pm (.ref cc) ctv) ⟨[.int i tk0], []⟩ = pure [(x, .int i tk0)])
    (hk : scope.kind = .function) (hco : scope.isCoroutine = false) (hgen : scope.isGenerator = false) (hcell : ∀ y ∈ scope.names, y.2 ≠ .cell) (hx : scope.names.lookup x = some .local) (hT : scope.names.lookup T = some .free)
    (hcl : clos.lookup T = some c) (hc : s.heap.IsCell c (some (.ref tp))) (ht : s.heap.IsTuple tp its.toArray) (hi : its[i]? = some u) (hi2 : i < 4611686018427387904) (hz : its.length ≤ 16777216) (hd : Reads s.heap u d [])
    (dT : (T == ("__debug__" : Str)) = false) (dT2 : (T == ("__classdict__" : Str)) = false) (dx : (x == ("__debug__" : Str)) = false) :
    wpAny (model prog w) A (call (.ref f) [.int i tk0]) (PySem.W.KeyPure d s) (fun _ _ => False) s := by
  refine wpAny_call (PySem.W.kla_callFunE hroom hf rfl hco hgen rfl hcd ?_)
  rw [hbind]
  refine wpAny_pure (wpAny_newFunctionEnv hcell (fun y hy => by
    have e : y = (x, .int i tk0) := by simpa using hy
    subst e; exact hx) (fun h1 hns hsb => ⟨hl.fresh _ hsb, ?_⟩) hk)
  have hk1 : ∀ b o, s.heap.get? b = some o → h1.get? b = some o := fun b o e => hsb.extBut b o (Nat.ne_of_lt (Heap.lt_size e)) (Heap.get?_push_of_some _ e)
  refine PySem.W.kla_codeExpr ?_
  have ht1 : h1.IsTuple tp its.toArray := let ⟨o, e, r⟩ := ht; ⟨o, hk1 _ _ e, r⟩
  have hc1 := hc.keeps hk1
  have hpl : ∀ o i : Value, subscripted (.Name x px) false o i = operate [o, i] (getItem o i) := fun _ _ => by with_unfolding_all rfl
  have hsq : seqIndex? (i : Int) its.toArray.size = some i := by
    rw [List.size_toArray]
    exact seqIndex_of (by omega) (by have := (List.getElem?_eq_some_iff.mp hi).1; omega)
  have hlk : List.lookup x [(x, Value.int (i : Int) tk0)].reverse = some (Value.int (i : Int) tk0) := by simp
  refine Subscript_ ?_
  refine wpAny_Name (wpAny_loadName_free hk hT hcl hc1 ?_ dT2) dT
  refine wpAny_Name (wpAny_loadName_local hk hx hns hlk ?_) dx
  refine subscriptTail_builtinR (x := u) ht1.typeIs slot_tuple_getitem.lookup ?_ (hpl _ _)
  refine PyProof.Rows.getItem_tuple (j := i) ht1 (by omega) (by omega) hsq (by simpa using hi) ⟨rfl, ?_⟩
  exact ⟨h1, _, rfl, hk1, PyProof.Rows.Reads.keeps hk1 hd⟩
end
/-! ### plain data is read without lists -/
mutual
theorem reads_nil {h : Heap} : ∀ (n : Nat) (p : PV) (u : Value) (as : List Addr), okd n p = true → Reads h u (toD p) as → as = []
  | n, .non, u, as, _, r => by rw [toD] at r; cases r; rfl
  | n, .bl b, u, as, _, r => by rw [toD] at r; cases r; rfl
  | n, .int b, u, as, _, r => by rw [toD] at r; cases r; rfl
  | n, .str b, u, as, _, r => by rw [toD] at r; cases r; rfl
  | 0, .tup l, u, as, z, r => by simp [okd] at z
  | n + 1, .tup l, u, as, z, r => by
    rw [toD] at r
    cases r with
    | tuple h1 h2 h3 h4 => exact readsAll_nil n l _ _ (by simpa [okd] using z) h4
  | n, .loc _, u, as, z, r => by rw [okd_loc] at z; cases z
  | n, .fn _, u, as, z, r => by rw [okd_fn] at z; cases z
  | n, .kl _, u, as, z, r => by rw [okd_kl] at z; cases z
theorem readsAll_nil {h : Heap} : ∀ (n : Nat) (l : List PV) (us : List Value) (as : List Addr), okds n l = true → ReadsAll h us (toDs l) as → as = []
  | n, [], us, as, _, r => by rw [toDs] at r; cases r; rfl
  | n, p :: l, us, as, z, r => by
    rw [toDs] at r
    simp only [okds, Bool.and_eq_true] at z
    cases r with
    | cons r1 r2 => rw [reads_nil n p _ _ z.1 r1, readsAll_nil n l _ _ z.2 r2]; rfl
end
/-- the tables after a lambda has been made -/
def LamNew (P : Addr) (q : Str) (H H2 : Hp) : Prop := LamX.TabS H2 P q ∧ (H2 = H ∨ ∃ ps more c, H P = some (.tbl ps) ∧ H c = none ∧ H2 = upd (upd H P (.tbl (ps ++ more))) c (LamX.CodeO c q))
section
variable {X : Cx} {pins : List (Addr × Obj)} {σ : L2.St} {H : Hp} {s : Shared}
/-- a lambda made -/
theorem eval_lam {c P : Addr} {params : Arguments} {body : Expr} {scope : Scope} {lpos : Pos} {Q : Value → Shared → Prop} {E : Value → Shared → Prop} (I : Inv X pins σ H s) (TB : GxR.TabB X.base X.mg c P) (hcode : X.env.code = .ref c) (ht : LamX.TabS H P (X.env.qual ++ "<lambda>"))
    (hfree : ∀ y ∈ scope.names, y.2 = .free → ∃ c, X.env.cells.lookup y.1 = some c) (hdef : defaultsOf params X.env = ([], []))
    (h : ∀ (f cc : Addr) (ctv : Value) (H2 : Hp) (s2 : Shared), Inv X pins σ H2 s2 → LamNew P (X.env.qual ++ "<lambda>") H H2 → (∀ b o, b ≠ P → s.heap.get? b = some o → s2.heap.get? b = some o) → s2.heap.CodeRec (.ref cc) (X.env.qual ++ "<lambda>") →
      s2.heap.get? f = some { cls := .type "function", data := .func (PySem.W.kla_fn "<lambda>" (X.env.qual ++ "<lambda>") params body scope (cloFrom X.env.cells scope.names []) ((X.mg "__name__").getD .none) (.ref cc) ctv) } → Q (.ref f) s2) :
    wpAny (model X.prog X.w) X.A (eval (.Lambda params body scope lpos) X.env) Q E s := by
  obtain ⟨ps, hP, hto, hco⟩ := ht
  have hPs : s.heap.get? P = some (PySem.W.tabObj ps) := I.hok P _ hP
  have cd : PySem.W.CodeHd s.heap c P := TB.code.keeps fun b u e => I.bk b u e
  obtain ⟨bm, ob, e1, e2, e3, e4, e5, e6, e7, e8⟩ := TB.bm
  have hb : s.heap.BuiltinsAt X.mg P := ⟨bm, ob, e1, e2, e3, e4, I.bk _ _ e5, e6, e7, e8⟩
  have hg : s.heap.Ns mainGlobals X.mg := I.mod.glob.keeps I.bk
  refine PySem.W.kla_eval hdef ?_
  cases hf : codeAmong lpos ps.toList with
  | none =>
    refine PySem.W.kla_makeFunction (closure_ok hfree) I.ok.glob hg hcode cd hPs hto hf TB.gP hb fun c' ctv h' tk hx hge hlt hrec htab => ?_
    obtain ⟨c2, oc, vs, t, ec, ho, hd, hv⟩ := hrec
    cases ec
    have I1 := LamX.inv_table (q := X.env.qual ++ "<lambda>") (t' := tk) I hP (fun b o hb e => hx b o hb e) htab hge ⟨oc, vs, t, ho, hd, hv⟩
    have I2 : Inv X pins σ _ { s with heap := h'.push (PySem.W.kla_obj "<lambda>" (X.env.qual ++ "<lambda>") params body scope (cloFrom X.env.cells scope.names []) ((X.mg "__name__").getD .none) c' ctv), toks := tk } := I1.kept (t' := tk) fun b o e => Heap.get?_push_of_some _ e
    have hc0 : H c' = none := I.hok.fresh hge
    have hcP : P ≠ c' := ne_of_none hP hc0
    refine h _ c' ctv _ _ I2 ⟨⟨_, by rw [upd_ne hcP]; exact upd_same, ?_, fun pos cv hcv => ?_⟩, .inr ⟨ps, _, c', hP, hc0, rfl⟩⟩ (fun b o hb e => Heap.get?_push_of_some _ (hx b o hb e)) ⟨c', oc, vs, t, rfl, Heap.get?_push_of_some _ ho, hd, hv⟩ (Heap.get?_push_size _ rfl)
    · have e : (ps ++ #[rawInt lpos.line, rawInt lpos.col, Value.ref c']).toList = ps.toList ++ [rawInt lpos.line, rawInt lpos.col, .ref c'] := by simp
      rw [e]
      exact TriplesOk_snoc _ _ _ _ hto
    · have e : (ps ++ #[rawInt lpos.line, rawInt lpos.col, Value.ref c']).toList = ps.toList ++ [rawInt lpos.line, rawInt lpos.col, .ref c'] := by simp
      rw [e] at hcv
      rcases LamX.among_app _ hto hcv with z | z
      · obtain ⟨c3, q1, q2⟩ := hco pos cv z
        refine ⟨c3, q1, ?_⟩
        rw [upd_ne (fun y => by rw [y, hc0] at q2; cases q2), upd_ne (fun y => by rw [y, hP] at q2; cases q2)]
        exact q2
      · exact ⟨c', z, upd_same⟩
  | some cv =>
    obtain ⟨c', rfl, hcc⟩ := hco _ _ hf
    refine PySem.W.kla_makeFunctionHit (closure_ok hfree) I.ok.glob hg hcode cd hPs hto hf hb fun ctv h' tk hk hsz => ?_
    obtain ⟨⟨oc, vs, t, ho, hd, hv⟩, _⟩ := I.hok c' _ hcc
    have kk : ∀ b o, s.heap.get? b = some o → (h'.push { cls := .type "function", data := .func (PySem.W.kla_fn "<lambda>" (X.env.qual ++ "<lambda>") params body scope (cloFrom X.env.cells scope.names []) ((X.mg "__name__").getD .none) (.ref c') ctv) }).get? b = some o := fun b o e => Heap.get?_push_of_some _ (hk b o e)
    exact h _ c' ctv H _ (I.kept (t' := tk) kk) ⟨⟨ps, hP, hto, hco⟩, .inl rfl⟩ (fun b o _ e => kk b o e) ⟨c', oc, vs, t, rfl, kk _ _ ho, hd, hv⟩ (Heap.get?_push_size _ rfl)
def sortIx (l : List PV) : List Nat := (List.range l.length).mergeSort (PySem.W.dataLe false fun i => (toDs l).getD i .none)
theorem toDs_length : ∀ l : List PV, (toDs l).length = l.length
  | [] => by rw [toDs]; rfl
  | p :: l => by rw [toDs, List.length_cons, List.length_cons, toDs_length l]
theorem map_getD {α : Type} (d : α) : ∀ l : List α, (List.range l.length).map (fun i => l.getD i d) = l := fun l => by
  apply List.ext_getElem?
  intro i
  rw [List.getElem?_map]
  by_cases h : i < l.length
  · rw [List.getElem?_range h]
    simp [List.getD, List.getElem?_eq_getElem h]
  · rw [List.getElem?_eq_none (by simpa using h), List.getElem?_eq_none (by omega)]
    rfl
theorem dps_get {K : PySem.W.Frag} {H : Hp} : ∀ {vs : List V} {ds : List PyData} {i : Nat} {v : V}, DpAll K H vs ds → vs[i]? = some v → Dp K H v (ds.getD i .none)
  | _, _, _, _, .nil, e => by simp at e
  | _, _, 0, _, .cons h _, e => by
    simp at e
    subst e
    simpa using h
  | _, _, i + 1, _, .cons _ r, e => by
    have := dps_get (i := i) r (by simpa using e)
    simpa using this
theorem okds_get {n : Nat} : ∀ {l : List PV} {i : Nat} {p : PV}, okds n l = true → l[i]? = some p → okd n p = true
  | [], _, _, _, e => by simp at e
  | q :: l, 0, p, h, e => by
    simp at e
    subst e
    simp only [okds, Bool.and_eq_true] at h
    exact h.1
  | q :: l, i + 1, p, h, e => by
    simp only [okds, Bool.and_eq_true] at h
    exact okds_get (i := i) h.2 (by simpa using e)
theorem toDs_get : ∀ {l : List PV} {i : Nat} {p : PV}, l[i]? = some p → (toDs l).getD i .none = toD p
  | [], _, _, e => by simp at e
  | q :: l, 0, p, e => by
    simp at e
    subst e
    rw [toDs]
    rfl
  | q :: l, i + 1, p, e => by
    rw [toDs]
    have := toDs_get (i := i) (p := p) (l := l) (by simpa using e)
    simpa using this
def kSortL (K : PySem.W.Frag) (P : Addr) (q : Str) (i : Nat) (σ : L2.St) (Q : VK) : Int → Int → Hp → Prop := fun a' b' H1 => a' = 0 ∧ ∃ (j : Nat) (tp : Addr) (vs : List V) (l : List PV), b' = (j : Int) ∧ j ≤ 16777216 ∧ σ[i]? = some (some (.ref tp)) ∧ okds 50 l = true ∧ l.length = j ∧ PySem.W.AllAlike (toDs l) ∧ PySem.W.Sortable (toDs l) ∧ LamX.TabS H1 P q ∧
  ∀ H2, LamNew P q H1 H2 → SqT K H2 tp vs ∧ DpAll K H2 vs (toDs l) ∧ vs.length = j ∧ ∀ nl, H2 nl = none → Q (.ref nl) (upd H2 nl (.lst ((sortIx l).map fun i : Nat => V.int i)))
def tSortL (K : PySem.W.Frag) (P : Addr) (q : Str) (i : Nat) (ta : TE) : TE := fun σ H Q => tRg1 ta σ H (kSortL K P q i σ Q)
/-- sorted(range(a), key=lambda x: T[x]) -/
theorem pe_sortLam {c P : Addr} {i : Nat} {T x : Str} {a : Expr} {params : Arguments} {scope : Scope} {p p1 p2 pos kp lpos pT px psub : Pos} {ta : TE} (hr : Room 2 X.A) (hc : X.calm = true) (hgs : Gl X "sorted") (hms : X.mg "sorted" = none) (hgr : Gl X "range") (hmr : X.mg "range" = none) (ha : PE X a ta)
    (TB : GxR.TabB X.base X.mg c P) (hcode : X.env.code = .ref c) (hN : X.N[i]? = some T) (hT : X.env.scope.names.lookup T = some .cell) (hsT : scope.names.lookup T = some .free) (hsx : scope.names.lookup x = some .local)
    (hsc : ∀ y ∈ scope.names, y.2 ≠ .cell) (hsf : ∀ y ∈ scope.names, y.2 = .free → y.1 = T) (hk : scope.kind = .function) (hco : scope.isCoroutine = false) (hgen : scope.isGenerator = false) (hdef : defaultsOf params X.env = ([], []))
    (hbind : ∀ (u : Value) (cl : List (Str × Addr)) (pm cdv ctv : Value), bindArgs (PySem.W.kla_fn "<lambda>" (X.env.qual ++ "<lambda>") params (.Subscript (.Name T pT) (.Name x px) psub) scope cl pm cdv ctv) ⟨[u], []⟩ = pure [(x, u)])
    (dT : (T == ("__debug__" : Str)) = false) (dT2 : (T == ("__classdict__" : Str)) = false) (dx : (x == ("__debug__" : Str)) = false)
    (hs : starEach [a] X.env = (false, eval a X.env) :: starEach [] X.env)
    (he : backTo pos (starEach [.Call (.Name "range" p1) [a] [] p2] X.env) = (false, eval (.Call (.Name "range" p1) [a] [] p2) X.env) :: backTo pos (starEach [] X.env)) :
    PE X (.Call (.Name "sorted" p) [.Call (.Name "range" p1) [a] [] p2] [⟨some "key", .Lambda params (.Subscript (.Name T pT) (.Name x px) psub) scope lpos, kp⟩] pos) (tSortL X.K P (X.env.qual ++ "<lambda>") i ta) := by
  refine ⟨fun pins s σ H Q I h => ?_⟩
  refine wpAny_Call_Name_kw (ld_blt I hgs hms boot_sorted ?_)
  refine PyProof.Rows.callWith_kw ?_ he (by rfl) (by rfl) (by rfl)
  rw [he]
  refine Calls.spliced_cons (thn (prg_1 (ta := ta) hgr hmr ha hs pins s σ H _ I h) fun xv s1 h1 => ?_)
  · obtain ⟨r, a', b', t, u, v, H1, rfl, hrg, I1, rfl, j, tp, vs, l, rfl, hj, hσ, hok, hlen, hal, hso, htab, hrest⟩ := h1
    refine Calls.spliced_nil ?_
    show wpAny _ _ (evalAll ((do let v ← eval (.Lambda params (.Subscript (.Name T pT) (.Name x px) psub) scope lpos) X.env; standAt pos; pure v) :: [])) _ _ s1
    have hcT : ∃ c, X.env.cells.lookup T = some c := I1.ok.has T (.inl hT)
    have hfree : ∀ y ∈ scope.names, y.2 = .free → ∃ c, X.env.cells.lookup y.1 = some c := fun y hy e => by rw [hsf y hy e]; exact hcT
    refine wpAny_evalAll_cons (wpAny_bind (eval_lam I1 TB hcode htab hfree hdef fun f cc ctv H2 s2 I2 hnew hk2 hrec hfo => wpAny_bind (wpAny_standAt (wpAny_pure (wpAny_evalAll_nil ?_)))))
    show wpAny _ _ (call (.builtin "sorted") [.ref r] [(Str.ofString "key", .ref f)]) _ _ s2
    obtain ⟨hsq, hdp, hvl, hQ⟩ := hrest H2 hnew
    obtain ⟨its, rvs, pl, hz⟩ := I2.tuple hsq
    have hlv := rvs.length
    -- the captured cell
    obtain ⟨m, hn, hloc⟩ := I2.loc
    obtain ⟨uu, ruu, hlook⟩ := hloc i T _ hN hσ (.inr (.inl hT))
    cases ruu
    obtain ⟨cT, hcTl, hcell⟩ : ∃ cT, X.env.cells.lookup T = some cT ∧ s2.heap.IsCell cT (some (.ref tp)) := by
      rcases hlook with ⟨k1, _⟩ | ⟨_, c2, e2, z⟩
      · have k1 : X.env.scope.names.lookup T = some .local := k1
        rw [hT] at k1; cases k1
      · exact ⟨c2, e2, z⟩
    have hcl : (cloFrom X.env.cells scope.names []).lookup T = some cT := by
      have hy : (T, NameKind.free) ∈ scope.names := PySem.mem_of_lookup hsT
      obtain ⟨c', e'⟩ := mem_lookup (cloFrom_has (cells := X.env.cells) (acc := []) hy)
      rcases cloFrom_mem (PySem.mem_of_lookup e') with hm | ⟨_, rfl⟩
      · cases hm
      · rw [e', hcTl]; rfl
    have hrP : r ≠ P := fun z => by
      obtain ⟨ps, hP, _⟩ := htab
      have e := I1.hok P _ hP
      have e2 : s1.heap.get? P = some { cls := .none, data := .fields ps } := e
      have hrg2 : s1.heap.get? r = _ := hrg
      rw [z, e2] at hrg2
      cases hrg2
    have hrg2 : IsRange s2.heap r 0 (j : Int) 1 t u v := hk2 r _ hrP hrg
    have hkeys : (List.range j).map (fun i => (toDs l).getD i .none) = toDs l := by
      have e := map_getD PyData.none (toDs l)
      rw [toDs_length, hlen] at e
      exact e
    refine sorted_range (I2.ok.hd hc) hrg2 hj (fun i => (toDs l).getD i .none) (by rw [hkeys]; exact hal) (by rw [hkeys]; exact hso) (fun x hx => ?_) (fun i0 tk0 hi0 hh tk kp => ?_) fun h1 out c0 h' tk k1 k2 hD hol eo => ?_
    · have h9 : (toDs l).getD x .none ∈ toDs l := by
        have hx' : x < (toDs l).length := by rw [toDs_length, hlen]; exact List.mem_range.mp hx
        rw [List.getD_eq_getElem?_getD, List.getElem?_eq_getElem hx']
        exact List.getElem_mem hx'
      have d1 := (okds_plain 50 l hok).2
      have d2 : ∀ (ds : List PyData) (d : PyData), d ∈ ds → d.depth ≤ PyData.depthAll ds := by
        intro ds
        induction ds with
        | nil => intro d hd; cases hd
        | cons d0 ds ih =>
          intro d hd
          simp only [PyData.depthAll]
          rcases List.mem_cons.mp hd with z | z
          · rw [z]; omega
          · have := ih d z; omega
      have := d2 _ _ h9
      have := hr.un
      omega
    · have hvi : i0 < vs.length := by rw [hvl]; exact hi0
      have hui : i0 < its.length := by rw [← hlv]; exact hvi
      obtain ⟨wv, ewv, rwv⟩ := Vals.get rvs (List.getElem?_eq_getElem hvi)
      have hli : i0 < l.length := by rw [hlen]; exact hi0
      have hpi : l[i0]? = some l[i0] := List.getElem?_eq_getElem hli
      have hdi := dps_get hdp (List.getElem?_eq_getElem hvi)
      obtain ⟨as, rd⟩ := Dp.reads I2 _ _ wv hdi rwv
      have e1 : (toDs l).getD i0 .none = toD l[i0] := toDs_get hpi
      rw [e1] at rd ⊢
      have e2 := reads_nil 50 l[i0] wv as (okds_get hok hpi) rd
      rw [e2] at rd
      exact lam_turn (s := { s2 with heap := hh, toks := tk }) (tp := tp) (its := its) (u := wv) (i := i0) (by have := hr.dp; show X.A.depth < _; omega) (I2.nolimit.keeps kp) (kp _ _ hfo) (let ⟨c2, o2, v2, t2, q1, q2, q3, q4⟩ := hrec; ⟨c2, o2, v2, t2, q1, kp _ _ q2, q3, q4⟩) (hbind _ _ _ _ _) hk hco hgen hsc hsx hsT hcl (hcell.keeps kp)
        (let ⟨o, e, r⟩ := pl; ⟨o, kp _ _ e, r⟩) ewv (by omega) (by rw [← hlv, hvl]; exact hj) (PyProof.Rows.Reads.keeps kp rd) dT dT2 dx
    · have I3 : Inv X pins σ H2 { s2 with heap := h1, toks := tk } := I2.kept k1
      have hnl : H2 h1.objs.size = none := I3.hok.fresh (Nat.le_refl _)
      have ev : Vals ((sortIx l).map fun i : Nat => V.int i) out := by
        have e9 : (List.range j).mergeSort (PySem.W.dataLe false fun i => (toDs l).getD i .none) = sortIx l := by unfold sortIx; rw [hlen]
        rw [e9] at eo
        clear hD hol e9
        generalize sortIx l = ix at eo
        induction eo with
        | nil => exact .nil
        | cons h t ih =>
          obtain ⟨t0, rfl⟩ := h
          exact .cons ⟨t0, rfl⟩ ih
      have I4 : Inv X pins σ (upd H2 h1.objs.size (.lst ((sortIx l).map fun i : Nat => V.int i))) { s2 with heap := h', toks := tk } := by
        refine I3.laid (t' := tk) k2 (Nat.le_refl _) ⟨by rw [ev.length, hol, sizeLine_eq]; exact hj, out, c0, ev, hD⟩
      exact ⟨.ref h1.objs.size, _, I4, rfl, hQ _ hnl⟩
end
def alkB (l : List PV) : Bool := (toDs l).all fun d => (toDs l).all fun d' => PySem.W.alike d d'
def tupB : List PV → Bool
  | [] => true
  | .tup (_ :: _) :: l => tupB l
  | _ => false
theorem tupB_ok : ∀ l : List PV, tupB l = true → ∀ d, d ∈ toDs l → ∃ x r, d = .tuple (x :: r)
  | [], _, d, hd => by rw [toDs] at hd; cases hd
  | .tup (a :: b) :: l, h, d, hd => by
    rw [toDs] at hd
    rcases List.mem_cons.mp hd with z | z
    · rw [z, toD, toDs]; exact ⟨_, _, rfl⟩
    · exact tupB_ok l h d z
  | .tup [] :: l, h, _, _ => by cases h
  | .non :: l, h, _, _ => by cases h
  | .bl _ :: l, h, _, _ => by cases h
  | .int _ :: l, h, _, _ => by cases h
  | .str _ :: l, h, _, _ => by cases h
  | .loc _ :: l, h, _, _ => by cases h
  | .fn _ :: l, h, _, _ => by cases h
  | .kl _ :: l, h, _, _ => by cases h
def sortR (q t : PV) : Mo (List PV) := fun st => match q, t with
  | .int j, .tup l => if j = l.length ∧ okds 50 l = true ∧ alkB l = true ∧ tupB l = true then .ok ((sortIx l).map fun i : Nat => PV.int i) st else .stuck
  | _, _ => .stuck
theorem lam_rs {W : Wd} {ι : List Addr} {st : Sto} {H H2 : Hp} {P : Addr} {q : Str} (rs : RS W ι st H) (hP : (P, q) ∈ W.tl) (hPu : ∀ p ∈ W.tl, p.1 = P → p.2 = q) (n : LamNew P q H H2) : Mono ι H ι H2 ∧ RS W ι st H2 := by
  obtain ⟨t2, n⟩ := n
  rcases n with rfl | ⟨ps, more, c, hP1, hc, rfl⟩
  · exact ⟨Mono.refl, rs⟩
  have hcP : P ≠ c := ne_of_none hP1 hc
  have same : ∀ b o, H b = some o → b ≠ P → upd (upd H P (.tbl (ps ++ more))) c (LamX.CodeO c q) b = some o := fun b o e hb => by
    rw [upd_ne (ne_of_none e hc), upd_ne hb]; exact e
  have hnP : P ∉ ι := fun ha => by
    obtain ⟨n, o, _, _, r⟩ := rs.at_ ha
    obtain ⟨u, e, z⟩ := r.there
    rw [hP1] at e; cases e; exact z.2.2.1 _ rfl
  have t3 := t2
  obtain ⟨ps2, e2, to2, _⟩ := t2
  have m : Mono ι H ι (upd (upd H P (.tbl (ps ++ more))) c (LamX.CodeO c q)) := by
    refine ⟨fun _ _ h => h, fun _ h n => absurd h n, fun a u h hn => ?_⟩
    by_cases ha : a = P
    · subst ha
      rw [hP1] at h
      cases h
      have e3 : upd (upd H a (.tbl (ps ++ more))) c (LamX.CodeO c q) a = some (.tbl (ps ++ more)) := by rw [upd_ne hcP]; exact upd_same
      rw [e3] at e2
      cases e2
      exact ⟨_, e3, .inr ⟨ps, more, rfl, rfl, fun _ => to2⟩⟩
    · exact ⟨u, same a u h ha, Kp.refl u⟩
  refine ⟨m, rs.len, rs.nd, fun n u a h1 h2 => ?_, tab_mono rs m, fun p hp => ?_⟩
  · have ha : a ≠ P := fun z => hnP (by rw [← z]; exact List.mem_of_getElem? h2)
    have r := rs.ob n u a h1 h2
    obtain ⟨x, e, _⟩ := r.there
    exact RO.mono rs m ((same a x e ha).trans e.symm) r
  · by_cases hp1 : p.1 = P
    · have e := hPu p hp hp1
      rw [hp1, e]
      exact t3
    · obtain ⟨ps3, h1, h2, h3⟩ := rs.tl p hp
      refine ⟨ps3, same _ _ h1 hp1, h2, fun pos cv hcv => ?_⟩
      obtain ⟨c3, q1, q2⟩ := h3 pos cv hcv
      exact ⟨c3, q1, same _ _ q2 fun z => by rw [z, hP1] at q2; cases q2⟩
section
variable {X : Cx} {W : Wd} {k : Nat} {E : XK} {a : Expr} {da : Env → Mo PV}
theorem dl_sortR {cc P : Addr} {i : Nat} {T x : Str} {params : Arguments} {scope : Scope} {p p1 p2 pos kp lpos pT px psub : Pos} (TB : GxR.TabB X.base W.mg cc P) (hP : (P, X.env.qual ++ "<lambda>") ∈ W.tl) (hPu : ∀ p ∈ W.tl, p.1 = P → p.2 = X.env.qual ++ "<lambda>") (hcode : X.env.code = .ref cc)
    (hms : W.mg "sorted" = none) (hmr : W.mg "range" = none) (ha : DE X W (k + 2) E a da) (hN : X.N[i]? = some T := by rfl) (hT : X.env.scope.names.lookup T = some .cell := by rfl) (hgs : Gl X "sorted" := by rfl) (hgr : Gl X "range" := by rfl) (hsT : scope.names.lookup T = some .free := by rfl) (hsx : scope.names.lookup x = some .local := by rfl)
    (hsc : ∀ y ∈ scope.names, y.2 ≠ .cell := by decide) (hsf : ∀ y ∈ scope.names, y.2 = .free → y.1 = T := by decide) (hk : scope.kind = .function := by rfl) (hco : scope.isCoroutine = false := by rfl) (hgen : scope.isGenerator = false := by rfl) (hdef : defaultsOf params X.env = ([], []) := by rfl)
    (hbind : ∀ (u : Value) (cl : List (Str × Addr)) (pm cdv ctv : Value), bindArgs (PySem.W.kla_fn "<lambda>" (X.env.qual ++ "<lambda>") params (.Subscript (.Name T pT) (.Name x px) psub) scope cl pm cdv ctv) ⟨[u], []⟩ = pure [(x, u)] := by intros; rfl)
    (dT : (T == ("__debug__" : Str)) = false := by decide) (dT2 : (T == ("__classdict__" : Str)) = false := by decide) (dx : (x == ("__debug__" : Str)) = false := by decide)
    (hs : starEach [a] X.env = (false, eval a X.env) :: starEach [] X.env := by rfl)
    (he : backTo pos (starEach [.Call (.Name "range" p1) [a] [] p2] X.env) = (false, eval (.Call (.Name "range" p1) [a] [] p2) X.env) :: backTo pos (starEach [] X.env) := by rfl) :
    DL X W (k + 2) E (.Call (.Name "sorted" p) [.Call (.Name "range" p1) [a] [] p2] [⟨some "key", .Lambda params (.Subscript (.Name T pT) (.Name x px) psub) scope lpos, kp⟩] pos) (fun ρ => bnd (da ρ) fun q => bnd (dVar i ρ) fun t => sortR q t) := ⟨fun o =>
  pe_imp (pe_sortLam (o.room.mono (by omega)) o.hc hgs (by rw [o.hM]; exact hms) hgr (by rw [o.hM]; exact hmr) (ha.run o) (by rw [o.hM]; exact TB) hcode hN hT hsT hsx hsc hsf hk hco hgen hdef hbind dT dT2 dx hs he) fun σ H Q t => by
    obtain ⟨ι, ρ, st, re, rs, g⟩ := t
    refine ⟨ι, ρ, st, re, rs, Good.imp (Good.bind g) fun q st1 ι1 H1 m1 r1 g1 v hv => ?_⟩
    have re1 := re.mono rs m1
    have g2 := Good.bind g1
    unfold dVar at g2
    cases qq : ρ[i]? with
    | none => rw [qq] at g2; exact g2.elim
    | some w =>
      cases w with
      | none => rw [qq] at g2; exact g2.elim
      | some w =>
        rw [qq] at g2
        obtain ⟨tv, h1, h2⟩ := re1.at_ i w qq
        have g3 := g2.ok r1
        cases hv <;> try exact g3.elim
        cases h2 <;> try exact g3.elim
        rename_i jj ta vs l sq rr hz
        obtain ⟨hc, g4⟩ := good_if g3
        obtain ⟨c1, c2, c3, c4⟩ := hc
        subst c1
        refine ⟨_, rfl, rfl, l.length, ta, vs, l, rfl, hz, h1, c2, rfl, ?_, .inl (tupB_ok l c4), r1.tl _ hP, fun H2 hnew => ?_⟩
        · intro d hd d' hd'
          have := List.all_eq_true.mp c3 d hd
          exact List.all_eq_true.mp this d' hd'
        · obtain ⟨m2, r2⟩ := lam_rs r1 hP hPu hnew
          have rr2 := rvs_mono r1 m2 _ _ rr
          refine ⟨by rw [o.hK]; exact sqt_mono r1 m2 sq, by rw [o.hK]; exact dps_of 50 l vs c2 rr2, rr2.length, fun nl hnl => ?_⟩
          have h9 : (sortIx l).length = l.length := by unfold sortIx; rw [List.length_mergeSort, List.length_range]
          refine good_newlst (g4.shift m2) r2 ?_ (by rw [List.length_map, h9]; exact hz) hnl (none_back rs (m1.trans m2) r2.some_ hnl)
          generalize sortIx l = ix
          induction ix with
          | nil => exact .nil
          | cons z ix ih => exact .cons (.int _) ih⟩
end
end PD
/-! PD: what a denotation yields, plainly. -/
namespace PD
open PySem PySem.Spec L2
structure Ok {α : Type} (r : Res α) (Q : α → Sto → Prop) : Prop where
  ex : ∃ a s, r = .ok a s ∧ Q a s
section
variable {α β : Type} {Q : α → Sto → Prop} {st : Sto}
@[simp] theorem ok_ok {a : α} : Ok (.ok a st) Q ↔ Q a st := ⟨fun h => by obtain ⟨b, s, e, q⟩ := h.ex; cases e; exact q, fun q => ⟨a, st, rfl, q⟩⟩
@[simp] theorem ok_stuck : Ok (.stuck : Res α) Q ↔ False := ⟨fun h => (by obtain ⟨b, s, e, q⟩ := h.ex; cases e), False.elim⟩
@[simp] theorem ok_exc {c : Nat} : Ok (.exc c st : Res α) Q ↔ False := ⟨fun h => (by obtain ⟨b, s, e, q⟩ := h.ex; cases e), False.elim⟩
@[simp] theorem ok_fail : Ok ((fail : Mo α) st) Q ↔ False := ok_stuck
theorem ok_same {r r' : Res α} (h : r = r') : Ok r Q ↔ Ok r' Q := by rw [h]
@[simp] theorem ok_bnd {m : Mo β} {f : β → Mo α} : Ok (bnd m f st) Q ↔ Ok (m st) (fun b st1 => Ok (f b st1) Q) := by
  unfold bnd
  cases m st with
  | ok a s => rw [ok_ok]
  | exc c s => exact ok_exc.trans ok_exc.symm
  | stuck => exact ok_stuck.trans ok_stuck.symm
@[simp] theorem ok_nox {m : Mo α} : Ok (nox m st) Q ↔ Ok (m st) Q := by
  unfold nox
  cases m st with
  | ok a s => exact Iff.rfl
  | exc c s => exact ok_stuck.trans ok_exc.symm
  | stuck => exact Iff.rfl
theorem ok_if {c : Prop} [Decidable c] {r : Res α} : Ok (if c then r else .stuck) Q ↔ c ∧ Ok r Q := by
  by_cases h : c
  · rw [if_pos h]; exact ⟨fun z => ⟨h, z⟩, fun z => z.2⟩
  · rw [if_neg h, ok_stuck]; exact ⟨fun z => z.elim, fun z => (h z.1).elim⟩
theorem Ok.imp {r : Res α} {Q' : α → Sto → Prop} (h : Ok r Q) (i : ∀ a st, Q a st → Q' a st) : Ok r Q' := by
  obtain ⟨a, s, e, q⟩ := h.ex
  exact ⟨a, s, e, i a s q⟩
theorem ok_eq {r : Res α} {a : α} {s : Sto} (h : r = .ok a s) : Ok r Q ↔ Q a s := by rw [h]; exact ok_ok
theorem Ok.eq {r : Res α} {a : α} {s : Sto} (h : Ok r (fun b s' => b = a ∧ s' = s)) : r = .ok a s := by
  obtain ⟨b, s', e, rfl, rfl⟩ := h.ex
  exact e
end
/-! ### pure specs -/
open Classical in
noncomputable def pureS (dom : List PV → Prop) (g : List PV → PV) : List PV → Mo PV := fun ps st => if dom ps then .ok (g ps) st else .stuck
theorem pureS_ok {dom : List PV → Prop} {g : List PV → PV} {ps : List PV} {st : Sto} (h : dom ps) : pureS dom g ps st = .ok (g ps) st := if_pos h
theorem nox_pure {dom : List PV → Prop} {g : List PV → PV} : NoX (pureS dom g) := fun ps st c st2 h => by
  unfold pureS at h
  split at h <;> cases h
theorem ref_pure {n : Nat} {F : List PV → Mo PV} {dom : List PV → Prop} {g : List PV → PV} (h : ∀ ps st, ps.length = n → dom ps → Ok (F ps st) (fun p st1 => p = g ps ∧ ∃ ex, st1 = st ++ ex)) (hg : ∀ ps m, dom ps → cl m (g ps) = true) : Ref n F (pureS dom g) := by
  intro ps st p2 st2 hl hc hs e
  unfold pureS at e
  split at e
  · rename_i hd
    cases e
    obtain ⟨a, s, e1, rfl, ex, rfl⟩ := (h ps st hl hd).ex
    exact ⟨_, _, e1, gc_take (Nat.le_refl _) (hg ps _ hd) hs⟩
  · cases e
theorem ref_same {n : Nat} {F : List PV → Mo PV} {dom : List PV → Prop} {g : List PV → PV} (h : ∀ ps st, dom ps → Ok (F ps st) (fun p st1 => p = g ps ∧ st1 = st)) (hg : ∀ ps m, dom ps → cl m (g ps) = true) : Ref n F (pureS dom g) :=
  ref_pure (fun ps st _ hd => (h ps st hd).imp fun p s z => ⟨z.1, [], by rw [z.2, List.append_nil]⟩) hg
def trunc (F : List PV → Mo PV) : List PV → Mo PV := fun ps st => match F ps st with
  | .ok p st1 => if (decide (st.length ≤ st1.length) && cl st.length p && (st1.take st.length).all (clO st.length)) = true then .ok p (st1.take st.length) else .stuck
  | _ => .stuck
theorem nox_trunc {F : List PV → Mo PV} : NoX (trunc F) := fun ps st c st2 h => by
  unfold trunc at h
  split at h
  · split at h <;> cases h
  · cases h
theorem ref_trunc {n : Nat} {F : List PV → Mo PV} : Ref n F (trunc F) := by
  intro ps st p2 st2 hl hc hs e
  unfold trunc at e
  cases q : F ps st with
  | ok p st1 =>
    rw [q] at e
    dsimp only at e
    split at e
    · rename_i hh
      cases e
      simp only [Bool.and_eq_true, decide_eq_true_eq, List.all_eq_true] at hh
      obtain ⟨⟨h1, h2⟩, h3⟩ := hh
      have hlen : (st1.take st.length).length = st.length := by rw [List.length_take]; omega
      have g := gc_take (n0 := st.length) (p := p2) (st := st1.take st.length) (ex := st1.drop st.length) (by omega) (by rw [hlen]; exact h2) (fun o ho => by rw [hlen]; exact h3 o ho)
      rw [List.take_append_drop] at g
      exact ⟨_, st1, rfl, g⟩
    · cases e
  | exc c s => rw [q] at e; cases e
  | stuck => rw [q] at e; cases e
theorem ref_self {n : Nat} {F : List PV → Mo PV} : Ref n F F := fun ps st p2 st2 _ _ _ e => ⟨p2, st2, e, .inl ⟨rfl, rfl⟩⟩
/-! ### loops -/
section
variable {Q : Fl → Sto → Prop}
/-- behind a turn: to go on, or what is told -/
def Aft (G : PD.Env → Sto → Prop) (Q : Fl → Sto → Prop) : Fl → Sto → Prop
  | .nx ρ, st => G ρ st
  | .ct ρ, st => G ρ st
  | .bk ρ, st => Q (.nx ρ) st
  | .rt p, st => Q (.rt p) st
theorem ok_for {g : PV → PD.Env → Mo PD.Env} {f : PD.Env → Mo Fl} {chk : Sto → Prop} (P : List PV → PD.Env → Sto → Prop) (hc : ∀ l ρ st, P l ρ st → chk st) (he : ∀ ρ st, P [] ρ st → Q (.nx ρ) st)
    (step : ∀ q l ρ st, P (q :: l) ρ st → Ok (g q ρ st) (fun ρ1 st1 => Ok (f ρ1 st1) (Aft (P l) Q))) : ∀ l ρ st, P l ρ st → Ok (foF g f chk l ρ st) Q
  | [], ρ, st, h => by
    unfold foF
    rw [if_pos (hc _ _ _ h)]
    exact ok_ok.mpr (he ρ st h)
  | q :: l, ρ, st, h => by
    unfold foF
    rw [if_pos (hc _ _ _ h)]
    rw [ok_bnd]
    refine (step q l ρ st h).imp fun ρ1 st1 h1 => ?_
    rw [ok_bnd]
    refine h1.imp fun fl st2 h2 => ?_
    cases fl with
    | nx ρ' => exact ok_for P hc he step l ρ' st2 h2
    | ct ρ' => exact ok_for P hc he step l ρ' st2 h2
    | bk ρ' => exact ok_ok.mpr h2
    | rt p => exact ok_ok.mpr h2
theorem ok_wh {dt : PD.Env → Mo Bool} {f : PD.Env → Mo Fl} (I : Nat → PD.Env → Sto → Prop) (step : ∀ n ρ st, I n ρ st → Ok (dt ρ st) (fun b st1 => if b = true then Ok (f ρ st1) (Aft (fun ρ' st' => ∃ m, m < n ∧ I m ρ' st') Q) else Q (.nx ρ) st1)) :
    ∀ n ρ st, I n ρ st → Ok (dWh dt f ρ st) Q := by
  intro n
  induction n using Nat.strongRecOn with
  | _ n ih =>
    intro ρ st h
    rw [dWh_eq, ok_bnd]
    refine (step n ρ st h).imp fun b st1 h1 => ?_
    cases b with
    | false => exact ok_ok.mpr h1
    | true =>
      rw [if_pos rfl] at h1 ⊢
      rw [ok_bnd]
      refine h1.imp fun fl st2 h2 => ?_
      cases fl with
      | nx ρ' => obtain ⟨m, hm, z⟩ := h2; exact ih m hm ρ' st2 z
      | ct ρ' => obtain ⟨m, hm, z⟩ := h2; exact ih m hm ρ' st2 z
      | bk ρ' => exact ok_ok.mpr h2
      | rt p => exact ok_ok.mpr h2
end
/-- a loop that leaves the store, and returns r at the first bad item -/
theorem for_find {g : PV → PD.Env → Mo PD.Env} {f : PD.Env → Mo Fl} {chk : Sto → Prop} {st : Sto} (I : PD.Env → Prop) (bad : PV → Bool) (r : PV) (hc : chk st) : ∀ (l : List PV) (ρ : PD.Env), (∀ q ∈ l, ∀ ρ, I ρ → Ok (g q ρ st) (fun ρ1 s1 => Ok (f ρ1 s1) (fun fl s2 => s2 = st ∧ if bad q = true then fl = .rt r else ∃ ρ', I ρ' ∧ (fl = .nx ρ' ∨ fl = .ct ρ')))) → I ρ →
    Ok (foF g f chk l ρ st) (fun fl s => s = st ∧ if l.any bad = true then fl = .rt r else ∃ ρ', I ρ' ∧ fl = .nx ρ')
  | [], ρ, _, hI => by
    unfold foF
    rw [if_pos hc]
    exact ok_ok.mpr ⟨rfl, by rw [if_neg (by simp)]; exact ⟨ρ, hI, rfl⟩⟩
  | q :: l, ρ, h, hI => by
    unfold foF
    rw [if_pos hc, ok_bnd]
    refine (h q (List.mem_cons_self ..) ρ hI).imp fun ρ1 s1 h1 => ?_
    rw [ok_bnd]
    refine h1.imp fun fl s2 h2 => ?_
    obtain ⟨rfl, h2⟩ := h2
    rw [List.any_cons]
    cases hb : bad q with
    | true =>
      rw [hb, if_pos rfl] at h2
      subst h2
      exact ok_ok.mpr ⟨rfl, by rw [Bool.true_or, if_pos rfl]⟩
    | false =>
      rw [hb, if_neg (by simp)] at h2
      obtain ⟨ρ', hI', e⟩ := h2
      rw [Bool.false_or]
      have ih := for_find I bad r hc l ρ' (fun q hq => h q (List.mem_cons_of_mem _ hq)) hI'
      rcases e with rfl | rfl
      · exact ih
      · exact ih
/-! ### comprehensions -/
theorem ok_lc {pt : Pt} {dt : PD.Env → Mo Bool} {d : PD.Env → Mo PV} {chk : Sto → Prop} {ρ : PD.Env} {Q : List PV → Sto → Prop} (P : List PV → List PV → Sto → Prop) (hc : ∀ l acc st, P l acc st → chk st) (he : ∀ acc st, P [] acc st → Q acc st)
    (step : ∀ q l acc st, P (q :: l) acc st → ∃ ρ1, Pt.go pt q ρ = some ρ1 ∧ Ok (dt ρ1 st) (fun b st1 => if b = true then Ok (d ρ1 st1) (fun y st2 => acc.length < 16777216 ∧ P l (acc ++ [y]) st2) else P l acc st1)) : ∀ l acc st, P l acc st → Ok (lcF pt dt d chk ρ l acc st) Q
  | [], acc, st, h => by
    unfold lcF
    rw [if_pos (hc _ _ _ h)]
    exact ok_ok.mpr (he acc st h)
  | q :: l, acc, st, h => by
    unfold lcF
    rw [if_pos (hc _ _ _ h)]
    obtain ⟨ρ1, e, z⟩ := step q l acc st h
    rw [e]
    dsimp only
    rw [ok_bnd, ok_nox]
    refine z.imp fun b st1 z1 => ?_
    cases b with
    | false => exact ok_lc P hc he step l acc st1 z1
    | true =>
      rw [if_pos rfl] at z1 ⊢
      rw [ok_bnd, ok_nox]
      refine z1.imp fun y st2 z2 => ?_
      rw [if_pos z2.1]
      exact ok_lc P hc he step l _ st2 z2.2
/-- without effect on the store -/
theorem lc_pure {pt : Pt} {dt : PD.Env → Mo Bool} {d : PD.Env → Mo PV} {chk : Sto → Prop} {ρ : PD.Env} {st : Sto} (t : PV → Bool) (f : PV → PV) (hc : chk st) : ∀ (l acc : List PV), (∀ q ∈ l, ∃ ρ1, Pt.go pt q ρ = some ρ1 ∧ dt ρ1 st = .ok (t q) st ∧ (t q = true → d ρ1 st = .ok (f q) st)) → acc.length + l.length ≤ 16777216 →
    lcF pt dt d chk ρ l acc st = .ok (acc ++ (l.filter t).map f) st
  | [], acc, _, _ => by
    unfold lcF
    rw [if_pos hc]
    simp
  | q :: l, acc, h, hl => by
    unfold lcF
    rw [if_pos hc]
    obtain ⟨ρ1, e, e1, e2⟩ := h q (List.mem_cons_self ..)
    rw [e]
    dsimp only
    unfold bnd nox
    rw [e1]
    dsimp only
    rw [List.length_cons] at hl
    cases ht : t q with
    | false =>
      rw [if_neg (by simp)]
      rw [lc_pure t f hc l acc (fun q hq => h q (List.mem_cons_of_mem _ hq)) (by omega), List.filter_cons_of_neg (by simp [ht])]
    | true =>
      rw [if_pos rfl, e2 ht]
      dsimp only
      rw [if_pos (by omega), lc_pure t f hc l _ (fun q hq => h q (List.mem_cons_of_mem _ hq)) (by rw [List.length_append, List.length_singleton]; omega), List.filter_cons_of_pos ht, List.map_cons, List.append_assoc]
      rfl
theorem gx_pure {sv : Bool} {pt : Pt} {dt : PD.Env → Mo Bool} {d : PD.Env → Mo PV} {chk : Sto → Prop} {ρ : PD.Env} {st : Sto} (f : PV → Bool) (hc : chk st) : ∀ (l : List PV), (∀ q ∈ l, ∃ ρ1, Pt.go pt q ρ = some ρ1 ∧ dt ρ1 st = .ok true st ∧ d ρ1 st = .ok (.bl (f q)) st) →
    gxF sv pt dt d chk ρ l st = .ok (.bl (if sv = true then l.any f else l.all f)) st
  | [], _ => by
    unfold gxF
    rw [if_pos hc]
    cases sv <;> rfl
  | q :: l, h => by
    unfold gxF
    rw [if_pos hc]
    obtain ⟨ρ1, e, e1, e2⟩ := h q (List.mem_cons_self ..)
    rw [e]
    dsimp only
    unfold bnd nox
    rw [e1]
    dsimp only
    rw [if_pos rfl, e2]
    dsimp only [blM]
    have ih := gx_pure (sv := sv) f hc l fun q hq => h q (List.mem_cons_of_mem _ hq)
    cases sv <;> cases hf : f q <;> simp_all
/-! ### the store -/
theorem dVar_ok {i : Nat} {ρ : PD.Env} {st : Sto} {p : PV} (h : ρ[i]? = some (some p)) : dVar i ρ st = .ok p st := by
  unfold dVar
  rw [h]
end PD
/-! PD: denotations, step by step. -/
namespace PD
open PySem PySem.Spec L2
section
variable {α β : Type} {Q : α → Sto → Prop} {st : Sto} {ρ : PD.Env} {i j : Nat} {p q z : PV} {da db dc d : PD.Env → Mo PV} {dt du : PD.Env → Mo Bool} {dl dm : PD.Env → Mo (List PV)} {f f1 f2 : PD.Env → Mo Fl} {l m : List PV}
@[simp] theorem ok_ite {c : Prop} [Decidable c] {a b : Res α} : Ok (if c then a else b) Q ↔ if c then Ok a Q else Ok b Q := by split <;> exact Iff.rfl
@[simp] theorem ok_ite_app {c : Prop} [Decidable c] {a b : Mo α} : Ok ((if c then a else b) st) Q ↔ if c then Ok (a st) Q else Ok (b st) Q := by split <;> exact Iff.rfl
@[simp] theorem e_var : dVar i ρ st = match ρ[i]? with | some (some p) => .ok p st | _ => .stuck := rfl
@[simp] theorem e_C : dC p ρ st = .ok p st := rfl
@[simp] theorem e_bin {g : PV → PV → Mo PV} : dBin g da db ρ = bnd (da ρ) fun p => bnd (db ρ) fun q => g p q := rfl
@[simp] theorem e_un {g : PV → Mo PV} : dUn g da ρ = bnd (da ρ) g := rfl
@[simp] theorem e_B : dB d ρ = bnd (d ρ) blM := rfl
@[simp] theorem e_andV : dAndV da db ρ = bnd (da ρ) fun q => bnd (blM q) fun b => if b = true then db ρ else fun st => .ok (.bl false) st := rfl
@[simp] theorem e_orV : dOrV da db ρ = bnd (da ρ) fun q => bnd (blM q) fun b => if b = true then fun st => .ok (.bl true) st else db ρ := rfl
@[simp] theorem e_notV : dNotV da ρ = bnd (da ρ) fun q => bnd (blM q) fun b => fun st => .ok (.bl (!b)) st := rfl
@[simp] theorem e_if : dIf dt da db ρ = bnd (dt ρ) fun b => if b = true then da ρ else db ρ := rfl
@[simp] theorem e_chain {g g' : PV → PV → Mo PV} : dChain g g' da db dc ρ = bnd (da ρ) fun p => bnd (db ρ) fun q => bnd (g p q) fun z => bnd (blM z) fun b => if b = true then bnd (dc ρ) fun w => g' q w else fun st => .ok (.bl false) st := rfl
@[simp] theorem e_isi {t : Kd} : dIsi t d ρ = bnd (d ρ) fun q => bnd (kdM q) fun kd => fun st => .ok (.bl (isK kd t)) st := rfl
@[simp] theorem e_cons : dCons da dl ρ = bnd (da ρ) fun p => bnd (dl ρ) fun ps => fun st => .ok (p :: ps) st := rfl
@[simp] theorem e_andT : dAndT dt du ρ = bnd (dt ρ) fun b => if b = true then du ρ else fun st => .ok false st := rfl
@[simp] theorem e_orT : dOrT dt du ρ = bnd (dt ρ) fun b => if b = true then fun st => .ok true st else du ρ := rfl
@[simp] theorem e_notT : dNotT dt ρ = bnd (dt ρ) fun b => fun st => .ok (!b) st := rfl
@[simp] theorem e_sl {d1 d2 : PD.Env → Mo (Option Int)} {g : PV → Option Int → Option Int → Mo PV} : dSl d d1 d2 g ρ = bnd (d ρ) fun q => bnd (d1 ρ) fun lo => bnd (d2 ρ) fun hi => g q lo hi := rfl
@[simp] theorem e_slL {d1 d2 : PD.Env → Mo (Option Int)} : dSlL d d1 d2 ρ = bnd (d ρ) fun q => bnd (d1 ρ) fun lo => bnd (d2 ρ) fun hi => bnd (lstM q) fun l => fun st => .ok (cutP l lo hi) st := rfl
@[simp] theorem e_yes : dYes ρ st = .ok true st := rfl
/-! statements -/
@[simp] theorem e_nil : dNil ρ st = .ok (.nx ρ) st := rfl
@[simp] theorem e_brk : dBrk ρ st = .ok (.bk ρ) st := rfl
@[simp] theorem e_cnt : dCnt ρ st = .ok (.ct ρ) st := rfl
@[simp] theorem e_ret : dRet d ρ = bnd (d ρ) fun q => fun st => .ok (.rt q) st := rfl
@[simp] theorem e_drop : dDrop d ρ = bnd (d ρ) fun _ => fun st => .ok (.nx ρ) st := rfl
@[simp] theorem e_ifS : dIfS dt f1 f2 ρ = bnd (dt ρ) fun b => if b = true then f1 ρ else f2 ρ := rfl
@[simp] theorem e_set : dSet i d ρ = bnd (d ρ) fun q => fun st => .ok (.nx (ρ.set i (some q))) st := rfl
@[simp] theorem e_asg {g : PV → PD.Env → Mo PD.Env} : dAsg d g ρ = bnd (d ρ) fun q => bnd (g q ρ) fun ρ' => fun st => .ok (.nx ρ') st := rfl
@[simp] theorem e_par : dPar i j dl ρ = bnd (dl ρ) fun l => match l with
  | [q, z] => fun st => .ok (.nx ((ρ.set i (some q)).set j (some z))) st
  | _ => fail := rfl
@[simp] theorem e_aug {g : Int → Int → Int} : dAug g i d ρ = bnd (dVar i ρ) fun q => bnd (d ρ) fun z => bnd (oI (fun x y => .int (g x y)) q z) fun w => fun st => .ok (.nx (ρ.set i (some w))) st := rfl
@[simp] theorem e_gNm : gNm i q ρ st = .ok (ρ.set i (some q)) st := rfl
@[simp] theorem e_gNl : gNl [] ρ st = .ok ρ st := rfl
@[simp] theorem e_gCs {g : PV → PD.Env → Mo PD.Env} {gs : List PV → PD.Env → Mo PD.Env} : gCs g gs (q :: l) ρ = bnd (g q ρ) fun ρ' => gs l ρ' := rfl
@[simp] theorem e_gTp {n : Nat} {gs : List PV → PD.Env → Mo PD.Env} : gTp n gs (.tup l) ρ st = if l.length = n then gs l ρ st else .stuck := rfl
@[simp] theorem e_gSb : gSb da db z ρ = bnd (da ρ) fun q => bnd (db ρ) fun i => bnd (setM q i z) fun _ => fun st => .ok ρ st := rfl
/-- behind a statement -/
def seqK (f2 : PD.Env → Mo Fl) (Q : Fl → Sto → Prop) : Fl → Sto → Prop
  | .nx ρ', s => Ok (f2 ρ' s) Q
  | .rt p, s => Q (.rt p) s
  | .bk ρ', s => Q (.bk ρ') s
  | .ct ρ', s => Q (.ct ρ') s
@[simp] theorem seqK_nx {Q : Fl → Sto → Prop} : seqK f2 Q (.nx ρ) st ↔ Ok (f2 ρ st) Q := Iff.rfl
@[simp] theorem seqK_rt {Q : Fl → Sto → Prop} : seqK f2 Q (.rt p) st ↔ Q (.rt p) st := Iff.rfl
@[simp] theorem seqK_bk {Q : Fl → Sto → Prop} : seqK f2 Q (.bk ρ) st ↔ Q (.bk ρ) st := Iff.rfl
@[simp] theorem seqK_ct {Q : Fl → Sto → Prop} : seqK f2 Q (.ct ρ) st ↔ Q (.ct ρ) st := Iff.rfl
@[simp] theorem ok_seq {Q : Fl → Sto → Prop} : Ok (dSeq f1 f2 ρ st) Q ↔ Ok (f1 ρ st) (seqK f2 Q) := by
  unfold dSeq
  rw [ok_bnd]
  have e : ∀ fl s, (Ok ((match fl with | .nx ρ' => f2 ρ' | r => fun st => .ok r st : Mo Fl) s) Q) = seqK f2 Q fl s := fun fl s => by cases fl <;> first | rfl | exact propext ok_ok
  have : (fun b st1 => Ok ((match b with | .nx ρ' => f2 ρ' | r => fun st => .ok r st : Mo Fl) st1) Q) = seqK f2 Q := by funext fl s; exact e fl s
  exact iff_of_eq (congrArg (Ok (f1 ρ st)) this)
@[simp] theorem aft_nx {G : PD.Env → Sto → Prop} {Q : Fl → Sto → Prop} : Aft G Q (.nx ρ) st ↔ G ρ st := Iff.rfl
@[simp] theorem aft_ct {G : PD.Env → Sto → Prop} {Q : Fl → Sto → Prop} : Aft G Q (.ct ρ) st ↔ G ρ st := Iff.rfl
@[simp] theorem aft_bk {G : PD.Env → Sto → Prop} {Q : Fl → Sto → Prop} : Aft G Q (.bk ρ) st ↔ Q (.nx ρ) st := Iff.rfl
@[simp] theorem aft_rt {G : PD.Env → Sto → Prop} {Q : Fl → Sto → Prop} : Aft G Q (.rt p) st ↔ Q (.rt p) st := Iff.rfl
@[simp] theorem retF_rt : retF (.rt p) st = .ok p st := rfl
@[simp] theorem retF_nx : retF (.nx ρ) st = .ok .non st := rfl
@[simp] theorem e_body {m : Nat} : bodyF m f l = bnd (f (start0 m l)) retF := rfl
@[simp] theorem e_for {ds : PD.Env → Mo Src} {g : PV → PD.Env → Mo PD.Env} : dFor ds g f ρ = bnd (ds ρ) fun S => foF g f S.chk S.l ρ := rfl
@[simp] theorem e_lc {ds : PD.Env → Mo Src} {pt : Pt} {vs : List Nat} : dLc ds pt dt d vs ρ = bnd (ds ρ) fun S => lcF pt dt d S.chk (wipeE ρ vs) S.l [] := rfl
@[simp] theorem e_gx {sv : Bool} {ds : PD.Env → Mo Src} {pt : Pt} {vs : List Nat} : dGx sv ds pt dt d vs ρ = bnd (ds ρ) fun S => gxF sv pt dt d S.chk (wipeE ρ vs) S.l := rfl
/-! operations -/
@[simp] theorem o_I {g : Int → Int → PV} {a b : Int} : oI g (PV.int a) (PV.int b) st = .ok (g a b) st := rfl
@[simp] theorem o_IC {C : Int → Int → Prop} [∀ i j, Decidable (C i j)] {g : Int → Int → PV} {a b : Int} : oIC C g (PV.int a) (PV.int b) st = if C a b then .ok (g a b) st else .stuck := rfl
@[simp] theorem o_addI {a b : Int} : oAdd (PV.int a) (PV.int b) st = .ok (PV.int (a + b)) st := rfl
@[simp] theorem o_addT : oAdd (.tup l) (.tup m) st = if l.length + m.length ≤ 16777216 then .ok (.tup (l ++ m)) st else .stuck := rfl
@[simp] theorem o_eq {ng : Bool} : oEq ng p q st = if okd 60 p = true ∧ okd 60 q = true then .ok (.bl (if ng then !eqb p q else eqb p q)) st else .stuck := rfl
@[simp] theorem o_isN {ng : Bool} : oIsN ng p q st = .ok (.bl (match p with | .non => !ng | _ => ng)) st := rfl
@[simp] theorem o_isB {ng a b : Bool} : oIsB ng (.bl a) (.bl b) st = .ok (.bl (if ng then !decide (a = b) else decide (a = b))) st := rfl
@[simp] theorem o_neg {a : Int} : oNeg (PV.int a) st = .ok (PV.int (-a)) st := rfl
@[simp] theorem m_bl {b : Bool} : blM (.bl b) st = .ok b st := rfl
@[simp] theorem m_truB {b : Bool} : truM (.bl b) st = .ok b st := rfl
@[simp] theorem m_kdN : kdM .non st = .ok .non st := rfl
@[simp] theorem m_kdB {b : Bool} : kdM (.bl b) st = .ok .bl st := rfl
@[simp] theorem m_kdI {a : Int} : kdM (PV.int a) st = .ok Kd.int st := rfl
@[simp] theorem m_kdS {a : Str} : kdM (.str a) st = .ok .str st := rfl
@[simp] theorem m_kdT : kdM (.tup l) st = .ok .tup st := rfl
@[simp] theorem m_lenT : lenM (.tup l) st = .ok (PV.int l.length) st := rfl
@[simp] theorem m_lenS {s : Str} : lenM (.str s) st = if s.length ≤ 16777216 then .ok (PV.int s.length) st else .stuck := rfl
@[simp] theorem m_lenK {ns : List Int} : lenM (.kl ns) st = .ok (PV.int ns.length) st := by
  show Res.ok (PV.int (ns.map PV.int).length) st = _
  rw [List.length_map]
@[simp] theorem m_lenL {n : Nat} : lenM (.loc n) st = match st[n]? with | some (.lst _ l) => .ok (PV.int l.length) st | _ => .stuck := by
  show (match seqOf st (.loc n) with | some l => Res.ok (PV.int l.length) st | none => .stuck) = _
  have e : seqOf st (.loc n) = match st[n]? with | some (.lst _ l) => some l | _ => none := rfl
  rw [e]
  cases st[n]? with
  | none => rfl
  | some o => cases o <;> rfl
@[simp] theorem m_sqT : sqM (.tup l) st = .ok l st := rfl
@[simp] theorem m_sqL {n : Nat} : sqM (.loc n) st = match st[n]? with | some (.lst _ l) => .ok l st | _ => .stuck := by
  show (match seqOf st (.loc n) with | some l => Res.ok l st | none => .stuck) = _
  have e : seqOf st (.loc n) = match st[n]? with | some (.lst _ l) => some l | _ => none := rfl
  rw [e]
  cases st[n]? with
  | none => rfl
  | some o => cases o <;> rfl
@[simp] theorem m_ixT {a : Int} : oIx (.tup l) (PV.int a) st = match atI l a with | some z => .ok z st | none => .stuck := rfl
@[simp] theorem m_ixL {n : Nat} {a : Int} : oIx (.loc n) (PV.int a) st = match st[n]? with | some (.lst _ l) => (match atI l a with | some z => .ok z st | none => .stuck) | _ => .stuck := by
  show (match seqOf st (.loc n) with | some l => (match atI l a with | some z => Res.ok z st | none => .stuck) | none => .stuck) = _
  have e : seqOf st (.loc n) = match st[n]? with | some (.lst _ l) => some l | _ => none := rfl
  rw [e]
  cases st[n]? with
  | none => rfl
  | some o => cases o <;> rfl
@[simp] theorem m_ixQ {a : Int} : ixQ l (PV.int a) st = match atI l a with | some z => .ok z st | none => .stuck := rfl
@[simp] theorem m_tup : tupM l st = if l.length ≤ 16777216 then .ok (.tup l) st else .stuck := rfl
@[simp] theorem m_cap : capM l st = if l.length ≤ 16777216 then .ok l st else .stuck := rfl
@[simp] theorem m_tupQ : tupQ l st = .ok (.tup l) st := rfl
@[simp] theorem m_lay : layL l st = .ok (.loc st.length) (st ++ [.lst false l]) := rfl
@[simp] theorem m_lstL {n : Nat} : lstM (.loc n) st = match st[n]? with | some (.lst _ l) => .ok l st | _ => .stuck := rfl
@[simp] theorem m_lstK {ns : List Int} : lstM (.kl ns) st = .ok (ns.map PV.int) st := rfl
@[simp] theorem m_lstW {n : Nat} : lstW (.loc n) st = match st[n]? with | some (.lst false l) => .ok (n, l) st | _ => .stuck := rfl
@[simp] theorem m_lstU {n : Nat} : lstU (.loc n) st = match st[n]? with | some (.lst false l) => .ok l st | _ => .stuck := rfl
@[simp] theorem m_setL {n : Nat} : setL n l z st = if l.length ≤ 16777216 then .ok z (st.set n (.lst false l)) else .stuck := rfl
@[simp] theorem m_app : appM q [z] = bnd (lstW q) fun nl => setL nl.1 (nl.2 ++ [z]) .non := rfl
@[simp] theorem m_popAt {a : Int} : popAtM q [PV.int a] = bnd (lstW q) fun nl => if -9223372036854775808 ≤ a ∧ a < 9223372036854775808 then (match seqIndex? a nl.2.length with
    | some j => match nl.2[j]? with
      | some y => setL nl.1 (nl.2.eraseIdx j) y
      | none => fail
    | none => fail) else fail := rfl
@[simp] theorem m_set {n : Nat} {a : Int} : setM (.loc n) (PV.int a) z st = match st[n]? with
    | some (.lst false l) => match ixN l.length a with
      | some j => .ok () (st.set n (.lst false (l.set j z)))
      | none => .stuck
    | _ => .stuck := rfl
@[simp] theorem m_int {a : Int} : intV (PV.int a) st = .ok (PV.int a) st := rfl
@[simp] theorem m_intM {a : Int} : intM (PV.int a) st = .ok (some a) st := rfl
@[simp] theorem m_slT {lo hi : Option Int} : slT (.tup l) lo hi st = .ok (.tup (cutP l lo hi)) st := rfl
@[simp] theorem m_call {n : Nat} {F : List PV → Mo PV} : callM n F l st = if l.length = n then F l st else .stuck := rfl
@[simp] theorem m_fn {tab : Nat → Option (List PV → Mo PV)} : fnM tab (.fn j) st = match tab j with | some F => .ok F st | none => .stuck := rfl
@[simp] theorem m_srcT : srcM (.tup l) st = .ok (sV l) st := rfl
@[simp] theorem m_srcL {n : Nat} : srcM (.loc n) st = match st[n]? with | some (.lst _ l) => .ok (sL n l) st | _ => .stuck := rfl
@[simp] theorem m_sv : svM l st = .ok (sV l) st := rfl
@[simp] theorem m_rg1 {a : Int} : rg1M [PV.int a] st = if RgOk a then .ok (sV (rgP 0 a.toNat)) st else .stuck := rfl
@[simp] theorem m_rg2 {a b : Int} : rg2M [PV.int a, PV.int b] st = if RgOk a ∧ RgOk b then .ok (sV (rgP a (b - a).toNat)) st else .stuck := rfl
@[simp] theorem sV_chk : (sV l).chk st ↔ True := Iff.rfl
@[simp] theorem sV_l : (sV l).l = l := rfl
end
end PD
/-! PD: recursion's ground, and the store. -/
namespace PD
open PySem PySem.Spec L2
section
variable {P : Program} {w : World} {W : Wd} {base : Heap} {k : Nat} {f : Addr}
theorem DFn.none_ {x qual : Str} {params : Arguments} {body : List Stmt} {scope : Scope} {fd : FuncData} {N ps : List Str} (hcx : W.cx = CX0) (Fd : FunD W.K x qual params body scope [] [] f fd) (S : FnScope N ps scope) (hb : Binds W.K fd ps []) :
    DFn P w W base (k + 1) f ps.length (fun _ => fail) := ⟨⟨fd, ps, rfl, Fd.ok S spF_len fun cdv A outer s H vs Q E hr z => by
  obtain ⟨ι, qs, st, rs, rr, hl, g⟩ := z
  exact g.elim, hb⟩, Fd.kp⟩
end
@[simp] theorem eqb_int {i j : Int} : eqb (.int i) (.int j) = (i == j) := by simp [eqb]
@[simp] theorem eqb_bl {i j : Bool} : eqb (.bl i) (.bl j) = (i == j) := by cases i <;> cases j <;> simp [eqb]
theorem bls_map (f : PV → Bool) {st : Sto} : ∀ l : List PV, blsM (l.map fun q => .bl (f q)) st = .ok (l.map f) st
  | [] => rfl
  | q :: l => by simp only [List.map_cons, blsM, bnd, bls_map f l]
theorem anyQ_map (f : PV → Bool) {st : Sto} (l : List PV) : anyQ (l.map fun q => .bl (f q)) st = .ok (.bl (l.any f)) st := by
  unfold anyQ bnd
  rw [bls_map]
  simp [List.any_map]
theorem allQ_map (f : PV → Bool) {st : Sto} (l : List PV) : allQ (l.map fun q => .bl (f q)) st = .ok (.bl (l.all f)) st := by
  unfold allQ bnd
  rw [bls_map]
  simp [List.all_map]
theorem lc_map {pt : Pt} {dt : PD.Env → Mo Bool} {d : PD.Env → Mo PV} {chk : Sto → Prop} {ρ : PD.Env} {st : Sto} (f : PV → PV) (hc : chk st) (l : List PV) (h : ∀ q ∈ l, ∃ ρ1, Pt.go pt q ρ = some ρ1 ∧ dt ρ1 st = .ok true st ∧ d ρ1 st = .ok (f q) st) (hl : l.length ≤ 16777216) :
    lcF pt dt d chk ρ l [] st = .ok (l.map f) st := by
  have z := lc_pure (pt := pt) (dt := dt) (d := d) (chk := chk) (ρ := ρ) (st := st) (fun _ => true) f hc l [] (fun q hq => by
    obtain ⟨ρ1, e1, e2, e3⟩ := h q hq
    exact ⟨ρ1, e1, e2, fun _ => e3⟩) (by simpa using hl)
  rw [List.filter_eq_self.mpr (fun _ _ => rfl), List.nil_append] at z
  exact z
@[simp] theorem sL_l {n : Nat} {l : List PV} : (sL n l).l = l := rfl
@[simp] theorem e_augS {f : Int → Int → Int} {da db d : Env → Mo PV} {ρ : PD.Env} : dAugS f da db d ρ = bnd (da ρ) fun q => bnd (db ρ) fun i => bnd (bnd (lstM q) fun l => ixQ l i) fun x => bnd (d ρ) fun y => bnd (oI (fun x y => .int (f x y)) x y) fun z => bnd (setM q i z) fun _ => fun st => .ok (.nx ρ) st := rfl
theorem ixN_nat {n i : Nat} (h : i < n) : ixN n (i : Int) = some i := by
  unfold ixN
  have h1 : (i : Int) < (n : Int) := by omega
  simp [h1]
end PD
/-! PD: a law's end. -/
namespace PD
open PySem PySem.Spec PyProof.Rows L2
/-- a list of ints is what the script is -/
def ScrAt (p : PV) (ns : List Int) (st : Sto) : Prop := p = .kl ns ∨ ∃ i lk, p = .loc i ∧ st[i]? = some (.lst lk (ns.map PV.int))
theorem rs_nil {W : Wd} {H : Hp} (h1 : ∀ P ∈ W.tb, H P = some (.tbl #[])) (h2 : ∀ p ∈ W.tl, H p.1 = some (.tbl #[])) : RS W [] [] H :=
  ⟨rfl, List.nodup_nil, fun n o a h => by simp at h, fun P hP => ⟨#[], h1 P hP, True.intro⟩, fun p hp => ⟨#[], h2 p hp, True.intro, fun pos cv h => by cases h⟩⟩
theorem rs_one {W : Wd} {H : Hp} {a : Addr} {o : Ob} (h1 : ∀ P ∈ W.tb, H P = some (.tbl #[])) (h2 : ∀ p ∈ W.tl, H p.1 = some (.tbl #[])) (h3 : RO W [a] H a o) : RS W [a] [o] H :=
  ⟨rfl, by simp, fun n u b h1 h2 => by
    cases n with
    | zero =>
      cases h1
      cases h2
      exact h3
    | succ n => simp at h1, fun P hP => ⟨#[], h1 P hP, True.intro⟩, fun p hp => ⟨#[], h2 p hp, True.intro, fun pos cv h => by cases h⟩⟩
theorem sp_law {W : Wd} {H : Hp} {a : Addr} {ns : List Int} {n : Nat} {F : List PV → Mo PV} (h1 : ∀ P ∈ W.tb, H P = some (.tbl #[])) (h2 : ∀ p ∈ W.tl, H p.1 = some (.tbl #[])) (hl : ns.length ≤ n) (hn : n ≤ 10000) (hs : SqL W.K H a (ns.map V.int))
    (hF : ∀ (p : PV) (ns : List Int) (st : Sto), ScrAt p ns st → ns.length ≤ n → Ok (F [p] st) (fun q _ => q = .bl true)) : spF W 1 F [.ref a] H (fun v _ => v = .bl true) fun _ _ _ => False := by
  have good : ∀ (ι : List Addr) (p : PV) (st : Sto), ScrAt p ns st → Good W E0 ι H (F [p] st) (kQ W fun v _ => v = .bl true) := fun ι p st h => by
    obtain ⟨q, s, e, rfl⟩ := (hF p ns st h hl).ex
    rw [e]
    intro ι' H' m rs v hv
    cases hv
    rfl
  rcases hs with hs | hs
  · rcases hs with e | ⟨o, e⟩
    · exact ⟨[a], [.loc 0], [.lst false (ns.map PV.int)], rs_one h1 h2 ⟨_, e, RVs.ints ns, by rw [List.length_map]; omega⟩, .cons (.loc rfl) .nil, rfl, good _ _ _ (.inr ⟨0, false, rfl, rfl⟩)⟩
    · exact ⟨[a], [.loc 0], [.lst true (ns.map PV.int)], rs_one h1 h2 ⟨o, _, e, RVs.ints ns, by rw [List.length_map]; omega⟩, .cons (.loc rfl) .nil, rfl, good _ _ _ (.inr ⟨0, true, rfl, rfl⟩)⟩
  · exact ⟨[], [.kl ns], [], rs_nil h1 h2, .cons (.kl hs (by omega)) .nil, rfl, good _ _ _ (.inl rfl)⟩
theorem lawAtS_of {l : PySem.W.OpenLaw} {w : World} {W : Wd} {h : Heap} {k n : Nat} {fa : Addr} {F : List PV → Mo PV} {cs : List (Addr × Addr)} {x qual a0 : Str} {params : Arguments} {body : List Stmt} {scope : Scope} {fd : FuncData}
    (hcs : ∀ p ∈ cs, h.get? p.2 = some { cls := .none, data := .fields #[] }) (hK : ∀ p ∈ cs, W.K.lookup p.2 = none) (hC : ∀ p ∈ cs, PySem.W.CodeHd h p.1 p.2)
    (Fd : FunD W.K x qual params body scope [] [] fa fd) (hb : ∀ (kV doc pm : Value) (an : Option Addr) (cdv ct : Value) (us : List Value), us.length = [a0].length → bindArgs (PySem.W.fnOf x qual params body scope .none kV doc pm an cdv ct) ⟨us, []⟩ = pure ([a0].zip us))
    (htb : ∀ P ∈ W.tb, ∃ p ∈ cs, p.2 = P) (htl : ∀ q ∈ W.tl, ∃ p ∈ cs, p.2 = q.1) (hn : n ≤ 10000)
    (hF : ∀ (p : PV) (ns : List Int) (st : Sto), ScrAt p ns st → ns.length ≤ n → Ok (F [p] st) (fun q _ => q = .bl true))
    (ok : ∀ base : Heap, W.K.In base → base.Ns mainGlobals W.mg → (∀ p ∈ cs, GxR.TabB base W.mg p.1 p.2) → FnOk l.prog w W.K W.mg base W.cx k fa fd [a0] (spF W 1 F)) : LamX.LawAtS l w W.K W.cx k n a0 W.mg fa h := by
  refine ⟨fd, cs, spF W 1 F, hcs, hK, hC, fun s u => Fd.bindsA (ps := [a0]) hb s [u] rfl, fun H a ns hl _ hT hS => sp_law (fun P hP => ?_) (fun q hq => ?_) hl hn hS hF, fun base h1 h2 h3 => ok base h1 h2 fun p hp => ?_⟩
  · obtain ⟨p, hp, rfl⟩ := htb P hP
    exact hT p hp
  · obtain ⟨p, hp, e⟩ := htl q hq
    rw [← e]
    exact hT p hp
  · obtain ⟨c, b, g⟩ := h3 p hp
    exact ⟨c, b, g⟩
end PD
namespace K48
open PySem PySem.Spec PyProof.Rows L2 PD
def top (i : Nat) : Stmt := PySem.Challenge.pw_backtohand_k48_whole_stays_and_shelves.main.body.getD i (.Pass ⟨0, 0, 0, 0⟩)
abbrev J_is_number : Nat := 0
abbrev J_is_moment : Nat := 1
abbrev J_is_tuple_of : Nat := 2
abbrev J_is_stay : Nat := 3
abbrev J_is_stays : Nat := 4
abbrev J_is_placing : Nat := 5
abbrev J_has_moment : Nat := 6
abbrev J_meets : Nat := 7
abbrev J_is_within : Nat := 8
abbrev J_crosses : Nat := 9
abbrev J_present : Nat := 10
abbrev J_never_together : Nat := 11
abbrev J_good_for_shelves : Nat := 12
abbrev J_good_for_chutes : Nat := 13
abbrev J_good_for_piles : Nat := 14
abbrev J_on_shelves : Nat := 15
abbrev J__law_box : Nat := 16
abbrev J__law_load : Nat := 17
abbrev J__law_draw : Nat := 18
abbrev J__law_same : Nat := 19
abbrev J__law_stays : Nat := 20
abbrev J__law_present : Nat := 21
abbrev J__law_meets : Nat := 22
abbrev J__law_within : Nat := 23
abbrev J__law_crosses : Nat := 24
abbrev J__law_numbers : Nat := 25
abbrev J__law_bad_stays : Nat := 26
abbrev J__law_good : Nat := 27
abbrev J__law_word : Nat := 28
abbrev J__law_words : Nat := 29
abbrev J_law : Nat := 30
structure Ev (W : Wd) (base : Heap) : Prop where
  cx : W.cx = CX0
  b_all : W.mg "all" = none
  b_any : W.mg "any" = none
  b_bool : W.mg "bool" = none
  b_int : W.mg "int" = none
  b_isinstance : W.mg "isinstance" = none
  b_len : W.mg "len" = none
  b_list : W.mg "list" = none
  b_max : W.mg "max" = none
  b_min : W.mg "min" = none
  b_range : W.mg "range" = none
  b_sorted : W.mg "sorted" = none
  b_str : W.mg "str" = none
  b_tuple : W.mg "tuple" = none
  i_LAST_MOMENT : ∃ t, W.mg "LAST_MOMENT" = some (.int 1000000 t)
  i_MAX_STAYS : ∃ t, W.mg "MAX_STAYS" = some (.int 60 t)
  g_is_number : W.mg "is_number" = some (.ref (He.fAd W.K ("is_number", none)))
  a_is_number : W.fa J_is_number = some (He.fAd W.K ("is_number", none))
  D_is_number : ∃ fd, FunD W.K "is_number" "is_number" (defArgs (top 2)) (defBody (top 2)) (defScope (top 2)) [] [] (He.fAd W.K ("is_number", none)) fd
  g_is_moment : W.mg "is_moment" = some (.ref (He.fAd W.K ("is_moment", none)))
  a_is_moment : W.fa J_is_moment = some (He.fAd W.K ("is_moment", none))
  D_is_moment : ∃ fd, FunD W.K "is_moment" "is_moment" (defArgs (top 3)) (defBody (top 3)) (defScope (top 3)) [] [] (He.fAd W.K ("is_moment", none)) fd
  g_is_stay : W.mg "is_stay" = some (.ref (He.fAd W.K ("is_stay", none)))
  a_is_stay : W.fa J_is_stay = some (He.fAd W.K ("is_stay", none))
  D_is_stay : ∃ fd, FunD W.K "is_stay" "is_stay" (defArgs (top 7)) (defBody (top 7)) (defScope (top 7)) [] [] (He.fAd W.K ("is_stay", none)) fd
  g_is_tuple_of : W.mg "is_tuple_of" = some (.ref (He.fAd W.K ("is_tuple_of", none)))
  a_is_tuple_of : W.fa J_is_tuple_of = some (He.fAd W.K ("is_tuple_of", none))
  D_is_tuple_of : ∃ fd, FunD W.K "is_tuple_of" "is_tuple_of" (defArgs (top 4)) (defBody (top 4)) (defScope (top 4)) [] [] (He.fAd W.K ("is_tuple_of", none)) fd
  g_is_stays : W.mg "is_stays" = some (.ref (He.fAd W.K ("is_stays", none)))
  a_is_stays : W.fa J_is_stays = some (He.fAd W.K ("is_stays", none))
  D_is_stays : ∃ fd, FunD W.K "is_stays" "is_stays" (defArgs (top 8)) (defBody (top 8)) (defScope (top 8)) [] [] (He.fAd W.K ("is_stays", none)) fd
  g_is_placing : W.mg "is_placing" = some (.ref (He.fAd W.K ("is_placing", none)))
  a_is_placing : W.fa J_is_placing = some (He.fAd W.K ("is_placing", none))
  D_is_placing : ∃ fd, FunD W.K "is_placing" "is_placing" (defArgs (top 9)) (defBody (top 9)) (defScope (top 9)) [] [] (He.fAd W.K ("is_placing", none)) fd
  g_meets : W.mg "meets" = some (.ref (He.fAd W.K ("meets", none)))
  a_meets : W.fa J_meets = some (He.fAd W.K ("meets", none))
  D_meets : ∃ fd, FunD W.K "meets" "meets" (defArgs (top 11)) (defBody (top 11)) (defScope (top 11)) [] [] (He.fAd W.K ("meets", none)) fd
  g_is_within : W.mg "is_within" = some (.ref (He.fAd W.K ("is_within", none)))
  a_is_within : W.fa J_is_within = some (He.fAd W.K ("is_within", none))
  D_is_within : ∃ fd, FunD W.K "is_within" "is_within" (defArgs (top 12)) (defBody (top 12)) (defScope (top 12)) [] [] (He.fAd W.K ("is_within", none)) fd
  g_crosses : W.mg "crosses" = some (.ref (He.fAd W.K ("crosses", none)))
  a_crosses : W.fa J_crosses = some (He.fAd W.K ("crosses", none))
  D_crosses : ∃ fd, FunD W.K "crosses" "crosses" (defArgs (top 13)) (defBody (top 13)) (defScope (top 13)) [] [] (He.fAd W.K ("crosses", none)) fd
  g_has_moment : W.mg "has_moment" = some (.ref (He.fAd W.K ("has_moment", none)))
  a_has_moment : W.fa J_has_moment = some (He.fAd W.K ("has_moment", none))
  D_has_moment : ∃ fd, FunD W.K "has_moment" "has_moment" (defArgs (top 10)) (defBody (top 10)) (defScope (top 10)) [] [] (He.fAd W.K ("has_moment", none)) fd
  g_present : W.mg "present" = some (.ref (He.fAd W.K ("present", none)))
  a_present : W.fa J_present = some (He.fAd W.K ("present", none))
  D_present : ∃ fd, FunD W.K "present" "present" (defArgs (top 14)) (defBody (top 14)) (defScope (top 14)) [] [] (He.fAd W.K ("present", none)) fd
  g_on_shelves : W.mg "on_shelves" = some (.ref (He.fAd W.K ("on_shelves", none)))
  a_on_shelves : W.fa J_on_shelves = some (He.fAd W.K ("on_shelves", none))
  D_on_shelves : ∃ fd, FunD W.K "on_shelves" "on_shelves" (defArgs (top 20)) (defBody (top 20)) (defScope (top 20)) [] [] (He.fAd W.K ("on_shelves", none)) fd
  g__law_box : W.mg "_law_box" = some (.ref (He.fAd W.K ("_law_box", none)))
  a__law_box : W.fa J__law_box = some (He.fAd W.K ("_law_box", none))
  D__law_box : ∃ fd, FunD W.K "_law_box" "_law_box" (defArgs (top 22)) (defBody (top 22)) (defScope (top 22)) [] [] (He.fAd W.K ("_law_box", none)) fd
  g__law_load : W.mg "_law_load" = some (.ref (He.fAd W.K ("_law_load", none)))
  a__law_load : W.fa J__law_load = some (He.fAd W.K ("_law_load", none))
  D__law_load : ∃ fd, FunD W.K "_law_load" "_law_load" (defArgs (top 23)) (defBody (top 23)) (defScope (top 23)) [] [] (He.fAd W.K ("_law_load", none)) fd
  g__law_draw : W.mg "_law_draw" = some (.ref (He.fAd W.K ("_law_draw", none)))
  a__law_draw : W.fa J__law_draw = some (He.fAd W.K ("_law_draw", none))
  D__law_draw : ∃ fd, FunD W.K "_law_draw" "_law_draw" (defArgs (top 24)) (defBody (top 24)) (defScope (top 24)) [] [] (He.fAd W.K ("_law_draw", none)) fd
  g__law_same : W.mg "_law_same" = some (.ref (He.fAd W.K ("_law_same", none)))
  a__law_same : W.fa J__law_same = some (He.fAd W.K ("_law_same", none))
  D__law_same : ∃ fd, FunD W.K "_law_same" "_law_same" (defArgs (top 25)) (defBody (top 25)) (defScope (top 25)) [] [] (He.fAd W.K ("_law_same", none)) fd
  g__law_stays : W.mg "_law_stays" = some (.ref (He.fAd W.K ("_law_stays", none)))
  a__law_stays : W.fa J__law_stays = some (He.fAd W.K ("_law_stays", none))
  D__law_stays : ∃ fd, FunD W.K "_law_stays" "_law_stays" (defArgs (top 26)) (defBody (top 26)) (defScope (top 26)) [] [] (He.fAd W.K ("_law_stays", none)) fd
  g__law_present : W.mg "_law_present" = some (.ref (He.fAd W.K ("_law_present", none)))
  a__law_present : W.fa J__law_present = some (He.fAd W.K ("_law_present", none))
  D__law_present : ∃ fd, FunD W.K "_law_present" "_law_present" (defArgs (top 27)) (defBody (top 27)) (defScope (top 27)) [] [] (He.fAd W.K ("_law_present", none)) fd
  g__law_meets : W.mg "_law_meets" = some (.ref (He.fAd W.K ("_law_meets", none)))
  a__law_meets : W.fa J__law_meets = some (He.fAd W.K ("_law_meets", none))
  D__law_meets : ∃ fd, FunD W.K "_law_meets" "_law_meets" (defArgs (top 28)) (defBody (top 28)) (defScope (top 28)) [] [] (He.fAd W.K ("_law_meets", none)) fd
  g__law_within : W.mg "_law_within" = some (.ref (He.fAd W.K ("_law_within", none)))
  a__law_within : W.fa J__law_within = some (He.fAd W.K ("_law_within", none))
  D__law_within : ∃ fd, FunD W.K "_law_within" "_law_within" (defArgs (top 29)) (defBody (top 29)) (defScope (top 29)) [] [] (He.fAd W.K ("_law_within", none)) fd
  g__law_crosses : W.mg "_law_crosses" = some (.ref (He.fAd W.K ("_law_crosses", none)))
  a__law_crosses : W.fa J__law_crosses = some (He.fAd W.K ("_law_crosses", none))
  D__law_crosses : ∃ fd, FunD W.K "_law_crosses" "_law_crosses" (defArgs (top 30)) (defBody (top 30)) (defScope (top 30)) [] [] (He.fAd W.K ("_law_crosses", none)) fd
  g__law_bad_stays : W.mg "_law_bad_stays" = some (.ref (He.fAd W.K ("_law_bad_stays", none)))
  a__law_bad_stays : W.fa J__law_bad_stays = some (He.fAd W.K ("_law_bad_stays", none))
  D__law_bad_stays : ∃ fd, FunD W.K "_law_bad_stays" "_law_bad_stays" (defArgs (top 32)) (defBody (top 32)) (defScope (top 32)) [] [] (He.fAd W.K ("_law_bad_stays", none)) fd
  g__law_good : W.mg "_law_good" = some (.ref (He.fAd W.K ("_law_good", none)))
  a__law_good : W.fa J__law_good = some (He.fAd W.K ("_law_good", none))
  D__law_good : ∃ fd, FunD W.K "_law_good" "_law_good" (defArgs (top 33)) (defBody (top 33)) (defScope (top 33)) [] [] (He.fAd W.K ("_law_good", none)) fd
  g_never_together : W.mg "never_together" = some (.ref (He.fAd W.K ("never_together", none)))
  a_never_together : W.fa J_never_together = some (He.fAd W.K ("never_together", none))
  D_never_together : ∃ fd, FunD W.K "never_together" "never_together" (defArgs (top 15)) (defBody (top 15)) (defScope (top 15)) [] [] (He.fAd W.K ("never_together", none)) fd
  g_good_for_shelves : W.mg "good_for_shelves" = some (.ref (He.fAd W.K ("good_for_shelves", none)))
  a_good_for_shelves : W.fa J_good_for_shelves = some (He.fAd W.K ("good_for_shelves", none))
  D_good_for_shelves : ∃ fd, FunD W.K "good_for_shelves" "good_for_shelves" (defArgs (top 16)) (defBody (top 16)) (defScope (top 16)) [] [] (He.fAd W.K ("good_for_shelves", none)) fd
  g_good_for_chutes : W.mg "good_for_chutes" = some (.ref (He.fAd W.K ("good_for_chutes", none)))
  a_good_for_chutes : W.fa J_good_for_chutes = some (He.fAd W.K ("good_for_chutes", none))
  D_good_for_chutes : ∃ fd, FunD W.K "good_for_chutes" "good_for_chutes" (defArgs (top 17)) (defBody (top 17)) (defScope (top 17)) [] [] (He.fAd W.K ("good_for_chutes", none)) fd
  g_good_for_piles : W.mg "good_for_piles" = some (.ref (He.fAd W.K ("good_for_piles", none)))
  a_good_for_piles : W.fa J_good_for_piles = some (He.fAd W.K ("good_for_piles", none))
  D_good_for_piles : ∃ fd, FunD W.K "good_for_piles" "good_for_piles" (defArgs (top 18)) (defBody (top 18)) (defScope (top 18)) [] [] (He.fAd W.K ("good_for_piles", none)) fd
  g__law_word : W.mg "_law_word" = some (.ref (He.fAd W.K ("_law_word", none)))
  a__law_word : W.fa J__law_word = some (He.fAd W.K ("_law_word", none))
  D__law_word : ∃ fd, FunD W.K "_law_word" "_law_word" (defArgs (top 34)) (defBody (top 34)) (defScope (top 34)) [] [] (He.fAd W.K ("_law_word", none)) fd
  g__law_words : W.mg "_law_words" = some (.ref (He.fAd W.K ("_law_words", none)))
  a__law_words : W.fa J__law_words = some (He.fAd W.K ("_law_words", none))
  D__law_words : ∃ fd, FunD W.K "_law_words" "_law_words" (defArgs (top 35)) (defBody (top 35)) (defScope (top 35)) [] [] (He.fAd W.K ("_law_words", none)) fd
  g_law : W.mg "law" = some (.ref (He.fAd W.K ("law", none)))
  a_law : W.fa J_law = some (He.fAd W.K ("law", none))
  D_law : ∃ fd, FunD W.K "law" "law" (defArgs (top 36)) (defBody (top 36)) (defScope (top 36)) [] [] (He.fAd W.K ("law", none)) fd
  T_is_tuple_of : GxR.TabB base W.mg (He.cT W.K ("is_tuple_of", none)).1 (He.cT W.K ("is_tuple_of", none)).2
  p_is_tuple_of : (He.cT W.K ("is_tuple_of", none)).2 ∈ W.tb
  q_is_tuple_of : ∀ p ∈ W.tl, p.1 ≠ (He.cT W.K ("is_tuple_of", none)).2
  T_is_placing : GxR.TabB base W.mg (He.cT W.K ("is_placing", none)).1 (He.cT W.K ("is_placing", none)).2
  p_is_placing : (He.cT W.K ("is_placing", none)).2 ∈ W.tb
  q_is_placing : ∀ p ∈ W.tl, p.1 ≠ (He.cT W.K ("is_placing", none)).2
  T_on_shelves : GxR.TabB base W.mg (He.cT W.K ("on_shelves", none)).1 (He.cT W.K ("on_shelves", none)).2
  l_on_shelves : ((He.cT W.K ("on_shelves", none)).2, ("on_shelves" : Str) ++ ".<locals>." ++ "<lambda>") ∈ W.tl
  u_on_shelves : ∀ p ∈ W.tl, p.1 = (He.cT W.K ("on_shelves", none)).2 → p.2 = ("on_shelves" : Str) ++ ".<locals>." ++ "<lambda>"
abbrev N_is_number : List Str := ["value", "least", "most"]
noncomputable def d_is_number_1 : PD.Env → Mo Fl := (dRet (dAndV (dIsi .int (dVar 0)) (dAndV (dNotV (dIsi .bl (dVar 0))) (dChain oLe oLe (dVar 1) (dVar 0) (dVar 2)))))
noncomputable def d_is_number : PD.Env → Mo Fl := d_is_number_1
theorem sc_is_number : FnScope N_is_number ["value", "least", "most"] (defScope (top 2)) := C8.fnScope_by (by decide +kernel)
theorem body_is_number {P : Program} {w : World} {W : Wd} {base : Heap} (V : Ev W base)  : Body P w W base N_is_number "is_number" (defScope (top 2)) (He.fAd W.K ("is_number", none)) 2 (defBody (top 2)) d_is_number := fun cdv A outer s H E =>
  (dss_one (ds_ret (de_and (de_isi .int (de_var (i := 0)) rfl V.b_isinstance rfl V.b_int boot_int_) (de_and (de_not (de_isi .bl (de_var (i := 0)) rfl V.b_isinstance rfl V.b_bool boot_bool_)) (de_one (de_leLe (de_var (i := 1)) (de_var (i := 0)) (de_var (i := 2))))))))
theorem raw_is_number {P : Program} {w : World} {W : Wd} {base : Heap} (V : Ev W base)  : DFn P w W base 3 (He.fAd W.K ("is_number", none)) 3 (bodyF 3 d_is_number) := by
  obtain ⟨fd, F⟩ := V.D_is_number
  exact DFn.of V.cx F sc_is_number (F.bindsN fun _ _ _ _ _ _ us hl => match us, hl with | [_, _, _], _ => rfl) (body_is_number V )
/-- an integer within bounds -/
def isNum (v : PV) (lo hi : Int) : Bool := match v with
  | .int i => decide (lo ≤ i) && decide (i ≤ hi)
  | _ => false
/-- a value of the plain kinds -/
def plainV : PV → Prop
  | .loc _ => False
  | .fn _ => False
  | .kl _ => False
  | _ => True
def dom_is_number (ps : List PV) : Prop := ∃ v lo hi, ps = [v, .int lo, .int hi] ∧ plainV v
def val_is_number : List PV → PV
  | [v, .int lo, .int hi] => .bl (isNum v lo hi)
  | _ => .non
noncomputable def S_is_number : List PV → Mo PV := pureS dom_is_number val_is_number
theorem nox_is_number : NoX S_is_number := nox_pure
theorem ref_is_number : Ref 3 (bodyF 3 d_is_number) S_is_number := ref_same (fun ps st h => by
  obtain ⟨v, lo, hi, rfl, hv⟩ := h
  cases v <;> first
    | exact hv.elim
    | (simp [d_is_number, d_is_number_1, start0, isK, val_is_number, isNum]; try (split <;> simp_all <;> omega))) (fun ps m h => by
  obtain ⟨v, lo, hi, rfl, hv⟩ := h
  rfl)
@[simp] theorem is_number_ok {v : PV} {lo hi : Int} {st : Sto} (hv : plainV v) : S_is_number [v, .int lo, .int hi] st = .ok (.bl (isNum v lo hi)) st := pureS_ok ⟨v, lo, hi, rfl, hv⟩

theorem ok_is_number {P : Program} {w : World} {W : Wd} {base : Heap} (V : Ev W base) : DFn P w W base 3 (He.fAd W.K ("is_number", none)) 3 S_is_number := (raw_is_number V ).ref ref_is_number nox_is_number
abbrev N_is_moment : List Str := ["value"]
noncomputable def d_is_moment_1 : PD.Env → Mo Fl := (dRet (fun ρ => bnd ((dCons (dVar 0) (dCons (dC (.int 0)) (dCons (dC (.int 1000000)) (fun _ st => .ok [] st)))) ρ) (callM 3 S_is_number)))
noncomputable def d_is_moment : PD.Env → Mo Fl := d_is_moment_1
theorem sc_is_moment : FnScope N_is_moment ["value"] (defScope (top 3)) := C8.fnScope_by (by decide +kernel)
theorem body_is_moment {P : Program} {w : World} {W : Wd} {base : Heap} (V : Ev W base) (h_is_number : DFn P w W base 3 (He.fAd W.K ("is_number", none)) 3 S_is_number) : Body P w W base N_is_moment "is_moment" (defScope (top 3)) (He.fAd W.K ("is_moment", none)) 3 (defBody (top 3)) d_is_moment := fun cdv A outer s H E =>
  (dss_one (ds_ret (de_call (h_is_number.mono (by decide)) V.g_is_number (da_cons (de_var (i := 0)) (da_cons de_int (da_cons (de_gint rfl V.i_LAST_MOMENT) da_nil))))))
theorem raw_is_moment {P : Program} {w : World} {W : Wd} {base : Heap} (V : Ev W base) (h_is_number : DFn P w W base 3 (He.fAd W.K ("is_number", none)) 3 S_is_number) : DFn P w W base 4 (He.fAd W.K ("is_moment", none)) 1 (bodyF 1 d_is_moment) := by
  obtain ⟨fd, F⟩ := V.D_is_moment
  exact DFn.of V.cx F sc_is_moment (F.bindsN fun _ _ _ _ _ _ us hl => match us, hl with | [_], _ => rfl) (body_is_moment V h_is_number)
def dom_is_moment (ps : List PV) : Prop := ∃ v, ps = [v] ∧ plainV v
def val_is_moment : List PV → PV
  | [v] => .bl (isNum v 0 1000000)
  | _ => .non
noncomputable def S_is_moment : List PV → Mo PV := pureS dom_is_moment val_is_moment
theorem nox_is_moment : NoX S_is_moment := nox_pure
theorem ref_is_moment : Ref 1 (bodyF 1 d_is_moment) S_is_moment := ref_same (fun ps st h => by
  obtain ⟨v, rfl, hv⟩ := h
  simp [d_is_moment, d_is_moment_1, start0, hv, val_is_moment]) (fun ps m h => by
  obtain ⟨v, rfl, hv⟩ := h
  rfl)
@[simp] theorem is_moment_ok {v : PV} {st : Sto} (hv : plainV v) : S_is_moment [v] st = .ok (.bl (isNum v 0 1000000)) st := pureS_ok ⟨v, rfl, hv⟩

theorem ok_is_moment {P : Program} {w : World} {W : Wd} {base : Heap} (V : Ev W base) : DFn P w W base 4 (He.fAd W.K ("is_moment", none)) 1 S_is_moment := (raw_is_moment V (ok_is_number V)).ref ref_is_moment nox_is_moment
abbrev N_is_stay : List Str := ["value"]
noncomputable def d_is_stay_1 : PD.Env → Mo Fl := (dRet (dC (.bl false)))
noncomputable def d_is_stay_2 : PD.Env → Mo Fl := (dIfS (dOrT (dNotT (fun ρ => bnd ((dIsi .tup (dVar 0)) ρ) truM)) (dOrT (dB (dBin (oEq true) (fun ρ => bnd ((dVar 0) ρ) lenM) (dC (.int 2)))) (dOrT (dNotT (fun ρ => bnd ((fun ρ => bnd ((dCons (dBin oIx (dVar 0) (dC (.int 0))) (fun _ st => .ok [] st)) ρ) (callM 1 S_is_moment)) ρ) truM)) (dNotT (fun ρ => bnd ((fun ρ => bnd ((dCons (dBin oIx (dVar 0) (dC (.int 1))) (fun _ st => .ok [] st)) ρ) (callM 1 S_is_moment)) ρ) truM))))) d_is_stay_1 dNil)
noncomputable def d_is_stay_3 : PD.Env → Mo Fl := (dRet (dBin oLt (dBin oIx (dVar 0) (dC (.int 0))) (dBin oIx (dVar 0) (dC (.int 1)))))
noncomputable def d_is_stay : PD.Env → Mo Fl := (dSeq d_is_stay_2
    d_is_stay_3)
theorem sc_is_stay : FnScope N_is_stay ["value"] (defScope (top 7)) := C8.fnScope_by (by decide +kernel)
theorem body_is_stay {P : Program} {w : World} {W : Wd} {base : Heap} (V : Ev W base) (h_is_moment : DFn P w W base 4 (He.fAd W.K ("is_moment", none)) 1 S_is_moment) : Body P w W base N_is_stay "is_stay" (defScope (top 7)) (He.fAd W.K ("is_stay", none)) 4 (defBody (top 7)) d_is_stay := fun cdv A outer s H E =>
  (dss_cons (ds_if (dt_w (dw_or (dt_not (dt_e (de_isi .tup (de_var (i := 0)) rfl V.b_isinstance rfl V.b_tuple boot_tuple_))) (dw_or (dt_ne (de_lenV (de_var (i := 0)) rfl V.b_len) de_int) (dw_or (dt_not (dt_e (de_call (h_is_moment.mono (by decide)) V.g_is_moment (da_cons (de_ix (de_var (i := 0)) de_int) da_nil)))) (dw_or1 (dt_not (dt_e (de_call (h_is_moment.mono (by decide)) V.g_is_moment (da_cons (de_ix (de_var (i := 0)) de_int) da_nil))))))))) (dss_one (ds_ret de_bl)) dss_nil)
    (dss_one (ds_ret (de_lt (de_ix (de_var (i := 0)) de_int) (de_ix (de_var (i := 0)) de_int)))))
theorem raw_is_stay {P : Program} {w : World} {W : Wd} {base : Heap} (V : Ev W base) (h_is_moment : DFn P w W base 4 (He.fAd W.K ("is_moment", none)) 1 S_is_moment) : DFn P w W base 5 (He.fAd W.K ("is_stay", none)) 1 (bodyF 1 d_is_stay) := by
  obtain ⟨fd, F⟩ := V.D_is_stay
  exact DFn.of V.cx F sc_is_stay (F.bindsN fun _ _ _ _ _ _ us hl => match us, hl with | [_], _ => rfl) (body_is_stay V h_is_moment)
/-- .. its parts, too -/
def plainT (v : PV) : Prop := plainV v ∧ ∀ l, v = .tup l → ∀ p ∈ l, plainV p
def isStay (v : PV) : Bool := match v with
  | .tup [.int a, .int b] => decide (0 ≤ a) && decide (a ≤ 1000000) && decide (0 ≤ b) && decide (b ≤ 1000000) && decide (a < b)
  | _ => false
def dom_is_stay (ps : List PV) : Prop := ∃ v, ps = [v] ∧ plainT v
def val_is_stay : List PV → PV
  | [v] => .bl (isStay v)
  | _ => .non
noncomputable def S_is_stay : List PV → Mo PV := pureS dom_is_stay val_is_stay
theorem nox_is_stay : NoX S_is_stay := nox_pure
@[simp] theorem atI_0 {α : Type} {a : α} {l : List α} : atI (a :: l) 0 = some a := by
  unfold atI ixN
  simp
@[simp] theorem atI_1 {α : Type} {a b : α} {l : List α} : atI (a :: b :: l) 1 = some b := by
  unfold atI ixN
  have h : (1 : Int) < (l.length : Int) + 1 + 1 := by omega
  simp [h]
theorem isNum_int {v : PV} {lo hi : Int} (h : isNum v lo hi = true) : ∃ i, v = .int i ∧ lo ≤ i ∧ i ≤ hi := by
  cases v <;> simp [isNum] at h
  exact ⟨_, rfl, h⟩
theorem ref_is_stay : Ref 1 (bodyF 1 d_is_stay) S_is_stay := ref_same (fun ps st h => by
  obtain ⟨v, rfl, hv⟩ := h
  cases v with
  | loc _ => exact hv.1.elim
  | fn _ => exact hv.1.elim
  | kl _ => exact hv.1.elim
  | tup l =>
    have hp := hv.2 l rfl
    match l, hp with
    | [], _ => simp [d_is_stay, d_is_stay_1, d_is_stay_2, d_is_stay_3, start0, isK, val_is_stay, isStay, okd, eqb]
    | [a], _ => simp [d_is_stay, d_is_stay_1, d_is_stay_2, d_is_stay_3, start0, isK, val_is_stay, isStay, okd, eqb]
    | a :: b :: c :: l, _ =>
      have h9 : ¬ ((l.length : Int) + 1 + 1 + 1 = 2) := by omega
      simp [d_is_stay, d_is_stay_1, d_is_stay_2, d_is_stay_3, start0, isK, val_is_stay, isStay, okd, eqb, h9]
    | [a, b], hp =>
      have ha : plainV a := hp a (by simp)
      have hb : plainV b := hp b (by simp)
      simp [d_is_stay, d_is_stay_1, d_is_stay_2, d_is_stay_3, start0, isK, val_is_stay, okd, eqb, ha, hb]
      cases h1 : isNum a 0 1000000 with
      | false =>
        have e : isStay (.tup [a, b]) = false := by
          cases a <;> first | rfl | (cases b <;> first | rfl | (simp [isNum] at h1; simp [isStay]; omega))
        simp [e]
      | true =>
        obtain ⟨i, rfl, hi⟩ := isNum_int h1
        cases h2 : isNum b 0 1000000 with
        | false =>
          have e : isStay (.tup [.int i, b]) = false := by
            cases b <;> first | rfl | (simp [isNum] at h2; simp [isStay]; omega)
          simp [e]
        | true =>
          obtain ⟨j, rfl, hj⟩ := isNum_int h2
          simp [isStay, hi, hj]
  | _ => simp [d_is_stay, d_is_stay_1, d_is_stay_2, d_is_stay_3, start0, isK, val_is_stay, isStay]) (fun ps m h => by
  obtain ⟨v, rfl, hv⟩ := h
  rfl)
@[simp] theorem is_stay_ok {v : PV} {st : Sto} (hv : plainT v) : S_is_stay [v] st = .ok (.bl (isStay v)) st := pureS_ok ⟨v, rfl, hv⟩

theorem ok_is_stay {P : Program} {w : World} {W : Wd} {base : Heap} (V : Ev W base) : DFn P w W base 5 (He.fAd W.K ("is_stay", none)) 1 S_is_stay := (raw_is_stay V (ok_is_moment V)).ref ref_is_stay nox_is_stay
noncomputable def tab_is_tuple_of_judge : Nat → Option (List PV → Mo PV) := fun j => if j = J_is_stay then some S_is_stay else none
theorem tk_is_tuple_of_judge {P : Program} {w : World} {W : Wd} {base : Heap} (V : Ev W base) : FnTab P w W base 5 1 tab_is_tuple_of_judge := ⟨fun j F f h1 h2 => by
  unfold tab_is_tuple_of_judge at h1
  by_cases e_is_stay : j = J_is_stay
  · rw [if_pos e_is_stay] at h1; cases h1; rw [e_is_stay, V.a_is_stay] at h2; cases h2; exact (ok_is_stay V).mono (by decide)
  rw [if_neg e_is_stay] at h1
  cases h1⟩
abbrev N_is_tuple_of : List Str := ["value", "size", "judge", "part"]
noncomputable def d_is_tuple_of_1 : PD.Env → Mo Fl := (dRet (dAndV (dIsi .tup (dVar 0)) (dAndV (dBin oLe (fun ρ => bnd ((dVar 0) ρ) lenM) (dVar 1)) (dGx false (fun ρ => bnd ((dVar 0) ρ) srcM) (.nm 3) dYes (fun ρ => bnd (dVar 2 ρ) fun q => bnd (fnM tab_is_tuple_of_judge q) fun F => bnd ((dCons (dVar 3) (fun _ st => .ok [] st)) ρ) (callM 1 F)) [3]))))
noncomputable def d_is_tuple_of : PD.Env → Mo Fl := d_is_tuple_of_1
theorem sc_is_tuple_of : FnScope N_is_tuple_of ["value", "size", "judge"] (defScope (top 4)) := C8.fnScope_by (by decide +kernel)
theorem body_is_tuple_of {P : Program} {w : World} {W : Wd} {base : Heap} (V : Ev W base) (hT_judge : FnTab P w W base 5 1 tab_is_tuple_of_judge) : BodyT P w W base N_is_tuple_of "is_tuple_of" (defScope (top 4)) (He.fAd W.K ("is_tuple_of", none)) (He.cT W.K ("is_tuple_of", none)).1 7 (defBody (top 4)) d_is_tuple_of := fun A outer s H E =>
  (dss_one (ds_ret (de_and (de_isi .tup (de_var (i := 0)) rfl V.b_isinstance rfl V.b_tuple boot_tuple_) (de_and (de_le (de_lenV (de_var (i := 0)) rfl V.b_len) (de_var (i := 1))) (de_one (de_allG V.T_is_tuple_of V.p_is_tuple_of V.q_is_tuple_of rfl V.b_all (own := [("part", 3)]) (di_e (de_var (i := 0))) (blkOk_by (N := N_is_tuple_of) (sc := defScope (top 4)) (by decide +kernel)) (fun _ _ _ _ _ _ _ => (dp_name (i := 3))) (fun _ _ _ _ _ _ _ => dts_nil) (fun _ _ _ _ _ _ _ => (de_callV (i := 2) (hT_judge.mono (by decide)) (da_cons (de_var (i := 3)) da_nil)))))))))
theorem raw_is_tuple_of {P : Program} {w : World} {W : Wd} {base : Heap} (V : Ev W base) (hT_judge : FnTab P w W base 5 1 tab_is_tuple_of_judge) : DFn P w W base 8 (He.fAd W.K ("is_tuple_of", none)) 3 (bodyF 4 d_is_tuple_of) := by
  obtain ⟨fd, F⟩ := V.D_is_tuple_of
  exact DFn.ofT V.cx F sc_is_tuple_of (F.bindsN fun _ _ _ _ _ _ us hl => match us, hl with | [_, _, _], _ => rfl) (body_is_tuple_of V hT_judge)
/-- a tuple of such -/
def plainS (v : PV) : Prop := plainV v ∧ ∀ l, v = .tup l → ∀ p ∈ l, plainT p
def isStays (v : PV) (size : Int) : Bool := match v with
  | .tup l => decide ((l.length : Int) ≤ size) && l.all isStay
  | _ => false
def dom_is_tuple_of (ps : List PV) : Prop := ∃ v size, ps = [v, .int size, .fn J_is_stay] ∧ plainS v
def val_is_tuple_of : List PV → PV
  | [v, .int size, .fn _] => .bl (isStays v size)
  | _ => .non
noncomputable def S_is_tuple_of : List PV → Mo PV := pureS dom_is_tuple_of val_is_tuple_of
theorem nox_is_tuple_of : NoX S_is_tuple_of := nox_pure
theorem ref_is_tuple_of : Ref 3 (bodyF 4 d_is_tuple_of) S_is_tuple_of := ref_same (fun ps st h => by
  obtain ⟨v, size, rfl, hv⟩ := h
  cases v with
  | loc _ => exact hv.1.elim
  | fn _ => exact hv.1.elim
  | kl _ => exact hv.1.elim
  | tup l =>
    have hp := hv.2 l rfl
    simp only [e_body, ok_bnd, d_is_tuple_of, d_is_tuple_of_1, e_ret, e_andV, e_isi, e_gx, e_bin]
    simp [start0, isK, val_is_tuple_of, isStays]
    by_cases hs : (l.length : Int) ≤ size
    · simp [hs]
      rw [gx_pure isStay True.intro l fun q hq => ⟨_, rfl, by simp, by refine Ok.eq ?_; simp [wipeE, tab_is_tuple_of_judge, hp q hq]⟩]
      simp
    · simp [hs]
  | _ => simp [d_is_tuple_of, d_is_tuple_of_1, start0, isK, val_is_tuple_of, isStays]) (fun ps m h => by
  obtain ⟨v, size, rfl, hv⟩ := h
  rfl)
@[simp] theorem is_tuple_of_ok {v : PV} {size : Int} {st : Sto} (hv : plainS v) : S_is_tuple_of [v, .int size, .fn J_is_stay] st = .ok (.bl (isStays v size)) st := pureS_ok ⟨v, size, rfl, hv⟩

theorem ok_is_tuple_of {P : Program} {w : World} {W : Wd} {base : Heap} (V : Ev W base) : DFn P w W base 8 (He.fAd W.K ("is_tuple_of", none)) 3 S_is_tuple_of := (raw_is_tuple_of V (tk_is_tuple_of_judge V)).ref ref_is_tuple_of nox_is_tuple_of
abbrev N_is_stays : List Str := ["value"]
noncomputable def d_is_stays_1 : PD.Env → Mo Fl := (dRet (fun ρ => bnd ((dCons (dVar 0) (dCons (dC (.int 60)) (dCons (dC (.fn J_is_stay)) (fun _ st => .ok [] st)))) ρ) (callM 3 S_is_tuple_of)))
noncomputable def d_is_stays : PD.Env → Mo Fl := d_is_stays_1
theorem sc_is_stays : FnScope N_is_stays ["value"] (defScope (top 8)) := C8.fnScope_by (by decide +kernel)
theorem body_is_stays {P : Program} {w : World} {W : Wd} {base : Heap} (V : Ev W base) (h_is_tuple_of : DFn P w W base 8 (He.fAd W.K ("is_tuple_of", none)) 3 S_is_tuple_of) : Body P w W base N_is_stays "is_stays" (defScope (top 8)) (He.fAd W.K ("is_stays", none)) 8 (defBody (top 8)) d_is_stays := fun cdv A outer s H E =>
  (dss_one (ds_ret (de_call (h_is_tuple_of.mono (by decide)) V.g_is_tuple_of (da_cons (de_var (i := 0)) (da_cons (de_gint rfl V.i_MAX_STAYS) (da_cons (de_fn rfl V.g_is_stay V.a_is_stay) da_nil))))))
theorem raw_is_stays {P : Program} {w : World} {W : Wd} {base : Heap} (V : Ev W base) (h_is_tuple_of : DFn P w W base 8 (He.fAd W.K ("is_tuple_of", none)) 3 S_is_tuple_of) : DFn P w W base 9 (He.fAd W.K ("is_stays", none)) 1 (bodyF 1 d_is_stays) := by
  obtain ⟨fd, F⟩ := V.D_is_stays
  exact DFn.of V.cx F sc_is_stays (F.bindsN fun _ _ _ _ _ _ us hl => match us, hl with | [_], _ => rfl) (body_is_stays V h_is_tuple_of)
def dom_is_stays (ps : List PV) : Prop := ∃ v, ps = [v] ∧ plainS v
def val_is_stays : List PV → PV
  | [v] => .bl (isStays v 60)
  | _ => .non
noncomputable def S_is_stays : List PV → Mo PV := pureS dom_is_stays val_is_stays
theorem nox_is_stays : NoX S_is_stays := nox_pure
theorem ref_is_stays : Ref 1 (bodyF 1 d_is_stays) S_is_stays := ref_same (fun ps st h => by
  obtain ⟨v, rfl, hv⟩ := h
  simp [d_is_stays, d_is_stays_1, start0, hv, val_is_stays]) (fun ps m h => by
  obtain ⟨v, rfl, hv⟩ := h
  rfl)
@[simp] theorem is_stays_ok {v : PV} {st : Sto} (hv : plainS v) : S_is_stays [v] st = .ok (.bl (isStays v 60)) st := pureS_ok ⟨v, rfl, hv⟩

theorem ok_is_stays {P : Program} {w : World} {W : Wd} {base : Heap} (V : Ev W base) : DFn P w W base 9 (He.fAd W.K ("is_stays", none)) 1 S_is_stays := (raw_is_stays V (ok_is_tuple_of V)).ref ref_is_stays nox_is_stays
abbrev N_is_placing : List Str := ["stays", "value", "number"]
noncomputable def d_is_placing_1 : PD.Env → Mo Fl := (dRet (dC (.bl false)))
noncomputable def d_is_placing_2 : PD.Env → Mo Fl := (dIfS (dOrT (dNotT (fun ρ => bnd ((dIsi .tup (dVar 1)) ρ) truM)) (dB (dBin (oEq true) (fun ρ => bnd ((dVar 1) ρ) lenM) (fun ρ => bnd ((dVar 0) ρ) lenM)))) d_is_placing_1 dNil)
noncomputable def d_is_placing_3 : PD.Env → Mo Fl := (dRet (dGx false (fun ρ => bnd ((dVar 1) ρ) srcM) (.nm 2) dYes (dAndV (dIsi .int (dVar 2)) (dAndV (dNotV (dIsi .bl (dVar 2))) (dBin oGe (dVar 2) (dC (.int 0))))) [2]))
noncomputable def d_is_placing : PD.Env → Mo Fl := (dSeq d_is_placing_2
    d_is_placing_3)
theorem sc_is_placing : FnScope N_is_placing ["stays", "value"] (defScope (top 9)) := C8.fnScope_by (by decide +kernel)
theorem body_is_placing {P : Program} {w : World} {W : Wd} {base : Heap} (V : Ev W base)  : BodyT P w W base N_is_placing "is_placing" (defScope (top 9)) (He.fAd W.K ("is_placing", none)) (He.cT W.K ("is_placing", none)).1 4 (defBody (top 9)) d_is_placing := fun A outer s H E =>
  (dss_cons (ds_if (dt_w (dw_or (dt_not (dt_e (de_isi .tup (de_var (i := 1)) rfl V.b_isinstance rfl V.b_tuple boot_tuple_))) (dw_or1 (dt_ne (de_lenV (de_var (i := 1)) rfl V.b_len) (de_lenV (de_var (i := 0)) rfl V.b_len))))) (dss_one (ds_ret de_bl)) dss_nil)
    (dss_one (ds_ret (de_allG V.T_is_placing V.p_is_placing V.q_is_placing rfl V.b_all (own := [("number", 2)]) (di_e (de_var (i := 1))) (blkOk_by (N := N_is_placing) (sc := defScope (top 9)) (by decide +kernel)) (fun _ _ _ _ _ _ _ => (dp_name (i := 2))) (fun _ _ _ _ _ _ _ => dts_nil) (fun _ _ _ _ _ _ _ => (de_and (de_isi .int (de_var (i := 2)) rfl V.b_isinstance rfl V.b_int boot_int_) (de_and (de_not (de_isi .bl (de_var (i := 2)) rfl V.b_isinstance rfl V.b_bool boot_bool_)) (de_one (de_ge (de_var (i := 2)) de_int)))))))))
theorem raw_is_placing {P : Program} {w : World} {W : Wd} {base : Heap} (V : Ev W base)  : DFn P w W base 5 (He.fAd W.K ("is_placing", none)) 2 (bodyF 3 d_is_placing) := by
  obtain ⟨fd, F⟩ := V.D_is_placing
  exact DFn.ofT V.cx F sc_is_placing (F.bindsN fun _ _ _ _ _ _ us hl => match us, hl with | [_, _], _ => rfl) (body_is_placing V )
def isNat (v : PV) : Bool := match v with
  | .int i => decide (0 ≤ i)
  | _ => false
def isPl (n : Nat) (v : PV) : Bool := match v with
  | .tup l => decide (l.length = n) && l.all isNat
  | _ => false
def dom_is_placing (ps : List PV) : Prop := ∃ l v, ps = [.tup l, v] ∧ plainT v
def val_is_placing : List PV → PV
  | [.tup l, v] => .bl (isPl l.length v)
  | _ => .non
noncomputable def S_is_placing : List PV → Mo PV := pureS dom_is_placing val_is_placing
theorem nox_is_placing : NoX S_is_placing := nox_pure
theorem ref_is_placing : Ref 2 (bodyF 3 d_is_placing) S_is_placing := ref_same (fun ps st h => by
  obtain ⟨l, v, rfl, hv⟩ := h
  cases v with
  | loc _ => exact hv.1.elim
  | fn _ => exact hv.1.elim
  | kl _ => exact hv.1.elim
  | tup m =>
    have hp := hv.2 m rfl
    simp [d_is_placing, d_is_placing_1, d_is_placing_2, d_is_placing_3, start0, isK, val_is_placing, isPl, okd, eqb]
    by_cases hs : m.length = l.length
    · simp [hs]
      rw [gx_pure isNat True.intro m fun q hq => ⟨_, rfl, by simp, by
        have hq := hp q hq
        cases q <;> first
          | exact hq.elim
          | (refine Ok.eq ?_; simp [wipeE, isK, isNat])⟩]
      simp
    · have h9 : ¬ (m.length : Int) = l.length := by omega
      simp [hs, h9]
  | _ => simp [d_is_placing, d_is_placing_1, d_is_placing_2, d_is_placing_3, start0, isK, val_is_placing, isPl]) (fun ps m h => by
  obtain ⟨l, v, rfl, hv⟩ := h
  rfl)
@[simp] theorem is_placing_ok {l : List PV} {v : PV} {st : Sto} (hv : plainT v) : S_is_placing [.tup l, v] st = .ok (.bl (isPl l.length v)) st := pureS_ok ⟨l, v, rfl, hv⟩

theorem ok_is_placing {P : Program} {w : World} {W : Wd} {base : Heap} (V : Ev W base) : DFn P w W base 5 (He.fAd W.K ("is_placing", none)) 2 S_is_placing := (raw_is_placing V ).ref ref_is_placing nox_is_placing
abbrev N_meets : List Str := ["one", "other"]
noncomputable def d_meets_1 : PD.Env → Mo Fl := (dRet (dAndV (dBin oLt (dBin oIx (dVar 0) (dC (.int 0))) (dBin oIx (dVar 1) (dC (.int 1)))) (dBin oLt (dBin oIx (dVar 1) (dC (.int 0))) (dBin oIx (dVar 0) (dC (.int 1))))))
noncomputable def d_meets : PD.Env → Mo Fl := d_meets_1
theorem sc_meets : FnScope N_meets ["one", "other"] (defScope (top 11)) := C8.fnScope_by (by decide +kernel)
theorem body_meets {P : Program} {w : World} {W : Wd} {base : Heap} (V : Ev W base)  : Body P w W base N_meets "meets" (defScope (top 11)) (He.fAd W.K ("meets", none)) 2 (defBody (top 11)) d_meets := fun cdv A outer s H E =>
  (dss_one (ds_ret (de_and (de_lt (de_ix (de_var (i := 0)) de_int) (de_ix (de_var (i := 1)) de_int)) (de_one (de_lt (de_ix (de_var (i := 1)) de_int) (de_ix (de_var (i := 0)) de_int))))))
theorem raw_meets {P : Program} {w : World} {W : Wd} {base : Heap} (V : Ev W base)  : DFn P w W base 3 (He.fAd W.K ("meets", none)) 2 (bodyF 2 d_meets) := by
  obtain ⟨fd, F⟩ := V.D_meets
  exact DFn.of V.cx F sc_meets (F.bindsN fun _ _ _ _ _ _ us hl => match us, hl with | [_, _], _ => rfl) (body_meets V )
def stP (a : Int × Int) : PV := .tup [.int a.1, .int a.2]
def meetB (a b : Int × Int) : Bool := decide (a.1 < b.2) && decide (b.1 < a.2)
def withB (a b : Int × Int) : Bool := decide (b.1 < a.1) && decide (a.2 < b.2)
def crossB (a b : Int × Int) : Bool := meetB a b && ((decide (a.1 < b.1) && decide (a.2 < b.2)) || (decide (b.1 < a.1) && decide (b.2 < a.2)))
def dom_meets (ps : List PV) : Prop := ∃ a b : Int × Int, ps = [stP a, stP b]
def val_meets : List PV → PV
  | [.tup [.int a, .int b], .tup [.int c, .int d]] => .bl (meetB (a, b) (c, d))
  | _ => .non
noncomputable def S_meets : List PV → Mo PV := pureS dom_meets val_meets
theorem nox_meets : NoX S_meets := nox_pure
theorem ref_meets : Ref 2 (bodyF 2 d_meets) S_meets := ref_same (fun ps st h => by
  obtain ⟨a, b, rfl⟩ := h
  simp [d_meets, d_meets_1, start0, stP, val_meets, meetB]
  by_cases h1 : a.1 < b.2 <;> by_cases h2 : b.1 < a.2 <;> simp [h1, h2]) (fun ps m h => by
  obtain ⟨a, b, rfl⟩ := h
  rfl)
@[simp] theorem meets_ok {a b : Int × Int} {st : Sto} : S_meets [stP a, stP b] st = .ok (.bl (meetB a b)) st := pureS_ok ⟨a, b, rfl⟩
@[simp] theorem meets_ok2 {a b c d : Int} {st : Sto} : S_meets [.tup [.int a, .int b], .tup [.int c, .int d]] st = .ok (.bl (meetB (a, b) (c, d))) st := meets_ok (a := (a, b)) (b := (c, d))

theorem ok_meets {P : Program} {w : World} {W : Wd} {base : Heap} (V : Ev W base) : DFn P w W base 3 (He.fAd W.K ("meets", none)) 2 S_meets := (raw_meets V ).ref ref_meets nox_meets
abbrev N_is_within : List Str := ["one", "other"]
noncomputable def d_is_within_1 : PD.Env → Mo Fl := (dRet (dAndV (dBin oLt (dBin oIx (dVar 1) (dC (.int 0))) (dBin oIx (dVar 0) (dC (.int 0)))) (dBin oLt (dBin oIx (dVar 0) (dC (.int 1))) (dBin oIx (dVar 1) (dC (.int 1))))))
noncomputable def d_is_within : PD.Env → Mo Fl := d_is_within_1
theorem sc_is_within : FnScope N_is_within ["one", "other"] (defScope (top 12)) := C8.fnScope_by (by decide +kernel)
theorem body_is_within {P : Program} {w : World} {W : Wd} {base : Heap} (V : Ev W base)  : Body P w W base N_is_within "is_within" (defScope (top 12)) (He.fAd W.K ("is_within", none)) 2 (defBody (top 12)) d_is_within := fun cdv A outer s H E =>
  (dss_one (ds_ret (de_and (de_lt (de_ix (de_var (i := 1)) de_int) (de_ix (de_var (i := 0)) de_int)) (de_one (de_lt (de_ix (de_var (i := 0)) de_int) (de_ix (de_var (i := 1)) de_int))))))
theorem raw_is_within {P : Program} {w : World} {W : Wd} {base : Heap} (V : Ev W base)  : DFn P w W base 3 (He.fAd W.K ("is_within", none)) 2 (bodyF 2 d_is_within) := by
  obtain ⟨fd, F⟩ := V.D_is_within
  exact DFn.of V.cx F sc_is_within (F.bindsN fun _ _ _ _ _ _ us hl => match us, hl with | [_, _], _ => rfl) (body_is_within V )
def dom_is_within (ps : List PV) : Prop := ∃ a b : Int × Int, ps = [stP a, stP b]
def val_is_within : List PV → PV
  | [.tup [.int a, .int b], .tup [.int c, .int d]] => .bl (withB (a, b) (c, d))
  | _ => .non
noncomputable def S_is_within : List PV → Mo PV := pureS dom_is_within val_is_within
theorem nox_is_within : NoX S_is_within := nox_pure
theorem ref_is_within : Ref 2 (bodyF 2 d_is_within) S_is_within := ref_same (fun ps st h => by
  obtain ⟨a, b, rfl⟩ := h
  simp [d_is_within, d_is_within_1, start0, stP, val_is_within, withB]
  by_cases h1 : b.1 < a.1 <;> by_cases h2 : a.2 < b.2 <;> simp [h1, h2]) (fun ps m h => by
  obtain ⟨a, b, rfl⟩ := h
  rfl)
@[simp] theorem is_within_ok {a b : Int × Int} {st : Sto} : S_is_within [stP a, stP b] st = .ok (.bl (withB a b)) st := pureS_ok ⟨a, b, rfl⟩
@[simp] theorem is_within_ok2 {a b c d : Int} {st : Sto} : S_is_within [.tup [.int a, .int b], .tup [.int c, .int d]] st = .ok (.bl (withB (a, b) (c, d))) st := is_within_ok (a := (a, b)) (b := (c, d))

theorem ok_is_within {P : Program} {w : World} {W : Wd} {base : Heap} (V : Ev W base) : DFn P w W base 3 (He.fAd W.K ("is_within", none)) 2 S_is_within := (raw_is_within V ).ref ref_is_within nox_is_within
abbrev N_crosses : List Str := ["one", "other"]
noncomputable def d_crosses_1 : PD.Env → Mo Fl := (dRet (dC (.bl false)))
noncomputable def d_crosses_2 : PD.Env → Mo Fl := (dIfS (dNotT (fun ρ => bnd ((fun ρ => bnd ((dCons (dVar 0) (dCons (dVar 1) (fun _ st => .ok [] st))) ρ) (callM 2 S_meets)) ρ) truM)) d_crosses_1 dNil)
noncomputable def d_crosses_3 : PD.Env → Mo Fl := (dRet (dOrV (dAndV (dBin oLt (dBin oIx (dVar 0) (dC (.int 0))) (dBin oIx (dVar 1) (dC (.int 0)))) (dBin oLt (dBin oIx (dVar 0) (dC (.int 1))) (dBin oIx (dVar 1) (dC (.int 1))))) (dAndV (dBin oLt (dBin oIx (dVar 1) (dC (.int 0))) (dBin oIx (dVar 0) (dC (.int 0)))) (dBin oLt (dBin oIx (dVar 1) (dC (.int 1))) (dBin oIx (dVar 0) (dC (.int 1)))))))
noncomputable def d_crosses : PD.Env → Mo Fl := (dSeq d_crosses_2
    d_crosses_3)
theorem sc_crosses : FnScope N_crosses ["one", "other"] (defScope (top 13)) := C8.fnScope_by (by decide +kernel)
theorem body_crosses {P : Program} {w : World} {W : Wd} {base : Heap} (V : Ev W base) (h_meets : DFn P w W base 3 (He.fAd W.K ("meets", none)) 2 S_meets) : Body P w W base N_crosses "crosses" (defScope (top 13)) (He.fAd W.K ("crosses", none)) 3 (defBody (top 13)) d_crosses := fun cdv A outer s H E =>
  (dss_cons (ds_if (dt_not (dt_e (de_call (h_meets.mono (by decide)) V.g_meets (da_cons (de_var (i := 0)) (da_cons (de_var (i := 1)) da_nil))))) (dss_one (ds_ret de_bl)) dss_nil)
    (dss_one (ds_ret (de_or (de_and (de_lt (de_ix (de_var (i := 0)) de_int) (de_ix (de_var (i := 1)) de_int)) (de_one (de_lt (de_ix (de_var (i := 0)) de_int) (de_ix (de_var (i := 1)) de_int)))) (de_one (de_and (de_lt (de_ix (de_var (i := 1)) de_int) (de_ix (de_var (i := 0)) de_int)) (de_one (de_lt (de_ix (de_var (i := 1)) de_int) (de_ix (de_var (i := 0)) de_int)))))))))
theorem raw_crosses {P : Program} {w : World} {W : Wd} {base : Heap} (V : Ev W base) (h_meets : DFn P w W base 3 (He.fAd W.K ("meets", none)) 2 S_meets) : DFn P w W base 4 (He.fAd W.K ("crosses", none)) 2 (bodyF 2 d_crosses) := by
  obtain ⟨fd, F⟩ := V.D_crosses
  exact DFn.of V.cx F sc_crosses (F.bindsN fun _ _ _ _ _ _ us hl => match us, hl with | [_, _], _ => rfl) (body_crosses V h_meets)
def dom_crosses (ps : List PV) : Prop := ∃ a b : Int × Int, ps = [stP a, stP b]
def val_crosses : List PV → PV
  | [.tup [.int a, .int b], .tup [.int c, .int d]] => .bl (crossB (a, b) (c, d))
  | _ => .non
noncomputable def S_crosses : List PV → Mo PV := pureS dom_crosses val_crosses
theorem nox_crosses : NoX S_crosses := nox_pure
theorem ref_crosses : Ref 2 (bodyF 2 d_crosses) S_crosses := ref_same (fun ps st h => by
  obtain ⟨a, b, rfl⟩ := h
  simp [d_crosses, d_crosses_1, d_crosses_2, d_crosses_3, start0, stP, val_crosses, crossB, e_bin]
  cases h0 : meetB a b <;> by_cases h1 : a.1 < b.1 <;> by_cases h2 : a.2 < b.2 <;> by_cases h3 : b.1 < a.1 <;> by_cases h4 : b.2 < a.2 <;> (simp [h1, h2, h3, h4]; try omega)) (fun ps m h => by
  obtain ⟨a, b, rfl⟩ := h
  rfl)
@[simp] theorem crosses_ok {a b : Int × Int} {st : Sto} : S_crosses [stP a, stP b] st = .ok (.bl (crossB a b)) st := pureS_ok ⟨a, b, rfl⟩
@[simp] theorem crosses_ok2 {a b c d : Int} {st : Sto} : S_crosses [.tup [.int a, .int b], .tup [.int c, .int d]] st = .ok (.bl (crossB (a, b) (c, d))) st := crosses_ok (a := (a, b)) (b := (c, d))

theorem ok_crosses {P : Program} {w : World} {W : Wd} {base : Heap} (V : Ev W base) : DFn P w W base 4 (He.fAd W.K ("crosses", none)) 2 S_crosses := (raw_crosses V (ok_meets V)).ref ref_crosses nox_crosses
abbrev N_has_moment : List Str := ["stay", "moment"]
noncomputable def d_has_moment_1 : PD.Env → Mo Fl := (dRet (dChain oLe oLt (dBin oIx (dVar 0) (dC (.int 0))) (dVar 1) (dBin oIx (dVar 0) (dC (.int 1)))))
noncomputable def d_has_moment : PD.Env → Mo Fl := d_has_moment_1
theorem sc_has_moment : FnScope N_has_moment ["stay", "moment"] (defScope (top 10)) := C8.fnScope_by (by decide +kernel)
theorem body_has_moment {P : Program} {w : World} {W : Wd} {base : Heap} (V : Ev W base)  : Body P w W base N_has_moment "has_moment" (defScope (top 10)) (He.fAd W.K ("has_moment", none)) 2 (defBody (top 10)) d_has_moment := fun cdv A outer s H E =>
  (dss_one (ds_ret (de_leLt (de_ix (de_var (i := 0)) de_int) (de_var (i := 1)) (de_ix (de_var (i := 0)) de_int))))
theorem raw_has_moment {P : Program} {w : World} {W : Wd} {base : Heap} (V : Ev W base)  : DFn P w W base 3 (He.fAd W.K ("has_moment", none)) 2 (bodyF 2 d_has_moment) := by
  obtain ⟨fd, F⟩ := V.D_has_moment
  exact DFn.of V.cx F sc_has_moment (F.bindsN fun _ _ _ _ _ _ us hl => match us, hl with | [_, _], _ => rfl) (body_has_moment V )
def hasM (a : Int × Int) (m : Int) : Bool := decide (a.1 ≤ m) && decide (m < a.2)
def dom_has_moment (ps : List PV) : Prop := ∃ (a : Int × Int) (m : Int), ps = [stP a, .int m]
def val_has_moment : List PV → PV
  | [.tup [.int a, .int b], .int m] => .bl (hasM (a, b) m)
  | _ => .non
noncomputable def S_has_moment : List PV → Mo PV := pureS dom_has_moment val_has_moment
theorem nox_has_moment : NoX S_has_moment := nox_pure
theorem ref_has_moment : Ref 2 (bodyF 2 d_has_moment) S_has_moment := ref_same (fun ps st h => by
  obtain ⟨a, m, rfl⟩ := h
  simp [d_has_moment, d_has_moment_1, start0, stP, val_has_moment, hasM]
  by_cases h1 : a.1 ≤ m <;> simp [h1]) (fun ps m h => by
  obtain ⟨a, m, rfl⟩ := h
  rfl)
@[simp] theorem has_moment_ok {a : Int × Int} {m : Int} {st : Sto} : S_has_moment [stP a, .int m] st = .ok (.bl (hasM a m)) st := pureS_ok ⟨a, m, rfl⟩

theorem ok_has_moment {P : Program} {w : World} {W : Wd} {base : Heap} (V : Ev W base) : DFn P w W base 3 (He.fAd W.K ("has_moment", none)) 2 S_has_moment := (raw_has_moment V ).ref ref_has_moment nox_has_moment
abbrev N_present : List Str := ["stays", "moment", "i"]
noncomputable def d_present_1 : PD.Env → Mo Fl := (dRet (fun ρ => bnd ((dLc (fun ρ => bnd ((dCons (fun ρ => bnd ((dVar 0) ρ) lenM) (fun _ st => .ok [] st)) ρ) rg1M) (.nm 2) (fun ρ => bnd ((fun ρ => bnd ((dCons (dBin oIx (dVar 0) (dVar 2)) (dCons (dVar 1) (fun _ st => .ok [] st))) ρ) (callM 2 S_has_moment)) ρ) truM) (dVar 2) [2]) ρ) tupQ))
noncomputable def d_present : PD.Env → Mo Fl := d_present_1
theorem sc_present : FnScope N_present ["stays", "moment"] (defScope (top 14)) := C8.fnScope_by (by decide +kernel)
theorem body_present {P : Program} {w : World} {W : Wd} {base : Heap} (V : Ev W base) (h_has_moment : DFn P w W base 3 (He.fAd W.K ("has_moment", none)) 2 S_has_moment) : Body P w W base N_present "present" (defScope (top 14)) (He.fAd W.K ("present", none)) 3 (defBody (top 14)) d_present := fun cdv A outer s H E =>
  (dss_one (ds_ret (de_tuple (dq_l (dl_lc (own := [("i", 2)]) (di_range1 (da_cons (de_lenV (de_var (i := 0)) rfl V.b_len) da_nil) rfl V.b_range) (blkOk_by (N := N_present) (sc := defScope (top 14)) (by decide +kernel)) (fun _ _ _ _ _ => (dp_name (i := 2))) (fun _ _ _ _ _ => (dts_one (dt_e (de_call (h_has_moment.mono (by decide)) V.g_has_moment (da_cons (de_ix (de_var (i := 0)) (de_var (i := 2))) (da_cons (de_var (i := 1)) da_nil)))))) (fun _ _ _ _ _ => (de_var (i := 2))))) rfl V.b_tuple)))
theorem raw_present {P : Program} {w : World} {W : Wd} {base : Heap} (V : Ev W base) (h_has_moment : DFn P w W base 3 (He.fAd W.K ("has_moment", none)) 2 S_has_moment) : DFn P w W base 4 (He.fAd W.K ("present", none)) 2 (bodyF 3 d_present) := by
  obtain ⟨fd, F⟩ := V.D_present
  exact DFn.of V.cx F sc_present (F.bindsN fun _ _ _ _ _ _ us hl => match us, hl with | [_, _], _ => rfl) (body_present V h_has_moment)
/-- stays as a value -/
abbrev staysP (L : List (Int × Int)) : PV := .tup (L.map stP)
def presI (L : List (Int × Int)) (m : Int) : List Nat := (List.range L.length).filter fun i => hasM (L[i]?.getD (0, 0)) m
def intsP (l : List Nat) : PV := .tup (l.map fun i : Nat => PV.int i)
def dom_present (ps : List PV) : Prop := ∃ (L : List (Int × Int)) (m : Int), ps = [staysP L, .int m] ∧ L.length ≤ 16777216
def unSt : PV → Int × Int
  | .tup [.int a, .int b] => (a, b)
  | _ => (0, 0)
@[simp] theorem unSt_stP (a : Int × Int) : unSt (stP a) = a := rfl
theorem unSt_map (L : List (Int × Int)) : (L.map stP).map unSt = L := by
  rw [List.map_map]
  simp [Function.comp_def]
def val_present : List PV → PV
  | [.tup l, .int m] => intsP (presI (l.map unSt) m)
  | _ => .non
theorem val_present_eq (L : List (Int × Int)) (m : Int) : val_present [staysP L, .int m] = intsP (presI L m) := by
  show intsP (presI ((L.map stP).map unSt) m) = _
  rw [unSt_map]
noncomputable def S_present : List PV → Mo PV := pureS dom_present val_present
theorem nox_present : NoX S_present := nox_pure
theorem atI_nat {α : Type} {l : List α} {i : Nat} {a : α} (h : l[i]? = some a) : atI l (i : Int) = some a := by
  have hi : i < l.length := (List.getElem?_eq_some_iff.mp h).1
  have h2 : (i : Int) < (l.length : Int) := by omega
  unfold atI ixN
  simp [h2, h]
theorem stay_at {L : List (Int × Int)} {i : Nat} (h : i < L.length) : atI (L.map stP) (i : Int) = some (stP (L[i]?.getD (0, 0))) := by
  refine atI_nat ?_
  rw [List.getElem?_map, List.getElem?_eq_getElem h]
  rfl
theorem mem_rgP {q : PV} {n : Nat} (h : q ∈ rgP 0 n) : ∃ i : Nat, i < n ∧ q = .int (i : Int) := by
  unfold rgP at h
  obtain ⟨i, hi, rfl⟩ := List.mem_map.mp h
  exact ⟨i, List.mem_range.mp hi, by simp⟩
def natOf : PV → Nat
  | .int i => i.toNat
  | _ => 0
@[simp] theorem natOf_int (k : Nat) : natOf (.int (k : Int)) = k := by simp [natOf]
theorem cls_ints (m : Nat) (l : List Nat) : cls m (l.map fun i : Nat => PV.int i) = true := by
  induction l with
  | nil => rfl
  | cons a l ih => show (cl m (.int a) && _) = true; rw [ih]; rfl
theorem rgP_filter (n : Nat) (p : Nat → Bool) : ((rgP 0 n).filter fun q => p (natOf q)).map (fun q => q) = ((List.range n).filter p).map fun i : Nat => PV.int i := by
  unfold rgP
  rw [List.filter_map, List.map_map]
  have e : ((fun q => p (natOf q)) ∘ fun i : Nat => PV.int (0 + (i : Int))) = p := by
    funext i
    simp [natOf]
  rw [e]
  refine List.map_congr_left fun i _ => ?_
  simp
theorem ref_present : Ref 2 (bodyF 3 d_present) S_present := ref_same (fun ps st h => by
  obtain ⟨L, m, rfl, hl⟩ := h
  have hr : RgOk ((L.length : Nat) : Int) := ⟨by omega, by omega⟩
  simp [d_present, d_present_1, start0, hr]
  rw [lc_pure (fun q => hasM (L[natOf q]?.getD (0, 0)) m) (fun q => q) True.intro (rgP 0 L.length) [] (fun q hq => by
    obtain ⟨i, hi, rfl⟩ := mem_rgP hq
    refine ⟨_, rfl, ?_, fun _ => ?_⟩
    · refine Ok.eq ?_
      simp [wipeE, stay_at hi, natOf]
    · refine Ok.eq ?_
      simp [wipeE]) (by unfold rgP; simpa using hl)]
  have e := rgP_filter L.length fun i => hasM (L[i]?.getD (0, 0)) m
  rw [List.nil_append, e]
  refine ⟨hr, ?_⟩
  rw [val_present_eq]
  exact ok_ok.mpr ⟨rfl, rfl⟩) (fun ps mm h => by
  obtain ⟨L, m, rfl, hl⟩ := h
  exact cls_ints mm _)
@[simp] theorem present_ok {L : List (Int × Int)} {m : Int} {st : Sto} (h : L.length ≤ 16777216) : S_present [staysP L, .int m] st = .ok (intsP (presI L m)) st := by
  have e := pureS_ok (dom := dom_present) (g := val_present) (st := st) ⟨L, m, rfl, h⟩
  rw [val_present_eq] at e
  exact e
/-- whether no two of one number are bad together -/
def neverB (L : List (Int × Int)) (pl : List Int) (bad : Int × Int → Int × Int → Bool) : Bool :=
  (List.range L.length).all fun i => (List.range L.length).all fun j => !(decide (i ≠ j) && decide (pl[i]?.getD 0 = pl[j]?.getD 0) && bad (L[i]?.getD (0, 0)) (L[j]?.getD (0, 0)))
def unI : PV → Int
  | .int i => i
  | _ => 0
theorem unI_map (l : List Int) : (l.map PV.int).map unI = l := by
  rw [List.map_map]
  simp [Function.comp_def, unI]
theorem int_at {l : List Int} {i : Nat} (h : i < l.length) : atI (l.map PV.int) (i : Int) = some (.int (l[i]?.getD 0)) := by
  refine atI_nat ?_
  rw [List.getElem?_map, List.getElem?_eq_getElem h]
  rfl
theorem rgP_eq (n : Nat) : rgP 0 n = (List.range n).map fun i : Nat => PV.int (i : Int) := by
  unfold rgP
  refine List.map_congr_left fun i _ => ?_
  simp
theorem pvLt_st (a b : Int × Int) : pvLt (stP a) (stP b) = decide (a.1 < b.1 ∨ (a.1 = b.1 ∧ a.2 < b.2)) := by
  unfold pvLt
  simp only [stP, toD, toDs]
  exact PySem.W.dataLt_ii _ _ _ _
theorem alk_st (a b : Int × Int) : alk (stP a) (stP b) = true := by
  simp [alk, stP, okd, okds, toD, toDs, PySem.W.alike, PySem.W.alikeAll, nnon]

theorem ok_present {P : Program} {w : World} {W : Wd} {base : Heap} (V : Ev W base) : DFn P w W base 4 (He.fAd W.K ("present", none)) 2 S_present := (raw_present V (ok_has_moment V)).ref ref_present nox_present
abbrev N_on_shelves : List Str := ["stays", "placing", "done", "i", "best", "stay", "taken", "j"]
noncomputable def d_on_shelves_1 : PD.Env → Mo Fl := (dSet 1 (fun ρ => bnd ((fun ρ => bnd ((fun ρ => bnd ((dCons (dC (.int 0)) (fun _ st => .ok [] st)) ρ) capM) ρ) fun l => bnd ((fun ρ => bnd ((dVar 0) ρ) lenM) ρ) fun q => repM l q) ρ) layL))
noncomputable def d_on_shelves_2 : PD.Env → Mo Fl := (dSet 2 (fun ρ => bnd ((fun ρ => bnd ((fun _ st => .ok [] st) ρ) capM) ρ) layL))
noncomputable def d_on_shelves_3 : PD.Env → Mo Fl := (dSet 6 (fun ρ => bnd ((dLc (fun ρ => bnd ((dVar 2) ρ) srcM) (.nm 7) (fun ρ => bnd ((fun ρ => bnd ((dCons (dBin oIx (dVar 0) (dVar 3)) (dCons (dBin oIx (dVar 0) (dVar 7)) (fun _ st => .ok [] st))) ρ) (callM 2 S_meets)) ρ) truM) (dBin oIx (dVar 1) (dVar 7)) [7]) ρ) layL))
noncomputable def d_on_shelves_4 : PD.Env → Mo Fl := (dAugS (fun i j => i + j) (dVar 1) (dVar 3) (dC (.int 1)))
noncomputable def d_on_shelves_5 : PD.Env → Mo Fl := (dWh (dB (dBin (fun p q => bnd (sqM q) (inQ false p)) (dBin oIx (dVar 1) (dVar 3)) (dVar 6))) d_on_shelves_4)
noncomputable def d_on_shelves_6 : PD.Env → Mo Fl := (dDrop (fun ρ => bnd ((dVar 2) ρ) fun q => bnd (lstM q) fun _ => bnd (dCons (dVar 3) (fun _ st => .ok [] st) ρ) fun l => appM q l))
noncomputable def d_on_shelves_7 : PD.Env → Mo Fl := (dFor (fun ρ => bnd ((fun ρ => bnd ((fun ρ => bnd ((dVar 0) ρ) lenM) ρ) fun q => bnd (dVar 0 ρ) fun t => sortR q t) ρ) svM) (gNm 3) (dSeq d_on_shelves_3
    (dSeq d_on_shelves_5
    d_on_shelves_6)))
noncomputable def d_on_shelves_8 : PD.Env → Mo Fl := (dSet 4 (dC (.int 0)))
noncomputable def d_on_shelves_9 : PD.Env → Mo Fl := (dSet 4 (dBin oIx (dVar 5) (dC (.int 0))))
noncomputable def d_on_shelves_10 : PD.Env → Mo Fl := (dIfS (dB (dBin oGt (fun ρ => bnd ((fun ρ => bnd ((dCons (dVar 0) (dCons (dBin oIx (dVar 5) (dC (.int 0))) (fun _ st => .ok [] st))) ρ) (callM 2 S_present)) ρ) lenM) (fun ρ => bnd ((fun ρ => bnd ((dCons (dVar 0) (dCons (dVar 4) (fun _ st => .ok [] st))) ρ) (callM 2 S_present)) ρ) lenM))) d_on_shelves_9 dNil)
noncomputable def d_on_shelves_11 : PD.Env → Mo Fl := (dFor (fun ρ => bnd ((dVar 0) ρ) srcM) (gNm 5) d_on_shelves_10)
noncomputable def d_on_shelves_12 : PD.Env → Mo Fl := (dRet (fun ρ => bnd ((dCons (fun ρ => bnd ((fun ρ => bnd ((dVar 1) ρ) sqM) ρ) tupQ) (dCons (dVar 4) (fun _ st => .ok [] st))) ρ) tupM))
noncomputable def d_on_shelves : PD.Env → Mo Fl := (dSeq d_on_shelves_1
    (dSeq d_on_shelves_2
    (dSeq d_on_shelves_7
    (dSeq d_on_shelves_8
    (dSeq d_on_shelves_11
    d_on_shelves_12)))))
theorem sc_on_shelves : FnScope N_on_shelves ["stays"] (defScope (top 20)) := C8.fnScope_by (by decide +kernel)
theorem body_on_shelves {P : Program} {w : World} {W : Wd} {base : Heap} (V : Ev W base) (h_meets : DFn P w W base 3 (He.fAd W.K ("meets", none)) 2 S_meets) (h_present : DFn P w W base 4 (He.fAd W.K ("present", none)) 2 S_present) : BodyT P w W base N_on_shelves "on_shelves" (defScope (top 20)) (He.fAd W.K ("on_shelves", none)) (He.cT W.K ("on_shelves", none)).1 6 (defBody (top 20)) d_on_shelves := fun A outer s H E =>
  (dss_cons (ds_set (i := 1) (de_l (dl_rep (dl_lst (da_cons de_int da_nil)) (de_lenV (de_var (i := 0)) rfl V.b_len))))
    (dss_cons (ds_set (i := 2) (de_l (dl_lst da_nil)))
    (dss_cons (ds_for (di_l (dl_sortR (i := 0) V.T_on_shelves V.l_on_shelves V.u_on_shelves rfl V.b_sorted V.b_range (de_lenV (de_var (i := 0)) rfl V.b_len))) (dg_name (i := 3)) (dss_cons (ds_setLc (i := 6) (own := [("j", 7)]) (di_e (de_var (i := 2))) (blkOk_by (N := N_on_shelves) (sc := defScope (top 20)) (by decide +kernel)) (fun _ _ _ _ _ => (dp_name (i := 7))) (fun _ _ _ _ _ => (dts_one (dt_e (de_call (h_meets.mono (by decide)) V.g_meets (da_cons (de_ix (de_var (i := 0)) (de_var (i := 3))) (da_cons (de_ix (de_var (i := 0)) (de_var (i := 7))) da_nil)))))) (fun _ _ _ _ _ => (de_ix (de_var (i := 1)) (de_var (i := 7)))))
    (dss_cons (ds_while (dt_in (de_ix (de_var (i := 1)) (de_var (i := 3))) (de_var (i := 6))) (dss_one (ds_augSAdd (de_var (i := 1)) (de_var (i := 3)) de_int)))
    (dss_one (ds_expr (de_append (de_var (i := 2)) (de_var (i := 3))))))))
    (dss_cons (ds_set (i := 4) de_int)
    (dss_cons (ds_for (di_e (de_var (i := 0))) (dg_name (i := 5)) (dss_one (ds_if (dt_gt (de_lenV (de_call (h_present.mono (by decide)) V.g_present (da_cons (de_var (i := 0)) (da_cons (de_ix (de_var (i := 5)) de_int) da_nil))) rfl V.b_len) (de_lenV (de_call (h_present.mono (by decide)) V.g_present (da_cons (de_var (i := 0)) (da_cons (de_var (i := 4)) da_nil))) rfl V.b_len)) (dss_one (ds_set (i := 4) (de_ix (de_var (i := 5)) de_int))) dss_nil)))
    (dss_one (ds_ret (de_tup (da_cons (de_tuple (dq_e (de_var (i := 1))) rfl V.b_tuple) (da_cons (de_var (i := 4)) da_nil))))))))))
theorem raw_on_shelves {P : Program} {w : World} {W : Wd} {base : Heap} (V : Ev W base) (h_meets : DFn P w W base 3 (He.fAd W.K ("meets", none)) 2 S_meets) (h_present : DFn P w W base 4 (He.fAd W.K ("present", none)) 2 S_present) : DFn P w W base 7 (He.fAd W.K ("on_shelves", none)) 1 (bodyF 8 d_on_shelves) := by
  obtain ⟨fd, F⟩ := V.D_on_shelves
  exact DFn.ofT V.cx F sc_on_shelves (F.bindsN fun _ _ _ _ _ _ us hl => match us, hl with | [_], _ => rfl) (body_on_shelves V h_meets h_present)
noncomputable def S_on_shelves : List PV → Mo PV := bodyF 8 d_on_shelves
theorem ref_on_shelves : Ref 1 (bodyF 8 d_on_shelves) S_on_shelves := ref_self
theorem ok_on_shelves {P : Program} {w : World} {W : Wd} {base : Heap} (V : Ev W base) : DFn P w W base 7 (He.fAd W.K ("on_shelves", none)) 1 S_on_shelves := raw_on_shelves V (ok_meets V) (ok_present V)
abbrev N__law_box : List Str := ["script"]
noncomputable def d__law_box_1 : PD.Env → Mo Fl := (dRet (fun ρ => bnd ((fun ρ => bnd ((dCons (fun ρ => bnd ((fun ρ => bnd ((dSlL (dVar 0) (fun _ st => .ok none st) (fun ρ => bnd ((dC (.int 63)) ρ) intM)) ρ) fun l => fun st => .ok l st) ρ) layL) (dCons (dC (.int 0)) (dCons (dBin oAdd (dC (.int 4711)) (fun ρ => bnd ((dVar 0) ρ) lenM)) (fun _ st => .ok [] st)))) ρ) capM) ρ) layL))
noncomputable def d__law_box : PD.Env → Mo Fl := d__law_box_1
theorem sc__law_box : FnScope N__law_box ["script"] (defScope (top 22)) := C8.fnScope_by (by decide +kernel)
theorem body__law_box {P : Program} {w : World} {W : Wd} {base : Heap} (V : Ev W base)  : Body P w W base N__law_box "_law_box" (defScope (top 22)) (He.fAd W.K ("_law_box", none)) 2 (defBody (top 22)) d__law_box := fun cdv A outer s H E =>
  (dss_one (ds_ret (de_l (dl_lst (da_cons (de_l (dl_list (dq_l (dl_sl (de_var (i := 0)) do_none (do_some de_int))) rfl V.b_list)) (da_cons de_int (da_cons (de_add de_int (de_lenV (de_var (i := 0)) rfl V.b_len)) da_nil)))))))
theorem raw__law_box {P : Program} {w : World} {W : Wd} {base : Heap} (V : Ev W base)  : DFn P w W base 3 (He.fAd W.K ("_law_box", none)) 1 (bodyF 1 d__law_box) := by
  obtain ⟨fd, F⟩ := V.D__law_box
  exact DFn.of V.cx F sc__law_box (F.bindsN fun _ _ _ _ _ _ us hl => match us, hl with | [_], _ => rfl) (body__law_box V )
noncomputable def S__law_box : List PV → Mo PV := bodyF 1 d__law_box
theorem ref__law_box : Ref 1 (bodyF 1 d__law_box) S__law_box := ref_self
theorem ok__law_box {P : Program} {w : World} {W : Wd} {base : Heap} (V : Ev W base) : DFn P w W base 3 (He.fAd W.K ("_law_box", none)) 1 S__law_box := raw__law_box V 
abbrev N__law_load : List Str := ["box", "cells", "first", "second", "cell", "size"]
noncomputable def d__law_load_1 : PD.Env → Mo Fl := (dSet 1 (dBin oIx (dVar 0) (dC (.int 0))))
noncomputable def d__law_load_2 : PD.Env → Mo Fl := (dSet 4 (fun ρ => bnd ((fun ρ => bnd ((dVar 1) ρ) fun q => bnd (lstM q) fun _ => bnd (dCons (dC (.int 0)) (fun _ st => .ok [] st) ρ) fun l => popAtM q l) ρ) intV))
noncomputable def d__law_load_3 : PD.Env → Mo Fl := (dSet 5 (dIf (dB (dBin oGe (dVar 4) (dC (.int 0)))) (dBin oMul (dC (.int 2)) (dVar 4)) (dBin oSub (dBin oMul (dUn oNeg (dC (.int 2))) (dVar 4)) (dC (.int 1)))))
noncomputable def d__law_load_4 : PD.Env → Mo Fl := (dRet (dVar 5))
noncomputable def d__law_load_5 : PD.Env → Mo Fl := (dIfS (dB (dBin oGe (dVar 5) (dC (.int 1000000000000000000)))) d__law_load_4 dNil)
noncomputable def d__law_load_6 : PD.Env → Mo Fl := (dAsg (dBin oMod (fun ρ => bnd ((dBin oAdd (dBin oAdd (dBin oMul (dBin oIx (dVar 0) (dC (.int 2))) (dC (.int 69621))) (dBin oMul (dVar 5) (dC (.int 48271)))) (dC (.int 11))) ρ) intV) (dC (.int 2147483647))) (gSb (dVar 0) (dC (.int 2))))
noncomputable def d__law_load_7 : PD.Env → Mo Fl := (dIfS (dB (dBin oGt (fun ρ => bnd ((dVar 1) ρ) lenM) (dC (.int 0)))) (dSeq d__law_load_2
    (dSeq d__law_load_3
    (dSeq d__law_load_5
    d__law_load_6))) dNil)
noncomputable def d__law_load_8 : PD.Env → Mo Fl := (dSet 2 (dBin oMod (fun ρ => bnd ((dBin oAdd (dBin oMul (dBin oIx (dVar 0) (dC (.int 2))) (dC (.int 48271))) (dC (.int 17))) ρ) intV) (dC (.int 2147483629))))
noncomputable def d__law_load_9 : PD.Env → Mo Fl := (dSet 3 (dBin oMod (fun ρ => bnd ((dBin oAdd (dBin oMul (dVar 2) (dC (.int 69621))) (dC (.int 5))) ρ) intV) (dC (.int 2147483587))))
noncomputable def d__law_load_10 : PD.Env → Mo Fl := (dAsg (dBin oMod (fun ρ => bnd ((dBin oAdd (dBin oMul (dVar 3) (dC (.int 40692))) (dC (.int 3))) ρ) intV) (dC (.int 2147483563))) (gSb (dVar 0) (dC (.int 2))))
noncomputable def d__law_load_11 : PD.Env → Mo Fl := (dRet (dBin oAdd (dBin oAdd (dBin oMul (dVar 2) (dC (.int 4611686014132420609))) (dBin oMul (dVar 3) (dC (.int 2147483647)))) (dBin oIx (dVar 0) (dC (.int 2)))))
noncomputable def d__law_load : PD.Env → Mo Fl := (dSeq d__law_load_1
    (dSeq d__law_load_7
    (dSeq d__law_load_8
    (dSeq d__law_load_9
    (dSeq d__law_load_10
    d__law_load_11)))))
theorem sc__law_load : FnScope N__law_load ["box"] (defScope (top 23)) := C8.fnScope_by (by decide +kernel)
theorem body__law_load {P : Program} {w : World} {W : Wd} {base : Heap} (V : Ev W base)  : Body P w W base N__law_load "_law_load" (defScope (top 23)) (He.fAd W.K ("_law_load", none)) 2 (defBody (top 23)) d__law_load := fun cdv A outer s H E =>
  (dss_cons (ds_set (i := 1) (de_ix (de_var (i := 0)) de_int))
    (dss_cons (ds_if (dt_gt (de_lenV (de_var (i := 1)) rfl V.b_len) de_int) (dss_cons (ds_set (i := 4) (de_intc (de_popAt (de_var (i := 1)) de_int) rfl V.b_int))
    (dss_cons (ds_set (i := 5) (de_if (dt_ge (de_var (i := 4)) de_int) (de_mul de_int (de_var (i := 4))) (de_sub (de_mul (de_neg de_int) (de_var (i := 4))) de_int)))
    (dss_cons (ds_if (dt_ge (de_var (i := 5)) de_int) (dss_one (ds_ret (de_var (i := 5)))) dss_nil)
    (dss_one (ds_asg (de_mod (de_intc (de_add (de_add (de_mul (de_ix (de_var (i := 0)) de_int) de_int) (de_mul (de_var (i := 5)) de_int)) de_int) rfl V.b_int) de_int) (dg_sub (de_var (i := 0)) de_int)))))) dss_nil)
    (dss_cons (ds_set (i := 2) (de_mod (de_intc (de_add (de_mul (de_ix (de_var (i := 0)) de_int) de_int) de_int) rfl V.b_int) de_int))
    (dss_cons (ds_set (i := 3) (de_mod (de_intc (de_add (de_mul (de_var (i := 2)) de_int) de_int) rfl V.b_int) de_int))
    (dss_cons (ds_asg (de_mod (de_intc (de_add (de_mul (de_var (i := 3)) de_int) de_int) rfl V.b_int) de_int) (dg_sub (de_var (i := 0)) de_int))
    (dss_one (ds_ret (de_add (de_add (de_mul (de_var (i := 2)) de_int) (de_mul (de_var (i := 3)) de_int)) (de_ix (de_var (i := 0)) de_int)))))))))
theorem raw__law_load {P : Program} {w : World} {W : Wd} {base : Heap} (V : Ev W base)  : DFn P w W base 3 (He.fAd W.K ("_law_load", none)) 1 (bodyF 6 d__law_load) := by
  obtain ⟨fd, F⟩ := V.D__law_load
  exact DFn.of V.cx F sc__law_load (F.bindsN fun _ _ _ _ _ _ us hl => match us, hl with | [_], _ => rfl) (body__law_load V )
noncomputable def S__law_load : List PV → Mo PV := bodyF 6 d__law_load
theorem ref__law_load : Ref 1 (bodyF 6 d__law_load) S__law_load := ref_self
/-- the box at b, its cells at c -/
structure BoxAt (b c : Nat) (st : Sto) : Prop where
  ne : b ≠ c
  bx : ∃ v sd : Int, st[b]? = some (.lst false [.loc c, .int v, .int sd])
  cs : ∃ l : List Int, st[c]? = some (.lst false (l.map PV.int)) ∧ l.length ≤ 16777216
/-- nothing but the box and its cells has changed -/
structure Ch (b c : Nat) (st s : Sto) : Prop where
  le : st.length ≤ s.length
  eq : ∀ i, i < st.length → i ≠ b → i ≠ c → s[i]? = st[i]?
theorem Ch.refl {b c : Nat} {st : Sto} : Ch b c st st := ⟨Nat.le_refl _, fun _ _ _ _ => rfl⟩
theorem Ch.trans {b c : Nat} {s1 s2 s3 : Sto} (h : Ch b c s1 s2) (g : Ch b c s2 s3) : Ch b c s1 s3 := ⟨Nat.le_trans h.le g.le, fun i hi h1 h2 => by
  rw [g.eq i (Nat.lt_of_lt_of_le hi h.le) h1 h2, h.eq i hi h1 h2]⟩
theorem Ch.app {b c : Nat} {st ex : Sto} : Ch b c st (st ++ ex) := ⟨by simp, fun i hi _ _ => List.getElem?_append_left hi⟩
theorem Ch.setB {b c : Nat} {st : Sto} {o : Ob} : Ch b c st (st.set b o) := ⟨by simp, fun i hi h1 h2 => List.getElem?_set_ne (fun h => h1 h.symm)⟩
theorem Ch.setC {b c : Nat} {st : Sto} {o : Ob} : Ch b c st (st.set c o) := ⟨by simp, fun i hi h1 h2 => List.getElem?_set_ne (fun h => h2 h.symm)⟩
theorem BoxAt.lt {b c : Nat} {st : Sto} (h : BoxAt b c st) : b < st.length ∧ c < st.length := by
  obtain ⟨v, sd, e⟩ := h.bx
  obtain ⟨l, e2, _⟩ := h.cs
  exact ⟨(List.getElem?_eq_some_iff.mp e).1, (List.getElem?_eq_some_iff.mp e2).1⟩
theorem BoxAt.app {b c : Nat} {st ex : Sto} (h : BoxAt b c st) : BoxAt b c (st ++ ex) := ⟨h.ne, by
  obtain ⟨v, sd, e⟩ := h.bx
  exact ⟨v, sd, by rw [List.getElem?_append_left h.lt.1]; exact e⟩, by
  obtain ⟨l, e, hl⟩ := h.cs
  exact ⟨l, by rw [List.getElem?_append_left h.lt.2]; exact e, hl⟩⟩
theorem BoxAt.setO {b c i : Nat} {st : Sto} {o : Ob} (h : BoxAt b c st) (h1 : i ≠ b) (h2 : i ≠ c) : BoxAt b c (st.set i o) := ⟨h.ne, by
  obtain ⟨v, sd, e⟩ := h.bx
  exact ⟨v, sd, by rw [List.getElem?_set_ne h1]; exact e⟩, by
  obtain ⟨l, e, hl⟩ := h.cs
  exact ⟨l, by rw [List.getElem?_set_ne h2]; exact e, hl⟩⟩
theorem BoxAt.setB {b c : Nat} {st : Sto} {v sd : Int} (h : BoxAt b c st) : BoxAt b c (st.set b (.lst false [.loc c, .int v, .int sd])) := ⟨h.ne, ⟨v, sd, by rw [List.getElem?_set_self h.lt.1]⟩, by
  obtain ⟨l, e, hl⟩ := h.cs
  exact ⟨l, by rw [List.getElem?_set_ne h.ne]; exact e, hl⟩⟩
theorem BoxAt.setC {b c : Nat} {st : Sto} {l : List Int} (h : BoxAt b c st) (hl : l.length ≤ 16777216) : BoxAt b c (st.set c (.lst false (l.map PV.int))) := ⟨h.ne, by
  obtain ⟨v, sd, e⟩ := h.bx
  exact ⟨v, sd, by rw [List.getElem?_set_ne (Ne.symm h.ne)]; exact e⟩, ⟨l, by rw [List.getElem?_set_self h.lt.2], hl⟩⟩
/-- the same box, or another -/
def Bx (b c : Nat) (st s : Sto) : Prop := Ch b c st s ∧ BoxAt b c s
theorem atI3_0 {x y z : PV} : atI [x, y, z] 0 = some x := rfl
theorem atI3_1 {x y z : PV} : atI [x, y, z] 1 = some y := rfl
theorem atI3_2 {x y z : PV} : atI [x, y, z] 2 = some z := rfl
theorem ixN3_1 : ixN 3 1 = some 1 := rfl
theorem ixN3_2 : ixN 3 2 = some 2 := rfl
theorem seqIndex_0 {n : Nat} : seqIndex? 0 (n + 1) = some 0 := by simp [seqIndex?]
/-- the last part: two more numbers -/
theorem law_load_tail {b c : Nat} {st : Sto} {x1 x4 x5 : Option PV} (h : BoxAt b c st) : Ok (dSeq d__law_load_8 (dSeq d__law_load_9 (dSeq d__law_load_10 d__law_load_11)) [some (.loc b), x1, none, none, x4, x5] st) (fun fl s => (∃ d : Int, fl = .rt (.int d)) ∧ Bx b c st s) := by
  obtain ⟨v, sd, e⟩ := h.bx
  have hb := h.lt.1
  have hself : ∀ o : Ob, (st.set b o)[b]? = some o := fun o => List.getElem?_set_self hb
  simp [d__law_load_8, d__law_load_9, d__law_load_10, d__law_load_11, e, atI3_2, ixN3_2, hself, CM]
  exact ⟨Ch.setB, h.setB⟩
theorem law_load_ok {b c : Nat} {st : Sto} (h : BoxAt b c st) : Ok (S__law_load [.loc b] st) (fun p s => (∃ d : Int, p = .int d) ∧ Bx b c st s) := by
  obtain ⟨v, sd, e⟩ := h.bx
  obtain ⟨l, ec, hl⟩ := h.cs
  have hb := h.lt.1
  have hc := h.lt.2
  unfold S__law_load
  simp only [e_body, d__law_load, ok_bnd, ok_seq]
  simp [start0, d__law_load_1, e, atI3_0, d__law_load_7, ec]
  have fin : ∀ (s0 : Sto) (x1 x4 x5 : Option PV), Bx b c st s0 → Ok (dSeq d__law_load_8 (dSeq d__law_load_9 (dSeq d__law_load_10 d__law_load_11)) [some (.loc b), x1, none, none, x4, x5] s0) (fun fl s1 => Ok (retF fl s1) fun p s => (∃ d : Int, p = .int d) ∧ Bx b c st s) := fun s0 x1 x4 x5 hs => by
    refine (law_load_tail hs.2).imp fun fl s hh => ?_
    obtain ⟨⟨d, rfl⟩, h2, h3⟩ := hh
    simp
    exact ⟨hs.1.trans h2, h3⟩
  cases l with
  | nil =>
    have z := fin st (some (.loc c)) none none ⟨Ch.refl, h⟩
    rw [ok_seq] at z
    simpa using z
  | cons x l =>
    have e' : (st.set c (.lst false (l.map PV.int)))[b]? = some (.lst false [.loc c, .int v, .int sd]) := by rw [List.getElem?_set_ne (Ne.symm h.ne)]; exact e
    have hl' : l.length ≤ 16777216 := by rw [List.length_cons] at hl; omega
    have h1 := h.setC hl'
    have b1 : Bx b c st (st.set c (.lst false (l.map PV.int))) := ⟨Ch.setC, h1⟩
    have z : ∀ (x4 x5 : Option PV) (v sd : Int), Ok (dSeq d__law_load_8 (dSeq d__law_load_9 (dSeq d__law_load_10 d__law_load_11)) [some (.loc b), some (.loc c), none, none, x4, x5] ((st.set c (.lst false (l.map PV.int))).set b (.lst false [.loc c, .int v, .int sd]))) (fun fl s1 => Ok (retF fl s1) fun p s => (∃ d : Int, p = .int d) ∧ Bx b c st s) := fun x4 x5 v sd => fin _ _ _ _ ⟨b1.1.trans Ch.setB, h1.setB⟩
    simp only [ok_seq] at z
    simp [d__law_load_2, d__law_load_3, d__law_load_4, d__law_load_5, d__law_load_6, ec, seqIndex_0, e', atI3_2, ixN3_2, CM, hl']
    split
    · split
      · exact b1
      · simpa using z _ _ _ _
    · split
      · exact b1
      · simpa using z _ _ _ _
theorem ok__law_load {P : Program} {w : World} {W : Wd} {base : Heap} (V : Ev W base) : DFn P w W base 3 (He.fAd W.K ("_law_load", none)) 1 S__law_load := raw__law_load V 
abbrev N__law_draw : List Str := ["box", "many", "digit"]
noncomputable def d__law_draw_1 : PD.Env → Mo Fl := (dAsg (fun ρ => bnd ((dCons (dVar 0) (fun _ st => .ok [] st)) ρ) (callM 1 S__law_load)) (gSb (dVar 0) (dC (.int 1))))
noncomputable def d__law_draw_2 : PD.Env → Mo Fl := (dIfS (dB (dBin oLt (dBin oIx (dVar 0) (dC (.int 1))) (dVar 1))) d__law_draw_1 dNil)
noncomputable def d__law_draw_3 : PD.Env → Mo Fl := (dSet 2 (dBin oMod (fun ρ => bnd ((dBin oIx (dVar 0) (dC (.int 1))) ρ) intV) (dVar 1)))
noncomputable def d__law_draw_4 : PD.Env → Mo Fl := (dAsg (dBin oDiv (dBin oIx (dVar 0) (dC (.int 1))) (dVar 1)) (gSb (dVar 0) (dC (.int 1))))
noncomputable def d__law_draw_5 : PD.Env → Mo Fl := (dRet (dVar 2))
noncomputable def d__law_draw : PD.Env → Mo Fl := (dSeq d__law_draw_2
    (dSeq d__law_draw_3
    (dSeq d__law_draw_4
    d__law_draw_5)))
theorem sc__law_draw : FnScope N__law_draw ["box", "many"] (defScope (top 24)) := C8.fnScope_by (by decide +kernel)
theorem body__law_draw {P : Program} {w : World} {W : Wd} {base : Heap} (V : Ev W base) (h__law_load : DFn P w W base 3 (He.fAd W.K ("_law_load", none)) 1 S__law_load) : Body P w W base N__law_draw "_law_draw" (defScope (top 24)) (He.fAd W.K ("_law_draw", none)) 3 (defBody (top 24)) d__law_draw := fun cdv A outer s H E =>
  (dss_cons (ds_if (dt_lt (de_ix (de_var (i := 0)) de_int) (de_var (i := 1))) (dss_one (ds_asg (de_call (h__law_load.mono (by decide)) V.g__law_load (da_cons (de_var (i := 0)) da_nil)) (dg_sub (de_var (i := 0)) de_int))) dss_nil)
    (dss_cons (ds_set (i := 2) (de_mod (de_intc (de_ix (de_var (i := 0)) de_int) rfl V.b_int) (de_var (i := 1))))
    (dss_cons (ds_asg (de_div (de_ix (de_var (i := 0)) de_int) (de_var (i := 1))) (dg_sub (de_var (i := 0)) de_int))
    (dss_one (ds_ret (de_var (i := 2)))))))
theorem raw__law_draw {P : Program} {w : World} {W : Wd} {base : Heap} (V : Ev W base) (h__law_load : DFn P w W base 3 (He.fAd W.K ("_law_load", none)) 1 S__law_load) : DFn P w W base 4 (He.fAd W.K ("_law_draw", none)) 2 (bodyF 3 d__law_draw) := by
  obtain ⟨fd, F⟩ := V.D__law_draw
  exact DFn.of V.cx F sc__law_draw (F.bindsN fun _ _ _ _ _ _ us hl => match us, hl with | [_, _], _ => rfl) (body__law_draw V h__law_load)
noncomputable def S__law_draw : List PV → Mo PV := bodyF 3 d__law_draw
theorem ref__law_draw : Ref 2 (bodyF 3 d__law_draw) S__law_draw := ref_self
theorem law_draw_ok {b c : Nat} {st : Sto} {m : Int} (h : BoxAt b c st) (hm : 0 < m) (hm2 : m < 1073741824) : Ok (S__law_draw [.loc b, .int m] st) (fun p s => ∃ d : Int, p = .int d ∧ 0 ≤ d ∧ d < m ∧ Bx b c st s) := by
  have tail : ∀ s0 : Sto, Bx b c st s0 → Ok (dSeq d__law_draw_3 (dSeq d__law_draw_4 d__law_draw_5) [some (.loc b), some (.int m), none] s0) (fun fl s1 => Ok (retF fl s1) fun p s => ∃ d : Int, p = .int d ∧ 0 ≤ d ∧ d < m ∧ Bx b c st s) := fun s0 hs => by
    obtain ⟨v, sd, e⟩ := hs.2.bx
    have hb := hs.2.lt.1
    have hself : ∀ o : Ob, (s0.set b o)[b]? = some o := fun o => List.getElem?_set_self hb
    simp [d__law_draw_3, d__law_draw_4, d__law_draw_5, e, atI3_1, ixN3_1, hself, hm]
    have q1 := Int.emod_nonneg v (show m ≠ 0 by omega)
    have q2 := Int.emod_lt_of_pos v hm
    have q3 := hs.1.trans (Ch.setB (o := .lst false [.loc c, .int (v / m), .int sd]))
    have q4 := hs.2.setB (v := v / m) (sd := sd)
    exact ⟨⟨hm, hm2⟩, q1, q2, q3, q4⟩
  obtain ⟨v, sd, e⟩ := h.bx
  unfold S__law_draw
  simp only [e_body, d__law_draw, ok_bnd]
  rw [ok_seq]
  simp [start0, d__law_draw_2, e, atI3_1, d__law_draw_1, -ok_seq]
  split
  · refine (law_load_ok h).imp fun p s hh => ?_
    obtain ⟨⟨d, rfl⟩, h2, h3⟩ := hh
    obtain ⟨v', sd', e'⟩ := h3.bx
    simp [e', ixN3_1, -ok_seq]
    exact tail _ ⟨h2.trans Ch.setB, h3.setB⟩
  · simpa [-ok_seq] using tail st ⟨Ch.refl, h⟩
theorem law_box_ok {p : PV} {ns : List Int} {st : Sto} (h : ScrAt p ns st) (hn : ns.length ≤ 63) : Ok (S__law_box [p] st) (fun q s => ∃ b c, q = .loc b ∧ BoxAt b c s ∧ st.length ≤ b ∧ st.length ≤ c ∧ ∃ ex, s = st ++ ex) := by
  have e1 : ∀ s, lstM p (st ++ s) = .ok (ns.map PV.int) (st ++ s) := fun s => by
    rcases h with rfl | ⟨i, lk, rfl, e⟩
    · rfl
    · have e' : (st ++ s)[i]? = some (.lst lk (ns.map PV.int)) := by
        rw [List.getElem?_append_left (List.getElem?_eq_some_iff.mp e).1]; exact e
      rw [m_lstL, e']
  have e2 : ∀ s, lenM p (st ++ s) = .ok (.int (ns.length : Int)) (st ++ s) := fun s => by
    rcases h with rfl | ⟨i, lk, rfl, e⟩
    · exact m_lenK
    · have e' : (st ++ s)[i]? = some (.lst lk (ns.map PV.int)) := by
        rw [List.getElem?_append_left (List.getElem?_eq_some_iff.mp e).1]; exact e
      rw [m_lenL, e']
      simp
  have e10 := e1 []
  rw [List.append_nil] at e10
  have hc : cutP (ns.map PV.int) none (some 63) = ns.map PV.int := by
    unfold cutP
    rw [show (63 : Int) = ((63 : Nat) : Int) from rfl, HT.sIx_nat, HT.sIx_none, List.length_map, List.drop_zero, Nat.sub_zero, Nat.min_eq_right hn]
    exact List.take_of_length_le (by simp)
  unfold S__law_box
  simp [d__law_box, d__law_box_1, start0, e10, hc, e2]
  exact ⟨st.length, ⟨by omega, ⟨0, 4711 + (ns.length : Int), by rw [List.getElem?_append_right (by omega)]; simp⟩, ⟨ns, by simp, by omega⟩⟩, Nat.le_refl _⟩
theorem ok__law_draw {P : Program} {w : World} {W : Wd} {base : Heap} (V : Ev W base) : DFn P w W base 4 (He.fAd W.K ("_law_draw", none)) 2 S__law_draw := raw__law_draw V (ok__law_load V)
abbrev N__law_same : List Str := ["a", "b", "k"]
noncomputable def d__law_same_1 (S__law_same : List PV → Mo PV) : PD.Env → Mo Fl := (dRet (dAndV (dBin (oEq false) (fun ρ => bnd ((dVar 0) ρ) lenM) (fun ρ => bnd ((dVar 1) ρ) lenM)) (fun ρ => bnd ((dLc (fun ρ => bnd ((dCons (fun ρ => bnd ((dVar 0) ρ) lenM) (fun _ st => .ok [] st)) ρ) rg1M) (.nm 2) dYes (fun ρ => bnd ((dCons (dBin oIx (dVar 0) (dVar 2)) (dCons (dBin oIx (dVar 1) (dVar 2)) (fun _ st => .ok [] st))) ρ) (callM 2 S__law_same)) [2]) ρ) allQ)))
noncomputable def d__law_same_2 (S__law_same : List PV → Mo PV) : PD.Env → Mo Fl := (dIfS (dOrT (dAndT (fun ρ => bnd ((dIsi .tup (dVar 0)) ρ) truM) (fun ρ => bnd ((dIsi .tup (dVar 1)) ρ) truM)) (dAndT (fun ρ => bnd ((dIsi .lst (dVar 0)) ρ) truM) (fun ρ => bnd ((dIsi .lst (dVar 1)) ρ) truM))) (d__law_same_1 S__law_same) dNil)
noncomputable def d__law_same_3 (S__law_same : List PV → Mo PV) : PD.Env → Mo Fl := (dRet (dAndV (dIsi .bl (dVar 0)) (dAndV (dIsi .bl (dVar 1)) (dBin (oEq false) (dVar 0) (dVar 1)))))
noncomputable def d__law_same_4 (S__law_same : List PV → Mo PV) : PD.Env → Mo Fl := (dIfS (dOrT (fun ρ => bnd ((dIsi .bl (dVar 0)) ρ) truM) (fun ρ => bnd ((dIsi .bl (dVar 1)) ρ) truM)) (d__law_same_3 S__law_same) dNil)
noncomputable def d__law_same_5 (S__law_same : List PV → Mo PV) : PD.Env → Mo Fl := (dRet (dBin (oEq false) (dVar 0) (dVar 1)))
noncomputable def d__law_same_6 (S__law_same : List PV → Mo PV) : PD.Env → Mo Fl := (dIfS (dOrT (dAndT (fun ρ => bnd ((dIsi .int (dVar 0)) ρ) truM) (fun ρ => bnd ((dIsi .int (dVar 1)) ρ) truM)) (dAndT (fun ρ => bnd ((dIsi .str (dVar 0)) ρ) truM) (fun ρ => bnd ((dIsi .str (dVar 1)) ρ) truM))) (d__law_same_5 S__law_same) dNil)
noncomputable def d__law_same_7 (S__law_same : List PV → Mo PV) : PD.Env → Mo Fl := (dRet (dAndV (dBin (fun p q => match q with | .non => oIsN false p q | _ => fail) (dVar 0) (dC .non)) (dBin (fun p q => match q with | .non => oIsN false p q | _ => fail) (dVar 1) (dC .non))))
noncomputable def d__law_same (S__law_same : List PV → Mo PV) : PD.Env → Mo Fl := (dSeq (d__law_same_2 S__law_same)
    (dSeq (d__law_same_4 S__law_same)
    (dSeq (d__law_same_6 S__law_same)
    (d__law_same_7 S__law_same))))
theorem sc__law_same : FnScope N__law_same ["a", "b"] (defScope (top 25)) := C8.fnScope_by (by decide +kernel)
theorem body__law_same {P : Program} {w : World} {W : Wd} {base : Heap} (V : Ev W base) {S__law_same : List PV → Mo PV} {k : Nat} (hk : 2 ≤ k) (h__law_same : DFn P w W base k (He.fAd W.K ("_law_same", none)) 2 S__law_same) : Body P w W base N__law_same "_law_same" (defScope (top 25)) (He.fAd W.K ("_law_same", none)) k (defBody (top 25)) (d__law_same S__law_same) := fun cdv A outer s H E =>
  (dss_cons (ds_if (dt_w (dw_or (dt_w (dw_and (dt_e (de_isi .tup (de_var (i := 0)) rfl V.b_isinstance rfl V.b_tuple boot_tuple_)) (dw_and1 (dt_e (de_isi .tup (de_var (i := 1)) rfl V.b_isinstance rfl V.b_tuple boot_tuple_))))) (dw_or1 (dt_w (dw_and (dt_e (de_isi .lst (de_var (i := 0)) rfl V.b_isinstance rfl V.b_list boot_list_)) (dw_and1 (dt_e (de_isi .lst (de_var (i := 1)) rfl V.b_isinstance rfl V.b_list boot_list_)))))))) (dss_one (ds_ret (de_and (de_eq (de_lenV (de_var (i := 0)) rfl V.b_len) (de_lenV (de_var (i := 1)) rfl V.b_len)) (de_one (de_all (dl_lc (own := [("k", 2)]) (di_range1 (da_cons (de_lenV (de_var (i := 0)) rfl V.b_len) da_nil) rfl V.b_range) (blkOk_by (N := N__law_same) (sc := defScope (top 25)) (by decide +kernel)) (fun _ _ _ _ _ => (dp_name (i := 2))) (fun _ _ _ _ _ => dts_nil) (fun _ _ _ _ _ => (de_call (h__law_same.mono (by omega)) V.g__law_same (da_cons (de_ix (de_var (i := 0)) (de_var (i := 2))) (da_cons (de_ix (de_var (i := 1)) (de_var (i := 2))) da_nil))))) rfl V.b_all))))) dss_nil)
    (dss_cons (ds_if (dt_w (dw_or (dt_e (de_isi .bl (de_var (i := 0)) rfl V.b_isinstance rfl V.b_bool boot_bool_)) (dw_or1 (dt_e (de_isi .bl (de_var (i := 1)) rfl V.b_isinstance rfl V.b_bool boot_bool_))))) (dss_one (ds_ret (de_and (de_isi .bl (de_var (i := 0)) rfl V.b_isinstance rfl V.b_bool boot_bool_) (de_and (de_isi .bl (de_var (i := 1)) rfl V.b_isinstance rfl V.b_bool boot_bool_) (de_one (de_eq (de_var (i := 0)) (de_var (i := 1)))))))) dss_nil)
    (dss_cons (ds_if (dt_w (dw_or (dt_w (dw_and (dt_e (de_isi .int (de_var (i := 0)) rfl V.b_isinstance rfl V.b_int boot_int_)) (dw_and1 (dt_e (de_isi .int (de_var (i := 1)) rfl V.b_isinstance rfl V.b_int boot_int_))))) (dw_or1 (dt_w (dw_and (dt_e (de_isi .str (de_var (i := 0)) rfl V.b_isinstance rfl V.b_str boot_str_)) (dw_and1 (dt_e (de_isi .str (de_var (i := 1)) rfl V.b_isinstance rfl V.b_str boot_str_)))))))) (dss_one (ds_ret (de_eq (de_var (i := 0)) (de_var (i := 1))))) dss_nil)
    (dss_one (ds_ret (de_and (de_isN (de_var (i := 0))) (de_one (de_isN (de_var (i := 1))))))))))
theorem raw__law_same {P : Program} {w : World} {W : Wd} {base : Heap} (V : Ev W base) {S__law_same : List PV → Mo PV} {k : Nat} (hk : 2 ≤ k) (h__law_same : DFn P w W base k (He.fAd W.K ("_law_same", none)) 2 S__law_same) : DFn P w W base (k + 1) (He.fAd W.K ("_law_same", none)) 2 (bodyF 3 (d__law_same S__law_same)) := by
  obtain ⟨fd, F⟩ := V.D__law_same
  exact DFn.of V.cx F sc__law_same (F.bindsN fun _ _ _ _ _ _ us hl => match us, hl with | [_, _], _ => rfl) (body__law_same V hk h__law_same)
def sca : PV → Bool
  | .bl _ => true
  | .int _ => true
  | _ => false
noncomputable def S0__law_same : List PV → Mo PV := pureS (fun ps => ∃ a, ps = [a, a] ∧ sca a = true) fun _ => .bl true
theorem law_same_sca {a : PV} {S : List PV → Mo PV} {st : Sto} (h : sca a = true) : Ok (bodyF 3 (d__law_same S) [a, a] st) (fun p s => p = .bl true ∧ s = st) := by
  cases a with
  | bl b => cases b <;> simp [d__law_same, d__law_same_2, d__law_same_4, d__law_same_3, start0, isK, okd]
  | int i => simp [d__law_same, d__law_same_2, d__law_same_4, d__law_same_6, d__law_same_5, start0, isK, okd_int]
  | _ => cases h
theorem ref0__law_same : Ref 2 (bodyF 3 (d__law_same fun _ => fail)) S0__law_same := ref_same (fun ps st h => by
  obtain ⟨a, rfl, ha⟩ := h
  exact law_same_sca ha) (fun ps m h => rfl)
noncomputable def S__law_same : List PV → Mo PV := pureS (fun ps => ∃ a, ps = [a, a] ∧ (sca a = true ∨ ∃ l : List PV, a = .tup l ∧ l.length ≤ 16777216 ∧ ∀ q ∈ l, sca q = true)) fun _ => .bl true
theorem nox__law_same : NoX S__law_same := nox_pure
theorem atI_get {l : List PV} {i : Nat} (h : i < l.length) : atI l (i : Int) = some l[i] := atI_nat (List.getElem?_eq_getElem h)
theorem ref__law_same : Ref 2 (bodyF 3 (d__law_same S0__law_same)) S__law_same := ref_same (fun ps st h => by
  obtain ⟨a, rfl, ha⟩ := h
  rcases ha with ha | ⟨l, rfl, hl, hs⟩
  · exact law_same_sca ha
  · have hr : RgOk ((l.length : Nat) : Int) := ⟨by omega, by omega⟩
    simp [d__law_same, d__law_same_2, d__law_same_1, start0, isK, okd_int]
    refine ⟨hr, ?_⟩
    rw [lc_pure (fun _ => true) (fun _ => .bl true) (by exact True.intro) (rgP 0 l.length) [] (fun q hq => by
      obtain ⟨i, hi, rfl⟩ := mem_rgP hq
      refine ⟨_, rfl, rfl, fun _ => ?_⟩
      refine Ok.eq ?_
      have e : S0__law_same [l[i], l[i]] st = .ok (.bl true) st := pureS_ok ⟨_, rfl, hs _ (List.getElem_mem hi)⟩
      simp [wipeE, atI_get hi, e]) (by unfold rgP; simpa using hl)]
    rw [List.nil_append, List.filter_eq_self.mpr (fun _ _ => rfl)]
    generalize rgP 0 l.length = x
    have z : allQ (x.map fun _ => PV.bl true) st = .ok (.bl true) st := by
      unfold allQ bnd
      have : ∀ x : List PV, blsM (x.map fun _ => PV.bl true) st = .ok (x.map fun _ => true) st := fun x => by
        induction x with
        | nil => rfl
        | cons y x ih => exact (by simp only [List.map_cons, blsM, bnd, m_bl, ih])
      rw [this]
      simp
    rw [ok_ok, z]
    simp) (fun ps m h => rfl)
@[simp] theorem law_same_ok1 {a : PV} {st : Sto} (h : sca a = true) : S__law_same [a, a] st = .ok (.bl true) st := pureS_ok ⟨a, rfl, .inl h⟩
theorem law_same_ok2 {l : List PV} {st : Sto} (hl : l.length ≤ 16777216) (h : ∀ q ∈ l, sca q = true) : S__law_same [.tup l, .tup l] st = .ok (.bl true) st := pureS_ok ⟨_, rfl, .inr ⟨l, rfl, hl, h⟩⟩

theorem ok__law_same {P : Program} {w : World} {W : Wd} {base : Heap} (V : Ev W base) : DFn P w W base 6 (He.fAd W.K ("_law_same", none)) 2 S__law_same := by
  obtain ⟨fd, F⟩ := V.D__law_same
  have d0 : DFn P w W base 2 (He.fAd W.K ("_law_same", none)) 2 (fun _ => fail) := DFn.none_ V.cx F sc__law_same (F.bindsN fun _ _ _ _ _ _ us hl => match us, hl with | [_, _], _ => rfl)
  have d1 := (raw__law_same V (by omega) d0).ref ref0__law_same nox_pure
  exact ((raw__law_same V (by omega) d1).ref ref__law_same nox__law_same).mono (by decide)
abbrev N__law_stays : List Str := ["box", "many", "span", "scale", "base", "rows", "turn", "first", "last", "other"]
noncomputable def d__law_stays_1 : PD.Env → Mo Fl := (dSet 2 (dBin oAdd (dC (.int 3)) (fun ρ => bnd ((dCons (dVar 0) (dCons (dC (.int 12)) (fun _ st => .ok [] st))) ρ) (callM 2 S__law_draw))))
noncomputable def d__law_stays_2 : PD.Env → Mo Fl := (dSet 3 (fun ρ => bnd ((fun ρ => bnd ((dCons (dC (.int 1)) (dCons (dC (.int 1)) (dCons (dBin oAdd (dC (.int 1)) (fun ρ => bnd ((dCons (dVar 0) (dCons (dBin oDiv (dC (.int 900000)) (dVar 2)) (fun _ st => .ok [] st))) ρ) (callM 2 S__law_draw))) (fun _ st => .ok [] st)))) ρ) capM) ρ) fun l => bnd ((fun ρ => bnd ((dCons (dVar 0) (dCons (dC (.int 3)) (fun _ st => .ok [] st))) ρ) (callM 2 S__law_draw)) ρ) fun i => ixQ l i))
noncomputable def d__law_stays_3 : PD.Env → Mo Fl := (dSet 4 (fun ρ => bnd ((fun ρ => bnd ((dCons (dC (.int 0)) (dCons (fun ρ => bnd ((dCons (dVar 0) (dCons (dC (.int 90000)) (fun _ st => .ok [] st))) ρ) (callM 2 S__law_draw)) (dCons (dBin oSub (dC (.int 1000000)) (dBin oMul (dVar 2) (dVar 3))) (fun _ st => .ok [] st)))) ρ) capM) ρ) fun l => bnd ((fun ρ => bnd ((dCons (dVar 0) (dCons (dC (.int 3)) (fun _ st => .ok [] st))) ρ) (callM 2 S__law_draw)) ρ) fun i => ixQ l i))
noncomputable def d__law_stays_4 : PD.Env → Mo Fl := (dSet 5 (fun ρ => bnd ((fun ρ => bnd ((fun _ st => .ok [] st) ρ) capM) ρ) layL))
noncomputable def d__law_stays_5 : PD.Env → Mo Fl := (dSet 7 (fun ρ => bnd ((dCons (dVar 0) (dCons (dVar 2) (fun _ st => .ok [] st))) ρ) (callM 2 S__law_draw)))
noncomputable def d__law_stays_6 : PD.Env → Mo Fl := (dSet 8 (dBin oAdd (dBin oAdd (dVar 7) (dC (.int 1))) (fun ρ => bnd ((dCons (dVar 0) (dCons (dBin oSub (dVar 2) (dVar 7)) (fun _ st => .ok [] st))) ρ) (callM 2 S__law_draw))))
noncomputable def d__law_stays_7 : PD.Env → Mo Fl := (dSet 9 (dBin oIx (dVar 5) (fun ρ => bnd ((dCons (dVar 0) (dCons (fun ρ => bnd ((dVar 5) ρ) lenM) (fun _ st => .ok [] st))) ρ) (callM 2 S__law_draw))))
noncomputable def d__law_stays_8 : PD.Env → Mo Fl := (dAsg (fun ρ => bnd ((fun ρ => bnd ((dCons (fun ρ => bnd ((dCons (dBin oIx (dVar 9) (dC (.int 0))) (dCons (dBin oIx (dVar 9) (dC (.int 1))) (fun _ st => .ok [] st))) ρ) tupM) (dCons (fun ρ => bnd ((dCons (dBin oIx (dVar 9) (dC (.int 0))) (dCons (dBin oMax (dVar 8) (dBin oAdd (dBin oIx (dVar 9) (dC (.int 0))) (dC (.int 1)))) (fun _ st => .ok [] st))) ρ) tupM) (dCons (fun ρ => bnd ((dCons (dBin oMin (dVar 7) (dBin oSub (dBin oIx (dVar 9) (dC (.int 1))) (dC (.int 1)))) (dCons (dBin oIx (dVar 9) (dC (.int 1))) (fun _ st => .ok [] st))) ρ) tupM) (fun _ st => .ok [] st)))) ρ) capM) ρ) fun l => bnd ((fun ρ => bnd ((dCons (dVar 0) (dCons (dC (.int 3)) (fun _ st => .ok [] st))) ρ) (callM 2 S__law_draw)) ρ) fun i => ixQ l i) (gTp 2 (gCs (gNm 7) (gCs (gNm 8) gNl))))
noncomputable def d__law_stays_9 : PD.Env → Mo Fl := (dIfS (dAndT (dB (dBin oGt (fun ρ => bnd ((dVar 5) ρ) lenM) (dC (.int 0)))) (dB (dBin (oEq false) (fun ρ => bnd ((dCons (dVar 0) (dCons (dC (.int 5)) (fun _ st => .ok [] st))) ρ) (callM 2 S__law_draw)) (dC (.int 0))))) (dSeq d__law_stays_7
    d__law_stays_8) dNil)
noncomputable def d__law_stays_10 : PD.Env → Mo Fl := (dDrop (fun ρ => bnd ((dVar 5) ρ) fun q => bnd (lstM q) fun _ => bnd (dCons (fun ρ => bnd ((dCons (dVar 7) (dCons (dVar 8) (fun _ st => .ok [] st))) ρ) tupM) (fun _ st => .ok [] st) ρ) fun l => appM q l))
noncomputable def d__law_stays_11 : PD.Env → Mo Fl := (dFor (fun ρ => bnd ((dCons (dVar 1) (fun _ st => .ok [] st)) ρ) rg1M) (gNm 6) (dSeq d__law_stays_5
    (dSeq d__law_stays_6
    (dSeq d__law_stays_9
    d__law_stays_10))))
noncomputable def d__law_stays_12 : PD.Env → Mo Fl := (dRet (fun ρ => bnd ((dLc (fun ρ => bnd ((dVar 5) ρ) srcM) (.tp [(.nm 7), (.nm 8)]) dYes (fun ρ => bnd ((dCons (dBin oAdd (dVar 4) (dBin oMul (dVar 3) (dVar 7))) (dCons (dBin oAdd (dVar 4) (dBin oMul (dVar 3) (dVar 8))) (fun _ st => .ok [] st))) ρ) tupM) [7, 8]) ρ) tupQ))
noncomputable def d__law_stays : PD.Env → Mo Fl := (dSeq d__law_stays_1
    (dSeq d__law_stays_2
    (dSeq d__law_stays_3
    (dSeq d__law_stays_4
    (dSeq d__law_stays_11
    d__law_stays_12)))))
theorem sc__law_stays : FnScope N__law_stays ["box", "many"] (defScope (top 26)) := C8.fnScope_by (by decide +kernel)
theorem body__law_stays {P : Program} {w : World} {W : Wd} {base : Heap} (V : Ev W base) (h__law_draw : DFn P w W base 4 (He.fAd W.K ("_law_draw", none)) 2 S__law_draw) : Body P w W base N__law_stays "_law_stays" (defScope (top 26)) (He.fAd W.K ("_law_stays", none)) 4 (defBody (top 26)) d__law_stays := fun cdv A outer s H E =>
  (dss_cons (ds_set (i := 2) (de_add de_int (de_call (h__law_draw.mono (by decide)) V.g__law_draw (da_cons (de_var (i := 0)) (da_cons de_int da_nil)))))
    (dss_cons (ds_set (i := 3) (de_ixL (dl_lst (da_cons de_int (da_cons de_int (da_cons (de_add de_int (de_call (h__law_draw.mono (by decide)) V.g__law_draw (da_cons (de_var (i := 0)) (da_cons (de_div de_int (de_var (i := 2))) da_nil)))) da_nil)))) (de_call (h__law_draw.mono (by decide)) V.g__law_draw (da_cons (de_var (i := 0)) (da_cons de_int da_nil)))))
    (dss_cons (ds_set (i := 4) (de_ixL (dl_lst (da_cons de_int (da_cons (de_call (h__law_draw.mono (by decide)) V.g__law_draw (da_cons (de_var (i := 0)) (da_cons de_int da_nil))) (da_cons (de_sub de_int (de_mul (de_var (i := 2)) (de_var (i := 3)))) da_nil)))) (de_call (h__law_draw.mono (by decide)) V.g__law_draw (da_cons (de_var (i := 0)) (da_cons de_int da_nil)))))
    (dss_cons (ds_set (i := 5) (de_l (dl_lst da_nil)))
    (dss_cons (ds_for (di_range1 (da_cons (de_var (i := 1)) da_nil) rfl V.b_range) (dg_name (i := 6)) (dss_cons (ds_set (i := 7) (de_call (h__law_draw.mono (by decide)) V.g__law_draw (da_cons (de_var (i := 0)) (da_cons (de_var (i := 2)) da_nil))))
    (dss_cons (ds_set (i := 8) (de_add (de_add (de_var (i := 7)) de_int) (de_call (h__law_draw.mono (by decide)) V.g__law_draw (da_cons (de_var (i := 0)) (da_cons (de_sub (de_var (i := 2)) (de_var (i := 7))) da_nil)))))
    (dss_cons (ds_if (dt_w (dw_and (dt_gt (de_lenV (de_var (i := 5)) rfl V.b_len) de_int) (dw_and1 (dt_eq (de_call (h__law_draw.mono (by decide)) V.g__law_draw (da_cons (de_var (i := 0)) (da_cons de_int da_nil))) de_int)))) (dss_cons (ds_set (i := 9) (de_ix (de_var (i := 5)) (de_call (h__law_draw.mono (by decide)) V.g__law_draw (da_cons (de_var (i := 0)) (da_cons (de_lenV (de_var (i := 5)) rfl V.b_len) da_nil)))))
    (dss_one (ds_asg (de_ixL (dl_lst (da_cons (de_tup (da_cons (de_ix (de_var (i := 9)) de_int) (da_cons (de_ix (de_var (i := 9)) de_int) da_nil))) (da_cons (de_tup (da_cons (de_ix (de_var (i := 9)) de_int) (da_cons (de_max2 (de_var (i := 8)) (de_add (de_ix (de_var (i := 9)) de_int) de_int) rfl V.b_max) da_nil))) (da_cons (de_tup (da_cons (de_min2 (de_var (i := 7)) (de_sub (de_ix (de_var (i := 9)) de_int) de_int) rfl V.b_min) (da_cons (de_ix (de_var (i := 9)) de_int) da_nil))) da_nil)))) (de_call (h__law_draw.mono (by decide)) V.g__law_draw (da_cons (de_var (i := 0)) (da_cons de_int da_nil)))) (dg_tup (dgs_cons (dg_name (i := 7)) (dgs_cons (dg_name (i := 8)) dgs_nil)))))) dss_nil)
    (dss_one (ds_expr (de_append (de_var (i := 5)) (de_tup (da_cons (de_var (i := 7)) (da_cons (de_var (i := 8)) da_nil))))))))))
    (dss_one (ds_ret (de_tuple (dq_l (dl_lc (own := [("first", 7), ("last", 8)]) (di_e (de_var (i := 5))) (blkOk_by (N := N__law_stays) (sc := defScope (top 26)) (by decide +kernel)) (fun _ _ _ _ _ => (dp_tup (dps_cons (dp_name (i := 7)) (dps_cons (dp_name (i := 8)) dps_nil)))) (fun _ _ _ _ _ => dts_nil) (fun _ _ _ _ _ => (de_tup (da_cons (de_add (de_var (i := 4)) (de_mul (de_var (i := 3)) (de_var (i := 7)))) (da_cons (de_add (de_var (i := 4)) (de_mul (de_var (i := 3)) (de_var (i := 8)))) da_nil)))))) rfl V.b_tuple))))))))
theorem raw__law_stays {P : Program} {w : World} {W : Wd} {base : Heap} (V : Ev W base) (h__law_draw : DFn P w W base 4 (He.fAd W.K ("_law_draw", none)) 2 S__law_draw) : DFn P w W base 5 (He.fAd W.K ("_law_stays", none)) 2 (bodyF 10 d__law_stays) := by
  obtain ⟨fd, F⟩ := V.D__law_stays
  exact DFn.of V.cx F sc__law_stays (F.bindsN fun _ _ _ _ _ _ us hl => match us, hl with | [_, _], _ => rfl) (body__law_stays V h__law_draw)
noncomputable def S__law_stays : List PV → Mo PV := bodyF 10 d__law_stays
theorem ref__law_stays : Ref 2 (bodyF 10 d__law_stays) S__law_stays := ref_self
def okSt (lo hi : Int) (a : Int × Int) : Prop := lo ≤ a.1 ∧ a.1 < a.2 ∧ a.2 ≤ hi
def OkL (lo hi : Int) (L : List (Int × Int)) : Prop := ∀ a ∈ L, okSt lo hi a
/-- but the box, its cells and the object at r -/
structure Ch3 (b c r : Nat) (st s : Sto) : Prop where
  le : st.length ≤ s.length
  eq : ∀ i, i < st.length → i ≠ b → i ≠ c → i ≠ r → s[i]? = st[i]?
theorem Ch.ch3 {b c r : Nat} {st s : Sto} (h : Ch b c st s) : Ch3 b c r st s := ⟨h.le, fun i h1 h2 h3 _ => h.eq i h1 h2 h3⟩
theorem Ch3.trans {b c r : Nat} {s1 s2 s3 : Sto} (h : Ch3 b c r s1 s2) (g : Ch3 b c r s2 s3) : Ch3 b c r s1 s3 := ⟨Nat.le_trans h.le g.le, fun i hi h1 h2 h3 => by
  rw [g.eq i (Nat.lt_of_lt_of_le hi h.le) h1 h2 h3, h.eq i hi h1 h2 h3]⟩
theorem Ch3.setR {b c r : Nat} {st : Sto} {o : Ob} : Ch3 b c r st (st.set r o) := ⟨by simp, fun i hi h1 h2 h3 => List.getElem?_set_ne (fun h => h3 h.symm)⟩
/-- a turn's end: the row is put on -/
theorem stays_put {b c r : Nat} {st : Sto} {x y : Int} {x1 x2 x3 x4 x6 x9 : Option PV} {R : List (Int × Int)} {Q : Fl → Sto → Prop} (h : BoxAt b c st) (hR : st[r]? = some (.lst false (R.map stP))) (hb : r ≠ b) (hc : r ≠ c) (hRl : R.length < 1000)
    (k : ∀ s, BoxAt b c s → Ch3 b c r st s → s[r]? = some (.lst false ((R ++ [(x, y)]).map stP)) → Q (.nx [some (.loc b), x1, x2, x3, x4, some (.loc r), x6, some (.int x), some (.int y), x9]) s) :
    Ok (d__law_stays_10 [some (.loc b), x1, x2, x3, x4, some (.loc r), x6, some (.int x), some (.int y), x9] st) Q := by
  have hr := (List.getElem?_eq_some_iff.mp hR).1
  have z := k (st.set r (.lst false ((R ++ [(x, y)]).map stP))) (h.setO hb hc) Ch3.setR (List.getElem?_set_self hr)
  rw [List.map_append] at z
  simp [d__law_stays_10, hR]
  exact ⟨by omega, z⟩
/-- a turn -/
theorem stays_ends {b c r : Nat} {st : Sto} {m span sc ba : Int} {x6 x7 x8 x9 : Option PV} {R : List (Int × Int)} {Q : Fl → Sto → Prop} (h : BoxAt b c st) (hsp : 0 < span) (hsp2 : span < 100) (hR : st[r]? = some (.lst false (R.map stP))) (hb : r ≠ b) (hc : r ≠ c) (hv : OkL 0 span R) (hRl : R.length < 1000)
    (k : ∀ y7 y8 y9 a s, BoxAt b c s → Ch3 b c r st s → s[r]? = some (.lst false ((R ++ [a]).map stP)) → okSt 0 span a → Q (.nx [some (.loc b), some (.int m), some (.int span), some (.int sc), some (.int ba), some (.loc r), x6, y7, y8, y9]) s) :
    Ok (dSeq d__law_stays_5 (dSeq d__law_stays_6 (dSeq d__law_stays_9 d__law_stays_10)) [some (.loc b), some (.int m), some (.int span), some (.int sc), some (.int ba), some (.loc r), x6, x7, x8, x9] st) Q := by
  have hr := (List.getElem?_eq_some_iff.mp hR).1
  simp [d__law_stays_5]
  refine (law_draw_ok h hsp (by omega)).imp fun p s hh => ?_
  obtain ⟨f, rfl, f1, f2, c1, b1⟩ := hh
  have r1 : s[r]? = _ := (c1.eq r hr hb hc).trans hR
  simp [d__law_stays_6]
  refine (law_draw_ok b1 (m := span - f) (by omega) (by omega)).imp fun p s2 hh => ?_
  obtain ⟨g, rfl, g1, g2, c2, b2⟩ := hh
  have c2' := c1.trans c2
  have r2 : s2[r]? = _ := (c2'.eq r hr hb hc).trans hR
  have fin : ∀ s3 (x y : Int) x9, BoxAt b c s3 → Ch b c st s3 → okSt 0 span (x, y) → Ok (d__law_stays_10 [some (.loc b), some (.int m), some (.int span), some (.int sc), some (.int ba), some (.loc r), x6, some (.int x), some (.int y), x9] s3) Q := fun s3 x y x9 hb3 hc3 hok =>
    stays_put hb3 ((hc3.eq r hr hb hc).trans hR) hb hc hRl fun s4 b4 c4 r4 => k _ _ _ (x, y) s4 b4 (hc3.ch3.trans c4) r4 hok
  simp [d__law_stays_9, r2]
  by_cases h0 : R = []
  · simp [h0]
    exact fin _ _ _ _ b2 c2' ⟨by omega, by dsimp only; omega, by dsimp only; omega⟩
  · simp [h0, List.length_pos_iff]
    refine (law_draw_ok b2 (m := 5) (by omega) (by omega)).imp fun p s3 hh => ?_
    obtain ⟨d, rfl, d1, d2, c3, b3⟩ := hh
    have c3' := c2'.trans c3
    have r3 : s3[r]? = _ := (c3'.eq r hr hb hc).trans hR
    simp [okd_int]
    split
    · have hRp : 0 < R.length := List.length_pos_iff.mpr h0
      simp [d__law_stays_7, r3]
      refine (law_draw_ok b3 (m := (R.length : Int)) (by omega) (by omega)).imp fun p s4 hh => ?_
      obtain ⟨e, rfl, e1, e2, c4, b4⟩ := hh
      have c4' := c3'.trans c4
      have r4 : s4[r]? = _ := (c4'.eq r hr hb hc).trans hR
      have he : ∃ j : Nat, e = (j : Int) ∧ j < R.length := ⟨e.toNat, by omega, by omega⟩
      obtain ⟨j, rfl, hj⟩ := he
      have ej := stay_at hj
      have ok0 := hv (R[j]?.getD (0, 0)) (by
        rw [List.getElem?_eq_getElem hj]
        exact List.getElem_mem hj)
      revert ej ok0
      generalize R[j]?.getD (0, 0) = o
      intro ej ok0
      obtain ⟨o0, o1⟩ := o
      obtain ⟨q1, q2, q3⟩ := ok0
      dsimp only at q1 q2 q3
      simp [r4, ej]
      simp [d__law_stays_8, stP, oMax, oMin]
      refine (law_draw_ok b4 (m := 3) (by omega) (by omega)).imp fun p s5 hh => ?_
      obtain ⟨t, rfl, t1, t2, c5, b5⟩ := hh
      have c5' := c4'.trans c5
      have ht : t = 0 ∨ t = 1 ∨ t = 2 := by omega
      rcases ht with rfl | rfl | rfl
      · simp
        exact fin _ _ _ _ b5 c5' ⟨q1, q2, q3⟩
      · simp
        refine fin _ _ _ _ b5 c5' ⟨q1, ?_, ?_⟩
        · dsimp only; omega
        · dsimp only; omega
      · simp [atI3_2]
        refine fin _ _ _ _ b5 c5' ⟨?_, ?_, q3⟩
        · dsimp only; omega
        · dsimp only; omega
    · exact fin _ _ _ _ b3 c3' ⟨by omega, by dsimp only; omega, by dsimp only; omega⟩
theorem law_stays_ok {b c : Nat} {st : Sto} {n : Nat} (h : BoxAt b c st) (hn : n ≤ 100) : Ok (S__law_stays [.loc b, .int (n : Int)] st) (fun p s => ∃ L : List (Int × Int), p = staysP L ∧ L.length = n ∧ OkL 0 1000000 L ∧ Bx b c st s) := by
  have hr : RgOk ((n : Nat) : Int) := ⟨by omega, by omega⟩
  -- the loop, and what follows it
  have loop : ∀ (span sc ba : Int) (s0 : Sto), 0 < span → span < 100 → 0 ≤ sc → 0 ≤ ba → ba + span * sc ≤ 1000000 → Bx b c st s0 → 1 ≤ sc →
      Ok (dSeq d__law_stays_11 d__law_stays_12 [some (.loc b), some (.int (n : Int)), some (.int span), some (.int sc), some (.int ba), some (.loc s0.length), none, none, none, none] (s0 ++ [.lst false []])) (fun fl s => Ok (retF fl s) fun p s => ∃ L : List (Int × Int), p = staysP L ∧ L.length = n ∧ OkL 0 1000000 L ∧ Bx b c st s) := by
    intro span sc ba s0 p1 p2 p3 p4 p5 hs p6
    have hlt := hs.2.lt
    simp [d__law_stays_11]
    refine ⟨hr, ?_⟩
    refine ok_for (fun (l : List PV) (ρ : PD.Env) (s : Sto) => ∃ x6 y7 y8 y9 R, ρ = [some (.loc b), some (.int (n : Int)), some (.int span), some (.int sc), some (.int ba), some (.loc s0.length), x6, y7, y8, y9] ∧ BoxAt b c s ∧ Ch b c s0 s ∧ s[s0.length]? = some (.lst false (R.map stP)) ∧ OkL 0 span R ∧ R.length + l.length = n) (fun _ _ _ _ => True.intro) ?_ ?_ _ _ _ ⟨none, none, none, none, [], rfl, hs.2.app, Ch.app, by simp, (fun _ h => nomatch h), by unfold rgP; simp⟩
    · intro ρ s hP
      obtain ⟨x6, y7, y8, y9, R, rfl, b1, c1, r1, hv, hl⟩ := hP
      rw [seqK_nx]
      simp [d__law_stays_12, r1]
      rw [lc_map (fun q => stP (ba + sc * (unSt q).1, ba + sc * (unSt q).2)) (.inl r1) (R.map stP) (fun q hq => by
        obtain ⟨a, ha, rfl⟩ := List.mem_map.mp hq
        refine ⟨[some (.loc b), some (.int (n : Int)), some (.int span), some (.int sc), some (.int ba), some (.loc s0.length), x6, some (.int a.1), some (.int a.2), y9], rfl, rfl, ?_⟩
        refine Ok.eq ?_
        simp [unSt, stP, CM]
        obtain ⟨o1, o2, o3⟩ := hv a ha
        exact ⟨.inr (by omega), .inr (by omega)⟩) (by simp at hl ⊢; omega)]
      simp
      refine ⟨R.map fun a => (ba + sc * a.1, ba + sc * a.2), ?_, by simpa using hl, ?_, hs.1.trans c1, b1⟩
      · rw [List.map_map]
        rfl
      · intro a ha
        obtain ⟨a0, ha0, rfl⟩ := List.mem_map.mp ha
        obtain ⟨o1, o2, o3⟩ := hv a0 ha0
        have m1 : 0 ≤ sc * a0.1 := Int.mul_nonneg p3 o1
        have m2 : sc * a0.2 ≤ sc * span := Int.mul_le_mul_of_nonneg_left o3 p3
        have m3 : sc * a0.1 < sc * a0.2 := Int.mul_lt_mul_of_pos_left o2 (by omega)
        rw [Int.mul_comm sc span] at m2
        exact ⟨by dsimp only; omega, by dsimp only; omega, by dsimp only; omega⟩
    · intro q l ρ s hP
      obtain ⟨x6, y7, y8, y9, R, rfl, b1, c1, r1, hv, hl⟩ := hP
      rw [e_gNm, ok_ok]
      refine stays_ends b1 p1 p2 r1 (by omega) (by omega) hv (by simp at hl; omega) fun y7 y8 y9 a s' b2 c2 r2 ha => ?_
      rw [aft_nx]
      refine ⟨_, y7, y8, y9, R ++ [a], rfl, b2, ?_, r2, ?_, ?_⟩
      · refine ⟨Nat.le_trans c1.le c2.le, fun i hi h1 h2 => ?_⟩
        rw [c2.eq i (Nat.lt_of_lt_of_le hi c1.le) h1 h2 (by omega), c1.eq i hi h1 h2]
      · intro a' ha'
        rw [List.mem_append, List.mem_singleton] at ha'
        rcases ha' with h | rfl
        · exact hv _ h
        · exact ha
      · simp at hl ⊢
        omega
  unfold S__law_stays
  simp only [e_body, d__law_stays, ok_bnd, ok_seq]
  simp [start0, d__law_stays_1]
  refine (law_draw_ok h (m := 12) (by omega) (by omega)).imp fun p s1 hh => ?_
  obtain ⟨d, rfl, d1, d2, c1, b1⟩ := hh
  have hq : 0 < 900000 / (3 + d) := Int.lt_of_lt_of_le Int.zero_lt_one (Int.le_ediv_of_mul_le (by omega) (by omega))
  have hq2 : (3 + d) * (900000 / (3 + d)) ≤ 900000 := Int.mul_ediv_self_le (by omega)
  have hq3 : 900000 / (3 + d) ≤ 900000 := Int.ediv_le_self _ (by omega)
  simp [d__law_stays_2]
  refine ⟨⟨by omega, by omega⟩, ?_⟩
  refine (law_draw_ok b1 hq (by omega)).imp fun p s2 hh => ?_
  obtain ⟨g, rfl, g1, g2, c2, b2⟩ := hh
  simp
  refine (law_draw_ok b2 (m := 3) (by omega) (by omega)).imp fun p s3 hh => ?_
  obtain ⟨t, rfl, t1, t2, c3, b3⟩ := hh
  have hsc : ∃ sc : Int, atI [PV.int 1, PV.int 1, PV.int (1 + g)] t = some (.int sc) ∧ 1 ≤ sc ∧ sc ≤ 900000 / (3 + d) := by
    have ht : t = 0 ∨ t = 1 ∨ t = 2 := by omega
    rcases ht with rfl | rfl | rfl
    · exact ⟨1, rfl, by omega, by omega⟩
    · exact ⟨1, rfl, by omega, by omega⟩
    · exact ⟨1 + g, rfl, by omega, by omega⟩
  obtain ⟨sc, esc, sc1, sc2⟩ := hsc
  have hmul : (3 + d) * sc ≤ 900000 := Int.le_trans (Int.mul_le_mul_of_nonneg_left sc2 (by omega)) hq2
  have hmul0 : 0 ≤ (3 + d) * sc := Int.mul_nonneg (by omega) (by omega)
  simp [esc, d__law_stays_3]
  refine (law_draw_ok b3 (m := 90000) (by omega) (by omega)).imp fun p s4 hh => ?_
  obtain ⟨g', rfl, g1', g2', c4, b4⟩ := hh
  simp [CM]
  refine ⟨by omega, ?_⟩
  refine (law_draw_ok b4 (m := 3) (by omega) (by omega)).imp fun p s5 hh => ?_
  obtain ⟨t', rfl, t1', t2', c5, b5⟩ := hh
  have hba : ∃ ba : Int, atI [PV.int 0, PV.int g', PV.int (1000000 - (3 + d) * sc)] t' = some (.int ba) ∧ 0 ≤ ba ∧ ba + (3 + d) * sc ≤ 1000000 := by
    have ht : t' = 0 ∨ t' = 1 ∨ t' = 2 := by omega
    rcases ht with rfl | rfl | rfl
    · exact ⟨0, rfl, by omega, by omega⟩
    · exact ⟨g', rfl, by omega, by omega⟩
    · exact ⟨1000000 - (3 + d) * sc, rfl, by omega, by omega⟩
  obtain ⟨ba, eba, ba1, ba2⟩ := hba
  simp [eba, d__law_stays_4]
  have z := loop (3 + d) sc ba s5 (by omega) (by omega) (by omega) ba1 ba2 ⟨(((c1.trans c2).trans c3).trans c4).trans c5, b5⟩ sc1
  rw [ok_seq] at z
  exact z
theorem ok__law_stays {P : Program} {w : World} {W : Wd} {base : Heap} (V : Ev W base) : DFn P w W base 5 (He.fAd W.K ("_law_stays", none)) 2 S__law_stays := raw__law_stays V (ok__law_draw V)
abbrev N__law_present : List Str := ["stays", "moment", "i"]
noncomputable def d__law_present_1 : PD.Env → Mo Fl := (dRet (fun ρ => bnd ((dLc (fun ρ => bnd ((dCons (fun ρ => bnd ((dVar 0) ρ) lenM) (fun _ st => .ok [] st)) ρ) rg1M) (.nm 2) (dAndT (dB (dBin oLe (dBin oIx (dBin oIx (dVar 0) (dVar 2)) (dC (.int 0))) (dVar 1))) (dB (dBin oLt (dVar 1) (dBin oIx (dBin oIx (dVar 0) (dVar 2)) (dC (.int 1)))))) (dVar 2) [2]) ρ) tupQ))
noncomputable def d__law_present : PD.Env → Mo Fl := d__law_present_1
theorem sc__law_present : FnScope N__law_present ["stays", "moment"] (defScope (top 27)) := C8.fnScope_by (by decide +kernel)
theorem body__law_present {P : Program} {w : World} {W : Wd} {base : Heap} (V : Ev W base)  : Body P w W base N__law_present "_law_present" (defScope (top 27)) (He.fAd W.K ("_law_present", none)) 2 (defBody (top 27)) d__law_present := fun cdv A outer s H E =>
  (dss_one (ds_ret (de_tuple (dq_l (dl_lc (own := [("i", 2)]) (di_range1 (da_cons (de_lenV (de_var (i := 0)) rfl V.b_len) da_nil) rfl V.b_range) (blkOk_by (N := N__law_present) (sc := defScope (top 27)) (by decide +kernel)) (fun _ _ _ _ _ => (dp_name (i := 2))) (fun _ _ _ _ _ => (dts_one (dt_w (dw_and (dt_le (de_ix (de_ix (de_var (i := 0)) (de_var (i := 2))) de_int) (de_var (i := 1))) (dw_and1 (dt_lt (de_var (i := 1)) (de_ix (de_ix (de_var (i := 0)) (de_var (i := 2))) de_int))))))) (fun _ _ _ _ _ => (de_var (i := 2))))) rfl V.b_tuple)))
theorem raw__law_present {P : Program} {w : World} {W : Wd} {base : Heap} (V : Ev W base)  : DFn P w W base 3 (He.fAd W.K ("_law_present", none)) 2 (bodyF 3 d__law_present) := by
  obtain ⟨fd, F⟩ := V.D__law_present
  exact DFn.of V.cx F sc__law_present (F.bindsN fun _ _ _ _ _ _ us hl => match us, hl with | [_, _], _ => rfl) (body__law_present V )
def dom__law_present (ps : List PV) : Prop := ∃ (L : List (Int × Int)) (m : Int), ps = [staysP L, .int m] ∧ L.length ≤ 16777216
noncomputable def S__law_present : List PV → Mo PV := pureS dom__law_present val_present
theorem nox__law_present : NoX S__law_present := nox_pure
theorem ref__law_present : Ref 2 (bodyF 3 d__law_present) S__law_present := ref_same (fun ps st h => by
  obtain ⟨L, m, rfl, hl⟩ := h
  have hr : RgOk ((L.length : Nat) : Int) := ⟨by omega, by omega⟩
  simp [d__law_present, d__law_present_1, start0]
  refine ⟨hr, ?_⟩
  rw [lc_pure (fun q => hasM (L[natOf q]?.getD (0, 0)) m) (fun q => q) (by exact True.intro) (rgP 0 L.length) [] (fun q hq => by
    obtain ⟨i, hi, rfl⟩ := mem_rgP hq
    have e1 := stay_at hi
    refine ⟨_, rfl, ?_, fun _ => ?_⟩
    · refine Ok.eq ?_
      rw [natOf_int]
      revert e1
      generalize L[i]?.getD (0, 0) = a
      intro e1
      simp [wipeE, e1, stP, hasM]
      by_cases h1 : a.1 ≤ m <;> simp [h1]
    · refine Ok.eq ?_
      simp [wipeE]) (by unfold rgP; simpa using hl)]
  have e := rgP_filter L.length fun i => hasM (L[i]?.getD (0, 0)) m
  rw [List.nil_append, e, val_present_eq]
  exact ok_ok.mpr ⟨rfl, rfl⟩) (fun ps mm h => by
  obtain ⟨L, m, rfl, hl⟩ := h
  exact cls_ints mm _)
theorem _law_present_ok {L : List (Int × Int)} {m : Int} {st : Sto} (h : L.length ≤ 16777216) : S__law_present [staysP L, .int m] st = .ok (intsP (presI L m)) st := by
  have e := pureS_ok (dom := dom__law_present) (g := val_present) (st := st) ⟨L, m, rfl, h⟩
  rw [val_present_eq] at e
  exact e

theorem ok__law_present {P : Program} {w : World} {W : Wd} {base : Heap} (V : Ev W base) : DFn P w W base 3 (He.fAd W.K ("_law_present", none)) 2 S__law_present := (raw__law_present V ).ref ref__law_present nox__law_present
abbrev N__law_meets : List Str := ["one", "other"]
noncomputable def d__law_meets_1 : PD.Env → Mo Fl := (dRet (dBin oLt (dBin oMax (dBin oIx (dVar 0) (dC (.int 0))) (dBin oIx (dVar 1) (dC (.int 0)))) (dBin oMin (dBin oIx (dVar 0) (dC (.int 1))) (dBin oIx (dVar 1) (dC (.int 1))))))
noncomputable def d__law_meets : PD.Env → Mo Fl := d__law_meets_1
theorem sc__law_meets : FnScope N__law_meets ["one", "other"] (defScope (top 28)) := C8.fnScope_by (by decide +kernel)
theorem body__law_meets {P : Program} {w : World} {W : Wd} {base : Heap} (V : Ev W base)  : Body P w W base N__law_meets "_law_meets" (defScope (top 28)) (He.fAd W.K ("_law_meets", none)) 2 (defBody (top 28)) d__law_meets := fun cdv A outer s H E =>
  (dss_one (ds_ret (de_lt (de_max2 (de_ix (de_var (i := 0)) de_int) (de_ix (de_var (i := 1)) de_int) rfl V.b_max) (de_min2 (de_ix (de_var (i := 0)) de_int) (de_ix (de_var (i := 1)) de_int) rfl V.b_min))))
theorem raw__law_meets {P : Program} {w : World} {W : Wd} {base : Heap} (V : Ev W base)  : DFn P w W base 3 (He.fAd W.K ("_law_meets", none)) 2 (bodyF 2 d__law_meets) := by
  obtain ⟨fd, F⟩ := V.D__law_meets
  exact DFn.of V.cx F sc__law_meets (F.bindsN fun _ _ _ _ _ _ us hl => match us, hl with | [_, _], _ => rfl) (body__law_meets V )
def dom__law_meets (ps : List PV) : Prop := ∃ a b : Int × Int, ps = [stP a, stP b] ∧ a.1 < a.2 ∧ b.1 < b.2
def val__law_meets : List PV → PV
  | [.tup [.int a, .int b], .tup [.int c, .int d]] => .bl (meetB (a, b) (c, d))
  | _ => .non
noncomputable def S__law_meets : List PV → Mo PV := pureS dom__law_meets val__law_meets
theorem nox__law_meets : NoX S__law_meets := nox_pure
theorem ref__law_meets : Ref 2 (bodyF 2 d__law_meets) S__law_meets := ref_same (fun ps st h => by
  obtain ⟨a, b, rfl, ha, hb⟩ := h
  simp [d__law_meets, d__law_meets_1, start0, stP, val__law_meets, meetB, oMax, oMin]
  rw [Bool.eq_iff_iff]
  simp only [decide_eq_true_eq, Bool.and_eq_true]
  split <;> split <;> omega) (fun ps m h => by
  obtain ⟨a, b, rfl, _⟩ := h
  rfl)
theorem _law_meets_ok {a b : Int × Int} {st : Sto} (ha : a.1 < a.2) (hb : b.1 < b.2) : S__law_meets [stP a, stP b] st = .ok (.bl (meetB a b)) st := pureS_ok ⟨a, b, rfl, ha, hb⟩

theorem ok__law_meets {P : Program} {w : World} {W : Wd} {base : Heap} (V : Ev W base) : DFn P w W base 3 (He.fAd W.K ("_law_meets", none)) 2 S__law_meets := (raw__law_meets V ).ref ref__law_meets nox__law_meets
abbrev N__law_within : List Str := ["one", "other"]
noncomputable def d__law_within_1 : PD.Env → Mo Fl := (dRet (dAndV (dBin oLt (dBin oIx (dVar 1) (dC (.int 0))) (dBin oIx (dVar 0) (dC (.int 0)))) (dBin oLt (dBin oIx (dVar 0) (dC (.int 1))) (dBin oIx (dVar 1) (dC (.int 1))))))
noncomputable def d__law_within : PD.Env → Mo Fl := d__law_within_1
theorem sc__law_within : FnScope N__law_within ["one", "other"] (defScope (top 29)) := C8.fnScope_by (by decide +kernel)
theorem body__law_within {P : Program} {w : World} {W : Wd} {base : Heap} (V : Ev W base)  : Body P w W base N__law_within "_law_within" (defScope (top 29)) (He.fAd W.K ("_law_within", none)) 2 (defBody (top 29)) d__law_within := fun cdv A outer s H E =>
  (dss_one (ds_ret (de_and (de_lt (de_ix (de_var (i := 1)) de_int) (de_ix (de_var (i := 0)) de_int)) (de_one (de_lt (de_ix (de_var (i := 0)) de_int) (de_ix (de_var (i := 1)) de_int))))))
theorem raw__law_within {P : Program} {w : World} {W : Wd} {base : Heap} (V : Ev W base)  : DFn P w W base 3 (He.fAd W.K ("_law_within", none)) 2 (bodyF 2 d__law_within) := by
  obtain ⟨fd, F⟩ := V.D__law_within
  exact DFn.of V.cx F sc__law_within (F.bindsN fun _ _ _ _ _ _ us hl => match us, hl with | [_, _], _ => rfl) (body__law_within V )
def dom__law_within (ps : List PV) : Prop := ∃ a b : Int × Int, ps = [stP a, stP b] ∧ a.1 < a.2 ∧ b.1 < b.2
def val__law_within : List PV → PV
  | [.tup [.int a, .int b], .tup [.int c, .int d]] => .bl (withB (a, b) (c, d))
  | _ => .non
noncomputable def S__law_within : List PV → Mo PV := pureS dom__law_within val__law_within
theorem nox__law_within : NoX S__law_within := nox_pure
theorem ref__law_within : Ref 2 (bodyF 2 d__law_within) S__law_within := ref_same (fun ps st h => by
  obtain ⟨a, b, rfl, ha, hb⟩ := h
  simp [d__law_within, d__law_within_1, start0, stP, val__law_within, withB]
  by_cases h1 : b.1 < a.1 <;> by_cases h2 : a.2 < b.2 <;> simp [h1, h2]) (fun ps m h => by
  obtain ⟨a, b, rfl, _⟩ := h
  rfl)
theorem _law_within_ok {a b : Int × Int} {st : Sto} (ha : a.1 < a.2) (hb : b.1 < b.2) : S__law_within [stP a, stP b] st = .ok (.bl (withB a b)) st := pureS_ok ⟨a, b, rfl, ha, hb⟩

theorem ok__law_within {P : Program} {w : World} {W : Wd} {base : Heap} (V : Ev W base) : DFn P w W base 3 (He.fAd W.K ("_law_within", none)) 2 S__law_within := (raw__law_within V ).ref ref__law_within nox__law_within
abbrev N__law_crosses : List Str := ["one", "other", "low", "high"]
noncomputable def d__law_crosses_1 : PD.Env → Mo Fl := (dPar 2 3 (dCons (dBin oMinD (dVar 0) (dVar 1)) (dCons (dBin oMaxD (dVar 0) (dVar 1)) (fun _ st => .ok [] st))))
noncomputable def d__law_crosses_2 : PD.Env → Mo Fl := (dRet (dAndV (dBin oLt (dBin oIx (dVar 2) (dC (.int 0))) (dBin oIx (dVar 3) (dC (.int 0)))) (dAndV (dBin oLt (dBin oIx (dVar 3) (dC (.int 0))) (dBin oIx (dVar 2) (dC (.int 1)))) (dBin oLt (dBin oIx (dVar 2) (dC (.int 1))) (dBin oIx (dVar 3) (dC (.int 1)))))))
noncomputable def d__law_crosses : PD.Env → Mo Fl := (dSeq d__law_crosses_1
    d__law_crosses_2)
theorem sc__law_crosses : FnScope N__law_crosses ["one", "other"] (defScope (top 30)) := C8.fnScope_by (by decide +kernel)
theorem body__law_crosses {P : Program} {w : World} {W : Wd} {base : Heap} (V : Ev W base)  : Body P w W base N__law_crosses "_law_crosses" (defScope (top 30)) (He.fAd W.K ("_law_crosses", none)) 2 (defBody (top 30)) d__law_crosses := fun cdv A outer s H E =>
  (dss_cons (ds_par2 (i := 2) (j := 3) (by decide) (da_cons (de_min2D (de_var (i := 0)) (de_var (i := 1)) rfl V.b_min) (da_cons (de_max2D (de_var (i := 0)) (de_var (i := 1)) rfl V.b_max) da_nil)))
    (dss_one (ds_ret (de_and (de_lt (de_ix (de_var (i := 2)) de_int) (de_ix (de_var (i := 3)) de_int)) (de_and (de_lt (de_ix (de_var (i := 3)) de_int) (de_ix (de_var (i := 2)) de_int)) (de_one (de_lt (de_ix (de_var (i := 2)) de_int) (de_ix (de_var (i := 3)) de_int))))))))
theorem raw__law_crosses {P : Program} {w : World} {W : Wd} {base : Heap} (V : Ev W base)  : DFn P w W base 3 (He.fAd W.K ("_law_crosses", none)) 2 (bodyF 4 d__law_crosses) := by
  obtain ⟨fd, F⟩ := V.D__law_crosses
  exact DFn.of V.cx F sc__law_crosses (F.bindsN fun _ _ _ _ _ _ us hl => match us, hl with | [_, _], _ => rfl) (body__law_crosses V )
def dom__law_crosses (ps : List PV) : Prop := ∃ a b : Int × Int, ps = [stP a, stP b] ∧ a.1 < a.2 ∧ b.1 < b.2
def val__law_crosses : List PV → PV
  | [.tup [.int a, .int b], .tup [.int c, .int d]] => .bl (crossB (a, b) (c, d))
  | _ => .non
noncomputable def S__law_crosses : List PV → Mo PV := pureS dom__law_crosses val__law_crosses
theorem nox__law_crosses : NoX S__law_crosses := nox_pure
theorem ref__law_crosses : Ref 2 (bodyF 4 d__law_crosses) S__law_crosses := ref_same (fun ps st h => by
  obtain ⟨a, b, rfl, ha, hb⟩ := h
  simp only [e_body, d__law_crosses, ok_bnd, ok_seq, d__law_crosses_1, e_par, e_cons, e_bin]
  simp [start0, oMinD, oMaxD, alk_st, pvLt_st]
  have hv : val__law_crosses [stP a, stP b] = .bl (crossB a b) := rfl
  rw [hv]
  obtain ⟨a1, a2⟩ := a
  obtain ⟨b1, b2⟩ := b
  dsimp only at *
  by_cases h1 : b1 < a1 ∨ b1 = a1 ∧ b2 < a2
  · have h2 : ¬ (a1 < b1 ∨ a1 = b1 ∧ a2 < b2) := by omega
    rw [if_pos h1, if_neg h2]
    have e : crossB (a1, a2) (b1, b2) = (decide (b1 < a1) && (decide (a1 < b2) && decide (b2 < a2))) := by
      rw [Bool.eq_iff_iff]
      simp only [crossB, meetB, decide_eq_true_eq, Bool.and_eq_true, Bool.or_eq_true]
      omega
    rw [e]
    simp [d__law_crosses_2, stP]
    by_cases h3 : b1 < a1 <;> by_cases h4 : a1 < b2 <;> simp [h3, h4]
  · rw [if_neg h1]
    by_cases h2 : a1 < b1 ∨ a1 = b1 ∧ a2 < b2
    · rw [if_pos h2]
      have e : crossB (a1, a2) (b1, b2) = (decide (a1 < b1) && (decide (b1 < a2) && decide (a2 < b2))) := by
        rw [Bool.eq_iff_iff]
        simp only [crossB, meetB, decide_eq_true_eq, Bool.and_eq_true, Bool.or_eq_true]
        omega
      rw [e]
      simp [d__law_crosses_2, stP]
      by_cases h3 : a1 < b1 <;> by_cases h4 : b1 < a2 <;> simp [h3, h4]
    · rw [if_neg h2]
      have e : crossB (a1, a2) (b1, b2) = false := by
        rw [Bool.eq_false_iff]
        simp only [ne_eq, crossB, meetB, decide_eq_true_eq, Bool.and_eq_true, Bool.or_eq_true]
        omega
      rw [e]
      simp [d__law_crosses_2, stP]) (fun ps m h => by
  obtain ⟨a, b, rfl, _⟩ := h
  rfl)
theorem _law_crosses_ok {a b : Int × Int} {st : Sto} (ha : a.1 < a.2) (hb : b.1 < b.2) : S__law_crosses [stP a, stP b] st = .ok (.bl (crossB a b)) st := pureS_ok ⟨a, b, rfl, ha, hb⟩

theorem ok__law_crosses {P : Program} {w : World} {W : Wd} {base : Heap} (V : Ev W base) : DFn P w W base 3 (He.fAd W.K ("_law_crosses", none)) 2 S__law_crosses := (raw__law_crosses V ).ref ref__law_crosses nox__law_crosses
abbrev N__law_bad_stays : List Str := ["stay", "rows", "first", "last"]
noncomputable def d__law_bad_stays_1 : PD.Env → Mo Fl := (dAsg (dVar 0) (gTp 2 (gCs (gNm 2) (gCs (gNm 3) gNl))))
noncomputable def d__law_bad_stays_2 : PD.Env → Mo Fl := (dSet 1 (fun ρ => bnd ((fun ρ => bnd ((dCons (fun ρ => bnd ((dCons (dVar 3) (dCons (dVar 2) (fun _ st => .ok [] st))) ρ) tupM) (dCons (fun ρ => bnd ((dCons (dVar 2) (dCons (dVar 2) (fun _ st => .ok [] st))) ρ) tupM) (dCons (fun ρ => bnd ((dCons (dVar 2) (fun _ st => .ok [] st)) ρ) tupM) (dCons (fun ρ => bnd ((dCons (dVar 2) (dCons (dVar 3) (dCons (dC (.int 0)) (fun _ st => .ok [] st)))) ρ) tupM) (dCons (dC .non) (dCons (dVar 2) (dCons (fun ρ => bnd ((dCons (dVar 0) (fun _ st => .ok [] st)) ρ) tupM) (dCons (dC (.str "ab")) (dCons (fun ρ => bnd ((fun _ st => .ok [] st) ρ) tupM) (dCons (fun ρ => bnd ((dCons (dUn oNeg (dC (.int 1))) (dCons (dVar 3) (fun _ st => .ok [] st))) ρ) tupM) (dCons (fun ρ => bnd ((dCons (dVar 2) (dCons (dC (.int 1000001)) (fun _ st => .ok [] st))) ρ) tupM) (fun _ st => .ok [] st)))))))))))) ρ) capM) ρ) layL))
noncomputable def d__law_bad_stays_3 : PD.Env → Mo Fl := (dRet (fun ρ => bnd ((fun ρ => bnd ((dVar 1) ρ) fun q => bnd ((fun ρ => bnd ((dCons (fun ρ => bnd ((dCons (dC (.bl true)) (dCons (dBin oAdd (dVar 3) (dC (.int 1))) (fun _ st => .ok [] st))) ρ) tupM) (dCons (fun ρ => bnd ((dCons (dC .non) (dCons (dVar 3) (fun _ st => .ok [] st))) ρ) tupM) (dCons (fun ρ => bnd ((dCons (dVar 2) (dCons (dC .non) (fun _ st => .ok [] st))) ρ) tupM) (dCons (fun ρ => bnd ((dCons (fun ρ => bnd ((dVar 2) ρ) strV) (dCons (dVar 3) (fun _ st => .ok [] st))) ρ) tupM) (dCons (fun ρ => bnd ((dCons (dVar 2) (dCons (fun ρ => bnd ((dVar 3) ρ) strV) (fun _ st => .ok [] st))) ρ) tupM) (dCons (fun ρ => bnd ((dCons (dC (.bl false)) (dCons (dVar 3) (fun _ st => .ok [] st))) ρ) tupM) (fun _ st => .ok [] st))))))) ρ) capM) ρ) fun m => bnd (lstU q) fun l => capM (l ++ m)) ρ) layL))
noncomputable def d__law_bad_stays : PD.Env → Mo Fl := (dSeq d__law_bad_stays_1
    (dSeq d__law_bad_stays_2
    d__law_bad_stays_3))
theorem sc__law_bad_stays : FnScope N__law_bad_stays ["stay"] (defScope (top 32)) := C8.fnScope_by (by decide +kernel)
theorem body__law_bad_stays {P : Program} {w : World} {W : Wd} {base : Heap} (V : Ev W base)  : Body P w W base N__law_bad_stays "_law_bad_stays" (defScope (top 32)) (He.fAd W.K ("_law_bad_stays", none)) 2 (defBody (top 32)) d__law_bad_stays := fun cdv A outer s H E =>
  (dss_cons (ds_asg (de_var (i := 0)) (dg_tup (dgs_cons (dg_name (i := 2)) (dgs_cons (dg_name (i := 3)) dgs_nil))))
    (dss_cons (ds_set (i := 1) (de_l (dl_lst (da_cons (de_tup (da_cons (de_var (i := 3)) (da_cons (de_var (i := 2)) da_nil))) (da_cons (de_tup (da_cons (de_var (i := 2)) (da_cons (de_var (i := 2)) da_nil))) (da_cons (de_tup (da_cons (de_var (i := 2)) da_nil)) (da_cons (de_tup (da_cons (de_var (i := 2)) (da_cons (de_var (i := 3)) (da_cons de_int da_nil)))) (da_cons de_non (da_cons (de_var (i := 2)) (da_cons (de_tup (da_cons (de_var (i := 0)) da_nil)) (da_cons de_str (da_cons (de_tup da_nil) (da_cons (de_tup (da_cons (de_neg de_int) (da_cons (de_var (i := 3)) da_nil))) (da_cons (de_tup (da_cons (de_var (i := 2)) (da_cons de_int da_nil))) da_nil))))))))))))))
    (dss_one (ds_ret (de_l (dl_catE (de_var (i := 1)) (du_l (dl_lst (da_cons (de_tup (da_cons de_bl (da_cons (de_add (de_var (i := 3)) de_int) da_nil))) (da_cons (de_tup (da_cons de_non (da_cons (de_var (i := 3)) da_nil))) (da_cons (de_tup (da_cons (de_var (i := 2)) (da_cons de_non da_nil))) (da_cons (de_tup (da_cons (de_strc (de_var (i := 2)) rfl V.b_str) (da_cons (de_var (i := 3)) da_nil))) (da_cons (de_tup (da_cons (de_var (i := 2)) (da_cons (de_strc (de_var (i := 3)) rfl V.b_str) da_nil))) (da_cons (de_tup (da_cons de_bl (da_cons (de_var (i := 3)) da_nil))) da_nil))))))))))))))
theorem raw__law_bad_stays {P : Program} {w : World} {W : Wd} {base : Heap} (V : Ev W base)  : DFn P w W base 3 (He.fAd W.K ("_law_bad_stays", none)) 1 (bodyF 4 d__law_bad_stays) := by
  obtain ⟨fd, F⟩ := V.D__law_bad_stays
  exact DFn.of V.cx F sc__law_bad_stays (F.bindsN fun _ _ _ _ _ _ us hl => match us, hl with | [_], _ => rfl) (body__law_bad_stays V )
noncomputable def S__law_bad_stays : List PV → Mo PV := bodyF 4 d__law_bad_stays
theorem ref__law_bad_stays : Ref 1 (bodyF 4 d__law_bad_stays) S__law_bad_stays := ref_self
theorem log2_small {n : Nat} (h : n ≤ 1000000) : n.log2 < 1920 := by
  by_cases h0 : n = 0
  · rw [h0]; decide
  · refine (Nat.log2_lt h0).mpr ?_
    have h1 : 2 ^ 20 ≤ 2 ^ 1920 := Nat.pow_le_pow_right (by omega) (by omega)
    have h2 : n < 2 ^ 20 := by omega
    exact Nat.lt_of_lt_of_le h2 h1
theorem law_bad_ok {a : Int × Int} {st : Sto} (h0 : 0 ≤ a.1) (h1 : a.1 < a.2) (h2 : a.2 ≤ 1000000) : Ok (S__law_bad_stays [stP a] st) (fun p s => ∃ n l ex, p = .loc n ∧ s = st ++ ex ∧ s[n]? = some (.lst false l) ∧ l.length ≤ 100 ∧ ∀ q ∈ l, plainT q ∧ isStay q = false) := by
  obtain ⟨x, y⟩ := a
  dsimp only at h0 h1 h2
  unfold S__law_bad_stays stP
  simp [d__law_bad_stays, d__law_bad_stays_1, d__law_bad_stays_2, d__law_bad_stays_3, start0, strV]
  refine ⟨log2_small (by omega), log2_small (by omega), ?_⟩
  have pt : ∀ l : List PV, (∀ p ∈ l, plainV p) → plainT (.tup l) := fun l h => ⟨True.intro, fun m e => by cases e; exact h⟩
  intro q hq
  rcases hq with (rfl | rfl | rfl | rfl | rfl | rfl | rfl | rfl | rfl | rfl | rfl) | rfl | rfl | rfl | rfl | rfl | rfl
  all_goals constructor
  all_goals first
    | (refine pt _ fun p hp => ?_; simp at hp; rcases hp with rfl | rfl | rfl <;> exact True.intro)
    | (refine pt _ fun p hp => ?_; simp at hp; rcases hp with rfl | rfl <;> exact True.intro)
    | (refine pt _ fun p hp => ?_; simp at hp; subst hp; exact True.intro)
    | (refine pt _ fun p hp => ?_; simp at hp; done)
    | (refine ⟨True.intro, fun l e => ?_⟩; cases e; done)
    | rfl
    | (simp [isStay]; done)
    | (simp [isStay]; omega)
theorem ok__law_bad_stays {P : Program} {w : World} {W : Wd} {base : Heap} (V : Ev W base) : DFn P w W base 3 (He.fAd W.K ("_law_bad_stays", none)) 1 S__law_bad_stays := raw__law_bad_stays V 
noncomputable def tab__law_good_bad : Nat → Option (List PV → Mo PV) := fun j => if j = J__law_meets then some S__law_meets else if j = J__law_within then some S__law_within else if j = J__law_crosses then some S__law_crosses else none
theorem tk__law_good_bad {P : Program} {w : World} {W : Wd} {base : Heap} (V : Ev W base) : FnTab P w W base 3 2 tab__law_good_bad := ⟨fun j F f h1 h2 => by
  unfold tab__law_good_bad at h1
  by_cases e__law_meets : j = J__law_meets
  · rw [if_pos e__law_meets] at h1; cases h1; rw [e__law_meets, V.a__law_meets] at h2; cases h2; exact (ok__law_meets V).mono (by decide)
  rw [if_neg e__law_meets] at h1
  by_cases e__law_within : j = J__law_within
  · rw [if_pos e__law_within] at h1; cases h1; rw [e__law_within, V.a__law_within] at h2; cases h2; exact (ok__law_within V).mono (by decide)
  rw [if_neg e__law_within] at h1
  by_cases e__law_crosses : j = J__law_crosses
  · rw [if_pos e__law_crosses] at h1; cases h1; rw [e__law_crosses, V.a__law_crosses] at h2; cases h2; exact (ok__law_crosses V).mono (by decide)
  rw [if_neg e__law_crosses] at h1
  cases h1⟩
abbrev N__law_good : List Str := ["stays", "placing", "bad", "i", "j"]
noncomputable def d__law_good_1 : PD.Env → Mo Fl := (dRet (dC (.bl false)))
noncomputable def d__law_good_2 : PD.Env → Mo Fl := (dIfS (fun ρ => bnd ((fun ρ => bnd ((dLc (fun ρ => bnd ((dCons (fun ρ => bnd ((dVar 0) ρ) lenM) (fun _ st => .ok [] st)) ρ) rg1M) (.nm 4) dYes (dAndV (dBin (oEq true) (dVar 3) (dVar 4)) (dAndV (dBin (oEq false) (dBin oIx (dVar 1) (dVar 3)) (dBin oIx (dVar 1) (dVar 4))) (fun ρ => bnd (dVar 2 ρ) fun q => bnd (fnM tab__law_good_bad q) fun F => bnd ((dCons (dBin oIx (dVar 0) (dVar 3)) (dCons (dBin oIx (dVar 0) (dVar 4)) (fun _ st => .ok [] st))) ρ) (callM 2 F)))) [4]) ρ) anyQ) ρ) truM) d__law_good_1 dNil)
noncomputable def d__law_good_3 : PD.Env → Mo Fl := (dFor (fun ρ => bnd ((dCons (fun ρ => bnd ((dVar 0) ρ) lenM) (fun _ st => .ok [] st)) ρ) rg1M) (gNm 3) d__law_good_2)
noncomputable def d__law_good_4 : PD.Env → Mo Fl := (dRet (dC (.bl true)))
noncomputable def d__law_good : PD.Env → Mo Fl := (dSeq d__law_good_3
    d__law_good_4)
theorem sc__law_good : FnScope N__law_good ["stays", "placing", "bad"] (defScope (top 33)) := C8.fnScope_by (by decide +kernel)
theorem body__law_good {P : Program} {w : World} {W : Wd} {base : Heap} (V : Ev W base) (hT_bad : FnTab P w W base 3 2 tab__law_good_bad) : Body P w W base N__law_good "_law_good" (defScope (top 33)) (He.fAd W.K ("_law_good", none)) 3 (defBody (top 33)) d__law_good := fun cdv A outer s H E =>
  (dss_cons (ds_for (di_range1 (da_cons (de_lenV (de_var (i := 0)) rfl V.b_len) da_nil) rfl V.b_range) (dg_name (i := 3)) (dss_one (ds_if (dt_e (de_any (dl_lc (own := [("j", 4)]) (di_range1 (da_cons (de_lenV (de_var (i := 0)) rfl V.b_len) da_nil) rfl V.b_range) (blkOk_by (N := N__law_good) (sc := defScope (top 33)) (by decide +kernel)) (fun _ _ _ _ _ => (dp_name (i := 4))) (fun _ _ _ _ _ => dts_nil) (fun _ _ _ _ _ => (de_and (de_ne (de_var (i := 3)) (de_var (i := 4))) (de_and (de_eq (de_ix (de_var (i := 1)) (de_var (i := 3))) (de_ix (de_var (i := 1)) (de_var (i := 4)))) (de_one (de_callV (i := 2) (hT_bad.mono (by decide)) (da_cons (de_ix (de_var (i := 0)) (de_var (i := 3))) (da_cons (de_ix (de_var (i := 0)) (de_var (i := 4))) da_nil)))))))) rfl V.b_any)) (dss_one (ds_ret de_bl)) dss_nil)))
    (dss_one (ds_ret de_bl)))
theorem raw__law_good {P : Program} {w : World} {W : Wd} {base : Heap} (V : Ev W base) (hT_bad : FnTab P w W base 3 2 tab__law_good_bad) : DFn P w W base 4 (He.fAd W.K ("_law_good", none)) 3 (bodyF 5 d__law_good) := by
  obtain ⟨fd, F⟩ := V.D__law_good
  exact DFn.of V.cx F sc__law_good (F.bindsN fun _ _ _ _ _ _ us hl => match us, hl with | [_, _, _], _ => rfl) (body__law_good V hT_bad)
def badOf' (j : Nat) : Int × Int → Int × Int → Bool := if j = J__law_meets then meetB else if j = J__law_within then withB else crossB
def dom__law_good (ps : List PV) : Prop := ∃ (L : List (Int × Int)) (pl : List Int) (j : Nat), ps = [staysP L, .tup (pl.map PV.int), .fn j] ∧ L.length ≤ 16777216 ∧ pl.length = L.length ∧ (∀ a ∈ L, a.1 < a.2) ∧ (j = J__law_meets ∨ j = J__law_within ∨ j = J__law_crosses)
def val__law_good : List PV → PV
  | [.tup l, .tup m, .fn j] => .bl (neverB (l.map unSt) (m.map unI) (badOf' j))
  | _ => .non
theorem val__law_good_eq (L : List (Int × Int)) (pl : List Int) (j : Nat) : val__law_good [staysP L, .tup (pl.map PV.int), .fn j] = .bl (neverB L pl (badOf' j)) := by
  show PV.bl (neverB ((L.map stP).map unSt) ((pl.map PV.int).map unI) _) = _
  rw [unSt_map, unI_map]
noncomputable def S__law_good : List PV → Mo PV := pureS dom__law_good val__law_good
theorem nox__law_good : NoX S__law_good := nox_pure
theorem bad_ok' {j : Nat} (hj : j = J__law_meets ∨ j = J__law_within ∨ j = J__law_crosses) : ∃ F, tab__law_good_bad j = some F ∧ ∀ a b st, a.1 < a.2 → b.1 < b.2 → F [stP a, stP b] st = .ok (.bl (badOf' j a b)) st := by
  rcases hj with rfl | rfl | rfl
  · exact ⟨S__law_meets, rfl, fun a b st h1 h2 => _law_meets_ok h1 h2⟩
  · exact ⟨S__law_within, rfl, fun a b st h1 h2 => _law_within_ok h1 h2⟩
  · exact ⟨S__law_crosses, rfl, fun a b st h1 h2 => _law_crosses_ok h1 h2⟩
theorem good_core {L : List (Int × Int)} {pl : List Int} {j : Nat} {F : List PV → Mo PV} (st : Sto) (hl : L.length ≤ 16777216) (hpl : pl.length = L.length) (hv : ∀ a ∈ L, a.1 < a.2) (hF : tab__law_good_bad j = some F) (hFo : ∀ a b st, a.1 < a.2 → b.1 < b.2 → F [stP a, stP b] st = .ok (.bl (badOf' j a b)) st) :
    Ok (bodyF 5 d__law_good [staysP L, .tup (pl.map PV.int), .fn j] st) (fun p s => p = .bl (neverB L pl (badOf' j)) ∧ s = st) := by
  have hr : RgOk ((L.length : Nat) : Int) := ⟨by omega, by omega⟩
  have hv' : ∀ i, i < L.length → (L[i]?.getD (0, 0)).1 < (L[i]?.getD (0, 0)).2 := fun i hi => by
    rw [List.getElem?_eq_getElem hi]
    exact hv _ (List.getElem_mem hi)
  generalize hbo : (fun p : PV => (rgP 0 L.length).any fun q => decide (natOf p ≠ natOf q) && decide (pl[natOf p]?.getD 0 = pl[natOf q]?.getD 0) && badOf' j (L[natOf p]?.getD (0, 0)) (L[natOf q]?.getD (0, 0))) = bo
  have cell : ∀ (i k : Nat), i < L.length → k < L.length → Ok (dAndV (dBin (oEq true) (dVar 3) (dVar 4)) (dAndV (dBin (oEq false) (dBin oIx (dVar 1) (dVar 3)) (dBin oIx (dVar 1) (dVar 4))) (fun ρ => bnd (dVar 2 ρ) fun q => bnd (fnM tab__law_good_bad q) fun F => bnd ((dCons (dBin oIx (dVar 0) (dVar 3)) (dCons (dBin oIx (dVar 0) (dVar 4)) (fun _ st => .ok [] st))) ρ) (callM 2 F))) [some (staysP L), some (.tup (pl.map PV.int)), some (.fn j), some (.int (i : Int)), some (.int (k : Int))] st) (fun p s => p = .bl (decide (i ≠ k) && decide (pl[i]?.getD 0 = pl[k]?.getD 0) && badOf' j (L[i]?.getD (0, 0)) (L[k]?.getD (0, 0))) ∧ s = st) := by
    intro i k hi hk
    have e1 := stay_at hi
    have e2 := stay_at hk
    have e3 := int_at (l := pl) (i := i) (by omega)
    have e4 := int_at (l := pl) (i := k) (by omega)
    have e5 := hFo _ _ st (hv' i hi) (hv' k hk)
    by_cases hik : i = k
    · subst hik
      simp [okd]
    · have h9 : ¬ (i : Int) = (k : Int) := by omega
      simp [okd, e1, e2, e3, e4, hik, h9, hF]
      by_cases h1 : pl[i]?.getD 0 = pl[k]?.getD 0
      · simp [h1, e5]
      · simp [h1]
  have step : ∀ q ∈ rgP 0 L.length, ∀ ρ : PD.Env, (∃ x y, ρ = [some (staysP L), some (.tup (pl.map PV.int)), some (.fn j), x, y]) → Ok (gNm 3 q ρ st) (fun ρ1 s1 => Ok (d__law_good_2 ρ1 s1) (fun fl s2 => s2 = st ∧ if bo q = true then fl = .rt (.bl false) else ∃ ρ', (∃ x y, ρ' = [some (staysP L), some (.tup (pl.map PV.int)), some (.fn j), x, y]) ∧ (fl = .nx ρ' ∨ fl = .ct ρ'))) := by
    intro q hq ρ hρ
    obtain ⟨i, hi, rfl⟩ := mem_rgP hq
    obtain ⟨x, y, rfl⟩ := hρ
    have hb : bo (.int (i : Int)) = (rgP 0 L.length).any fun q => decide (i ≠ natOf q) && decide (pl[i]?.getD 0 = pl[natOf q]?.getD 0) && badOf' j (L[i]?.getD (0, 0)) (L[natOf q]?.getD (0, 0)) := by
      rw [← hbo]
      dsimp only
      rw [natOf_int]
    rw [e_gNm, ok_ok]
    simp only [d__law_good_2, e_ifS, ok_bnd]
    simp
    refine ⟨hr, ?_⟩
    rw [lc_map (fun q => .bl (decide (i ≠ natOf q) && decide (pl[i]?.getD 0 = pl[natOf q]?.getD 0) && badOf' j (L[i]?.getD (0, 0)) (L[natOf q]?.getD (0, 0)))) (by exact True.intro) (rgP 0 L.length) (fun q hq => by
      obtain ⟨k, hk, rfl⟩ := mem_rgP hq
      refine ⟨_, rfl, rfl, ?_⟩
      refine Ok.eq ?_
      have z := cell i k hi hk
      rw [natOf_int]
      simpa [wipeE] using z) (by unfold rgP; simpa using hl)]
    rw [ok_ok, anyQ_map, ← hb, ok_ok, m_truB, ok_ok]
    cases bo (.int (i : Int)) with
    | true => simp [d__law_good_1]
    | false => simp
  have outer := for_find (st := st) (chk := (sV (rgP 0 L.length)).chk) (g := gNm 3) (f := d__law_good_2) (fun ρ => ∃ x y, ρ = [some (staysP L), some (.tup (pl.map PV.int)), some (.fn j), x, y]) bo (.bl false) True.intro (rgP 0 L.length) [some (staysP L), some (.tup (pl.map PV.int)), some (.fn j), none, none] step ⟨none, none, rfl⟩
  have hall : neverB L pl (badOf' j) = !((rgP 0 L.length).any bo) := by
    unfold neverB
    rw [rgP_eq, List.any_map, List.not_any_eq_all_not]
    congr 1
    funext i
    rw [← hbo]
    show _ = (!((rgP 0 L.length).any fun q => decide (natOf (.int (i : Int)) ≠ natOf q) && decide (pl[natOf (.int (i : Int))]?.getD 0 = pl[natOf q]?.getD 0) && badOf' j (L[natOf (.int (i : Int))]?.getD (0, 0)) (L[natOf q]?.getD (0, 0))))
    rw [rgP_eq, List.any_map, List.not_any_eq_all_not, natOf_int]
    congr 1
  rw [hall]
  simp only [e_body, d__law_good, ok_bnd, ok_seq, d__law_good_3, e_for]
  simp [start0]
  refine ⟨hr, ?_⟩
  refine outer.imp fun fl s h => ?_
  obtain ⟨rfl, h⟩ := h
  split at h
  · rename_i hh
    subst h
    simp [hh]
  · rename_i hh
    obtain ⟨ρ', _, rfl⟩ := h
    simp [d__law_good_4]
    simpa using hh
theorem ref__law_good : Ref 3 (bodyF 5 d__law_good) S__law_good := ref_same (fun ps st h => by
  obtain ⟨L, pl, j, e0, h1, h2, hv, h3⟩ := h
  obtain ⟨F, hF, hFo⟩ := bad_ok' h3
  have z := good_core (L := L) (pl := pl) st h1 h2 hv hF hFo
  rw [← val__law_good_eq, ← e0] at z
  exact z) (fun ps m h => by
  obtain ⟨L, pl, j, rfl, _⟩ := h
  rfl)
theorem _law_good_ok {L : List (Int × Int)} {pl : List Int} {j : Nat} {st : Sto} (h : L.length ≤ 16777216) (h2 : pl.length = L.length) (hv : ∀ a ∈ L, a.1 < a.2) (h3 : j = J__law_meets ∨ j = J__law_within ∨ j = J__law_crosses) : S__law_good [staysP L, .tup (pl.map PV.int), .fn j] st = .ok (.bl (neverB L pl (badOf' j))) st := by
  have e := pureS_ok (dom := dom__law_good) (g := val__law_good) (st := st) ⟨L, pl, j, rfl, h, h2, hv, h3⟩
  rw [val__law_good_eq] at e
  exact e

theorem ok__law_good {P : Program} {w : World} {W : Wd} {base : Heap} (V : Ev W base) : DFn P w W base 4 (He.fAd W.K ("_law_good", none)) 3 S__law_good := (raw__law_good V (tk__law_good_bad V)).ref ref__law_good nox__law_good
noncomputable def tab_never_together_is_bad : Nat → Option (List PV → Mo PV) := fun j => if j = J_meets then some S_meets else if j = J_is_within then some S_is_within else if j = J_crosses then some S_crosses else none
theorem tk_never_together_is_bad {P : Program} {w : World} {W : Wd} {base : Heap} (V : Ev W base) : FnTab P w W base 4 2 tab_never_together_is_bad := ⟨fun j F f h1 h2 => by
  unfold tab_never_together_is_bad at h1
  by_cases e_meets : j = J_meets
  · rw [if_pos e_meets] at h1; cases h1; rw [e_meets, V.a_meets] at h2; cases h2; exact (ok_meets V).mono (by decide)
  rw [if_neg e_meets] at h1
  by_cases e_is_within : j = J_is_within
  · rw [if_pos e_is_within] at h1; cases h1; rw [e_is_within, V.a_is_within] at h2; cases h2; exact (ok_is_within V).mono (by decide)
  rw [if_neg e_is_within] at h1
  by_cases e_crosses : j = J_crosses
  · rw [if_pos e_crosses] at h1; cases h1; rw [e_crosses, V.a_crosses] at h2; cases h2; exact (ok_crosses V).mono (by decide)
  rw [if_neg e_crosses] at h1
  cases h1⟩
abbrev N_never_together : List Str := ["stays", "placing", "is_bad", "i", "j"]
noncomputable def d_never_together_1 : PD.Env → Mo Fl := (dRet (dC (.bl false)))
noncomputable def d_never_together_2 : PD.Env → Mo Fl := (dIfS (dAndT (dB (dBin (oEq true) (dVar 3) (dVar 4))) (dAndT (dB (dBin (oEq false) (dBin oIx (dVar 1) (dVar 3)) (dBin oIx (dVar 1) (dVar 4)))) (fun ρ => bnd ((fun ρ => bnd (dVar 2 ρ) fun q => bnd (fnM tab_never_together_is_bad q) fun F => bnd ((dCons (dBin oIx (dVar 0) (dVar 3)) (dCons (dBin oIx (dVar 0) (dVar 4)) (fun _ st => .ok [] st))) ρ) (callM 2 F)) ρ) truM))) d_never_together_1 dNil)
noncomputable def d_never_together_3 : PD.Env → Mo Fl := (dFor (fun ρ => bnd ((dCons (fun ρ => bnd ((dVar 0) ρ) lenM) (fun _ st => .ok [] st)) ρ) rg1M) (gNm 4) d_never_together_2)
noncomputable def d_never_together_4 : PD.Env → Mo Fl := (dFor (fun ρ => bnd ((dCons (fun ρ => bnd ((dVar 0) ρ) lenM) (fun _ st => .ok [] st)) ρ) rg1M) (gNm 3) d_never_together_3)
noncomputable def d_never_together_5 : PD.Env → Mo Fl := (dRet (dC (.bl true)))
noncomputable def d_never_together : PD.Env → Mo Fl := (dSeq d_never_together_4
    d_never_together_5)
theorem sc_never_together : FnScope N_never_together ["stays", "placing", "is_bad"] (defScope (top 15)) := C8.fnScope_by (by decide +kernel)
theorem body_never_together {P : Program} {w : World} {W : Wd} {base : Heap} (V : Ev W base) (hT_is_bad : FnTab P w W base 4 2 tab_never_together_is_bad) : Body P w W base N_never_together "never_together" (defScope (top 15)) (He.fAd W.K ("never_together", none)) 4 (defBody (top 15)) d_never_together := fun cdv A outer s H E =>
  (dss_cons (ds_for (di_range1 (da_cons (de_lenV (de_var (i := 0)) rfl V.b_len) da_nil) rfl V.b_range) (dg_name (i := 3)) (dss_one (ds_for (di_range1 (da_cons (de_lenV (de_var (i := 0)) rfl V.b_len) da_nil) rfl V.b_range) (dg_name (i := 4)) (dss_one (ds_if (dt_w (dw_and (dt_ne (de_var (i := 3)) (de_var (i := 4))) (dw_and (dt_eq (de_ix (de_var (i := 1)) (de_var (i := 3))) (de_ix (de_var (i := 1)) (de_var (i := 4)))) (dw_and1 (dt_e (de_callV (i := 2) (hT_is_bad.mono (by decide)) (da_cons (de_ix (de_var (i := 0)) (de_var (i := 3))) (da_cons (de_ix (de_var (i := 0)) (de_var (i := 4))) da_nil)))))))) (dss_one (ds_ret de_bl)) dss_nil)))))
    (dss_one (ds_ret de_bl)))
theorem raw_never_together {P : Program} {w : World} {W : Wd} {base : Heap} (V : Ev W base) (hT_is_bad : FnTab P w W base 4 2 tab_never_together_is_bad) : DFn P w W base 5 (He.fAd W.K ("never_together", none)) 3 (bodyF 5 d_never_together) := by
  obtain ⟨fd, F⟩ := V.D_never_together
  exact DFn.of V.cx F sc_never_together (F.bindsN fun _ _ _ _ _ _ us hl => match us, hl with | [_, _, _], _ => rfl) (body_never_together V hT_is_bad)
def badOf (j : Nat) : Int × Int → Int × Int → Bool := if j = J_meets then meetB else if j = J_is_within then withB else crossB
def dom_never_together (ps : List PV) : Prop := ∃ (L : List (Int × Int)) (pl : List Int) (j : Nat), ps = [staysP L, .tup (pl.map PV.int), .fn j] ∧ L.length ≤ 16777216 ∧ pl.length = L.length ∧ (j = J_meets ∨ j = J_is_within ∨ j = J_crosses)
def val_never_together : List PV → PV
  | [.tup l, .tup m, .fn j] => .bl (neverB (l.map unSt) (m.map unI) (badOf j))
  | _ => .non
theorem val_never_together_eq (L : List (Int × Int)) (pl : List Int) (j : Nat) : val_never_together [staysP L, .tup (pl.map PV.int), .fn j] = .bl (neverB L pl (badOf j)) := by
  show PV.bl (neverB ((L.map stP).map unSt) ((pl.map PV.int).map unI) _) = _
  rw [unSt_map, unI_map]
noncomputable def S_never_together : List PV → Mo PV := pureS dom_never_together val_never_together
theorem nox_never_together : NoX S_never_together := nox_pure
theorem bad_ok {j : Nat} (hj : j = J_meets ∨ j = J_is_within ∨ j = J_crosses) : ∃ F, tab_never_together_is_bad j = some F ∧ ∀ a b st, F [stP a, stP b] st = .ok (.bl (badOf j a b)) st := by
  rcases hj with rfl | rfl | rfl
  · exact ⟨S_meets, rfl, fun a b st => meets_ok⟩
  · exact ⟨S_is_within, rfl, fun a b st => is_within_ok⟩
  · exact ⟨S_crosses, rfl, fun a b st => crosses_ok⟩
theorem never_core {L : List (Int × Int)} {pl : List Int} {j : Nat} {F : List PV → Mo PV} (st : Sto) (hl : L.length ≤ 16777216) (hpl : pl.length = L.length) (hF : tab_never_together_is_bad j = some F) (hFo : ∀ a b st, F [stP a, stP b] st = .ok (.bl (badOf j a b)) st) :
    Ok (bodyF 5 d_never_together [staysP L, .tup (pl.map PV.int), .fn j] st) (fun p s => p = .bl (neverB L pl (badOf j)) ∧ s = st) := by
  have hr : RgOk ((L.length : Nat) : Int) := ⟨by omega, by omega⟩
  have inner : ∀ (i : Nat), i < L.length → ∀ ρ, (∃ y, ρ = [some (staysP L), some (.tup (pl.map PV.int)), some (.fn j), some (.int (i : Int)), y]) → Ok (d_never_together_3 ρ st) (fun fl s => s = st ∧ if ((rgP 0 L.length).any fun q => decide (i ≠ natOf q) && decide (pl[i]?.getD 0 = pl[natOf q]?.getD 0) && badOf j (L[i]?.getD (0, 0)) (L[natOf q]?.getD (0, 0))) = true then fl = .rt (.bl false) else ∃ ρ', (∃ y, ρ' = [some (staysP L), some (.tup (pl.map PV.int)), some (.fn j), some (.int (i : Int)), y]) ∧ fl = .nx ρ') := by
    intro i hi ρ hρ
    obtain ⟨y, rfl⟩ := hρ
    simp only [d_never_together_3, e_for, ok_bnd]
    simp
    refine ⟨hr, ?_⟩
    refine Ok.imp (for_find (st := st) (chk := (sV (rgP 0 L.length)).chk) (fun ρ => ∃ y, ρ = [some (staysP L), some (.tup (pl.map PV.int)), some (.fn j), some (.int (i : Int)), y]) (fun q => decide (i ≠ natOf q) && decide (pl[i]?.getD 0 = pl[natOf q]?.getD 0) && badOf j (L[i]?.getD (0, 0)) (L[natOf q]?.getD (0, 0))) (.bl false) True.intro (rgP 0 L.length) _ (fun q hq ρ hρ => ?_) ⟨y, rfl⟩) (fun fl s h => by simpa using h)
    obtain ⟨y, rfl⟩ := hρ
    obtain ⟨k, hk, rfl⟩ := mem_rgP hq
    have e1 := stay_at hi
    have e2 := stay_at hk
    have e3 := int_at (l := pl) (i := i) (by omega)
    have e4 := int_at (l := pl) (i := k) (by omega)
    by_cases hik : i = k
    · subst hik
      simp [d_never_together_2, okd]
    · have h9 : ¬ (i : Int) = (k : Int) := by omega
      simp [d_never_together_2, okd, e1, e2, e3, e4, hik, h9, hF, hFo, d_never_together_1]
      by_cases h1 : pl[i]?.getD 0 = pl[k]?.getD 0
      · simp [h1]
      · simp [h1]
  generalize hbo : (fun p : PV => (rgP 0 L.length).any fun q => decide (natOf p ≠ natOf q) && decide (pl[natOf p]?.getD 0 = pl[natOf q]?.getD 0) && badOf j (L[natOf p]?.getD (0, 0)) (L[natOf q]?.getD (0, 0))) = bo
  have step : ∀ q ∈ rgP 0 L.length, ∀ ρ : PD.Env, (∃ x y, ρ = [some (staysP L), some (.tup (pl.map PV.int)), some (.fn j), x, y]) → Ok (gNm 3 q ρ st) (fun ρ1 s1 => Ok (d_never_together_3 ρ1 s1) (fun fl s2 => s2 = st ∧ if bo q = true then fl = .rt (.bl false) else ∃ ρ', (∃ x y, ρ' = [some (staysP L), some (.tup (pl.map PV.int)), some (.fn j), x, y]) ∧ (fl = .nx ρ' ∨ fl = .ct ρ'))) := by
    intro q hq ρ hρ
    obtain ⟨i, hi, rfl⟩ := mem_rgP hq
    obtain ⟨x, y, rfl⟩ := hρ
    rw [e_gNm, ok_ok]
    have z := inner i hi [some (staysP L), some (.tup (pl.map PV.int)), some (.fn j), some (.int (i : Int)), y] ⟨y, rfl⟩
    refine Ok.imp z fun fl s h => ?_
    have hb : bo (.int (i : Int)) = (rgP 0 L.length).any fun q => decide (i ≠ natOf q) && decide (pl[i]?.getD 0 = pl[natOf q]?.getD 0) && badOf j (L[i]?.getD (0, 0)) (L[natOf q]?.getD (0, 0)) := by
      rw [← hbo]
      dsimp only
      rw [natOf_int]
    rw [hb]
    refine ⟨h.1, ?_⟩
    have h2 := h.2
    split at h2
    · rename_i hh
      rw [if_pos hh]; exact h2
    · rename_i hh
      rw [if_neg hh]
      obtain ⟨ρ', ⟨y', rfl⟩, e⟩ := h2
      exact ⟨_, ⟨_, _, rfl⟩, .inl e⟩
  have outer := for_find (st := st) (chk := (sV (rgP 0 L.length)).chk) (g := gNm 3) (f := d_never_together_3) (fun ρ => ∃ x y, ρ = [some (staysP L), some (.tup (pl.map PV.int)), some (.fn j), x, y]) bo (.bl false) True.intro (rgP 0 L.length) [some (staysP L), some (.tup (pl.map PV.int)), some (.fn j), none, none] step ⟨none, none, rfl⟩
  have hall : neverB L pl (badOf j) = !((rgP 0 L.length).any bo) := by
    unfold neverB
    rw [rgP_eq, List.any_map, List.not_any_eq_all_not]
    congr 1
    funext i
    rw [← hbo]
    show _ = (!((rgP 0 L.length).any fun q => decide (natOf (.int (i : Int)) ≠ natOf q) && decide (pl[natOf (.int (i : Int))]?.getD 0 = pl[natOf q]?.getD 0) && badOf j (L[natOf (.int (i : Int))]?.getD (0, 0)) (L[natOf q]?.getD (0, 0))))
    rw [rgP_eq, List.any_map, List.not_any_eq_all_not, natOf_int]
    congr 1
  rw [hall]
  simp only [e_body, d_never_together, ok_bnd, ok_seq, d_never_together_4, e_for]
  simp [start0]
  refine ⟨hr, ?_⟩
  refine outer.imp fun fl s h => ?_
  obtain ⟨rfl, h⟩ := h
  split at h
  · rename_i hh
    subst h
    simp [hh]
  · rename_i hh
    obtain ⟨ρ', _, rfl⟩ := h
    simp [d_never_together_5]
    simpa using hh
theorem ref_never_together : Ref 3 (bodyF 5 d_never_together) S_never_together := ref_same (fun ps st h => by
  obtain ⟨L, pl, j, e0, h1, h2, h3⟩ := h
  obtain ⟨F, hF, hFo⟩ := bad_ok h3
  have z := never_core (L := L) (pl := pl) st h1 h2 hF hFo
  rw [← val_never_together_eq, ← e0] at z
  exact z) (fun ps m h => by
  obtain ⟨L, pl, j, rfl, _⟩ := h
  rfl)
@[simp] theorem never_together_ok {L : List (Int × Int)} {pl : List Int} {j : Nat} {st : Sto} (h : L.length ≤ 16777216) (h2 : pl.length = L.length) (h3 : j = J_meets ∨ j = J_is_within ∨ j = J_crosses) : S_never_together [staysP L, .tup (pl.map PV.int), .fn j] st = .ok (.bl (neverB L pl (badOf j))) st := by
  have e := pureS_ok (dom := dom_never_together) (g := val_never_together) (st := st) ⟨L, pl, j, rfl, h, h2, h3⟩
  rw [val_never_together_eq] at e
  exact e

theorem ok_never_together {P : Program} {w : World} {W : Wd} {base : Heap} (V : Ev W base) : DFn P w W base 5 (He.fAd W.K ("never_together", none)) 3 S_never_together := (raw_never_together V (tk_never_together_is_bad V)).ref ref_never_together nox_never_together
abbrev N_good_for_shelves : List Str := ["stays", "placing"]
noncomputable def d_good_for_shelves_1 : PD.Env → Mo Fl := (dRet (fun ρ => bnd ((dCons (dVar 0) (dCons (dVar 1) (dCons (dC (.fn J_meets)) (fun _ st => .ok [] st)))) ρ) (callM 3 S_never_together)))
noncomputable def d_good_for_shelves : PD.Env → Mo Fl := d_good_for_shelves_1
theorem sc_good_for_shelves : FnScope N_good_for_shelves ["stays", "placing"] (defScope (top 16)) := C8.fnScope_by (by decide +kernel)
theorem body_good_for_shelves {P : Program} {w : World} {W : Wd} {base : Heap} (V : Ev W base) (h_never_together : DFn P w W base 5 (He.fAd W.K ("never_together", none)) 3 S_never_together) : Body P w W base N_good_for_shelves "good_for_shelves" (defScope (top 16)) (He.fAd W.K ("good_for_shelves", none)) 5 (defBody (top 16)) d_good_for_shelves := fun cdv A outer s H E =>
  (dss_one (ds_ret (de_call (h_never_together.mono (by decide)) V.g_never_together (da_cons (de_var (i := 0)) (da_cons (de_var (i := 1)) (da_cons (de_fn rfl V.g_meets V.a_meets) da_nil))))))
theorem raw_good_for_shelves {P : Program} {w : World} {W : Wd} {base : Heap} (V : Ev W base) (h_never_together : DFn P w W base 5 (He.fAd W.K ("never_together", none)) 3 S_never_together) : DFn P w W base 6 (He.fAd W.K ("good_for_shelves", none)) 2 (bodyF 2 d_good_for_shelves) := by
  obtain ⟨fd, F⟩ := V.D_good_for_shelves
  exact DFn.of V.cx F sc_good_for_shelves (F.bindsN fun _ _ _ _ _ _ us hl => match us, hl with | [_, _], _ => rfl) (body_good_for_shelves V h_never_together)
def dom_good_for_shelves (ps : List PV) : Prop := ∃ (L : List (Int × Int)) (pl : List Int), ps = [staysP L, .tup (pl.map PV.int)] ∧ L.length ≤ 16777216 ∧ pl.length = L.length
def val_good_for_shelves : List PV → PV
  | [.tup l, .tup m] => .bl (neverB (l.map unSt) (m.map unI) meetB)
  | _ => .non
theorem val_good_for_shelves_eq (L : List (Int × Int)) (pl : List Int) : val_good_for_shelves [staysP L, .tup (pl.map PV.int)] = .bl (neverB L pl meetB) := by
  show PV.bl (neverB ((L.map stP).map unSt) ((pl.map PV.int).map unI) _) = _
  rw [unSt_map, unI_map]
noncomputable def S_good_for_shelves : List PV → Mo PV := pureS dom_good_for_shelves val_good_for_shelves
theorem nox_good_for_shelves : NoX S_good_for_shelves := nox_pure
theorem ref_good_for_shelves : Ref 2 (bodyF 2 d_good_for_shelves) S_good_for_shelves := ref_same (fun ps st h => by
  obtain ⟨L, pl, rfl, hl, hp⟩ := h
  rw [val_good_for_shelves_eq]
  have e := never_together_ok (L := L) (pl := pl) (j := J_meets) (st := st) hl hp (by decide)
  have eb : badOf J_meets = meetB := rfl
  rw [eb] at e
  simp only [e_body, d_good_for_shelves, d_good_for_shelves_1, e_ret, ok_bnd]
  simp [start0, e]) (fun ps m h => by
  obtain ⟨L, pl, rfl, _⟩ := h
  rfl)
theorem good_for_shelves_ok {L : List (Int × Int)} {pl : List Int} {st : Sto} (h : L.length ≤ 16777216) (h2 : pl.length = L.length) : S_good_for_shelves [staysP L, .tup (pl.map PV.int)] st = .ok (.bl (neverB L pl meetB)) st := by
  have e := pureS_ok (dom := dom_good_for_shelves) (g := val_good_for_shelves) (st := st) ⟨L, pl, rfl, h, h2⟩
  rw [val_good_for_shelves_eq] at e
  exact e

theorem ok_good_for_shelves {P : Program} {w : World} {W : Wd} {base : Heap} (V : Ev W base) : DFn P w W base 6 (He.fAd W.K ("good_for_shelves", none)) 2 S_good_for_shelves := (raw_good_for_shelves V (ok_never_together V)).ref ref_good_for_shelves nox_good_for_shelves
abbrev N_good_for_chutes : List Str := ["stays", "placing"]
noncomputable def d_good_for_chutes_1 : PD.Env → Mo Fl := (dRet (fun ρ => bnd ((dCons (dVar 0) (dCons (dVar 1) (dCons (dC (.fn J_is_within)) (fun _ st => .ok [] st)))) ρ) (callM 3 S_never_together)))
noncomputable def d_good_for_chutes : PD.Env → Mo Fl := d_good_for_chutes_1
theorem sc_good_for_chutes : FnScope N_good_for_chutes ["stays", "placing"] (defScope (top 17)) := C8.fnScope_by (by decide +kernel)
theorem body_good_for_chutes {P : Program} {w : World} {W : Wd} {base : Heap} (V : Ev W base) (h_never_together : DFn P w W base 5 (He.fAd W.K ("never_together", none)) 3 S_never_together) : Body P w W base N_good_for_chutes "good_for_chutes" (defScope (top 17)) (He.fAd W.K ("good_for_chutes", none)) 5 (defBody (top 17)) d_good_for_chutes := fun cdv A outer s H E =>
  (dss_one (ds_ret (de_call (h_never_together.mono (by decide)) V.g_never_together (da_cons (de_var (i := 0)) (da_cons (de_var (i := 1)) (da_cons (de_fn rfl V.g_is_within V.a_is_within) da_nil))))))
theorem raw_good_for_chutes {P : Program} {w : World} {W : Wd} {base : Heap} (V : Ev W base) (h_never_together : DFn P w W base 5 (He.fAd W.K ("never_together", none)) 3 S_never_together) : DFn P w W base 6 (He.fAd W.K ("good_for_chutes", none)) 2 (bodyF 2 d_good_for_chutes) := by
  obtain ⟨fd, F⟩ := V.D_good_for_chutes
  exact DFn.of V.cx F sc_good_for_chutes (F.bindsN fun _ _ _ _ _ _ us hl => match us, hl with | [_, _], _ => rfl) (body_good_for_chutes V h_never_together)
def dom_good_for_chutes (ps : List PV) : Prop := ∃ (L : List (Int × Int)) (pl : List Int), ps = [staysP L, .tup (pl.map PV.int)] ∧ L.length ≤ 16777216 ∧ pl.length = L.length
def val_good_for_chutes : List PV → PV
  | [.tup l, .tup m] => .bl (neverB (l.map unSt) (m.map unI) withB)
  | _ => .non
theorem val_good_for_chutes_eq (L : List (Int × Int)) (pl : List Int) : val_good_for_chutes [staysP L, .tup (pl.map PV.int)] = .bl (neverB L pl withB) := by
  show PV.bl (neverB ((L.map stP).map unSt) ((pl.map PV.int).map unI) _) = _
  rw [unSt_map, unI_map]
noncomputable def S_good_for_chutes : List PV → Mo PV := pureS dom_good_for_chutes val_good_for_chutes
theorem nox_good_for_chutes : NoX S_good_for_chutes := nox_pure
theorem ref_good_for_chutes : Ref 2 (bodyF 2 d_good_for_chutes) S_good_for_chutes := ref_same (fun ps st h => by
  obtain ⟨L, pl, rfl, hl, hp⟩ := h
  rw [val_good_for_chutes_eq]
  have e := never_together_ok (L := L) (pl := pl) (j := J_is_within) (st := st) hl hp (by decide)
  have eb : badOf J_is_within = withB := rfl
  rw [eb] at e
  simp only [e_body, d_good_for_chutes, d_good_for_chutes_1, e_ret, ok_bnd]
  simp [start0, e]) (fun ps m h => by
  obtain ⟨L, pl, rfl, _⟩ := h
  rfl)
theorem good_for_chutes_ok {L : List (Int × Int)} {pl : List Int} {st : Sto} (h : L.length ≤ 16777216) (h2 : pl.length = L.length) : S_good_for_chutes [staysP L, .tup (pl.map PV.int)] st = .ok (.bl (neverB L pl withB)) st := by
  have e := pureS_ok (dom := dom_good_for_chutes) (g := val_good_for_chutes) (st := st) ⟨L, pl, rfl, h, h2⟩
  rw [val_good_for_chutes_eq] at e
  exact e

theorem ok_good_for_chutes {P : Program} {w : World} {W : Wd} {base : Heap} (V : Ev W base) : DFn P w W base 6 (He.fAd W.K ("good_for_chutes", none)) 2 S_good_for_chutes := (raw_good_for_chutes V (ok_never_together V)).ref ref_good_for_chutes nox_good_for_chutes
abbrev N_good_for_piles : List Str := ["stays", "placing"]
noncomputable def d_good_for_piles_1 : PD.Env → Mo Fl := (dRet (fun ρ => bnd ((dCons (dVar 0) (dCons (dVar 1) (dCons (dC (.fn J_crosses)) (fun _ st => .ok [] st)))) ρ) (callM 3 S_never_together)))
noncomputable def d_good_for_piles : PD.Env → Mo Fl := d_good_for_piles_1
theorem sc_good_for_piles : FnScope N_good_for_piles ["stays", "placing"] (defScope (top 18)) := C8.fnScope_by (by decide +kernel)
theorem body_good_for_piles {P : Program} {w : World} {W : Wd} {base : Heap} (V : Ev W base) (h_never_together : DFn P w W base 5 (He.fAd W.K ("never_together", none)) 3 S_never_together) : Body P w W base N_good_for_piles "good_for_piles" (defScope (top 18)) (He.fAd W.K ("good_for_piles", none)) 5 (defBody (top 18)) d_good_for_piles := fun cdv A outer s H E =>
  (dss_one (ds_ret (de_call (h_never_together.mono (by decide)) V.g_never_together (da_cons (de_var (i := 0)) (da_cons (de_var (i := 1)) (da_cons (de_fn rfl V.g_crosses V.a_crosses) da_nil))))))
theorem raw_good_for_piles {P : Program} {w : World} {W : Wd} {base : Heap} (V : Ev W base) (h_never_together : DFn P w W base 5 (He.fAd W.K ("never_together", none)) 3 S_never_together) : DFn P w W base 6 (He.fAd W.K ("good_for_piles", none)) 2 (bodyF 2 d_good_for_piles) := by
  obtain ⟨fd, F⟩ := V.D_good_for_piles
  exact DFn.of V.cx F sc_good_for_piles (F.bindsN fun _ _ _ _ _ _ us hl => match us, hl with | [_, _], _ => rfl) (body_good_for_piles V h_never_together)
def dom_good_for_piles (ps : List PV) : Prop := ∃ (L : List (Int × Int)) (pl : List Int), ps = [staysP L, .tup (pl.map PV.int)] ∧ L.length ≤ 16777216 ∧ pl.length = L.length
def val_good_for_piles : List PV → PV
  | [.tup l, .tup m] => .bl (neverB (l.map unSt) (m.map unI) crossB)
  | _ => .non
theorem val_good_for_piles_eq (L : List (Int × Int)) (pl : List Int) : val_good_for_piles [staysP L, .tup (pl.map PV.int)] = .bl (neverB L pl crossB) := by
  show PV.bl (neverB ((L.map stP).map unSt) ((pl.map PV.int).map unI) _) = _
  rw [unSt_map, unI_map]
noncomputable def S_good_for_piles : List PV → Mo PV := pureS dom_good_for_piles val_good_for_piles
theorem nox_good_for_piles : NoX S_good_for_piles := nox_pure
theorem ref_good_for_piles : Ref 2 (bodyF 2 d_good_for_piles) S_good_for_piles := ref_same (fun ps st h => by
  obtain ⟨L, pl, rfl, hl, hp⟩ := h
  rw [val_good_for_piles_eq]
  have e := never_together_ok (L := L) (pl := pl) (j := J_crosses) (st := st) hl hp (by decide)
  have eb : badOf J_crosses = crossB := rfl
  rw [eb] at e
  simp only [e_body, d_good_for_piles, d_good_for_piles_1, e_ret, ok_bnd]
  simp [start0, e]) (fun ps m h => by
  obtain ⟨L, pl, rfl, _⟩ := h
  rfl)
theorem good_for_piles_ok {L : List (Int × Int)} {pl : List Int} {st : Sto} (h : L.length ≤ 16777216) (h2 : pl.length = L.length) : S_good_for_piles [staysP L, .tup (pl.map PV.int)] st = .ok (.bl (neverB L pl crossB)) st := by
  have e := pureS_ok (dom := dom_good_for_piles) (g := val_good_for_piles) (st := st) ⟨L, pl, rfl, h, h2⟩
  rw [val_good_for_piles_eq] at e
  exact e

theorem ok_good_for_piles {P : Program} {w : World} {W : Wd} {base : Heap} (V : Ev W base) : DFn P w W base 6 (He.fAd W.K ("good_for_piles", none)) 2 S_good_for_piles := (raw_good_for_piles V (ok_never_together V)).ref ref_good_for_piles nox_good_for_piles
abbrev N__law_word : List Str := ["which", "stays", "placing"]
noncomputable def d__law_word_1 : PD.Env → Mo Fl := (dRet (dIf (dB (dBin (oEq false) (dVar 0) (dC (.int 0)))) (fun ρ => bnd ((dCons (dVar 1) (dCons (dVar 2) (fun _ st => .ok [] st))) ρ) (callM 2 S_good_for_shelves)) (dIf (dB (dBin (oEq false) (dVar 0) (dC (.int 1)))) (fun ρ => bnd ((dCons (dVar 1) (dCons (dVar 2) (fun _ st => .ok [] st))) ρ) (callM 2 S_good_for_chutes)) (fun ρ => bnd ((dCons (dVar 1) (dCons (dVar 2) (fun _ st => .ok [] st))) ρ) (callM 2 S_good_for_piles)))))
noncomputable def d__law_word : PD.Env → Mo Fl := d__law_word_1
theorem sc__law_word : FnScope N__law_word ["which", "stays", "placing"] (defScope (top 34)) := C8.fnScope_by (by decide +kernel)
theorem body__law_word {P : Program} {w : World} {W : Wd} {base : Heap} (V : Ev W base) (h_good_for_shelves : DFn P w W base 6 (He.fAd W.K ("good_for_shelves", none)) 2 S_good_for_shelves) (h_good_for_chutes : DFn P w W base 6 (He.fAd W.K ("good_for_chutes", none)) 2 S_good_for_chutes) (h_good_for_piles : DFn P w W base 6 (He.fAd W.K ("good_for_piles", none)) 2 S_good_for_piles) : Body P w W base N__law_word "_law_word" (defScope (top 34)) (He.fAd W.K ("_law_word", none)) 6 (defBody (top 34)) d__law_word := fun cdv A outer s H E =>
  (dss_one (ds_ret (de_if (dt_eq (de_var (i := 0)) de_int) (de_call (h_good_for_shelves.mono (by decide)) V.g_good_for_shelves (da_cons (de_var (i := 1)) (da_cons (de_var (i := 2)) da_nil))) (de_if (dt_eq (de_var (i := 0)) de_int) (de_call (h_good_for_chutes.mono (by decide)) V.g_good_for_chutes (da_cons (de_var (i := 1)) (da_cons (de_var (i := 2)) da_nil))) (de_call (h_good_for_piles.mono (by decide)) V.g_good_for_piles (da_cons (de_var (i := 1)) (da_cons (de_var (i := 2)) da_nil)))))))
theorem raw__law_word {P : Program} {w : World} {W : Wd} {base : Heap} (V : Ev W base) (h_good_for_shelves : DFn P w W base 6 (He.fAd W.K ("good_for_shelves", none)) 2 S_good_for_shelves) (h_good_for_chutes : DFn P w W base 6 (He.fAd W.K ("good_for_chutes", none)) 2 S_good_for_chutes) (h_good_for_piles : DFn P w W base 6 (He.fAd W.K ("good_for_piles", none)) 2 S_good_for_piles) : DFn P w W base 7 (He.fAd W.K ("_law_word", none)) 3 (bodyF 3 d__law_word) := by
  obtain ⟨fd, F⟩ := V.D__law_word
  exact DFn.of V.cx F sc__law_word (F.bindsN fun _ _ _ _ _ _ us hl => match us, hl with | [_, _, _], _ => rfl) (body__law_word V h_good_for_shelves h_good_for_chutes h_good_for_piles)
noncomputable def S__law_word : List PV → Mo PV := bodyF 3 d__law_word
theorem ref__law_word : Ref 3 (bodyF 3 d__law_word) S__law_word := ref_self
theorem ok__law_word {P : Program} {w : World} {W : Wd} {base : Heap} (V : Ev W base) : DFn P w W base 7 (He.fAd W.K ("_law_word", none)) 3 S__law_word := raw__law_word V (ok_good_for_shelves V) (ok_good_for_chutes V) (ok_good_for_piles V)
abbrev N__law_words : List Str := ["stays", "placing", "due", "which"]
noncomputable def d__law_words_1 : PD.Env → Mo Fl := (dSet 2 (fun ρ => bnd ((fun ρ => bnd ((dCons (fun ρ => bnd ((dCons (dVar 0) (dCons (dVar 1) (dCons (dC (.fn J__law_meets)) (fun _ st => .ok [] st)))) ρ) (callM 3 S__law_good)) (dCons (fun ρ => bnd ((dCons (dVar 0) (dCons (dVar 1) (dCons (dC (.fn J__law_within)) (fun _ st => .ok [] st)))) ρ) (callM 3 S__law_good)) (dCons (fun ρ => bnd ((dCons (dVar 0) (dCons (dVar 1) (dCons (dC (.fn J__law_crosses)) (fun _ st => .ok [] st)))) ρ) (callM 3 S__law_good)) (fun _ st => .ok [] st)))) ρ) capM) ρ) layL))
noncomputable def d__law_words_2 : PD.Env → Mo Fl := (dRet (fun ρ => bnd ((dLc (fun ρ => bnd ((dCons (dC (.int 3)) (fun _ st => .ok [] st)) ρ) rg1M) (.nm 3) dYes (fun ρ => bnd ((dCons (fun ρ => bnd ((dCons (dVar 3) (dCons (dVar 0) (dCons (dVar 1) (fun _ st => .ok [] st)))) ρ) (callM 3 S__law_word)) (dCons (dBin oIx (dVar 2) (dVar 3)) (fun _ st => .ok [] st))) ρ) (callM 2 S__law_same)) [3]) ρ) allQ))
noncomputable def d__law_words : PD.Env → Mo Fl := (dSeq d__law_words_1
    d__law_words_2)
theorem sc__law_words : FnScope N__law_words ["stays", "placing"] (defScope (top 35)) := C8.fnScope_by (by decide +kernel)
theorem body__law_words {P : Program} {w : World} {W : Wd} {base : Heap} (V : Ev W base) (h__law_good : DFn P w W base 4 (He.fAd W.K ("_law_good", none)) 3 S__law_good) (h__law_same : DFn P w W base 6 (He.fAd W.K ("_law_same", none)) 2 S__law_same) (h__law_word : DFn P w W base 7 (He.fAd W.K ("_law_word", none)) 3 S__law_word) : Body P w W base N__law_words "_law_words" (defScope (top 35)) (He.fAd W.K ("_law_words", none)) 7 (defBody (top 35)) d__law_words := fun cdv A outer s H E =>
  (dss_cons (ds_set (i := 2) (de_l (dl_lst (da_cons (de_call (h__law_good.mono (by decide)) V.g__law_good (da_cons (de_var (i := 0)) (da_cons (de_var (i := 1)) (da_cons (de_fn rfl V.g__law_meets V.a__law_meets) da_nil)))) (da_cons (de_call (h__law_good.mono (by decide)) V.g__law_good (da_cons (de_var (i := 0)) (da_cons (de_var (i := 1)) (da_cons (de_fn rfl V.g__law_within V.a__law_within) da_nil)))) (da_cons (de_call (h__law_good.mono (by decide)) V.g__law_good (da_cons (de_var (i := 0)) (da_cons (de_var (i := 1)) (da_cons (de_fn rfl V.g__law_crosses V.a__law_crosses) da_nil)))) da_nil))))))
    (dss_one (ds_ret (de_all (dl_lc (own := [("which", 3)]) (di_range1 (da_cons de_int da_nil) rfl V.b_range) (blkOk_by (N := N__law_words) (sc := defScope (top 35)) (by decide +kernel)) (fun _ _ _ _ _ => (dp_name (i := 3))) (fun _ _ _ _ _ => dts_nil) (fun _ _ _ _ _ => (de_call (h__law_same.mono (by decide)) V.g__law_same (da_cons (de_call (h__law_word.mono (by decide)) V.g__law_word (da_cons (de_var (i := 3)) (da_cons (de_var (i := 0)) (da_cons (de_var (i := 1)) da_nil)))) (da_cons (de_ix (de_var (i := 2)) (de_var (i := 3))) da_nil))))) rfl V.b_all))))
theorem raw__law_words {P : Program} {w : World} {W : Wd} {base : Heap} (V : Ev W base) (h__law_good : DFn P w W base 4 (He.fAd W.K ("_law_good", none)) 3 S__law_good) (h__law_same : DFn P w W base 6 (He.fAd W.K ("_law_same", none)) 2 S__law_same) (h__law_word : DFn P w W base 7 (He.fAd W.K ("_law_word", none)) 3 S__law_word) : DFn P w W base 8 (He.fAd W.K ("_law_words", none)) 2 (bodyF 4 d__law_words) := by
  obtain ⟨fd, F⟩ := V.D__law_words
  exact DFn.of V.cx F sc__law_words (F.bindsN fun _ _ _ _ _ _ us hl => match us, hl with | [_, _], _ => rfl) (body__law_words V h__law_good h__law_same h__law_word)
def wordB (L : List (Int × Int)) (pl : List Int) (n : Nat) : Bool := neverB L pl (if n = 0 then meetB else if n = 1 then withB else crossB)
theorem law_word_ok {L : List (Int × Int)} {pl : List Int} {st : Sto} {n : Nat} (h : L.length ≤ 16777216) (h2 : pl.length = L.length) (hn : n < 3) : Ok (S__law_word [.int (n : Int), staysP L, .tup (pl.map PV.int)] st) (fun p s => p = .bl (wordB L pl n) ∧ s = st) := by
  have e1 := good_for_shelves_ok (st := st) h h2
  have e2 := good_for_chutes_ok (st := st) h h2
  have e3 := good_for_piles_ok (st := st) h h2
  unfold S__law_word
  match n, hn with
  | 0, _ => simp [d__law_word, d__law_word_1, start0, okd_int, e1, wordB]
  | 1, _ => simp [d__law_word, d__law_word_1, start0, okd_int, e2, wordB]
  | 2, _ => simp [d__law_word, d__law_word_1, start0, okd_int, e3, wordB]
noncomputable def S__law_words : List PV → Mo PV := pureS (fun ps => ∃ (L : List (Int × Int)) (pl : List Int), ps = [staysP L, .tup (pl.map PV.int)] ∧ L.length ≤ 16777216 ∧ pl.length = L.length ∧ (∀ a ∈ L, a.1 < a.2)) fun _ => .bl true
theorem nox__law_words : NoX S__law_words := nox_pure
theorem ref__law_words : Ref 2 (bodyF 4 d__law_words) S__law_words := ref_pure (fun ps st _ h => by
  obtain ⟨L, pl, rfl, h1, h2, h3⟩ := h
  have e1 := _law_good_ok (j := J__law_meets) (st := st) h1 h2 h3 (.inl rfl)
  have e2 := _law_good_ok (j := J__law_within) (st := st) h1 h2 h3 (.inr (.inl rfl))
  have e3 := _law_good_ok (j := J__law_crosses) (st := st) h1 h2 h3 (.inr (.inr rfl))
  have hr : RgOk 3 := ⟨by omega, by omega⟩
  simp [d__law_words, d__law_words_1, start0, e1, e2, e3, d__law_words_2]
  refine ⟨hr, ?_⟩
  rw [lc_map (fun q => .bl true) (by exact True.intro) (rgP 0 3) (fun q hq => by
      obtain ⟨k, hk, rfl⟩ := mem_rgP hq
      refine ⟨_, rfl, rfl, ?_⟩
      refine Ok.eq ?_
      have z := law_word_ok (L := L) (pl := pl) (st := st ++ [Ob.lst false [PV.bl (neverB L pl (badOf' J__law_meets)), PV.bl (neverB L pl (badOf' J__law_within)), PV.bl (neverB L pl (badOf' J__law_crosses))]]) h1 h2 hk
      simp [wipeE]
      refine z.imp fun p s hh => ?_
      obtain ⟨rfl, rfl⟩ := hh
      have e0 : atI [PV.bl (neverB L pl (badOf' J__law_meets)), PV.bl (neverB L pl (badOf' J__law_within)), PV.bl (neverB L pl (badOf' J__law_crosses))] (k : Int) = some (.bl (wordB L pl k)) := atI_nat (by
        match k, hk with
        | 0, _ => rfl
        | 1, _ => rfl
        | 2, _ => rfl)
      have es : ∀ s, S__law_same [.bl (wordB L pl k), .bl (wordB L pl k)] s = .ok (.bl true) s := fun s => law_same_ok1 rfl
      simp [e0, es]) (by unfold rgP; simp)]
  rw [ok_ok, allQ_map]
  simp) (fun ps m h => rfl)
theorem _law_words_ok {L : List (Int × Int)} {pl : List Int} {st : Sto} (h : L.length ≤ 16777216) (h2 : pl.length = L.length) (hv : ∀ a ∈ L, a.1 < a.2) : S__law_words [staysP L, .tup (pl.map PV.int)] st = .ok (.bl true) st := pureS_ok ⟨L, pl, rfl, h, h2, hv⟩

/-- the i-th stay -/
abbrev gS (L : List (Int × Int)) (i : Nat) : Int × Int := L[i]?.getD (0, 0)
theorem toDs_getD (L : List (Int × Int)) {i : Nat} (h : i < L.length) : (toDs (L.map stP)).getD i .none = toD (stP (gS L i)) := by
  induction L generalizing i with
  | nil => exact absurd h (Nat.not_lt_zero _)
  | cons a L ih =>
    cases i with
    | zero => rfl
    | succ i =>
      have := ih (i := i) (by simpa using h)
      simpa [toDs, gS] using this
theorem sortIx_perm (L : List (Int × Int)) : (sortIx (L.map stP)).Perm (List.range L.length) := by
  unfold sortIx
  rw [List.length_map]
  exact List.mergeSort_perm _ _
theorem sortIx_pw (L : List (Int × Int)) : (sortIx (L.map stP)).Pairwise fun i j => (gS L i).1 ≤ (gS L j).1 := by
  have h := PySem.W.sort_pairwise (PySem.W.sortLe_total (PyProof.Rows.listOrd PyProof.Rows.itemOrd) false fun i : Nat => PySem.W.keyToks ((toDs (L.map stP)).getD i .none)) (List.range (L.map stP).length)
  have hp := sortIx_perm L
  refine List.Pairwise.imp_of_mem ?_ h
  intro i j hi hj e
  have hi' : i < L.length := List.mem_range.mp (hp.mem_iff.mp hi)
  have hj' : j < L.length := List.mem_range.mp (hp.mem_iff.mp hj)
  have e1 : (!PySem.W.dataLt ((toDs (L.map stP)).getD j .none) ((toDs (L.map stP)).getD i .none)) = true := e
  rw [toDs_getD L hi', toDs_getD L hj'] at e1
  have e2 : pvLt (stP (gS L j)) (stP (gS L i)) = false := by
    rw [Bool.not_eq_true'] at e1
    exact e1
  rw [pvLt_st] at e2
  simp at e2
  omega
theorem nodup_sub {α : Type} [DecidableEq α] : ∀ {l m : List α}, l.Nodup → (∀ a ∈ l, a ∈ m) → l.length ≤ m.length
  | [], _, _, _ => Nat.zero_le _
  | a :: l, m, hn, h => by
    have hm := h a (List.mem_cons_self ..)
    have ih := nodup_sub (l := l) (m := m.erase a) (List.nodup_cons.mp hn).2 fun b hb => by
      have hne : b ≠ a := fun e => (List.nodup_cons.mp hn).1 (e ▸ hb)
      exact (List.mem_erase_of_ne hne).mpr (h b (List.mem_cons_of_mem _ hb))
    rw [List.length_erase_of_mem hm] at ih
    have := List.length_pos_of_mem hm
    rw [List.length_cons]
    omega
theorem mex_le {tk : List Int} {v : Nat} (h : ∀ u : Nat, u < v → (u : Int) ∈ tk) : v ≤ tk.length := by
  have z := nodup_sub (l := (List.range v).map fun u : Nat => (u : Int)) (m := tk) (by
    exact List.pairwise_map.mpr (List.Pairwise.imp (fun {a b} hne e => hne (by omega)) (List.nodup_range (n := v)))) (fun a ha => by
    obtain ⟨u, hu, rfl⟩ := List.mem_map.mp ha
    exact h u (List.mem_range.mp hu))
  simpa using z
theorem okds_ints {n : Nat} (l : List Int) : okds n (l.map PV.int) = true := by
  induction l with
  | nil => cases n <;> rfl
  | cons a l ih => rw [List.map_cons, okds, okd_int, ih]; rfl
theorem inQ_ints {u : Int} {tk : List Int} {st : Sto} : inQ false (.int u) (tk.map PV.int) st = .ok (.bl (decide (u ∈ tk))) st := by
  unfold inQ
  rw [if_pos ⟨okd_int _ _, okds_ints _⟩]
  rw [if_neg (by simp), List.any_map]
  congr 2
  rw [Bool.eq_iff_iff, List.any_eq_true, decide_eq_true_iff]
  simp
/-- the first number that is not taken -/
theorem shelves_wh {st : Sto} {p t i v : Nat} {pl tk : List Int} {x0 x2 x4 x5 x7 : Option PV} {Q : Fl → Sto → Prop} (ht : p ≠ t) (hi : i < pl.length) (hpl : pl.length ≤ 16777216) (h2 : st[t]? = some (.lst false (tk.map PV.int)))
    (k : ∀ u : Nat, (u : Int) ∉ tk → u ≤ tk.length → ∀ s, s = st.set p (.lst false ((pl.set i (u : Int)).map PV.int)) → Q (.nx [x0, some (.loc p), x2, some (.int (i : Int)), x4, x5, some (.loc t), x7]) s) (h1 : st[p]? = some (.lst false (pl.map PV.int))) (h0 : pl[i]? = some 0) :
    Ok (d_on_shelves_5 [x0, some (.loc p), x2, some (.int (i : Int)), x4, x5, some (.loc t), x7] st) Q := by
  have hp := (List.getElem?_eq_some_iff.mp h1).1
  unfold d_on_shelves_5
  refine ok_wh (fun n ρ s => ρ = [x0, some (.loc p), x2, some (.int (i : Int)), x4, x5, some (.loc t), x7] ∧ ∃ u : Nat, s = st.set p (.lst false ((pl.set i (u : Int)).map PV.int)) ∧ (∀ u' : Nat, u' < u → (u' : Int) ∈ tk) ∧ n = tk.length + 1 - u) ?_ (tk.length + 1) _ _ ⟨rfl, 0, ?_, (fun _ h => absurd h (Nat.not_lt_zero _)), rfl⟩
  · intro n ρ s hI
    obtain ⟨rfl, u, rfl, hu, rfl⟩ := hI
    have e1 : (st.set p (.lst false ((pl.set i (u : Int)).map PV.int)))[p]? = some (.lst false ((pl.set i (u : Int)).map PV.int)) := List.getElem?_set_self hp
    have e2 : (st.set p (.lst false ((pl.set i (u : Int)).map PV.int)))[t]? = some (.lst false (tk.map PV.int)) := by rw [List.getElem?_set_ne ht]; exact h2
    have e3 : atI ((pl.set i (u : Int)).map PV.int) (i : Int) = some (.int (u : Int)) := atI_nat (by rw [List.getElem?_map, List.getElem?_set_self hi]; rfl)
    simp only [e_B, ok_bnd, e_bin]
    simp [e1, e2, e3, inQ_ints, -List.map_set]
    split
    · rename_i hm
      have e5 : ixN pl.length (i : Int) = some i := ixN_nat hi
      simp [d_on_shelves_4, e1, e3, e5, -List.map_set]
      have hu2 : ∀ u' : Nat, u' < u + 1 → (u' : Int) ∈ tk := fun u' h => by
        by_cases e : u' = u
        · rw [e]; exact hm
        · exact hu u' (by omega)
      have hle := mex_le hu2
      refine ⟨tk.length + 1 - (u + 1), by omega, u + 1, ?_, hu2, rfl⟩
      have : ((u : Int) + 1) = ((u + 1 : Nat) : Int) := by omega
      rw [this, ← List.map_set, List.set_set]
    · rename_i hm
      exact k u hm (mex_le hu) _ rfl
  · have e := List.getElem?_eq_some_iff.mp h0
    have e2 := List.getElem?_eq_some_iff.mp h1
    have a1 : pl.set i ((0 : Nat) : Int) = pl := by
      obtain ⟨hh, e⟩ := e
      have : ((0 : Nat) : Int) = pl[i] := e.symm
      rw [this, List.set_getElem_self]
    rw [a1]
    obtain ⟨hh, e2⟩ := e2
    rw [← e2, List.set_getElem_self]
def presN (L : List (Int × Int)) (m : Int) : Nat := (presI L m).length
/-- the numbers taken round i -/
def takenL (L : List (Int × Int)) (D : List Nat) (pl : List Int) (i : Nat) : List Int := (D.filter fun j => meetB (gS L i) (gS L j)).map fun j => pl[j]?.getD 0
structure Gr (L : List (Int × Int)) (D : List Nat) (pl : List Int) : Prop where
  len : pl.length = L.length
  nd : D.Nodup
  lt : ∀ j ∈ D, j < L.length
  zero : ∀ j, j < L.length → j ∉ D → pl[j]? = some 0
  num : ∀ j ∈ D, 0 ≤ pl[j]?.getD 0 ∧ pl[j]?.getD 0 < (presN L (gS L j).1 : Int)
  good : ∀ i ∈ D, ∀ j ∈ D, i ≠ j → pl[i]?.getD 0 = pl[j]?.getD 0 → meetB (gS L i) (gS L j) = false
theorem meetB_comm (a b : Int × Int) : meetB a b = meetB b a := by
  unfold meetB
  rw [Bool.and_comm]
theorem Gr.step {L : List (Int × Int)} {D : List Nat} {pl : List Int} {i u : Nat} (g : Gr L D pl) (hv : ∀ a ∈ L, a.1 < a.2) (hi : i < L.length) (hD : i ∉ D) (hs : ∀ j ∈ D, (gS L j).1 ≤ (gS L i).1) (h1 : (u : Int) ∉ takenL L D pl i) (h2 : u ≤ (takenL L D pl i).length) : Gr L (D ++ [i]) (pl.set i (u : Int)) := by
  have hne : ∀ j ∈ D, i ≠ j := fun j hj e => hD (e ▸ hj)
  have hget : ∀ j ∈ D, (pl.set i (u : Int))[j]?.getD 0 = pl[j]?.getD 0 := fun j hj => by rw [List.getElem?_set_ne (hne j hj)]
  have hself : (pl.set i (u : Int))[i]?.getD 0 = (u : Int) := by rw [List.getElem?_set_self (by rw [g.len]; exact hi)]; rfl
  have hnt : ∀ j ∈ D, (u : Int) = pl[j]?.getD 0 → meetB (gS L i) (gS L j) = false := fun j hj e => by
    cases hm : meetB (gS L i) (gS L j) with
    | false => rfl
    | true => exact absurd (List.mem_map.mpr ⟨j, List.mem_filter.mpr ⟨hj, hm⟩, e.symm⟩) h1
  have hv' : ∀ j, j < L.length → (gS L j).1 < (gS L j).2 := fun j hj => by
    unfold gS
    rw [List.getElem?_eq_getElem hj]
    exact hv _ (List.getElem_mem hj)
  have hcnt : u < presN L (gS L i).1 := by
    have z := nodup_sub (l := i :: D.filter fun j => meetB (gS L i) (gS L j)) (m := presI L (gS L i).1) (List.nodup_cons.mpr ⟨fun h => hD (List.mem_filter.mp h).1, g.nd.filter _⟩) (fun a ha => by
      unfold presI hasM
      rw [List.mem_cons] at ha
      rcases ha with rfl | ha
      · have := hv' _ hi
        exact List.mem_filter.mpr ⟨List.mem_range.mpr hi, by simp; omega⟩
      · obtain ⟨ha, hm⟩ := List.mem_filter.mp ha
        have q1 := hs a ha
        refine List.mem_filter.mpr ⟨List.mem_range.mpr (g.lt a ha), ?_⟩
        unfold meetB at hm
        simp at hm ⊢
        exact ⟨q1, hm.1⟩)
    unfold takenL at h2
    rw [List.length_map] at h2
    rw [List.length_cons] at z
    unfold presN
    omega
  constructor
  · rw [List.length_set, g.len]
  · rw [List.nodup_append]
    exact ⟨g.nd, by simp, fun a ha b hb e => by rw [List.mem_singleton] at hb; exact hD (hb ▸ e ▸ ha)⟩
  · intro j hj
    rw [List.mem_append, List.mem_singleton] at hj
    rcases hj with hj | rfl
    · exact g.lt j hj
    · exact hi
  · intro j hj hn
    rw [List.mem_append, List.mem_singleton, not_or] at hn
    rw [List.getElem?_set_ne (fun e => hn.2 e.symm)]
    exact g.zero j hj hn.1
  · intro j hj
    rw [List.mem_append, List.mem_singleton] at hj
    rcases hj with hj | rfl
    · rw [hget j hj]; exact g.num j hj
    · rw [hself]; omega
  · intro a ha b hb hab he
    rw [List.mem_append, List.mem_singleton] at ha hb
    rcases ha with ha | rfl <;> rcases hb with hb | rfl
    · rw [hget a ha, hget b hb] at he; exact g.good a ha b hb hab he
    · rw [hget a ha, hself] at he
      rw [meetB_comm]; exact hnt a ha he.symm
    · rw [hget b hb, hself] at he
      exact hnt b hb he
    · exact absurd rfl hab
def natsP (D : List Nat) : List PV := D.map fun i : Nat => PV.int i
theorem shelves_turn {st : Sto} {p q i : Nat} {L : List (Int × Int)} {D : List Nat} {pl : List Int} {x4 x5 x6 x7 : Option PV} {Q : Fl → Sto → Prop} (hn : p ≠ q) (h1 : st[p]? = some (.lst false (pl.map PV.int))) (h2 : st[q]? = some (.lst false (natsP D))) (hL : pl.length = L.length) (hl : L.length ≤ 10000) (hi : i < L.length) (hD : ∀ j ∈ D, j < L.length) (hDl : D.length < L.length) (h0 : pl[i]? = some 0)
    (k : ∀ (u : Nat) (y6 y7 : Option PV) s, (u : Int) ∉ takenL L D pl i → u ≤ (takenL L D pl i).length → Ch p q st s → s[p]? = some (.lst false ((pl.set i (u : Int)).map PV.int)) → s[q]? = some (.lst false (natsP (D ++ [i]))) → Q (.nx [some (staysP L), some (.loc p), some (.loc q), some (.int (i : Int)), x4, x5, y6, y7]) s) :
    Ok (dSeq d_on_shelves_3 (dSeq d_on_shelves_5 d_on_shelves_6) [some (staysP L), some (.loc p), some (.loc q), some (.int (i : Int)), x4, x5, x6, x7] st) Q := by
  have lp := (List.getElem?_eq_some_iff.mp h1).1
  have lq := (List.getElem?_eq_some_iff.mp h2).1
  simp [d_on_shelves_3, h2]
  rw [lc_pure (fun j => meetB (gS L i) (gS L (natOf j))) (fun j => .int (pl[natOf j]?.getD 0)) (.inl h2) (natsP D) [] (fun z hz => by
    obtain ⟨j, hj, rfl⟩ := List.mem_map.mp hz
    refine ⟨[some (staysP L), some (.loc p), some (.loc q), some (.int (i : Int)), x4, x5, x6, some (.int (j : Int))], rfl, ?_, fun _ => ?_⟩
    · refine Ok.eq ?_
      have e1 := stay_at hi
      have e2 := stay_at (hD j hj)
      rw [natOf_int]
      simp [e1, e2]
    · refine Ok.eq ?_
      have e3 := int_at (l := pl) (i := j) (by rw [hL]; exact hD j hj)
      rw [natOf_int]
      simp [h1, e3]) (by unfold natsP; simp; omega)]
  have et : [] ++ ((natsP D).filter fun j => meetB (gS L i) (gS L (natOf j))).map (fun j => PV.int (pl[natOf j]?.getD 0)) = (takenL L D pl i).map PV.int := by
    unfold natsP takenL
    rw [List.nil_append, List.filter_map, List.map_map, List.map_map]
    rfl
  rw [et, ok_ok]
  refine shelves_wh (tk := takenL L D pl i) (pl := pl) (v := 0) (by omega) (by omega) (by omega) (by rw [List.getElem?_append_right (Nat.le_refl _)]; simp) ?_ (by rw [List.getElem?_append_left lp]; exact h1) h0
  intro u hu1 hu2 s hs
  have s1 : s[p]? = some (.lst false ((pl.set i (u : Int)).map PV.int)) := by
    rw [hs, List.getElem?_set_self (by simp; omega)]
  have s2 : s[q]? = some (.lst false (natsP D)) := by
    rw [hs, List.getElem?_set_ne hn, List.getElem?_append_left lq]; exact h2
  have hsl : q < s.length := (List.getElem?_eq_some_iff.mp s2).1
  have c1 : Ch p q st s := by rw [hs]; exact Ch.app.trans Ch.setB
  rw [seqK_nx]
  simp [d_on_shelves_6, s2]
  refine ⟨by unfold natsP; simp; omega, ?_⟩
  refine k u _ _ _ hu1 hu2 (c1.trans Ch.setC) ?_ ?_
  · rw [List.getElem?_set_ne (Ne.symm hn)]; exact s1
  · rw [List.getElem?_set_self hsl]
    unfold natsP
    simp
/-- what was there is there -/
structure Keep (st s : Sto) : Prop where
  le : st.length ≤ s.length
  eq : ∀ i, i < st.length → s[i]? = st[i]?
theorem shelves_loop {st : Sto} {p q : Nat} {L : List (Int × Int)} {x3 x4 x5 x6 x7 : Option PV} {Q : Fl → Sto → Prop} {chk : Sto → Prop} (hc : ∀ s, chk s) (hn : p ≠ q) (hl : L.length ≤ 10000) (hv : ∀ a ∈ L, a.1 < a.2) (h1 : st[p]? = some (.lst false ((List.replicate L.length (0 : Int)).map PV.int))) (h2 : st[q]? = some (.lst false []))
    (k : ∀ pl y3 y6 y7 s, Gr L (sortIx (L.map stP)) pl → Ch p q st s → s[p]? = some (.lst false (pl.map PV.int)) → Q (.nx [some (staysP L), some (.loc p), some (.loc q), y3, x4, x5, y6, y7]) s) :
    Ok (foF (gNm 3) (dSeq d_on_shelves_3 (dSeq d_on_shelves_5 d_on_shelves_6)) chk (natsP (sortIx (L.map stP))) [some (staysP L), some (.loc p), some (.loc q), x3, x4, x5, x6, x7] st) Q := by
  have hp := sortIx_perm L
  have hnd : (sortIx (L.map stP)).Nodup := hp.symm.nodup_iff.mp List.nodup_range
  have hlen : (sortIx (L.map stP)).length = L.length := by rw [hp.length_eq, List.length_range]
  refine ok_for (fun l ρ s => ∃ D rest pl y3 y6 y7, l = natsP rest ∧ sortIx (L.map stP) = D ++ rest ∧ Gr L D pl ∧ Ch p q st s ∧ s[p]? = some (.lst false (pl.map PV.int)) ∧ s[q]? = some (.lst false (natsP D)) ∧ ρ = [some (staysP L), some (.loc p), some (.loc q), y3, x4, x5, y6, y7]) (fun _ _ _ _ => hc _) ?_ ?_ _ _ _ ⟨[], sortIx (L.map stP), List.replicate L.length 0, x3, x6, x7, rfl, rfl, ?_, Ch.refl, h1, h2, rfl⟩
  · intro ρ s hP
    obtain ⟨D, rest, pl, y3, y6, y7, hl0, hDr, g, c, s1, s2, rfl⟩ := hP
    have hr : rest = [] := by
      cases rest with
      | nil => rfl
      | cons a b => cases hl0
    subst hr
    rw [List.append_nil] at hDr
    rw [← hDr] at g
    exact k pl y3 y6 y7 s g c s1
  · intro z l ρ s hP
    obtain ⟨D, rest, pl, y3, y6, y7, hl0, hDr, g, c, s1, s2, rfl⟩ := hP
    cases rest with
    | nil => cases hl0
    | cons i rest =>
      have hz : z = .int (i : Int) ∧ l = natsP rest := by
        unfold natsP at hl0 ⊢
        rw [List.map_cons] at hl0
        exact ⟨(List.cons.inj hl0).1, (List.cons.inj hl0).2⟩
      obtain ⟨rfl, rfl⟩ := hz
      have hi : i < L.length := List.mem_range.mp (hp.mem_iff.mp (by rw [hDr]; simp))
      have hD : i ∉ D := fun h => by
        rw [hDr, List.nodup_append] at hnd
        exact hnd.2.2 i h i (List.mem_cons_self ..) rfl
      have hs : ∀ j ∈ D, (gS L j).1 ≤ (gS L i).1 := fun j hj => by
        have := sortIx_pw L
        rw [hDr, List.pairwise_append] at this
        exact this.2.2 j hj i (List.mem_cons_self ..)
      rw [e_gNm, ok_ok]
      refine shelves_turn (D := D) hn s1 s2 g.len hl hi g.lt (by
        rw [hDr, List.length_append, List.length_cons] at hlen
        omega) (g.zero i hi hD) fun u y6' y7' s' hu1 hu2 c' s1' s2' => ?_
      rw [aft_nx]
      exact ⟨D ++ [i], rest, pl.set i (u : Int), _, y6', y7', rfl, by rw [hDr]; simp, g.step hv hi hD hs hu1 hu2, c.trans c', s1', s2', rfl⟩
  · exact ⟨by simp, List.nodup_nil, (fun _ h => nomatch h), (fun j hj _ => by rw [List.getElem?_replicate, if_pos hj]), (fun _ h => nomatch h), (fun _ h => nomatch h)⟩
theorem best_loop {st : Sto} {L : List (Int × Int)} {x1 x2 x3 x5 x6 x7 : Option PV} {Q : Fl → Sto → Prop} (hl : L.length ≤ 10000)
    (k : ∀ best y5, (∀ a ∈ L, presN L a.1 ≤ presN L best) → (best = 0 ∨ ∃ a ∈ L, best = a.1) → Q (.nx [some (staysP L), x1, x2, x3, some (.int best), y5, x6, x7]) st) :
    Ok (d_on_shelves_11 [some (staysP L), x1, x2, x3, some (.int 0), x5, x6, x7] st) Q := by
  simp only [d_on_shelves_11, e_for, ok_bnd]
  simp
  refine ok_for (fun l ρ s => s = st ∧ ∃ done rest best y5, l = rest.map stP ∧ L = done ++ rest ∧ ρ = [some (staysP L), x1, x2, x3, some (.int best), y5, x6, x7] ∧ (∀ a ∈ done, presN L a.1 ≤ presN L best) ∧ (best = 0 ∨ ∃ a ∈ L, best = a.1)) (fun _ _ _ _ => True.intro) ?_ ?_ _ _ _ ⟨rfl, [], L, 0, x5, rfl, rfl, rfl, (fun _ h => nomatch h), .inl rfl⟩
  · intro ρ s hP
    obtain ⟨rfl, done, rest, best, y5, hl0, hL, rfl, h1, h2⟩ := hP
    have hr : rest = [] := by
      cases rest with
      | nil => rfl
      | cons a b => cases hl0
    subst hr
    rw [List.append_nil] at hL
    rw [← hL] at h1
    exact k best y5 h1 h2
  · intro z l ρ s hP
    obtain ⟨rfl, done, rest, best, y5, hl0, hL, rfl, h1, h2⟩ := hP
    cases rest with
    | nil => cases hl0
    | cons a rest =>
      rw [List.map_cons] at hl0
      obtain ⟨rfl, rfl⟩ := List.cons.inj hl0
      have ha : a ∈ L := by rw [hL]; simp
      have e1 : ∀ m, S_present [staysP L, .int m] s = .ok (intsP (presI L m)) s := fun m => present_ok (by omega)
      have e2 : ∀ m, lenM (intsP (presI L m)) s = .ok (.int (presN L m : Int)) s := fun m => by
        unfold intsP presN
        rw [m_lenT, List.length_map]
      rw [e_gNm, ok_ok]
      obtain ⟨a0, a1⟩ := a
      simp only [d_on_shelves_10, e_ifS, ok_bnd]
      simp [stP, e1, e2, d_on_shelves_9]
      have hL' : L = (done ++ [(a0, a1)]) ++ rest := by rw [hL]; simp
      split
      · rename_i hlt
        refine ⟨done ++ [(a0, a1)], rest, rfl, hL', fun x y hxy => ?_, .inr ⟨a1, ha⟩⟩
        rw [List.mem_append, List.mem_singleton] at hxy
        rcases hxy with h | h
        · have := h1 (x, y) h
          dsimp only at this
          omega
        · cases h
          exact Nat.le_refl _
      · rename_i hlt
        refine ⟨done ++ [(a0, a1)], rest, rfl, hL', fun x y hxy => ?_, ?_⟩
        · rw [List.mem_append, List.mem_singleton] at hxy
          rcases hxy with h | h
          · exact h1 (x, y) h
          · cases h
            omega
        · rcases h2 with h | ⟨a, h, e⟩
          · exact .inl h
          · exact .inr ⟨a.2, by rw [e]; exact h⟩
theorem sort_stays {n : Int} {st : Sto} (L : List (Int × Int)) (h : n = (L.length : Int)) : sortR (.int n) (staysP L) st = .ok (natsP (sortIx (L.map stP))) st := by
  have h1 : okds 50 (L.map stP) = true := by
    clear h
    induction L with
    | nil => rfl
    | cons a L ih => rw [List.map_cons, okds, ih]; simp [stP, okd, okds]
  have h2 : tupB (L.map stP) = true := by
    clear h h1
    induction L with
    | nil => rfl
    | cons a L ih => rw [List.map_cons]; exact ih
  have e3 : ∀ d ∈ toDs (L.map stP), ∃ a b : Int, d = toD (stP (a, b)) := by
    clear h h1 h2
    induction L with
    | nil => intro d hd; cases hd
    | cons a L ih =>
      intro d hd
      rw [List.map_cons, toDs, List.mem_cons] at hd
      rcases hd with rfl | hd
      · exact ⟨a.1, a.2, rfl⟩
      · exact ih d hd
  have h3 : alkB (L.map stP) = true := by
    unfold alkB
    rw [List.all_eq_true]
    intro d hd
    rw [List.all_eq_true]
    intro d' hd'
    obtain ⟨a, b, rfl⟩ := e3 d hd
    obtain ⟨a', b', rfl⟩ := e3 d' hd'
    simp [stP, toD, toDs, PySem.W.alike, PySem.W.alikeAll]
  have h4 : n = (((L.map stP).length : Nat) : Int) := by rw [List.length_map]; exact h
  show (if _ then _ else _) = _
  rw [if_pos ⟨h4, h1, h3, h2⟩]
  rfl
theorem on_shelves_ok {st : Sto} {L : List (Int × Int)} {Q : PV → Sto → Prop} (hl : L.length ≤ 10000) (hv : ∀ a ∈ L, a.1 < a.2)
    (k : ∀ (pl : List Int) (best : Int) s, Keep st s → Gr L (sortIx (L.map stP)) pl → (∀ a ∈ L, presN L a.1 ≤ presN L best) → (best = 0 ∨ ∃ a ∈ L, best = a.1) → Q (.tup [.tup (pl.map PV.int), .int best]) s) :
    Ok (S_on_shelves [staysP L] st) Q := by
  unfold S_on_shelves
  simp only [e_body, d_on_shelves, ok_bnd, ok_seq]
  simp [start0, d_on_shelves_1, repM, -List.map_replicate]
  refine ⟨⟨by omega, by omega⟩, ?_⟩
  simp [d_on_shelves_2, d_on_shelves_7, sort_stays]
  refine shelves_loop (fun _ => True.intro) (by omega) hl hv ?_ ?_ fun pl y3 y6 y7 s g c s1 => ?_
  · rw [List.map_replicate, List.getElem?_append_right (by omega)]
    simp
  · rw [List.getElem?_append_right (by omega)]
    simp
  rw [seqK_nx]
  simp [d_on_shelves_8]
  refine best_loop hl fun best y5 b1 b2 => ?_
  rw [seqK_nx]
  simp [d_on_shelves_12, s1]
  refine k pl best s ?_ g b1 b2
  refine ⟨?_, fun i hi => ?_⟩
  · have := c.le
    simp at this
    omega
  · rw [c.eq i (by simp; omega) (by omega) (by omega), List.getElem?_append_left hi]
theorem ok__law_words {P : Program} {w : World} {W : Wd} {base : Heap} (V : Ev W base) : DFn P w W base 8 (He.fAd W.K ("_law_words", none)) 2 S__law_words := (raw__law_words V (ok__law_good V) (ok__law_same V) (ok__law_word V)).ref ref__law_words nox__law_words
abbrev N_law : List Str := ["script", "box", "many", "stays", "great", "pick", "at", "i", "menu", "drawn", "placing", "odd", "told", "most", "j", "moment", "k", "one", "other", "turn", "value", "stay"]
noncomputable def d_law_1 : PD.Env → Mo Fl := (dSet 1 (fun ρ => bnd ((dCons (dVar 0) (fun _ st => .ok [] st)) ρ) (callM 1 S__law_box)))
noncomputable def d_law_2 : PD.Env → Mo Fl := (dSet 2 (dIf (dB (dBin (oEq false) (fun ρ => bnd ((dCons (dVar 1) (dCons (dC (.int 6)) (fun _ st => .ok [] st))) ρ) (callM 2 S__law_draw)) (dC (.int 0)))) (dBin oAdd (dC (.int 30)) (fun ρ => bnd ((dCons (dVar 1) (dCons (dC (.int 31)) (fun _ st => .ok [] st))) ρ) (callM 2 S__law_draw))) (fun ρ => bnd ((dCons (dVar 1) (dCons (dC (.int 9)) (fun _ st => .ok [] st))) ρ) (callM 2 S__law_draw))))
noncomputable def d_law_3 : PD.Env → Mo Fl := (dSet 3 (fun ρ => bnd ((dCons (dVar 1) (dCons (dVar 2) (fun _ st => .ok [] st))) ρ) (callM 2 S__law_stays)))
noncomputable def d_law_4 : PD.Env → Mo Fl := (dSet 4 (fun ρ => bnd ((dLc (fun ρ => bnd ((dCons (dC (.int 61)) (fun _ st => .ok [] st)) ρ) rg1M) (.nm 16) dYes (fun ρ => bnd ((dCons (dVar 16) (dCons (dBin oSub (dC (.int 1000000)) (dVar 16)) (fun _ st => .ok [] st))) ρ) tupM) [16]) ρ) tupQ))
noncomputable def d_law_5 : PD.Env → Mo Fl := (dRet (dC (.bl false)))
noncomputable def d_law_6 : PD.Env → Mo Fl := (dIfS (dOrT (dNotT (fun ρ => bnd ((fun ρ => bnd ((dCons (dC (.int 60)) (dCons (dC (.int 60)) (fun _ st => .ok [] st))) ρ) (callM 2 S__law_same)) ρ) truM)) (dOrT (dB (dBin (oIsB true) (fun ρ => bnd ((dCons (dVar 3) (fun _ st => .ok [] st)) ρ) (callM 1 S_is_stays)) (dC (.bl true)))) (dOrT (dB (dBin (oIsB true) (fun ρ => bnd ((dCons (fun ρ => bnd ((fun _ st => .ok [] st) ρ) tupM) (fun _ st => .ok [] st)) ρ) (callM 1 S_is_stays)) (dC (.bl true)))) (dOrT (dB (dBin (oIsB true) (fun ρ => bnd ((dCons (dSl (dVar 4) (fun _ st => .ok none st) (fun ρ => bnd ((dC (.int 60)) ρ) intM) slT) (fun _ st => .ok [] st)) ρ) (callM 1 S_is_stays)) (dC (.bl true)))) (dB (dBin (oIsB true) (fun ρ => bnd ((dCons (dVar 4) (fun _ st => .ok [] st)) ρ) (callM 1 S_is_stays)) (dC (.bl false)))))))) d_law_5 dNil)
noncomputable def d_law_7 : PD.Env → Mo Fl := (dSet 5 (dIf (dB (dBin oGt (dVar 2) (dC (.int 0)))) (dBin oIx (dVar 3) (fun ρ => bnd ((dCons (dVar 1) (dCons (dVar 2) (fun _ st => .ok [] st))) ρ) (callM 2 S__law_draw))) (fun ρ => bnd ((dCons (dC (.int 3)) (dCons (dC (.int 5)) (fun _ st => .ok [] st))) ρ) tupM)))
noncomputable def d_law_8 : PD.Env → Mo Fl := (dSet 6 (fun ρ => bnd ((dCons (dVar 1) (dCons (dBin oAdd (dVar 2) (dC (.int 1))) (fun _ st => .ok [] st))) ρ) (callM 2 S__law_draw)))
noncomputable def d_law_9 : PD.Env → Mo Fl := (dRet (dC (.bl false)))
noncomputable def d_law_10 : PD.Env → Mo Fl := (dIfS (dOrT (fun ρ => bnd ((fun ρ => bnd ((dLc (fun ρ => bnd ((fun ρ => bnd ((dCons (dVar 5) (fun _ st => .ok [] st)) ρ) (callM 1 S__law_bad_stays)) ρ) srcM) (.nm 17) dYes (dBin (oIsB true) (fun ρ => bnd ((dCons (dBin oAdd (dBin oAdd (dSl (dVar 3) (fun _ st => .ok none st) (fun ρ => bnd ((dVar 6) ρ) intM) slT) (fun ρ => bnd ((dCons (dVar 17) (fun _ st => .ok [] st)) ρ) tupM)) (dSl (dVar 3) (fun ρ => bnd ((dBin oAdd (dVar 6) (dC (.int 1))) ρ) intM) (fun _ st => .ok none st) slT)) (fun _ st => .ok [] st)) ρ) (callM 1 S_is_stays)) (dC (.bl false))) [17]) ρ) anyQ) ρ) truM) (fun ρ => bnd ((fun ρ => bnd ((dLc (fun ρ => bnd ((fun ρ => bnd ((dCons (dC .non) (dCons (dC (.int 5)) (dCons (dC (.str "stays")) (dCons (dVar 5) (dCons (dC (.bl true)) (fun _ st => .ok [] st)))))) ρ) tupM) ρ) srcM) (.nm 17) dYes (dBin (oIsB true) (fun ρ => bnd ((dCons (dVar 17) (fun _ st => .ok [] st)) ρ) (callM 1 S_is_stays)) (dC (.bl false))) [17]) ρ) anyQ) ρ) truM)) d_law_9 dNil)
noncomputable def d_law_11 : PD.Env → Mo Fl := (dPar 17 18 (dCons (dBin oIx (dVar 3) (dVar 7)) (dCons (dBin oIx (dVar 3) (dVar 14)) (fun _ st => .ok [] st))))
noncomputable def d_law_12 : PD.Env → Mo Fl := (dRet (dC (.bl false)))
noncomputable def d_law_13 : PD.Env → Mo Fl := (dIfS (dNotT (fun ρ => bnd ((fun ρ => bnd ((dCons (fun ρ => bnd ((dCons (fun ρ => bnd ((dCons (dVar 17) (dCons (dVar 18) (fun _ st => .ok [] st))) ρ) (callM 2 S_meets)) (dCons (fun ρ => bnd ((dCons (dVar 17) (dCons (dVar 18) (fun _ st => .ok [] st))) ρ) (callM 2 S_is_within)) (dCons (fun ρ => bnd ((dCons (dVar 17) (dCons (dVar 18) (fun _ st => .ok [] st))) ρ) (callM 2 S_crosses)) (fun _ st => .ok [] st)))) ρ) tupM) (dCons (fun ρ => bnd ((dCons (fun ρ => bnd ((dCons (dVar 17) (dCons (dVar 18) (fun _ st => .ok [] st))) ρ) (callM 2 S__law_meets)) (dCons (fun ρ => bnd ((dCons (dVar 17) (dCons (dVar 18) (fun _ st => .ok [] st))) ρ) (callM 2 S__law_within)) (dCons (fun ρ => bnd ((dCons (dVar 17) (dCons (dVar 18) (fun _ st => .ok [] st))) ρ) (callM 2 S__law_crosses)) (fun _ st => .ok [] st)))) ρ) tupM) (fun _ st => .ok [] st))) ρ) (callM 2 S__law_same)) ρ) truM)) d_law_12 dNil)
noncomputable def d_law_14 : PD.Env → Mo Fl := (dFor (fun ρ => bnd ((dCons (dVar 2) (fun _ st => .ok [] st)) ρ) rg1M) (gNm 14) (dSeq d_law_11
    d_law_13))
noncomputable def d_law_15 : PD.Env → Mo Fl := (dFor (fun ρ => bnd ((dCons (dBin oMin (dVar 2) (dC (.int 9))) (fun _ st => .ok [] st)) ρ) rg1M) (gNm 7) d_law_14)
noncomputable def d_law_16 : PD.Env → Mo Fl := (dRet (dC (.bl false)))
noncomputable def d_law_17 : PD.Env → Mo Fl := (dIfS (dAndT (dB (dBin oGe (dVar 15) (dC (.int 0)))) (dNotT (fun ρ => bnd ((fun ρ => bnd ((dCons (fun ρ => bnd ((dCons (dVar 3) (dCons (dVar 15) (fun _ st => .ok [] st))) ρ) (callM 2 S_present)) (dCons (fun ρ => bnd ((dCons (dVar 3) (dCons (dVar 15) (fun _ st => .ok [] st))) ρ) (callM 2 S__law_present)) (fun _ st => .ok [] st))) ρ) (callM 2 S__law_same)) ρ) truM))) d_law_16 dNil)
noncomputable def d_law_18 : PD.Env → Mo Fl := (dFor (fun ρ => bnd ((fun ρ => bnd ((dCons (dBin oSub (dBin oIx (dBin oIx (dVar 3) (dVar 7)) (dC (.int 0))) (dC (.int 1))) (dCons (dBin oIx (dBin oIx (dVar 3) (dVar 7)) (dC (.int 0))) (dCons (dBin oSub (dBin oIx (dBin oIx (dVar 3) (dVar 7)) (dC (.int 1))) (dC (.int 1))) (dCons (dBin oIx (dBin oIx (dVar 3) (dVar 7)) (dC (.int 1))) (fun _ st => .ok [] st))))) ρ) tupM) ρ) srcM) (gNm 15) d_law_17)
noncomputable def d_law_19 : PD.Env → Mo Fl := (dFor (fun ρ => bnd ((dCons (dBin oMin (dVar 2) (dC (.int 9))) (fun _ st => .ok [] st)) ρ) rg1M) (gNm 7) d_law_18)
noncomputable def d_law_20 : PD.Env → Mo Fl := (dSet 8 (dBin oAdd (dC (.int 1)) (fun ρ => bnd ((dCons (dVar 1) (dCons (dC (.int 5)) (fun _ st => .ok [] st))) ρ) (callM 2 S__law_draw))))
noncomputable def d_law_21 : PD.Env → Mo Fl := (dSet 9 (fun ρ => bnd ((fun ρ => bnd ((dLc (fun ρ => bnd ((dCons (dC (.int 3)) (fun _ st => .ok [] st)) ρ) rg1M) (.nm 19) dYes (fun ρ => bnd ((dLc (fun ρ => bnd ((dCons (dVar 2) (fun _ st => .ok [] st)) ρ) rg1M) (.nm 7) dYes (fun ρ => bnd ((dCons (dVar 1) (dCons (dVar 8) (fun _ st => .ok [] st))) ρ) (callM 2 S__law_draw)) [7]) ρ) tupQ) [19]) ρ) fun l => bnd ((fun ρ => bnd ((dCons (fun ρ => bnd ((dVar 2) ρ) fun q => tupR [q]) (dCons (dBin oMulA (fun ρ => bnd ((dCons (dC (.int 0)) (fun _ st => .ok [] st)) ρ) tupM) (dVar 2)) (dCons (fun ρ => bnd ((dLc (fun ρ => bnd ((dCons (dVar 2) (fun _ st => .ok [] st)) ρ) rg1M) (.nm 7) dYes (dBin oAdd (dBin oPow (dC (.int 10)) (dC (.int 12))) (dBin oDiv (dVar 7) (dC (.int 2)))) [7]) ρ) tupQ) (fun _ st => .ok [] st)))) ρ) capM) ρ) fun m => capM (l ++ m)) ρ) layL))
noncomputable def d_law_22 : PD.Env → Mo Fl := (dRet (dC (.bl false)))
noncomputable def d_law_23 : PD.Env → Mo Fl := (dIfS (dOrT (dB (dBin (oIsB true) (fun ρ => bnd ((dCons (dVar 3) (dCons (dVar 10) (fun _ st => .ok [] st))) ρ) (callM 2 S_is_placing)) (dC (.bl true)))) (dNotT (fun ρ => bnd ((fun ρ => bnd ((dCons (dVar 3) (dCons (dVar 10) (fun _ st => .ok [] st))) ρ) (callM 2 S__law_words)) ρ) truM))) d_law_22 dNil)
noncomputable def d_law_24 : PD.Env → Mo Fl := (dFor (fun ρ => bnd ((dVar 9) ρ) srcM) (gNm 10) d_law_23)
noncomputable def d_law_25 : PD.Env → Mo Fl := (dSet 11 (fun ρ => bnd ((fun ρ => bnd ((dCons (dBin oAdd (dBin oIx (dVar 9) (dC (.int 0))) (fun ρ => bnd ((dCons (dC (.int 0)) (fun _ st => .ok [] st)) ρ) tupM)) (dCons (dC .non) (dCons (dBin oMulA (dC (.str "0")) (dVar 2)) (dCons (dIf (dB (dBin oGt (dVar 2) (dC (.int 0)))) (dSl (dBin oIx (dVar 9) (dC (.int 0))) (fun ρ => bnd ((dC (.int 1)) ρ) intM) (fun _ st => .ok none st) slT) (dC (.int 7))) (dCons (dBin oAdd (fun ρ => bnd ((dCons (dBin oIx (dVar 9) (dC (.int 0))) (fun _ st => .ok [] st)) ρ) tupM) (dSl (dBin oIx (dVar 9) (dC (.int 0))) (fun _ st => .ok none st) (fun ρ => bnd ((dC (.int 2)) ρ) intM) slT)) (fun _ st => .ok [] st)))))) ρ) capM) ρ) layL))
noncomputable def d_law_26 : PD.Env → Mo Fl := (dSet 11 (fun ρ => bnd ((fun ρ => bnd ((dVar 11) ρ) fun q => bnd ((dLc (fun ρ => bnd ((fun ρ => bnd ((dCons (dUn oNeg (dC (.int 1))) (dCons (dC .non) (dCons (dC (.bl true)) (dCons (dC (.str "0")) (dCons (fun ρ => bnd ((dCons (dC (.int 0)) (fun _ st => .ok [] st)) ρ) tupM) (fun _ st => .ok [] st)))))) ρ) tupM) ρ) srcM) (.nm 17) (dB (dBin oLt (dVar 6) (dVar 2))) (dBin oAdd (dBin oAdd (dSl (dBin oIx (dVar 9) (dC (.int 0))) (fun _ st => .ok none st) (fun ρ => bnd ((dVar 6) ρ) intM) slT) (fun ρ => bnd ((dCons (dVar 17) (fun _ st => .ok [] st)) ρ) tupM)) (dSl (dBin oIx (dVar 9) (dC (.int 0))) (fun ρ => bnd ((dBin oAdd (dVar 6) (dC (.int 1))) ρ) intM) (fun _ st => .ok none st) slT)) [17]) ρ) fun m => bnd (lstU q) fun l => capM (l ++ m)) ρ) layL))
noncomputable def d_law_27 : PD.Env → Mo Fl := (dRet (dC (.bl false)))
noncomputable def d_law_28 : PD.Env → Mo Fl := (dIfS (fun ρ => bnd ((fun ρ => bnd ((dLc (fun ρ => bnd ((dVar 11) ρ) srcM) (.nm 20) dYes (dBin (oIsB true) (fun ρ => bnd ((dCons (dVar 3) (dCons (dVar 20) (fun _ st => .ok [] st))) ρ) (callM 2 S_is_placing)) (dC (.bl false))) [20]) ρ) anyQ) ρ) truM) d_law_27 dNil)
noncomputable def d_law_29 : PD.Env → Mo Fl := (dSet 12 (fun ρ => bnd ((dCons (dVar 3) (fun _ st => .ok [] st)) ρ) (callM 1 S_on_shelves)))
noncomputable def d_law_30 : PD.Env → Mo Fl := (dRet (dC (.bl false)))
noncomputable def d_law_31 : PD.Env → Mo Fl := (dIfS (dOrT (dNotT (fun ρ => bnd ((dIsi .tup (dVar 12)) ρ) truM)) (dOrT (dB (dBin (oEq true) (fun ρ => bnd ((dVar 12) ρ) lenM) (dC (.int 2)))) (dOrT (dB (dBin (oIsB true) (fun ρ => bnd ((dCons (dVar 3) (dCons (dBin oIx (dVar 12) (dC (.int 0))) (fun _ st => .ok [] st))) ρ) (callM 2 S_is_placing)) (dC (.bl true)))) (dNotT (fun ρ => bnd ((fun ρ => bnd ((dCons (dVar 3) (dCons (dBin oIx (dVar 12) (dC (.int 0))) (dCons (dC (.fn J__law_meets)) (fun _ st => .ok [] st)))) ρ) (callM 3 S__law_good)) ρ) truM))))) d_law_30 dNil)
noncomputable def d_law_32 : PD.Env → Mo Fl := (dAsg (dVar 12) (gTp 2 (gCs (gNm 10) (gCs (gNm 15) gNl))))
noncomputable def d_law_33 : PD.Env → Mo Fl := (dRet (dC (.bl false)))
noncomputable def d_law_34 : PD.Env → Mo Fl := (dIfS (dOrT (dNotT (fun ρ => bnd ((dIsi .int (dVar 15)) ρ) truM)) (dOrT (fun ρ => bnd ((dIsi .bl (dVar 15)) ρ) truM) (dOrT (dB (dBin oLt (dVar 15) (dC (.int 0)))) (dOrT (dB (dBin oGt (dVar 15) (dC (.int 1000000)))) (dNotT (fun ρ => bnd ((fun ρ => bnd ((dLc (fun ρ => bnd ((dVar 10) ρ) srcM) (.nm 16) dYes (dAndV (dIsi .int (dVar 16)) (dAndV (dNotV (dIsi .bl (dVar 16))) (dBin oGe (dVar 16) (dC (.int 0))))) [16]) ρ) allQ) ρ) truM)))))) d_law_33 dNil)
noncomputable def d_law_35 : PD.Env → Mo Fl := (dSet 13 (fun ρ => bnd ((fun ρ => bnd ((dLc (fun ρ => bnd ((dVar 3) ρ) srcM) (.nm 21) dYes (fun ρ => bnd ((fun ρ => bnd ((dCons (dVar 3) (dCons (dBin oIx (dVar 21) (dC (.int 0))) (fun _ st => .ok [] st))) ρ) (callM 2 S__law_present)) ρ) lenM) [21]) ρ) fun l => bnd ((fun ρ => bnd ((dCons (dC (.int 0)) (fun _ st => .ok [] st)) ρ) capM) ρ) fun m => capM (l ++ m)) ρ) maxQ))
noncomputable def d_law_36 : PD.Env → Mo Fl := (dRet (dAndV (dBin (oEq false) (fun ρ => bnd ((dVar 10) ρ) lenM) (dVar 2)) (dAndV (dBin (oEq false) (fun ρ => bnd ((fun ρ => bnd ((dCons (dVar 3) (dCons (dVar 15) (fun _ st => .ok [] st))) ρ) (callM 2 S__law_present)) ρ) lenM) (dVar 13)) (dAndV (dBin oLt (fun ρ => bnd ((dBin oAdd (dVar 10) (fun ρ => bnd ((dCons (dUn oNeg (dC (.int 1))) (fun _ st => .ok [] st)) ρ) tupM)) ρ) maxS) (dVar 13)) (fun ρ => bnd ((dCons (dVar 3) (dCons (dVar 10) (fun _ st => .ok [] st))) ρ) (callM 2 S__law_words))))))
noncomputable def d_law : PD.Env → Mo Fl := (dSeq d_law_1
    (dSeq d_law_2
    (dSeq d_law_3
    (dSeq d_law_4
    (dSeq d_law_6
    (dSeq d_law_7
    (dSeq d_law_8
    (dSeq d_law_10
    (dSeq d_law_15
    (dSeq d_law_19
    (dSeq d_law_20
    (dSeq d_law_21
    (dSeq d_law_24
    (dSeq d_law_25
    (dSeq d_law_26
    (dSeq d_law_28
    (dSeq d_law_29
    (dSeq d_law_31
    (dSeq d_law_32
    (dSeq d_law_34
    (dSeq d_law_35
    d_law_36)))))))))))))))))))))
theorem sc_law : FnScope N_law ["script"] (defScope (top 36)) := C8.fnScope_by (by decide +kernel)
theorem body_law {P : Program} {w : World} {W : Wd} {base : Heap} (V : Ev W base) (h__law_box : DFn P w W base 3 (He.fAd W.K ("_law_box", none)) 1 S__law_box) (h__law_draw : DFn P w W base 4 (He.fAd W.K ("_law_draw", none)) 2 S__law_draw) (h__law_stays : DFn P w W base 5 (He.fAd W.K ("_law_stays", none)) 2 S__law_stays) (h__law_same : DFn P w W base 6 (He.fAd W.K ("_law_same", none)) 2 S__law_same) (h_is_stays : DFn P w W base 9 (He.fAd W.K ("is_stays", none)) 1 S_is_stays) (h__law_bad_stays : DFn P w W base 3 (He.fAd W.K ("_law_bad_stays", none)) 1 S__law_bad_stays) (h__law_crosses : DFn P w W base 3 (He.fAd W.K ("_law_crosses", none)) 2 S__law_crosses) (h__law_within : DFn P w W base 3 (He.fAd W.K ("_law_within", none)) 2 S__law_within) (h__law_meets : DFn P w W base 3 (He.fAd W.K ("_law_meets", none)) 2 S__law_meets) (h_crosses : DFn P w W base 4 (He.fAd W.K ("crosses", none)) 2 S_crosses) (h_is_within : DFn P w W base 3 (He.fAd W.K ("is_within", none)) 2 S_is_within) (h_meets : DFn P w W base 3 (He.fAd W.K ("meets", none)) 2 S_meets) (h__law_present : DFn P w W base 3 (He.fAd W.K ("_law_present", none)) 2 S__law_present) (h_present : DFn P w W base 4 (He.fAd W.K ("present", none)) 2 S_present) (h_is_placing : DFn P w W base 5 (He.fAd W.K ("is_placing", none)) 2 S_is_placing) (h__law_words : DFn P w W base 8 (He.fAd W.K ("_law_words", none)) 2 S__law_words) (h_on_shelves : DFn P w W base 7 (He.fAd W.K ("on_shelves", none)) 1 S_on_shelves) (h__law_good : DFn P w W base 4 (He.fAd W.K ("_law_good", none)) 3 S__law_good) : Body P w W base N_law "law" (defScope (top 36)) (He.fAd W.K ("law", none)) 9 (defBody (top 36)) d_law := fun cdv A outer s H E =>
  (dss_cons (ds_set (i := 1) (de_call (h__law_box.mono (by decide)) V.g__law_box (da_cons (de_var (i := 0)) da_nil)))
    (dss_cons (ds_set (i := 2) (de_if (dt_eq (de_call (h__law_draw.mono (by decide)) V.g__law_draw (da_cons (de_var (i := 1)) (da_cons de_int da_nil))) de_int) (de_add de_int (de_call (h__law_draw.mono (by decide)) V.g__law_draw (da_cons (de_var (i := 1)) (da_cons de_int da_nil)))) (de_call (h__law_draw.mono (by decide)) V.g__law_draw (da_cons (de_var (i := 1)) (da_cons de_int da_nil)))))
    (dss_cons (ds_set (i := 3) (de_call (h__law_stays.mono (by decide)) V.g__law_stays (da_cons (de_var (i := 1)) (da_cons (de_var (i := 2)) da_nil))))
    (dss_cons (ds_set (i := 4) (de_tuple (dq_l (dl_lc (own := [("k", 16)]) (di_range1 (da_cons de_int da_nil) rfl V.b_range) (blkOk_by (N := N_law) (sc := defScope (top 36)) (by decide +kernel)) (fun _ _ _ _ _ => (dp_name (i := 16))) (fun _ _ _ _ _ => dts_nil) (fun _ _ _ _ _ => (de_tup (da_cons (de_var (i := 16)) (da_cons (de_sub de_int (de_var (i := 16))) da_nil)))))) rfl V.b_tuple))
    (dss_cons (ds_if (dt_w (dw_or (dt_not (dt_e (de_call (h__law_same.mono (by decide)) V.g__law_same (da_cons (de_gint rfl V.i_MAX_STAYS) (da_cons de_int da_nil))))) (dw_or (dt_notB (de_call (h_is_stays.mono (by decide)) V.g_is_stays (da_cons (de_var (i := 3)) da_nil)) de_bl) (dw_or (dt_notB (de_call (h_is_stays.mono (by decide)) V.g_is_stays (da_cons (de_tup da_nil) da_nil)) de_bl) (dw_or (dt_notB (de_call (h_is_stays.mono (by decide)) V.g_is_stays (da_cons (de_slT (de_var (i := 4)) do_none (do_some de_int)) da_nil)) de_bl) (dw_or1 (dt_notB (de_call (h_is_stays.mono (by decide)) V.g_is_stays (da_cons (de_var (i := 4)) da_nil)) de_bl))))))) (dss_one (ds_ret de_bl)) dss_nil)
    (dss_cons (ds_set (i := 5) (de_if (dt_gt (de_var (i := 2)) de_int) (de_ix (de_var (i := 3)) (de_call (h__law_draw.mono (by decide)) V.g__law_draw (da_cons (de_var (i := 1)) (da_cons (de_var (i := 2)) da_nil)))) (de_tup (da_cons de_int (da_cons de_int da_nil)))))
    (dss_cons (ds_set (i := 6) (de_call (h__law_draw.mono (by decide)) V.g__law_draw (da_cons (de_var (i := 1)) (da_cons (de_add (de_var (i := 2)) de_int) da_nil))))
    (dss_cons (ds_if (dt_w (dw_or (dt_e (de_any (dl_lc (own := [("one", 17)]) (di_e (de_call (h__law_bad_stays.mono (by decide)) V.g__law_bad_stays (da_cons (de_var (i := 5)) da_nil))) (blkOk_by (N := N_law) (sc := defScope (top 36)) (by decide +kernel)) (fun _ _ _ _ _ => (dp_name (i := 17))) (fun _ _ _ _ _ => dts_nil) (fun _ _ _ _ _ => (de_notB (de_call (h_is_stays.mono (by decide)) V.g_is_stays (da_cons (de_add (de_add (de_slT (de_var (i := 3)) do_none (do_some (de_var (i := 6)))) (de_tup (da_cons (de_var (i := 17)) da_nil))) (de_slT (de_var (i := 3)) (do_some (de_add (de_var (i := 6)) de_int)) do_none)) da_nil)) de_bl))) rfl V.b_any)) (dw_or1 (dt_e (de_any (dl_lc (own := [("one", 17)]) (di_e (de_tup (da_cons de_non (da_cons de_int (da_cons de_str (da_cons (de_var (i := 5)) (da_cons de_bl da_nil))))))) (blkOk_by (N := N_law) (sc := defScope (top 36)) (by decide +kernel)) (fun _ _ _ _ _ => (dp_name (i := 17))) (fun _ _ _ _ _ => dts_nil) (fun _ _ _ _ _ => (de_notB (de_call (h_is_stays.mono (by decide)) V.g_is_stays (da_cons (de_var (i := 17)) da_nil)) de_bl))) rfl V.b_any))))) (dss_one (ds_ret de_bl)) dss_nil)
    (dss_cons (ds_for (di_range1 (da_cons (de_min2 (de_var (i := 2)) de_int rfl V.b_min) da_nil) rfl V.b_range) (dg_name (i := 7)) (dss_one (ds_for (di_range1 (da_cons (de_var (i := 2)) da_nil) rfl V.b_range) (dg_name (i := 14)) (dss_cons (ds_par2 (i := 17) (j := 18) (by decide) (da_cons (de_ix (de_var (i := 3)) (de_var (i := 7))) (da_cons (de_ix (de_var (i := 3)) (de_var (i := 14))) da_nil)))
    (dss_one (ds_if (dt_not (dt_e (de_call (h__law_same.mono (by decide)) V.g__law_same (da_cons (de_tup (da_cons (de_call (h_meets.mono (by decide)) V.g_meets (da_cons (de_var (i := 17)) (da_cons (de_var (i := 18)) da_nil))) (da_cons (de_call (h_is_within.mono (by decide)) V.g_is_within (da_cons (de_var (i := 17)) (da_cons (de_var (i := 18)) da_nil))) (da_cons (de_call (h_crosses.mono (by decide)) V.g_crosses (da_cons (de_var (i := 17)) (da_cons (de_var (i := 18)) da_nil))) da_nil)))) (da_cons (de_tup (da_cons (de_call (h__law_meets.mono (by decide)) V.g__law_meets (da_cons (de_var (i := 17)) (da_cons (de_var (i := 18)) da_nil))) (da_cons (de_call (h__law_within.mono (by decide)) V.g__law_within (da_cons (de_var (i := 17)) (da_cons (de_var (i := 18)) da_nil))) (da_cons (de_call (h__law_crosses.mono (by decide)) V.g__law_crosses (da_cons (de_var (i := 17)) (da_cons (de_var (i := 18)) da_nil))) da_nil)))) da_nil))))) (dss_one (ds_ret de_bl)) dss_nil))))))
    (dss_cons (ds_for (di_range1 (da_cons (de_min2 (de_var (i := 2)) de_int rfl V.b_min) da_nil) rfl V.b_range) (dg_name (i := 7)) (dss_one (ds_for (di_e (de_tup (da_cons (de_sub (de_ix (de_ix (de_var (i := 3)) (de_var (i := 7))) de_int) de_int) (da_cons (de_ix (de_ix (de_var (i := 3)) (de_var (i := 7))) de_int) (da_cons (de_sub (de_ix (de_ix (de_var (i := 3)) (de_var (i := 7))) de_int) de_int) (da_cons (de_ix (de_ix (de_var (i := 3)) (de_var (i := 7))) de_int) da_nil)))))) (dg_name (i := 15)) (dss_one (ds_if (dt_w (dw_and (dt_ge (de_var (i := 15)) de_int) (dw_and1 (dt_not (dt_e (de_call (h__law_same.mono (by decide)) V.g__law_same (da_cons (de_call (h_present.mono (by decide)) V.g_present (da_cons (de_var (i := 3)) (da_cons (de_var (i := 15)) da_nil))) (da_cons (de_call (h__law_present.mono (by decide)) V.g__law_present (da_cons (de_var (i := 3)) (da_cons (de_var (i := 15)) da_nil))) da_nil)))))))) (dss_one (ds_ret de_bl)) dss_nil)))))
    (dss_cons (ds_set (i := 8) (de_add de_int (de_call (h__law_draw.mono (by decide)) V.g__law_draw (da_cons (de_var (i := 1)) (da_cons de_int da_nil)))))
    (dss_cons (ds_set (i := 9) (de_l (dl_catL (dl_lc (own := [("turn", 19)]) (di_range1 (da_cons de_int da_nil) rfl V.b_range) (blkOk_by (N := N_law) (sc := defScope (top 36)) (by decide +kernel)) (fun _ _ _ _ _ => (dp_name (i := 19))) (fun _ _ _ _ _ => dts_nil) (fun _ _ _ _ _ => (de_tuple (dq_l (dl_lc (own := [("i", 7)]) (di_range1 (da_cons (de_var (i := 2)) da_nil) rfl V.b_range) (blkOk_by (by rfl)) (fun _ _ _ _ _ => (dp_name (i := 7))) (fun _ _ _ _ _ => dts_nil) (fun _ _ _ _ _ => (de_call (h__law_draw.mono (by decide)) V.g__law_draw (da_cons (de_var (i := 1)) (da_cons (de_var (i := 8)) da_nil)))))) rfl V.b_tuple))) (du_l (dl_lst (da_cons (de_tupR (de_var (i := 2)) rfl V.b_tuple V.b_range) (da_cons (de_mulA (de_tup (da_cons de_int da_nil)) (de_var (i := 2))) (da_cons (de_tuple (dq_l (dl_lc (own := [("i", 7)]) (di_range1 (da_cons (de_var (i := 2)) da_nil) rfl V.b_range) (blkOk_by (N := N_law) (sc := defScope (top 36)) (by decide +kernel)) (fun _ _ _ _ _ => (dp_name (i := 7))) (fun _ _ _ _ _ => dts_nil) (fun _ _ _ _ _ => (de_add (de_pow de_int de_int) (de_div (de_var (i := 7)) de_int))))) rfl V.b_tuple) da_nil))))))))
    (dss_cons (ds_for (di_e (de_var (i := 9))) (dg_name (i := 10)) (dss_one (ds_if (dt_w (dw_or (dt_notB (de_call (h_is_placing.mono (by decide)) V.g_is_placing (da_cons (de_var (i := 3)) (da_cons (de_var (i := 10)) da_nil))) de_bl) (dw_or1 (dt_not (dt_e (de_call (h__law_words.mono (by decide)) V.g__law_words (da_cons (de_var (i := 3)) (da_cons (de_var (i := 10)) da_nil)))))))) (dss_one (ds_ret de_bl)) dss_nil)))
    (dss_cons (ds_set (i := 11) (de_l (dl_lst (da_cons (de_add (de_ix (de_var (i := 9)) de_int) (de_tup (da_cons de_int da_nil))) (da_cons de_non (da_cons (de_mulA de_str (de_var (i := 2))) (da_cons (de_if (dt_gt (de_var (i := 2)) de_int) (de_slT (de_ix (de_var (i := 9)) de_int) (do_some de_int) do_none) de_int) (da_cons (de_add (de_tup (da_cons (de_ix (de_var (i := 9)) de_int) da_nil)) (de_slT (de_ix (de_var (i := 9)) de_int) do_none (do_some de_int))) da_nil))))))))
    (dss_cons (ds_set (i := 11) (de_l (dl_catE (de_var (i := 11)) (du_l (dl_lc (own := [("one", 17)]) (di_e (de_tup (da_cons (de_neg de_int) (da_cons de_non (da_cons de_bl (da_cons de_str (da_cons (de_tup (da_cons de_int da_nil)) da_nil))))))) (blkOk_by (N := N_law) (sc := defScope (top 36)) (by decide +kernel)) (fun _ _ _ _ _ => (dp_name (i := 17))) (fun _ _ _ _ _ => (dts_one (dt_lt (de_var (i := 6)) (de_var (i := 2))))) (fun _ _ _ _ _ => (de_add (de_add (de_slT (de_ix (de_var (i := 9)) de_int) do_none (do_some (de_var (i := 6)))) (de_tup (da_cons (de_var (i := 17)) da_nil))) (de_slT (de_ix (de_var (i := 9)) de_int) (do_some (de_add (de_var (i := 6)) de_int)) do_none))))))))
    (dss_cons (ds_if (dt_e (de_any (dl_lc (own := [("value", 20)]) (di_e (de_var (i := 11))) (blkOk_by (N := N_law) (sc := defScope (top 36)) (by decide +kernel)) (fun _ _ _ _ _ => (dp_name (i := 20))) (fun _ _ _ _ _ => dts_nil) (fun _ _ _ _ _ => (de_notB (de_call (h_is_placing.mono (by decide)) V.g_is_placing (da_cons (de_var (i := 3)) (da_cons (de_var (i := 20)) da_nil))) de_bl))) rfl V.b_any)) (dss_one (ds_ret de_bl)) dss_nil)
    (dss_cons (ds_set (i := 12) (de_call (h_on_shelves.mono (by decide)) V.g_on_shelves (da_cons (de_var (i := 3)) da_nil)))
    (dss_cons (ds_if (dt_w (dw_or (dt_not (dt_e (de_isi .tup (de_var (i := 12)) rfl V.b_isinstance rfl V.b_tuple boot_tuple_))) (dw_or (dt_ne (de_lenV (de_var (i := 12)) rfl V.b_len) de_int) (dw_or (dt_notB (de_call (h_is_placing.mono (by decide)) V.g_is_placing (da_cons (de_var (i := 3)) (da_cons (de_ix (de_var (i := 12)) de_int) da_nil))) de_bl) (dw_or1 (dt_not (dt_e (de_call (h__law_good.mono (by decide)) V.g__law_good (da_cons (de_var (i := 3)) (da_cons (de_ix (de_var (i := 12)) de_int) (da_cons (de_fn rfl V.g__law_meets V.a__law_meets) da_nil))))))))))) (dss_one (ds_ret de_bl)) dss_nil)
    (dss_cons (ds_asg (de_var (i := 12)) (dg_tup (dgs_cons (dg_name (i := 10)) (dgs_cons (dg_name (i := 15)) dgs_nil))))
    (dss_cons (ds_if (dt_w (dw_or (dt_not (dt_e (de_isi .int (de_var (i := 15)) rfl V.b_isinstance rfl V.b_int boot_int_))) (dw_or (dt_e (de_isi .bl (de_var (i := 15)) rfl V.b_isinstance rfl V.b_bool boot_bool_)) (dw_or (dt_lt (de_var (i := 15)) de_int) (dw_or (dt_gt (de_var (i := 15)) de_int) (dw_or1 (dt_not (dt_e (de_all (dl_lc (own := [("k", 16)]) (di_e (de_var (i := 10))) (blkOk_by (N := N_law) (sc := defScope (top 36)) (by decide +kernel)) (fun _ _ _ _ _ => (dp_name (i := 16))) (fun _ _ _ _ _ => dts_nil) (fun _ _ _ _ _ => (de_and (de_isi .int (de_var (i := 16)) rfl V.b_isinstance rfl V.b_int boot_int_) (de_and (de_not (de_isi .bl (de_var (i := 16)) rfl V.b_isinstance rfl V.b_bool boot_bool_)) (de_one (de_ge (de_var (i := 16)) de_int)))))) rfl V.b_all))))))))) (dss_one (ds_ret de_bl)) dss_nil)
    (dss_cons (ds_set (i := 13) (de_maxL (dl_catL (dl_lc (own := [("stay", 21)]) (di_e (de_var (i := 3))) (blkOk_by (N := N_law) (sc := defScope (top 36)) (by decide +kernel)) (fun _ _ _ _ _ => (dp_name (i := 21))) (fun _ _ _ _ _ => dts_nil) (fun _ _ _ _ _ => (de_lenV (de_call (h__law_present.mono (by decide)) V.g__law_present (da_cons (de_var (i := 3)) (da_cons (de_ix (de_var (i := 21)) de_int) da_nil))) rfl V.b_len))) (du_l (dl_lst (da_cons de_int da_nil)))) rfl V.b_max))
    (dss_one (ds_ret (de_and (de_eq (de_lenV (de_var (i := 10)) rfl V.b_len) (de_var (i := 2))) (de_and (de_eq (de_lenV (de_call (h__law_present.mono (by decide)) V.g__law_present (da_cons (de_var (i := 3)) (da_cons (de_var (i := 15)) da_nil))) rfl V.b_len) (de_var (i := 13))) (de_and (de_lt (de_maxS (de_add (de_var (i := 10)) (de_tup (da_cons (de_neg de_int) da_nil))) rfl V.b_max) (de_var (i := 13))) (de_one (de_call (h__law_words.mono (by decide)) V.g__law_words (da_cons (de_var (i := 3)) (da_cons (de_var (i := 10)) da_nil))))))))))))))))))))))))))))))
theorem raw_law {P : Program} {w : World} {W : Wd} {base : Heap} (V : Ev W base) (h__law_box : DFn P w W base 3 (He.fAd W.K ("_law_box", none)) 1 S__law_box) (h__law_draw : DFn P w W base 4 (He.fAd W.K ("_law_draw", none)) 2 S__law_draw) (h__law_stays : DFn P w W base 5 (He.fAd W.K ("_law_stays", none)) 2 S__law_stays) (h__law_same : DFn P w W base 6 (He.fAd W.K ("_law_same", none)) 2 S__law_same) (h_is_stays : DFn P w W base 9 (He.fAd W.K ("is_stays", none)) 1 S_is_stays) (h__law_bad_stays : DFn P w W base 3 (He.fAd W.K ("_law_bad_stays", none)) 1 S__law_bad_stays) (h__law_crosses : DFn P w W base 3 (He.fAd W.K ("_law_crosses", none)) 2 S__law_crosses) (h__law_within : DFn P w W base 3 (He.fAd W.K ("_law_within", none)) 2 S__law_within) (h__law_meets : DFn P w W base 3 (He.fAd W.K ("_law_meets", none)) 2 S__law_meets) (h_crosses : DFn P w W base 4 (He.fAd W.K ("crosses", none)) 2 S_crosses) (h_is_within : DFn P w W base 3 (He.fAd W.K ("is_within", none)) 2 S_is_within) (h_meets : DFn P w W base 3 (He.fAd W.K ("meets", none)) 2 S_meets) (h__law_present : DFn P w W base 3 (He.fAd W.K ("_law_present", none)) 2 S__law_present) (h_present : DFn P w W base 4 (He.fAd W.K ("present", none)) 2 S_present) (h_is_placing : DFn P w W base 5 (He.fAd W.K ("is_placing", none)) 2 S_is_placing) (h__law_words : DFn P w W base 8 (He.fAd W.K ("_law_words", none)) 2 S__law_words) (h_on_shelves : DFn P w W base 7 (He.fAd W.K ("on_shelves", none)) 1 S_on_shelves) (h__law_good : DFn P w W base 4 (He.fAd W.K ("_law_good", none)) 3 S__law_good) : DFn P w W base 10 (He.fAd W.K ("law", none)) 1 (bodyF 22 d_law) := by
  obtain ⟨fd, F⟩ := V.D_law
  exact DFn.of V.cx F sc_law (F.bindsN fun _ _ _ _ _ _ us hl => match us, hl with | [_], _ => rfl) (body_law V h__law_box h__law_draw h__law_stays h__law_same h_is_stays h__law_bad_stays h__law_crosses h__law_within h__law_meets h_crosses h_is_within h_meets h__law_present h_present h_is_placing h__law_words h_on_shelves h__law_good)
noncomputable def S_law : List PV → Mo PV := bodyF 22 d_law
theorem ref_law : Ref 1 (bodyF 22 d_law) S_law := ref_self
section
variable {b c : Nat} {st : Sto} {Q : Fl → Sto → Prop} {x0 x1 x2 x3 x4 x5 x6 x7 x8 x9 x10 x11 x12 x13 x14 x15 x16 x17 x18 x19 x20 x21 : Option PV}
/-- many of them -/
theorem law_many (h : BoxAt b c st) (k : ∀ (n : Nat) s, n ≤ 60 → Bx b c st s → Q (.nx [x0, some (.loc b), some (.int (n : Int)), x3, x4, x5, x6, x7, x8, x9, x10, x11, x12, x13, x14, x15, x16, x17, x18, x19, x20, x21]) s) :
    Ok (d_law_2 [x0, some (.loc b), x2, x3, x4, x5, x6, x7, x8, x9, x10, x11, x12, x13, x14, x15, x16, x17, x18, x19, x20, x21] st) Q := by
  simp [d_law_2]
  refine (law_draw_ok h (m := 6) (by omega) (by omega)).imp fun p s1 hh => ?_
  obtain ⟨d, rfl, d1, d2, c1, b1⟩ := hh
  simp [okd_int]
  split
  · refine (law_draw_ok b1 (m := 31) (by omega) (by omega)).imp fun p s2 hh => ?_
    obtain ⟨e, rfl, e1, e2, c2, b2⟩ := hh
    simp only [o_addI, ok_ok]
    have : 30 + e = ((30 + e).toNat : Int) := by omega
    rw [this]
    exact k _ _ (by omega) ⟨c1.trans c2, b2⟩
  · refine (law_draw_ok b1 (m := 9) (by omega) (by omega)).imp fun p s2 hh => ?_
    obtain ⟨e, rfl, e1, e2, c2, b2⟩ := hh
    have : e = (e.toNat : Int) := by omega
    rw [this]
    exact k _ _ (by omega) ⟨c1.trans c2, b2⟩
def greatL : List (Int × Int) := (List.range 61).map fun k : Nat => ((k : Int), 1000000 - (k : Int))
theorem law_great (k : Q (.nx [x0, x1, x2, x3, some (staysP greatL), x5, x6, x7, x8, x9, x10, x11, x12, x13, x14, x15, x16, x17, x18, x19, x20, x21]) st) :
    Ok (d_law_4 [x0, x1, x2, x3, x4, x5, x6, x7, x8, x9, x10, x11, x12, x13, x14, x15, x16, x17, x18, x19, x20, x21] st) Q := by
  have hr : RgOk 61 := ⟨by omega, by omega⟩
  simp [d_law_4]
  refine ⟨hr, ?_⟩
  rw [lc_map (fun q => stP ((natOf q : Int), 1000000 - (natOf q : Int))) (by exact True.intro) (rgP 0 61) (fun q hq => by
    obtain ⟨i, hi, rfl⟩ := mem_rgP hq
    refine ⟨[x0, x1, x2, x3, x4, x5, x6, x7, x8, x9, x10, x11, x12, x13, x14, x15, some (.int (i : Int)), x17, x18, x19, x20, x21], rfl, rfl, ?_⟩
    rw [natOf_int]
    refine Ok.eq ?_
    simp [stP]) (by unfold rgP; simp)]
  rw [ok_ok]
  have e : ((rgP 0 61).map fun q => stP ((natOf q : Int), 1000000 - (natOf q : Int))) = greatL.map stP := by
    unfold greatL
    rw [rgP_eq, List.map_map, List.map_map]
    rfl
  rw [e]
  exact k
theorem plainT_st (a : Int × Int) : plainT (stP a) := ⟨True.intro, fun l e => by
  cases e
  intro p hp
  simp at hp
  rcases hp with rfl | rfl <;> exact True.intro⟩
theorem plainS_st (L : List (Int × Int)) : plainS (staysP L) := ⟨True.intro, fun l e => by
  cases e
  intro p hp
  obtain ⟨a, _, rfl⟩ := List.mem_map.mp hp
  exact plainT_st a⟩
theorem isStay_st {a : Int × Int} (h : okSt 0 1000000 a) : isStay (stP a) = true := by
  obtain ⟨h1, h2, h3⟩ := h
  simp [isStay, stP]
  omega
theorem isStays_st {L : List (Int × Int)} {n : Int} (h : OkL 0 1000000 L) : isStays (staysP L) n = decide ((L.length : Int) ≤ n) := by
  unfold isStays staysP
  have e : (L.map stP).all isStay = true := by
    rw [List.all_eq_true]
    intro p hp
    obtain ⟨a, ha, rfl⟩ := List.mem_map.mp hp
    exact isStay_st (h a ha)
  simp only [e, List.length_map, Bool.and_true]
theorem is_stays_st {L : List (Int × Int)} {st : Sto} (h : OkL 0 1000000 L) : S_is_stays [staysP L] st = .ok (.bl (decide ((L.length : Int) ≤ 60))) st := by
  rw [is_stays_ok (plainS_st L), isStays_st h]
theorem greatOk : OkL 0 1000000 greatL := fun a ha => by
  obtain ⟨i, hi, rfl⟩ := List.mem_map.mp ha
  have := List.mem_range.mp hi
  exact ⟨by dsimp only; omega, by dsimp only; omega, by dsimp only; omega⟩
theorem law_first {L : List (Int × Int)} (hL : OkL 0 1000000 L) (hl : L.length ≤ 60) (k : Q (.nx [x0, x1, x2, some (staysP L), some (staysP greatL), x5, x6, x7, x8, x9, x10, x11, x12, x13, x14, x15, x16, x17, x18, x19, x20, x21]) st) :
    Ok (d_law_6 [x0, x1, x2, some (staysP L), some (staysP greatL), x5, x6, x7, x8, x9, x10, x11, x12, x13, x14, x15, x16, x17, x18, x19, x20, x21] st) Q := by
  have e0 : S__law_same [.int 60, .int 60] st = .ok (.bl true) st := law_same_ok1 rfl
  have e1 := is_stays_st (st := st) hL
  have e2 : S_is_stays [.tup []] st = .ok (.bl true) st := is_stays_st (L := []) (fun _ h => nomatch h)
  have e3 := is_stays_st (st := st) greatOk
  have e4 : cutP (greatL.map stP) none (some 60) = (greatL.take 60).map stP := by
    unfold cutP
    rw [show (60 : Int) = ((60 : Nat) : Int) from rfl, HT.sIx_nat, HT.sIx_none, List.length_map, List.drop_zero, Nat.sub_zero, List.map_take]
    rfl
  have e5 : S_is_stays [.tup ((greatL.take 60).map stP)] st = .ok (.bl true) st := is_stays_st (L := greatL.take 60) (fun a h => greatOk a (List.mem_of_mem_take h))
  have e6 : (L.length : Int) ≤ 60 := by omega
  have e7 : ¬ (greatL.length : Int) ≤ 60 := by unfold greatL; simp
  rw [decide_eq_true e6] at e1
  rw [decide_eq_false e7] at e3
  rw [List.map_take] at e4 e5
  unfold staysP at e1 e3 k ⊢
  simp [d_law_6, e0, e1, e2, e3, e4, e5]
  exact k
theorem law_pick {L : List (Int × Int)} (h : BoxAt b c st) (hL : OkL 0 1000000 L) (hl : L.length ≤ 60) (k : ∀ a s, okSt 0 1000000 a → Bx b c st s → Q (.nx [x0, some (.loc b), some (.int (L.length : Int)), some (staysP L), x4, some (stP a), x6, x7, x8, x9, x10, x11, x12, x13, x14, x15, x16, x17, x18, x19, x20, x21]) s) :
    Ok (d_law_7 [x0, some (.loc b), some (.int (L.length : Int)), some (staysP L), x4, x5, x6, x7, x8, x9, x10, x11, x12, x13, x14, x15, x16, x17, x18, x19, x20, x21] st) Q := by
  simp [d_law_7]
  split
  · rename_i hp
    refine (law_draw_ok h (m := (L.length : Int)) (by omega) (by omega)).imp fun p s1 hh => ?_
    obtain ⟨e, rfl, e1, e2, c1, b1⟩ := hh
    obtain ⟨j, rfl, hj⟩ : ∃ j : Nat, e = (j : Int) ∧ j < L.length := ⟨e.toNat, by omega, by omega⟩
    have ej := stay_at hj
    simp [ej]
    exact k _ _ (by
      rw [List.getElem?_eq_getElem hj]
      exact hL _ (List.getElem_mem hj)) ⟨c1, b1⟩
  · exact k (3, 5) st ⟨by decide, by decide, by decide⟩ ⟨Ch.refl, h⟩
theorem law_at {n : Nat} (h : BoxAt b c st) (hn : n ≤ 60) (k : ∀ (t : Nat) s, t ≤ n → Bx b c st s → Q (.nx [x0, some (.loc b), some (.int (n : Int)), x3, x4, x5, some (.int (t : Int)), x7, x8, x9, x10, x11, x12, x13, x14, x15, x16, x17, x18, x19, x20, x21]) s) :
    Ok (d_law_8 [x0, some (.loc b), some (.int (n : Int)), x3, x4, x5, x6, x7, x8, x9, x10, x11, x12, x13, x14, x15, x16, x17, x18, x19, x20, x21] st) Q := by
  simp [d_law_8]
  refine (law_draw_ok h (m := (n : Int) + 1) (by omega) (by omega)).imp fun p s1 hh => ?_
  obtain ⟨e, rfl, e1, e2, c1, b1⟩ := hh
  obtain ⟨j, rfl, hj⟩ : ∃ j : Nat, e = (j : Int) ∧ j ≤ n := ⟨e.toNat, by omega, by omega⟩
  exact k _ _ hj ⟨c1, b1⟩
theorem mem_cutP {l : List PV} {lo hi : Option Int} {p : PV} (h : p ∈ cutP l lo hi) : p ∈ l := by
  unfold cutP at h
  exact List.mem_of_mem_drop (List.mem_of_mem_take h)
theorem swap_bad {L : List (Int × Int)} {q : PV} {m : List PV} (hp : plainT q) (hq : isStay q = false) (hm : ∀ p ∈ m, p = q ∨ p ∈ L.map stP) (hqm : q ∈ m) : S_is_stays [.tup m] st = .ok (.bl false) st := by
  have h1 : plainS (.tup m) := ⟨True.intro, fun l e => by
    cases e
    intro p h
    rcases hm p h with rfl | h
    · exact hp
    · obtain ⟨a, _, rfl⟩ := List.mem_map.mp h
      exact plainT_st a⟩
  rw [is_stays_ok h1]
  have h2 : m.all isStay = false := by
    rw [List.all_eq_false]
    exact ⟨q, hqm, by rw [hq]; simp⟩
  unfold isStays
  simp only [h2, Bool.and_false]
theorem law_bads {L : List (Int × Int)} {a : Int × Int} {t : Nat} (h : BoxAt b c st) (ha : okSt 0 1000000 a) (hl : L.length ≤ 60) (k : ∀ s, Bx b c st s → Q (.nx [x0, x1, x2, some (staysP L), x4, some (stP a), some (.int (t : Int)), x7, x8, x9, x10, x11, x12, x13, x14, x15, x16, x17, x18, x19, x20, x21]) s) :
    Ok (d_law_10 [x0, x1, x2, some (staysP L), x4, some (stP a), some (.int (t : Int)), x7, x8, x9, x10, x11, x12, x13, x14, x15, x16, x17, x18, x19, x20, x21] st) Q := by
  simp [d_law_10]
  refine (law_bad_ok ha.1 ha.2.1 ha.2.2).imp fun p s hh => ?_
  obtain ⟨n, l, ex, rfl, rfl, hn, hll, hb⟩ := hh
  simp [hn]
  rw [lc_map (fun _ => .bl false) (.inl hn) l (fun q hq => by
    refine ⟨[x0, x1, x2, some (staysP L), x4, some (stP a), some (.int (t : Int)), x7, x8, x9, x10, x11, x12, x13, x14, x15, x16, some q, x18, x19, x20, x21], rfl, rfl, ?_⟩
    refine Ok.eq ?_
    have z1 := cutP_len (L.map stP) none (some (t : Int))
    have z2 := cutP_len (L.map stP) (some ((t : Int) + 1)) none
    rw [List.length_map] at z1 z2
    have e := swap_bad (st := st ++ ex) (L := L) (m := cutP (L.map stP) none (some (t : Int)) ++ q :: cutP (L.map stP) (some ((t : Int) + 1)) none) (hb q hq).1 (hb q hq).2 (fun p hp => by
      rw [List.mem_append, List.mem_cons] at hp
      rcases hp with hp | hp | hp
      · exact .inr (mem_cutP hp)
      · exact .inl hp
      · exact .inr (mem_cutP hp)) (by simp)
    simp [staysP, e]
    omega) (by omega)]
  have af : ∀ l : List PV, (l.any fun _ => false) = false := fun l => by simp
  rw [ok_ok, anyQ_map (fun _ => false), af, ok_ok, m_truB, ok_ok, if_neg (by simp)]
  rw [lc_map (fun _ => .bl false) (by exact True.intro) _ (fun q hq => by
    refine ⟨[x0, x1, x2, some (staysP L), x4, some (stP a), some (.int (t : Int)), x7, x8, x9, x10, x11, x12, x13, x14, x15, x16, some q, x18, x19, x20, x21], rfl, rfl, ?_⟩
    refine Ok.eq ?_
    have e : S_is_stays [q] (st ++ ex) = .ok (.bl false) (st ++ ex) := by
      simp at hq
      rcases hq with rfl | rfl | rfl | rfl | rfl
      · exact is_stays_ok ⟨True.intro, fun l e => nomatch e⟩
      · exact is_stays_ok ⟨True.intro, fun l e => nomatch e⟩
      · exact is_stays_ok ⟨True.intro, fun l e => nomatch e⟩
      · exact is_stays_ok (v := stP a) ⟨True.intro, fun l e => by
          cases e
          intro p hp
          simp at hp
          rcases hp with rfl | rfl <;> exact ⟨True.intro, fun l e => nomatch e⟩⟩
      · exact is_stays_ok ⟨True.intro, fun l e => nomatch e⟩
    simp [e]) (by simp)]
  rw [ok_ok, anyQ_map (fun _ => false), af, ok_ok, m_truB, ok_ok, if_neg (by simp)]
  exact k _ ⟨Ch.app, h.app⟩
theorem law_cell {L : List (Int × Int)} {i j : Nat} (hL : OkL 0 1000000 L) (hi : i < L.length) (hj : j < L.length) (k : ∀ y17 y18, Q (.nx [x0, x1, some (.int (L.length : Int)), some (staysP L), x4, x5, x6, some (.int (i : Int)), x8, x9, x10, x11, x12, x13, some (.int (j : Int)), x15, x16, y17, y18, x19, x20, x21]) st) :
    Ok (dSeq d_law_11 d_law_13 [x0, x1, some (.int (L.length : Int)), some (staysP L), x4, x5, x6, some (.int (i : Int)), x8, x9, x10, x11, x12, x13, some (.int (j : Int)), x15, x16, x17, x18, x19, x20, x21] st) Q := by
  have e1 := stay_at hi
  have e2 := stay_at hj
  have v1 : (gS L i).1 < (gS L i).2 := by
    unfold gS
    rw [List.getElem?_eq_getElem hi]
    exact (hL _ (List.getElem_mem hi)).2.1
  have v2 : (gS L j).1 < (gS L j).2 := by
    unfold gS
    rw [List.getElem?_eq_getElem hj]
    exact (hL _ (List.getElem_mem hj)).2.1
  have m1 := _law_meets_ok (st := st) v1 v2
  have m2 := _law_within_ok (st := st) v1 v2
  have m3 := _law_crosses_ok (st := st) v1 v2
  have e : ∀ x y z : Bool, S__law_same [.tup [.bl x, .bl y, .bl z], .tup [.bl x, .bl y, .bl z]] st = .ok (.bl true) st := fun x y z => law_same_ok2 (by simp) (by simp [sca])
  simp [d_law_11, d_law_13, e1, e2, m1, m2, m3, e]
  exact k _ _
theorem law_pairs {L : List (Int × Int)} (hL : OkL 0 1000000 L) (hl : L.length ≤ 60) (k : ∀ y7 y14 y17 y18, Q (.nx [x0, x1, some (.int (L.length : Int)), some (staysP L), x4, x5, x6, y7, x8, x9, x10, x11, x12, x13, y14, x15, x16, y17, y18, x19, x20, x21]) st) :
    Ok (d_law_15 [x0, x1, some (.int (L.length : Int)), some (staysP L), x4, x5, x6, x7, x8, x9, x10, x11, x12, x13, x14, x15, x16, x17, x18, x19, x20, x21] st) Q := by
  have hr : RgOk ((L.length : Nat) : Int) := ⟨by omega, by omega⟩
  have inner : ∀ {Q : Fl → Sto → Prop} (i : Nat) (y14 y17 y18 : Option PV), i < L.length → (∀ y14 y17 y18, Q (.nx [x0, x1, some (.int (L.length : Int)), some (staysP L), x4, x5, x6, some (.int (i : Int)), x8, x9, x10, x11, x12, x13, y14, x15, x16, y17, y18, x19, x20, x21]) st) → Ok (d_law_14 [x0, x1, some (.int (L.length : Int)), some (staysP L), x4, x5, x6, some (.int (i : Int)), x8, x9, x10, x11, x12, x13, y14, x15, x16, y17, y18, x19, x20, x21] st) Q := by
    intro Q i y14 y17 y18 hi k
    simp only [d_law_14, e_for, ok_bnd]
    simp
    refine ⟨hr, ?_⟩
    refine ok_for (fun l ρ s => (∀ q ∈ l, q ∈ rgP 0 L.length) ∧ s = st ∧ ∃ y14 y17 y18, ρ = [x0, x1, some (.int (L.length : Int)), some (staysP L), x4, x5, x6, some (.int (i : Int)), x8, x9, x10, x11, x12, x13, y14, x15, x16, y17, y18, x19, x20, x21]) (fun _ _ _ _ => True.intro) ?_ ?_ _ _ _ ⟨fun _ h => h, rfl, _, _, _, rfl⟩
    · intro ρ s hP
      obtain ⟨_, rfl, y14, y17, y18, rfl⟩ := hP
      exact k _ _ _
    · intro q l ρ s hP
      obtain ⟨hm, rfl, y14, y17, y18, rfl⟩ := hP
      obtain ⟨j, hj, rfl⟩ := mem_rgP (hm q (List.mem_cons_self ..))
      rw [e_gNm, ok_ok]
      exact law_cell hL hi hj fun y17 y18 => ⟨fun q h => hm q (List.mem_cons_of_mem _ h), rfl, _, y17, y18, rfl⟩
  simp only [d_law_15, e_for, ok_bnd]
  simp [oMin]
  obtain ⟨m, em, hm⟩ : ∃ m : Nat, (if 9 < (L.length : Int) then 9 else (L.length : Int)) = (m : Int) ∧ m ≤ L.length := by
    split
    · exact ⟨9, rfl, by omega⟩
    · exact ⟨_, rfl, Nat.le_refl _⟩
  rw [em]
  refine ⟨⟨by omega, by omega⟩, ?_⟩
  rw [Int.toNat_natCast]
  refine ok_for (fun l ρ s => (∀ q ∈ l, q ∈ rgP 0 m) ∧ s = st ∧ ∃ y7 y14 y17 y18, ρ = [x0, x1, some (.int (L.length : Int)), some (staysP L), x4, x5, x6, y7, x8, x9, x10, x11, x12, x13, y14, x15, x16, y17, y18, x19, x20, x21]) (fun _ _ _ _ => True.intro) ?_ ?_ _ _ _ ⟨fun _ h => h, rfl, _, _, _, _, rfl⟩
  · intro ρ s hP
    obtain ⟨_, rfl, y7, y14, y17, y18, rfl⟩ := hP
    exact k _ _ _ _
  · intro q l ρ s hP
    obtain ⟨hm2, rfl, y7, y14, y17, y18, rfl⟩ := hP
    obtain ⟨j, hj, rfl⟩ := mem_rgP (hm2 q (List.mem_cons_self ..))
    rw [e_gNm, ok_ok]
    exact inner j _ _ _ (by omega) fun y14 y17 y18 => ⟨fun q h => hm2 q (List.mem_cons_of_mem _ h), rfl, _, _, _, _, rfl⟩
theorem law_moment {L : List (Int × Int)} {m : Int} (hl : L.length ≤ 60) (k : Q (.nx [x0, x1, x2, some (staysP L), x4, x5, x6, x7, x8, x9, x10, x11, x12, x13, x14, some (.int m), x16, x17, x18, x19, x20, x21]) st) :
    Ok (d_law_17 [x0, x1, x2, some (staysP L), x4, x5, x6, x7, x8, x9, x10, x11, x12, x13, x14, some (.int m), x16, x17, x18, x19, x20, x21] st) Q := by
  have e1 := present_ok (L := L) (m := m) (st := st) (by omega)
  have e2 := _law_present_ok (L := L) (m := m) (st := st) (by omega)
  have e3 : S__law_same [intsP (presI L m), intsP (presI L m)] st = .ok (.bl true) st := law_same_ok2 (by
    rw [List.length_map]
    have := List.length_filter_le (fun i => hasM (L[i]?.getD (0, 0)) m) (List.range L.length)
    rw [List.length_range] at this
    unfold presI
    omega) (fun q hq => by
    obtain ⟨i, _, rfl⟩ := List.mem_map.mp hq
    rfl)
  simp [d_law_17, e1, e2, e3]
  exact k
theorem law_moments {L : List (Int × Int)} (hl : L.length ≤ 60) (k : ∀ y7 y15, Q (.nx [x0, x1, some (.int (L.length : Int)), some (staysP L), x4, x5, x6, y7, x8, x9, x10, x11, x12, x13, x14, y15, x16, x17, x18, x19, x20, x21]) st) :
    Ok (d_law_19 [x0, x1, some (.int (L.length : Int)), some (staysP L), x4, x5, x6, x7, x8, x9, x10, x11, x12, x13, x14, x15, x16, x17, x18, x19, x20, x21] st) Q := by
  have inner : ∀ {Q : Fl → Sto → Prop} (i : Nat) (y15 : Option PV), i < L.length → (∀ y15, Q (.nx [x0, x1, some (.int (L.length : Int)), some (staysP L), x4, x5, x6, some (.int (i : Int)), x8, x9, x10, x11, x12, x13, x14, y15, x16, x17, x18, x19, x20, x21]) st) → Ok (d_law_18 [x0, x1, some (.int (L.length : Int)), some (staysP L), x4, x5, x6, some (.int (i : Int)), x8, x9, x10, x11, x12, x13, x14, y15, x16, x17, x18, x19, x20, x21] st) Q := by
    intro Q i y15 hi k
    have e1 := stay_at hi
    revert e1
    generalize L[i]?.getD (0, 0) = a
    intro e1
    obtain ⟨a0, a1⟩ := a
    simp only [d_law_18, e_for, ok_bnd]
    simp [e1, stP]
    refine ok_for (fun l ρ s => (∀ q ∈ l, ∃ m : Int, q = .int m) ∧ s = st ∧ ∃ y15, ρ = [x0, x1, some (.int (L.length : Int)), some (staysP L), x4, x5, x6, some (.int (i : Int)), x8, x9, x10, x11, x12, x13, x14, y15, x16, x17, x18, x19, x20, x21]) (fun _ _ _ _ => True.intro) ?_ ?_ _ _ _ ⟨?_, rfl, _, rfl⟩
    · intro ρ s hP
      obtain ⟨_, rfl, y15, rfl⟩ := hP
      exact k _
    · intro q l ρ s hP
      obtain ⟨hm, rfl, y15, rfl⟩ := hP
      obtain ⟨m, rfl⟩ := hm q (List.mem_cons_self ..)
      rw [e_gNm, ok_ok]
      exact law_moment hl ⟨fun q h => hm q (List.mem_cons_of_mem _ h), rfl, _, rfl⟩
    · intro q hq
      simp at hq
      rcases hq with rfl | rfl | rfl | rfl <;> exact ⟨_, rfl⟩
  simp only [d_law_19, e_for, ok_bnd]
  simp [oMin]
  obtain ⟨m, em, hm⟩ : ∃ m : Nat, (if 9 < (L.length : Int) then 9 else (L.length : Int)) = (m : Int) ∧ m ≤ L.length := by
    split
    · exact ⟨9, rfl, by omega⟩
    · exact ⟨_, rfl, Nat.le_refl _⟩
  rw [em]
  refine ⟨⟨by omega, by omega⟩, ?_⟩
  rw [Int.toNat_natCast]
  refine ok_for (fun l ρ s => (∀ q ∈ l, q ∈ rgP 0 m) ∧ s = st ∧ ∃ y7 y15, ρ = [x0, x1, some (.int (L.length : Int)), some (staysP L), x4, x5, x6, y7, x8, x9, x10, x11, x12, x13, x14, y15, x16, x17, x18, x19, x20, x21]) (fun _ _ _ _ => True.intro) ?_ ?_ _ _ _ ⟨fun _ h => h, rfl, _, _, rfl⟩
  · intro ρ s hP
    obtain ⟨_, rfl, y7, y15, rfl⟩ := hP
    exact k _ _
  · intro q l ρ s hP
    obtain ⟨hm2, rfl, y7, y15, rfl⟩ := hP
    obtain ⟨j, hj, rfl⟩ := mem_rgP (hm2 q (List.mem_cons_self ..))
    rw [e_gNm, ok_ok]
    exact inner j _ (by omega) fun y15 => ⟨fun q h => hm2 q (List.mem_cons_of_mem _ h), rfl, _, _, rfl⟩
theorem law_menu (h : BoxAt b c st) (k : ∀ (mn : Int) s, 0 < mn → mn < 10 → Bx b c st s → Q (.nx [x0, some (.loc b), x2, x3, x4, x5, x6, x7, some (.int mn), x9, x10, x11, x12, x13, x14, x15, x16, x17, x18, x19, x20, x21]) s) :
    Ok (d_law_20 [x0, some (.loc b), x2, x3, x4, x5, x6, x7, x8, x9, x10, x11, x12, x13, x14, x15, x16, x17, x18, x19, x20, x21] st) Q := by
  simp [d_law_20]
  refine (law_draw_ok h (m := 5) (by omega) (by omega)).imp fun p s1 hh => ?_
  obtain ⟨e, rfl, e1, e2, c1, b1⟩ := hh
  rw [o_addI, ok_ok]
  exact k (1 + e) _ (by omega) (by omega) ⟨c1, b1⟩
def okP (n : Nat) (pl : List Int) : Prop := pl.length = n ∧ ∀ x ∈ pl, 0 ≤ x
theorem draw_row {n : Nat} {mn : Int} {Q : List PV → Sto → Prop} (h : BoxAt b c st) (hn : n ≤ 60) (h1 : 0 < mn) (h2 : mn < 10) (k : ∀ pl s, okP n pl → Bx b c st s → Q (pl.map PV.int) s) :
    Ok (dLc (fun ρ => bnd ((dCons (dVar 2) (fun _ st => .ok [] st)) ρ) rg1M) (.nm 7) dYes (fun ρ => bnd ((dCons (dVar 1) (dCons (dVar 8) (fun _ st => .ok [] st))) ρ) (callM 2 S__law_draw)) [7] [x0, some (.loc b), some (.int (n : Int)), x3, x4, x5, x6, x7, some (.int mn), x9, x10, x11, x12, x13, x14, x15, x16, x17, x18, x19, x20, x21] st) Q := by
  have hr : RgOk ((n : Nat) : Int) := ⟨by omega, by omega⟩
  simp
  refine ⟨hr, ?_⟩
  refine ok_lc (fun l acc s => Bx b c st s ∧ ∃ pl : List Int, acc = pl.map PV.int ∧ (∀ x ∈ pl, 0 ≤ x) ∧ pl.length + l.length = n) (fun _ _ _ _ => True.intro) ?_ ?_ _ _ _ ⟨⟨Ch.refl, h⟩, [], rfl, (fun _ h => nomatch h), by unfold rgP; simp⟩
  · intro acc s hP
    obtain ⟨hb, pl, rfl, hp, hl⟩ := hP
    exact k pl s ⟨by simpa using hl, hp⟩ hb
  · intro q l acc s hP
    obtain ⟨hb, pl, rfl, hp, hl⟩ := hP
    refine ⟨_, rfl, ?_⟩
    simp [wipeE]
    refine (law_draw_ok hb.2 h1 (by omega)).imp fun p s2 hh => ?_
    obtain ⟨d, rfl, d1, d2, c1, b1⟩ := hh
    refine ⟨by simp at hl ⊢; omega, ⟨hb.1.trans c1, b1⟩, pl ++ [d], by simp, ?_, by simp at hl ⊢; omega⟩
    intro x hx
    rw [List.mem_append, List.mem_singleton] at hx
    rcases hx with hx | rfl
    · exact hp x hx
    · exact d1
def tupsP (D : List (List Int)) : List PV := D.map fun pl => PV.tup (pl.map PV.int)
theorem law_drawn {n : Nat} {mn : Int} (h : BoxAt b c st) (hn : n ≤ 60) (h1 : 0 < mn) (h2 : mn < 10)
    (k : ∀ (P : List Int) (D : List (List Int)) d s, Bx b c st s → s[d]? = some (.lst false (tupsP (P :: D))) → (∀ pl ∈ P :: D, okP n pl) → D.length ≤ 10 → Q (.nx [x0, some (.loc b), some (.int (n : Int)), x3, x4, x5, x6, x7, some (.int mn), some (.loc d), x10, x11, x12, x13, x14, x15, x16, x17, x18, x19, x20, x21]) s) :
    Ok (d_law_21 [x0, some (.loc b), some (.int (n : Int)), x3, x4, x5, x6, x7, some (.int mn), x9, x10, x11, x12, x13, x14, x15, x16, x17, x18, x19, x20, x21] st) Q := by
  have hr : RgOk ((n : Nat) : Int) := ⟨by omega, by omega⟩
  have hr3 : RgOk 3 := ⟨by omega, by omega⟩
  simp only [d_law_21, e_set, ok_bnd]
  rw [e_lc]
  simp [-e_lc]
  refine ⟨hr3, ?_⟩
  refine ok_lc (fun l acc s => Bx b c st s ∧ ∃ D : List (List Int), acc = tupsP D ∧ (∀ pl ∈ D, okP n pl) ∧ D.length + l.length = 3) (fun _ _ _ _ => True.intro) ?_ ?_ _ _ _ ⟨⟨Ch.refl, h⟩, [], rfl, (fun _ h => nomatch h), by unfold rgP; simp⟩
  · intro acc s hP
    obtain ⟨hb, D, rfl, hD, hl⟩ := hP
    simp [oMulA, tupR]
    refine ⟨by omega, by omega, hr, ?_⟩
    rw [lc_map (fun q => PV.int (1000000000000 + unI q / 2)) (by exact True.intro) (rgP 0 n) (fun q hq => by
      obtain ⟨i, hi, rfl⟩ := mem_rgP hq
      refine ⟨_, rfl, rfl, ?_⟩
      refine Ok.eq ?_
      simp [wipeE, unI]
      exact ⟨⟨by omega, by omega, by decide⟩, by omega, by omega⟩) (by unfold rgP; simp; omega), ok_ok]
    have e1 : rgP 0 n = ((List.range n).map fun i : Nat => (i : Int)).map PV.int := by
      rw [rgP_eq, List.map_map]
      rfl
    have e2 : List.replicate n (PV.int 0) = (List.replicate n (0 : Int)).map PV.int := by simp
    have e3 : (rgP 0 n).map (fun q => PV.int (1000000000000 + unI q / 2)) = ((List.range n).map fun i : Nat => 1000000000000 + (i : Int) / 2).map PV.int := by
      rw [rgP_eq, List.map_map, List.map_map]
      rfl
    have hl : D.length = 3 := by simpa using hl
    match D, hl, hD with
    | P :: D', hl, hD =>
      rw [e3, e1, e2]
      refine ⟨by unfold tupsP; simp at hl ⊢; omega, ?_⟩
      refine k P (D' ++ [(List.range n).map fun i : Nat => (i : Int), List.replicate n (0 : Int), (List.range n).map fun i : Nat => 1000000000000 + (i : Int) / 2]) s.length _ ⟨hb.1.trans Ch.app, hb.2.app⟩ (by simp [tupsP]) ?_ (by simp at hl ⊢; omega)
      intro pl hpl
      rw [← List.cons_append, List.mem_append] at hpl
      rcases hpl with hpl | hpl
      · exact hD pl hpl
      · simp at hpl
        rcases hpl with rfl | rfl | rfl
        · refine ⟨by simp, fun x hx => ?_⟩
          obtain ⟨i, _, rfl⟩ := List.mem_map.mp hx
          omega
        · refine ⟨by simp, fun x hx => ?_⟩
          have := (List.mem_replicate.mp hx).2
          omega
        · refine ⟨by simp, fun x hx => ?_⟩
          obtain ⟨i, _, rfl⟩ := List.mem_map.mp hx
          omega
  · intro q l acc s hP
    obtain ⟨hb, D, rfl, hD, hl⟩ := hP
    refine ⟨_, rfl, ?_⟩
    simp [wipeE, -e_lc]
    refine draw_row hb.2 hn h1 h2 fun pl s2 hp hb2 => ?_
    refine ⟨by simp [tupsP] at hl ⊢; omega, ⟨hb.1.trans hb2.1, hb2.2⟩, D ++ [pl], by simp [tupsP], ?_, by simp at hl ⊢; omega⟩
    intro x hx
    rw [List.mem_append, List.mem_singleton] at hx
    rcases hx with hx | rfl
    · exact hD x hx
    · exact hp

theorem isPl_of {n : Nat} {pl : List Int} (h : okP n pl) : isPl n (.tup (pl.map PV.int)) = true := by
  show (decide ((pl.map PV.int).length = n) && (pl.map PV.int).all isNat) = true
  rw [List.length_map, decide_eq_true h.1, Bool.true_and, List.all_eq_true]
  intro p hp
  obtain ⟨x, hx, rfl⟩ := List.mem_map.mp hp
  exact decide_eq_true (h.2 x hx)
theorem plainT_ints (pl : List Int) : plainT (.tup (pl.map PV.int)) := ⟨True.intro, fun l e => by
  cases e
  intro p hp
  obtain ⟨a, _, rfl⟩ := List.mem_map.mp hp
  exact True.intro⟩
theorem is_placing_at {L : List (Int × Int)} {v : PV} (hv : plainT v) : S_is_placing [staysP L, v] st = .ok (.bl (isPl L.length v)) st := by
  have e := is_placing_ok (l := L.map stP) (v := v) (st := st) hv
  rw [List.length_map] at e
  exact e
theorem law_placings {L : List (Int × Int)} {D : List (List Int)} {d : Nat} (hl : L.length ≤ 60) (hv : ∀ a ∈ L, a.1 < a.2) (hd : st[d]? = some (.lst false (tupsP D))) (hD : ∀ pl ∈ D, okP L.length pl)
    (k : ∀ y10, Q (.nx [x0, x1, x2, some (staysP L), x4, x5, x6, x7, x8, some (.loc d), y10, x11, x12, x13, x14, x15, x16, x17, x18, x19, x20, x21]) st) :
    Ok (d_law_24 [x0, x1, x2, some (staysP L), x4, x5, x6, x7, x8, some (.loc d), x10, x11, x12, x13, x14, x15, x16, x17, x18, x19, x20, x21] st) Q := by
  simp only [d_law_24, e_for, ok_bnd]
  simp [hd]
  refine ok_for (fun l ρ s => (∀ q ∈ l, ∃ pl ∈ D, q = .tup (pl.map PV.int)) ∧ s = st ∧ ∃ y10, ρ = [x0, x1, x2, some (staysP L), x4, x5, x6, x7, x8, some (.loc d), y10, x11, x12, x13, x14, x15, x16, x17, x18, x19, x20, x21]) (fun l ρ s h => by rw [h.2.1]; exact .inl hd) ?_ ?_ _ _ _ ⟨fun q hq => ?_, rfl, _, rfl⟩
  · intro ρ s hP
    obtain ⟨_, rfl, y, rfl⟩ := hP
    exact k y
  · intro q l ρ s hP
    obtain ⟨hm, rfl, y, rfl⟩ := hP
    obtain ⟨pl, hpl, rfl⟩ := hm q (List.mem_cons_self ..)
    rw [e_gNm, ok_ok]
    have e1 := is_placing_at (L := L) (st := s) (plainT_ints pl)
    rw [isPl_of (hD pl hpl)] at e1
    have e2 := _law_words_ok (L := L) (pl := pl) (st := s) (by omega) (hD pl hpl).1 hv
    simp [d_law_23, e1, e2]
    exact fun q h => hm q (List.mem_cons_of_mem _ h)
  · obtain ⟨pl, hpl, rfl⟩ := List.mem_map.mp hq
    exact ⟨pl, hpl, rfl⟩
def badP (n : Nat) (q : PV) : Prop := plainT q ∧ isPl n q = false
theorem badP_has {n : Nat} {l : List PV} {q : PV} (hl : ∀ p ∈ l, plainV p) (hq : q ∈ l) (h : isNat q = false) : badP n (.tup l) := ⟨⟨True.intro, fun m e => by cases e; exact hl⟩, by
  have : l.all isNat = false := List.all_eq_false.mpr ⟨q, hq, by rw [h]; simp⟩
  show (decide (l.length = n) && l.all isNat) = false
  rw [this, Bool.and_false]⟩
theorem badP_len {n : Nat} {l : List PV} (hl : ∀ p ∈ l, plainV p) (h : l.length ≠ n) : badP n (.tup l) := ⟨⟨True.intro, fun m e => by cases e; exact hl⟩, by
  unfold isPl
  simp only [decide_eq_false h, Bool.false_and]⟩
theorem plainV_ints {pl : List Int} : ∀ p ∈ pl.map PV.int, plainV p := fun p hp => by
  obtain ⟨a, _, rfl⟩ := List.mem_map.mp hp
  exact True.intro
theorem cutP_sub {P : List Int} {lo hi : Option Int} : ∀ p ∈ cutP (P.map PV.int) lo hi, plainV p := fun p hp => plainV_ints p (mem_cutP hp)
theorem law_odds {L : List (Int × Int)} {o : Nat} {l : List PV} {s : Sto} (h11 : s[o]? = some (.lst false l)) (hl : l.length ≤ 100) (hb : ∀ q ∈ l, badP L.length q) (k : ∀ y20, Q (.nx [x0, x1, x2, some (staysP L), x4, x5, x6, x7, x8, x9, x10, some (.loc o), x12, x13, x14, x15, x16, x17, x18, x19, y20, x21]) s) :
    Ok (d_law_28 [x0, x1, x2, some (staysP L), x4, x5, x6, x7, x8, x9, x10, some (.loc o), x12, x13, x14, x15, x16, x17, x18, x19, x20, x21] s) Q := by
  simp [d_law_28, h11]
  rw [lc_map (fun _ => .bl false) (.inl h11) l (fun q hq => by
    refine ⟨_, rfl, rfl, ?_⟩
    refine Ok.eq ?_
    have e := is_placing_at (L := L) (st := s) (hb q hq).1
    rw [(hb q hq).2] at e
    simp [wipeE, e]) (by omega)]
  have af : ∀ l : List PV, (l.any fun _ => false) = false := fun l => by simp
  rw [ok_ok, anyQ_map (fun _ => false), af, ok_ok, m_truB, ok_ok, if_neg (by simp)]
  exact k _
theorem law_odd2 {L : List (Int × Int)} {P : List Int} {d t o : Nat} {l : List PV} {s : Sto} {DD : List PV} (hl : L.length ≤ 60) (ht : t ≤ L.length) (hd : s[d]? = some (.lst false (.tup (P.map PV.int) :: DD))) (hP : okP L.length P) (h11 : s[o]? = some (.lst false l)) (hll : l.length ≤ 10) (hb : ∀ q ∈ l, badP L.length q)
    (k : ∀ y20 y11 ex, Q (.nx [x0, x1, some (.int (L.length : Int)), some (staysP L), x4, x5, some (.int (t : Int)), x7, x8, some (.loc d), x10, y11, x12, x13, x14, x15, x16, x17, x18, x19, y20, x21]) (s ++ ex)) :
    Ok (d_law_26 [x0, x1, some (.int (L.length : Int)), some (staysP L), x4, x5, some (.int (t : Int)), x7, x8, some (.loc d), x10, some (.loc o), x12, x13, x14, x15, x16, x17, x18, x19, x20, x21] s) (seqK d_law_28 Q) := by
  have z1 := cutP_len (P.map PV.int) none (some (t : Int))
  have z2 := cutP_len (P.map PV.int) (some ((t : Int) + 1)) none
  rw [List.length_map, hP.1] at z1 z2
  simp [d_law_26]
  rw [lc_pure (fun _ => decide (t < L.length)) (fun q => .tup (cutP (P.map PV.int) none (some (t : Int)) ++ q :: cutP (P.map PV.int) (some ((t : Int) + 1)) none)) (by exact True.intro) [PV.int (-1), PV.non, PV.bl true, PV.str "0", PV.tup [PV.int 0]] [] (fun q hq => by
    refine ⟨_, rfl, ?_, fun _ => ?_⟩
    · refine Ok.eq ?_
      simp [wipeE]
    · refine Ok.eq ?_
      simp [wipeE, hd]
      omega) (by simp)]
  simp [h11]
  have zf := List.length_filter_le (fun _ => decide (t < L.length)) [PV.int (-1), PV.non, PV.bl true, PV.str "0", PV.tup [PV.int 0]]
  have zf2 : [PV.int (-1), PV.non, PV.bl true, PV.str "0", PV.tup [PV.int 0]].length = 5 := rfl
  refine ⟨by omega, ?_⟩
  refine law_odds (o := s.length) (by simp; rfl) ?_ ?_ fun y20 => k _ _ _
  · rw [List.length_append, List.length_map]; omega
  · intro q hq
    rw [List.mem_append] at hq
    rcases hq with hq | hq
    · exact hb q hq
    · obtain ⟨q0, hq0, rfl⟩ := List.mem_map.mp hq
      have hq0 := (List.mem_filter.mp hq0).1
      have aux : ∀ v : PV, plainV v → isNat v = false → badP L.length (.tup (cutP (P.map PV.int) none (some (t : Int)) ++ v :: cutP (P.map PV.int) (some ((t : Int) + 1)) none)) := fun v h1 h2 => badP_has (fun p hp => by
        rw [List.mem_append, List.mem_cons] at hp
        rcases hp with hp | rfl | hp
        · exact cutP_sub p hp
        · exact h1
        · exact cutP_sub p hp) (by simp) h2
      simp at hq0
      rcases hq0 with rfl | rfl | rfl | rfl | rfl <;> exact aux _ True.intro rfl
theorem law_odd {L : List (Int × Int)} {P : List Int} {D : List (List Int)} {d t : Nat} (h : BoxAt b c st) (hl : L.length ≤ 60) (ht : t ≤ L.length) (hd : st[d]? = some (.lst false (tupsP (P :: D)))) (hP : okP L.length P)
    (k : ∀ y20 y11 s, Bx b c st s → Q (.nx [x0, x1, some (.int (L.length : Int)), some (staysP L), x4, x5, some (.int (t : Int)), x7, x8, some (.loc d), x10, y11, x12, x13, x14, x15, x16, x17, x18, x19, y20, x21]) s) :
    Ok (dSeq d_law_25 (dSeq d_law_26 d_law_28) [x0, x1, some (.int (L.length : Int)), some (staysP L), x4, x5, some (.int (t : Int)), x7, x8, some (.loc d), x10, x11, x12, x13, x14, x15, x16, x17, x18, x19, x20, x21] st) Q := by
  have e0 : atI (tupsP (P :: D)) 0 = some (.tup (P.map PV.int)) := by simp [tupsP]
  have hlt := (List.getElem?_eq_some_iff.mp hd).1
  simp [d_law_25, hd, e0, oMulA]
  have z1 := cutP_len (P.map PV.int) none (some 2)
  have b1 : badP L.length (.tup (P.map PV.int ++ [PV.int 0])) := badP_len (fun p hp => by
    rw [List.mem_append, List.mem_singleton] at hp
    rcases hp with hp | rfl
    · exact plainV_ints p hp
    · exact True.intro) (by simp; have := hP.1; omega)
  have b5 : badP L.length (.tup (.tup (P.map PV.int) :: cutP (P.map PV.int) none (some 2))) := badP_has (q := .tup (P.map PV.int)) (fun p hp => by
    rw [List.mem_cons] at hp
    rcases hp with rfl | hp
    · exact True.intro
    · exact cutP_sub p hp) (by simp) rfl
  rw [List.length_map, hP.1] at z1
  have s0 : (Str.ofString "0").length ≤ 1000 := by decide
  have hd' : ∀ ex, (st ++ ex)[d]? = some (.lst false (.tup (P.map PV.int) :: tupsP D)) := fun ex => by rw [List.getElem?_append_left hlt]; exact hd
  refine ⟨by have := hP.1; omega, ⟨by omega, s0⟩, ?_⟩
  split
  · rename_i hp
    have b4 : badP L.length (.tup (cutP (P.map PV.int) (some 1) none)) := badP_len (fun p hp => cutP_sub p hp) (by
      unfold cutP
      rw [show (1 : Int) = ((1 : Nat) : Int) from rfl, HT.sIx_nat, HT.sIx_none, List.length_map, hP.1]
      simp [hP.1]
      omega)
    refine ⟨by omega, ?_⟩
    refine law_odd2 hl ht (hd' _) hP (o := st.length) (by simp; rfl) (by simp) ?_ fun y20 y11 ex => ?_
    · intro q hq
      simp at hq
      rcases hq with rfl | rfl | rfl | rfl | rfl
      · exact b1
      · exact ⟨⟨True.intro, fun l e => nomatch e⟩, rfl⟩
      · exact ⟨⟨True.intro, fun l e => nomatch e⟩, rfl⟩
      · exact b4
      · exact b5
    · rw [List.append_assoc]
      exact k _ _ _ ⟨Ch.app, h.app⟩
  · refine ⟨by omega, ?_⟩
    refine law_odd2 hl ht (hd' _) hP (o := st.length) (by simp; rfl) (by simp) ?_ fun y20 y11 ex => ?_
    · intro q hq
      simp at hq
      rcases hq with rfl | rfl | rfl | rfl | rfl
      · exact b1
      · exact ⟨⟨True.intro, fun l e => nomatch e⟩, rfl⟩
      · exact ⟨⟨True.intro, fun l e => nomatch e⟩, rfl⟩
      · exact ⟨⟨True.intro, fun l e => nomatch e⟩, rfl⟩
      · exact b5
    · rw [List.append_assoc]
      exact k _ _ _ ⟨Ch.app, h.app⟩
theorem maxI_is {l : List Int} {m : Int} (h1 : m ∈ l) (h2 : ∀ y ∈ l, y ≤ m) : maxI l = m := (maxI_spec h1 h2).symm
theorem intsM_ints (l : List Int) : intsM (l.map PV.int) st = .ok l st := by
  induction l with
  | nil => rfl
  | cons a l ih => simp only [List.map_cons, intsM, bnd, ih]
theorem law_last {L : List (Int × Int)} {pl : List Int} {best : Int} {Q : PV → Sto → Prop} (hl : L.length ≤ 60) (hv : OkL 0 1000000 L) (g : Gr L (sortIx (L.map stP)) pl) (h1 : ∀ a ∈ L, presN L a.1 ≤ presN L best) (h2 : best = 0 ∨ ∃ a ∈ L, best = a.1) (k : ∀ s, Q (.bl true) s) :
    Ok (dSeq d_law_31 (dSeq d_law_32 (dSeq d_law_34 (dSeq d_law_35 d_law_36))) [x0, x1, some (.int (L.length : Int)), some (staysP L), x4, x5, x6, x7, x8, x9, x10, x11, some (.tup [.tup (pl.map PV.int), .int best]), x13, x14, x15, x16, x17, x18, x19, x20, x21] st) (fun fl s => Ok (retF fl s) Q) := by
  have hv' : ∀ a ∈ L, a.1 < a.2 := fun a h => (hv a h).2.1
  have hp := sortIx_perm L
  have hin : ∀ i, i < L.length → i ∈ sortIx (L.map stP) := fun i hi => hp.mem_iff.mpr (List.mem_range.mpr hi)
  have hb : 0 ≤ best ∧ best ≤ 1000000 := by
    rcases h2 with rfl | ⟨a, ha, rfl⟩
    · omega
    · have := hv a ha
      unfold okSt at this
      omega
  have hP : okP L.length pl := ⟨g.len, fun x hx => by
    obtain ⟨i, hi, e⟩ := List.getElem_of_mem hx
    have z := (g.num i (hin i (by rw [← g.len]; exact hi))).1
    rw [List.getElem?_eq_getElem hi, e] at z
    exact z⟩
  have hgood : neverB L pl (badOf' J__law_meets) = true := by
    unfold neverB
    rw [List.all_eq_true]
    intro i hi
    rw [List.all_eq_true]
    intro j hj
    have hi := List.mem_range.mp hi
    have hj := List.mem_range.mp hj
    by_cases h : i ≠ j ∧ pl[i]?.getD 0 = pl[j]?.getD 0
    · have z := g.good i (hin i hi) j (hin j hj) h.1 h.2
      have e : badOf' J__law_meets = meetB := rfl
      unfold gS at z
      rw [e, z]
      simp
    · by_cases h3 : i = j
      · simp [h3]
      · have h4 : ¬ pl[i]?.getD 0 = pl[j]?.getD 0 := fun z => h ⟨h3, z⟩
        simp [h4]
  have e1 := is_placing_at (L := L) (st := st) (plainT_ints pl)
  rw [isPl_of hP] at e1
  have e2 := _law_good_ok (L := L) (pl := pl) (j := J__law_meets) (st := st) (by omega) hP.1 hv' (.inl rfl)
  rw [hgood] at e2
  have e3 := _law_words_ok (L := L) (pl := pl) (st := st) (by omega) hP.1 hv'
  have e4 : ∀ m, S__law_present [staysP L, .int m] st = .ok (intsP (presI L m)) st := fun m => _law_present_ok (by omega)
  have e5 : ∀ m, lenM (intsP (presI L m)) st = .ok (.int (presN L m : Int)) st := fun m => by
    unfold intsP presN
    rw [m_lenT, List.length_map]
  simp [d_law_31, d_law_32, d_law_34, isK, okd, eqb, e1, e2]
  rw [if_neg (by omega), if_neg (by omega)]
  rw [lc_map (fun q => .bl (isNat q)) (by exact True.intro) (pl.map PV.int) (fun q hq => by
    obtain ⟨x, hx, rfl⟩ := List.mem_map.mp hq
    refine ⟨_, rfl, rfl, ?_⟩
    refine Ok.eq ?_
    simp [wipeE, isK, isNat]) (by rw [List.length_map, hP.1]; omega), ok_ok, allQ_map]
  have ea : (pl.map PV.int).all isNat = true := by
    have := isPl_of hP
    unfold isPl at this
    rw [Bool.and_eq_true] at this
    exact this.2
  rw [ea]
  simp only [ok_ok, m_truB, if_pos]
  simp only [d_law_35, e_set, ok_bnd, e_lc]
  simp [staysP]
  rw [lc_map (fun q => .int (presN L (unSt q).1 : Int)) (by exact True.intro) (L.map stP) (fun q hq => by
    obtain ⟨a, ha, rfl⟩ := List.mem_map.mp hq
    refine ⟨_, rfl, rfl, ?_⟩
    refine Ok.eq ?_
    have e4 := e4 a.1
    unfold staysP at e4
    simp [wipeE, e4, e5, unSt, stP]) (by rw [List.length_map]; omega), ok_ok]
  have em : (L.map stP).map (fun q => PV.int (presN L (unSt q).1 : Int)) ++ [PV.int 0] = (L.map (fun a : Int × Int => (presN L a.1 : Int)) ++ [0]).map PV.int := by
    rw [List.map_map, List.map_append, List.map_map]
    rfl
  have hmx : maxI (L.map (fun a => (presN L a.1 : Int)) ++ [0]) = (presN L best : Int) := by
    refine maxI_is ?_ ?_
    · by_cases h0 : presN L best = 0
      · rw [h0]; simp
      · rcases h2 with rfl | ⟨a, ha, rfl⟩
        · obtain ⟨i, hi⟩ : ∃ i, i ∈ presI L 0 := by
            cases q : presI L 0 with
            | nil => exact absurd (by unfold presN; rw [q]; rfl) h0
            | cons i l => exact ⟨i, List.mem_cons_self ..⟩
          unfold presI at hi
          obtain ⟨hi, hm⟩ := List.mem_filter.mp hi
          have hi := List.mem_range.mp hi
          have ha := List.getElem_mem hi
          have hz := (hv _ ha).1
          rw [List.getElem?_eq_getElem hi] at hm
          unfold hasM at hm
          simp at hm
          refine List.mem_append_left _ (List.mem_map.mpr ⟨_, ha, ?_⟩)
          rw [show L[i].1 = 0 by omega]
        · exact List.mem_append_left _ (List.mem_map.mpr ⟨a, ha, rfl⟩)
    · intro y hy
      rw [List.mem_append, List.mem_singleton] at hy
      rcases hy with hy | rfl
      · obtain ⟨a, ha, rfl⟩ := List.mem_map.mp hy
        have := h1 a ha
        omega
      · omega
  rw [em]
  have hXl : (L.map (fun a : Int × Int => (presN L a.1 : Int)) ++ [0]).length = L.length + 1 := by simp
  revert hmx hXl
  generalize (L.map (fun a : Int × Int => (presN L a.1 : Int)) ++ [0]) = X
  intro hmx hXl
  simp [maxQ, intsM_ints, hmx]
  refine ⟨by omega, by omega, ?_⟩
  have e4 := e4 best
  unfold staysP at e4 e3
  have em2 : pl.map PV.int ++ [PV.int (-1)] = (pl ++ [-1]).map PV.int := by simp
  have hmx2 : maxI (pl ++ [-1]) < (presN L best : Int) := by
    have key : ∀ y ∈ pl ++ [-1], y < (presN L best : Int) := fun y hy => by
      rw [List.mem_append, List.mem_singleton] at hy
      rcases hy with hy | rfl
      · obtain ⟨i, hi, e⟩ := List.getElem_of_mem hy
        have hi' : i < L.length := by rw [← g.len]; exact hi
        have z := (g.num i (hin i hi')).2
        rw [List.getElem?_eq_getElem hi, e] at z
        have z : y < _ := z
        have w := h1 (gS L i) (by
          unfold gS
          rw [List.getElem?_eq_getElem hi']
          exact List.getElem_mem hi')
        omega
      · omega
    have hm : maxI (pl ++ [-1]) ∈ pl ++ [-1] := by
      have aux : ∀ l : List Int, l ≠ [] → maxI l ∈ l := by
        intro l
        induction l with
        | nil => intro h; exact absurd rfl h
        | cons a l ih =>
          intro _
          cases l with
          | nil => simp [maxI]
          | cons b l =>
            rw [maxI]
            split
            · exact List.mem_cons_of_mem _ (ih (by simp))
            · exact List.mem_cons_self ..
            · simp
      exact aux _ (by simp)
    exact key _ hm
  simp [d_law_36, okd, eqb, hP.1, e4, e5, e3]
  rw [em2]
  have hYl : (pl ++ [-1]).length = pl.length + 1 := by simp
  revert hmx2 hYl
  generalize pl ++ [-1] = Y
  intro hmx2 hYl
  simp [maxS, intsM_ints, hmx2]
  refine ⟨by omega, by omega, ?_⟩
  rw [e3, ok_ok]
  exact k _
theorem dSeq_assoc {f g h : PD.Env → Mo Fl} : dSeq (dSeq f g) h = dSeq f (dSeq g h) := by
  funext ρ st
  unfold dSeq bnd
  cases f ρ st with
  | ok fl s => cases fl <;> rfl
  | exc c s => rfl
  | stuck => rfl
theorem law_ok {p : PV} {ns : List Int} {st : Sto} (h : ScrAt p ns st) (hn : ns.length ≤ 63) : Ok (S_law [p] st) (fun q _ => q = .bl true) := by
  unfold S_law
  rw [e_body, ok_bnd]
  simp only [d_law, ok_seq]
  simp only [d_law_1, e_set, ok_bnd]
  simp [start0, -ok_seq]
  refine (law_box_ok h hn).imp fun q s1 hh => ?_
  obtain ⟨b, c, rfl, hb, _, _, _, _⟩ := hh
  rw [ok_seq]
  refine law_many hb fun n s2 hn2 b2 => ?_
  rw [seqK_nx, ok_seq]
  simp [d_law_3, -ok_seq]
  refine (law_stays_ok b2.2 (n := n) (by omega)).imp fun q s3 hh => ?_
  obtain ⟨L, rfl, rfl, hL, b3⟩ := hh
  have hv : ∀ a ∈ L, a.1 < a.2 := fun a ha => (hL a ha).2.1
  rw [ok_seq]
  refine law_great ?_
  rw [seqK_nx, ok_seq]
  refine law_first hL hn2 ?_
  rw [seqK_nx, ok_seq]
  refine law_pick b3.2 hL hn2 fun a s4 ha b4 => ?_
  rw [seqK_nx, ok_seq]
  refine law_at b4.2 hn2 fun t s5 ht b5 => ?_
  rw [seqK_nx, ok_seq]
  refine law_bads b5.2 ha hn2 fun s6 b6 => ?_
  rw [seqK_nx, ok_seq]
  refine law_pairs hL hn2 fun y7 y14 y17 y18 => ?_
  rw [seqK_nx, ok_seq]
  refine law_moments hn2 fun y7 y15 => ?_
  rw [seqK_nx, ok_seq]
  refine law_menu b6.2 fun mn s7 m1 m2 b7 => ?_
  rw [seqK_nx, ok_seq]
  refine law_drawn b7.2 hn2 m1 m2 fun P D d s8 b8 hd hD hDl => ?_
  rw [seqK_nx, ok_seq]
  refine law_placings hn2 hv hd hD fun y10 => ?_
  rw [seqK_nx, ← dSeq_assoc, ← dSeq_assoc, ok_seq, dSeq_assoc]
  refine law_odd b8.2 hn2 ht hd (hD _ (List.mem_cons_self ..)) fun y20 y11 s9 b9 => ?_
  rw [seqK_nx, ok_seq]
  simp [d_law_29, -ok_seq]
  refine on_shelves_ok (by omega) hv fun pl best s10 hk g h1 h2 => ?_
  exact law_last hn2 hL g h1 h2 fun s => rfl
end
theorem ok_law {P : Program} {w : World} {W : Wd} {base : Heap} (V : Ev W base) : DFn P w W base 10 (He.fAd W.K ("law", none)) 1 S_law := raw_law V (ok__law_box V) (ok__law_draw V) (ok__law_stays V) (ok__law_same V) (ok_is_stays V) (ok__law_bad_stays V) (ok__law_crosses V) (ok__law_within V) (ok__law_meets V) (ok_crosses V) (ok_is_within V) (ok_meets V) (ok__law_present V) (ok_present V) (ok_is_placing V) (ok__law_words V) (ok_on_shelves V) (ok__law_good V)
def D_is_number : He.DefD := ⟨("is_number", none), "is_number", "is_number", defArgs (top 2), defBody (top 2), defScope (top 2), [], []⟩
def D_is_moment : He.DefD := ⟨("is_moment", none), "is_moment", "is_moment", defArgs (top 3), defBody (top 3), defScope (top 3), [], []⟩
def D_is_tuple_of : He.DefD := ⟨("is_tuple_of", none), "is_tuple_of", "is_tuple_of", defArgs (top 4), defBody (top 4), defScope (top 4), [], []⟩
def D_is_stay : He.DefD := ⟨("is_stay", none), "is_stay", "is_stay", defArgs (top 7), defBody (top 7), defScope (top 7), [], []⟩
def D_is_stays : He.DefD := ⟨("is_stays", none), "is_stays", "is_stays", defArgs (top 8), defBody (top 8), defScope (top 8), [], []⟩
def D_is_placing : He.DefD := ⟨("is_placing", none), "is_placing", "is_placing", defArgs (top 9), defBody (top 9), defScope (top 9), [], []⟩
def D_has_moment : He.DefD := ⟨("has_moment", none), "has_moment", "has_moment", defArgs (top 10), defBody (top 10), defScope (top 10), [], []⟩
def D_meets : He.DefD := ⟨("meets", none), "meets", "meets", defArgs (top 11), defBody (top 11), defScope (top 11), [], []⟩
def D_is_within : He.DefD := ⟨("is_within", none), "is_within", "is_within", defArgs (top 12), defBody (top 12), defScope (top 12), [], []⟩
def D_crosses : He.DefD := ⟨("crosses", none), "crosses", "crosses", defArgs (top 13), defBody (top 13), defScope (top 13), [], []⟩
def D_present : He.DefD := ⟨("present", none), "present", "present", defArgs (top 14), defBody (top 14), defScope (top 14), [], []⟩
def D_never_together : He.DefD := ⟨("never_together", none), "never_together", "never_together", defArgs (top 15), defBody (top 15), defScope (top 15), [], []⟩
def D_good_for_shelves : He.DefD := ⟨("good_for_shelves", none), "good_for_shelves", "good_for_shelves", defArgs (top 16), defBody (top 16), defScope (top 16), [], []⟩
def D_good_for_chutes : He.DefD := ⟨("good_for_chutes", none), "good_for_chutes", "good_for_chutes", defArgs (top 17), defBody (top 17), defScope (top 17), [], []⟩
def D_good_for_piles : He.DefD := ⟨("good_for_piles", none), "good_for_piles", "good_for_piles", defArgs (top 18), defBody (top 18), defScope (top 18), [], []⟩
def D_on_shelves : He.DefD := ⟨("on_shelves", none), "on_shelves", "on_shelves", defArgs (top 20), defBody (top 20), defScope (top 20), [], []⟩
def D__law_box : He.DefD := ⟨("_law_box", none), "_law_box", "_law_box", defArgs (top 22), defBody (top 22), defScope (top 22), [], []⟩
def D__law_load : He.DefD := ⟨("_law_load", none), "_law_load", "_law_load", defArgs (top 23), defBody (top 23), defScope (top 23), [], []⟩
def D__law_draw : He.DefD := ⟨("_law_draw", none), "_law_draw", "_law_draw", defArgs (top 24), defBody (top 24), defScope (top 24), [], []⟩
def D__law_same : He.DefD := ⟨("_law_same", none), "_law_same", "_law_same", defArgs (top 25), defBody (top 25), defScope (top 25), [], []⟩
def D__law_stays : He.DefD := ⟨("_law_stays", none), "_law_stays", "_law_stays", defArgs (top 26), defBody (top 26), defScope (top 26), [], []⟩
def D__law_present : He.DefD := ⟨("_law_present", none), "_law_present", "_law_present", defArgs (top 27), defBody (top 27), defScope (top 27), [], []⟩
def D__law_meets : He.DefD := ⟨("_law_meets", none), "_law_meets", "_law_meets", defArgs (top 28), defBody (top 28), defScope (top 28), [], []⟩
def D__law_within : He.DefD := ⟨("_law_within", none), "_law_within", "_law_within", defArgs (top 29), defBody (top 29), defScope (top 29), [], []⟩
def D__law_crosses : He.DefD := ⟨("_law_crosses", none), "_law_crosses", "_law_crosses", defArgs (top 30), defBody (top 30), defScope (top 30), [], []⟩
def D__law_numbers : He.DefD := ⟨("_law_numbers", none), "_law_numbers", "_law_numbers", defArgs (top 31), defBody (top 31), defScope (top 31), [], []⟩
def D__law_bad_stays : He.DefD := ⟨("_law_bad_stays", none), "_law_bad_stays", "_law_bad_stays", defArgs (top 32), defBody (top 32), defScope (top 32), [], []⟩
def D__law_good : He.DefD := ⟨("_law_good", none), "_law_good", "_law_good", defArgs (top 33), defBody (top 33), defScope (top 33), [], []⟩
def D__law_word : He.DefD := ⟨("_law_word", none), "_law_word", "_law_word", defArgs (top 34), defBody (top 34), defScope (top 34), [], []⟩
def D__law_words : He.DefD := ⟨("_law_words", none), "_law_words", "_law_words", defArgs (top 35), defBody (top 35), defScope (top 35), [], []⟩
def D_law : He.DefD := ⟨("law", none), "law", "law", defArgs (top 36), defBody (top 36), defScope (top 36), [], []⟩
def fn : List He.DefD := [D_is_number, D_is_moment, D_is_tuple_of, D_is_stay, D_is_stays, D_is_placing, D_has_moment, D_meets, D_is_within, D_crosses, D_present, D_never_together, D_good_for_shelves, D_good_for_chutes, D_good_for_piles, D_on_shelves, D__law_box, D__law_load, D__law_draw, D__law_same, D__law_stays, D__law_present, D__law_meets, D__law_within, D__law_crosses, D__law_numbers, D__law_bad_stays, D__law_good, D__law_word, D__law_words, D_law]
def fa : List He.Fa := [.glo "is_number", .glo "is_moment", .glo "is_tuple_of", .glo "is_stay", .glo "is_stays", .glo "is_placing", .glo "has_moment", .glo "meets", .glo "is_within", .glo "crosses", .glo "present", .glo "never_together", .glo "good_for_shelves", .glo "good_for_chutes", .glo "good_for_piles", .glo "on_shelves", .glo "_law_box", .glo "_law_load", .glo "_law_draw", .glo "_law_same", .glo "_law_stays", .glo "_law_present", .glo "_law_meets", .glo "_law_within", .glo "_law_crosses", .glo "_law_numbers", .glo "_law_bad_stays", .glo "_law_good", .glo "_law_word", .glo "_law_words", .glo "law", .int "LAST_MOMENT" 1000000, .int "MAX_STAYS" 60, .free "all", .free "any", .free "bool", .free "dict", .free "int", .free "isinstance", .free "len", .free "list", .free "max", .free "min", .free "range", .free "sorted", .free "str", .free "tuple"]
def tf : List (Str × Option Str) := [("is_tuple_of", none), ("is_placing", none), ("on_shelves", none)]
def exB (K : PySem.W.Frag) : Bool := decide (tf.map fun p => (He.cT K p).2).Nodup
abbrev R : PySem.W.OpenRow := PySem.W.OpenLaw.row PySem.Challenge.rw_backtohand_k48_whole_stays_and_shelves
abbrev hk : PySem.W.Hook := He.hookX 4 fa fn [] tf exB
def ob (s : PySem.W.SharedT) : He.AlX := He.obsX 4 fa fn [] tf exB (HandSHeadRun.getT s)
theorem ob_eq (s : PySem.W.SharedT) : ob s = hk.obs s.abs := He.obsX_eq (HandSHeadRun.getT_eq s)
def names : List Str := (["is_number", "is_moment", "is_tuple_of", "is_stay", "is_stays", "is_placing", "has_moment", "meets", "is_within", "crosses", "present", "never_together", "good_for_shelves", "good_for_chutes", "good_for_piles", "on_shelves", "_law_box", "_law_load", "_law_draw", "_law_same", "_law_stays", "_law_present", "_law_meets", "_law_within", "_law_crosses", "_law_numbers", "_law_bad_stays", "_law_good", "_law_word", "_law_words", "LAST_MOMENT", "MAX_STAYS"] : List Str)
theorem run (w : World) : HandSHeadRun.RunEq R (PySem.W.view R.prog [36]) hk ob 4000 names w := by
  intro os
  kernel_rfl
def dnames : List Str := ["is_number", "is_moment", "is_tuple_of", "is_stay", "is_stays", "is_placing", "has_moment", "meets", "is_within", "crosses", "present", "never_together", "good_for_shelves", "good_for_chutes", "good_for_piles", "on_shelves", "_law_box", "_law_load", "_law_draw", "_law_same", "_law_stays", "_law_present", "_law_meets", "_law_within", "_law_crosses", "_law_numbers", "_law_bad_stays", "_law_good", "_law_word", "_law_words", "law"]
def WW (K : PySem.W.Frag) (mg : Str → Option Value) : Wd where
  K := K
  mg := mg
  cx := CX0
  fa := fun j => (dnames[j]?).map fun x => He.fAd K (x, none)
  xc := fun _ => .none
  tb := [(He.cT K ("is_tuple_of", none)).2, (He.cT K ("is_placing", none)).2]
  tl := [((He.cT K ("on_shelves", none)).2, ("on_shelves" : Str) ++ ".<locals>." ++ "<lambda>")]
theorem nd_ne {l : List Addr} (h : l.Nodup) {i j : Nat} {a b : Addr} (ha : l[i]? = some a) (hb : l[j]? = some b) (hij : i ≠ j) : a ≠ b := fun e => by
  subst e
  obtain ⟨h1, e1⟩ := List.getElem?_eq_some_iff.mp ha
  obtain ⟨h2, e2⟩ := List.getElem?_eq_some_iff.mp hb
  exact hij ((List.getElem_inj h).mp (e1.trans e2.symm))
theorem ev_cx {w : World} {h base : Heap} {K : PySem.W.Frag} {mg : Str → Option Value} (KX : K.In h) (G : h.Ns mainGlobals mg) (c : He.SaysX fa fn [] tf exB w h K) (nd : (tf.map fun p => (He.cT K p).2).Nodup) (TB : ∀ p ∈ tf.map (He.cT K), GxR.TabB base mg p.1 p.2) : (WW K mg).cx = CX0 := rfl
theorem ev_b_all {w : World} {h base : Heap} {K : PySem.W.Frag} {mg : Str → Option Value} (KX : K.In h) (G : h.Ns mainGlobals mg) (c : He.SaysX fa fn [] tf exB w h K) (nd : (tf.map fun p => (He.cT K p).2).Nodup) (TB : ∀ p ∈ tf.map (He.cT K), GxR.TabB base mg p.1 p.2) : (WW K mg).mg "all" = none := He.free_ok KX G (c.t.d.fact 33 (f := .free "all"))
theorem ev_b_any {w : World} {h base : Heap} {K : PySem.W.Frag} {mg : Str → Option Value} (KX : K.In h) (G : h.Ns mainGlobals mg) (c : He.SaysX fa fn [] tf exB w h K) (nd : (tf.map fun p => (He.cT K p).2).Nodup) (TB : ∀ p ∈ tf.map (He.cT K), GxR.TabB base mg p.1 p.2) : (WW K mg).mg "any" = none := He.free_ok KX G (c.t.d.fact 34 (f := .free "any"))
theorem ev_b_bool {w : World} {h base : Heap} {K : PySem.W.Frag} {mg : Str → Option Value} (KX : K.In h) (G : h.Ns mainGlobals mg) (c : He.SaysX fa fn [] tf exB w h K) (nd : (tf.map fun p => (He.cT K p).2).Nodup) (TB : ∀ p ∈ tf.map (He.cT K), GxR.TabB base mg p.1 p.2) : (WW K mg).mg "bool" = none := He.free_ok KX G (c.t.d.fact 35 (f := .free "bool"))
theorem ev_b_int {w : World} {h base : Heap} {K : PySem.W.Frag} {mg : Str → Option Value} (KX : K.In h) (G : h.Ns mainGlobals mg) (c : He.SaysX fa fn [] tf exB w h K) (nd : (tf.map fun p => (He.cT K p).2).Nodup) (TB : ∀ p ∈ tf.map (He.cT K), GxR.TabB base mg p.1 p.2) : (WW K mg).mg "int" = none := He.free_ok KX G (c.t.d.fact 37 (f := .free "int"))
theorem ev_b_isinstance {w : World} {h base : Heap} {K : PySem.W.Frag} {mg : Str → Option Value} (KX : K.In h) (G : h.Ns mainGlobals mg) (c : He.SaysX fa fn [] tf exB w h K) (nd : (tf.map fun p => (He.cT K p).2).Nodup) (TB : ∀ p ∈ tf.map (He.cT K), GxR.TabB base mg p.1 p.2) : (WW K mg).mg "isinstance" = none := He.free_ok KX G (c.t.d.fact 38 (f := .free "isinstance"))
theorem ev_b_len {w : World} {h base : Heap} {K : PySem.W.Frag} {mg : Str → Option Value} (KX : K.In h) (G : h.Ns mainGlobals mg) (c : He.SaysX fa fn [] tf exB w h K) (nd : (tf.map fun p => (He.cT K p).2).Nodup) (TB : ∀ p ∈ tf.map (He.cT K), GxR.TabB base mg p.1 p.2) : (WW K mg).mg "len" = none := He.free_ok KX G (c.t.d.fact 39 (f := .free "len"))
theorem ev_b_list {w : World} {h base : Heap} {K : PySem.W.Frag} {mg : Str → Option Value} (KX : K.In h) (G : h.Ns mainGlobals mg) (c : He.SaysX fa fn [] tf exB w h K) (nd : (tf.map fun p => (He.cT K p).2).Nodup) (TB : ∀ p ∈ tf.map (He.cT K), GxR.TabB base mg p.1 p.2) : (WW K mg).mg "list" = none := He.free_ok KX G (c.t.d.fact 40 (f := .free "list"))
theorem ev_b_max {w : World} {h base : Heap} {K : PySem.W.Frag} {mg : Str → Option Value} (KX : K.In h) (G : h.Ns mainGlobals mg) (c : He.SaysX fa fn [] tf exB w h K) (nd : (tf.map fun p => (He.cT K p).2).Nodup) (TB : ∀ p ∈ tf.map (He.cT K), GxR.TabB base mg p.1 p.2) : (WW K mg).mg "max" = none := He.free_ok KX G (c.t.d.fact 41 (f := .free "max"))
theorem ev_b_min {w : World} {h base : Heap} {K : PySem.W.Frag} {mg : Str → Option Value} (KX : K.In h) (G : h.Ns mainGlobals mg) (c : He.SaysX fa fn [] tf exB w h K) (nd : (tf.map fun p => (He.cT K p).2).Nodup) (TB : ∀ p ∈ tf.map (He.cT K), GxR.TabB base mg p.1 p.2) : (WW K mg).mg "min" = none := He.free_ok KX G (c.t.d.fact 42 (f := .free "min"))
theorem ev_b_range {w : World} {h base : Heap} {K : PySem.W.Frag} {mg : Str → Option Value} (KX : K.In h) (G : h.Ns mainGlobals mg) (c : He.SaysX fa fn [] tf exB w h K) (nd : (tf.map fun p => (He.cT K p).2).Nodup) (TB : ∀ p ∈ tf.map (He.cT K), GxR.TabB base mg p.1 p.2) : (WW K mg).mg "range" = none := He.free_ok KX G (c.t.d.fact 43 (f := .free "range"))
theorem ev_b_sorted {w : World} {h base : Heap} {K : PySem.W.Frag} {mg : Str → Option Value} (KX : K.In h) (G : h.Ns mainGlobals mg) (c : He.SaysX fa fn [] tf exB w h K) (nd : (tf.map fun p => (He.cT K p).2).Nodup) (TB : ∀ p ∈ tf.map (He.cT K), GxR.TabB base mg p.1 p.2) : (WW K mg).mg "sorted" = none := He.free_ok KX G (c.t.d.fact 44 (f := .free "sorted"))
theorem ev_b_str {w : World} {h base : Heap} {K : PySem.W.Frag} {mg : Str → Option Value} (KX : K.In h) (G : h.Ns mainGlobals mg) (c : He.SaysX fa fn [] tf exB w h K) (nd : (tf.map fun p => (He.cT K p).2).Nodup) (TB : ∀ p ∈ tf.map (He.cT K), GxR.TabB base mg p.1 p.2) : (WW K mg).mg "str" = none := He.free_ok KX G (c.t.d.fact 45 (f := .free "str"))
theorem ev_b_tuple {w : World} {h base : Heap} {K : PySem.W.Frag} {mg : Str → Option Value} (KX : K.In h) (G : h.Ns mainGlobals mg) (c : He.SaysX fa fn [] tf exB w h K) (nd : (tf.map fun p => (He.cT K p).2).Nodup) (TB : ∀ p ∈ tf.map (He.cT K), GxR.TabB base mg p.1 p.2) : (WW K mg).mg "tuple" = none := He.free_ok KX G (c.t.d.fact 46 (f := .free "tuple"))
theorem ev_i_LAST_MOMENT {w : World} {h base : Heap} {K : PySem.W.Frag} {mg : Str → Option Value} (KX : K.In h) (G : h.Ns mainGlobals mg) (c : He.SaysX fa fn [] tf exB w h K) (nd : (tf.map fun p => (He.cT K p).2).Nodup) (TB : ∀ p ∈ tf.map (He.cT K), GxR.TabB base mg p.1 p.2) : ∃ t, (WW K mg).mg "LAST_MOMENT" = some (.int 1000000 t) := He.int_ok KX G (c.t.d.fact 31 (f := .int "LAST_MOMENT" 1000000))
theorem ev_i_MAX_STAYS {w : World} {h base : Heap} {K : PySem.W.Frag} {mg : Str → Option Value} (KX : K.In h) (G : h.Ns mainGlobals mg) (c : He.SaysX fa fn [] tf exB w h K) (nd : (tf.map fun p => (He.cT K p).2).Nodup) (TB : ∀ p ∈ tf.map (He.cT K), GxR.TabB base mg p.1 p.2) : ∃ t, (WW K mg).mg "MAX_STAYS" = some (.int 60 t) := He.int_ok KX G (c.t.d.fact 32 (f := .int "MAX_STAYS" 60))
theorem ev_g_is_number {w : World} {h base : Heap} {K : PySem.W.Frag} {mg : Str → Option Value} (KX : K.In h) (G : h.Ns mainGlobals mg) (c : He.SaysX fa fn [] tf exB w h K) (nd : (tf.map fun p => (He.cT K p).2).Nodup) (TB : ∀ p ∈ tf.map (He.cT K), GxR.TabB base mg p.1 p.2) : (WW K mg).mg "is_number" = some (.ref (He.fAd (WW K mg).K ("is_number", none))) := He.glo_ok KX G (c.t.d.fact 0 (f := .glo "is_number"))
theorem ev_a_is_number {w : World} {h base : Heap} {K : PySem.W.Frag} {mg : Str → Option Value} (KX : K.In h) (G : h.Ns mainGlobals mg) (c : He.SaysX fa fn [] tf exB w h K) (nd : (tf.map fun p => (He.cT K p).2).Nodup) (TB : ∀ p ∈ tf.map (He.cT K), GxR.TabB base mg p.1 p.2) : (WW K mg).fa J_is_number = some (He.fAd (WW K mg).K ("is_number", none)) := rfl
theorem ev_D_is_number {w : World} {h base : Heap} {K : PySem.W.Frag} {mg : Str → Option Value} (KX : K.In h) (G : h.Ns mainGlobals mg) (c : He.SaysX fa fn [] tf exB w h K) (nd : (tf.map fun p => (He.cT K p).2).Nodup) (TB : ∀ p ∈ tf.map (He.cT K), GxR.TabB base mg p.1 p.2) : ∃ fd, FunD (WW K mg).K "is_number" "is_number" (defArgs (top 2)) (defBody (top 2)) (defScope (top 2)) [] [] (He.fAd (WW K mg).K ("is_number", none)) fd := c.t.d.def_ 0 (d := D_is_number)
theorem ev_g_is_moment {w : World} {h base : Heap} {K : PySem.W.Frag} {mg : Str → Option Value} (KX : K.In h) (G : h.Ns mainGlobals mg) (c : He.SaysX fa fn [] tf exB w h K) (nd : (tf.map fun p => (He.cT K p).2).Nodup) (TB : ∀ p ∈ tf.map (He.cT K), GxR.TabB base mg p.1 p.2) : (WW K mg).mg "is_moment" = some (.ref (He.fAd (WW K mg).K ("is_moment", none))) := He.glo_ok KX G (c.t.d.fact 1 (f := .glo "is_moment"))
theorem ev_a_is_moment {w : World} {h base : Heap} {K : PySem.W.Frag} {mg : Str → Option Value} (KX : K.In h) (G : h.Ns mainGlobals mg) (c : He.SaysX fa fn [] tf exB w h K) (nd : (tf.map fun p => (He.cT K p).2).Nodup) (TB : ∀ p ∈ tf.map (He.cT K), GxR.TabB base mg p.1 p.2) : (WW K mg).fa J_is_moment = some (He.fAd (WW K mg).K ("is_moment", none)) := rfl
theorem ev_D_is_moment {w : World} {h base : Heap} {K : PySem.W.Frag} {mg : Str → Option Value} (KX : K.In h) (G : h.Ns mainGlobals mg) (c : He.SaysX fa fn [] tf exB w h K) (nd : (tf.map fun p => (He.cT K p).2).Nodup) (TB : ∀ p ∈ tf.map (He.cT K), GxR.TabB base mg p.1 p.2) : ∃ fd, FunD (WW K mg).K "is_moment" "is_moment" (defArgs (top 3)) (defBody (top 3)) (defScope (top 3)) [] [] (He.fAd (WW K mg).K ("is_moment", none)) fd := c.t.d.def_ 1 (d := D_is_moment)
theorem ev_g_is_stay {w : World} {h base : Heap} {K : PySem.W.Frag} {mg : Str → Option Value} (KX : K.In h) (G : h.Ns mainGlobals mg) (c : He.SaysX fa fn [] tf exB w h K) (nd : (tf.map fun p => (He.cT K p).2).Nodup) (TB : ∀ p ∈ tf.map (He.cT K), GxR.TabB base mg p.1 p.2) : (WW K mg).mg "is_stay" = some (.ref (He.fAd (WW K mg).K ("is_stay", none))) := He.glo_ok KX G (c.t.d.fact 3 (f := .glo "is_stay"))
theorem ev_a_is_stay {w : World} {h base : Heap} {K : PySem.W.Frag} {mg : Str → Option Value} (KX : K.In h) (G : h.Ns mainGlobals mg) (c : He.SaysX fa fn [] tf exB w h K) (nd : (tf.map fun p => (He.cT K p).2).Nodup) (TB : ∀ p ∈ tf.map (He.cT K), GxR.TabB base mg p.1 p.2) : (WW K mg).fa J_is_stay = some (He.fAd (WW K mg).K ("is_stay", none)) := rfl
theorem ev_D_is_stay {w : World} {h base : Heap} {K : PySem.W.Frag} {mg : Str → Option Value} (KX : K.In h) (G : h.Ns mainGlobals mg) (c : He.SaysX fa fn [] tf exB w h K) (nd : (tf.map fun p => (He.cT K p).2).Nodup) (TB : ∀ p ∈ tf.map (He.cT K), GxR.TabB base mg p.1 p.2) : ∃ fd, FunD (WW K mg).K "is_stay" "is_stay" (defArgs (top 7)) (defBody (top 7)) (defScope (top 7)) [] [] (He.fAd (WW K mg).K ("is_stay", none)) fd := c.t.d.def_ 3 (d := D_is_stay)
theorem ev_g_is_tuple_of {w : World} {h base : Heap} {K : PySem.W.Frag} {mg : Str → Option Value} (KX : K.In h) (G : h.Ns mainGlobals mg) (c : He.SaysX fa fn [] tf exB w h K) (nd : (tf.map fun p => (He.cT K p).2).Nodup) (TB : ∀ p ∈ tf.map (He.cT K), GxR.TabB base mg p.1 p.2) : (WW K mg).mg "is_tuple_of" = some (.ref (He.fAd (WW K mg).K ("is_tuple_of", none))) := He.glo_ok KX G (c.t.d.fact 2 (f := .glo "is_tuple_of"))
theorem ev_a_is_tuple_of {w : World} {h base : Heap} {K : PySem.W.Frag} {mg : Str → Option Value} (KX : K.In h) (G : h.Ns mainGlobals mg) (c : He.SaysX fa fn [] tf exB w h K) (nd : (tf.map fun p => (He.cT K p).2).Nodup) (TB : ∀ p ∈ tf.map (He.cT K), GxR.TabB base mg p.1 p.2) : (WW K mg).fa J_is_tuple_of = some (He.fAd (WW K mg).K ("is_tuple_of", none)) := rfl
theorem ev_D_is_tuple_of {w : World} {h base : Heap} {K : PySem.W.Frag} {mg : Str → Option Value} (KX : K.In h) (G : h.Ns mainGlobals mg) (c : He.SaysX fa fn [] tf exB w h K) (nd : (tf.map fun p => (He.cT K p).2).Nodup) (TB : ∀ p ∈ tf.map (He.cT K), GxR.TabB base mg p.1 p.2) : ∃ fd, FunD (WW K mg).K "is_tuple_of" "is_tuple_of" (defArgs (top 4)) (defBody (top 4)) (defScope (top 4)) [] [] (He.fAd (WW K mg).K ("is_tuple_of", none)) fd := c.t.d.def_ 2 (d := D_is_tuple_of)
theorem ev_g_is_stays {w : World} {h base : Heap} {K : PySem.W.Frag} {mg : Str → Option Value} (KX : K.In h) (G : h.Ns mainGlobals mg) (c : He.SaysX fa fn [] tf exB w h K) (nd : (tf.map fun p => (He.cT K p).2).Nodup) (TB : ∀ p ∈ tf.map (He.cT K), GxR.TabB base mg p.1 p.2) : (WW K mg).mg "is_stays" = some (.ref (He.fAd (WW K mg).K ("is_stays", none))) := He.glo_ok KX G (c.t.d.fact 4 (f := .glo "is_stays"))
theorem ev_a_is_stays {w : World} {h base : Heap} {K : PySem.W.Frag} {mg : Str → Option Value} (KX : K.In h) (G : h.Ns mainGlobals mg) (c : He.SaysX fa fn [] tf exB w h K) (nd : (tf.map fun p => (He.cT K p).2).Nodup) (TB : ∀ p ∈ tf.map (He.cT K), GxR.TabB base mg p.1 p.2) : (WW K mg).fa J_is_stays = some (He.fAd (WW K mg).K ("is_stays", none)) := rfl
theorem ev_D_is_stays {w : World} {h base : Heap} {K : PySem.W.Frag} {mg : Str → Option Value} (KX : K.In h) (G : h.Ns mainGlobals mg) (c : He.SaysX fa fn [] tf exB w h K) (nd : (tf.map fun p => (He.cT K p).2).Nodup) (TB : ∀ p ∈ tf.map (He.cT K), GxR.TabB base mg p.1 p.2) : ∃ fd, FunD (WW K mg).K "is_stays" "is_stays" (defArgs (top 8)) (defBody (top 8)) (defScope (top 8)) [] [] (He.fAd (WW K mg).K ("is_stays", none)) fd := c.t.d.def_ 4 (d := D_is_stays)
theorem ev_g_is_placing {w : World} {h base : Heap} {K : PySem.W.Frag} {mg : Str → Option Value} (KX : K.In h) (G : h.Ns mainGlobals mg) (c : He.SaysX fa fn [] tf exB w h K) (nd : (tf.map fun p => (He.cT K p).2).Nodup) (TB : ∀ p ∈ tf.map (He.cT K), GxR.TabB base mg p.1 p.2) : (WW K mg).mg "is_placing" = some (.ref (He.fAd (WW K mg).K ("is_placing", none))) := He.glo_ok KX G (c.t.d.fact 5 (f := .glo "is_placing"))
theorem ev_a_is_placing {w : World} {h base : Heap} {K : PySem.W.Frag} {mg : Str → Option Value} (KX : K.In h) (G : h.Ns mainGlobals mg) (c : He.SaysX fa fn [] tf exB w h K) (nd : (tf.map fun p => (He.cT K p).2).Nodup) (TB : ∀ p ∈ tf.map (He.cT K), GxR.TabB base mg p.1 p.2) : (WW K mg).fa J_is_placing = some (He.fAd (WW K mg).K ("is_placing", none)) := rfl
theorem ev_D_is_placing {w : World} {h base : Heap} {K : PySem.W.Frag} {mg : Str → Option Value} (KX : K.In h) (G : h.Ns mainGlobals mg) (c : He.SaysX fa fn [] tf exB w h K) (nd : (tf.map fun p => (He.cT K p).2).Nodup) (TB : ∀ p ∈ tf.map (He.cT K), GxR.TabB base mg p.1 p.2) : ∃ fd, FunD (WW K mg).K "is_placing" "is_placing" (defArgs (top 9)) (defBody (top 9)) (defScope (top 9)) [] [] (He.fAd (WW K mg).K ("is_placing", none)) fd := c.t.d.def_ 5 (d := D_is_placing)
theorem ev_g_meets {w : World} {h base : Heap} {K : PySem.W.Frag} {mg : Str → Option Value} (KX : K.In h) (G : h.Ns mainGlobals mg) (c : He.SaysX fa fn [] tf exB w h K) (nd : (tf.map fun p => (He.cT K p).2).Nodup) (TB : ∀ p ∈ tf.map (He.cT K), GxR.TabB base mg p.1 p.2) : (WW K mg).mg "meets" = some (.ref (He.fAd (WW K mg).K ("meets", none))) := He.glo_ok KX G (c.t.d.fact 7 (f := .glo "meets"))
theorem ev_a_meets {w : World} {h base : Heap} {K : PySem.W.Frag} {mg : Str → Option Value} (KX : K.In h) (G : h.Ns mainGlobals mg) (c : He.SaysX fa fn [] tf exB w h K) (nd : (tf.map fun p => (He.cT K p).2).Nodup) (TB : ∀ p ∈ tf.map (He.cT K), GxR.TabB base mg p.1 p.2) : (WW K mg).fa J_meets = some (He.fAd (WW K mg).K ("meets", none)) := rfl
theorem ev_D_meets {w : World} {h base : Heap} {K : PySem.W.Frag} {mg : Str → Option Value} (KX : K.In h) (G : h.Ns mainGlobals mg) (c : He.SaysX fa fn [] tf exB w h K) (nd : (tf.map fun p => (He.cT K p).2).Nodup) (TB : ∀ p ∈ tf.map (He.cT K), GxR.TabB base mg p.1 p.2) : ∃ fd, FunD (WW K mg).K "meets" "meets" (defArgs (top 11)) (defBody (top 11)) (defScope (top 11)) [] [] (He.fAd (WW K mg).K ("meets", none)) fd := c.t.d.def_ 7 (d := D_meets)
theorem ev_g_is_within {w : World} {h base : Heap} {K : PySem.W.Frag} {mg : Str → Option Value} (KX : K.In h) (G : h.Ns mainGlobals mg) (c : He.SaysX fa fn [] tf exB w h K) (nd : (tf.map fun p => (He.cT K p).2).Nodup) (TB : ∀ p ∈ tf.map (He.cT K), GxR.TabB base mg p.1 p.2) : (WW K mg).mg "is_within" = some (.ref (He.fAd (WW K mg).K ("is_within", none))) := He.glo_ok KX G (c.t.d.fact 8 (f := .glo "is_within"))
theorem ev_a_is_within {w : World} {h base : Heap} {K : PySem.W.Frag} {mg : Str → Option Value} (KX : K.In h) (G : h.Ns mainGlobals mg) (c : He.SaysX fa fn [] tf exB w h K) (nd : (tf.map fun p => (He.cT K p).2).Nodup) (TB : ∀ p ∈ tf.map (He.cT K), GxR.TabB base mg p.1 p.2) : (WW K mg).fa J_is_within = some (He.fAd (WW K mg).K ("is_within", none)) := rfl
theorem ev_D_is_within {w : World} {h base : Heap} {K : PySem.W.Frag} {mg : Str → Option Value} (KX : K.In h) (G : h.Ns mainGlobals mg) (c : He.SaysX fa fn [] tf exB w h K) (nd : (tf.map fun p => (He.cT K p).2).Nodup) (TB : ∀ p ∈ tf.map (He.cT K), GxR.TabB base mg p.1 p.2) : ∃ fd, FunD (WW K mg).K "is_within" "is_within" (defArgs (top 12)) (defBody (top 12)) (defScope (top 12)) [] [] (He.fAd (WW K mg).K ("is_within", none)) fd := c.t.d.def_ 8 (d := D_is_within)
theorem ev_g_crosses {w : World} {h base : Heap} {K : PySem.W.Frag} {mg : Str → Option Value} (KX : K.In h) (G : h.Ns mainGlobals mg) (c : He.SaysX fa fn [] tf exB w h K) (nd : (tf.map fun p => (He.cT K p).2).Nodup) (TB : ∀ p ∈ tf.map (He.cT K), GxR.TabB base mg p.1 p.2) : (WW K mg).mg "crosses" = some (.ref (He.fAd (WW K mg).K ("crosses", none))) := He.glo_ok KX G (c.t.d.fact 9 (f := .glo "crosses"))
theorem ev_a_crosses {w : World} {h base : Heap} {K : PySem.W.Frag} {mg : Str → Option Value} (KX : K.In h) (G : h.Ns mainGlobals mg) (c : He.SaysX fa fn [] tf exB w h K) (nd : (tf.map fun p => (He.cT K p).2).Nodup) (TB : ∀ p ∈ tf.map (He.cT K), GxR.TabB base mg p.1 p.2) : (WW K mg).fa J_crosses = some (He.fAd (WW K mg).K ("crosses", none)) := rfl
theorem ev_D_crosses {w : World} {h base : Heap} {K : PySem.W.Frag} {mg : Str → Option Value} (KX : K.In h) (G : h.Ns mainGlobals mg) (c : He.SaysX fa fn [] tf exB w h K) (nd : (tf.map fun p => (He.cT K p).2).Nodup) (TB : ∀ p ∈ tf.map (He.cT K), GxR.TabB base mg p.1 p.2) : ∃ fd, FunD (WW K mg).K "crosses" "crosses" (defArgs (top 13)) (defBody (top 13)) (defScope (top 13)) [] [] (He.fAd (WW K mg).K ("crosses", none)) fd := c.t.d.def_ 9 (d := D_crosses)
theorem ev_g_has_moment {w : World} {h base : Heap} {K : PySem.W.Frag} {mg : Str → Option Value} (KX : K.In h) (G : h.Ns mainGlobals mg) (c : He.SaysX fa fn [] tf exB w h K) (nd : (tf.map fun p => (He.cT K p).2).Nodup) (TB : ∀ p ∈ tf.map (He.cT K), GxR.TabB base mg p.1 p.2) : (WW K mg).mg "has_moment" = some (.ref (He.fAd (WW K mg).K ("has_moment", none))) := He.glo_ok KX G (c.t.d.fact 6 (f := .glo "has_moment"))
theorem ev_a_has_moment {w : World} {h base : Heap} {K : PySem.W.Frag} {mg : Str → Option Value} (KX : K.In h) (G : h.Ns mainGlobals mg) (c : He.SaysX fa fn [] tf exB w h K) (nd : (tf.map fun p => (He.cT K p).2).Nodup) (TB : ∀ p ∈ tf.map (He.cT K), GxR.TabB base mg p.1 p.2) : (WW K mg).fa J_has_moment = some (He.fAd (WW K mg).K ("has_moment", none)) := rfl
theorem ev_D_has_moment {w : World} {h base : Heap} {K : PySem.W.Frag} {mg : Str → Option Value} (KX : K.In h) (G : h.Ns mainGlobals mg) (c : He.SaysX fa fn [] tf exB w h K) (nd : (tf.map fun p => (He.cT K p).2).Nodup) (TB : ∀ p ∈ tf.map (He.cT K), GxR.TabB base mg p.1 p.2) : ∃ fd, FunD (WW K mg).K "has_moment" "has_moment" (defArgs (top 10)) (defBody (top 10)) (defScope (top 10)) [] [] (He.fAd (WW K mg).K ("has_moment", none)) fd := c.t.d.def_ 6 (d := D_has_moment)
theorem ev_g_present {w : World} {h base : Heap} {K : PySem.W.Frag} {mg : Str → Option Value} (KX : K.In h) (G : h.Ns mainGlobals mg) (c : He.SaysX fa fn [] tf exB w h K) (nd : (tf.map fun p => (He.cT K p).2).Nodup) (TB : ∀ p ∈ tf.map (He.cT K), GxR.TabB base mg p.1 p.2) : (WW K mg).mg "present" = some (.ref (He.fAd (WW K mg).K ("present", none))) := He.glo_ok KX G (c.t.d.fact 10 (f := .glo "present"))
theorem ev_a_present {w : World} {h base : Heap} {K : PySem.W.Frag} {mg : Str → Option Value} (KX : K.In h) (G : h.Ns mainGlobals mg) (c : He.SaysX fa fn [] tf exB w h K) (nd : (tf.map fun p => (He.cT K p).2).Nodup) (TB : ∀ p ∈ tf.map (He.cT K), GxR.TabB base mg p.1 p.2) : (WW K mg).fa J_present = some (He.fAd (WW K mg).K ("present", none)) := rfl
theorem ev_D_present {w : World} {h base : Heap} {K : PySem.W.Frag} {mg : Str → Option Value} (KX : K.In h) (G : h.Ns mainGlobals mg) (c : He.SaysX fa fn [] tf exB w h K) (nd : (tf.map fun p => (He.cT K p).2).Nodup) (TB : ∀ p ∈ tf.map (He.cT K), GxR.TabB base mg p.1 p.2) : ∃ fd, FunD (WW K mg).K "present" "present" (defArgs (top 14)) (defBody (top 14)) (defScope (top 14)) [] [] (He.fAd (WW K mg).K ("present", none)) fd := c.t.d.def_ 10 (d := D_present)
theorem ev_g_on_shelves {w : World} {h base : Heap} {K : PySem.W.Frag} {mg : Str → Option Value} (KX : K.In h) (G : h.Ns mainGlobals mg) (c : He.SaysX fa fn [] tf exB w h K) (nd : (tf.map fun p => (He.cT K p).2).Nodup) (TB : ∀ p ∈ tf.map (He.cT K), GxR.TabB base mg p.1 p.2) : (WW K mg).mg "on_shelves" = some (.ref (He.fAd (WW K mg).K ("on_shelves", none))) := He.glo_ok KX G (c.t.d.fact 15 (f := .glo "on_shelves"))
theorem ev_a_on_shelves {w : World} {h base : Heap} {K : PySem.W.Frag} {mg : Str → Option Value} (KX : K.In h) (G : h.Ns mainGlobals mg) (c : He.SaysX fa fn [] tf exB w h K) (nd : (tf.map fun p => (He.cT K p).2).Nodup) (TB : ∀ p ∈ tf.map (He.cT K), GxR.TabB base mg p.1 p.2) : (WW K mg).fa J_on_shelves = some (He.fAd (WW K mg).K ("on_shelves", none)) := rfl
theorem ev_D_on_shelves {w : World} {h base : Heap} {K : PySem.W.Frag} {mg : Str → Option Value} (KX : K.In h) (G : h.Ns mainGlobals mg) (c : He.SaysX fa fn [] tf exB w h K) (nd : (tf.map fun p => (He.cT K p).2).Nodup) (TB : ∀ p ∈ tf.map (He.cT K), GxR.TabB base mg p.1 p.2) : ∃ fd, FunD (WW K mg).K "on_shelves" "on_shelves" (defArgs (top 20)) (defBody (top 20)) (defScope (top 20)) [] [] (He.fAd (WW K mg).K ("on_shelves", none)) fd := c.t.d.def_ 15 (d := D_on_shelves)
theorem ev_g__law_box {w : World} {h base : Heap} {K : PySem.W.Frag} {mg : Str → Option Value} (KX : K.In h) (G : h.Ns mainGlobals mg) (c : He.SaysX fa fn [] tf exB w h K) (nd : (tf.map fun p => (He.cT K p).2).Nodup) (TB : ∀ p ∈ tf.map (He.cT K), GxR.TabB base mg p.1 p.2) : (WW K mg).mg "_law_box" = some (.ref (He.fAd (WW K mg).K ("_law_box", none))) := He.glo_ok KX G (c.t.d.fact 16 (f := .glo "_law_box"))
theorem ev_a__law_box {w : World} {h base : Heap} {K : PySem.W.Frag} {mg : Str → Option Value} (KX : K.In h) (G : h.Ns mainGlobals mg) (c : He.SaysX fa fn [] tf exB w h K) (nd : (tf.map fun p => (He.cT K p).2).Nodup) (TB : ∀ p ∈ tf.map (He.cT K), GxR.TabB base mg p.1 p.2) : (WW K mg).fa J__law_box = some (He.fAd (WW K mg).K ("_law_box", none)) := rfl
theorem ev_D__law_box {w : World} {h base : Heap} {K : PySem.W.Frag} {mg : Str → Option Value} (KX : K.In h) (G : h.Ns mainGlobals mg) (c : He.SaysX fa fn [] tf exB w h K) (nd : (tf.map fun p => (He.cT K p).2).Nodup) (TB : ∀ p ∈ tf.map (He.cT K), GxR.TabB base mg p.1 p.2) : ∃ fd, FunD (WW K mg).K "_law_box" "_law_box" (defArgs (top 22)) (defBody (top 22)) (defScope (top 22)) [] [] (He.fAd (WW K mg).K ("_law_box", none)) fd := c.t.d.def_ 16 (d := D__law_box)
theorem ev_g__law_load {w : World} {h base : Heap} {K : PySem.W.Frag} {mg : Str → Option Value} (KX : K.In h) (G : h.Ns mainGlobals mg) (c : He.SaysX fa fn [] tf exB w h K) (nd : (tf.map fun p => (He.cT K p).2).Nodup) (TB : ∀ p ∈ tf.map (He.cT K), GxR.TabB base mg p.1 p.2) : (WW K mg).mg "_law_load" = some (.ref (He.fAd (WW K mg).K ("_law_load", none))) := He.glo_ok KX G (c.t.d.fact 17 (f := .glo "_law_load"))
theorem ev_a__law_load {w : World} {h base : Heap} {K : PySem.W.Frag} {mg : Str → Option Value} (KX : K.In h) (G : h.Ns mainGlobals mg) (c : He.SaysX fa fn [] tf exB w h K) (nd : (tf.map fun p => (He.cT K p).2).Nodup) (TB : ∀ p ∈ tf.map (He.cT K), GxR.TabB base mg p.1 p.2) : (WW K mg).fa J__law_load = some (He.fAd (WW K mg).K ("_law_load", none)) := rfl
theorem ev_D__law_load {w : World} {h base : Heap} {K : PySem.W.Frag} {mg : Str → Option Value} (KX : K.In h) (G : h.Ns mainGlobals mg) (c : He.SaysX fa fn [] tf exB w h K) (nd : (tf.map fun p => (He.cT K p).2).Nodup) (TB : ∀ p ∈ tf.map (He.cT K), GxR.TabB base mg p.1 p.2) : ∃ fd, FunD (WW K mg).K "_law_load" "_law_load" (defArgs (top 23)) (defBody (top 23)) (defScope (top 23)) [] [] (He.fAd (WW K mg).K ("_law_load", none)) fd := c.t.d.def_ 17 (d := D__law_load)
theorem ev_g__law_draw {w : World} {h base : Heap} {K : PySem.W.Frag} {mg : Str → Option Value} (KX : K.In h) (G : h.Ns mainGlobals mg) (c : He.SaysX fa fn [] tf exB w h K) (nd : (tf.map fun p => (He.cT K p).2).Nodup) (TB : ∀ p ∈ tf.map (He.cT K), GxR.TabB base mg p.1 p.2) : (WW K mg).mg "_law_draw" = some (.ref (He.fAd (WW K mg).K ("_law_draw", none))) := He.glo_ok KX G (c.t.d.fact 18 (f := .glo "_law_draw"))
theorem ev_a__law_draw {w : World} {h base : Heap} {K : PySem.W.Frag} {mg : Str → Option Value} (KX : K.In h) (G : h.Ns mainGlobals mg) (c : He.SaysX fa fn [] tf exB w h K) (nd : (tf.map fun p => (He.cT K p).2).Nodup) (TB : ∀ p ∈ tf.map (He.cT K), GxR.TabB base mg p.1 p.2) : (WW K mg).fa J__law_draw = some (He.fAd (WW K mg).K ("_law_draw", none)) := rfl
theorem ev_D__law_draw {w : World} {h base : Heap} {K : PySem.W.Frag} {mg : Str → Option Value} (KX : K.In h) (G : h.Ns mainGlobals mg) (c : He.SaysX fa fn [] tf exB w h K) (nd : (tf.map fun p => (He.cT K p).2).Nodup) (TB : ∀ p ∈ tf.map (He.cT K), GxR.TabB base mg p.1 p.2) : ∃ fd, FunD (WW K mg).K "_law_draw" "_law_draw" (defArgs (top 24)) (defBody (top 24)) (defScope (top 24)) [] [] (He.fAd (WW K mg).K ("_law_draw", none)) fd := c.t.d.def_ 18 (d := D__law_draw)
theorem ev_g__law_same {w : World} {h base : Heap} {K : PySem.W.Frag} {mg : Str → Option Value} (KX : K.In h) (G : h.Ns mainGlobals mg) (c : He.SaysX fa fn [] tf exB w h K) (nd : (tf.map fun p => (He.cT K p).2).Nodup) (TB : ∀ p ∈ tf.map (He.cT K), GxR.TabB base mg p.1 p.2) : (WW K mg).mg "_law_same" = some (.ref (He.fAd (WW K mg).K ("_law_same", none))) := He.glo_ok KX G (c.t.d.fact 19 (f := .glo "_law_same"))
theorem ev_a__law_same {w : World} {h base : Heap} {K : PySem.W.Frag} {mg : Str → Option Value} (KX : K.In h) (G : h.Ns mainGlobals mg) (c : He.SaysX fa fn [] tf exB w h K) (nd : (tf.map fun p => (He.cT K p).2).Nodup) (TB : ∀ p ∈ tf.map (He.cT K), GxR.TabB base mg p.1 p.2) : (WW K mg).fa J__law_same = some (He.fAd (WW K mg).K ("_law_same", none)) := rfl
theorem ev_D__law_same {w : World} {h base : Heap} {K : PySem.W.Frag} {mg : Str → Option Value} (KX : K.In h) (G : h.Ns mainGlobals mg) (c : He.SaysX fa fn [] tf exB w h K) (nd : (tf.map fun p => (He.cT K p).2).Nodup) (TB : ∀ p ∈ tf.map (He.cT K), GxR.TabB base mg p.1 p.2) : ∃ fd, FunD (WW K mg).K "_law_same" "_law_same" (defArgs (top 25)) (defBody (top 25)) (defScope (top 25)) [] [] (He.fAd (WW K mg).K ("_law_same", none)) fd := c.t.d.def_ 19 (d := D__law_same)
theorem ev_g__law_stays {w : World} {h base : Heap} {K : PySem.W.Frag} {mg : Str → Option Value} (KX : K.In h) (G : h.Ns mainGlobals mg) (c : He.SaysX fa fn [] tf exB w h K) (nd : (tf.map fun p => (He.cT K p).2).Nodup) (TB : ∀ p ∈ tf.map (He.cT K), GxR.TabB base mg p.1 p.2) : (WW K mg).mg "_law_stays" = some (.ref (He.fAd (WW K mg).K ("_law_stays", none))) := He.glo_ok KX G (c.t.d.fact 20 (f := .glo "_law_stays"))
theorem ev_a__law_stays {w : World} {h base : Heap} {K : PySem.W.Frag} {mg : Str → Option Value} (KX : K.In h) (G : h.Ns mainGlobals mg) (c : He.SaysX fa fn [] tf exB w h K) (nd : (tf.map fun p => (He.cT K p).2).Nodup) (TB : ∀ p ∈ tf.map (He.cT K), GxR.TabB base mg p.1 p.2) : (WW K mg).fa J__law_stays = some (He.fAd (WW K mg).K ("_law_stays", none)) := rfl
theorem ev_D__law_stays {w : World} {h base : Heap} {K : PySem.W.Frag} {mg : Str → Option Value} (KX : K.In h) (G : h.Ns mainGlobals mg) (c : He.SaysX fa fn [] tf exB w h K) (nd : (tf.map fun p => (He.cT K p).2).Nodup) (TB : ∀ p ∈ tf.map (He.cT K), GxR.TabB base mg p.1 p.2) : ∃ fd, FunD (WW K mg).K "_law_stays" "_law_stays" (defArgs (top 26)) (defBody (top 26)) (defScope (top 26)) [] [] (He.fAd (WW K mg).K ("_law_stays", none)) fd := c.t.d.def_ 20 (d := D__law_stays)
theorem ev_g__law_present {w : World} {h base : Heap} {K : PySem.W.Frag} {mg : Str → Option Value} (KX : K.In h) (G : h.Ns mainGlobals mg) (c : He.SaysX fa fn [] tf exB w h K) (nd : (tf.map fun p => (He.cT K p).2).Nodup) (TB : ∀ p ∈ tf.map (He.cT K), GxR.TabB base mg p.1 p.2) : (WW K mg).mg "_law_present" = some (.ref (He.fAd (WW K mg).K ("_law_present", none))) := He.glo_ok KX G (c.t.d.fact 21 (f := .glo "_law_present"))
theorem ev_a__law_present {w : World} {h base : Heap} {K : PySem.W.Frag} {mg : Str → Option Value} (KX : K.In h) (G : h.Ns mainGlobals mg) (c : He.SaysX fa fn [] tf exB w h K) (nd : (tf.map fun p => (He.cT K p).2).Nodup) (TB : ∀ p ∈ tf.map (He.cT K), GxR.TabB base mg p.1 p.2) : (WW K mg).fa J__law_present = some (He.fAd (WW K mg).K ("_law_present", none)) := rfl
theorem ev_D__law_present {w : World} {h base : Heap} {K : PySem.W.Frag} {mg : Str → Option Value} (KX : K.In h) (G : h.Ns mainGlobals mg) (c : He.SaysX fa fn [] tf exB w h K) (nd : (tf.map fun p => (He.cT K p).2).Nodup) (TB : ∀ p ∈ tf.map (He.cT K), GxR.TabB base mg p.1 p.2) : ∃ fd, FunD (WW K mg).K "_law_present" "_law_present" (defArgs (top 27)) (defBody (top 27)) (defScope (top 27)) [] [] (He.fAd (WW K mg).K ("_law_present", none)) fd := c.t.d.def_ 21 (d := D__law_present)
theorem ev_g__law_meets {w : World} {h base : Heap} {K : PySem.W.Frag} {mg : Str → Option Value} (KX : K.In h) (G : h.Ns mainGlobals mg) (c : He.SaysX fa fn [] tf exB w h K) (nd : (tf.map fun p => (He.cT K p).2).Nodup) (TB : ∀ p ∈ tf.map (He.cT K), GxR.TabB base mg p.1 p.2) : (WW K mg).mg "_law_meets" = some (.ref (He.fAd (WW K mg).K ("_law_meets", none))) := He.glo_ok KX G (c.t.d.fact 22 (f := .glo "_law_meets"))
theorem ev_a__law_meets {w : World} {h base : Heap} {K : PySem.W.Frag} {mg : Str → Option Value} (KX : K.In h) (G : h.Ns mainGlobals mg) (c : He.SaysX fa fn [] tf exB w h K) (nd : (tf.map fun p => (He.cT K p).2).Nodup) (TB : ∀ p ∈ tf.map (He.cT K), GxR.TabB base mg p.1 p.2) : (WW K mg).fa J__law_meets = some (He.fAd (WW K mg).K ("_law_meets", none)) := rfl
theorem ev_D__law_meets {w : World} {h base : Heap} {K : PySem.W.Frag} {mg : Str → Option Value} (KX : K.In h) (G : h.Ns mainGlobals mg) (c : He.SaysX fa fn [] tf exB w h K) (nd : (tf.map fun p => (He.cT K p).2).Nodup) (TB : ∀ p ∈ tf.map (He.cT K), GxR.TabB base mg p.1 p.2) : ∃ fd, FunD (WW K mg).K "_law_meets" "_law_meets" (defArgs (top 28)) (defBody (top 28)) (defScope (top 28)) [] [] (He.fAd (WW K mg).K ("_law_meets", none)) fd := c.t.d.def_ 22 (d := D__law_meets)
theorem ev_g__law_within {w : World} {h base : Heap} {K : PySem.W.Frag} {mg : Str → Option Value} (KX : K.In h) (G : h.Ns mainGlobals mg) (c : He.SaysX fa fn [] tf exB w h K) (nd : (tf.map fun p => (He.cT K p).2).Nodup) (TB : ∀ p ∈ tf.map (He.cT K), GxR.TabB base mg p.1 p.2) : (WW K mg).mg "_law_within" = some (.ref (He.fAd (WW K mg).K ("_law_within", none))) := He.glo_ok KX G (c.t.d.fact 23 (f := .glo "_law_within"))
theorem ev_a__law_within {w : World} {h base : Heap} {K : PySem.W.Frag} {mg : Str → Option Value} (KX : K.In h) (G : h.Ns mainGlobals mg) (c : He.SaysX fa fn [] tf exB w h K) (nd : (tf.map fun p => (He.cT K p).2).Nodup) (TB : ∀ p ∈ tf.map (He.cT K), GxR.TabB base mg p.1 p.2) : (WW K mg).fa J__law_within = some (He.fAd (WW K mg).K ("_law_within", none)) := rfl
theorem ev_D__law_within {w : World} {h base : Heap} {K : PySem.W.Frag} {mg : Str → Option Value} (KX : K.In h) (G : h.Ns mainGlobals mg) (c : He.SaysX fa fn [] tf exB w h K) (nd : (tf.map fun p => (He.cT K p).2).Nodup) (TB : ∀ p ∈ tf.map (He.cT K), GxR.TabB base mg p.1 p.2) : ∃ fd, FunD (WW K mg).K "_law_within" "_law_within" (defArgs (top 29)) (defBody (top 29)) (defScope (top 29)) [] [] (He.fAd (WW K mg).K ("_law_within", none)) fd := c.t.d.def_ 23 (d := D__law_within)
theorem ev_g__law_crosses {w : World} {h base : Heap} {K : PySem.W.Frag} {mg : Str → Option Value} (KX : K.In h) (G : h.Ns mainGlobals mg) (c : He.SaysX fa fn [] tf exB w h K) (nd : (tf.map fun p => (He.cT K p).2).Nodup) (TB : ∀ p ∈ tf.map (He.cT K), GxR.TabB base mg p.1 p.2) : (WW K mg).mg "_law_crosses" = some (.ref (He.fAd (WW K mg).K ("_law_crosses", none))) := He.glo_ok KX G (c.t.d.fact 24 (f := .glo "_law_crosses"))
theorem ev_a__law_crosses {w : World} {h base : Heap} {K : PySem.W.Frag} {mg : Str → Option Value} (KX : K.In h) (G : h.Ns mainGlobals mg) (c : He.SaysX fa fn [] tf exB w h K) (nd : (tf.map fun p => (He.cT K p).2).Nodup) (TB : ∀ p ∈ tf.map (He.cT K), GxR.TabB base mg p.1 p.2) : (WW K mg).fa J__law_crosses = some (He.fAd (WW K mg).K ("_law_crosses", none)) := rfl
theorem ev_D__law_crosses {w : World} {h base : Heap} {K : PySem.W.Frag} {mg : Str → Option Value} (KX : K.In h) (G : h.Ns mainGlobals mg) (c : He.SaysX fa fn [] tf exB w h K) (nd : (tf.map fun p => (He.cT K p).2).Nodup) (TB : ∀ p ∈ tf.map (He.cT K), GxR.TabB base mg p.1 p.2) : ∃ fd, FunD (WW K mg).K "_law_crosses" "_law_crosses" (defArgs (top 30)) (defBody (top 30)) (defScope (top 30)) [] [] (He.fAd (WW K mg).K ("_law_crosses", none)) fd := c.t.d.def_ 24 (d := D__law_crosses)
theorem ev_g__law_bad_stays {w : World} {h base : Heap} {K : PySem.W.Frag} {mg : Str → Option Value} (KX : K.In h) (G : h.Ns mainGlobals mg) (c : He.SaysX fa fn [] tf exB w h K) (nd : (tf.map fun p => (He.cT K p).2).Nodup) (TB : ∀ p ∈ tf.map (He.cT K), GxR.TabB base mg p.1 p.2) : (WW K mg).mg "_law_bad_stays" = some (.ref (He.fAd (WW K mg).K ("_law_bad_stays", none))) := He.glo_ok KX G (c.t.d.fact 26 (f := .glo "_law_bad_stays"))
theorem ev_a__law_bad_stays {w : World} {h base : Heap} {K : PySem.W.Frag} {mg : Str → Option Value} (KX : K.In h) (G : h.Ns mainGlobals mg) (c : He.SaysX fa fn [] tf exB w h K) (nd : (tf.map fun p => (He.cT K p).2).Nodup) (TB : ∀ p ∈ tf.map (He.cT K), GxR.TabB base mg p.1 p.2) : (WW K mg).fa J__law_bad_stays = some (He.fAd (WW K mg).K ("_law_bad_stays", none)) := rfl
theorem ev_D__law_bad_stays {w : World} {h base : Heap} {K : PySem.W.Frag} {mg : Str → Option Value} (KX : K.In h) (G : h.Ns mainGlobals mg) (c : He.SaysX fa fn [] tf exB w h K) (nd : (tf.map fun p => (He.cT K p).2).Nodup) (TB : ∀ p ∈ tf.map (He.cT K), GxR.TabB base mg p.1 p.2) : ∃ fd, FunD (WW K mg).K "_law_bad_stays" "_law_bad_stays" (defArgs (top 32)) (defBody (top 32)) (defScope (top 32)) [] [] (He.fAd (WW K mg).K ("_law_bad_stays", none)) fd := c.t.d.def_ 26 (d := D__law_bad_stays)
theorem ev_g__law_good {w : World} {h base : Heap} {K : PySem.W.Frag} {mg : Str → Option Value} (KX : K.In h) (G : h.Ns mainGlobals mg) (c : He.SaysX fa fn [] tf exB w h K) (nd : (tf.map fun p => (He.cT K p).2).Nodup) (TB : ∀ p ∈ tf.map (He.cT K), GxR.TabB base mg p.1 p.2) : (WW K mg).mg "_law_good" = some (.ref (He.fAd (WW K mg).K ("_law_good", none))) := He.glo_ok KX G (c.t.d.fact 27 (f := .glo "_law_good"))
theorem ev_a__law_good {w : World} {h base : Heap} {K : PySem.W.Frag} {mg : Str → Option Value} (KX : K.In h) (G : h.Ns mainGlobals mg) (c : He.SaysX fa fn [] tf exB w h K) (nd : (tf.map fun p => (He.cT K p).2).Nodup) (TB : ∀ p ∈ tf.map (He.cT K), GxR.TabB base mg p.1 p.2) : (WW K mg).fa J__law_good = some (He.fAd (WW K mg).K ("_law_good", none)) := rfl
theorem ev_D__law_good {w : World} {h base : Heap} {K : PySem.W.Frag} {mg : Str → Option Value} (KX : K.In h) (G : h.Ns mainGlobals mg) (c : He.SaysX fa fn [] tf exB w h K) (nd : (tf.map fun p => (He.cT K p).2).Nodup) (TB : ∀ p ∈ tf.map (He.cT K), GxR.TabB base mg p.1 p.2) : ∃ fd, FunD (WW K mg).K "_law_good" "_law_good" (defArgs (top 33)) (defBody (top 33)) (defScope (top 33)) [] [] (He.fAd (WW K mg).K ("_law_good", none)) fd := c.t.d.def_ 27 (d := D__law_good)
theorem ev_g_never_together {w : World} {h base : Heap} {K : PySem.W.Frag} {mg : Str → Option Value} (KX : K.In h) (G : h.Ns mainGlobals mg) (c : He.SaysX fa fn [] tf exB w h K) (nd : (tf.map fun p => (He.cT K p).2).Nodup) (TB : ∀ p ∈ tf.map (He.cT K), GxR.TabB base mg p.1 p.2) : (WW K mg).mg "never_together" = some (.ref (He.fAd (WW K mg).K ("never_together", none))) := He.glo_ok KX G (c.t.d.fact 11 (f := .glo "never_together"))
theorem ev_a_never_together {w : World} {h base : Heap} {K : PySem.W.Frag} {mg : Str → Option Value} (KX : K.In h) (G : h.Ns mainGlobals mg) (c : He.SaysX fa fn [] tf exB w h K) (nd : (tf.map fun p => (He.cT K p).2).Nodup) (TB : ∀ p ∈ tf.map (He.cT K), GxR.TabB base mg p.1 p.2) : (WW K mg).fa J_never_together = some (He.fAd (WW K mg).K ("never_together", none)) := rfl
theorem ev_D_never_together {w : World} {h base : Heap} {K : PySem.W.Frag} {mg : Str → Option Value} (KX : K.In h) (G : h.Ns mainGlobals mg) (c : He.SaysX fa fn [] tf exB w h K) (nd : (tf.map fun p => (He.cT K p).2).Nodup) (TB : ∀ p ∈ tf.map (He.cT K), GxR.TabB base mg p.1 p.2) : ∃ fd, FunD (WW K mg).K "never_together" "never_together" (defArgs (top 15)) (defBody (top 15)) (defScope (top 15)) [] [] (He.fAd (WW K mg).K ("never_together", none)) fd := c.t.d.def_ 11 (d := D_never_together)
theorem ev_g_good_for_shelves {w : World} {h base : Heap} {K : PySem.W.Frag} {mg : Str → Option Value} (KX : K.In h) (G : h.Ns mainGlobals mg) (c : He.SaysX fa fn [] tf exB w h K) (nd : (tf.map fun p => (He.cT K p).2).Nodup) (TB : ∀ p ∈ tf.map (He.cT K), GxR.TabB base mg p.1 p.2) : (WW K mg).mg "good_for_shelves" = some (.ref (He.fAd (WW K mg).K ("good_for_shelves", none))) := He.glo_ok KX G (c.t.d.fact 12 (f := .glo "good_for_shelves"))
theorem ev_a_good_for_shelves {w : World} {h base : Heap} {K : PySem.W.Frag} {mg : Str → Option Value} (KX : K.In h) (G : h.Ns mainGlobals mg) (c : He.SaysX fa fn [] tf exB w h K) (nd : (tf.map fun p => (He.cT K p).2).Nodup) (TB : ∀ p ∈ tf.map (He.cT K), GxR.TabB base mg p.1 p.2) : (WW K mg).fa J_good_for_shelves = some (He.fAd (WW K mg).K ("good_for_shelves", none)) := rfl
theorem ev_D_good_for_shelves {w : World} {h base : Heap} {K : PySem.W.Frag} {mg : Str → Option Value} (KX : K.In h) (G : h.Ns mainGlobals mg) (c : He.SaysX fa fn [] tf exB w h K) (nd : (tf.map fun p => (He.cT K p).2).Nodup) (TB : ∀ p ∈ tf.map (He.cT K), GxR.TabB base mg p.1 p.2) : ∃ fd, FunD (WW K mg).K "good_for_shelves" "good_for_shelves" (defArgs (top 16)) (defBody (top 16)) (defScope (top 16)) [] [] (He.fAd (WW K mg).K ("good_for_shelves", none)) fd := c.t.d.def_ 12 (d := D_good_for_shelves)
theorem ev_g_good_for_chutes {w : World} {h base : Heap} {K : PySem.W.Frag} {mg : Str → Option Value} (KX : K.In h) (G : h.Ns mainGlobals mg) (c : He.SaysX fa fn [] tf exB w h K) (nd : (tf.map fun p => (He.cT K p).2).Nodup) (TB : ∀ p ∈ tf.map (He.cT K), GxR.TabB base mg p.1 p.2) : (WW K mg).mg "good_for_chutes" = some (.ref (He.fAd (WW K mg).K ("good_for_chutes", none))) := He.glo_ok KX G (c.t.d.fact 13 (f := .glo "good_for_chutes"))
theorem ev_a_good_for_chutes {w : World} {h base : Heap} {K : PySem.W.Frag} {mg : Str → Option Value} (KX : K.In h) (G : h.Ns mainGlobals mg) (c : He.SaysX fa fn [] tf exB w h K) (nd : (tf.map fun p => (He.cT K p).2).Nodup) (TB : ∀ p ∈ tf.map (He.cT K), GxR.TabB base mg p.1 p.2) : (WW K mg).fa J_good_for_chutes = some (He.fAd (WW K mg).K ("good_for_chutes", none)) := rfl
theorem ev_D_good_for_chutes {w : World} {h base : Heap} {K : PySem.W.Frag} {mg : Str → Option Value} (KX : K.In h) (G : h.Ns mainGlobals mg) (c : He.SaysX fa fn [] tf exB w h K) (nd : (tf.map fun p => (He.cT K p).2).Nodup) (TB : ∀ p ∈ tf.map (He.cT K), GxR.TabB base mg p.1 p.2) : ∃ fd, FunD (WW K mg).K "good_for_chutes" "good_for_chutes" (defArgs (top 17)) (defBody (top 17)) (defScope (top 17)) [] [] (He.fAd (WW K mg).K ("good_for_chutes", none)) fd := c.t.d.def_ 13 (d := D_good_for_chutes)
theorem ev_g_good_for_piles {w : World} {h base : Heap} {K : PySem.W.Frag} {mg : Str → Option Value} (KX : K.In h) (G : h.Ns mainGlobals mg) (c : He.SaysX fa fn [] tf exB w h K) (nd : (tf.map fun p => (He.cT K p).2).Nodup) (TB : ∀ p ∈ tf.map (He.cT K), GxR.TabB base mg p.1 p.2) : (WW K mg).mg "good_for_piles" = some (.ref (He.fAd (WW K mg).K ("good_for_piles", none))) := He.glo_ok KX G (c.t.d.fact 14 (f := .glo "good_for_piles"))
theorem ev_a_good_for_piles {w : World} {h base : Heap} {K : PySem.W.Frag} {mg : Str → Option Value} (KX : K.In h) (G : h.Ns mainGlobals mg) (c : He.SaysX fa fn [] tf exB w h K) (nd : (tf.map fun p => (He.cT K p).2).Nodup) (TB : ∀ p ∈ tf.map (He.cT K), GxR.TabB base mg p.1 p.2) : (WW K mg).fa J_good_for_piles = some (He.fAd (WW K mg).K ("good_for_piles", none)) := rfl
theorem ev_D_good_for_piles {w : World} {h base : Heap} {K : PySem.W.Frag} {mg : Str → Option Value} (KX : K.In h) (G : h.Ns mainGlobals mg) (c : He.SaysX fa fn [] tf exB w h K) (nd : (tf.map fun p => (He.cT K p).2).Nodup) (TB : ∀ p ∈ tf.map (He.cT K), GxR.TabB base mg p.1 p.2) : ∃ fd, FunD (WW K mg).K "good_for_piles" "good_for_piles" (defArgs (top 18)) (defBody (top 18)) (defScope (top 18)) [] [] (He.fAd (WW K mg).K ("good_for_piles", none)) fd := c.t.d.def_ 14 (d := D_good_for_piles)
theorem ev_g__law_word {w : World} {h base : Heap} {K : PySem.W.Frag} {mg : Str → Option Value} (KX : K.In h) (G : h.Ns mainGlobals mg) (c : He.SaysX fa fn [] tf exB w h K) (nd : (tf.map fun p => (He.cT K p).2).Nodup) (TB : ∀ p ∈ tf.map (He.cT K), GxR.TabB base mg p.1 p.2) : (WW K mg).mg "_law_word" = some (.ref (He.fAd (WW K mg).K ("_law_word", none))) := He.glo_ok KX G (c.t.d.fact 28 (f := .glo "_law_word"))
theorem ev_a__law_word {w : World} {h base : Heap} {K : PySem.W.Frag} {mg : Str → Option Value} (KX : K.In h) (G : h.Ns mainGlobals mg) (c : He.SaysX fa fn [] tf exB w h K) (nd : (tf.map fun p => (He.cT K p).2).Nodup) (TB : ∀ p ∈ tf.map (He.cT K), GxR.TabB base mg p.1 p.2) : (WW K mg).fa J__law_word = some (He.fAd (WW K mg).K ("_law_word", none)) := rfl
theorem ev_D__law_word {w : World} {h base : Heap} {K : PySem.W.Frag} {mg : Str → Option Value} (KX : K.In h) (G : h.Ns mainGlobals mg) (c : He.SaysX fa fn [] tf exB w h K) (nd : (tf.map fun p => (He.cT K p).2).Nodup) (TB : ∀ p ∈ tf.map (He.cT K), GxR.TabB base mg p.1 p.2) : ∃ fd, FunD (WW K mg).K "_law_word" "_law_word" (defArgs (top 34)) (defBody (top 34)) (defScope (top 34)) [] [] (He.fAd (WW K mg).K ("_law_word", none)) fd := c.t.d.def_ 28 (d := D__law_word)
theorem ev_g__law_words {w : World} {h base : Heap} {K : PySem.W.Frag} {mg : Str → Option Value} (KX : K.In h) (G : h.Ns mainGlobals mg) (c : He.SaysX fa fn [] tf exB w h K) (nd : (tf.map fun p => (He.cT K p).2).Nodup) (TB : ∀ p ∈ tf.map (He.cT K), GxR.TabB base mg p.1 p.2) : (WW K mg).mg "_law_words" = some (.ref (He.fAd (WW K mg).K ("_law_words", none))) := He.glo_ok KX G (c.t.d.fact 29 (f := .glo "_law_words"))
theorem ev_a__law_words {w : World} {h base : Heap} {K : PySem.W.Frag} {mg : Str → Option Value} (KX : K.In h) (G : h.Ns mainGlobals mg) (c : He.SaysX fa fn [] tf exB w h K) (nd : (tf.map fun p => (He.cT K p).2).Nodup) (TB : ∀ p ∈ tf.map (He.cT K), GxR.TabB base mg p.1 p.2) : (WW K mg).fa J__law_words = some (He.fAd (WW K mg).K ("_law_words", none)) := rfl
theorem ev_D__law_words {w : World} {h base : Heap} {K : PySem.W.Frag} {mg : Str → Option Value} (KX : K.In h) (G : h.Ns mainGlobals mg) (c : He.SaysX fa fn [] tf exB w h K) (nd : (tf.map fun p => (He.cT K p).2).Nodup) (TB : ∀ p ∈ tf.map (He.cT K), GxR.TabB base mg p.1 p.2) : ∃ fd, FunD (WW K mg).K "_law_words" "_law_words" (defArgs (top 35)) (defBody (top 35)) (defScope (top 35)) [] [] (He.fAd (WW K mg).K ("_law_words", none)) fd := c.t.d.def_ 29 (d := D__law_words)
theorem ev_g_law {w : World} {h base : Heap} {K : PySem.W.Frag} {mg : Str → Option Value} (KX : K.In h) (G : h.Ns mainGlobals mg) (c : He.SaysX fa fn [] tf exB w h K) (nd : (tf.map fun p => (He.cT K p).2).Nodup) (TB : ∀ p ∈ tf.map (He.cT K), GxR.TabB base mg p.1 p.2) : (WW K mg).mg "law" = some (.ref (He.fAd (WW K mg).K ("law", none))) := He.glo_ok KX G (c.t.d.fact 30 (f := .glo "law"))
theorem ev_a_law {w : World} {h base : Heap} {K : PySem.W.Frag} {mg : Str → Option Value} (KX : K.In h) (G : h.Ns mainGlobals mg) (c : He.SaysX fa fn [] tf exB w h K) (nd : (tf.map fun p => (He.cT K p).2).Nodup) (TB : ∀ p ∈ tf.map (He.cT K), GxR.TabB base mg p.1 p.2) : (WW K mg).fa J_law = some (He.fAd (WW K mg).K ("law", none)) := rfl
theorem ev_D_law {w : World} {h base : Heap} {K : PySem.W.Frag} {mg : Str → Option Value} (KX : K.In h) (G : h.Ns mainGlobals mg) (c : He.SaysX fa fn [] tf exB w h K) (nd : (tf.map fun p => (He.cT K p).2).Nodup) (TB : ∀ p ∈ tf.map (He.cT K), GxR.TabB base mg p.1 p.2) : ∃ fd, FunD (WW K mg).K "law" "law" (defArgs (top 36)) (defBody (top 36)) (defScope (top 36)) [] [] (He.fAd (WW K mg).K ("law", none)) fd := c.t.d.def_ 30 (d := D_law)
theorem ev_T_is_tuple_of {w : World} {h base : Heap} {K : PySem.W.Frag} {mg : Str → Option Value} (KX : K.In h) (G : h.Ns mainGlobals mg) (c : He.SaysX fa fn [] tf exB w h K) (nd : (tf.map fun p => (He.cT K p).2).Nodup) (TB : ∀ p ∈ tf.map (He.cT K), GxR.TabB base mg p.1 p.2) : GxR.TabB base (WW K mg).mg (He.cT (WW K mg).K ("is_tuple_of", none)).1 (He.cT (WW K mg).K ("is_tuple_of", none)).2 := TB _ (List.mem_map.mpr ⟨("is_tuple_of", none), (.head _), rfl⟩)
theorem ev_p_is_tuple_of {w : World} {h base : Heap} {K : PySem.W.Frag} {mg : Str → Option Value} (KX : K.In h) (G : h.Ns mainGlobals mg) (c : He.SaysX fa fn [] tf exB w h K) (nd : (tf.map fun p => (He.cT K p).2).Nodup) (TB : ∀ p ∈ tf.map (He.cT K), GxR.TabB base mg p.1 p.2) : (He.cT (WW K mg).K ("is_tuple_of", none)).2 ∈ (WW K mg).tb := (.head _)
theorem ev_q_is_tuple_of {w : World} {h base : Heap} {K : PySem.W.Frag} {mg : Str → Option Value} (KX : K.In h) (G : h.Ns mainGlobals mg) (c : He.SaysX fa fn [] tf exB w h K) (nd : (tf.map fun p => (He.cT K p).2).Nodup) (TB : ∀ p ∈ tf.map (He.cT K), GxR.TabB base mg p.1 p.2) : ∀ p ∈ (WW K mg).tl, p.1 ≠ (He.cT (WW K mg).K ("is_tuple_of", none)).2 := fun p h => (List.mem_cons.mp h).elim (fun e => e ▸ nd_ne nd (i := 2) (j := 0) rfl rfl (by decide)) fun h => nomatch h
theorem ev_T_is_placing {w : World} {h base : Heap} {K : PySem.W.Frag} {mg : Str → Option Value} (KX : K.In h) (G : h.Ns mainGlobals mg) (c : He.SaysX fa fn [] tf exB w h K) (nd : (tf.map fun p => (He.cT K p).2).Nodup) (TB : ∀ p ∈ tf.map (He.cT K), GxR.TabB base mg p.1 p.2) : GxR.TabB base (WW K mg).mg (He.cT (WW K mg).K ("is_placing", none)).1 (He.cT (WW K mg).K ("is_placing", none)).2 := TB _ (List.mem_map.mpr ⟨("is_placing", none), (.tail _ (.head _)), rfl⟩)
theorem ev_p_is_placing {w : World} {h base : Heap} {K : PySem.W.Frag} {mg : Str → Option Value} (KX : K.In h) (G : h.Ns mainGlobals mg) (c : He.SaysX fa fn [] tf exB w h K) (nd : (tf.map fun p => (He.cT K p).2).Nodup) (TB : ∀ p ∈ tf.map (He.cT K), GxR.TabB base mg p.1 p.2) : (He.cT (WW K mg).K ("is_placing", none)).2 ∈ (WW K mg).tb := (.tail _ (.head _))
theorem ev_q_is_placing {w : World} {h base : Heap} {K : PySem.W.Frag} {mg : Str → Option Value} (KX : K.In h) (G : h.Ns mainGlobals mg) (c : He.SaysX fa fn [] tf exB w h K) (nd : (tf.map fun p => (He.cT K p).2).Nodup) (TB : ∀ p ∈ tf.map (He.cT K), GxR.TabB base mg p.1 p.2) : ∀ p ∈ (WW K mg).tl, p.1 ≠ (He.cT (WW K mg).K ("is_placing", none)).2 := fun p h => (List.mem_cons.mp h).elim (fun e => e ▸ nd_ne nd (i := 2) (j := 1) rfl rfl (by decide)) fun h => nomatch h
theorem ev_T_on_shelves {w : World} {h base : Heap} {K : PySem.W.Frag} {mg : Str → Option Value} (KX : K.In h) (G : h.Ns mainGlobals mg) (c : He.SaysX fa fn [] tf exB w h K) (nd : (tf.map fun p => (He.cT K p).2).Nodup) (TB : ∀ p ∈ tf.map (He.cT K), GxR.TabB base mg p.1 p.2) : GxR.TabB base (WW K mg).mg (He.cT (WW K mg).K ("on_shelves", none)).1 (He.cT (WW K mg).K ("on_shelves", none)).2 := TB _ (List.mem_map.mpr ⟨("on_shelves", none), (.tail _ (.tail _ (.head _))), rfl⟩)
theorem ev_l_on_shelves {w : World} {h base : Heap} {K : PySem.W.Frag} {mg : Str → Option Value} (KX : K.In h) (G : h.Ns mainGlobals mg) (c : He.SaysX fa fn [] tf exB w h K) (nd : (tf.map fun p => (He.cT K p).2).Nodup) (TB : ∀ p ∈ tf.map (He.cT K), GxR.TabB base mg p.1 p.2) : ((He.cT (WW K mg).K ("on_shelves", none)).2, ("on_shelves" : Str) ++ ".<locals>." ++ "<lambda>") ∈ (WW K mg).tl := (.head _)
theorem ev_u_on_shelves {w : World} {h base : Heap} {K : PySem.W.Frag} {mg : Str → Option Value} (KX : K.In h) (G : h.Ns mainGlobals mg) (c : He.SaysX fa fn [] tf exB w h K) (nd : (tf.map fun p => (He.cT K p).2).Nodup) (TB : ∀ p ∈ tf.map (He.cT K), GxR.TabB base mg p.1 p.2) : ∀ p ∈ (WW K mg).tl, p.1 = (He.cT (WW K mg).K ("on_shelves", none)).2 → p.2 = ("on_shelves" : Str) ++ ".<locals>." ++ "<lambda>" := fun p h => (List.mem_cons.mp h).elim (fun e => fun _ => e ▸ rfl) fun h => nomatch h
theorem ev_ok {w : World} {h base : Heap} {K : PySem.W.Frag} {mg : Str → Option Value} (KX : K.In h) (G : h.Ns mainGlobals mg) (c : He.SaysX fa fn [] tf exB w h K) (nd : (tf.map fun p => (He.cT K p).2).Nodup) (TB : ∀ p ∈ tf.map (He.cT K), GxR.TabB base mg p.1 p.2) : Ev (WW K mg) base :=
  ⟨ev_cx KX G c nd TB, ev_b_all KX G c nd TB, ev_b_any KX G c nd TB, ev_b_bool KX G c nd TB, ev_b_int KX G c nd TB, ev_b_isinstance KX G c nd TB, ev_b_len KX G c nd TB, ev_b_list KX G c nd TB, ev_b_max KX G c nd TB, ev_b_min KX G c nd TB, ev_b_range KX G c nd TB, ev_b_sorted KX G c nd TB, ev_b_str KX G c nd TB, ev_b_tuple KX G c nd TB, ev_i_LAST_MOMENT KX G c nd TB, ev_i_MAX_STAYS KX G c nd TB, ev_g_is_number KX G c nd TB, ev_a_is_number KX G c nd TB, ev_D_is_number KX G c nd TB, ev_g_is_moment KX G c nd TB, ev_a_is_moment KX G c nd TB, ev_D_is_moment KX G c nd TB, ev_g_is_stay KX G c nd TB, ev_a_is_stay KX G c nd TB, ev_D_is_stay KX G c nd TB, ev_g_is_tuple_of KX G c nd TB, ev_a_is_tuple_of KX G c nd TB, ev_D_is_tuple_of KX G c nd TB, ev_g_is_stays KX G c nd TB, ev_a_is_stays KX G c nd TB, ev_D_is_stays KX G c nd TB, ev_g_is_placing KX G c nd TB, ev_a_is_placing KX G c nd TB, ev_D_is_placing KX G c nd TB, ev_g_meets KX G c nd TB, ev_a_meets KX G c nd TB, ev_D_meets KX G c nd TB, ev_g_is_within KX G c nd TB, ev_a_is_within KX G c nd TB, ev_D_is_within KX G c nd TB, ev_g_crosses KX G c nd TB, ev_a_crosses KX G c nd TB, ev_D_crosses KX G c nd TB, ev_g_has_moment KX G c nd TB, ev_a_has_moment KX G c nd TB, ev_D_has_moment KX G c nd TB, ev_g_present KX G c nd TB, ev_a_present KX G c nd TB, ev_D_present KX G c nd TB, ev_g_on_shelves KX G c nd TB, ev_a_on_shelves KX G c nd TB, ev_D_on_shelves KX G c nd TB, ev_g__law_box KX G c nd TB, ev_a__law_box KX G c nd TB, ev_D__law_box KX G c nd TB, ev_g__law_load KX G c nd TB, ev_a__law_load KX G c nd TB, ev_D__law_load KX G c nd TB, ev_g__law_draw KX G c nd TB, ev_a__law_draw KX G c nd TB, ev_D__law_draw KX G c nd TB, ev_g__law_same KX G c nd TB, ev_a__law_same KX G c nd TB, ev_D__law_same KX G c nd TB, ev_g__law_stays KX G c nd TB, ev_a__law_stays KX G c nd TB, ev_D__law_stays KX G c nd TB, ev_g__law_present KX G c nd TB, ev_a__law_present KX G c nd TB, ev_D__law_present KX G c nd TB, ev_g__law_meets KX G c nd TB, ev_a__law_meets KX G c nd TB, ev_D__law_meets KX G c nd TB, ev_g__law_within KX G c nd TB, ev_a__law_within KX G c nd TB, ev_D__law_within KX G c nd TB, ev_g__law_crosses KX G c nd TB, ev_a__law_crosses KX G c nd TB, ev_D__law_crosses KX G c nd TB, ev_g__law_bad_stays KX G c nd TB, ev_a__law_bad_stays KX G c nd TB, ev_D__law_bad_stays KX G c nd TB, ev_g__law_good KX G c nd TB, ev_a__law_good KX G c nd TB, ev_D__law_good KX G c nd TB, ev_g_never_together KX G c nd TB, ev_a_never_together KX G c nd TB, ev_D_never_together KX G c nd TB, ev_g_good_for_shelves KX G c nd TB, ev_a_good_for_shelves KX G c nd TB, ev_D_good_for_shelves KX G c nd TB, ev_g_good_for_chutes KX G c nd TB, ev_a_good_for_chutes KX G c nd TB, ev_D_good_for_chutes KX G c nd TB, ev_g_good_for_piles KX G c nd TB, ev_a_good_for_piles KX G c nd TB, ev_D_good_for_piles KX G c nd TB, ev_g__law_word KX G c nd TB, ev_a__law_word KX G c nd TB, ev_D__law_word KX G c nd TB, ev_g__law_words KX G c nd TB, ev_a__law_words KX G c nd TB, ev_D__law_words KX G c nd TB, ev_g_law KX G c nd TB, ev_a_law KX G c nd TB, ev_D_law KX G c nd TB, ev_T_is_tuple_of KX G c nd TB, ev_p_is_tuple_of KX G c nd TB, ev_q_is_tuple_of KX G c nd TB, ev_T_is_placing KX G c nd TB, ev_p_is_placing KX G c nd TB, ev_q_is_placing KX G c nd TB, ev_T_on_shelves KX G c nd TB, ev_l_on_shelves KX G c nd TB, ev_u_on_shelves KX G c nd TB⟩
theorem fn_law {P : Program} {w : World} {W : Wd} {base : Heap} {fd : FuncData} (V : Ev W base) (F : FunD W.K "law" "law" (defArgs (top 36)) (defBody (top 36)) (defScope (top 36)) [] [] (He.fAd W.K ("law", none)) fd) : FnOk P w W.K W.mg base W.cx 10 (He.fAd W.K ("law", none)) fd ["script"] (spF W 1 S_law) :=
  fnOk_of V.cx F sc_law (body_law V (ok__law_box V) (ok__law_draw V) (ok__law_stays V) (ok__law_same V) (ok_is_stays V) (ok__law_bad_stays V) (ok__law_crosses V) (ok__law_within V) (ok__law_meets V) (ok_crosses V) (ok_is_within V) (ok_meets V) (ok__law_present V) (ok_present V) (ok_is_placing V) (ok__law_words V) (ok_on_shelves V) (ok__law_good V))
end K48
open PySem PySem.W PySem.Calls PyProof.Rows
theorem K48.walk : WalkO (view (OpenLaw.row PySem.Challenge.rw_backtohand_k48_whole_stays_and_shelves).prog [36]) K48.names (XL (view (OpenLaw.row PySem.Challenge.rw_backtohand_k48_whole_stays_and_shelves).prog [36]) []) K48.hk.says (OpenLaw.row PySem.Challenge.rw_backtohand_k48_whole_stays_and_shelves).toRowW (HandSHeadRun.topDef (OpenLaw.row PySem.Challenge.rw_backtohand_k48_whole_stays_and_shelves).prog 36) [] fun f vs => PySem.call f vs := by
    refine LamX.walk_ofTsE (l := PySem.Challenge.rw_backtohand_k48_whole_stays_and_shelves) (n := 63) (k := 10) (x := "script") (CX := fun _ => L2.CX0) rfl (by decide) rfl ⟨rfl, by decide, by decide⟩ (fun w mg fa h Y G hm => ?_) fun w H s e s' z => z
    obtain ⟨K, KX, c⟩ := Y
    have nd : (K48.tf.map fun p => (He.cT K p).2).Nodup := of_decide_eq_true c.more
    have e1 : mg "law" = some (.ref (He.fAd K ("law", none))) := He.glo_ok KX G (c.t.d.fact 30 (f := .glo "law"))
    obtain rfl : fa = He.fAd K ("law", none) := by
      rw [show (HandSHeadRun.topDef (OpenLaw.row PySem.Challenge.rw_backtohand_k48_whole_stays_and_shelves).prog 36).name = "law" from rfl, e1] at hm
      injection hm with z
      injection z with z
      exact z.symm
    obtain ⟨fd, F⟩ := c.t.d.def_ 30 (d := K48.D_law)
    refine ⟨K, KX, PD.lawAtS_of (W := K48.WW K mg) (F := K48.S_law) (cs := K48.tf.map (He.cT K)) (fun p hp => ?_) (fun p hp => ?_) (fun p hp => ?_) F (fun _ _ _ _ _ _ us hl => match us, hl with | [_], _ => rfl) (fun P hP => ?_) (fun q hq => ?_) (by decide) (fun p ns st h1 h2 => K48.law_ok h1 h2) fun base _ hg TB => K48.fn_law (K48.ev_ok KX G c nd TB) F⟩
    · obtain ⟨x, hx, rfl⟩ := List.mem_map.mp hp
      exact c.empty x hx
    · obtain ⟨x, hx, rfl⟩ := List.mem_map.mp hp
      exact c.out x hx
    · obtain ⟨x, hx, rfl⟩ := List.mem_map.mp hp
      exact codeHd_of_K KX (c.hd x hx)
    · exact (List.mem_cons.mp hP).elim (fun e => ⟨_, List.mem_map.mpr ⟨("is_tuple_of", none), (.head _), rfl⟩, e.symm⟩) fun hP => (List.mem_cons.mp hP).elim (fun e => ⟨_, List.mem_map.mpr ⟨("is_placing", none), (.tail _ (.head _)), rfl⟩, e.symm⟩) fun hP => nomatch hP
    · exact (List.mem_cons.mp hq).elim (fun e => ⟨_, List.mem_map.mpr ⟨("on_shelves", none), (.tail _ (.tail _ (.head _))), rfl⟩, by rw [e]⟩) fun hq => nomatch hq
theorem PySem.Challenge.cw_backtohand_k48_whole_stays_and_shelves_holds : PySem.Challenge.rw_backtohand_k48_whole_stays_and_shelves.Holds := by
  w_on; o_law
  refine HandSHeadRun.head_any (r := OpenLaw.row PySem.Challenge.rw_backtohand_k48_whole_stays_and_shelves) (q := view (OpenLaw.row PySem.Challenge.rw_backtohand_k48_whole_stays_and_shelves).prog [36]) (H := K48.hk) (ob := K48.ob) (M := 4000) (loose := K48.names) (d := HandSHeadRun.topDef (OpenLaw.row PySem.Challenge.rw_backtohand_k48_whole_stays_and_shelves).prog 36) (kwd := []) K48.ob_eq
    (by kernel_rfl) (fun s => by kernel_rfl) K48.run (by kernel_rfl) (by kernel_rfl) (by kernel_rfl) (by rfl) (by first | assumption | decide +kernel) (by decide +kernel) ⟨rfl, rfl, rfl, rfl, rfl, by decide +kernel⟩ ?hw ?hc
  case hw => w_witness2
  case hc => exact K48.walk
